/- Part of a proof; nothing is assumed. -/
import Derived.Test.YtibbhhkcjjeclaaDoorConA
import Derived.Test.YtibbhhkcjjeclaaDoorWalk
set_option linter.unusedVariables false
set_option linter.unusedSimpArgs false
namespace Go.RL
open Go.Bv
set_option maxRecDepth 100000
structure Ke(G:AX)(H:Heap)(n:Nat)(H':Heap)(n':Nat):Prop where
 le:n<=n'
 el:∀v z LS,Lo v n->El G H v z LS->El G H' v z LS
section
variable{G:AX}{H H' H'':Heap}{n n' n'':Nat}{v:V}
theorem _root_.Go.Bv.Kp.ke(f:Kp H n H' n'):Ke G H n H' n':=⟨f.le,λ_ _ _ hl h=>h.kp hl f⟩
theorem Ke.low{m:Nat}(f:Ke G H n H' n')(hm:m<=n):Ke G H m H' m:=⟨Nat.le_refl _,λv z LS hl h=>f.el v z LS (hl.mono hm) h⟩
theorem _root_.Go.Bv.El.ke{z:Nat}{LS:ET}(h:El G H v z LS)(hl:Lo v n)(f:Ke G H n H' n'):El G H' v z LS:=f.el v z LS hl h
theorem KI.ke{xs:List Ty}(h:KI G H n v xs)(f:Ke G H n H' n'):KI G H' n' v xs:=⟨h.el.ke h.lo f,h.lo.mono f.le,h.lt,h.ok⟩
theorem TM.ke{xs:List ku}(h:TM G H n v xs)(f:Ke G H n H' n'):TM G H' n' v xs:=⟨h.el.ke h.lo f,h.lo.mono f.le,h.lt,h.ok⟩
theorem MC.ke{xs:List DK}{ws:List V}(h:MC G H n v xs ws)(f:Ke G H n H' n'):MC G H' n' v xs ws:=
 ⟨h.el.ke h.lo f,h.lo.mono f.le,h.lt,h.len,λi m w a b=>(h.at' i m w a b).ke f,h.ok⟩
theorem Xv.ke{L:LV}{c:Fc}{v w:V}{ws:List V}(h:Xv G H n L c v w ws)(f:Ke G H n H' n'):Xv G H' n' L c v w ws:=⟨h.is,h.fs.ke f,h.ms.ke f,h.ok⟩
theorem FD.ke{p:Pool}{v0 v1 v2 v3 v4:V}{ws:List V}(h:FD G H n p v0 v1 v2 v3 v4 ws)(f:Ke G H n H' n'):FD G H' n' p v0 v1 v2 v3 v4 ws:=
 ⟨h.e0.ke h.l0 f,h.l0.mono f.le,h.b0,h.e1.ke h.l1 f,h.l1.mono f.le,h.b1,h.o1,h.t2.ke f,h.e3.ke h.l3 f,h.l3.mono f.le,h.b3,h.o3,h.e4.ke h.l4 f,h.l4.mono f.le,h.b4,h.yF,
  λi m w a b=>(h.at4 i m w a b).ke f,h.o4⟩
theorem Oq.ke{is:List Ins}(h:Oq G H n v is)(f:Ke G H n H' n'):Oq G H' n' v is:=⟨h.el.ke h.lo f,h.lo.mono f.le,h.lt⟩
theorem KP.ke{bs:List Bd}{ws:List V}(h:KP G H n v bs ws)(f:Ke G H n H' n'):KP G H' n' v bs ws:=
 ⟨h.el.ke h.lo f,h.lo.mono f.le,h.lt,h.len,λi b w x y=>(h.at' i b w x y).ke f⟩
theorem dP.ke{L:LV}{f:Fl}{vf vm v0 v1 v2 v3 v4 vb:V}{mws ws bws:List V}(h:dP G H n L f vf vm v0 v1 v2 v3 v4 vb mws ws bws)(e:Ke G H n H' n'):dP G H' n' L f vf vm v0 v1 v2 v3 v4 vb mws ws bws:=
 ⟨h.is,h.face.ke e,h.pool.ke e,h.bodies.ke e⟩
def Vu(G:AX)(H:Heap)(n:Nat)(v:V)(c:Fc):Prop:=∃vf vm ws,Xv G H n [c.nm.v,c.sup.v,vf,vm] c vf vm ws/\v=.agg [c.nm.v,c.sup.v,vf,vm]
theorem Vu.ke{c:Fc}(h:Vu G H n v c)(f:Ke G H n H' n'):Vu G H' n' v c:=by
 obtain⟨vf,vm,ws,h,hv⟩:=h;exact⟨vf,vm,ws,h.ke f,hv⟩
def Vt(G:AX)(H:Heap)(n:Nat)(v:V)(f:Fl):Prop:=∃L vf vm v0 v1 v2 v3 v4 vb mws ws bws,dP G H n L f vf vm v0 v1 v2 v3 v4 vb mws ws bws/\v=.agg L
theorem Vt.ke{f:Fl}(h:Vt G H n v f)(e:Ke G H n H' n'):Vt G H' n' v f:=by
 obtain⟨L,vf,vm,v0,v1,v2,v3,v4,vb,mws,ws,bws,h,hv⟩:=h;exact⟨L,vf,vm,v0,v1,v2,v3,v4,vb,mws,ws,bws,h.ke e,hv⟩
def Hu(H:Heap)(b:Nat):Prop:=∃ps,lV H b ps
structure Kb(b:Nat)(H:Heap)(n:Nat)(H':Heap)(n':Nat):Prop where
 le:n<=n'
 same:∀id,id<n->id≠b->T.get H' id=T.get H id
 seen:Hu H b->Hu H' b
theorem Kb.refl(b:Nat)(H:Heap)(n:Nat):Kb b H n H n:=⟨Nat.le_refl _,λ_ _ _=>rfl,λh=>h⟩
theorem Kb.trans{b:Nat}(x:Kb b H n H' n')(y:Kb b H' n' H'' n''):Kb b H n H'' n'':=
 ⟨Nat.le_trans x.le y.le,λid h hb=>(y.same id (Nat.lt_of_lt_of_le h x.le) hb).trans (x.same id h hb),λh=>y.seen (x.seen h)⟩
theorem Kb.trans'{b m:Nat}(x:Kb b H n H' n')(y:∀id,id<n->T.get H'' id=T.get H' id)(hm:n'<=m)(hb:b<n):Kb b H n H'' m:=
 ⟨Nat.le_trans x.le hm,λid h hne=>(y id h).trans (x.same id h hne),λh=>by
  obtain⟨ps,es,ck,hg,he⟩:=x.seen h;exact⟨ps,es,ck,(y b hb).trans hg,he⟩⟩
theorem Kb.low{b m:Nat}(f:Kb b H n H' n')(hm:m<=n):Kb b H m H' m:=⟨Nat.le_refl _,λid h hb=>f.same id (Nat.lt_of_lt_of_le h hm) hb,f.seen⟩
theorem Kb.ARi{b m:Nat}(f:Kb b H n H' n')(hm:m<=n):Kb b H m H' n':=⟨Nat.le_trans hm f.le,λid h hb=>f.same id (Nat.lt_of_lt_of_le h hm) hb,f.seen⟩
theorem Hu.same{b:Nat}(h:Hu H b)(e:T.get H' b=T.get H b):Hu H' b:=by
 obtain⟨ps,es,ck,hg,he⟩:=h;exact⟨ps,es,ck,e.trans hg,he⟩
theorem _root_.Go.Bv.Kp.kb{b:Nat}(f:Kp H n H' n')(hb:b<n):Kb b H n H' n':=⟨f.le,λid h _=>f.same id h,λh=>h.same (f.same b hb)⟩
theorem Kb.get{b id:Nat}{B:P7}(f:Kb b H n H' n')(h:T.get H id=some B)(hi:id<n)(hb:id≠b):T.get H' id=some B:=(f.same id hi hb).trans h
theorem Hu.ld{b o z:Nat}(h:Hu H b):dV H b o z=none:=by
 obtain⟨ps,es,ck,hg,-⟩:=h;unfold dV;rw[hg];rfl
theorem Hu.elems{b z:Nat}(h:Hu H b){m o:Nat}{LS:ET}(he:CU H b z m o=some LS):m=0:=by
 cases m with
 |zero=>rfl
 |succ m=>
  have h':BR (dV H b (Nat.mul o z) z) (λL=>BR (CU H b z m (Nat.succ o)) λLS=>some (L::LS))=some LS:=he
  rw[h.ld]at h';cases h'
theorem Kb.ke{b:Nat}(f:Kb b H n H' n')(hs:Hu H b):Ke G H n H' n':=⟨f.le,λv z LS hl h=>by
 by_cases hv:v.Xt=some b
 ·obtain⟨h1,h2⟩:=h
  refine⟨h1,?_⟩
  cases v<;>try (cases hv;done)
  ·rename_i id off m c e
   have hid:id=b:=Option.some.inj hv
   subst hid
   have h2':(Bool.rec (motive:=λ_=>Option ET) none (CU H id z m off) (Nat.beq e z):Option ET)=some LS:=h2
   show(Bool.rec (motive:=λ_=>Option ET) none (CU H' id z m off) (Nat.beq e z):Option ET)=some LS
   cases hb:Nat.beq e z with
   |false=>rw[hb]at h2';cases h2'
   |true=>
    rw[hb]at h2'
    have h3:CU H id z m off=some LS:=h2'
    have:=hs.elems h3
    subst this;exact h3
  ·rename_i id off m e
   have hid:id=b:=Option.some.inj hv
   subst hid
   have h2':(Bool.rec (motive:=λ_=>Option ET) none (CU H id z m off) (Nat.beq e z):Option ET)=some LS:=h2
   show(Bool.rec (motive:=λ_=>Option ET) none (CU H' id z m off) (Nat.beq e z):Option ET)=some LS
   cases hb:Nat.beq e z with
   |false=>rw[hb]at h2';cases h2'
   |true=>
    rw[hb]at h2'
    have h3:CU H id z m off=some LS:=h2'
    have:=hs.elems h3
    subst this;exact h3
 ·exact h.same λid hid=>f.same id (hl id hid) (by intro e;subst e;exact hv hid)⟩
end
abbrev Tab:=List (St×Fc)
def keyed{α β:Type}(ps:List (St×α))(fs:List (St×β)):Prop:=ps.map (·.1)=fs.map (·.1)
theorem eP{α β:Type}:∀{ps:List (St×α)} {fs:List (St×β)} (_:keyed ps fs) (s:St),(Cj ps s).isSome=(Cj fs s).isSome
 |[],[],_,s=>rfl
 |p::ps,f::fs,h,s=>by
  simp only[keyed,List.map_cons,List.cons.injEq]at h
  have ih:=eP (ps:=ps) (fs:=fs) h.2 s
  by_cases hp:p.1=s
  ·have hf:f.1=s:=h.1▸hp
   simp[Cj,hp,hf]
  ·have hf:¬f.1=s:=h.1▸hp
   simp only[Cj,List.find?_cons,hp,hf,decide_false]at ih⊢
   exact ih
 |[],_::_,h,_=>by simp[keyed]at h
 |_::_,[],h,_=>by simp[keyed]at h
theorem yP{α β:Type}(s:St)(a:α)(b:β):∀{ps:List (St×α)} {fs:List (St×β)} (_:keyed ps fs),keyed (Vp s a ps) (Vp s b fs)
 |[],[],_=>rfl
 |p::ps,f::fs,h=>by
  simp only[keyed,List.map_cons,List.cons.injEq]at h
  unfold Vp
  by_cases hp:p.1=s
  ·have hf:f.1=s:=h.1▸hp
   rw[if_pos hp,if_pos hf];simp[keyed,h.2]
  ·have hf:¬f.1=s:=h.1▸hp
   rw[if_neg hp,if_neg hf]
   have:=yP s a b (ps:=ps) (fs:=fs) h.2
   simp only[keyed,List.map_cons,List.cons.injEq]at this⊢
   exact⟨h.1,this⟩
 |[],_::_,h=>by simp[keyed]at h
 |_::_,[],h=>by simp[keyed]at h
structure oV(G:AX)(H:Heap)(n:Nat)(a:Nat)(fs:Tab):Prop where
 is:∃ps,lV H a ps/\keyed ps fs/\∀s v c,Cj ps s=some v->Cj fs s=some c->Vu G H n v c
structure TabAt(G:AX)(H:Heap)(n t a b:Nat)(fs:Tab):Prop where
 tn:t<n
 an:a<n
 bn:b<n
 tb:t≠b
 ab:a≠b
 at':T.get H t=some (one [.map a,.map b])
 faces:oV G H n a fs
 seen:Hu H b
theorem iq{H H':Heap}{a:Nat}{ps:List (St×V)}(h:lV H a ps)(e:T.get H' a=T.get H a):lV H' a ps:=by
 obtain⟨es,ck,hg,he⟩:=h;exact⟨es,ck,e.trans hg,he⟩
theorem TabAt.kb{G:AX}{H H':Heap}{n n' t a b:Nat}{fs:Tab}(h:TabAt G H n t a b fs)(f:Kb b H n H' n'):TabAt G H' n' t a b fs:=by
 obtain⟨ps,h1,h2,h3⟩:=h.faces.is
 exact⟨Nat.lt_of_lt_of_le h.tn f.le,Nat.lt_of_lt_of_le h.an f.le,Nat.lt_of_lt_of_le h.bn f.le,h.tb,h.ab,f.get h.at' h.tn h.tb,
  ⟨ps,iq h1 (f.same a h.an h.ab),h2,λs v c x y=>(h3 s v c x y).ke (f.ke h.seen)⟩,f.seen h.seen⟩
theorem run_set{f:Nat}{args:List V}{G:AX}{H:Heap}{n m:Nat}{b:P7}{k:KV}(h:∀H',Kp H n H' (n+1)->T.get H' n=some b->Runs F G f args H' m k):Runs F G f args (T.set H n b) m k:=
 h _ ((Kp.refl H n).new _ (Nat.le_refl _) (by omega)) (T.Ai ..)
theorem AJO(i o:Nat):Cc (.one .ptr) false (.ptr i o) .OH=some (.bool false):=rfl
abbrev DI:Fc:=⟨(0,0),(0,0),[],[]⟩
theorem AE7{G:AX}{H:Heap}{z:Nat}:El G H .AZ z []:=⟨rfl,rfl⟩
theorem uZ{n:Nat}:Lo .AZ n:=λ_ h=>by cases h
theorem APa{G:AX}{H:Heap}{n:Nat}:Vu G H n (.agg [.str 0 0,.str 0 0,.AZ,.AZ]) DI:=
 ⟨.AZ,.AZ,[],⟨rfl,⟨AE7,uZ,by decide,λ_ h=>by cases h⟩,⟨AE7,uZ,by decide,rfl,λi m w h=>by simp at h,λ_ h=>by cases h⟩,λ_=>rfl,λ_=>rfl⟩,rfl⟩
theorem wu(L:LV):BA L []=some (.agg L):=rfl
theorem l9{G:AX}{H:Heap}{n n0 t a b:Nat}{fs:Tab}(h:TabAt G H n0 t a b fs)(hn:n0<=n){s:St}{k:KV}
 (hk:∀H' n' v,Kb b H n H' n'->Vu G H' n0 v ((Cj fs s).getD DI)->k (.Df [v,.bool (Cj fs s).isSome]) H' n'):Runs F G Ei [.ptr t 0,s.v] H n k:=by
 refine BL (s:=TY (L9 lfp G)) Us (by obtain⟨h,o⟩:=Zd BK G;rw[Us]at h;cases h;exact o) ?_
 show L9 lfp G (Runs F G) (.ptr t 0) s.v H n k
 delta L9
 have hbn:b<n:=Nat.lt_of_lt_of_le h.bn hn
 refine BU rfl λH1 f1 g1=>?_
 have h1:=h.kb ((f1.kb hbn).low hn)
 simp only[go_sem,AJO,Nat.reduceAdd,AU (off:=1) h1.at' (v:=.map b) rfl]
 obtain⟨ps,hps⟩:=h1.seen
 refine AFJ hps s _ λH2 hm2 hs2=>?_
 have f2:Kb b H1 (n+1) H2 (n+1):=⟨Nat.le_refl _,λid _ hb=>hs2 id hb,λ_=>⟨_,hm2⟩⟩
 have f3:=(f1.kb hbn).trans f2
 have h2:TabAt G H2 n0 t a b fs:=h.kb (f3.low hn)
 have g2:=f2.get g1 (by omega) (by omega)
 obtain⟨qs,hq,hkey,hv⟩:=h2.faces.is
 simp only[go_sem,Nat.reduceAdd,AU (off:=0) h2.at' (v:=.map a) rfl]
 rw[show s.v=.str s.1 s.2 from rfl,ACK hq]
 have hsome:=eP hkey s
 have fin:∃v,AQP (.agg [.str 0 0,.str 0 0,.AZ,.AZ]) (Cj qs s)=.Df [v,.bool (Cj fs s).isSome]/\Vu G H2 n0 v ((Cj fs s).getD DI):=by
  cases hl:Cj qs s with
  |none=>
   rw[hl]at hsome
   cases hx:Cj fs s with
   |none=>exact⟨_,rfl,APa⟩
   |some x=>rw[hx]at hsome;cases hsome
  |some v=>
   rw[hl]at hsome
   cases hx:Cj fs s with
   |none=>rw[hx]at hsome;cases hsome
   |some x=>exact⟨v,rfl,hv _ _ _ hl hx⟩
 obtain⟨v,e,hf⟩:=fin
 obtain⟨vf,vm,ws,hf,rfl⟩:=hf
 rw[e]
 simp only[go_sem,Nat.reduceAdd]
 rw[Gq (m:=4) ((T.Ac _ _ (by omega)).trans ((T.Ac _ _ (by omega)).trans g2)) (by omega) rfl rfl,Eh (m:=4) (T.Ai ..) (by omega) rfl]
 simp only[go_sem]
 have e:Kp H2 n (T.set (T.set (T.set H2 (n+1) (one [.str 0 0,.str 0 0,.AZ,.AZ])) (n+1) (one [((Cj fs s).getD DI).nm.v,((Cj fs s).getD DI).sup.v,vf,vm])) n (one [((Cj fs s).getD DI).nm.v,((Cj fs s).getD DI).sup.v,vf,vm])) (n+1+1):=
  ((((Kp.refl H2 n).new (m:=n+1+1) _ (by omega) (by omega)).set _ (by omega)).set _ (Nat.le_refl _))
 have f7:Kb b H n H2 n:=⟨Nat.le_refl _,f3.same,f3.seen⟩
 exact hk _ _ _ (f7.trans (e.kb hbn)) ⟨vf,vm,ws,hf.ke ((e.ke).low hn),rfl⟩
def IJ:Nat->Tab->List St->St->List St×Bool
 |0,_,out,_=>(out,false)
 |m+1,fs,out,s=>bif decide (s.1=0/\s.2=0)then(out,true)else
  match Cj fs s with
  |none=>(out,false)
  |some c=>bif jK s out then(out,false)else IJ m fs (out++[s]) c.sup
def above(fs:Tab)(s:St):List St×Bool:=IJ (fs.length+1) fs [] s
theorem OU{s:St}{xs:List St}:jK s xs=true↔s∈xs:=by
 unfold jK
 rw[List.any_eq_true]
 constructor
 ·rintro⟨x,hx,h⟩
  have:=of_decide_eq_true h
  have e:s=x:=Prod.ext this.1 this.2
  exact e▸hx
 ·intro h;exact⟨s,h,by simp⟩
theorem AO3{α:Type}{ps:List (St×α)}{s:St}{v:α}(h:Cj ps s=some v):s∈ps.map (·.1):=by
 unfold Cj at h
 cases hf:ps.find? λp=>decide (p.1=s)with
 |none=>rw[hf]at h;cases h
 |some p=>
  have h1:=List.mem_of_find?_eq_some hf
  have h2:=List.find?_some hf
  exact List.mem_map.2 ⟨p,h1,of_decide_eq_true h2⟩
theorem AHM:∀{xs ys:List St} (_:xs.Nodup) (_:∀x∈xs,x∈ys),xs.length<=ys.length
 |[],_,_,_=>Nat.zero_le _
 |x::xs,ys,hn,h=>by
  rw[List.nodup_cons]at hn
  have hx:=h x (List.mem_cons_self ..)
  have:=AHM (xs:=xs) (ys:=ys.erase x) hn.2 λz hz=>by
   have hz':=h z (List.mem_cons_of_mem _ hz)
   have hne:z≠x:=by intro e;subst e;exact hn.1 hz
   exact(List.mem_erase_of_ne hne).2 hz'
  rw[List.length_erase_of_mem hx]at this
  have hpos:0<ys.length:=List.length_pos_of_mem hx
  simp only[List.length_cons];omega
structure Own(G:AX)(H:Heap)(m n:Nat)(z:Nat)(v:V)(LS:ET):Prop where
 gr:Gr G H m z v LS
 lo:Lo v n
theorem Own.el{G:AX}{H:Heap}{m n z:Nat}{v:V}{LS:ET}(h:Own G H m n z v LS)(hz:0<z):El G H v z LS:=h.gr.el hz
theorem Own.kb{G:AX}{H H':Heap}{m n n' b z:Nat}{v:V}{LS:ET}(h:Own G H m n z v LS)(f:Kb b H n H' n')(hb:b<m):Own G H' m n' z v LS:=
 ⟨h.gr.mono λid hid=>f.same id (h.lo id hid) (by have:=(h.gr.lo hid).1;omega),h.lo.mono f.le⟩
theorem Own.kp{G:AX}{H H':Heap}{m n n' z:Nat}{v:V}{LS:ET}(h:Own G H m n z v LS)(f:Kp H n H' n'):Own G H' m n' z v LS:=
 ⟨h.gr.mono λid hid=>f.same id (h.lo id hid),h.lo.mono f.le⟩
theorem AOj{Z w:V}{H:Heap}{n:Nat}{P:KV}(hw:YR w=true)(hv:Aq w=[w]):
 Bg (Az 1 1 [Z] [(0,.c w)] E0) H n P=P (.sl n 0 1 1 1) (T.set H n (.arr 1 1 (T.set (T.set .e 0 [Z]) 0 [w]))) (n+1):=by
 show NI (band (band (YR w) (band true (Nat.beq (len (Aq w)) 1))) true) (DU n λn=>P (.sl n 0 1 1 1) (T.set H n (.arr 1 1 (T.set (T.set .e 0 [Z]) 0 (Aq w)))) (Nat.succ n))=_
 rw[hw,hv,BO];rfl
theorem AL8{G:AX}{Z w:V}{H:Heap}{n:Nat}{P:KV}(hw:YR w=true)(hv:Aq w=[w])(h:∀H',Kp H n H' (n+1)->elems (.sl n 0 1 1 1) G H' 1=some [[w]]->P (.sl n 0 1 1 1) H' (n+1)):
 Bg (Az 1 1 [Z] [(0,.c w)] E0) H n P:=by
 rw[AOj hw hv]
 exact h _ ((Kp.refl H n).new _ (Nat.le_refl _) (by omega)) (jS (z:=1) (by omega) rfl (T.Ai ..)).2
theorem AOZ(s:St):GK s.v s.v=true:=by
 show band (Nat.beq s.1 s.1) (Nat.beq s.2 s.2)=true
 simp
theorem bZ{G:AX}{H:Heap}{n t a b:Nat}{fs:Tab}(h:TabAt G H n t a b fs)(hfs:fs.length<=1000){s:St}{k:KV}
 (hk:∀H' n' v,Kb b H n H' n'->Own G H' n n' 1 v (strs (above fs s).1)->(above fs s).1.length<=1001->k (.Df [v,.bool (above fs s).2]) H' n'):Runs F G Di [.ptr t 0,s.v] H n k:=by
 refine BL (s:=TY (KQ lfp G)) TG (by obtain⟨h,o⟩:=YZ BK G;rw[TG]at h;cases h;exact o) ?_
 show KQ lfp G (Runs F G) (.ptr t 0) s.v H n k
 delta KQ
 have hbn:=h.bn
 refine JJ (J:=λm st=>∃out s v H2 n2,m+out.length=fs.length+1/\st=(.ptr t 0,St.v s,v,H2,n2)/\Kb b H n H2 n2/\Own G H2 n n2 1 v (strs out)/\out.Nodup/\(∀x∈out,x∈fs.map (·.1))/\
  (∀H' n' v,Kb b H n H' n'->Own G H' n n' 1 v (strs (IJ m fs out s).1)->(IJ m fs out s).1.length<=1001->k (.Df [v,.bool (IJ m fs out s).2]) H' n')) ?_ (m:=fs.length+1)
  ⟨[],s,.AZ,H,n,rfl,rfl,Kb.refl _ _ _,⟨.nil,uZ⟩,List.nodup_nil,λ_ h=>absurd h List.not_mem_nil,hk⟩
 rintro I m st ⟨out,s,v,H2,n2,hm,rfl,f,ho,hnd,hsub,hk⟩ ih
 show Qa lfp G (Runs F G) k I (.ptr t 0) s.v v H2 n2
 delta Qa
 have hle:=AHM hnd hsub
 rw[List.length_map]at hle
 obtain⟨m,rfl⟩:∃m',m=m'+1:=⟨m-1,by omega⟩
 unfold IJ at hk
 simp only[go_sem,St.v,APm]
 cases h0:decide (s.1=0/\s.2=0)with
 |true=>
  rw[h0]at hk
  simp only[Bool.not_true,go_sem]
  delta QT
  exact hk _ _ _ f ho (by show out.length<=1001;omega)
 |false=>
  rw[h0]at hk
  simp only[Bool.not_false,go_sem]
  refine l9 (s:=s) (h.kb f) (Nat.le_refl _) λH3 n3 w f3 hw=>?_
  have f4:=f.trans f3
  have ho3:=ho.kb f3 hbn
  obtain⟨vf,vm,ws,hw,rfl⟩:=hw
  simp only[go_sem,Nat.reduceAdd,Bl]
  rw[T.set_set]
  cases hl:Cj fs s with
  |none=>
   rw[hl]at hk
   simp only[Option.isSome_none,Bool.not_false,go_sem]
   have f5:Kp H3 n3 (T.set H3 n3 (one [((none:Option Fc).getD DI).nm.v,((none:Option Fc).getD DI).sup.v,vf,vm])) (n3+1):=(Kp.refl _ _).new _ (Nat.le_refl _) (by omega)
   exact hk _ _ _ (f4.trans (f5.kb (by have:=f4.le;omega))) (ho3.kp f5) (by show out.length<=1001;omega)
  |some c=>
   rw[hl]at hk
   simp only[Option.isSome_some,Bool.not_true,go_sem,Option.getD_some]
   have hn3:=f4.le
   refine run_set λH4 f5 g5=>?_
   have f6:=f4.trans (f5.kb (b:=b) (by omega))
   have ho4:=ho3.kp f5
   refine uG (s:=s) (xs:=out) (ho4.el (by omega)) (by omega) ?_
   cases h1:jK s out with
   |true=>
    simp only[h1,cond_true]at hk
    simp only[go_sem]
    exact hk _ _ _ f6 ho4 (by show out.length<=1001;omega)
   |false=>
    simp only[h1,cond_false]at hk
    have hin:¬s∈out:=λh=>by rw[OU.2 h]at h1;cases h1
    simp only[go_sem]
    refine AL8 (G:=G) rfl rfl λH5 f7 g7=>?_
    have e1:AV (.ptr n3 1) G H5=some c.sup.v:=AU (f7.get g5 (by omega)) rfl
    rw[e1,AB]
    have ho5:=ho4.kp f7
    refine ho5.gr.app (by omega) ho5.lo g7 ?_ ?_ ?_
    ·rw[Gf];simp;omega
    ·intro v' H6 hg hs hlo
     have f8:Kb b H n H6 (n3+1+1+1):=(f6.trans (f7.kb (by omega))).trans' (λid hid=>hs id (by omega) (λhv=>by have:=(ho5.gr.lo hv).1;omega)) (by omega) hbn
     have e2:AV (.ptr n3 1) G H6=some c.sup.v:=AU ((hs n3 (by omega) (λhv=>by have:=ho.lo _ hv;have:=f3.le;omega)).trans (f7.get g5 (by omega))) rfl
     simp only[go_sem,e2,AOZ]
     refine ih _ _ (Nat.lt_succ_self m) ⟨out++[s],c.sup,v',H6,_,by simp;omega,rfl,f8,⟨?_,hlo⟩,?_,?_,hk⟩
     ·rw[strs,List.map_append];exact hg
     ·rw[List.nodup_append];refine⟨hnd,by simp,?_⟩;intro x hx y hy;simp at hy;subst hy;intro e;subst e;exact hin hx
     ·intro x hx
      rcases List.mem_append.1 hx with hx|hx
      ·exact hsub x hx
      ·simp at hx;subst hx;exact AO3 hl
    ·intro h;cases h
abbrev tyZ:Ty:=⟨(0,0),false⟩
abbrev YB:DK:=⟨(0,0),false,[],tyZ⟩
def cO(s:St):List ku->Option Ty
 |[]=>none
 |f::fs=>bif decide (f.nm.1=s.1/\f.nm.2=s.2)then some f.ty else cO s fs
def RH(s:St):List DK->Option DK
 |[]=>none
 |m::ms=>bif decide (m.nm.1=s.1/\m.nm.2=s.2)then some m else RH s ms
def pX(G:AX)(H:Heap)(n:Nat)(v:V)(m:DK):Prop:=∃w,v=.agg (m.cells w)/\KI G H n w m.ps
theorem pX.ke{G:AX}{H H':Heap}{n n':Nat}{v:V}{m:DK}(h:pX G H n v m)(f:Ke G H n H' n'):pX G H' n' v m:=by
 obtain⟨w,e,h⟩:=h;exact⟨w,e,h.ke f⟩
theorem AMA{G:AX}{H:Heap}{n:Nat}:pX G H n (.agg (YB.cells .AZ)) YB:=⟨.AZ,rfl,AE7,uZ,by decide,λ_ h=>by cases h⟩
theorem AGa{G:AX}{H:Heap}{n:Nat}{v:V}{c:Fc}(h:Vu G H n v c){s:St}{k:KV}
 (hk:∀H' n',Kp H n H' n'->k (.Df [((cO s c.fs).getD tyZ).v,.bool (cO s c.fs).isSome]) H' n'):Runs F G aj [v,s.v] H n k:=by
 refine BL (s:=TY (Lu lfp G)) Uo (by obtain⟨h,o⟩:=Yx BK G;rw[Uo]at h;cases h;exact o) ?_
 show Lu lfp G (Runs F G) v s.v H n k
 obtain⟨vf,vm,ws,h,rfl⟩:=h
 delta Lu
 refine Ez λH1 f1 g1=>?_
 refine BU rfl λH2 f2 g2=>?_
 simp only[go_sem,Nat.reduceAdd,AU (off:=2) (f2.get g1 (by omega)) (v:=vf) rfl,h.fs.len]
 have hbig:=h.fs.lt
 refine BN (N:=c.fs.length) (J:=λi st=>∃H' n',st=(s.v,.ptr (n+1) 0,vf,.int .i64 (.ofNat c.fs.length) 0,.int .i64 (.ofNat i) 0,H',n')/\Kp H n H' n'/\n+1<n'/\T.get H' (n+1)=some (one [.str 0 0,.bool false])/\
  (∀H' n',Kp H n H' n'->k (.Df [((cO s (c.fs.drop i)).getD tyZ).v,.bool (cO s (c.fs.drop i)).isSome]) H' n')) ?_ ?_ ⟨H2,_,rfl,f1.trans f2,Nat.lt_succ_self _,g2,hk⟩
 ·rintro I i st hlt ⟨H3,n3,rfl,f3,hn3,g3,hk⟩ ih
  show JL lfp G (Runs F G) k I s.v (.ptr (n+1) 0) vf (.int .i64 (.ofNat c.fs.length) 0) (.int .i64 (.ofNat i) 0) H3 n3
  delta JL
  obtain⟨q,hp,hld⟩:=(h.fs.kp f3).at hlt
  rw[List.drop_eq_getElem_cons hlt]at hk
  unfold cO at hk
  generalize c.fs[i]=m at hld hk
  unfold ku.cells at hld
  simp only[go_sem,Bh,hlt,decide_true,hp,Bq hld,Nat.reduceAdd,show Cc (.one .str) false m.nm.v s.v=_ from AB4 ..]
  rw[T.set_set]
  have f4:=f3.new (m:=n3+1) (id:=n3) (one [m.nm.v,m.ty.nm.v,.bool m.ty.arr]) f3.le (by omega)
  cases h1:decide (m.nm.1=s.1/\m.nm.2=s.2)with
  |true=>
   simp only[h1,cond_true]at hk
   simp only[go_sem,Nat.reduceAdd]
   rw[G7 (m:=2) (off:=1) (T.Ai ..) (by omega) (by show 3<=3;omega),AB]
   show BZ 2 (.ptr (n+1) 0) (.agg [m.ty.nm.v,.bool m.ty.arr]) _ _ _
   rw[Gq (m:=2) ((T.Ac _ _ (by omega)).trans g3) (by omega) rfl rfl,Eh (m:=2) (T.Ai ..) (by omega) rfl]
   simp only[go_sem]
   exact hk _ _ (f4.set _ (by omega))
  |false=>
   simp only[h1,cond_false]at hk
   simp only[go_sem,DJ (show i+1<9223372036854775808 by unfold big at hbig;omega)]
   exact ih _ ⟨_,_,rfl,f4,by omega,(T.Ac _ _ (by omega)).trans g3,hk⟩
 ·rintro I st ⟨H3,n3,rfl,f3,hn3,g3,hk⟩
  show JL lfp G (Runs F G) k I s.v (.ptr (n+1) 0) vf (.int .i64 (.ofNat c.fs.length) 0) (.int .i64 (.ofNat c.fs.length) 0) H3 n3
  delta JL
  rw[List.drop_eq_nil_of_le (Nat.le_refl _)]at hk
  simp only[go_sem,Bh,Nat.lt_irrefl,decide_false]
  delta RZ
  simp only[wu,AB]
  rw[Gq (m:=2) g3 (by omega) rfl rfl,Eh (m:=2) (T.Ai ..) (by omega) rfl]
  simp only[go_sem]
  exact hk _ _ (f3.set _ (by omega))
theorem uz{G:AX}{H:Heap}{n n0:Nat}{v:V}{c:Fc}(h:Vu G H n0 v c)(hn:n0<=n){s:St}{k:KV}
 (hk:∀H' n' w,Kp H n H' n'->pX G H' n0 w ((RH s c.ms).getD YB)->k (.Df [w,.bool (RH s c.ms).isSome]) H' n'):Runs F G Uf [v,s.v] H n k:=by
 refine BL (s:=TY (Kt lfp G)) TK (by obtain⟨h,o⟩:=YW BK G;rw[TK]at h;cases h;exact o) ?_
 show Kt lfp G (Runs F G) v s.v H n k
 obtain⟨vf,vm,ws,h,rfl⟩:=h
 delta Kt
 refine Ez λH1 f1 g1=>?_
 refine BU rfl λH2 f2 g2=>?_
 simp only[go_sem,Nat.reduceAdd,AU (off:=3) (f2.get g1 (by omega)) (v:=vm) rfl,h.ms.len']
 have hbig:=h.ms.lt
 refine BN (N:=c.ms.length) (J:=λi st=>∃H' n',st=(s.v,.ptr (n+1) 0,vm,.int .i64 (.ofNat c.ms.length) 0,.int .i64 (.ofNat i) 0,H',n')/\Kp H n H' n'/\n+1<n'/\T.get H' (n+1)=some (one (YB.cells .AZ))/\
  (∀H' n' w,Kp H n H' n'->pX G H' n0 w ((RH s (c.ms.drop i)).getD YB)->k (.Df [w,.bool (RH s (c.ms.drop i)).isSome]) H' n')) ?_ ?_ ⟨H2,_,rfl,f1.trans f2,Nat.lt_succ_self _,g2,hk⟩
 ·rintro I i st hlt ⟨H3,n3,rfl,f3,hn3,g3,hk⟩ ih
  show Ie lfp G (Runs F G) k I s.v (.ptr (n+1) 0) vm (.int .i64 (.ofNat c.ms.length) 0) (.int .i64 (.ofNat i) 0) H3 n3
  delta Ie
  obtain⟨q,w,hp,hld,hw⟩:=(h.ms.ke ((f3.ke).low hn)).at hlt
  rw[List.drop_eq_getElem_cons hlt]at hk
  unfold RH at hk
  generalize c.ms[i]=m at hld hk hw
  unfold DK.cells at hld
  simp only[go_sem,Bh,hlt,decide_true,hp,Bq hld,Nat.reduceAdd,show Cc (.one .str) false m.nm.v s.v=_ from AB4 ..]
  rw[T.set_set]
  have f4:=f3.new (m:=n3+1) (id:=n3) (one [m.nm.v,.bool m.st,w,m.ret.nm.v,.bool m.ret.arr]) f3.le (by omega)
  cases h1:decide (m.nm.1=s.1/\m.nm.2=s.2)with
  |true=>
   simp only[h1,cond_true]at hk
   simp only[go_sem,Nat.reduceAdd]
   rw[Gq (m:=5) ((T.Ac _ _ (by omega)).trans g3) (by omega) rfl rfl,Eh (m:=5) (T.Ai ..) (by omega) rfl]
   simp only[go_sem]
   have f5:=f4.set (one [m.nm.v,.bool m.st,w,m.ret.nm.v,.bool m.ret.arr]) (id:=n+1) (by omega)
   refine hk _ _ _ f5 ⟨w,rfl,hw.ke ?_⟩
   refine(Kp.ke (n:=n0) (n':=n3+1) ⟨by omega,λid hid=>?_⟩).low (Nat.le_refl _)
   rw[T.Ac _ _ (by omega),T.Ac _ _ (by omega)]
  |false=>
   simp only[h1,cond_false]at hk
   simp only[go_sem,DJ (show i+1<9223372036854775808 by unfold big at hbig;omega)]
   exact ih _ ⟨_,_,rfl,f4,by omega,(T.Ac _ _ (by omega)).trans g3,hk⟩
 ·rintro I st ⟨H3,n3,rfl,f3,hn3,g3,hk⟩
  show Ie lfp G (Runs F G) k I s.v (.ptr (n+1) 0) vm (.int .i64 (.ofNat c.ms.length) 0) (.int .i64 (.ofNat c.ms.length) 0) H3 n3
  delta Ie
  rw[List.drop_eq_nil_of_le (Nat.le_refl _)]at hk
  simp only[go_sem,Bh,Nat.lt_irrefl,decide_false]
  delta QM
  simp only[wu,AB]
  rw[Gq (m:=5) g3 (by omega) rfl rfl,Eh (m:=5) (T.Ai ..) (by omega) rfl]
  simp only[go_sem]
  exact hk _ _ _ (f3.set _ (by omega)) AMA
def DK.same(a b:DK):Bool:=decide (a.nm.1=b.nm.1/\a.nm.2=b.nm.2)&&((a.st==b.st)&&(a.ret.is b.ret&&gY a.ps b.ps))
theorem AUL(a b:Bool):Cc (.one .bool) false (.bool a) (.bool b)=some (.bool (a==b)):=by cases a<;>cases b<;>rfl
theorem yE{G:AX}{H:Heap}{n:Nat}{v w:V}{a b:DK}(h:pX G H n v a)(h2:pX G H n w b){k:KV}
 (hk:∀H' n',Kp H n H' n'->k (.bool (a.same b)) H' n'):Runs F G UQ [v,w] H n k:=by
 refine BL (s:=TY (Py lfp G)) WT (by obtain⟨h,o⟩:=gV BK G;rw[WT]at h;cases h;exact o) ?_
 show Py lfp G (Runs F G) v w H n k
 obtain⟨x,rfl,h⟩:=h
 obtain⟨y,rfl,h2⟩:=h2
 delta Py
 unfold DK.same at hk
 refine Ez λH1 f1 g1=>?_
 refine Ez λH2 f2 g2=>?_
 have g1:=f2.get g1 (by omega)
 have f3:=f1.trans f2
 unfold DK.cells at g1 g2
 simp only[go_sem,Nat.reduceAdd,AU (off:=0) g1 rfl,AU (off:=0) g2 rfl,show Cc (.one .str) false a.nm.v b.nm.v=_ from AB4 ..]
 cases e1:decide (a.nm.1=b.nm.1/\a.nm.2=b.nm.2)with
 |false=>rw[e1]at hk;simp only[go_sem];exact hk _ _ f3
 |true=>
  rw[e1]at hk
  simp only[go_sem,Nat.reduceAdd,AU (off:=1) g1 rfl,AU (off:=1) g2 rfl,AUL]
  cases e2:a.st==b.st with
  |false=>rw[e2]at hk;simp only[go_sem];exact hk _ _ f3
  |true=>
   rw[e2]at hk
   have l1:Ae 2 (.ptr n 3) G H2=some a.ret.v:=G7 g1 (by omega) (by show 5<=5;omega)
   have l2:Ae 2 (.ptr (n+1) 3) G H2=some b.ret.v:=G7 g2 (by omega) (by show 5<=5;omega)
   have e:Cc (.agg [.str,.bool]) false a.ret.v b.ret.v=_:=nD a.ret b.ret
   simp only[go_sem,Nat.reduceAdd,l1,l2,e]
   cases e3:a.ret.is b.ret with
   |false=>rw[e3]at hk;simp only[go_sem];exact hk _ _ f3
   |true=>
    rw[e3]at hk
    simp only[go_sem,Nat.reduceAdd,AU (off:=2) g1 (v:=x) rfl,AU (off:=2) g2 (v:=y) rfl]
    refine AMv (h.el.kp h.lo f3) (h2.el.kp h2.lo f3) h.lt ?_
    exact hk _ _ f3
def TJ(fs:Tab)(t:Ty):Bool:=UH t.nm&&(!upper t.nm.1 t.nm.2||(Cj fs t.nm).isSome)
theorem iP{G:AX}{H:Heap}{n t a b:Nat}{fs:Tab}(h:TabAt G H n t a b fs){v:V}{xs:List Ty}(hx:KI G H n v xs){k:KV}
 (hk:∀H' n',Kb b H n H' n'->k (.bool (xs.all (TJ fs))) H' n'):Runs F G KZ [.ptr t 0,v] H n k:=by
 refine BL (s:=TY (KY lfp G)) TS (by obtain⟨h,o⟩:=YN BK G;rw[TS]at h;cases h;exact o) ?_
 show KY lfp G (Runs F G) (.ptr t 0) v H n k
 delta KY
 have hbn:=h.bn
 have hbig:=hx.lt
 rw[hx.len,AB]
 refine BN (N:=xs.length) (J:=λi st=>∃H' n',st=(.ptr t 0,v,.int .i64 (.ofNat xs.length) 0,.int .i64 (.ofNat i) 0,H',n')/\Kb b H n H' n'/\
  (∀H' n',Kb b H n H' n'->k (.bool ((xs.drop i).all (TJ fs))) H' n')) ?_ ?_ ⟨H,n,rfl,Kb.refl _ _ _,hk⟩
 ·rintro I i st hlt ⟨H3,n3,rfl,f3,hk⟩ ih
  show Ib lfp G (Runs F G) k I (.ptr t 0) v (.int .i64 (.ofNat xs.length) 0) (.int .i64 (.ofNat i) 0) H3 n3
  delta Ib
  have h3:=h.kb f3
  have hx3:=hx.ke (f3.ke h.seen)
  obtain⟨q,hp,hld⟩:=hx3.el.at (UW hlt)
  have hok:=hx.ok _ (List.getElem_mem hlt)
  rw[List.drop_eq_getElem_cons hlt,List.all_cons]at hk
  generalize xs[i]=m at hok hld hk
  unfold Ty.cells at hld
  unfold TJ at hk
  have h3n:=f3.le
  simp only[go_sem,Bh,hlt,decide_true,hp,Bq hld,Nat.reduceAdd]
  rw[T.set_set]
  refine run_set λH4 f4 g4=>?_
  have f5:=f3.trans (f4.kb (b:=b) (by omega))
  refine xP hok λH6 n6 f6=>?_
  have f7:=f5.trans (f6.kb (b:=b) (by omega))
  have g6:=f6.get g4 (by omega)
  have h6n:=f6.le
  simp only[Bl,go_sem]
  cases h1:UH m.nm with
  |false=>
   rw[show wQ m.nm.1 m.nm.2=false from h1]
   simp only[h1,Bool.false_and]at hk
   simp only[Bool.not_false,go_sem]
   exact hk _ _ f7
  |true=>
   rw[show wQ m.nm.1 m.nm.2=true from h1]
   simp only[h1,Bool.true_and]at hk
   simp only[Bool.not_true,go_sem,Nat.reduceAdd,AU (off:=0) g6 (v:=m.nm.v) rfl]
   refine wF λH8 n8 f8=>?_
   refine pG hok λH9 n9 f9=>?_
   have f10:=f7.trans ((f8.trans f9).kb (b:=b) (by omega))
   have g9:=(f8.trans f9).get g6 (by omega)
   have h9n:=(f8.trans f9).le
   rw[show isClass m.nm.1 m.nm.2 false=upper m.nm.1 m.nm.2 by simp[isClass]]
   have go:∀H' n',Kb b H n H' n'->(∀H' n',Kb b H n H' n'->k (.bool ((xs.drop (i+1)).all (TJ fs))) H' n')->Ip lfp G (Runs F G) k I (.ptr t 0) v (.int .i64 (.ofNat xs.length) 0) (.int .i64 (.ofNat i) 0) H' n':=by
    intro H' n' f hk
    delta Ip
    simp only[go_sem,DJ (show i+1<9223372036854775808 by unfold big at hbig;omega)]
    exact ih _ ⟨_,_,rfl,f,hk⟩
   cases h2:upper m.nm.1 m.nm.2 with
   |false=>
    simp only[h2,Bool.not_false,Bool.true_or,Bool.true_and]at hk
    simp only[go_sem]
    exact go _ _ f10 hk
   |true=>
    simp only[h2,Bool.not_true,Bool.false_or]at hk
    simp only[go_sem,Nat.reduceAdd,AU (off:=0) g9 (v:=m.nm.v) rfl]
    refine l9 (s:=m.nm) (h.kb f10) (Nat.le_refl _) λH11 n11 w f11 hw=>?_
    obtain⟨vf,vm,ws,hw,rfl⟩:=hw
    have f12:=f10.trans f11
    have h12n:=f12.le
    simp only[go_sem,Nat.reduceAdd,Bl]
    rw[T.set_set]
    have f13:Kp H11 n11 (T.set H11 n11 (one [((Cj fs m.nm).getD DI).nm.v,((Cj fs m.nm).getD DI).sup.v,vf,vm])) (n11+1):=(Kp.refl _ _).new _ (Nat.le_refl _) (by omega)
    have f14:=f12.trans (f13.kb (b:=b) (by omega))
    cases h3:(Cj fs m.nm).isSome with
    |false=>
     simp only[h3,Bool.false_and]at hk
     simp only[Bool.not_false,go_sem]
     exact hk _ _ f14
    |true=>
     simp only[h3,Bool.true_and]at hk
     simp only[Bool.not_true,go_sem]
     exact go _ _ f14 hk
 ·rintro I st ⟨H3,n3,rfl,f3,hk⟩
  show Ib lfp G (Runs F G) k I (.ptr t 0) v (.int .i64 (.ofNat xs.length) 0) (.int .i64 (.ofNat xs.length) 0) H3 n3
  delta Ib
  rw[List.drop_eq_nil_of_le (Nat.le_refl _)]at hk
  simp only[go_sem,Bh,Nat.lt_irrefl,decide_false]
  delta QL
  exact hk _ _ f3
def ji(fs:Tab)(s:St):List St->Option (St×Ty)
 |[]=>none
 |c::cs=>match cO s ((Cj fs c).getD DI).fs with
  |some t=>some (c,t)
  |none=>ji fs s cs
def V6(fs:Tab)(c s:St):Option (St×Ty):=ji fs s (above fs c).1
theorem AI8{G:AX}{H:Heap}{n t a b:Nat}{fs:Tab}(h:TabAt G H n t a b fs)(hfs:fs.length<=1000){c s:St}{k:KV}
 (hk:∀H' n',Kb b H n H' n'->k (.Df [((V6 fs c s).getD ((0,0),tyZ)).1.v,((V6 fs c s).getD ((0,0),tyZ)).2.v,.bool (V6 fs c s).isSome]) H' n'):Runs F G Ui [.ptr t 0,c.v,s.v] H n k:=by
 refine BL (s:=ar3 (Kv lfp G)) TP (by obtain⟨h,o⟩:=YU BK G;rw[TP]at h;cases h;exact o) ?_
 show Kv lfp G (Runs F G) (.ptr t 0) c.v s.v H n k
 delta Kv
 have hbn:=h.bn
 unfold V6 at hk
 refine BU rfl λH1 f1 g1=>?_
 have f1:=f1.kb (b:=b) hbn
 refine bZ (h.kb f1) hfs λH2 n2 v f2 ho hlen=>?_
 generalize(above fs c).1=cs at ho hk hlen
 have f3:=f1.trans f2
 have g2:=f2.get g1 (by omega) (by omega)
 have h2n:=f2.le
 simp only[go_sem,(ho.el (by omega)).len,Gf]
 refine BN (N:=cs.length) (J:=λi st=>∃H' n',st=(.ptr t 0,s.v,.ptr n 0,v,.int .i64 (.ofNat cs.length) 0,.int .i64 (.ofNat i) 0,H',n')/\Kb b H n H' n'/\n<n'/\Own G H' (n+1) n' 1 v (strs cs)/\T.get H' n=some (one [.str 0 0,.bool false])/\
  (∀H' n',Kb b H n H' n'->k (.Df [((ji fs s (cs.drop i)).getD ((0,0),tyZ)).1.v,((ji fs s (cs.drop i)).getD ((0,0),tyZ)).2.v,.bool (ji fs s (cs.drop i)).isSome]) H' n')) ?_ ?_ ⟨H2,n2,rfl,f3,by omega,ho,g2,hk⟩
 ·rintro I i st hlt ⟨H3,n3,rfl,f3,hn3,ho,g3,hk⟩ ih
  show IZ lfp G (Runs F G) k I (.ptr t 0) s.v (.ptr n 0) v (.int .i64 (.ofNat cs.length) 0) (.int .i64 (.ofNat i) 0) H3 n3
  delta IZ
  obtain⟨q,hp,hld⟩:=(ho.el (by omega)).at (O4 hlt)
  rw[List.drop_eq_getElem_cons hlt]at hk
  unfold ji at hk
  generalize cs[i]=m at hld hk
  simp only[go_sem,Bh,hlt,decide_true,hp,Lh hld]
  refine l9 (s:=m) (h.kb f3) (Nat.le_refl _) λH4 n4 w f4 hw=>?_
  obtain⟨vf,vm,ws,hw,rfl⟩:=hw
  have f5:=f3.trans f4
  have h5n:=f4.le
  simp only[go_sem,Nat.reduceAdd]
  rw[T.set_set]
  refine run_set λH6 f6 g6=>?_
  have f6':=f6.kb (b:=b) (by omega)
  have f7:=f5.trans f6'
  refine AGa (s:=s) (n:=n4+1) (v:=.agg [((Cj fs m).getD DI).nm.v,((Cj fs m).getD DI).sup.v,vf,vm]) (c:=(Cj fs m).getD DI) ⟨vf,vm,ws,hw.ke ⟨by omega,λv z LS hl he=>(f6.ke).el v z LS (hl.mono f4.le) he⟩,rfl⟩ λH8 n8 f8=>?_
  have f8':=f8.kb (b:=b) (by omega)
  have f9:=f7.trans f8'
  have h9n:=f8.le
  have f10:=f4.trans (f6'.trans f8')
  have ho:=ho.kb f10 (by omega)
  have g10:=f10.get g3 hn3 (by omega)
  unfold Ty.v Ty.cells
  simp only[go_sem,Nat.reduceAdd]
  rw[T.set_set]
  cases h1:cO s ((Cj fs m).getD DI).fs with
  |some ty=>
   rw[h1]at hk
   simp only[Option.isSome_some,go_sem,Option.getD_some]
   rw[Gq (m:=2) ((T.Ac _ _ (by omega)).trans g10) (by omega) rfl rfl]
   rw[Eh (m:=2) (T.Ai ..) (by omega) rfl]
   simp only[go_sem]
   refine hk _ _ (f9.trans' (m:=n8+1) (λid hid=>?_) (by omega) hbn)
   rw[T.Ac _ _ (by omega),T.Ac _ _ (by omega)]
  |none=>
   rw[h1]at hk
   simp only[Option.isSome_none,go_sem,Option.getD_none]
   simp only[go_sem,DJ (show i+1<9223372036854775808 by omega)]
   refine ih _ ⟨_,_,rfl,f9.trans' (m:=n8+1) (λid hid=>?_) (by omega) hbn,by omega,ho.kp ((Kp.refl _ _).new _ (Nat.le_refl _) (by omega)),(T.Ac _ _ (by omega)).trans g10,hk⟩
   rw[T.Ac _ _ (by omega)]
 ·rintro I st ⟨H3,n3,rfl,f3,hn3,ho,g3,hk⟩
  show IZ lfp G (Runs F G) k I (.ptr t 0) s.v (.ptr n 0) v (.int .i64 (.ofNat cs.length) 0) (.int .i64 (.ofNat cs.length) 0) H3 n3
  delta IZ
  rw[List.drop_eq_nil_of_le (Nat.le_refl _)]at hk
  simp only[go_sem,Bh,Nat.lt_irrefl,decide_false]
  delta QX
  simp only[wu,AB]
  rw[Gq (m:=2) g3 (by omega) rfl rfl,AFU,Eh (m:=2) (T.Ai ..) (by omega) rfl]
  simp only[go_sem]
  refine hk _ _ (f3.trans' (m:=n3) (λid hid=>?_) (by omega) hbn)
  rw[T.Ac _ _ (by omega)]
def AJY(st:Bool)(s:St)(ms:List DK):Option DK:=match RH s ms with
 |some m=>bif m.st==st then some m else none
 |none=>none
def dI(fs:Tab)(s:St)(st:Bool):List St->Option (St×DK)
 |[]=>none
 |c::cs=>match AJY st s ((Cj fs c).getD DI).ms with
  |some m=>some (c,m)
  |none=>dI fs s st cs
def ny(fs:Tab)(c s:St)(st:Bool):Option (St×DK):=dI fs s st (above fs c).1
theorem AHW{G:AX}{H:Heap}{n t a b:Nat}{fs:Tab}(h:TabAt G H n t a b fs)(hfs:fs.length<=1000){c s:St}{st:Bool}{k:KV}
 (hk:∀H' n' w,Kb b H n H' n'->pX G H' n w ((ny fs c s st).getD ((0,0),YB)).2->k (.Df [((ny fs c s st).getD ((0,0),YB)).1.v,w,.bool (ny fs c s st).isSome]) H' n'):
 Runs F G Sm [.ptr t 0,c.v,s.v,.bool st] H n k:=by
 refine BL (s:=ar4 (Jm lfp G)) RI (by obtain⟨h,o⟩:=Xj BK G;rw[RI]at h;cases h;exact o) ?_
 show Jm lfp G (Runs F G) (.ptr t 0) c.v s.v (.bool st) H n k
 delta Jm
 have hbn:=h.bn
 unfold ny at hk
 refine BU rfl λH1 f1 g1=>?_
 have f1:=f1.kb (b:=b) hbn
 refine bZ (h.kb f1) hfs λH2 n2 v f2 ho hlen=>?_
 generalize(above fs c).1=cs at ho hk hlen
 have f3:=f1.trans f2
 have g2:=f2.get g1 (by omega) (by omega)
 have h2n:=f2.le
 simp only[go_sem,(ho.el (by omega)).len,Gf]
 refine BN (N:=cs.length) (J:=λi q=>∃H' n',q=(.ptr t 0,s.v,.bool st,.ptr n 0,v,.int .i64 (.ofNat cs.length) 0,.int .i64 (.ofNat i) 0,H',n')/\Kb b H n H' n'/\n<n'/\Own G H' (n+1) n' 1 v (strs cs)/\T.get H' n=some (one (YB.cells .AZ))/\
  (∀H' n' w,Kb b H n H' n'->pX G H' n w ((dI fs s st (cs.drop i)).getD ((0,0),YB)).2->k (.Df [((dI fs s st (cs.drop i)).getD ((0,0),YB)).1.v,w,.bool (dI fs s st (cs.drop i)).isSome]) H' n')) ?_ ?_ ⟨H2,n2,rfl,f3,by omega,ho,g2,hk⟩
 ·rintro I i q hlt ⟨H3,n3,rfl,f3,hn3,ho,g3,hk⟩ ih
  show Ho lfp G (Runs F G) k I (.ptr t 0) s.v (.bool st) (.ptr n 0) v (.int .i64 (.ofNat cs.length) 0) (.int .i64 (.ofNat i) 0) H3 n3
  delta Ho
  obtain⟨q,hp,hld⟩:=(ho.el (by omega)).at (O4 hlt)
  rw[List.drop_eq_getElem_cons hlt]at hk
  unfold dI at hk
  generalize cs[i]=m at hld hk
  simp only[go_sem,Bh,hlt,decide_true,hp,Lh hld]
  refine l9 (s:=m) (n0:=n) (h.kb (f3.low (Nat.le_refl _))) (by omega) λH4 n4 w f4 hw=>?_
  obtain⟨vf,vm,ws,hw,rfl⟩:=hw
  have f5:=f3.trans f4
  have h5n:=f4.le
  simp only[go_sem,Nat.reduceAdd]
  rw[T.set_set]
  refine run_set λH6 f6 g6=>?_
  have f6':=f6.kb (b:=b) (by omega)
  have f7:=f5.trans f6'
  refine uz (s:=s) (n:=n4+1) (n0:=n) (v:=.agg [((Cj fs m).getD DI).nm.v,((Cj fs m).getD DI).sup.v,vf,vm]) (c:=(Cj fs m).getD DI) ⟨vf,vm,ws,hw.ke ((f6.ke).low (by omega)),rfl⟩ (by omega) λH8 n8 w f8 hw=>?_
  have f8':=f8.kb (b:=b) (by omega)
  have f9:=f7.trans f8'
  have h9n:=f8.le
  have f10:=f4.trans (f6'.trans f8')
  have ho:=ho.kb f10 (by omega)
  have g10:=f10.get g3 hn3 (by omega)
  obtain⟨x,rfl,hx⟩:=hw
  unfold AJY at hk
  have g11:T.get (T.set H8 n8 (one (((RH s ((Cj fs m).getD DI).ms).getD YB).cells x))) n8=_:=T.Ai ..
  have g12:T.get (T.set H8 n8 (one (((RH s ((Cj fs m).getD DI).ms).getD YB).cells x))) n=_:=(T.Ac _ _ (by omega)).trans g10
  unfold DK.cells at g11 g12⊢
  simp only[go_sem,Nat.reduceAdd]
  rw[T.set_set]
  have no:(∀H' n' w,Kb b H n H' n'->pX G H' n w ((dI fs s st (cs.drop (i+1))).getD ((0,0),YB)).2->k (.Df [((dI fs s st (cs.drop (i+1))).getD ((0,0),YB)).1.v,w,.bool (dI fs s st (cs.drop (i+1))).isSome]) H' n')->
   I (.ptr t 0,s.v,.bool st,.ptr n 0,v,.int .i64 (.ofNat cs.length) 0,.int .i64 (.ofNat (i+1)) 0,T.set H8 n8 (one (((RH s ((Cj fs m).getD DI).ms).getD YB).cells x)),n8+1):=λhk=>by
   refine ih _ ⟨_,_,rfl,f9.trans' (m:=n8+1) (λid hid=>T.Ac _ _ (by omega)) (by omega) hbn,by omega,ho.kp ((Kp.refl _ _).new _ (Nat.le_refl _) (by omega)),(T.Ac _ _ (by omega)).trans g10,hk⟩
  unfold DK.cells at no
  cases h1:RH s ((Cj fs m).getD DI).ms with
  |none=>
   rw[h1]at hk g11 g12 no
   simp only[Option.isSome_none,go_sem,Option.getD_none,DJ (show i+1<9223372036854775808 by omega)]
   exact no hk
  |some o=>
   rw[h1]at hk g11 g12 no hx
   simp only[Option.getD_some]at g11 g12 no hx
   simp only[Option.isSome_some,go_sem,Option.getD_some,Nat.reduceAdd,AU (off:=1) g11 rfl,AUL]
   cases h2:o.st==st with
   |false=>
    simp only[h2,cond_false]at hk
    simp only[go_sem,DJ (show i+1<9223372036854775808 by omega)]
    exact no hk
   |true=>
    simp only[h2,cond_true]at hk
    simp only[go_sem]
    rw[Gq (m:=5) g12 (by omega) rfl rfl]
    rw[Eh (m:=5) (T.Ai ..) (by omega) rfl]
    simp only[go_sem]
    have f11:∀id,id<n->T.get (T.set (T.set H8 n8 (one [o.nm.v,.bool o.st,x,o.ret.nm.v,.bool o.ret.arr])) n (one [o.nm.v,.bool o.st,x,o.ret.nm.v,.bool o.ret.arr])) id=T.get H8 id:=λid hid=>by
     rw[T.Ac _ _ (by omega),T.Ac _ _ (by omega)]
    exact hk _ _ _ (f9.trans' (m:=n8+1) f11 (by omega) hbn) ⟨x,rfl,hx.ke ((Kp.ke (n:=n) (n':=n) ⟨Nat.le_refl _,f11⟩))⟩
 ·rintro I q ⟨H3,n3,rfl,f3,hn3,ho,g3,hk⟩
  show Ho lfp G (Runs F G) k I (.ptr t 0) s.v (.bool st) (.ptr n 0) v (.int .i64 (.ofNat cs.length) 0) (.int .i64 (.ofNat cs.length) 0) H3 n3
  delta Ho
  rw[List.drop_eq_nil_of_le (Nat.le_refl _)]at hk
  simp only[go_sem,Bh,Nat.lt_irrefl,decide_false]
  delta PK
  simp only[wu,AB]
  rw[Gq (m:=5) g3 (by omega) rfl rfl,AFU,Eh (m:=5) (T.Ai ..) (by omega) rfl]
  simp only[go_sem]
  refine hk _ _ _ (f3.trans' (m:=n3) (λid hid=>?_) (by omega) hbn) AMA
  rw[T.Ac _ _ (by omega)]
def twin(a:Option St):List St->Bool
 |[]=>false
 |x::xs=>(match a with|some y=>decide (y.1=x.1/\y.2=x.2)|none=>false)||twin (some x) xs
abbrev AGq(fs:List ku):List St:=fs.map λf=>f.nm
abbrev ADB(fs:List DK):List St:=fs.map λf=>f.nm
def twice(c:Fc):Bool:=twin none (AGq c.fs)||twin none (ADB c.ms)
theorem AUj(a b:St):Cc (.one .str) false a.v b.v=some (.bool (decide (a.1=b.1/\a.2=b.2))):=AB4 ..
theorem AUh(i:Nat):B2.ev .gtr (.int .i64 (.ofNat i) 0) (.int .i64 (.ofNat 0) 0)=some (.bool (decide (0<i))):=Iw ..
theorem APg{G:AX}(hG:QG G){H:Heap}{n:Nat}{v:V}{c:Fc}(h:Vu G H n v c){k:KV}(hk:∀H' n',Kp H n H' n'->k (.bool (twice c)) H' n'):Runs F G wI [v] H n k:=by
 refine BL (s:=MZ (Vl lfp G)) dw (by obtain⟨h,o⟩:=qh BK G;rw[dw]at h;cases h;exact o) ?_
 show Vl lfp G (Runs F G) v H n k
 obtain⟨vf,vm,ws,h,rfl⟩:=h
 delta Vl
 unfold twice at hk
 refine Ez λH1 f1 g1=>?_
 have hf:=h.fs.kp f1
 have hm:=h.ms.kp f1
 have l2:AV (.ptr n 2) G H1=some vf:=AU g1 rfl
 have l3:AV (.ptr n 3) G H1=some vm:=AU g1 rfl
 have hbf:=hf.lt
 have hbm:=hm.lt
 simp only[go_sem,Nat.reduceAdd,l2,h.fs.len]
 have AQU:(∀H' n',Kp H n H' n'->k (.bool (twin none (ADB c.ms))) H' n')->UN lfp G (Runs F G) k (.ptr n 0) H1 (n+1):=by
  intro hk
  delta UN
  simp only[go_sem,Nat.reduceAdd,l3,h.ms.len']
  refine BN (N:=c.ms.length) (J:=λi q=>q=(.ptr n 0,.int .i64 (.ofNat c.ms.length) 0,.int .i64 (.ofNat i) 0,H1,n+1)/\
   (k (.bool (twin (match i with|0=>none|i+1=>(ADB c.ms)[i]?) ((ADB c.ms).drop i))) H1 (n+1))) ?_ ?_ ⟨rfl,hk _ _ f1⟩
  ·rintro I i q hlt ⟨rfl,hk⟩ ih
   show Px lfp G (Runs F G) k I (.ptr n 0) (.int .i64 (.ofNat c.ms.length) 0) (.int .i64 (.ofNat i) 0) H1 (n+1)
   delta Px
   have hlt':i<(ADB c.ms).length:=by simpa using hlt
   rw[List.drop_eq_getElem_cons hlt',List.getElem_map]at hk
   unfold twin at hk
   obtain⟨q,w,hp,hld,-⟩:=hm.at hlt
   obtain⟨q',hp',hld'⟩:=Xe hG hld rfl (o:=0) (x:=c.ms[i].nm.v) rfl
   simp only[go_sem,Bh,hlt,decide_true,AUh]
   have next:(k (.bool (twin (some c.ms[i].nm) ((ADB c.ms).drop (i+1)))) H1 (n+1))->I (.ptr n 0,.int .i64 (.ofNat c.ms.length) 0,.int .i64 (.ofNat (i+1)) 0,H1,n+1):=λhk=>by
    refine ih _ ⟨rfl,?_⟩
    show k (.bool (twin ((ADB c.ms)[i]?) _)) H1 (n+1)
    rw[List.getElem?_eq_getElem hlt',List.getElem_map];exact hk
   cases i with
   |zero=>
    simp only[Nat.lt_irrefl,decide_false,go_sem,DJ (show 0+1<9223372036854775808 by omega)]
    exact next hk
   |succ i=>
    have hlt2:i<c.ms.length:=by omega
    obtain⟨r,w2,hr,hldr,-⟩:=hm.at hlt2
    obtain⟨r',hr',hldr'⟩:=Xe hG hldr rfl (o:=0) (x:=c.ms[i].nm.v) rfl
    simp only[Nat.zero_lt_succ,decide_true,go_sem,Nat.reduceAdd,l3,xX (show i+1<9223372036854775808 by unfold big at hbm;omega),hr,hr',hldr',hp,hp',hld',AUj]
    have hk:k (.bool (decide (c.ms[i].nm.1=c.ms[i+1].nm.1/\c.ms[i].nm.2=c.ms[i+1].nm.2)||twin (some c.ms[i+1].nm) ((ADB c.ms).drop (i+1+1)))) H1 (n+1):=by
     have e:(ADB c.ms)[i]? =some c.ms[i].nm:=by rw[List.getElem?_map,List.getElem?_eq_getElem hlt2];rfl
     simp only[e]at hk;exact hk
    cases e:decide (c.ms[i].nm.1=c.ms[i+1].nm.1/\c.ms[i].nm.2=c.ms[i+1].nm.2)with
    |true=>rw[e]at hk;simp only[go_sem];exact hk
    |false=>
     rw[e]at hk
     simp only[go_sem,DJ (show i+1+1<9223372036854775808 by unfold big at hbm;omega)]
     exact next hk
  ·rintro I q ⟨rfl,hk⟩
   show Px lfp G (Runs F G) k I (.ptr n 0) (.int .i64 (.ofNat c.ms.length) 0) (.int .i64 (.ofNat c.ms.length) 0) H1 (n+1)
   delta Px
   rw[List.drop_eq_nil_of_le (by simp)]at hk
   simp only[go_sem,Bh,Nat.lt_irrefl,decide_false]
   delta X8
   exact hk
 generalize twin none (ADB c.ms)=B at hk AQU
 refine BN (N:=c.fs.length) (J:=λi q=>q=(.ptr n 0,.int .i64 (.ofNat c.fs.length) 0,.int .i64 (.ofNat i) 0,H1,n+1)/\
  (∀H' n',Kp H n H' n'->k (.bool (twin (match i with|0=>none|i+1=>(AGq c.fs)[i]?) ((AGq c.fs).drop i)||B)) H' n')) ?_ ?_ ⟨rfl,hk⟩
 ·rintro I i q hlt ⟨rfl,hk⟩ ih
  show OI lfp G (Runs F G) k I (.ptr n 0) (.int .i64 (.ofNat c.fs.length) 0) (.int .i64 (.ofNat i) 0) H1 (n+1)
  delta OI
  have hlt':i<(AGq c.fs).length:=by simpa using hlt
  rw[List.drop_eq_getElem_cons hlt',List.getElem_map]at hk
  unfold twin at hk
  obtain⟨q,hp,hld⟩:=hf.at hlt
  obtain⟨q',hp',hld'⟩:=Xe hG hld rfl (o:=0) (x:=c.fs[i].nm.v) rfl
  simp only[go_sem,Bh,hlt,decide_true,AUh]
  have next:(∀H' n',Kp H n H' n'->k (.bool (twin (some c.fs[i].nm) ((AGq c.fs).drop (i+1))||B)) H' n')->I (.ptr n 0,.int .i64 (.ofNat c.fs.length) 0,.int .i64 (.ofNat (i+1)) 0,H1,n+1):=λhk=>by
   refine ih _ ⟨rfl,?_⟩
   show ∀H' n',Kp H n H' n'->k (.bool (twin ((AGq c.fs)[i]?) _||_)) H' n'
   rw[List.getElem?_eq_getElem hlt',List.getElem_map];exact hk
  cases i with
  |zero=>
   simp only[Nat.lt_irrefl,decide_false,go_sem,DJ (show 0+1<9223372036854775808 by omega)]
   simp only[Bool.false_or]at hk
   exact next hk
  |succ i=>
   have hlt2:i<c.fs.length:=by omega
   obtain⟨r,hr,hldr⟩:=hf.at hlt2
   obtain⟨r',hr',hldr'⟩:=Xe hG hldr rfl (o:=0) (x:=c.fs[i].nm.v) rfl
   simp only[Nat.zero_lt_succ,decide_true,go_sem,Nat.reduceAdd,l2,xX (show i+1<9223372036854775808 by unfold big at hbf;omega),hr,hr',hldr',hp,hp',hld',AUj]
   have hk:∀H' n',Kp H n H' n'->k (.bool ((decide (c.fs[i].nm.1=c.fs[i+1].nm.1/\c.fs[i].nm.2=c.fs[i+1].nm.2)||twin (some c.fs[i+1].nm) ((AGq c.fs).drop (i+1+1)))||B)) H' n':=by
    have e:(AGq c.fs)[i]? =some c.fs[i].nm:=by rw[List.getElem?_map,List.getElem?_eq_getElem hlt2];rfl
    simp only[e]at hk;exact hk
   cases e:decide (c.fs[i].nm.1=c.fs[i+1].nm.1/\c.fs[i].nm.2=c.fs[i+1].nm.2)with
   |true=>rw[e]at hk;simp only[go_sem];exact hk _ _ f1
   |false=>
    rw[e]at hk
    simp only[go_sem,DJ (show i+1+1<9223372036854775808 by unfold big at hbf;omega)]
    exact next hk
 ·rintro I q ⟨rfl,hk⟩
  show OI lfp G (Runs F G) k I (.ptr n 0) (.int .i64 (.ofNat c.fs.length) 0) (.int .i64 (.ofNat c.fs.length) 0) H1 (n+1)
  delta OI
  rw[List.drop_eq_nil_of_le (by simp)]at hk
  simp only[go_sem,Bh,Nat.lt_irrefl,decide_false]
  exact AQU hk
structure AQw(G:AX)(H:Heap)(n m:Nat)(v:V)(cs:List Fc):Prop where
 is:∃LS:ET,El G H v 4 LS/\LS.length=cs.length/\∀(i:Nat) (L:LV) (c:Fc),LS[i]? =some L->cs[i]? =some c->Vu G H m (.agg L) c
 lo:Lo v n
 lt:cs.length<=1000
 mn:m<=n
def XC(fs:Tab):List Fc->Tab
 |[]=>fs
 |c::cs=>XC (Vp c.nm c fs) cs
def Fh(cs:List Fc):Tab:=XC [] cs
theorem oV.put{G:AX}{H H':Heap}{n a:Nat}{fs:Tab}{v:V}{c:Fc}{ps:List (St×V)}(hm:lV H a ps)(hkey:keyed ps fs)(hv:∀s v c,Cj ps s=some v->Cj fs s=some c->Vu G H' n v c)(h1:lV H' a (Vp c.nm v ps))(hc:Vu G H' n v c):
 oV G H' n a (Vp c.nm c fs):=
 ⟨_,h1,yP _ _ _ hkey,λs w d h2 h3=>by
  rw[Q8]at h2 h3
  by_cases e:c.nm=s
  ·rw[if_pos e]at h2 h3;cases h2;cases h3;exact hc
  ·rw[if_neg e]at h2 h3;exact hv _ _ _ h2 h3⟩
theorem Vu.up{G:AX}{H:Heap}{n n':Nat}{v:V}{c:Fc}(h:Vu G H n v c)(hn:n<=n'):Vu G H n' v c:=h.ke ⟨hn,λ_ _ _ _ h=>h⟩
theorem AUe{G:AX}{H:Heap}{n m:Nat}{v:V}{cs:List Fc}(h:AQw G H n m v cs){k:KV}
 (hk:∀H' n' t a b,Kp H n H' n'->T.get H' t=some (one [.map a,.map b])->oV G H' m a (Fh cs)->Hu H' b->n<=a->a<b->b<t->t<n'->k (.ptr t 0) H' n'):Runs F G ACl [v] H n k:=by
 refine BL (s:=MZ (ZE lfp G)) lY (by obtain⟨h,o⟩:=AAE BK G;rw[lY]at h;cases h;exact o) ?_
 show ZE lfp G (Runs F G) v H n k
 delta ZE
 obtain⟨⟨LS,hel,hlen,hfv⟩,hlo,hlt,hmn⟩:=h
 simp only[AJC,go_sem,Nat.reduceAdd,show BA [V.ADG,.ADG] [(0,1,.c (.map n)),(1,1,.c (.map (n+1)))]=some (.agg [.map n,.map (n+1)])from rfl,hel.len,hlen]
 have f1:Kp H n (T.set (T.set (T.set H n (.map [] 0)) (n+1) (.map [] 0)) (n+1+1) (one [.map n,.map (n+1)])) (n+1+1+1):=((((Kp.refl H n).new (m:=n+1) _ (Nat.le_refl _) (by omega)).new (m:=n+1+1) _ (by omega) (by omega)).new _ (by omega) (by omega))
 refine BN (N:=cs.length) (J:=λi q=>∃H' n' fs,q=(.ptr (n+1+1) 0,v,.int .i64 (.ofNat cs.length) 0,.int .i64 (.ofNat i) 0,H',n')/\Kp H n H' n'/\n+1+1<n'/\T.get H' (n+1+1)=some (one [.map n,.map (n+1)])/\oV G H' m n fs/\Hu H' (n+1)/\
  XC fs (cs.drop i)=Fh cs) ?_ ?_ ⟨_,_,[],rfl,f1,by omega,T.Ai ..,⟨[],⟨[],0,by rw[T.Ac _ _ (by omega),T.Ac _ _ (by omega),T.Ai],rfl⟩,rfl,λs v c h=>by cases h⟩,⟨[],[],0,by rw[T.Ac _ _ (by omega),T.Ai],rfl⟩,rfl⟩
 ·rintro I i q hi ⟨H3,n3,fs,rfl,f3,hn3,g3,hfa,hs,htab⟩ ih
  show Tq lfp G (Runs F G) k I (.ptr (n+1+1) 0) v (.int .i64 (.ofNat cs.length) 0) (.int .i64 (.ofNat i) 0) H3 n3
  delta Tq
  obtain⟨q,hp,hld⟩:=(hel.kp hlo f3).at (i:=i) (c:=LS[i]'(by omega)) (List.getElem?_eq_getElem _)
  have hf:=hfv i _ _ (List.getElem?_eq_getElem (by omega)) (List.getElem?_eq_getElem hi)
  rw[List.drop_eq_getElem_cons hi]at htab
  unfold XC at htab
  generalize cs[i]=fc at hf htab
  obtain⟨vf,vm,ws,hf,e⟩:=hf
  have e':LS[i]'(by omega)=[fc.nm.v,fc.sup.v,vf,vm]:=by injection e
  rw[e']at hld
  simp only[go_sem,Bh,hi,decide_true,hp,Bq hld,Nat.reduceAdd]
  rw[T.set_set]
  rw[show AV (.ptr (n+1+1) 0) G (T.set H3 n3 (one [fc.nm.v,fc.sup.v,vf,vm]))=some (.map n)from AU ((T.Ac _ _ (by omega)).trans g3) rfl]
  obtain⟨ps,hps,hkey,hval⟩:=hfa.is
  simp only[go_sem]
  refine AFJ (iq hps (T.Ac _ _ (by omega))) fc.nm _ λH4 hm4 hs4=>?_
  simp only[go_sem,DJ (show i+1<9223372036854775808 by omega)]
  have f4:Kp H n H4 (n3+1):=⟨by omega,λid hid=>by rw[hs4 id (by omega),T.Ac _ _ (by omega)];exact f3.same id hid⟩
  have f5:Kp H3 n H4 n:=⟨Nat.le_refl _,λid hid=>by rw[hs4 id (by omega),T.Ac _ _ (by omega)]⟩
  refine ih _ ⟨H4,_,Vp fc.nm fc fs,rfl,f4,by omega,?_,oV.put hps hkey (λs v c x y=>(hval s v c x y).ke (f5.ke.low hmn)) hm4 ⟨vf,vm,ws,hf.ke ((f4.ke).low hmn),rfl⟩,?_,htab⟩
  ·rw[hs4 _ (by omega),T.Ac _ _ (by omega)];exact g3
  ·exact hs.same (by rw[hs4 _ (by omega),T.Ac _ _ (by omega)])
 ·rintro I q ⟨H3,n3,fs,rfl,f3,hn3,g3,hfa,hs,htab⟩
  show Tq lfp G (Runs F G) k I (.ptr (n+1+1) 0) v (.int .i64 (.ofNat cs.length) 0) (.int .i64 (.ofNat cs.length) 0) H3 n3
  delta Tq
  simp only[go_sem,Bh,Nat.lt_irrefl,decide_false]
  delta dY
  rw[List.drop_eq_nil_of_le (Nat.le_refl _)]at htab
  have htab:fs=Fh cs:=htab
  subst htab
  exact hk _ _ _ n (n+1) f3 g3 hfa hs (by omega) (by omega) (by omega) (by omega)
def AQd(fs:Tab)(sup:St)(m:DK):Bool:=match ny fs sup m.nm false with
 |some o=> !m.st&& !m.same o.2
 |none=>false
def nM(fs:Tab)(sup:St):List DK->Int
 |[]=>0
 |m::ms=>bif !((m.ret::m.ps).all (TJ fs))then 23 else bif AQd fs sup m then 27 else nM fs sup ms
def zL(fs:Tab)(sup:St)(r:Int):List ku->Int
 |[]=>r
 |f::l=>bif !([f.ty].all (TJ fs))then 23 else bif (V6 fs sup f.nm).isSome then 6 else zL fs sup r l
structure AJo(G:AX)(H0:Heap)(n0:Nat)(H:Heap)(n t a b e:Nat)(fs:Tab)(c:Fc)(vf vm:V)(ws:List V):Prop where
 f:Kb b H0 n0 H n
 en:e<n
 e0:n0<=e
 g:T.get H e=some (one [c.nm.v,c.sup.v,vf,vm])
theorem AFQ{G:AX}{H0 H:Heap}{n0 n t a b e:Nat}{fs:Tab}(h:TabAt G H0 n0 t a b fs)(hfs:fs.length<=1000){c:Fc}{vf vm:V}{ws:List V}(hc:AJo G H0 n0 H n t a b e fs c vf vm ws)
 (hf:Xv G H0 n0 [c.nm.v,c.sup.v,vf,vm] c vf vm ws) (hps:∀m∈c.ms,m.ps.length<=100000) {k:KV} (hk:∀H' n',Kb b H0 n0 H' n'->k (.int .i64 (nM fs c.sup c.ms) 0) H' n'):
 J6 lfp G (Runs F G) k (.ptr t 0) (.ptr e 0) H n:=by
 delta J6
 have hbig:=hf.ms.lt
 have hbn:=h.bn
 simp only[go_sem,Nat.reduceAdd,AU (off:=3) hc.g (v:=vm) rfl,hf.ms.len']
 refine BN (N:=c.ms.length) (J:=λi q=>∃H' n',q=(.ptr t 0,.ptr e 0,vm,.int .i64 (.ofNat c.ms.length) 0,.int .i64 (.ofNat i) 0,H',n')/\AJo G H0 n0 H' n' t a b e fs c vf vm ws/\
  (∀H' n',Kb b H0 n0 H' n'->k (.int .i64 (nM fs c.sup (c.ms.drop i)) 0) H' n')) ?_ ?_ ⟨H,n,rfl,hc,hk⟩
 ·rintro I i q hlt ⟨H3,n3,rfl,hc,hk⟩ ih
  show G6 lfp G (Runs F G) k I (.ptr t 0) (.ptr e 0) vm (.int .i64 (.ofNat c.ms.length) 0) (.int .i64 (.ofNat i) 0) H3 n3
  delta G6
  have f3:=hc.f
  have hen:=hc.en
  have he0:=hc.e0
  have hm3:MC G H3 n0 vm c.ms ws:=hf.ms.ke ((f3.ke h.seen).low (Nat.le_refl _))
  obtain⟨q,w,hp,hld,hw⟩:=hm3.at hlt
  have hps:=hps _ (List.getElem_mem hlt)
  have hok:=hf.ms.ok _ (List.getElem_mem hlt)
  rw[List.drop_eq_getElem_cons hlt]at hk
  unfold nM at hk
  generalize c.ms[i]=m at hld hk hw hps hok
  unfold DK.cells at hld
  simp only[go_sem,Bh,hlt,decide_true,hp,Bq hld,Nat.reduceAdd]
  rw[T.set_set]
  have g4:=T.Ai H3 n3 (one [m.nm.v,.bool m.st,w,m.ret.nm.v,.bool m.ret.arr])
  have f4:Kp H3 n3 (T.set H3 n3 (one [m.nm.v,.bool m.st,w,m.ret.nm.v,.bool m.ret.arr])) (n3+1):=(Kp.refl _ _).new _ (Nat.le_refl _) (by omega)
  generalize T.set H3 n3 (one [m.nm.v,.bool m.st,w,m.ret.nm.v,.bool m.ret.arr])=H4 at f4 g4
  rw[show Ae 2 (.ptr n3 3) G H4=some (.agg m.ret.cells)from G7 g4 (by omega) (by show 5<=5;omega)]
  simp only[go_sem,Nat.reduceAdd]
  rw[xY (z:=2) (L:=m.ret.cells) rfl]
  have hcap:=T.Ai H4 (n3+1) (.arr 2 1 (T.set (T.set .e 0 [.str 0 0,.bool false]) 0 m.ret.cells))
  have f5:Kp H4 (n3+1) (T.set H4 (n3+1) (.arr 2 1 (T.set (T.set .e 0 [.str 0 0,.bool false]) 0 m.ret.cells))) (n3+1+1):=(Kp.refl _ _).new _ (Nat.le_refl _) (by omega)
  generalize T.set H4 (n3+1) (.arr 2 1 (T.set (T.set .e 0 [.str 0 0,.bool false]) 0 m.ret.cells))=H5 at f5 hcap
  have g5:=f5.get g4 (by omega)
  have hel:=jS (G:=G) (by omega) (show m.ret.cells.length=2 from rfl) hcap
  have fb5:=f3.trans ((f4.trans f5).kb (b:=b) (by omega))
  have hw5:=hw.ke (((f4.trans f5).ke).low (m:=n0) (by omega))
  simp only[go_sem,AU (off:=2) g5 (v:=w) rfl]
  refine AOr (by omega) hcap (by omega) hel.2 hw5.el.2 (by rw[F5];omega) λv6 H6 n6 hel6 hs6 hn6 hlo6=>?_
  have f6:Kp H5 (n3+1+1) H6 n6:=⟨hn6,hs6⟩
  have fb6:=fb5.trans (f6.kb (b:=b) (by omega))
  have g6:=f6.get g5 (by omega)
  refine iP (xs:=m.ret::m.ps) (h.kb fb6) ⟨hel6,hlo6,by simp[big];omega,?_⟩ λH7 n7 f7=>?_
  ·intro x hx
   rcases List.mem_cons.1 hx with rfl|hx
   ·exact hok.2
   ·exact hw.ok _ hx
  have fb7:=fb6.trans f7
  have h7n:=f7.le
  have g7:=f7.get g6 (by omega) (by omega)
  simp only[go_sem,Nat.reduceAdd,Bl]
  cases h1:(m.ret::m.ps).all (TJ fs)with
  |false=>
   rw[h1]at hk
   simp only[Bool.not_false,cond_true]at hk
   simp only[Bool.not_false,go_sem]
   exact hk _ _ fb7
  |true=>
   rw[h1]at hk
   simp only[Bool.not_true,cond_false]at hk
   have fe:Kb b H3 n3 H7 n7:=((f4.trans (f5.trans f6)).kb (b:=b) (by omega)).trans f7
   have ge:T.get H7 e=some (one [c.nm.v,c.sup.v,vf,vm]):=fe.get hc.g hen (by omega)
   simp only[Bool.not_true,go_sem,Nat.reduceAdd,AU (off:=1) ge (v:=c.sup.v) rfl,AU (off:=0) g7 (v:=m.nm.v) rfl]
   refine AHW (c:=c.sup) (s:=m.nm) (st:=false) (h.kb fb7) hfs λH8 n8 x f8 hx=>?_
   have fb8:=fb7.trans f8
   have h8n:=f8.le
   have g8:=f8.get g7 (by omega) (by omega)
   have hw8:pX G H8 n7 (.agg (m.cells w)) m:=⟨w,rfl,(hw.ke (((fe.trans f8).ke (f3.seen h.seen)).low (m:=n0) (by omega))).ke ⟨by omega,λ_ _ _ _ h=>h⟩⟩
   obtain⟨y,rfl,hy⟩:=hx
   unfold AQd at hk
   have next:∀H' n',Kb b H8 n8 H' n'->(∀H' n',Kb b H0 n0 H' n'->k (.int .i64 (nM fs c.sup (c.ms.drop (i+1))) 0) H' n')->I (.ptr t 0,.ptr e 0,vm,.int .i64 (.ofNat c.ms.length) 0,.int .i64 (.ofNat (i+1)) 0,H',n'):=λH' n' f hk=>
    ih _ ⟨_,_,rfl,⟨fb8.trans f,by have:=f.le;omega,he0,f.get (f8.get ge (by omega) (by omega)) (by omega) (by omega)⟩,hk⟩
   simp only[go_sem,Nat.reduceAdd]
   have g9:=T.Ai H8 n8 (one (((ny fs c.sup m.nm false).getD ((0,0),YB)).2.cells y))
   have f9:Kp H8 n8 (T.set H8 n8 (one (((ny fs c.sup m.nm false).getD ((0,0),YB)).2.cells y))) (n8+1):=(Kp.refl _ _).new _ (Nat.le_refl _) (by omega)
   unfold DK.cells at g9 f9⊢
   simp only[go_sem,Nat.reduceAdd]
   rw[T.set_set]
   cases h2:ny fs c.sup m.nm false with
   |none=>
    rw[h2]at hk f9
    simp only[cond_false]at hk
    simp only[Option.isSome_none,go_sem,DJ (show i+1<9223372036854775808 by unfold big at hbig;omega)]
    exact next _ _ (f9.kb (by omega)) hk
   |some o=>
    rw[h2]at hk f9 g9 hy
    simp only[Option.getD_some]at f9 g9 hy
    simp only[Option.isSome_some,Option.getD_some]
    generalize T.set H8 n8 (one [o.2.nm.v,.bool o.2.st,y,o.2.ret.nm.v,.bool o.2.ret.arr])=H9 at f9 g9
    have gm:=f9.get g8 (by omega)
    simp only[go_sem,Nat.reduceAdd,AU (off:=1) gm (v:=.bool m.st) rfl,Bl]
    cases h3:m.st with
    |true=>
     rw[h3]at hk
     simp only[Bool.not_true,Bool.false_and,cond_false]at hk
     simp only[Bool.not_true,go_sem,DJ (show i+1<9223372036854775808 by unfold big at hbig;omega)]
     exact next _ _ (f9.kb (by omega)) hk
    |false=>
     rw[h3]at hk
     simp only[Bool.not_false,Bool.true_and]at hk
     simp only[Bool.not_false,go_sem,Cb (m:=5) gm (by omega) rfl,Cb (m:=5) g9 (by omega) rfl]
     have hwS:pX G H9 (n8+1) (.agg [m.nm.v,.bool m.st,w,m.ret.nm.v,.bool m.ret.arr]) m:=hw8.ke ⟨by omega,λv z LS hl he=>(f9.ke).el v z LS (hl.mono (by omega)) he⟩
     have hyS:pX G H9 (n8+1) (.agg [o.2.nm.v,.bool o.2.st,y,o.2.ret.nm.v,.bool o.2.ret.arr]) o.2:=⟨y,rfl,hy.ke ⟨by omega,λv z LS hl he=>(f9.ke).el v z LS (hl.mono (by omega)) he⟩⟩
     refine yE hwS hyS λH10 n10 f10=>?_
     have f11:=(f9.trans f10).kb (b:=b) (by omega)
     simp only[go_sem,Bl]
     cases h4:m.same o.2 with
     |false=>
      rw[h4]at hk
      simp only[Bool.not_false,cond_true]at hk
      simp only[Bool.not_false,go_sem]
      exact hk _ _ (fb8.trans f11)
     |true=>
      rw[h4]at hk
      simp only[Bool.not_true,cond_false]at hk
      simp only[Bool.not_true,go_sem,DJ (show i+1<9223372036854775808 by unfold big at hbig;omega)]
      exact next _ _ f11 hk
 ·rintro I q ⟨H3,n3,rfl,hc,hk⟩
  show G6 lfp G (Runs F G) k I (.ptr t 0) (.ptr e 0) vm (.int .i64 (.ofNat c.ms.length) 0) (.int .i64 (.ofNat c.ms.length) 0) H3 n3
  delta G6
  rw[List.drop_eq_nil_of_le (Nat.le_refl _)]at hk
  simp only[go_sem,Bh,Nat.lt_irrefl,decide_false]
  delta Ox
  exact hk _ _ hc.f
theorem AHU{G:AX}{H0 H:Heap}{n0 n t a b e:Nat}{fs:Tab}(h:TabAt G H0 n0 t a b fs)(hfs:fs.length<=1000){c:Fc}{vf vm:V}{ws:List V}(hc:AJo G H0 n0 H n t a b e fs c vf vm ws)
 (hf:Xv G H0 n0 [c.nm.v,c.sup.v,vf,vm] c vf vm ws) (hps:∀m∈c.ms,m.ps.length<=100000) {k:KV} (hk:∀H' n',Kb b H0 n0 H' n'->k (.int .i64 (zL fs c.sup (nM fs c.sup c.ms) c.fs) 0) H' n'):
 lfp (V×V×V×V×V×Heap×Nat) (OO lfp G (Runs F G) k) (.ptr t 0,.ptr e 0,vf,.int .i64 (.ofNat c.fs.length) 0,.int .i64 (.ofNat 0) 0,H,n):=by
 have hbig:=hf.fs.lt
 have hbn:=h.bn
 refine BN (N:=c.fs.length) (J:=λi q=>∃H' n',q=(.ptr t 0,.ptr e 0,vf,.int .i64 (.ofNat c.fs.length) 0,.int .i64 (.ofNat i) 0,H',n')/\AJo G H0 n0 H' n' t a b e fs c vf vm ws/\
  (∀H' n',Kb b H0 n0 H' n'->k (.int .i64 (zL fs c.sup (nM fs c.sup c.ms) (c.fs.drop i)) 0) H' n')) ?_ ?_ ⟨H,n,rfl,hc,hk⟩
 ·rintro I i q hlt ⟨H3,n3,rfl,hc,hk⟩ ih
  show HY lfp G (Runs F G) k I (.ptr t 0) (.ptr e 0) vf (.int .i64 (.ofNat c.fs.length) 0) (.int .i64 (.ofNat i) 0) H3 n3
  delta HY
  have f3:=hc.f
  have hen:=hc.en
  have he0:=hc.e0
  have hm3:TM G H3 n0 vf c.fs:=hf.fs.ke ((f3.ke h.seen).low (Nat.le_refl _))
  obtain⟨q,hp,hld⟩:=hm3.at hlt
  have hok:=hf.fs.ok _ (List.getElem_mem hlt)
  rw[List.drop_eq_getElem_cons hlt]at hk
  unfold zL at hk
  generalize c.fs[i]=m at hld hk hok
  unfold ku.cells at hld
  simp only[go_sem,Bh,hlt,decide_true,hp,Bq hld,Nat.reduceAdd]
  rw[T.set_set]
  have g4:=T.Ai H3 n3 (one [m.nm.v,m.ty.nm.v,.bool m.ty.arr])
  have f4:Kp H3 n3 (T.set H3 n3 (one [m.nm.v,m.ty.nm.v,.bool m.ty.arr])) (n3+1):=(Kp.refl _ _).new _ (Nat.le_refl _) (by omega)
  generalize T.set H3 n3 (one [m.nm.v,m.ty.nm.v,.bool m.ty.arr])=H4 at f4 g4
  rw[show Ae 2 (.ptr n3 1) G H4=some (.agg m.ty.cells)from G7 g4 (by omega) (by show 3<=3;omega)]
  simp only[go_sem,Nat.reduceAdd]
  rw[xY (z:=2) (L:=m.ty.cells) rfl]
  have hcap:=T.Ai H4 (n3+1) (.arr 2 1 (T.set (T.set .e 0 [.str 0 0,.bool false]) 0 m.ty.cells))
  have f5:Kp H4 (n3+1) (T.set H4 (n3+1) (.arr 2 1 (T.set (T.set .e 0 [.str 0 0,.bool false]) 0 m.ty.cells))) (n3+1+1):=(Kp.refl _ _).new _ (Nat.le_refl _) (by omega)
  generalize T.set H4 (n3+1) (.arr 2 1 (T.set (T.set .e 0 [.str 0 0,.bool false]) 0 m.ty.cells))=H5 at f5 hcap
  have g5:=f5.get g4 (by omega)
  have hel:=jS (G:=G) (by omega) (show m.ty.cells.length=2 from rfl) hcap
  have fb5:=f3.trans ((f4.trans f5).kb (b:=b) (by omega))
  refine iP (xs:=[m.ty]) (h.kb fb5) ⟨hel,λid hid=>by cases hid;omega,by show 1<big;decide,?_⟩ λH7 n7 f7=>?_
  ·intro x hx;simp at hx;subst hx;exact hok.2
  have fb7:=fb5.trans f7
  have h7n:=f7.le
  have g7:=f7.get g5 (by omega) (by omega)
  simp only[go_sem,Nat.reduceAdd,Bl]
  cases h1:[m.ty].all (TJ fs)with
  |false=>
   rw[h1]at hk
   simp only[Bool.not_false,cond_true]at hk
   simp only[Bool.not_false,go_sem]
   exact hk _ _ fb7
  |true=>
   rw[h1]at hk
   simp only[Bool.not_true,cond_false]at hk
   have fe:Kb b H3 n3 H7 n7:=((f4.trans f5).kb (b:=b) (by omega)).trans f7
   have ge:T.get H7 e=some (one [c.nm.v,c.sup.v,vf,vm]):=fe.get hc.g hen (by omega)
   simp only[Bool.not_true,go_sem,Nat.reduceAdd,AU (off:=1) ge (v:=c.sup.v) rfl,AU (off:=0) g7 (v:=m.nm.v) rfl]
   refine AI8 (c:=c.sup) (s:=m.nm) (h.kb fb7) hfs λH8 n8 f8=>?_
   have fb8:=fb7.trans f8
   have h8n:=f8.le
   unfold Ty.v Ty.cells
   simp only[go_sem,Nat.reduceAdd]
   rw[T.set_set]
   have f9:Kp H8 n8 (T.set H8 n8 (one [((V6 fs c.sup m.nm).getD ((0,0),tyZ)).2.nm.v,.bool ((V6 fs c.sup m.nm).getD ((0,0),tyZ)).2.arr])) (n8+1):=(Kp.refl _ _).new _ (Nat.le_refl _) (by omega)
   have fb9:=fb8.trans (f9.kb (b:=b) (by omega))
   cases h2:(V6 fs c.sup m.nm).isSome with
   |true=>
    rw[h2]at hk
    simp only[cond_true]at hk
    simp only[go_sem]
    exact hk _ _ fb9
   |false=>
    rw[h2]at hk
    simp only[cond_false]at hk
    simp only[go_sem,DJ (show i+1<9223372036854775808 by unfold big at hbig;omega)]
    exact ih _ ⟨_,_,rfl,⟨fb9,by omega,he0,f9.get (f8.get ge (by omega) (by omega)) (by omega)⟩,hk⟩
 ·rintro I q ⟨H3,n3,rfl,hc,hk⟩
  show HY lfp G (Runs F G) k I (.ptr t 0) (.ptr e 0) vf (.int .i64 (.ofNat c.fs.length) 0) (.int .i64 (.ofNat c.fs.length) 0) H3 n3
  delta HY
  rw[List.drop_eq_nil_of_le (Nat.le_refl _)]at hk
  simp only[go_sem,Bh,Nat.lt_irrefl,decide_false]
  exact AFQ h hfs hc hf hps hk
theorem ADV:∀(m:Nat) (fs:Tab) (out:List St) (s:St),out.length<=(IJ m fs out s).1.length
 |0,_,_,_=>Nat.le_refl _
 |m+1,fs,out,s=>by
  unfold IJ
  cases decide (s.1=0/\s.2=0)with
  |true=>exact Nat.le_refl _
  |false=>
   simp only[cond_false]
   cases Cj fs s with
   |none=>exact Nat.le_refl _
   |some c=>
    show _<=(bif jK s out then(out,false)else IJ m fs (out++[s]) c.sup).1.length
    cases jK s out with
    |true=>exact Nat.le_refl _
    |false=>have:=ADV m fs (out++[s]) c.sup;simp only[List.length_append,List.length_singleton]at this;simp only[cond_false];omega
theorem AKK{fs:Tab}{s:St}{c:Fc}(h:Cj fs s=some c)(h0:¬(s.1=0/\s.2=0)):1<=(above fs s).1.length:=by
 unfold above IJ
 rw[decide_eq_false h0,h]
 show 1<=(IJ fs.length fs [s] c.sup).1.length
 exact ADV fs.length fs [s] c.sup
def lastOf(xs:List St):St:=(xs[xs.length-1]?).getD (0,0)
def QV(fs:Tab)(s:St):Int:=match Cj fs s with
 |none=>23
 |some c=>bif decide (s.1=0/\s.2=0)then 23 else
  bif !(above fs s).2&& !jK ((Cj fs (lastOf (above fs s).1)).getD DI).sup (above fs s).1 then 23 else
  bif !(above fs s).2 then 26 else bif twice c then 6 else zL fs c.sup (nM fs c.sup c.ms) c.fs
theorem APR{G:AX}(hG:QG G){H:Heap}{n t a b:Nat}{fs:Tab}(h:TabAt G H n t a b fs)(hfs:fs.length<=1000)(hps:∀s c,Cj fs s=some c->∀m∈c.ms,m.ps.length<=100000){s:St}{k:KV}
 (hk:∀H' n',Kb b H n H' n'->k (.int .i64 (QV fs s) 0) H' n'):Runs F G Zh [.ptr t 0,s.v] H n k:=by
 refine BL (s:=TY (KU lfp G)) TL (by obtain⟨h,o⟩:=YT BK G;rw[TL]at h;cases h;exact o) ?_
 show KU lfp G (Runs F G) (.ptr t 0) s.v H n k
 delta KU
 have hbn:=h.bn
 unfold QV at hk
 refine l9 (s:=s) h (Nat.le_refl _) λH1 n1 w f1 hw=>?_
 obtain⟨vf,vm,ws,hw,rfl⟩:=hw
 have h1n:=f1.le
 simp only[go_sem,Nat.reduceAdd,Bl]
 rw[T.set_set]
 have g2:=T.Ai H1 n1 (one [((Cj fs s).getD DI).nm.v,((Cj fs s).getD DI).sup.v,vf,vm])
 have f2:Kp H1 n1 (T.set H1 n1 (one [((Cj fs s).getD DI).nm.v,((Cj fs s).getD DI).sup.v,vf,vm])) (n1+1):=(Kp.refl _ _).new _ (Nat.le_refl _) (by omega)
 have fb2:=f1.trans (f2.kb (b:=b) (by omega))
 cases hl:Cj fs s with
 |none=>
  rw[hl]at hk fb2
  simp only[Option.isSome_none,Bool.not_false,go_sem]
  exact hk _ _ fb2
 |some c=>
  rw[hl]at hk fb2 g2 f2 hw
  simp only[Option.getD_some]at hk fb2 g2 f2 hw
  simp only[Option.isSome_some,Bool.not_true,go_sem,Option.getD_some,show Cc (.one .str) false s.v (.str 0 0)=some (.bool (decide (s.1=0/\s.2=0)))from AB4 ..]
  cases h0:decide (s.1=0/\s.2=0)with
  |true=>
   rw[h0]at hk
   simp only[go_sem]
   exact hk _ _ fb2
  |false=>
   rw[h0]at hk
   simp only[cond_false]at hk
   simp only[go_sem]
   generalize T.set H1 n1 (one [c.nm.v,c.sup.v,vf,vm])=H2 at fb2 g2 f2
   refine bZ (s:=s) (h.kb fb2) hfs λH3 n3 v f3 ho hlen=>?_
   have hpos:=AKK hl (of_decide_eq_false h0)
   generalize(above fs s).1=up at ho hlen hpos hk
   generalize(above fs s).2=whole at hk
   have fb3:=fb2.trans f3
   have h3n:=f3.le
   have g3:=f3.get g2 (by omega) (by omega)
   have hel:=ho.el (by omega)
   obtain⟨m,hm⟩:∃m,up.length=m+1:=⟨up.length-1,by omega⟩
   have hlt:m<up.length:=by omega
   obtain⟨q,hp,hld⟩:=hel.at (O4 hlt)
   have hlast:lastOf up=up[m]:=by unfold lastOf;rw[show up.length-1=m by omega,List.getElem?_eq_getElem hlt];rfl
   simp only[go_sem,hel.len,Gf,hm,xX (show m+1<9223372036854775808 by omega),hp,Lh hld]
   rw[<-hlast]
   refine l9 (s:=lastOf up) (h.kb fb3) (Nat.le_refl _) λH4 n4 w f4 hw4=>?_
   obtain⟨vf4,vm4,ws4,hw4,rfl⟩:=hw4
   have fb4:=fb3.trans f4
   have h4n:=f4.le
   have g4:=f4.get g3 (by omega) (by omega)
   have ho4:=ho.kb f4 (by omega)
   simp only[go_sem,Nat.reduceAdd,Bl]
   rw[T.set_set]
   generalize(Cj fs (lastOf up)).getD DI=lc at hw4 hk
   have g5:=T.Ai H4 n4 (one [lc.nm.v,lc.sup.v,vf4,vm4])
   have f5:Kp H4 n4 (T.set H4 n4 (one [lc.nm.v,lc.sup.v,vf4,vm4])) (n4+1):=(Kp.refl _ _).new _ (Nat.le_refl _) (by omega)
   generalize T.set H4 n4 (one [lc.nm.v,lc.sup.v,vf4,vm4])=H5 at g5 f5
   have fb5:=fb4.trans (f5.kb (b:=b) (by omega))
   have ge:=f5.get g4 (by omega)
   cases whole with
   |false=>
    simp only[Bool.not_false,Bool.true_and]at hk
    simp only[Bool.not_false,go_sem,Nat.reduceAdd,AU (off:=1) g5 (v:=lc.sup.v) rfl]
    refine uG (s:=lc.sup) (xs:=up) ((ho4.kp f5).el (by omega)) (by omega) ?_
    simp only[go_sem,Bl]
    cases h6:jK lc.sup up with
    |false=>
     rw[h6]at hk
     simp only[Bool.not_false,cond_true]at hk
     simp only[Bool.not_false,go_sem]
     exact hk _ _ fb5
    |true=>
     rw[h6]at hk
     simp only[Bool.not_true,cond_false,cond_true]at hk
     simp only[Bool.not_true,go_sem]
     exact hk _ _ fb5
   |true=>
    simp only[Bool.not_true,Bool.false_and,cond_false]at hk
    have fe:Kb b H1 n1 H5 (n4+1):=(f2.kb (by omega)).trans (f3.trans (f4.trans (f5.kb (by omega))))
    simp only[Bool.not_true,go_sem]
    rw[Cb (m:=4) ge (by omega) rfl,AB]
    have hwf:Vu G H5 (n4+1) (.agg [c.nm.v,c.sup.v,vf,vm]) c:=⟨vf,vm,ws,(hw.ke ((fe.ke (f1.seen h.seen)).low h1n)).ke ⟨by omega,λ_ _ _ _ h=>h⟩,rfl⟩
    refine APg hG hwf λH6 n6 f6=>?_
    have fb6:=fb5.trans (f6.kb (b:=b) (by omega))
    have h6n:=f6.le
    cases h7:twice c with
    |true=>
     rw[h7]at hk
     simp only[cond_true]at hk
     simp only[go_sem]
     exact hk _ _ fb6
    |false=>
     rw[h7]at hk
     simp only[cond_false]at hk
     have ge6:=f6.get ge (by omega)
     simp only[go_sem,Nat.reduceAdd,AU (off:=2) ge6 (v:=vf) rfl,hw.fs.len]
     exact AHU (h.kb (f1.low (Nat.le_refl _))) hfs ⟨(fe.trans (f6.kb (by omega))).ARi h1n,by omega,h1n,ge6⟩ hw (hps s c hl) λH' n' f=>hk _ _ ((f1.low (Nat.le_refl _)).trans f)
structure Tz(G:AX)(H:Heap)(n i t a b fm:Nat)(vn:V)(fs:Tab):Prop where
 iN:i<n
 ib:i≠b
 at':T.get H i=some (one [.ptr t 0,.map fm,vn])
 tab:TabAt G H n t a b fs
theorem Tz.kb{G:AX}{H H':Heap}{n n' i t a b fm:Nat}{vn:V}{fs:Tab}(h:Tz G H n i t a b fm vn fs)(f:Kb b H n H' n'):Tz G H' n' i t a b fm vn fs:=
 ⟨Nat.lt_of_lt_of_le h.iN f.le,h.ib,f.get h.at' h.iN h.ib,h.tab.kb f⟩
def PMV(G:AX)(H:Heap)(n:Nat)(v:V)(p:PM):Prop:=∃w,v=.agg (p.cells w)/\KI G H n w p.m.ps
def Zf(fs:Tab)(p:PM):List St->Option St
 |[]=>none
 |c::cs=>match RH p.m.nm ((Cj fs c).getD DI).ms with
  |some o=>bif o.same p.m then some c else Zf fs p cs
  |none=>Zf fs p cs
def jl(fs:Tab)(p:PM):Option St:=Zf fs p (above fs p.own).1
theorem ARA{G:AX}{H:Heap}{n i t a b fm:Nat}{vn:V}{fs:Tab}(h:Tz G H n i t a b fm vn fs)(hfs:fs.length<=1000){v:V}{p:PM}(hp:PMV G H n v p){k:KV}
 (hk:∀H' n',Kb b H n H' n'->k (.Df [((jl fs p).getD (0,0)).v,.bool (jl fs p).isSome]) H' n'):Runs F G bT [.ptr i 0,v] H n k:=by
 refine BL (s:=TY (MG lfp G)) UY (by obtain⟨h,o⟩:=Y1 BK G;rw[UY]at h;cases h;exact o) ?_
 show MG lfp G (Runs F G) (.ptr i 0) v H n k
 obtain⟨w,rfl,hw⟩:=hp
 delta MG
 have hbn:=h.tab.bn
 unfold jl at hk
 refine Ez λH1 f1 g1=>?_
 have f1':=f1.kb (b:=b) hbn
 have h1:=h.kb f1'
 unfold PM.cells at g1
 simp only[go_sem,Nat.reduceAdd,AU (off:=0) h1.at' (v:=.ptr t 0) rfl,AU (off:=5) g1 (v:=p.own.v) rfl]
 refine bZ (s:=p.own) h1.tab hfs λH2 n2 x f2 ho hlen=>?_
 generalize(above fs p.own).1=cs at ho hk hlen
 have f3:=f1'.trans f2
 have g2:=f2.get g1 (by omega) (by omega)
 have h2n:=f2.le
 simp only[go_sem,(ho.el (by omega)).len,Gf]
 refine BN (N:=cs.length) (J:=λj q=>∃H' n',q=(.ptr i 0,.ptr n 0,x,.int .i64 (.ofNat cs.length) 0,.int .i64 (.ofNat j) 0,H',n')/\Kb b H n H' n'/\n<n'/\Own G H' (n+1) n' 1 x (strs cs)/\T.get H' n=some (one [p.m.nm.v,.bool p.m.st,w,p.m.ret.nm.v,.bool p.m.ret.arr,p.own.v])/\
  (∀H' n',Kb b H n H' n'->k (.Df [((Zf fs p (cs.drop j)).getD (0,0)).v,.bool (Zf fs p (cs.drop j)).isSome]) H' n')) ?_ ?_ ⟨H2,n2,rfl,f3,by omega,ho,g2,hk⟩
 ·rintro I j q hlt ⟨H3,n3,rfl,f3,hn3,ho,g3,hk⟩ ih
  show Ii lfp G (Runs F G) k I (.ptr i 0) (.ptr n 0) x (.int .i64 (.ofNat cs.length) 0) (.int .i64 (.ofNat j) 0) H3 n3
  delta Ii
  have h3:=h.kb f3
  obtain⟨q,hp,hld⟩:=(ho.el (by omega)).at (O4 hlt)
  rw[List.drop_eq_getElem_cons hlt]at hk
  unfold Zf at hk
  generalize cs[j]=m at hld hk
  simp only[go_sem,Bh,hlt,decide_true,hp,Lh hld,Nat.reduceAdd,AU (off:=0) h3.at' (v:=.ptr t 0) rfl]
  refine l9 (s:=m) (n0:=n) (h.tab.kb (f3.low (Nat.le_refl _))) (by omega) λH4 n4 y f4 hy=>?_
  obtain⟨vf,vm,ws,hy,rfl⟩:=hy
  have f5:=f3.trans f4
  have h5n:=f4.le
  simp only[go_sem,Nat.reduceAdd]
  rw[T.set_set]
  have f6:Kp H4 n4 (T.set H4 n4 (one [((Cj fs m).getD DI).nm.v,((Cj fs m).getD DI).sup.v,vf,vm])) (n4+1):=(Kp.refl _ _).new _ (Nat.le_refl _) (by omega)
  generalize T.set H4 n4 (one [((Cj fs m).getD DI).nm.v,((Cj fs m).getD DI).sup.v,vf,vm])=H6 at f6
  have f6':=f6.kb (b:=b) (by omega)
  have g6:=f6'.get (f4.get g3 hn3 (by omega)) (by omega) (by omega)
  rw[show AV (.ptr n 0) G H6=some p.m.nm.v from AU g6 rfl,AB]
  refine uz (s:=p.m.nm) (n:=n4+1) (n0:=n) (v:=.agg [((Cj fs m).getD DI).nm.v,((Cj fs m).getD DI).sup.v,vf,vm]) (c:=(Cj fs m).getD DI) ⟨vf,vm,ws,hy.ke ((f6.ke).low (by omega)),rfl⟩ (by omega) λH8 n8 y f8 hy=>?_
  have f8':=f8.kb (b:=b) (by omega)
  have f10:=f4.trans (f6'.trans f8')
  have f9:=f3.trans f10
  have h9n:=f8.le
  have ho:=ho.kb f10 (by omega)
  have g10:=f10.get g3 hn3 (by omega)
  obtain⟨z,rfl,hz⟩:=hy
  have g11:=T.Ai H8 n8 (one (((RH p.m.nm ((Cj fs m).getD DI).ms).getD YB).cells z))
  have f11:Kp H8 n8 (T.set H8 n8 (one (((RH p.m.nm ((Cj fs m).getD DI).ms).getD YB).cells z))) (n8+1):=(Kp.refl _ _).new _ (Nat.le_refl _) (by omega)
  unfold DK.cells at g11 f11⊢
  simp only[go_sem,Nat.reduceAdd]
  rw[T.set_set]
  have f12:=f10.trans (f11.kb (b:=b) (by omega))
  have next:∀H' n',Kb b H3 n3 H' n'->(∀H' n',Kb b H n H' n'->k (.Df [((Zf fs p (cs.drop (j+1))).getD (0,0)).v,.bool (Zf fs p (cs.drop (j+1))).isSome]) H' n')->I (.ptr i 0,.ptr n 0,x,.int .i64 (.ofNat cs.length) 0,.int .i64 (.ofNat (j+1)) 0,H',n'):=λH' n' f hk=>
   ih _ ⟨_,_,rfl,f3.trans f,by have:=f.le;omega,Own.kb (by assumption) f (by omega),f.get g3 hn3 (by omega),hk⟩
  cases h1:RH p.m.nm ((Cj fs m).getD DI).ms with
  |none=>
   rw[h1]at hk f12
   simp only[Option.isSome_none,go_sem,DJ (show j+1<9223372036854775808 by omega)]
   exact next _ _ f12 hk
  |some o=>
   rw[h1]at hk f11 f12 g11 hz
   simp only[Option.getD_some]at f11 f12 g11 hz
   simp only[Option.isSome_some,Option.getD_some]
   generalize T.set H8 n8 (one [o.nm.v,.bool o.st,z,o.ret.nm.v,.bool o.ret.arr])=H12 at f11 f12 g11
   have gp:=f11.get g10 (by omega)
   simp only[go_sem,Nat.reduceAdd,Cb (m:=5) g11 (by omega) rfl,show Ae 5 (.ptr n 0) G H12=some (.agg [p.m.nm.v,.bool p.m.st,w,p.m.ret.nm.v,.bool p.m.ret.arr])from G7 gp (by omega) (by show 5<=6;omega)]
   have s1:pX G H12 (n8+1) (.agg [o.nm.v,.bool o.st,z,o.ret.nm.v,.bool o.ret.arr]) o:=⟨z,rfl,(hz.ke ((f11.ke).low (by omega))).ke ⟨by omega,λ_ _ _ _ h=>h⟩⟩
   have s2:pX G H12 (n8+1) (.agg [p.m.nm.v,.bool p.m.st,w,p.m.ret.nm.v,.bool p.m.ret.arr]) p.m:=⟨w,rfl,(hw.ke (((f3.trans f12).ke h.tab.seen).low (Nat.le_refl _))).ke ⟨by omega,λ_ _ _ _ h=>h⟩⟩
   refine yE s1 s2 λH13 n13 f13=>?_
   have f14:=f12.trans (f13.kb (b:=b) (by omega))
   cases h2:o.same p.m with
   |true=>
    simp only[h2,cond_true]at hk
    simp only[go_sem]
    exact hk _ _ (f3.trans f14)
   |false=>
    simp only[h2,cond_false]at hk
    simp only[go_sem,DJ (show j+1<9223372036854775808 by omega)]
    exact next _ _ f14 hk
 ·rintro I q ⟨H3,n3,rfl,f3,hn3,ho,g3,hk⟩
  show Ii lfp G (Runs F G) k I (.ptr i 0) (.ptr n 0) x (.int .i64 (.ofNat cs.length) 0) (.int .i64 (.ofNat cs.length) 0) H3 n3
  delta Ii
  rw[List.drop_eq_nil_of_le (Nat.le_refl _)]at hk
  simp only[go_sem,Bh,Nat.lt_irrefl,decide_false]
  delta QF
  exact hk _ _ f3
def jC(fs:Tab)(f:PF):Bool:=match V6 fs f.own f.f.nm with
 |none=>false
 |some o=>o.2.is f.f.ty
def gX(fs:Tab)(p:Pool):Bool:=p.names.all (λc=>[(⟨c,false⟩:Ty)].all (TJ fs))&&(p.types.all (TJ fs)&&(p.fields.all (jC fs)&&p.CV.all λm=>(jl fs m).isSome))
section
variable{G:AX}{H0 H:Heap}{n0 n i t a b fm e:Nat}{vn:V}{fs:Tab}{p:Pool}{v0 v1 v2 v3 v4:V}{ws:List V}{k:KV}
structure AGs(G:AX)(H0:Heap)(n0:Nat)(H:Heap)(n b e:Nat)(v0 v1 v2 v3 v4:V):Prop where
 f:Kb b H0 n0 H n
 en:e<n
 e0:n0<=e
 g:T.get H e=some (one [v0,v1,v2,v3,v4])
theorem AGs.kb{H':Heap}{n':Nat}(h:AGs G H0 n0 H n b e v0 v1 v2 v3 v4)(hb:b<n0)(f:Kb b H n H' n'):AGs G H0 n0 H' n' b e v0 v1 v2 v3 v4:=
 ⟨h.f.trans f,Nat.lt_of_lt_of_le h.en f.le,h.e0,f.get h.g h.en (by have:=h.e0;omega)⟩
theorem AK7(h:Tz G H0 n0 i t a b fm vn fs)(hfs:fs.length<=1000)(hp:FD G H0 n0 p v0 v1 v2 v3 v4 ws)(hc:AGs G H0 n0 H n b e v0 v1 v2 v3 v4)
 (hk:∀H' n',Kb b H0 n0 H' n'->k (.bool (p.CV.all λm=>(jl fs m).isSome)) H' n'):LP lfp G (Runs F G) k (.ptr i 0) (.ptr e 0) H n:=by
 delta LP
 have hbn:=h.tab.bn
 have hbig:=hp.b4
 have l4:lenV v4=some (.int .i64 (.ofNat p.CV.length) 0):=by rw[hp.e4.len,List.length_zipWith,hp.yF,Nat.min_self]
 simp only[go_sem,Nat.reduceAdd,AU (off:=4) hc.g (v:=v4) rfl,l4]
 refine BN (N:=p.CV.length) (J:=λj q=>∃H' n',q=(.ptr i 0,v4,.int .i64 (.ofNat p.CV.length) 0,.int .i64 (.ofNat j) 0,H',n')/\Kb b H0 n0 H' n'/\
  (∀H' n',Kb b H0 n0 H' n'->k (.bool ((p.CV.drop j).all λm=>(jl fs m).isSome)) H' n')) ?_ ?_ ⟨H,n,rfl,hc.f,hk⟩
 ·rintro I j q hlt ⟨H3,n3,rfl,f3,hk⟩ ih
  show IY lfp G (Runs F G) k I (.ptr i 0) v4 (.int .i64 (.ofNat p.CV.length) 0) (.int .i64 (.ofNat j) 0) H3 n3
  delta IY
  have hw:j<ws.length:=by rw[hp.yF];exact hlt
  have hp3:=hp.ke (f3.ke h.tab.seen)
  have h3n:=f3.le
  obtain⟨q,hp',hld⟩:=hp3.e4.at (i:=j) (c:=p.CV[j].cells ws[j]) (by rw[List.getElem?_zipWith];simp[hlt,hw])
  have hty:=hp3.at4 j _ _ (List.getElem?_eq_getElem hlt) (List.getElem?_eq_getElem hw)
  rw[List.drop_eq_getElem_cons hlt,List.all_cons]at hk
  generalize p.CV[j]=m at hld hty hk
  generalize ws[j]=w at hld hty
  unfold PM.cells at hld
  simp only[go_sem,Nat.reduceAdd,Bh,hlt,decide_true,hp',Bq hld]
  rw[T.set_set]
  refine run_set λH4 f4 g4=>?_
  have f4':=f4.kb (b:=b) (by omega)
  refine ARA (p:=m) (h.kb (f3.trans f4')) hfs ⟨w,rfl,hty.kp f4⟩ λH5 n5 f5=>?_
  have f6:=f3.trans (f4'.trans f5)
  simp only[go_sem,Bl]
  cases h1:(jl fs m).isSome with
  |false=>simp only[h1,Bool.false_and]at hk;simp only[Bool.not_false,go_sem];exact hk _ _ f6
  |true=>
   simp only[h1,Bool.true_and]at hk
   simp only[Bool.not_true,go_sem,DJ (show j+1<9223372036854775808 by unfold big at hbig;omega)]
   exact ih _ ⟨_,_,rfl,f6,hk⟩
 ·rintro I q ⟨H3,n3,rfl,f3,hk⟩
  show IY lfp G (Runs F G) k I (.ptr i 0) v4 (.int .i64 (.ofNat p.CV.length) 0) (.int .i64 (.ofNat p.CV.length) 0) H3 n3
  delta IY
  rw[List.drop_eq_nil_of_le (Nat.le_refl _)]at hk
  simp only[go_sem,Bh,Nat.lt_irrefl,decide_false]
  delta QJ
  exact hk _ _ f3
theorem ANg(h:Tz G H0 n0 i t a b fm vn fs)(hfs:fs.length<=1000)(hp:FD G H0 n0 p v0 v1 v2 v3 v4 ws)(hc:AGs G H0 n0 H n b e v0 v1 v2 v3 v4)
 (hk:∀H' n',Kb b H0 n0 H' n'->k (.bool (p.fields.all (jC fs)&&p.CV.all λm=>(jl fs m).isSome)) H' n'):
 lfp (V×V×V×V×V×Heap×Nat) (O9 lfp G (Runs F G) k) (.ptr i 0,.ptr e 0,v3,.int .i64 (.ofNat p.fields.length) 0,.int .i64 (.ofNat 0) 0,H,n):=by
 have hbn:=h.tab.bn
 have hbig:=hp.b3
 refine BN (N:=p.fields.length) (J:=λj q=>∃H' n',q=(.ptr i 0,.ptr e 0,v3,.int .i64 (.ofNat p.fields.length) 0,.int .i64 (.ofNat j) 0,H',n')/\AGs G H0 n0 H' n' b e v0 v1 v2 v3 v4/\
  (∀H' n',Kb b H0 n0 H' n'->k (.bool ((p.fields.drop j).all (jC fs)&&p.CV.all λm=>(jl fs m).isSome)) H' n')) ?_ ?_ ⟨H,n,rfl,hc,hk⟩
 ·rintro I j q hlt ⟨H3,n3,rfl,hc,hk⟩ ih
  show Ih lfp G (Runs F G) k I (.ptr i 0) (.ptr e 0) v3 (.int .i64 (.ofNat p.fields.length) 0) (.int .i64 (.ofNat j) 0) H3 n3
  delta Ih
  have f3:=hc.f
  have hp3:=hp.ke (f3.ke h.tab.seen)
  have h3n:=f3.le
  obtain⟨q,hp',hld⟩:=hp3.e3.at (i:=j) (c:=p.fields[j].cells) (by simp[hlt])
  rw[List.drop_eq_getElem_cons hlt,List.all_cons]at hk
  generalize p.fields[j]=m at hld hk
  unfold PF.cells at hld
  simp only[go_sem,Nat.reduceAdd,Bh,hlt,decide_true,hp',Bq hld]
  rw[T.set_set]
  have g4:=T.Ai H3 n3 (one [m.f.nm.v,m.f.ty.nm.v,.bool m.f.ty.arr,m.own.v])
  have f4:Kp H3 n3 (T.set H3 n3 (one [m.f.nm.v,m.f.ty.nm.v,.bool m.f.ty.arr,m.own.v])) (n3+1):=(Kp.refl _ _).new _ (Nat.le_refl _) (by omega)
  generalize T.set H3 n3 (one [m.f.nm.v,m.f.ty.nm.v,.bool m.f.ty.arr,m.own.v])=H4 at g4 f4
  have f4':=f4.kb (b:=b) (by omega)
  have hi4:=h.kb (f3.trans f4')
  simp only[go_sem,Nat.reduceAdd,AU (off:=0) hi4.at' (v:=.ptr t 0) rfl,AU (off:=3) g4 (v:=m.own.v) rfl,AU (off:=0) g4 (v:=m.f.nm.v) rfl]
  refine run_set λH5 f5 g5=>?_
  have f5':=f5.kb (b:=b) (by omega)
  have f5t:=f4'.trans f5'
  refine AI8 (c:=m.own) (s:=m.f.nm) (h.tab.kb (f3.trans f5t)) hfs λH6 n6 f6=>?_
  have f6t:=f5t.trans f6
  have h6n:=f6.le
  have g6:=f6.get g5 (by omega) (by omega)
  have g64:=f6.get (f5.get g4 (by omega)) (by omega) (by omega)
  unfold Ty.v Ty.cells
  simp only[go_sem]
  rw[Gq (m:=2) g6 (by omega) rfl rfl]
  have f7:Kb b H3 n3 (T.set H6 (n3+1) (one [((V6 fs m.own m.f.nm).getD ((0,0),tyZ)).2.nm.v,.bool ((V6 fs m.own m.f.nm).getD ((0,0),tyZ)).2.arr])) n6:=
   f6t.trans' (λid hid=>T.Ac _ _ (by omega)) (Nat.le_refl _) (by omega)
  have g7:=T.Ai H6 (n3+1) (one [((V6 fs m.own m.f.nm).getD ((0,0),tyZ)).2.nm.v,.bool ((V6 fs m.own m.f.nm).getD ((0,0),tyZ)).2.arr])
  have g74:T.get (T.set H6 (n3+1) (one [((V6 fs m.own m.f.nm).getD ((0,0),tyZ)).2.nm.v,.bool ((V6 fs m.own m.f.nm).getD ((0,0),tyZ)).2.arr])) n3=_:=(T.Ac _ _ (by omega)).trans g64
  generalize T.set H6 (n3+1) (one [((V6 fs m.own m.f.nm).getD ((0,0),tyZ)).2.nm.v,.bool ((V6 fs m.own m.f.nm).getD ((0,0),tyZ)).2.arr])=H7 at f7 g7 g74
  simp only[Bl,go_sem]
  unfold jC at hk
  cases h1:V6 fs m.own m.f.nm with
  |none=>rw[h1]at hk;simp only[Option.isSome_none,Bool.not_false,go_sem];exact hk _ _ (f3.trans f7)
  |some o=>
   rw[h1]at hk g7
   simp only[Option.getD_some]at g7 hk
   have e1:Cc (.agg [.str,.bool]) true (.agg [o.2.nm.v,.bool o.2.arr]) (.agg [m.f.ty.nm.v,.bool m.f.ty.arr])=_:=AHP o.2 m.f.ty
   simp only[Option.isSome_some,Bool.not_true,go_sem,Nat.reduceAdd,Cb (m:=2) g7 (by omega) rfl,show Ae 2 (.ptr n3 1) G H7=some (.agg [m.f.ty.nm.v,.bool m.f.ty.arr])from G7 g74 (by omega) (by show 3<=4;omega),e1]
   cases h2:o.2.is m.f.ty with
   |false=>simp only[h2,Bool.false_and]at hk;simp only[Bool.not_false,go_sem];exact hk _ _ (f3.trans f7)
   |true=>
    simp only[h2,Bool.true_and]at hk
    simp only[Bool.not_true,go_sem,DJ (show j+1<9223372036854775808 by unfold big at hbig;omega)]
    exact ih _ ⟨_,_,rfl,hc.kb (G:=G) hbn f7,hk⟩
 ·rintro I q ⟨H3,n3,rfl,hc,hk⟩
  show Ih lfp G (Runs F G) k I (.ptr i 0) (.ptr e 0) v3 (.int .i64 (.ofNat p.fields.length) 0) (.int .i64 (.ofNat p.fields.length) 0) H3 n3
  delta Ih
  rw[List.drop_eq_nil_of_le (Nat.le_refl _)]at hk
  simp only[go_sem,Bh,Nat.lt_irrefl,decide_false]
  exact AK7 h hfs hp hc hk
theorem AJD(i:Nat):GK (.ptr i 0) (.ptr i 0)=true:=by
 show band (Nat.beq i i) (Nat.beq 0 0)=true
 simp
theorem ARe(h:Tz G H n i t a b fm vn fs)(hfs:fs.length<=1000)(hp:FD G H n p v0 v1 v2 v3 v4 ws)
 (hk:∀H' n',Kb b H n H' n'->k (.bool (gX fs p)) H' n'):Runs F G ah [.ptr i 0,.agg [v0,v1,v2,v3,v4]] H n k:=by
 refine BL (s:=TY (MN lfp G)) UZ (by obtain⟨h,o⟩:=ZY BK G;rw[UZ]at h;cases h;exact o) ?_
 show MN lfp G (Runs F G) (.ptr i 0) (.agg [v0,v1,v2,v3,v4]) H n k
 delta MN
 have hbn:=h.tab.bn
 have hbig:=hp.b1
 unfold gX at hk
 refine Ez λH1 f1 g1=>?_
 have f1':=f1.kb (b:=b) hbn
 simp only[go_sem,Nat.reduceAdd,AU (off:=1) g1 (v:=v1) rfl,hp.e1.len,Gf]
 have hc:AGs G H n H1 (n+1) b n v0 v1 v2 v3 v4:=⟨f1',by omega,Nat.le_refl _,g1⟩
 refine BN (N:=p.names.length) (J:=λj q=>∃H' n',q=(.ptr i 0,.ptr n 0,v1,.int .i64 (.ofNat p.names.length) 0,.int .i64 (.ofNat j) 0,H',n')/\AGs G H n H' n' b n v0 v1 v2 v3 v4/\
  (∀H' n',Kb b H n H' n'->k (.bool ((p.names.drop j).all (λc=>[(⟨c,false⟩:Ty)].all (TJ fs))&&(p.types.all (TJ fs)&&(p.fields.all (jC fs)&&p.CV.all λm=>(jl fs m).isSome)))) H' n')) ?_ ?_ ⟨H1,n+1,rfl,hc,hk⟩
 ·rintro I j q hlt ⟨H3,n3,rfl,hc,hk⟩ ih
  show Ig lfp G (Runs F G) k I (.ptr i 0) (.ptr n 0) v1 (.int .i64 (.ofNat p.names.length) 0) (.int .i64 (.ofNat j) 0) H3 n3
  delta Ig
  have f3:=hc.f
  have hp3:=hp.ke (f3.ke h.tab.seen)
  have h3n:=f3.le
  have hi3:=h.kb f3
  obtain⟨q,hp',hld⟩:=hp3.e1.at (O4 hlt)
  have hok:=hp.o1 _ (List.getElem_mem hlt)
  rw[List.drop_eq_getElem_cons hlt,List.all_cons]at hk
  generalize p.names[j]=m at hld hk hok
  simp only[go_sem,Nat.reduceAdd,Bh,hlt,decide_true,hp',Lh hld,AU (off:=0) hi3.at' (v:=.ptr t 0) rfl]
  refine wF λH4 n4 f4=>?_
  have f4':=f4.kb (b:=b) (by omega)
  have hi4:=h.kb (f3.trans f4')
  have h4n:=f4.le
  simp only[go_sem,Nat.reduceAdd,AU (off:=0) hi4.at' (v:=.ptr t 0) rfl,AJD]
  rw[xY (z:=2) (L:=[.str m.1 m.2,.bool false]) rfl]
  refine run_set λH5 f5 g5=>?_
  have f5':=f5.kb (b:=b) (by omega)
  refine iP (xs:=[(⟨m,false⟩:Ty)]) (h.tab.kb (f3.trans (f4'.trans f5'))) ⟨jS (by omega) rfl g5,λid hid=>by cases hid;omega,by show 1<big;decide,λx hx=>by simp at hx;subst hx;exact hok⟩ λH6 n6 f6=>?_
  have f7:=f4'.trans (f5'.trans f6)
  simp only[go_sem,Bl]
  cases h1:[(⟨m,false⟩:Ty)].all (TJ fs)with
  |false=>simp only[h1,Bool.false_and]at hk;simp only[Bool.not_false,go_sem];exact hk _ _ (f3.trans f7)
  |true=>
   simp only[h1,Bool.true_and]at hk
   simp only[Bool.not_true,go_sem,DJ (show j+1<9223372036854775808 by unfold big at hbig;omega)]
   exact ih _ ⟨_,_,rfl,hc.kb (G:=G) hbn f7,hk⟩
 ·rintro I q ⟨H3,n3,rfl,hc,hk⟩
  show Ig lfp G (Runs F G) k I (.ptr i 0) (.ptr n 0) v1 (.int .i64 (.ofNat p.names.length) 0) (.int .i64 (.ofNat p.names.length) 0) H3 n3
  delta Ig
  rw[List.drop_eq_nil_of_le (Nat.le_refl _)]at hk
  simp only[List.all_nil,Bool.true_and]at hk
  simp only[go_sem,Bh,Nat.lt_irrefl,decide_false]
  delta Q7
  have f3:=hc.f
  have hi3:=h.kb f3
  have hp3:=hp.ke (f3.ke h.tab.seen)
  simp only[go_sem,Nat.reduceAdd,AU (off:=0) hi3.at' (v:=.ptr t 0) rfl,AU (off:=2) hc.g (v:=v2) rfl]
  refine iP (xs:=p.types) hi3.tab hp3.t2 λH6 n6 f6=>?_
  have hc6:=hc.kb (G:=G) hbn f6
  have l3:lenV v3=some (.int .i64 (.ofNat p.fields.length) 0):=by rw[hp.e3.len,List.length_map]
  simp only[Bl,go_sem]
  cases h1:p.types.all (TJ fs)with
  |false=>simp only[h1,Bool.false_and]at hk;simp only[Bool.not_false,go_sem];exact hk _ _ (f3.trans f6)
  |true=>
   simp only[h1,Bool.true_and]at hk
   simp only[Bool.not_true,go_sem,Nat.reduceAdd,AU (off:=3) hc6.g (v:=v3) rfl,l3]
   exact ANg h hfs hp hc6 hk
end
structure Jf(G:AX)(H:Heap)(n:Nat)(v:V)(BM:List Fl):Prop where
 is:∃LS:ET,El G H v 10 LS/\LS.length=BM.length/\∀(i:Nat) (L:LV) (f:Fl),LS[i]? =some L->BM[i]? =some f->Vt G H n (.agg L) f
 lo:Lo v n
 lt:BM.length<big
theorem Jf.ke{G:AX}{H H':Heap}{n n':Nat}{v:V}{BM:List Fl}(h:Jf G H n v BM)(f:Ke G H n H' n'):Jf G H' n' v BM:=by
 obtain⟨⟨LS,h1,h2,h3⟩,hl,ht⟩:=h
 exact⟨⟨LS,h1.ke hl f,h2,λi L c x y=>(h3 i L c x y).ke f⟩,hl.mono f.le,ht⟩
theorem Jf.len{G:AX}{H:Heap}{n:Nat}{v:V}{BM:List Fl}(h:Jf G H n v BM):lenV v=some (.int .i64 (.ofNat BM.length) 0):=by
 obtain⟨⟨LS,h1,h2,h3⟩,hl,ht⟩:=h;rw[h1.len,h2]
theorem Jf.at{G:AX}{H:Heap}{n:Nat}{v:V}{BM:List Fl}(h:Jf G H n v BM){i:Nat}(hi:i<BM.length):∃p vf vm v0 v1 v2 v3 v4 vb mws ws bws,Ad 10 v (.int .i64 (.ofNat i) 0)=some p/\
 lC p G H 10=some [BM[i].face.nm.v,BM[i].face.sup.v,vf,vm,v0,v1,v2,v3,v4,vb]/\dP G H n [BM[i].face.nm.v,BM[i].face.sup.v,vf,vm,v0,v1,v2,v3,v4,vb] BM[i] vf vm v0 v1 v2 v3 v4 vb mws ws bws:=by
 obtain⟨⟨LS,h1,h2,h3⟩,hl,ht⟩:=h
 obtain⟨p,hp,hld⟩:=h1.at (i:=i) (c:=LS[i]'(by omega)) (List.getElem?_eq_getElem _)
 obtain⟨L,vf,vm,v0,v1,v2,v3,v4,vb,mws,ws,bws,hf,e⟩:=h3 i _ _ (List.getElem?_eq_getElem (by omega)) (List.getElem?_eq_getElem hi)
 have e':LS[i]'(by omega)=L:=by injection e
 have:=hf.is
 subst this
 rw[e']at hld
 exact⟨p,vf,vm,v0,v1,v2,v3,v4,vb,mws,ws,bws,hp,hld,hf⟩
structure JR(G:AX)(H:Heap)(n a:Nat)(fs:List (St×Fl)):Prop where
 is:∃ps,lV H a ps/\keyed ps fs/\∀s v c,Cj ps s=some v->Cj fs s=some c->Vt G H n v c
theorem JR.ke{G:AX}{H H':Heap}{n n' a:Nat}{fs:List (St×Fl)}(h:JR G H n a fs)(f:Ke G H n H' n')(e:T.get H' a=T.get H a):JR G H' n' a fs:=by
 obtain⟨ps,h1,h2,h3⟩:=h.is
 exact⟨ps,iq h1 e,h2,λs v c x y=>(h3 s v c x y).ke f⟩
theorem JR.put{G:AX}{H':Heap}{n a:Nat}{fs:List (St×Fl)}{v:V}{s:St}{c:Fl}{ps:List (St×V)}(hkey:keyed ps fs)(hv:∀s v c,Cj ps s=some v->Cj fs s=some c->Vt G H' n v c)(h1:lV H' a (Vp s v ps))(hc:Vt G H' n v c):
 JR G H' n a (Vp s c fs):=
 ⟨_,h1,yP _ _ _ hkey,λt w d h2 h3=>by
  rw[Q8]at h2 h3
  by_cases e:s=t
  ·rw[if_pos e]at h2 h3;cases h2;cases h3;exact hc
  ·rw[if_neg e]at h2 h3;exact hv _ _ _ h2 h3⟩
def Uu(fs:List (St×Fl)):List Fl->List (St×Fl)
 |[]=>fs
 |c::cs=>Uu (Vp c.face.nm c fs) cs
abbrev UM(BM:List Fl):=Uu [] BM
noncomputable def WH:List (St×Fl)->List Fl->Int
 |_,[]=>0
 |acc,f::fs=>bif !OJ f then 2 else bif (Cj acc f.face.nm).isSome then 6 else WH (Vp f.face.nm f acc) fs
def link2(t:Tab):List Fl->Int
 |[]=>0
 |f::fs=>bif !(QV t f.face.nm==0)then QV t f.face.nm else bif !gX t f.pool then 30 else link2 t fs
abbrev CS(BM:List Fl):List Fc:=BM.map λf=>f.face
abbrev KH(BM:List Fl):List St:=BM.map λf=>f.face.nm
noncomputable def UD(BM:List Fl):Int:=bif decide (200<BM.length)then 4 else bif !(WH [] BM==0)then WH [] BM else link2 (Fh (CS BM)) BM
theorem nV:∀(cs:List Fc) (fs:Tab),(XC fs cs).length<=fs.length+cs.length
 |[],_=>Nat.le_refl _
 |c::cs,fs=>by
  have h1:∀(fs:Tab),(Vp c.nm c fs).length<=fs.length+1:=by
   intro fs
   induction fs with
   |nil=>exact Nat.le_refl _
   |cons p ps ih=>unfold Vp;split<;>simp only[List.length_cons]<;>omega
  have:=nV cs (Vp c.nm c fs)
  have:=h1 fs
  simp only[XC,List.length_cons];omega
theorem zA:∀(cs:List Fc) (fs:Tab) (s:St) (c:Fc),Cj (XC fs cs) s=some c->c∈cs∨Cj fs s=some c
 |[],_,_,_,h=>.inr h
 |d::cs,fs,s,c,h=>by
  rcases zA cs _ s c h with h|h
  ·exact .inl (List.mem_cons_of_mem _ h)
  ·rw[Q8]at h
   split at h
   ·cases h;exact .inl (List.mem_cons_self ..)
   ·exact .inr h
theorem ADn{cs:List Fc}{s:St}{c:Fc}(h:Cj (Fh cs) s=some c):c∈cs:=by
 rcases zA cs [] s c h with h|h
 ·exact h
 ·cases h
structure APq(G:AX)(H:Heap)(n m i:Nat)(BM:List Fl):Prop where
 is:∃t a b fm vn,Tz G H n i t a b fm vn (Fh (CS BM))/\JR G H n fm (UM BM)/\fm<n/\fm≠b/\El G H vn 1 (strs (KH BM))/\Lo vn n/\m<=i/\m<=t/\m<=a/\m<=b/\m<=fm
theorem Gr.ok{G:AX}{H:Heap}{m z:Nat}{v:V}{LS:ET}(h:Gr G H m z v LS):YR v=true/\Aq v=[v]:=by cases h<;>exact⟨rfl,rfl⟩
theorem AKs{G:AX}(hG:QG G){H0:Heap}{n0 i t a b fm:Nat}{vn v:V}{BM:List Fl}(hfs:(Fh (CS BM)).length<=1000)(hps:∀s c,Cj (Fh (CS BM)) s=some c->∀m∈c.ms,m.ps.length<=100000)
 (h:Tz G H0 n0 i t a b fm vn (Fh (CS BM))) (hf:Jf G H0 n0 v BM) {k:KV}
 (hk0:link2 (Fh (CS BM)) BM=0->∀H' n',Kb b H0 n0 H' n'->k (.Df [.ptr i 0,.int .i64 (.ofNat 0) 0]) H' n')
 (hk1:link2 (Fh (CS BM)) BM≠0->∀H' n',Kb b H0 n0 H' n'->k (.Df [.OH,.int .i64 (link2 (Fh (CS BM)) BM) 0]) H' n'):
 lfp (V×V×V×V×Heap×Nat) (WU lfp G (Runs F G) k) (.ptr i 0,v,.int .i64 (.ofNat BM.length) 0,.int .i64 (.ofNat 0) 0,H0,n0):=by
 generalize hT:Fh (CS BM)=tb at*
 have hbn:=h.tab.bn
 obtain⟨R,hR⟩:∃R,R=link2 tb BM:=⟨_,rfl⟩
 rw[<-hR]at hk0 hk1
 have hbig:=hf.lt
 refine BN (N:=BM.length) (J:=λj q=>∃H' n',q=(.ptr i 0,v,.int .i64 (.ofNat BM.length) 0,.int .i64 (.ofNat j) 0,H',n')/\Kb b H0 n0 H' n'/\link2 tb (BM.drop j)=R) ?_ ?_ ⟨H0,n0,rfl,Kb.refl _ _ _,hR.symm⟩
 ·rintro I j q hlt ⟨H3,n3,rfl,f3,hk⟩ ih
  show Pv lfp G (Runs F G) k I (.ptr i 0) v (.int .i64 (.ofNat BM.length) 0) (.int .i64 (.ofNat j) 0) H3 n3
  delta Pv
  have h3n:=f3.le
  obtain⟨q,vf,vm,v0,v1,v2,v3,v4,vb,mws,ws,bws,hp,hld,hfile⟩:=(hf.ke (f3.ke h.tab.seen)).at hlt
  rw[List.drop_eq_getElem_cons hlt]at hk
  unfold link2 at hk
  generalize BM[j]=m at hld hk hfile
  simp only[go_sem,Nat.reduceAdd,Bh,hlt,decide_true,hp,Bq hld]
  rw[T.set_set]
  have g4:=T.Ai H3 n3 (one [m.face.nm.v,m.face.sup.v,vf,vm,v0,v1,v2,v3,v4,vb])
  have f4:Kp H3 n3 (T.set H3 n3 (one [m.face.nm.v,m.face.sup.v,vf,vm,v0,v1,v2,v3,v4,vb])) (n3+1):=(Kp.refl _ _).new _ (Nat.le_refl _) (by omega)
  generalize T.set H3 n3 (one [m.face.nm.v,m.face.sup.v,vf,vm,v0,v1,v2,v3,v4,vb])=H4 at g4 f4
  have f4':=f4.kb (b:=b) (by omega)
  have hi4:=h.kb (f3.trans f4')
  simp only[go_sem,Nat.reduceAdd,AU (off:=0) hi4.at' (v:=.ptr t 0) rfl,AU (off:=0) g4 (v:=m.face.nm.v) rfl]
  refine APR hG (s:=m.face.nm) hi4.tab hfs hps λH5 n5 f5=>?_
  have f6:=f4'.trans f5
  have h5n:=f5.le
  have g5:=f5.get g4 (by omega) (by omega)
  simp only[ALl,go_sem]
  rw[show(QV tb m.face.nm==Int.ofNat 0)=(QV tb m.face.nm==0)from rfl]
  cases h1:QV tb m.face.nm==0 with
  |false=>
   rw[h1]at hk
   simp only[Bool.not_false,cond_true]at hk
   simp only[Bool.not_false,go_sem]
   rw[hk]
   refine hk1 ?_ _ _ (f3.trans f6)
   rw[<-hk];simpa using h1
  |true=>
   rw[h1]at hk
   simp only[Bool.not_true,cond_false]at hk
   simp only[Bool.not_true,go_sem,Nat.reduceAdd,show Ae 5 (.ptr n3 4) G H5=some (.agg [v0,v1,v2,v3,v4])from G7 g5 (by omega) (by show 9<=10;omega)]
   refine ARe (h.kb (f3.trans f6)) hfs (p:=m.pool) (hfile.pool.ke ((f6.ke (f3.seen h.tab.seen)))) λH7 n7 f7=>?_
   have f8:=f3.trans (f6.trans f7)
   simp only[Bl,go_sem]
   cases h2:gX tb m.pool with
   |false=>
    rw[h2]at hk
    simp only[Bool.not_false,cond_true]at hk
    simp only[Bool.not_false,go_sem]
    have:=hk1 (by rw[<-hk];decide) _ _ f8
    rw[<-hk]at this;exact this
   |true=>
    rw[h2]at hk
    simp only[Bool.not_true,cond_false]at hk
    simp only[Bool.not_true,go_sem,DJ (show j+1<9223372036854775808 by unfold big at hbig;omega)]
    exact ih _ ⟨_,_,rfl,f8,hk⟩
 ·rintro I q ⟨H3,n3,rfl,f3,hk⟩
  show Pv lfp G (Runs F G) k I (.ptr i 0) v (.int .i64 (.ofNat BM.length) 0) (.int .i64 (.ofNat BM.length) 0) H3 n3
  delta Pv
  rw[List.drop_eq_nil_of_le (Nat.le_refl _)]at hk
  simp only[go_sem,Bh,Nat.lt_irrefl,decide_false]
  delta X7
  exact hk0 hk.symm _ _ f3
abbrev AEP:LV:=[.str 0 0,.str 0 0,.AZ,.AZ,.AZ,.AZ,.AZ,.AZ,.AZ,.AZ]
theorem Vt.cells{G:AX}{H:Heap}{n:Nat}{v:V}{f:Fl}(h:Vt G H n v f):∃L:LV,v=.agg L/\L.length=10:=by
 obtain⟨L,vf,vm,v0,v1,v2,v3,v4,vb,mws,ws,bws,h,hv⟩:=h
 exact⟨L,hv,by rw[h.is];rfl⟩
theorem JR.look{G:AX}{H:Heap}{n a:Nat}{fs:List (St×Fl)}(h:JR G H n a fs)(s:St):∃L:LV,ACN .str true (.agg AEP) (.map a) s.v H=some (.Df [.agg L,.bool (Cj fs s).isSome])/\L.length=10/\∀f,Cj fs s=some f->Vt G H n (.agg L) f:=by
 obtain⟨ps,h1,h2,h3⟩:=h.is
 have hs:=eP h2 s
 rw[show s.v=.str s.1 s.2 from rfl,ACK h1]
 cases hl:Cj ps s with
 |none=>
  rw[hl]at hs
  cases hx:Cj fs s with
  |none=>exact⟨AEP,rfl,rfl,λf h=>by cases h⟩
  |some x=>rw[hx]at hs;cases hs
 |some v=>
  rw[hl]at hs
  cases hx:Cj fs s with
  |none=>rw[hx]at hs;cases hs
  |some x=>
   have hv:=h3 _ _ _ hl hx
   obtain⟨L,rfl,hL⟩:=hv.cells
   exact⟨L,rfl,hL,λf h=>by cases h;exact hv⟩
theorem JR.up{G:AX}{H:Heap}{n n' a:Nat}{fs:List (St×Fl)}(h:JR G H n a fs)(hn:n<=n'):JR G H n' a fs:=h.ke ⟨hn,λ_ _ _ _ h=>h⟩ rfl
theorem qW{α β:Type}(g:α->β)(l:List α){j:Nat}(h:j<l.length):(l.take (j+1)).map g=(l.take j).map g++[g l[j]]:=by
 rw[List.take_add_one,List.getElem?_eq_getElem h,List.map_append];rfl
theorem ARH{G:AX}(hG:QG G)(hO:mF G){H:Heap}{n:Nat}{v:V}{BM:List Fl}(hf:Jf G H n v BM){k:KV}
 (hk0:UD BM=0->∀H' n' i,Kp H n H' n'->APq G H' n' n i BM->k (.Df [.ptr i 0,.int .i64 (.ofNat 0) 0]) H' n')
 (hk1:UD BM≠0->∀H' n',Kp H n H' n'->k (.Df [.OH,.int .i64 (UD BM) 0]) H' n'):Runs F G mX [v] H n k:=by
 refine BL (s:=MZ (Xc lfp G)) iO (by obtain⟨h,o⟩:=uo BK G;rw[iO]at h;cases h;exact o) ?_
 show Xc lfp G (Runs F G) v H n k
 delta Xc
 simp only[hf.len,go_sem,Iw]
 unfold UD at hk0 hk1
 obtain⟨R,hR⟩:∃R,R=WH [] BM:=⟨_,rfl⟩
 rw[<-hR]at hk0 hk1
 obtain⟨Q,hQ⟩:∃Q,Q=UM BM:=⟨_,rfl⟩
 cases AFt:decide (200<BM.length)with
 |true=>rw[AFt]at hk1;simp only[go_sem];exact hk1 (show(4:Int)≠0 by decide) _ _ (Kp.refl _ _)
 |false=>
 have AFt:=of_decide_eq_false AFt
 rw[show decide (200<BM.length)=false from decide_eq_false AFt]at hk0 hk1
 simp only[cond_false]at hk0 hk1
 simp only[go_sem,AJC,Nat.reduceAdd,show BA [V.OH,.ADG,.AZ] [(1,1,.c (.map n))]=some (.agg [.OH,.map n,.AZ])from rfl]
 have f1:Kp H n (T.set (T.set H n (.map [] 0)) (n+1) (one [.OH,.map n,.AZ])) (n+1+1):=((Kp.refl H n).new (m:=n+1) _ (Nat.le_refl _) (by omega)).new _ (by omega) (by omega)
 refine BN (N:=BM.length) (J:=λj q=>∃H' n' va vn acc,∃LSf:ET,q=(v,va,.ptr (n+1) 0,v,.int .i64 (.ofNat BM.length) 0,.int .i64 (.ofNat j) 0,H',n')/\Kp H n H' n'/\n+1<n'/\T.get H' (n+1)=some (one [.OH,.map n,vn])/\
  JR G H' n n acc/\Own G H' (n+2) n' 1 vn (strs (KH (BM.take j)))/\Own G H' (n+2) n' 4 va LSf/\LSf.length=j/\(∀(i:Nat) (L:LV) (c:Fc),LSf[i]? =some L->(CS (BM.take j))[i]? =some c->Vu G H' n (.agg L) c)/\
  WH acc (BM.drop j)=R/\Uu acc (BM.drop j)=Q/\(∀f∈BM.take j,OJ f=true)) ?_ ?_
  ⟨_,_,.AZ,.AZ,[],[],rfl,f1,by omega,T.Ai ..,⟨[],⟨[],0,by rw[T.Ac _ _ (by omega),T.Ai],rfl⟩,rfl,λs v c h=>by cases h⟩,⟨.nil,uZ⟩,⟨.nil,uZ⟩,rfl,λi L c h=>by simp at h,hR.symm,hQ.symm,λf h=>by simp at h⟩
 ·rintro I j q hlt ⟨H3,n3,va,vn,acc,LSf,rfl,f3,hn3,g3,hacc,hvn,hva,hLS,hfv,hl1,hff,hok⟩ ih
  show Ph lfp G (Runs F G) k I v va (.ptr (n+1) 0) v (.int .i64 (.ofNat BM.length) 0) (.int .i64 (.ofNat j) 0) H3 n3
  delta Ph
  obtain⟨q,vf,vm,v0,v1,v2,v3,v4,vb,mws,ws,bws,hp,hld,hfile⟩:=(hf.ke (f3.ke.low (Nat.le_refl _))).at hlt
  have htn:=qW (λf:Fl=>f.face.nm) BM hlt
  have htf:=qW (λf:Fl=>f.face) BM hlt
  have hto:=List.take_add_one (l:=BM) (i:=j)
  rw[List.getElem?_eq_getElem hlt]at hto
  rw[List.drop_eq_getElem_cons hlt]at hl1 hff
  unfold WH at hl1
  unfold Uu at hff
  generalize BM[j]=m at hld hl1 hff hfile htn htf hto
  simp only[go_sem,Nat.reduceAdd,Bh,hlt,decide_true,hp,Bq hld]
  rw[T.set_set]
  have g4:=T.Ai H3 n3 (one [m.face.nm.v,m.face.sup.v,vf,vm,v0,v1,v2,v3,v4,vb])
  have f4:Kp H3 n3 (T.set H3 n3 (one [m.face.nm.v,m.face.sup.v,vf,vm,v0,v1,v2,v3,v4,vb])) (n3+1):=(Kp.refl _ _).new _ (Nat.le_refl _) (by omega)
  generalize T.set H3 n3 (one [m.face.nm.v,m.face.sup.v,vf,vm,v0,v1,v2,v3,v4,vb])=H4 at g4 f4
  obtain⟨L,hlook,hL,-⟩:=(hacc.ke ((f4.ke).low (by omega)) (f4.same n (by omega))).look m.face.nm
  simp only[go_sem,Nat.reduceAdd,AU (off:=1) (f4.get g3 (by omega)) (v:=.map n) rfl,AU (off:=0) g4 (v:=m.face.nm.v) rfl,hlook]
  rw[AC6 (m:=10) rfl (by omega) hL,T.set_set]
  have f5:Kp H4 (n3+1) (T.set H4 (n3+1) (one L)) (n3+1+1):=(Kp.refl _ _).new _ (Nat.le_refl _) (by omega)
  generalize T.set H4 (n3+1) (one L)=H5 at f5
  have g5:=f5.get g4 (by omega)
  have f35:=f4.trans f5
  rw[Cb (m:=10) g5 (by omega) rfl,AB]
  refine AF2 hO (f:=m) ((hfile.ke ((f35.ke).low (by omega))).ke ⟨by omega,λ_ _ _ _ h=>h⟩) λH6 n6 f6=>?_
  have f36:=f35.trans f6
  have h6n:=f6.le
  have g6:=f6.get g5 (by omega)
  have gb:=f36.get g3 (by omega)
  simp only[Bl,go_sem]
  cases h1:OJ m with
  |false=>
   rw[h1]at hl1
   simp only[Bool.not_false,cond_true]at hl1
   rw[<-hl1]at hk1
   simp only[Bool.not_false,go_sem]
   exact hk1 (show(2:Int)≠0 by decide) _ _ (f3.trans f36)
  |true=>
  rw[h1]at hl1
  simp only[Bool.not_true,cond_false]at hl1
  simp only[Bool.not_true,go_sem]
  cases h2:(Cj acc m.face.nm).isSome with
  |true=>
   rw[h2]at hl1
   simp only[cond_true]at hl1
   rw[<-hl1]at hk1
   simp only[go_sem]
   exact hk1 (show(6:Int)≠0 by decide) _ _ (f3.trans f36)
  |false=>
  rw[h2]at hl1
  simp only[cond_false]at hl1
  simp only[go_sem,Nat.reduceAdd,AU (off:=1) gb (v:=.map n) rfl,AU (off:=0) g6 (v:=m.face.nm.v) rfl,Cb (m:=10) g6 (by omega) rfl]
  obtain⟨ps,hps,hkey,hval⟩:=(hacc.ke ((f36.ke).low (by omega)) (f36.same n (by omega))).is
  refine AFJ hps m.face.nm _ λH7 hm7 hs7=>?_
  have f7:Kp H6 n H7 n:=⟨Nat.le_refl _,λid hid=>hs7 id (by omega)⟩
  have g7:=(hs7 n3 (by omega)).trans g6
  have gb7:=(hs7 (n+1) (by omega)).trans gb
  have hacc7:JR G H7 n n (Vp m.face.nm m acc):=JR.put hkey (λs v c x y=>(hval s v c x y).ke f7.ke) hm7 ⟨_,vf,vm,v0,v1,v2,v3,v4,vb,mws,ws,bws,(hfile.ke ((f36.ke).low (by omega))).ke f7.ke,rfl⟩
  simp only[go_sem,Nat.reduceAdd,AU (off:=2) gb7 (v:=vn) rfl,AU (off:=0) g7 (v:=m.face.nm.v) rfl]
  refine AL8 (G:=G) (w:=m.face.nm.v) rfl rfl λH8 f8 e8=>?_
  have f68:∀id,id<n6->id≠n->T.get H8 id=T.get H6 id:=λid h hne=>(f8.same id h).trans (hs7 id hne)
  have hvn8:Own G H8 (n+2) (n6+1) 1 vn (strs (KH (BM.take j))):=⟨hvn.gr.mono λid hid=>(f68 id (by have:=hvn.lo id hid;omega) (by have:=(hvn.gr.lo hid).1;omega)).trans (f36.same id (hvn.lo id hid)),λid hid=>by have:=hvn.lo id hid;omega⟩
  have hlenn:(KH (BM.take j)).length=j:=by simp;omega
  refine hvn8.gr.app (by omega) hvn8.lo e8 ?_ ?_ ?_
  ·rw[Gf,hlenn];simp;omega
  ·intro vn' H9 gr9 hs9 hlo9
   have hvns:∀id,vn.Xt=some id->n+2<=id:=λid hid=>(hvn.gr.lo hid).1
   have gb9:T.get H9 (n+1)=some (one [.OH,.map n,vn]):=(hs9 (n+1) (by omega) (λh=>by have:=hvns _ h;omega)).trans ((f8.same (n+1) (by omega)).trans gb7)
   obtain⟨hok9,hvc9⟩:=Gr.ok gr9
   rw[AAq (m:=1) gb9 hok9 (by rw[hvc9];rfl) (by omega) (by show 2+1<=3;omega),hvc9]
   rw[show List.take 2 [V.OH,.map n,vn]++([vn']++List.drop (2+1) [V.OH,.map n,vn])=[.OH,.map n,vn']from rfl]
   have g9:T.get H9 n3=_:=(hs9 n3 (by omega) (λh=>by have:=hvn.lo _ h;omega)).trans ((f8.same n3 (by omega)).trans g7)
   have hs10:∀id,id≠n+1->T.get (T.set H9 (n+1) (one [.OH,.map n,vn'])) id=T.get H9 id:=λid h=>T.Ac _ _ (Ne.symm h)
   have gb10:=T.Ai H9 (n+1) (one [.OH,.map n,vn'])
   generalize T.set H9 (n+1) (one [.OH,.map n,vn'])=H10 at hs10 gb10
   have g10:T.get H10 n3=_:=(hs10 n3 (by omega)).trans g9
   rw[show Ae 4 (.ptr n3 0) G H10=some (.agg [m.face.nm.v,m.face.sup.v,vf,vm])from G7 g10 (by omega) (by show 4<=10;omega),AB]
   rw[xY (z:=4) (L:=[m.face.nm.v,m.face.sup.v,vf,vm]) rfl]
   have f11:Kp H10 (n6+1+1) (T.set H10 (n6+1+1) (.arr 4 1 (T.set (T.set .e 0 [.str 0 0,.str 0 0,.AZ,.AZ]) 0 [m.face.nm.v,m.face.sup.v,vf,vm]))) (n6+1+1+1):=(Kp.refl _ _).new _ (Nat.le_refl _) (by omega)
   have e11:=jS (G:=G) (z:=4) (by omega) rfl (T.Ai H10 (n6+1+1) (.arr 4 1 (T.set (T.set .e 0 [.str 0 0,.str 0 0,.AZ,.AZ]) 0 [m.face.nm.v,m.face.sup.v,vf,vm])))
   generalize T.set H10 (n6+1+1) (.arr 4 1 (T.set (T.set .e 0 [.str 0 0,.str 0 0,.AZ,.AZ]) 0 [m.face.nm.v,m.face.sup.v,vf,vm]))=H11 at f11 e11
   have keep:∀id,id<n3->id≠n->id≠n+1->vn.Xt≠some id->T.get H11 id=T.get H3 id:=λid a b c d=>
    (f11.same id (by omega)).trans ((hs10 id c).trans ((hs9 id (by omega) d).trans ((f68 id (by omega) b).trans (f36.same id a))))
   have hvas:∀id,va.Xt=some id->vn.Xt≠some id:=λid hid hid2=>by
    obtain⟨_,c,t,e1⟩:=hva.gr.lo hid
    obtain⟨_,c',t',e2⟩:=hvn.gr.lo hid2
    rw[e1]at e2;cases e2
   have hva11:Own G H11 (n+2) (n6+1+1+1) 4 va LSf:=⟨hva.gr.mono λid hid=>keep id (hva.lo id hid) (by have:=(hva.gr.lo hid).1;omega) (by have:=(hva.gr.lo hid).1;omega) (hvas id hid),λid hid=>by have:=hva.lo id hid;omega⟩
   refine hva11.gr.app (by omega) hva11.lo e11.2 ?_ ?_ ?_
   ·rw[hLS];simp;omega
   ·intro va' H12 gr12 hs12 hlo12
    simp only[go_sem,DJ (show j+1<9223372036854775808 by omega)]
    have hvas2:∀id,va.Xt=some id->n+2<=id:=λid hid=>(hva.gr.lo hid).1
    have k12:∀id,id<n->T.get H12 id=T.get H3 id:=λid hid=>(hs12 id (by omega) (λh=>by have:=hvas2 _ h;omega)).trans (keep id (by omega) (by omega) (by omega) (λh=>by have:=hvns _ h;omega))
    have k3:Kp H3 n H12 n:=⟨Nat.le_refl _,k12⟩
    have k7:Kp H7 n H12 n:=⟨Nat.le_refl _,λid hid=>by rw[k12 id hid,hs7 id (by omega)];exact(f36.same id (by omega)).symm⟩
    have hn12:T.get H12 n=T.get H7 n:=(hs12 n (by omega) (λh=>by have:=hvas2 _ h;omega)).trans ((f11.same n (by omega)).trans ((hs10 n (by omega)).trans ((hs9 n (by omega) (λh=>by have:=hvns _ h;omega)).trans (f8.same n (by omega)))))
    refine ih _ ⟨H12,_,va',vn',Vp m.face.nm m acc,LSf++[[m.face.nm.v,m.face.sup.v,vf,vm]],rfl,⟨by omega,λid hid=>(k12 id hid).trans (f3.same id hid)⟩,by omega,?_,hacc7.ke k7.ke hn12,?_,⟨gr12,hlo12⟩,by simp[hLS],?_,hl1,hff,?_⟩
    ·exact(hs12 (n+1) (by omega) (λh=>by have:=hvas2 _ h;omega)).trans ((f11.same (n+1) (by omega)).trans gb10)
    ·refine⟨?_,λid hid=>by have:=hlo9 id hid;omega⟩
     rw[show KH (BM.take (j+1))=KH (BM.take j)++[m.face.nm]from htn,strs,List.map_append]
     refine gr9.mono λid hid=>?_
     have h9:=hlo9 id hid
     have hlo:n+2<=id:=(gr9.lo hid).1
     refine(hs12 id (by omega) λh=>?_).trans ((f11.same id (by omega)).trans (hs10 id (by omega)))
     obtain⟨_,c,t,e1⟩:=gr9.lo hid
     obtain⟨_,c',t',e2⟩:=hva11.gr.lo h
     rw[f11.same id (by omega),hs10 id (by omega),e1]at e2;cases e2
    ·intro i L c hi hc
     rw[show CS (BM.take (j+1))=CS (BM.take j)++[m.face]from htf]at hc
     have hlf:(CS (BM.take j)).length=j:=by simp;omega
     by_cases hij:i<j
     ·rw[List.getElem?_append_left (by omega)]at hi hc
      exact(hfv i L c hi hc).ke k3.ke
     ·rw[List.getElem?_append_right (by omega)]at hi hc
      have:i=j:=by have:=(List.getElem?_eq_some_iff.1 hi).1;simp at this;omega
      subst this
      rw[hLS,Nat.sub_self]at hi
      rw[hlf,Nat.sub_self]at hc
      simp at hi hc
      subst hi;subst hc
      exact⟨vf,vm,mws,hfile.face.ke k3.ke,rfl⟩
    ·intro f hf'
     rw[hto]at hf'
     rcases List.mem_append.1 hf' with h|h
     ·exact hok f h
     ·simp at h;subst h;exact h1
   ·intro h;cases h
  ·intro h;cases h
 ·rintro I q ⟨H3,n3,va,vn,acc,LSf,rfl,f3,hn3,g3,hacc,hvn,hva,hLS,hfv,hl1,hff,hok⟩
  show Ph lfp G (Runs F G) k I v va (.ptr (n+1) 0) v (.int .i64 (.ofNat BM.length) 0) (.int .i64 (.ofNat BM.length) 0) H3 n3
  delta Ph
  rw[List.drop_eq_nil_of_le (Nat.le_refl _)]at hl1 hff
  rw[List.take_of_length_le (Nat.le_refl _)]at hvn hfv hok
  have hff:acc=UM BM:=Eq.trans hff hQ
  subst hff
  have hl1:(0:Int)=R:=hl1
  rw[<-hl1]at hk0 hk1
  simp only[go_sem,Bh,Nat.lt_irrefl,decide_false]
  delta Zx
  refine AUe (m:=n) (cs:=CS BM) ⟨⟨LSf,hva.el (by omega),by simp[hLS],hfv⟩,hva.lo,by simp;omega,by omega⟩ λH4 n4 t a b f4 gt hfa hseen ha hab hbt htn=>?_
  have gb:=f4.get g3 (by omega)
  have h4n:=f4.le
  simp only[go_sem,Nat.reduceAdd]
  rw[AAq (m:=1) gb rfl rfl (by omega) (by show 0+1<=3;omega)]
  rw[show List.take 0 [V.OH,.map n,vn]++(Aq (.ptr t 0)++List.drop (0+1) [V.OH,.map n,vn])=[.ptr t 0,.map n,vn]from rfl]
  have hs5:∀id,id≠n+1->T.get (T.set H4 (n+1) (one [.ptr t 0,.map n,vn])) id=T.get H4 id:=λid h=>T.Ac _ _ (Ne.symm h)
  have gb5:=T.Ai H4 (n+1) (one [.ptr t 0,.map n,vn])
  generalize T.set H4 (n+1) (one [.ptr t 0,.map n,vn])=H5 at hs5 gb5
  have k5:∀id,id<n->T.get H5 id=T.get H id:=λid hid=>(hs5 id (by omega)).trans ((f4.same id (by omega)).trans (f3.same id hid))
  have f5:Kp H n H5 n4:=⟨by omega,k5⟩
  have hfacc:∀s c,Cj (Fh (CS BM)) s=some c->∃f∈BM,f.face=c:=λs c h=>by
   have:=ADn h
   obtain⟨f,h1,h2⟩:=List.mem_map.1 this
   exact⟨f,h1,h2⟩
  have htlen:=nV (CS BM) []
  have hps:∀s c,Cj (Fh (CS BM)) s=some c->∀m∈c.ms,m.ps.length<=100000:=λs c h m hm=>by
   obtain⟨f,hf1,rfl⟩:=hfacc s c h
   have h1:=hok f hf1
   unfold OJ at h1
   rw[Bool.and_eq_true]at h1
   have:=uM h1.1 m hm
   omega
  have hk0:link2 (Fh (CS BM)) BM=0->∀H' n' i,Kp H n H' n'->APq G H' n' n i BM->k (.Df [.ptr i 0,.int .i64 (.ofNat 0) 0]) H' n':=hk0
  have hk1:link2 (Fh (CS BM)) BM≠0->∀H' n',Kp H n H' n'->k (.Df [.OH,.int .i64 (link2 (Fh (CS BM)) BM) 0]) H' n':=hk1
  obtain⟨ps,hps1,hkey,hval⟩:=hfa.is
  have k45:Kp H4 n H5 n:=⟨Nat.le_refl _,λid hid=>hs5 id (by omega)⟩
  have htab5:TabAt G H5 n4 t a b (Fh (CS BM)):=⟨by omega,by omega,by omega,by omega,by omega,(hs5 t (by omega)).trans gt,⟨ps,iq hps1 (hs5 a (by omega)),hkey,λs v c x y=>((hval s v c x y).ke k45.ke).up (by omega)⟩,hseen.same (hs5 b (by omega))⟩
  have himg:Tz G H5 n4 (n+1) t a b n vn (Fh (CS BM)):=⟨by omega,by omega,gb5,htab5⟩
  have hfv5:Jf G H5 n4 v BM:=(hf.ke (f5.ke))
  have hvn5:Own G H5 (n+2) n4 1 vn (strs (KH BM)):=⟨hvn.gr.mono λid hid=>(hs5 id (by have:=(hvn.gr.lo hid).1;omega)).trans (f4.same id (hvn.lo id hid)),λid hid=>by have:=hvn.lo id hid;omega⟩
  have hacc5:JR G H5 n n (UM BM):=hacc.ke (H':=H5) (n':=n) ((Kp.ke (n':=n) ⟨Nat.le_refl _,λid hid=>(hs5 id (by omega)).trans (f4.same id (by omega))⟩)) ((hs5 n (by omega)).trans (f4.same n (by omega)))
  have kpf:∀H' n',Kb b H5 n4 H' n'->Kp H n H' n':=λH' n' f=>⟨by have:=f.le;omega,λid hid=>by
   have h1:id<n4:=by omega
   have h2:id≠b:=by omega
   exact(f.same id h1 h2).trans (k5 id hid)⟩
  simp only[go_sem,hf.len]
  refine AKs hG (by simp at htlen;unfold Fh;omega) hps himg hfv5 (λh0 H' n' f=>?_) (λh0 H' n' f=>hk1 h0 _ _ (kpf _ _ f))
  have hfn:=f.le
  have hvn6:Own G H' (n+2) n' 1 vn (strs (KH BM)):=⟨hvn5.gr.mono λid hid=>f.same id (by have:=hvn.lo id hid;omega) (by have:=hvn.lo id hid;omega),λid hid=>by have:=hvn.lo id hid;omega⟩
  refine hk0 h0 _ _ _ (kpf _ _ f) ⟨t,a,b,n,vn,himg.kb f,?_,by omega,by omega,hvn6.el (by omega),hvn6.lo,by omega,by omega,by omega,by omega,by omega⟩
  refine(hacc5.ke ((f.ke (hseen.same (hs5 b (by omega)))).low (by omega)) (f.same n (by omega) (by omega))).up (by omega)
def small(fs:Tab):Prop:=∀s c,Cj fs s=some c->c.fs.length<=200
theorem eq_i(x y:Int):Cc (.one .int) false (.int .i64 x 0) (.int .i64 y 0)=some (.bool (x==y)):=by
 have h:=ALl x y
 show ofB (RX (some (ieq x y)) λb=>some b)=_
 rw[VQ]
 cases h2:decide (x=y)with
 |true=>have:=of_decide_eq_true h2;subst this;simp[RX,ofB]
 |false=>
  have:=of_decide_eq_false h2
  have:(x==y)=false:=by simpa using this
  rw[this];rfl
theorem ASX{z:Nat}{Z:LV}{H:Heap}{n:Nat}{P:KV}:Bg (Az z 0 Z [] E0) H n P=P (.sl n 0 0 0 z) (T.set H n (.arr z 0 .e)) (n+1):=by
 show NI (band true true) (DU n λn=>P (.sl n 0 0 0 z) (T.set H n (.arr z 0 .e)) (Nat.succ n))=_
 rw[BO];rfl
structure Img where
 i:Nat
 t:Nat
 a:Nat
 b:Nat
 f:Nat
 v:V
abbrev Img.At(G:AX)(H:Heap)(n:Nat)(x:Img)(fs:Tab):Prop:=Tz G H n x.i x.t x.a x.b x.f x.v fs
theorem AP1{G:AX}{H:Heap}{n i t a b fm:Nat}{vn:V}{fs:Tab}{ss:List St}(h:Tz G H n i t a b fm vn fs)(hn:El G H vn 1 (strs ss))(hs:ss.length<=1000){k:KV}
 (hk:∀v H' n',Kp H n H' n'->El G H' v 1 (strs ss)->Lo v n'->k v H' n'):Runs F G ZK [.ptr i 0] H n k:=by
 refine BL (s:=MZ (KW lfp G)) TW (by obtain⟨h,o⟩:=YX BK G;rw[TW]at h;cases h;exact o) ?_
 show KW lfp G (Runs F G) (.ptr i 0) H n k
 delta KW
 simp only[AJO,go_sem,Nat.reduceAdd,AU (off:=2) h.at' (v:=vn) rfl]
 refine(Gr.nil (G:=G) (H:=H) (m:=n) (z:=1)).app (Nat.le_refl _) (λid h=>by cases h) hn.2 (by rw[Gf];simp;omega) ?_ ?_
 ·intro v' H' hg hsame hlo
  exact hk _ _ _ ⟨by omega,λid hid=>hsame id hid (λh=>by cases h)⟩ (hg.el (by omega)) hlo
 ·intro e
  have:ss=[]:=by simpa[strs]using e
  subst this
  exact hk _ _ _ (Kp.refl _ _) ⟨rfl,rfl⟩ uZ
theorem JR.ATo{G:AX}{H:Heap}{n a:Nat}{fs:List (St×Fl)}(h:JR G H n a fs)(s:St):∃L:LV,ACN .str true (.agg AEP) (.map a) s.v H=some (.Df [.agg L,.bool (Cj fs s).isSome])/\L.length=10/\
 (∀f,Cj fs s=some f->Vt G H n (.agg L) f)/\(Cj fs s=none->L=AEP):=by
 obtain⟨ps,h1,h2,h3⟩:=h.is
 have hs:=eP h2 s
 rw[show s.v=.str s.1 s.2 from rfl,ACK h1]
 cases hl:Cj ps s with
 |none=>
  rw[hl]at hs
  cases hx:Cj fs s with
  |none=>exact⟨AEP,rfl,rfl,λf h=>(by cases h),λ_=>rfl⟩
  |some x=>rw[hx]at hs;cases hs
 |some v=>
  rw[hl]at hs
  cases hx:Cj fs s with
  |none=>rw[hx]at hs;cases hs
  |some x=>
   have hv:=h3 _ _ _ hl hx
   obtain⟨L,rfl,hL⟩:=hv.cells
   exact⟨L,rfl,hL,λf h=>(by cases h;exact hv),λh=>by cases h⟩
theorem ARy{G:AX}{H:Heap}{n n0 i t a b fm:Nat}{vn:V}{fs:Tab}{ff:List (St×Fl)}(h:Tz G H n i t a b fm vn fs)(hf:JR G H n0 fm ff)(hn:n0<=n)(hfm:fm<n){s:St}{k:KV}
 (hk:∀H' n' L,Kp H n H' n'->L.length=10->(∀f,Cj ff s=some f->Vt G H' n0 (.agg L) f)->(Cj ff s=none->L=AEP)->k (.Df [.agg L,.bool (Cj ff s).isSome]) H' n'):Runs F G aQ [.ptr i 0,s.v] H n k:=by
 refine BL (s:=TY (Ll lfp G)) Ut (by obtain⟨h,o⟩:=ZA BK G;rw[Ut]at h;cases h;exact o) ?_
 show Ll lfp G (Runs F G) (.ptr i 0) s.v H n k
 delta Ll
 refine BU rfl λH1 f1 g1=>?_
 have h1:=h.kb (f1.kb h.tab.bn)
 obtain⟨L,hlook,hL,hsome,hnone⟩:=(hf.ke ((f1.ke).low hn) (f1.same fm hfm)).ATo s
 simp only[AJO,go_sem,Nat.reduceAdd,AU (off:=1) h1.at' (v:=.map fm) rfl,hlook]
 rw[AC6 (m:=10) rfl (by omega) hL,T.set_set]
 have f2:Kp H1 (n+1) (T.set H1 (n+1) (one L)) (n+1+1):=(Kp.refl _ _).new _ (Nat.le_refl _) (by omega)
 have g2:=T.Ai H1 (n+1) (one L)
 generalize T.set H1 (n+1) (one L)=H2 at f2 g2
 rw[Cb (m:=10) g2 (by omega) hL,AB,Gq (m:=10) (f2.get g1 (by omega)) (by omega) rfl hL,Eh (m:=10) (T.Ai ..) (by omega) hL]
 simp only[go_sem]
 have f3:Kp H n (T.set H2 n (one L)) (n+1+1):=(f1.trans f2).set _ (Nat.le_refl _)
 refine hk _ _ _ f3 hL (λf hf=>(hsome f hf).ke ?_) hnone
 exact(Kp.ke (n:=n0) (n':=n0) ⟨Nat.le_refl _,λid hid=>(T.Ac _ _ (by omega)).trans (f2.same id (by omega))⟩)
end Go.RL
