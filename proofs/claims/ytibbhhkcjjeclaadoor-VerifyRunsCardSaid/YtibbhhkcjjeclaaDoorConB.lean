/- Part of a proof; nothing is assumed. -/
import Derived.Test.YtibbhhkcjjeclaaDoorConA
import Derived.Test.YtibbhhkcjjeclaaDoorWalk
set_option linter.unusedVariables false
set_option linter.unusedSimpArgs false
namespace Go.RL
open Go.Bh
set_option maxRecDepth 100000
structure Ke(G:AX)(H:Heap)(n:Nat)(H':Heap)(n':Nat):Prop where
 le:n<=n'
 el:∀v z LS,Lo v n->El G H v z LS->El G H' v z LS
section
variable{G:AX}{H H' H'':Heap}{n n' n'':Nat}{v:V}
theorem _root_.Go.Bh.Kp.ke(f:Kp H n H' n'):Ke G H n H' n':=⟨f.le,λ_ _ _ hl h=>h.kp hl f⟩
theorem Ke.low{m:Nat}(f:Ke G H n H' n')(hm:m<=n):Ke G H m H' m:=⟨Nat.le_refl _,λv z LS hl h=>f.el v z LS (hl.mono hm) h⟩
theorem _root_.Go.Bh.El.ke{z:Nat}{LS:ER}(h:El G H v z LS)(hl:Lo v n)(f:Ke G H n H' n'):El G H' v z LS:=f.el v z LS hl h
theorem N7.ke{xs:List Ty}(h:N7 G H n v xs)(f:Ke G H n H' n'):N7 G H' n' v xs:=⟨h.el.ke h.lo f,h.lo.mono f.le,h.lt,h.ok⟩
theorem Td.ke{xs:List lg}(h:Td G H n v xs)(f:Ke G H n H' n'):Td G H' n' v xs:=⟨h.el.ke h.lo f,h.lo.mono f.le,h.lt,h.ok⟩
theorem OE.ke{xs:List DW}{ws:List V}(h:OE G H n v xs ws)(f:Ke G H n H' n'):OE G H' n' v xs ws:=
 ⟨h.el.ke h.lo f,h.lo.mono f.le,h.lt,h.len,λi m w a b=>(h.at' i m w a b).ke f,h.ok⟩
theorem YS.ke{L:LV}{c:Fc}{v w:V}{ws:List V}(h:YS G H n L c v w ws)(f:Ke G H n H' n'):YS G H' n' L c v w ws:=⟨h.is,h.fs.ke f,h.ms.ke f,h.ok⟩
theorem Gp.ke{p:Pool}{v0 v1 v2 v3 v4:V}{ws:List V}(h:Gp G H n p v0 v1 v2 v3 v4 ws)(f:Ke G H n H' n'):Gp G H' n' p v0 v1 v2 v3 v4 ws:=
 ⟨h.e0.ke h.l0 f,h.l0.mono f.le,h.b0,h.e1.ke h.l1 f,h.l1.mono f.le,h.b1,h.o1,h.t2.ke f,h.e3.ke h.l3 f,h.l3.mono f.le,h.b3,h.o3,h.e4.ke h.l4 f,h.l4.mono f.le,h.b4,h.ABt,
  λi m w a b=>(h.at4 i m w a b).ke f,h.o4⟩
theorem NI.ke{is:List Ins}(h:NI G H n v is)(f:Ke G H n H' n'):NI G H' n' v is:=⟨h.el.ke h.lo f,h.lo.mono f.le,h.lt⟩
theorem SG.ke{bs:List Bd}{ws:List V}(h:SG G H n v bs ws)(f:Ke G H n H' n'):SG G H' n' v bs ws:=
 ⟨h.el.ke h.lo f,h.lo.mono f.le,h.lt,h.len,λi b w x y=>(h.at' i b w x y).ke f⟩
theorem aX.ke{L:LV}{f:Fl}{vf vm v0 v1 v2 v3 v4 vb:V}{mws ws bws:List V}(h:aX G H n L f vf vm v0 v1 v2 v3 v4 vb mws ws bws)(e:Ke G H n H' n'):aX G H' n' L f vf vm v0 v1 v2 v3 v4 vb mws ws bws:=
 ⟨h.is,h.face.ke e,h.pool.ke e,h.bodies.ke e⟩
def VN(G:AX)(H:Heap)(n:Nat)(v:V)(c:Fc):Prop:=∃vf vm ws,YS G H n [c.nm.v,c.sup.v,vf,vm] c vf vm ws/\v=.agg [c.nm.v,c.sup.v,vf,vm]
theorem VN.ke{c:Fc}(h:VN G H n v c)(f:Ke G H n H' n'):VN G H' n' v c:=by
 obtain⟨vf,vm,ws,h,hv⟩:=h;exact⟨vf,vm,ws,h.ke f,hv⟩
def VL(G:AX)(H:Heap)(n:Nat)(v:V)(f:Fl):Prop:=∃L vf vm v0 v1 v2 v3 v4 vb mws ws bws,aX G H n L f vf vm v0 v1 v2 v3 v4 vb mws ws bws/\v=.agg L
theorem VL.ke{f:Fl}(h:VL G H n v f)(e:Ke G H n H' n'):VL G H' n' v f:=by
 obtain⟨L,vf,vm,v0,v1,v2,v3,v4,vb,mws,ws,bws,h,hv⟩:=h;exact⟨L,vf,vm,v0,v1,v2,v3,v4,vb,mws,ws,bws,h.ke e,hv⟩
def Gv(H:Heap)(b:Nat):Prop:=∃ps,kM H b ps
structure Kb(b:Nat)(H:Heap)(n:Nat)(H':Heap)(n':Nat):Prop where
 le:n<=n'
 same:∀id,id<n->id≠b->T.get H' id=T.get H id
 seen:Gv H b->Gv H' b
theorem Kb.refl(b:Nat)(H:Heap)(n:Nat):Kb b H n H n:=⟨Nat.le_refl _,λ_ _ _=>rfl,λh=>h⟩
theorem Kb.trans{b:Nat}(x:Kb b H n H' n')(y:Kb b H' n' H'' n''):Kb b H n H'' n'':=
 ⟨Nat.le_trans x.le y.le,λid h hb=>(y.same id (Nat.lt_of_lt_of_le h x.le) hb).trans (x.same id h hb),λh=>y.seen (x.seen h)⟩
theorem Kb.trans'{b m:Nat}(x:Kb b H n H' n')(y:∀id,id<n->T.get H'' id=T.get H' id)(hm:n'<=m)(hb:b<n):Kb b H n H'' m:=
 ⟨Nat.le_trans x.le hm,λid h hne=>(y id h).trans (x.same id h hne),λh=>by
  obtain⟨ps,es,ck,hg,he⟩:=x.seen h;exact⟨ps,es,ck,(y b hb).trans hg,he⟩⟩
theorem Kb.low{b m:Nat}(f:Kb b H n H' n')(hm:m<=n):Kb b H m H' m:=⟨Nat.le_refl _,λid h hb=>f.same id (Nat.lt_of_lt_of_le h hm) hb,f.seen⟩
theorem Kb.ASt{b m:Nat}(f:Kb b H n H' n')(hm:m<=n):Kb b H m H' n':=⟨Nat.le_trans hm f.le,λid h hb=>f.same id (Nat.lt_of_lt_of_le h hm) hb,f.seen⟩
theorem Gv.same{b:Nat}(h:Gv H b)(e:T.get H' b=T.get H b):Gv H' b:=by
 obtain⟨ps,es,ck,hg,he⟩:=h;exact⟨ps,es,ck,e.trans hg,he⟩
theorem _root_.Go.Bh.Kp.kb{b:Nat}(f:Kp H n H' n')(hb:b<n):Kb b H n H' n':=⟨f.le,λid h _=>f.same id h,λh=>h.same (f.same b hb)⟩
theorem Kb.get{b id:Nat}{B:O7}(f:Kb b H n H' n')(h:T.get H id=some B)(hi:id<n)(hb:id≠b):T.get H' id=some B:=(f.same id hi hb).trans h
theorem Gv.ld{b o z:Nat}(h:Gv H b):Z4 H b o z=none:=by
 obtain⟨ps,es,ck,hg,-⟩:=h;unfold Z4;rw[hg];rfl
theorem Gv.elems{b z:Nat}(h:Gv H b){m o:Nat}{LS:ER}(he:CQ H b z m o=some LS):m=0:=by
 cases m with
 |zero=>rfl
 |succ m=>
  have h':BP (Z4 H b (Nat.mul o z) z) (λL=>BP (CQ H b z m (Nat.succ o)) λLS=>some (L::LS))=some LS:=he
  rw[h.ld]at h';cases h'
theorem Kb.ke{b:Nat}(f:Kb b H n H' n')(hs:Gv H b):Ke G H n H' n':=⟨f.le,λv z LS hl h=>by
 by_cases hv:v.XZ=some b
 ·obtain⟨h1,h2⟩:=h
  refine⟨h1,?_⟩
  cases v<;>try (cases hv;done)
  ·rename_i id off m c e
   have hid:id=b:=Option.some.inj hv
   subst hid
   have h2':(Bool.rec (motive:=λ_=>Option ER) none (CQ H id z m off) (Nat.beq e z):Option ER)=some LS:=h2
   show(Bool.rec (motive:=λ_=>Option ER) none (CQ H' id z m off) (Nat.beq e z):Option ER)=some LS
   cases hb:Nat.beq e z with
   |false=>rw[hb]at h2';cases h2'
   |true=>
    rw[hb]at h2'
    have h3:CQ H id z m off=some LS:=h2'
    have:=hs.elems h3
    subst this;exact h3
  ·rename_i id off m e
   have hid:id=b:=Option.some.inj hv
   subst hid
   have h2':(Bool.rec (motive:=λ_=>Option ER) none (CQ H id z m off) (Nat.beq e z):Option ER)=some LS:=h2
   show(Bool.rec (motive:=λ_=>Option ER) none (CQ H' id z m off) (Nat.beq e z):Option ER)=some LS
   cases hb:Nat.beq e z with
   |false=>rw[hb]at h2';cases h2'
   |true=>
    rw[hb]at h2'
    have h3:CQ H id z m off=some LS:=h2'
    have:=hs.elems h3
    subst this;exact h3
 ·exact h.same λid hid=>f.same id (hl id hid) (by intro e;subst e;exact hv hid)⟩
end
abbrev Tab:=List (St×Fc)
def keyed{α β:Type}(ps:List (St×α))(fs:List (St×β)):Prop:=ps.map (·.1)=fs.map (·.1)
theorem dI{α β:Type}:∀{ps:List (St×α)} {fs:List (St×β)} (_:keyed ps fs) (s:St),(Ci ps s).isSome=(Ci fs s).isSome
 |[],[],_,s=>rfl
 |p::ps,f::fs,h,s=>by
  simp only[keyed,List.map_cons,List.cons.injEq]at h
  have ih:=dI (ps:=ps) (fs:=fs) h.2 s
  by_cases hp:p.1=s
  ·have hf:f.1=s:=h.1▸hp
   simp[Ci,hp,hf]
  ·have hf:¬f.1=s:=h.1▸hp
   simp only[Ci,List.find?_cons,hp,hf,decide_false]at ih⊢
   exact ih
 |[],_::_,h,_=>by simp[keyed]at h
 |_::_,[],h,_=>by simp[keyed]at h
theorem uZ{α β:Type}(s:St)(a:α)(b:β):∀{ps:List (St×α)} {fs:List (St×β)} (_:keyed ps fs),keyed (Uf s a ps) (Uf s b fs)
 |[],[],_=>rfl
 |p::ps,f::fs,h=>by
  simp only[keyed,List.map_cons,List.cons.injEq]at h
  unfold Uf
  by_cases hp:p.1=s
  ·have hf:f.1=s:=h.1▸hp
   rw[if_pos hp,if_pos hf];simp[keyed,h.2]
  ·have hf:¬f.1=s:=h.1▸hp
   rw[if_neg hp,if_neg hf]
   have:=uZ s a b (ps:=ps) (fs:=fs) h.2
   simp only[keyed,List.map_cons,List.cons.injEq]at this⊢
   exact⟨h.1,this⟩
 |[],_::_,h=>by simp[keyed]at h
 |_::_,[],h=>by simp[keyed]at h
structure lT(G:AX)(H:Heap)(n:Nat)(a:Nat)(fs:Tab):Prop where
 is:∃ps,kM H a ps/\keyed ps fs/\∀s v c,Ci ps s=some v->Ci fs s=some c->VN G H n v c
structure TabAt(G:AX)(H:Heap)(n t a b:Nat)(fs:Tab):Prop where
 tn:t<n
 an:a<n
 bn:b<n
 tb:t≠b
 ab:a≠b
 at':T.get H t=some (one [.map a,.map b])
 faces:lT G H n a fs
 seen:Gv H b
theorem fK{H H':Heap}{a:Nat}{ps:List (St×V)}(h:kM H a ps)(e:T.get H' a=T.get H a):kM H' a ps:=by
 obtain⟨es,ck,hg,he⟩:=h;exact⟨es,ck,e.trans hg,he⟩
theorem TabAt.kb{G:AX}{H H':Heap}{n n' t a b:Nat}{fs:Tab}(h:TabAt G H n t a b fs)(f:Kb b H n H' n'):TabAt G H' n' t a b fs:=by
 obtain⟨ps,h1,h2,h3⟩:=h.faces.is
 exact⟨Nat.lt_of_lt_of_le h.tn f.le,Nat.lt_of_lt_of_le h.an f.le,Nat.lt_of_lt_of_le h.bn f.le,h.tb,h.ab,f.get h.at' h.tn h.tb,
  ⟨ps,fK h1 (f.same a h.an h.ab),h2,λs v c x y=>(h3 s v c x y).ke (f.ke h.seen)⟩,f.seen h.seen⟩
theorem run_set{f:Nat}{args:List V}{G:AX}{H:Heap}{n m:Nat}{b:O7}{k:KV}(h:∀H',Kp H n H' (n+1)->T.get H' n=some b->Runs F G f args H' m k):Runs F G f args (T.set H n b) m k:=
 h _ ((Kp.refl H n).new _ (Nat.le_refl _) (by omega)) (T.Ah ..)
theorem AIQ(i o:Nat):CX (.one .ptr) false (.ptr i o) .NT=some (.bool false):=rfl
abbrev DF:Fc:=⟨(0,0),(0,0),[],[]⟩
theorem AD7{G:AX}{H:Heap}{z:Nat}:El G H .AY z []:=⟨rfl,rfl⟩
theorem pU{n:Nat}:Lo .AY n:=λ_ h=>by cases h
theorem ANg{G:AX}{H:Heap}{n:Nat}:VN G H n (.agg [.str 0 0,.str 0 0,.AY,.AY]) DF:=
 ⟨.AY,.AY,[],⟨rfl,⟨AD7,pU,by decide,λ_ h=>by cases h⟩,⟨AD7,pU,by decide,rfl,λi m w h=>by simp at h,λ_ h=>by cases h⟩,λ_=>rfl,λ_=>rfl⟩,rfl⟩
theorem uD(L:LV):Ap L []=some (.agg L):=rfl
theorem kC{G:AX}{H:Heap}{n n0 t a b:Nat}{fs:Tab}(h:TabAt G H n0 t a b fs)(hn:n0<=n){s:St}{k:KV}
 (hk:∀H' n' v,Kb b H n H' n'->VN G H' n0 v ((Ci fs s).getD DF)->k (.Di [v,.bool (Ci fs s).isSome]) H' n'):Runs F G Ed [.ptr t 0,s.v] H n k:=by
 refine BN (s:=SC (LU lfp G)) TW (by obtain⟨h,o⟩:=YO BO G;rw[TW]at h;cases h;exact o) ?_
 show LU lfp G (Runs F G) (.ptr t 0) s.v H n k
 delta LU
 have hbn:b<n:=Nat.lt_of_lt_of_le h.bn hn
 refine BZ rfl λH1 f1 g1=>?_
 have h1:=h.kb ((f1.kb hbn).low hn)
 simp only[go_sem,AIQ,Nat.reduceAdd,AU (off:=1) h1.at' (v:=.map b) rfl]
 obtain⟨ps,hps⟩:=h1.seen
 refine ADB hps s _ λH2 hm2 hs2=>?_
 have f2:Kb b H1 (n+1) H2 (n+1):=⟨Nat.le_refl _,λid _ hb=>hs2 id hb,λ_=>⟨_,hm2⟩⟩
 have f3:=(f1.kb hbn).trans f2
 have h2:TabAt G H2 n0 t a b fs:=h.kb (f3.low hn)
 have g2:=f2.get g1 (by omega) (by omega)
 obtain⟨qs,hq,hkey,hv⟩:=h2.faces.is
 simp only[go_sem,Nat.reduceAdd,AU (off:=0) h2.at' (v:=.map a) rfl]
 rw[show s.v=.str s.1 s.2 from rfl,AAX hq]
 have hsome:=dI hkey s
 have fin:∃v,AOa (.agg [.str 0 0,.str 0 0,.AY,.AY]) (Ci qs s)=.Di [v,.bool (Ci fs s).isSome]/\VN G H2 n0 v ((Ci fs s).getD DF):=by
  cases hl:Ci qs s with
  |none=>
   rw[hl]at hsome
   cases hx:Ci fs s with
   |none=>exact⟨_,rfl,ANg⟩
   |some x=>rw[hx]at hsome;cases hsome
  |some v=>
   rw[hl]at hsome
   cases hx:Ci fs s with
   |none=>rw[hx]at hsome;cases hsome
   |some x=>exact⟨v,rfl,hv _ _ _ hl hx⟩
 obtain⟨v,e,hf⟩:=fin
 obtain⟨vf,vm,ws,hf,rfl⟩:=hf
 rw[e]
 simp only[go_sem,Nat.reduceAdd]
 rw[Gt (m:=4) ((T.Ac _ _ (by omega)).trans ((T.Ac _ _ (by omega)).trans g2)) (by omega) rfl rfl,Ei (m:=4) (T.Ah ..) (by omega) rfl]
 simp only[go_sem]
 have e:Kp H2 n (T.set (T.set (T.set H2 (n+1) (one [.str 0 0,.str 0 0,.AY,.AY])) (n+1) (one [((Ci fs s).getD DF).nm.v,((Ci fs s).getD DF).sup.v,vf,vm])) n (one [((Ci fs s).getD DF).nm.v,((Ci fs s).getD DF).sup.v,vf,vm])) (n+1+1):=
  ((((Kp.refl H2 n).new (m:=n+1+1) _ (by omega) (by omega)).set _ (by omega)).set _ (Nat.le_refl _))
 have f7:Kb b H n H2 n:=⟨Nat.le_refl _,f3.same,f3.seen⟩
 exact hk _ _ _ (f7.trans (e.kb hbn)) ⟨vf,vm,ws,hf.ke ((e.ke).low hn),rfl⟩
def Hz:Nat->Tab->List St->St->List St×Bool
 |0,_,out,_=>(out,false)
 |m+1,fs,out,s=>bif decide (s.1=0/\s.2=0)then(out,true)else
  match Ci fs s with
  |none=>(out,false)
  |some c=>bif fC s out then(out,false)else Hz m fs (out++[s]) c.sup
def above(fs:Tab)(s:St):List St×Bool:=Hz (fs.length+1) fs [] s
theorem Nv{s:St}{xs:List St}:fC s xs=true↔s∈xs:=by
 unfold fC
 rw[List.any_eq_true]
 constructor
 ·rintro⟨x,hx,h⟩
  have:=of_decide_eq_true h
  have e:s=x:=Prod.ext this.1 this.2
  exact e▸hx
 ·intro h;exact⟨s,h,by simp⟩
theorem ANs{α:Type}{ps:List (St×α)}{s:St}{v:α}(h:Ci ps s=some v):s∈ps.map (·.1):=by
 unfold Ci at h
 cases hf:ps.find? λp=>decide (p.1=s)with
 |none=>rw[hf]at h;cases h
 |some p=>
  have h1:=List.mem_of_find?_eq_some hf
  have h2:=List.find?_some hf
  exact List.mem_map.2 ⟨p,h1,of_decide_eq_true h2⟩
theorem AFh:∀{xs ys:List St} (_:xs.Nodup) (_:∀x∈xs,x∈ys),xs.length<=ys.length
 |[],_,_,_=>Nat.zero_le _
 |x::xs,ys,hn,h=>by
  rw[List.nodup_cons]at hn
  have hx:=h x (List.mem_cons_self ..)
  have:=AFh (xs:=xs) (ys:=ys.erase x) hn.2 λz hz=>by
   have hz':=h z (List.mem_cons_of_mem _ hz)
   have hne:z≠x:=by intro e;subst e;exact hn.1 hz
   exact(List.mem_erase_of_ne hne).2 hz'
  rw[List.length_erase_of_mem hx]at this
  have hpos:0<ys.length:=List.length_pos_of_mem hx
  simp only[List.length_cons];omega
structure Own(G:AX)(H:Heap)(m n:Nat)(z:Nat)(v:V)(LS:ER):Prop where
 gr:Gr G H m z v LS
 lo:Lo v n
theorem Own.el{G:AX}{H:Heap}{m n z:Nat}{v:V}{LS:ER}(h:Own G H m n z v LS)(hz:0<z):El G H v z LS:=h.gr.el hz
theorem Own.kb{G:AX}{H H':Heap}{m n n' b z:Nat}{v:V}{LS:ER}(h:Own G H m n z v LS)(f:Kb b H n H' n')(hb:b<m):Own G H' m n' z v LS:=
 ⟨h.gr.mono λid hid=>f.same id (h.lo id hid) (by have:=(h.gr.lo hid).1;omega),h.lo.mono f.le⟩
theorem Own.kp{G:AX}{H H':Heap}{m n n' z:Nat}{v:V}{LS:ER}(h:Own G H m n z v LS)(f:Kp H n H' n'):Own G H' m n' z v LS:=
 ⟨h.gr.mono λid hid=>f.same id (h.lo id hid),h.lo.mono f.le⟩
theorem AOE{Z w:V}{H:Heap}{n:Nat}{P:KV}(hw:Wl w=true)(hv:Aq w=[w]):
 Bf (Az 1 1 [Z] [(0,.c w)] E0) H n P=P (.sl n 0 1 1 1) (T.set H n (.arr 1 1 (T.set (T.set .e 0 [Z]) 0 [w]))) (n+1):=by
 show L9 (band (band (Wl w) (band true (Nat.beq (len (Aq w)) 1))) true) (DX n λn=>P (.sl n 0 1 1 1) (T.set H n (.arr 1 1 (T.set (T.set .e 0 [Z]) 0 (Aq w)))) (Nat.succ n))=_
 rw[hw,hv,BL];rfl
theorem ALa{G:AX}{Z w:V}{H:Heap}{n:Nat}{P:KV}(hw:Wl w=true)(hv:Aq w=[w])(h:∀H',Kp H n H' (n+1)->elems (.sl n 0 1 1 1) G H' 1=some [[w]]->P (.sl n 0 1 1 1) H' (n+1)):
 Bf (Az 1 1 [Z] [(0,.c w)] E0) H n P:=by
 rw[AOE hw hv]
 exact h _ ((Kp.refl H n).new _ (Nat.le_refl _) (by omega)) (lW (z:=1) (by omega) rfl (T.Ah ..)).2
theorem ANz(s:St):F8 s.v s.v=true:=by
 show band (Nat.beq s.1 s.1) (Nat.beq s.2 s.2)=true
 simp
theorem Zo{G:AX}{H:Heap}{n t a b:Nat}{fs:Tab}(h:TabAt G H n t a b fs)(hfs:fs.length<=1000){s:St}{k:KV}
 (hk:∀H' n' v,Kb b H n H' n'->Own G H' n n' 1 v (strs (above fs s).1)->(above fs s).1.length<=1001->k (.Di [v,.bool (above fs s).2]) H' n'):Runs F G Dj [.ptr t 0,s.v] H n k:=by
 refine BN (s:=SC (J8 lfp G)) Rq (by obtain⟨h,o⟩:=Xd BO G;rw[Rq]at h;cases h;exact o) ?_
 show J8 lfp G (Runs F G) (.ptr t 0) s.v H n k
 delta J8
 have hbn:=h.bn
 refine JD (J:=λm st=>∃out s v H2 n2,m+out.length=fs.length+1/\st=(.ptr t 0,St.v s,v,H2,n2)/\Kb b H n H2 n2/\Own G H2 n n2 1 v (strs out)/\out.Nodup/\(∀x∈out,x∈fs.map (·.1))/\
  (∀H' n' v,Kb b H n H' n'->Own G H' n n' 1 v (strs (Hz m fs out s).1)->(Hz m fs out s).1.length<=1001->k (.Di [v,.bool (Hz m fs out s).2]) H' n')) ?_ (m:=fs.length+1)
  ⟨[],s,.AY,H,n,rfl,rfl,Kb.refl _ _ _,⟨.nil,pU⟩,List.nodup_nil,λ_ h=>absurd h List.not_mem_nil,hk⟩
 rintro I m st ⟨out,s,v,H2,n2,hm,rfl,f,ho,hnd,hsub,hk⟩ ih
 show Po lfp G (Runs F G) k I (.ptr t 0) s.v v H2 n2
 delta Po
 have hle:=AFh hnd hsub
 rw[List.length_map]at hle
 obtain⟨m,rfl⟩:∃m',m=m'+1:=⟨m-1,by omega⟩
 unfold Hz at hk
 simp only[go_sem,St.v,AMm]
 cases h0:decide (s.1=0/\s.2=0)with
 |true=>
  rw[h0]at hk
  simp only[Bool.not_true,go_sem]
  delta Pz
  exact hk _ _ _ f ho (by show out.length<=1001;omega)
 |false=>
  rw[h0]at hk
  simp only[Bool.not_false,go_sem]
  refine kC (s:=s) (h.kb f) (Nat.le_refl _) λH3 n3 w f3 hw=>?_
  have f4:=f.trans f3
  have ho3:=ho.kb f3 hbn
  obtain⟨vf,vm,ws,hw,rfl⟩:=hw
  simp only[go_sem,Nat.reduceAdd,Bo]
  rw[T.set_set]
  cases hl:Ci fs s with
  |none=>
   rw[hl]at hk
   simp only[Option.isSome_none,Bool.not_false,go_sem]
   have f5:Kp H3 n3 (T.set H3 n3 (one [((none:Option Fc).getD DF).nm.v,((none:Option Fc).getD DF).sup.v,vf,vm])) (n3+1):=(Kp.refl _ _).new _ (Nat.le_refl _) (by omega)
   exact hk _ _ _ (f4.trans (f5.kb (by have:=f4.le;omega))) (ho3.kp f5) (by show out.length<=1001;omega)
  |some c=>
   rw[hl]at hk
   simp only[Option.isSome_some,Bool.not_true,go_sem,Option.getD_some]
   have hn3:=f4.le
   refine run_set λH4 f5 g5=>?_
   have f6:=f4.trans (f5.kb (b:=b) (by omega))
   have ho4:=ho3.kp f5
   refine ou (s:=s) (xs:=out) (ho4.el (by omega)) (by omega) ?_
   cases h1:fC s out with
   |true=>
    simp only[h1,cond_true]at hk
    simp only[go_sem]
    exact hk _ _ _ f6 ho4 (by show out.length<=1001;omega)
   |false=>
    simp only[h1,cond_false]at hk
    have hin:¬s∈out:=λh=>by rw[Nv.2 h]at h1;cases h1
    simp only[go_sem]
    refine ALa (G:=G) rfl rfl λH5 f7 g7=>?_
    have e1:AV (.ptr n3 1) G H5=some c.sup.v:=AU (f7.get g5 (by omega)) rfl
    rw[e1,AB]
    have ho5:=ho4.kp f7
    refine ho5.gr.app (by omega) ho5.lo g7 ?_ ?_ ?_
    ·rw[Gz];simp;omega
    ·intro v' H6 hg hs hlo
     have f8:Kb b H n H6 (n3+1+1+1):=(f6.trans (f7.kb (by omega))).trans' (λid hid=>hs id (by omega) (λhv=>by have:=(ho5.gr.lo hv).1;omega)) (by omega) hbn
     have e2:AV (.ptr n3 1) G H6=some c.sup.v:=AU ((hs n3 (by omega) (λhv=>by have:=ho.lo _ hv;have:=f3.le;omega)).trans (f7.get g5 (by omega))) rfl
     simp only[go_sem,e2,ANz]
     refine ih _ _ (Nat.lt_succ_self m) ⟨out++[s],c.sup,v',H6,_,by simp;omega,rfl,f8,⟨?_,hlo⟩,?_,?_,hk⟩
     ·rw[strs,List.map_append];exact hg
     ·rw[List.nodup_append];refine⟨hnd,by simp,?_⟩;intro x hx y hy;simp at hy;subst hy;intro e;subst e;exact hin hx
     ·intro x hx
      rcases List.mem_append.1 hx with hx|hx
      ·exact hsub x hx
      ·simp at hx;subst hx;exact ANs hl
    ·intro h;cases h
abbrev tyZ:Ty:=⟨(0,0),false⟩
abbrev XC:DW:=⟨(0,0),false,[],tyZ⟩
def Z7(s:St):List lg->Option Ty
 |[]=>none
 |f::fs=>bif decide (f.nm.1=s.1/\f.nm.2=s.2)then some f.ty else Z7 s fs
def Qi(s:St):List DW->Option DW
 |[]=>none
 |m::ms=>bif decide (m.nm.1=s.1/\m.nm.2=s.2)then some m else Qi s ms
def mF(G:AX)(H:Heap)(n:Nat)(v:V)(m:DW):Prop:=∃w,v=.agg (m.cells w)/\N7 G H n w m.ps
theorem mF.ke{G:AX}{H H':Heap}{n n':Nat}{v:V}{m:DW}(h:mF G H n v m)(f:Ke G H n H' n'):mF G H' n' v m:=by
 obtain⟨w,e,h⟩:=h;exact⟨w,e,h.ke f⟩
theorem AKL{G:AX}{H:Heap}{n:Nat}:mF G H n (.agg (XC.cells .AY)) XC:=⟨.AY,rfl,AD7,pU,by decide,λ_ h=>by cases h⟩
theorem AF1{G:AX}{H:Heap}{n:Nat}{v:V}{c:Fc}(h:VN G H n v c){s:St}{k:KV}
 (hk:∀H' n',Kp H n H' n'->k (.Di [((Z7 s c.fs).getD tyZ).v,.bool (Z7 s c.fs).isSome]) H' n'):Runs F G ZV [v,s.v] H n k:=by
 refine BN (s:=SC (Lj lfp G)) Tc (by obtain⟨h,o⟩:=YK BO G;rw[Tc]at h;cases h;exact o) ?_
 show Lj lfp G (Runs F G) v s.v H n k
 obtain⟨vf,vm,ws,h,rfl⟩:=h
 delta Lj
 refine FZ λH1 f1 g1=>?_
 refine BZ rfl λH2 f2 g2=>?_
 simp only[go_sem,Nat.reduceAdd,AU (off:=2) (f2.get g1 (by omega)) (v:=vf) rfl,h.fs.len]
 have hbig:=h.fs.lt
 refine CJ (N:=c.fs.length) (J:=λi st=>∃H' n',st=(s.v,.ptr (n+1) 0,vf,.int .i64 (.ofNat c.fs.length) 0,.int .i64 (.ofNat i) 0,H',n')/\Kp H n H' n'/\n+1<n'/\T.get H' (n+1)=some (one [.str 0 0,.bool false])/\
  (∀H' n',Kp H n H' n'->k (.Di [((Z7 s (c.fs.drop i)).getD tyZ).v,.bool (Z7 s (c.fs.drop i)).isSome]) H' n')) ?_ ?_ ⟨H2,_,rfl,f1.trans f2,Nat.lt_succ_self _,g2,hk⟩
 ·rintro I i st hlt ⟨H3,n3,rfl,f3,hn3,g3,hk⟩ ih
  show I8 lfp G (Runs F G) k I s.v (.ptr (n+1) 0) vf (.int .i64 (.ofNat c.fs.length) 0) (.int .i64 (.ofNat i) 0) H3 n3
  delta I8
  obtain⟨q,hp,hld⟩:=(h.fs.kp f3).at hlt
  rw[List.drop_eq_getElem_cons hlt]at hk
  unfold Z7 at hk
  generalize c.fs[i]=m at hld hk
  unfold lg.cells at hld
  simp only[go_sem,Cc,hlt,decide_true,hp,DI hld,Nat.reduceAdd,show CX (.one .str) false m.nm.v s.v=_ from zX ..]
  rw[T.set_set]
  have f4:=f3.new (m:=n3+1) (id:=n3) (one [m.nm.v,m.ty.nm.v,.bool m.ty.arr]) f3.le (by omega)
  cases h1:decide (m.nm.1=s.1/\m.nm.2=s.2)with
  |true=>
   simp only[h1,cond_true]at hk
   simp only[go_sem,Nat.reduceAdd]
   rw[Iq (m:=2) (off:=1) (T.Ah ..) (by omega) (by show 3<=3;omega),AB]
   show Ba 2 (.ptr (n+1) 0) (.agg [m.ty.nm.v,.bool m.ty.arr]) _ _ _
   rw[Gt (m:=2) ((T.Ac _ _ (by omega)).trans g3) (by omega) rfl rfl,Ei (m:=2) (T.Ah ..) (by omega) rfl]
   simp only[go_sem]
   exact hk _ _ (f4.set _ (by omega))
  |false=>
   simp only[h1,cond_false]at hk
   simp only[go_sem,D7 (show i+1<9223372036854775808 by unfold big at hbig;omega)]
   exact ih _ ⟨_,_,rfl,f4,by omega,(T.Ac _ _ (by omega)).trans g3,hk⟩
 ·rintro I st ⟨H3,n3,rfl,f3,hn3,g3,hk⟩
  show I8 lfp G (Runs F G) k I s.v (.ptr (n+1) 0) vf (.int .i64 (.ofNat c.fs.length) 0) (.int .i64 (.ofNat c.fs.length) 0) H3 n3
  delta I8
  rw[List.drop_eq_nil_of_le (Nat.le_refl _)]at hk
  simp only[go_sem,Cc,Nat.lt_irrefl,decide_false]
  delta Qh
  simp only[uD,AB]
  rw[Gt (m:=2) g3 (by omega) rfl rfl,Ei (m:=2) (T.Ah ..) (by omega) rfl]
  simp only[go_sem]
  exact hk _ _ (f3.set _ (by omega))
theorem rZ{G:AX}{H:Heap}{n n0:Nat}{v:V}{c:Fc}(h:VN G H n0 v c)(hn:n0<=n){s:St}{k:KV}
 (hk:∀H' n' w,Kp H n H' n'->mF G H' n0 w ((Qi s c.ms).getD XC)->k (.Di [w,.bool (Qi s c.ms).isSome]) H' n'):Runs F G UA [v,s.v] H n k:=by
 refine BN (s:=SC (J6 lfp G)) Rt (by obtain⟨h,o⟩:=XO BO G;rw[Rt]at h;cases h;exact o) ?_
 show J6 lfp G (Runs F G) v s.v H n k
 obtain⟨vf,vm,ws,h,rfl⟩:=h
 delta J6
 refine FZ λH1 f1 g1=>?_
 refine BZ rfl λH2 f2 g2=>?_
 simp only[go_sem,Nat.reduceAdd,AU (off:=3) (f2.get g1 (by omega)) (v:=vm) rfl,h.ms.len']
 have hbig:=h.ms.lt
 refine CJ (N:=c.ms.length) (J:=λi st=>∃H' n',st=(s.v,.ptr (n+1) 0,vm,.int .i64 (.ofNat c.ms.length) 0,.int .i64 (.ofNat i) 0,H',n')/\Kp H n H' n'/\n+1<n'/\T.get H' (n+1)=some (one (XC.cells .AY))/\
  (∀H' n' w,Kp H n H' n'->mF G H' n0 w ((Qi s (c.ms.drop i)).getD XC)->k (.Di [w,.bool (Qi s (c.ms.drop i)).isSome]) H' n')) ?_ ?_ ⟨H2,_,rfl,f1.trans f2,Nat.lt_succ_self _,g2,hk⟩
 ·rintro I i st hlt ⟨H3,n3,rfl,f3,hn3,g3,hk⟩ ih
  show IZ lfp G (Runs F G) k I s.v (.ptr (n+1) 0) vm (.int .i64 (.ofNat c.ms.length) 0) (.int .i64 (.ofNat i) 0) H3 n3
  delta IZ
  obtain⟨q,w,hp,hld,hw⟩:=(h.ms.ke ((f3.ke).low hn)).at hlt
  rw[List.drop_eq_getElem_cons hlt]at hk
  unfold Qi at hk
  generalize c.ms[i]=m at hld hk hw
  unfold DW.cells at hld
  simp only[go_sem,Cc,hlt,decide_true,hp,DI hld,Nat.reduceAdd,show CX (.one .str) false m.nm.v s.v=_ from zX ..]
  rw[T.set_set]
  have f4:=f3.new (m:=n3+1) (id:=n3) (one [m.nm.v,.bool m.st,w,m.ret.nm.v,.bool m.ret.arr]) f3.le (by omega)
  cases h1:decide (m.nm.1=s.1/\m.nm.2=s.2)with
  |true=>
   simp only[h1,cond_true]at hk
   simp only[go_sem,Nat.reduceAdd]
   rw[Gt (m:=5) ((T.Ac _ _ (by omega)).trans g3) (by omega) rfl rfl,Ei (m:=5) (T.Ah ..) (by omega) rfl]
   simp only[go_sem]
   have f5:=f4.set (one [m.nm.v,.bool m.st,w,m.ret.nm.v,.bool m.ret.arr]) (id:=n+1) (by omega)
   refine hk _ _ _ f5 ⟨w,rfl,hw.ke ?_⟩
   refine(Kp.ke (n:=n0) (n':=n3+1) ⟨by omega,λid hid=>?_⟩).low (Nat.le_refl _)
   rw[T.Ac _ _ (by omega),T.Ac _ _ (by omega)]
  |false=>
   simp only[h1,cond_false]at hk
   simp only[go_sem,D7 (show i+1<9223372036854775808 by unfold big at hbig;omega)]
   exact ih _ ⟨_,_,rfl,f4,by omega,(T.Ac _ _ (by omega)).trans g3,hk⟩
 ·rintro I st ⟨H3,n3,rfl,f3,hn3,g3,hk⟩
  show IZ lfp G (Runs F G) k I s.v (.ptr (n+1) 0) vm (.int .i64 (.ofNat c.ms.length) 0) (.int .i64 (.ofNat c.ms.length) 0) H3 n3
  delta IZ
  rw[List.drop_eq_nil_of_le (Nat.le_refl _)]at hk
  simp only[go_sem,Cc,Nat.lt_irrefl,decide_false]
  delta PU
  simp only[uD,AB]
  rw[Gt (m:=5) g3 (by omega) rfl rfl,Ei (m:=5) (T.Ah ..) (by omega) rfl]
  simp only[go_sem]
  exact hk _ _ _ (f3.set _ (by omega)) AKL
def DW.same(a b:DW):Bool:=decide (a.nm.1=b.nm.1/\a.nm.2=b.nm.2)&&((a.st==b.st)&&(a.ret.is b.ret&&bJ a.ps b.ps))
theorem AS4(a b:Bool):CX (.one .bool) false (.bool a) (.bool b)=some (.bool (a==b)):=by cases a<;>cases b<;>rfl
theorem vC{G:AX}{H:Heap}{n:Nat}{v w:V}{a b:DW}(h:mF G H n v a)(h2:mF G H n w b){k:KV}
 (hk:∀H' n',Kp H n H' n'->k (.bool (a.same b)) H' n'):Runs F G TF [v,w] H n k:=by
 refine BN (s:=SC (PL lfp G)) Vs (by obtain⟨h,o⟩:=bK BO G;rw[Vs]at h;cases h;exact o) ?_
 show PL lfp G (Runs F G) v w H n k
 obtain⟨x,rfl,h⟩:=h
 obtain⟨y,rfl,h2⟩:=h2
 delta PL
 unfold DW.same at hk
 refine FZ λH1 f1 g1=>?_
 refine FZ λH2 f2 g2=>?_
 have g1:=f2.get g1 (by omega)
 have f3:=f1.trans f2
 unfold DW.cells at g1 g2
 simp only[go_sem,Nat.reduceAdd,AU (off:=0) g1 rfl,AU (off:=0) g2 rfl,show CX (.one .str) false a.nm.v b.nm.v=_ from zX ..]
 cases e1:decide (a.nm.1=b.nm.1/\a.nm.2=b.nm.2)with
 |false=>rw[e1]at hk;simp only[go_sem];exact hk _ _ f3
 |true=>
  rw[e1]at hk
  simp only[go_sem,Nat.reduceAdd,AU (off:=1) g1 rfl,AU (off:=1) g2 rfl,AS4]
  cases e2:a.st==b.st with
  |false=>rw[e2]at hk;simp only[go_sem];exact hk _ _ f3
  |true=>
   rw[e2]at hk
   have l1:Af 2 (.ptr n 3) G H2=some a.ret.v:=Iq g1 (by omega) (by show 5<=5;omega)
   have l2:Af 2 (.ptr (n+1) 3) G H2=some b.ret.v:=Iq g2 (by omega) (by show 5<=5;omega)
   have e:CX (.agg [.str,.bool]) false a.ret.v b.ret.v=_:=oM a.ret b.ret
   simp only[go_sem,Nat.reduceAdd,l1,l2,e]
   cases e3:a.ret.is b.ret with
   |false=>rw[e3]at hk;simp only[go_sem];exact hk _ _ f3
   |true=>
    rw[e3]at hk
    simp only[go_sem,Nat.reduceAdd,AU (off:=2) g1 (v:=x) rfl,AU (off:=2) g2 (v:=y) rfl]
    refine ALK (h.el.kp h.lo f3) (h2.el.kp h2.lo f3) h.lt ?_
    exact hk _ _ f3
def Rj(fs:Tab)(t:Ty):Bool:=Si t.nm&&(!upper t.nm.1 t.nm.2||(Ci fs t.nm).isSome)
theorem eU{G:AX}{H:Heap}{n t a b:Nat}{fs:Tab}(h:TabAt G H n t a b fs){v:V}{xs:List Ty}(hx:N7 G H n v xs){k:KV}
 (hk:∀H' n',Kb b H n H' n'->k (.bool (xs.all (Rj fs))) H' n'):Runs F G Jz [.ptr t 0,v] H n k:=by
 refine BN (s:=SC (KJ lfp G)) Ro (by obtain⟨h,o⟩:=XR BO G;rw[Ro]at h;cases h;exact o) ?_
 show KJ lfp G (Runs F G) (.ptr t 0) v H n k
 delta KJ
 have hbn:=h.bn
 have hbig:=hx.lt
 rw[hx.len,AB]
 refine CJ (N:=xs.length) (J:=λi st=>∃H' n',st=(.ptr t 0,v,.int .i64 (.ofNat xs.length) 0,.int .i64 (.ofNat i) 0,H',n')/\Kb b H n H' n'/\
  (∀H' n',Kb b H n H' n'->k (.bool ((xs.drop i).all (Rj fs))) H' n')) ?_ ?_ ⟨H,n,rfl,Kb.refl _ _ _,hk⟩
 ·rintro I i st hlt ⟨H3,n3,rfl,f3,hk⟩ ih
  show IY lfp G (Runs F G) k I (.ptr t 0) v (.int .i64 (.ofNat xs.length) 0) (.int .i64 (.ofNat i) 0) H3 n3
  delta IY
  have h3:=h.kb f3
  have hx3:=hx.ke (f3.ke h.seen)
  obtain⟨q,hp,hld⟩:=hx3.el.at (XF hlt)
  have hok:=hx.ok _ (List.getElem_mem hlt)
  rw[List.drop_eq_getElem_cons hlt,List.all_cons]at hk
  generalize xs[i]=m at hok hld hk
  unfold Ty.cells at hld
  unfold Rj at hk
  have h3n:=f3.le
  simp only[go_sem,Cc,hlt,decide_true,hp,DI hld,Nat.reduceAdd]
  rw[T.set_set]
  refine run_set λH4 f4 g4=>?_
  have f5:=f3.trans (f4.kb (b:=b) (by omega))
  refine vH hok λH6 n6 f6=>?_
  have f7:=f5.trans (f6.kb (b:=b) (by omega))
  have g6:=f6.get g4 (by omega)
  have h6n:=f6.le
  simp only[Bo,go_sem]
  cases h1:Si m.nm with
  |false=>
   rw[show rH m.nm.1 m.nm.2=false from h1]
   simp only[h1,Bool.false_and]at hk
   simp only[Bool.not_false,go_sem]
   exact hk _ _ f7
  |true=>
   rw[show rH m.nm.1 m.nm.2=true from h1]
   simp only[h1,Bool.true_and]at hk
   simp only[Bool.not_true,go_sem,Nat.reduceAdd,AU (off:=0) g6 (v:=m.nm.v) rfl]
   refine uO λH8 n8 f8=>?_
   refine lu hok λH9 n9 f9=>?_
   have f10:=f7.trans ((f8.trans f9).kb (b:=b) (by omega))
   have g9:=(f8.trans f9).get g6 (by omega)
   have h9n:=(f8.trans f9).le
   rw[show isClass m.nm.1 m.nm.2 false=upper m.nm.1 m.nm.2 by simp[isClass]]
   have go:∀H' n',Kb b H n H' n'->(∀H' n',Kb b H n H' n'->k (.bool ((xs.drop (i+1)).all (Rj fs))) H' n')->Ig lfp G (Runs F G) k I (.ptr t 0) v (.int .i64 (.ofNat xs.length) 0) (.int .i64 (.ofNat i) 0) H' n':=by
    intro H' n' f hk
    delta Ig
    simp only[go_sem,D7 (show i+1<9223372036854775808 by unfold big at hbig;omega)]
    exact ih _ ⟨_,_,rfl,f,hk⟩
   cases h2:upper m.nm.1 m.nm.2 with
   |false=>
    simp only[h2,Bool.not_false,Bool.true_or,Bool.true_and]at hk
    simp only[go_sem]
    exact go _ _ f10 hk
   |true=>
    simp only[h2,Bool.not_true,Bool.false_or]at hk
    simp only[go_sem,Nat.reduceAdd,AU (off:=0) g9 (v:=m.nm.v) rfl]
    refine kC (s:=m.nm) (h.kb f10) (Nat.le_refl _) λH11 n11 w f11 hw=>?_
    obtain⟨vf,vm,ws,hw,rfl⟩:=hw
    have f12:=f10.trans f11
    have h12n:=f12.le
    simp only[go_sem,Nat.reduceAdd,Bo]
    rw[T.set_set]
    have f13:Kp H11 n11 (T.set H11 n11 (one [((Ci fs m.nm).getD DF).nm.v,((Ci fs m.nm).getD DF).sup.v,vf,vm])) (n11+1):=(Kp.refl _ _).new _ (Nat.le_refl _) (by omega)
    have f14:=f12.trans (f13.kb (b:=b) (by omega))
    cases h3:(Ci fs m.nm).isSome with
    |false=>
     simp only[h3,Bool.false_and]at hk
     simp only[Bool.not_false,go_sem]
     exact hk _ _ f14
    |true=>
     simp only[h3,Bool.true_and]at hk
     simp only[Bool.not_true,go_sem]
     exact go _ _ f14 hk
 ·rintro I st ⟨H3,n3,rfl,f3,hk⟩
  show IY lfp G (Runs F G) k I (.ptr t 0) v (.int .i64 (.ofNat xs.length) 0) (.int .i64 (.ofNat xs.length) 0) H3 n3
  delta IY
  rw[List.drop_eq_nil_of_le (Nat.le_refl _)]at hk
  simp only[go_sem,Cc,Nat.lt_irrefl,decide_false]
  delta Pj
  exact hk _ _ f3
def gX(fs:Tab)(s:St):List St->Option (St×Ty)
 |[]=>none
 |c::cs=>match Z7 s ((Ci fs c).getD DF).fs with
  |some t=>some (c,t)
  |none=>gX fs s cs
def VK(fs:Tab)(c s:St):Option (St×Ty):=gX fs s (above fs c).1
theorem AHy{G:AX}{H:Heap}{n t a b:Nat}{fs:Tab}(h:TabAt G H n t a b fs)(hfs:fs.length<=1000){c s:St}{k:KV}
 (hk:∀H' n',Kb b H n H' n'->k (.Di [((VK fs c s).getD ((0,0),tyZ)).1.v,((VK fs c s).getD ((0,0),tyZ)).2.v,.bool (VK fs c s).isSome]) H' n'):Runs F G TQ [.ptr t 0,c.v,s.v] H n k:=by
 refine BN (s:=ar3 (J4 lfp G)) Rk (by obtain⟨h,o⟩:=XP BO G;rw[Rk]at h;cases h;exact o) ?_
 show J4 lfp G (Runs F G) (.ptr t 0) c.v s.v H n k
 delta J4
 have hbn:=h.bn
 unfold VK at hk
 refine BZ rfl λH1 f1 g1=>?_
 have f1:=f1.kb (b:=b) hbn
 refine Zo (h.kb f1) hfs λH2 n2 v f2 ho hlen=>?_
 generalize(above fs c).1=cs at ho hk hlen
 have f3:=f1.trans f2
 have g2:=f2.get g1 (by omega) (by omega)
 have h2n:=f2.le
 simp only[go_sem,(ho.el (by omega)).len,Gz]
 refine CJ (N:=cs.length) (J:=λi st=>∃H' n',st=(.ptr t 0,s.v,.ptr n 0,v,.int .i64 (.ofNat cs.length) 0,.int .i64 (.ofNat i) 0,H',n')/\Kb b H n H' n'/\n<n'/\Own G H' (n+1) n' 1 v (strs cs)/\T.get H' n=some (one [.str 0 0,.bool false])/\
  (∀H' n',Kb b H n H' n'->k (.Di [((gX fs s (cs.drop i)).getD ((0,0),tyZ)).1.v,((gX fs s (cs.drop i)).getD ((0,0),tyZ)).2.v,.bool (gX fs s (cs.drop i)).isSome]) H' n')) ?_ ?_ ⟨H2,n2,rfl,f3,by omega,ho,g2,hk⟩
 ·rintro I i st hlt ⟨H3,n3,rfl,f3,hn3,ho,g3,hk⟩ ih
  show IW lfp G (Runs F G) k I (.ptr t 0) s.v (.ptr n 0) v (.int .i64 (.ofNat cs.length) 0) (.int .i64 (.ofNat i) 0) H3 n3
  delta IW
  obtain⟨q,hp,hld⟩:=(ho.el (by omega)).at (QB hlt)
  rw[List.drop_eq_getElem_cons hlt]at hk
  unfold gX at hk
  generalize cs[i]=m at hld hk
  simp only[go_sem,Cc,hlt,decide_true,hp,L6 hld]
  refine kC (s:=m) (h.kb f3) (Nat.le_refl _) λH4 n4 w f4 hw=>?_
  obtain⟨vf,vm,ws,hw,rfl⟩:=hw
  have f5:=f3.trans f4
  have h5n:=f4.le
  simp only[go_sem,Nat.reduceAdd]
  rw[T.set_set]
  refine run_set λH6 f6 g6=>?_
  have f6':=f6.kb (b:=b) (by omega)
  have f7:=f5.trans f6'
  refine AF1 (s:=s) (n:=n4+1) (v:=.agg [((Ci fs m).getD DF).nm.v,((Ci fs m).getD DF).sup.v,vf,vm]) (c:=(Ci fs m).getD DF) ⟨vf,vm,ws,hw.ke ⟨by omega,λv z LS hl he=>(f6.ke).el v z LS (hl.mono f4.le) he⟩,rfl⟩ λH8 n8 f8=>?_
  have f8':=f8.kb (b:=b) (by omega)
  have f9:=f7.trans f8'
  have h9n:=f8.le
  have f10:=f4.trans (f6'.trans f8')
  have ho:=ho.kb f10 (by omega)
  have g10:=f10.get g3 hn3 (by omega)
  unfold Ty.v Ty.cells
  simp only[go_sem,Nat.reduceAdd]
  rw[T.set_set]
  cases h1:Z7 s ((Ci fs m).getD DF).fs with
  |some ty=>
   rw[h1]at hk
   simp only[Option.isSome_some,go_sem,Option.getD_some]
   rw[Gt (m:=2) ((T.Ac _ _ (by omega)).trans g10) (by omega) rfl rfl]
   rw[Ei (m:=2) (T.Ah ..) (by omega) rfl]
   simp only[go_sem]
   refine hk _ _ (f9.trans' (m:=n8+1) (λid hid=>?_) (by omega) hbn)
   rw[T.Ac _ _ (by omega),T.Ac _ _ (by omega)]
  |none=>
   rw[h1]at hk
   simp only[Option.isSome_none,go_sem,Option.getD_none]
   simp only[go_sem,D7 (show i+1<9223372036854775808 by omega)]
   refine ih _ ⟨_,_,rfl,f9.trans' (m:=n8+1) (λid hid=>?_) (by omega) hbn,by omega,ho.kp ((Kp.refl _ _).new _ (Nat.le_refl _) (by omega)),(T.Ac _ _ (by omega)).trans g10,hk⟩
   rw[T.Ac _ _ (by omega)]
 ·rintro I st ⟨H3,n3,rfl,f3,hn3,ho,g3,hk⟩
  show IW lfp G (Runs F G) k I (.ptr t 0) s.v (.ptr n 0) v (.int .i64 (.ofNat cs.length) 0) (.int .i64 (.ofNat cs.length) 0) H3 n3
  delta IW
  rw[List.drop_eq_nil_of_le (Nat.le_refl _)]at hk
  simp only[go_sem,Cc,Nat.lt_irrefl,decide_false]
  delta Pm
  simp only[uD,AB]
  rw[Gt (m:=2) g3 (by omega) rfl rfl,ADh,Ei (m:=2) (T.Ah ..) (by omega) rfl]
  simp only[go_sem]
  refine hk _ _ (f3.trans' (m:=n3) (λid hid=>?_) (by omega) hbn)
  rw[T.Ac _ _ (by omega)]
def AHr(st:Bool)(s:St)(ms:List DW):Option DW:=match Qi s ms with
 |some m=>bif m.st==st then some m else none
 |none=>none
def aT(fs:Tab)(s:St)(st:Bool):List St->Option (St×DW)
 |[]=>none
 |c::cs=>match AHr st s ((Ci fs c).getD DF).ms with
  |some m=>some (c,m)
  |none=>aT fs s st cs
def jR(fs:Tab)(c s:St)(st:Bool):Option (St×DW):=aT fs s st (above fs c).1
theorem AFs{G:AX}{H:Heap}{n t a b:Nat}{fs:Tab}(h:TabAt G H n t a b fs)(hfs:fs.length<=1000){c s:St}{st:Bool}{k:KV}
 (hk:∀H' n' w,Kb b H n H' n'->mF G H' n w ((jR fs c s st).getD ((0,0),XC)).2->k (.Di [((jR fs c s st).getD ((0,0),XC)).1.v,w,.bool (jR fs c s st).isSome]) H' n'):
 Runs F G SA [.ptr t 0,c.v,s.v,.bool st] H n k:=by
 refine BN (s:=ar4 (Ji lfp G)) QU (by obtain⟨h,o⟩:=WX BO G;rw[QU]at h;cases h;exact o) ?_
 show Ji lfp G (Runs F G) (.ptr t 0) c.v s.v (.bool st) H n k
 delta Ji
 have hbn:=h.bn
 unfold jR at hk
 refine BZ rfl λH1 f1 g1=>?_
 have f1:=f1.kb (b:=b) hbn
 refine Zo (h.kb f1) hfs λH2 n2 v f2 ho hlen=>?_
 generalize(above fs c).1=cs at ho hk hlen
 have f3:=f1.trans f2
 have g2:=f2.get g1 (by omega) (by omega)
 have h2n:=f2.le
 simp only[go_sem,(ho.el (by omega)).len,Gz]
 refine CJ (N:=cs.length) (J:=λi q=>∃H' n',q=(.ptr t 0,s.v,.bool st,.ptr n 0,v,.int .i64 (.ofNat cs.length) 0,.int .i64 (.ofNat i) 0,H',n')/\Kb b H n H' n'/\n<n'/\Own G H' (n+1) n' 1 v (strs cs)/\T.get H' n=some (one (XC.cells .AY))/\
  (∀H' n' w,Kb b H n H' n'->mF G H' n w ((aT fs s st (cs.drop i)).getD ((0,0),XC)).2->k (.Di [((aT fs s st (cs.drop i)).getD ((0,0),XC)).1.v,w,.bool (aT fs s st (cs.drop i)).isSome]) H' n')) ?_ ?_ ⟨H2,n2,rfl,f3,by omega,ho,g2,hk⟩
 ·rintro I i q hlt ⟨H3,n3,rfl,f3,hn3,ho,g3,hk⟩ ih
  show Ho lfp G (Runs F G) k I (.ptr t 0) s.v (.bool st) (.ptr n 0) v (.int .i64 (.ofNat cs.length) 0) (.int .i64 (.ofNat i) 0) H3 n3
  delta Ho
  obtain⟨q,hp,hld⟩:=(ho.el (by omega)).at (QB hlt)
  rw[List.drop_eq_getElem_cons hlt]at hk
  unfold aT at hk
  generalize cs[i]=m at hld hk
  simp only[go_sem,Cc,hlt,decide_true,hp,L6 hld]
  refine kC (s:=m) (n0:=n) (h.kb (f3.low (Nat.le_refl _))) (by omega) λH4 n4 w f4 hw=>?_
  obtain⟨vf,vm,ws,hw,rfl⟩:=hw
  have f5:=f3.trans f4
  have h5n:=f4.le
  simp only[go_sem,Nat.reduceAdd]
  rw[T.set_set]
  refine run_set λH6 f6 g6=>?_
  have f6':=f6.kb (b:=b) (by omega)
  have f7:=f5.trans f6'
  refine rZ (s:=s) (n:=n4+1) (n0:=n) (v:=.agg [((Ci fs m).getD DF).nm.v,((Ci fs m).getD DF).sup.v,vf,vm]) (c:=(Ci fs m).getD DF) ⟨vf,vm,ws,hw.ke ((f6.ke).low (by omega)),rfl⟩ (by omega) λH8 n8 w f8 hw=>?_
  have f8':=f8.kb (b:=b) (by omega)
  have f9:=f7.trans f8'
  have h9n:=f8.le
  have f10:=f4.trans (f6'.trans f8')
  have ho:=ho.kb f10 (by omega)
  have g10:=f10.get g3 hn3 (by omega)
  obtain⟨x,rfl,hx⟩:=hw
  unfold AHr at hk
  have g11:T.get (T.set H8 n8 (one (((Qi s ((Ci fs m).getD DF).ms).getD XC).cells x))) n8=_:=T.Ah ..
  have g12:T.get (T.set H8 n8 (one (((Qi s ((Ci fs m).getD DF).ms).getD XC).cells x))) n=_:=(T.Ac _ _ (by omega)).trans g10
  unfold DW.cells at g11 g12⊢
  simp only[go_sem,Nat.reduceAdd]
  rw[T.set_set]
  have no:(∀H' n' w,Kb b H n H' n'->mF G H' n w ((aT fs s st (cs.drop (i+1))).getD ((0,0),XC)).2->k (.Di [((aT fs s st (cs.drop (i+1))).getD ((0,0),XC)).1.v,w,.bool (aT fs s st (cs.drop (i+1))).isSome]) H' n')->
   I (.ptr t 0,s.v,.bool st,.ptr n 0,v,.int .i64 (.ofNat cs.length) 0,.int .i64 (.ofNat (i+1)) 0,T.set H8 n8 (one (((Qi s ((Ci fs m).getD DF).ms).getD XC).cells x)),n8+1):=λhk=>by
   refine ih _ ⟨_,_,rfl,f9.trans' (m:=n8+1) (λid hid=>T.Ac _ _ (by omega)) (by omega) hbn,by omega,ho.kp ((Kp.refl _ _).new _ (Nat.le_refl _) (by omega)),(T.Ac _ _ (by omega)).trans g10,hk⟩
  unfold DW.cells at no
  cases h1:Qi s ((Ci fs m).getD DF).ms with
  |none=>
   rw[h1]at hk g11 g12 no
   simp only[Option.isSome_none,go_sem,Option.getD_none,D7 (show i+1<9223372036854775808 by omega)]
   exact no hk
  |some o=>
   rw[h1]at hk g11 g12 no hx
   simp only[Option.getD_some]at g11 g12 no hx
   simp only[Option.isSome_some,go_sem,Option.getD_some,Nat.reduceAdd,AU (off:=1) g11 rfl,AS4]
   cases h2:o.st==st with
   |false=>
    simp only[h2,cond_false]at hk
    simp only[go_sem,D7 (show i+1<9223372036854775808 by omega)]
    exact no hk
   |true=>
    simp only[h2,cond_true]at hk
    simp only[go_sem]
    rw[Gt (m:=5) g12 (by omega) rfl rfl]
    rw[Ei (m:=5) (T.Ah ..) (by omega) rfl]
    simp only[go_sem]
    have f11:∀id,id<n->T.get (T.set (T.set H8 n8 (one [o.nm.v,.bool o.st,x,o.ret.nm.v,.bool o.ret.arr])) n (one [o.nm.v,.bool o.st,x,o.ret.nm.v,.bool o.ret.arr])) id=T.get H8 id:=λid hid=>by
     rw[T.Ac _ _ (by omega),T.Ac _ _ (by omega)]
    exact hk _ _ _ (f9.trans' (m:=n8+1) f11 (by omega) hbn) ⟨x,rfl,hx.ke ((Kp.ke (n:=n) (n':=n) ⟨Nat.le_refl _,f11⟩))⟩
 ·rintro I q ⟨H3,n3,rfl,f3,hn3,ho,g3,hk⟩
  show Ho lfp G (Runs F G) k I (.ptr t 0) s.v (.bool st) (.ptr n 0) v (.int .i64 (.ofNat cs.length) 0) (.int .i64 (.ofNat cs.length) 0) H3 n3
  delta Ho
  rw[List.drop_eq_nil_of_le (Nat.le_refl _)]at hk
  simp only[go_sem,Cc,Nat.lt_irrefl,decide_false]
  delta OI
  simp only[uD,AB]
  rw[Gt (m:=5) g3 (by omega) rfl rfl,ADh,Ei (m:=5) (T.Ah ..) (by omega) rfl]
  simp only[go_sem]
  refine hk _ _ _ (f3.trans' (m:=n3) (λid hid=>?_) (by omega) hbn) AKL
  rw[T.Ac _ _ (by omega)]
def twin(a:Option St):List St->Bool
 |[]=>false
 |x::xs=>(match a with|some y=>decide (y.1=x.1/\y.2=x.2)|none=>false)||twin (some x) xs
abbrev AFl(fs:List lg):List St:=fs.map λf=>f.nm
abbrev ABn(fs:List DW):List St:=fs.map λf=>f.nm
def twice(c:Fc):Bool:=twin none (AFl c.fs)||twin none (ABn c.ms)
theorem ARm(a b:St):CX (.one .str) false a.v b.v=some (.bool (decide (a.1=b.1/\a.2=b.2))):=zX ..
theorem ASw(i:Nat):B2.ev .gtr (.int .i64 (.ofNat i) 0) (.int .i64 (.ofNat 0) 0)=some (.bool (decide (0<i))):=Xi ..
theorem AN4{G:AX}(hG:QT G){H:Heap}{n:Nat}{v:V}{c:Fc}(h:VN G H n v c){k:KV}(hk:∀H' n',Kp H n H' n'->k (.bool (twice c)) H' n'):Runs F G rW [v] H n k:=by
 refine BN (s:=N9 (U4 lfp G)) aQ (by obtain⟨h,o⟩:=oD BO G;rw[aQ]at h;cases h;exact o) ?_
 show U4 lfp G (Runs F G) v H n k
 obtain⟨vf,vm,ws,h,rfl⟩:=h
 delta U4
 unfold twice at hk
 refine FZ λH1 f1 g1=>?_
 have hf:=h.fs.kp f1
 have hm:=h.ms.kp f1
 have l2:AV (.ptr n 2) G H1=some vf:=AU g1 rfl
 have l3:AV (.ptr n 3) G H1=some vm:=AU g1 rfl
 have hbf:=hf.lt
 have hbm:=hm.lt
 simp only[go_sem,Nat.reduceAdd,l2,h.fs.len]
 have AOo:(∀H' n',Kp H n H' n'->k (.bool (twin none (ABn c.ms))) H' n')->TK lfp G (Runs F G) k (.ptr n 0) H1 (n+1):=by
  intro hk
  delta TK
  simp only[go_sem,Nat.reduceAdd,l3,h.ms.len']
  refine CJ (N:=c.ms.length) (J:=λi q=>q=(.ptr n 0,.int .i64 (.ofNat c.ms.length) 0,.int .i64 (.ofNat i) 0,H1,n+1)/\
   (k (.bool (twin (match i with|0=>none|i+1=>(ABn c.ms)[i]?) ((ABn c.ms).drop i))) H1 (n+1))) ?_ ?_ ⟨rfl,hk _ _ f1⟩
  ·rintro I i q hlt ⟨rfl,hk⟩ ih
   show O6 lfp G (Runs F G) k I (.ptr n 0) (.int .i64 (.ofNat c.ms.length) 0) (.int .i64 (.ofNat i) 0) H1 (n+1)
   delta O6
   have hlt':i<(ABn c.ms).length:=by simpa using hlt
   rw[List.drop_eq_getElem_cons hlt',List.getElem_map]at hk
   unfold twin at hk
   obtain⟨q,w,hp,hld,-⟩:=hm.at hlt
   obtain⟨q',hp',hld'⟩:=WI hG hld rfl (o:=0) (x:=c.ms[i].nm.v) rfl
   simp only[go_sem,Cc,hlt,decide_true,ASw]
   have next:(k (.bool (twin (some c.ms[i].nm) ((ABn c.ms).drop (i+1)))) H1 (n+1))->I (.ptr n 0,.int .i64 (.ofNat c.ms.length) 0,.int .i64 (.ofNat (i+1)) 0,H1,n+1):=λhk=>by
    refine ih _ ⟨rfl,?_⟩
    show k (.bool (twin ((ABn c.ms)[i]?) _)) H1 (n+1)
    rw[List.getElem?_eq_getElem hlt',List.getElem_map];exact hk
   cases i with
   |zero=>
    simp only[Nat.lt_irrefl,decide_false,go_sem,D7 (show 0+1<9223372036854775808 by omega)]
    exact next hk
   |succ i=>
    have hlt2:i<c.ms.length:=by omega
    obtain⟨r,w2,hr,hldr,-⟩:=hm.at hlt2
    obtain⟨r',hr',hldr'⟩:=WI hG hldr rfl (o:=0) (x:=c.ms[i].nm.v) rfl
    simp only[Nat.zero_lt_succ,decide_true,go_sem,Nat.reduceAdd,l3,uP (show i+1<9223372036854775808 by unfold big at hbm;omega),hr,hr',hldr',hp,hp',hld',ARm]
    have hk:k (.bool (decide (c.ms[i].nm.1=c.ms[i+1].nm.1/\c.ms[i].nm.2=c.ms[i+1].nm.2)||twin (some c.ms[i+1].nm) ((ABn c.ms).drop (i+1+1)))) H1 (n+1):=by
     have e:(ABn c.ms)[i]? =some c.ms[i].nm:=by rw[List.getElem?_map,List.getElem?_eq_getElem hlt2];rfl
     simp only[e]at hk;exact hk
    cases e:decide (c.ms[i].nm.1=c.ms[i+1].nm.1/\c.ms[i].nm.2=c.ms[i+1].nm.2)with
    |true=>rw[e]at hk;simp only[go_sem];exact hk
    |false=>
     rw[e]at hk
     simp only[go_sem,D7 (show i+1+1<9223372036854775808 by unfold big at hbm;omega)]
     exact next hk
  ·rintro I q ⟨rfl,hk⟩
   show O6 lfp G (Runs F G) k I (.ptr n 0) (.int .i64 (.ofNat c.ms.length) 0) (.int .i64 (.ofNat c.ms.length) 0) H1 (n+1)
   delta O6
   rw[List.drop_eq_nil_of_le (by simp)]at hk
   simp only[go_sem,Cc,Nat.lt_irrefl,decide_false]
   delta Wq
   exact hk
 generalize twin none (ABn c.ms)=B at hk AOo
 refine CJ (N:=c.fs.length) (J:=λi q=>q=(.ptr n 0,.int .i64 (.ofNat c.fs.length) 0,.int .i64 (.ofNat i) 0,H1,n+1)/\
  (∀H' n',Kp H n H' n'->k (.bool (twin (match i with|0=>none|i+1=>(AFl c.fs)[i]?) ((AFl c.fs).drop i)||B)) H' n')) ?_ ?_ ⟨rfl,hk⟩
 ·rintro I i q hlt ⟨rfl,hk⟩ ih
  show Ns lfp G (Runs F G) k I (.ptr n 0) (.int .i64 (.ofNat c.fs.length) 0) (.int .i64 (.ofNat i) 0) H1 (n+1)
  delta Ns
  have hlt':i<(AFl c.fs).length:=by simpa using hlt
  rw[List.drop_eq_getElem_cons hlt',List.getElem_map]at hk
  unfold twin at hk
  obtain⟨q,hp,hld⟩:=hf.at hlt
  obtain⟨q',hp',hld'⟩:=WI hG hld rfl (o:=0) (x:=c.fs[i].nm.v) rfl
  simp only[go_sem,Cc,hlt,decide_true,ASw]
  have next:(∀H' n',Kp H n H' n'->k (.bool (twin (some c.fs[i].nm) ((AFl c.fs).drop (i+1))||B)) H' n')->I (.ptr n 0,.int .i64 (.ofNat c.fs.length) 0,.int .i64 (.ofNat (i+1)) 0,H1,n+1):=λhk=>by
   refine ih _ ⟨rfl,?_⟩
   show ∀H' n',Kp H n H' n'->k (.bool (twin ((AFl c.fs)[i]?) _||_)) H' n'
   rw[List.getElem?_eq_getElem hlt',List.getElem_map];exact hk
  cases i with
  |zero=>
   simp only[Nat.lt_irrefl,decide_false,go_sem,D7 (show 0+1<9223372036854775808 by omega)]
   simp only[Bool.false_or]at hk
   exact next hk
  |succ i=>
   have hlt2:i<c.fs.length:=by omega
   obtain⟨r,hr,hldr⟩:=hf.at hlt2
   obtain⟨r',hr',hldr'⟩:=WI hG hldr rfl (o:=0) (x:=c.fs[i].nm.v) rfl
   simp only[Nat.zero_lt_succ,decide_true,go_sem,Nat.reduceAdd,l2,uP (show i+1<9223372036854775808 by unfold big at hbf;omega),hr,hr',hldr',hp,hp',hld',ARm]
   have hk:∀H' n',Kp H n H' n'->k (.bool ((decide (c.fs[i].nm.1=c.fs[i+1].nm.1/\c.fs[i].nm.2=c.fs[i+1].nm.2)||twin (some c.fs[i+1].nm) ((AFl c.fs).drop (i+1+1)))||B)) H' n':=by
    have e:(AFl c.fs)[i]? =some c.fs[i].nm:=by rw[List.getElem?_map,List.getElem?_eq_getElem hlt2];rfl
    simp only[e]at hk;exact hk
   cases e:decide (c.fs[i].nm.1=c.fs[i+1].nm.1/\c.fs[i].nm.2=c.fs[i+1].nm.2)with
   |true=>rw[e]at hk;simp only[go_sem];exact hk _ _ f1
   |false=>
    rw[e]at hk
    simp only[go_sem,D7 (show i+1+1<9223372036854775808 by unfold big at hbf;omega)]
    exact next hk
 ·rintro I q ⟨rfl,hk⟩
  show Ns lfp G (Runs F G) k I (.ptr n 0) (.int .i64 (.ofNat c.fs.length) 0) (.int .i64 (.ofNat c.fs.length) 0) H1 (n+1)
  delta Ns
  rw[List.drop_eq_nil_of_le (by simp)]at hk
  simp only[go_sem,Cc,Nat.lt_irrefl,decide_false]
  exact AOo hk
structure AQD(G:AX)(H:Heap)(n m:Nat)(v:V)(cs:List Fc):Prop where
 is:∃LS:ER,El G H v 4 LS/\LS.length=cs.length/\∀(i:Nat) (L:LV) (c:Fc),LS[i]? =some L->cs[i]? =some c->VN G H m (.agg L) c
 lo:Lo v n
 lt:cs.length<=1000
 mn:m<=n
def Vu(fs:Tab):List Fc->Tab
 |[]=>fs
 |c::cs=>Vu (Uf c.nm c fs) cs
def EL(cs:List Fc):Tab:=Vu [] cs
theorem lT.put{G:AX}{H H':Heap}{n a:Nat}{fs:Tab}{v:V}{c:Fc}{ps:List (St×V)}(hm:kM H a ps)(hkey:keyed ps fs)(hv:∀s v c,Ci ps s=some v->Ci fs s=some c->VN G H' n v c)(h1:kM H' a (Uf c.nm v ps))(hc:VN G H' n v c):
 lT G H' n a (Uf c.nm c fs):=
 ⟨_,h1,uZ _ _ _ hkey,λs w d h2 h3=>by
  rw[Qe]at h2 h3
  by_cases e:c.nm=s
  ·rw[if_pos e]at h2 h3;cases h2;cases h3;exact hc
  ·rw[if_neg e]at h2 h3;exact hv _ _ _ h2 h3⟩
theorem VN.up{G:AX}{H:Heap}{n n':Nat}{v:V}{c:Fc}(h:VN G H n v c)(hn:n<=n'):VN G H n' v c:=h.ke ⟨hn,λ_ _ _ _ h=>h⟩
theorem ARa{G:AX}{H:Heap}{n m:Nat}{v:V}{cs:List Fc}(h:AQD G H n m v cs){k:KV}
 (hk:∀H' n' t a b,Kp H n H' n'->T.get H' t=some (one [.map a,.map b])->lT G H' m a (EL cs)->Gv H' b->n<=a->a<b->b<t->t<n'->k (.ptr t 0) H' n'):Runs F G AAN [v] H n k:=by
 refine BN (s:=N9 (YA lfp G)) jC (by obtain⟨h,o⟩:=xK BO G;rw[jC]at h;cases h;exact o) ?_
 show YA lfp G (Runs F G) v H n k
 delta YA
 obtain⟨⟨LS,hel,hlen,hfv⟩,hlo,hlt,hmn⟩:=h
 simp only[AIO,go_sem,Nat.reduceAdd,show Ap [V.ABh,.ABh] [(0,1,.c (.map n)),(1,1,.c (.map (n+1)))]=some (.agg [.map n,.map (n+1)])from rfl,hel.len,hlen]
 have f1:Kp H n (T.set (T.set (T.set H n (.map [] 0)) (n+1) (.map [] 0)) (n+1+1) (one [.map n,.map (n+1)])) (n+1+1+1):=((((Kp.refl H n).new (m:=n+1) _ (Nat.le_refl _) (by omega)).new (m:=n+1+1) _ (by omega) (by omega)).new _ (by omega) (by omega))
 refine CJ (N:=cs.length) (J:=λi q=>∃H' n' fs,q=(.ptr (n+1+1) 0,v,.int .i64 (.ofNat cs.length) 0,.int .i64 (.ofNat i) 0,H',n')/\Kp H n H' n'/\n+1+1<n'/\T.get H' (n+1+1)=some (one [.map n,.map (n+1)])/\lT G H' m n fs/\Gv H' (n+1)/\
  Vu fs (cs.drop i)=EL cs) ?_ ?_ ⟨_,_,[],rfl,f1,by omega,T.Ah ..,⟨[],⟨[],0,by rw[T.Ac _ _ (by omega),T.Ac _ _ (by omega),T.Ah],rfl⟩,rfl,λs v c h=>by cases h⟩,⟨[],[],0,by rw[T.Ac _ _ (by omega),T.Ah],rfl⟩,rfl⟩
 ·rintro I i q hi ⟨H3,n3,fs,rfl,f3,hn3,g3,hfa,hs,htab⟩ ih
  show SI lfp G (Runs F G) k I (.ptr (n+1+1) 0) v (.int .i64 (.ofNat cs.length) 0) (.int .i64 (.ofNat i) 0) H3 n3
  delta SI
  obtain⟨q,hp,hld⟩:=(hel.kp hlo f3).at (i:=i) (c:=LS[i]'(by omega)) (List.getElem?_eq_getElem _)
  have hf:=hfv i _ _ (List.getElem?_eq_getElem (by omega)) (List.getElem?_eq_getElem hi)
  rw[List.drop_eq_getElem_cons hi]at htab
  unfold Vu at htab
  generalize cs[i]=fc at hf htab
  obtain⟨vf,vm,ws,hf,e⟩:=hf
  have e':LS[i]'(by omega)=[fc.nm.v,fc.sup.v,vf,vm]:=by injection e
  rw[e']at hld
  simp only[go_sem,Cc,hi,decide_true,hp,DI hld,Nat.reduceAdd]
  rw[T.set_set]
  rw[show AV (.ptr (n+1+1) 0) G (T.set H3 n3 (one [fc.nm.v,fc.sup.v,vf,vm]))=some (.map n)from AU ((T.Ac _ _ (by omega)).trans g3) rfl]
  obtain⟨ps,hps,hkey,hval⟩:=hfa.is
  simp only[go_sem]
  refine ADB (fK hps (T.Ac _ _ (by omega))) fc.nm _ λH4 hm4 hs4=>?_
  simp only[go_sem,D7 (show i+1<9223372036854775808 by omega)]
  have f4:Kp H n H4 (n3+1):=⟨by omega,λid hid=>by rw[hs4 id (by omega),T.Ac _ _ (by omega)];exact f3.same id hid⟩
  have f5:Kp H3 n H4 n:=⟨Nat.le_refl _,λid hid=>by rw[hs4 id (by omega),T.Ac _ _ (by omega)]⟩
  refine ih _ ⟨H4,_,Uf fc.nm fc fs,rfl,f4,by omega,?_,lT.put hps hkey (λs v c x y=>(hval s v c x y).ke (f5.ke.low hmn)) hm4 ⟨vf,vm,ws,hf.ke ((f4.ke).low hmn),rfl⟩,?_,htab⟩
  ·rw[hs4 _ (by omega),T.Ac _ _ (by omega)];exact g3
  ·exact hs.same (by rw[hs4 _ (by omega),T.Ac _ _ (by omega)])
 ·rintro I q ⟨H3,n3,fs,rfl,f3,hn3,g3,hfa,hs,htab⟩
  show SI lfp G (Runs F G) k I (.ptr (n+1+1) 0) v (.int .i64 (.ofNat cs.length) 0) (.int .i64 (.ofNat cs.length) 0) H3 n3
  delta SI
  simp only[go_sem,Cc,Nat.lt_irrefl,decide_false]
  delta aA
  rw[List.drop_eq_nil_of_le (Nat.le_refl _)]at htab
  have htab:fs=EL cs:=htab
  subst htab
  exact hk _ _ _ n (n+1) f3 g3 hfa hs (by omega) (by omega) (by omega) (by omega)
def AOi(fs:Tab)(sup:St)(m:DW):Bool:=match jR fs sup m.nm false with
 |some o=> !m.st&& !m.same o.2
 |none=>false
def jw(fs:Tab)(sup:St):List DW->Int
 |[]=>0
 |m::ms=>bif !((m.ret::m.ps).all (Rj fs))then 23 else bif AOi fs sup m then 27 else jw fs sup ms
def xW(fs:Tab)(sup:St)(r:Int):List lg->Int
 |[]=>r
 |f::l=>bif !([f.ty].all (Rj fs))then 23 else bif (VK fs sup f.nm).isSome then 6 else xW fs sup r l
structure AIM(G:AX)(H0:Heap)(n0:Nat)(H:Heap)(n t a b e:Nat)(fs:Tab)(c:Fc)(vf vm:V)(ws:List V):Prop where
 f:Kb b H0 n0 H n
 en:e<n
 e0:n0<=e
 g:T.get H e=some (one [c.nm.v,c.sup.v,vf,vm])
theorem AD5{G:AX}{H0 H:Heap}{n0 n t a b e:Nat}{fs:Tab}(h:TabAt G H0 n0 t a b fs)(hfs:fs.length<=1000){c:Fc}{vf vm:V}{ws:List V}(hc:AIM G H0 n0 H n t a b e fs c vf vm ws)
 (hf:YS G H0 n0 [c.nm.v,c.sup.v,vf,vm] c vf vm ws) (hps:∀m∈c.ms,m.ps.length<=100000) {k:KV} (hk:∀H' n',Kb b H0 n0 H' n'->k (.int .i64 (jw fs c.sup c.ms) 0) H' n'):
 Jr lfp G (Runs F G) k (.ptr t 0) (.ptr e 0) H n:=by
 delta Jr
 have hbig:=hf.ms.lt
 have hbn:=h.bn
 simp only[go_sem,Nat.reduceAdd,AU (off:=3) hc.g (v:=vm) rfl,hf.ms.len']
 refine CJ (N:=c.ms.length) (J:=λi q=>∃H' n',q=(.ptr t 0,.ptr e 0,vm,.int .i64 (.ofNat c.ms.length) 0,.int .i64 (.ofNat i) 0,H',n')/\AIM G H0 n0 H' n' t a b e fs c vf vm ws/\
  (∀H' n',Kb b H0 n0 H' n'->k (.int .i64 (jw fs c.sup (c.ms.drop i)) 0) H' n')) ?_ ?_ ⟨H,n,rfl,hc,hk⟩
 ·rintro I i q hlt ⟨H3,n3,rfl,hc,hk⟩ ih
  show G9 lfp G (Runs F G) k I (.ptr t 0) (.ptr e 0) vm (.int .i64 (.ofNat c.ms.length) 0) (.int .i64 (.ofNat i) 0) H3 n3
  delta G9
  have f3:=hc.f
  have hen:=hc.en
  have he0:=hc.e0
  have hm3:OE G H3 n0 vm c.ms ws:=hf.ms.ke ((f3.ke h.seen).low (Nat.le_refl _))
  obtain⟨q,w,hp,hld,hw⟩:=hm3.at hlt
  have hps:=hps _ (List.getElem_mem hlt)
  have hok:=hf.ms.ok _ (List.getElem_mem hlt)
  rw[List.drop_eq_getElem_cons hlt]at hk
  unfold jw at hk
  generalize c.ms[i]=m at hld hk hw hps hok
  unfold DW.cells at hld
  simp only[go_sem,Cc,hlt,decide_true,hp,DI hld,Nat.reduceAdd]
  rw[T.set_set]
  have g4:=T.Ah H3 n3 (one [m.nm.v,.bool m.st,w,m.ret.nm.v,.bool m.ret.arr])
  have f4:Kp H3 n3 (T.set H3 n3 (one [m.nm.v,.bool m.st,w,m.ret.nm.v,.bool m.ret.arr])) (n3+1):=(Kp.refl _ _).new _ (Nat.le_refl _) (by omega)
  generalize T.set H3 n3 (one [m.nm.v,.bool m.st,w,m.ret.nm.v,.bool m.ret.arr])=H4 at f4 g4
  rw[show Af 2 (.ptr n3 3) G H4=some (.agg m.ret.cells)from Iq g4 (by omega) (by show 5<=5;omega)]
  simp only[go_sem,Nat.reduceAdd]
  rw[AAa (z:=2) (L:=m.ret.cells) rfl]
  have hcap:=T.Ah H4 (n3+1) (.arr 2 1 (T.set (T.set .e 0 [.str 0 0,.bool false]) 0 m.ret.cells))
  have f5:Kp H4 (n3+1) (T.set H4 (n3+1) (.arr 2 1 (T.set (T.set .e 0 [.str 0 0,.bool false]) 0 m.ret.cells))) (n3+1+1):=(Kp.refl _ _).new _ (Nat.le_refl _) (by omega)
  generalize T.set H4 (n3+1) (.arr 2 1 (T.set (T.set .e 0 [.str 0 0,.bool false]) 0 m.ret.cells))=H5 at f5 hcap
  have g5:=f5.get g4 (by omega)
  have hel:=lW (G:=G) (by omega) (show m.ret.cells.length=2 from rfl) hcap
  have fb5:=f3.trans ((f4.trans f5).kb (b:=b) (by omega))
  have hw5:=hw.ke (((f4.trans f5).ke).low (m:=n0) (by omega))
  simp only[go_sem,AU (off:=2) g5 (v:=w) rfl]
  refine ANL (by omega) hcap (by omega) hel.2 hw5.el.2 (by rw[GN];omega) λv6 H6 n6 hel6 hs6 hn6 hlo6=>?_
  have f6:Kp H5 (n3+1+1) H6 n6:=⟨hn6,hs6⟩
  have fb6:=fb5.trans (f6.kb (b:=b) (by omega))
  have g6:=f6.get g5 (by omega)
  refine eU (xs:=m.ret::m.ps) (h.kb fb6) ⟨hel6,hlo6,by simp[big];omega,?_⟩ λH7 n7 f7=>?_
  ·intro x hx
   rcases List.mem_cons.1 hx with rfl|hx
   ·exact hok.2
   ·exact hw.ok _ hx
  have fb7:=fb6.trans f7
  have h7n:=f7.le
  have g7:=f7.get g6 (by omega) (by omega)
  simp only[go_sem,Nat.reduceAdd,Bo]
  cases h1:(m.ret::m.ps).all (Rj fs)with
  |false=>
   rw[h1]at hk
   simp only[Bool.not_false,cond_true]at hk
   simp only[Bool.not_false,go_sem]
   exact hk _ _ fb7
  |true=>
   rw[h1]at hk
   simp only[Bool.not_true,cond_false]at hk
   have fe:Kb b H3 n3 H7 n7:=((f4.trans (f5.trans f6)).kb (b:=b) (by omega)).trans f7
   have ge:T.get H7 e=some (one [c.nm.v,c.sup.v,vf,vm]):=fe.get hc.g hen (by omega)
   simp only[Bool.not_true,go_sem,Nat.reduceAdd,AU (off:=1) ge (v:=c.sup.v) rfl,AU (off:=0) g7 (v:=m.nm.v) rfl]
   refine AFs (c:=c.sup) (s:=m.nm) (st:=false) (h.kb fb7) hfs λH8 n8 x f8 hx=>?_
   have fb8:=fb7.trans f8
   have h8n:=f8.le
   have g8:=f8.get g7 (by omega) (by omega)
   have hw8:mF G H8 n7 (.agg (m.cells w)) m:=⟨w,rfl,(hw.ke (((fe.trans f8).ke (f3.seen h.seen)).low (m:=n0) (by omega))).ke ⟨by omega,λ_ _ _ _ h=>h⟩⟩
   obtain⟨y,rfl,hy⟩:=hx
   unfold AOi at hk
   have next:∀H' n',Kb b H8 n8 H' n'->(∀H' n',Kb b H0 n0 H' n'->k (.int .i64 (jw fs c.sup (c.ms.drop (i+1))) 0) H' n')->I (.ptr t 0,.ptr e 0,vm,.int .i64 (.ofNat c.ms.length) 0,.int .i64 (.ofNat (i+1)) 0,H',n'):=λH' n' f hk=>
    ih _ ⟨_,_,rfl,⟨fb8.trans f,by have:=f.le;omega,he0,f.get (f8.get ge (by omega) (by omega)) (by omega) (by omega)⟩,hk⟩
   simp only[go_sem,Nat.reduceAdd]
   have g9:=T.Ah H8 n8 (one (((jR fs c.sup m.nm false).getD ((0,0),XC)).2.cells y))
   have f9:Kp H8 n8 (T.set H8 n8 (one (((jR fs c.sup m.nm false).getD ((0,0),XC)).2.cells y))) (n8+1):=(Kp.refl _ _).new _ (Nat.le_refl _) (by omega)
   unfold DW.cells at g9 f9⊢
   simp only[go_sem,Nat.reduceAdd]
   rw[T.set_set]
   cases h2:jR fs c.sup m.nm false with
   |none=>
    rw[h2]at hk f9
    simp only[cond_false]at hk
    simp only[Option.isSome_none,go_sem,D7 (show i+1<9223372036854775808 by unfold big at hbig;omega)]
    exact next _ _ (f9.kb (by omega)) hk
   |some o=>
    rw[h2]at hk f9 g9 hy
    simp only[Option.getD_some]at f9 g9 hy
    simp only[Option.isSome_some,Option.getD_some]
    generalize T.set H8 n8 (one [o.2.nm.v,.bool o.2.st,y,o.2.ret.nm.v,.bool o.2.ret.arr])=H9 at f9 g9
    have gm:=f9.get g8 (by omega)
    simp only[go_sem,Nat.reduceAdd,AU (off:=1) gm (v:=.bool m.st) rfl,Bo]
    cases h3:m.st with
    |true=>
     rw[h3]at hk
     simp only[Bool.not_true,Bool.false_and,cond_false]at hk
     simp only[Bool.not_true,go_sem,D7 (show i+1<9223372036854775808 by unfold big at hbig;omega)]
     exact next _ _ (f9.kb (by omega)) hk
    |false=>
     rw[h3]at hk
     simp only[Bool.not_false,Bool.true_and]at hk
     simp only[Bool.not_false,go_sem,CV (m:=5) gm (by omega) rfl,CV (m:=5) g9 (by omega) rfl]
     have hwS:mF G H9 (n8+1) (.agg [m.nm.v,.bool m.st,w,m.ret.nm.v,.bool m.ret.arr]) m:=hw8.ke ⟨by omega,λv z LS hl he=>(f9.ke).el v z LS (hl.mono (by omega)) he⟩
     have hyS:mF G H9 (n8+1) (.agg [o.2.nm.v,.bool o.2.st,y,o.2.ret.nm.v,.bool o.2.ret.arr]) o.2:=⟨y,rfl,hy.ke ⟨by omega,λv z LS hl he=>(f9.ke).el v z LS (hl.mono (by omega)) he⟩⟩
     refine vC hwS hyS λH10 n10 f10=>?_
     have f11:=(f9.trans f10).kb (b:=b) (by omega)
     simp only[go_sem,Bo]
     cases h4:m.same o.2 with
     |false=>
      rw[h4]at hk
      simp only[Bool.not_false,cond_true]at hk
      simp only[Bool.not_false,go_sem]
      exact hk _ _ (fb8.trans f11)
     |true=>
      rw[h4]at hk
      simp only[Bool.not_true,cond_false]at hk
      simp only[Bool.not_true,go_sem,D7 (show i+1<9223372036854775808 by unfold big at hbig;omega)]
      exact next _ _ f11 hk
 ·rintro I q ⟨H3,n3,rfl,hc,hk⟩
  show G9 lfp G (Runs F G) k I (.ptr t 0) (.ptr e 0) vm (.int .i64 (.ofNat c.ms.length) 0) (.int .i64 (.ofNat c.ms.length) 0) H3 n3
  delta G9
  rw[List.drop_eq_nil_of_le (Nat.le_refl _)]at hk
  simp only[go_sem,Cc,Nat.lt_irrefl,decide_false]
  delta OU
  exact hk _ _ hc.f
theorem AFE{G:AX}{H0 H:Heap}{n0 n t a b e:Nat}{fs:Tab}(h:TabAt G H0 n0 t a b fs)(hfs:fs.length<=1000){c:Fc}{vf vm:V}{ws:List V}(hc:AIM G H0 n0 H n t a b e fs c vf vm ws)
 (hf:YS G H0 n0 [c.nm.v,c.sup.v,vf,vm] c vf vm ws) (hps:∀m∈c.ms,m.ps.length<=100000) {k:KV} (hk:∀H' n',Kb b H0 n0 H' n'->k (.int .i64 (xW fs c.sup (jw fs c.sup c.ms) c.fs) 0) H' n'):
 lfp (V×V×V×V×V×Heap×Nat) (Nb lfp G (Runs F G) k) (.ptr t 0,.ptr e 0,vf,.int .i64 (.ofNat c.fs.length) 0,.int .i64 (.ofNat 0) 0,H,n):=by
 have hbig:=hf.fs.lt
 have hbn:=h.bn
 refine CJ (N:=c.fs.length) (J:=λi q=>∃H' n',q=(.ptr t 0,.ptr e 0,vf,.int .i64 (.ofNat c.fs.length) 0,.int .i64 (.ofNat i) 0,H',n')/\AIM G H0 n0 H' n' t a b e fs c vf vm ws/\
  (∀H' n',Kb b H0 n0 H' n'->k (.int .i64 (xW fs c.sup (jw fs c.sup c.ms) (c.fs.drop i)) 0) H' n')) ?_ ?_ ⟨H,n,rfl,hc,hk⟩
 ·rintro I i q hlt ⟨H3,n3,rfl,hc,hk⟩ ih
  show G5 lfp G (Runs F G) k I (.ptr t 0) (.ptr e 0) vf (.int .i64 (.ofNat c.fs.length) 0) (.int .i64 (.ofNat i) 0) H3 n3
  delta G5
  have f3:=hc.f
  have hen:=hc.en
  have he0:=hc.e0
  have hm3:Td G H3 n0 vf c.fs:=hf.fs.ke ((f3.ke h.seen).low (Nat.le_refl _))
  obtain⟨q,hp,hld⟩:=hm3.at hlt
  have hok:=hf.fs.ok _ (List.getElem_mem hlt)
  rw[List.drop_eq_getElem_cons hlt]at hk
  unfold xW at hk
  generalize c.fs[i]=m at hld hk hok
  unfold lg.cells at hld
  simp only[go_sem,Cc,hlt,decide_true,hp,DI hld,Nat.reduceAdd]
  rw[T.set_set]
  have g4:=T.Ah H3 n3 (one [m.nm.v,m.ty.nm.v,.bool m.ty.arr])
  have f4:Kp H3 n3 (T.set H3 n3 (one [m.nm.v,m.ty.nm.v,.bool m.ty.arr])) (n3+1):=(Kp.refl _ _).new _ (Nat.le_refl _) (by omega)
  generalize T.set H3 n3 (one [m.nm.v,m.ty.nm.v,.bool m.ty.arr])=H4 at f4 g4
  rw[show Af 2 (.ptr n3 1) G H4=some (.agg m.ty.cells)from Iq g4 (by omega) (by show 3<=3;omega)]
  simp only[go_sem,Nat.reduceAdd]
  rw[AAa (z:=2) (L:=m.ty.cells) rfl]
  have hcap:=T.Ah H4 (n3+1) (.arr 2 1 (T.set (T.set .e 0 [.str 0 0,.bool false]) 0 m.ty.cells))
  have f5:Kp H4 (n3+1) (T.set H4 (n3+1) (.arr 2 1 (T.set (T.set .e 0 [.str 0 0,.bool false]) 0 m.ty.cells))) (n3+1+1):=(Kp.refl _ _).new _ (Nat.le_refl _) (by omega)
  generalize T.set H4 (n3+1) (.arr 2 1 (T.set (T.set .e 0 [.str 0 0,.bool false]) 0 m.ty.cells))=H5 at f5 hcap
  have g5:=f5.get g4 (by omega)
  have hel:=lW (G:=G) (by omega) (show m.ty.cells.length=2 from rfl) hcap
  have fb5:=f3.trans ((f4.trans f5).kb (b:=b) (by omega))
  refine eU (xs:=[m.ty]) (h.kb fb5) ⟨hel,λid hid=>by cases hid;omega,by show 1<big;decide,?_⟩ λH7 n7 f7=>?_
  ·intro x hx;simp at hx;subst hx;exact hok.2
  have fb7:=fb5.trans f7
  have h7n:=f7.le
  have g7:=f7.get g5 (by omega) (by omega)
  simp only[go_sem,Nat.reduceAdd,Bo]
  cases h1:[m.ty].all (Rj fs)with
  |false=>
   rw[h1]at hk
   simp only[Bool.not_false,cond_true]at hk
   simp only[Bool.not_false,go_sem]
   exact hk _ _ fb7
  |true=>
   rw[h1]at hk
   simp only[Bool.not_true,cond_false]at hk
   have fe:Kb b H3 n3 H7 n7:=((f4.trans f5).kb (b:=b) (by omega)).trans f7
   have ge:T.get H7 e=some (one [c.nm.v,c.sup.v,vf,vm]):=fe.get hc.g hen (by omega)
   simp only[Bool.not_true,go_sem,Nat.reduceAdd,AU (off:=1) ge (v:=c.sup.v) rfl,AU (off:=0) g7 (v:=m.nm.v) rfl]
   refine AHy (c:=c.sup) (s:=m.nm) (h.kb fb7) hfs λH8 n8 f8=>?_
   have fb8:=fb7.trans f8
   have h8n:=f8.le
   unfold Ty.v Ty.cells
   simp only[go_sem,Nat.reduceAdd]
   rw[T.set_set]
   have f9:Kp H8 n8 (T.set H8 n8 (one [((VK fs c.sup m.nm).getD ((0,0),tyZ)).2.nm.v,.bool ((VK fs c.sup m.nm).getD ((0,0),tyZ)).2.arr])) (n8+1):=(Kp.refl _ _).new _ (Nat.le_refl _) (by omega)
   have fb9:=fb8.trans (f9.kb (b:=b) (by omega))
   cases h2:(VK fs c.sup m.nm).isSome with
   |true=>
    rw[h2]at hk
    simp only[cond_true]at hk
    simp only[go_sem]
    exact hk _ _ fb9
   |false=>
    rw[h2]at hk
    simp only[cond_false]at hk
    simp only[go_sem,D7 (show i+1<9223372036854775808 by unfold big at hbig;omega)]
    exact ih _ ⟨_,_,rfl,⟨fb9,by omega,he0,f9.get (f8.get ge (by omega) (by omega)) (by omega)⟩,hk⟩
 ·rintro I q ⟨H3,n3,rfl,hc,hk⟩
  show G5 lfp G (Runs F G) k I (.ptr t 0) (.ptr e 0) vf (.int .i64 (.ofNat c.fs.length) 0) (.int .i64 (.ofNat c.fs.length) 0) H3 n3
  delta G5
  rw[List.drop_eq_nil_of_le (Nat.le_refl _)]at hk
  simp only[go_sem,Cc,Nat.lt_irrefl,decide_false]
  exact AD5 h hfs hc hf hps hk
theorem ACc:∀(m:Nat) (fs:Tab) (out:List St) (s:St),out.length<=(Hz m fs out s).1.length
 |0,_,_,_=>Nat.le_refl _
 |m+1,fs,out,s=>by
  unfold Hz
  cases decide (s.1=0/\s.2=0)with
  |true=>exact Nat.le_refl _
  |false=>
   simp only[cond_false]
   cases Ci fs s with
   |none=>exact Nat.le_refl _
   |some c=>
    show _<=(bif fC s out then(out,false)else Hz m fs (out++[s]) c.sup).1.length
    cases fC s out with
    |true=>exact Nat.le_refl _
    |false=>have:=ACc m fs (out++[s]) c.sup;simp only[List.length_append,List.length_singleton]at this;simp only[cond_false];omega
theorem AI9{fs:Tab}{s:St}{c:Fc}(h:Ci fs s=some c)(h0:¬(s.1=0/\s.2=0)):1<=(above fs s).1.length:=by
 unfold above Hz
 rw[decide_eq_false h0,h]
 show 1<=(Hz fs.length fs [s] c.sup).1.length
 exact ACc fs.length fs [s] c.sup
def lastOf(xs:List St):St:=(xs[xs.length-1]?).getD (0,0)
def Lr(fs:Tab)(s:St):Int:=match Ci fs s with
 |none=>23
 |some c=>bif decide (s.1=0/\s.2=0)then 23 else
  bif !(above fs s).2&& !fC ((Ci fs (lastOf (above fs s).1)).getD DF).sup (above fs s).1 then 23 else
  bif !(above fs s).2 then 26 else bif twice c then 6 else xW fs c.sup (jw fs c.sup c.ms) c.fs
theorem ANy{G:AX}(hG:QT G){H:Heap}{n t a b:Nat}{fs:Tab}(h:TabAt G H n t a b fs)(hfs:fs.length<=1000)(hps:∀s c,Ci fs s=some c->∀m∈c.ms,m.ps.length<=100000){s:St}{k:KV}
 (hk:∀H' n',Kb b H n H' n'->k (.int .i64 (Lr fs s) 0) H' n'):Runs F G YW [.ptr t 0,s.v] H n k:=by
 refine BN (s:=SC (KC lfp G)) Ru (by obtain⟨h,o⟩:=Xg BO G;rw[Ru]at h;cases h;exact o) ?_
 show KC lfp G (Runs F G) (.ptr t 0) s.v H n k
 delta KC
 have hbn:=h.bn
 unfold Lr at hk
 refine kC (s:=s) h (Nat.le_refl _) λH1 n1 w f1 hw=>?_
 obtain⟨vf,vm,ws,hw,rfl⟩:=hw
 have h1n:=f1.le
 simp only[go_sem,Nat.reduceAdd,Bo]
 rw[T.set_set]
 have g2:=T.Ah H1 n1 (one [((Ci fs s).getD DF).nm.v,((Ci fs s).getD DF).sup.v,vf,vm])
 have f2:Kp H1 n1 (T.set H1 n1 (one [((Ci fs s).getD DF).nm.v,((Ci fs s).getD DF).sup.v,vf,vm])) (n1+1):=(Kp.refl _ _).new _ (Nat.le_refl _) (by omega)
 have fb2:=f1.trans (f2.kb (b:=b) (by omega))
 cases hl:Ci fs s with
 |none=>
  rw[hl]at hk fb2
  simp only[Option.isSome_none,Bool.not_false,go_sem]
  exact hk _ _ fb2
 |some c=>
  rw[hl]at hk fb2 g2 f2 hw
  simp only[Option.getD_some]at hk fb2 g2 f2 hw
  simp only[Option.isSome_some,Bool.not_true,go_sem,Option.getD_some,show CX (.one .str) false s.v (.str 0 0)=some (.bool (decide (s.1=0/\s.2=0)))from zX ..]
  cases h0:decide (s.1=0/\s.2=0)with
  |true=>
   rw[h0]at hk
   simp only[go_sem]
   exact hk _ _ fb2
  |false=>
   rw[h0]at hk
   simp only[cond_false]at hk
   simp only[go_sem]
   generalize T.set H1 n1 (one [c.nm.v,c.sup.v,vf,vm])=H2 at fb2 g2 f2
   refine Zo (s:=s) (h.kb fb2) hfs λH3 n3 v f3 ho hlen=>?_
   have hpos:=AI9 hl (of_decide_eq_false h0)
   generalize(above fs s).1=up at ho hlen hpos hk
   generalize(above fs s).2=whole at hk
   have fb3:=fb2.trans f3
   have h3n:=f3.le
   have g3:=f3.get g2 (by omega) (by omega)
   have hel:=ho.el (by omega)
   obtain⟨m,hm⟩:∃m,up.length=m+1:=⟨up.length-1,by omega⟩
   have hlt:m<up.length:=by omega
   obtain⟨q,hp,hld⟩:=hel.at (QB hlt)
   have hlast:lastOf up=up[m]:=by unfold lastOf;rw[show up.length-1=m by omega,List.getElem?_eq_getElem hlt];rfl
   simp only[go_sem,hel.len,Gz,hm,uP (show m+1<9223372036854775808 by omega),hp,L6 hld]
   rw[<-hlast]
   refine kC (s:=lastOf up) (h.kb fb3) (Nat.le_refl _) λH4 n4 w f4 hw4=>?_
   obtain⟨vf4,vm4,ws4,hw4,rfl⟩:=hw4
   have fb4:=fb3.trans f4
   have h4n:=f4.le
   have g4:=f4.get g3 (by omega) (by omega)
   have ho4:=ho.kb f4 (by omega)
   simp only[go_sem,Nat.reduceAdd,Bo]
   rw[T.set_set]
   generalize(Ci fs (lastOf up)).getD DF=lc at hw4 hk
   have g5:=T.Ah H4 n4 (one [lc.nm.v,lc.sup.v,vf4,vm4])
   have f5:Kp H4 n4 (T.set H4 n4 (one [lc.nm.v,lc.sup.v,vf4,vm4])) (n4+1):=(Kp.refl _ _).new _ (Nat.le_refl _) (by omega)
   generalize T.set H4 n4 (one [lc.nm.v,lc.sup.v,vf4,vm4])=H5 at g5 f5
   have fb5:=fb4.trans (f5.kb (b:=b) (by omega))
   have ge:=f5.get g4 (by omega)
   cases whole with
   |false=>
    simp only[Bool.not_false,Bool.true_and]at hk
    simp only[Bool.not_false,go_sem,Nat.reduceAdd,AU (off:=1) g5 (v:=lc.sup.v) rfl]
    refine ou (s:=lc.sup) (xs:=up) ((ho4.kp f5).el (by omega)) (by omega) ?_
    simp only[go_sem,Bo]
    cases h6:fC lc.sup up with
    |false=>
     rw[h6]at hk
     simp only[Bool.not_false,cond_true]at hk
     simp only[Bool.not_false,go_sem]
     exact hk _ _ fb5
    |true=>
     rw[h6]at hk
     simp only[Bool.not_true,cond_false,cond_true]at hk
     simp only[Bool.not_true,go_sem]
     exact hk _ _ fb5
   |true=>
    simp only[Bool.not_true,Bool.false_and,cond_false]at hk
    have fe:Kb b H1 n1 H5 (n4+1):=(f2.kb (by omega)).trans (f3.trans (f4.trans (f5.kb (by omega))))
    simp only[Bool.not_true,go_sem]
    rw[CV (m:=4) ge (by omega) rfl,AB]
    have hwf:VN G H5 (n4+1) (.agg [c.nm.v,c.sup.v,vf,vm]) c:=⟨vf,vm,ws,(hw.ke ((fe.ke (f1.seen h.seen)).low h1n)).ke ⟨by omega,λ_ _ _ _ h=>h⟩,rfl⟩
    refine AN4 hG hwf λH6 n6 f6=>?_
    have fb6:=fb5.trans (f6.kb (b:=b) (by omega))
    have h6n:=f6.le
    cases h7:twice c with
    |true=>
     rw[h7]at hk
     simp only[cond_true]at hk
     simp only[go_sem]
     exact hk _ _ fb6
    |false=>
     rw[h7]at hk
     simp only[cond_false]at hk
     have ge6:=f6.get ge (by omega)
     simp only[go_sem,Nat.reduceAdd,AU (off:=2) ge6 (v:=vf) rfl,hw.fs.len]
     exact AFE (h.kb (f1.low (Nat.le_refl _))) hfs ⟨(fe.trans (f6.kb (by omega))).ASt h1n,by omega,h1n,ge6⟩ hw (hps s c hl) λH' n' f=>hk _ _ ((f1.low (Nat.le_refl _)).trans f)
structure S9(G:AX)(H:Heap)(n i t a b fm:Nat)(vn:V)(fs:Tab):Prop where
 iN:i<n
 ib:i≠b
 at':T.get H i=some (one [.ptr t 0,.map fm,vn])
 tab:TabAt G H n t a b fs
theorem S9.kb{G:AX}{H H':Heap}{n n' i t a b fm:Nat}{vn:V}{fs:Tab}(h:S9 G H n i t a b fm vn fs)(f:Kb b H n H' n'):S9 G H' n' i t a b fm vn fs:=
 ⟨Nat.lt_of_lt_of_le h.iN f.le,h.ib,f.get h.at' h.iN h.ib,h.tab.kb f⟩
def PMV(G:AX)(H:Heap)(n:Nat)(v:V)(p:PM):Prop:=∃w,v=.agg (p.cells w)/\N7 G H n w p.m.ps
def Yp(fs:Tab)(p:PM):List St->Option St
 |[]=>none
 |c::cs=>match Qi p.m.nm ((Ci fs c).getD DF).ms with
  |some o=>bif o.same p.m then some c else Yp fs p cs
  |none=>Yp fs p cs
def iC(fs:Tab)(p:PM):Option St:=Yp fs p (above fs p.own).1
theorem AQH{G:AX}{H:Heap}{n i t a b fm:Nat}{vn:V}{fs:Tab}(h:S9 G H n i t a b fm vn fs)(hfs:fs.length<=1000){v:V}{p:PM}(hp:PMV G H n v p){k:KV}
 (hk:∀H' n',Kb b H n H' n'->k (.Di [((iC fs p).getD (0,0)).v,.bool (iC fs p).isSome]) H' n'):Runs F G Zu [.ptr i 0,v] H n k:=by
 refine BN (s:=SC (La lfp G)) Tn (by obtain⟨h,o⟩:=YT BO G;rw[Tn]at h;cases h;exact o) ?_
 show La lfp G (Runs F G) (.ptr i 0) v H n k
 obtain⟨w,rfl,hw⟩:=hp
 delta La
 have hbn:=h.tab.bn
 unfold iC at hk
 refine FZ λH1 f1 g1=>?_
 have f1':=f1.kb (b:=b) hbn
 have h1:=h.kb f1'
 unfold PM.cells at g1
 simp only[go_sem,Nat.reduceAdd,AU (off:=0) h1.at' (v:=.ptr t 0) rfl,AU (off:=5) g1 (v:=p.own.v) rfl]
 refine Zo (s:=p.own) h1.tab hfs λH2 n2 x f2 ho hlen=>?_
 generalize(above fs p.own).1=cs at ho hk hlen
 have f3:=f1'.trans f2
 have g2:=f2.get g1 (by omega) (by omega)
 have h2n:=f2.le
 simp only[go_sem,(ho.el (by omega)).len,Gz]
 refine CJ (N:=cs.length) (J:=λj q=>∃H' n',q=(.ptr i 0,.ptr n 0,x,.int .i64 (.ofNat cs.length) 0,.int .i64 (.ofNat j) 0,H',n')/\Kb b H n H' n'/\n<n'/\Own G H' (n+1) n' 1 x (strs cs)/\T.get H' n=some (one [p.m.nm.v,.bool p.m.st,w,p.m.ret.nm.v,.bool p.m.ret.arr,p.own.v])/\
  (∀H' n',Kb b H n H' n'->k (.Di [((Yp fs p (cs.drop j)).getD (0,0)).v,.bool (Yp fs p (cs.drop j)).isSome]) H' n')) ?_ ?_ ⟨H2,n2,rfl,f3,by omega,ho,g2,hk⟩
 ·rintro I j q hlt ⟨H3,n3,rfl,f3,hn3,ho,g3,hk⟩ ih
  show Ii lfp G (Runs F G) k I (.ptr i 0) (.ptr n 0) x (.int .i64 (.ofNat cs.length) 0) (.int .i64 (.ofNat j) 0) H3 n3
  delta Ii
  have h3:=h.kb f3
  obtain⟨q,hp,hld⟩:=(ho.el (by omega)).at (QB hlt)
  rw[List.drop_eq_getElem_cons hlt]at hk
  unfold Yp at hk
  generalize cs[j]=m at hld hk
  simp only[go_sem,Cc,hlt,decide_true,hp,L6 hld,Nat.reduceAdd,AU (off:=0) h3.at' (v:=.ptr t 0) rfl]
  refine kC (s:=m) (n0:=n) (h.tab.kb (f3.low (Nat.le_refl _))) (by omega) λH4 n4 y f4 hy=>?_
  obtain⟨vf,vm,ws,hy,rfl⟩:=hy
  have f5:=f3.trans f4
  have h5n:=f4.le
  simp only[go_sem,Nat.reduceAdd]
  rw[T.set_set]
  have f6:Kp H4 n4 (T.set H4 n4 (one [((Ci fs m).getD DF).nm.v,((Ci fs m).getD DF).sup.v,vf,vm])) (n4+1):=(Kp.refl _ _).new _ (Nat.le_refl _) (by omega)
  generalize T.set H4 n4 (one [((Ci fs m).getD DF).nm.v,((Ci fs m).getD DF).sup.v,vf,vm])=H6 at f6
  have f6':=f6.kb (b:=b) (by omega)
  have g6:=f6'.get (f4.get g3 hn3 (by omega)) (by omega) (by omega)
  rw[show AV (.ptr n 0) G H6=some p.m.nm.v from AU g6 rfl,AB]
  refine rZ (s:=p.m.nm) (n:=n4+1) (n0:=n) (v:=.agg [((Ci fs m).getD DF).nm.v,((Ci fs m).getD DF).sup.v,vf,vm]) (c:=(Ci fs m).getD DF) ⟨vf,vm,ws,hy.ke ((f6.ke).low (by omega)),rfl⟩ (by omega) λH8 n8 y f8 hy=>?_
  have f8':=f8.kb (b:=b) (by omega)
  have f10:=f4.trans (f6'.trans f8')
  have f9:=f3.trans f10
  have h9n:=f8.le
  have ho:=ho.kb f10 (by omega)
  have g10:=f10.get g3 hn3 (by omega)
  obtain⟨z,rfl,hz⟩:=hy
  have g11:=T.Ah H8 n8 (one (((Qi p.m.nm ((Ci fs m).getD DF).ms).getD XC).cells z))
  have f11:Kp H8 n8 (T.set H8 n8 (one (((Qi p.m.nm ((Ci fs m).getD DF).ms).getD XC).cells z))) (n8+1):=(Kp.refl _ _).new _ (Nat.le_refl _) (by omega)
  unfold DW.cells at g11 f11⊢
  simp only[go_sem,Nat.reduceAdd]
  rw[T.set_set]
  have f12:=f10.trans (f11.kb (b:=b) (by omega))
  have next:∀H' n',Kb b H3 n3 H' n'->(∀H' n',Kb b H n H' n'->k (.Di [((Yp fs p (cs.drop (j+1))).getD (0,0)).v,.bool (Yp fs p (cs.drop (j+1))).isSome]) H' n')->I (.ptr i 0,.ptr n 0,x,.int .i64 (.ofNat cs.length) 0,.int .i64 (.ofNat (j+1)) 0,H',n'):=λH' n' f hk=>
   ih _ ⟨_,_,rfl,f3.trans f,by have:=f.le;omega,Own.kb (by assumption) f (by omega),f.get g3 hn3 (by omega),hk⟩
  cases h1:Qi p.m.nm ((Ci fs m).getD DF).ms with
  |none=>
   rw[h1]at hk f12
   simp only[Option.isSome_none,go_sem,D7 (show j+1<9223372036854775808 by omega)]
   exact next _ _ f12 hk
  |some o=>
   rw[h1]at hk f11 f12 g11 hz
   simp only[Option.getD_some]at f11 f12 g11 hz
   simp only[Option.isSome_some,Option.getD_some]
   generalize T.set H8 n8 (one [o.nm.v,.bool o.st,z,o.ret.nm.v,.bool o.ret.arr])=H12 at f11 f12 g11
   have gp:=f11.get g10 (by omega)
   simp only[go_sem,Nat.reduceAdd,CV (m:=5) g11 (by omega) rfl,show Af 5 (.ptr n 0) G H12=some (.agg [p.m.nm.v,.bool p.m.st,w,p.m.ret.nm.v,.bool p.m.ret.arr])from Iq gp (by omega) (by show 5<=6;omega)]
   have s1:mF G H12 (n8+1) (.agg [o.nm.v,.bool o.st,z,o.ret.nm.v,.bool o.ret.arr]) o:=⟨z,rfl,(hz.ke ((f11.ke).low (by omega))).ke ⟨by omega,λ_ _ _ _ h=>h⟩⟩
   have s2:mF G H12 (n8+1) (.agg [p.m.nm.v,.bool p.m.st,w,p.m.ret.nm.v,.bool p.m.ret.arr]) p.m:=⟨w,rfl,(hw.ke (((f3.trans f12).ke h.tab.seen).low (Nat.le_refl _))).ke ⟨by omega,λ_ _ _ _ h=>h⟩⟩
   refine vC s1 s2 λH13 n13 f13=>?_
   have f14:=f12.trans (f13.kb (b:=b) (by omega))
   cases h2:o.same p.m with
   |true=>
    simp only[h2,cond_true]at hk
    simp only[go_sem]
    exact hk _ _ (f3.trans f14)
   |false=>
    simp only[h2,cond_false]at hk
    simp only[go_sem,D7 (show j+1<9223372036854775808 by omega)]
    exact next _ _ f14 hk
 ·rintro I q ⟨H3,n3,rfl,f3,hn3,ho,g3,hk⟩
  show Ii lfp G (Runs F G) k I (.ptr i 0) (.ptr n 0) x (.int .i64 (.ofNat cs.length) 0) (.int .i64 (.ofNat cs.length) 0) H3 n3
  delta Ii
  rw[List.drop_eq_nil_of_le (Nat.le_refl _)]at hk
  simp only[go_sem,Cc,Nat.lt_irrefl,decide_false]
  delta PV
  exact hk _ _ f3
def eP(fs:Tab)(f:PF):Bool:=match VK fs f.own f.f.nm with
 |none=>false
 |some o=>o.2.is f.f.ty
def Yq(fs:Tab)(p:Pool):Bool:=p.names.all (λc=>[(⟨c,false⟩:Ty)].all (Rj fs))&&(p.types.all (Rj fs)&&(p.fields.all (eP fs)&&p.DN.all λm=>(iC fs m).isSome))
section
variable{G:AX}{H0 H:Heap}{n0 n i t a b fm e:Nat}{vn:V}{fs:Tab}{p:Pool}{v0 v1 v2 v3 v4:V}{ws:List V}{k:KV}
structure AE8(G:AX)(H0:Heap)(n0:Nat)(H:Heap)(n b e:Nat)(v0 v1 v2 v3 v4:V):Prop where
 f:Kb b H0 n0 H n
 en:e<n
 e0:n0<=e
 g:T.get H e=some (one [v0,v1,v2,v3,v4])
theorem AE8.kb{H':Heap}{n':Nat}(h:AE8 G H0 n0 H n b e v0 v1 v2 v3 v4)(hb:b<n0)(f:Kb b H n H' n'):AE8 G H0 n0 H' n' b e v0 v1 v2 v3 v4:=
 ⟨h.f.trans f,Nat.lt_of_lt_of_le h.en f.le,h.e0,f.get h.g h.en (by have:=h.e0;omega)⟩
theorem AJY(h:S9 G H0 n0 i t a b fm vn fs)(hfs:fs.length<=1000)(hp:Gp G H0 n0 p v0 v1 v2 v3 v4 ws)(hc:AE8 G H0 n0 H n b e v0 v1 v2 v3 v4)
 (hk:∀H' n',Kb b H0 n0 H' n'->k (.bool (p.DN.all λm=>(iC fs m).isSome)) H' n'):KP lfp G (Runs F G) k (.ptr i 0) (.ptr e 0) H n:=by
 delta KP
 have hbn:=h.tab.bn
 have hbig:=hp.b4
 have l4:lenV v4=some (.int .i64 (.ofNat p.DN.length) 0):=by rw[hp.e4.len,List.length_zipWith,hp.ABt,Nat.min_self]
 simp only[go_sem,Nat.reduceAdd,AU (off:=4) hc.g (v:=v4) rfl,l4]
 refine CJ (N:=p.DN.length) (J:=λj q=>∃H' n',q=(.ptr i 0,v4,.int .i64 (.ofNat p.DN.length) 0,.int .i64 (.ofNat j) 0,H',n')/\Kb b H0 n0 H' n'/\
  (∀H' n',Kb b H0 n0 H' n'->k (.bool ((p.DN.drop j).all λm=>(iC fs m).isSome)) H' n')) ?_ ?_ ⟨H,n,rfl,hc.f,hk⟩
 ·rintro I j q hlt ⟨H3,n3,rfl,f3,hk⟩ ih
  show IV lfp G (Runs F G) k I (.ptr i 0) v4 (.int .i64 (.ofNat p.DN.length) 0) (.int .i64 (.ofNat j) 0) H3 n3
  delta IV
  have hw:j<ws.length:=by rw[hp.ABt];exact hlt
  have hp3:=hp.ke (f3.ke h.tab.seen)
  have h3n:=f3.le
  obtain⟨q,hp',hld⟩:=hp3.e4.at (i:=j) (c:=p.DN[j].cells ws[j]) (by rw[List.getElem?_zipWith];simp[hlt,hw])
  have hty:=hp3.at4 j _ _ (List.getElem?_eq_getElem hlt) (List.getElem?_eq_getElem hw)
  rw[List.drop_eq_getElem_cons hlt,List.all_cons]at hk
  generalize p.DN[j]=m at hld hty hk
  generalize ws[j]=w at hld hty
  unfold PM.cells at hld
  simp only[go_sem,Nat.reduceAdd,Cc,hlt,decide_true,hp',DI hld]
  rw[T.set_set]
  refine run_set λH4 f4 g4=>?_
  have f4':=f4.kb (b:=b) (by omega)
  refine AQH (p:=m) (h.kb (f3.trans f4')) hfs ⟨w,rfl,hty.kp f4⟩ λH5 n5 f5=>?_
  have f6:=f3.trans (f4'.trans f5)
  simp only[go_sem,Bo]
  cases h1:(iC fs m).isSome with
  |false=>simp only[h1,Bool.false_and]at hk;simp only[Bool.not_false,go_sem];exact hk _ _ f6
  |true=>
   simp only[h1,Bool.true_and]at hk
   simp only[Bool.not_true,go_sem,D7 (show j+1<9223372036854775808 by unfold big at hbig;omega)]
   exact ih _ ⟨_,_,rfl,f6,hk⟩
 ·rintro I q ⟨H3,n3,rfl,f3,hk⟩
  show IV lfp G (Runs F G) k I (.ptr i 0) v4 (.int .i64 (.ofNat p.DN.length) 0) (.int .i64 (.ofNat p.DN.length) 0) H3 n3
  delta IV
  rw[List.drop_eq_nil_of_le (Nat.le_refl _)]at hk
  simp only[go_sem,Cc,Nat.lt_irrefl,decide_false]
  delta PX
  exact hk _ _ f3
theorem AKP(h:S9 G H0 n0 i t a b fm vn fs)(hfs:fs.length<=1000)(hp:Gp G H0 n0 p v0 v1 v2 v3 v4 ws)(hc:AE8 G H0 n0 H n b e v0 v1 v2 v3 v4)
 (hk:∀H' n',Kb b H0 n0 H' n'->k (.bool (p.fields.all (eP fs)&&p.DN.all λm=>(iC fs m).isSome)) H' n'):
 lfp (V×V×V×V×V×Heap×Nat) (OZ lfp G (Runs F G) k) (.ptr i 0,.ptr e 0,v3,.int .i64 (.ofNat p.fields.length) 0,.int .i64 (.ofNat 0) 0,H,n):=by
 have hbn:=h.tab.bn
 have hbig:=hp.b3
 refine CJ (N:=p.fields.length) (J:=λj q=>∃H' n',q=(.ptr i 0,.ptr e 0,v3,.int .i64 (.ofNat p.fields.length) 0,.int .i64 (.ofNat j) 0,H',n')/\AE8 G H0 n0 H' n' b e v0 v1 v2 v3 v4/\
  (∀H' n',Kb b H0 n0 H' n'->k (.bool ((p.fields.drop j).all (eP fs)&&p.DN.all λm=>(iC fs m).isSome)) H' n')) ?_ ?_ ⟨H,n,rfl,hc,hk⟩
 ·rintro I j q hlt ⟨H3,n3,rfl,hc,hk⟩ ih
  show Ik lfp G (Runs F G) k I (.ptr i 0) (.ptr e 0) v3 (.int .i64 (.ofNat p.fields.length) 0) (.int .i64 (.ofNat j) 0) H3 n3
  delta Ik
  have f3:=hc.f
  have hp3:=hp.ke (f3.ke h.tab.seen)
  have h3n:=f3.le
  obtain⟨q,hp',hld⟩:=hp3.e3.at (i:=j) (c:=p.fields[j].cells) (by simp[hlt])
  rw[List.drop_eq_getElem_cons hlt,List.all_cons]at hk
  generalize p.fields[j]=m at hld hk
  unfold PF.cells at hld
  simp only[go_sem,Nat.reduceAdd,Cc,hlt,decide_true,hp',DI hld]
  rw[T.set_set]
  have g4:=T.Ah H3 n3 (one [m.f.nm.v,m.f.ty.nm.v,.bool m.f.ty.arr,m.own.v])
  have f4:Kp H3 n3 (T.set H3 n3 (one [m.f.nm.v,m.f.ty.nm.v,.bool m.f.ty.arr,m.own.v])) (n3+1):=(Kp.refl _ _).new _ (Nat.le_refl _) (by omega)
  generalize T.set H3 n3 (one [m.f.nm.v,m.f.ty.nm.v,.bool m.f.ty.arr,m.own.v])=H4 at g4 f4
  have f4':=f4.kb (b:=b) (by omega)
  have hi4:=h.kb (f3.trans f4')
  simp only[go_sem,Nat.reduceAdd,AU (off:=0) hi4.at' (v:=.ptr t 0) rfl,AU (off:=3) g4 (v:=m.own.v) rfl,AU (off:=0) g4 (v:=m.f.nm.v) rfl]
  refine run_set λH5 f5 g5=>?_
  have f5':=f5.kb (b:=b) (by omega)
  have f5t:=f4'.trans f5'
  refine AHy (c:=m.own) (s:=m.f.nm) (h.tab.kb (f3.trans f5t)) hfs λH6 n6 f6=>?_
  have f6t:=f5t.trans f6
  have h6n:=f6.le
  have g6:=f6.get g5 (by omega) (by omega)
  have g64:=f6.get (f5.get g4 (by omega)) (by omega) (by omega)
  unfold Ty.v Ty.cells
  simp only[go_sem]
  rw[Gt (m:=2) g6 (by omega) rfl rfl]
  have f7:Kb b H3 n3 (T.set H6 (n3+1) (one [((VK fs m.own m.f.nm).getD ((0,0),tyZ)).2.nm.v,.bool ((VK fs m.own m.f.nm).getD ((0,0),tyZ)).2.arr])) n6:=
   f6t.trans' (λid hid=>T.Ac _ _ (by omega)) (Nat.le_refl _) (by omega)
  have g7:=T.Ah H6 (n3+1) (one [((VK fs m.own m.f.nm).getD ((0,0),tyZ)).2.nm.v,.bool ((VK fs m.own m.f.nm).getD ((0,0),tyZ)).2.arr])
  have g74:T.get (T.set H6 (n3+1) (one [((VK fs m.own m.f.nm).getD ((0,0),tyZ)).2.nm.v,.bool ((VK fs m.own m.f.nm).getD ((0,0),tyZ)).2.arr])) n3=_:=(T.Ac _ _ (by omega)).trans g64
  generalize T.set H6 (n3+1) (one [((VK fs m.own m.f.nm).getD ((0,0),tyZ)).2.nm.v,.bool ((VK fs m.own m.f.nm).getD ((0,0),tyZ)).2.arr])=H7 at f7 g7 g74
  simp only[Bo,go_sem]
  unfold eP at hk
  cases h1:VK fs m.own m.f.nm with
  |none=>rw[h1]at hk;simp only[Option.isSome_none,Bool.not_false,go_sem];exact hk _ _ (f3.trans f7)
  |some o=>
   rw[h1]at hk g7
   simp only[Option.getD_some]at g7 hk
   have e1:CX (.agg [.str,.bool]) true (.agg [o.2.nm.v,.bool o.2.arr]) (.agg [m.f.ty.nm.v,.bool m.f.ty.arr])=_:=AEd o.2 m.f.ty
   simp only[Option.isSome_some,Bool.not_true,go_sem,Nat.reduceAdd,CV (m:=2) g7 (by omega) rfl,show Af 2 (.ptr n3 1) G H7=some (.agg [m.f.ty.nm.v,.bool m.f.ty.arr])from Iq g74 (by omega) (by show 3<=4;omega),e1]
   cases h2:o.2.is m.f.ty with
   |false=>simp only[h2,Bool.false_and]at hk;simp only[Bool.not_false,go_sem];exact hk _ _ (f3.trans f7)
   |true=>
    simp only[h2,Bool.true_and]at hk
    simp only[Bool.not_true,go_sem,D7 (show j+1<9223372036854775808 by unfold big at hbig;omega)]
    exact ih _ ⟨_,_,rfl,hc.kb (G:=G) hbn f7,hk⟩
 ·rintro I q ⟨H3,n3,rfl,hc,hk⟩
  show Ik lfp G (Runs F G) k I (.ptr i 0) (.ptr e 0) v3 (.int .i64 (.ofNat p.fields.length) 0) (.int .i64 (.ofNat p.fields.length) 0) H3 n3
  delta Ik
  rw[List.drop_eq_nil_of_le (Nat.le_refl _)]at hk
  simp only[go_sem,Cc,Nat.lt_irrefl,decide_false]
  exact AJY h hfs hp hc hk
theorem AIW(i:Nat):F8 (.ptr i 0) (.ptr i 0)=true:=by
 show band (Nat.beq i i) (Nat.beq 0 0)=true
 simp
theorem APy(h:S9 G H n i t a b fm vn fs)(hfs:fs.length<=1000)(hp:Gp G H n p v0 v1 v2 v3 v4 ws)
 (hk:∀H' n',Kb b H n H' n'->k (.bool (Yq fs p)) H' n'):Runs F G Zg [.ptr i 0,.agg [v0,v1,v2,v3,v4]] H n k:=by
 refine BN (s:=SC (LY lfp G)) Ti (by obtain⟨h,o⟩:=Y5 BO G;rw[Ti]at h;cases h;exact o) ?_
 show LY lfp G (Runs F G) (.ptr i 0) (.agg [v0,v1,v2,v3,v4]) H n k
 delta LY
 have hbn:=h.tab.bn
 have hbig:=hp.b1
 unfold Yq at hk
 refine FZ λH1 f1 g1=>?_
 have f1':=f1.kb (b:=b) hbn
 simp only[go_sem,Nat.reduceAdd,AU (off:=1) g1 (v:=v1) rfl,hp.e1.len,Gz]
 have hc:AE8 G H n H1 (n+1) b n v0 v1 v2 v3 v4:=⟨f1',by omega,Nat.le_refl _,g1⟩
 refine CJ (N:=p.names.length) (J:=λj q=>∃H' n',q=(.ptr i 0,.ptr n 0,v1,.int .i64 (.ofNat p.names.length) 0,.int .i64 (.ofNat j) 0,H',n')/\AE8 G H n H' n' b n v0 v1 v2 v3 v4/\
  (∀H' n',Kb b H n H' n'->k (.bool ((p.names.drop j).all (λc=>[(⟨c,false⟩:Ty)].all (Rj fs))&&(p.types.all (Rj fs)&&(p.fields.all (eP fs)&&p.DN.all λm=>(iC fs m).isSome)))) H' n')) ?_ ?_ ⟨H1,n+1,rfl,hc,hk⟩
 ·rintro I j q hlt ⟨H3,n3,rfl,hc,hk⟩ ih
  show Ih lfp G (Runs F G) k I (.ptr i 0) (.ptr n 0) v1 (.int .i64 (.ofNat p.names.length) 0) (.int .i64 (.ofNat j) 0) H3 n3
  delta Ih
  have f3:=hc.f
  have hp3:=hp.ke (f3.ke h.tab.seen)
  have h3n:=f3.le
  have hi3:=h.kb f3
  obtain⟨q,hp',hld⟩:=hp3.e1.at (QB hlt)
  have hok:=hp.o1 _ (List.getElem_mem hlt)
  rw[List.drop_eq_getElem_cons hlt,List.all_cons]at hk
  generalize p.names[j]=m at hld hk hok
  simp only[go_sem,Nat.reduceAdd,Cc,hlt,decide_true,hp',L6 hld,AU (off:=0) hi3.at' (v:=.ptr t 0) rfl]
  refine uO λH4 n4 f4=>?_
  have f4':=f4.kb (b:=b) (by omega)
  have hi4:=h.kb (f3.trans f4')
  have h4n:=f4.le
  simp only[go_sem,Nat.reduceAdd,AU (off:=0) hi4.at' (v:=.ptr t 0) rfl,AIW]
  rw[AAa (z:=2) (L:=[.str m.1 m.2,.bool false]) rfl]
  refine run_set λH5 f5 g5=>?_
  have f5':=f5.kb (b:=b) (by omega)
  refine eU (xs:=[(⟨m,false⟩:Ty)]) (h.tab.kb (f3.trans (f4'.trans f5'))) ⟨lW (by omega) rfl g5,λid hid=>by cases hid;omega,by show 1<big;decide,λx hx=>by simp at hx;subst hx;exact hok⟩ λH6 n6 f6=>?_
  have f7:=f4'.trans (f5'.trans f6)
  simp only[go_sem,Bo]
  cases h1:[(⟨m,false⟩:Ty)].all (Rj fs)with
  |false=>simp only[h1,Bool.false_and]at hk;simp only[Bool.not_false,go_sem];exact hk _ _ (f3.trans f7)
  |true=>
   simp only[h1,Bool.true_and]at hk
   simp only[Bool.not_true,go_sem,D7 (show j+1<9223372036854775808 by unfold big at hbig;omega)]
   exact ih _ ⟨_,_,rfl,hc.kb (G:=G) hbn f7,hk⟩
 ·rintro I q ⟨H3,n3,rfl,hc,hk⟩
  show Ih lfp G (Runs F G) k I (.ptr i 0) (.ptr n 0) v1 (.int .i64 (.ofNat p.names.length) 0) (.int .i64 (.ofNat p.names.length) 0) H3 n3
  delta Ih
  rw[List.drop_eq_nil_of_le (Nat.le_refl _)]at hk
  simp only[List.all_nil,Bool.true_and]at hk
  simp only[go_sem,Cc,Nat.lt_irrefl,decide_false]
  delta Qc
  have f3:=hc.f
  have hi3:=h.kb f3
  have hp3:=hp.ke (f3.ke h.tab.seen)
  simp only[go_sem,Nat.reduceAdd,AU (off:=0) hi3.at' (v:=.ptr t 0) rfl,AU (off:=2) hc.g (v:=v2) rfl]
  refine eU (xs:=p.types) hi3.tab hp3.t2 λH6 n6 f6=>?_
  have hc6:=hc.kb (G:=G) hbn f6
  have l3:lenV v3=some (.int .i64 (.ofNat p.fields.length) 0):=by rw[hp.e3.len,List.length_map]
  simp only[Bo,go_sem]
  cases h1:p.types.all (Rj fs)with
  |false=>simp only[h1,Bool.false_and]at hk;simp only[Bool.not_false,go_sem];exact hk _ _ (f3.trans f6)
  |true=>
   simp only[h1,Bool.true_and]at hk
   simp only[Bool.not_true,go_sem,Nat.reduceAdd,AU (off:=3) hc6.g (v:=v3) rfl,l3]
   exact AKP h hfs hp hc6 hk
end
structure L8(G:AX)(H:Heap)(n:Nat)(v:V)(Bg:List Fl):Prop where
 is:∃LS:ER,El G H v 10 LS/\LS.length=Bg.length/\∀(i:Nat) (L:LV) (f:Fl),LS[i]? =some L->Bg[i]? =some f->VL G H n (.agg L) f
 lo:Lo v n
 lt:Bg.length<big
theorem L8.ke{G:AX}{H H':Heap}{n n':Nat}{v:V}{Bg:List Fl}(h:L8 G H n v Bg)(f:Ke G H n H' n'):L8 G H' n' v Bg:=by
 obtain⟨⟨LS,h1,h2,h3⟩,hl,ht⟩:=h
 exact⟨⟨LS,h1.ke hl f,h2,λi L c x y=>(h3 i L c x y).ke f⟩,hl.mono f.le,ht⟩
theorem L8.len{G:AX}{H:Heap}{n:Nat}{v:V}{Bg:List Fl}(h:L8 G H n v Bg):lenV v=some (.int .i64 (.ofNat Bg.length) 0):=by
 obtain⟨⟨LS,h1,h2,h3⟩,hl,ht⟩:=h;rw[h1.len,h2]
theorem L8.at{G:AX}{H:Heap}{n:Nat}{v:V}{Bg:List Fl}(h:L8 G H n v Bg){i:Nat}(hi:i<Bg.length):∃p vf vm v0 v1 v2 v3 v4 vb mws ws bws,Ag 10 v (.int .i64 (.ofNat i) 0)=some p/\
 jA p G H 10=some [Bg[i].face.nm.v,Bg[i].face.sup.v,vf,vm,v0,v1,v2,v3,v4,vb]/\aX G H n [Bg[i].face.nm.v,Bg[i].face.sup.v,vf,vm,v0,v1,v2,v3,v4,vb] Bg[i] vf vm v0 v1 v2 v3 v4 vb mws ws bws:=by
 obtain⟨⟨LS,h1,h2,h3⟩,hl,ht⟩:=h
 obtain⟨p,hp,hld⟩:=h1.at (i:=i) (c:=LS[i]'(by omega)) (List.getElem?_eq_getElem _)
 obtain⟨L,vf,vm,v0,v1,v2,v3,v4,vb,mws,ws,bws,hf,e⟩:=h3 i _ _ (List.getElem?_eq_getElem (by omega)) (List.getElem?_eq_getElem hi)
 have e':LS[i]'(by omega)=L:=by injection e
 have:=hf.is
 subst this
 rw[e']at hld
 exact⟨p,vf,vm,v0,v1,v2,v3,v4,vb,mws,ws,bws,hp,hld,hf⟩
structure JL(G:AX)(H:Heap)(n a:Nat)(fs:List (St×Fl)):Prop where
 is:∃ps,kM H a ps/\keyed ps fs/\∀s v c,Ci ps s=some v->Ci fs s=some c->VL G H n v c
theorem JL.ke{G:AX}{H H':Heap}{n n' a:Nat}{fs:List (St×Fl)}(h:JL G H n a fs)(f:Ke G H n H' n')(e:T.get H' a=T.get H a):JL G H' n' a fs:=by
 obtain⟨ps,h1,h2,h3⟩:=h.is
 exact⟨ps,fK h1 e,h2,λs v c x y=>(h3 s v c x y).ke f⟩
theorem JL.put{G:AX}{H':Heap}{n a:Nat}{fs:List (St×Fl)}{v:V}{s:St}{c:Fl}{ps:List (St×V)}(hkey:keyed ps fs)(hv:∀s v c,Ci ps s=some v->Ci fs s=some c->VL G H' n v c)(h1:kM H' a (Uf s v ps))(hc:VL G H' n v c):
 JL G H' n a (Uf s c fs):=
 ⟨_,h1,uZ _ _ _ hkey,λt w d h2 h3=>by
  rw[Qe]at h2 h3
  by_cases e:s=t
  ·rw[if_pos e]at h2 h3;cases h2;cases h3;exact hc
  ·rw[if_neg e]at h2 h3;exact hv _ _ _ h2 h3⟩
def UN(fs:List (St×Fl)):List Fl->List (St×Fl)
 |[]=>fs
 |c::cs=>UN (Uf c.face.nm c fs) cs
abbrev Xw(Bg:List Fl):=UN [] Bg
noncomputable def Ul:List (St×Fl)->List Fl->Int
 |_,[]=>0
 |acc,f::fs=>bif !KZ f then 2 else bif (Ci acc f.face.nm).isSome then 6 else Ul (Uf f.face.nm f acc) fs
def link2(t:Tab):List Fl->Int
 |[]=>0
 |f::fs=>bif !(Lr t f.face.nm==0)then Lr t f.face.nm else bif !Yq t f.pool then 30 else link2 t fs
abbrev CB(Bg:List Fl):List Fc:=Bg.map λf=>f.face
abbrev NC(Bg:List Fl):List St:=Bg.map λf=>f.face.nm
noncomputable def O1(Bg:List Fl):Int:=bif decide (200<Bg.length)then 4 else bif !(Ul [] Bg==0)then Ul [] Bg else link2 (EL (CB Bg)) Bg
theorem jm:∀(cs:List Fc) (fs:Tab),(Vu fs cs).length<=fs.length+cs.length
 |[],_=>Nat.le_refl _
 |c::cs,fs=>by
  have h1:∀(fs:Tab),(Uf c.nm c fs).length<=fs.length+1:=by
   intro fs
   induction fs with
   |nil=>exact Nat.le_refl _
   |cons p ps ih=>unfold Uf;split<;>simp only[List.length_cons]<;>omega
  have:=jm cs (Uf c.nm c fs)
  have:=h1 fs
  simp only[Vu,List.length_cons];omega
theorem xI:∀(cs:List Fc) (fs:Tab) (s:St) (c:Fc),Ci (Vu fs cs) s=some c->c∈cs∨Ci fs s=some c
 |[],_,_,_,h=>.inr h
 |d::cs,fs,s,c,h=>by
  rcases xI cs _ s c h with h|h
  ·exact .inl (List.mem_cons_of_mem _ h)
  ·rw[Qe]at h
   split at h
   ·cases h;exact .inl (List.mem_cons_self ..)
   ·exact .inr h
theorem AB1{cs:List Fc}{s:St}{c:Fc}(h:Ci (EL cs) s=some c):c∈cs:=by
 rcases xI cs [] s c h with h|h
 ·exact h
 ·cases h
structure ANh(G:AX)(H:Heap)(n m i:Nat)(Bg:List Fl):Prop where
 is:∃t a b fm vn,S9 G H n i t a b fm vn (EL (CB Bg))/\JL G H n fm (Xw Bg)/\fm<n/\fm≠b/\El G H vn 1 (strs (NC Bg))/\Lo vn n/\m<=i/\m<=t/\m<=a/\m<=b/\m<=fm
theorem Gr.ok{G:AX}{H:Heap}{m z:Nat}{v:V}{LS:ER}(h:Gr G H m z v LS):Wl v=true/\Aq v=[v]:=by cases h<;>exact⟨rfl,rfl⟩
theorem AJB{G:AX}(hG:QT G){H0:Heap}{n0 i t a b fm:Nat}{vn v:V}{Bg:List Fl}(hfs:(EL (CB Bg)).length<=1000)(hps:∀s c,Ci (EL (CB Bg)) s=some c->∀m∈c.ms,m.ps.length<=100000)
 (h:S9 G H0 n0 i t a b fm vn (EL (CB Bg))) (hf:L8 G H0 n0 v Bg) {k:KV}
 (hk0:link2 (EL (CB Bg)) Bg=0->∀H' n',Kb b H0 n0 H' n'->k (.Di [.ptr i 0,.int .i64 (.ofNat 0) 0]) H' n')
 (hk1:link2 (EL (CB Bg)) Bg≠0->∀H' n',Kb b H0 n0 H' n'->k (.Di [.NT,.int .i64 (link2 (EL (CB Bg)) Bg) 0]) H' n'):
 lfp (V×V×V×V×Heap×Nat) (Vk lfp G (Runs F G) k) (.ptr i 0,v,.int .i64 (.ofNat Bg.length) 0,.int .i64 (.ofNat 0) 0,H0,n0):=by
 generalize hT:EL (CB Bg)=tb at*
 have hbn:=h.tab.bn
 obtain⟨R,hR⟩:∃R,R=link2 tb Bg:=⟨_,rfl⟩
 rw[<-hR]at hk0 hk1
 have hbig:=hf.lt
 refine CJ (N:=Bg.length) (J:=λj q=>∃H' n',q=(.ptr i 0,v,.int .i64 (.ofNat Bg.length) 0,.int .i64 (.ofNat j) 0,H',n')/\Kb b H0 n0 H' n'/\link2 tb (Bg.drop j)=R) ?_ ?_ ⟨H0,n0,rfl,Kb.refl _ _ _,hR.symm⟩
 ·rintro I j q hlt ⟨H3,n3,rfl,f3,hk⟩ ih
  show Oz lfp G (Runs F G) k I (.ptr i 0) v (.int .i64 (.ofNat Bg.length) 0) (.int .i64 (.ofNat j) 0) H3 n3
  delta Oz
  have h3n:=f3.le
  obtain⟨q,vf,vm,v0,v1,v2,v3,v4,vb,mws,ws,bws,hp,hld,hfile⟩:=(hf.ke (f3.ke h.tab.seen)).at hlt
  rw[List.drop_eq_getElem_cons hlt]at hk
  unfold link2 at hk
  generalize Bg[j]=m at hld hk hfile
  simp only[go_sem,Nat.reduceAdd,Cc,hlt,decide_true,hp,DI hld]
  rw[T.set_set]
  have g4:=T.Ah H3 n3 (one [m.face.nm.v,m.face.sup.v,vf,vm,v0,v1,v2,v3,v4,vb])
  have f4:Kp H3 n3 (T.set H3 n3 (one [m.face.nm.v,m.face.sup.v,vf,vm,v0,v1,v2,v3,v4,vb])) (n3+1):=(Kp.refl _ _).new _ (Nat.le_refl _) (by omega)
  generalize T.set H3 n3 (one [m.face.nm.v,m.face.sup.v,vf,vm,v0,v1,v2,v3,v4,vb])=H4 at g4 f4
  have f4':=f4.kb (b:=b) (by omega)
  have hi4:=h.kb (f3.trans f4')
  simp only[go_sem,Nat.reduceAdd,AU (off:=0) hi4.at' (v:=.ptr t 0) rfl,AU (off:=0) g4 (v:=m.face.nm.v) rfl]
  refine ANy hG (s:=m.face.nm) hi4.tab hfs hps λH5 n5 f5=>?_
  have f6:=f4'.trans f5
  have h5n:=f5.le
  have g5:=f5.get g4 (by omega) (by omega)
  simp only[ALH,go_sem]
  rw[show(Lr tb m.face.nm==Int.ofNat 0)=(Lr tb m.face.nm==0)from rfl]
  cases h1:Lr tb m.face.nm==0 with
  |false=>
   rw[h1]at hk
   simp only[Bool.not_false,cond_true]at hk
   simp only[Bool.not_false,go_sem]
   rw[hk]
   refine hk1 ?_ _ _ (f3.trans f6)
   rw[<-hk];simpa using h1
  |true=>
   rw[h1]at hk
   simp only[Bool.not_true,cond_false]at hk
   simp only[Bool.not_true,go_sem,Nat.reduceAdd,show Af 5 (.ptr n3 4) G H5=some (.agg [v0,v1,v2,v3,v4])from Iq g5 (by omega) (by show 9<=10;omega)]
   refine APy (h.kb (f3.trans f6)) hfs (p:=m.pool) (hfile.pool.ke ((f6.ke (f3.seen h.tab.seen)))) λH7 n7 f7=>?_
   have f8:=f3.trans (f6.trans f7)
   simp only[Bo,go_sem]
   cases h2:Yq tb m.pool with
   |false=>
    rw[h2]at hk
    simp only[Bool.not_false,cond_true]at hk
    simp only[Bool.not_false,go_sem]
    have:=hk1 (by rw[<-hk];decide) _ _ f8
    rw[<-hk]at this;exact this
   |true=>
    rw[h2]at hk
    simp only[Bool.not_true,cond_false]at hk
    simp only[Bool.not_true,go_sem,D7 (show j+1<9223372036854775808 by unfold big at hbig;omega)]
    exact ih _ ⟨_,_,rfl,f8,hk⟩
 ·rintro I q ⟨H3,n3,rfl,f3,hk⟩
  show Oz lfp G (Runs F G) k I (.ptr i 0) v (.int .i64 (.ofNat Bg.length) 0) (.int .i64 (.ofNat Bg.length) 0) H3 n3
  delta Oz
  rw[List.drop_eq_nil_of_le (Nat.le_refl _)]at hk
  simp only[go_sem,Cc,Nat.lt_irrefl,decide_false]
  delta XA
  exact hk0 hk.symm _ _ f3
abbrev ACl:LV:=[.str 0 0,.str 0 0,.AY,.AY,.AY,.AY,.AY,.AY,.AY,.AY]
theorem VL.cells{G:AX}{H:Heap}{n:Nat}{v:V}{f:Fl}(h:VL G H n v f):∃L:LV,v=.agg L/\L.length=10:=by
 obtain⟨L,vf,vm,v0,v1,v2,v3,v4,vb,mws,ws,bws,h,hv⟩:=h
 exact⟨L,hv,by rw[h.is];rfl⟩
theorem JL.look{G:AX}{H:Heap}{n a:Nat}{fs:List (St×Fl)}(h:JL G H n a fs)(s:St):∃L:LV,AAp .str true (.agg ACl) (.map a) s.v H=some (.Di [.agg L,.bool (Ci fs s).isSome])/\L.length=10/\∀f,Ci fs s=some f->VL G H n (.agg L) f:=by
 obtain⟨ps,h1,h2,h3⟩:=h.is
 have hs:=dI h2 s
 rw[show s.v=.str s.1 s.2 from rfl,AAX h1]
 cases hl:Ci ps s with
 |none=>
  rw[hl]at hs
  cases hx:Ci fs s with
  |none=>exact⟨ACl,rfl,rfl,λf h=>by cases h⟩
  |some x=>rw[hx]at hs;cases hs
 |some v=>
  rw[hl]at hs
  cases hx:Ci fs s with
  |none=>rw[hx]at hs;cases hs
  |some x=>
   have hv:=h3 _ _ _ hl hx
   obtain⟨L,rfl,hL⟩:=hv.cells
   exact⟨L,rfl,hL,λf h=>by cases h;exact hv⟩
theorem JL.up{G:AX}{H:Heap}{n n' a:Nat}{fs:List (St×Fl)}(h:JL G H n a fs)(hn:n<=n'):JL G H n' a fs:=h.ke ⟨hn,λ_ _ _ _ h=>h⟩ rfl
theorem nX{α β:Type}(g:α->β)(l:List α){j:Nat}(h:j<l.length):(l.take (j+1)).map g=(l.take j).map g++[g l[j]]:=by
 rw[List.take_add_one,List.getElem?_eq_getElem h,List.map_append];rfl
theorem APK{G:AX}(hG:QT G)(hO:gV G){H:Heap}{n:Nat}{v:V}{Bg:List Fl}(hf:L8 G H n v Bg){k:KV}
 (hk0:O1 Bg=0->∀H' n' i,Kp H n H' n'->ANh G H' n' n i Bg->k (.Di [.ptr i 0,.int .i64 (.ofNat 0) 0]) H' n')
 (hk1:O1 Bg≠0->∀H' n',Kp H n H' n'->k (.Di [.NT,.int .i64 (O1 Bg) 0]) H' n'):Runs F G lG [v] H n k:=by
 refine BN (s:=N9 (WH lfp G)) fU (by obtain⟨h,o⟩:=sU BO G;rw[fU]at h;cases h;exact o) ?_
 show WH lfp G (Runs F G) v H n k
 delta WH
 simp only[hf.len,go_sem,Xi]
 unfold O1 at hk0 hk1
 obtain⟨R,hR⟩:∃R,R=Ul [] Bg:=⟨_,rfl⟩
 rw[<-hR]at hk0 hk1
 obtain⟨Q,hQ⟩:∃Q,Q=Xw Bg:=⟨_,rfl⟩
 cases AJI:decide (200<Bg.length)with
 |true=>rw[AJI]at hk1;simp only[go_sem];exact hk1 (show(4:Int)≠0 by decide) _ _ (Kp.refl _ _)
 |false=>
 have AJI:=of_decide_eq_false AJI
 rw[show decide (200<Bg.length)=false from decide_eq_false AJI]at hk0 hk1
 simp only[cond_false]at hk0 hk1
 simp only[go_sem,AIO,Nat.reduceAdd,show Ap [V.NT,.ABh,.AY] [(1,1,.c (.map n))]=some (.agg [.NT,.map n,.AY])from rfl]
 have f1:Kp H n (T.set (T.set H n (.map [] 0)) (n+1) (one [.NT,.map n,.AY])) (n+1+1):=((Kp.refl H n).new (m:=n+1) _ (Nat.le_refl _) (by omega)).new _ (by omega) (by omega)
 refine CJ (N:=Bg.length) (J:=λj q=>∃H' n' va vn acc,∃LSf:ER,q=(v,va,.ptr (n+1) 0,v,.int .i64 (.ofNat Bg.length) 0,.int .i64 (.ofNat j) 0,H',n')/\Kp H n H' n'/\n+1<n'/\T.get H' (n+1)=some (one [.NT,.map n,vn])/\
  JL G H' n n acc/\Own G H' (n+2) n' 1 vn (strs (NC (Bg.take j)))/\Own G H' (n+2) n' 4 va LSf/\LSf.length=j/\(∀(i:Nat) (L:LV) (c:Fc),LSf[i]? =some L->(CB (Bg.take j))[i]? =some c->VN G H' n (.agg L) c)/\
  Ul acc (Bg.drop j)=R/\UN acc (Bg.drop j)=Q/\(∀f∈Bg.take j,KZ f=true)) ?_ ?_
  ⟨_,_,.AY,.AY,[],[],rfl,f1,by omega,T.Ah ..,⟨[],⟨[],0,by rw[T.Ac _ _ (by omega),T.Ah],rfl⟩,rfl,λs v c h=>by cases h⟩,⟨.nil,pU⟩,⟨.nil,pU⟩,rfl,λi L c h=>by simp at h,hR.symm,hQ.symm,λf h=>by simp at h⟩
 ·rintro I j q hlt ⟨H3,n3,va,vn,acc,LSf,rfl,f3,hn3,g3,hacc,hvn,hva,hLS,hfv,hl1,hff,hok⟩ ih
  show PK lfp G (Runs F G) k I v va (.ptr (n+1) 0) v (.int .i64 (.ofNat Bg.length) 0) (.int .i64 (.ofNat j) 0) H3 n3
  delta PK
  obtain⟨q,vf,vm,v0,v1,v2,v3,v4,vb,mws,ws,bws,hp,hld,hfile⟩:=(hf.ke (f3.ke.low (Nat.le_refl _))).at hlt
  have htn:=nX (λf:Fl=>f.face.nm) Bg hlt
  have htf:=nX (λf:Fl=>f.face) Bg hlt
  have hto:=List.take_add_one (l:=Bg) (i:=j)
  rw[List.getElem?_eq_getElem hlt]at hto
  rw[List.drop_eq_getElem_cons hlt]at hl1 hff
  unfold Ul at hl1
  unfold UN at hff
  generalize Bg[j]=m at hld hl1 hff hfile htn htf hto
  simp only[go_sem,Nat.reduceAdd,Cc,hlt,decide_true,hp,DI hld]
  rw[T.set_set]
  have g4:=T.Ah H3 n3 (one [m.face.nm.v,m.face.sup.v,vf,vm,v0,v1,v2,v3,v4,vb])
  have f4:Kp H3 n3 (T.set H3 n3 (one [m.face.nm.v,m.face.sup.v,vf,vm,v0,v1,v2,v3,v4,vb])) (n3+1):=(Kp.refl _ _).new _ (Nat.le_refl _) (by omega)
  generalize T.set H3 n3 (one [m.face.nm.v,m.face.sup.v,vf,vm,v0,v1,v2,v3,v4,vb])=H4 at g4 f4
  obtain⟨L,hlook,hL,-⟩:=(hacc.ke ((f4.ke).low (by omega)) (f4.same n (by omega))).look m.face.nm
  simp only[go_sem,Nat.reduceAdd,AU (off:=1) (f4.get g3 (by omega)) (v:=.map n) rfl,AU (off:=0) g4 (v:=m.face.nm.v) rfl,hlook]
  rw[ABf (m:=10) rfl (by omega) hL,T.set_set]
  have f5:Kp H4 (n3+1) (T.set H4 (n3+1) (one L)) (n3+1+1):=(Kp.refl _ _).new _ (Nat.le_refl _) (by omega)
  generalize T.set H4 (n3+1) (one L)=H5 at f5
  have g5:=f5.get g4 (by omega)
  have f35:=f4.trans f5
  rw[CV (m:=10) g5 (by omega) rfl,AB]
  refine AF2 hO (f:=m) ((hfile.ke ((f35.ke).low (by omega))).ke ⟨by omega,λ_ _ _ _ h=>h⟩) λH6 n6 f6=>?_
  have f36:=f35.trans f6
  have h6n:=f6.le
  have g6:=f6.get g5 (by omega)
  have gb:=f36.get g3 (by omega)
  simp only[Bo,go_sem]
  cases h1:KZ m with
  |false=>
   rw[h1]at hl1
   simp only[Bool.not_false,cond_true]at hl1
   rw[<-hl1]at hk1
   simp only[Bool.not_false,go_sem]
   exact hk1 (show(2:Int)≠0 by decide) _ _ (f3.trans f36)
  |true=>
  rw[h1]at hl1
  simp only[Bool.not_true,cond_false]at hl1
  simp only[Bool.not_true,go_sem]
  cases h2:(Ci acc m.face.nm).isSome with
  |true=>
   rw[h2]at hl1
   simp only[cond_true]at hl1
   rw[<-hl1]at hk1
   simp only[go_sem]
   exact hk1 (show(6:Int)≠0 by decide) _ _ (f3.trans f36)
  |false=>
  rw[h2]at hl1
  simp only[cond_false]at hl1
  simp only[go_sem,Nat.reduceAdd,AU (off:=1) gb (v:=.map n) rfl,AU (off:=0) g6 (v:=m.face.nm.v) rfl,CV (m:=10) g6 (by omega) rfl]
  obtain⟨ps,hps,hkey,hval⟩:=(hacc.ke ((f36.ke).low (by omega)) (f36.same n (by omega))).is
  refine ADB hps m.face.nm _ λH7 hm7 hs7=>?_
  have f7:Kp H6 n H7 n:=⟨Nat.le_refl _,λid hid=>hs7 id (by omega)⟩
  have g7:=(hs7 n3 (by omega)).trans g6
  have gb7:=(hs7 (n+1) (by omega)).trans gb
  have hacc7:JL G H7 n n (Uf m.face.nm m acc):=JL.put hkey (λs v c x y=>(hval s v c x y).ke f7.ke) hm7 ⟨_,vf,vm,v0,v1,v2,v3,v4,vb,mws,ws,bws,(hfile.ke ((f36.ke).low (by omega))).ke f7.ke,rfl⟩
  simp only[go_sem,Nat.reduceAdd,AU (off:=2) gb7 (v:=vn) rfl,AU (off:=0) g7 (v:=m.face.nm.v) rfl]
  refine ALa (G:=G) (w:=m.face.nm.v) rfl rfl λH8 f8 e8=>?_
  have f68:∀id,id<n6->id≠n->T.get H8 id=T.get H6 id:=λid h hne=>(f8.same id h).trans (hs7 id hne)
  have hvn8:Own G H8 (n+2) (n6+1) 1 vn (strs (NC (Bg.take j))):=⟨hvn.gr.mono λid hid=>(f68 id (by have:=hvn.lo id hid;omega) (by have:=(hvn.gr.lo hid).1;omega)).trans (f36.same id (hvn.lo id hid)),λid hid=>by have:=hvn.lo id hid;omega⟩
  have hlenn:(NC (Bg.take j)).length=j:=by simp;omega
  refine hvn8.gr.app (by omega) hvn8.lo e8 ?_ ?_ ?_
  ·rw[Gz,hlenn];simp;omega
  ·intro vn' H9 gr9 hs9 hlo9
   have hvns:∀id,vn.XZ=some id->n+2<=id:=λid hid=>(hvn.gr.lo hid).1
   have gb9:T.get H9 (n+1)=some (one [.NT,.map n,vn]):=(hs9 (n+1) (by omega) (λh=>by have:=hvns _ h;omega)).trans ((f8.same (n+1) (by omega)).trans gb7)
   obtain⟨hok9,hvc9⟩:=Gr.ok gr9
   rw[zA (m:=1) gb9 hok9 (by rw[hvc9];rfl) (by omega) (by show 2+1<=3;omega),hvc9]
   rw[show List.take 2 [V.NT,.map n,vn]++([vn']++List.drop (2+1) [V.NT,.map n,vn])=[.NT,.map n,vn']from rfl]
   have g9:T.get H9 n3=_:=(hs9 n3 (by omega) (λh=>by have:=hvn.lo _ h;omega)).trans ((f8.same n3 (by omega)).trans g7)
   have hs10:∀id,id≠n+1->T.get (T.set H9 (n+1) (one [.NT,.map n,vn'])) id=T.get H9 id:=λid h=>T.Ac _ _ (Ne.symm h)
   have gb10:=T.Ah H9 (n+1) (one [.NT,.map n,vn'])
   generalize T.set H9 (n+1) (one [.NT,.map n,vn'])=H10 at hs10 gb10
   have g10:T.get H10 n3=_:=(hs10 n3 (by omega)).trans g9
   rw[show Af 4 (.ptr n3 0) G H10=some (.agg [m.face.nm.v,m.face.sup.v,vf,vm])from Iq g10 (by omega) (by show 4<=10;omega),AB]
   rw[AAa (z:=4) (L:=[m.face.nm.v,m.face.sup.v,vf,vm]) rfl]
   have f11:Kp H10 (n6+1+1) (T.set H10 (n6+1+1) (.arr 4 1 (T.set (T.set .e 0 [.str 0 0,.str 0 0,.AY,.AY]) 0 [m.face.nm.v,m.face.sup.v,vf,vm]))) (n6+1+1+1):=(Kp.refl _ _).new _ (Nat.le_refl _) (by omega)
   have e11:=lW (G:=G) (z:=4) (by omega) rfl (T.Ah H10 (n6+1+1) (.arr 4 1 (T.set (T.set .e 0 [.str 0 0,.str 0 0,.AY,.AY]) 0 [m.face.nm.v,m.face.sup.v,vf,vm])))
   generalize T.set H10 (n6+1+1) (.arr 4 1 (T.set (T.set .e 0 [.str 0 0,.str 0 0,.AY,.AY]) 0 [m.face.nm.v,m.face.sup.v,vf,vm]))=H11 at f11 e11
   have keep:∀id,id<n3->id≠n->id≠n+1->vn.XZ≠some id->T.get H11 id=T.get H3 id:=λid a b c d=>
    (f11.same id (by omega)).trans ((hs10 id c).trans ((hs9 id (by omega) d).trans ((f68 id (by omega) b).trans (f36.same id a))))
   have hvas:∀id,va.XZ=some id->vn.XZ≠some id:=λid hid hid2=>by
    obtain⟨_,c,t,e1⟩:=hva.gr.lo hid
    obtain⟨_,c',t',e2⟩:=hvn.gr.lo hid2
    rw[e1]at e2;cases e2
   have hva11:Own G H11 (n+2) (n6+1+1+1) 4 va LSf:=⟨hva.gr.mono λid hid=>keep id (hva.lo id hid) (by have:=(hva.gr.lo hid).1;omega) (by have:=(hva.gr.lo hid).1;omega) (hvas id hid),λid hid=>by have:=hva.lo id hid;omega⟩
   refine hva11.gr.app (by omega) hva11.lo e11.2 ?_ ?_ ?_
   ·rw[hLS];simp;omega
   ·intro va' H12 gr12 hs12 hlo12
    simp only[go_sem,D7 (show j+1<9223372036854775808 by omega)]
    have hvas2:∀id,va.XZ=some id->n+2<=id:=λid hid=>(hva.gr.lo hid).1
    have k12:∀id,id<n->T.get H12 id=T.get H3 id:=λid hid=>(hs12 id (by omega) (λh=>by have:=hvas2 _ h;omega)).trans (keep id (by omega) (by omega) (by omega) (λh=>by have:=hvns _ h;omega))
    have k3:Kp H3 n H12 n:=⟨Nat.le_refl _,k12⟩
    have k7:Kp H7 n H12 n:=⟨Nat.le_refl _,λid hid=>by rw[k12 id hid,hs7 id (by omega)];exact(f36.same id (by omega)).symm⟩
    have hn12:T.get H12 n=T.get H7 n:=(hs12 n (by omega) (λh=>by have:=hvas2 _ h;omega)).trans ((f11.same n (by omega)).trans ((hs10 n (by omega)).trans ((hs9 n (by omega) (λh=>by have:=hvns _ h;omega)).trans (f8.same n (by omega)))))
    refine ih _ ⟨H12,_,va',vn',Uf m.face.nm m acc,LSf++[[m.face.nm.v,m.face.sup.v,vf,vm]],rfl,⟨by omega,λid hid=>(k12 id hid).trans (f3.same id hid)⟩,by omega,?_,hacc7.ke k7.ke hn12,?_,⟨gr12,hlo12⟩,by simp[hLS],?_,hl1,hff,?_⟩
    ·exact(hs12 (n+1) (by omega) (λh=>by have:=hvas2 _ h;omega)).trans ((f11.same (n+1) (by omega)).trans gb10)
    ·refine⟨?_,λid hid=>by have:=hlo9 id hid;omega⟩
     rw[show NC (Bg.take (j+1))=NC (Bg.take j)++[m.face.nm]from htn,strs,List.map_append]
     refine gr9.mono λid hid=>?_
     have h9:=hlo9 id hid
     have hlo:n+2<=id:=(gr9.lo hid).1
     refine(hs12 id (by omega) λh=>?_).trans ((f11.same id (by omega)).trans (hs10 id (by omega)))
     obtain⟨_,c,t,e1⟩:=gr9.lo hid
     obtain⟨_,c',t',e2⟩:=hva11.gr.lo h
     rw[f11.same id (by omega),hs10 id (by omega),e1]at e2;cases e2
    ·intro i L c hi hc
     rw[show CB (Bg.take (j+1))=CB (Bg.take j)++[m.face]from htf]at hc
     have hlf:(CB (Bg.take j)).length=j:=by simp;omega
     by_cases hij:i<j
     ·rw[List.getElem?_append_left (by omega)]at hi hc
      exact(hfv i L c hi hc).ke k3.ke
     ·rw[List.getElem?_append_right (by omega)]at hi hc
      have:i=j:=by have:=(List.getElem?_eq_some_iff.1 hi).1;simp at this;omega
      subst this
      rw[hLS,Nat.sub_self]at hi
      rw[hlf,Nat.sub_self]at hc
      simp at hi hc
      subst hi;subst hc
      exact⟨vf,vm,mws,hfile.face.ke k3.ke,rfl⟩
    ·intro f hf'
     rw[hto]at hf'
     rcases List.mem_append.1 hf' with h|h
     ·exact hok f h
     ·simp at h;subst h;exact h1
   ·intro h;cases h
  ·intro h;cases h
 ·rintro I q ⟨H3,n3,va,vn,acc,LSf,rfl,f3,hn3,g3,hacc,hvn,hva,hLS,hfv,hl1,hff,hok⟩
  show PK lfp G (Runs F G) k I v va (.ptr (n+1) 0) v (.int .i64 (.ofNat Bg.length) 0) (.int .i64 (.ofNat Bg.length) 0) H3 n3
  delta PK
  rw[List.drop_eq_nil_of_le (Nat.le_refl _)]at hl1 hff
  rw[List.take_of_length_le (Nat.le_refl _)]at hvn hfv hok
  have hff:acc=Xw Bg:=Eq.trans hff hQ
  subst hff
  have hl1:(0:Int)=R:=hl1
  rw[<-hl1]at hk0 hk1
  simp only[go_sem,Cc,Nat.lt_irrefl,decide_false]
  delta Y1
  refine ARa (m:=n) (cs:=CB Bg) ⟨⟨LSf,hva.el (by omega),by simp[hLS],hfv⟩,hva.lo,by simp;omega,by omega⟩ λH4 n4 t a b f4 gt hfa hseen ha hab hbt htn=>?_
  have gb:=f4.get g3 (by omega)
  have h4n:=f4.le
  simp only[go_sem,Nat.reduceAdd]
  rw[zA (m:=1) gb rfl rfl (by omega) (by show 0+1<=3;omega)]
  rw[show List.take 0 [V.NT,.map n,vn]++(Aq (.ptr t 0)++List.drop (0+1) [V.NT,.map n,vn])=[.ptr t 0,.map n,vn]from rfl]
  have hs5:∀id,id≠n+1->T.get (T.set H4 (n+1) (one [.ptr t 0,.map n,vn])) id=T.get H4 id:=λid h=>T.Ac _ _ (Ne.symm h)
  have gb5:=T.Ah H4 (n+1) (one [.ptr t 0,.map n,vn])
  generalize T.set H4 (n+1) (one [.ptr t 0,.map n,vn])=H5 at hs5 gb5
  have k5:∀id,id<n->T.get H5 id=T.get H id:=λid hid=>(hs5 id (by omega)).trans ((f4.same id (by omega)).trans (f3.same id hid))
  have f5:Kp H n H5 n4:=⟨by omega,k5⟩
  have hfacc:∀s c,Ci (EL (CB Bg)) s=some c->∃f∈Bg,f.face=c:=λs c h=>by
   have:=AB1 h
   obtain⟨f,h1,h2⟩:=List.mem_map.1 this
   exact⟨f,h1,h2⟩
  have htlen:=jm (CB Bg) []
  have hps:∀s c,Ci (EL (CB Bg)) s=some c->∀m∈c.ms,m.ps.length<=100000:=λs c h m hm=>by
   obtain⟨f,hf1,rfl⟩:=hfacc s c h
   have h1:=hok f hf1
   unfold KZ at h1
   rw[Bool.and_eq_true]at h1
   have:=ABO h1.1 m hm
   omega
  have hk0:link2 (EL (CB Bg)) Bg=0->∀H' n' i,Kp H n H' n'->ANh G H' n' n i Bg->k (.Di [.ptr i 0,.int .i64 (.ofNat 0) 0]) H' n':=hk0
  have hk1:link2 (EL (CB Bg)) Bg≠0->∀H' n',Kp H n H' n'->k (.Di [.NT,.int .i64 (link2 (EL (CB Bg)) Bg) 0]) H' n':=hk1
  obtain⟨ps,hps1,hkey,hval⟩:=hfa.is
  have k45:Kp H4 n H5 n:=⟨Nat.le_refl _,λid hid=>hs5 id (by omega)⟩
  have htab5:TabAt G H5 n4 t a b (EL (CB Bg)):=⟨by omega,by omega,by omega,by omega,by omega,(hs5 t (by omega)).trans gt,⟨ps,fK hps1 (hs5 a (by omega)),hkey,λs v c x y=>((hval s v c x y).ke k45.ke).up (by omega)⟩,hseen.same (hs5 b (by omega))⟩
  have himg:S9 G H5 n4 (n+1) t a b n vn (EL (CB Bg)):=⟨by omega,by omega,gb5,htab5⟩
  have hfv5:L8 G H5 n4 v Bg:=(hf.ke (f5.ke))
  have hvn5:Own G H5 (n+2) n4 1 vn (strs (NC Bg)):=⟨hvn.gr.mono λid hid=>(hs5 id (by have:=(hvn.gr.lo hid).1;omega)).trans (f4.same id (hvn.lo id hid)),λid hid=>by have:=hvn.lo id hid;omega⟩
  have hacc5:JL G H5 n n (Xw Bg):=hacc.ke (H':=H5) (n':=n) ((Kp.ke (n':=n) ⟨Nat.le_refl _,λid hid=>(hs5 id (by omega)).trans (f4.same id (by omega))⟩)) ((hs5 n (by omega)).trans (f4.same n (by omega)))
  have kpf:∀H' n',Kb b H5 n4 H' n'->Kp H n H' n':=λH' n' f=>⟨by have:=f.le;omega,λid hid=>by
   have h1:id<n4:=by omega
   have h2:id≠b:=by omega
   exact(f.same id h1 h2).trans (k5 id hid)⟩
  simp only[go_sem,hf.len]
  refine AJB hG (by simp at htlen;unfold EL;omega) hps himg hfv5 (λh0 H' n' f=>?_) (λh0 H' n' f=>hk1 h0 _ _ (kpf _ _ f))
  have hfn:=f.le
  have hvn6:Own G H' (n+2) n' 1 vn (strs (NC Bg)):=⟨hvn5.gr.mono λid hid=>f.same id (by have:=hvn.lo id hid;omega) (by have:=hvn.lo id hid;omega),λid hid=>by have:=hvn.lo id hid;omega⟩
  refine hk0 h0 _ _ _ (kpf _ _ f) ⟨t,a,b,n,vn,himg.kb f,?_,by omega,by omega,hvn6.el (by omega),hvn6.lo,by omega,by omega,by omega,by omega,by omega⟩
  refine(hacc5.ke ((f.ke (hseen.same (hs5 b (by omega)))).low (by omega)) (f.same n (by omega) (by omega))).up (by omega)
def small(fs:Tab):Prop:=∀s c,Ci fs s=some c->c.fs.length<=200
theorem eq_i(x y:Int):CX (.one .int) false (.int .i64 x 0) (.int .i64 y 0)=some (.bool (x==y)):=by
 have h:=ALH x y
 show ofB (QW (some (ieq x y)) λb=>some b)=_
 rw[Tt]
 cases h2:decide (x=y)with
 |true=>have:=of_decide_eq_true h2;subst this;simp[QW,ofB]
 |false=>
  have:=of_decide_eq_false h2
  have:(x==y)=false:=by simpa using this
  rw[this];rfl
theorem AQy{z:Nat}{Z:LV}{H:Heap}{n:Nat}{P:KV}:Bf (Az z 0 Z [] E0) H n P=P (.sl n 0 0 0 z) (T.set H n (.arr z 0 .e)) (n+1):=by
 show L9 (band true true) (DX n λn=>P (.sl n 0 0 0 z) (T.set H n (.arr z 0 .e)) (Nat.succ n))=_
 rw[BL];rfl
structure Img where
 i:Nat
 t:Nat
 a:Nat
 b:Nat
 f:Nat
 v:V
abbrev Img.At(G:AX)(H:Heap)(n:Nat)(x:Img)(fs:Tab):Prop:=S9 G H n x.i x.t x.a x.b x.f x.v fs
theorem ANP{G:AX}{H:Heap}{n i t a b fm:Nat}{vn:V}{fs:Tab}{ss:List St}(h:S9 G H n i t a b fm vn fs)(hn:El G H vn 1 (strs ss))(hs:ss.length<=1000){k:KV}
 (hk:∀v H' n',Kp H n H' n'->El G H' v 1 (strs ss)->Lo v n'->k v H' n'):Runs F G YC [.ptr i 0] H n k:=by
 refine BN (s:=N9 (KL lfp G)) Rx (by obtain⟨h,o⟩:=Xh BO G;rw[Rx]at h;cases h;exact o) ?_
 show KL lfp G (Runs F G) (.ptr i 0) H n k
 delta KL
 simp only[AIQ,go_sem,Nat.reduceAdd,AU (off:=2) h.at' (v:=vn) rfl]
 refine(Gr.nil (G:=G) (H:=H) (m:=n) (z:=1)).app (Nat.le_refl _) (λid h=>by cases h) hn.2 (by rw[Gz];simp;omega) ?_ ?_
 ·intro v' H' hg hsame hlo
  exact hk _ _ _ ⟨by omega,λid hid=>hsame id hid (λh=>by cases h)⟩ (hg.el (by omega)) hlo
 ·intro e
  have:ss=[]:=by simpa[strs]using e
  subst this
  exact hk _ _ _ (Kp.refl _ _) ⟨rfl,rfl⟩ pU
theorem JL.AR5{G:AX}{H:Heap}{n a:Nat}{fs:List (St×Fl)}(h:JL G H n a fs)(s:St):∃L:LV,AAp .str true (.agg ACl) (.map a) s.v H=some (.Di [.agg L,.bool (Ci fs s).isSome])/\L.length=10/\
 (∀f,Ci fs s=some f->VL G H n (.agg L) f)/\(Ci fs s=none->L=ACl):=by
 obtain⟨ps,h1,h2,h3⟩:=h.is
 have hs:=dI h2 s
 rw[show s.v=.str s.1 s.2 from rfl,AAX h1]
 cases hl:Ci ps s with
 |none=>
  rw[hl]at hs
  cases hx:Ci fs s with
  |none=>exact⟨ACl,rfl,rfl,λf h=>(by cases h),λ_=>rfl⟩
  |some x=>rw[hx]at hs;cases hs
 |some v=>
  rw[hl]at hs
  cases hx:Ci fs s with
  |none=>rw[hx]at hs;cases hs
  |some x=>
   have hv:=h3 _ _ _ hl hx
   obtain⟨L,rfl,hL⟩:=hv.cells
   exact⟨L,rfl,hL,λf h=>(by cases h;exact hv),λh=>by cases h⟩
theorem APa{G:AX}{H:Heap}{n n0 i t a b fm:Nat}{vn:V}{fs:Tab}{ff:List (St×Fl)}(h:S9 G H n i t a b fm vn fs)(hf:JL G H n0 fm ff)(hn:n0<=n)(hfm:fm<n){s:St}{k:KV}
 (hk:∀H' n' L,Kp H n H' n'->L.length=10->(∀f,Ci ff s=some f->VL G H' n0 (.agg L) f)->(Ci ff s=none->L=ACl)->k (.Di [.agg L,.bool (Ci ff s).isSome]) H' n'):Runs F G Zw [.ptr i 0,s.v] H n k:=by
 refine BN (s:=SC (Lp lfp G)) Tq (by obtain⟨h,o⟩:=Yc BO G;rw[Tq]at h;cases h;exact o) ?_
 show Lp lfp G (Runs F G) (.ptr i 0) s.v H n k
 delta Lp
 refine BZ rfl λH1 f1 g1=>?_
 have h1:=h.kb (f1.kb h.tab.bn)
 obtain⟨L,hlook,hL,hsome,hnone⟩:=(hf.ke ((f1.ke).low hn) (f1.same fm hfm)).AR5 s
 simp only[AIQ,go_sem,Nat.reduceAdd,AU (off:=1) h1.at' (v:=.map fm) rfl,hlook]
 rw[ABf (m:=10) rfl (by omega) hL,T.set_set]
 have f2:Kp H1 (n+1) (T.set H1 (n+1) (one L)) (n+1+1):=(Kp.refl _ _).new _ (Nat.le_refl _) (by omega)
 have g2:=T.Ah H1 (n+1) (one L)
 generalize T.set H1 (n+1) (one L)=H2 at f2 g2
 rw[CV (m:=10) g2 (by omega) hL,AB,Gt (m:=10) (f2.get g1 (by omega)) (by omega) rfl hL,Ei (m:=10) (T.Ah ..) (by omega) hL]
 simp only[go_sem]
 have f3:Kp H n (T.set H2 n (one L)) (n+1+1):=(f1.trans f2).set _ (Nat.le_refl _)
 refine hk _ _ _ f3 hL (λf hf=>(hsome f hf).ke ?_) hnone
 exact(Kp.ke (n:=n0) (n':=n0) ⟨Nat.le_refl _,λid hid=>(T.Ac _ _ (by omega)).trans (f2.same id (by omega))⟩)
end Go.RL
