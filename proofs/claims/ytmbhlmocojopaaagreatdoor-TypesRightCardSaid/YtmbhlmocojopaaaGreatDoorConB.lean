/- Part of a proof; nothing is assumed. -/
import Derived.Test.YtmbhlmocojopaaaGreatDoorConA
import Derived.Test.YtmbhlmocojopaaaGreatDoorWalk
set_option linter.unusedVariables false
set_option linter.unusedSimpArgs false
namespace Go.RL
open Go.DK
set_option maxRecDepth 100000
structure Ke(G:AX)(H:Heap)(n:Nat)(H':Heap)(n':Nat):Prop where
 le:n<=n'
 el:∀v z LS,Lo v n->El G H v z LS->El G H' v z LS
section
variable{G:AX}{H H' H'':Heap}{n n' n'':Nat}{v:V}
theorem _root_.Go.DK.Kp.ke(f:Kp H n H' n'):Ke G H n H' n':=⟨f.le,λ_ _ _ hl h=>h.kp hl f⟩
theorem Ke.low{m:Nat}(f:Ke G H n H' n')(hm:m<=n):Ke G H m H' m:=⟨Nat.le_refl _,λv z LS hl h=>f.el v z LS (hl.mono hm) h⟩
theorem _root_.Go.DK.El.ke{z:Nat}{LS:Dy}(h:El G H v z LS)(hl:Lo v n)(f:Ke G H n H' n'):El G H' v z LS:=f.el v z LS hl h
theorem Vs.ke{xs:List Ty}(h:Vs G H n v xs)(f:Ke G H n H' n'):Vs G H' n' v xs:=⟨h.el.ke h.lo f,h.lo.mono f.le,h.lt,h.ok⟩
theorem Wu.ke{xs:List DJ}(h:Wu G H n v xs)(f:Ke G H n H' n'):Wu G H' n' v xs:=⟨h.el.ke h.lo f,h.lo.mono f.le,h.lt,h.ok⟩
theorem RY.ke{xs:List Ej}{ws:List V}(h:RY G H n v xs ws)(f:Ke G H n H' n'):RY G H' n' v xs ws:=
 ⟨h.el.ke h.lo f,h.lo.mono f.le,h.lt,h.len,λi m w a b=>(h.at' i m w a b).ke f,h.ok⟩
theorem ACy.ke{L:LV}{c:Fc}{v w:V}{ws:List V}(h:ACy G H n L c v w ws)(f:Ke G H n H' n'):ACy G H' n' L c v w ws:=⟨h.is,h.fs.ke f,h.ms.ke f,h.ok⟩
def Qd(G:AX)(H:Heap)(n:Nat)(v:V)(c:Fc):Prop:=∃vf vm ws,ACy G H n [c.nm.v,c.sup.v,vf,vm] c vf vm ws/\v=.agg [c.nm.v,c.sup.v,vf,vm]
theorem Qd.ke{c:Fc}(h:Qd G H n v c)(f:Ke G H n H' n'):Qd G H' n' v c:=by
 obtain⟨vf,vm,ws,h,hv⟩:=h;exact⟨vf,vm,ws,h.ke f,hv⟩
def MI(H:Heap)(b:Nat):Prop:=∃ps,ACe H b ps
structure Kb(b:Nat)(H:Heap)(n:Nat)(H':Heap)(n':Nat):Prop where
 le:n<=n'
 same:∀id,id<n->id≠b->T.get H' id=T.get H id
 seen:MI H b->MI H' b
theorem Kb.refl(b:Nat)(H:Heap)(n:Nat):Kb b H n H n:=⟨Nat.le_refl _,λ_ _ _=>rfl,λh=>h⟩
theorem Kb.trans{b:Nat}(x:Kb b H n H' n')(y:Kb b H' n' H'' n''):Kb b H n H'' n'':=
 ⟨Nat.le_trans x.le y.le,λid h hb=>(y.same id (Nat.lt_of_lt_of_le h x.le) hb).trans (x.same id h hb),λh=>y.seen (x.seen h)⟩
theorem Kb.trans'{b m:Nat}(x:Kb b H n H' n')(y:∀id,id<n->T.get H'' id=T.get H' id)(hm:n'<=m)(hb:b<n):Kb b H n H'' m:=
 ⟨Nat.le_trans x.le hm,λid h hne=>(y id h).trans (x.same id h hne),λh=>by
  obtain⟨ps,es,ck,hg,he⟩:=x.seen h;exact⟨ps,es,ck,(y b hb).trans hg,he⟩⟩
theorem Kb.low{b m:Nat}(f:Kb b H n H' n')(hm:m<=n):Kb b H m H' m:=⟨Nat.le_refl _,λid h hb=>f.same id (Nat.lt_of_lt_of_le h hm) hb,f.seen⟩
theorem Kb.AYd{b m:Nat}(f:Kb b H n H' n')(hm:m<=n):Kb b H m H' n':=⟨Nat.le_trans hm f.le,λid h hb=>f.same id (Nat.lt_of_lt_of_le h hm) hb,f.seen⟩
theorem MI.same{b:Nat}(h:MI H b)(e:T.get H' b=T.get H b):MI H' b:=by
 obtain⟨ps,es,ck,hg,he⟩:=h;exact⟨ps,es,ck,e.trans hg,he⟩
theorem _root_.Go.DK.Kp.kb{b:Nat}(f:Kp H n H' n')(hb:b<n):Kb b H n H' n':=⟨f.le,λid h _=>f.same id h,λh=>h.same (f.same b hb)⟩
theorem Kb.get{b id:Nat}{B:Ro}(f:Kb b H n H' n')(h:T.get H id=some B)(hi:id<n)(hb:id≠b):T.get H' id=some B:=(f.same id hi hb).trans h
theorem MI.ld{b o z:Nat}(h:MI H b):zf H b o z=none:=by
 obtain⟨ps,es,ck,hg,-⟩:=h;unfold zf;rw[hg];rfl
theorem MI.elems{b z:Nat}(h:MI H b){m o:Nat}{LS:Dy}(he:DV H b z m o=some LS):m=0:=by
 cases m with
 |zero=>rfl
 |succ m=>
  have h':DF (zf H b (Nat.mul o z) z) (λL=>DF (DV H b z m (Nat.succ o)) λLS=>some (L::LS))=some LS:=he
  rw[h.ld]at h';cases h'
theorem Kb.ke{b:Nat}(f:Kb b H n H' n')(hs:MI H b):Ke G H n H' n':=⟨f.le,λv z LS hl h=>by
 by_cases hv:v.D9=some b
 ·obtain⟨h1,h2⟩:=h
  refine⟨h1,?_⟩
  cases v<;>try (cases hv;done)
  ·rename_i id off m c e
   have hid:id=b:=Option.some.inj hv
   subst hid
   have h2':(Bool.rec (motive:=λ_=>Option Dy) none (DV H id z m off) (Nat.beq e z):Option Dy)=some LS:=h2
   show(Bool.rec (motive:=λ_=>Option Dy) none (DV H' id z m off) (Nat.beq e z):Option Dy)=some LS
   cases hb:Nat.beq e z with
   |false=>rw[hb]at h2';cases h2'
   |true=>
    rw[hb]at h2'
    have h3:DV H id z m off=some LS:=h2'
    have:=hs.elems h3
    subst this;exact h3
  ·rename_i id off m e
   have hid:id=b:=Option.some.inj hv
   subst hid
   have h2':(Bool.rec (motive:=λ_=>Option Dy) none (DV H id z m off) (Nat.beq e z):Option Dy)=some LS:=h2
   show(Bool.rec (motive:=λ_=>Option Dy) none (DV H' id z m off) (Nat.beq e z):Option Dy)=some LS
   cases hb:Nat.beq e z with
   |false=>rw[hb]at h2';cases h2'
   |true=>
    rw[hb]at h2'
    have h3:DV H id z m off=some LS:=h2'
    have:=hs.elems h3
    subst this;exact h3
 ·exact h.same λid hid=>f.same id (hl id hid) (by intro e;subst e;exact hv hid)⟩
end
abbrev Tab:=List (St×Fc)
def keyed{α β:Type}(ps:List (St×α))(fs:List (St×β)):Prop:=ps.map (·.1)=fs.map (·.1)
theorem AIL{α β:Type}:∀{ps:List (St×α)} {fs:List (St×β)} (_:keyed ps fs) (s:St),(Ie ps s).isSome=(Ie fs s).isSome
 |[],[],_,s=>rfl
 |p::ps,f::fs,h,s=>by
  simp only[keyed,List.map_cons,List.cons.injEq]at h
  have ih:=AIL (ps:=ps) (fs:=fs) h.2 s
  by_cases hp:p.1=s
  ·have hf:f.1=s:=h.1▸hp
   simp[Ie,hp,hf]
  ·have hf:¬f.1=s:=h.1▸hp
   simp only[Ie,List.find?_cons,hp,hf,decide_false]at ih⊢
   exact ih
 |[],_::_,h,_=>by simp[keyed]at h
 |_::_,[],h,_=>by simp[keyed]at h
theorem AIS{α β:Type}(s:St)(a:α)(b:β):∀{ps:List (St×α)} {fs:List (St×β)} (_:keyed ps fs),keyed (Yy s a ps) (Yy s b fs)
 |[],[],_=>rfl
 |p::ps,f::fs,h=>by
  simp only[keyed,List.map_cons,List.cons.injEq]at h
  unfold Yy
  by_cases hp:p.1=s
  ·have hf:f.1=s:=h.1▸hp
   rw[if_pos hp,if_pos hf];simp[keyed,h.2]
  ·have hf:¬f.1=s:=h.1▸hp
   rw[if_neg hp,if_neg hf]
   have:=AIS s a b (ps:=ps) (fs:=fs) h.2
   simp only[keyed,List.map_cons,List.cons.injEq]at this⊢
   exact⟨h.1,this⟩
 |[],_::_,h=>by simp[keyed]at h
 |_::_,[],h=>by simp[keyed]at h
structure xg(G:AX)(H:Heap)(n:Nat)(a:Nat)(fs:Tab):Prop where
 is:∃ps,ACe H a ps/\keyed ps fs/\∀s v c,Ie ps s=some v->Ie fs s=some c->Qd G H n v c
structure TabAt(G:AX)(H:Heap)(n t a b:Nat)(fs:Tab):Prop where
 tn:t<n
 an:a<n
 bn:b<n
 tb:t≠b
 ab:a≠b
 at':T.get H t=some (one [.map a,.map b])
 faces:xg G H n a fs
 seen:MI H b
theorem AF1{H H':Heap}{a:Nat}{ps:List (St×V)}(h:ACe H a ps)(e:T.get H' a=T.get H a):ACe H' a ps:=by
 obtain⟨es,ck,hg,he⟩:=h;exact⟨es,ck,e.trans hg,he⟩
theorem TabAt.kb{G:AX}{H H':Heap}{n n' t a b:Nat}{fs:Tab}(h:TabAt G H n t a b fs)(f:Kb b H n H' n'):TabAt G H' n' t a b fs:=by
 obtain⟨ps,h1,h2,h3⟩:=h.faces.is
 exact⟨Nat.lt_of_lt_of_le h.tn f.le,Nat.lt_of_lt_of_le h.an f.le,Nat.lt_of_lt_of_le h.bn f.le,h.tb,h.ab,f.get h.at' h.tn h.tb,
  ⟨ps,AF1 h1 (f.same a h.an h.ab),h2,λs v c x y=>(h3 s v c x y).ke (f.ke h.seen)⟩,f.seen h.seen⟩
theorem run_set{f:Nat}{args:List V}{G:AX}{H:Heap}{n m:Nat}{b:Ro}{k:KV}(h:∀H',Kp H n H' (n+1)->T.get H' n=some b->Runs F G f args H' m k):Runs F G f args (T.set H n b) m k:=
 h _ ((Kp.refl H n).new _ (Nat.le_refl _) (by omega)) (T.BX ..)
theorem AZ6(i o:Nat):Dc (.one .ptr) false (.ptr i o) .AHN=some (.bool false):=rfl
abbrev FV:Fc:=⟨(0,0),(0,0),[],[]⟩
theorem ADy{G:AX}{H:Heap}{z:Nat}:El G H .Ag z []:=⟨rfl,rfl⟩
theorem AJO{n:Nat}:Lo .Ag n:=λ_ h=>by cases h
theorem AUe{G:AX}{H:Heap}{n:Nat}:Qd G H n (.agg [.str 0 0,.str 0 0,.Ag,.Ag]) FV:=
 ⟨.Ag,.Ag,[],⟨rfl,⟨ADy,AJO,by decide,λ_ h=>by cases h⟩,⟨ADy,AJO,by decide,rfl,λi m w h=>by simp at h,λ_ h=>by cases h⟩,λ_=>rfl,λ_=>rfl⟩,rfl⟩
theorem wF(L:LV):CZ L []=some (.agg L):=rfl
theorem wJ{G:AX}{H:Heap}{n n0 t a b:Nat}{fs:Tab}(h:TabAt G H n0 t a b fs)(hn:n0<=n){s:St}{k:KV}
 (hk:∀H' n' v,Kb b H n H' n'->Qd G H' n0 v ((Ie fs s).getD FV)->k (.G5 [v,.bool (Ie fs s).isSome]) H' n'):Runs F G G7 [.ptr t 0,s.v] H n k:=by
 refine go2 (AAb BK G) ?_
 delta iD
 have hbn:b<n:=Nat.lt_of_lt_of_le h.bn hn
 refine Au rfl λH1 f1 g1=>?_
 have h1:=h.kb ((f1.kb hbn).low hn)
 simp only[go_sem,AZ6,Nat.reduceAdd,AV (off:=1) h1.at' (v:=.map b) rfl]
 obtain⟨ps,hps⟩:=h1.seen
 refine AOg hps s _ λH2 hm2 hs2=>?_
 have f2:Kb b H1 (n+1) H2 (n+1):=⟨Nat.le_refl _,λid _ hb=>hs2 id hb,λ_=>⟨_,hm2⟩⟩
 have f3:=(f1.kb hbn).trans f2
 have h2:TabAt G H2 n0 t a b fs:=h.kb (f3.low hn)
 have g2:=f2.get g1 (by omega) (by omega)
 obtain⟨qs,hq,hkey,hv⟩:=h2.faces.is
 simp only[go_sem,Nat.reduceAdd,AV (off:=0) h2.at' (v:=.map a) rfl]
 rw[show s.v=.str s.1 s.2 from rfl,ARy hq]
 have hsome:=AIL hkey s
 have fin:∃v,AVM (.agg [.str 0 0,.str 0 0,.Ag,.Ag]) (Ie qs s)=.G5 [v,.bool (Ie fs s).isSome]/\Qd G H2 n0 v ((Ie fs s).getD FV):=by
  cases hl:Ie qs s with
  |none=>
   rw[hl]at hsome
   cases hx:Ie fs s with
   |none=>exact⟨_,rfl,AUe⟩
   |some x=>rw[hx]at hsome;cases hsome
  |some v=>
   rw[hl]at hsome
   cases hx:Ie fs s with
   |none=>rw[hx]at hsome;cases hsome
   |some x=>exact⟨v,rfl,hv _ _ _ hl hx⟩
 obtain⟨v,e,hf⟩:=fin
 obtain⟨vf,vm,ws,hf,rfl⟩:=hf
 rw[e]
 simp only[go_sem,Nat.reduceAdd]
 rw[RI (m:=4) ((T.Ap _ _ (by omega)).trans ((T.Ap _ _ (by omega)).trans g2)) (by omega) rfl rfl,Cm (m:=4) (T.BX ..) (by omega) rfl]
 simp only[go_sem]
 have e:Kp H2 n (T.set (T.set (T.set H2 (n+1) (one [.str 0 0,.str 0 0,.Ag,.Ag])) (n+1) (one [((Ie fs s).getD FV).nm.v,((Ie fs s).getD FV).sup.v,vf,vm])) n (one [((Ie fs s).getD FV).nm.v,((Ie fs s).getD FV).sup.v,vf,vm])) (n+1+1):=
  ((((Kp.refl H2 n).new (m:=n+1+1) _ (by omega) (by omega)).set _ (by omega)).set _ (Nat.le_refl _))
 have f7:Kb b H n H2 n:=⟨Nat.le_refl _,f3.same,f3.seen⟩
 exact hk _ _ _ (f7.trans (e.kb hbn)) ⟨vf,vm,ws,hf.ke ((e.ke).low hn),rfl⟩
def SY:Nat->Tab->List St->St->List St×Bool
 |0,_,out,_=>(out,false)
 |m+1,fs,out,s=>bif decide (s.1=0/\s.2=0)then(out,true)else
  match Ie fs s with
  |none=>(out,false)
  |some c=>bif AAx s out then(out,false)else SY m fs (out++[s]) c.sup
def above(fs:Tab)(s:St):List St×Bool:=SY (fs.length+1) fs [] s
theorem AQr{s:St}{xs:List St}:AAx s xs=true↔s∈xs:=by
 unfold AAx
 rw[List.any_eq_true]
 constructor
 ·rintro⟨x,hx,h⟩
  have:=of_decide_eq_true h
  have e:s=x:=Prod.ext this.1 this.2
  exact e▸hx
 ·intro h;exact⟨s,h,by simp⟩
theorem AUQ{α:Type}{ps:List (St×α)}{s:St}{v:α}(h:Ie ps s=some v):s∈ps.map (·.1):=by
 unfold Ie at h
 cases hf:ps.find? λp=>decide (p.1=s)with
 |none=>rw[hf]at h;cases h
 |some p=>
  have h1:=List.mem_of_find?_eq_some hf
  have h2:=List.find?_some hf
  exact List.mem_map.2 ⟨p,h1,of_decide_eq_true h2⟩
theorem AKE:∀{xs ys:List St} (_:xs.Nodup) (_:∀x∈xs,x∈ys),xs.length<=ys.length
 |[],_,_,_=>Nat.zero_le _
 |x::xs,ys,hn,h=>by
  rw[List.nodup_cons]at hn
  have hx:=h x (List.mem_cons_self ..)
  have:=AKE (xs:=xs) (ys:=ys.erase x) hn.2 λz hz=>by
   have hz':=h z (List.mem_cons_of_mem _ hz)
   have hne:z≠x:=by intro e;subst e;exact hn.1 hz
   exact(List.mem_erase_of_ne hne).2 hz'
  rw[List.length_erase_of_mem hx]at this
  have hpos:0<ys.length:=List.length_pos_of_mem hx
  simp only[List.length_cons];omega
structure Own(G:AX)(H:Heap)(m n:Nat)(z:Nat)(v:V)(LS:Dy):Prop where
 gr:Gr G H m z v LS
 lo:Lo v n
theorem Own.el{G:AX}{H:Heap}{m n z:Nat}{v:V}{LS:Dy}(h:Own G H m n z v LS)(hz:0<z):El G H v z LS:=h.gr.el hz
theorem Own.kb{G:AX}{H H':Heap}{m n n' b z:Nat}{v:V}{LS:Dy}(h:Own G H m n z v LS)(f:Kb b H n H' n')(hb:b<m):Own G H' m n' z v LS:=
 ⟨h.gr.mono λid hid=>f.same id (h.lo id hid) (by have:=(h.gr.lo hid).1;omega),h.lo.mono f.le⟩
theorem Own.kp{G:AX}{H H':Heap}{m n n' z:Nat}{v:V}{LS:Dy}(h:Own G H m n z v LS)(f:Kp H n H' n'):Own G H' m n' z v LS:=
 ⟨h.gr.mono λid hid=>f.same id (h.lo id hid),h.lo.mono f.le⟩
theorem AUL{Z w:V}{H:Heap}{n:Nat}{P:KV}(hw:jc w=true)(hv:Bl w=[w]):
 BZ (Ah 1 1 [Z] [(0,.c w)] E0) H n P=P (.sl n 0 1 1 1) (T.set H n (.arr 1 1 (T.set (T.set .e 0 [Z]) 0 [w]))) (n+1):=by
 show Dj (band (band (jc w) (band true (Nat.beq (len (Bl w)) 1))) true) (FN n λn=>P (.sl n 0 1 1 1) (T.set H n (.arr 1 1 (T.set (T.set .e 0 [Z]) 0 (Bl w)))) (Nat.succ n))=_
 rw[hw,hv,CV];rfl
theorem AWd{G:AX}{Z w:V}{H:Heap}{n:Nat}{P:KV}(hw:jc w=true)(hv:Bl w=[w])(h:∀H',Kp H n H' (n+1)->elems (.sl n 0 1 1 1) G H' 1=some [[w]]->P (.sl n 0 1 1 1) H' (n+1)):
 BZ (Ah 1 1 [Z] [(0,.c w)] E0) H n P:=by
 rw[AUL hw hv]
 exact h _ ((Kp.refl H n).new _ (Nat.le_refl _) (by omega)) (AIv (z:=1) (by omega) rfl (T.BX ..)).2
theorem AUl(s:St):Ar s.v s.v=true:=by
 show band (Nat.beq s.1 s.1) (Nat.beq s.2 s.2)=true
 simp
theorem ACZ{G:AX}{H:Heap}{n t a b:Nat}{fs:Tab}(h:TabAt G H n t a b fs)(hfs:fs.length<=1000){s:St}{k:KV}
 (hk:∀H' n' v,Kb b H n H' n'->Own G H' n n' 1 v (strs (above fs s).1)->(above fs s).1.length<=1001->k (.G5 [v,.bool (above fs s).2]) H' n'):Runs F G ND [.ptr t 0,s.v] H n k:=by
 refine go2 (zJ BK G) ?_
 delta Z7
 have hbn:=h.bn
 refine QL (J:=λm st=>∃out s v H2 n2,m+out.length=fs.length+1/\st=(.ptr t 0,St.v s,v,H2,n2)/\Kb b H n H2 n2/\Own G H2 n n2 1 v (strs out)/\out.Nodup/\(∀x∈out,x∈fs.map (·.1))/\
  (∀H' n' v,Kb b H n H' n'->Own G H' n n' 1 v (strs (SY m fs out s).1)->(SY m fs out s).1.length<=1001->k (.G5 [v,.bool (SY m fs out s).2]) H' n')) ?_ (m:=fs.length+1)
  ⟨[],s,.Ag,H,n,rfl,rfl,Kb.refl _ _ _,⟨.nil,AJO⟩,List.nodup_nil,λ_ h=>absurd h List.not_mem_nil,hk⟩
 rintro I m st ⟨out,s,v,H2,n2,hm,rfl,f,ho,hnd,hsub,hk⟩ ih
 show Qx lfp G (Runs F G) k I (.ptr t 0) s.v v H2 n2
 delta Qx
 have hle:=AKE hnd hsub
 rw[List.length_map]at hle
 obtain⟨m,rfl⟩:∃m',m=m'+1:=⟨m-1,by omega⟩
 unfold SY at hk
 simp only[go_sem,St.v,AW6]
 cases h0:decide (s.1=0/\s.2=0)with
 |true=>
  rw[h0]at hk
  simp only[Bool.not_true,go_sem]
  delta Qm
  exact hk _ _ _ f ho (by show out.length<=1001;omega)
 |false=>
  rw[h0]at hk
  simp only[Bool.not_false,go_sem]
  refine wJ (s:=s) (h.kb f) (Nat.le_refl _) λH3 n3 w f3 hw=>?_
  have f4:=f.trans f3
  have ho3:=ho.kb f3 hbn
  obtain⟨vf,vm,ws,hw,rfl⟩:=hw
  simp only[go_sem,Nat.reduceAdd,Ef]
  rw[T.set_set]
  cases hl:Ie fs s with
  |none=>
   rw[hl]at hk
   simp only[Option.isSome_none,Bool.not_false,go_sem]
   have f5:Kp H3 n3 (T.set H3 n3 (one [((none:Option Fc).getD FV).nm.v,((none:Option Fc).getD FV).sup.v,vf,vm])) (n3+1):=(Kp.refl _ _).new _ (Nat.le_refl _) (by omega)
   exact hk _ _ _ (f4.trans (f5.kb (by have:=f4.le;omega))) (ho3.kp f5) (by show out.length<=1001;omega)
  |some c=>
   rw[hl]at hk
   simp only[Option.isSome_some,Bool.not_true,go_sem,Option.getD_some]
   have hn3:=f4.le
   refine run_set λH4 f5 g5=>?_
   have f6:=f4.trans (f5.kb (b:=b) (by omega))
   have ho4:=ho3.kp f5
   refine ABB (s:=s) (xs:=out) (ho4.el (by omega)) (by omega) ?_
   cases h1:AAx s out with
   |true=>
    simp only[h1,cond_true]at hk
    simp only[go_sem]
    exact hk _ _ _ f6 ho4 (by show out.length<=1001;omega)
   |false=>
    simp only[h1,cond_false]at hk
    have hin:¬s∈out:=λh=>by rw[AQr.2 h]at h1;cases h1
    simp only[go_sem]
    refine AWd (G:=G) rfl rfl λH5 f7 g7=>?_
    have e1:AY (.ptr n3 1) G H5=some c.sup.v:=AV (f7.get g5 (by omega)) rfl
    rw[e1,AQ]
    have ho5:=ho4.kp f7
    refine ho5.gr.app (by omega) ho5.lo g7 ?_ ?_ ?_
    ·rw[mZ];simp;omega
    ·intro v' H6 hg hs hlo
     have f8:Kb b H n H6 (n3+1+1+1):=(f6.trans (f7.kb (by omega))).trans' (λid hid=>hs id (by omega) (λhv=>by have:=(ho5.gr.lo hv).1;omega)) (by omega) hbn
     have e2:AY (.ptr n3 1) G H6=some c.sup.v:=AV ((hs n3 (by omega) (λhv=>by have:=ho.lo _ hv;have:=f3.le;omega)).trans (f7.get g5 (by omega))) rfl
     simp only[go_sem,e2,AUl]
     refine ih _ _ (Nat.lt_succ_self m) ⟨out++[s],c.sup,v',H6,_,by simp;omega,rfl,f8,⟨?_,hlo⟩,?_,?_,hk⟩
     ·rw[strs,List.map_append];exact hg
     ·rw[List.nodup_append];refine⟨hnd,by simp,?_⟩;intro x hx y hy;simp at hy;subst hy;intro e;subst e;exact hin hx
     ·intro x hx
      rcases List.mem_append.1 hx with hx|hx
      ·exact hsub x hx
      ·simp at hx;subst hx;exact AUQ hl
    ·intro h;cases h
abbrev tyZ:Ty:=⟨(0,0),false⟩
abbrev Xv:Ej:=⟨(0,0),false,[],tyZ⟩
def Yu(s:St):List DJ->Option Ty
 |[]=>none
 |f::fs=>bif decide (f.nm.1=s.1/\f.nm.2=s.2)then some f.ty else Yu s fs
def Ol(s:St):List Ej->Option Ej
 |[]=>none
 |m::ms=>bif decide (m.nm.1=s.1/\m.nm.2=s.2)then some m else Ol s ms
def xC(G:AX)(H:Heap)(n:Nat)(v:V)(m:Ej):Prop:=∃w,v=.agg (m.cells w)/\Vs G H n w m.ps
theorem xC.ke{G:AX}{H H':Heap}{n n':Nat}{v:V}{m:Ej}(h:xC G H n v m)(f:Ke G H n H' n'):xC G H' n' v m:=by
 obtain⟨w,e,h⟩:=h;exact⟨w,e,h.ke f⟩
theorem AMT{G:AX}{H:Heap}{n:Nat}:xC G H n (.agg (Xv.cells .Ag)) Xv:=⟨.Ag,rfl,ADy,AJO,by decide,λ_ h=>by cases h⟩
theorem AKd{G:AX}{H:Heap}{n:Nat}{v:V}{c:Fc}(h:Qd G H n v c){s:St}{k:KV}
 (hk:∀H' n',Kp H n H' n'->k (.G5 [((Yu s c.fs).getD tyZ).v,.bool (Yu s c.fs).isSome]) H' n'):Runs F G iE [v,s.v] H n k:=by
 refine go2 (AAy BK G) ?_
 obtain⟨vf,vm,ws,h,rfl⟩:=h
 delta gY
 refine DY λH1 f1 g1=>?_
 refine Au rfl λH2 f2 g2=>?_
 simp only[go_sem,Nat.reduceAdd,AV (off:=2) (f2.get g1 (by omega)) (v:=vf) rfl,h.fs.len]
 have hbig:=h.fs.lt
 refine CP (N:=c.fs.length) (J:=λi st=>∃H' n',st=(s.v,.ptr (n+1) 0,vf,.int .i64 (.ofNat c.fs.length) 0,.int .i64 (.ofNat i) 0,H',n')/\Kp H n H' n'/\n+1<n'/\T.get H' (n+1)=some (one [.str 0 0,.bool false])/\
  (∀H' n',Kp H n H' n'->k (.G5 [((Yu s (c.fs.drop i)).getD tyZ).v,.bool (Yu s (c.fs.drop i)).isSome]) H' n')) ?_ ?_ ⟨H2,_,rfl,f1.trans f2,Nat.lt_succ_self _,g2,hk⟩
 ·rintro I i st hlt ⟨H3,n3,rfl,f3,hn3,g3,hk⟩ ih
  show KG lfp G (Runs F G) k I s.v (.ptr (n+1) 0) vf (.int .i64 (.ofNat c.fs.length) 0) (.int .i64 (.ofNat i) 0) H3 n3
  delta KG
  obtain⟨q,hp,hld⟩:=(h.fs.kp f3).at hlt
  rw[List.drop_eq_getElem_cons hlt]at hk
  unfold Yu at hk
  generalize c.fs[i]=m at hld hk
  unfold DJ.cells at hld
  simp only[go_sem,Nc,hlt,decide_true,hp,DW hld,Nat.reduceAdd,show Dc (.one .str) false m.nm.v s.v=_ from ADc ..]
  rw[T.set_set]
  have f4:=f3.new (m:=n3+1) (id:=n3) (one [m.nm.v,m.ty.nm.v,.bool m.ty.arr]) f3.le (by omega)
  cases h1:decide (m.nm.1=s.1/\m.nm.2=s.2)with
  |true=>
   simp only[h1,cond_true]at hk
   simp only[go_sem,Nat.reduceAdd]
   rw[Dh (m:=2) (off:=1) (T.BX ..) (by omega) (by show 3<=3;omega),AQ]
   show BL 2 (.ptr (n+1) 0) (.agg [m.ty.nm.v,.bool m.ty.arr]) _ _ _
   rw[RI (m:=2) ((T.Ap _ _ (by omega)).trans g3) (by omega) rfl rfl,Cm (m:=2) (T.BX ..) (by omega) rfl]
   simp only[go_sem]
   exact hk _ _ (f4.set _ (by omega))
  |false=>
   simp only[h1,cond_false]at hk
   simp only[go_sem,Eu (show i+1<9223372036854775808 by unfold big at hbig;omega)]
   exact ih _ ⟨_,_,rfl,f4,by omega,(T.Ap _ _ (by omega)).trans g3,hk⟩
 ·rintro I st ⟨H3,n3,rfl,f3,hn3,g3,hk⟩
  show KG lfp G (Runs F G) k I s.v (.ptr (n+1) 0) vf (.int .i64 (.ofNat c.fs.length) 0) (.int .i64 (.ofNat c.fs.length) 0) H3 n3
  delta KG
  rw[List.drop_eq_nil_of_le (Nat.le_refl _)]at hk
  simp only[go_sem,Nc,Nat.lt_irrefl,decide_false]
  delta SE
  simp only[wF,AQ]
  rw[RI (m:=2) g3 (by omega) rfl rfl,Cm (m:=2) (T.BX ..) (by omega) rfl]
  simp only[go_sem]
  exact hk _ _ (f3.set _ (by omega))
theorem ACd{G:AX}{H:Heap}{n n0:Nat}{v:V}{c:Fc}(h:Qd G H n0 v c)(hn:n0<=n){s:St}{k:KV}
 (hk:∀H' n' w,Kp H n H' n'->xC G H' n0 w ((Ol s c.ms).getD Xv)->k (.G5 [w,.bool (Ol s c.ms).isSome]) H' n'):Runs F G Zt [v,s.v] H n k:=by
 refine go2 (yT BK G) ?_
 obtain⟨vf,vm,ws,h,rfl⟩:=h
 delta Z4
 refine DY λH1 f1 g1=>?_
 refine Au rfl λH2 f2 g2=>?_
 simp only[go_sem,Nat.reduceAdd,AV (off:=3) (f2.get g1 (by omega)) (v:=vm) rfl,h.ms.len']
 have hbig:=h.ms.lt
 refine CP (N:=c.ms.length) (J:=λi st=>∃H' n',st=(s.v,.ptr (n+1) 0,vm,.int .i64 (.ofNat c.ms.length) 0,.int .i64 (.ofNat i) 0,H',n')/\Kp H n H' n'/\n+1<n'/\T.get H' (n+1)=some (one (Xv.cells .Ag))/\
  (∀H' n' w,Kp H n H' n'->xC G H' n0 w ((Ol s (c.ms.drop i)).getD Xv)->k (.G5 [w,.bool (Ol s (c.ms.drop i)).isSome]) H' n')) ?_ ?_ ⟨H2,_,rfl,f1.trans f2,Nat.lt_succ_self _,g2,hk⟩
 ·rintro I i st hlt ⟨H3,n3,rfl,f3,hn3,g3,hk⟩ ih
  show Jk lfp G (Runs F G) k I s.v (.ptr (n+1) 0) vm (.int .i64 (.ofNat c.ms.length) 0) (.int .i64 (.ofNat i) 0) H3 n3
  delta Jk
  obtain⟨q,w,hp,hld,hw⟩:=(h.ms.ke ((f3.ke).low hn)).at hlt
  rw[List.drop_eq_getElem_cons hlt]at hk
  unfold Ol at hk
  generalize c.ms[i]=m at hld hk hw
  unfold Ej.cells at hld
  simp only[go_sem,Nc,hlt,decide_true,hp,DW hld,Nat.reduceAdd,show Dc (.one .str) false m.nm.v s.v=_ from ADc ..]
  rw[T.set_set]
  have f4:=f3.new (m:=n3+1) (id:=n3) (one [m.nm.v,.bool m.st,w,m.ret.nm.v,.bool m.ret.arr]) f3.le (by omega)
  cases h1:decide (m.nm.1=s.1/\m.nm.2=s.2)with
  |true=>
   simp only[h1,cond_true]at hk
   simp only[go_sem,Nat.reduceAdd]
   rw[RI (m:=5) ((T.Ap _ _ (by omega)).trans g3) (by omega) rfl rfl,Cm (m:=5) (T.BX ..) (by omega) rfl]
   simp only[go_sem]
   have f5:=f4.set (one [m.nm.v,.bool m.st,w,m.ret.nm.v,.bool m.ret.arr]) (id:=n+1) (by omega)
   refine hk _ _ _ f5 ⟨w,rfl,hw.ke ?_⟩
   refine(Kp.ke (n:=n0) (n':=n3+1) ⟨by omega,λid hid=>?_⟩).low (Nat.le_refl _)
   rw[T.Ap _ _ (by omega),T.Ap _ _ (by omega)]
  |false=>
   simp only[h1,cond_false]at hk
   simp only[go_sem,Eu (show i+1<9223372036854775808 by unfold big at hbig;omega)]
   exact ih _ ⟨_,_,rfl,f4,by omega,(T.Ap _ _ (by omega)).trans g3,hk⟩
 ·rintro I st ⟨H3,n3,rfl,f3,hn3,g3,hk⟩
  show Jk lfp G (Runs F G) k I s.v (.ptr (n+1) 0) vm (.int .i64 (.ofNat c.ms.length) 0) (.int .i64 (.ofNat c.ms.length) 0) H3 n3
  delta Jk
  rw[List.drop_eq_nil_of_le (Nat.le_refl _)]at hk
  simp only[go_sem,Nc,Nat.lt_irrefl,decide_false]
  delta Qr
  simp only[wF,AQ]
  rw[RI (m:=5) g3 (by omega) rfl rfl,Cm (m:=5) (T.BX ..) (by omega) rfl]
  simp only[go_sem]
  exact hk _ _ _ (f3.set _ (by omega)) AMT
def Ej.same(a b:Ej):Bool:=decide (a.nm.1=b.nm.1/\a.nm.2=b.nm.2)&&((a.st==b.st)&&(a.ret.is b.ret&&vT a.ps b.ps))
theorem AXI(a b:Bool):Dc (.one .bool) false (.bool a) (.bool b)=some (.bool (a==b)):=by cases a<;>cases b<;>rfl
theorem AIA{G:AX}{H:Heap}{n:Nat}{v w:V}{a b:Ej}(h:xC G H n v a)(h2:xC G H n w b){k:KV}
 (hk:∀H' n',Kp H n H' n'->k (.bool (a.same b)) H' n'):Runs F G LX [v,w] H n k:=by
 refine go2 (ADV BK G) ?_
 obtain⟨x,rfl,h⟩:=h
 obtain⟨y,rfl,h2⟩:=h2
 delta rH
 unfold Ej.same at hk
 refine DY λH1 f1 g1=>?_
 refine DY λH2 f2 g2=>?_
 have g1:=f2.get g1 (by omega)
 have f3:=f1.trans f2
 unfold Ej.cells at g1 g2
 simp only[go_sem,Nat.reduceAdd,AV (off:=0) g1 rfl,AV (off:=0) g2 rfl,show Dc (.one .str) false a.nm.v b.nm.v=_ from ADc ..]
 cases e1:decide (a.nm.1=b.nm.1/\a.nm.2=b.nm.2)with
 |false=>rw[e1]at hk;simp only[go_sem];exact hk _ _ f3
 |true=>
  rw[e1]at hk
  simp only[go_sem,Nat.reduceAdd,AV (off:=1) g1 rfl,AV (off:=1) g2 rfl,AXI]
  cases e2:a.st==b.st with
  |false=>rw[e2]at hk;simp only[go_sem];exact hk _ _ f3
  |true=>
   rw[e2]at hk
   have l1:Ad 2 (.ptr n 3) G H2=some a.ret.v:=Dh g1 (by omega) (by show 5<=5;omega)
   have l2:Ad 2 (.ptr (n+1) 3) G H2=some b.ret.v:=Dh g2 (by omega) (by show 5<=5;omega)
   have e:Dc (.agg [.str,.bool]) false a.ret.v b.ret.v=_:=ZJ a.ret b.ret
   simp only[go_sem,Nat.reduceAdd,l1,l2,e]
   cases e3:a.ret.is b.ret with
   |false=>rw[e3]at hk;simp only[go_sem];exact hk _ _ f3
   |true=>
    rw[e3]at hk
    simp only[go_sem,Nat.reduceAdd,AV (off:=2) g1 (v:=x) rfl,AV (off:=2) g2 (v:=y) rfl]
    refine ASB (h.el.kp h.lo f3) (h2.el.kp h2.lo f3) h.lt ?_
    exact hk _ _ f3
def BO(fs:Tab)(t:Ty):Bool:=AKa t.nm&&(!upper t.nm.1 t.nm.2||(Ie fs t.nm).isSome)
theorem X3{G:AX}{H:Heap}{n t a b:Nat}{fs:Tab}(h:TabAt G H n t a b fs){v:V}{xs:List Ty}(hx:Vs G H n v xs){k:KV}
 (hk:∀H' n',Kb b H n H' n'->k (.bool (xs.all (BO fs))) H' n'):Runs F G CQ [.ptr t 0,v] H n k:=by
 refine go2 (yO BK G) ?_
 delta bG
 have hbn:=h.bn
 have hbig:=hx.lt
 rw[hx.len,AQ]
 refine CP (N:=xs.length) (J:=λi st=>∃H' n',st=(.ptr t 0,v,.int .i64 (.ofNat xs.length) 0,.int .i64 (.ofNat i) 0,H',n')/\Kb b H n H' n'/\
  (∀H' n',Kb b H n H' n'->k (.bool ((xs.drop i).all (BO fs))) H' n')) ?_ ?_ ⟨H,n,rfl,Kb.refl _ _ _,hk⟩
 ·rintro I i st hlt ⟨H3,n3,rfl,f3,hk⟩ ih
  show Jj lfp G (Runs F G) k I (.ptr t 0) v (.int .i64 (.ofNat xs.length) 0) (.int .i64 (.ofNat i) 0) H3 n3
  delta Jj
  have h3:=h.kb f3
  have hx3:=hx.ke (f3.ke h.seen)
  obtain⟨q,hp,hld⟩:=hx3.el.at (AJb hlt)
  have hok:=hx.ok _ (List.getElem_mem hlt)
  rw[List.drop_eq_getElem_cons hlt,List.all_cons]at hk
  generalize xs[i]=m at hok hld hk
  unfold Ty.cells at hld
  unfold BO at hk
  have h3n:=f3.le
  simp only[go_sem,Nc,hlt,decide_true,hp,DW hld,Nat.reduceAdd]
  rw[T.set_set]
  refine run_set λH4 f4 g4=>?_
  have f5:=f3.trans (f4.kb (b:=b) (by omega))
  refine AXY hok λH6 n6 f6=>?_
  have f7:=f5.trans (f6.kb (b:=b) (by omega))
  have g6:=f6.get g4 (by omega)
  have h6n:=f6.le
  simp only[Ef,go_sem]
  cases h1:AKa m.nm with
  |false=>
   rw[show AIQ m.nm.1 m.nm.2=false from h1]
   simp only[h1,Bool.false_and]at hk
   simp only[Bool.not_false,go_sem]
   exact hk _ _ f7
  |true=>
   rw[show AIQ m.nm.1 m.nm.2=true from h1]
   simp only[h1,Bool.true_and]at hk
   simp only[Bool.not_true,go_sem,Nat.reduceAdd,AV (off:=0) g6 (v:=m.nm.v) rfl]
   refine bW λH8 n8 f8=>?_
   refine ACB hok λH9 n9 f9=>?_
   have f10:=f7.trans ((f8.trans f9).kb (b:=b) (by omega))
   have g9:=(f8.trans f9).get g6 (by omega)
   have h9n:=(f8.trans f9).le
   rw[show isClass m.nm.1 m.nm.2 false=upper m.nm.1 m.nm.2 by simp[isClass]]
   have go:∀H' n',Kb b H n H' n'->(∀H' n',Kb b H n H' n'->k (.bool ((xs.drop (i+1)).all (BO fs))) H' n')->Jh lfp G (Runs F G) k I (.ptr t 0) v (.int .i64 (.ofNat xs.length) 0) (.int .i64 (.ofNat i) 0) H' n':=by
    intro H' n' f hk
    delta Jh
    simp only[go_sem,Eu (show i+1<9223372036854775808 by unfold big at hbig;omega)]
    exact ih _ ⟨_,_,rfl,f,hk⟩
   cases h2:upper m.nm.1 m.nm.2 with
   |false=>
    simp only[h2,Bool.not_false,Bool.true_or,Bool.true_and]at hk
    simp only[go_sem]
    exact go _ _ f10 hk
   |true=>
    simp only[h2,Bool.not_true,Bool.false_or]at hk
    simp only[go_sem,Nat.reduceAdd,AV (off:=0) g9 (v:=m.nm.v) rfl]
    refine wJ (s:=m.nm) (h.kb f10) (Nat.le_refl _) λH11 n11 w f11 hw=>?_
    obtain⟨vf,vm,ws,hw,rfl⟩:=hw
    have f12:=f10.trans f11
    have h12n:=f12.le
    simp only[go_sem,Nat.reduceAdd,Ef]
    rw[T.set_set]
    have f13:Kp H11 n11 (T.set H11 n11 (one [((Ie fs m.nm).getD FV).nm.v,((Ie fs m.nm).getD FV).sup.v,vf,vm])) (n11+1):=(Kp.refl _ _).new _ (Nat.le_refl _) (by omega)
    have f14:=f12.trans (f13.kb (b:=b) (by omega))
    cases h3:(Ie fs m.nm).isSome with
    |false=>
     simp only[h3,Bool.false_and]at hk
     simp only[Bool.not_false,go_sem]
     exact hk _ _ f14
    |true=>
     simp only[h3,Bool.true_and]at hk
     simp only[Bool.not_true,go_sem]
     exact go _ _ f14 hk
 ·rintro I st ⟨H3,n3,rfl,f3,hk⟩
  show Jj lfp G (Runs F G) k I (.ptr t 0) v (.int .i64 (.ofNat xs.length) 0) (.int .i64 (.ofNat xs.length) 0) H3 n3
  delta Jj
  rw[List.drop_eq_nil_of_le (Nat.le_refl _)]at hk
  simp only[go_sem,Nc,Nat.lt_irrefl,decide_false]
  delta Q5
  exact hk _ _ f3
def rG(fs:Tab)(s:St):List St->Option (St×Ty)
 |[]=>none
 |c::cs=>match Yu s ((Ie fs c).getD FV).fs with
  |some t=>some (c,t)
  |none=>rG fs s cs
def UF(fs:Tab)(c s:St):Option (St×Ty):=rG fs s (above fs c).1
theorem AFD{G:AX}{H:Heap}{n t a b:Nat}{fs:Tab}(h:TabAt G H n t a b fs)(hfs:fs.length<=1000){c s:St}{k:KV}
 (hk:∀H' n',Kb b H n H' n'->k (.G5 [((UF fs c s).getD ((0,0),tyZ)).1.v,((UF fs c s).getD ((0,0),tyZ)).2.v,.bool (UF fs c s).isSome]) H' n'):Runs F G Md [.ptr t 0,c.v,s.v] H n k:=by
 refine go3 (yu BK G) ?_
 delta au
 have hbn:=h.bn
 unfold UF at hk
 refine Au rfl λH1 f1 g1=>?_
 have f1:=f1.kb (b:=b) hbn
 refine ACZ (h.kb f1) hfs λH2 n2 v f2 ho hlen=>?_
 generalize(above fs c).1=cs at ho hk hlen
 have f3:=f1.trans f2
 have g2:=f2.get g1 (by omega) (by omega)
 have h2n:=f2.le
 simp only[go_sem,(ho.el (by omega)).len,mZ]
 refine CP (N:=cs.length) (J:=λi st=>∃H' n',st=(.ptr t 0,s.v,.ptr n 0,v,.int .i64 (.ofNat cs.length) 0,.int .i64 (.ofNat i) 0,H',n')/\Kb b H n H' n'/\n<n'/\Own G H' (n+1) n' 1 v (strs cs)/\T.get H' n=some (one [.str 0 0,.bool false])/\
  (∀H' n',Kb b H n H' n'->k (.G5 [((rG fs s (cs.drop i)).getD ((0,0),tyZ)).1.v,((rG fs s (cs.drop i)).getD ((0,0),tyZ)).2.v,.bool (rG fs s (cs.drop i)).isSome]) H' n')) ?_ ?_ ⟨H2,n2,rfl,f3,by omega,ho,g2,hk⟩
 ·rintro I i st hlt ⟨H3,n3,rfl,f3,hn3,ho,g3,hk⟩ ih
  show Jm lfp G (Runs F G) k I (.ptr t 0) s.v (.ptr n 0) v (.int .i64 (.ofNat cs.length) 0) (.int .i64 (.ofNat i) 0) H3 n3
  delta Jm
  obtain⟨q,hp,hld⟩:=(ho.el (by omega)).at (ACl hlt)
  rw[List.drop_eq_getElem_cons hlt]at hk
  unfold rG at hk
  generalize cs[i]=m at hld hk
  simp only[go_sem,Nc,hlt,decide_true,hp,qR hld]
  refine wJ (s:=m) (h.kb f3) (Nat.le_refl _) λH4 n4 w f4 hw=>?_
  obtain⟨vf,vm,ws,hw,rfl⟩:=hw
  have f5:=f3.trans f4
  have h5n:=f4.le
  simp only[go_sem,Nat.reduceAdd]
  rw[T.set_set]
  refine run_set λH6 f6 g6=>?_
  have f6':=f6.kb (b:=b) (by omega)
  have f7:=f5.trans f6'
  refine AKd (s:=s) (n:=n4+1) (v:=.agg [((Ie fs m).getD FV).nm.v,((Ie fs m).getD FV).sup.v,vf,vm]) (c:=(Ie fs m).getD FV) ⟨vf,vm,ws,hw.ke ⟨by omega,λv z LS hl he=>(f6.ke).el v z LS (hl.mono f4.le) he⟩,rfl⟩ λH8 n8 f8=>?_
  have f8':=f8.kb (b:=b) (by omega)
  have f9:=f7.trans f8'
  have h9n:=f8.le
  have f10:=f4.trans (f6'.trans f8')
  have ho:=ho.kb f10 (by omega)
  have g10:=f10.get g3 hn3 (by omega)
  unfold Ty.v Ty.cells
  simp only[go_sem,Nat.reduceAdd]
  rw[T.set_set]
  cases h1:Yu s ((Ie fs m).getD FV).fs with
  |some ty=>
   rw[h1]at hk
   simp only[Option.isSome_some,go_sem,Option.getD_some]
   rw[RI (m:=2) ((T.Ap _ _ (by omega)).trans g10) (by omega) rfl rfl]
   rw[Cm (m:=2) (T.BX ..) (by omega) rfl]
   simp only[go_sem]
   refine hk _ _ (f9.trans' (m:=n8+1) (λid hid=>?_) (by omega) hbn)
   rw[T.Ap _ _ (by omega),T.Ap _ _ (by omega)]
  |none=>
   rw[h1]at hk
   simp only[Option.isSome_none,go_sem,Option.getD_none]
   simp only[go_sem,Eu (show i+1<9223372036854775808 by omega)]
   refine ih _ ⟨_,_,rfl,f9.trans' (m:=n8+1) (λid hid=>?_) (by omega) hbn,by omega,ho.kp ((Kp.refl _ _).new _ (Nat.le_refl _) (by omega)),(T.Ap _ _ (by omega)).trans g10,hk⟩
   rw[T.Ap _ _ (by omega)]
 ·rintro I st ⟨H3,n3,rfl,f3,hn3,ho,g3,hk⟩
  show Jm lfp G (Runs F G) k I (.ptr t 0) s.v (.ptr n 0) v (.int .i64 (.ofNat cs.length) 0) (.int .i64 (.ofNat cs.length) 0) H3 n3
  delta Jm
  rw[List.drop_eq_nil_of_le (Nat.le_refl _)]at hk
  simp only[go_sem,Nc,Nat.lt_irrefl,decide_false]
  delta Qv
  simp only[wF,AQ]
  rw[RI (m:=2) g3 (by omega) rfl rfl,AEq,Cm (m:=2) (T.BX ..) (by omega) rfl]
  simp only[go_sem]
  refine hk _ _ (f3.trans' (m:=n3) (λid hid=>?_) (by omega) hbn)
  rw[T.Ap _ _ (by omega)]
def VL(st:Bool)(s:St)(ms:List Ej):Option Ej:=match Ol s ms with
 |some m=>bif m.st==st then some m else none
 |none=>none
def Nq(fs:Tab)(s:St)(st:Bool):List St->Option (St×Ej)
 |[]=>none
 |c::cs=>match VL st s ((Ie fs c).getD FV).ms with
  |some m=>some (c,m)
  |none=>Nq fs s st cs
def Iu(fs:Tab)(c s:St)(st:Bool):Option (St×Ej):=Nq fs s st (above fs c).1
theorem AFT{G:AX}{H:Heap}{n t a b:Nat}{fs:Tab}(h:TabAt G H n t a b fs)(hfs:fs.length<=1000){c s:St}{st:Bool}{k:KV}
 (hk:∀H' n' w,Kb b H n H' n'->xC G H' n w ((Iu fs c s st).getD ((0,0),Xv)).2->k (.G5 [((Iu fs c s st).getD ((0,0),Xv)).1.v,w,.bool (Iu fs c s st).isSome]) H' n'):
 Runs F G G6 [.ptr t 0,c.v,s.v,.bool st] H n k:=by
 refine go4 (YO BK G) ?_
 delta UG
 have hbn:=h.bn
 unfold Iu at hk
 refine Au rfl λH1 f1 g1=>?_
 have f1:=f1.kb (b:=b) hbn
 refine ACZ (h.kb f1) hfs λH2 n2 v f2 ho hlen=>?_
 generalize(above fs c).1=cs at ho hk hlen
 have f3:=f1.trans f2
 have g2:=f2.get g1 (by omega) (by omega)
 have h2n:=f2.le
 simp only[go_sem,(ho.el (by omega)).len,mZ]
 refine CP (N:=cs.length) (J:=λi q=>∃H' n',q=(.ptr t 0,s.v,.bool st,.ptr n 0,v,.int .i64 (.ofNat cs.length) 0,.int .i64 (.ofNat i) 0,H',n')/\Kb b H n H' n'/\n<n'/\Own G H' (n+1) n' 1 v (strs cs)/\T.get H' n=some (one (Xv.cells .Ag))/\
  (∀H' n' w,Kb b H n H' n'->xC G H' n w ((Nq fs s st (cs.drop i)).getD ((0,0),Xv)).2->k (.G5 [((Nq fs s st (cs.drop i)).getD ((0,0),Xv)).1.v,w,.bool (Nq fs s st (cs.drop i)).isSome]) H' n')) ?_ ?_ ⟨H2,n2,rfl,f3,by omega,ho,g2,hk⟩
 ·rintro I i q hlt ⟨H3,n3,rfl,f3,hn3,ho,g3,hk⟩ ih
  show EL lfp G (Runs F G) k I (.ptr t 0) s.v (.bool st) (.ptr n 0) v (.int .i64 (.ofNat cs.length) 0) (.int .i64 (.ofNat i) 0) H3 n3
  delta EL
  obtain⟨q,hp,hld⟩:=(ho.el (by omega)).at (ACl hlt)
  rw[List.drop_eq_getElem_cons hlt]at hk
  unfold Nq at hk
  generalize cs[i]=m at hld hk
  simp only[go_sem,Nc,hlt,decide_true,hp,qR hld]
  refine wJ (s:=m) (n0:=n) (h.kb (f3.low (Nat.le_refl _))) (by omega) λH4 n4 w f4 hw=>?_
  obtain⟨vf,vm,ws,hw,rfl⟩:=hw
  have f5:=f3.trans f4
  have h5n:=f4.le
  simp only[go_sem,Nat.reduceAdd]
  rw[T.set_set]
  refine run_set λH6 f6 g6=>?_
  have f6':=f6.kb (b:=b) (by omega)
  have f7:=f5.trans f6'
  refine ACd (s:=s) (n:=n4+1) (n0:=n) (v:=.agg [((Ie fs m).getD FV).nm.v,((Ie fs m).getD FV).sup.v,vf,vm]) (c:=(Ie fs m).getD FV) ⟨vf,vm,ws,hw.ke ((f6.ke).low (by omega)),rfl⟩ (by omega) λH8 n8 w f8 hw=>?_
  have f8':=f8.kb (b:=b) (by omega)
  have f9:=f7.trans f8'
  have h9n:=f8.le
  have f10:=f4.trans (f6'.trans f8')
  have ho:=ho.kb f10 (by omega)
  have g10:=f10.get g3 hn3 (by omega)
  obtain⟨x,rfl,hx⟩:=hw
  unfold VL at hk
  have g11:T.get (T.set H8 n8 (one (((Ol s ((Ie fs m).getD FV).ms).getD Xv).cells x))) n8=_:=T.BX ..
  have g12:T.get (T.set H8 n8 (one (((Ol s ((Ie fs m).getD FV).ms).getD Xv).cells x))) n=_:=(T.Ap _ _ (by omega)).trans g10
  unfold Ej.cells at g11 g12⊢
  simp only[go_sem,Nat.reduceAdd]
  rw[T.set_set]
  have no:(∀H' n' w,Kb b H n H' n'->xC G H' n w ((Nq fs s st (cs.drop (i+1))).getD ((0,0),Xv)).2->k (.G5 [((Nq fs s st (cs.drop (i+1))).getD ((0,0),Xv)).1.v,w,.bool (Nq fs s st (cs.drop (i+1))).isSome]) H' n')->
   I (.ptr t 0,s.v,.bool st,.ptr n 0,v,.int .i64 (.ofNat cs.length) 0,.int .i64 (.ofNat (i+1)) 0,T.set H8 n8 (one (((Ol s ((Ie fs m).getD FV).ms).getD Xv).cells x)),n8+1):=λhk=>by
   refine ih _ ⟨_,_,rfl,f9.trans' (m:=n8+1) (λid hid=>T.Ap _ _ (by omega)) (by omega) hbn,by omega,ho.kp ((Kp.refl _ _).new _ (Nat.le_refl _) (by omega)),(T.Ap _ _ (by omega)).trans g10,hk⟩
  unfold Ej.cells at no
  cases h1:Ol s ((Ie fs m).getD FV).ms with
  |none=>
   rw[h1]at hk g11 g12 no
   simp only[Option.isSome_none,go_sem,Option.getD_none,Eu (show i+1<9223372036854775808 by omega)]
   exact no hk
  |some o=>
   rw[h1]at hk g11 g12 no hx
   simp only[Option.getD_some]at g11 g12 no hx
   simp only[Option.isSome_some,go_sem,Option.getD_some,Nat.reduceAdd,AV (off:=1) g11 rfl,AXI]
   cases h2:o.st==st with
   |false=>
    simp only[h2,cond_false]at hk
    simp only[go_sem,Eu (show i+1<9223372036854775808 by omega)]
    exact no hk
   |true=>
    simp only[h2,cond_true]at hk
    simp only[go_sem]
    rw[RI (m:=5) g12 (by omega) rfl rfl]
    rw[Cm (m:=5) (T.BX ..) (by omega) rfl]
    simp only[go_sem]
    have f11:∀id,id<n->T.get (T.set (T.set H8 n8 (one [o.nm.v,.bool o.st,x,o.ret.nm.v,.bool o.ret.arr])) n (one [o.nm.v,.bool o.st,x,o.ret.nm.v,.bool o.ret.arr])) id=T.get H8 id:=λid hid=>by
     rw[T.Ap _ _ (by omega),T.Ap _ _ (by omega)]
    exact hk _ _ _ (f9.trans' (m:=n8+1) f11 (by omega) hbn) ⟨x,rfl,hx.ke ((Kp.ke (n:=n) (n':=n) ⟨Nat.le_refl _,f11⟩))⟩
 ·rintro I q ⟨H3,n3,rfl,f3,hn3,ho,g3,hk⟩
  show EL lfp G (Runs F G) k I (.ptr t 0) s.v (.bool st) (.ptr n 0) v (.int .i64 (.ofNat cs.length) 0) (.int .i64 (.ofNat cs.length) 0) H3 n3
  delta EL
  rw[List.drop_eq_nil_of_le (Nat.le_refl _)]at hk
  simp only[go_sem,Nc,Nat.lt_irrefl,decide_false]
  delta L6
  simp only[wF,AQ]
  rw[RI (m:=5) g3 (by omega) rfl rfl,AEq,Cm (m:=5) (T.BX ..) (by omega) rfl]
  simp only[go_sem]
  refine hk _ _ _ (f3.trans' (m:=n3) (λid hid=>?_) (by omega) hbn) AMT
  rw[T.Ap _ _ (by omega)]
def twin(a:Option St):List St->Bool
 |[]=>false
 |x::xs=>(match a with|some y=>decide (y.1=x.1/\y.2=x.2)|none=>false)||twin (some x) xs
abbrev ALW(fs:List DJ):List St:=fs.map λf=>f.nm
abbrev AG4(fs:List Ej):List St:=fs.map λf=>f.nm
def twice(c:Fc):Bool:=twin none (ALW c.fs)||twin none (AG4 c.ms)
theorem ATt(a b:St):Dc (.one .str) false a.v b.v=some (.bool (decide (a.1=b.1/\a.2=b.2))):=ADc ..
theorem AY3(i:Nat):B2.ev .gtr (.int .i64 (.ofNat i) 0) (.int .i64 (.ofNat 0) 0)=some (.bool (decide (0<i))):=AYc ..
theorem AUZ{G:AX}(hG:jS G){H:Heap}{n:Nat}{v:V}{c:Fc}(h:Qd G H n v c){k:KV}(hk:∀H' n',Kp H n H' n'->k (.bool (twice c)) H' n'):Runs F G ACk [v] H n k:=by
 refine go1 (AHA BK G) ?_
 obtain⟨vf,vm,ws,h,rfl⟩:=h
 delta ACD
 unfold twice at hk
 refine DY λH1 f1 g1=>?_
 have hf:=h.fs.kp f1
 have hm:=h.ms.kp f1
 have l2:AY (.ptr n 2) G H1=some vf:=AV g1 rfl
 have l3:AY (.ptr n 3) G H1=some vm:=AV g1 rfl
 have hbf:=hf.lt
 have hbm:=hm.lt
 simp only[go_sem,Nat.reduceAdd,l2,h.fs.len]
 have AVt:(∀H' n',Kp H n H' n'->k (.bool (twin none (AG4 c.ms))) H' n')->Ut lfp G (Runs F G) k (.ptr n 0) H1 (n+1):=by
  intro hk
  delta Ut
  simp only[go_sem,Nat.reduceAdd,l3,h.ms.len']
  refine CP (N:=c.ms.length) (J:=λi q=>q=(.ptr n 0,.int .i64 (.ofNat c.ms.length) 0,.int .i64 (.ofNat i) 0,H1,n+1)/\
   (k (.bool (twin (match i with|0=>none|i+1=>(AG4 c.ms)[i]?) ((AG4 c.ms).drop i))) H1 (n+1))) ?_ ?_ ⟨rfl,hk _ _ f1⟩
  ·rintro I i q hlt ⟨rfl,hk⟩ ih
   show QN lfp G (Runs F G) k I (.ptr n 0) (.int .i64 (.ofNat c.ms.length) 0) (.int .i64 (.ofNat i) 0) H1 (n+1)
   delta QN
   have hlt':i<(AG4 c.ms).length:=by simpa using hlt
   rw[List.drop_eq_getElem_cons hlt',List.getElem_map]at hk
   unfold twin at hk
   obtain⟨q,w,hp,hld,-⟩:=hm.at hlt
   obtain⟨q',hp',hld'⟩:=Vu hG hld rfl (o:=0) (x:=c.ms[i].nm.v) rfl
   simp only[go_sem,Nc,hlt,decide_true,AY3]
   have next:(k (.bool (twin (some c.ms[i].nm) ((AG4 c.ms).drop (i+1)))) H1 (n+1))->I (.ptr n 0,.int .i64 (.ofNat c.ms.length) 0,.int .i64 (.ofNat (i+1)) 0,H1,n+1):=λhk=>by
    refine ih _ ⟨rfl,?_⟩
    show k (.bool (twin ((AG4 c.ms)[i]?) _)) H1 (n+1)
    rw[List.getElem?_eq_getElem hlt',List.getElem_map];exact hk
   cases i with
   |zero=>
    simp only[Nat.lt_irrefl,decide_false,go_sem,Eu (show 0+1<9223372036854775808 by omega)]
    exact next hk
   |succ i=>
    have hlt2:i<c.ms.length:=by omega
    obtain⟨r,w2,hr,hldr,-⟩:=hm.at hlt2
    obtain⟨r',hr',hldr'⟩:=Vu hG hldr rfl (o:=0) (x:=c.ms[i].nm.v) rfl
    simp only[Nat.zero_lt_succ,decide_true,go_sem,Nat.reduceAdd,l3,AMr (show i+1<9223372036854775808 by unfold big at hbm;omega),hr,hr',hldr',hp,hp',hld',ATt]
    have hk:k (.bool (decide (c.ms[i].nm.1=c.ms[i+1].nm.1/\c.ms[i].nm.2=c.ms[i+1].nm.2)||twin (some c.ms[i+1].nm) ((AG4 c.ms).drop (i+1+1)))) H1 (n+1):=by
     have e:(AG4 c.ms)[i]? =some c.ms[i].nm:=by rw[List.getElem?_map,List.getElem?_eq_getElem hlt2];rfl
     simp only[e]at hk;exact hk
    cases e:decide (c.ms[i].nm.1=c.ms[i+1].nm.1/\c.ms[i].nm.2=c.ms[i+1].nm.2)with
    |true=>rw[e]at hk;simp only[go_sem];exact hk
    |false=>
     rw[e]at hk
     simp only[go_sem,Eu (show i+1+1<9223372036854775808 by unfold big at hbm;omega)]
     exact next hk
  ·rintro I q ⟨rfl,hk⟩
   show QN lfp G (Runs F G) k I (.ptr n 0) (.int .i64 (.ofNat c.ms.length) 0) (.int .i64 (.ofNat c.ms.length) 0) H1 (n+1)
   delta QN
   rw[List.drop_eq_nil_of_le (by simp)]at hk
   simp only[go_sem,Nc,Nat.lt_irrefl,decide_false]
   delta Yv
   exact hk
 generalize twin none (AG4 c.ms)=B at hk AVt
 refine CP (N:=c.fs.length) (J:=λi q=>q=(.ptr n 0,.int .i64 (.ofNat c.fs.length) 0,.int .i64 (.ofNat i) 0,H1,n+1)/\
  (∀H' n',Kp H n H' n'->k (.bool (twin (match i with|0=>none|i+1=>(ALW c.fs)[i]?) ((ALW c.fs).drop i)||B)) H' n')) ?_ ?_ ⟨rfl,hk⟩
 ·rintro I i q hlt ⟨rfl,hk⟩ ih
  show O4 lfp G (Runs F G) k I (.ptr n 0) (.int .i64 (.ofNat c.fs.length) 0) (.int .i64 (.ofNat i) 0) H1 (n+1)
  delta O4
  have hlt':i<(ALW c.fs).length:=by simpa using hlt
  rw[List.drop_eq_getElem_cons hlt',List.getElem_map]at hk
  unfold twin at hk
  obtain⟨q,hp,hld⟩:=hf.at hlt
  obtain⟨q',hp',hld'⟩:=Vu hG hld rfl (o:=0) (x:=c.fs[i].nm.v) rfl
  simp only[go_sem,Nc,hlt,decide_true,AY3]
  have next:(∀H' n',Kp H n H' n'->k (.bool (twin (some c.fs[i].nm) ((ALW c.fs).drop (i+1))||B)) H' n')->I (.ptr n 0,.int .i64 (.ofNat c.fs.length) 0,.int .i64 (.ofNat (i+1)) 0,H1,n+1):=λhk=>by
   refine ih _ ⟨rfl,?_⟩
   show ∀H' n',Kp H n H' n'->k (.bool (twin ((ALW c.fs)[i]?) _||_)) H' n'
   rw[List.getElem?_eq_getElem hlt',List.getElem_map];exact hk
  cases i with
  |zero=>
   simp only[Nat.lt_irrefl,decide_false,go_sem,Eu (show 0+1<9223372036854775808 by omega)]
   simp only[Bool.false_or]at hk
   exact next hk
  |succ i=>
   have hlt2:i<c.fs.length:=by omega
   obtain⟨r,hr,hldr⟩:=hf.at hlt2
   obtain⟨r',hr',hldr'⟩:=Vu hG hldr rfl (o:=0) (x:=c.fs[i].nm.v) rfl
   simp only[Nat.zero_lt_succ,decide_true,go_sem,Nat.reduceAdd,l2,AMr (show i+1<9223372036854775808 by unfold big at hbf;omega),hr,hr',hldr',hp,hp',hld',ATt]
   have hk:∀H' n',Kp H n H' n'->k (.bool ((decide (c.fs[i].nm.1=c.fs[i+1].nm.1/\c.fs[i].nm.2=c.fs[i+1].nm.2)||twin (some c.fs[i+1].nm) ((ALW c.fs).drop (i+1+1)))||B)) H' n':=by
    have e:(ALW c.fs)[i]? =some c.fs[i].nm:=by rw[List.getElem?_map,List.getElem?_eq_getElem hlt2];rfl
    simp only[e]at hk;exact hk
   cases e:decide (c.fs[i].nm.1=c.fs[i+1].nm.1/\c.fs[i].nm.2=c.fs[i+1].nm.2)with
   |true=>rw[e]at hk;simp only[go_sem];exact hk _ _ f1
   |false=>
    rw[e]at hk
    simp only[go_sem,Eu (show i+1+1<9223372036854775808 by unfold big at hbf;omega)]
    exact next hk
 ·rintro I q ⟨rfl,hk⟩
  show O4 lfp G (Runs F G) k I (.ptr n 0) (.int .i64 (.ofNat c.fs.length) 0) (.int .i64 (.ofNat c.fs.length) 0) H1 (n+1)
  delta O4
  rw[List.drop_eq_nil_of_le (by simp)]at hk
  simp only[go_sem,Nc,Nat.lt_irrefl,decide_false]
  exact AVt hk
structure AXi(G:AX)(H:Heap)(n m:Nat)(v:V)(cs:List Fc):Prop where
 is:∃LS:Dy,El G H v 4 LS/\LS.length=cs.length/\∀(i:Nat) (L:LV) (c:Fc),LS[i]? =some L->cs[i]? =some c->Qd G H m (.agg L) c
 lo:Lo v n
 lt:cs.length<=1000
 mn:m<=n
def AE0(fs:Tab):List Fc->Tab
 |[]=>fs
 |c::cs=>AE0 (Yy c.nm c fs) cs
def WS(cs:List Fc):Tab:=AE0 [] cs
theorem xg.put{G:AX}{H H':Heap}{n a:Nat}{fs:Tab}{v:V}{c:Fc}{ps:List (St×V)}(hm:ACe H a ps)(hkey:keyed ps fs)(hv:∀s v c,Ie ps s=some v->Ie fs s=some c->Qd G H' n v c)(h1:ACe H' a (Yy c.nm v ps))(hc:Qd G H' n v c):
 xg G H' n a (Yy c.nm c fs):=
 ⟨_,h1,AIS _ _ _ hkey,λs w d h2 h3=>by
  rw[wI]at h2 h3
  by_cases e:c.nm=s
  ·rw[if_pos e]at h2 h3;cases h2;cases h3;exact hc
  ·rw[if_neg e]at h2 h3;exact hv _ _ _ h2 h3⟩
theorem Qd.up{G:AX}{H:Heap}{n n':Nat}{v:V}{c:Fc}(h:Qd G H n v c)(hn:n<=n'):Qd G H n' v c:=h.ke ⟨hn,λ_ _ _ _ h=>h⟩
theorem AZV{G:AX}{H:Heap}{n m:Nat}{v:V}{cs:List Fc}(h:AXi G H n m v cs){k:KV}
 (hk:∀H' n' t a b,Kp H n H' n'->T.get H' t=some (one [.map a,.map b])->xg G H' m a (WS cs)->MI H' b->n<=a->a<b->b<t->t<n'->k (.ptr t 0) H' n'):Runs F G AFk [v] H n k:=by
 refine go1 (ALO BK G) ?_
 delta AGa
 obtain⟨⟨LS,hel,hlen,hfv⟩,hlo,hlt,hmn⟩:=h
 simp only[ATd,go_sem,Nat.reduceAdd,show CZ [V.AK4,.AK4] [(0,1,.c (.map n)),(1,1,.c (.map (n+1)))]=some (.agg [.map n,.map (n+1)])from rfl,hel.len,hlen]
 have f1:Kp H n (T.set (T.set (T.set H n (.map [] 0)) (n+1) (.map [] 0)) (n+1+1) (one [.map n,.map (n+1)])) (n+1+1+1):=((((Kp.refl H n).new (m:=n+1) _ (Nat.le_refl _) (by omega)).new (m:=n+1+1) _ (by omega) (by omega)).new _ (by omega) (by omega))
 refine CP (N:=cs.length) (J:=λi q=>∃H' n' fs,q=(.ptr (n+1+1) 0,v,.int .i64 (.ofNat cs.length) 0,.int .i64 (.ofNat i) 0,H',n')/\Kp H n H' n'/\n+1+1<n'/\T.get H' (n+1+1)=some (one [.map n,.map (n+1)])/\xg G H' m n fs/\MI H' (n+1)/\
  AE0 fs (cs.drop i)=WS cs) ?_ ?_ ⟨_,_,[],rfl,f1,by omega,T.BX ..,⟨[],⟨[],0,by rw[T.Ap _ _ (by omega),T.Ap _ _ (by omega),T.BX],rfl⟩,rfl,λs v c h=>by cases h⟩,⟨[],[],0,by rw[T.Ap _ _ (by omega),T.BX],rfl⟩,rfl⟩
 ·rintro I i q hi ⟨H3,n3,fs,rfl,f3,hn3,g3,hfa,hs,htab⟩ ih
  show UZ lfp G (Runs F G) k I (.ptr (n+1+1) 0) v (.int .i64 (.ofNat cs.length) 0) (.int .i64 (.ofNat i) 0) H3 n3
  delta UZ
  obtain⟨q,hp,hld⟩:=(hel.kp hlo f3).at (i:=i) (c:=LS[i]'(by omega)) (List.getElem?_eq_getElem _)
  have hf:=hfv i _ _ (List.getElem?_eq_getElem (by omega)) (List.getElem?_eq_getElem hi)
  rw[List.drop_eq_getElem_cons hi]at htab
  unfold AE0 at htab
  generalize cs[i]=fc at hf htab
  obtain⟨vf,vm,ws,hf,e⟩:=hf
  have e':LS[i]'(by omega)=[fc.nm.v,fc.sup.v,vf,vm]:=by injection e
  rw[e']at hld
  simp only[go_sem,Nc,hi,decide_true,hp,DW hld,Nat.reduceAdd]
  rw[T.set_set]
  rw[show AY (.ptr (n+1+1) 0) G (T.set H3 n3 (one [fc.nm.v,fc.sup.v,vf,vm]))=some (.map n)from AV ((T.Ap _ _ (by omega)).trans g3) rfl]
  obtain⟨ps,hps,hkey,hval⟩:=hfa.is
  simp only[go_sem]
  refine AOg (AF1 hps (T.Ap _ _ (by omega))) fc.nm _ λH4 hm4 hs4=>?_
  simp only[go_sem,Eu (show i+1<9223372036854775808 by omega)]
  have f4:Kp H n H4 (n3+1):=⟨by omega,λid hid=>by rw[hs4 id (by omega),T.Ap _ _ (by omega)];exact f3.same id hid⟩
  have f5:Kp H3 n H4 n:=⟨Nat.le_refl _,λid hid=>by rw[hs4 id (by omega),T.Ap _ _ (by omega)]⟩
  refine ih _ ⟨H4,_,Yy fc.nm fc fs,rfl,f4,by omega,?_,xg.put hps hkey (λs v c x y=>(hval s v c x y).ke (f5.ke.low hmn)) hm4 ⟨vf,vm,ws,hf.ke ((f4.ke).low hmn),rfl⟩,?_,htab⟩
  ·rw[hs4 _ (by omega),T.Ap _ _ (by omega)];exact g3
  ·exact hs.same (by rw[hs4 _ (by omega),T.Ap _ _ (by omega)])
 ·rintro I q ⟨H3,n3,fs,rfl,f3,hn3,g3,hfa,hs,htab⟩
  show UZ lfp G (Runs F G) k I (.ptr (n+1+1) 0) v (.int .i64 (.ofNat cs.length) 0) (.int .i64 (.ofNat cs.length) 0) H3 n3
  delta UZ
  simp only[go_sem,Nc,Nat.lt_irrefl,decide_false]
  delta iy
  rw[List.drop_eq_nil_of_le (Nat.le_refl _)]at htab
  have htab:fs=WS cs:=htab
  subst htab
  exact hk _ _ _ n (n+1) f3 g3 hfa hs (by omega) (by omega) (by omega) (by omega)
def AIK(fs:Tab)(sup:St)(m:Ej):Bool:=match Iu fs sup m.nm false with
 |some o=> !m.st&& !m.same o.2
 |none=>false
def UC(fs:Tab)(sup:St):List Ej->Int
 |[]=>0
 |m::ms=>bif !((m.ret::m.ps).all (BO fs))then 23 else bif AIK fs sup m then 27 else UC fs sup ms
def zi(fs:Tab)(sup:St)(r:Int):List DJ->Int
 |[]=>r
 |f::l=>bif !([f.ty].all (BO fs))then 23 else bif (UF fs sup f.nm).isSome then 6 else zi fs sup r l
structure AOa(G:AX)(H0:Heap)(n0:Nat)(H:Heap)(n t a b e:Nat)(fs:Tab)(c:Fc)(vf vm:V)(ws:List V):Prop where
 f:Kb b H0 n0 H n
 en:e<n
 e0:n0<=e
 g:T.get H e=some (one [c.nm.v,c.sup.v,vf,vm])
theorem AId{G:AX}{H0 H:Heap}{n0 n t a b e:Nat}{fs:Tab}(h:TabAt G H0 n0 t a b fs)(hfs:fs.length<=1000){c:Fc}{vf vm:V}{ws:List V}(hc:AOa G H0 n0 H n t a b e fs c vf vm ws)
 (hf:ACy G H0 n0 [c.nm.v,c.sup.v,vf,vm] c vf vm ws) (hps:∀m∈c.ms,m.ps.length<=100000) {k:KV} (hk:∀H' n',Kb b H0 n0 H' n'->k (.int .i64 (UC fs c.sup c.ms) 0) H' n'):
 MP lfp G (Runs F G) k (.ptr t 0) (.ptr e 0) H n:=by
 delta MP
 have hbig:=hf.ms.lt
 have hbn:=h.bn
 simp only[go_sem,Nat.reduceAdd,AV (off:=3) hc.g (v:=vm) rfl,hf.ms.len']
 refine CP (N:=c.ms.length) (J:=λi q=>∃H' n',q=(.ptr t 0,.ptr e 0,vm,.int .i64 (.ofNat c.ms.length) 0,.int .i64 (.ofNat i) 0,H',n')/\AOa G H0 n0 H' n' t a b e fs c vf vm ws/\
  (∀H' n',Kb b H0 n0 H' n'->k (.int .i64 (UC fs c.sup (c.ms.drop i)) 0) H' n')) ?_ ?_ ⟨H,n,rfl,hc,hk⟩
 ·rintro I i q hlt ⟨H3,n3,rfl,hc,hk⟩ ih
  show I7 lfp G (Runs F G) k I (.ptr t 0) (.ptr e 0) vm (.int .i64 (.ofNat c.ms.length) 0) (.int .i64 (.ofNat i) 0) H3 n3
  delta I7
  have f3:=hc.f
  have hen:=hc.en
  have he0:=hc.e0
  have hm3:RY G H3 n0 vm c.ms ws:=hf.ms.ke ((f3.ke h.seen).low (Nat.le_refl _))
  obtain⟨q,w,hp,hld,hw⟩:=hm3.at hlt
  have hps:=hps _ (List.getElem_mem hlt)
  have hok:=hf.ms.ok _ (List.getElem_mem hlt)
  rw[List.drop_eq_getElem_cons hlt]at hk
  unfold UC at hk
  generalize c.ms[i]=m at hld hk hw hps hok
  unfold Ej.cells at hld
  simp only[go_sem,Nc,hlt,decide_true,hp,DW hld,Nat.reduceAdd]
  rw[T.set_set]
  have g4:=T.BX H3 n3 (one [m.nm.v,.bool m.st,w,m.ret.nm.v,.bool m.ret.arr])
  have f4:Kp H3 n3 (T.set H3 n3 (one [m.nm.v,.bool m.st,w,m.ret.nm.v,.bool m.ret.arr])) (n3+1):=(Kp.refl _ _).new _ (Nat.le_refl _) (by omega)
  generalize T.set H3 n3 (one [m.nm.v,.bool m.st,w,m.ret.nm.v,.bool m.ret.arr])=H4 at f4 g4
  rw[show Ad 2 (.ptr n3 3) G H4=some (.agg m.ret.cells)from Dh g4 (by omega) (by show 5<=5;omega)]
  simp only[go_sem,Nat.reduceAdd]
  rw[AQi (z:=2) (L:=m.ret.cells) rfl]
  have hcap:=T.BX H4 (n3+1) (.arr 2 1 (T.set (T.set .e 0 [.str 0 0,.bool false]) 0 m.ret.cells))
  have f5:Kp H4 (n3+1) (T.set H4 (n3+1) (.arr 2 1 (T.set (T.set .e 0 [.str 0 0,.bool false]) 0 m.ret.cells))) (n3+1+1):=(Kp.refl _ _).new _ (Nat.le_refl _) (by omega)
  generalize T.set H4 (n3+1) (.arr 2 1 (T.set (T.set .e 0 [.str 0 0,.bool false]) 0 m.ret.cells))=H5 at f5 hcap
  have g5:=f5.get g4 (by omega)
  have hel:=AIv (G:=G) (by omega) (show m.ret.cells.length=2 from rfl) hcap
  have fb5:=f3.trans ((f4.trans f5).kb (b:=b) (by omega))
  have hw5:=hw.ke (((f4.trans f5).ke).low (m:=n0) (by omega))
  simp only[go_sem,AV (off:=2) g5 (v:=w) rfl]
  refine ATr (by omega) hcap (by omega) hel.2 hw5.el.2 (by rw[ACK];omega) λv6 H6 n6 hel6 hs6 hn6 hlo6=>?_
  have f6:Kp H5 (n3+1+1) H6 n6:=⟨hn6,hs6⟩
  have fb6:=fb5.trans (f6.kb (b:=b) (by omega))
  have g6:=f6.get g5 (by omega)
  refine X3 (xs:=m.ret::m.ps) (h.kb fb6) ⟨hel6,hlo6,by simp[big];omega,?_⟩ λH7 n7 f7=>?_
  ·intro x hx
   rcases List.mem_cons.1 hx with rfl|hx
   ·exact hok.2
   ·exact hw.ok _ hx
  have fb7:=fb6.trans f7
  have h7n:=f7.le
  have g7:=f7.get g6 (by omega) (by omega)
  simp only[go_sem,Nat.reduceAdd,Ef]
  cases h1:(m.ret::m.ps).all (BO fs)with
  |false=>
   rw[h1]at hk
   simp only[Bool.not_false,cond_true]at hk
   simp only[Bool.not_false,go_sem]
   exact hk _ _ fb7
  |true=>
   rw[h1]at hk
   simp only[Bool.not_true,cond_false]at hk
   have fe:Kb b H3 n3 H7 n7:=((f4.trans (f5.trans f6)).kb (b:=b) (by omega)).trans f7
   have ge:T.get H7 e=some (one [c.nm.v,c.sup.v,vf,vm]):=fe.get hc.g hen (by omega)
   simp only[Bool.not_true,go_sem,Nat.reduceAdd,AV (off:=1) ge (v:=c.sup.v) rfl,AV (off:=0) g7 (v:=m.nm.v) rfl]
   refine AFT (c:=c.sup) (s:=m.nm) (st:=false) (h.kb fb7) hfs λH8 n8 x f8 hx=>?_
   have fb8:=fb7.trans f8
   have h8n:=f8.le
   have g8:=f8.get g7 (by omega) (by omega)
   have hw8:xC G H8 n7 (.agg (m.cells w)) m:=⟨w,rfl,(hw.ke (((fe.trans f8).ke (f3.seen h.seen)).low (m:=n0) (by omega))).ke ⟨by omega,λ_ _ _ _ h=>h⟩⟩
   obtain⟨y,rfl,hy⟩:=hx
   unfold AIK at hk
   have next:∀H' n',Kb b H8 n8 H' n'->(∀H' n',Kb b H0 n0 H' n'->k (.int .i64 (UC fs c.sup (c.ms.drop (i+1))) 0) H' n')->I (.ptr t 0,.ptr e 0,vm,.int .i64 (.ofNat c.ms.length) 0,.int .i64 (.ofNat (i+1)) 0,H',n'):=λH' n' f hk=>
    ih _ ⟨_,_,rfl,⟨fb8.trans f,by have:=f.le;omega,he0,f.get (f8.get ge (by omega) (by omega)) (by omega) (by omega)⟩,hk⟩
   simp only[go_sem,Nat.reduceAdd]
   have g9:=T.BX H8 n8 (one (((Iu fs c.sup m.nm false).getD ((0,0),Xv)).2.cells y))
   have f9:Kp H8 n8 (T.set H8 n8 (one (((Iu fs c.sup m.nm false).getD ((0,0),Xv)).2.cells y))) (n8+1):=(Kp.refl _ _).new _ (Nat.le_refl _) (by omega)
   unfold Ej.cells at g9 f9⊢
   simp only[go_sem,Nat.reduceAdd]
   rw[T.set_set]
   cases h2:Iu fs c.sup m.nm false with
   |none=>
    rw[h2]at hk f9
    simp only[cond_false]at hk
    simp only[Option.isSome_none,go_sem,Eu (show i+1<9223372036854775808 by unfold big at hbig;omega)]
    exact next _ _ (f9.kb (by omega)) hk
   |some o=>
    rw[h2]at hk f9 g9 hy
    simp only[Option.getD_some]at f9 g9 hy
    simp only[Option.isSome_some,Option.getD_some]
    generalize T.set H8 n8 (one [o.2.nm.v,.bool o.2.st,y,o.2.ret.nm.v,.bool o.2.ret.arr])=H9 at f9 g9
    have gm:=f9.get g8 (by omega)
    simp only[go_sem,Nat.reduceAdd,AV (off:=1) gm (v:=.bool m.st) rfl,Ef]
    cases h3:m.st with
    |true=>
     rw[h3]at hk
     simp only[Bool.not_true,Bool.false_and,cond_false]at hk
     simp only[Bool.not_true,go_sem,Eu (show i+1<9223372036854775808 by unfold big at hbig;omega)]
     exact next _ _ (f9.kb (by omega)) hk
    |false=>
     rw[h3]at hk
     simp only[Bool.not_false,Bool.true_and]at hk
     simp only[Bool.not_false,go_sem,BI (m:=5) gm (by omega) rfl,BI (m:=5) g9 (by omega) rfl]
     have hwS:xC G H9 (n8+1) (.agg [m.nm.v,.bool m.st,w,m.ret.nm.v,.bool m.ret.arr]) m:=hw8.ke ⟨by omega,λv z LS hl he=>(f9.ke).el v z LS (hl.mono (by omega)) he⟩
     have hyS:xC G H9 (n8+1) (.agg [o.2.nm.v,.bool o.2.st,y,o.2.ret.nm.v,.bool o.2.ret.arr]) o.2:=⟨y,rfl,hy.ke ⟨by omega,λv z LS hl he=>(f9.ke).el v z LS (hl.mono (by omega)) he⟩⟩
     refine AIA hwS hyS λH10 n10 f10=>?_
     have f11:=(f9.trans f10).kb (b:=b) (by omega)
     simp only[go_sem,Ef]
     cases h4:m.same o.2 with
     |false=>
      rw[h4]at hk
      simp only[Bool.not_false,cond_true]at hk
      simp only[Bool.not_false,go_sem]
      exact hk _ _ (fb8.trans f11)
     |true=>
      rw[h4]at hk
      simp only[Bool.not_true,cond_false]at hk
      simp only[Bool.not_true,go_sem,Eu (show i+1<9223372036854775808 by unfold big at hbig;omega)]
      exact next _ _ f11 hk
 ·rintro I q ⟨H3,n3,rfl,hc,hk⟩
  show I7 lfp G (Runs F G) k I (.ptr t 0) (.ptr e 0) vm (.int .i64 (.ofNat c.ms.length) 0) (.int .i64 (.ofNat c.ms.length) 0) H3 n3
  delta I7
  rw[List.drop_eq_nil_of_le (Nat.le_refl _)]at hk
  simp only[go_sem,Nc,Nat.lt_irrefl,decide_false]
  delta Ph
  exact hk _ _ hc.f
theorem AKv{G:AX}{H0 H:Heap}{n0 n t a b e:Nat}{fs:Tab}(h:TabAt G H0 n0 t a b fs)(hfs:fs.length<=1000){c:Fc}{vf vm:V}{ws:List V}(hc:AOa G H0 n0 H n t a b e fs c vf vm ws)
 (hf:ACy G H0 n0 [c.nm.v,c.sup.v,vf,vm] c vf vm ws) (hps:∀m∈c.ms,m.ps.length<=100000) {k:KV} (hk:∀H' n',Kb b H0 n0 H' n'->k (.int .i64 (zi fs c.sup (UC fs c.sup c.ms) c.fs) 0) H' n'):
 lfp (V×V×V×V×V×Heap×Nat) (O1 lfp G (Runs F G) k) (.ptr t 0,.ptr e 0,vf,.int .i64 (.ofNat c.fs.length) 0,.int .i64 (.ofNat 0) 0,H,n):=by
 have hbig:=hf.fs.lt
 have hbn:=h.bn
 refine CP (N:=c.fs.length) (J:=λi q=>∃H' n',q=(.ptr t 0,.ptr e 0,vf,.int .i64 (.ofNat c.fs.length) 0,.int .i64 (.ofNat i) 0,H',n')/\AOa G H0 n0 H' n' t a b e fs c vf vm ws/\
  (∀H' n',Kb b H0 n0 H' n'->k (.int .i64 (zi fs c.sup (UC fs c.sup c.ms) (c.fs.drop i)) 0) H' n')) ?_ ?_ ⟨H,n,rfl,hc,hk⟩
 ·rintro I i q hlt ⟨H3,n3,rfl,hc,hk⟩ ih
  show JE lfp G (Runs F G) k I (.ptr t 0) (.ptr e 0) vf (.int .i64 (.ofNat c.fs.length) 0) (.int .i64 (.ofNat i) 0) H3 n3
  delta JE
  have f3:=hc.f
  have hen:=hc.en
  have he0:=hc.e0
  have hm3:Wu G H3 n0 vf c.fs:=hf.fs.ke ((f3.ke h.seen).low (Nat.le_refl _))
  obtain⟨q,hp,hld⟩:=hm3.at hlt
  have hok:=hf.fs.ok _ (List.getElem_mem hlt)
  rw[List.drop_eq_getElem_cons hlt]at hk
  unfold zi at hk
  generalize c.fs[i]=m at hld hk hok
  unfold DJ.cells at hld
  simp only[go_sem,Nc,hlt,decide_true,hp,DW hld,Nat.reduceAdd]
  rw[T.set_set]
  have g4:=T.BX H3 n3 (one [m.nm.v,m.ty.nm.v,.bool m.ty.arr])
  have f4:Kp H3 n3 (T.set H3 n3 (one [m.nm.v,m.ty.nm.v,.bool m.ty.arr])) (n3+1):=(Kp.refl _ _).new _ (Nat.le_refl _) (by omega)
  generalize T.set H3 n3 (one [m.nm.v,m.ty.nm.v,.bool m.ty.arr])=H4 at f4 g4
  rw[show Ad 2 (.ptr n3 1) G H4=some (.agg m.ty.cells)from Dh g4 (by omega) (by show 3<=3;omega)]
  simp only[go_sem,Nat.reduceAdd]
  rw[AQi (z:=2) (L:=m.ty.cells) rfl]
  have hcap:=T.BX H4 (n3+1) (.arr 2 1 (T.set (T.set .e 0 [.str 0 0,.bool false]) 0 m.ty.cells))
  have f5:Kp H4 (n3+1) (T.set H4 (n3+1) (.arr 2 1 (T.set (T.set .e 0 [.str 0 0,.bool false]) 0 m.ty.cells))) (n3+1+1):=(Kp.refl _ _).new _ (Nat.le_refl _) (by omega)
  generalize T.set H4 (n3+1) (.arr 2 1 (T.set (T.set .e 0 [.str 0 0,.bool false]) 0 m.ty.cells))=H5 at f5 hcap
  have g5:=f5.get g4 (by omega)
  have hel:=AIv (G:=G) (by omega) (show m.ty.cells.length=2 from rfl) hcap
  have fb5:=f3.trans ((f4.trans f5).kb (b:=b) (by omega))
  refine X3 (xs:=[m.ty]) (h.kb fb5) ⟨hel,λid hid=>by cases hid;omega,by show 1<big;decide,?_⟩ λH7 n7 f7=>?_
  ·intro x hx;simp at hx;subst hx;exact hok.2
  have fb7:=fb5.trans f7
  have h7n:=f7.le
  have g7:=f7.get g5 (by omega) (by omega)
  simp only[go_sem,Nat.reduceAdd,Ef]
  cases h1:[m.ty].all (BO fs)with
  |false=>
   rw[h1]at hk
   simp only[Bool.not_false,cond_true]at hk
   simp only[Bool.not_false,go_sem]
   exact hk _ _ fb7
  |true=>
   rw[h1]at hk
   simp only[Bool.not_true,cond_false]at hk
   have fe:Kb b H3 n3 H7 n7:=((f4.trans f5).kb (b:=b) (by omega)).trans f7
   have ge:T.get H7 e=some (one [c.nm.v,c.sup.v,vf,vm]):=fe.get hc.g hen (by omega)
   simp only[Bool.not_true,go_sem,Nat.reduceAdd,AV (off:=1) ge (v:=c.sup.v) rfl,AV (off:=0) g7 (v:=m.nm.v) rfl]
   refine AFD (c:=c.sup) (s:=m.nm) (h.kb fb7) hfs λH8 n8 f8=>?_
   have fb8:=fb7.trans f8
   have h8n:=f8.le
   unfold Ty.v Ty.cells
   simp only[go_sem,Nat.reduceAdd]
   rw[T.set_set]
   have f9:Kp H8 n8 (T.set H8 n8 (one [((UF fs c.sup m.nm).getD ((0,0),tyZ)).2.nm.v,.bool ((UF fs c.sup m.nm).getD ((0,0),tyZ)).2.arr])) (n8+1):=(Kp.refl _ _).new _ (Nat.le_refl _) (by omega)
   have fb9:=fb8.trans (f9.kb (b:=b) (by omega))
   cases h2:(UF fs c.sup m.nm).isSome with
   |true=>
    rw[h2]at hk
    simp only[cond_true]at hk
    simp only[go_sem]
    exact hk _ _ fb9
   |false=>
    rw[h2]at hk
    simp only[cond_false]at hk
    simp only[go_sem,Eu (show i+1<9223372036854775808 by unfold big at hbig;omega)]
    exact ih _ ⟨_,_,rfl,⟨fb9,by omega,he0,f9.get (f8.get ge (by omega) (by omega)) (by omega)⟩,hk⟩
 ·rintro I q ⟨H3,n3,rfl,hc,hk⟩
  show JE lfp G (Runs F G) k I (.ptr t 0) (.ptr e 0) vf (.int .i64 (.ofNat c.fs.length) 0) (.int .i64 (.ofNat c.fs.length) 0) H3 n3
  delta JE
  rw[List.drop_eq_nil_of_le (Nat.le_refl _)]at hk
  simp only[go_sem,Nc,Nat.lt_irrefl,decide_false]
  exact AId h hfs hc hf hps hk
theorem AH0:∀(m:Nat) (fs:Tab) (out:List St) (s:St),out.length<=(SY m fs out s).1.length
 |0,_,_,_=>Nat.le_refl _
 |m+1,fs,out,s=>by
  unfold SY
  cases decide (s.1=0/\s.2=0)with
  |true=>exact Nat.le_refl _
  |false=>
   simp only[cond_false]
   cases Ie fs s with
   |none=>exact Nat.le_refl _
   |some c=>
    show _<=(bif AAx s out then(out,false)else SY m fs (out++[s]) c.sup).1.length
    cases AAx s out with
    |true=>exact Nat.le_refl _
    |false=>have:=AH0 m fs (out++[s]) c.sup;simp only[List.length_append,List.length_singleton]at this;simp only[cond_false];omega
theorem AOx{fs:Tab}{s:St}{c:Fc}(h:Ie fs s=some c)(h0:¬(s.1=0/\s.2=0)):1<=(above fs s).1.length:=by
 unfold above SY
 rw[decide_eq_false h0,h]
 show 1<=(SY fs.length fs [s] c.sup).1.length
 exact AH0 fs.length fs [s] c.sup
def lastOf(xs:List St):St:=(xs[xs.length-1]?).getD (0,0)
def oG(fs:Tab)(s:St):Int:=match Ie fs s with
 |none=>23
 |some c=>bif decide (s.1=0/\s.2=0)then 23 else
  bif !(above fs s).2&& !AAx ((Ie fs (lastOf (above fs s).1)).getD FV).sup (above fs s).1 then 23 else
  bif !(above fs s).2 then 26 else bif twice c then 6 else zi fs c.sup (UC fs c.sup c.ms) c.fs
theorem ATQ{G:AX}(hG:jS G){H:Heap}{n t a b:Nat}{fs:Tab}(h:TabAt G H n t a b fs)(hfs:fs.length<=1000)(hps:∀s c,Ie fs s=some c->∀m∈c.ms,m.ps.length<=100000){s:St}{k:KV}
 (hk:∀H' n',Kb b H n H' n'->k (.int .i64 (oG fs s) 0) H' n'):Runs F G aT [.ptr t 0,s.v] H n k:=by
 refine go2 (yU BK G) ?_
 delta bD
 have hbn:=h.bn
 unfold oG at hk
 refine wJ (s:=s) h (Nat.le_refl _) λH1 n1 w f1 hw=>?_
 obtain⟨vf,vm,ws,hw,rfl⟩:=hw
 have h1n:=f1.le
 simp only[go_sem,Nat.reduceAdd,Ef]
 rw[T.set_set]
 have g2:=T.BX H1 n1 (one [((Ie fs s).getD FV).nm.v,((Ie fs s).getD FV).sup.v,vf,vm])
 have f2:Kp H1 n1 (T.set H1 n1 (one [((Ie fs s).getD FV).nm.v,((Ie fs s).getD FV).sup.v,vf,vm])) (n1+1):=(Kp.refl _ _).new _ (Nat.le_refl _) (by omega)
 have fb2:=f1.trans (f2.kb (b:=b) (by omega))
 cases hl:Ie fs s with
 |none=>
  rw[hl]at hk fb2
  simp only[Option.isSome_none,Bool.not_false,go_sem]
  exact hk _ _ fb2
 |some c=>
  rw[hl]at hk fb2 g2 f2 hw
  simp only[Option.getD_some]at hk fb2 g2 f2 hw
  simp only[Option.isSome_some,Bool.not_true,go_sem,Option.getD_some,show Dc (.one .str) false s.v (.str 0 0)=some (.bool (decide (s.1=0/\s.2=0)))from ADc ..]
  cases h0:decide (s.1=0/\s.2=0)with
  |true=>
   rw[h0]at hk
   simp only[go_sem]
   exact hk _ _ fb2
  |false=>
   rw[h0]at hk
   simp only[cond_false]at hk
   simp only[go_sem]
   generalize T.set H1 n1 (one [c.nm.v,c.sup.v,vf,vm])=H2 at fb2 g2 f2
   refine ACZ (s:=s) (h.kb fb2) hfs λH3 n3 v f3 ho hlen=>?_
   have hpos:=AOx hl (of_decide_eq_false h0)
   generalize(above fs s).1=up at ho hlen hpos hk
   generalize(above fs s).2=whole at hk
   have fb3:=fb2.trans f3
   have h3n:=f3.le
   have g3:=f3.get g2 (by omega) (by omega)
   have hel:=ho.el (by omega)
   obtain⟨m,hm⟩:∃m,up.length=m+1:=⟨up.length-1,by omega⟩
   have hlt:m<up.length:=by omega
   obtain⟨q,hp,hld⟩:=hel.at (ACl hlt)
   have hlast:lastOf up=up[m]:=by unfold lastOf;rw[show up.length-1=m by omega,List.getElem?_eq_getElem hlt];rfl
   simp only[go_sem,hel.len,mZ,hm,AMr (show m+1<9223372036854775808 by omega),hp,qR hld]
   rw[<-hlast]
   refine wJ (s:=lastOf up) (h.kb fb3) (Nat.le_refl _) λH4 n4 w f4 hw4=>?_
   obtain⟨vf4,vm4,ws4,hw4,rfl⟩:=hw4
   have fb4:=fb3.trans f4
   have h4n:=f4.le
   have g4:=f4.get g3 (by omega) (by omega)
   have ho4:=ho.kb f4 (by omega)
   simp only[go_sem,Nat.reduceAdd,Ef]
   rw[T.set_set]
   generalize(Ie fs (lastOf up)).getD FV=lc at hw4 hk
   have g5:=T.BX H4 n4 (one [lc.nm.v,lc.sup.v,vf4,vm4])
   have f5:Kp H4 n4 (T.set H4 n4 (one [lc.nm.v,lc.sup.v,vf4,vm4])) (n4+1):=(Kp.refl _ _).new _ (Nat.le_refl _) (by omega)
   generalize T.set H4 n4 (one [lc.nm.v,lc.sup.v,vf4,vm4])=H5 at g5 f5
   have fb5:=fb4.trans (f5.kb (b:=b) (by omega))
   have ge:=f5.get g4 (by omega)
   cases whole with
   |false=>
    simp only[Bool.not_false,Bool.true_and]at hk
    simp only[Bool.not_false,go_sem,Nat.reduceAdd,AV (off:=1) g5 (v:=lc.sup.v) rfl]
    refine ABB (s:=lc.sup) (xs:=up) ((ho4.kp f5).el (by omega)) (by omega) ?_
    simp only[go_sem,Ef]
    cases h6:AAx lc.sup up with
    |false=>
     rw[h6]at hk
     simp only[Bool.not_false,cond_true]at hk
     simp only[Bool.not_false,go_sem]
     exact hk _ _ fb5
    |true=>
     rw[h6]at hk
     simp only[Bool.not_true,cond_false,cond_true]at hk
     simp only[Bool.not_true,go_sem]
     exact hk _ _ fb5
   |true=>
    simp only[Bool.not_true,Bool.false_and,cond_false]at hk
    have fe:Kb b H1 n1 H5 (n4+1):=(f2.kb (by omega)).trans (f3.trans (f4.trans (f5.kb (by omega))))
    simp only[Bool.not_true,go_sem]
    rw[BI (m:=4) ge (by omega) rfl,AQ]
    have hwf:Qd G H5 (n4+1) (.agg [c.nm.v,c.sup.v,vf,vm]) c:=⟨vf,vm,ws,(hw.ke ((fe.ke (f1.seen h.seen)).low h1n)).ke ⟨by omega,λ_ _ _ _ h=>h⟩,rfl⟩
    refine AUZ hG hwf λH6 n6 f6=>?_
    have fb6:=fb5.trans (f6.kb (b:=b) (by omega))
    have h6n:=f6.le
    cases h7:twice c with
    |true=>
     rw[h7]at hk
     simp only[cond_true]at hk
     simp only[go_sem]
     exact hk _ _ fb6
    |false=>
     rw[h7]at hk
     simp only[cond_false]at hk
     have ge6:=f6.get ge (by omega)
     simp only[go_sem,Nat.reduceAdd,AV (off:=2) ge6 (v:=vf) rfl,hw.fs.len]
     exact AKv (h.kb (f1.low (Nat.le_refl _))) hfs ⟨(fe.trans (f6.kb (by omega))).AYd h1n,by omega,h1n,ge6⟩ hw (hps s c hl) λH' n' f=>hk _ _ ((f1.low (Nat.le_refl _)).trans f)
end Go.RL
namespace Go.RL
open Go.DK
set_option maxRecDepth 100000
section
variable{G:AX}{H0 H:Heap}{n0 n i t a b fm e:Nat}{vn:V}{fs:Tab}{p:Pool}{v0 v1 v2 v3 v4:V}{ws:List V}{k:KV}
end
end Go.RL
namespace Go.RL
open Go.DK
set_option maxRecDepth 100000
end Go.RL
namespace Go.RL
open Go.DK
set_option maxRecDepth 100000
theorem AYt{a b:Nat}(h:a+b<9223372036854775808):B2.ev .add (.int .i64 (.ofNat a) 0) (.int .i64 (.ofNat b) 0)=some (.int .i64 (.ofNat (a+b)) 0):=by
 show some (V.int .i64 (qh .i64 (AHJ (.ofNat a) (.ofNat b))) 0)=_
 rw[YU,ACO,Zk (by simp;omega) (by simp;omega)];rfl
theorem AL3{z:Nat}{Z:LV}{H:Heap}{n:Nat}{P:KV}:BZ (Ah z 0 Z [] E0) H n P=P (.sl n 0 0 0 z) (T.set H n (.arr z 0 .e)) (n+1):=by
 show Dj (band true true) (FN n λn=>P (.sl n 0 0 0 z) (T.set H n (.arr z 0 .e)) (Nat.succ n))=_
 rw[CV];rfl
end Go.RL
