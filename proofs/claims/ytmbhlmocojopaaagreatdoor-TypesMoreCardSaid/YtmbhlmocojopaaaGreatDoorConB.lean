/- Part of a proof; nothing is assumed. -/
import Derived.Test.YtmbhlmocojopaaaGreatDoorConA
import Derived.Test.YtmbhlmocojopaaaGreatDoorWalk
set_option linter.unusedVariables false
set_option linter.unusedSimpArgs false
namespace Go.RL
open Go.DW
set_option maxRecDepth 100000
structure Ke(G:AX)(H:Heap)(n:Nat)(H':Heap)(n':Nat):Prop where
 le:n<=n'
 el:∀v z LS,Lo v n->El G H v z LS->El G H' v z LS
section
variable{G:AX}{H H' H'':Heap}{n n' n'':Nat}{v:V}
theorem _root_.Go.DW.Kp.ke(f:Kp H n H' n'):Ke G H n H' n':=⟨f.le,λ_ _ _ hl h=>h.kp hl f⟩
theorem Ke.low{m:Nat}(f:Ke G H n H' n')(hm:m<=n):Ke G H m H' m:=⟨Nat.le_refl _,λv z LS hl h=>f.el v z LS (hl.mono hm) h⟩
theorem _root_.Go.DW.El.ke{z:Nat}{LS:DZ}(h:El G H v z LS)(hl:Lo v n)(f:Ke G H n H' n'):El G H' v z LS:=f.el v z LS hl h
theorem YT.ke{xs:List Ty}(h:YT G H n v xs)(f:Ke G H n H' n'):YT G H' n' v xs:=⟨h.el.ke h.lo f,h.lo.mono f.le,h.lt,h.ok⟩
theorem Xd.ke{xs:List Dh}(h:Xd G H n v xs)(f:Ke G H n H' n'):Xd G H' n' v xs:=⟨h.el.ke h.lo f,h.lo.mono f.le,h.lt,h.ok⟩
theorem TA.ke{xs:List Es}{ws:List V}(h:TA G H n v xs ws)(f:Ke G H n H' n'):TA G H' n' v xs ws:=
 ⟨h.el.ke h.lo f,h.lo.mono f.le,h.lt,h.len,λi m w a b=>(h.at' i m w a b).ke f,h.ok⟩
theorem AAA.ke{L:LV}{c:Fc}{v w:V}{ws:List V}(h:AAA G H n L c v w ws)(f:Ke G H n H' n'):AAA G H' n' L c v w ws:=⟨h.is,h.fs.ke f,h.ms.ke f,h.ok⟩
def Qx(G:AX)(H:Heap)(n:Nat)(v:V)(c:Fc):Prop:=∃vf vm ws,AAA G H n [c.nm.v,c.sup.v,vf,vm] c vf vm ws/\v=.agg [c.nm.v,c.sup.v,vf,vm]
theorem Qx.ke{c:Fc}(h:Qx G H n v c)(f:Ke G H n H' n'):Qx G H' n' v c:=by
 obtain⟨vf,vm,ws,h,hv⟩:=h;exact⟨vf,vm,ws,h.ke f,hv⟩
def AUD(G:AX)(H:Heap)(n:Nat)(v:V)(f:Fl):Prop:=∃L vf vm v0 v1 v2 v3 v4 vb mws ws bws,AVt G H n L f vf vm v0 v1 v2 v3 v4 vb mws ws bws/\v=.agg L
def NK(H:Heap)(b:Nat):Prop:=∃ps,yc H b ps
structure Kb(b:Nat)(H:Heap)(n:Nat)(H':Heap)(n':Nat):Prop where
 le:n<=n'
 same:∀id,id<n->id≠b->T.get H' id=T.get H id
 seen:NK H b->NK H' b
theorem Kb.refl(b:Nat)(H:Heap)(n:Nat):Kb b H n H n:=⟨Nat.le_refl _,λ_ _ _=>rfl,λh=>h⟩
theorem Kb.trans{b:Nat}(x:Kb b H n H' n')(y:Kb b H' n' H'' n''):Kb b H n H'' n'':=
 ⟨Nat.le_trans x.le y.le,λid h hb=>(y.same id (Nat.lt_of_lt_of_le h x.le) hb).trans (x.same id h hb),λh=>y.seen (x.seen h)⟩
theorem Kb.trans'{b m:Nat}(x:Kb b H n H' n')(y:∀id,id<n->T.get H'' id=T.get H' id)(hm:n'<=m)(hb:b<n):Kb b H n H'' m:=
 ⟨Nat.le_trans x.le hm,λid h hne=>(y id h).trans (x.same id h hne),λh=>by
  obtain⟨ps,es,ck,hg,he⟩:=x.seen h;exact⟨ps,es,ck,(y b hb).trans hg,he⟩⟩
theorem Kb.low{b m:Nat}(f:Kb b H n H' n')(hm:m<=n):Kb b H m H' m:=⟨Nat.le_refl _,λid h hb=>f.same id (Nat.lt_of_lt_of_le h hm) hb,f.seen⟩
theorem Kb.AWv{b m:Nat}(f:Kb b H n H' n')(hm:m<=n):Kb b H m H' n':=⟨Nat.le_trans hm f.le,λid h hb=>f.same id (Nat.lt_of_lt_of_le h hm) hb,f.seen⟩
theorem NK.same{b:Nat}(h:NK H b)(e:T.get H' b=T.get H b):NK H' b:=by
 obtain⟨ps,es,ck,hg,he⟩:=h;exact⟨ps,es,ck,e.trans hg,he⟩
theorem _root_.Go.DW.Kp.kb{b:Nat}(f:Kp H n H' n')(hb:b<n):Kb b H n H' n':=⟨f.le,λid h _=>f.same id h,λh=>h.same (f.same b hb)⟩
theorem Kb.get{b id:Nat}{B:S9}(f:Kb b H n H' n')(h:T.get H id=some B)(hi:id<n)(hb:id≠b):T.get H' id=some B:=(f.same id hi hb).trans h
theorem NK.ld{b o z:Nat}(h:NK H b):yx H b o z=none:=by
 obtain⟨ps,es,ck,hg,-⟩:=h;unfold yx;rw[hg];rfl
theorem NK.elems{b z:Nat}(h:NK H b){m o:Nat}{LS:DZ}(he:DN H b z m o=some LS):m=0:=by
 cases m with
 |zero=>rfl
 |succ m=>
  have h':CZ (yx H b (Nat.mul o z) z) (λL=>CZ (DN H b z m (Nat.succ o)) λLS=>some (L::LS))=some LS:=he
  rw[h.ld]at h';cases h'
theorem Kb.ke{b:Nat}(f:Kb b H n H' n')(hs:NK H b):Ke G H n H' n':=⟨f.le,λv z LS hl h=>by
 by_cases hv:v.Ec=some b
 ·obtain⟨h1,h2⟩:=h
  refine⟨h1,?_⟩
  cases v<;>try (cases hv;done)
  ·rename_i id off m c e
   have hid:id=b:=Option.some.inj hv
   subst hid
   have h2':(Bool.rec (motive:=λ_=>Option DZ) none (DN H id z m off) (Nat.beq e z):Option DZ)=some LS:=h2
   show(Bool.rec (motive:=λ_=>Option DZ) none (DN H' id z m off) (Nat.beq e z):Option DZ)=some LS
   cases hb:Nat.beq e z with
   |false=>rw[hb]at h2';cases h2'
   |true=>
    rw[hb]at h2'
    have h3:DN H id z m off=some LS:=h2'
    have:=hs.elems h3
    subst this;exact h3
  ·rename_i id off m e
   have hid:id=b:=Option.some.inj hv
   subst hid
   have h2':(Bool.rec (motive:=λ_=>Option DZ) none (DN H id z m off) (Nat.beq e z):Option DZ)=some LS:=h2
   show(Bool.rec (motive:=λ_=>Option DZ) none (DN H' id z m off) (Nat.beq e z):Option DZ)=some LS
   cases hb:Nat.beq e z with
   |false=>rw[hb]at h2';cases h2'
   |true=>
    rw[hb]at h2'
    have h3:DN H id z m off=some LS:=h2'
    have:=hs.elems h3
    subst this;exact h3
 ·exact h.same λid hid=>f.same id (hl id hid) (by intro e;subst e;exact hv hid)⟩
end
abbrev Tab:=List (St×Fc)
def keyed{α β:Type}(ps:List (St×α))(fs:List (St×β)):Prop:=ps.map (·.1)=fs.map (·.1)
theorem AGx{α β:Type}:∀{ps:List (St×α)} {fs:List (St×β)} (_:keyed ps fs) (s:St),(Hf ps s).isSome=(Hf fs s).isSome
 |[],[],_,s=>rfl
 |p::ps,f::fs,h,s=>by
  simp only[keyed,List.map_cons,List.cons.injEq]at h
  have ih:=AGx (ps:=ps) (fs:=fs) h.2 s
  by_cases hp:p.1=s
  ·have hf:f.1=s:=h.1▸hp
   simp[Hf,hp,hf]
  ·have hf:¬f.1=s:=h.1▸hp
   simp only[Hf,List.find?_cons,hp,hf,decide_false]at ih⊢
   exact ih
 |[],_::_,h,_=>by simp[keyed]at h
 |_::_,[],h,_=>by simp[keyed]at h
theorem AGw{α β:Type}(s:St)(a:α)(b:β):∀{ps:List (St×α)} {fs:List (St×β)} (_:keyed ps fs),keyed (Vg s a ps) (Vg s b fs)
 |[],[],_=>rfl
 |p::ps,f::fs,h=>by
  simp only[keyed,List.map_cons,List.cons.injEq]at h
  unfold Vg
  by_cases hp:p.1=s
  ·have hf:f.1=s:=h.1▸hp
   rw[if_pos hp,if_pos hf];simp[keyed,h.2]
  ·have hf:¬f.1=s:=h.1▸hp
   rw[if_neg hp,if_neg hf]
   have:=AGw s a b (ps:=ps) (fs:=fs) h.2
   simp only[keyed,List.map_cons,List.cons.injEq]at this⊢
   exact⟨h.1,this⟩
 |[],_::_,h=>by simp[keyed]at h
 |_::_,[],h=>by simp[keyed]at h
structure wX(G:AX)(H:Heap)(n:Nat)(a:Nat)(fs:Tab):Prop where
 is:∃ps,yc H a ps/\keyed ps fs/\∀s v c,Hf ps s=some v->Hf fs s=some c->Qx G H n v c
structure TabAt(G:AX)(H:Heap)(n t a b:Nat)(fs:Tab):Prop where
 tn:t<n
 an:a<n
 bn:b<n
 tb:t≠b
 ab:a≠b
 at':T.get H t=some (one [.map a,.map b])
 faces:wX G H n a fs
 seen:NK H b
theorem AAZ{H H':Heap}{a:Nat}{ps:List (St×V)}(h:yc H a ps)(e:T.get H' a=T.get H a):yc H' a ps:=by
 obtain⟨es,ck,hg,he⟩:=h;exact⟨es,ck,e.trans hg,he⟩
theorem TabAt.kb{G:AX}{H H':Heap}{n n' t a b:Nat}{fs:Tab}(h:TabAt G H n t a b fs)(f:Kb b H n H' n'):TabAt G H' n' t a b fs:=by
 obtain⟨ps,h1,h2,h3⟩:=h.faces.is
 exact⟨Nat.lt_of_lt_of_le h.tn f.le,Nat.lt_of_lt_of_le h.an f.le,Nat.lt_of_lt_of_le h.bn f.le,h.tb,h.ab,f.get h.at' h.tn h.tb,
  ⟨ps,AAZ h1 (f.same a h.an h.ab),h2,λs v c x y=>(h3 s v c x y).ke (f.ke h.seen)⟩,f.seen h.seen⟩
theorem run_set{f:Nat}{args:List V}{G:AX}{H:Heap}{n m:Nat}{b:S9}{k:KV}(h:∀H',Kp H n H' (n+1)->T.get H' n=some b->Runs F G f args H' m k):Runs F G f args (T.set H n b) m k:=
 h _ ((Kp.refl H n).new _ (Nat.le_refl _) (by omega)) (T.BP ..)
theorem AXk(i o:Nat):EN (.one .ptr) false (.ptr i o) .AH5=some (.bool false):=rfl
abbrev Fh:Fc:=⟨(0,0),(0,0),[],[]⟩
theorem ACW{G:AX}{H:Heap}{z:Nat}:El G H .Ad z []:=⟨rfl,rfl⟩
theorem AIX{n:Nat}:Lo .Ad n:=λ_ h=>by cases h
theorem ATI{G:AX}{H:Heap}{n:Nat}:Qx G H n (.agg [.str 0 0,.str 0 0,.Ad,.Ad]) Fh:=
 ⟨.Ad,.Ad,[],⟨rfl,⟨ACW,AIX,by decide,λ_ h=>by cases h⟩,⟨ACW,AIX,by decide,rfl,λi m w h=>by simp at h,λ_ h=>by cases h⟩,λ_=>rfl,λ_=>rfl⟩,rfl⟩
theorem uq(L:LV):Dv L []=some (.agg L):=rfl
theorem tC{G:AX}{H:Heap}{n n0 t a b:Nat}{fs:Tab}(h:TabAt G H n0 t a b fs)(hn:n0<=n){s:St}{k:KV}
 (hk:∀H' n' v,Kb b H n H' n'->Qx G H' n0 v ((Hf fs s).getD Fh)->k (.Io [v,.bool (Hf fs s).isSome]) H' n'):Runs F G Ho [.ptr t 0,s.v] H n k:=by
 refine BH (s:=N7 (Si lfp G)) Vu (by obtain⟨h,o⟩:=zM BI G;rw[Vu]at h;cases h;exact o) ?_
 show Si lfp G (Runs F G) (.ptr t 0) s.v H n k
 delta Si
 have hbn:b<n:=Nat.lt_of_lt_of_le h.bn hn
 refine Az rfl λH1 f1 g1=>?_
 have h1:=h.kb ((f1.kb hbn).low hn)
 simp only[go_sem,AXk,Nat.reduceAdd,AV (off:=1) h1.at' (v:=.map b) rfl]
 obtain⟨ps,hps⟩:=h1.seen
 refine AM7 hps s _ λH2 hm2 hs2=>?_
 have f2:Kb b H1 (n+1) H2 (n+1):=⟨Nat.le_refl _,λid _ hb=>hs2 id hb,λ_=>⟨_,hm2⟩⟩
 have f3:=(f1.kb hbn).trans f2
 have h2:TabAt G H2 n0 t a b fs:=h.kb (f3.low hn)
 have g2:=f2.get g1 (by omega) (by omega)
 obtain⟨qs,hq,hkey,hv⟩:=h2.faces.is
 simp only[go_sem,Nat.reduceAdd,AV (off:=0) h2.at' (v:=.map a) rfl]
 rw[show s.v=.str s.1 s.2 from rfl,ARA hq]
 have hsome:=AGx hkey s
 have fin:∃v,ATe (.agg [.str 0 0,.str 0 0,.Ad,.Ad]) (Hf qs s)=.Io [v,.bool (Hf fs s).isSome]/\Qx G H2 n0 v ((Hf fs s).getD Fh):=by
  cases hl:Hf qs s with
  |none=>
   rw[hl]at hsome
   cases hx:Hf fs s with
   |none=>exact⟨_,rfl,ATI⟩
   |some x=>rw[hx]at hsome;cases hsome
  |some v=>
   rw[hl]at hsome
   cases hx:Hf fs s with
   |none=>rw[hx]at hsome;cases hsome
   |some x=>exact⟨v,rfl,hv _ _ _ hl hx⟩
 obtain⟨v,e,hf⟩:=fin
 obtain⟨vf,vm,ws,hf,rfl⟩:=hf
 rw[e]
 simp only[go_sem,Nat.reduceAdd]
 rw[TF (m:=4) ((T.Ak _ _ (by omega)).trans ((T.Ak _ _ (by omega)).trans g2)) (by omega) rfl rfl,D9 (m:=4) (T.BP ..) (by omega) rfl]
 simp only[go_sem]
 have e:Kp H2 n (T.set (T.set (T.set H2 (n+1) (one [.str 0 0,.str 0 0,.Ad,.Ad])) (n+1) (one [((Hf fs s).getD Fh).nm.v,((Hf fs s).getD Fh).sup.v,vf,vm])) n (one [((Hf fs s).getD Fh).nm.v,((Hf fs s).getD Fh).sup.v,vf,vm])) (n+1+1):=
  ((((Kp.refl H2 n).new (m:=n+1+1) _ (by omega) (by omega)).set _ (by omega)).set _ (Nat.le_refl _))
 have f7:Kb b H n H2 n:=⟨Nat.le_refl _,f3.same,f3.seen⟩
 exact hk _ _ _ (f7.trans (e.kb hbn)) ⟨vf,vm,ws,hf.ke ((e.ke).low hn),rfl⟩
def Tv:Nat->Tab->List St->St->List St×Bool
 |0,_,out,_=>(out,false)
 |m+1,fs,out,s=>bif decide (s.1=0/\s.2=0)then(out,true)else
  match Hf fs s with
  |none=>(out,false)
  |some c=>bif AAE s out then(out,false)else Tv m fs (out++[s]) c.sup
def above(fs:Tab)(s:St):List St×Bool:=Tv (fs.length+1) fs [] s
theorem AP1{s:St}{xs:List St}:AAE s xs=true↔s∈xs:=by
 unfold AAE
 rw[List.any_eq_true]
 constructor
 ·rintro⟨x,hx,h⟩
  have:=of_decide_eq_true h
  have e:s=x:=Prod.ext this.1 this.2
  exact e▸hx
 ·intro h;exact⟨s,h,by simp⟩
theorem ASb{α:Type}{ps:List (St×α)}{s:St}{v:α}(h:Hf ps s=some v):s∈ps.map (·.1):=by
 unfold Hf at h
 cases hf:ps.find? λp=>decide (p.1=s)with
 |none=>rw[hf]at h;cases h
 |some p=>
  have h1:=List.mem_of_find?_eq_some hf
  have h2:=List.find?_some hf
  exact List.mem_map.2 ⟨p,h1,of_decide_eq_true h2⟩
theorem AJN:∀{xs ys:List St} (_:xs.Nodup) (_:∀x∈xs,x∈ys),xs.length<=ys.length
 |[],_,_,_=>Nat.zero_le _
 |x::xs,ys,hn,h=>by
  rw[List.nodup_cons]at hn
  have hx:=h x (List.mem_cons_self ..)
  have:=AJN (xs:=xs) (ys:=ys.erase x) hn.2 λz hz=>by
   have hz':=h z (List.mem_cons_of_mem _ hz)
   have hne:z≠x:=by intro e;subst e;exact hn.1 hz
   exact(List.mem_erase_of_ne hne).2 hz'
  rw[List.length_erase_of_mem hx]at this
  have hpos:0<ys.length:=List.length_pos_of_mem hx
  simp only[List.length_cons];omega
structure Own(G:AX)(H:Heap)(m n:Nat)(z:Nat)(v:V)(LS:DZ):Prop where
 gr:Gr G H m z v LS
 lo:Lo v n
theorem Own.el{G:AX}{H:Heap}{m n z:Nat}{v:V}{LS:DZ}(h:Own G H m n z v LS)(hz:0<z):El G H v z LS:=h.gr.el hz
theorem Own.kb{G:AX}{H H':Heap}{m n n' b z:Nat}{v:V}{LS:DZ}(h:Own G H m n z v LS)(f:Kb b H n H' n')(hb:b<m):Own G H' m n' z v LS:=
 ⟨h.gr.mono λid hid=>f.same id (h.lo id hid) (by have:=(h.gr.lo hid).1;omega),h.lo.mono f.le⟩
theorem Own.kp{G:AX}{H H':Heap}{m n n' z:Nat}{v:V}{LS:DZ}(h:Own G H m n z v LS)(f:Kp H n H' n'):Own G H' m n' z v LS:=
 ⟨h.gr.mono λid hid=>f.same id (h.lo id hid),h.lo.mono f.le⟩
theorem ART{Z w:V}{H:Heap}{n:Nat}{P:KV}(hw:jZ w=true)(hv:Ba w=[w]):
 Bh (Af 1 1 [Z] [(0,.c w)] E0) H n P=P (.sl n 0 1 1 1) (T.set H n (.arr 1 1 (T.set (T.set .e 0 [Z]) 0 [w]))) (n+1):=by
 show ER (band (band (jZ w) (band true (Nat.beq (len (Ba w)) 1))) true) (FT n λn=>P (.sl n 0 1 1 1) (T.set H n (.arr 1 1 (T.set (T.set .e 0 [Z]) 0 (Ba w)))) (Nat.succ n))=_
 rw[hw,hv,CS];rfl
theorem AVx{G:AX}{Z w:V}{H:Heap}{n:Nat}{P:KV}(hw:jZ w=true)(hv:Ba w=[w])(h:∀H',Kp H n H' (n+1)->elems (.sl n 0 1 1 1) G H' 1=some [[w]]->P (.sl n 0 1 1 1) H' (n+1)):
 Bh (Af 1 1 [Z] [(0,.c w)] E0) H n P:=by
 rw[ART hw hv]
 exact h _ ((Kp.refl H n).new _ (Nat.le_refl _) (by omega)) (AIQ (z:=1) (by omega) rfl (T.BP ..)).2
theorem ASx(s:St):Aw s.v s.v=true:=by
 show band (Nat.beq s.1 s.1) (Nat.beq s.2 s.2)=true
 simp
theorem ABi{G:AX}{H:Heap}{n t a b:Nat}{fs:Tab}(h:TabAt G H n t a b fs)(hfs:fs.length<=1000){s:St}{k:KV}
 (hk:∀H' n' v,Kb b H n H' n'->Own G H' n n' 1 v (strs (above fs s).1)->(above fs s).1.length<=1001->k (.Io [v,.bool (above fs s).2]) H' n'):Runs F G NC [.ptr t 0,s.v] H n k:=by
 refine BH (s:=N7 (QS lfp G)) U5 (by obtain⟨h,o⟩:=xO BI G;rw[U5]at h;cases h;exact o) ?_
 show QS lfp G (Runs F G) (.ptr t 0) s.v H n k
 delta QS
 have hbn:=h.bn
 refine RF (J:=λm st=>∃out s v H2 n2,m+out.length=fs.length+1/\st=(.ptr t 0,St.v s,v,H2,n2)/\Kb b H n H2 n2/\Own G H2 n n2 1 v (strs out)/\out.Nodup/\(∀x∈out,x∈fs.map (·.1))/\
  (∀H' n' v,Kb b H n H' n'->Own G H' n n' 1 v (strs (Tv m fs out s).1)->(Tv m fs out s).1.length<=1001->k (.Io [v,.bool (Tv m fs out s).2]) H' n')) ?_ (m:=fs.length+1)
  ⟨[],s,.Ad,H,n,rfl,rfl,Kb.refl _ _ _,⟨.nil,AIX⟩,List.nodup_nil,λ_ h=>absurd h List.not_mem_nil,hk⟩
 rintro I m st ⟨out,s,v,H2,n2,hm,rfl,f,ho,hnd,hsub,hk⟩ ih
 show Ry lfp G (Runs F G) k I (.ptr t 0) s.v v H2 n2
 delta Ry
 have hle:=AJN hnd hsub
 rw[List.length_map]at hle
 obtain⟨m,rfl⟩:∃m',m=m'+1:=⟨m-1,by omega⟩
 unfold Tv at hk
 simp only[go_sem,St.v,AXQ]
 cases h0:decide (s.1=0/\s.2=0)with
 |true=>
  rw[h0]at hk
  simp only[Bool.not_true,go_sem]
  delta Rf
  exact hk _ _ _ f ho (by show out.length<=1001;omega)
 |false=>
  rw[h0]at hk
  simp only[Bool.not_false,go_sem]
  refine tC (s:=s) (h.kb f) (Nat.le_refl _) λH3 n3 w f3 hw=>?_
  have f4:=f.trans f3
  have ho3:=ho.kb f3 hbn
  obtain⟨vf,vm,ws,hw,rfl⟩:=hw
  simp only[go_sem,Nat.reduceAdd,GL]
  rw[T.set_set]
  cases hl:Hf fs s with
  |none=>
   rw[hl]at hk
   simp only[Option.isSome_none,Bool.not_false,go_sem]
   have f5:Kp H3 n3 (T.set H3 n3 (one [((none:Option Fc).getD Fh).nm.v,((none:Option Fc).getD Fh).sup.v,vf,vm])) (n3+1):=(Kp.refl _ _).new _ (Nat.le_refl _) (by omega)
   exact hk _ _ _ (f4.trans (f5.kb (by have:=f4.le;omega))) (ho3.kp f5) (by show out.length<=1001;omega)
  |some c=>
   rw[hl]at hk
   simp only[Option.isSome_some,Bool.not_true,go_sem,Option.getD_some]
   have hn3:=f4.le
   refine run_set λH4 f5 g5=>?_
   have f6:=f4.trans (f5.kb (b:=b) (by omega))
   have ho4:=ho3.kp f5
   refine zl (s:=s) (xs:=out) (ho4.el (by omega)) (by omega) ?_
   cases h1:AAE s out with
   |true=>
    simp only[h1,cond_true]at hk
    simp only[go_sem]
    exact hk _ _ _ f6 ho4 (by show out.length<=1001;omega)
   |false=>
    simp only[h1,cond_false]at hk
    have hin:¬s∈out:=λh=>by rw[AP1.2 h]at h1;cases h1
    simp only[go_sem]
    refine AVx (G:=G) rfl rfl λH5 f7 g7=>?_
    have e1:AY (.ptr n3 1) G H5=some c.sup.v:=AV (f7.get g5 (by omega)) rfl
    rw[e1,AQ]
    have ho5:=ho4.kp f7
    refine ho5.gr.app (by omega) ho5.lo g7 ?_ ?_ ?_
    ·rw[lQ];simp;omega
    ·intro v' H6 hg hs hlo
     have f8:Kb b H n H6 (n3+1+1+1):=(f6.trans (f7.kb (by omega))).trans' (λid hid=>hs id (by omega) (λhv=>by have:=(ho5.gr.lo hv).1;omega)) (by omega) hbn
     have e2:AY (.ptr n3 1) G H6=some c.sup.v:=AV ((hs n3 (by omega) (λhv=>by have:=ho.lo _ hv;have:=f3.le;omega)).trans (f7.get g5 (by omega))) rfl
     simp only[go_sem,e2,ASx]
     refine ih _ _ (Nat.lt_succ_self m) ⟨out++[s],c.sup,v',H6,_,by simp;omega,rfl,f8,⟨?_,hlo⟩,?_,?_,hk⟩
     ·rw[strs,List.map_append];exact hg
     ·rw[List.nodup_append];refine⟨hnd,by simp,?_⟩;intro x hx y hy;simp at hy;subst hy;intro e;subst e;exact hin hx
     ·intro x hx
      rcases List.mem_append.1 hx with hx|hx
      ·exact hsub x hx
      ·simp at hx;subst hx;exact ASb hl
    ·intro h;cases h
abbrev tyZ:Ty:=⟨(0,0),false⟩
abbrev Ym:Es:=⟨(0,0),false,[],tyZ⟩
def Zo(s:St):List Dh->Option Ty
 |[]=>none
 |f::fs=>bif decide (f.nm.1=s.1/\f.nm.2=s.2)then some f.ty else Zo s fs
def O9(s:St):List Es->Option Es
 |[]=>none
 |m::ms=>bif decide (m.nm.1=s.1/\m.nm.2=s.2)then some m else O9 s ms
def tq(G:AX)(H:Heap)(n:Nat)(v:V)(m:Es):Prop:=∃w,v=.agg (m.cells w)/\YT G H n w m.ps
theorem tq.ke{G:AX}{H H':Heap}{n n':Nat}{v:V}{m:Es}(h:tq G H n v m)(f:Ke G H n H' n'):tq G H' n' v m:=by
 obtain⟨w,e,h⟩:=h;exact⟨w,e,h.ke f⟩
theorem ALp{G:AX}{H:Heap}{n:Nat}:tq G H n (.agg (Ym.cells .Ad)) Ym:=⟨.Ad,rfl,ACW,AIX,by decide,λ_ h=>by cases h⟩
theorem AJo{G:AX}{H:Heap}{n:Nat}{v:V}{c:Fc}(h:Qx G H n v c){s:St}{k:KV}
 (hk:∀H' n',Kp H n H' n'->k (.Io [((Zo s c.fs).getD tyZ).v,.bool (Zo s c.fs).isSome]) H' n'):Runs F G gQ [v,s.v] H n k:=by
 refine BH (s:=N7 (Sl lfp G)) Vs (by obtain⟨h,o⟩:=AAT BI G;rw[Vs]at h;cases h;exact o) ?_
 show Sl lfp G (Runs F G) v s.v H n k
 obtain⟨vf,vm,ws,h,rfl⟩:=h
 delta Sl
 refine Dq λH1 f1 g1=>?_
 refine Az rfl λH2 f2 g2=>?_
 simp only[go_sem,Nat.reduceAdd,AV (off:=2) (f2.get g1 (by omega)) (v:=vf) rfl,h.fs.len]
 have hbig:=h.fs.lt
 refine DF (N:=c.fs.length) (J:=λi st=>∃H' n',st=(s.v,.ptr (n+1) 0,vf,.int .i64 (.ofNat c.fs.length) 0,.int .i64 (.ofNat i) 0,H',n')/\Kp H n H' n'/\n+1<n'/\T.get H' (n+1)=some (one [.str 0 0,.bool false])/\
  (∀H' n',Kp H n H' n'->k (.Io [((Zo s (c.fs.drop i)).getD tyZ).v,.bool (Zo s (c.fs.drop i)).isSome]) H' n')) ?_ ?_ ⟨H2,_,rfl,f1.trans f2,Nat.lt_succ_self _,g2,hk⟩
 ·rintro I i st hlt ⟨H3,n3,rfl,f3,hn3,g3,hk⟩ ih
  show KL lfp G (Runs F G) k I s.v (.ptr (n+1) 0) vf (.int .i64 (.ofNat c.fs.length) 0) (.int .i64 (.ofNat i) 0) H3 n3
  delta KL
  obtain⟨q,hp,hld⟩:=(h.fs.kp f3).at hlt
  rw[List.drop_eq_getElem_cons hlt]at hk
  unfold Zo at hk
  generalize c.fs[i]=m at hld hk
  unfold Dh.cells at hld
  simp only[go_sem,Ns,hlt,decide_true,hp,Dx hld,Nat.reduceAdd,show EN (.one .str) false m.nm.v s.v=_ from ABt ..]
  rw[T.set_set]
  have f4:=f3.new (m:=n3+1) (id:=n3) (one [m.nm.v,m.ty.nm.v,.bool m.ty.arr]) f3.le (by omega)
  cases h1:decide (m.nm.1=s.1/\m.nm.2=s.2)with
  |true=>
   simp only[h1,cond_true]at hk
   simp only[go_sem,Nat.reduceAdd]
   rw[EM (m:=2) (off:=1) (T.BP ..) (by omega) (by show 3<=3;omega),AQ]
   show Bq 2 (.ptr (n+1) 0) (.agg [m.ty.nm.v,.bool m.ty.arr]) _ _ _
   rw[TF (m:=2) ((T.Ak _ _ (by omega)).trans g3) (by omega) rfl rfl,D9 (m:=2) (T.BP ..) (by omega) rfl]
   simp only[go_sem]
   exact hk _ _ (f4.set _ (by omega))
  |false=>
   simp only[h1,cond_false]at hk
   simp only[go_sem,FB (show i+1<9223372036854775808 by unfold big at hbig;omega)]
   exact ih _ ⟨_,_,rfl,f4,by omega,(T.Ak _ _ (by omega)).trans g3,hk⟩
 ·rintro I st ⟨H3,n3,rfl,f3,hn3,g3,hk⟩
  show KL lfp G (Runs F G) k I s.v (.ptr (n+1) 0) vf (.int .i64 (.ofNat c.fs.length) 0) (.int .i64 (.ofNat c.fs.length) 0) H3 n3
  delta KL
  rw[List.drop_eq_nil_of_le (Nat.le_refl _)]at hk
  simp only[go_sem,Ns,Nat.lt_irrefl,decide_false]
  delta TU
  simp only[uq,AQ]
  rw[TF (m:=2) g3 (by omega) rfl rfl,D9 (m:=2) (T.BP ..) (by omega) rfl]
  simp only[go_sem]
  exact hk _ _ (f3.set _ (by omega))
theorem ABb{G:AX}{H:Heap}{n n0:Nat}{v:V}{c:Fc}(h:Qx G H n0 v c)(hn:n0<=n){s:St}{k:KV}
 (hk:∀H' n' w,Kp H n H' n'->tq G H' n0 w ((O9 s c.ms).getD Ym)->k (.Io [w,.bool (O9 s c.ms).isSome]) H' n'):Runs F G dX [v,s.v] H n k:=by
 refine BH (s:=N7 (Ql lfp G)) VH (by obtain⟨h,o⟩:=yI BI G;rw[VH]at h;cases h;exact o) ?_
 show Ql lfp G (Runs F G) v s.v H n k
 obtain⟨vf,vm,ws,h,rfl⟩:=h
 delta Ql
 refine Dq λH1 f1 g1=>?_
 refine Az rfl λH2 f2 g2=>?_
 simp only[go_sem,Nat.reduceAdd,AV (off:=3) (f2.get g1 (by omega)) (v:=vm) rfl,h.ms.len']
 have hbig:=h.ms.lt
 refine DF (N:=c.ms.length) (J:=λi st=>∃H' n',st=(s.v,.ptr (n+1) 0,vm,.int .i64 (.ofNat c.ms.length) 0,.int .i64 (.ofNat i) 0,H',n')/\Kp H n H' n'/\n+1<n'/\T.get H' (n+1)=some (one (Ym.cells .Ad))/\
  (∀H' n' w,Kp H n H' n'->tq G H' n0 w ((O9 s (c.ms.drop i)).getD Ym)->k (.Io [w,.bool (O9 s (c.ms.drop i)).isSome]) H' n')) ?_ ?_ ⟨H2,_,rfl,f1.trans f2,Nat.lt_succ_self _,g2,hk⟩
 ·rintro I i st hlt ⟨H3,n3,rfl,f3,hn3,g3,hk⟩ ih
  show Jk lfp G (Runs F G) k I s.v (.ptr (n+1) 0) vm (.int .i64 (.ofNat c.ms.length) 0) (.int .i64 (.ofNat i) 0) H3 n3
  delta Jk
  obtain⟨q,w,hp,hld,hw⟩:=(h.ms.ke ((f3.ke).low hn)).at hlt
  rw[List.drop_eq_getElem_cons hlt]at hk
  unfold O9 at hk
  generalize c.ms[i]=m at hld hk hw
  unfold Es.cells at hld
  simp only[go_sem,Ns,hlt,decide_true,hp,Dx hld,Nat.reduceAdd,show EN (.one .str) false m.nm.v s.v=_ from ABt ..]
  rw[T.set_set]
  have f4:=f3.new (m:=n3+1) (id:=n3) (one [m.nm.v,.bool m.st,w,m.ret.nm.v,.bool m.ret.arr]) f3.le (by omega)
  cases h1:decide (m.nm.1=s.1/\m.nm.2=s.2)with
  |true=>
   simp only[h1,cond_true]at hk
   simp only[go_sem,Nat.reduceAdd]
   rw[TF (m:=5) ((T.Ak _ _ (by omega)).trans g3) (by omega) rfl rfl,D9 (m:=5) (T.BP ..) (by omega) rfl]
   simp only[go_sem]
   have f5:=f4.set (one [m.nm.v,.bool m.st,w,m.ret.nm.v,.bool m.ret.arr]) (id:=n+1) (by omega)
   refine hk _ _ _ f5 ⟨w,rfl,hw.ke ?_⟩
   refine(Kp.ke (n:=n0) (n':=n3+1) ⟨by omega,λid hid=>?_⟩).low (Nat.le_refl _)
   rw[T.Ak _ _ (by omega),T.Ak _ _ (by omega)]
  |false=>
   simp only[h1,cond_false]at hk
   simp only[go_sem,FB (show i+1<9223372036854775808 by unfold big at hbig;omega)]
   exact ih _ ⟨_,_,rfl,f4,by omega,(T.Ak _ _ (by omega)).trans g3,hk⟩
 ·rintro I st ⟨H3,n3,rfl,f3,hn3,g3,hk⟩
  show Jk lfp G (Runs F G) k I s.v (.ptr (n+1) 0) vm (.int .i64 (.ofNat c.ms.length) 0) (.int .i64 (.ofNat c.ms.length) 0) H3 n3
  delta Jk
  rw[List.drop_eq_nil_of_le (Nat.le_refl _)]at hk
  simp only[go_sem,Ns,Nat.lt_irrefl,decide_false]
  delta Rh
  simp only[uq,AQ]
  rw[TF (m:=5) g3 (by omega) rfl rfl,D9 (m:=5) (T.BP ..) (by omega) rfl]
  simp only[go_sem]
  exact hk _ _ _ (f3.set _ (by omega)) ALp
def Es.same(a b:Es):Bool:=decide (a.nm.1=b.nm.1/\a.nm.2=b.nm.2)&&((a.st==b.st)&&(a.ret.is b.ret&&uT a.ps b.ps))
theorem AV1(a b:Bool):EN (.one .bool) false (.bool a) (.bool b)=some (.bool (a==b)):=by cases a<;>cases b<;>rfl
theorem AGv{G:AX}{H:Heap}{n:Nat}{v w:V}{a b:Es}(h:tq G H n v a)(h2:tq G H n w b){k:KV}
 (hk:∀H' n',Kp H n H' n'->k (.bool (a.same b)) H' n'):Runs F G JR [v,w] H n k:=by
 refine BH (s:=N7 (Vr lfp G)) Yn (by obtain⟨h,o⟩:=ACY BI G;rw[Yn]at h;cases h;exact o) ?_
 show Vr lfp G (Runs F G) v w H n k
 obtain⟨x,rfl,h⟩:=h
 obtain⟨y,rfl,h2⟩:=h2
 delta Vr
 unfold Es.same at hk
 refine Dq λH1 f1 g1=>?_
 refine Dq λH2 f2 g2=>?_
 have g1:=f2.get g1 (by omega)
 have f3:=f1.trans f2
 unfold Es.cells at g1 g2
 simp only[go_sem,Nat.reduceAdd,AV (off:=0) g1 rfl,AV (off:=0) g2 rfl,show EN (.one .str) false a.nm.v b.nm.v=_ from ABt ..]
 cases e1:decide (a.nm.1=b.nm.1/\a.nm.2=b.nm.2)with
 |false=>rw[e1]at hk;simp only[go_sem];exact hk _ _ f3
 |true=>
  rw[e1]at hk
  simp only[go_sem,Nat.reduceAdd,AV (off:=1) g1 rfl,AV (off:=1) g2 rfl,AV1]
  cases e2:a.st==b.st with
  |false=>rw[e2]at hk;simp only[go_sem];exact hk _ _ f3
  |true=>
   rw[e2]at hk
   have l1:Ag 2 (.ptr n 3) G H2=some a.ret.v:=EM g1 (by omega) (by show 5<=5;omega)
   have l2:Ag 2 (.ptr (n+1) 3) G H2=some b.ret.v:=EM g2 (by omega) (by show 5<=5;omega)
   have e:EN (.agg [.str,.bool]) false a.ret.v b.ret.v=_:=iE a.ret b.ret
   simp only[go_sem,Nat.reduceAdd,l1,l2,e]
   cases e3:a.ret.is b.ret with
   |false=>rw[e3]at hk;simp only[go_sem];exact hk _ _ f3
   |true=>
    rw[e3]at hk
    simp only[go_sem,Nat.reduceAdd,AV (off:=2) g1 (v:=x) rfl,AV (off:=2) g2 (v:=y) rfl]
    refine AQd (h.el.kp h.lo f3) (h2.el.kp h2.lo f3) h.lt ?_
    exact hk _ _ f3
def Cb(fs:Tab)(t:Ty):Bool:=AJh t.nm&&(!upper t.nm.1 t.nm.2||(Hf fs t.nm).isSome)
theorem mW{G:AX}{H:Heap}{n t a b:Nat}{fs:Tab}(h:TabAt G H n t a b fs){v:V}{xs:List Ty}(hx:YT G H n v xs){k:KV}
 (hk:∀H' n',Kb b H n H' n'->k (.bool (xs.all (Cb fs))) H' n'):Runs F G D6 [.ptr t 0,v] H n k:=by
 refine BH (s:=N7 (QO lfp G)) U8 (by obtain⟨h,o⟩:=xP BI G;rw[U8]at h;cases h;exact o) ?_
 show QO lfp G (Runs F G) (.ptr t 0) v H n k
 delta QO
 have hbn:=h.bn
 have hbig:=hx.lt
 rw[hx.len,AQ]
 refine DF (N:=xs.length) (J:=λi st=>∃H' n',st=(.ptr t 0,v,.int .i64 (.ofNat xs.length) 0,.int .i64 (.ofNat i) 0,H',n')/\Kb b H n H' n'/\
  (∀H' n',Kb b H n H' n'->k (.bool ((xs.drop i).all (Cb fs))) H' n')) ?_ ?_ ⟨H,n,rfl,Kb.refl _ _ _,hk⟩
 ·rintro I i st hlt ⟨H3,n3,rfl,f3,hk⟩ ih
  show Jo lfp G (Runs F G) k I (.ptr t 0) v (.int .i64 (.ofNat xs.length) 0) (.int .i64 (.ofNat i) 0) H3 n3
  delta Jo
  have h3:=h.kb f3
  have hx3:=hx.ke (f3.ke h.seen)
  obtain⟨q,hp,hld⟩:=hx3.el.at (AH6 hlt)
  have hok:=hx.ok _ (List.getElem_mem hlt)
  rw[List.drop_eq_getElem_cons hlt,List.all_cons]at hk
  generalize xs[i]=m at hok hld hk
  unfold Ty.cells at hld
  unfold Cb at hk
  have h3n:=f3.le
  simp only[go_sem,Ns,hlt,decide_true,hp,Dx hld,Nat.reduceAdd]
  rw[T.set_set]
  refine run_set λH4 f4 g4=>?_
  have f5:=f3.trans (f4.kb (b:=b) (by omega))
  refine AUf hok λH6 n6 f6=>?_
  have f7:=f5.trans (f6.kb (b:=b) (by omega))
  have g6:=f6.get g4 (by omega)
  have h6n:=f6.le
  simp only[GL,go_sem]
  cases h1:AJh m.nm with
  |false=>
   rw[show AGz m.nm.1 m.nm.2=false from h1]
   simp only[h1,Bool.false_and]at hk
   simp only[Bool.not_false,go_sem]
   exact hk _ _ f7
  |true=>
   rw[show AGz m.nm.1 m.nm.2=true from h1]
   simp only[h1,Bool.true_and]at hk
   simp only[Bool.not_true,go_sem,Nat.reduceAdd,AV (off:=0) g6 (v:=m.nm.v) rfl]
   refine jK λH8 n8 f8=>?_
   refine AHZ hok λH9 n9 f9=>?_
   have f10:=f7.trans ((f8.trans f9).kb (b:=b) (by omega))
   have g9:=(f8.trans f9).get g6 (by omega)
   have h9n:=(f8.trans f9).le
   rw[show isClass m.nm.1 m.nm.2 false=upper m.nm.1 m.nm.2 by simp[isClass]]
   have go:∀H' n',Kb b H n H' n'->(∀H' n',Kb b H n H' n'->k (.bool ((xs.drop (i+1)).all (Cb fs))) H' n')->Jt lfp G (Runs F G) k I (.ptr t 0) v (.int .i64 (.ofNat xs.length) 0) (.int .i64 (.ofNat i) 0) H' n':=by
    intro H' n' f hk
    delta Jt
    simp only[go_sem,FB (show i+1<9223372036854775808 by unfold big at hbig;omega)]
    exact ih _ ⟨_,_,rfl,f,hk⟩
   cases h2:upper m.nm.1 m.nm.2 with
   |false=>
    simp only[h2,Bool.not_false,Bool.true_or,Bool.true_and]at hk
    simp only[go_sem]
    exact go _ _ f10 hk
   |true=>
    simp only[h2,Bool.not_true,Bool.false_or]at hk
    simp only[go_sem,Nat.reduceAdd,AV (off:=0) g9 (v:=m.nm.v) rfl]
    refine tC (s:=m.nm) (h.kb f10) (Nat.le_refl _) λH11 n11 w f11 hw=>?_
    obtain⟨vf,vm,ws,hw,rfl⟩:=hw
    have f12:=f10.trans f11
    have h12n:=f12.le
    simp only[go_sem,Nat.reduceAdd,GL]
    rw[T.set_set]
    have f13:Kp H11 n11 (T.set H11 n11 (one [((Hf fs m.nm).getD Fh).nm.v,((Hf fs m.nm).getD Fh).sup.v,vf,vm])) (n11+1):=(Kp.refl _ _).new _ (Nat.le_refl _) (by omega)
    have f14:=f12.trans (f13.kb (b:=b) (by omega))
    cases h3:(Hf fs m.nm).isSome with
    |false=>
     simp only[h3,Bool.false_and]at hk
     simp only[Bool.not_false,go_sem]
     exact hk _ _ f14
    |true=>
     simp only[h3,Bool.true_and]at hk
     simp only[Bool.not_true,go_sem]
     exact go _ _ f14 hk
 ·rintro I st ⟨H3,n3,rfl,f3,hk⟩
  show Jo lfp G (Runs F G) k I (.ptr t 0) v (.int .i64 (.ofNat xs.length) 0) (.int .i64 (.ofNat xs.length) 0) H3 n3
  delta Jo
  rw[List.drop_eq_nil_of_le (Nat.le_refl _)]at hk
  simp only[go_sem,Ns,Nat.lt_irrefl,decide_false]
  delta Ri
  exact hk _ _ f3
def qQ(fs:Tab)(s:St):List St->Option (St×Ty)
 |[]=>none
 |c::cs=>match Zo s ((Hf fs c).getD Fh).fs with
  |some t=>some (c,t)
  |none=>qQ fs s cs
def Yj(fs:Tab)(c s:St):Option (St×Ty):=qQ fs s (above fs c).1
theorem AMM{G:AX}{H:Heap}{n t a b:Nat}{fs:Tab}(h:TabAt G H n t a b fs)(hfs:fs.length<=1000){c s:St}{k:KV}
 (hk:∀H' n',Kb b H n H' n'->k (.Io [((Yj fs c s).getD ((0,0),tyZ)).1.v,((Yj fs c s).getD ((0,0),tyZ)).2.v,.bool (Yj fs c s).isSome]) H' n'):Runs F G V6 [.ptr t 0,c.v,s.v] H n k:=by
 refine BH (s:=ar3 (QW lfp G)) VF (by obtain⟨h,o⟩:=yA BI G;rw[VF]at h;cases h;exact o) ?_
 show QW lfp G (Runs F G) (.ptr t 0) c.v s.v H n k
 delta QW
 have hbn:=h.bn
 unfold Yj at hk
 refine Az rfl λH1 f1 g1=>?_
 have f1:=f1.kb (b:=b) hbn
 refine ABi (h.kb f1) hfs λH2 n2 v f2 ho hlen=>?_
 generalize(above fs c).1=cs at ho hk hlen
 have f3:=f1.trans f2
 have g2:=f2.get g1 (by omega) (by omega)
 have h2n:=f2.le
 simp only[go_sem,(ho.el (by omega)).len,lQ]
 refine DF (N:=cs.length) (J:=λi st=>∃H' n',st=(.ptr t 0,s.v,.ptr n 0,v,.int .i64 (.ofNat cs.length) 0,.int .i64 (.ofNat i) 0,H',n')/\Kb b H n H' n'/\n<n'/\Own G H' (n+1) n' 1 v (strs cs)/\T.get H' n=some (one [.str 0 0,.bool false])/\
  (∀H' n',Kb b H n H' n'->k (.Io [((qQ fs s (cs.drop i)).getD ((0,0),tyZ)).1.v,((qQ fs s (cs.drop i)).getD ((0,0),tyZ)).2.v,.bool (qQ fs s (cs.drop i)).isSome]) H' n')) ?_ ?_ ⟨H2,n2,rfl,f3,by omega,ho,g2,hk⟩
 ·rintro I i st hlt ⟨H3,n3,rfl,f3,hn3,ho,g3,hk⟩ ih
  show Js lfp G (Runs F G) k I (.ptr t 0) s.v (.ptr n 0) v (.int .i64 (.ofNat cs.length) 0) (.int .i64 (.ofNat i) 0) H3 n3
  delta Js
  obtain⟨q,hp,hld⟩:=(ho.el (by omega)).at (ABQ hlt)
  rw[List.drop_eq_getElem_cons hlt]at hk
  unfold qQ at hk
  generalize cs[i]=m at hld hk
  simp only[go_sem,Ns,hlt,decide_true,hp,ni hld]
  refine tC (s:=m) (h.kb f3) (Nat.le_refl _) λH4 n4 w f4 hw=>?_
  obtain⟨vf,vm,ws,hw,rfl⟩:=hw
  have f5:=f3.trans f4
  have h5n:=f4.le
  simp only[go_sem,Nat.reduceAdd]
  rw[T.set_set]
  refine run_set λH6 f6 g6=>?_
  have f6':=f6.kb (b:=b) (by omega)
  have f7:=f5.trans f6'
  refine AJo (s:=s) (n:=n4+1) (v:=.agg [((Hf fs m).getD Fh).nm.v,((Hf fs m).getD Fh).sup.v,vf,vm]) (c:=(Hf fs m).getD Fh) ⟨vf,vm,ws,hw.ke ⟨by omega,λv z LS hl he=>(f6.ke).el v z LS (hl.mono f4.le) he⟩,rfl⟩ λH8 n8 f8=>?_
  have f8':=f8.kb (b:=b) (by omega)
  have f9:=f7.trans f8'
  have h9n:=f8.le
  have f10:=f4.trans (f6'.trans f8')
  have ho:=ho.kb f10 (by omega)
  have g10:=f10.get g3 hn3 (by omega)
  unfold Ty.v Ty.cells
  simp only[go_sem,Nat.reduceAdd]
  rw[T.set_set]
  cases h1:Zo s ((Hf fs m).getD Fh).fs with
  |some ty=>
   rw[h1]at hk
   simp only[Option.isSome_some,go_sem,Option.getD_some]
   rw[TF (m:=2) ((T.Ak _ _ (by omega)).trans g10) (by omega) rfl rfl]
   rw[D9 (m:=2) (T.BP ..) (by omega) rfl]
   simp only[go_sem]
   refine hk _ _ (f9.trans' (m:=n8+1) (λid hid=>?_) (by omega) hbn)
   rw[T.Ak _ _ (by omega),T.Ak _ _ (by omega)]
  |none=>
   rw[h1]at hk
   simp only[Option.isSome_none,go_sem,Option.getD_none]
   simp only[go_sem,FB (show i+1<9223372036854775808 by omega)]
   refine ih _ ⟨_,_,rfl,f9.trans' (m:=n8+1) (λid hid=>?_) (by omega) hbn,by omega,ho.kp ((Kp.refl _ _).new _ (Nat.le_refl _) (by omega)),(T.Ak _ _ (by omega)).trans g10,hk⟩
   rw[T.Ak _ _ (by omega)]
 ·rintro I st ⟨H3,n3,rfl,f3,hn3,ho,g3,hk⟩
  show Js lfp G (Runs F G) k I (.ptr t 0) s.v (.ptr n 0) v (.int .i64 (.ofNat cs.length) 0) (.int .i64 (.ofNat cs.length) 0) H3 n3
  delta Js
  rw[List.drop_eq_nil_of_le (Nat.le_refl _)]at hk
  simp only[go_sem,Ns,Nat.lt_irrefl,decide_false]
  delta RI
  simp only[uq,AQ]
  rw[TF (m:=2) g3 (by omega) rfl rfl,ADk,D9 (m:=2) (T.BP ..) (by omega) rfl]
  simp only[go_sem]
  refine hk _ _ (f3.trans' (m:=n3) (λid hid=>?_) (by omega) hbn)
  rw[T.Ak _ _ (by omega)]
def WW(st:Bool)(s:St)(ms:List Es):Option Es:=match O9 s ms with
 |some m=>bif m.st==st then some m else none
 |none=>none
def OA(fs:Tab)(s:St)(st:Bool):List St->Option (St×Es)
 |[]=>none
 |c::cs=>match WW st s ((Hf fs c).getD Fh).ms with
  |some m=>some (c,m)
  |none=>OA fs s st cs
def QF(fs:Tab)(c s:St)(st:Bool):Option (St×Es):=OA fs s st (above fs c).1
theorem APB{G:AX}{H:Heap}{n t a b:Nat}{fs:Tab}(h:TabAt G H n t a b fs)(hfs:fs.length<=1000){c s:St}{st:Bool}{k:KV}
 (hk:∀H' n' w,Kb b H n H' n'->tq G H' n w ((QF fs c s st).getD ((0,0),Ym)).2->k (.Io [((QF fs c s st).getD ((0,0),Ym)).1.v,w,.bool (QF fs c s st).isSome]) H' n'):
 Runs F G PV [.ptr t 0,c.v,s.v,.bool st] H n k:=by
 refine BH (s:=ar4 (Hg lfp G)) KN (by obtain⟨h,o⟩:=Y9 BI G;rw[KN]at h;cases h;exact o) ?_
 show Hg lfp G (Runs F G) (.ptr t 0) c.v s.v (.bool st) H n k
 delta Hg
 have hbn:=h.bn
 unfold QF at hk
 refine Az rfl λH1 f1 g1=>?_
 have f1:=f1.kb (b:=b) hbn
 refine ABi (h.kb f1) hfs λH2 n2 v f2 ho hlen=>?_
 generalize(above fs c).1=cs at ho hk hlen
 have f3:=f1.trans f2
 have g2:=f2.get g1 (by omega) (by omega)
 have h2n:=f2.le
 simp only[go_sem,(ho.el (by omega)).len,lQ]
 refine DF (N:=cs.length) (J:=λi q=>∃H' n',q=(.ptr t 0,s.v,.bool st,.ptr n 0,v,.int .i64 (.ofNat cs.length) 0,.int .i64 (.ofNat i) 0,H',n')/\Kb b H n H' n'/\n<n'/\Own G H' (n+1) n' 1 v (strs cs)/\T.get H' n=some (one (Ym.cells .Ad))/\
  (∀H' n' w,Kb b H n H' n'->tq G H' n w ((OA fs s st (cs.drop i)).getD ((0,0),Ym)).2->k (.Io [((OA fs s st (cs.drop i)).getD ((0,0),Ym)).1.v,w,.bool (OA fs s st (cs.drop i)).isSome]) H' n')) ?_ ?_ ⟨H2,n2,rfl,f3,by omega,ho,g2,hk⟩
 ·rintro I i q hlt ⟨H3,n3,rfl,f3,hn3,ho,g3,hk⟩ ih
  show EG lfp G (Runs F G) k I (.ptr t 0) s.v (.bool st) (.ptr n 0) v (.int .i64 (.ofNat cs.length) 0) (.int .i64 (.ofNat i) 0) H3 n3
  delta EG
  obtain⟨q,hp,hld⟩:=(ho.el (by omega)).at (ABQ hlt)
  rw[List.drop_eq_getElem_cons hlt]at hk
  unfold OA at hk
  generalize cs[i]=m at hld hk
  simp only[go_sem,Ns,hlt,decide_true,hp,ni hld]
  refine tC (s:=m) (n0:=n) (h.kb (f3.low (Nat.le_refl _))) (by omega) λH4 n4 w f4 hw=>?_
  obtain⟨vf,vm,ws,hw,rfl⟩:=hw
  have f5:=f3.trans f4
  have h5n:=f4.le
  simp only[go_sem,Nat.reduceAdd]
  rw[T.set_set]
  refine run_set λH6 f6 g6=>?_
  have f6':=f6.kb (b:=b) (by omega)
  have f7:=f5.trans f6'
  refine ABb (s:=s) (n:=n4+1) (n0:=n) (v:=.agg [((Hf fs m).getD Fh).nm.v,((Hf fs m).getD Fh).sup.v,vf,vm]) (c:=(Hf fs m).getD Fh) ⟨vf,vm,ws,hw.ke ((f6.ke).low (by omega)),rfl⟩ (by omega) λH8 n8 w f8 hw=>?_
  have f8':=f8.kb (b:=b) (by omega)
  have f9:=f7.trans f8'
  have h9n:=f8.le
  have f10:=f4.trans (f6'.trans f8')
  have ho:=ho.kb f10 (by omega)
  have g10:=f10.get g3 hn3 (by omega)
  obtain⟨x,rfl,hx⟩:=hw
  unfold WW at hk
  have g11:T.get (T.set H8 n8 (one (((O9 s ((Hf fs m).getD Fh).ms).getD Ym).cells x))) n8=_:=T.BP ..
  have g12:T.get (T.set H8 n8 (one (((O9 s ((Hf fs m).getD Fh).ms).getD Ym).cells x))) n=_:=(T.Ak _ _ (by omega)).trans g10
  unfold Es.cells at g11 g12⊢
  simp only[go_sem,Nat.reduceAdd]
  rw[T.set_set]
  have no:(∀H' n' w,Kb b H n H' n'->tq G H' n w ((OA fs s st (cs.drop (i+1))).getD ((0,0),Ym)).2->k (.Io [((OA fs s st (cs.drop (i+1))).getD ((0,0),Ym)).1.v,w,.bool (OA fs s st (cs.drop (i+1))).isSome]) H' n')->
   I (.ptr t 0,s.v,.bool st,.ptr n 0,v,.int .i64 (.ofNat cs.length) 0,.int .i64 (.ofNat (i+1)) 0,T.set H8 n8 (one (((O9 s ((Hf fs m).getD Fh).ms).getD Ym).cells x)),n8+1):=λhk=>by
   refine ih _ ⟨_,_,rfl,f9.trans' (m:=n8+1) (λid hid=>T.Ak _ _ (by omega)) (by omega) hbn,by omega,ho.kp ((Kp.refl _ _).new _ (Nat.le_refl _) (by omega)),(T.Ak _ _ (by omega)).trans g10,hk⟩
  unfold Es.cells at no
  cases h1:O9 s ((Hf fs m).getD Fh).ms with
  |none=>
   rw[h1]at hk g11 g12 no
   simp only[Option.isSome_none,go_sem,Option.getD_none,FB (show i+1<9223372036854775808 by omega)]
   exact no hk
  |some o=>
   rw[h1]at hk g11 g12 no hx
   simp only[Option.getD_some]at g11 g12 no hx
   simp only[Option.isSome_some,go_sem,Option.getD_some,Nat.reduceAdd,AV (off:=1) g11 rfl,AV1]
   cases h2:o.st==st with
   |false=>
    simp only[h2,cond_false]at hk
    simp only[go_sem,FB (show i+1<9223372036854775808 by omega)]
    exact no hk
   |true=>
    simp only[h2,cond_true]at hk
    simp only[go_sem]
    rw[TF (m:=5) g12 (by omega) rfl rfl]
    rw[D9 (m:=5) (T.BP ..) (by omega) rfl]
    simp only[go_sem]
    have f11:∀id,id<n->T.get (T.set (T.set H8 n8 (one [o.nm.v,.bool o.st,x,o.ret.nm.v,.bool o.ret.arr])) n (one [o.nm.v,.bool o.st,x,o.ret.nm.v,.bool o.ret.arr])) id=T.get H8 id:=λid hid=>by
     rw[T.Ak _ _ (by omega),T.Ak _ _ (by omega)]
    exact hk _ _ _ (f9.trans' (m:=n8+1) f11 (by omega) hbn) ⟨x,rfl,hx.ke ((Kp.ke (n:=n) (n':=n) ⟨Nat.le_refl _,f11⟩))⟩
 ·rintro I q ⟨H3,n3,rfl,f3,hn3,ho,g3,hk⟩
  show EG lfp G (Runs F G) k I (.ptr t 0) s.v (.bool st) (.ptr n 0) v (.int .i64 (.ofNat cs.length) 0) (.int .i64 (.ofNat cs.length) 0) H3 n3
  delta EG
  rw[List.drop_eq_nil_of_le (Nat.le_refl _)]at hk
  simp only[go_sem,Ns,Nat.lt_irrefl,decide_false]
  delta MG
  simp only[uq,AQ]
  rw[TF (m:=5) g3 (by omega) rfl rfl,ADk,D9 (m:=5) (T.BP ..) (by omega) rfl]
  simp only[go_sem]
  refine hk _ _ _ (f3.trans' (m:=n3) (λid hid=>?_) (by omega) hbn) ALp
  rw[T.Ak _ _ (by omega)]
def twin(a:Option St):List St->Bool
 |[]=>false
 |x::xs=>(match a with|some y=>decide (y.1=x.1/\y.2=x.2)|none=>false)||twin (some x) xs
abbrev AJl(fs:List Dh):List St:=fs.map λf=>f.nm
abbrev AFv(fs:List Es):List St:=fs.map λf=>f.nm
def twice(c:Fc):Bool:=twin none (AJl c.fs)||twin none (AFv c.ms)
theorem AVz(a b:St):EN (.one .str) false a.v b.v=some (.bool (decide (a.1=b.1/\a.2=b.2))):=ABt ..
theorem AXo(i:Nat):B2.ev .gtr (.int .i64 (.ofNat i) 0) (.int .i64 (.ofNat 0) 0)=some (.bool (decide (0<i))):=AYL ..
theorem AS8{G:AX}(hG:AGA G){H:Heap}{n:Nat}{v:V}{c:Fc}(h:Qx G H n v c){k:KV}(hk:∀H' n',Kp H n H' n'->k (.bool (twice c)) H' n'):Runs F G ABM [v] H n k:=by
 refine BH (s:=mO (aY lfp G)) iO (by obtain⟨h,o⟩:=AFq BI G;rw[iO]at h;cases h;exact o) ?_
 show aY lfp G (Runs F G) v H n k
 obtain⟨vf,vm,ws,h,rfl⟩:=h
 delta aY
 unfold twice at hk
 refine Dq λH1 f1 g1=>?_
 have hf:=h.fs.kp f1
 have hm:=h.ms.kp f1
 have l2:AY (.ptr n 2) G H1=some vf:=AV g1 rfl
 have l3:AY (.ptr n 3) G H1=some vm:=AV g1 rfl
 have hbf:=hf.lt
 have hbm:=hm.lt
 simp only[go_sem,Nat.reduceAdd,l2,h.fs.len]
 have AT1:(∀H' n',Kp H n H' n'->k (.bool (twin none (AFv c.ms))) H' n')->Vo lfp G (Runs F G) k (.ptr n 0) H1 (n+1):=by
  intro hk
  delta Vo
  simp only[go_sem,Nat.reduceAdd,l3,h.ms.len']
  refine DF (N:=c.ms.length) (J:=λi q=>q=(.ptr n 0,.int .i64 (.ofNat c.ms.length) 0,.int .i64 (.ofNat i) 0,H1,n+1)/\
   (k (.bool (twin (match i with|0=>none|i+1=>(AFv c.ms)[i]?) ((AFv c.ms).drop i))) H1 (n+1))) ?_ ?_ ⟨rfl,hk _ _ f1⟩
  ·rintro I i q hlt ⟨rfl,hk⟩ ih
   show RH lfp G (Runs F G) k I (.ptr n 0) (.int .i64 (.ofNat c.ms.length) 0) (.int .i64 (.ofNat i) 0) H1 (n+1)
   delta RH
   have hlt':i<(AFv c.ms).length:=by simpa using hlt
   rw[List.drop_eq_getElem_cons hlt',List.getElem_map]at hk
   unfold twin at hk
   obtain⟨q,w,hp,hld,-⟩:=hm.at hlt
   obtain⟨q',hp',hld'⟩:=wK hG hld rfl (o:=0) (x:=c.ms[i].nm.v) rfl
   simp only[go_sem,Ns,hlt,decide_true,AXo]
   have next:(k (.bool (twin (some c.ms[i].nm) ((AFv c.ms).drop (i+1)))) H1 (n+1))->I (.ptr n 0,.int .i64 (.ofNat c.ms.length) 0,.int .i64 (.ofNat (i+1)) 0,H1,n+1):=λhk=>by
    refine ih _ ⟨rfl,?_⟩
    show k (.bool (twin ((AFv c.ms)[i]?) _)) H1 (n+1)
    rw[List.getElem?_eq_getElem hlt',List.getElem_map];exact hk
   cases i with
   |zero=>
    simp only[Nat.lt_irrefl,decide_false,go_sem,FB (show 0+1<9223372036854775808 by omega)]
    exact next hk
   |succ i=>
    have hlt2:i<c.ms.length:=by omega
    obtain⟨r,w2,hr,hldr,-⟩:=hm.at hlt2
    obtain⟨r',hr',hldr'⟩:=wK hG hldr rfl (o:=0) (x:=c.ms[i].nm.v) rfl
    simp only[Nat.zero_lt_succ,decide_true,go_sem,Nat.reduceAdd,l3,ALD (show i+1<9223372036854775808 by unfold big at hbm;omega),hr,hr',hldr',hp,hp',hld',AVz]
    have hk:k (.bool (decide (c.ms[i].nm.1=c.ms[i+1].nm.1/\c.ms[i].nm.2=c.ms[i+1].nm.2)||twin (some c.ms[i+1].nm) ((AFv c.ms).drop (i+1+1)))) H1 (n+1):=by
     have e:(AFv c.ms)[i]? =some c.ms[i].nm:=by rw[List.getElem?_map,List.getElem?_eq_getElem hlt2];rfl
     simp only[e]at hk;exact hk
    cases e:decide (c.ms[i].nm.1=c.ms[i+1].nm.1/\c.ms[i].nm.2=c.ms[i+1].nm.2)with
    |true=>rw[e]at hk;simp only[go_sem];exact hk
    |false=>
     rw[e]at hk
     simp only[go_sem,FB (show i+1+1<9223372036854775808 by unfold big at hbm;omega)]
     exact next hk
  ·rintro I q ⟨rfl,hk⟩
   show RH lfp G (Runs F G) k I (.ptr n 0) (.int .i64 (.ofNat c.ms.length) 0) (.int .i64 (.ofNat c.ms.length) 0) H1 (n+1)
   delta RH
   rw[List.drop_eq_nil_of_le (by simp)]at hk
   simp only[go_sem,Ns,Nat.lt_irrefl,decide_false]
   delta Zl
   exact hk
 generalize twin none (AFv c.ms)=B at hk AT1
 refine DF (N:=c.fs.length) (J:=λi q=>q=(.ptr n 0,.int .i64 (.ofNat c.fs.length) 0,.int .i64 (.ofNat i) 0,H1,n+1)/\
  (∀H' n',Kp H n H' n'->k (.bool (twin (match i with|0=>none|i+1=>(AJl c.fs)[i]?) ((AJl c.fs).drop i)||B)) H' n')) ?_ ?_ ⟨rfl,hk⟩
 ·rintro I i q hlt ⟨rfl,hk⟩ ih
  show Pg lfp G (Runs F G) k I (.ptr n 0) (.int .i64 (.ofNat c.fs.length) 0) (.int .i64 (.ofNat i) 0) H1 (n+1)
  delta Pg
  have hlt':i<(AJl c.fs).length:=by simpa using hlt
  rw[List.drop_eq_getElem_cons hlt',List.getElem_map]at hk
  unfold twin at hk
  obtain⟨q,hp,hld⟩:=hf.at hlt
  obtain⟨q',hp',hld'⟩:=wK hG hld rfl (o:=0) (x:=c.fs[i].nm.v) rfl
  simp only[go_sem,Ns,hlt,decide_true,AXo]
  have next:(∀H' n',Kp H n H' n'->k (.bool (twin (some c.fs[i].nm) ((AJl c.fs).drop (i+1))||B)) H' n')->I (.ptr n 0,.int .i64 (.ofNat c.fs.length) 0,.int .i64 (.ofNat (i+1)) 0,H1,n+1):=λhk=>by
   refine ih _ ⟨rfl,?_⟩
   show ∀H' n',Kp H n H' n'->k (.bool (twin ((AJl c.fs)[i]?) _||_)) H' n'
   rw[List.getElem?_eq_getElem hlt',List.getElem_map];exact hk
  cases i with
  |zero=>
   simp only[Nat.lt_irrefl,decide_false,go_sem,FB (show 0+1<9223372036854775808 by omega)]
   simp only[Bool.false_or]at hk
   exact next hk
  |succ i=>
   have hlt2:i<c.fs.length:=by omega
   obtain⟨r,hr,hldr⟩:=hf.at hlt2
   obtain⟨r',hr',hldr'⟩:=wK hG hldr rfl (o:=0) (x:=c.fs[i].nm.v) rfl
   simp only[Nat.zero_lt_succ,decide_true,go_sem,Nat.reduceAdd,l2,ALD (show i+1<9223372036854775808 by unfold big at hbf;omega),hr,hr',hldr',hp,hp',hld',AVz]
   have hk:∀H' n',Kp H n H' n'->k (.bool ((decide (c.fs[i].nm.1=c.fs[i+1].nm.1/\c.fs[i].nm.2=c.fs[i+1].nm.2)||twin (some c.fs[i+1].nm) ((AJl c.fs).drop (i+1+1)))||B)) H' n':=by
    have e:(AJl c.fs)[i]? =some c.fs[i].nm:=by rw[List.getElem?_map,List.getElem?_eq_getElem hlt2];rfl
    simp only[e]at hk;exact hk
   cases e:decide (c.fs[i].nm.1=c.fs[i+1].nm.1/\c.fs[i].nm.2=c.fs[i+1].nm.2)with
   |true=>rw[e]at hk;simp only[go_sem];exact hk _ _ f1
   |false=>
    rw[e]at hk
    simp only[go_sem,FB (show i+1+1<9223372036854775808 by unfold big at hbf;omega)]
    exact next hk
 ·rintro I q ⟨rfl,hk⟩
  show Pg lfp G (Runs F G) k I (.ptr n 0) (.int .i64 (.ofNat c.fs.length) 0) (.int .i64 (.ofNat c.fs.length) 0) H1 (n+1)
  delta Pg
  rw[List.drop_eq_nil_of_le (by simp)]at hk
  simp only[go_sem,Ns,Nat.lt_irrefl,decide_false]
  exact AT1 hk
structure AVF(G:AX)(H:Heap)(n m:Nat)(v:V)(cs:List Fc):Prop where
 is:∃LS:DZ,El G H v 4 LS/\LS.length=cs.length/\∀(i:Nat) (L:LV) (c:Fc),LS[i]? =some L->cs[i]? =some c->Qx G H m (.agg L) c
 lo:Lo v n
 lt:cs.length<=1000
 mn:m<=n
def AEB(fs:Tab):List Fc->Tab
 |[]=>fs
 |c::cs=>AEB (Vg c.nm c fs) cs
def QB(cs:List Fc):Tab:=AEB [] cs
theorem wX.put{G:AX}{H H':Heap}{n a:Nat}{fs:Tab}{v:V}{c:Fc}{ps:List (St×V)}(hm:yc H a ps)(hkey:keyed ps fs)(hv:∀s v c,Hf ps s=some v->Hf fs s=some c->Qx G H' n v c)(h1:yc H' a (Vg c.nm v ps))(hc:Qx G H' n v c):
 wX G H' n a (Vg c.nm c fs):=
 ⟨_,h1,AGw _ _ _ hkey,λs w d h2 h3=>by
  rw[TR]at h2 h3
  by_cases e:c.nm=s
  ·rw[if_pos e]at h2 h3;cases h2;cases h3;exact hc
  ·rw[if_neg e]at h2 h3;exact hv _ _ _ h2 h3⟩
theorem Qx.up{G:AX}{H:Heap}{n n':Nat}{v:V}{c:Fc}(h:Qx G H n v c)(hn:n<=n'):Qx G H n' v c:=h.ke ⟨hn,λ_ _ _ _ h=>h⟩
theorem AXu{G:AX}{H:Heap}{n m:Nat}{v:V}{cs:List Fc}(h:AVF G H n m v cs){k:KV}
 (hk:∀H' n' t a b,Kp H n H' n'->T.get H' t=some (one [.map a,.map b])->wX G H' m a (QB cs)->NK H' b->n<=a->a<b->b<t->t<n'->k (.ptr t 0) H' n'):Runs F G AEt [v] H n k:=by
 refine BH (s:=mO (nH lfp G)) tV (by obtain⟨h,o⟩:=AKI BI G;rw[tV]at h;cases h;exact o) ?_
 show nH lfp G (Runs F G) v H n k
 delta nH
 obtain⟨⟨LS,hel,hlen,hfv⟩,hlo,hlt,hmn⟩:=h
 simp only[ASt,go_sem,Nat.reduceAdd,show Dv [V.AJE,.AJE] [(0,1,.c (.map n)),(1,1,.c (.map (n+1)))]=some (.agg [.map n,.map (n+1)])from rfl,hel.len,hlen]
 have f1:Kp H n (T.set (T.set (T.set H n (.map [] 0)) (n+1) (.map [] 0)) (n+1+1) (one [.map n,.map (n+1)])) (n+1+1+1):=((((Kp.refl H n).new (m:=n+1) _ (Nat.le_refl _) (by omega)).new (m:=n+1+1) _ (by omega) (by omega)).new _ (by omega) (by omega))
 refine DF (N:=cs.length) (J:=λi q=>∃H' n' fs,q=(.ptr (n+1+1) 0,v,.int .i64 (.ofNat cs.length) 0,.int .i64 (.ofNat i) 0,H',n')/\Kp H n H' n'/\n+1+1<n'/\T.get H' (n+1+1)=some (one [.map n,.map (n+1)])/\wX G H' m n fs/\NK H' (n+1)/\
  AEB fs (cs.drop i)=QB cs) ?_ ?_ ⟨_,_,[],rfl,f1,by omega,T.BP ..,⟨[],⟨[],0,by rw[T.Ak _ _ (by omega),T.Ak _ _ (by omega),T.BP],rfl⟩,rfl,λs v c h=>by cases h⟩,⟨[],[],0,by rw[T.Ak _ _ (by omega),T.BP],rfl⟩,rfl⟩
 ·rintro I i q hi ⟨H3,n3,fs,rfl,f3,hn3,g3,hfa,hs,htab⟩ ih
  show VZ lfp G (Runs F G) k I (.ptr (n+1+1) 0) v (.int .i64 (.ofNat cs.length) 0) (.int .i64 (.ofNat i) 0) H3 n3
  delta VZ
  obtain⟨q,hp,hld⟩:=(hel.kp hlo f3).at (i:=i) (c:=LS[i]'(by omega)) (List.getElem?_eq_getElem _)
  have hf:=hfv i _ _ (List.getElem?_eq_getElem (by omega)) (List.getElem?_eq_getElem hi)
  rw[List.drop_eq_getElem_cons hi]at htab
  unfold AEB at htab
  generalize cs[i]=fc at hf htab
  obtain⟨vf,vm,ws,hf,e⟩:=hf
  have e':LS[i]'(by omega)=[fc.nm.v,fc.sup.v,vf,vm]:=by injection e
  rw[e']at hld
  simp only[go_sem,Ns,hi,decide_true,hp,Dx hld,Nat.reduceAdd]
  rw[T.set_set]
  rw[show AY (.ptr (n+1+1) 0) G (T.set H3 n3 (one [fc.nm.v,fc.sup.v,vf,vm]))=some (.map n)from AV ((T.Ak _ _ (by omega)).trans g3) rfl]
  obtain⟨ps,hps,hkey,hval⟩:=hfa.is
  simp only[go_sem]
  refine AM7 (AAZ hps (T.Ak _ _ (by omega))) fc.nm _ λH4 hm4 hs4=>?_
  simp only[go_sem,FB (show i+1<9223372036854775808 by omega)]
  have f4:Kp H n H4 (n3+1):=⟨by omega,λid hid=>by rw[hs4 id (by omega),T.Ak _ _ (by omega)];exact f3.same id hid⟩
  have f5:Kp H3 n H4 n:=⟨Nat.le_refl _,λid hid=>by rw[hs4 id (by omega),T.Ak _ _ (by omega)]⟩
  refine ih _ ⟨H4,_,Vg fc.nm fc fs,rfl,f4,by omega,?_,wX.put hps hkey (λs v c x y=>(hval s v c x y).ke (f5.ke.low hmn)) hm4 ⟨vf,vm,ws,hf.ke ((f4.ke).low hmn),rfl⟩,?_,htab⟩
  ·rw[hs4 _ (by omega),T.Ak _ _ (by omega)];exact g3
  ·exact hs.same (by rw[hs4 _ (by omega),T.Ak _ _ (by omega)])
 ·rintro I q ⟨H3,n3,fs,rfl,f3,hn3,g3,hfa,hs,htab⟩
  show VZ lfp G (Runs F G) k I (.ptr (n+1+1) 0) v (.int .i64 (.ofNat cs.length) 0) (.int .i64 (.ofNat cs.length) 0) H3 n3
  delta VZ
  simp only[go_sem,Ns,Nat.lt_irrefl,decide_false]
  delta iP
  rw[List.drop_eq_nil_of_le (Nat.le_refl _)]at htab
  have htab:fs=QB cs:=htab
  subst htab
  exact hk _ _ _ n (n+1) f3 g3 hfa hs (by omega) (by omega) (by omega) (by omega)
def AGm(fs:Tab)(sup:St)(m:Es):Bool:=match QF fs sup m.nm false with
 |some o=> !m.st&& !m.same o.2
 |none=>false
def U2(fs:Tab)(sup:St):List Es->Int
 |[]=>0
 |m::ms=>bif !((m.ret::m.ps).all (Cb fs))then 23 else bif AGm fs sup m then 27 else U2 fs sup ms
def yX(fs:Tab)(sup:St)(r:Int):List Dh->Int
 |[]=>r
 |f::l=>bif !([f.ty].all (Cb fs))then 23 else bif (Yj fs sup f.nm).isSome then 6 else yX fs sup r l
structure AMs(G:AX)(H0:Heap)(n0:Nat)(H:Heap)(n t a b e:Nat)(fs:Tab)(c:Fc)(vf vm:V)(ws:List V):Prop where
 f:Kb b H0 n0 H n
 en:e<n
 e0:n0<=e
 g:T.get H e=some (one [c.nm.v,c.sup.v,vf,vm])
theorem AHf{G:AX}{H0 H:Heap}{n0 n t a b e:Nat}{fs:Tab}(h:TabAt G H0 n0 t a b fs)(hfs:fs.length<=1000){c:Fc}{vf vm:V}{ws:List V}(hc:AMs G H0 n0 H n t a b e fs c vf vm ws)
 (hf:AAA G H0 n0 [c.nm.v,c.sup.v,vf,vm] c vf vm ws) (hps:∀m∈c.ms,m.ps.length<=100000) {k:KV} (hk:∀H' n',Kb b H0 n0 H' n'->k (.int .i64 (U2 fs c.sup c.ms) 0) H' n'):
 MC lfp G (Runs F G) k (.ptr t 0) (.ptr e 0) H n:=by
 delta MC
 have hbig:=hf.ms.lt
 have hbn:=h.bn
 simp only[go_sem,Nat.reduceAdd,AV (off:=3) hc.g (v:=vm) rfl,hf.ms.len']
 refine DF (N:=c.ms.length) (J:=λi q=>∃H' n',q=(.ptr t 0,.ptr e 0,vm,.int .i64 (.ofNat c.ms.length) 0,.int .i64 (.ofNat i) 0,H',n')/\AMs G H0 n0 H' n' t a b e fs c vf vm ws/\
  (∀H' n',Kb b H0 n0 H' n'->k (.int .i64 (U2 fs c.sup (c.ms.drop i)) 0) H' n')) ?_ ?_ ⟨H,n,rfl,hc,hk⟩
 ·rintro I i q hlt ⟨H3,n3,rfl,hc,hk⟩ ih
  show JK lfp G (Runs F G) k I (.ptr t 0) (.ptr e 0) vm (.int .i64 (.ofNat c.ms.length) 0) (.int .i64 (.ofNat i) 0) H3 n3
  delta JK
  have f3:=hc.f
  have hen:=hc.en
  have he0:=hc.e0
  have hm3:TA G H3 n0 vm c.ms ws:=hf.ms.ke ((f3.ke h.seen).low (Nat.le_refl _))
  obtain⟨q,w,hp,hld,hw⟩:=hm3.at hlt
  have hps:=hps _ (List.getElem_mem hlt)
  have hok:=hf.ms.ok _ (List.getElem_mem hlt)
  rw[List.drop_eq_getElem_cons hlt]at hk
  unfold U2 at hk
  generalize c.ms[i]=m at hld hk hw hps hok
  unfold Es.cells at hld
  simp only[go_sem,Ns,hlt,decide_true,hp,Dx hld,Nat.reduceAdd]
  rw[T.set_set]
  have g4:=T.BP H3 n3 (one [m.nm.v,.bool m.st,w,m.ret.nm.v,.bool m.ret.arr])
  have f4:Kp H3 n3 (T.set H3 n3 (one [m.nm.v,.bool m.st,w,m.ret.nm.v,.bool m.ret.arr])) (n3+1):=(Kp.refl _ _).new _ (Nat.le_refl _) (by omega)
  generalize T.set H3 n3 (one [m.nm.v,.bool m.st,w,m.ret.nm.v,.bool m.ret.arr])=H4 at f4 g4
  rw[show Ag 2 (.ptr n3 3) G H4=some (.agg m.ret.cells)from EM g4 (by omega) (by show 5<=5;omega)]
  simp only[go_sem,Nat.reduceAdd]
  rw[AP4 (z:=2) (L:=m.ret.cells) rfl]
  have hcap:=T.BP H4 (n3+1) (.arr 2 1 (T.set (T.set .e 0 [.str 0 0,.bool false]) 0 m.ret.cells))
  have f5:Kp H4 (n3+1) (T.set H4 (n3+1) (.arr 2 1 (T.set (T.set .e 0 [.str 0 0,.bool false]) 0 m.ret.cells))) (n3+1+1):=(Kp.refl _ _).new _ (Nat.le_refl _) (by omega)
  generalize T.set H4 (n3+1) (.arr 2 1 (T.set (T.set .e 0 [.str 0 0,.bool false]) 0 m.ret.cells))=H5 at f5 hcap
  have g5:=f5.get g4 (by omega)
  have hel:=AIQ (G:=G) (by omega) (show m.ret.cells.length=2 from rfl) hcap
  have fb5:=f3.trans ((f4.trans f5).kb (b:=b) (by omega))
  have hw5:=hw.ke (((f4.trans f5).ke).low (m:=n0) (by omega))
  simp only[go_sem,AV (off:=2) g5 (v:=w) rfl]
  refine ANE (by omega) hcap (by omega) hel.2 hw5.el.2 (by rw[ADr];omega) λv6 H6 n6 hel6 hs6 hn6 hlo6=>?_
  have f6:Kp H5 (n3+1+1) H6 n6:=⟨hn6,hs6⟩
  have fb6:=fb5.trans (f6.kb (b:=b) (by omega))
  have g6:=f6.get g5 (by omega)
  refine mW (xs:=m.ret::m.ps) (h.kb fb6) ⟨hel6,hlo6,by simp[big];omega,?_⟩ λH7 n7 f7=>?_
  ·intro x hx
   rcases List.mem_cons.1 hx with rfl|hx
   ·exact hok.2
   ·exact hw.ok _ hx
  have fb7:=fb6.trans f7
  have h7n:=f7.le
  have g7:=f7.get g6 (by omega) (by omega)
  simp only[go_sem,Nat.reduceAdd,GL]
  cases h1:(m.ret::m.ps).all (Cb fs)with
  |false=>
   rw[h1]at hk
   simp only[Bool.not_false,cond_true]at hk
   simp only[Bool.not_false,go_sem]
   exact hk _ _ fb7
  |true=>
   rw[h1]at hk
   simp only[Bool.not_true,cond_false]at hk
   have fe:Kb b H3 n3 H7 n7:=((f4.trans (f5.trans f6)).kb (b:=b) (by omega)).trans f7
   have ge:T.get H7 e=some (one [c.nm.v,c.sup.v,vf,vm]):=fe.get hc.g hen (by omega)
   simp only[Bool.not_true,go_sem,Nat.reduceAdd,AV (off:=1) ge (v:=c.sup.v) rfl,AV (off:=0) g7 (v:=m.nm.v) rfl]
   refine APB (c:=c.sup) (s:=m.nm) (st:=false) (h.kb fb7) hfs λH8 n8 x f8 hx=>?_
   have fb8:=fb7.trans f8
   have h8n:=f8.le
   have g8:=f8.get g7 (by omega) (by omega)
   have hw8:tq G H8 n7 (.agg (m.cells w)) m:=⟨w,rfl,(hw.ke (((fe.trans f8).ke (f3.seen h.seen)).low (m:=n0) (by omega))).ke ⟨by omega,λ_ _ _ _ h=>h⟩⟩
   obtain⟨y,rfl,hy⟩:=hx
   unfold AGm at hk
   have next:∀H' n',Kb b H8 n8 H' n'->(∀H' n',Kb b H0 n0 H' n'->k (.int .i64 (U2 fs c.sup (c.ms.drop (i+1))) 0) H' n')->I (.ptr t 0,.ptr e 0,vm,.int .i64 (.ofNat c.ms.length) 0,.int .i64 (.ofNat (i+1)) 0,H',n'):=λH' n' f hk=>
    ih _ ⟨_,_,rfl,⟨fb8.trans f,by have:=f.le;omega,he0,f.get (f8.get ge (by omega) (by omega)) (by omega) (by omega)⟩,hk⟩
   simp only[go_sem,Nat.reduceAdd]
   have g9:=T.BP H8 n8 (one (((QF fs c.sup m.nm false).getD ((0,0),Ym)).2.cells y))
   have f9:Kp H8 n8 (T.set H8 n8 (one (((QF fs c.sup m.nm false).getD ((0,0),Ym)).2.cells y))) (n8+1):=(Kp.refl _ _).new _ (Nat.le_refl _) (by omega)
   unfold Es.cells at g9 f9⊢
   simp only[go_sem,Nat.reduceAdd]
   rw[T.set_set]
   cases h2:QF fs c.sup m.nm false with
   |none=>
    rw[h2]at hk f9
    simp only[cond_false]at hk
    simp only[Option.isSome_none,go_sem,FB (show i+1<9223372036854775808 by unfold big at hbig;omega)]
    exact next _ _ (f9.kb (by omega)) hk
   |some o=>
    rw[h2]at hk f9 g9 hy
    simp only[Option.getD_some]at f9 g9 hy
    simp only[Option.isSome_some,Option.getD_some]
    generalize T.set H8 n8 (one [o.2.nm.v,.bool o.2.st,y,o.2.ret.nm.v,.bool o.2.ret.arr])=H9 at f9 g9
    have gm:=f9.get g8 (by omega)
    simp only[go_sem,Nat.reduceAdd,AV (off:=1) gm (v:=.bool m.st) rfl,GL]
    cases h3:m.st with
    |true=>
     rw[h3]at hk
     simp only[Bool.not_true,Bool.false_and,cond_false]at hk
     simp only[Bool.not_true,go_sem,FB (show i+1<9223372036854775808 by unfold big at hbig;omega)]
     exact next _ _ (f9.kb (by omega)) hk
    |false=>
     rw[h3]at hk
     simp only[Bool.not_false,Bool.true_and]at hk
     simp only[Bool.not_false,go_sem,Bf (m:=5) gm (by omega) rfl,Bf (m:=5) g9 (by omega) rfl]
     have hwS:tq G H9 (n8+1) (.agg [m.nm.v,.bool m.st,w,m.ret.nm.v,.bool m.ret.arr]) m:=hw8.ke ⟨by omega,λv z LS hl he=>(f9.ke).el v z LS (hl.mono (by omega)) he⟩
     have hyS:tq G H9 (n8+1) (.agg [o.2.nm.v,.bool o.2.st,y,o.2.ret.nm.v,.bool o.2.ret.arr]) o.2:=⟨y,rfl,hy.ke ⟨by omega,λv z LS hl he=>(f9.ke).el v z LS (hl.mono (by omega)) he⟩⟩
     refine AGv hwS hyS λH10 n10 f10=>?_
     have f11:=(f9.trans f10).kb (b:=b) (by omega)
     simp only[go_sem,GL]
     cases h4:m.same o.2 with
     |false=>
      rw[h4]at hk
      simp only[Bool.not_false,cond_true]at hk
      simp only[Bool.not_false,go_sem]
      exact hk _ _ (fb8.trans f11)
     |true=>
      rw[h4]at hk
      simp only[Bool.not_true,cond_false]at hk
      simp only[Bool.not_true,go_sem,FB (show i+1<9223372036854775808 by unfold big at hbig;omega)]
      exact next _ _ f11 hk
 ·rintro I q ⟨H3,n3,rfl,hc,hk⟩
  show JK lfp G (Runs F G) k I (.ptr t 0) (.ptr e 0) vm (.int .i64 (.ofNat c.ms.length) 0) (.int .i64 (.ofNat c.ms.length) 0) H3 n3
  delta JK
  rw[List.drop_eq_nil_of_le (Nat.le_refl _)]at hk
  simp only[go_sem,Ns,Nat.lt_irrefl,decide_false]
  delta Qo
  exact hk _ _ hc.f
theorem AJa{G:AX}{H0 H:Heap}{n0 n t a b e:Nat}{fs:Tab}(h:TabAt G H0 n0 t a b fs)(hfs:fs.length<=1000){c:Fc}{vf vm:V}{ws:List V}(hc:AMs G H0 n0 H n t a b e fs c vf vm ws)
 (hf:AAA G H0 n0 [c.nm.v,c.sup.v,vf,vm] c vf vm ws) (hps:∀m∈c.ms,m.ps.length<=100000) {k:KV} (hk:∀H' n',Kb b H0 n0 H' n'->k (.int .i64 (yX fs c.sup (U2 fs c.sup c.ms) c.fs) 0) H' n'):
 lfp (V×V×V×V×V×Heap×Nat) (Pn lfp G (Runs F G) k) (.ptr t 0,.ptr e 0,vf,.int .i64 (.ofNat c.fs.length) 0,.int .i64 (.ofNat 0) 0,H,n):=by
 have hbig:=hf.fs.lt
 have hbn:=h.bn
 refine DF (N:=c.fs.length) (J:=λi q=>∃H' n',q=(.ptr t 0,.ptr e 0,vf,.int .i64 (.ofNat c.fs.length) 0,.int .i64 (.ofNat i) 0,H',n')/\AMs G H0 n0 H' n' t a b e fs c vf vm ws/\
  (∀H' n',Kb b H0 n0 H' n'->k (.int .i64 (yX fs c.sup (U2 fs c.sup c.ms) (c.fs.drop i)) 0) H' n')) ?_ ?_ ⟨H,n,rfl,hc,hk⟩
 ·rintro I i q hlt ⟨H3,n3,rfl,hc,hk⟩ ih
  show JF lfp G (Runs F G) k I (.ptr t 0) (.ptr e 0) vf (.int .i64 (.ofNat c.fs.length) 0) (.int .i64 (.ofNat i) 0) H3 n3
  delta JF
  have f3:=hc.f
  have hen:=hc.en
  have he0:=hc.e0
  have hm3:Xd G H3 n0 vf c.fs:=hf.fs.ke ((f3.ke h.seen).low (Nat.le_refl _))
  obtain⟨q,hp,hld⟩:=hm3.at hlt
  have hok:=hf.fs.ok _ (List.getElem_mem hlt)
  rw[List.drop_eq_getElem_cons hlt]at hk
  unfold yX at hk
  generalize c.fs[i]=m at hld hk hok
  unfold Dh.cells at hld
  simp only[go_sem,Ns,hlt,decide_true,hp,Dx hld,Nat.reduceAdd]
  rw[T.set_set]
  have g4:=T.BP H3 n3 (one [m.nm.v,m.ty.nm.v,.bool m.ty.arr])
  have f4:Kp H3 n3 (T.set H3 n3 (one [m.nm.v,m.ty.nm.v,.bool m.ty.arr])) (n3+1):=(Kp.refl _ _).new _ (Nat.le_refl _) (by omega)
  generalize T.set H3 n3 (one [m.nm.v,m.ty.nm.v,.bool m.ty.arr])=H4 at f4 g4
  rw[show Ag 2 (.ptr n3 1) G H4=some (.agg m.ty.cells)from EM g4 (by omega) (by show 3<=3;omega)]
  simp only[go_sem,Nat.reduceAdd]
  rw[AP4 (z:=2) (L:=m.ty.cells) rfl]
  have hcap:=T.BP H4 (n3+1) (.arr 2 1 (T.set (T.set .e 0 [.str 0 0,.bool false]) 0 m.ty.cells))
  have f5:Kp H4 (n3+1) (T.set H4 (n3+1) (.arr 2 1 (T.set (T.set .e 0 [.str 0 0,.bool false]) 0 m.ty.cells))) (n3+1+1):=(Kp.refl _ _).new _ (Nat.le_refl _) (by omega)
  generalize T.set H4 (n3+1) (.arr 2 1 (T.set (T.set .e 0 [.str 0 0,.bool false]) 0 m.ty.cells))=H5 at f5 hcap
  have g5:=f5.get g4 (by omega)
  have hel:=AIQ (G:=G) (by omega) (show m.ty.cells.length=2 from rfl) hcap
  have fb5:=f3.trans ((f4.trans f5).kb (b:=b) (by omega))
  refine mW (xs:=[m.ty]) (h.kb fb5) ⟨hel,λid hid=>by cases hid;omega,by show 1<big;decide,?_⟩ λH7 n7 f7=>?_
  ·intro x hx;simp at hx;subst hx;exact hok.2
  have fb7:=fb5.trans f7
  have h7n:=f7.le
  have g7:=f7.get g5 (by omega) (by omega)
  simp only[go_sem,Nat.reduceAdd,GL]
  cases h1:[m.ty].all (Cb fs)with
  |false=>
   rw[h1]at hk
   simp only[Bool.not_false,cond_true]at hk
   simp only[Bool.not_false,go_sem]
   exact hk _ _ fb7
  |true=>
   rw[h1]at hk
   simp only[Bool.not_true,cond_false]at hk
   have fe:Kb b H3 n3 H7 n7:=((f4.trans f5).kb (b:=b) (by omega)).trans f7
   have ge:T.get H7 e=some (one [c.nm.v,c.sup.v,vf,vm]):=fe.get hc.g hen (by omega)
   simp only[Bool.not_true,go_sem,Nat.reduceAdd,AV (off:=1) ge (v:=c.sup.v) rfl,AV (off:=0) g7 (v:=m.nm.v) rfl]
   refine AMM (c:=c.sup) (s:=m.nm) (h.kb fb7) hfs λH8 n8 f8=>?_
   have fb8:=fb7.trans f8
   have h8n:=f8.le
   unfold Ty.v Ty.cells
   simp only[go_sem,Nat.reduceAdd]
   rw[T.set_set]
   have f9:Kp H8 n8 (T.set H8 n8 (one [((Yj fs c.sup m.nm).getD ((0,0),tyZ)).2.nm.v,.bool ((Yj fs c.sup m.nm).getD ((0,0),tyZ)).2.arr])) (n8+1):=(Kp.refl _ _).new _ (Nat.le_refl _) (by omega)
   have fb9:=fb8.trans (f9.kb (b:=b) (by omega))
   cases h2:(Yj fs c.sup m.nm).isSome with
   |true=>
    rw[h2]at hk
    simp only[cond_true]at hk
    simp only[go_sem]
    exact hk _ _ fb9
   |false=>
    rw[h2]at hk
    simp only[cond_false]at hk
    simp only[go_sem,FB (show i+1<9223372036854775808 by unfold big at hbig;omega)]
    exact ih _ ⟨_,_,rfl,⟨fb9,by omega,he0,f9.get (f8.get ge (by omega) (by omega)) (by omega)⟩,hk⟩
 ·rintro I q ⟨H3,n3,rfl,hc,hk⟩
  show JF lfp G (Runs F G) k I (.ptr t 0) (.ptr e 0) vf (.int .i64 (.ofNat c.fs.length) 0) (.int .i64 (.ofNat c.fs.length) 0) H3 n3
  delta JF
  rw[List.drop_eq_nil_of_le (Nat.le_refl _)]at hk
  simp only[go_sem,Ns,Nat.lt_irrefl,decide_false]
  exact AHf h hfs hc hf hps hk
theorem AGJ:∀(m:Nat) (fs:Tab) (out:List St) (s:St),out.length<=(Tv m fs out s).1.length
 |0,_,_,_=>Nat.le_refl _
 |m+1,fs,out,s=>by
  unfold Tv
  cases decide (s.1=0/\s.2=0)with
  |true=>exact Nat.le_refl _
  |false=>
   simp only[cond_false]
   cases Hf fs s with
   |none=>exact Nat.le_refl _
   |some c=>
    show _<=(bif AAE s out then(out,false)else Tv m fs (out++[s]) c.sup).1.length
    cases AAE s out with
    |true=>exact Nat.le_refl _
    |false=>have:=AGJ m fs (out++[s]) c.sup;simp only[List.length_append,List.length_singleton]at this;simp only[cond_false];omega
theorem ANi{fs:Tab}{s:St}{c:Fc}(h:Hf fs s=some c)(h0:¬(s.1=0/\s.2=0)):1<=(above fs s).1.length:=by
 unfold above Tv
 rw[decide_eq_false h0,h]
 show 1<=(Tv fs.length fs [s] c.sup).1.length
 exact AGJ fs.length fs [s] c.sup
def lastOf(xs:List St):St:=(xs[xs.length-1]?).getD (0,0)
def iL(fs:Tab)(s:St):Int:=match Hf fs s with
 |none=>23
 |some c=>bif decide (s.1=0/\s.2=0)then 23 else
  bif !(above fs s).2&& !AAE ((Hf fs (lastOf (above fs s).1)).getD Fh).sup (above fs s).1 then 23 else
  bif !(above fs s).2 then 26 else bif twice c then 6 else yX fs c.sup (U2 fs c.sup c.ms) c.fs
theorem ARu{G:AX}(hG:AGA G){H:Heap}{n t a b:Nat}{fs:Tab}(h:TabAt G H n t a b fs)(hfs:fs.length<=1000)(hps:∀s c,Hf fs s=some c->∀m∈c.ms,m.ps.length<=100000){s:St}{k:KV}
 (hk:∀H' n',Kb b H n H' n'->k (.int .i64 (iL fs s) 0) H' n'):Runs F G bI [.ptr t 0,s.v] H n k:=by
 refine BH (s:=N7 (QI lfp G)) U7 (by obtain⟨h,o⟩:=xk BI G;rw[U7]at h;cases h;exact o) ?_
 show QI lfp G (Runs F G) (.ptr t 0) s.v H n k
 delta QI
 have hbn:=h.bn
 unfold iL at hk
 refine tC (s:=s) h (Nat.le_refl _) λH1 n1 w f1 hw=>?_
 obtain⟨vf,vm,ws,hw,rfl⟩:=hw
 have h1n:=f1.le
 simp only[go_sem,Nat.reduceAdd,GL]
 rw[T.set_set]
 have g2:=T.BP H1 n1 (one [((Hf fs s).getD Fh).nm.v,((Hf fs s).getD Fh).sup.v,vf,vm])
 have f2:Kp H1 n1 (T.set H1 n1 (one [((Hf fs s).getD Fh).nm.v,((Hf fs s).getD Fh).sup.v,vf,vm])) (n1+1):=(Kp.refl _ _).new _ (Nat.le_refl _) (by omega)
 have fb2:=f1.trans (f2.kb (b:=b) (by omega))
 cases hl:Hf fs s with
 |none=>
  rw[hl]at hk fb2
  simp only[Option.isSome_none,Bool.not_false,go_sem]
  exact hk _ _ fb2
 |some c=>
  rw[hl]at hk fb2 g2 f2 hw
  simp only[Option.getD_some]at hk fb2 g2 f2 hw
  simp only[Option.isSome_some,Bool.not_true,go_sem,Option.getD_some,show EN (.one .str) false s.v (.str 0 0)=some (.bool (decide (s.1=0/\s.2=0)))from ABt ..]
  cases h0:decide (s.1=0/\s.2=0)with
  |true=>
   rw[h0]at hk
   simp only[go_sem]
   exact hk _ _ fb2
  |false=>
   rw[h0]at hk
   simp only[cond_false]at hk
   simp only[go_sem]
   generalize T.set H1 n1 (one [c.nm.v,c.sup.v,vf,vm])=H2 at fb2 g2 f2
   refine ABi (s:=s) (h.kb fb2) hfs λH3 n3 v f3 ho hlen=>?_
   have hpos:=ANi hl (of_decide_eq_false h0)
   generalize(above fs s).1=up at ho hlen hpos hk
   generalize(above fs s).2=whole at hk
   have fb3:=fb2.trans f3
   have h3n:=f3.le
   have g3:=f3.get g2 (by omega) (by omega)
   have hel:=ho.el (by omega)
   obtain⟨m,hm⟩:∃m,up.length=m+1:=⟨up.length-1,by omega⟩
   have hlt:m<up.length:=by omega
   obtain⟨q,hp,hld⟩:=hel.at (ABQ hlt)
   have hlast:lastOf up=up[m]:=by unfold lastOf;rw[show up.length-1=m by omega,List.getElem?_eq_getElem hlt];rfl
   simp only[go_sem,hel.len,lQ,hm,ALD (show m+1<9223372036854775808 by omega),hp,ni hld]
   rw[<-hlast]
   refine tC (s:=lastOf up) (h.kb fb3) (Nat.le_refl _) λH4 n4 w f4 hw4=>?_
   obtain⟨vf4,vm4,ws4,hw4,rfl⟩:=hw4
   have fb4:=fb3.trans f4
   have h4n:=f4.le
   have g4:=f4.get g3 (by omega) (by omega)
   have ho4:=ho.kb f4 (by omega)
   simp only[go_sem,Nat.reduceAdd,GL]
   rw[T.set_set]
   generalize(Hf fs (lastOf up)).getD Fh=lc at hw4 hk
   have g5:=T.BP H4 n4 (one [lc.nm.v,lc.sup.v,vf4,vm4])
   have f5:Kp H4 n4 (T.set H4 n4 (one [lc.nm.v,lc.sup.v,vf4,vm4])) (n4+1):=(Kp.refl _ _).new _ (Nat.le_refl _) (by omega)
   generalize T.set H4 n4 (one [lc.nm.v,lc.sup.v,vf4,vm4])=H5 at g5 f5
   have fb5:=fb4.trans (f5.kb (b:=b) (by omega))
   have ge:=f5.get g4 (by omega)
   cases whole with
   |false=>
    simp only[Bool.not_false,Bool.true_and]at hk
    simp only[Bool.not_false,go_sem,Nat.reduceAdd,AV (off:=1) g5 (v:=lc.sup.v) rfl]
    refine zl (s:=lc.sup) (xs:=up) ((ho4.kp f5).el (by omega)) (by omega) ?_
    simp only[go_sem,GL]
    cases h6:AAE lc.sup up with
    |false=>
     rw[h6]at hk
     simp only[Bool.not_false,cond_true]at hk
     simp only[Bool.not_false,go_sem]
     exact hk _ _ fb5
    |true=>
     rw[h6]at hk
     simp only[Bool.not_true,cond_false,cond_true]at hk
     simp only[Bool.not_true,go_sem]
     exact hk _ _ fb5
   |true=>
    simp only[Bool.not_true,Bool.false_and,cond_false]at hk
    have fe:Kb b H1 n1 H5 (n4+1):=(f2.kb (by omega)).trans (f3.trans (f4.trans (f5.kb (by omega))))
    simp only[Bool.not_true,go_sem]
    rw[Bf (m:=4) ge (by omega) rfl,AQ]
    have hwf:Qx G H5 (n4+1) (.agg [c.nm.v,c.sup.v,vf,vm]) c:=⟨vf,vm,ws,(hw.ke ((fe.ke (f1.seen h.seen)).low h1n)).ke ⟨by omega,λ_ _ _ _ h=>h⟩,rfl⟩
    refine AS8 hG hwf λH6 n6 f6=>?_
    have fb6:=fb5.trans (f6.kb (b:=b) (by omega))
    have h6n:=f6.le
    cases h7:twice c with
    |true=>
     rw[h7]at hk
     simp only[cond_true]at hk
     simp only[go_sem]
     exact hk _ _ fb6
    |false=>
     rw[h7]at hk
     simp only[cond_false]at hk
     have ge6:=f6.get ge (by omega)
     simp only[go_sem,Nat.reduceAdd,AV (off:=2) ge6 (v:=vf) rfl,hw.fs.len]
     exact AJa (h.kb (f1.low (Nat.le_refl _))) hfs ⟨(fe.trans (f6.kb (by omega))).AWv h1n,by omega,h1n,ge6⟩ hw (hps s c hl) λH' n' f=>hk _ _ ((f1.low (Nat.le_refl _)).trans f)
structure AQu(G:AX)(H:Heap)(n i t a b fm:Nat)(vn:V)(fs:Tab):Prop where
 iN:i<n
 ib:i≠b
 at':T.get H i=some (one [.ptr t 0,.map fm,vn])
 tab:TabAt G H n t a b fs
section
variable{G:AX}{H0 H:Heap}{n0 n i t a b fm e:Nat}{vn:V}{fs:Tab}{p:Pool}{v0 v1 v2 v3 v4:V}{ws:List V}{k:KV}
structure Aba(G:AX)(H0:Heap)(n0:Nat)(H:Heap)(n b e:Nat)(v0 v1 v2 v3 v4:V):Prop where
 f:Kb b H0 n0 H n
 en:e<n
 e0:n0<=e
 g:T.get H e=some (one [v0,v1,v2,v3,v4])
end
structure AZV(G:AX)(H:Heap)(n:Nat)(v:V)(fls:List Fl):Prop where
 is:∃LS:DZ,El G H v 10 LS/\LS.length=fls.length/\∀(i:Nat) (L:LV) (f:Fl),LS[i]? =some L->fls[i]? =some f->AUD G H n (.agg L) f
 lo:Lo v n
 lt:fls.length<big
structure ARt(G:AX)(H:Heap)(n a:Nat)(fs:List (St×Fl)):Prop where
 is:∃ps,yc H a ps/\keyed ps fs/\∀s v c,Hf ps s=some v->Hf fs s=some c->AUD G H n v c
def AGK(fs:List (St×Fl)):List Fl->List (St×Fl)
 |[]=>fs
 |c::cs=>AGK (Vg c.face.nm c fs) cs
abbrev ASw(fls:List Fl):=AGK [] fls
abbrev ARz(fls:List Fl):List Fc:=fls.map λf=>f.face
abbrev ATJ(fls:List Fl):List St:=fls.map λf=>f.face.nm
structure Abv(G:AX)(H:Heap)(n m i:Nat)(fls:List Fl):Prop where
 is:∃t a b fm vn,AQu G H n i t a b fm vn (QB (ARz fls))/\ARt G H n fm (ASw fls)/\fm<n/\fm≠b/\El G H vn 1 (strs (ATJ fls))/\Lo vn n/\m<=i/\m<=t/\m<=a/\m<=b/\m<=fm
end Go.RL
namespace Go.RL
open Go.DW
set_option maxRecDepth 100000
theorem ATi{a b:Nat}(h:a+b<9223372036854775808):B2.ev .add (.int .i64 (.ofNat a) 0) (.int .i64 (.ofNat b) 0)=some (.int .i64 (.ofNat (a+b)) 0):=by
 show some (V.int .i64 (qN .i64 (AF9 (.ofNat a) (.ofNat b))) 0)=_
 rw[Ze,ABR,ay (by simp;omega) (by simp;omega)];rfl
def small(fs:Tab):Prop:=∀s c,Hf fs s=some c->c.fs.length<=200
theorem AKk{z:Nat}{Z:LV}{H:Heap}{n:Nat}{P:KV}:Bh (Af z 0 Z [] E0) H n P=P (.sl n 0 0 0 z) (T.set H n (.arr z 0 .e)) (n+1):=by
 show ER (band true true) (FT n λn=>P (.sl n 0 0 0 z) (T.set H n (.arr z 0 .e)) (Nat.succ n))=_
 rw[CS];rfl
structure Img where
 i:Nat
 t:Nat
 a:Nat
 b:Nat
 f:Nat
 v:V
abbrev Img.At(G:AX)(H:Heap)(n:Nat)(x:Img)(fs:Tab):Prop:=AQu G H n x.i x.t x.a x.b x.f x.v fs
end Go.RL
