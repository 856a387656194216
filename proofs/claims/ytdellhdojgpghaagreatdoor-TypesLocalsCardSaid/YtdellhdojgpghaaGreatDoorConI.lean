/- Part of a proof; nothing is assumed. -/
import Derived.Test.YtdellhdojgpghaaGreatDoorConH
set_option linter.unusedVariables false
set_option linter.unusedSimpArgs false
namespace Go.RL
open Go.Bj
set_option maxRecDepth 100000
theorem ARb{s:St}(h:okS s=true):s.ok:=by
 intro h0
 unfold okS at h
 rw[decide_eq_true h0,Bool.not_true,Bool.false_or]at h
 exact of_decide_eq_true h
theorem ALA{s:St}{t:Ty}:∀{fs:List ER},AD2 s fs=some t->∃f∈fs,f.ty=t
 |[],h=>by cases h
 |f::l,h=>by
  have h:(bif decide (f.nm.1=s.1/\f.nm.2=s.2)then some f.ty else AD2 s l)=some t:=h
  cases hd:decide (f.nm.1=s.1/\f.nm.2=s.2)with
  |true=>rw[hd]at h;exact⟨f,List.mem_cons_self ..,Option.some.inj h⟩
  |false=>rw[hd]at h;obtain⟨g,hg,e⟩:=ALA (fs:=l) h;exact⟨g,List.mem_cons_of_mem _ hg,e⟩
theorem AHa{s:St}{m:FN}:∀{ms:List FN},WC s ms=some m->m∈ms
 |[],h=>by cases h
 |f::l,h=>by
  have h:(bif decide (f.nm.1=s.1/\f.nm.2=s.2)then some f else WC s l)=some m:=h
  cases hd:decide (f.nm.1=s.1/\f.nm.2=s.2)with
  |true=>rw[hd]at h;cases h;exact List.mem_cons_self ..
  |false=>rw[hd]at h;exact List.mem_cons_of_mem _ (AHa (ms:=l) h)
theorem AHH{tb:Tab}{s:St}{p:St×Ty}:∀{cs:List St},ADm tb s cs=some p->∃u c,JV tb u=some c/\∃f∈c.fs,f.ty=p.2
 |[],h=>by cases h
 |u::cs,h=>by
  have h:(match AD2 s ((JV tb u).getD GU).fs with|some t=>some (u,t)|none=>ADm tb s cs)=some p:=h
  cases hf:AD2 s ((JV tb u).getD GU).fs with
  |none=>rw[hf]at h;exact AHH (cs:=cs) h
  |some t=>
   rw[hf]at h
   cases h
   cases hl:JV tb u with
   |none=>rw[hl]at hf;cases hf
   |some c=>rw[hl]at hf;exact⟨u,c,hl,ALA hf⟩
theorem AFL{tb:Tab}{s:St}{st:Bool}{p:St×FN}:∀{cs:List St},Pm tb s st cs=some p->∃u c,JV tb u=some c/\p.2∈c.ms
 |[],h=>by cases h
 |u::cs,h=>by
  have h:(match AHS st s ((JV tb u).getD GU).ms with|some m=>some (u,m)|none=>Pm tb s st cs)=some p:=h
  cases hf:AHS st s ((JV tb u).getD GU).ms with
  |none=>rw[hf]at h;exact AFL (cs:=cs) h
  |some t=>
   rw[hf]at h
   cases h
   unfold AHS at hf
   cases hm:WC s ((JV tb u).getD GU).ms with
   |none=>rw[hm]at hf;cases hf
   |some q=>
    rw[hm]at hf
    have hq:q=t:=by
     cases hs:q.st==st with
     |false=>simp only[hs,cond_false]at hf;cases hf
     |true=>simp only[hs,cond_true]at hf;exact Option.some.inj hf
    subst hq
    cases hl:JV tb u with
    |none=>rw[hl]at hm;cases hm
    |some c=>rw[hl]at hm;exact⟨u,c,hl,AHa hm⟩
theorem AK4{s:St}{t:Ty}:∀{Γ:List ER},JF s Γ=some t->∃f∈Γ,f.ty=t
 |[],h=>by cases h
 |f::l,h=>by
  have h:(bif decide (f.nm=s)then some f.ty else JF s l)=some t:=h
  cases hd:decide (f.nm=s)with
  |true=>rw[hd]at h;exact⟨f,List.mem_cons_self ..,Option.some.inj h⟩
  |false=>rw[hd]at h;obtain⟨g,hg,e⟩:=AK4 (Γ:=l) h;exact⟨g,List.mem_cons_of_mem _ hg,e⟩
section
variable{G:AV}{K:Kq}{M:Km}{Γ:List ER}{nm:St}{ty:Ty}{p:Ty×St}
theorem AKJ(o:Ry G K){c:Ty}{st:Bool}{gs:List Ty}(h:ABT (K.x M) c nm st gs=some p):p.1.nm.ok/\gs.length<=1000:=by
 obtain⟨_,s,hm,hf,e⟩:=AB5 h
 obtain⟨u,c',hl,hmem⟩:=AFL hm
 have h1:=(o.tn u c' hl).2 s hmem
 have h2:=o.ar u c' hl s hmem
 have h3:=AFT hf
 exact⟨by rw[e];exact h1,by omega⟩
theorem AOZ(o:Ry G K)(hΓ:∀f∈Γ,f.ty.nm.ok)(hty:ty.nm.ok)(kind:Nat)(ks:List Ty)(hks:∀t∈ks,t.nm.ok)(h:yw (K.x M) Γ kind nm ty ks=some p):p.1.nm.ok/\ks.length<=1001:=by
 have i0:DZ.nm.ok:=by intro h;cases h
 have b0:Df.nm.ok:=by intro h;cases h
 have okT':∀{b:Bool} {t:Ty} {w:St},iY b t w=some p->t.nm.ok->p.1.nm.ok:=λh ht=>by rw[(Nq h).2];exact ht
 match kind,h with
 |0,h=>cases h
 |1,h=>rcases ks with _|⟨a,l⟩;(cases h;exact⟨i0,Nat.zero_le _⟩);cases h
 |2,h=>rcases ks with _|⟨a,l⟩;(cases h;exact⟨b0,Nat.zero_le _⟩);cases h
 |3,h=>rcases ks with _|⟨a,l⟩;(cases h;exact⟨b0,Nat.zero_le _⟩);cases h
 |4,h=>rcases ks with _|⟨a,l⟩;(cases h;exact⟨AU6,Nat.zero_le _⟩);cases h
 |5,h=>rcases ks with _|⟨a,l⟩;exact⟨okT' h o.cls,Nat.zero_le _⟩;cases h
 |6,h=>
  rcases ks with _|⟨a,l⟩
  ·obtain⟨t,h1,h2⟩:=Option.map_eq_some_iff.1 (show(JF nm Γ).map (λt=>(t,((0,0):St)))=some p from h)
   obtain⟨f,hf,e⟩:=AK4 h1
   rw[<-h2,<-e];exact⟨hΓ f hf,Nat.zero_le _⟩
  ·cases h
 |7,h=>
  obtain⟨c,e,_,_,hf⟩:=AIw h
  obtain⟨u,c',hl,f,hf',e'⟩:=AHH hf
  have:=(o.tn u c' hl).1 f hf'
  rw[e']at this
  exact⟨this,by rw[e];show 1<=1001;omega⟩
 |8,h=>
  obtain⟨c,gs,e,_,hc⟩:=ACX h
  obtain⟨h1,h2⟩:=AKJ o hc
  exact⟨h1,by rw[e,List.length_cons];omega⟩
 |9,h=>
  obtain⟨h1,h2⟩:=AKJ o (show ABT (K.x M) ty nm true ks=some p from h)
  exact⟨h1,by omega⟩
 |10,h=>rcases ks with _|⟨a,l⟩;exact⟨okT' h hty,Nat.zero_le _⟩;cases h
 |11,h=>rcases ks with _|⟨a,_|⟨b,l⟩⟩;cases h;exact⟨okT' h hty,by show 1<=1001;omega⟩;cases h
 |12,h=>rcases ks with _|⟨a,_|⟨b,_|⟨c,l⟩⟩⟩;cases h;cases h;exact⟨okT' h (hks a (List.mem_cons_self ..)),by show 2<=1001;omega⟩;cases h
 |13,h=>rcases ks with _|⟨a,_|⟨b,l⟩⟩;cases h;exact⟨okT' h i0,by show 1<=1001;omega⟩;cases h
 |14,h=>rcases ks with _|⟨a,_|⟨b,l⟩⟩;cases h;exact⟨okT' h i0,by show 1<=1001;omega⟩;cases h
 |15,h=>rcases ks with _|⟨a,_|⟨b,l⟩⟩;cases h;exact⟨okT' h b0,by show 1<=1001;omega⟩;cases h
 |16,h=>
  rcases ks with _|⟨a,_|⟨b,_|⟨c,l⟩⟩⟩
  ·cases h
  ·cases h
  ·have h:(bif decide (nm=ACF)||decide (nm=ACA)then iY (a.is b||(a.obj&&b.obj)) Df (0,0)else iY (a.is DZ&&b.is DZ) (bif decide (nm=AGE)||decide (nm=AEe)then Df else DZ) (0,0))=some p:=h
   refine⟨?_,by show 2<=1001;omega⟩
   cases hb:decide (nm=ACF)||decide (nm=ACA)with
   |true=>rw[hb]at h;exact okT' h b0
   |false=>
    rw[hb]at h
    refine okT' (show iY (a.is DZ&&b.is DZ) (bif decide (nm=AGE)||decide (nm=AEe)then Df else DZ) (0,0)=some p from h) ?_
    cases decide (nm=AGE)||decide (nm=AEe);exact i0;exact b0
  ·cases h
 |17,h=>rcases ks with _|⟨a,_|⟨b,_|⟨c,l⟩⟩⟩;cases h;cases h;exact⟨okT' h b0,by show 2<=1001;omega⟩;cases h
 |18,h=>rcases ks with _|⟨a,_|⟨b,_|⟨c,l⟩⟩⟩;cases h;cases h;exact⟨okT' h b0,by show 2<=1001;omega⟩;cases h
 |19,h=>rcases ks with _|⟨a,_|⟨b,l⟩⟩;cases h;exact⟨okT' h hty,by show 1<=1001;omega⟩;cases h
 |20,h=>rcases ks with _|⟨a,_|⟨b,l⟩⟩;cases h;exact⟨okT' h b0,by show 1<=1001;omega⟩;cases h
 |k+21,h=>cases h
mutual
theorem AXR(o:Ry G K)(hΓ:∀f∈Γ,f.ty.nm.ok):∀{e e':Te},ckE (K.x M) Γ e=some e'->e'.of.nm.ok
 |.mk kind num nm ty of own kids,e',h=>by
  obtain⟨ks,p,h1,h2,rfl,h0⟩:=ATY h
  unfold gdE at h0
  rw[Bool.and_eq_true]at h0
  exact(AOZ o hΓ (ARb h0.1) kind _ (λt ht=>by obtain⟨e,he,rfl⟩:=List.mem_map.1 ht;exact AEa o hΓ h1 e he) h2).1
theorem AEa(o:Ry G K)(hΓ:∀f∈Γ,f.ty.nm.ok):∀{l l':List Te},ckL (K.x M) Γ l=some l'->∀e∈l',e.of.nm.ok
 |[],l',h,e,he=>by rw[ckL]at h;cases h;cases he
 |a::l,l',h,e,he=>by
  obtain⟨a',t,h1,h2,rfl⟩:=AGY h
  rcases List.mem_cons.1 he with rfl|he
  ·exact AXR o hΓ h1
  ·exact AEa o hΓ h2 e he
end
end
section
variable{G:AV}{H:Heap}{n m c:Nat}{K:Kq}{M:Km}{vv:V}{all:Nat}{Γ:List ER}{k:KV}{B:Nat->Prop}{kind num:Nat}{nm:St}{ty of t:Ty}{own ow:St}{line col:Nat}{v:V}{es:List Te}
theorem Aci(g:T.get H c=some (one (Zv kind num nm ty of own line col v)))(g2:T.get H (c+1)=some (one teZ))(hes:Ob G H B v es)(hB:∀id,B id->c+2<=id/\id<n)
 (hk:∀H' l,(∀id,id≠c+1->T.get H' id=T.get H id)->jE G H' (Rg c n) l (.mk kind num nm ty of own es)->k (.agg l) H' n):BG lfp G (Runs F G) k (.ptr c 0) (.ptr (c+1) 0) H n:=by
 delta BG
 refine AB (Aw (m:=11) g (by omega) rfl) ?_
 refine Bf g2 rfl rfl (by omega) λH1 g1 s1=>?_
 rw[BU (m:=11) g1 (by omega) rfl]
 simp only[go_sem]
 exact hk H1 _ s1 (jE.of (hes.mono (λid hid=>by have:=hB id hid;exact⟨by omega,this.2⟩) λid hid=>s1 id (by have:=hB id hid;omega)))
theorem ALw{P:KV}(o:Ry G K)(h:Xb G H n m c K M vv all Γ (Zv kind num nm ty of own line col v))(hC:ty.nm.ok)(hkn:DR K.tb ty=true)
 (hk:∀H' n',Kb K.b H n H' n'->P (.bool true) H' n'):
 AP (Ae (.ptr K.kb 0)) λv59=>AP (AQ 0 v59) λv60=>AP (Aa v60 G H) λv61=>AP (AQ 5 (.ptr c 0)) λv62=>AP (Ah 2 v62 G H) λv63=>CB (Aj 2 1 [.str 0 0,.bool false] [(0,.c v63)] E0) H n λv64 H n=>
  AP (AQ 1 (.ptr c 0)) λv65=>AP (Ah 2 v65 G H) λv66=>Runs F G DF [v61,v64] H n λv67 H n=>AP (Ah 2 v65 G H) λv=>EJ (BH v v66) <|
  Runs F G Ai [.ptr K.kb 0,v67,.int .i64 (.ofNat 23) 0,v66] H n P:=by
 rw[Bz,AU,DK,AU]
 refine AB (AX (off:=0) h.ka.g (v:=.ptr K.t 0) rfl) ?_
 rw[AY,AU]
 refine AB (v:=ty.v) (Dz (off:=0+5) (m:=2) h.g (by omega) (by show 0+5+2<=11;omega)) ?_
 exact AFY o h hC hkn hk
structure Left(G:AV)(K:Kq)(M:Km)(Γ:List ER)(vv:V)(all:Nat)(m c:Nat)(kind num:Nat)(nm:St)(ty of t:Ty)(own ow:St)(line col:Nat)(v:V)(H:Heap)(n:Nat)(k:KV):Prop where
 h:Xb G H n m c K M vv all Γ (Zv kind num nm ty of own line col v)
 fin:∀H' n',Kbc K.b c H n H' n'->T.get H' c=some (one (Zv kind num nm ty t ow line col v))->BG lfp G (Runs F G) k (.ptr c 0) (.ptr (c+1) 0) H' n'
theorem Left.put(o:Ry G K){H':Heap}{n':Nat}(w:Left G K M Γ vv all m c kind num nm ty of t own own line col v H n k)(f:Kb K.b H n H' n'):
 AP (AQ 8 (.ptr c 0)) λp=>Bd 2 p t.v H' n' λ_ H n=>BG lfp G (Runs F G) k (.ptr c 0) (.ptr (c+1) 0) H n:=by
 have hbc:=w.h.bn o
 have h':=w.h.kb o f
 rw[AY,AU]
 exact rJ (t:=t) h'.g λH1 s1 g1=>w.fin H1 n' (ADF (by omega) f s1) g1
theorem AFe(o:Ry G K)(w:Left G K M Γ vv all m c kind num nm ty of t own ow line col v H n k)(hes:Ob G H B v es)(hB:∀id,B id->id<n/\id≠c/\id≠K.b)(hok:∀e∈es,e.of.nm.ok)(hln:es.length<=10000)(hmb:mbr kind=true)(hty:ty.nm.ok)
 (htp:yw (K.x M) Γ kind nm ty (es.map Te.of)=some (t,ow)) {a4:V}:DY lfp G (Runs F G) k (.ptr K.kb 0) (.ptr c 0) (.ptr (c+1) 0) a4 (.bool true) H n:=by
 delta DY
 rw[A8]
 exact AR8 o w.h hes hB hok hln hmb hty htp λH' n' f g=>w.fin H' n' f g
theorem AP1(o:Ry G K)(w:Left G K M Γ vv all m c kind num nm ty of t own own line col v H n k)(hes:Ob G H B v es)(hB:∀id,B id->id<n/\id≠c/\id≠K.b)(hok:∀e∈es,e.of.nm.ok)(hln:es.length<=10000)(hkd:10<=kind)(hty:ty.nm.ok)
 (htp:yw (K.x M) Γ kind nm ty (es.map Te.of)=some (t,ow)):DY lfp G (Runs F G) k (.ptr K.kb 0) (.ptr c 0) (.ptr (c+1) 0) (.int .i64 (.ofNat kind) 0) (.bool false) H n:=by
 delta DY
 rw[Ak]
 have h:=w.h
 have hbc:=h.bn o
 have hkc:=h.kn
 have hcn:=h.cn
 have qv:∀{H':Heap},T.get H' c=some (one (Zv kind num nm ty of own line col v))->Aa (.ptr c (0+7)) G H'=some v:=λg=>AX (off:=0+7) g rfl
 have hes0:=hes
 obtain⟨cs,e1,e2,e3,e4,e5,hts⟩:=hes
 have hvs:BH v v=true:=e2.1 |> λh=>by
  cases v<;>first|exact h|(cases e1.2;done)|(cases e1.1;done)
 refine AB (Dy ..) ?_
 by_cases k10:kind=10
 ·subst k10
  rw[show decide (10=10)=true from rfl,A8]
  rcases es with _|⟨a,l⟩
  ·obtain⟨h1,h2⟩:=Nq (show iY (DR K.tb ty) ty (0,0)=some (t,ow)from htp)
   cases h2
   refine ALw o h hty h1 λH1 n1 f1=>?_
   have h1:=h.kb o f1
   rw[AY,AU]
   refine AB (v:=ty.v) (Dz (off:=0+5) (m:=2) h1.g (by omega) (by show 0+5+2<=11;omega)) ?_
   exact w.put o f1
  ·cases htp
 rw[decide_eq_false k10,Ak]
 refine AB (Dy ..) ?_
 by_cases k11:kind=11
 ·subst k11
  rw[show decide (11=11)=true from rfl,A8]
  rcases es with _|⟨a,_|⟨b,l⟩⟩
  ·cases htp
  ·obtain⟨h1,h2⟩:=Nq (show iY (a.of.is DZ&&DR K.tb ty) ⟨ty.nm,true⟩ (0,0)=some (t,ow)from htp)
   cases h2
   rw[Bool.and_eq_true]at h1
   rw[AY,AU]
   refine AB (qv h.g) ?_
   refine ABX λH1 n1 x1=>?_
   have h1':=h.kp o x1
   refine AB (qv h1'.g) (CX hvs ?_)
   refine vZ (K:=K) h1'.ka.g (by have:=h1'.cn;omega) (e1.same λid hid=>x1.same id (hB id (e5 id hid)).1) e5 (G9.mono (λ_ h=>h) (λid hid=>x1.same id (hB id hid).1) hts) (λid hid=>by have:=hB id hid;have:=x1.le;omega) (λe he=>by rw[List.mem_singleton.1 he];exact gG h1.1) (by omega) λH2 n2 x2=>?_
   have h2:=h1'.kp o x2
   rw[A8]
   refine ALw o h2 hty h1.2 λH3 n3 f3=>?_
   have f03:Kb K.b H n H3 n3:=((x1.trans x2).kb (by omega)).trans f3
   have h3:=h.kb o f03
   delta I7
   rw[AY,AU,DK,AU]
   refine AB (AX (off:=0+5) h3.g (v:=ty.nm.v) rfl) ?_
   refine AB (v:=Ty.v ⟨ty.nm,true⟩) rfl ?_
   exact w.put o f03
  ·cases htp
 rw[decide_eq_false k11,Ak]
 refine AB (Dy ..) ?_
 by_cases k12:kind=12
 ·subst k12
  rw[show decide (12=12)=true from rfl,A8]
  rcases es with _|⟨a,_|⟨b,_|⟨c',l⟩⟩⟩
  ·cases htp
  ·cases htp
  ·obtain⟨h1,h2⟩:=Nq (show iY (a.of.arr&&b.of.is DZ) (AOH a.of) (0,0)=some (t,ow)from htp)
   cases h2
   rw[Bool.and_eq_true]at h1
   cases hts with
   |cons het htr=>
   rename_i l ls
   obtain⟨p,q1,q8,q9,kd⟩:=kW o.sub (i:=0) (l:=l) e1 rfl het.len
   cases het with
   |mk kind' num' nm' ty' of' own' line' col' hev hvk hva hvc=>
   rename_i v' cs' kids'
   have harr:of'.arr=true:=h1.1
   rw[AY,AU]
   refine AB (qv h.g) (AB kd.ip (AB kd.i8 (AB kd.i9 (AB (v:=.bool of'.arr) ((kd.ld H e1).2.2.2 _ rfl) ?_))))
   rw[AU]
   refine AB (qv h.g) (AB kd.ip (AB kd.i1 (AB (v:=Y4 line' col') (kd.ld H e1).2.1 ?_)))
   rw[harr]
   refine O9 (K:=K) h.ka.g (by omega) λH1 x1=>?_
   have h1':=h.kp o x1
   rw[A8,AU]
   refine AB (qv h1'.g) ?_
   have e11:=e1.same (H':=H1) λid hid=>x1.same id (hB id (e5 id hid)).1
   obtain⟨w',hw',hwe,hws⟩:=El.tail e11 e2
   refine AB hw' ?_
   refine ABX λH2 n2 x2=>?_
   have h2:=h1'.kp o x2
   have x02:=x1.trans x2
   have hn2:=x2.le
   refine AB (qv h2.g) (CX hvs ?_)
   refine vZ (K:=K) (A:=B) h2.ka.g (by have:=h2.cn;omega) (hwe.same λid hid=>by rw[hws]at hid;have:=hB id (e5 id hid);exact x2.same id (by omega)) (λid hid=>by rw[hws]at hid;exact e5 id hid) (G9.mono (λ_ h=>h) (λid hid=>x02.same id (hB id hid).1) htr) (λid hid=>by have:=hB id hid;omega) (λe he=>by rw[List.mem_singleton.1 he];exact gG h1.2) (by show 1<=1000000;omega) λH3 n3 x3=>?_
   have x03:=x02.trans x3
   have h3:=h.kp o x03
   delta I8
   rw[AY,AU]
   have e13:=e1.same (H':=H3) λid hid=>x03.same id (hB id (e5 id hid)).1
   refine AB (qv h3.g) (AB kd.ip (AB kd.i8 (AB (v:=of'.v) (kd.ld H3 e13).2.2.1 ?_)))
   refine AZL (t:=of') λH4 n4 x4=>?_
   exact w.put o ((x03.trans x4).kb (by omega))
  ·cases htp
 rw[decide_eq_false k12,Ak]
 refine AB (Dy ..) ?_
 by_cases k13:kind=13
 ·subst k13
  rw[show decide (13=13)=true from rfl,A8]
  rcases es with _|⟨a,_|⟨b,l⟩⟩
  ·cases htp
  ·obtain⟨h1,h2⟩:=Nq (show iY a.of.arr DZ (0,0)=some (t,ow)from htp)
   cases h2
   cases hts with
   |cons het htr=>
   rename_i l ls
   obtain⟨p,q1,q8,q9,kd⟩:=kW o.sub (i:=0) (l:=l) e1 rfl het.len
   cases het with
   |mk kind' num' nm' ty' of' own' line' col' hev hvk hva hvc=>
   rename_i v' cs' kids'
   have harr:of'.arr=true:=h1
   rw[AY,AU]
   refine AB (qv h.g) (AB kd.ip (AB kd.i8 (AB kd.i9 (AB (v:=.bool of'.arr) ((kd.ld H e1).2.2.2 _ rfl) ?_))))
   rw[AU]
   refine AB (qv h.g) (AB kd.ip (AB kd.i1 (AB (v:=Y4 line' col') (kd.ld H e1).2.1 ?_)))
   rw[harr]
   refine O9 (K:=K) h.ka.g (by omega) λH1 x1=>?_
   refine ABX λH2 n2 x2=>?_
   exact w.put o ((x1.trans x2).kb (by omega))
  ·cases htp
 rw[decide_eq_false k13,Ak]
 have fin':∀H' n',Kbc K.b c H n H' n'->T.get H' c=some (one (Zv kind num nm ty t own line col v))->BG lfp G (Runs F G) k (.ptr c 0) (.ptr (c+1) 0) H' n':=w.fin
 by_cases k14:kind=14
 ·subst k14;exact Abe o h hes0 hB hln htp fin'
 by_cases k15:kind=15∨kind=17∨kind=18
 ·exact AcY o h k15 hes0 hB hln htp fin'
 by_cases k19:kind=19∨kind=20
 ·exact AcP o h k19 hes0 hB hok hty htp fin'
 by_cases k16:kind=16
 ·subst k16
  cases hb:decide (nm=ACF)||decide (nm=ACA)with
  |true=>exact AdP o h hb hes0 hB hok htp fin'
  |false=>
   rw[Bool.or_eq_false_iff]at hb
   exact AdF o h ⟨of_decide_eq_false hb.1,of_decide_eq_false hb.2⟩ hes0 hB hln htp fin'
 ·exfalso
  obtain⟨j,rfl⟩:∃j,kind=j+21:=⟨kind-21,by omega⟩
  cases htp
end
section
variable{G:AV}{K:Kq}{M:Km}{Γ:List ER}
theorem map_nil{es:List Te}{x:Ty}{l:List Ty}(h:es.map Te.of=x::l):es≠[]:=λe=>by rw[e]at h;cases h
theorem AMg(o:Ry G K){kind num:Nat}{nm:St}{ty of:Ty}{own:St}{kids:List Te}(hX:∀e∈kids,ALj G K M Γ e):ALj G K M Γ (.mk kind num nm ty of own kids):=by
 intro H n A l e' vv all k h ht hA hck hk
 refine go2 (nX Aq G) ?_
 delta XB
 obtain⟨ks,p,hL,htp,rfl,hg⟩:=ATY hck
 obtain⟨t,ow⟩:=p
 unfold gdE at hg
 rw[Bool.and_eq_true]at hg
 have hty:=ARb hg.1
 have hkok:=AEa o h.ok hL
 have hlen:=(AOZ o h.ok hty kind _ (λt ht=>by obtain⟨e,he,rfl⟩:=List.mem_map.1 ht;exact hkok e he) htp).2
 rw[List.length_map]at hlen
 have hll:=AAq hL
 have hkn:=h.kn
 have hbn:=h.bn o
 cases ht with
 |mk _ _ _ _ _ _ line col hev hvk hva hvc=>
 rename_i v cs
 refine Ei λH1 f1 g1=>?_
 refine Ar rfl λH2 f2 g2=>?_
 have f02:=f1.trans f2
 have g1:=f2.get g1 (by omega)
 have hv:Wi v=true/\BA v=[v]:=by
  cases v<;>first|exact⟨rfl,rfl⟩|(cases hev.2;done)|(cases hev.1;done)
 have hes:Ob G H2 A v kids:=⟨cs,hev.same λid hid=>f02.same id (hA id (hva id hid)).1,hvk,hv.1,hv.2,hva,G9.mono (λ_ h=>h) (λid hid=>f02.same id (hA id hid).1) hvc⟩
 refine AYX (m:=n) o hX (h.kb o ((f02.kb hbn).low (Nat.le_refl _))) (Nat.le_refl _) (by omega) hA g1 hes (by omega) hL λH3 n3 v3 f3 g3 hes3=>?_
 have hn3:=f3.le
 rw[Du,AU]
 show Ac (.bool false) true _ _
 rw[Ak]
 have f03:Kb K.b H n H3 n3:=⟨by omega,λid h1 h2=>(f3.same id (by omega) h2 (by omega)).trans (f02.same id h1),λhs=>f3.seen (hs.same (f02.same _ hbn))⟩
 have hx:Xb G H3 n3 n n K M vv all Γ (Zv kind num nm ty of own line col v3):=⟨h.kb o (f03.low (Nat.le_refl _)),Nat.le_refl _,by omega,g3⟩
 have hB:∀id,Rg (n+1+1) n3 id->id<n3/\id≠n/\id≠K.b:=λid hid=>by have h1:=hid.1;have h2:=hid.2;omega
 have w:Left G K M Γ vv all n n kind num nm ty of t own ow line col v3 H3 n3 k:=⟨hx,λH4 n4 f4 g4=>by
  have hn4:=f4.le
  refine Aci g4 ((f4.same (n+1) (by omega) (by omega) (by omega)).trans ((f3.same (n+1) (by omega) (by omega) (by omega)).trans g2)) (hes3.mono (B:=Rg (n+1+1) n4) (λid hid=>⟨hid.1,Nat.lt_of_lt_of_le hid.2 hn4⟩) λid hid=>f4.same id hid.2 (hB id hid).2.2 (hB id hid).2.1) (λid hid=>hid) λH5 l5 s5 ht5=>?_
  refine hk H5 n4 l5 ⟨by omega,λid h1 h2=>(s5 id (by omega)).trans ((f4.same id (by omega) h2 (by omega)).trans (f03.same id h1 h2)),λhs=>(f4.seen (f03.seen hs)).same (s5 _ (by omega))⟩ ht5⟩
 rw[DK,AU]
 refine AB (AX (off:=0) g3 (v:=.int .i64 (.ofNat kind) 0) rfl) (AB (Dy ..) ?_)
 have hown:mbr kind=false->own=ow:=λhm=>by
  have h1:=hg.2
  rw[hm,Bool.false_or]at h1
  rcases AQ9 _ _ htp with h2|h2
  ·rw[hm]at h2;cases h2
  ·rw[of_decide_eq_true h1];exact h2.symm
 by_cases k1:kind=1
 ·subst k1
  rw[show decide (1=1)=true from rfl,A8]
  cases hown rfl
  rcases ks with _|⟨a,l⟩
  ·cases htp
   exact ABX λH4 n4 f4=>w.put o (f4.kb (by omega))
  ·cases htp
 rw[decide_eq_false k1,Ak]
 refine AB (Dy ..) ?_
 by_cases k2:kind=2
 ·subst k2
  rw[show decide (2=2)=true from rfl,A8]
  delta GK
  rw[A8]
  cases hown rfl
  rcases ks with _|⟨a,l⟩
  ·cases htp
   exact jw λH4 n4 f4=>w.put o (f4.kb (by omega))
  ·cases htp
 rw[decide_eq_false k2,Ak]
 refine AB (Dy ..) ?_
 delta GK
 by_cases k3:kind=3
 ·subst k3
  rw[show decide (3=3)=true from rfl,A8]
  cases hown rfl
  rcases ks with _|⟨a,l⟩
  ·cases htp
   exact jw λH4 n4 f4=>w.put o (f4.kb (by omega))
  ·cases htp
 rw[decide_eq_false k3,Ak]
 refine AB (Dy ..) ?_
 by_cases k4:kind=4
 ·subst k4
  rw[show decide (4=4)=true from rfl,A8]
  cases hown rfl
  rcases ks with _|⟨a,l⟩
  ·cases htp
   exact vO λH4 n4 f4=>w.put o (f4.kb (by omega))
  ·cases htp
 rw[decide_eq_false k4,Ak]
 refine AB (Dy ..) ?_
 by_cases k5:kind=5
 ·subst k5
  rw[show decide (5=5)=true from rfl,A8]
  cases hown rfl
  rcases ks with _|⟨a,l⟩
  ·obtain⟨h1,h2⟩:=Nq (show iY (!M.st) ⟨K.cls,false⟩ (0,0)=some (t,own)from htp)
   cases h2
   rw[Bz,AU,AY,AU,AY,AU]
   refine AB (AX (off:=0+9+3) hx.ka.g (v:=.bool M.st) rfl) ?_
   rw[Du,AU,AY,AU]
   refine AB (X5 g3) ?_
   rw[h1]
   refine O9 (K:=K) hx.ka.g (by omega) λH4 f4=>?_
   have h4:=hx.kp o f4
   rw[AU,AY,AU,AY,AU]
   refine AB (AX (off:=0+3+2) h4.ka.g (v:=K.cls.v) rfl) ?_
   refine AXK (l:=K.cls.1) (c:=K.cls.2) λH5 n5 f5=>?_
   exact w.put o ((f4.trans f5).kb (by omega))
  ·cases htp
 rw[decide_eq_false k5,Ak]
 refine AB (Dy ..) ?_
 by_cases k6:kind=6
 ·subst k6
  rw[show decide (6=6)=true from rfl,A8]
  cases hown rfl
  rcases ks with _|⟨a,l⟩
  ·obtain⟨t',h1,h2⟩:=Option.map_eq_some_iff.1 (show(JF nm Γ).map (λt=>(t,((0,0):St)))=some (t,own)from htp)
   cases h2
   rw[Bz,AU,AY,AU,AY,AU]
   refine AB (AX (off:=0+4) g3 (v:=nm.v) rfl) ?_
   refine Ar rfl λH4 f4 g4=>?_
   have h4:=hx.kp o f4
   refine ANk (s:=nm) o (h4.ka.lift o (by omega)) λH5 n5 f5=>?_
   have h5:=h4.kp o f5
   rw[h1,ZF,AU,ZN,AU]
   have g5:=f5.get g4 (by omega)
   have hn5:=f5.le
   refine Bf (L:=t.cells) g5 rfl rfl (by omega) λH6 g6 s6=>?_
   have f36:Kp H3 n3 H6 n5:=⟨by omega,λid hid=>(s6 id (by omega)).trans ((f4.trans f5).same id hid)⟩
   have h6:=hx.kp o f36
   rw[AY,AU]
   refine AB (X5 h6.g) ?_
   refine O9 (K:=K) h6.ka.g (by omega) λH7 f7=>?_
   refine AB (Gp (f7.get g6 (by omega))) ?_
   exact w.put o ((f36.trans f7).kb (by omega))
  ·cases htp
 rw[decide_eq_false k6,Ak]
 refine AB (Dy ..) ?_
 have hln:ks.length<=10000:=by omega
 by_cases k7:kind=7
 ·subst k7
  rw[show decide (7=7)=true from rfl,A8]
  exact AFe o w hes3 hB hkok hln rfl hty htp
 rw[decide_eq_false k7,Ak]
 refine AB (Dy ..) ?_
 by_cases k8:kind=8
 ·subst k8
  rw[show decide (8=8)=true from rfl,A8]
  exact AFe o w hes3 hB hkok hln rfl hty htp
 rw[decide_eq_false k8,Ak]
 refine AB (Dy ..) ?_
 by_cases k9:kind=9
 ·subst k9
  exact AFe o w hes3 hB hkok hln rfl hty htp
 rw[decide_eq_false k9]
 have hmb:mbr kind=false:=by unfold mbr;rw[decide_eq_false k7,decide_eq_false k8,decide_eq_false k9];rfl
 cases hown hmb
 by_cases k0:kind=0
 ·subst k0;cases htp
 exact AP1 o w hes3 hB hkok hln (by omega) hty htp
mutual
theorem AS1(o:Ry G K):∀e,ALj G K M Γ e
 |.mk _ _ _ _ _ _ kids=>AMg o (AOz o kids)
theorem AOz(o:Ry G K):∀es:List Te,∀e∈es,ALj G K M Γ e
 |[]=>λe h=>by cases h
 |a::l=>by
  have ha:=AS1 o a
  have hl:=AOz o l
  intro e h
  rcases List.mem_cons.1 h with rfl|h
  ·exact ha
  ·exact hl e h
end
end
theorem Sk.AcR{G:AV}{H:Heap}{z n bs:Nat}{A:Nat->Prop}{v w:V}{LS:CJ}{c:LV}{P:KV}(h:Sk H z A v LS)(hn:∀id,v.Dl=some id->id<n)(hz:0<z)(hw:elems w G H z=some [c])(hb:(LS.length+1)*bs<=140737488355328)
 (hk:∀v' H',(∀B:Nat->Prop,B n->Sk H' z B v' (LS++[c]))->(∀id,id<n->v.Dl≠some id->T.get H' id=T.get H id)->v'.Dl=some n->P v' H' (n+1)):Oq z bs v w G H n P:=by
 have fin:∀{v':V} {H7:Heap},Gr G H7 0 z v' (LS++[c])->(∀id,v'.Dl=some id->id=n)->v'.Dl=some n/\∀B:Nat->Prop,B n->Sk H7 z B v' (LS++[c]):=by
  intro v' H7 hgr hlo
  generalize hX:LS++[c]=X at hgr
  cases hgr with
  |nil=>simp at hX
  |G6 hg hc ht hid=>
   have e:=hlo _ rfl
   subst e
   exact⟨rfl,λB hB=>.G6 hg hc ht hB⟩
 cases h with
 |nil=>
  refine aP (m:=0) .nil (by omega) (λ_ h=>by cases h) hw hb ?_ (λh=>by cases h)
  intro v' H7 hgr hsame hlo
  obtain⟨q1,q2⟩:=fin (v':=v') hgr hlo
  exact hk v' H7 q2 (λid h1 h2=>hsame id h1 h2) q1
 |emp hg ha=>
  rename_i id t
  refine ABE (t:=t) hz hw (by simpa using hb) ?_
  intro v' H7 hgr hsame hlo
  obtain⟨q1,q2⟩:=fin (v':=v') hgr hlo
  exact hk v' H7 q2 (λid h1 h2=>hsame id h1) q1
 |G6 hg hc' ht ha=>
  rename_i id c' t
  have hid:=hn id rfl
  have hgr:Gr G H 0 z (.G6 id 0 LS.length z) LS:=.G6 hg hc' ht (Nat.zero_le _)
  refine aP (m:=0) hgr (by omega) (λj h=>by cases h;omega) hw hb ?_ (λh=>by cases h)
  intro v' H7 hgr hsame hlo
  obtain⟨q1,q2⟩:=fin (v':=v') hgr hlo
  exact hk v' H7 q2 (λid h1 h2=>hsame id h1 h2) q1
structure Ks(K:Kq)(v:V)(H:Heap)(n:Nat)(H':Heap)(n':Nat):Prop where
 le:n<=n'
 same:∀id,id<n->id≠K.b->id≠K.kb->v.Dl≠some id->T.get H' id=T.get H id
 seen:Lj H K.b->Lj H' K.b
theorem Kb.ks{K:Kq}{H H':Heap}{n n':Nat}(v:V)(f:Kb K.b H n H' n'):Ks K v H n H' n':=⟨f.le,λid h hb _ _=>f.same id h hb,f.seen⟩
theorem Ks.refl(K:Kq)(v:V)(H:Heap)(n:Nat):Ks K v H n H n:=⟨Nat.le_refl _,λ_ _ _ _ _=>rfl,λh=>h⟩
theorem Ks.trans{K:Kq}{v v':V}{H H' H'':Heap}{n n' n'':Nat}(x:Ks K v H n H' n')(y:Ks K v' H' n' H'' n'')(h:Sd n v v'):Ks K v H n H'' n'':=
 ⟨Nat.le_trans x.le y.le,λid hid hb hk hv=>(y.same id (Nat.lt_of_lt_of_le hid x.le) hb hk (by
  rcases h with h|h
  ·rw[h];exact hv
  ·intro e;have:=h id e;omega)).trans (x.same id hid hb hk hv),λh=>y.seen (x.seen h)⟩
section
variable{G:AV}{H:Heap}{n:Nat}{K:Kq}{M:Km}{vv:V}{all:Nat}{Γ:List ER}{k:KV}
theorem AWe{x:ER}{p0 p1:V}(o:Ry G K)(h:XC G H n K M vv all Γ)(hx:x.ty.nm.ok)(hn:JF x.nm Γ=none)(ha:all<200)
 (hk:∀H' n' vv',Ks K vv H n H' n'->XC G H' n' K M vv' (all+1) (Γ++[x])->Sd n vv vv'->k (.EI []) H' n'):Runs F G Nu [.ptr K.kb 0,.agg (Yy x),.agg [p0,p1]] H n k:=by
 refine go3 (Xp Aq G) ?_
 delta Ru
 have hkn:=h.kn
 have hbn:=h.bn o
 have hn0:=o.n0
 have hb0:=o.ba
 refine Ei λH1 f1 g1=>?_
 refine Ei λH2 f2 g2=>?_
 rw[Bz,AU,AY,AU,DK,AU]
 refine AB (AX (off:=0) (f2.get g1 (by omega)) (v:=x.nm.v) rfl) ?_
 refine Ar rfl λH3 f3 g3=>?_
 have f13:=(f1.trans f2).trans f3
 have h3:=h.kp o f13
 refine ANk (s:=x.nm) o h3 λH4 n4 f4=>?_
 have h4:=h3.kp o f4
 have hn4:=f4.le
 rw[hn,ZF,AU,ZN,AU]
 have g4:=f4.get g3 (by omega)
 refine Bf (L:=tyN.cells) g4 rfl rfl (by omega) λH5 g5 s5=>?_
 have f15:Kp H n H5 n4:=⟨by omega,λid hid=>(s5 id (by omega)).trans ((f13.trans f4).same id hid)⟩
 have g25:T.get H5 (n+1)=some (one [p0,p1]):=(s5 (n+1) (by omega)).trans (f4.get (f3.get g2 (by omega)) (by omega))
 have g15:T.get H5 n=some (one (Yy x)):=(s5 n (by omega)).trans (f4.get (f3.get (f2.get g1 (by omega)) (by omega)) (by omega))
 rw[Du,AU]
 refine AB (Aw (m:=2) g25 (by omega) rfl) ?_
 refine O9 (K:=K) (f15.get h.g hkn) (by omega) λH6 f6=>?_
 have f16:=f15.trans f6
 have h6:=h.kp o f16
 have g26:=f6.get g25 (by omega)
 rw[Du,AU]
 show BX (.bool false) false _ _
 refine o9 rfl (o9 rfl (o9 (Bz ..) (o9 (AY ..) (o9 (AY ..) ?_))))
 refine o9 (AX (off:=0+1+1) h6.g (v:=.int .i64 (.ofNat all) 0) rfl) (o9 (FM ..) ?_)
 rw[decide_eq_true ha]
 refine o9 (Aw (m:=2) g26 (by omega) rfl) (APw ?_)
 refine O9 (K:=K) h6.g (by omega) λH7 f7=>?_
 have f17:=f16.trans f7
 have h7:=h.kp o f17
 refine o9 (Du ..) (xP ?_)
 show Ac (.bool false) true _ _
 rw[Ak,AU,AY,AU,DK,AU]
 refine AB (AX (off:=0+1) h7.g (v:=vv) rfl) ?_
 refine AB (Aw (m:=3) (f7.get (f6.get g15 (by omega)) (by omega)) (by omega) rfl) ?_
 generalize hn7:n4+1+1=n7 at*
 refine Ld (G:=G) (vs:=[.agg (Yy x)]) rfl (by omega) (λv hv=>by simp at hv;subst hv;exact⟨rfl,rfl⟩) λH8 f8 _ hel=>?_
 have h8:=h7.kp o f8
 have f18:=f17.trans f8
 have qa:∀{H':Heap} {v:V},T.get H' K.kb=some (one (K.cells M v all))->Aa (.ptr K.kb (0+1+1)) G H'=some (.int .i64 (.ofNat all) 0):=λg=>AX (off:=0+1+1) g rfl
 rw[AU,AY,AU,AY,AU]
 refine AB (qa h8.g) ?_
 rw[GV (by omega),AU]
 have hlen:=h.lt
 refine h8.sk.AcR (c:=Yy x) (λid hid=>(h8.sk.own hid).2) (by omega) hel.2 (by rw[List.length_map];omega) λvv' H9 hs9 same9 hsid=>?_
 have qJ:∀id,vv.Dl=some id->K.kb<id/\id<n:=λid hid=>h.sk.own hid
 have g9:T.get H9 K.kb=_:=(same9 K.kb (by omega) λe=>by have:=qJ _ e;omega).trans h8.g
 refine AB (qa g9) (CX (Xv ..) ?_)
 have hsk9:=hs9 (λid=>K.kb<id/\id<n7+1+1) ⟨by omega,by omega⟩
 rw[AU,AY,AU,DK,AU]
 refine UE (off:=0+1) (m:=1) (v:=vv') g9 hsk9.ok.1 (by rw[hsk9.ok.2.1];rfl) (by omega) (by show 0+1+1<=20;omega) λH10 g10 s10=>?_
 rw[hsk9.ok.2.1]at g10
 rw[AU,AY,AU,AY,AU]
 refine UE (off:=0+1+1) (m:=1) (v:=.int .i64 (.ofNat (all+1)) 0) g10 rfl rfl (by omega) (by show 0+1+1+1<=20;omega) λH11 g11 s11=>?_
 have keep:∀id,id<n->id≠K.kb->vv.Dl≠some id->T.get H11 id=T.get H id:=λid h1 h2 h3=>(s11 id h2).trans ((s10 id h2).trans ((same9 id (by have:=f18.le;omega) h3).trans (f18.same id h1)))
 have hle:=f18.le
 have vb:∀id,id<K.n0->vv.Dl≠some id:=λid h e=>by have:=qJ id e;omega
 refine hk H11 _ vv' ⟨by omega,λid h1 _ h3 h4=>keep id h1 h3 h4,λhs=>hs.same (keep _ hbn (by omega) (vb _ hb0))⟩ ⟨g11,?_,by omega,?_,?_,by omega,?_,h.ret⟩ (.inr λid hid=>by rw[hsid]at hid;cases hid;omega)
 ·exact h.tab.kb ⟨Nat.le_refl _,λid h1 _=>keep id (by omega) (by omega) (vb id h1),λhs=>hs.same (keep _ hbn (by omega) (vb _ hb0))⟩
 ·rw[List.map_append]
  exact hsk9.aJ (λid hid=>hsk9.own hid) λid hid=>(s11 id (by have:=(hsk9.own hid).1;omega)).trans (s10 id (by have:=(hsk9.own hid).1;omega))
 ·rw[List.length_append];have:=h.la;exact Nat.succ_le_succ this
 ·intro f hf
  rcases List.mem_append.1 hf with hf|hf
  ·exact h.ok f hf
  ·rw[List.mem_singleton.1 hf];exact hx
end
def RA(A:Nat->Prop)(a b:Nat)(v:V):Nat->Prop:=λid=>A id∨Rv a b v id
def AKg(G:AV)(K:Kq)(M:Km)(A:Nat->Prop)(H:Heap)(n:Nat)(vv:V)(g':Gs)(s':Tt)(k:KV):Prop:=
 ∀H' n' l' vv',Ks K vv H n H' n'->XC G H' n' K M vv' g'.2 g'.1->Sd n vv vv'->oZ G H' (RA A n n' vv') l' s'->k (.agg l') H' n'
def AKP(G:AV)(K:Kq)(M:Km)(s:Tt):Prop:=∀(H:Heap) (n:Nat) (A:Nat->Prop) (l:LV) (vv:V) (all:Nat) (Γ:List ER) (g':Gs) (s':Tt) (k:KV),XC G H n K M vv all Γ->oZ G H A l s->(∀id,A id->id<K.kb/\id≠K.b)->ckS (K.x M) s (Γ,all)=some (s',g')->
 AKg G K M A H n vv g' s' k->Runs F G JD [.ptr K.kb 0,.agg l] H n k
def qj(G:AV)(K:Kq)(M:Km)(b:List Tt):Prop:=b.length<=1000->∀(H:Heap) (n:Nat) (A:Nat->Prop) (v:V) (vv:V) (all:Nat) (Γ:List ER) (b':List Tt) (all':Nat) (k:KV),XC G H n K M vv all Γ->Oc G H A v b->(∀id,A id->id<K.kb/\id≠K.b)->uU (K.x M) b (Γ,all)=some (b',all')->
 (∀H' n' v' vv',Ks K vv H n H' n'->XC G H' n' K M vv' all' Γ->Sd n vv vv'->Oc G H' (RA A n n' vv') v' b'->k v' H' n')->Runs F G C9 [.ptr K.kb 0,v] H n k
section
variable{G:AV}{H:Heap}{n m c:Nat}{K:Kq}{M:Km}{vv:V}{all:Nat}{Γ:List ER}{k:KV}{A R:Nat->Prop}{does:Nat}{nm:St}{ty:Ty}{line col:Nat}{ve vt vl:V}{es es':List Te}{th el:List Tt}
theorem ARf(gc:T.get H c=some (one (ttC does line col nm ty ve vt vl)))(g2:T.get H (c+1)=some (one ttZ))(he:Ob G H R ve es)(ht:Oc G H R vt th)(hl:Oc G H R vl el)(hR:∀id,R id->id≠c+1)
 (hk:∀H' l,(∀id,id≠c+1->T.get H' id=T.get H id)->oZ G H' R l (.mk does nm ty es th el)->k (.agg l) H' n):BR lfp G (Runs F G) k (.ptr c 0) (.ptr (c+1) 0) H n:=by
 delta BR
 refine AB (Aw (m:=9) gc (by omega) rfl) ?_
 refine Bf g2 rfl rfl (by omega) λH1 g1 s1=>?_
 rw[BU (m:=9) g1 (by omega) rfl]
 simp only[go_sem]
 exact hk H1 _ s1 (oZ.of (he.mono (λ_ h=>h) λid h=>s1 id (hR id h)) (ht.mono (λ_ h=>h) λid h=>s1 id (hR id h)) (hl.mono (λ_ h=>h) λid h=>s1 id (hR id h)))
theorem ATW(o:Ry G K)(h:XC G H m K M vv all Γ)(hmc:m<=c)(hcn:c<n)
 (hA:∀id,A id->id<K.kb/\id≠K.b) (gc:T.get H c=some (one (ttC does line col nm ty ve vt vl))) (he:Ob G H A ve es) (hln:es.length<=10000) (hck:ckL (K.x M) Γ es=some es')
 (hk:∀H' n' v',Kbc K.b c H n H' n'->T.get H' c=some (one (ttC does line col nm ty v' vt vl))->Ob G H' (Rg n n') v' es'->DX lfp G (Runs F G) k (.ptr K.kb 0) (.ptr c 0) (.ptr (c+1) 0) H' n'):
 AP (AQ 6 (.ptr c 0)) λv29=>AP (Aa v29 G H) λv30=>Runs F G D5 [v30] H n λv31 H n=>AP (AQ 6 (.ptr c 0)) λv32=>Bd 1 v32 v31 H n λv33 H n=>AP (AQ 6 (.ptr c 0)) λv127=>AP (Aa v127 G H) λv128=>AP (lenV v128) λv129=>
  lfp (V×V×V×V×V×V×Heap×Nat) (Hr lfp G (Runs F G) k) (.ptr K.kb 0,.ptr c 0,.ptr (c+1) 0,v128,v129,.int .i64 (.ofNat 0) 0,H,n):=by
 have hkn:=h.kn
 have hbm:=h.bn o
 obtain⟨cs,e1,-,-,-,e5,hts⟩:=he
 have hcl:=hts.len
 rw[AY,AU]
 refine AB (AX (off:=0+6) gc (v:=ve) rfl) ?_
 refine AC7 e1 (λid hid=>by have:=hA id (e5 id hid);omega) (by omega) λv' H1 n1 f1 sk=>?_
 have hn1:=f1.le
 rw[AU]
 refine UE (off:=0+6) (m:=1) (v:=v') (f1.get gc hcn) sk.ok.1 (by rw[sk.ok.2.1];rfl) (by omega) (by show 0+6+1<=9;omega) λH2 g2 s2=>?_
 rw[sk.ok.2.1]at g2
 have f2:Kbc K.b c H n H2 n1:=(f1.kb (b:=K.b) (by omega)).bc c |>.trans (.box (by omega) s2)
 have sk2:Sk H2 11 (λid=>n<=id/\id<n1) v' cs:=sk.mono (λ_ h=>h) λid h=>s2 id (by omega)
 rw[AU]
 have q2:∀{H':Heap},T.get H' c=some (one (ttC does line col nm ty v' vt vl))->Aa (.ptr c (0+6)) G H'=some v':=λg=>AX (off:=0+6) g rfl
 refine AB (q2 g2) ?_
 have hlen:=(sk2.el (G:=G) (by omega)).len
 rw[hcl]at hlen
 refine AB hlen ?_
 have hel:=AAq hck
 refine CG (N:=es.length) (J:=λj q=>∃H' n' ds,q=(.ptr K.kb 0,.ptr c 0,.ptr (c+1) 0,v',.int .i64 (.ofNat es.length) 0,.int .i64 (.ofNat j) 0,H',n')/\Kbc K.b c H n H' n'/\n1<=n'/\T.get H' c=some (one (ttC does line col nm ty v' vt vl))/\
  Sk H' 11 (λid=>n<=id/\id<n1) v' (ds++cs.drop j)/\G9 G H' (λid=>n<=id/\id<n'/\v'.Dl≠some id) ds (es'.take j)/\ds.length=j) ?_ ?_ ⟨H2,n1,[],rfl,f2,Nat.le_refl _,g2,sk2,.nil,rfl⟩
 ·rintro I j q hlt ⟨H3,n3,ds,rfl,f3,hn3,g3,sk3,hds,hdl⟩ ih
  show FU lfp G (Runs F G) k I (.ptr K.kb 0) (.ptr c 0) (.ptr (c+1) 0) v' (.int .i64 (.ofNat es.length) 0) (.int .i64 (.ofNat j) 0) H3 n3
  delta FU
  have hts3:=G9.mono (H':=H3) (λ_ h=>h) (λid hid=>f3.same id (by have:=hA id hid;omega) (hA id hid).2 (by have:=hA id hid;omega)) hts
  have hget:=List.getElem?_eq_getElem hlt
  obtain⟨l,hl,het⟩:=hts3.at hget
  obtain⟨e',he',hce⟩:=AML hck hget
  generalize es[j]=e at het hce
  obtain⟨p,hpp,hld⟩:=(sk3.el (G:=G) (by omega)).at (i:=j) (c:=l) (by rw[AJq hdl];exact hl)
  rw[FM,AU,decide_eq_true hlt,A8]
  refine AB hpp (AB (EM hld) ?_)
  refine Ar rfl λH4 f4 g4=>?_
  refine Bf g4 rfl het.len (by omega) λH5 g5 s5=>?_
  have f35:Kp H3 n3 H5 (n3+1):=⟨f4.le,λid hid=>(s5 id (by omega)).trans (f4.same id hid)⟩
  rw[AY,AU]
  refine AB (q2 (f35.get g3 (by omega))) (AB (Aw (m:=11) g5 (by omega) het.len) ?_)
  have f05:Kbc K.b c H n H5 (n3+1):=f3.trans ((f35.kb (b:=K.b) (by omega)).bc c)
  have h5:=h.kb o (f05.low hmc (by omega))
  have het5:jE G H5 A l e:=het.mono (λ_ h=>h) λid hid=>f35.same id (by have:=hA id hid;omega)
  refine AS1 (M:=M) (Γ:=Γ) o e H5 (n3+1) A l e' vv all _ h5 het5 (λid hid=>by have:=hA id hid;exact⟨by omega,this.2⟩) hce λH6 n6 l' f6 het6=>?_
  have hn6:=f6.le
  have g6:T.get H6 c=_:=f6.get (f35.get g3 (by omega)) (by omega) (by omega)
  refine AB (q2 g6) (CX sk.ok.2.2 ?_)
  have f36:Kb K.b H3 n3 H6 n6:=(f35.kb (b:=K.b) (by omega)).trans f6
  have sk6:Sk H6 11 (λid=>n<=id/\id<n1) v' (ds++cs.drop j):=sk3.mono (λ_ h=>h) λid h=>f36.same id (by omega) (by omega)
  have hlj:j<(ds++cs.drop j).length:=by rw[List.length_append,List.length_drop];omega
  refine sk6.put (i:=j) (w:=.agg l') (by omega) hlj rfl het6.len λH7 sk7 s7=>?_
  rw[show BA (.agg l')=l' from rfl,set_mid hdl hl]at sk7
  rw[GV (by omega),AU]
  have vne:∀id,id<n∨n1<=id->v'.Dl≠some id:=λid h e=>by have:=sk.own e;omega
  refine ih _ ⟨H7,n6,ds++[l'],rfl,?_,by omega,(s7 c (vne c (.inl hcn))).trans g6,sk7,?_,by rw[List.length_append,hdl];rfl⟩
  ·exact⟨by have:=f3.le;omega,λid h1 h2 h3=>(s7 id (vne id (.inl h1))).trans ((f36.same id (by have:=f3.le;omega) h2).trans (f3.same id h1 h2 h3)),λhs=>(f36.seen (f3.seen hs)).same (s7 _ (vne _ (.inl (by omega))))⟩
  ·rw[take_snoc he']
   refine(G9.mono (λid hid=>⟨hid.1,by omega,hid.2.2⟩) (λid hid=>(s7 id hid.2.2).trans (f36.same id hid.2.1 (by omega))) hds).app (.cons (het6.mono (λid hid=>⟨by have:=hid.1;omega,hid.2,vne id (.inr (by have:=hid.1;omega))⟩) λid hid=>s7 id (vne id (.inr (by have:=hid.1;omega)))) .nil)
 ·rintro I q ⟨H3,n3,ds,rfl,f3,hn3,g3,sk3,hds,hdl⟩
  show FU lfp G (Runs F G) k I (.ptr K.kb 0) (.ptr c 0) (.ptr (c+1) 0) v' (.int .i64 (.ofNat es.length) 0) (.int .i64 (.ofNat es.length) 0) H3 n3
  delta FU
  rw[FM,AU,decide_eq_false (Nat.lt_irrefl _),Ak]
  rw[List.drop_eq_nil_of_le (by omega),List.append_nil]at sk3
  rw[List.take_of_length_le (by omega)]at hds
  exact hk H3 n3 v' f3 g3 ⟨ds,sk3.el (by omega),sk3.ks,sk3.ok.1,sk3.ok.2.1,λid hid=>by have:=sk3.own hid;exact⟨this.1,by omega⟩,G9.mono (λid hid=>⟨hid.1,hid.2.1⟩) (λ_ _=>rfl) hds⟩
end
theorem AQ0{s:St}(h:AOR s=true):s.ok:=by
 intro h0
 obtain⟨l,c⟩:=s
 have h0:l=0:=h0
 subst h0
 exfalso
 unfold AOR AH5 upper at h
 simp at h
theorem ACU{tb:Tab}{t:Ty}(h:DR tb t=true):t.nm.ok:=by
 unfold DR at h
 rw[Bool.and_eq_true]at h
 exact AQ0 h.1
theorem AOK{x:Kx}{does:Nat}{nm:St}{ty:Ty}{es:List Te}{th el:List Tt}{g:Gs}{r:Tt×Gs}(h:ckS x (.mk does nm ty es th el) g=some r):
 (does=1->DR x.tb ty=true)/\∃es' g1,ckL x g.1 es=some es'/\AGl x does nm ty (es'.map Te.of) g=some g1/\
  ((does=4∨does=5)/\(th.length<=1000/\el.length<=1000)/\(∃p q,uU x th g1=some p/\uU x el (g1.1,p.2)=some q/\r=(.mk does nm ty es' p.1 q.1,(g1.1,q.2)))∨¬(does=4∨does=5)/\r=(.mk does nm ty es' th el,g1)):=by
 rw[ckS]at h
 cases hk:decide (does=1)&& !DR x.tb ty with
 |true=>rw[hk]at h;cases h
 |false=>
  rw[hk]at h
  refine⟨λhd=>?_,?_⟩
  ·rw[decide_eq_true hd]at hk
   cases hkn:DR x.tb ty with
   |true=>rfl
   |false=>rw[hkn]at hk;cases hk
  ·obtain⟨es',h1,h⟩:=Option.bind_eq_some_iff.1 h
   obtain⟨g1,h2,h⟩:=Option.bind_eq_some_iff.1 h
   refine⟨es',g1,h1,h2,?_⟩
   cases hd:decide (does=4)||decide (does=5)with
   |true=>
    rw[hd]at h
    have h:(bif szB th&&szB el then(uU x th g1).bind λp=>(uU x el (g1.1,p.2)).map λq=>(Tt.mk does nm ty es' p.1 q.1,(g1.1,q.2))else none)=some r:=h
    cases hz:szB th&&szB el with
    |false=>rw[hz]at h;cases h
    |true=>
     rw[hz]at h
     rw[Bool.and_eq_true]at hz
     obtain⟨p,h3,h⟩:=Option.bind_eq_some_iff.1 h
     obtain⟨q,h4,h5⟩:=Option.map_eq_some_iff.1 h
     refine .inl ⟨by simpa using hd,⟨of_decide_eq_true hz.1,of_decide_eq_true hz.2⟩,p,q,h3,h4,h5.symm⟩
   |false=>
    rw[hd]at h
    have h:(bif th.isEmpty&&el.isEmpty then some (Tt.mk does nm ty es' th el,g1)else none)=some r:=h
    cases hz:th.isEmpty&&el.isEmpty with
    |false=>rw[hz]at h;cases h
    |true=>
     rw[hz]at h
     exact .inr ⟨by simpa using hd,(Option.some.inj h).symm⟩
section
variable{G:AV}{H H0:Heap}{n n0:Nat}{K:Kq}{M:Km}{vv:V}{all:Nat}{Γ:List ER}{k:KV}{A:Nat->Prop}{does:Nat}{nm:St}{ty:Ty}{line col:Nat}{ve v' vt vl:V}{es es':List Te}{th el:List Tt}
structure Sb(G:AV)(H0:Heap)(n0:Nat)(H:Heap)(n:Nat)(K:Kq)(M:Km)(vv:V)(all:Nat)(Γ:List ER)(A:Nat->Prop)(does line col:Nat)(nm:St)(ty:Ty)(v' vt vl:V)(es':List Te)(th el:List Tt):Prop where
 ka:XC G H0 n0 K M vv all Γ
 hA:∀id,A id->id<K.kb/\id≠K.b
 f:Kbc K.b n0 H0 n0 H n
 le:n0+2<=n
 g:T.get H n0=some (one (ttC does line col nm ty v' vt vl))
 g2:T.get H (n0+1)=some (one ttZ)
 es:Ob G H (Rg (n0+2) n) v' es'
 th:Oc G H0 A vt th
 el:Oc G H0 A vl el
theorem Sb.kb{H':Heap}{n':Nat}(o:Ry G K)(h:Sb G H0 n0 H n K M vv all Γ A does line col nm ty v' vt vl es' th el)(f:Kb K.b H n H' n'):Sb G H0 n0 H' n' K M vv all Γ A does line col nm ty v' vt vl es' th el:=by
 have hb:=h.ka.bn o
 have:=h.le
 have hr:∀id,Rg (n0+2) n id->id<n/\id≠K.b:=λid hid=>by have:=hid.1;have:=hid.2;omega
 exact⟨h.ka,h.hA,h.f.trans (f.bc n0),by have:=f.le;omega,f.get h.g (by omega) (by omega),f.get h.g2 (by omega) (by omega),h.es.mono (λid hid=>⟨hid.1,Nat.lt_of_lt_of_le hid.2 f.le⟩) λid hid=>f.same id (hr id hid).1 (hr id hid).2,h.th,h.el⟩
theorem Sb.kp{H':Heap}{n':Nat}(o:Ry G K)(h:Sb G H0 n0 H n K M vv all Γ A does line col nm ty v' vt vl es' th el)(f:Kp H n H' n'):Sb G H0 n0 H' n' K M vv all Γ A does line col nm ty v' vt vl es' th el:=by
 have hb:=h.ka.bn o
 have:=h.le
 exact h.kb o (f.kb (by omega))
theorem Sb.kk(o:Ry G K)(h:Sb G H0 n0 H n K M vv all Γ A does line col nm ty v' vt vl es' th el):XC G H n K M vv all Γ:=
 h.ka.kb o (h.f.low (Nat.le_refl _) (Nat.le_refl _))
theorem XC.box{H':Heap}{q:Nat}(o:Ry G K)(h:XC G H n K M vv all Γ)(hs:∀id,id≠q->T.get H' id=T.get H id)(hq:K.kb<q)(hv:vv.Dl≠some q):XC G H' n K M vv all Γ:=by
 have:=o.n0;have:=o.ba
 exact⟨(hs _ (by omega)).trans h.g,h.tab.kb ⟨Nat.le_refl _,λid h1 _=>hs id (by omega),λx=>x.same (hs _ (by omega))⟩,h.kn,h.sk.aJ (λid hid=>h.sk.own hid) λid hid=>hs id λe=>hv (e▸hid),h.la,h.al,h.ok,h.ret⟩
theorem Sb.done{H':Heap}{n':Nat}{vv':V}{g':Gs}(o:Ry G K)(h:Sb G H0 n0 H n K M vv all Γ A does line col nm ty v' vt vl es' th el)(f:Ks K vv H n H' n')(ka':XC G H' n' K M vv' g'.2 g'.1)(sd:Sd n vv vv')
 (hk:AKg G K M A H0 n0 vv g' (.mk does nm ty es' th el) k):BR lfp G (Runs F G) k (.ptr n0 0) (.ptr (n0+1) 0) H' n':=by
 have hkn:=h.ka.kn
 have hbn:=h.ka.bn o
 have hle:=h.le
 have hle':=f.le
 have hn0:=o.n0
 have hb0:=o.ba
 have qJ:∀id,vv.Dl=some id->K.kb<id/\id<n0:=λid hid=>h.ka.sk.own hid
 have vlo':∀id,vv'.Dl=some id->id<n0∨n<=id:=λid hid=>by
  rcases sd with s|s
  ·exact .inl (qJ id (s.symm.trans hid)).2
  ·exact .inr (s id hid)
 have keep:∀id,id<n->id≠K.b->id≠K.kb->(id<n0->vv.Dl≠some id)->T.get H' id=T.get H id:=λid h1 h2 h3 h4=>f.same id h1 h2 h3 λe=>by have:=qJ id e;exact h4 this.2 e
 have hA:∀id,A id->T.get H' id=T.get H0 id:=λid hid=>by
  have:=h.hA id hid
  exact(keep id (by omega) this.2 (by omega) λ_ e=>by have:=qJ id e;omega).trans (h.f.same id (by omega) this.2 (by omega))
 refine ARf (R:=λid=>A id∨Rv (n0+2) n' vv' id) ((keep n0 (by omega) (by omega) (by omega) (by omega)).trans h.g) ((keep (n0+1) (by omega) (by omega) (by omega) (by omega)).trans h.g2)
  (h.es.mono (λid hid=>.inr ⟨hid.1,by have:=hid.2;omega,λe=>by have:=vlo' id e;have:=hid.1;have:=hid.2;omega⟩) λid hid=>by have h1:=hid.1;have h2:=hid.2;exact keep id (by omega) (by omega) (by omega) (by omega))
  (h.th.mono (λ_ hid=>.inl hid) hA) (h.el.mono (λ_ hid=>.inl hid) hA) (λid hid=>?_) λH'' l s' ht=>?_
 ·rcases hid with hid|hid
  ·have:=h.hA id hid;omega
  ·have:=hid.1;omega
 ·refine hk H'' n' l vv' ⟨by omega,λid h1 h2 h3 h4=>(s' id (by omega)).trans ((keep id (by omega) h2 h3 λ_=>h4).trans (h.f.same id h1 h2 (by omega))),λhs=>(f.seen (h.f.seen hs)).same (s' _ (by omega))⟩ (ka'.box o s' (by omega) λe=>by have:=vlo' _ e;omega) ?_ (ht.mono (λid hid=>?_) λ_ _=>rfl)
  ·rcases sd with s|s
   ·exact .inl s
   ·exact .inr λid hid=>by have:=s id hid;omega
  ·rcases hid with hid|hid
   ·exact .inl hid
   ·exact .inr ⟨by have:=hid.1;omega,hid.2⟩
theorem Sb.AOk{H':Heap}{n':Nat}(o:Ry G K)(h:Sb G H0 n0 H n K M vv all Γ A does line col nm ty v' vt vl es' th el)(f:Kb K.b H n H' n')(hk:AKg G K M A H0 n0 vv (Γ,all) (.mk does nm ty es' th el) k):BR lfp G (Runs F G) k (.ptr n0 0) (.ptr (n0+1) 0) H' n':=
 h.done o (f.ks vv) (h.kk o |>.kb o f) (Sd.refl ..) hk
structure Qb(H:Heap)(q:Nat)(t:Ty)(pl pc:Nat):Prop where
 of:∀{G:AV},Ah 2 (.ptr q (0+8)) G H=some t.v
 ps:∀{G:AV},Ah 2 (.ptr q (0+1)) G H=some (Y4 pl pc)
theorem AW5{q:Nat}{l:LV}{e:Te}{B:Nat->Prop}(ht:jE G H0 B l e):∃pl pc,∀{H:Heap},T.get H q=some (one l)->Qb H q e.of pl pc:=by
 cases ht with
 |mk kind num nm ty of own line col hev hvk hva hvc=>
 exact⟨line,col,λg=>⟨Dz (off:=0+8) (m:=2) g (by omega) (by show 0+8+2<=11;omega),Dz (off:=0+1) (m:=2) g (by omega) (by show 0+1+2<=11;omega)⟩⟩
theorem AB6{P:KV}{x y:Ty}{pl pc:Nat}{pp:V}(o:Ry G K)(h:XC G H n K M vv all Γ)(hx:x.nm.ok)(hy:y.nm.ok)(hf:fitsT K.tb x y=true)(hp:∀H' n',Kb K.b H n H' n'->Ah 2 pp G H'=some (Y4 pl pc))
 (hk:∀H' n',Kb K.b H n H' n'->P (.bool true) H' n'):
 Runs F G Jb [.ptr K.t 0,x.v,y.v] H n λv63 H n=>AP (Ah 2 pp G H) λv=>EJ (BH v (Y4 pl pc)) <| Runs F G Ai [.ptr K.kb 0,v63,.int .i64 (.ofNat 24) 0,Y4 pl pc] H n P:=by
 refine AMa (x:=x) (y:=y) h.tab (by have:=h.kn;have:=o.n0;omega) o.tl hx hy λH1 n1 f1=>?_
 rw[hf]
 have h1:=h.kb o f1
 refine AB (hp H1 n1 f1) (CX (Jf ..) ?_)
 refine O9 (K:=K) h1.g h1.kn λH2 f2=>?_
 exact hk H2 _ (f1.trans (f2.kb (h1.bn o)))
end
section
variable{G:AV}{H H0:Heap}{n n0 q:Nat}{K:Kq}{M:Km}{vv:V}{all:Nat}{Γ:List ER}{k:KV}{A:Nat->Prop}{does:Nat}{nm:St}{ty:Ty}{line col:Nat}{v' vt vl:V}{es':List Te}{th el:List Tt}{g':Gs}
theorem AaV(o:Ry G K)(h:Sb G H0 n0 H n K M vv all Γ A does line col nm ty v' vt vl es' th el)(hd:does=4∨does=5){a:Te}{th' el':List Tt}{a1 a2:Nat}(he:es'=[a])(ha:a.of=Df)
 (ht:qj G K M th) (hl:qj G K M el) (hz:th.length<=1000/\el.length<=1000) (c1:uU (K.x M) th (Γ,all)=some (th',a1)) (c2:uU (K.x M) el (Γ,a1)=some (el',a2)) (hk:AKg G K M A H0 n0 vv (Γ,a2) (.mk does nm ty es' th' el') k) {v6:V}:
 Bv lfp G (Runs F G) k (.ptr K.kb 0) (.ptr n0 0) (.ptr (n0+1) 0) (.ptr q 0) v6 (.bool true) H n:=by
 delta Bv
 rw[A8]
 have hkn:=h.ka.kn
 have hbn:=h.ka.bn o
 have hle:=h.le
 have hn0:=o.n0
 have hb0:=o.ba
 have qJ:∀id,vv.Dl=some id->K.kb<id/\id<n0:=λid hid=>h.ka.sk.own hid
 rw[AY,AU]
 have qv:∀{H':Heap} {vt vl:V},T.get H' n0=some (one (ttC does line col nm ty v' vt vl))->Aa (.ptr n0 (0+6)) G H'=some v':=λg=>AX (off:=0+6) g rfl
 refine AB (qv h.g) ?_
 have hvs:BH v' v'=true:=by
  obtain⟨cs,e1,e2,-⟩:=h.es
  have:=e2.1
  cases v'<;>first|exact this|(cases e1.2;done)|(cases e1.1;done)
 refine jw λH1 n1 f1=>?_
 have h1:=h.kp o f1
 refine AB (qv h1.g) (CX hvs ?_)
 obtain⟨cs,e1,-,-,-,e5,hts⟩:=h1.es
 refine vZ (K:=K) (A:=Rg (n0+2) n1) (h1.kk o).g (h1.kk o).kn e1 e5 hts (λid hid=>hid.2) (λe hmem=>by rw[he,List.mem_singleton]at hmem;rw[hmem];exact ha) (by rw[he];show 1<=1000000;omega) λH2 n2 f2=>?_
 have h2:=h1.kp o f2
 rw[AY,AU]
 refine AB (AX (off:=0+7) h2.g (v:=vt) rfl) ?_
 have hA2:∀id,A id->T.get H2 id=T.get H0 id:=λid hid=>by have:=h2.hA id hid;exact h2.f.same id (by omega) this.2 (by omega)
 refine ht hz.1 H2 n2 A vt vv all Γ th' a1 _ (h2.kk o) (h2.th.mono (λ_ h=>h) hA2) h2.hA c1 λH3 n3 v3 vv3 f3 ka3 sd3 ht3=>?_
 have hn2:=h2.le
 have hn3:=f3.le
 have AJg:∀id,vv3.Dl=some id->id<n0∨n2<=id:=λid hid=>by
  rcases sd3 with s|s
  ·exact .inl (qJ id (s.symm.trans hid)).2
  ·exact .inr (s id hid)
 have ABY:∀id,id<n2->id≠K.b->id≠K.kb->(id<n0->vv.Dl≠some id)->T.get H3 id=T.get H2 id:=λid h1 h2 h3 h4=>f3.same id h1 h2 h3 λe=>by have:=qJ id e;exact h4 this.2 e
 have g3:=(ABY n0 (by omega) (by omega) (by omega) (by omega)).trans h2.g
 have ok3:=KS.ok ht3
 rw[AU]
 refine UE (off:=0+7) (m:=1) (v:=v3) g3 ok3.1 (by rw[ok3.2];rfl) (by omega) (by show 0+7+1<=9;omega) λH4 g4 s4=>?_
 rw[ok3.2]at g4
 have ka4:XC G H4 n3 K M vv3 a1 Γ:=ka3.box o s4 (by omega) λe=>by have:=AJg _ e;omega
 have hA3:∀id,A id->T.get H4 id=T.get H0 id:=λid hid=>by
  have:=h2.hA id hid
  exact(s4 id (by omega)).trans ((ABY id (by omega) this.2 (by omega) λ_ e=>by have:=qJ id e;omega).trans (hA2 id hid))
 rw[AY,AU]
 refine AB (AX (off:=0+8) g4 (v:=vl) rfl) ?_
 refine hl hz.2 H4 n3 A vl vv3 a1 Γ el' a2 _ ka4 (h2.el.mono (λ_ h=>h) hA3) h2.hA c2 λH5 n5 v5 vv5 f5 ka5 sd5 hl5=>?_
 have hn5:=f5.le
 have AXs:∀id,vv5.Dl=some id->id<n0∨n2<=id:=λid hid=>by
  rcases sd5 with s|s
  ·exact AJg id (s.symm.trans hid)
  ·have:=s id hid;omega
 have yI:∀id,id<n3->id≠K.b->id≠K.kb->vv3.Dl≠some id->T.get H5 id=T.get H4 id:=λid h1 h2 h3 h4=>f5.same id h1 h2 h3 h4
 have AWf:∀id,n0<=id->id<n2->vv3.Dl≠some id:=λid h1 h2 e=>by have:=AJg id e;omega
 have g5:=(yI n0 (by omega) (by omega) (by omega) (AWf n0 (Nat.le_refl _) (by omega))).trans g4
 have ok5:=KS.ok hl5
 rw[AU]
 refine UE (off:=0+8) (m:=1) (v:=v5) g5 ok5.1 (by rw[ok5.2];rfl) (by omega) (by show 0+8+1<=9;omega) λH6 g6 s6=>?_
 rw[ok5.2]at g6
 have ka6:XC G H6 n5 K M vv5 a2 Γ:=ka5.box o s6 (by omega) λe=>by have:=AXs _ e;omega
 have mid:∀id,n0<id->id<n2->T.get H6 id=T.get H2 id:=λid h1 h2=>
  (s6 id (by omega)).trans ((yI id (by omega) (by omega) (by omega) (AWf id (by omega) h2)).trans ((s4 id (by omega)).trans (ABY id h2 (by omega) (by omega) (by omega))))
 have g26:=(mid (n0+1) (by omega) (by omega)).trans h2.g2
 have hA6:∀id,A id->T.get H6 id=T.get H0 id:=λid hid=>by
  have:=h2.hA id hid
  exact(s6 id (by omega)).trans ((yI id (by omega) this.2 (by omega) λe=>by have:=(ka3.sk.own e).1;omega).trans (hA3 id hid))
 have Acf:∀id,n0<=id->id<n2->vv5.Dl≠some id:=λid h1 h2 e=>by have:=AXs id e;omega
 have Ace:Sd n2 vv vv5:=sd3.trans sd5 hn3
 refine ARf (R:=λid=>A id∨Rv (n0+2) n5 vv5 id) g6 g26 (h2.es.mono (λid hid=>.inr ⟨hid.1,by have:=hid.2;omega,Acf id (by have:=hid.1;omega) hid.2⟩) λid hid=>mid id (by have:=hid.1;omega) hid.2)
  (ht3.mono (λid hid=>?_) λid hid=>?_) (hl5.mono (λid hid=>?_) λid hid=>?_) (λid hid=>?_) λH7 l s7 ht7=>?_
 ·rcases hid with hid|hid
  ·exact .inl hid
  ·refine .inr ⟨by have:=hid.1;omega,by have:=hid.2.1;omega,λe=>?_⟩
   rcases sd5 with s|s
   ·exact hid.2.2 (s.symm.trans e)
   ·have:=s id e;have:=hid.2.1;omega
 ·rcases hid with hid|hid
  ·have:=h2.hA id hid
   exact(s6 id (by omega)).trans ((yI id (by omega) this.2 (by omega) λe=>by have:=(ka3.sk.own e).1;omega).trans (s4 id (by omega)))
  ·have a1:=hid.1;have a2:=hid.2.1
   exact(s6 id (by omega)).trans ((yI id a2 (by omega) (by omega) hid.2.2).trans (s4 id (by omega)))
 ·rcases hid with hid|hid
  ·exact .inl hid
  ·exact .inr ⟨by have:=hid.1;omega,hid.2⟩
 ·rcases hid with hid|hid
  ·have:=h2.hA id hid;exact s6 id (by omega)
  ·have:=hid.1;exact s6 id (by omega)
 ·rcases hid with hid|hid
  ·have:=h2.hA id hid;omega
  ·have:=hid.1;omega
 ·refine hk H7 n5 l vv5 ⟨by omega,λid h1 h2' h3 h4=>?_,λhs=>?_⟩ (ka6.box o s7 (by omega) λe=>by have:=AXs _ e;omega) ?_ (ht7.mono (λid hid=>?_) λ_ _=>rfl)
  ·refine(s7 id (by omega)).trans ((s6 id (by omega)).trans ((yI id (by omega) h2' h3 λe=>?_).trans ((s4 id (by omega)).trans ((ABY id (by omega) h2' h3 λ_=>h4).trans (h2.f.same id h1 h2' (by omega))))))
   rcases sd3 with s|s
   ·exact h4 (s.symm.trans e)
   ·have:=s id e;omega
  ·exact(((f5.seen ((f3.seen (h2.f.seen hs)).same (s4 _ (by omega)))).same (s6 _ (by omega)))).same (s7 _ (by omega))
  ·rcases Ace with s|s
   ·exact .inl s
   ·exact .inr λid hid=>by have:=s id hid;omega
  ·rcases hid with hid|hid
   ·exact .inl hid
   ·exact .inr ⟨by have:=hid.1;omega,hid.2⟩
end
theorem ABf{x:Kx}{does:Nat}{nm:St}{ty:Ty}{ts:List Ty}{g g1:Gs}(h:AGl x does nm ty ts g=some g1):
 (does=1/\∃a,ts=[a]/\fitsT x.tb a ty=true/\JF nm g.1=none/\g.2<200/\g1=(g.1++[⟨nm,ty⟩],g.2+1))∨
 (g1=g/\((does=2/\∃a b,ts=[a,b]/\fitsT x.tb b a=true)∨(does=3/\∃a,ts=[a])∨((does=4∨does=5)/\ts=[Df])∨(does=6/\∃a,ts=[a]/\fitsT x.tb a x.ret=true)∨(does=7/\ts=[DZ]))):=by
 match does,h with
 |0,h=>cases h
 |1,h=>
  rcases ts with _|⟨a,_|⟨b,l⟩⟩
  ·cases h
  ·have h:(bif fitsT x.tb a ty then AMN ⟨nm,ty⟩ g else none)=some g1:=h
   cases hf:fitsT x.tb a ty with
   |false=>rw[hf]at h;cases h
   |true=>
    rw[hf]at h
    have h:(bif (JF nm g.1).isNone&&decide (g.2<200)then some (g.1++[⟨nm,ty⟩],g.2+1)else none)=some g1:=h
    cases hb:(JF nm g.1).isNone&&decide (g.2<200)with
    |false=>rw[hb]at h;cases h
    |true=>
     rw[hb]at h
     rw[Bool.and_eq_true]at hb
     exact .inl ⟨rfl,a,rfl,hf,Option.isNone_iff_eq_none.1 hb.1,of_decide_eq_true hb.2,(Option.some.inj h).symm⟩
  ·cases h
 |2,h=>
  rcases ts with _|⟨a,_|⟨b,_|⟨c,l⟩⟩⟩
  ·cases h
  ·cases h
  ·have h:(bif fitsT x.tb b a then some g else none)=some g1:=h
   cases hf:fitsT x.tb b a with
   |false=>rw[hf]at h;cases h
   |true=>rw[hf]at h;exact .inr ⟨(Option.some.inj h).symm,.inl ⟨rfl,a,b,rfl,hf⟩⟩
  ·cases h
 |3,h=>
  rcases ts with _|⟨a,_|⟨b,l⟩⟩
  ·cases h
  ·exact .inr ⟨(Option.some.inj h).symm,.inr (.inl ⟨rfl,a,rfl⟩)⟩
  ·cases h
 |4,h=>
  rcases ts with _|⟨a,_|⟨b,l⟩⟩
  ·cases h
  ·have h:(bif a.is Df then some g else none)=some g1:=h
   cases hf:a.is Df with
   |false=>rw[hf]at h;cases h
   |true=>rw[hf]at h;exact .inr ⟨(Option.some.inj h).symm,.inr (.inr (.inl ⟨.inl rfl,by rw[gG hf]⟩))⟩
  ·cases h
 |5,h=>
  rcases ts with _|⟨a,_|⟨b,l⟩⟩
  ·cases h
  ·have h:(bif a.is Df then some g else none)=some g1:=h
   cases hf:a.is Df with
   |false=>rw[hf]at h;cases h
   |true=>rw[hf]at h;exact .inr ⟨(Option.some.inj h).symm,.inr (.inr (.inl ⟨.inr rfl,by rw[gG hf]⟩))⟩
  ·cases h
 |6,h=>
  rcases ts with _|⟨a,_|⟨b,l⟩⟩
  ·cases h
  ·have h:(bif fitsT x.tb a x.ret then some g else none)=some g1:=h
   cases hf:fitsT x.tb a x.ret with
   |false=>rw[hf]at h;cases h
   |true=>rw[hf]at h;exact .inr ⟨(Option.some.inj h).symm,.inr (.inr (.inr (.inl ⟨rfl,a,rfl,hf⟩)))⟩
  ·cases h
 |7,h=>
  rcases ts with _|⟨a,_|⟨b,l⟩⟩
  ·cases h
  ·have h:(bif a.is DZ then some g else none)=some g1:=h
   cases hf:a.is DZ with
   |false=>rw[hf]at h;cases h
   |true=>rw[hf]at h;exact .inr ⟨(Option.some.inj h).symm,.inr (.inr (.inr (.inr ⟨rfl,by rw[gG hf]⟩)))⟩
  ·cases h
 |d+8,h=>rcases ts with _|⟨a,_|⟨b,_|⟨c,l⟩⟩⟩<;>cases h
section
variable{G:AV}{K:Kq}{M:Km}
theorem ARu{H H0:Heap}{n n0:Nat}{vv:V}{all:Nat}{Γ:List ER}{k:KV}{A:Nat->Prop}{does:Nat}{nm:St}{ty:Ty}{line col:Nat}{v' vt vl:V}{es':List Te}{th el:List Tt}{g1:Gs}{r:Tt×Gs}(o:Ry G K)
 (h:Sb G H0 n0 H n K M vv all Γ A does line col nm ty v' vt vl es' th el) (hok:∀e∈es',e.of.nm.ok) (hkn:does=1->DR K.tb ty=true) (hst:AGl (K.x M) does nm ty (es'.map Te.of) (Γ,all)=some g1)
 (hr:(does=4∨does=5)/\(th.length<=1000/\el.length<=1000)/\(∃p q,uU (K.x M) th g1=some p/\uU (K.x M) el (g1.1,p.2)=some q/\r=(.mk does nm ty es' p.1 q.1,(g1.1,q.2)))∨¬(does=4∨does=5)/\r=(.mk does nm ty es' th el,g1))
 (ht:qj G K M th) (hl:qj G K M el) (hk:AKg G K M A H0 n0 vv r.2 r.1 k):DX lfp G (Runs F G) k (.ptr K.kb 0) (.ptr n0 0) (.ptr (n0+1) 0) H n:=by
 delta DX
 have hbn:=h.ka.bn o
 have hle:=h.le
 have hk0:=h.kk o
 rw[Bz,AU,AY,AU,DK,AU]
 refine AB (AX (off:=0+17) hk0.g (v:=.int .i64 (.ofNat 0) 0) rfl) (AB (ADX ..) ?_)
 show Ac (.bool false) true _ _
 rw[Ak,AY,AU]
 have qv:∀{H':Heap},T.get H' n0=some (one (ttC does line col nm ty v' vt vl))->Aa (.ptr n0 (0+6)) G H'=some v':=λg=>AX (off:=0+6) g rfl
 have qd:∀{H':Heap},T.get H' n0=some (one (ttC does line col nm ty v' vt vl))->Aa (.ptr n0 0) G H'=some (.int .i64 (.ofNat does) 0):=λg=>AX (off:=0) g rfl
 refine AB (qv h.g) ?_
 have hne:es'≠[]:=by
  rcases ABf hst with⟨_,a,e,_⟩|⟨_,⟨_,a,b,e,_⟩|⟨_,a,e⟩|⟨_,e⟩|⟨_,a,e,_⟩|⟨_,e⟩⟩<;>exact map_nil e
 obtain⟨e0,rest,rfl⟩:=List.exists_cons_of_ne_nil hne
 obtain⟨cs,e1,e2,e3,e4,e5,hts⟩:=h.es
 have hvs:BH v' v'=true:=by
  have:=e2.1
  cases v'<;>first|exact this|(cases e1.2;done)|(cases e1.1;done)
 cases hts with
 |cons het htr=>
 rename_i l ls
 obtain⟨pl,pc,hq⟩:=AW5 (q:=n) het
 have hok0:=hok e0 (List.mem_cons_self ..)
 obtain⟨p,q1,q8,q9,kd⟩:=kW o.sub (i:=0) (l:=l) e1 rfl het.len
 refine AB kd.ip (AB (kd.ld H e1).1 ?_)
 refine Ar rfl λH1 f1 g1'=>?_
 refine Bf g1' rfl het.len (by omega) λH2 g2 s2=>?_
 have f2:Kp H n H2 (n+1):=⟨f1.le,λid hid=>(s2 id (by omega)).trans (f1.same id hid)⟩
 have h2:=h.kp o f2
 have hk2:=h2.kk o
 have qb:=hq g2
 have qq:∀{H':Heap} {n':Nat},Kb K.b H2 (n+1) H' n'->Qb H' n e0.of pl pc:=λf=>hq (f.get g2 (by omega) (by omega))
 rw[DK,AU]
 refine AB (qd h2.g) (AB (Dy ..) ?_)
 have qt:Aa (.ptr K.kb 0) G H2=some (.ptr K.t 0):=AX (off:=0) hk2.g rfl
 rcases ABf hst with⟨rfl,a,ets,hf,hln,hall,rfl⟩|⟨rfl,hd⟩
 ·
   rw[show decide (1=1)=true from rfl,A8,AU,DK,AU]
   rw[List.map_cons,List.cons.injEq]at ets
   obtain⟨rfl,-⟩:=ets
   have hty:=ACU (hkn rfl)
   refine AB qt ?_
   rw[AY,AU]
   refine AB qb.of ?_
   rw[AY,AU]
   refine AB (v:=ty.v) (Dz (off:=0+4) (m:=2) h2.g (by omega) (by show 0+4+2<=9;omega)) ?_
   rw[AY,AU]
   refine AB qb.ps ?_
   refine AB6 o hk2 hok0 hty hf (λH' n' f=>(qq f).ps) λH3 n3 f3=>?_
   have h3:=h2.kb o f3
   rw[A8,AY,AU]
   refine AB (AX (off:=0+3) h3.g (v:=nm.v) rfl) ?_
   rw[AY,AU]
   refine AB (v:=ty.v) (Dz (off:=0+4) (m:=2) h3.g (by omega) (by show 0+4+2<=9;omega)) ?_
   refine AB (v:=.agg (Yy ⟨nm,ty⟩)) rfl ?_
   rw[AU]
   refine AB (v:=Y4 line col) (Dz (off:=0+1) (m:=2) h3.g (by omega) (by show 0+1+2<=9;omega)) ?_
   refine AWe (x:=⟨nm,ty⟩) o (h3.kk o) hty hln hall λH4 n4 vv4 f4 ka4 sd4=>?_
   rcases hr with⟨hd,_⟩|⟨_,rfl⟩
   ·omega
   ·exact h3.done o f4 ka4 sd4 hk
 ·have h1n:does≠1:=by omega
  rw[decide_eq_false h1n,Ak]
  refine AB (Dy ..) ?_
  rcases hd with⟨rfl,a,b,ets,hf⟩|⟨rfl,a,ets⟩|⟨hd,ets⟩|⟨rfl,a,ets,hf⟩|⟨rfl,ets⟩
  ·
    rw[show decide (2=2)=true from rfl,A8,AU,DK,AU]
    refine AB qt ?_
    rcases rest with _|⟨e1',rest⟩
    ·cases ets
    rw[List.map_cons,List.map_cons,List.cons.injEq,List.cons.injEq]at ets
    obtain⟨rfl,rfl,-⟩:=ets
    have hok1:=hok e1' (by simp)
    cases htr with
    |cons het' htr=>
    rename_i l' ls'
    have e12:=e1.same (H':=H2) λid hid=>f2.same id (e5 id hid).2
    obtain⟨p',r1,r8,r9,kd'⟩:=kW o.sub (i:=1) (l:=l') e1 rfl het'.len
    have e8':(l'.drop 8).take 2=e1'.of.cells:=by cases het';rfl
    obtain⟨pl',pc',ep'⟩:∃pl' pc',(l'.drop 1).take 2=[V.int .i64 (.ofNat pl') 0,.int .i64 (.ofNat pc') 0]:=by
     cases het' with
     |mk _ _ _ _ _ _ line' col' _ _ _ _=>exact⟨line',col',rfl⟩
    have lp:∀{H'},El G H' v' 11 (l::l'::ls')->Ah 2 r1 G H'=some (Y4 pl' pc'):=λh'=>by rw[(kd'.ld _ h').2.1,ep']
    rw[AU]
    refine AB (qv h2.g) (AB kd'.ip (AB kd'.i8 (AB (v:=e1'.of.v) (by rw[(kd'.ld H2 e12).2.2.1,e8'];rfl) ?_)))
    rw[AY,AU]
    refine AB qb.of ?_
    rw[AU]
    refine AB (qv h2.g) (AB kd'.ip (AB kd'.i1 (AB (lp e12) ?_)))
    refine AMa (x:=e1'.of) (y:=e0.of) hk2.tab (by have:=hk2.kn;have:=o.n0;omega) o.tl hok1 hok0 λH3 n3 f3=>?_
    have hf:fitsT K.tb e1'.of e0.of=true:=hf
    rw[hf]
    have h3:=h2.kb o f3
    have e13:=e12.same (H':=H3) λid hid=>by have:=e5 id hid;exact f3.same id (by have:=this.2;omega) (by have:=this.1;omega)
    refine AB (qv h3.g) (CX hvs (AB (lp e13) (CX (Jf ..) ?_)))
    refine O9 (K:=K) (h3.kk o).g (h3.kk o).kn λH4 f4=>?_
    have h4:=h3.kp o f4
    rcases hr with⟨hd,_⟩|⟨_,rfl⟩
    ·omega
    ·exact h4.AOk o (Kb.refl ..) hk
  ·
    rw[show decide (3=2)=false from rfl,Ak]
    refine AB (Dy ..) ?_
    rw[show decide (3=4)=false from rfl,Ak]
    refine AB (Dy ..) ?_
    delta Bv
    rw[show decide (3=5)=false from rfl,Ak]
    refine AB (Dy ..) ?_
    rw[show decide (3=6)=false from rfl,Ak]
    refine AB (Dy ..) ?_
    rw[show decide (3=7)=false from rfl,Ak]
    rcases hr with⟨hd,_⟩|⟨_,rfl⟩
    ·omega
    ·exact h2.AOk o (Kb.refl ..) hk
  ·
    rcases hr with⟨_,hz,P,Q,c1,c2,rfl⟩|⟨hn,_⟩
    ·rw[List.map_cons,List.cons.injEq]at ets
     obtain⟨hof,hrest⟩:=ets
     have:rest=[]:=List.map_eq_nil_iff.1 hrest
     subst this
     have key:∀v6,Bv lfp G (Runs F G) k (.ptr K.kb 0) (.ptr n0 0) (.ptr (n0+1) 0) (.ptr n 0) v6 (.bool true) H2 (n+1):=λv6=>
      AaV (th':=P.1) (el':=Q.1) (a1:=P.2) (a2:=Q.2) (a:=e0) o h2 hd rfl hof ht hl hz c1 c2 hk
     rcases hd with rfl|rfl
     ·rw[show decide (4=2)=false from rfl,Ak]
      refine AB (Dy ..) ?_
      rw[show decide (4=4)=true from rfl,A8]
      exact key _
     ·rw[show decide (5=2)=false from rfl,Ak]
      refine AB (Dy ..) ?_
      rw[show decide (5=4)=false from rfl,Ak]
      refine AB (Dy ..) ?_
      rw[show decide (5=5)=true from rfl]
      exact key _
    ·exact absurd hd hn
  ·
    rw[show decide (6=2)=false from rfl,Ak]
    refine AB (Dy ..) ?_
    rw[show decide (6=4)=false from rfl,Ak]
    refine AB (Dy ..) ?_
    delta Bv
    rw[show decide (6=5)=false from rfl,Ak]
    refine AB (Dy ..) ?_
    rw[show decide (6=6)=true from rfl,A8,Bz,AU,DK,AU]
    refine AB qt ?_
    rw[List.map_cons,List.cons.injEq]at ets
    obtain⟨rfl,-⟩:=ets
    rw[AY,AU]
    refine AB qb.of ?_
    rw[AU,AY,AU,AY,AU]
    refine AB (v:=M.ret.v) (Dz (off:=0+9+5) (m:=2) hk2.g (by omega) (by show 0+9+5+2<=20;omega)) ?_
    rw[AY,AU]
    refine AB qb.ps ?_
    have hf:fitsT K.tb e0.of M.ret=true:=hf
    refine AB6 o hk2 hok0 hk2.ret hf (λH' n' f=>(qq f).ps) λH3 n3 f3=>?_
    have h3:=h2.kb o f3
    rcases hr with⟨hd,_⟩|⟨_,rfl⟩
    ·omega
    ·exact h3.AOk o (Kb.refl ..) hk
  ·
    rw[show decide (7=2)=false from rfl,Ak]
    refine AB (Dy ..) ?_
    rw[show decide (7=4)=false from rfl,Ak]
    refine AB (Dy ..) ?_
    delta Bv
    rw[show decide (7=5)=false from rfl,Ak]
    refine AB (Dy ..) ?_
    rw[show decide (7=6)=false from rfl,Ak]
    refine AB (Dy ..) ?_
    rw[show decide (7=7)=true from rfl,A8,AY,AU]
    refine AB (qv h2.g) ?_
    refine ABX λH3 n3 f3=>?_
    have h3:=h2.kp o f3
    refine AB (qv h3.g) (CX hvs ?_)
    rw[List.map_cons,List.cons.injEq]at ets
    obtain⟨hof,hrest⟩:=ets
    have:rest=[]:=List.map_eq_nil_iff.1 hrest
    subst this
    obtain⟨cs3,x1,-,-,-,x5,xts⟩:=h3.es
    refine vZ (K:=K) (A:=Rg (n0+2) n3) (h3.kk o).g (h3.kk o).kn x1 x5 xts (λid hid=>hid.2) (λe hmem=>by rw[List.mem_singleton]at hmem;rw[hmem];exact hof) (by show 1<=1000000;omega) λH4 n4 f4=>?_
    have h4:=h3.kp o f4
    rcases hr with⟨hd,_⟩|⟨_,rfl⟩
    ·omega
    ·exact h4.AOk o (Kb.refl ..) hk
end
end Go.RL
