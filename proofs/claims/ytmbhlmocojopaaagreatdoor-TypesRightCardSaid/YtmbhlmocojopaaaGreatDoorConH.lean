/- Part of a proof; nothing is assumed. -/
import Derived.Test.YtmbhlmocojopaaaGreatDoorConG
import Derived.Test.YtmbhlmocojopaaaGreatDoorConB
import Derived.Test.YtmbhlmocojopaaaGreatDoorWalk
import Derived.Test.YtmbhlmocojopaaaGreatDoorConC
set_option linter.unusedVariables false
set_option linter.unusedSimpArgs false
namespace Go.RL
open Go.DK
set_option maxRecDepth 100000
section
variable{G:AX}{H H0:Heap}{n n0 q:Nat}{K:Kq}{M:Km}{vv:V}{all:Nat}{Γ:List DJ}{k:KV}{A:Nat->Prop}{does:Nat}{nm:St}{ty:Ty}{line col:Nat}{v' vt vl:V}{es':List Te}{th el:List Tt}{g':Gs}
theorem AY4(o:Yg G K)(h:Sb G H0 n0 H n K M vv all Γ A does line col nm ty v' vt vl es' th el)(hd:does=4∨does=5){a:Te}{th' el':List Tt}{a1 a2:Nat}(he:es'=[a])(ha:a.of=BM)
 (ht:vV G K M th) (hl:vV G K M el) (hz:th.length<=1000/\el.length<=1000) (c1:iG (K.x M) th (Γ,all)=some (th',a1)) (c2:iG (K.x M) el (Γ,a1)=some (el',a2)) (hk:AKc G K M A H0 n0 vv (Γ,a2) (.mk does nm ty es' th' el') k) {v6:V}:
 Dv lfp G (Runs F G) k (.ptr K.kb 0) (.ptr n0 0) (.ptr (n0+1) 0) (.ptr q 0) v6 (.bool true) H n:=by
 delta Dv
 rw[A8]
 have hkn:=h.ka.kn
 have hbn:=h.ka.bn o
 have hle:=h.le
 have hn0:=o.n0
 have hb0:=o.ba
 have xY:∀id,vv.D9=some id->K.kb<id/\id<n0:=λid hid=>h.ka.sk.own hid
 rw[Ae,AQ]
 have qv:∀{H':Heap} {vt vl:V},T.get H' n0=some (one (ttC does line col nm ty v' vt vl))->AY (.ptr n0 (0+6)) G H'=some v':=λg=>AV (off:=0+6) g rfl
 refine AB (qv h.g) ?_
 have hvs:Ar v' v'=true:=by
  obtain⟨cs,e1,e2,-⟩:=h.es
  have:=e2.1
  cases v'<;>first|exact this|(cases e1.2;done)|(cases e1.1;done)
 refine NJ λH1 n1 f1=>?_
 have h1:=h.kp o f1
 refine AB (qv h1.g) (Bd hvs ?_)
 obtain⟨cs,e1,-,-,-,e5,hts⟩:=h1.es
 refine ACf (K:=K) (A:=Rg (n0+2) n1) (h1.kk o).g (h1.kk o).kn e1 e5 hts (λid hid=>hid.2) (λe hmem=>by rw[he,List.mem_singleton]at hmem;rw[hmem];exact ha) (by rw[he];show 1<=1000000;omega) λH2 n2 f2=>?_
 have h2:=h1.kp o f2
 rw[Ae,AQ]
 refine AB (AV (off:=0+7) h2.g (v:=vt) rfl) ?_
 have hA2:∀id,A id->T.get H2 id=T.get H0 id:=λid hid=>by have:=h2.hA id hid;exact h2.f.same id (by omega) this.2 (by omega)
 refine ht hz.1 H2 n2 A vt vv all Γ th' a1 _ (h2.kk o) (h2.th.mono (λ_ h=>h) hA2) h2.hA c1 λH3 n3 v3 vv3 f3 ka3 sd3 ht3=>?_
 have hn2:=h2.le
 have hn3:=f3.le
 have AR0:∀id,vv3.D9=some id->id<n0∨n2<=id:=λid hid=>by
  rcases sd3 with s|s
  ·exact .inl (xY id (s.symm.trans hid)).2
  ·exact .inr (s id hid)
 have AOC:∀id,id<n2->id≠K.b->id≠K.kb->(id<n0->vv.D9≠some id)->T.get H3 id=T.get H2 id:=λid h1 h2 h3 h4=>f3.same id h1 h2 h3 λe=>by have:=xY id e;exact h4 this.2 e
 have g3:=(AOC n0 (by omega) (by omega) (by omega) (by omega)).trans h2.g
 have ok3:=KS.ok ht3
 rw[AQ]
 refine Ib (off:=0+7) (m:=1) (v:=v3) g3 ok3.1 (by rw[ok3.2];rfl) (by omega) (by show 0+7+1<=9;omega) λH4 g4 s4=>?_
 rw[ok3.2]at g4
 have ka4:nP G H4 n3 K M vv3 a1 Γ:=ka3.box o s4 (by omega) λe=>by have:=AR0 _ e;omega
 have hA3:∀id,A id->T.get H4 id=T.get H0 id:=λid hid=>by
  have:=h2.hA id hid
  exact(s4 id (by omega)).trans ((AOC id (by omega) this.2 (by omega) λ_ e=>by have:=xY id e;omega).trans (hA2 id hid))
 rw[Ae,AQ]
 refine AB (AV (off:=0+8) g4 (v:=vl) rfl) ?_
 refine hl hz.2 H4 n3 A vl vv3 a1 Γ el' a2 _ ka4 (h2.el.mono (λ_ h=>h) hA3) h2.hA c2 λH5 n5 v5 vv5 f5 ka5 sd5 hl5=>?_
 have hn5:=f5.le
 have AWU:∀id,vv5.D9=some id->id<n0∨n2<=id:=λid hid=>by
  rcases sd5 with s|s
  ·exact AR0 id (s.symm.trans hid)
  ·have:=s id hid;omega
 have Zz:∀id,id<n3->id≠K.b->id≠K.kb->vv3.D9≠some id->T.get H5 id=T.get H4 id:=λid h1 h2 h3 h4=>f5.same id h1 h2 h3 h4
 have AVV:∀id,n0<=id->id<n2->vv3.D9≠some id:=λid h1 h2 e=>by have:=AR0 id e;omega
 have g5:=(Zz n0 (by omega) (by omega) (by omega) (AVV n0 (Nat.le_refl _) (by omega))).trans g4
 have ok5:=KS.ok hl5
 rw[AQ]
 refine Ib (off:=0+8) (m:=1) (v:=v5) g5 ok5.1 (by rw[ok5.2];rfl) (by omega) (by show 0+8+1<=9;omega) λH6 g6 s6=>?_
 rw[ok5.2]at g6
 have ka6:nP G H6 n5 K M vv5 a2 Γ:=ka5.box o s6 (by omega) λe=>by have:=AWU _ e;omega
 have mid:∀id,n0<id->id<n2->T.get H6 id=T.get H2 id:=λid h1 h2=>
  (s6 id (by omega)).trans ((Zz id (by omega) (by omega) (by omega) (AVV id (by omega) h2)).trans ((s4 id (by omega)).trans (AOC id h2 (by omega) (by omega) (by omega))))
 have g26:=(mid (n0+1) (by omega) (by omega)).trans h2.g2
 have hA6:∀id,A id->T.get H6 id=T.get H0 id:=λid hid=>by
  have:=h2.hA id hid
  exact(s6 id (by omega)).trans ((Zz id (by omega) this.2 (by omega) λe=>by have:=(ka3.sk.own e).1;omega).trans (hA3 id hid))
 have AbL:∀id,n0<=id->id<n2->vv5.D9≠some id:=λid h1 h2 e=>by have:=AWU id e;omega
 have AbK:Sd n2 vv vv5:=sd3.trans sd5 hn3
 refine AQs (R:=λid=>A id∨Rv (n0+2) n5 vv5 id) g6 g26 (h2.es.mono (λid hid=>.inr ⟨hid.1,by have:=hid.2;omega,AbL id (by have:=hid.1;omega) hid.2⟩) λid hid=>mid id (by have:=hid.1;omega) hid.2)
  (ht3.mono (λid hid=>?_) λid hid=>?_) (hl5.mono (λid hid=>?_) λid hid=>?_) (λid hid=>?_) λH7 l s7 ht7=>?_
 ·rcases hid with hid|hid
  ·exact .inl hid
  ·refine .inr ⟨by have:=hid.1;omega,by have:=hid.2.1;omega,λe=>?_⟩
   rcases sd5 with s|s
   ·exact hid.2.2 (s.symm.trans e)
   ·have:=s id e;have:=hid.2.1;omega
 ·rcases hid with hid|hid
  ·have:=h2.hA id hid
   exact(s6 id (by omega)).trans ((Zz id (by omega) this.2 (by omega) λe=>by have:=(ka3.sk.own e).1;omega).trans (s4 id (by omega)))
  ·have a1:=hid.1;have a2:=hid.2.1
   exact(s6 id (by omega)).trans ((Zz id a2 (by omega) (by omega) hid.2.2).trans (s4 id (by omega)))
 ·rcases hid with hid|hid
  ·exact .inl hid
  ·exact .inr ⟨by have:=hid.1;omega,hid.2⟩
 ·rcases hid with hid|hid
  ·have:=h2.hA id hid;exact s6 id (by omega)
  ·have:=hid.1;exact s6 id (by omega)
 ·rcases hid with hid|hid
  ·have:=h2.hA id hid;omega
  ·have:=hid.1;omega
 ·refine hk H7 n5 l vv5 ⟨by omega,λid h1 h2' h3 h4=>?_,λhs=>?_⟩ (ka6.box o s7 (by omega) λe=>by have:=AWU _ e;omega) ?_ (ht7.mono (λid hid=>?_) λ_ _=>rfl)
  ·refine(s7 id (by omega)).trans ((s6 id (by omega)).trans ((Zz id (by omega) h2' h3 λe=>?_).trans ((s4 id (by omega)).trans ((AOC id (by omega) h2' h3 λ_=>h4).trans (h2.f.same id h1 h2' (by omega))))))
   rcases sd3 with s|s
   ·exact h4 (s.symm.trans e)
   ·have:=s id e;omega
  ·exact(((f5.seen ((f3.seen (h2.f.seen hs)).same (s4 _ (by omega)))).same (s6 _ (by omega)))).same (s7 _ (by omega))
  ·rcases AbK with s|s
   ·exact .inl s
   ·exact .inr λid hid=>by have:=s id hid;omega
  ·rcases hid with hid|hid
   ·exact .inl hid
   ·exact .inr ⟨by have:=hid.1;omega,hid.2⟩
end
theorem ACV{x:Kx}{does:Nat}{nm:St}{ty:Ty}{ts:List Ty}{g g1:Gs}(h:AHD x does nm ty ts g=some g1):
 (does=1/\∃a,ts=[a]/\fitsT x.tb a ty=true/\FP nm g.1=none/\g.2<200/\g1=(g.1++[⟨nm,ty⟩],g.2+1))∨
 (g1=g/\((does=2/\∃a b,ts=[a,b]/\fitsT x.tb b a=true)∨(does=3/\∃a,ts=[a])∨((does=4∨does=5)/\ts=[BM])∨(does=6/\∃a,ts=[a]/\fitsT x.tb a x.ret=true)∨(does=7/\ts=[Cb]))):=by
 match does,h with
 |0,h=>cases h
 |1,h=>
  rcases ts with _|⟨a,_|⟨b,l⟩⟩
  ·cases h
  ·have h:(bif fitsT x.tb a ty then AAH ⟨nm,ty⟩ g else none)=some g1:=h
   cases hf:fitsT x.tb a ty with
   |false=>rw[hf]at h;cases h
   |true=>
    rw[hf]at h
    have h:(bif (FP nm g.1).isNone&&decide (g.2<200)then some (g.1++[⟨nm,ty⟩],g.2+1)else none)=some g1:=h
    cases hb:(FP nm g.1).isNone&&decide (g.2<200)with
    |false=>rw[hb]at h;cases h
    |true=>
     rw[hb]at h
     rw[Bool.and_eq_true]at hb
     exact .inl ⟨rfl,a,rfl,hf,Option.isNone_iff_eq_none.1 hb.1,of_decide_eq_true hb.2,(Option.some.inj h).symm⟩
  ·cases h
 |2,h=>
  rcases ts with _|⟨a,_|⟨b,_|⟨c,l⟩⟩⟩
  ·cases h
  ·cases h
  ·have h:(bif fitsT x.tb b a then some g else none)=some g1:=h
   cases hf:fitsT x.tb b a with
   |false=>rw[hf]at h;cases h
   |true=>rw[hf]at h;exact .inr ⟨(Option.some.inj h).symm,.inl ⟨rfl,a,b,rfl,hf⟩⟩
  ·cases h
 |3,h=>
  rcases ts with _|⟨a,_|⟨b,l⟩⟩
  ·cases h
  ·exact .inr ⟨(Option.some.inj h).symm,.inr (.inl ⟨rfl,a,rfl⟩)⟩
  ·cases h
 |4,h=>
  rcases ts with _|⟨a,_|⟨b,l⟩⟩
  ·cases h
  ·have h:(bif a.is BM then some g else none)=some g1:=h
   cases hf:a.is BM with
   |false=>rw[hf]at h;cases h
   |true=>rw[hf]at h;exact .inr ⟨(Option.some.inj h).symm,.inr (.inr (.inl ⟨.inl rfl,by rw[kW hf]⟩))⟩
  ·cases h
 |5,h=>
  rcases ts with _|⟨a,_|⟨b,l⟩⟩
  ·cases h
  ·have h:(bif a.is BM then some g else none)=some g1:=h
   cases hf:a.is BM with
   |false=>rw[hf]at h;cases h
   |true=>rw[hf]at h;exact .inr ⟨(Option.some.inj h).symm,.inr (.inr (.inl ⟨.inr rfl,by rw[kW hf]⟩))⟩
  ·cases h
 |6,h=>
  rcases ts with _|⟨a,_|⟨b,l⟩⟩
  ·cases h
  ·have h:(bif fitsT x.tb a x.ret then some g else none)=some g1:=h
   cases hf:fitsT x.tb a x.ret with
   |false=>rw[hf]at h;cases h
   |true=>rw[hf]at h;exact .inr ⟨(Option.some.inj h).symm,.inr (.inr (.inr (.inl ⟨rfl,a,rfl,hf⟩)))⟩
  ·cases h
 |7,h=>
  rcases ts with _|⟨a,_|⟨b,l⟩⟩
  ·cases h
  ·have h:(bif a.is Cb then some g else none)=some g1:=h
   cases hf:a.is Cb with
   |false=>rw[hf]at h;cases h
   |true=>rw[hf]at h;exact .inr ⟨(Option.some.inj h).symm,.inr (.inr (.inr (.inr ⟨rfl,by rw[kW hf]⟩)))⟩
  ·cases h
 |d+8,h=>rcases ts with _|⟨a,_|⟨b,_|⟨c,l⟩⟩⟩<;>cases h
section
variable{G:AX}{K:Kq}{M:Km}
theorem AQ4{H H0:Heap}{n n0:Nat}{vv:V}{all:Nat}{Γ:List DJ}{k:KV}{A:Nat->Prop}{does:Nat}{nm:St}{ty:Ty}{line col:Nat}{v' vt vl:V}{es':List Te}{th el:List Tt}{g1:Gs}{r:Tt×Gs}(o:Yg G K)
 (h:Sb G H0 n0 H n K M vv all Γ A does line col nm ty v' vt vl es' th el) (hok:∀e∈es',e.of.nm.ok) (hkn:does=1->BO K.tb ty=true) (hst:AHD (K.x M) does nm ty (es'.map Te.of) (Γ,all)=some g1)
 (hr:(does=4∨does=5)/\(th.length<=1000/\el.length<=1000)/\(∃p q,iG (K.x M) th g1=some p/\iG (K.x M) el (g1.1,p.2)=some q/\r=(.mk does nm ty es' p.1 q.1,(g1.1,q.2)))∨¬(does=4∨does=5)/\r=(.mk does nm ty es' th el,g1))
 (ht:vV G K M th) (hl:vV G K M el) (hk:AKc G K M A H0 n0 vv r.2 r.1 k):Hq lfp G (Runs F G) k (.ptr K.kb 0) (.ptr n0 0) (.ptr (n0+1) 0) H n:=by
 delta Hq
 have hbn:=h.ka.bn o
 have hle:=h.le
 have hk0:=h.kk o
 rw[BU,AQ,Ae,AQ,Dk,AQ]
 refine AB (AV (off:=0+17) hk0.g (v:=.int .i64 (.ofNat 0) 0) rfl) (AB (lS ..) ?_)
 show Aa (.bool false) true _ _
 rw[Ai,Ae,AQ]
 have qv:∀{H':Heap},T.get H' n0=some (one (ttC does line col nm ty v' vt vl))->AY (.ptr n0 (0+6)) G H'=some v':=λg=>AV (off:=0+6) g rfl
 have qd:∀{H':Heap},T.get H' n0=some (one (ttC does line col nm ty v' vt vl))->AY (.ptr n0 0) G H'=some (.int .i64 (.ofNat does) 0):=λg=>AV (off:=0) g rfl
 refine AB (qv h.g) ?_
 have hne:es'≠[]:=by
  rcases ACV hst with⟨_,a,e,_⟩|⟨_,⟨_,a,b,e,_⟩|⟨_,a,e⟩|⟨_,e⟩|⟨_,a,e,_⟩|⟨_,e⟩⟩<;>exact map_nil e
 obtain⟨e0,rest,rfl⟩:=List.exists_cons_of_ne_nil hne
 obtain⟨cs,e1,e2,e3,e4,e5,hts⟩:=h.es
 have hvs:Ar v' v'=true:=by
  have:=e2.1
  cases v'<;>first|exact this|(cases e1.2;done)|(cases e1.1;done)
 cases hts with
 |cons het htr=>
 rename_i l ls
 obtain⟨pl,pc,hq⟩:=AZo (q:=n) het
 have hok0:=hok e0 (List.mem_cons_self ..)
 obtain⟨p,q1,q8,q9,kd⟩:=qG o.sub (i:=0) (l:=l) e1 rfl het.len
 refine AB kd.ip (AB (kd.ld H e1).1 ?_)
 refine Au rfl λH1 f1 g1'=>?_
 refine Bq g1' rfl het.len (by omega) λH2 g2 s2=>?_
 have f2:Kp H n H2 (n+1):=⟨f1.le,λid hid=>(s2 id (by omega)).trans (f1.same id hid)⟩
 have h2:=h.kp o f2
 have hk2:=h2.kk o
 have qb:=hq g2
 have qq:∀{H':Heap} {n':Nat},Kb K.b H2 (n+1) H' n'->Qb H' n e0.of pl pc:=λf=>hq (f.get g2 (by omega) (by omega))
 rw[Dk,AQ]
 refine AB (qd h2.g) (AB (CY ..) ?_)
 have qt:AY (.ptr K.kb 0) G H2=some (.ptr K.t 0):=AV (off:=0) hk2.g rfl
 rcases ACV hst with⟨rfl,a,ets,hf,hln,hall,rfl⟩|⟨rfl,hd⟩
 ·
   rw[show decide (1=1)=true from rfl,A8,AQ,Dk,AQ]
   rw[List.map_cons,List.cons.injEq]at ets
   obtain⟨rfl,-⟩:=ets
   have hty:=ADK (hkn rfl)
   refine AB qt ?_
   rw[Ae,AQ]
   refine AB qb.of ?_
   rw[Ae,AQ]
   refine AB (v:=ty.v) (Dh (off:=0+4) (m:=2) h2.g (by omega) (by show 0+4+2<=9;omega)) ?_
   rw[Ae,AQ]
   refine AB qb.ps ?_
   refine AHX o hk2 hok0 hty hf (λH' n' f=>(qq f).ps) λH3 n3 f3=>?_
   have h3:=h2.kb o f3
   rw[A8,Ae,AQ]
   refine AB (AV (off:=0+3) h3.g (v:=nm.v) rfl) ?_
   rw[Ae,AQ]
   refine AB (v:=ty.v) (Dh (off:=0+4) (m:=2) h3.g (by omega) (by show 0+4+2<=9;omega)) ?_
   refine AB (v:=.agg (QZ ⟨nm,ty⟩)) rfl ?_
   rw[AQ]
   refine AB (v:=bU line col) (Dh (off:=0+1) (m:=2) h3.g (by omega) (by show 0+1+2<=9;omega)) ?_
   refine AVU (x:=⟨nm,ty⟩) o (h3.kk o) hty hln hall λH4 n4 vv4 f4 ka4 sd4=>?_
   rcases hr with⟨hd,_⟩|⟨_,rfl⟩
   ·omega
   ·exact h3.done o f4 ka4 sd4 hk
 ·have h1n:does≠1:=by omega
  rw[decide_eq_false h1n,Ai]
  refine AB (CY ..) ?_
  rcases hd with⟨rfl,a,b,ets,hf⟩|⟨rfl,a,ets⟩|⟨hd,ets⟩|⟨rfl,a,ets,hf⟩|⟨rfl,ets⟩
  ·
    rw[show decide (2=2)=true from rfl,A8,AQ,Dk,AQ]
    refine AB qt ?_
    rcases rest with _|⟨e1',rest⟩
    ·cases ets
    rw[List.map_cons,List.map_cons,List.cons.injEq,List.cons.injEq]at ets
    obtain⟨rfl,rfl,-⟩:=ets
    have hok1:=hok e1' (by simp)
    cases htr with
    |cons het' htr=>
    rename_i l' ls'
    have e12:=e1.same (H':=H2) λid hid=>f2.same id (e5 id hid).2
    obtain⟨p',r1,r8,r9,kd'⟩:=qG o.sub (i:=1) (l:=l') e1 rfl het'.len
    have e8':(l'.drop 8).take 2=e1'.of.cells:=by cases het';rfl
    obtain⟨pl',pc',ep'⟩:∃pl' pc',(l'.drop 1).take 2=[V.int .i64 (.ofNat pl') 0,.int .i64 (.ofNat pc') 0]:=by
     cases het' with
     |mk _ _ _ _ _ _ line' col' _ _ _ _=>exact⟨line',col',rfl⟩
    have lp:∀{H'},El G H' v' 11 (l::l'::ls')->Ad 2 r1 G H'=some (bU pl' pc'):=λh'=>by rw[(kd'.ld _ h').2.1,ep']
    rw[AQ]
    refine AB (qv h2.g) (AB kd'.ip (AB kd'.i8 (AB (v:=e1'.of.v) (by rw[(kd'.ld H2 e12).2.2.1,e8'];rfl) ?_)))
    rw[Ae,AQ]
    refine AB qb.of ?_
    rw[AQ]
    refine AB (qv h2.g) (AB kd'.ip (AB kd'.i1 (AB (lp e12) ?_)))
    refine AIi (x:=e1'.of) (y:=e0.of) hk2.tab (by have:=hk2.kn;have:=o.n0;omega) o.tl hok1 hok0 λH3 n3 f3=>?_
    have hf:fitsT K.tb e1'.of e0.of=true:=hf
    rw[hf]
    have h3:=h2.kb o f3
    have e13:=e12.same (H':=H3) λid hid=>by have:=e5 id hid;exact f3.same id (by have:=this.2;omega) (by have:=this.1;omega)
    refine AB (qv h3.g) (Bd hvs (AB (lp e13) (Bd (MH ..) ?_)))
    refine RD (K:=K) (h3.kk o).g (h3.kk o).kn λH4 f4=>?_
    have h4:=h3.kp o f4
    rcases hr with⟨hd,_⟩|⟨_,rfl⟩
    ·omega
    ·exact h4.AN4 o (Kb.refl ..) hk
  ·
    rw[show decide (3=2)=false from rfl,Ai]
    refine AB (CY ..) ?_
    rw[show decide (3=4)=false from rfl,Ai]
    refine AB (CY ..) ?_
    delta Dv
    rw[show decide (3=5)=false from rfl,Ai]
    refine AB (CY ..) ?_
    rw[show decide (3=6)=false from rfl,Ai]
    refine AB (CY ..) ?_
    rw[show decide (3=7)=false from rfl,Ai]
    rcases hr with⟨hd,_⟩|⟨_,rfl⟩
    ·omega
    ·exact h2.AN4 o (Kb.refl ..) hk
  ·
    rcases hr with⟨_,hz,P,Q,c1,c2,rfl⟩|⟨hn,_⟩
    ·rw[List.map_cons,List.cons.injEq]at ets
     obtain⟨hof,hrest⟩:=ets
     have:rest=[]:=List.map_eq_nil_iff.1 hrest
     subst this
     have key:∀v6,Dv lfp G (Runs F G) k (.ptr K.kb 0) (.ptr n0 0) (.ptr (n0+1) 0) (.ptr n 0) v6 (.bool true) H2 (n+1):=λv6=>
      AY4 (th':=P.1) (el':=Q.1) (a1:=P.2) (a2:=Q.2) (a:=e0) o h2 hd rfl hof ht hl hz c1 c2 hk
     rcases hd with rfl|rfl
     ·rw[show decide (4=2)=false from rfl,Ai]
      refine AB (CY ..) ?_
      rw[show decide (4=4)=true from rfl,A8]
      exact key _
     ·rw[show decide (5=2)=false from rfl,Ai]
      refine AB (CY ..) ?_
      rw[show decide (5=4)=false from rfl,Ai]
      refine AB (CY ..) ?_
      rw[show decide (5=5)=true from rfl]
      exact key _
    ·exact absurd hd hn
  ·
    rw[show decide (6=2)=false from rfl,Ai]
    refine AB (CY ..) ?_
    rw[show decide (6=4)=false from rfl,Ai]
    refine AB (CY ..) ?_
    delta Dv
    rw[show decide (6=5)=false from rfl,Ai]
    refine AB (CY ..) ?_
    rw[show decide (6=6)=true from rfl,A8,BU,AQ,Dk,AQ]
    refine AB qt ?_
    rw[List.map_cons,List.cons.injEq]at ets
    obtain⟨rfl,-⟩:=ets
    rw[Ae,AQ]
    refine AB qb.of ?_
    rw[AQ,Ae,AQ,Ae,AQ]
    refine AB (v:=M.ret.v) (Dh (off:=0+9+5) (m:=2) hk2.g (by omega) (by show 0+9+5+2<=20;omega)) ?_
    rw[Ae,AQ]
    refine AB qb.ps ?_
    have hf:fitsT K.tb e0.of M.ret=true:=hf
    refine AHX o hk2 hok0 hk2.ret hf (λH' n' f=>(qq f).ps) λH3 n3 f3=>?_
    have h3:=h2.kb o f3
    rcases hr with⟨hd,_⟩|⟨_,rfl⟩
    ·omega
    ·exact h3.AN4 o (Kb.refl ..) hk
  ·
    rw[show decide (7=2)=false from rfl,Ai]
    refine AB (CY ..) ?_
    rw[show decide (7=4)=false from rfl,Ai]
    refine AB (CY ..) ?_
    delta Dv
    rw[show decide (7=5)=false from rfl,Ai]
    refine AB (CY ..) ?_
    rw[show decide (7=6)=false from rfl,Ai]
    refine AB (CY ..) ?_
    rw[show decide (7=7)=true from rfl,A8,Ae,AQ]
    refine AB (qv h2.g) ?_
    refine JL λH3 n3 f3=>?_
    have h3:=h2.kp o f3
    refine AB (qv h3.g) (Bd hvs ?_)
    rw[List.map_cons,List.cons.injEq]at ets
    obtain⟨hof,hrest⟩:=ets
    have:rest=[]:=List.map_eq_nil_iff.1 hrest
    subst this
    obtain⟨cs3,x1,-,-,-,x5,xts⟩:=h3.es
    refine ACf (K:=K) (A:=Rg (n0+2) n3) (h3.kk o).g (h3.kk o).kn x1 x5 xts (λid hid=>hid.2) (λe hmem=>by rw[List.mem_singleton]at hmem;rw[hmem];exact hof) (by show 1<=1000000;omega) λH4 n4 f4=>?_
    have h4:=h3.kp o f4
    rcases hr with⟨hd,_⟩|⟨_,rfl⟩
    ·omega
    ·exact h4.AN4 o (Kb.refl ..) hk
end
section
variable{G:AX}{K:Kq}{M:Km}
theorem AM2(o:Yg G K){does:Nat}{nm:St}{ty:Ty}{es:List Te}{th el:List Tt}(ht:vV G K M th)(hl:vV G K M el):ANe G K M (.mk does nm ty es th el):=by
 intro H n A l vv all Γ g' s' k h hs hA hck hk
 refine go2 (sV BK G) ?_
 delta YX
 obtain⟨hkn1,es',g1,hL,hst,hr⟩:=AEx hck
 have hkok:=ACs o h.ok hL
 have hll:=ABg hL
 have hkn:=h.kn
 have hbn:=h.bn o
 have hlen:es'.length<=2:=by
  have h2:(es'.map Te.of).length<=2:=by
   rcases ACV hst with⟨_,a,e,_⟩|⟨_,⟨_,a,b,e,_⟩|⟨_,a,e⟩|⟨_,e⟩|⟨_,a,e,_⟩|⟨_,e⟩⟩<;>rw[e]<;>simp
  rwa [List.length_map]at h2
 cases hs with
 |mk _ _ _ line col he hte hkt hat htt hle hkl hal htl=>
 rename_i ve vt vl ct cl
 have okv:∀{v:V} {z:Nat} {LS:Dy},El G H v z LS->jc v=true/\Bl v=[v]:=λ{v z LS} hev=>by
  cases v<;>first|exact⟨rfl,rfl⟩|(cases hev.2;done)|(cases hev.1;done)
 have hth:U9 G H A vt th:=⟨ct,hte,hkt,(okv hte).1,(okv hte).2,hat,htt⟩
 have hel:U9 G H A vl el:=⟨cl,hle,hkl,(okv hle).1,(okv hle).2,hal,htl⟩
 refine DY λH1 f1 g1'=>?_
 refine Au rfl λH2 f2 g2=>?_
 have f02:=f1.trans f2
 have g1':=f2.get g1' (by omega)
 have h2:=h.kp o f02
 rw[BU,AQ,Ae,AQ,Dk,AQ]
 refine AB (AV (off:=0+17) h2.g (v:=.int .i64 (.ofNat 0) 0) rfl) (AB (lS ..) ?_)
 show Aa (.bool false) true _ _
 rw[Ai,Dk,AQ]
 refine AB (AV (off:=0) g1' (v:=.int .i64 (.ofNat does) 0) rfl) (AB (CY ..) ?_)
 have hes:QI G H2 A ve es:=he.mono (λ_ h=>h) λid hid=>f02.same id (by have:=hA id hid;omega)
 have rest:∀H3 n3,Kb K.b H2 (n+1+1) H3 n3->AL (AU 6 (.ptr n 0)) (λv29=>AL (AY v29 G H3) λv30=>Runs F G Ei [v30] H3 n3 λv31 H n'=>AL (AU 6 (.ptr n 0)) λv32=>BL 1 v32 v31 H n' λv33 H n'=>AL (AU 6 (.ptr n 0)) λv127=>AL (AY v127 G H) λv128=>AL (lenV v128) λv129=>
  lfp (V×V×V×V×V×V×Heap×Nat) (I9 lfp G (Runs F G) k) (.ptr K.kb 0,.ptr n 0,.ptr (n+1) 0,v128,v129,.int .i64 (.ofNat 0) 0,H,n')):=by
  intro H3 n3 f3
  have hn3:=f3.le
  have f03:Kb K.b H n H3 n3:=(f02.kb hbn).trans f3
  refine ASW (m:=n) o (h.kb o (f03.low (Nat.le_refl _))) (Nat.le_refl _) (by omega) hA (f3.get g1' (by omega) (by omega)) (hes.mono (λ_ h=>h) λid hid=>by have:=hA id hid;exact f3.same id (by omega) this.2) (by omega) hL λH4 n4 v4 f4 g4 hes4=>?_
  have hn4:=f4.le
  refine AQ4 (r:=(s',g')) o ⟨h,hA,⟨by omega,λid h1 h2 h3=>(f4.same id (by omega) h2 h3).trans (f03.same id h1 h2),λhs=>f4.seen (f03.seen hs)⟩,by omega,g4,(f4.same (n+1) (by omega) (by omega) (by omega)).trans (f3.get g2 (by omega) (by omega)),hes4.mono (λid hid=>⟨by have:=hid.1;omega,hid.2⟩) (λ_ _=>rfl),hth,hel⟩ hkok hkn1 hst hr ht hl hk
 cases hd:decide (does=1)with
 |false=>
  repeat (first|with_reducible refine ACQ ?_|with_reducible refine rD ?_|with_reducible refine ARg ?_|with_reducible refine lZ ?_)
  rw[Ai]
  exact rest H2 _ (Kb.refl ..)
 |true=>
  have hkt1:=hkn1 (of_decide_eq_true hd)
  have hty:=ADK hkt1
  refine PV rfl (PV rfl (PV (BU ..) (PV (Dk ..) (PV (AV (off:=0) h2.g (v:=.ptr K.t 0) rfl) (PV (Ae ..) ?_)))))
  refine PV (a:=ty.v) (Dh (off:=0+4) (m:=2) g1' (by omega) (by show 0+4+2<=9;omega)) (ACa ?_)
  refine TD (G:=G) (vs:=[ty.v]) rfl (by omega) (λv hv=>by simp at hv;subst hv;exact⟨rfl,rfl⟩) λH3 f3 _ hel3=>?_
  have g13:=f3.get g1' (by omega)
  have qp:∀{H':Heap},T.get H' n=some (one (ttC does line col nm ty ve vt vl))->Ad 2 (.ptr n (0+1)) G H'=some (bU line col):=λg=>Dh (off:=0+1) (m:=2) g (by omega) (by show 0+1+2<=9;omega)
  refine PV (Ae ..) (PV (qp g13) (ACa ?_))
  have h3:=h2.kp o f3
  refine X3 (xs:=[ty]) (h3.up o) ⟨hel3,λid hid=>by cases hid;omega,by unfold big;exact(by decide:1<9223372036854775808),λt ht=>by rw[List.mem_singleton.1 ht];exact hty⟩ λH4 n4 f4=>?_
  have hn4:=f4.le
  rw[show[ty].all (BO K.tb)=true by have:BO K.tb ty=true:=hkt1;simp[this]]
  refine ATu (qp (f4.get g13 (by omega) (by omega))) (MH ..) (ACa ?_)
  have h4:=h3.kb o f4
  refine RD (K:=K) h4.g h4.kn λH5 f5=>?_
  refine PV (Ef ..) (eP ?_)
  show Aa (.bool false) true _ _
  rw[Ai]
  exact rest H5 _ ((f3.kb (by omega)).trans (f4.trans (f5.kb (by omega))))
theorem ACG{x:Kx}{s:Tt}{l b':List Tt}{g:Gs}{a:Nat}(h:iG x (s::l) g=some (b',a)):∃s' g1 l',ckS x s g=some (s',g1)/\iG x l g1=some (l',a)/\b'=s'::l':=by
 rw[iG]at h
 obtain⟨p,h1,h⟩:=Option.bind_eq_some_iff.1 h
 obtain⟨q,h2,h3⟩:=Option.map_eq_some_iff.1 h
 cases h3
 exact⟨p.1,p.2,q.1,h1,h2,rfl⟩
theorem AN2{x:Kx}:∀{s s':Tt} {g g':Gs},ckS x s g=some (s',g')->∃Δ,g'.1=g.1++Δ
 |.mk does nm ty es th el,s',g,g',h=>by
  obtain⟨_,es',g1,_,hst,hr⟩:=AEx h
  have h1:∃Δ,g1.1=g.1++Δ:=by
   rcases ACV hst with⟨_,a,_,_,_,_,rfl⟩|⟨rfl,_⟩
   ·exact⟨_,rfl⟩
   ·exact⟨[],(List.append_nil _).symm⟩
  rcases hr with⟨_,_,p,q,_,_,e⟩|⟨_,e⟩
  ·cases e;exact h1
  ·cases e;exact h1
theorem AAP(o:Yg G K):∀{b:List Tt},(∀s∈b,ANe G K M s)->vV G K M b:=by
 intro b hS hlen0 H n A v vv all Γ b' all' k h hs hA hck hk
 refine go2 (nZ BK G) ?_
 delta Xl
 have hkn:=h.kn
 have hbn:=h.bn o
 have hn0:=o.n0
 have hb0:=o.ba
 have qv:∀{H':Heap} {vv':V} {a':Nat},T.get H' K.kb=some (one (K.cells M vv' a'))->AY (.ptr K.kb (0+1)) G H'=some vv':=λg=>AV (off:=0+1) g rfl
 rw[BU,AQ,Ae,AQ,Dk,AQ]
 refine AB (qv h.g) ?_
 have hlen:=(h.sk.el (G:=G) (by omega)).len
 rw[List.length_map]at hlen
 refine AB hlen ?_
 obtain⟨cs,e1,-,-,-,e5,hts⟩:=hs
 have hcl:=hts.len
 have hlb:=e1.len
 rw[hcl]at hlb
 refine AB hlb ?_
 refine CP (N:=b.length) (J:=λj q=>∃H' n' vo vv' a' Γ' ds b1,q=(.ptr K.kb 0,.int .i64 (.ofNat Γ.length) 0,vo,v,.int .i64 (.ofNat b.length) 0,.int .i64 (.ofNat j) 0,H',n')/\Ks K vv H n H' n'/\nP G H' n' K M vv' a' Γ'/\Sd n vv vv'/\(∃Δ,Γ'=Γ++Δ)/\
  Sk H' 9 (λid=>n<=id/\id<n'/\vv'.D9≠some id) vo ds/\IW G H' (λid=>A id∨(Rv n n' vv' id/\vo.D9≠some id)) ds b1/\(∃b2,iG (K.x M) (b.drop j) (Γ',a')=some (b2,all')/\b'=b1++b2)/\b1.length=j) ?_ ?_
  ⟨H,n,.Ag,vv,all,Γ,[],[],rfl,Ks.refl ..,h,Sd.refl ..,⟨[],(List.append_nil _).symm⟩,.nil,.nil,⟨b',hck,rfl⟩,rfl⟩
 ·rintro I j q hlt ⟨H3,n3,vo,vv3,a3,Γ3,ds,b1,rfl,f3,h3,sd3,⟨Δ,hΔ⟩,sk3,ts3,⟨b2,hb2,hbb⟩,hjl⟩ ih
  show Gw lfp G (Runs F G) k I (.ptr K.kb 0) (.int .i64 (.ofNat Γ.length) 0) vo v (.int .i64 (.ofNat b.length) 0) (.int .i64 (.ofNat j) 0) H3 n3
  delta Gw
  have hn3:=f3.le
  have xY:∀id,vv.D9=some id->K.kb<id/\id<n:=λid hid=>h.sk.own hid
  have hA3:∀id,A id->T.get H3 id=T.get H id:=λid hid=>by
   have:=hA id hid
   exact f3.same id (by omega) this.2 (by omega) λe=>by have:=xY id e;omega
  have hts3:=IW.mono (H':=H3) (λ_ h=>h) hA3 hts
  obtain⟨l,hl,htt⟩:=hts3.at (List.getElem?_eq_getElem hlt)
  obtain⟨p,hpp,hld⟩:=(e1.same (H':=H3) λid hid=>hA3 id (e5 id hid)).at hl
  have hS1:=hS _ (List.getElem_mem hlt)
  rw[List.drop_eq_getElem_cons hlt]at hb2
  obtain⟨s',g1,l',hs1,hb3,rfl⟩:=ACG hb2
  generalize b[j]=s at htt hS1 hs1
  rw[Dl,AQ,decide_eq_true hlt,A8]
  refine AB hpp (AB (DW hld) ?_)
  refine Au rfl λH4 f4 g4=>?_
  refine Bq g4 rfl htt.len (by omega) λH5 g5 s5=>?_
  have f35:Kp H3 n3 H5 (n3+1):=⟨f4.le,λid hid=>(s5 id (by omega)).trans (f4.same id hid)⟩
  refine AB (BI (m:=9) g5 (by omega) htt.len) ?_
  have h5:=h3.kp o f35
  refine hS1 H5 (n3+1) A l vv3 a3 Γ3 g1 s' _ h5 (htt.mono (λ_ h=>h) λid hid=>f35.same id (by have:=hA id hid;omega)) hA hs1 ?_
  intro H6 n6 l6 vv6 f6 h6 sd6 ht6
  have hn6:=f6.le
  have AR0:∀id,vv3.D9=some id->K.kb<id/\id<n3:=λid hid=>h3.sk.own hid
  have vlo6:∀id,vv6.D9=some id->vv3.D9=some id∨n3+1<=id:=λid hid=>by
   rcases sd6 with s|s
   ·exact .inl (s.symm.trans hid)
   ·exact .inr (s id hid)
  have f36:∀id,id<n3->id≠K.b->id≠K.kb->vv3.D9≠some id->T.get H6 id=T.get H3 id:=λid h1 h2 h3 h4=>(f6.same id (by omega) h2 h3 h4).trans (f35.same id h1)
  have sk6:Sk H6 9 (λid=>n<=id/\id<n3/\vv6.D9≠some id) vo ds:=sk3.mono (λid hid=>⟨hid.1,hid.2.1,λe=>by
   rcases vlo6 id e with e|e
   ·exact hid.2.2 e
   ·omega⟩) λid hid=>f36 id hid.2.1 (by omega) (by omega) hid.2.2
  have hdl:=ts3.len
  refine sk6.app (bs:=136) (c:=.agg l6) (m:=0) (λid hid=>by have:=sk6.own hid;omega) (by omega) rfl ht6.len (by rw[hdl];omega) λvo' H7 hs7 same7 hsid=>?_
  have von:∀id,id<n∨n3<=id->vo.D9≠some id:=λid h e=>by have:=sk6.own e;omega
  have vo'n:∀id,id<n6+1->vo'.D9≠some id:=λid h e=>by rw[hsid]at e;have:=Option.some.inj e;omega
  have v6n:∀id,vv6.D9=some id->id<n6:=λid hid=>(h6.sk.own hid).2
  have v6o:∀id,vv6.D9=some id->vo.D9≠some id:=λid hid e=>(sk6.own e).2.2 hid
  rw[Eu (by omega),AQ]
  have h7:nP G H7 (n6+2) K M vv6 g1.2 g1.1:=⟨(same7 _ (by have:=h6.kn;omega) (von _ (.inl (by omega)))).trans h6.g,h6.tab.kb ⟨Nat.le_refl _,λid h1 _=>same7 id (by omega) (von _ (.inl (by omega))),λx=>x.same (same7 _ (by omega) (von _ (.inl (by omega))))⟩,by have:=h6.kn;omega,
   h6.sk.PW (λid hid=>by have:=h6.sk.own hid;omega) λid hid=>same7 id (v6n id hid) (v6o id hid),h6.la,h6.al,h6.ok,h6.ret⟩
  have sd36:Sd n vv vv6:=sd3.trans sd6 (by omega)
  have f7:Ks K vv H n H7 (n6+2):=⟨by omega,λid h1 h2 h3 h4=>(same7 id (by omega) (von _ (.inl h1))).trans ((f36 id (by omega) h2 h3 λe=>by
   rcases sd3 with s|s
   ·exact h4 (s.symm.trans e)
   ·have:=s id e;omega).trans (f3.same id h1 h2 h3 h4)),λhs=>(f6.seen ((f3.seen hs).same (f35.same _ (by omega)))).same (same7 _ (by omega) (von _ (.inl (by omega))))⟩
  obtain⟨Δ',hΔ'⟩:=AN2 hs1
  refine ih _ ⟨H7,n6+2,vo',vv6,g1.2,g1.1,ds++[l6],b1++[s'],rfl,f7,h7,sd36,⟨Δ++Δ',by rw[hΔ',hΔ,List.append_assoc]⟩,hs7 _ ⟨by omega,by omega,λe=>by have:=v6n _ e;omega⟩,?_,⟨l',hb3,by rw[hbb,List.append_assoc];rfl⟩,by rw[List.length_append,hjl];rfl⟩
  refine(IW.mono (λid hid=>?_) (λid hid=>?_) ts3).app (.cons (ht6.mono (λid hid=>?_) λid hid=>?_) .nil)
  ·rcases hid with hid|hid
   ·exact .inl hid
   ·refine .inr ⟨⟨hid.1.1,by have:=hid.1.2.1;omega,λe=>?_⟩,vo'n id (by have:=hid.1.2.1;omega)⟩
    rcases vlo6 id e with e|e
    ·exact hid.1.2.2 e
    ·have:=hid.1.2.1;omega
  ·rcases hid with hid|hid
   ·have:=hA id hid
    exact(same7 id (by omega) (von _ (.inl (by omega)))).trans (f36 id (by omega) this.2 (by omega) λe=>by have:=AR0 id e;omega)
   ·exact(same7 id (by have:=hid.1.2.1;omega) hid.2).trans (f36 id hid.1.2.1 (by have:=hid.1.1;omega) (by have:=hid.1.1;omega) hid.1.2.2)
  ·rcases hid with hid|hid
   ·exact .inl hid
   ·exact .inr ⟨⟨by have:=hid.1;omega,by have:=hid.2.1;omega,hid.2.2⟩,vo'n id (by have:=hid.2.1;omega)⟩
  ·rcases hid with hid|hid
   ·have:=hA id hid
    exact same7 id (by omega) (von _ (.inl (by omega)))
   ·exact same7 id hid.2.1 (von _ (.inr (by have:=hid.1;omega)))
 ·rintro I q ⟨H3,n3,vo,vv3,a3,Γ3,ds,b1,rfl,f3,h3,sd3,⟨Δ,hΔ⟩,sk3,ts3,⟨b2,hb2,hbb⟩,hjl⟩
  show Gw lfp G (Runs F G) k I (.ptr K.kb 0) (.int .i64 (.ofNat Γ.length) 0) vo v (.int .i64 (.ofNat b.length) 0) (.int .i64 (.ofNat b.length) 0) H3 n3
  delta Gw
  rw[Dl,AQ,decide_eq_false (Nat.lt_irrefl _),Ai]
  delta Oa
  rw[List.drop_eq_nil_of_le (Nat.le_refl _),iG]at hb2
  cases hb2
  rw[List.append_nil]at hbb
  subst hbb
  subst hΔ
  obtain⟨vv',hv',hsid',hsk'⟩:=h3.sk.cut (i:=Γ.length) (q:=.i64) (by simp)
  rw[BU,AQ,Ae,AQ,Dk,AQ]
  refine AB (qv h3.g) (AB hv' ?_)
  rw[AQ,Ae,AQ,Dk,AQ]
  have hn3:=f3.le
  refine Ib (off:=0+1) (m:=1) (v:=vv') h3.g hsk'.ok.1 (by rw[hsk'.ok.2.1];rfl) (by omega) (by show 0+1+1<=20;omega) λH4 g4 s4=>?_
  rw[hsk'.ok.2.1]at g4
  have htk:(List.map QZ (Γ++Δ)).take Γ.length=Γ.map QZ:=by rw[List.map_append,List.take_left' (by simp)]
  rw[htk]at hsk'
  have hla:=h3.la
  rw[List.length_append]at hla
  refine hk H4 n3 vo vv' ⟨hn3,λid h1 h2 h3' h4=>(s4 id h3').trans (f3.same id h1 h2 h3' h4),λhs=>(f3.seen hs).same (s4 _ (by omega))⟩
   ⟨g4,h3.tab.kb ⟨Nat.le_refl _,λid h1 _=>s4 id (by omega),λx=>x.same (s4 _ (by omega))⟩,h3.kn,hsk'.PW (λid hid=>hsk'.own hid) (λid hid=>s4 id (by have:=(hsk'.own hid).1;omega)),by omega,h3.al,h.ok,h.ret⟩ ?_
   ⟨ds,(sk3.mono (B:=λ_=>True) (λ_ _=>trivial) λid hid=>s4 id (by omega)).el (by omega),sk3.ks,sk3.ok.1,sk3.ok.2.1,λid hid=>?_,IW.mono (λid hid=>?_) (λid hid=>?_) ts3⟩
  ·rw[Sd,hsid'];exact sd3
  ·have:=sk3.own hid
   exact .inr ⟨this.1,this.2.1,by rw[hsid'];exact this.2.2⟩
  ·rcases hid with hid|hid
   ·exact .inl hid
   ·exact .inr ⟨hid.1.1,hid.1.2.1,by rw[hsid'];exact hid.1.2.2⟩
  ·rcases hid with hid|hid
   ·exact s4 id (by have:=hA id hid;omega)
   ·exact s4 id (by have:=hid.1.1;omega)
mutual
theorem ATR(o:Yg G K):∀s,ANe G K M s
 |.mk _ _ _ _ th el=>AM2 o (AAP o (ABc o th)) (AAP o (ABc o el))
theorem ABc(o:Yg G K):∀b:List Tt,∀s∈b,ANe G K M s
 |[]=>λs h=>by cases h
 |a::l=>by
  have ha:=ATR o a
  have hl:=ABc o l
  intro s h
  rcases List.mem_cons.1 h with rfl|h
  ·exact ha
  ·exact hl s h
end
theorem ATm(o:Yg G K)(b:List Tt):vV G K M b:=AAP o (ABc o b)
end
theorem AQX{v:DJ}{g g1:Gs}(h:AAH v g=some g1):FP v.nm g.1=none/\g.2<200/\g1=(g.1++[v],g.2+1):=by
 unfold AAH at h
 cases hb:(FP v.nm g.1).isNone&&decide (g.2<200)with
 |false=>rw[hb]at h;cases h
 |true=>
  rw[hb]at h
  rw[Bool.and_eq_true]at hb
  exact⟨Option.isNone_iff_eq_none.1 hb.1,of_decide_eq_true hb.2,(Option.some.inj h).symm⟩
theorem ATq{tb:Tab}{cls:St}{m m':Tm}(h:ckM tb cls m=some m'):m.body.length<=1000/\∃g q,yM m.ps ([],0)=some g/\iG ⟨tb,cls,m.st,m.ret⟩ m.body g=some q/\m'={m with body:=q.1}:=by
 unfold ckM at h
 cases hz:szB m.body with
 |false=>rw[hz]at h;cases h
 |true=>
  rw[hz]at h
  obtain⟨g,h1,h⟩:=Option.bind_eq_some_iff.1 h
  obtain⟨q,h2,h3⟩:=Option.map_eq_some_iff.1 h
  exact⟨of_decide_eq_true hz,g,q,h1,h2,h3.symm⟩
def AQN(H:Heap)(K:Kq):Prop:=∃M vv all,T.get H K.kb=some (one (K.cells M vv all))
structure Kn(K:Kq)(H:Heap)(n:Nat)(H':Heap)(n':Nat):Prop where
 le:n<=n'
 same:∀id,id<n->id≠K.b->id≠K.kb->T.get H' id=T.get H id
 seen:MI H K.b->MI H' K.b
section
variable{G:AX}{H:Heap}{n:Nat}{K:Kq}{k:KV}{A:Nat->Prop}{l:LV}{m m':Tm}
theorem APc(o:Yg G K)(hb:AQN H K)(ht:TabAt G H K.n0 K.t K.a K.b K.tb)(hkn:K.kb<n)(hm:bJ G H A l m)(hA:∀id,A id->id<K.kb/\id≠K.b)(hmo:AIZ m)(hck:ckM K.tb K.cls m=some m')
 (hk:∀H' n' l',Kn K H n H' n'->AQN H' K->bJ G H' (λid=>A id∨(n<=id/\id<n')) l' m'->k (.agg l') H' n'):Runs F G V4 [.ptr K.kb 0,.agg l] H n k:=by
 refine go2 (nM BK G) ?_
 delta Wx
 have hn0:=o.n0
 have hb0:=o.ba
 obtain⟨hz,gs,q,hadd,hbl,rfl⟩:=ATq hck
 obtain⟨M0,vv0,all0,gk⟩:=hb
 cases hm with
 |mk line col hp hbd=>
 rename_i nm st ty ps bd vp vb
 have hret:ty.nm.ok:=hmo.ret
 have hpn:∀f∈ps,f.ty.nm.ok:=hmo.ps
 have hpl:ps.length<=1000:=hmo.ln
 have hadd:yM ps ([],0)=some gs:=hadd
 have hbl:iG ⟨K.tb,K.cls,st,ty⟩ bd gs=some q:=hbl
 have hz:bd.length<=1000:=hz
 refine DY λH1 f1 g1=>?_
 refine Au rfl λH2 f2 g2=>?_
 have f02:=f1.trans f2
 have g1:=f2.get g1 (by omega)
 refine AB (BI (m:=8) g1 (by omega) rfl) ?_
 refine AB (v:=.agg [.Ag,.int .i64 (.ofNat 0) 0]) rfl ?_
 rw[BU,AQ,Ae,AQ]
 refine Ib (off:=0+9) (m:=8) (v:=.agg (tmC line col nm st vp ty vb)) (f02.get gk hkn) rfl rfl (by omega) (by show 0+9+8<=20;omega) λH3 g3 s3=>?_
 rw[AQ,Ae,AQ]
 refine Ib (off:=0+1) (m:=2) (v:=.agg [.Ag,.int .i64 (.ofNat 0) 0]) g3 rfl rfl (by omega) (by show 0+1+2<=20;omega) λH4 g4 s4=>?_
 have s24:∀id,id≠K.kb->T.get H4 id=T.get H2 id:=λid h=>(s4 id h).trans (s3 id h)
 have g4:T.get H4 K.kb=some (one (K.cells ⟨line,col,nm,st,vp,ty,vb⟩ .Ag 0)):=g4
 generalize hM:(⟨line,col,nm,st,vp,ty,vb⟩:Km)=M at g4
 have AbW:M.st=st:=by rw[<-hM]
 have AVs:M.ret=ty:=by rw[<-hM]
 have ht4:TabAt G H4 K.n0 K.t K.a K.b K.tb:=ht.kb ⟨Nat.le_refl _,λid h1 _=>(s24 id (by omega)).trans (f02.same id (by omega)),λhs=>hs.same ((s24 _ (by omega)).trans (f02.same _ (by omega)))⟩
 have ka4:nP G H4 (n+1+1) K M .Ag 0 []:=⟨g4,ht4,by omega,.nil,Nat.le_refl _,Nat.zero_le _,λf hf=>(by cases hf),by rw[AVs];exact hret⟩
 have g14:T.get H4 n=_:=(s24 n (by omega)).trans g1
 have g24:T.get H4 (n+1)=some (one tmZ):=(s24 (n+1) (by omega)).trans g2
 rw[Ae,AQ]
 refine AB (AV (off:=0+4) g14 (v:=vp) rfl) ?_
 have hA4:∀id,A id->T.get H4 id=T.get H id:=λid hid=>by have:=hA id hid;exact(s24 id (by omega)).trans (f02.same id (by omega))
 have hp4:=hp.mono (H':=H4) (λ_ h=>h) hA4
 have hlen:=hp4.1.len
 rw[List.length_map]at hlen
 refine AB hlen ?_
 refine CP (N:=ps.length) (J:=λj q=>∃H' n' vv a Γ,q=(.ptr K.kb 0,.ptr n 0,.ptr (n+1) 0,vp,.int .i64 (.ofNat ps.length) 0,.int .i64 (.ofNat j) 0,H',n')/\Ks K .Ag H4 (n+1+1) H' n'/\nP G H' n' K M vv a Γ/\Sd (n+2) .Ag vv/\yM (ps.drop j) (Γ,a)=some gs) ?_ ?_
  ⟨H4,n+1+1,.Ag,0,[],rfl,Ks.refl ..,ka4,Sd.refl ..,hadd⟩
 ·rintro I j q' hlt ⟨H5,n5,vv,a,Γ,rfl,f5,ka5,sd5,hadd5⟩ ih
  show Gt lfp G (Runs F G) k I (.ptr K.kb 0) (.ptr n 0) (.ptr (n+1) 0) vp (.int .i64 (.ofNat ps.length) 0) (.int .i64 (.ofNat j) 0) H5 n5
  delta Gt
  have hn5:=f5.le
  have xY:∀id,vv.D9=some id->n+2<=id:=λid hid=>by
   rcases sd5 with s|s
   ·rw[s]at hid;cases hid
   ·exact s id hid
  have hp5:=hp4.1.same (H':=H5) λid hid=>by
   have:=hA id (hp4.2.2.2.2 id hid)
   exact f5.same id (by omega) this.2 (by omega) (by simp[V.D9])
  obtain⟨p,hpp,hld⟩:=hp5.at (i:=j) (c:=QZ ps[j]) (by simp[hlt])
  have hok:=hpn _ (List.getElem_mem hlt)
  rw[List.drop_eq_getElem_cons hlt]at hadd5
  generalize ps[j]=x at hld hok hadd5
  obtain⟨ga,h1,h2⟩:=Option.bind_eq_some_iff.1 (show(AAH x (Γ,a)).bind (yM (ps.drop (j+1)))=some gs from hadd5)
  obtain⟨e1,e2,rfl⟩:=AQX h1
  rw[Dl,AQ,decide_eq_true hlt,A8]
  refine AB hpp (AB (DW hld) ?_)
  refine Au rfl λH6 f6 g6=>?_
  refine Bq g6 rfl rfl (by omega) λH7 g7 s7=>?_
  have f57:Kp H5 n5 H7 (n5+1):=⟨f6.le,λid hid=>(s7 id (by omega)).trans (f6.same id hid)⟩
  refine AB (BI (m:=3) g7 (by omega) rfl) ?_
  have g17:T.get H7 n=_:=(f57.same n (by omega)).trans ((f5.same n (by omega) (by omega) (by omega) (by simp[V.D9])).trans g14)
  rw[Dk,AQ]
  refine AB (v:=bU line col) (Dh (off:=0) (m:=2) g17 (by omega) (by show 0+2<=8;omega)) ?_
  refine AVU (x:=x) o (ka5.kp o f57) hok e1 e2 λH8 n8 vv8 f8 ka8 sd8=>?_
  rw[Eu (by omega),AQ]
  have f58:Ks K vv H5 n5 H8 n8:=((f57.kb (b:=K.b) (by omega)).ks vv).trans f8 (Sd.refl ..)
  exact ih _ ⟨H8,n8,vv8,a+1,Γ++[x],rfl,f5.trans f58 sd5,ka8,sd5.trans (show Sd (n5+1) vv vv8 from sd8) (by omega),h2⟩
 ·rintro I q' ⟨H5,n5,vv,a,Γ,rfl,f5,ka5,sd5,hadd5⟩
  show Gt lfp G (Runs F G) k I (.ptr K.kb 0) (.ptr n 0) (.ptr (n+1) 0) vp (.int .i64 (.ofNat ps.length) 0) (.int .i64 (.ofNat ps.length) 0) H5 n5
  delta Gt
  rw[Dl,AQ,decide_eq_false (Nat.lt_irrefl _),Ai]
  rw[List.drop_eq_nil_of_le (Nat.le_refl _)]at hadd5
  obtain rfl:(Γ,a)=gs:=Option.some.inj hadd5
  delta NK
  have hn5:=f5.le
  have nn:∀id:Nat,V.Ag.D9≠some id:=λid h=>by cases h
  have Zz:∀id,id<n+2->id≠K.b->id≠K.kb->T.get H5 id=T.get H4 id:=λid h1 h2 h3=>f5.same id h1 h2 h3 (nn id)
  have g15:=(Zz n (by omega) (by omega) (by omega)).trans g14
  rw[Ae,AQ]
  refine AB (AV (off:=0+7) g15 (v:=vb) rfl) ?_
  have hA5:∀id,A id->T.get H5 id=T.get H id:=λid hid=>by have:=hA id hid;exact(Zz id (by omega) this.2 (by omega)).trans (hA4 id hid)
  refine ATm (M:=M) o bd hz H5 n5 A vb vv a Γ q.1 q.2 _ ka5 (hbd.mono (λ_ h=>h) hA5) hA (by rw[show K.x M=⟨K.tb,K.cls,st,ty⟩by unfold Kq.x;rw[AbW,AVs]];exact hbl) λH6 n6 v6 vv6 f6 ka6 sd6 hb6=>?_
  have hn6:=f6.le
  have xY:∀id,vv.D9=some id->n+2<=id:=λid hid=>by
   rcases sd5 with s|s
   ·rw[s]at hid;cases hid
   ·exact s id hid
  have keep6:∀id,id<n+2->id≠K.b->id≠K.kb->T.get H6 id=T.get H5 id:=λid h1 h2 h3=>f6.same id (by omega) h2 h3 λe=>by have:=xY id e;omega
  have g16:=(keep6 n (by omega) (by omega) (by omega)).trans g15
  have ok6:=KS.ok hb6
  rw[AQ]
  refine Ib (off:=0+7) (m:=1) (v:=v6) g16 ok6.1 (by rw[ok6.2];rfl) (by omega) (by show 0+7+1<=8;omega) λH7 g7 s7=>?_
  rw[ok6.2]at g7
  refine AB (BI (m:=8) g7 (by omega) rfl) ?_
  have g27:T.get H7 (n+1)=some (one tmZ):=(s7 (n+1) (by omega)).trans ((keep6 (n+1) (by omega) (by omega) (by omega)).trans ((Zz (n+1) (by omega) (by omega) (by omega)).trans g24))
  refine Bq g27 rfl rfl (by omega) λH8 g8 s8=>?_
  rw[Cm (m:=8) g8 (by omega) rfl]
  simp only[go_sem]
  have hA8:∀id,A id->T.get H8 id=T.get H id:=λid hid=>by have:=hA id hid;exact(s8 id (by omega)).trans ((s7 id (by omega)).trans ((keep6 id (by omega) this.2 (by omega)).trans (hA5 id hid)))
  refine hk H8 n6 (tmC line col nm st vp ty v6) ⟨by omega,λid h1 h2 h3=>?_,λhs=>?_⟩ ⟨M,vv6,q.2,(s8 _ (by omega)).trans ((s7 _ (by omega)).trans ka6.g)⟩ (.mk line col (hp.mono (λ_ h=>.inl h) hA8) (hb6.mono (λid hid=>?_) λid hid=>?_))
  ·exact(s8 id (by omega)).trans ((s7 id (by omega)).trans ((keep6 id (by omega) h2 h3).trans ((Zz id (by omega) h2 h3).trans ((s24 id h3).trans (f02.same id h1)))))
  ·exact((f6.seen (f5.seen (hs.same ((s24 _ (by omega)).trans (f02.same _ (by omega)))))).same (s7 _ (by omega))).same (s8 _ (by omega))
  ·rcases hid with hid|hid
   ·exact .inl hid
   ·exact .inr ⟨by have:=hid.1;omega,hid.2.1⟩
  ·rcases hid with hid|hid
   ·have:=hA id hid;exact(s8 id (by omega)).trans (s7 id (by omega))
   ·have:=hid.1;exact(s8 id (by omega)).trans (s7 id (by omega))
end
theorem ks(s:St):CK.eq .str s.v s.v=some true:=by rw[AP8];simp
theorem kb(b:Bool):CK.eq .bool (.bool b) (.bool b)=some true:=by rw[AQO];simp
theorem AXK{k:CK}{ks:List CK}{x:V}{xs:LV}(h:k.eq x x=some true)(h2:AMW ks xs xs=some true):AMW (k::ks) (x::xs) (x::xs)=some true:=(TR (q:=CK.eq)).2 ⟨true,true,h,h2,rfl⟩
theorem ne_self{ks:List CK}{L:LV}(h:AMW ks L L=some true):Dc (.agg ks) true (.agg L) (.agg L)=some (.bool false):=by
 show ofB (UK (AMW ks L L) λb=>some (Rt b))=_
 rw[h];rfl
theorem AXR(f:DJ):Dc (.agg [.str,.str,.bool]) true (.agg f.cells) (.agg f.cells)=some (.bool false):=ne_self (AXK (ks _) (AXK (ks _) (AXK (kb _) rfl)))
theorem ARP{G:AX}{v w:V}{fs:List DJ}{H:Heap}{n:Nat}{k:KV}(h:Wu G H n v fs)(h2:Wu G H n w fs)(hk:k (.bool true) H n):
 Runs F G FM [v,w] H n k:=by
 refine go2 (Oh BK G) ?_
 delta Jr
 have hbig:=h.lt
 simp only[go_sem,h.len,h2.len,ALG]
 refine CP (N:=fs.length) (J:=λj q=>q=(v,w,.int .i64 (.ofNat fs.length) 0,.int .i64 (.ofNat j) 0,H,n)) ?_ ?_ rfl
 ·rintro I j q hlt rfl ih
  show Bz lfp G (Runs F G) k I v w (.int .i64 (.ofNat fs.length) 0) (.int .i64 (.ofNat j) 0) H n
  delta Bz
  obtain⟨p,hp,hld⟩:=h.at hlt
  obtain⟨p2,hp2,hld2⟩:=h2.at hlt
  simp only[go_sem,Nc,hlt,decide_true,hp,hp2,DW hld,DW hld2,AXR,Eu (show j+1<9223372036854775808 by unfold big at hbig;omega)]
  exact ih _ rfl
 ·rintro I q rfl
  show Bz lfp G (Runs F G) k I v w (.int .i64 (.ofNat fs.length) 0) (.int .i64 (.ofNat fs.length) 0) H n
  delta Bz
  simp only[go_sem,Nc,Nat.lt_irrefl,decide_false]
  delta F6
  exact hk
theorem AEG:∀l:List Ty,vT l l=true
 |[]=>rfl
 |a::l=>by unfold vT Ty.is;rw[AEG l];simp
theorem AMz(m:Ej):m.same m=true:=by unfold Ej.same Ty.is;rw[AEG];simp
theorem ASk{G:AX}{v w:V}{ms:List Ej}{ws us:List V}{H:Heap}{n:Nat}{k:KV}(h:RY G H n v ms ws)(h2:RY G H n w ms us)(hk:∀H' n',Kp H n H' n'->k (.bool true) H' n'):
 Runs F G F5 [v,w,.fn LX [] []] H n k:=by
 refine go3 (KI BK G) ?_
 delta FW
 have hbig:=h.lt
 simp only[go_sem,h.len',h2.len',ALG]
 refine CP (N:=ms.length) (J:=λj q=>∃H' n',q=(w,.fn LX [] [],v,.int .i64 (.ofNat ms.length) 0,.int .i64 (.ofNat j) 0,H',n')/\Kp H n H' n') ?_ ?_ ⟨_,_,rfl,Kp.refl _ _⟩
 ·rintro I j q hlt ⟨H3,n3,rfl,f3⟩ ih
  show Bf lfp G (Runs F G) k I w (.fn LX [] []) v (.int .i64 (.ofNat ms.length) 0) (.int .i64 (.ofNat j) 0) H3 n3
  delta Bf
  obtain⟨p,x,hp,hld,hx⟩:=(h.kp f3).at hlt
  obtain⟨m,hm⟩:∃m,m=ms[j]:=⟨_,rfl⟩
  rw[<-hm]at hld hx
  unfold Ej.cells at hld
  simp only[go_sem,Nc,hlt,decide_true,hp,DW hld,Nat.reduceAdd]
  rw[T.set_set]
  have f4:Kp H3 n3 (T.set H3 n3 (one [m.nm.v,.bool m.st,x,m.ret.nm.v,.bool m.ret.arr])) (n3+1):=(Kp.refl _ _).new _ (Nat.le_refl _) (by omega)
  have g4:=T.BX H3 n3 (one [m.nm.v,.bool m.st,x,m.ret.nm.v,.bool m.ret.arr])
  generalize T.set H3 n3 (one [m.nm.v,.bool m.st,x,m.ret.nm.v,.bool m.ret.arr])=H4 at f4 g4
  obtain⟨p2,y,hp2,hld2,hy⟩:=((h2.kp f3).kp f4).at hlt
  rw[<-hm]at hld2 hy
  unfold Ej.cells at hld2
  simp only[go_sem,hp2,DW hld2,Nat.reduceAdd]
  rw[T.set_set]
  have f5:Kp H4 (n3+1) (T.set H4 (n3+1) (one [m.nm.v,.bool m.st,y,m.ret.nm.v,.bool m.ret.arr])) (n3+1+1):=(Kp.refl _ _).new _ (Nat.le_refl _) (by omega)
  have g5:=T.BX H4 (n3+1) (one [m.nm.v,.bool m.st,y,m.ret.nm.v,.bool m.ret.arr])
  generalize T.set H4 (n3+1) (one [m.nm.v,.bool m.st,y,m.ret.nm.v,.bool m.ret.arr])=H5 at f5 g5
  rw[BI (m:=5) g4 (by omega) rfl,AQ]
  show Runs F G LX [.agg [m.nm.v,.bool m.st,x,m.ret.nm.v,.bool m.ret.arr],.agg [m.nm.v,.bool m.st,y,m.ret.nm.v,.bool m.ret.arr]] H5 (n3+1+1) _
  refine AIA (a:=m) (b:=m) ⟨x,rfl,(hx.kp f4).kp f5⟩ ⟨y,rfl,hy.kp f5⟩ λH6 n6 f6=>?_
  rw[AMz]
  simp only[go_sem,Ef,Bool.not_true,Eu (show j+1<9223372036854775808 by unfold big at hbig;omega)]
  exact ih _ ⟨_,_,rfl,f3.trans (f4.trans (f5.trans f6))⟩
 ·rintro I q ⟨H3,n3,rfl,f3⟩
  show Bf lfp G (Runs F G) k I w (.fn LX [] []) v (.int .i64 (.ofNat ms.length) 0) (.int .i64 (.ofNat ms.length) 0) H3 n3
  delta Bf
  simp only[go_sem,Nc,Nat.lt_irrefl,decide_false]
  delta Dw
  exact hk _ _ f3
theorem AMC{G:AX}{v w:V}{c:Fc}{H:Heap}{n:Nat}{k:KV}(h:Qd G H n v c)(h2:Qd G H n w c)(hk:∀H' n',Kp H n H' n'->k (.bool true) H' n'):
 Runs F G kL [v,w] H n k:=by
 refine go2 (AB0 BK G) ?_
 delta kV
 obtain⟨vf,vm,ws,h,rfl⟩:=h
 obtain⟨wf,wm,us,h2,rfl⟩:=h2
 refine DY λH1 f1 g1=>?_
 refine DY λH2 f2 g2=>?_
 have g1:=f2.get g1 (by omega)
 have f3:=f1.trans f2
 have e1:Dc (.one .str) false c.nm.v c.nm.v=some (.bool true):=by show Dc (.one .str) false (.str c.nm.1 c.nm.2) (.str c.nm.1 c.nm.2)=_;rw[ADc];simp
 have e2:Dc (.one .str) false c.sup.v c.sup.v=some (.bool true):=by show Dc (.one .str) false (.str c.sup.1 c.sup.2) (.str c.sup.1 c.sup.2)=_;rw[ADc];simp
 simp only[go_sem,Nat.reduceAdd,AV (off:=0) g1 (v:=c.nm.v) rfl,AV (off:=0) g2 (v:=c.nm.v) rfl,AV (off:=1) g1 (v:=c.sup.v) rfl,AV (off:=1) g2 (v:=c.sup.v) rfl,
  AV (off:=2) g1 (v:=vf) rfl,AV (off:=2) g2 (v:=wf) rfl,e1,e2]
 refine ARP (h.fs.kp f3) (h2.fs.kp f3) ?_
 simp only[go_sem,Nat.reduceAdd,AV (off:=3) g1 (v:=vm) rfl,AV (off:=3) g2 (v:=wm) rfl]
 refine ASk (h.ms.kp f3) (h2.ms.kp f3) λH4 n4 f4=>?_
 exact hk _ _ (f3.trans f4)
theorem AVa{G:AX}{H:Heap}{v:V}{z:Nat}{LS:Dy}(h:El G H v z LS):NQ v v=true:=by
 obtain⟨h1,h2⟩:=h
 cases v<;>try (cases h2;done)
 ·cases h1
 ·rfl
 ·exact AVJ ..
 ·exact ARJ ..
 ·simp[NQ,AOO,Bv]
theorem ADs{tb:Tab}{cls:St}{m:Tm}{l ms:List Tm}(h:yY tb cls (m::l)=some ms):∃m' l',ckM tb cls m=some m'/\yY tb cls l=some l'/\ms=m'::l':=by
 unfold yY at h
 obtain⟨m',h1,h⟩:=Option.bind_eq_some_iff.1 h
 obtain⟨l',h2,h3⟩:=Option.map_eq_some_iff.1 h
 exact⟨m',l',h1,h2,h3.symm⟩
theorem ABj{tb:Tab}{cls:St}:∀{l l':List Tm},yY tb cls l=some l'->l'.length=l.length
 |[],l',h=>by cases h;rfl
 |m::l,l',h=>by
  obtain⟨m',t,_,h2,rfl⟩:=ADs h
  simp[ABj h2]
theorem AJM{tb:Tab}{cls:St}:∀{l l':List Tm} {i:Nat} {m:Tm},yY tb cls l=some l'->l[i]? =some m->∃m',l'[i]? =some m'/\ckM tb cls m=some m'
 |[],l',i,m,h,hm=>by simp at hm
 |a::l,l',i,m,h,hm=>by
  obtain⟨m',t,h1,h2,rfl⟩:=ADs h
  cases i with
  |zero=>cases hm;exact⟨m',rfl,h1⟩
  |succ i=>exact AJM (i:=i) h2 hm
structure TbF(tb:Tab):Prop where
 tl:tb.length<=1000
 ar:∀s c,Ie tb s=some c->∀m∈c.ms,m.ps.length<=1000
 tn:∀s c,Ie tb s=some c->(∀f∈c.fs,f.ty.nm.ok)/\∀m∈c.ms,m.ret.nm.ok
section
variable{G:AX}{H:Heap}{n t a b:Nat}{tb:Tab}{k:KV}{A:Nat->Prop}{l:LV}{c c':Tc}
theorem AJh(hG:jS G)(h:TabAt G H n t a b tb)(hF:TbF tb)(hc:VR G H A l c)(hA:∀id,A id->id<n/\id≠b)(hco:AHE c)(hl:Ie tb c.nm=some (EC c))(hch:oG tb c.nm=0)(hck:ckC tb c=some c')
 (hk:∀H' n' l',Kb b H n H' n'->VR G H' (λid=>A id∨(n<=id/\id<n')) l' c'->k (.G5 [.agg l',.agg [.int .i64 (.ofNat 0) 0,.int .i64 (.ofNat 0) 0,.int .i64 (.ofNat 0) 0]]) H' n'):
 Runs F G AAA [.ptr t 0,.agg l] H n k:=by
 refine go2 (AFf BK G) ?_
 delta zZ
 obtain⟨ms',hms,rfl⟩:=Option.map_eq_some_iff.1 (show(yY tb c.nm c.ms).map (λms=>({c with ms:=ms}:Tc))=some c' from hck)
 have hbn:=h.bn
 cases hc with
 |mk line col hf hm=>
 rename_i nm sup fs ms vf vm
 have hl:Ie tb nm=some (EC ⟨nm,sup,fs,ms⟩):=hl
 have hch:oG tb nm=0:=hch
 have hms:yY tb nm ms=some ms':=hms
 refine DY λH1 f1 g1=>?_
 refine Au rfl λH2 f2 g2=>?_
 refine Au rfl λH3 f3 g3=>?_
 have f03:=(f1.trans f2).trans f3
 have g1:=f3.get (f2.get g1 (by omega)) (by omega)
 have g2:=f3.get g2 (by omega)
 have ht3:TabAt G H3 n t a b tb:=h.kb ((f03.kb hbn).low (Nat.le_refl _))
 rw[Ae,AQ]
 refine AB (AV (off:=0+2) g1 (v:=nm.v) rfl) ?_
 refine wJ (s:=nm) ht3 (by omega) λH4 n4 v f4 hv=>?_
 rw[hl]at hv⊢
 have hv:Qd G H4 n v (EC ⟨nm,sup,fs,ms⟩):=hv
 have hn4:=f4.le
 rw[O5,AQ,O7,AQ]
 obtain⟨uf,um,ws,hfa,rfl⟩:=hv
 have hv:Qd G H4 n (.agg [nm.v,sup.v,uf,um]) (EC ⟨nm,sup,fs,ms⟩):=⟨uf,um,ws,hfa,rfl⟩
 refine Au rfl λH5 f5 g5=>?_
 refine Bq (L:=[nm.v,sup.v,uf,um]) g5 rfl rfl (by omega) λH6 g6 s6=>?_
 have f46:Kp H4 n4 H6 (n4+1):=⟨f5.le,λid hid=>(s6 id (by omega)).trans (f5.same id hid)⟩
 have b3:∀{H':Heap} {n':Nat},Kb b H3 (n+1+1+1) H' n'->T.get H' n=some (one (tcC line col nm sup vf vm))/\T.get H' (n+1)=some (one tcZ)/\T.get H' (n+2)=some (one [.int .i64 (.ofNat 0) 0,.int .i64 (.ofNat 0) 0,.int .i64 (.ofNat 0) 0]):=
  λf=>⟨f.get g1 (by omega) (by omega),f.get g2 (by omega) (by omega),f.get g3 (by omega) (by omega)⟩
 have f36:Kb b H3 (n+1+1+1) H6 (n4+1):=f4.trans (f46.kb (by omega))
 have f06:Kb b H n H6 (n4+1):=(f03.kb hbn).trans f36
 rw[Ef,AQ]
 show Ba (.bool false) false _ _
 refine XE (BI (m:=4) g6 (by omega) rfl) (XE (BI (m:=6) (b3 f36).1 (by omega) rfl) (AHC ?_))
 have Abq:VR G H6 A (tcC line col nm sup vf vm) ⟨nm,sup,fs,ms⟩:=.mk line col (hf.mono (λ_ h=>h) λid hid=>f06.same id (hA id hid).1 (hA id hid).2) (hm.mono (λ_ h=>h) λid hid=>f06.same id (hA id hid).1 (hA id hid).2)
 refine AZw Abq.fc (λid hid=>by have:=hA id hid;omega) hco λH7 n7 w f7 hw=>?_
 have hn7:=f7.le
 have f47:=f46.trans f7
 have hvs:Ar (.agg [nm.v,sup.v,uf,um]) (.agg [nm.v,sup.v,uf,um])=true:=AAZ λv hv=>by
  simp at hv
  rcases hv with rfl|rfl|rfl|rfl
  ·exact ny ..
  ·exact ny ..
  ·exact AVa hfa.fs.el
  ·exact AVa hfa.ms.el
 refine ATA (BI (m:=4) (f7.get g6 (by omega)) (by omega) rfl) hvs (AHC ?_)
 have hv7:Qd G H7 n7 (.agg [nm.v,sup.v,uf,um]) (EC ⟨nm,sup,fs,ms⟩):=(hv.ke (f47.ke.low (by omega))).up (by omega)
 refine AMC hv7 (hw H7 n7 (λ_ _=>rfl) λid hid=>hid.2) λH8 n8 f8=>?_
 refine XE (Ef ..) (lZ ?_)
 show Aa (.bool false) true _ _
 rw[Ai]
 have hn8:=f8.le
 have f38:Kb b H3 (n+1+1+1) H8 n8:=f36.trans ((f7.trans f8).kb (by omega))
 have ht8:TabAt G H8 n8 t a b tb:=(ht3.kb (f38.AYd (by omega)))
 rw[AQ]
 refine AB (AV (off:=0+2) (b3 f38).1 (v:=nm.v) rfl) ?_
 refine ATQ (s:=nm) hG ht8 hF.tl (λs c h m hm=>Nat.le_trans (hF.ar s c h m hm) (by omega)) λH9 n9 f9=>?_
 rw[hch]
 have hn9:=f9.le
 refine AB (ASX .i64 0 0) ?_
 show Aa (.bool false) true _ _
 rw[Ai]
 have f39:=f38.trans f9
 refine AB (BI (m:=6) (b3 f39).1 (by omega) rfl) ?_
 refine AB (v:=.agg (Kq.cells ⟨n9,n,t,a,b,tb,line,col,nm,sup,vf,vm⟩ ⟨0,0,(0,0),false,.Ag,OU,.Ag⟩ .Ag 0)) rfl ?_
 refine DY λH10 f10 g10=>?_
 generalize hK:(⟨n9,n,t,a,b,tb,line,col,nm,sup,vf,vm⟩:Kq)=K at g10
 have kkb:K.kb=n9:=by rw[<-hK]
 have kn0:K.n0=n:=by rw[<-hK]
 have kt:K.t=t:=by rw[<-hK]
 have ka:K.a=a:=by rw[<-hK]
 have kb':K.b=b:=by rw[<-hK]
 have ktb:K.tb=tb:=by rw[<-hK]
 have AYu:K.cls=nm:=by rw[<-hK]
 have o:Yg G K:=⟨by omega,by rw[kt,kn0];exact h.tn,by rw[ka,kn0];exact h.an,by omega,by rw[ktb];exact hF.ar,by rw[ktb];exact hF.tn,by rw[ktb];exact hF.tl,by rw[AYu];exact hco.nm,hG⟩
 have f3a:Kb b H3 (n+1+1+1) H10 (n9+1):=f39.trans (f10.kb (by omega))
 have f0a:Kb b H n H10 (n9+1):=(f03.kb hbn).trans f3a
 have hbx:AQN H10 K:=⟨_,_,_,by rw[kkb];exact g10⟩
 obtain⟨cs,e1,-,-,-,e5,hts⟩:=hm
 have hcl:=hts.len
 rw[Ae,AQ]
 refine AB (AV (off:=0+5) (b3 f3a).1 (v:=vm) rfl) ?_
 have hlm:ms.length<20:=hco.lm
 refine AG3 (e1.same (H':=H10) λid hid=>f0a.same id (hA id (e5 id hid)).1 (hA id (e5 id hid)).2) (λid hid=>by have:=hA id (e5 id hid);omega) (by omega) λv' H11 n11 f11 sk=>?_
 have hn11:=f11.le
 have f3b:Kb b H3 (n+1+1+1) H11 n11:=f3a.trans (f11.kb (by omega))
 rw[AQ]
 refine Ib (off:=0+5) (m:=1) (v:=v') (b3 f3b).1 sk.ok.1 (by rw[sk.ok.2.1];rfl) (by omega) (by show 0+5+1<=6;omega) λH12 g12 s12=>?_
 rw[sk.ok.2.1]at g12
 have g12:T.get H12 n=some (one (tcC line col nm sup vf v')):=g12
 have AZn:Sk H12 8 (λid=>n9+1<=id/\id<n11) v' cs:=sk.mono (λ_ h=>h) λid h=>s12 id (by omega)
 rw[AQ]
 have q5:∀{H':Heap},T.get H' n=some (one (tcC line col nm sup vf v'))->AY (.ptr n (0+5)) G H'=some v':=λg=>AV (off:=0+5) g rfl
 refine AB (q5 g12) ?_
 have hlen:=(AZn.el (G:=G) (by omega)).len
 rw[hcl]at hlen
 refine AB hlen ?_
 have hmsl:=ABj hms
 have f0c:Kb b H n H12 n11:=⟨by omega,λid h1 h2=>(s12 id (by omega)).trans ((f11.same id (by omega)).trans (f0a.same id h1 h2)),λhs=>((f0a.seen hs).same (f11.same _ (by omega))).same (s12 _ (by omega))⟩
 refine CP (N:=ms.length) (J:=λj q=>∃H' n' ds,q=(.ptr n 0,.ptr (n+1) 0,.ptr (n+2) 0,.ptr n9 0,v',.int .i64 (.ofNat ms.length) 0,.int .i64 (.ofNat j) 0,H',n')/\Kb b H n H' n'/\AQN H' K/\n11<=n'/\
  T.get H' n=some (one (tcC line col nm sup vf v'))/\T.get H' (n+1)=some (one tcZ)/\T.get H' (n+2)=some (one [.int .i64 (.ofNat 0) 0,.int .i64 (.ofNat 0) 0,.int .i64 (.ofNat 0) 0])/\
  Sk H' 8 (λid=>n9+1<=id/\id<n11) v' (ds++cs.drop j)/\Lp G H' (λid=>A id∨(n9+1<=id/\id<n'/\v'.D9≠some id)) ds (ms'.take j)/\ds.length=j) ?_ ?_
  ⟨H12,n11,[],rfl,f0c,⟨_,_,_,by rw[kkb];exact(s12 n9 (by omega)).trans (f11.get g10 (by omega))⟩,Nat.le_refl _,g12,(s12 _ (by omega)).trans (b3 f3b).2.1,(s12 _ (by omega)).trans (b3 f3b).2.2,AZn,.nil,rfl⟩
 ·rintro I j q hlt ⟨H13,n13,ds,rfl,f13,hb13,hn13,x1,x2,x3,sk13,hds,hdl⟩ ih
  show OM lfp G (Runs F G) k I (.ptr n 0) (.ptr (n+1) 0) (.ptr (n+2) 0) (.ptr n9 0) v' (.int .i64 (.ofNat ms.length) 0) (.int .i64 (.ofNat j) 0) H13 n13
  delta OM
  have hts13:=Lp.mono (H':=H13) (λ_ h=>h) (λid hid=>f13.same id (hA id hid).1 (hA id hid).2) hts
  have hget:=List.getElem?_eq_getElem hlt
  obtain⟨lm,hl1,hmt⟩:=hts13.at hget
  obtain⟨m',hm',hce⟩:=AJM hms hget
  have hmo:=hco.ms _ (List.getElem_mem hlt)
  generalize ms[j]=m at hmt hce hmo
  obtain⟨p,hpp,hld⟩:=(sk13.el (G:=G) (by omega)).at (i:=j) (c:=lm) (by rw[AJp hdl];exact hl1)
  rw[Dl,AQ,decide_eq_true hlt,A8]
  refine AB hpp (AB (DW hld) ?_)
  refine Au rfl λH14 f14 g14=>?_
  refine Bq g14 rfl hmt.len (by omega) λH15 g15 s15=>?_
  have f35:Kp H13 n13 H15 (n13+1):=⟨f14.le,λid hid=>(s15 id (by omega)).trans (f14.same id hid)⟩
  rw[Ae,AQ]
  refine AB (q5 (f35.get x1 (by omega))) (AB (BI (m:=8) g15 (by omega) hmt.len) ?_)
  have f015:Kb b H n H15 (n13+1):=f13.trans (f35.kb (by omega))
  have hbx15:AQN H15 K:=by
   obtain⟨M,vv,all,g⟩:=hb13
   exact⟨M,vv,all,f35.get g (by omega)⟩
  have ht15:TabAt G H15 K.n0 K.t K.a K.b K.tb:=by
   rw[kn0,kt,ka,kb',ktb];exact h.kb (f015.low (Nat.le_refl _))
  rw[show V.ptr n9 0=.ptr K.kb 0 by rw[kkb]]
  refine APc (A:=A) o hbx15 ht15 (by omega) (hmt.mono (λ_ h=>h) λid hid=>f35.same id (by have:=hA id hid;omega)) (λid hid=>by have:=hA id hid;rw[kb'];exact⟨by omega,this.2⟩) hmo (by rw[ktb,AYu];exact hce) λH16 n16 l' f16 hb16 hm16=>?_
  have hn16:=f16.le
  have k16:∀id,id<n13->id≠b->id≠n9->T.get H16 id=T.get H13 id:=λid h1 h2 h3=>(f16.same id (by omega) (by rw[kb'];exact h2) (by rw[kkb];exact h3)).trans (f35.same id h1)
  have y1:=(k16 n (by omega) (by omega) (by omega)).trans x1
  refine AB (q5 y1) (Bd sk.ok.2.2 ?_)
  have sk16:Sk H16 8 (λid=>n9+1<=id/\id<n11) v' (ds++cs.drop j):=sk13.mono (λ_ h=>h) λid h=>k16 id (by omega) (by omega) (by omega)
  have hlj:j<(ds++cs.drop j).length:=by rw[List.length_append,List.length_drop];omega
  refine sk16.put (i:=j) (w:=.agg l') (by omega) hlj rfl hm16.len λH17 sk17 s17=>?_
  rw[show Bl (.agg l')=l' from rfl,set_mid hdl hl1]at sk17
  rw[Eu (by omega),AQ]
  have vne:∀id,id<n9+1∨n11<=id->v'.D9≠some id:=λid h e=>by have:=sk.own e;omega
  have hseen:MI H b->MI H17 b:=λhs=>by
   have z1:MI H15 K.b:=by rw[kb'];exact f015.seen hs
   have z2:=f16.seen z1
   rw[kb']at z2
   exact z2.same (s17 _ (vne _ (.inl (by omega))))
  rw[kkb]
  refine ih _ ⟨H17,n16,ds++[l'],rfl,⟨by have:=f13.le;omega,λid h1 h2=>(s17 id (vne id (.inl (by omega)))).trans ((k16 id (by omega) h2 (by omega)).trans (f13.same id h1 h2)),hseen⟩,?_,by omega,(s17 _ (vne _ (.inl (by omega)))).trans y1,
   (s17 _ (vne _ (.inl (by omega)))).trans ((k16 _ (by omega) (by omega) (by omega)).trans x2),(s17 _ (vne _ (.inl (by omega)))).trans ((k16 _ (by omega) (by omega) (by omega)).trans x3),sk17,?_,by rw[List.length_append,hdl];rfl⟩
  ·obtain⟨M,vv,all,g⟩:=hb16
   exact⟨M,vv,all,(s17 _ (vne _ (.inl (by omega)))).trans g⟩
  ·rw[take_snoc hm']
   refine(Lp.mono (λid hid=>?_) (λid hid=>?_) hds).app (.cons (hm16.mono (λid hid=>?_) λid hid=>?_) .nil)
   ·rcases hid with hid|hid
    ·exact .inl hid
    ·exact .inr ⟨hid.1,by omega,hid.2.2⟩
   ·rcases hid with hid|hid
    ·have:=hA id hid
     exact(s17 id (vne id (.inl (by omega)))).trans (k16 id (by omega) this.2 (by omega))
    ·exact(s17 id hid.2.2).trans (k16 id hid.2.1 (by omega) (by omega))
   ·rcases hid with hid|hid
    ·exact .inl hid
    ·exact .inr ⟨by omega,hid.2,vne id (.inr (by omega))⟩
   ·rcases hid with hid|hid
    ·have:=hA id hid;exact s17 id (vne id (.inl (by omega)))
    ·exact s17 id (vne id (.inr (by omega)))
 ·rintro I q ⟨H13,n13,ds,rfl,f13,hb13,hn13,x1,x2,x3,sk13,hds,hdl⟩
  show OM lfp G (Runs F G) k I (.ptr n 0) (.ptr (n+1) 0) (.ptr (n+2) 0) (.ptr n9 0) v' (.int .i64 (.ofNat ms.length) 0) (.int .i64 (.ofNat ms.length) 0) H13 n13
  delta OM
  rw[Dl,AQ,decide_eq_false (Nat.lt_irrefl _),Ai]
  delta V6
  obtain⟨M,vv,all,gk⟩:=hb13
  rw[kkb]at gk
  rw[BU,AQ,Ae,AQ,Dk,AQ]
  refine AB (AV (off:=0+17) gk (v:=.int .i64 (.ofNat 0) 0) rfl) (AB (lS ..) ?_)
  show Aa (.bool false) true _ _
  rw[Ai]
  refine AB (BI (m:=6) x1 (by omega) rfl) ?_
  refine AB (v:=.agg [.int .i64 (.ofNat 0) 0,.int .i64 (.ofNat 0) 0,.int .i64 (.ofNat 0) 0]) rfl ?_
  refine Bq x2 rfl rfl (by omega) λH14 g14 s14=>?_
  refine Bq ((s14 (n+2) (by omega)).trans x3) rfl rfl (by omega) λH15 g15 s15=>?_
  rw[Cm (m:=6) ((s15 (n+1) (by omega)).trans g14) (by omega) rfl,Cm (m:=3) g15 (by omega) rfl]
  simp only[go_sem]
  rw[List.drop_eq_nil_of_le (by omega),List.append_nil]at sk13
  rw[List.take_of_length_le (by omega)]at hds
  have keep:∀id,id≠n+1->id≠n+2->T.get H15 id=T.get H13 id:=λid h1 h2=>(s15 id h2).trans (s14 id h1)
  refine hk H15 n13 (tcC line col nm sup vf v') ⟨f13.le,λid h1 h2=>(keep id (by omega) (by omega)).trans (f13.same id h1 h2),λhs=>(f13.seen hs).same (keep _ (by omega) (by omega))⟩
   (.mk line col (hf.mono (λ_ h=>.inl h) λid hid=>by have:=hA id hid;exact(keep id (by omega) (by omega)).trans (f13.same id this.1 this.2)) ⟨ds,?_,sk13.ks,sk13.ok.1,sk13.ok.2.1,λid hid=>?_,Lp.mono (λid hid=>?_) (λid hid=>?_) hds⟩)
  ·exact(sk13.mono (B:=λ_=>True) (λ_ _=>trivial) λid hid=>keep id (by omega) (by omega)).el (by omega)
  ·have:=sk13.own hid;exact .inr ⟨by omega,by omega⟩
  ·rcases hid with hid|hid
   ·exact .inl hid
   ·exact .inr ⟨by omega,hid.2.1⟩
  ·rcases hid with hid|hid
   ·have:=hA id hid;exact keep id (by omega) (by omega)
   ·exact keep id (by omega) (by omega)
end
end Go.RL
