/- Part of a proof; nothing is assumed. -/
import Derived.Test.YtcjkfmaoahojeaaGreatDoorConA
set_option linter.unusedVariables false
set_option linter.unusedSimpArgs false
namespace Go.PQ
open Go.Eng
set_option maxRecDepth 100000
section
variable{G:AV}{pb:Nat}{H:Heap}{n:Nat}{s s':S}{k:KV}
theorem AVq{rec:PM Ex}{f:Nat}{e:Ex}(hr:AKc G pb rec)(h:aP G H pb s)(hb:pb<n)(hm:WA rec f s=some (e,s'))(hk:ExK G pb H n s' e k):
 Runs F G Y0 [.ptr pb 0] H n k:=by
 refine Am (s:=Ho (OG lfp G)) RX (by obtain⟨h,o⟩:=pF Ap G;rw[RX]at h;cases h;exact o) ?_
 show OG lfp G (Runs F G) (.ptr pb 0) H n k
 delta OG
 have x:=Fr.refl h hb
 refine Az rfl λH1 f1 g1=>?_
 have x:=x.al f1
 obtain⟨v,tid,o,line,col,e0,e1,_,_,e2,_,_,_⟩:=x.p.tok
 refine AB (v:=.ptr pb 0) rfl (AB (v:=.ptr pb 0) rfl (AB e0 (AB e1 (AB e2 ?_))))
 refine Az rfl λH2 f2 g2=>?_
 have x:=x.al f2
 have g1:=f2.get g1 (by omega)
 refine CG (L:=VR s.t line col) g2 rfl rfl (by omega) λH3 g2 s3=>?_
 have x:=x.st (by omega) s3
 have g1:=(s3 n (by omega)).trans g1
 refine AB (v:=.ptr (n+1) 3) (AZ ..) (AB (OZ (m:=2) (o:=3) g2 (by omega) (by show 3+2<=5;omega)) (AB AXP ?_))
 refine Az rfl λH4 f4 g4=>?_
 have x:=x.al f4
 have g1:=f4.get g1 (by omega)
 have g2:=f4.get g2 (by omega)
 refine CG (L:=Ti 0 0 [] [] false line col .Ae) g4 rfl rfl (by omega) λH5 g4 s5=>?_
 have x:=x.st (by omega) s5
 have g1:=(s5 n (by omega)).trans g1
 have g2:=(s5 (n+1) (by omega)).trans g2
 clear s5 f4 s3 f2 f1 e0 e1 e2
 have fin:∀{H':Heap} {n':Nat} {c:LV},Fr G pb H n H' n' s'->T.get H' n=some (one exZ)->T.get H' (n+2)=some (one c)->EO G H' (λid=>n+2<id/\id<n') c e->BL lfp G (Runs F G) k (.ptr n 0) (.ptr (n+2) 0) H' n':=by
  intro H' n' c x g1 g4 hx
  delta BL
  exact yQ x g1 rfl g4 (Nat.le_refl _) hx (λid h=>⟨by have:=h.1;omega,h.2,by have:=h.1;omega⟩) hk
 have leaf:∀{H':Heap} {n' kd num:Nat} {nm ty:Bs} {arr:Bool},Fr G pb H n H' n' s'->T.get H' n=some (one exZ)->T.get H' (n+2)=some (one (Ti kd num nm ty arr line col .Ae))->e=.mk kd num nm ty arr []->BL lfp G (Runs F G) k (.ptr n 0) (.ptr (n+2) 0) H' n':=by
  intro H' n' kd num nm ty arr x g1 g4 he
  subst he
  exact fin x g1 g4 (.mk kd num nm ty arr line col yO dB (λid h=>by cases h) .nil)
 have AM7:∀{H':Heap} {n' kd kd' num:Nat} {nm ty:Bs} {arr:Bool} {w:V} {P:KV},T.get H' (n+2)=some (one (Ti kd num nm ty arr line col w))->(∀H'',T.get H'' (n+2)=some (one (Ti kd' num nm ty arr line col w))->(∀j,j≠n+2->T.get H'' j=T.get H' j)->P .undef H'' n')->CP 1 (.ptr (n+2) 0) (.int .i64 (.ofNat kd') 0) H' n' P:=by
  intro H' n' kd kd' num nm ty arr w P g hP
  exact Ej g rfl rfl (by omega) (by show 0+1<=11;omega) λH'' g'' s''=>hP H'' g'' s''
 unfold WA at hm
 refine ANj x.p ?_
 rw[MF,Au]
 cases ho:s.ok with
 |false=>
  rw[ho]at hm
  cases hm
  rw[Bool.not_false,Ah]
  exact leaf x g1 g4 rfl
 |true=>
  rw[ho,Bool.not_true,cond_false]at hm
  have q0:AX (.ptr (n+1) 0) G H5=some (.int .i64 (.ofNat s.t.kind) 0):=AQ g2 rfl
  rw[Bool.not_true,Aq]
  refine AB (v:=.ptr (n+1) 0) (AZ ..) (AB q0 (AB (Xx ..) ?_))
  cases k4:decide (s.t.kind=4)with
  |true=>
   rw[k4,cond_true,Option.bind_eq_some_iff]at hm
   obtain⟨s1,h1,hm⟩:=hm
   cases hm
   rw[Ah]
   refine eF x.p x.lt h1 λH6 n6 _ _ _ _ y=>?_
   have x:=x.tr y
   have g1:=y.get g1 (by omega) hb
   have g2:=y.get g2 (by omega) (by omega)
   have g4:=y.get g4 (by omega) (by omega)
   have q2:AX (.ptr (n+1) 2) G H6=some (.int .i64 (.ofNat s.t.num) 0):=AQ g2 rfl
   refine AB (v:=.ptr (n+1) 2) (AZ ..) (AB q2 (AB (v:=.ptr (n+2) 0) (AZ ..) ?_))
   refine AM7 g4 λH7 g4 s7=>?_
   have x:=x.st (by omega) s7
   have g1:=(s7 n (by omega)).trans g1
   have g2:=(s7 (n+1) (by omega)).trans g2
   have q2:AX (.ptr (n+1) 2) G H7=some (.int .i64 (.ofNat s.t.num) 0):=AQ g2 rfl
   refine AB q2 (Cc (kS ..) (AB (v:=.ptr (n+2) 3) (AZ ..) ?_))
   refine Ej g4 rfl rfl (by omega) (by show 3+1<=11;omega) λH8 g8 s8=>?_
   exact leaf (kd:=1) (num:=s.t.num) (nm:=[]) (ty:=[]) (arr:=false) (x.st (by omega) s8) ((s8 n (by omega)).trans g1) g8 rfl
  |false=>
  rw[k4,cond_false]at hm
  rw[Aq]
  refine AB (v:=.ptr (n+1) 0) (AZ ..) (AB q0 (AB (Xx ..) ?_))
  cases k3:decide (s.t.kind=3)with
  |true=>
   rw[k3,cond_true,Option.bind_eq_some_iff]at hm
   obtain⟨s1,h1,hm⟩:=hm
   cases hm
   rw[Ah]
   refine eF x.p x.lt h1 λH6 n6 _ _ _ _ y=>?_
   have x:=x.tr y
   have g1:=y.get g1 (by omega) hb
   have g2:=y.get g2 (by omega) (by omega)
   have g4:=y.get g4 (by omega) (by omega)
   have q2:AX (.ptr (n+1) 1) G H6=some (sB s.t.text):=AQ g2 rfl
   refine AB (v:=.ptr (n+1) 1) (AZ ..) (AB q2 (AB (v:=.ptr (n+2) 0) (AZ ..) ?_))
   refine AM7 g4 λH7 g4 s7=>?_
   have x:=x.st (by omega) s7
   have g1:=(s7 n (by omega)).trans g1
   have g2:=(s7 (n+1) (by omega)).trans g2
   have q2:AX (.ptr (n+1) 1) G H7=some (sB s.t.text):=AQ g2 rfl
   refine AB q2 (Cc (VK ..) (AB (v:=.ptr (n+2) 4) (AZ ..) ?_))
   refine Ej g4 rfl rfl (by omega) (by show 4+1<=11;omega) λH8 g8 s8=>?_
   exact leaf (kd:=6) (num:=0) (nm:=s.t.text) (ty:=[]) (arr:=false) (x.st (by omega) s8) ((s8 n (by omega)).trans g1) g8 rfl
  |false=>
  rw[k3,cond_false]at hm
  rw[Aq]
  refine AB (v:=.ptr (n+1) 0) (AZ ..) (AB q0 (AB (Xx ..) ?_))
  cases k2:decide (s.t.kind=2)with
  |true=>
   rw[k2,cond_true,Option.bind_eq_some_iff]at hm
   obtain⟨s1,h1,hm⟩:=hm
   rw[Option.bind_eq_some_iff]at hm
   obtain⟨s2,h2,hm⟩:=hm
   rw[Option.bind_eq_some_iff]at hm
   obtain⟨⟨nm,s3⟩,h3,hm⟩:=hm
   rw[Option.bind_eq_some_iff]at hm
   obtain⟨⟨es,s4⟩,h4,hm⟩:=hm
   cases hm
   rw[Ah]
   refine eF x.p x.lt h1 λH6 n6 l6 c6 _ _ y=>?_
   have x:=x.tr y
   have hn6:=y.le
   have g1:=y.get g1 (by omega) hb
   have g4:=y.get g4 (by omega) (by omega)
   refine AB (v:=sB s.t.text) (AQZ rfl) ?_
   refine ADh λH7 f7=>?_
   have x:=x.al f7
   have g1:=f7.get g1 (by omega)
   have g4:=f7.get g4 (by omega)
   refine AB (v:=.ptr (n+2) 0) (AZ ..) ?_
   refine AM7 g4 λH8 g4 s8=>?_
   have x:=x.st (by omega) s8
   have g1:=(s8 n (by omega)).trans g1
   refine AB (v:=.ptr (n+2) 5) (AZ ..) ?_
   refine Ej g4 rfl rfl (by omega) (by show 5+2<=11;omega) λH9 g4 s9=>?_
   have x:=x.st (by omega) s9
   have g1:=(s9 n (by omega)).trans g1
   have g4:T.get H9 (n+2)=some (one (Ti 9 0 [] s.t.text false line col .Ae)):=g4
   refine LM (ws:=[DI]) x.p x.lt rfl (by show 1<=1000;omega) h2 λH10 n10 y=>?_
   have x:=x.tr y
   have hn10:=y.le
   have g1:=y.get g1 (by omega) hb
   have g4:=y.get g4 (by omega) (by omega)
   refine fU x.p x.lt h3 λH11 n11 y=>?_
   have x:=x.tr y
   have hn11:=y.le
   have g1:=y.get g1 (by omega) hb
   have g4:=y.get g4 (by omega) (by omega)
   refine AB (v:=.ptr (n+2) 4) (AZ ..) ?_
   refine Ej g4 rfl rfl (by omega) (by show 4+1<=11;omega) λH12 g4 s12=>?_
   have x:=x.st (by omega) s12
   have g1:=(s12 n (by omega)).trans g1
   have g4:T.get H12 (n+2)=some (one (Ti 9 0 nm s.t.text false line col .Ae)):=g4
   refine ARN hr x.p x.lt h4 λH13 n13 v y hes hle=>?_
   have x:=x.tr y
   have hn13:=y.le
   have g1:=y.get g1 (by omega) hb
   have g4:=y.get g4 (by omega) (by omega)
   obtain⟨cs,he1,he2,he3,he4,he5,he6⟩:=hes
   refine AB (v:=.ptr (n+2) 7) (AZ ..) ?_
   refine Ej g4 he3 (by rw[he4];rfl) (by omega) (by show 7+1<=11;omega) λH14 g14 s14=>?_
   rw[he4]at g14
   refine fin (c:=Ti 9 0 nm s.t.text false line col v) (x.st (by omega) s14) ((s14 n (by omega)).trans g1) g14 ?_
   refine .mk 9 0 nm s.t.text false line col (he1.same λid hid=>s14 id (by have:=(he5 id hid).1;omega)) he2 (λid hid=>⟨by have:=(he5 id hid).1;omega,(he5 id hid).2⟩) (he6.mono (λid h=>⟨by have:=h.1;omega,h.2⟩) λid h=>s14 id (by have:=h.1;omega))
  |false=>
  rw[k2,cond_false]at hm
  rw[Aq]
  have kw:∀{w:Bs} {kd:Nat} {H':Heap} {n':Nat} {s1:S} {N:Bool×S->Option (Ex×S)} {R:Heap->Nat->Prop},Fr G pb H n H' n' s1->n+2<n'->T.get H' n=some (one exZ)->T.get H' (n+2)=some (one (Ti 0 0 [] [] false line col .Ae))->
   (C9 w s1).bind N=some (e,s')->(∀s2,N (true,s2)=some (.mk kd 0 [] [] false [],s2))->
   (∀H'' n'' s2,Fr G pb H n H'' n'' s2->n+2<n''->T.get H'' n=some (one exZ)->T.get H'' (n+2)=some (one (Ti 0 0 [] [] false line col .Ae))->N (false,s2)=some (e,s')->R H'' n'')->
   Runs F G Ak [.ptr pb 0,sB w] H' n' λv H n'=>Ac v true (AP (AU 0 (.ptr (n+2) 0)) λv60=>CP 1 v60 (.int .i64 (.ofNat kd) 0) H n' λ_ H n'=>BL lfp G (Runs F G) k (.ptr n 0) (.ptr (n+2) 0) H n') (R H n'):=by
   intro w kd H' n' s1 N R x hn' g1 g4 hm hN hR
   rw[Option.bind_eq_some_iff]at hm
   obtain⟨⟨b,s2⟩,h2,hm⟩:=hm
   refine Oq x.p x.lt h2 λH6 n6 y=>?_
   have x:=x.tr y
   have hn6:=y.le
   have g1:=y.get g1 (by omega) hb
   have g4:=y.get g4 (by omega) (by omega)
   cases b with
   |true=>
    rw[hN]at hm
    cases hm
    rw[Ah]
    refine AB (v:=.ptr (n+2) 0) (AZ ..) ?_
    refine AM7 g4 λH7 g4 s7=>?_
    exact leaf (kd:=kd) (num:=0) (nm:=[]) (ty:=[]) (arr:=false) (x.st (by omega) s7) ((s7 n (by omega)).trans g1) g4 rfl
   |false=>rw[Aq];exact hR _ _ _ x (by omega) g1 g4 hm
  refine kw (w:=Vm) x (by omega) g1 g4 hm (λ_=>rfl) λH6 n6 s6 x hn6 g1 g4 hm=>?_
  refine kw (w:=RG) x (by omega) g1 g4 hm (λ_=>rfl) λH6 n6 s6 x hn6 g1 g4 hm=>?_
  refine kw (w:=Qh) x (by omega) g1 g4 hm (λ_=>rfl) λH6 n6 s6 x hn6 g1 g4 hm=>?_
  refine kw (w:=WH) x (by omega) g1 g4 hm (λ_=>rfl) λH6 n6 s6 x hn6 g1 g4 hm=>?_
  obtain⟨⟨b,s7⟩,h7,hm⟩:=Option.bind_eq_some_iff.1 hm
  rw[show V.str 3 7824750=sB Ih from rfl]
  refine Oq x.p x.lt h7 λH7 n7 y=>?_
  have x:=x.tr y
  have hn7:=y.le
  have g1:=y.get g1 (by omega) hb
  have g4:=y.get g4 (by omega) (by omega)
  cases b with
  |true=>
   have hm:((ACX s7).bind λb=>(C9 GL b.2).bind λq=>bif q.1 then(rec q.2).bind λx=>(CJ [F8] x.2).bind λs1=>some ((.mk 11 0 [] b.1.nm b.1.arr [x.1]:Ex),s1)
    else some (.mk 10 0 [] b.1.nm b.1.arr [],bif xH b.1 then q.2 else Gy 21 q.2))=some (e,s'):=hm
   rw[Option.bind_eq_some_iff]at hm
   obtain⟨⟨t,s8⟩,h8,hm⟩:=hm
   rw[Option.bind_eq_some_iff]at hm
   obtain⟨⟨b,s9⟩,h9,hm⟩:=hm
   rw[Ah]
   refine AQa x.p x.lt h8 λH8 n8 y=>?_
   have x:=x.tr y
   have hn8:=y.le
   have g1:=y.get g1 (by omega) hb
   have g4:=y.get g4 (by omega) (by omega)
   refine AB (v:=.ptr (n+2) 0) (AZ ..) ?_
   refine AM7 g4 λH9 g4 t9=>?_
   have x:=x.st (by omega) t9
   have g1:=(t9 n (by omega)).trans g1
   refine AB (v:=.ptr (n+2) 5) (AZ ..) ?_
   refine Ej g4 rfl rfl (by omega) (by show 5+2<=11;omega) λH10 g4 t10=>?_
   have x:=x.st (by omega) t10
   have g1:=(t10 n (by omega)).trans g1
   have g4:T.get H10 (n+2)=some (one (Ti 10 0 [] t.nm t.arr line col .Ae)):=g4
   rw[show V.str 1 91=sB GL from rfl]
   refine Oq x.p x.lt h9 λH11 n11 y=>?_
   have x:=x.tr y
   have hn11:=y.le
   have g1:=y.get g1 (by omega) hb
   have g4:=y.get g4 (by omega) (by omega)
   cases b with
   |true=>
    have hm:((rec s9).bind λx=>(CJ [F8] x.2).bind λs1=>some ((.mk 11 0 [] t.nm t.arr [x.1]:Ex),s1))=some (e,s'):=hm
    rw[Option.bind_eq_some_iff]at hm
    obtain⟨⟨e1,s10⟩,h10,hm⟩:=hm
    rw[Option.bind_eq_some_iff]at hm
    obtain⟨s11,h11,hm⟩:=hm
    cases hm
    rw[Ah]
    refine hr _ _ _ _ _ _ x.p x.lt h10 λH12 n12 c y hx=>?_
    have x:=x.tr y
    have hn12:=y.le
    have g1:=y.get g1 (by omega) hb
    have g4:=y.get g4 (by omega) (by omega)
    refine J9 (G:=G) (vs:=[.agg c]) rfl (by omega) (λv hv=>by simp at hv;subst hv;exact hx.ok) λH13 f13 _ hel=>?_
    have x:=x.al f13
    have g1:=f13.get g1 (by omega)
    have g4:=f13.get g4 (by omega)
    refine AB (v:=.ptr (n+2) 0) (AZ ..) ?_
    refine AM7 g4 λH14 g4 t14=>?_
    have x:=x.st (by omega) t14
    have g1:=(t14 n (by omega)).trans g1
    refine AB (v:=.ptr (n+2) 7) (AZ ..) ?_
    refine Ej g4 rfl rfl (by omega) (by show 7+1<=11;omega) λH15 g4 t15=>?_
    have x:=x.st (by omega) t15
    have g1:=(t15 n (by omega)).trans g1
    have g4:T.get H15 (n+2)=some (one (Ti 11 0 [] t.nm t.arr line col (.sl n12 0 1 1 11))):=g4
    refine LM (ws:=[F8]) x.p x.lt rfl (by show 1<=1000;omega) h11 λH16 n16 y=>?_
    have x:=x.tr y
    have hn16:=y.le
    have g1:=y.get g1 (by omega) hb
    have g4:=y.get g4 (by omega) (by omega)
    have same:∀id,n+2<id->id<n12+1->T.get H16 id=T.get H13 id:=λid h1 h2=>(y.f.same id (by omega) (by omega)).trans ((t15 id (by omega)).trans (t14 id (by omega)))
    refine fin x g1 g4 (.mk 11 0 [] t.nm t.arr line col (hel.same λid hid=>by cases Em hid;exact same _ (by omega) (by omega)) (Wy (by omega)) (λid hid=>by cases Em hid;exact⟨by omega,by omega⟩) (.cons ?_ .nil))
    exact hx.mono (λid h=>⟨by have:=h.1;omega,by have:=h.2;omega⟩) λid h=>(same id (by have:=h.1;omega) (by have:=h.2;omega)).trans (f13.same id h.2)
   |false=>
    cases hm
    rw[Aq]
    have q5:BF 2 (.ptr (n+2) 5) G H11=some (.agg (tyC t)):=OZ g4 (by omega) (by show 5+2<=11;omega)
    refine AB (v:=.ptr (n+2) 5) (AZ ..) (AB q5 ?_)
    refine AR4 λH12 f12=>?_
    have x:=x.al f12
    have g1:=f12.get g1 (by omega)
    have g4:=f12.get g4 (by omega)
    refine AB (MF _) ?_
    cases hc:xH t with
    |true=>
     have x:Fr G pb H n H12 (n11+1) s9:=x
     have leaf':= @leaf H12 (n11+1) 10 0 [] t.nm t.arr
     rw[hc]at leaf'
     rw[Bool.not_true,Aq]
     exact leaf' x g1 g4 rfl
    |false=>
     rw[Bool.not_false,Ah]
     refine kQ x.p x.lt λH13 n13 y=>?_
     have x:=x.tr y
     have g1:=y.get g1 (by omega) hb
     have g4:=y.get g4 (by omega) (by omega)
     have leaf':= @leaf H13 n13 10 0 [] t.nm t.arr
     rw[hc]at leaf'
     exact leaf' x g1 g4 rfl
  |false=>
   have hm:((C9 BG s7).bind λp=>bif p.1 then(rec p.2).bind λx=>(CJ [BH] x.2).bind λs1=>some (x.1,s1)else
    some (.mk 0 0 [] [] false [],Gy 21 p.2))=some (e,s'):=hm
   rw[Option.bind_eq_some_iff]at hm
   obtain⟨⟨b,s8⟩,h8,hm⟩:=hm
   rw[Aq,show V.str 1 40=sB BG from rfl]
   refine Oq x.p x.lt h8 λH8 n8 y=>?_
   have x:=x.tr y
   have hn8:=y.le
   have g1:=y.get g1 (by omega) hb
   have g4:=y.get g4 (by omega) (by omega)
   cases b with
   |true=>
    have hm:((rec s8).bind λx=>(CJ [BH] x.2).bind λs1=>some (x.1,s1))=some (e,s'):=hm
    rw[Option.bind_eq_some_iff]at hm
    obtain⟨⟨e1,s10⟩,h10,hm⟩:=hm
    rw[Option.bind_eq_some_iff]at hm
    obtain⟨s11,h11,hm⟩:=hm
    cases hm
    rw[Ah]
    refine hr _ _ _ _ _ _ x.p x.lt h10 λH12 n12 c y hx=>?_
    have x:=x.tr y
    have hn12:=y.le
    have g1:=y.get g1 (by omega) hb
    have g4:=y.get g4 (by omega) (by omega)
    refine CG g4 rfl hx.len (by omega) λH13 g4 t13=>?_
    have x:=x.st (by omega) t13
    have g1:=(t13 n (by omega)).trans g1
    refine LM (ws:=[BH]) x.p x.lt rfl (by show 1<=1000;omega) h11 λH16 n16 y=>?_
    have x:=x.tr y
    have hn16:=y.le
    have g1:=y.get g1 (by omega) hb
    have g4:=y.get g4 (by omega) (by omega)
    refine fin x g1 g4 (hx.mono (λid h=>⟨by have:=h.1;omega,by have:=h.2;omega⟩) λid h=>?_)
    exact(y.f.same id h.2 (by have:=h.1;omega)).trans (t13 id (by have:=h.1;omega))
   |false=>
    cases hm
    rw[Aq]
    refine kQ x.p x.lt λH13 n13 y=>?_
    have x:=x.tr y
    exact leaf (kd:=0) (num:=0) (nm:=[]) (ty:=[]) (arr:=false) x (y.get g1 (by omega) hb) (y.get g4 (by omega) (by omega)) rfl
end
section
variable{G:AV}{pb:Nat}{H:Heap}{n:Nat}{s s':S}{k:KV}
theorem ASF{rec:PM Ex}{f:Nat}{e:Ex}(hr:AKc G pb rec)(h:aP G H pb s)(hb:pb<n)(hm:XH rec f s=some (e,s'))(hk:ExK G pb H n s' e k):
 Runs F G YC [.ptr pb 0] H n k:=by
 refine Am (s:=Ho (MK lfp G)) Qj (by obtain⟨h,o⟩:=oH Ap G;rw[Qj]at h;cases h;exact o) ?_
 show MK lfp G (Runs F G) (.ptr pb 0) H n k
 delta MK
 have x:=Fr.refl h hb
 refine Az rfl λH1 f1 g1=>?_
 have x:=x.al f1
 obtain⟨⟨e1,s1⟩,h1,hm⟩:=Option.bind_eq_some_iff.1 hm
 have hm:Oz rec f e1 s1=some (e,s'):=hm
 refine AVq hr x.p x.lt h1 λH2 n2 c y hx=>?_
 have x:=x.tr y
 have g1:=y.get g1 (by omega) hb
 have hn2:=y.le
 refine Az rfl λH3 f3 g3=>?_
 have x:=x.al f3
 have g1:=f3.get g1 (by omega)
 refine CG g3 rfl hx.len (by omega) λH4 g4 s4=>?_
 have x:=x.st (by omega) s4
 have g1:=(s4 n (by omega)).trans g1
 have hx:EO G H4 (Al n (n2+1) n2) c e1:=hx.mono (λid h=>⟨by have:=h.1;omega,by have:=h.2;omega,by have:=h.2;omega⟩) λid h=>(s4 id (by have:=h.2;omega)).trans (f3.same id h.2)
 refine O3 (J:=λg q=>∃H' n' t c e1,q=(.ptr pb 0,.ptr n 0,.ptr n2 0,H',n')/\Fr G pb H n H' n' t/\n2<n'/\T.get H' n=some (one exZ)/\T.get H' n2=some (one c)/\EO G H' (Al n n' n2) c e1/\Oz rec g e1 t=some (e,s')) ?_ (m:=f)
  ⟨H4,n2+1,s1,c,e1,rfl,x,by omega,g1,g4,hx,hm⟩
 rintro I g q ⟨H5,n5,t,c,e1,rfl,x,hn5,g1,g4,hx,hm⟩ ih
 show O1 lfp G (Runs F G) k I (.ptr pb 0) (.ptr n 0) (.ptr n2 0) H5 n5
 delta O1
 cases g with
 |zero=>cases hm
 |succ g=>
  obtain⟨v,tid,o,line,col,e0,ea,_,_,_,_,_,e5⟩:=x.p.tok
  refine AB (v:=.ptr pb 0) rfl (AB (v:=.ptr pb 0) rfl (AB e0 (AB ea (AB (v:=.ptr tid (o+3)) (AZ ..) (AB e5 ?_)))))
  refine Az rfl λH8 f8 g8=>?_
  have x:=x.al f8
  refine CG g8 rfl (L:=[.int .i64 (.ofNat line) 0,.int .i64 (.ofNat col) 0]) rfl (by omega) λH9 g9 s9=>?_
  have x:=x.st (by omega) s9
  have g1:=(s9 n (by omega)).trans (f8.get g1 (by omega))
  have g4:=(s9 n2 (by omega)).trans (f8.get g4 (by omega))
  have hx:EO G H9 (Al n n5 n2) c e1:=hx.mono (λid h=>h) λid h=>(s9 id (by have:=h.2.1;omega)).trans (f8.same id h.2.1)
  obtain⟨⟨b,t2⟩,h2,hm⟩:=Option.bind_eq_some_iff.1 hm
  have hm:(bif b then(rec t2).bind λq=>(CJ [F8] q.2).bind λs1=>Oz rec g (.mk 12 0 [] [] false [e1,q.1]) s1 else
   (C9 DI t2).bind λp=>bif p.1 then(ZY rec g e1 p.2).bind λq=>Oz rec g q.1 q.2 else some (e1,p.2))=some (e,s'):=hm
  rw[show V.str 1 91=sB GL from rfl]
  refine Oq x.p x.lt h2 λH10 n10 y=>?_
  have x:=x.tr y
  have hn10:=y.le
  have g1:=y.get g1 (by omega) hb
  have g4:=y.get g4 (by omega) (by omega)
  have g9:=y.get g9 (by omega) (by omega)
  have hx:EO G H10 (Al n n5 n2) c e1:=hx.mono (λid h=>h) λid h=>y.f.same id (by have:=h.2.1;omega) (by have:=h.1;omega)
  cases b with
  |true=>
   rw[cond_true]at hm
   obtain⟨⟨e2,t3⟩,h3,hm⟩:=Option.bind_eq_some_iff.1 hm
   obtain⟨t4,h4,hm⟩:=Option.bind_eq_some_iff.1 hm
   rw[Ah,Ai (m:=2) g9 (by omega) rfl,Au,Ai (m:=11) g4 (by omega) hx.len,Au]
   refine hr _ _ _ _ _ _ x.p x.lt h3 λH11 n11 c2 y hx2=>?_
   have x:=x.tr y
   have hn11:=y.le
   have g1:=y.get g1 (by omega) hb
   have g4:=y.get g4 (by omega) (by omega)
   have g9:=y.get g9 (by omega) (by omega)
   have hx:EO G H11 (Al n n5 n2) c e1:=hx.mono (λid h=>h) λid h=>y.f.same id (by have:=h.2.1;omega) (by have:=h.1;omega)
   rw[Ai (m:=2) g9 (by omega) rfl,Au,Ai (m:=11) g4 (by omega) hx.len]
   refine Cc (Yt ..) (Cc hx.vs ?_)
   refine J9 (G:=G) (vs:=[.agg c,.agg c2]) rfl (by omega) (λv hv=>by simp at hv;rcases hv with rfl|rfl;exact hx.ok;exact hx2.ok) λH12 f12 _ hel=>?_
   have x:=x.al f12
   have g1:=f12.get g1 (by omega)
   have g4:=f12.get g4 (by omega)
   refine AB AKZ ?_
   refine CG g4 hx.len rfl (by omega) λH13 g4 s13=>?_
   have x:=x.st (by omega) s13
   have g1:=(s13 n (by omega)).trans g1
   refine LM (ws:=[F8]) x.p x.lt rfl (by show 1<=1000;omega) h4 λH14 n14 y=>?_
   have x:=x.tr y
   have hn14:=y.le
   have g1:=y.get g1 (by omega) hb
   have g4:=y.get g4 (by omega) (by omega)
   have same:∀id,n<id->id≠n2->id<n11+1->T.get H14 id=T.get H12 id:=λid h1 h2 h3=>(y.f.same id (by omega) (by omega)).trans (s13 id h2)
   refine ih g _ (by omega) ⟨H14,n14,t4,_,.mk 12 0 [] [] false [e1,e2],rfl,x,by omega,g1,g4,?_,hm⟩
   refine .mk 12 0 [] [] false line col (hel.same λid hid=>by cases Em hid;exact same _ (by omega) (by omega) (by omega)) (Wy (by omega)) (λid hid=>by cases Em hid;exact⟨by omega,by omega,by omega⟩) ?_
   refine .cons (hx.mono (λid h=>⟨h.1,by have:=h.2.1;omega,h.2.2⟩) λid h=>?_) (.cons (hx2.mono (λid h=>⟨by have:=h.1;omega,by have:=h.2;omega,by have:=h.1;omega⟩) λid h=>?_) .nil)
   ·have h1:=h.1;have h2:=h.2.1
    exact(same id h1 h.2.2 (by omega)).trans (f12.same id (by omega))
   ·have h1:=h.1;have h2:=h.2
    exact(same id (by omega) (by omega) (by omega)).trans (f12.same id h2)
  |false=>
   rw[cond_false]at hm
   obtain⟨⟨b,t3⟩,h3,hm⟩:=Option.bind_eq_some_iff.1 hm
   have hm:(bif b then(ZY rec g e1 t3).bind λq=>Oz rec g q.1 q.2 else some (e1,t3))=some (e,s'):=hm
   rw[Aq,show V.str 1 46=sB DI from rfl]
   refine Oq x.p x.lt h3 λH11 n11 y=>?_
   have x:=x.tr y
   have hn11:=y.le
   have g1:=y.get g1 (by omega) hb
   have g4:=y.get g4 (by omega) (by omega)
   have g9:=y.get g9 (by omega) (by omega)
   have hx:EO G H11 (Al n n5 n2) c e1:=hx.mono (λid h=>h) λid h=>y.f.same id (by have:=h.2.1;omega) (by have:=h.1;omega)
   cases b with
   |true=>
    rw[cond_true]at hm
    obtain⟨⟨e2,t4⟩,h4,hm⟩:=Option.bind_eq_some_iff.1 hm
    rw[Ah,Ai (m:=11) g4 (by omega) hx.len,Au,Ai (m:=2) g9 (by omega) rfl,Au]
    refine APZ hr (λid h=>⟨by have:=h.1;omega,by have:=h.2.1;omega⟩) hx x.p x.lt h4 λH12 n12 c2 y hx2=>?_
    have x:=x.tr y
    have hn12:=y.le
    have g1:=y.get g1 (by omega) hb
    have g4:=y.get g4 (by omega) (by omega)
    refine CG g4 hx.len hx2.len (by omega) λH13 g4 s13=>?_
    have x:=x.st (by omega) s13
    have g1:=(s13 n (by omega)).trans g1
    refine ih g _ (by omega) ⟨H13,n12,t4,c2,e2,rfl,x,by omega,g1,g4,?_,hm⟩
    refine hx2.mono (λid h=>?_) λid h=>s13 id ?_
    ·rcases h with h|h
     ·exact⟨h.1,by have:=h.2.1;omega,h.2.2⟩
     ·exact⟨by have:=h.1;omega,h.2,by have:=h.1;omega⟩
    ·rcases h with h|h
     ·exact h.2.2
     ·have:=h.1;omega
   |false=>
    cases hm
    rw[Aq]
    exact yQ x g1 rfl g4 (Nat.le_refl _) hx (λid h=>⟨by have:=h.1;omega,by have:=h.2.1;omega,by have:=h.1;omega⟩) hk
end
theorem AVm{kd:Nat}{x y:V}{nm:Bs}{id o l c:Nat}:Bh exZ [(0,1,.c (.int .i64 (.ofNat kd) 0)),(1,2,.c (.agg [x,y])),(5,2,.c (.agg [sB nm,.bool false])),(7,1,.c (.sl id o l c 11))]=
 some (.agg [.int .i64 (.ofNat kd) 0,x,y,.int .i64 (.ofNat 0) 0,.str 0 0,sB nm,.bool false,.sl id o l c 11,.str 0 0,.bool false,.str 0 0]):=rfl
section
variable{G:AV}{pb:Nat}{H0:Heap}{n0:Nat}{s s':S}{k:KV}
theorem ARA{rec:PM Ex}{f:Nat}{e:Ex}{H:Heap}{n:Nat}(hr:AKc G pb rec)(x:Fr G pb H0 n0 H n s)(gr:T.get H n0=some (one exZ))(hn0:n0<n)(hm:((XH rec f s).bind λp=>asL f p.1 p.2)=some (e,s'))(hk:ExK G pb H0 n0 s' e k):
 JU lfp G (Runs F G) k (.ptr pb 0) (.ptr n0 0) .undef H n:=by
 delta JU
 have hb:=x.b
 obtain⟨⟨e1,s1⟩,h1,hm⟩:=Option.bind_eq_some_iff.1 hm
 have hm:asL f e1 s1=some (e,s'):=hm
 refine ASF hr x.p x.lt h1 λH2 n2 c y hx=>?_
 have x:=x.tr y
 have g1:=y.get gr hn0 hb
 have hn2:=y.le
 refine Az rfl λH3 f3 g3=>?_
 have x:=x.al f3
 have g1:=f3.get g1 (by omega)
 refine CG g3 rfl hx.len (by omega) λH4 g4 s4=>?_
 have x:=x.st (by omega) s4
 have g1:=(s4 n0 (by omega)).trans g1
 have hx:EO G H4 (Al n0 (n2+1) n2) c e1:=hx.mono (λid h=>⟨by have:=h.1;omega,by have:=h.2;omega,by have:=h.2;omega⟩) λid h=>(s4 id (by have:=h.2;omega)).trans (f3.same id h.2)
 refine O3 (J:=λg q=>∃H' n' t c e1,q=(.ptr pb 0,.ptr n0 0,.ptr n2 0,.undef,H',n')/\Fr G pb H0 n0 H' n' t/\n2<n'/\T.get H' n0=some (one exZ)/\T.get H' n2=some (one c)/\EO G H' (Al n0 n' n2) c e1/\asL g e1 t=some (e,s')) ?_ (m:=f)
  ⟨H4,n2+1,s1,c,e1,rfl,x,by omega,g1,g4,hx,hm⟩
 rintro I g q ⟨H5,n5,t,c,e1,rfl,x,hn5,g1,g4,hx,hm⟩ ih
 show Nj lfp G (Runs F G) k I (.ptr pb 0) (.ptr n0 0) (.ptr n2 0) .undef H5 n5
 delta Nj
 cases g with
 |zero=>cases hm
 |succ g=>
  have hm:(bif Kw [SX,QU] t then(N7 t).bind λs1=>(Jp 2 s1).bind λp=>asL g (.mk (bif decide (t.t.text=QU)then 20 else 19) 0 [] p.1 false [e1]) p.2 else some (e1,t))=some (e,s'):=hm
  refine vT (ws:=[SX,QU]) x.p x.lt rfl (by show 2<=1000;omega) λH6 n6 y=>?_
  have x:=x.tr y
  have hn6:=y.le
  have g1:=y.get g1 (by omega) hb
  have g4:=y.get g4 (by omega) (by omega)
  have hx:EO G H6 (Al n0 n5 n2) c e1:=hx.mono (λid h=>h) λid h=>y.f.same id h.2.1 (by have:=h.1;omega)
  cases hi:Kw [SX,QU] t with
  |false=>
   rw[hi]at hm
   cases hm
   rw[Aq]
   delta Np
   show AP (BF 11 (.ptr n2 0) G H6) λv15=>CP 11 (.ptr n0 0) v15 H6 n6 λ_ H n=>IV (D6 [.cn (.ptr n0 0) 11] G H) λl=>k (GN l) H n
   exact yQ x g1 rfl g4 (Nat.le_refl _) hx (λid h=>⟨by have:=h.1;omega,by have:=h.2.1;omega,by have:=h.1;omega⟩) hk
  |true=>
   rw[hi,cond_true]at hm
   obtain⟨t1,h1,hm⟩:=Option.bind_eq_some_iff.1 hm
   obtain⟨⟨nm,t2⟩,h2,hm⟩:=Option.bind_eq_some_iff.1 hm
   rw[Ah]
   refine eF x.p x.lt h1 λH7 n7 line col _ _ y=>?_
   have x:=x.tr y
   have hn7:=y.le
   have g1:=y.get g1 (by omega) hb
   have g4:=y.get g4 (by omega) (by omega)
   have hx:EO G H7 (Al n0 n5 n2) c e1:=hx.mono (λid h=>h) λid h=>y.f.same id (by have:=h.2.1;omega) (by have:=h.1;omega)
   refine Az rfl λH8 f8 g8=>?_
   have x:=x.al f8
   refine CG g8 rfl (L:=VR t.t line col) rfl (by omega) λH9 g9 s9=>?_
   have x:=x.st (by omega) s9
   have g1:=(s9 n0 (by omega)).trans (f8.get g1 (by omega))
   have g4:=(s9 n2 (by omega)).trans (f8.get g4 (by omega))
   have hx:EO G H9 (Al n0 n5 n2) c e1:=hx.mono (λid h=>h) λid h=>(s9 id (by have:=h.2.1;omega)).trans (f8.same id (by have:=h.2.1;omega))
   have q1:AX (.ptr n7 1) G H9=some (sB t.t.text):=AQ g9 rfl
   refine AB (v:=.ptr n7 1) (by rw[AZ,Nat.zero_add]) (AB q1 (AB (show EZ (.one .str) false (sB t.t.text) (.str 2 29545)=_ from AH6 _ QU) ?_))
   have body:∀kd,asL g (.mk kd 0 [] nm false [e1]) t2=some (e,s')->Gm lfp G (Runs F G) k I (.ptr pb 0) (.ptr n0 0) (.ptr n2 0) (.ptr n7 0) (.int .i64 (.ofNat kd) 0) .undef H9 (n7+1):=by
    intro kd hm
    delta Gm
    refine AB (v:=.ptr n7 3) (by rw[AZ,Nat.zero_add]) (AB (OZ (m:=2) (o:=3) g9 (by omega) (by show 3+2<=5;omega)) (AB (Ai (m:=11) g4 (by omega) hx.len) ?_))
    refine J9 (G:=G) (vs:=[.agg c]) rfl (by omega) (λv hv=>by simp at hv;subst hv;exact hx.ok) λH10 f10 _ hel=>?_
    have x:=x.al f10
    have g1:=f10.get g1 (by omega)
    have g4:=f10.get g4 (by omega)
    have g9:=f10.get g9 (by omega)
    have hx:EO G H10 (Al n0 n5 n2) c e1:=hx.mono (λid h=>h) λid h=>f10.same id (by have:=h.2.1;omega)
    refine fU x.p x.lt h2 λH11 n11 y=>?_
    have x:=x.tr y
    have hn11:=y.le
    have g1:=y.get g1 (by omega) hb
    have g4:=y.get g4 (by omega) (by omega)
    have g9:=y.get g9 (by omega) (by omega)
    have hx:EO G H11 (Al n0 n5 n2) c e1:=hx.mono (λid h=>h) λid h=>y.f.same id (by have:=h.2.1;omega) (by have:=h.1;omega)
    have hel:El G H11 (.sl (n7+1) 0 1 1 11) 11 [c]:=hel.same λid hid=>by cases Em hid;exact y.f.same _ (by omega) (by omega)
    refine AB (OZ (m:=2) (o:=3) g9 (by omega) (by show 3+2<=5;omega)) (Cc (Yt ..) (AB (Ai (m:=11) g4 (by omega) hx.len) (Cc hx.vs ?_)))
    refine ADh λH12 f12=>?_
    have x:=x.al f12
    have g1:=f12.get g1 (by omega)
    have g4:=f12.get g4 (by omega)
    have g9:=f12.get g9 (by omega)
    have hx:EO G H12 (Al n0 n5 n2) c e1:=hx.mono (λid h=>h) λid h=>f12.same id (by have:=h.2.1;omega)
    have hel:El G H12 (.sl (n7+1) 0 1 1 11) 11 [c]:=hel.same λid hid=>by cases Em hid;exact f12.same _ (by omega)
    refine AB (OZ (m:=2) (o:=3) g9 (by omega) (by show 3+2<=5;omega)) (Cc (Yt ..) (AB (Ai (m:=11) g4 (by omega) hx.len) (Cc hx.vs ?_)))
    refine AB AVm ?_
    refine CG g4 hx.len rfl (by omega) λH13 g4 s13=>?_
    have x:=x.st (by omega) s13
    refine ih g _ (by omega) ⟨H13,n11+1,t2,_,.mk kd 0 [] nm false [e1],rfl,x,by omega,(s13 n0 (by omega)).trans g1,g4,?_,hm⟩
    exact .mk kd 0 [] nm false line col (hel.same λid hid=>by cases Em hid;exact s13 _ (by omega)) (Wy (by omega)) (λid hid=>by cases Em hid;exact⟨by omega,by omega,by omega⟩)
     (.cons (hx.mono (λid h=>⟨h.1,by have:=h.2.1;omega,h.2.2⟩) λid h=>s13 id h.2.2) .nil)
   cases hd:decide (t.t.text=QU)with
   |true=>rw[hd]at hm;rw[Ah];exact body 20 hm
   |false=>rw[hd]at hm;rw[Aq];exact body 19 hm
end
section
variable{G:AV}{pb:Nat}
theorem AMK{rec:PM Ex}(hr:AKc G pb rec):∀f,FnC G pb [] (unary rec f) (.fn Dj [.ptr pb 0] [])
 |0=>λs H n s' e k _ _ _ hm _=>by cases hm
 |f+1=>by
  have ihf:=AMK hr f
  intro s H n s' e k h hb hbs hm hk
  rw[uQ]
  show Runs F G Dj [.ptr pb 0] H n k
  refine Am (s:=Ho (MO lfp G)) Qd (by obtain⟨h,o⟩:=oO Ap G;rw[Qd]at h;cases h;exact o) ?_
  show MO lfp G (Runs F G) (.ptr pb 0) H n k
  delta MO
  have x:=Fr.refl h hb
  refine Az rfl λH1 f1 g1=>?_
  have x:=x.al f1
  obtain⟨v,tid,o,line,col,e0,ea,_,_,_,_,_,e5⟩:=x.p.tok
  refine AB (v:=.ptr pb 0) rfl (AB (v:=.ptr pb 0) rfl (AB e0 (AB ea (AB (v:=.ptr tid (o+3)) (AZ ..) (AB e5 ?_)))))
  refine Az rfl λH8 f8 g8=>?_
  have x:=x.al f8
  refine CG g8 rfl (L:=[.int .i64 (.ofNat line) 0,.int .i64 (.ofNat col) 0]) rfl (by omega) λH9 g9 s9=>?_
  have x:=x.st (by omega) s9
  have g1:=(s9 n (by omega)).trans (f8.get g1 (by omega))
  refine dW (G:=G) (ws:=[Dv,Iq]) rfl λH10 f10 hel=>?_
  have x:=x.al f10
  have g1:=f10.get g1 (by omega)
  have g9:=f10.get g9 (by omega)
  refine AB hel.len ?_
  have hm:(bif Kw [Dv] s then(UJ s).bind λs1=>(N7 s1).bind λs2=>(unary rec f s2).bind λp=>(lX p.2).bind λs'=>some (.mk 14 0 [] [] false [p.1],s')else
   bif Kw [Iq] s then(UJ s).bind λs1=>(N7 s1).bind λs2=>(unary rec f s2).bind λp=>(lX p.2).bind λs'=>some (.mk 15 0 [] [] false [p.1],s')else
   (XH rec f s).bind λp=>asL f p.1 p.2)=some (e,s'):=hm
  refine EP (N:=2) (J:=λj q=>∃H' n',q=(.ptr pb 0,.ptr n 0,.ptr (n+1) 0,.sl (n+2) 0 2 2 1,.int .i64 (.ofNat 2) 0,.int .i64 (.ofNat j) 0,.undef,H',n')/\Fr G pb H n H' n' s/\n+2<n'/\T.get H' n=some (one exZ)/\
   T.get H' (n+1)=some (one [.int .i64 (.ofNat line) 0,.int .i64 (.ofNat col) 0])/\El G H' (.sl (n+2) 0 2 2 1) 1 (wsC [Dv,Iq])/\(0<j->Kw [Dv] s=false)/\(1<j->Kw [Iq] s=false)) ?_ ?_
   ⟨H10,_,rfl,x,by omega,g1,g9,hel,λh=>by omega,λh=>by omega⟩
  ·rintro I j q hlt ⟨H2,n2,rfl,x,hn2,g1,g9,hel,hj0,hj1⟩ ih
   show Gq lfp G (Runs F G) k I (.ptr pb 0) (.ptr n 0) (.ptr (n+1) 0) (.sl (n+2) 0 2 2 1) (.int .i64 (.ofNat 2) 0) (.int .i64 (.ofNat j) 0) .undef H2 n2
   delta Gq
   have hj:j<[Dv,Iq].length:=hlt
   obtain⟨p,hp,hld⟩:=hel.at (AKC hj)
   refine AB (ES ..) ?_
   rw[decide_eq_true hlt,Ah]
   refine AB hp (AB (aI hld) ?_)
   refine vT (ws:=[[Dv,Iq][j]]) x.p x.lt rfl (by show 1<=1000;omega) λH3 n3 y=>?_
   have x:=x.tr y
   have hn3:=y.le
   have g1:=y.get g1 (by omega) hb
   have g9:=y.get g9 (by omega) (by omega)
   have hel:El G H3 (.sl (n+2) 0 2 2 1) 1 (wsC [Dv,Iq]):=hel.same λid hid=>by cases Em hid;exact y.f.same _ (by omega) (by omega)
   cases hi:Kw [[Dv,Iq][j]] s with
   |false=>
    rw[Aq]
    refine AB (Ef (show j+1<9223372036854775808 by omega)) ?_
    refine ih _ ⟨H3,n3,rfl,x,by omega,g1,g9,hel,λ_=>?_,λh=>?_⟩
    ·rcases Nat.eq_zero_or_pos j with h0|h0
     ·subst h0;exact hi
     ·exact hj0 h0
    ·have:j=1:=by omega
     subst this;exact hi
   |true=>
    have hm:((UJ s).bind λs1=>(N7 s1).bind λs2=>(unary rec f s2).bind λp=>(lX p.2).bind λs'=>some ((.mk (14+j) 0 [] [] false [p.1]:Ex),s'))=some (e,s'):=by
     rcases Nat.eq_zero_or_pos j with h0|h0
     ·subst h0
      have hi:Kw [Dv] s=true:=hi
      rw[hi]at hm;exact hm
     ·have:j=1:=by omega
      subst this
      have hi:Kw [Iq] s=true:=hi
      rw[hj0 h0,hi]at hm;exact hm
    obtain⟨s1,h1,hm⟩:=Option.bind_eq_some_iff.1 hm
    obtain⟨s2,h2,hm⟩:=Option.bind_eq_some_iff.1 hm
    obtain⟨⟨e1,s3⟩,h3,hm⟩:=Option.bind_eq_some_iff.1 hm
    obtain⟨s4,h4,hm⟩:=Option.bind_eq_some_iff.1 hm
    cases hm
    rw[Ah]
    refine AHf x.p x.lt h1 λH4 n4 q y hq1 hq2 hq3=>?_
    have x:=x.tr y
    have hn4:=y.le
    have g1:=y.get g1 (by omega) hb
    have g9:=y.get g9 (by omega) (by omega)
    rw[ADQ]
    refine eF x.p x.lt h2 λH5 n5 l5 c5 _ _ y=>?_
    have x:=x.tr y
    have hn5:=y.le
    have g1:=y.get g1 (by omega) hb
    have g9:=y.get g9 (by omega) (by omega)
    have hq3:=y.get hq3 hq2 (by omega)
    refine J9 (G:=G) (vs:=[.int .i64 (.ofNat 14) 0,.int .i64 (.ofNat 15) 0]) rfl (by omega) (λv hv=>by simp at hv;rcases hv with rfl|rfl<;>exact⟨rfl,rfl⟩) λH6 f6 _ hel6=>?_
    have x:=x.al f6
    have g1:=f6.get g1 (by omega)
    have g9:=f6.get g9 (by omega)
    have hq3:=f6.get hq3 (by omega)
    have hj6:([V.int .i64 (.ofNat 14) 0,.int .i64 (.ofNat 15) 0].map CZ)[j]? =some [.int .i64 (.ofNat (14+j)) 0]:=by
     rcases Nat.eq_zero_or_pos j with h0|h0
     ·subst h0;rfl
     ·have:j=1:=by omega
      subst this;rfl
    obtain⟨p6,hp6,hld6⟩:=hel6.at hj6
    have hp6':p6=.ptr n5 (j*1):=by
     have:BO 1 (.sl n5 0 2 2 1) (.int .i64 (.ofNat j) 0)=some (.ptr n5 ((0+j)*1)):=by
      show BP (band (Nat.beq 1 1) (Nat.blt j 2)) (Dz ((0+j)*1) λo=>some (.ptr n5 o))=_
      rw[show Nat.blt j 2=true by rw[Nat.blt_eq];exact hlt,CB];rfl
     rw[this,Nat.zero_add]at hp6
     exact(Option.some.inj hp6).symm
    refine AB hp6 (AB (aI hld6) (AB (Ai (m:=2) g9 (by omega) rfl) ?_))
    have keep:∀H',T.get H' n5=T.get H6 n5->AX p6 G H'=some (.int .i64 (.ofNat (14+j)) 0):=by
     intro H' hs
     rw[hp6']at hld6⊢
     rw[ACG]
     show QT (mW H' n5 (j*1) 1) _=_
     have:mW H' n5 (j*1) 1=mW H6 n5 (j*1) 1:=by unfold mW;rw[hs]
     rw[this,show mW H6 n5 (j*1) 1=_ from hld6];rfl
    have hrun:∀{H:Heap} {n:Nat} {k:KV},FW (.fn Dj [.ptr pb 0] []) [] (Runs F G) H n k->Runs F G Dj [.ptr pb 0] H n k:=λh=>h
    refine hrun (ihf _ _ _ _ _ _ x.p x.lt Bxs.nil h3 λH7 n7 c y hx=>?_)
    have x:=x.tr y
    have hn7:=y.le
    have g1:=y.get g1 (by omega) hb
    have g9:=y.get g9 (by omega) (by omega)
    have hq3:=y.get hq3 (by omega) (by omega)
    refine AB (keep _ (y.f.same _ (by omega) (by omega))) (Cc (kS ..) (AB (Ai (m:=2) g9 (by omega) rfl) (Cc (Yt ..) ?_)))
    refine J9 (G:=G) (vs:=[.agg c]) rfl (by omega) (λv hv=>by simp at hv;subst hv;exact hx.ok) λH8 f8 _ hel8=>?_
    have x:=x.al f8
    have g1:=f8.get g1 (by omega)
    have g9:=f8.get g9 (by omega)
    have hq3:=f8.get hq3 (by omega)
    refine CG (L:=exZ) g1 rfl rfl (by omega) λH9 g1 s9=>?_
    have x:=x.st (Nat.le_refl _) s9
    have g9:=(s9 (n+1) (by omega)).trans g9
    have hq3:=(s9 q (by omega)).trans hq3
    have k9:=keep H9 ((s9 n5 (by omega)).trans ((f8.same _ (by omega)).trans (y.f.same _ (by omega) (by omega))))
    refine AB k9 (Cc (kS ..) (AB (Ai (m:=2) g9 (by omega) rfl) (Cc (Yt ..) (AB (v:=.ptr n 0) (AZ ..) ?_))))
    refine Ej g1 rfl rfl (by omega) (by show 0+1<=11;omega) λH10 g1 s10=>?_
    have x:=x.st (Nat.le_refl _) s10
    have g9:=(s10 (n+1) (by omega)).trans g9
    have hq3:=(s10 q (by omega)).trans hq3
    refine AB (Ai (m:=2) g9 (by omega) rfl) (Cc (Yt ..) (AB (v:=.ptr n 1) (by rw[AZ,Nat.zero_add]) ?_))
    refine Ej g1 rfl rfl (by omega) (by show 1+2<=11;omega) λH11 g1 s11=>?_
    have x:=x.st (Nat.le_refl _) s11
    have hq3:=(s11 q (by omega)).trans hq3
    refine AB (v:=.ptr n 7) (by rw[AZ,Nat.zero_add]) ?_
    refine Ej g1 rfl rfl (by omega) (by show 7+1<=11;omega) λH12 g1 s12=>?_
    have x:=x.st (Nat.le_refl _) s12
    have hq3:=(s12 q (by omega)).trans hq3
    have g1:T.get H12 n=some (one (Ti (14+j) 0 [] [] false line col (.sl n7 0 1 1 11))):=g1
    have same:∀id,id≠n->T.get H12 id=T.get H8 id:=λid h=>(s12 id h).trans ((s11 id h).trans ((s10 id h).trans (s9 id h)))
    refine AR7 x.p x.lt hq3 h4 λH13 n13 y=>?_
    have x:=x.tr y
    have hn13:=y.le
    have g1:=y.get g1 (by omega) hb
    rw[DX (m:=11) g1 (by omega) rfl]
    simp only[go_sem]
    refine hk _ _ _ x (.mk (14+j) 0 [] [] false line col (hel8.same λid hid=>by cases Em hid;exact(y.f.same _ (by omega) (by omega)).trans (same _ (by omega))) (Wy (by omega)) (λid hid=>by cases Em hid;exact⟨by omega,by omega⟩) (.cons ?_ .nil))
    exact hx.mono (λid h=>⟨by have:=h.1;omega,by have:=h.2;omega⟩) λid h=>(y.f.same id (by have:=h.2;omega) (by have:=h.1;omega)).trans ((same id (by have:=h.1;omega)).trans (f8.same id h.2))
  ·rintro I q ⟨H2,n2,rfl,x,hn2,g1,g9,hel,hj0,hj1⟩
   show Gq lfp G (Runs F G) k I (.ptr pb 0) (.ptr n 0) (.ptr (n+1) 0) (.sl (n+2) 0 2 2 1) (.int .i64 (.ofNat 2) 0) (.int .i64 (.ofNat 2) 0) .undef H2 n2
   delta Gq
   refine AB (ES ..) ?_
   rw[show decide (2<2)=false from rfl,Aq]
   rw[hj0 (by omega),hj1 (by omega)]at hm
   exact ARA hr x g1 (by omega) hm hk
theorem vk:∀f,AKc G pb (expr f)
 |0=>λs H n s' e k _ _ hm _=>by cases hm
 |f+1=>λs H n s' e k h hb hm hk=>ASm (rec:=expr f) (f:=f) (AMK (vk f) f) h hb hm hk
end
def gI(does:Nat)(line col:Nat)(nm:Bs)(ty:Ty)(ve vt vl:V):LV:=
 [.int .i64 (.ofNat does) 0,.int .i64 (.ofNat line) 0,.int .i64 (.ofNat col) 0,sB nm,sB ty.nm,.bool ty.arr,ve,vt,vl]
theorem fO.mono{G:AV}{H H':Heap}{A B:Nat->Prop}{v:V}{es:List Ex}(h:fO G H A v es)(hA:∀id,A id->B id)(hs:∀id,A id->T.get H' id=T.get H id):fO G H' B v es:=by
 obtain⟨cs,h1,h2,h3,h4,h5,h6⟩:=h
 exact⟨cs,h1.same λid hid=>hs id (h5 id hid),h2,h3,h4,λid hid=>hA id (h5 id hid),h6.mono hA hs⟩
mutual
inductive MX(G:AV)(H:Heap)(A:Nat->Prop):LV->St->Prop where
 |mk (does:Nat) (nm:Bs) (ty:Ty) (line col:Nat) {ve vt vl:V} {es:List Ex} {th el:List St} {ct cl:D5} (he:fO G H A ve es) (ht:El G H vt 9 ct) (kt:KS vt) (at':∀id,vt.Qa=some id->A id) (st:TA G H A ct th)
  (hl:El G H vl 9 cl) (kl:KS vl) (al:∀id,vl.Qa=some id->A id) (sl:TA G H A cl el):MX G H A (gI does line col nm ty ve vt vl) (.mk does nm ty es th el)
inductive TA(G:AV)(H:Heap)(A:Nat->Prop):D5->List St->Prop where
 |nil:TA G H A [] []
 |cons {c:LV} {e:St} {cs:D5} {es:List St} (h:MX G H A c e) (t:TA G H A cs es):TA G H A (c::cs) (e::es)
end
mutual
theorem MX.mono{G:AV}{H H':Heap}{A B:Nat->Prop}(hA:∀id,A id->B id)(hs:∀id,A id->T.get H' id=T.get H id):∀{c:LV} {e:St},MX G H A c e->MX G H' B c e
 |_,_,.mk does nm ty line col he ht kt a1 st hl kl a2 sl=>.mk does nm ty line col (he.mono hA hs) (ht.same λid hid=>hs id (a1 id hid)) kt (λid hid=>hA id (a1 id hid)) (TA.mono hA hs st)
  (hl.same λid hid=>hs id (a2 id hid)) kl (λid hid=>hA id (a2 id hid)) (TA.mono hA hs sl)
theorem TA.mono{G:AV}{H H':Heap}{A B:Nat->Prop}(hA:∀id,A id->B id)(hs:∀id,A id->T.get H' id=T.get H id):∀{cs:D5} {es:List St},TA G H A cs es->TA G H' B cs es
 |_,_,.nil=>.nil
 |_,_,.cons h t=>.cons (MX.mono hA hs h) (TA.mono hA hs t)
end
theorem TA.app{G:AV}{H:Heap}{A:Nat->Prop}:∀{cs:D5} {es:List St} {cs':D5} {es':List St},TA G H A cs es->TA G H A cs' es'->TA G H A (cs++cs') (es++es')
 |_,_,_,_,.nil,h=>h
 |_,_,_,_,.cons h t,h'=>.cons h (t.app h')
theorem TA.len{G:AV}{H:Heap}{A:Nat->Prop}:∀{cs:D5} {es:List St},TA G H A cs es->cs.length=es.length
 |_,_,.nil=>rfl
 |_,_,.cons h t=>by simp[t.len]
theorem MX.len{G:AV}{H:Heap}{A:Nat->Prop}{c:LV}{e:St}(h:MX G H A c e):c.length=9:=by cases h;rfl
theorem MX.ok{G:AV}{H:Heap}{A:Nat->Prop}{c:LV}{e:St}(h:MX G H A c e):kD (.agg c)=true/\(CZ (.agg c)).length=9:=⟨rfl,h.len⟩
def PX(G:AV)(H:Heap)(A:Nat->Prop)(v:V)(sts:List St):Prop:=∃cs,El G H v 9 cs/\KS v/\kD v=true/\CZ v=[v]/\(∀id,v.Qa=some id->A id)/\TA G H A cs sts
theorem PX.mono{G:AV}{H H':Heap}{A B:Nat->Prop}{v:V}{es:List St}(h:PX G H A v es)(hA:∀id,A id->B id)(hs:∀id,A id->T.get H' id=T.get H id):PX G H' B v es:=by
 obtain⟨cs,h1,h2,h3,h4,h5,h6⟩:=h
 exact⟨cs,h1.same λid hid=>hs id (h5 id hid),h2,h3,h4,λid hid=>hA id (h5 id hid),h6.mono hA hs⟩
theorem PX.nil{G:AV}{H:Heap}{A:Nat->Prop}:PX G H A .Ae []:=⟨[],yO,dB,rfl,rfl,(λ_ h=>by cases h),.nil⟩
theorem MX.of{G:AV}{H:Heap}{A:Nat->Prop}{does line col:Nat}{nm:Bs}{ty:Ty}{ve vt vl:V}{es:List Ex}{th el:List St}(he:fO G H A ve es)(ht:PX G H A vt th)(hl:PX G H A vl el):MX G H A (gI does line col nm ty ve vt vl) (.mk does nm ty es th el):=by
 obtain⟨ct,h1,h0,_,_,h2,h3⟩:=ht
 obtain⟨cl,k1,k0,_,_,k2,k3⟩:=hl
 exact .mk does nm ty line col he h1 h0 h2 h3 k1 k0 k2 k3
def StK(G:AV)(pb:Nat)(H:Heap)(n:Nat)(s':S)(e:St)(k:KV):Prop:=∀H' n' c,Fr G pb H n H' n' s'->MX G H' (Rg n n') c e->k (.agg c) H' n'
def SsK(G:AV)(pb:Nat)(H:Heap)(n:Nat)(s':S)(es:List St)(k:KV):Prop:=∀H' n' v,Fr G pb H n H' n' s'->PX G H' (Rg n n') v es->k v H' n'
def StC(G:AV)(pb:Nat)(fn:Nat)(m:PM St):Prop:=∀(s:S) (H:Heap) (n:Nat) (s':S) (e:St) (k:KV),aP G H pb s->pb<n->m s=some (e,s')->StK G pb H n s' e k->Runs F G fn [.ptr pb 0] H n k
section
variable{G:AV}{pb:Nat}{H:Heap}{n:Nat}{s s':S}{k:KV}
theorem AC1{st:PM St}{f:Nat}{es:List St}(hst:StC G pb GR st)(h:aP G H pb s)(hb:pb<n)(hm:Gv st f s=some (es,s'))(hk:SsK G pb H n s' es k):Runs F G Ji [.ptr pb 0] H n k:=by
 refine Am (s:=Ho (Nc lfp G)) Qb (by obtain⟨h,o⟩:=oU Ap G;rw[Qb]at h;cases h;exact o) ?_
 show Nc lfp G (Runs F G) (.ptr pb 0) H n k
 delta Nc
 obtain⟨s1,h1,hm⟩:=Option.bind_eq_some_iff.1 hm
 obtain⟨s2,h2,hm⟩:=Option.bind_eq_some_iff.1 hm
 obtain⟨⟨es1,s3⟩,h3,hm⟩:=Option.bind_eq_some_iff.1 hm
 obtain⟨s4,h4,hm⟩:=Option.bind_eq_some_iff.1 hm
 cases hm
 refine AHf h hb h1 λH1 n1 q x hq1 hq2 hq3=>?_
 rw[ADQ]
 refine LM (ws:=[OC]) x.p x.lt rfl (by show 1<=1000;omega) h2 λH2 n2 y=>?_
 have x:=x.tr y
 have hq3:=y.get hq3 hq2 (by omega)
 have hn2:=y.le
 refine O3 (J:=λg r=>∃H' n' t v cs out,r=(.ptr pb 0,v,.J4 [.fn CS [] [.ptr q 0]],H',n')/\Fr G pb H n H' n' t/\n2<=n'/\T.get H' q=some (one [.ptr pb 0])/\Own G H' n2 n' 9 v cs/\TA G H' (λid=>n2<=id/\id<n'/\v.Qa≠some id) cs out/\Ri st g out t=some (es1,s3)) ?_ (m:=f)
  ⟨H2,n2,s2,.Ae,[],[],rfl,x,Nat.le_refl _,hq3,Xp,.nil,h3⟩
 rintro I g r ⟨H3,n3,t,v,cs,out,rfl,x,hn3,hq3,ho,hc,hm⟩ ih
 show Oy lfp G (Runs F G) k I (.ptr pb 0) v (.J4 [.fn CS [] [.ptr q 0]]) H3 n3
 delta Oy
 cases g with
 |zero=>cases hm
 |succ g=>
  have hm:(bif t.ok then(C9 m_rc t).bind λp=>bif p.1 then some (out,p.2)else(st p.2).bind λq=>bif decide (out.length<1000000)then Ri st g (out++[q.1]) q.2 else none
   else some (out,t))=some (es1,s3):=hm
  have fin:∀{H4:Heap} {n4:Nat} {t4:S},Fr G pb H3 n3 H4 n4 t4->some (out,t4)=some (es1,s3)->J6 lfp G (Runs F G) k v (.J4 [.fn CS [] [.ptr q 0]]) H4 n4:=by
   intro H4 n4 t4 y he
   cases he
   delta J6
   have ho4:=ho.kx y.f (by omega)
   have x:=x.tr y
   have hq3:=y.get hq3 (by omega) (by omega)
   refine AR7 x.p x.lt hq3 h4 λH5 n5 y5=>?_
   have ho5:=ho4.kx y5.f (by omega)
   have hn4:=y.le
   have hn5:=y5.le
   refine hk _ _ _ (x.tr y5) ⟨cs,ho5.el (by omega),(QL ho5.gr).1,(QL ho5.gr).2.1,(QL ho5.gr).2.2,λid hid=>⟨by have:=ho5.ge hid;omega,ho5.lo id hid⟩,?_⟩
   exact hc.mono (λid h=>⟨by have:=h.1;omega,by have:=h.2.1;omega⟩) λid h=>(y5.f.same id (by have:=h.2.1;omega) (by have:=h.1;omega)).trans (y.f.same id h.2.1 (by have:=h.1;omega))
  rw[AYh]
  refine AAE x.p x.lt (λhf=>fin (Fr.refl x.p x.lt) (by rw[hf]at hm;exact hm)) λht=>?_
  rw[ht,cond_true]at hm
  obtain⟨⟨b,t2⟩,h2,hm⟩:=Option.bind_eq_some_iff.1 hm
  refine⟨b,t2,h2,λH4 n4 y=>?_⟩
  cases b with
  |true=>exact fin y hm
  |false=>
   obtain⟨⟨e,t4⟩,h4,hm⟩:=Option.bind_eq_some_iff.1 (show((st t2).bind λq=>bif decide (out.length<1000000)then Ri st g (out++[q.1]) q.2 else none)=some (es1,s3)from hm)
   cases hlen:decide (out.length<1000000)with
   |false=>rw[hlen]at hm;cases hm
   |true=>
   rw[hlen,cond_true]at hm
   have hlen:=of_decide_eq_true hlen
   have ho4:=ho.kx y.f (by omega)
   have hn4:=y.le
   have hc4:TA G H4 (λid=>n2<=id/\id<n3/\v.Qa≠some id) cs out:=hc.mono (λid h=>h) λid h=>y.f.same id h.2.1 (by have:=h.1;omega)
   have x:=x.tr y
   have hq3:=y.get hq3 (by omega) (by omega)
   show Runs F G GR [.ptr pb 0] H4 n4 _
   refine hst _ _ _ _ _ _ x.p x.lt h4 λH5 n5 c y hx=>?_
   have hn5:=y.le
   have x:=x.tr y
   have hq3:=y.get hq3 (by omega) (by omega)
   have ho5:=ho4.kx y.f (by omega)
   have hc5:TA G H5 (λid=>n2<=id/\id<n3/\v.Qa≠some id) cs out:=hc4.mono (λid h=>h) λid h=>y.f.same id (by have:=h.2.1;omega) (by have:=h.1;omega)
   refine J9 (G:=G) (vs:=[.agg c]) rfl (by omega) (λv hv=>by simp at hv;subst hv;exact hx.ok) λH6 f6 _ hel=>?_
   have x:=x.al f6
   have ho6:=ho5.kp f6
   have hq3:=f6.get hq3 (by omega)
   refine ADS ho6.gr (by omega) ho6.lo hel.2 (by have:=hc.len;show(cs.length+1)*136<=_;omega) ?_ (λh=>by cases h)
   intro v' H7 hgr hsame hlo
   have hgr:Gr G H7 n2 9 v' (cs++[c]):=hgr
   have f7:Fr G pb H n H7 (n5+1+1) t4:=⟨⟨by omega,λid hid hp=>(hsame id (by omega) (λh=>by have:=ho6.ge h;omega)).trans (x.f.same id hid hp)⟩,x.p.same λid hid=>hsame id (by omega) (λh=>by have:=ho6.ge h;omega),hb⟩
   have hv4:∀id,v.Qa=some id->id<n3:=ho.lo
   refine ih g (_,_,_,H7,n5+1+1) (by omega) ⟨H7,n5+1+1,t4,v',cs++[c],out++[e],rfl,f7,by omega,(hsame q (by omega) (λh=>by have:=ho6.ge h;omega)).trans hq3,⟨hgr,λid hid=>by have:=hlo id hid;omega⟩,?_,hm⟩
   refine(hc5.mono (λid h=>⟨h.1,by have:=h.2.1;omega,λhv=>by have:=hlo id hv;have:=h.2.1;omega⟩) λid h=>?_).app (.cons (hx.mono (λid h=>⟨by have:=h.1;omega,by have:=h.2;omega,λhv=>by have:=hlo id hv;have:=h.2;omega⟩) λid h=>?_) .nil)
   ·have h1:=h.1;have h2:=h.2.1
    exact(hsame id (by omega) h.2.2).trans (f6.same id (by omega))
   ·have h1:=h.1;have h2:=h.2
    exact(hsame id (by omega) (λhv=>by have:=hv4 id hv;omega)).trans (f6.same id (by omega))
end
abbrev stZ:LV:=[.int .i64 (.ofNat 0) 0,.int .i64 (.ofNat 0) 0,.int .i64 (.ofNat 0) 0,.str 0 0,.str 0 0,.bool false,.Ae,.Ae,.Ae]
theorem AVi{x y:V}:Bh stZ [(1,2,.c (.agg [x,y]))]=some (.agg [.int .i64 (.ofNat 0) 0,x,y,.str 0 0,.str 0 0,.bool false,.Ae,.Ae,.Ae]):=rfl
theorem AW4{kd:Nat}{x y:V}:Bh stZ [(0,1,.c (.int .i64 (.ofNat kd) 0)),(1,2,.c (.agg [x,y]))]=some (.agg [.int .i64 (.ofNat kd) 0,x,y,.str 0 0,.str 0 0,.bool false,.Ae,.Ae,.Ae]):=rfl
section
variable{G:AV}{pb:Nat}{H:Heap}{n:Nat}{s s':S}{k:KV}
theorem AJW{A:Nat->Prop}{c:LV}{e:Ex}{m:Nat}(hel:El G H (.sl m 0 1 1 11) 11 [c])(hx:EO G H A c e)(hm:A m):fO G H A (.sl m 0 1 1 11) [e]:=
 ⟨[c],hel,Wy (Nat.le_refl _),rfl,rfl,λid hid=>by cases Em hid;exact hm,.cons hx .nil⟩
theorem ATw{f b line col:Nat}{e:St}(h:aP G H pb s)(hb:pb<b)(hbn:b<n)(gb:T.get H b=some (one (gI 0 line col [] JY .Ae .Ae .Ae)))(hm:o7 f s=some (e,s'))
 (hk:∀H' n' c,Fr G pb H b H' n' s'->n<=n'->T.get H' b=some (one c)->MX G H' (λid=>b<id/\id<n') c e->k (.J4 []) H' n'):
 Runs F G X5 [.ptr pb 0,.ptr b 0] H n k:=by
 refine Am (s:=QD (NK lfp G)) QX (by obtain⟨h,o⟩:=oC Ap G;rw[QX]at h;cases h;exact o) ?_
 show NK lfp G (Runs F G) (.ptr pb 0) (.ptr b 0) H n k
 delta NK
 have x:Fr G pb H b H n s:=⟨⟨by omega,λ_ _ _=>rfl⟩,h,hb⟩
 obtain⟨⟨e1,s1⟩,h1,hm⟩:=Option.bind_eq_some_iff.1 hm
 refine vk f _ _ _ _ _ _ x.p x.lt h1 λH1 n1 c y hx=>?_
 have x:=x.tr y
 have hn1:=y.le
 have gb:=y.get gb hbn hb
 refine Az rfl λH2 f2 g2=>?_
 have x:=x.al f2
 have gb:=f2.get gb (by omega)
 refine CG g2 rfl hx.len (by omega) λH3 g2 s3=>?_
 have x:=x.st (by omega) s3
 have gb:=(s3 b (by omega)).trans gb
 have hx:EO G H3 (Rg n n1) c e1:=hx.mono (λid h=>h) λid h=>(s3 id (by have:=h.2;omega)).trans (f2.same id h.2)
 refine AB (Ai (m:=11) g2 (by omega) hx.len) ?_
 refine J9 (G:=G) (vs:=[.agg c]) rfl (by omega) (λv hv=>by simp at hv;subst hv;exact hx.ok) λH4 f4 hb4 hel=>?_
 have x:=x.al f4
 have gb:=f4.get gb (by omega)
 have g2:=f4.get g2 (by omega)
 have hx:EO G H4 (Rg n n1) c e1:=hx.mono (λid h=>h) λid h=>f4.same id (by have:=h.2;omega)
 refine AB (v:=.ptr b 0) rfl (AB (v:=.ptr b 0) (AZ ..) ?_)
 refine Ej gb rfl rfl (by omega) (by show 0+1<=9;omega) λH5 gb s5=>?_
 have x:=x.st (Nat.le_refl _) s5
 have g2:=(s5 n1 (by omega)).trans g2
 refine AB (Ai (m:=11) g2 (by omega) hx.len) (Cc hx.vs (AB (v:=.ptr b 0) rfl (AB (v:=.ptr b 6) (by rw[AZ,Nat.zero_add]) ?_)))
 refine Ej gb rfl rfl (by omega) (by show 6+1<=9;omega) λH6 gb s6=>?_
 have x:=x.st (Nat.le_refl _) s6
 have g2:=(s6 n1 (by omega)).trans g2
 have gb:T.get H6 b=some (one (gI 3 line col [] JY (.sl (n1+1) 0 1 1 11) .Ae .Ae)):=gb
 have hel:El G H6 (.sl (n1+1) 0 1 1 11) 11 [c]:=hel.same λid hid=>by cases Em hid;exact(s6 _ (by omega)).trans (s5 _ (by omega))
 have hx:EO G H6 (Rg n n1) c e1:=hx.mono (λid h=>h) λid h=>(s6 id (by have:=h.1;omega)).trans (s5 id (by have:=h.1;omega))
 have hb6:∃t,T.get H6 (n1+1)=some (.arr 11 1 t):=by
  obtain⟨t,ht⟩:=hb4
  exact⟨t,(s6 _ (by omega)).trans ((s5 _ (by omega)).trans ht)⟩
 have hm:(bif Kw [EG] s1 then
  (CJ [EG] (bif decide (e1.kind=6)||(decide (e1.kind=7)||decide (e1.kind=12))then s1 else Gy 21 s1)).bind λs1=>(expr f s1).bind λq=>some (.mk 2 [] JY [e1,q.1] [] [],q.2)
  else some (.mk 3 [] JY [e1] [] [],bif decide (e1.kind=8)||decide (e1.kind=9)then s1 else Gy 21 s1))=some (e,s'):=hm
 refine vT (ws:=[EG]) x.p x.lt rfl (by show 1<=1000;omega) λH7 n7 y=>?_
 have x:=x.tr y
 have hn7:=y.le
 have gb:=y.get gb (by omega) hb
 have g2:=y.get g2 (by omega) (by omega)
 have hel:El G H7 (.sl (n1+1) 0 1 1 11) 11 [c]:=hel.same λid hid=>by cases Em hid;exact y.f.same _ (by omega) (by omega)
 have hx:EO G H7 (Rg n n1) c e1:=hx.mono (λid h=>h) λid h=>y.f.same id (by have:=h.2;omega) (by have:=h.1;omega)
 obtain⟨t7,ht7⟩:=hb6
 have ht7:=(y.f.same (n1+1) (by omega) (by omega)).trans ht7
 have q0:AX (.ptr n1 0) G H7=some (.int .i64 (.ofNat e1.kind) 0):=AQ g2 hx.kd
 refine AB (MF _) ?_
 cases hi:Kw [EG] s1 with
 |false=>
  rw[hi]at hm
  cases hm
  rw[Bool.not_false,Ah]
  have fin:∀{H8:Heap} {n8:Nat} {t:S},Fr G pb H7 n7 H8 n8 t->t=(bif decide (e1.kind=8)||decide (e1.kind=9)then s1 else Gy 21 s1)->Gt lfp G (Runs F G) k H8 n8:=by
   intro H8 n8 t y ht
   subst ht
   delta Gt
   have hn8:=y.le
   refine hk _ _ _ (x.tr y) (by omega) (y.get gb (by omega) hb) ?_
   have hel8:El G H8 (.sl (n1+1) 0 1 1 11) 11 [c]:=hel.same λid hid=>by cases Em hid;exact y.f.same _ (by omega) (by omega)
   exact .of (AJW hel8 (hx.mono (λid h=>⟨by have:=h.1;omega,by have:=h.2;omega⟩) λid h=>y.f.same id (by have:=h.2;omega) (by have:=h.1;omega)) ⟨by omega,by omega⟩) .nil .nil
  refine AB (v:=.ptr n1 0) (AZ ..) (AB q0 (AB (YX ..) ?_))
  cases k8:decide (e1.kind=8)with
  |true=>
   rw[k8]at fin
   simp only[Bool.not_true,go_sem]
   exact fin (Fr.refl x.p x.lt) rfl
  |false=>
   rw[k8]at fin
   simp only[Bool.not_false,go_sem,Nat.add_zero,q0,YX]
   cases k9:decide (e1.kind=9)with
   |true=>
    rw[k9]at fin
    simp only[Bool.not_true,go_sem]
    exact fin (Fr.refl x.p x.lt) rfl
   |false=>
    rw[k9]at fin
    simp only[Bool.not_false,go_sem]
    exact kQ x.p x.lt λH8 n8 y=>fin y rfl
 |true=>
  rw[hi,cond_true]at hm
  obtain⟨s2,h2,hm⟩:=Option.bind_eq_some_iff.1 hm
  obtain⟨⟨e2,s3⟩,h3,hm⟩:=Option.bind_eq_some_iff.1 hm
  cases hm
  rw[Bool.not_true,Aq]
  have fin:∀{H8:Heap} {n8:Nat} {t:S},Fr G pb H7 n7 H8 n8 t->CJ [EG] t=some s2->Gn lfp G (Runs F G) k (.ptr pb 0) (.ptr b 0) H8 n8:=by
   intro H8 n8 t y ht
   delta Gn
   have hn8:=y.le
   have x:=x.tr y
   refine LM (ws:=[EG]) x.p x.lt rfl (by show 1<=1000;omega) ht λH9 n9 y9=>?_
   have x:=x.tr y9
   have hn9:=y9.le
   have y:=y.tr y9
   have gb:=y.get gb (by omega) hb
   have q6:AX (.ptr b 6) G H9=some (.sl (n1+1) 0 1 1 11):=AQ gb rfl
   refine AB (v:=.ptr b 0) rfl (AB (v:=.ptr b 6) (by rw[AZ,Nat.zero_add]) (AB q6 ?_))
   refine vk f _ _ _ _ _ _ x.p x.lt h3 λH10 n10 c2 y10 hx2=>?_
   have x:=x.tr y10
   have hn10:=y10.le
   have y:=y.tr y10
   have gb:=y10.get gb (by omega) hb
   have q6:AX (.ptr b 6) G H10=some (.sl (n1+1) 0 1 1 11):=AQ gb rfl
   refine AB q6 (Cc (AFS ..) ?_)
   refine J9 (G:=G) (vs:=[.agg c2]) rfl (by omega) (λv hv=>by simp at hv;subst hv;exact hx2.ok) λH11 f11 _ hel2=>?_
   have x:=x.al f11
   have gb:=f11.get gb (by omega)
   have AD0:El G H11 (.sl (n1+1) 0 1 1 11) 11 [c]:=hel.same λid hid=>by cases Em hid;exact(f11.same _ (by omega)).trans (y.f.same _ (by omega) (by omega))
   have ht11:=(f11.same (n1+1) (by omega)).trans ((y.f.same (n1+1) (by omega) (by omega)).trans ht7)
   refine AIV (by omega) ht11 (by omega) AD0.2 hel2.2 (by show(1+1)*136<=_;omega) ?_
   intro v' H12 n12 hel12 hs12 hn12 hv'
   have gb:=(hs12 b (by omega)).trans gb
   have hcs:O4 G H12 (λid=>b<id/\id<n12) ([c]++[c2]) [e1,e2]:=by
    refine .cons (hx.mono (λid h=>⟨by have:=h.1;omega,by have:=h.2;omega⟩) λid h=>?_) (.cons (hx2.mono (λid h=>⟨by have:=h.1;omega,by have:=h.2;omega⟩) λid h=>?_) .nil)
    ·have h1:=h.1;have h2:=h.2
     exact(hs12 id (by omega)).trans ((f11.same id (by omega)).trans (y.f.same id (by omega) (by omega)))
    ·have h1:=h.1;have h2:=h.2
     exact(hs12 id (by omega)).trans (f11.same id (by omega))
   have x12:Fr G pb H b H12 n12 s3:=⟨⟨by omega,λid hid hp=>(hs12 id (by omega)).trans (x.f.same id hid hp)⟩,x.p.same λid hid=>hs12 id (by omega),hb⟩
   have es:fO G H12 (λid=>b<id/\id<n12) v' [e1,e2]/\kD v'=true/\CZ v'=[v']:=by
    rcases hv' with⟨l,rfl,hl1⟩|⟨l,rfl,hl⟩
    ·exact⟨⟨_,hel12,Wy hl1,rfl,rfl,λid hid=>by cases Em hid;exact⟨by omega,by omega⟩,hcs⟩,rfl,rfl⟩
    ·exact⟨⟨_,hel12,AKU ..,rfl,rfl,λid hid=>by cases jq hid;exact⟨by omega,by omega⟩,hcs⟩,rfl,rfl⟩
   obtain⟨es,ok1,vc1⟩:=es
   refine AB (v:=.ptr b 0) rfl (AB (v:=.ptr b 0) (AZ ..) ?_)
   refine Ej gb rfl rfl (by omega) (by show 0+1<=9;omega) λH13 gb s13=>?_
   have x:=x12.st (Nat.le_refl _) s13
   refine AB (v:=.ptr b 0) rfl (AB (v:=.ptr b 6) (by rw[AZ,Nat.zero_add]) ?_)
   refine Ej gb ok1 (by rw[vc1];rfl) (by omega) (by show 6+1<=9;omega) λH14 gb s14=>?_
   have x:=x.st (Nat.le_refl _) s14
   rw[vc1]at gb
   refine hk _ _ (gI 2 line col [] JY v' .Ae .Ae) x (by omega) gb ?_
   exact .of (es.mono (λid h=>h) λid h=>(s14 id (by have:=h.1;omega)).trans (s13 id (by have:=h.1;omega))) .nil .nil
  refine AB (v:=.ptr n1 0) (AZ ..) (AB q0 (AB (YX ..) ?_))
  cases k6:decide (e1.kind=6)with
  |true=>
   rw[k6]at h2
   simp only[Bool.not_true]
   repeat (first|with_reducible refine AE1 ?_|with_reducible refine AJe ?_|with_reducible refine AFA ?_)
   simp only[go_sem]
   exact fin (Fr.refl x.p x.lt) h2
  |false=>
   rw[k6]at h2
   simp only[Bool.not_false,go_sem,Nat.add_zero,q0,YX]
   cases k7:decide (e1.kind=7)with
   |true=>
    rw[k7]at h2
    simp only[Bool.not_true]
    repeat (first|with_reducible refine AE1 ?_|with_reducible refine AJe ?_|with_reducible refine AFA ?_)
    simp only[go_sem]
    exact fin (Fr.refl x.p x.lt) h2
   |false=>
    rw[k7]at h2
    simp only[Bool.not_false,go_sem,Nat.add_zero,q0,YX]
    cases k12:decide (e1.kind=12)with
    |true=>
     rw[k12]at h2
     simp only[Bool.not_true,go_sem]
     exact fin (Fr.refl x.p x.lt) h2
    |false=>
     rw[k12]at h2
     simp only[Bool.not_false,go_sem]
     exact kQ x.p x.lt λH8 n8 y=>fin y h2
end
section
variable{G:AV}{pb:Nat}
theorem AZM{G:AV}{H:Heap}{A:Nat->Prop}{c:LV}{e:St}{m:Nat}(hel:El G H (.sl m 0 1 1 9) 9 [c])(hx:MX G H A c e)(hm:A m):PX G H A (.sl m 0 1 1 9) [e]:=
 ⟨[c],hel,Wy (Nat.le_refl _),rfl,rfl,λid hid=>by cases Em hid;exact hm,.cons hx .nil⟩
theorem ARI{st ch:PM St}{f:Nat}(hst:StC G pb GR st)(hch:StC G pb Gh ch):StC G pb Gh (zQ st ch f):=by
 intro s H n s' e k h hb hm hk
 refine Am (s:=Ho (La lfp G)) PO (by obtain⟨h,o⟩:=jF Ap G;rw[PO]at h;cases h;exact o) ?_
 show La lfp G (Runs F G) (.ptr pb 0) H n k
 delta La
 obtain⟨s1,h1,hm⟩:=Option.bind_eq_some_iff.1 hm
 obtain⟨s2,h2,hm⟩:=Option.bind_eq_some_iff.1 hm
 obtain⟨⟨e1,s3⟩,h3,hm⟩:=Option.bind_eq_some_iff.1 hm
 obtain⟨⟨th,s4⟩,h4,hm⟩:=Option.bind_eq_some_iff.1 hm
 obtain⟨⟨b,s5⟩,h5,hm⟩:=Option.bind_eq_some_iff.1 hm
 obtain⟨⟨el,s6⟩,h6,hm⟩:=Option.bind_eq_some_iff.1 hm
 obtain⟨s7,h7,hm⟩:=Option.bind_eq_some_iff.1 hm
 cases hm
 have x:=Fr.refl h hb
 refine Az rfl λH1 f1 g1=>?_
 have x:=x.al f1
 refine AHf x.p x.lt h1 λH2 n2 q y hq1 hq2 hq3=>?_
 have x:=x.tr y
 have hn2:=y.le
 have g1:=y.get g1 (by omega) hb
 rw[ADQ]
 obtain⟨v,tid,o,line,col,e0,ea,_,_,_,_,_,e5⟩:=x.p.tok
 refine AB (v:=.ptr pb 0) rfl (AB (v:=.ptr pb 0) rfl (AB e0 (AB ea (AB (v:=.ptr tid (o+3)) (AZ ..) (AB e5 (AB AW4 ?_))))))
 refine Az rfl λH3 f3 g3=>?_
 have x:=x.al f3
 have g1:=f3.get g1 (by omega)
 have hq3:=f3.get hq3 (by omega)
 refine CG (L:=gI 4 line col [] JY .Ae .Ae .Ae) g3 rfl rfl (by omega) λH4 g3 t4=>?_
 have x:=x.st (by omega) t4
 have g1:=(t4 n (by omega)).trans g1
 have hq3:=(t4 q (by omega)).trans hq3
 refine LM (ws:=[Jr]) x.p x.lt rfl (by show 1<=1000;omega) h2 λH5 n5 y=>?_
 have x:=x.tr y
 have hn5:=y.le
 have g1:=y.get g1 (by omega) hb
 have g3:=y.get g3 (by omega) (by omega)
 have hq3:=y.get hq3 (by omega) (by omega)
 refine vk f _ _ _ _ _ _ x.p x.lt h3 λH6 n6 c y hx=>?_
 have x:=x.tr y
 have hn6:=y.le
 have g1:=y.get g1 (by omega) hb
 have g3:=y.get g3 (by omega) (by omega)
 have hq3:=y.get hq3 (by omega) (by omega)
 refine J9 (G:=G) (vs:=[.agg c]) rfl (by omega) (λv hv=>by simp at hv;subst hv;exact hx.ok) λH7 f7 _ hel=>?_
 have x:=x.al f7
 have g1:=f7.get g1 (by omega)
 have g3:=f7.get g3 (by omega)
 have hq3:=f7.get hq3 (by omega)
 have hes:fO G H7 (λid=>n2<id/\id<n6+1) (.sl n6 0 1 1 11) [e1]:=AJW hel (hx.mono (λid h=>⟨by have:=h.1;omega,by have:=h.2;omega⟩) λid h=>f7.same id h.2) ⟨by omega,by omega⟩
 refine AB (v:=.ptr n2 6) (by rw[AZ,Nat.zero_add]) ?_
 refine Ej g3 rfl rfl (by omega) (by show 6+1<=9;omega) λH8 g3 t8=>?_
 have x:=x.st (by omega) t8
 have g1:=(t8 n (by omega)).trans g1
 have hq3:=(t8 q (by omega)).trans hq3
 have hes:=hes.mono (B:=λid=>n2<id/\id<n6+1) (λid h=>h) λid h=>t8 id (by have:=h.1;omega)
 refine AC1 hst x.p x.lt h4 λH9 n9 vt y hss=>?_
 have x:=x.tr y
 have hn9:=y.le
 have g1:=y.get g1 (by omega) hb
 have g3:=y.get g3 (by omega) (by omega)
 have hq3:=y.get hq3 (by omega) (by omega)
 have hes:=hes.mono (B:=λid=>n2<id/\id<n9) (λid h=>⟨h.1,by have:=h.2;omega⟩) λid h=>y.f.same id h.2 (by have:=h.1;omega)
 obtain⟨_,_,_,okt,vct,_,_⟩:=id hss
 refine AB (v:=.ptr n2 7) (by rw[AZ,Nat.zero_add]) ?_
 refine Ej g3 okt (by rw[vct];rfl) (by omega) (by show 7+1<=9;omega) λH10 g3 t10=>?_
 rw[vct]at g3
 have g3:T.get H10 n2=some (one (gI 4 line col [] JY (.sl n6 0 1 1 11) vt .Ae)):=g3
 have x:=x.st (by omega) t10
 have g1:=(t10 n (by omega)).trans g1
 have hq3:=(t10 q (by omega)).trans hq3
 have hes:=hes.mono (B:=λid=>n2<id/\id<n9) (λid h=>h) λid h=>t10 id (by have:=h.1;omega)
 have hss:=hss.mono (B:=λid=>n2<id/\id<n9) (λid h=>⟨by have:=h.1;omega,h.2⟩) λid h=>t10 id (by have:=h.1;omega)
 rw[show V.str 4 1702063205=sB EL from rfl]
 refine Oq x.p x.lt h5 λH11 n11 y=>?_
 have x:=x.tr y
 have hn11:=y.le
 have g1:=y.get g1 (by omega) hb
 have g3:=y.get g3 (by omega) (by omega)
 have hq3:=y.get hq3 (by omega) (by omega)
 have hes:=hes.mono (B:=λid=>n2<id/\id<n11) (λid h=>⟨h.1,by have:=h.2;omega⟩) λid h=>y.f.same id h.2 (by have:=h.1;omega)
 have hss:=hss.mono (B:=λid=>n2<id/\id<n11) (λid h=>⟨h.1,by have:=h.2;omega⟩) λid h=>y.f.same id h.2 (by have:=h.1;omega)
 have fin:∀{H':Heap} {n':Nat} {vl:V},Fr G pb H n H' n' s6->n2<n'->T.get H' n=some (one stZ)->T.get H' n2=some (one (gI 4 line col [] JY (.sl n6 0 1 1 11) vt vl))->T.get H' q=some (one [.ptr pb 0])->
  fO G H' (λid=>n2<id/\id<n') (.sl n6 0 1 1 11) [e1]->PX G H' (λid=>n2<id/\id<n') vt th->PX G H' (λid=>n2<id/\id<n') vl el->
  Ep lfp G (Runs F G) k (.ptr n 0) (.ptr n2 0) (.J4 [.fn CS [] [.ptr q 0]]) H' n':=by
  intro H' n' vl x hn' g1 g3 hq3 hes hss hsl
  delta Ep
  refine AB (Ai (m:=9) g3 (by omega) rfl) ?_
  refine CG g1 rfl rfl (by omega) λH12 g12 t12=>?_
  have x:=x.st (Nat.le_refl _) t12
  refine AR7 x.p x.lt ((t12 q (by omega)).trans hq3) h7 λH13 n13 y=>?_
  have hn13:=y.le
  rw[DX (m:=9) (y.get g12 (by omega) hb) (by omega) rfl]
  simp only[go_sem]
  have keep:∀id,n2<id/\id<n'->T.get H13 id=T.get H' id:=λid h=>(y.f.same id h.2 (by have:=h.1;omega)).trans (t12 id (by have:=h.1;omega))
  refine hk _ _ _ (x.tr y) (.of (hes.mono (λid h=>⟨by have:=h.1;omega,by have:=h.2;omega⟩) keep) (hss.mono (λid h=>⟨by have:=h.1;omega,by have:=h.2;omega⟩) keep) (hsl.mono (λid h=>⟨by have:=h.1;omega,by have:=h.2;omega⟩) keep))
 cases b with
 |false=>
  cases h6
  rw[Aq]
  exact fin x (by omega) g1 g3 hq3 hes hss .nil
 |true=>
  rw[cond_true]at h6
  rw[Ah]
  refine vT (ws:=[Jr]) x.p x.lt rfl (by show 1<=1000;omega) λH12 n12 y=>?_
  have x:=x.tr y
  have hn12:=y.le
  have g1:=y.get g1 (by omega) hb
  have g3:=y.get g3 (by omega) (by omega)
  have hq3:=y.get hq3 (by omega) (by omega)
  have hes:=hes.mono (B:=λid=>n2<id/\id<n12) (λid h=>⟨h.1,by have:=h.2;omega⟩) λid h=>y.f.same id h.2 (by have:=h.1;omega)
  have hss:=hss.mono (B:=λid=>n2<id/\id<n12) (λid h=>⟨h.1,by have:=h.2;omega⟩) λid h=>y.f.same id h.2 (by have:=h.1;omega)
  cases hi:Kw [Jr] s5 with
  |true=>
   have h6:((ch s5).bind λx=>some ([x.1],x.2))=some (el,s6):=by simpa[hi]using h6
   obtain⟨⟨e2,s8⟩,h8,h6⟩:=Option.bind_eq_some_iff.1 h6
   cases h6
   rw[Ah]
   refine hch _ _ _ _ _ _ x.p x.lt h8 λH13 n13 c2 y hx2=>?_
   have x:=x.tr y
   have hn13:=y.le
   have g1:=y.get g1 (by omega) hb
   have g3:=y.get g3 (by omega) (by omega)
   have hq3:=y.get hq3 (by omega) (by omega)
   have hes:=hes.mono (B:=λid=>n2<id/\id<n13) (λid h=>⟨h.1,by have:=h.2;omega⟩) λid h=>y.f.same id h.2 (by have:=h.1;omega)
   have hss:=hss.mono (B:=λid=>n2<id/\id<n13) (λid h=>⟨h.1,by have:=h.2;omega⟩) λid h=>y.f.same id h.2 (by have:=h.1;omega)
   refine J9 (G:=G) (vs:=[.agg c2]) rfl (by omega) (λv hv=>by simp at hv;subst hv;exact hx2.ok) λH14 f14 _ hel2=>?_
   have x:=x.al f14
   have g1:=f14.get g1 (by omega)
   have g3:=f14.get g3 (by omega)
   have hq3:=f14.get hq3 (by omega)
   refine AB (v:=.ptr n2 8) (by rw[AZ,Nat.zero_add]) ?_
   refine Ej g3 rfl rfl (by omega) (by show 8+1<=9;omega) λH15 g3 t15=>?_
   have x:=x.st (by omega) t15
   have hsl:PX G H14 (λid=>n2<id/\id<n13+1) (.sl n13 0 1 1 9) [e2]:=AZM hel2 (hx2.mono (λid h=>⟨by have:=h.1;omega,by have:=h.2;omega⟩) λid h=>f14.same id h.2) ⟨by omega,by omega⟩
   refine fin x (by omega) ((t15 n (by omega)).trans g1) g3 ((t15 q (by omega)).trans hq3) (hes.mono (λid h=>⟨h.1,by have:=h.2;omega⟩) ?_) (hss.mono (λid h=>⟨h.1,by have:=h.2;omega⟩) ?_) (hsl.mono (λid h=>h) λid h=>t15 id (by have:=h.1;omega))
   ·exact λid h=>(t15 id (by have:=h.1;omega)).trans (f14.same id h.2)
   ·exact λid h=>(t15 id (by have:=h.1;omega)).trans (f14.same id h.2)
  |false=>
   have h6:Gv st f s5=some (el,s6):=by simpa[hi]using h6
   rw[Aq]
   refine AC1 hst x.p x.lt h6 λH13 n13 vl y hsl=>?_
   have x:=x.tr y
   have hn13:=y.le
   have g1:=y.get g1 (by omega) hb
   have g3:=y.get g3 (by omega) (by omega)
   have hq3:=y.get hq3 (by omega) (by omega)
   have hes:=hes.mono (B:=λid=>n2<id/\id<n13) (λid h=>⟨h.1,by have:=h.2;omega⟩) λid h=>y.f.same id h.2 (by have:=h.1;omega)
   have hss:=hss.mono (B:=λid=>n2<id/\id<n13) (λid h=>⟨h.1,by have:=h.2;omega⟩) λid h=>y.f.same id h.2 (by have:=h.1;omega)
   obtain⟨_,_,_,okl,vcl,_,_⟩:=id hsl
   refine AB (v:=.ptr n2 8) (by rw[AZ,Nat.zero_add]) ?_
   refine Ej g3 okl (by rw[vcl];rfl) (by omega) (by show 8+1<=9;omega) λH15 g3 t15=>?_
   rw[vcl]at g3
   have x:=x.st (by omega) t15
   exact fin (vl:=vl) x (by omega) ((t15 n (by omega)).trans g1) g3 ((t15 q (by omega)).trans hq3) (hes.mono (λid h=>h) λid h=>t15 id (by have:=h.1;omega)) (hss.mono (λid h=>h) λid h=>t15 id (by have:=h.1;omega))
    (hsl.mono (λid h=>⟨by have:=h.1;omega,h.2⟩) λid h=>t15 id (by have:=h.1;omega))
end
section
variable{G:AV}{pb:Nat}
theorem AVV{st ch:PM St}{f:Nat}(hst:StC G pb GR st)(hch:StC G pb Gh ch):StC G pb GR (Z7 st ch f):=by
 intro s H n s' e k h hb hm hk
 refine Am (s:=Ho (Oa lfp G)) SI (by obtain⟨h,o⟩:=rP Ap G;rw[SI]at h;cases h;exact o) ?_
 show Oa lfp G (Runs F G) (.ptr pb 0) H n k
 delta Oa
 obtain⟨⟨b,s1⟩,h1,hm⟩:=Option.bind_eq_some_iff.1 hm
 have hm:(bif b then
  (fQ s1).bind λt=>(Jp 3 t.2).bind λn=>(CJ [EG] n.2).bind λs1=>(expr f s1).bind λx=>endP (.mk 1 n.1 t.1 [x.1] [] []) x.2 else
  bif Kw [Jr] s1 then ch s1 else
  (C9 Fe s1).bind λp=>bif p.1 then(expr f p.2).bind λc=>(Gv st f c.2).bind λt=>some (.mk 5 [] JY [c.1] t.1 [],t.2)else
  (C9 Eo p.2).bind λp=>bif p.1 then(expr f p.2).bind λx=>endP (.mk 6 [] JY [x.1] [] []) x.2 else
  (C9 Fp p.2).bind λp=>bif p.1 then(expr f p.2).bind λx=>endP (.mk 7 [] JY [x.1] [] []) x.2 else
  (o7 f p.2).bind λx=>endP x.1 x.2)=some (e,s'):=hm
 have x:=Fr.refl h hb
 refine Az rfl λH1 f1 g1=>?_
 have x:=x.al f1
 obtain⟨v,tid,o,line,col,e0,ea,_,_,_,_,_,e5⟩:=x.p.tok
 refine AB (v:=.ptr pb 0) rfl (AB (v:=.ptr pb 0) rfl (AB e0 (AB ea (AB (v:=.ptr tid (o+3)) (AZ ..) (AB e5 (AB AVi ?_))))))
 refine Az rfl λH3 f3 g3=>?_
 have x:=x.al f3
 have g1:=f3.get g1 (by omega)
 refine CG (L:=gI 0 line col [] JY .Ae .Ae .Ae) g3 rfl rfl (by omega) λH4 g3 t4=>?_
 have x:=x.st (by omega) t4
 have g1:=(t4 n (by omega)).trans g1
 clear t4 f3 f1 e0 ea e5
 have out:∀{H':Heap} {n':Nat} {c:LV},Fr G pb H n H' n' s'->T.get H' n=some (one stZ)->T.get H' (n+1)=some (one c)->MX G H' (λid=>n+1<id/\id<n') c e->
  AP (BF 9 (.ptr (n+1) 0) G H') λv45=>CP 9 (.ptr n 0) v45 H' n' λ_ H n'=>IV (D6 [.cn (.ptr n 0) 9] G H) λl=>k (GN l) H n':=by
  intro H' n' c x g1 g3 hx
  refine AB (Ai (m:=9) g3 (by omega) hx.len) ?_
  refine CG g1 rfl hx.len (by omega) λH12 g12 t12=>?_
  rw[DX (m:=9) g12 (by omega) hx.len]
  simp only[go_sem]
  exact hk _ _ _ (x.st (Nat.le_refl _) t12) (hx.mono (λid h=>⟨by have:=h.1;omega,h.2⟩) λid h=>t12 id (by have:=h.1;omega))
 have fin:∀{H':Heap} {n':Nat} {c:LV} {t':S} {b':St},Fr G pb H n H' n' t'->n+1<n'->endP b' t'=some (e,s')->T.get H' n=some (one stZ)->T.get H' (n+1)=some (one c)->MX G H' (λid=>n+1<id/\id<n') c b'->
  EJ lfp G (Runs F G) k (.ptr pb 0) (.ptr n 0) (.ptr (n+1) 0) H' n':=by
  intro H' n' c t' b' x hn' he g1 g3 hx
  delta EJ
  obtain⟨t2,h2,he⟩:=Option.bind_eq_some_iff.1 he
  cases he
  refine LM (ws:=[Aw]) x.p x.lt rfl (by show 1<=1000;omega) h2 λH5 n5 y=>?_
  have hn5:=y.le
  exact out (x.tr y) (y.get g1 (by omega) hb) (y.get g3 (by omega) (by omega)) (hx.mono (λid h=>⟨h.1,by have:=h.2;omega⟩) λid h=>y.f.same id h.2 (by have:=h.1;omega))
 have AYi:∀{H':Heap} {n' kd:Nat} {t t1:S} {e1:Ex} {P:V},Fr G pb H n H' n' t->n+1<n'->T.get H' n=some (one stZ)->T.get H' (n+1)=some (one (gI 0 line col [] JY .Ae .Ae .Ae))->
  expr f t=some (e1,t1)->endP (.mk kd [] JY [e1] [] []) t1=some (e,s')->
  Runs F G Ci [.ptr pb 0] H' n' λv48 H n'=>DY (Aj 11 1 exZ [(0,.c v48)] E0) H n' λv49 H n'=>AP (AU 0 (.ptr (n+1) 0)) λv50=>CP 1 v50 (.int .i64 (.ofNat kd) 0) H n' λ_ H n'=>
   AP (AU 6 (.ptr (n+1) 0)) λv52=>CP 1 v52 v49 H n' λ_ H n'=>EJ lfp G (Runs F G) k (.ptr pb 0) (.ptr n 0) (.ptr (n+1) 0) H n':=by
  intro H' n' kd t t1 e1 _ x hn' g1 g3 h1 he
  refine vk f _ _ _ _ _ _ x.p x.lt h1 λH6 n6 c y hx=>?_
  have x:=x.tr y
  have hn6:=y.le
  have g1:=y.get g1 (by omega) hb
  have g3:=y.get g3 (by omega) (by omega)
  refine J9 (G:=G) (vs:=[.agg c]) rfl (by omega) (λv hv=>by simp at hv;subst hv;exact hx.ok) λH7 f7 _ hel=>?_
  have x:=x.al f7
  have g1:=f7.get g1 (by omega)
  have g3:=f7.get g3 (by omega)
  have hes:fO G H7 (λid=>n+1<id/\id<n6+1) (.sl n6 0 1 1 11) [e1]:=AJW hel (hx.mono (λid h=>⟨by have:=h.1;omega,by have:=h.2;omega⟩) λid h=>f7.same id h.2) ⟨by omega,by omega⟩
  refine AB (v:=.ptr (n+1) 0) (AZ ..) ?_
  refine Ej g3 rfl rfl (by omega) (by show 0+1<=9;omega) λH8 g3 t8=>?_
  have x:=x.st (by omega) t8
  have g1:=(t8 n (by omega)).trans g1
  refine AB (v:=.ptr (n+1) 6) (by rw[AZ,Nat.zero_add]) ?_
  refine Ej g3 rfl rfl (by omega) (by show 6+1<=9;omega) λH9 g3 t9=>?_
  have x:=x.st (by omega) t9
  exact fin (c:=gI kd line col [] JY (.sl n6 0 1 1 11) .Ae .Ae) x (by omega) he ((t9 n (by omega)).trans g1) g3 (.of (hes.mono (λid h=>h) λid h=>(t9 id (by have:=h.1;omega)).trans (t8 id (by have:=h.1;omega))) .nil .nil)
 rw[show V.str 3 7628140=sB O0 from rfl]
 refine Oq x.p x.lt h1 λH5 n5 y=>?_
 have x:=x.tr y
 have hn5:=y.le
 have g1:=y.get g1 (by omega) hb
 have g3:=y.get g3 (by omega) (by omega)
 cases b with
 |true=>
  rw[cond_true]at hm
  obtain⟨⟨t,s2⟩,h2,hm⟩:=Option.bind_eq_some_iff.1 hm
  obtain⟨⟨nm,s3⟩,h3,hm⟩:=Option.bind_eq_some_iff.1 hm
  obtain⟨s4,h4,hm⟩:=Option.bind_eq_some_iff.1 hm
  obtain⟨⟨e1,s5⟩,h5,hm⟩:=Option.bind_eq_some_iff.1 hm
  rw[Ah]
  refine AB (v:=.ptr (n+1) 0) (AZ ..) ?_
  refine Ej g3 rfl rfl (by omega) (by show 0+1<=9;omega) λH6 g3 t6=>?_
  have x:=x.st (by omega) t6
  have g1:=(t6 n (by omega)).trans g1
  refine AL7 x.p x.lt h2 λH7 n7 y=>?_
  have x:=x.tr y
  have hn7:=y.le
  have g1:=y.get g1 (by omega) hb
  have g3:=y.get g3 (by omega) (by omega)
  refine AB (v:=.ptr (n+1) 4) (by rw[AZ,Nat.zero_add]) ?_
  refine Ej g3 rfl rfl (by omega) (by show 4+2<=9;omega) λH8 g3 t8=>?_
  have x:=x.st (by omega) t8
  have g1:=(t8 n (by omega)).trans g1
  refine fU x.p x.lt h3 λH9 n9 y=>?_
  have x:=x.tr y
  have hn9:=y.le
  have g1:=y.get g1 (by omega) hb
  have g3:=y.get g3 (by omega) (by omega)
  refine AB (v:=.ptr (n+1) 3) (by rw[AZ,Nat.zero_add]) ?_
  refine Ej g3 rfl rfl (by omega) (by show 3+1<=9;omega) λH10 g3 t10=>?_
  have x:=x.st (by omega) t10
  have g1:=(t10 n (by omega)).trans g1
  have g3:T.get H10 (n+1)=some (one (gI 1 line col nm t .Ae .Ae .Ae)):=g3
  refine LM (ws:=[EG]) x.p x.lt rfl (by show 1<=1000;omega) h4 λH11 n11 y=>?_
  have x:=x.tr y
  have hn11:=y.le
  have g1:=y.get g1 (by omega) hb
  have g3:=y.get g3 (by omega) (by omega)
  refine vk f _ _ _ _ _ _ x.p x.lt h5 λH12 n12 c y hx=>?_
  have x:=x.tr y
  have hn12:=y.le
  have g1:=y.get g1 (by omega) hb
  have g3:=y.get g3 (by omega) (by omega)
  refine J9 (G:=G) (vs:=[.agg c]) rfl (by omega) (λv hv=>by simp at hv;subst hv;exact hx.ok) λH13 f13 _ hel=>?_
  have x:=x.al f13
  have g1:=f13.get g1 (by omega)
  have g3:=f13.get g3 (by omega)
  have hes:fO G H13 (λid=>n+1<id/\id<n12+1) (.sl n12 0 1 1 11) [e1]:=AJW hel (hx.mono (λid h=>⟨by have:=h.1;omega,by have:=h.2;omega⟩) λid h=>f13.same id h.2) ⟨by omega,by omega⟩
  refine AB (v:=.ptr (n+1) 6) (by rw[AZ,Nat.zero_add]) ?_
  refine Ej g3 rfl rfl (by omega) (by show 6+1<=9;omega) λH14 g3 t14=>?_
  have x:=x.st (by omega) t14
  exact fin (c:=gI 1 line col nm t (.sl n12 0 1 1 11) .Ae .Ae) x (by omega) hm ((t14 n (by omega)).trans g1) g3 (.of (hes.mono (λid h=>h) λid h=>t14 id (by have:=h.1;omega)) .nil .nil)
 |false=>
  rw[cond_false]at hm
  rw[Aq]
  refine vT (ws:=[Jr]) x.p x.lt rfl (by show 1<=1000;omega) λH6 n6 y=>?_
  have x:=x.tr y
  have hn6:=y.le
  have g1:=y.get g1 (by omega) hb
  have g3:=y.get g3 (by omega) (by omega)
  cases hi:Kw [Jr] s1 with
  |true=>
   rw[hi,cond_true]at hm
   rw[Ah]
   refine hch _ _ _ _ _ _ x.p x.lt hm λH7 n7 c y hx=>?_
   have hn7:=y.le
   refine CG (y.get g1 (by omega) hb) rfl hx.len (by omega) λH12 g12 t12=>?_
   rw[DX (m:=9) g12 (by omega) hx.len]
   simp only[go_sem]
   exact hk _ _ _ ((x.tr y).st (Nat.le_refl _) t12) (hx.mono (λid h=>⟨by have:=h.1;omega,h.2⟩) λid h=>t12 id (by have:=h.1;omega))
  |false=>
   rw[hi,cond_false]at hm
   rw[Aq]
   obtain⟨⟨b,s2⟩,h2,hm⟩:=Option.bind_eq_some_iff.1 hm
   rw[show V.str 5 435610544247=sB Fe from rfl]
   refine Oq x.p x.lt h2 λH7 n7 y=>?_
   have x:=x.tr y
   have hn7:=y.le
   have g1:=y.get g1 (by omega) hb
   have g3:=y.get g3 (by omega) (by omega)
   cases b with
   |true=>
    obtain⟨⟨e1,s3⟩,h3,hm⟩:=Option.bind_eq_some_iff.1 (show((expr f s2).bind λc=>(Gv st f c.2).bind λt=>some (.mk 5 [] JY [c.1] t.1 [],t.2))=some (e,s')from hm)
    obtain⟨⟨th,s4⟩,h4,hm⟩:=Option.bind_eq_some_iff.1 hm
    cases hm
    rw[Ah]
    refine AB (v:=.ptr (n+1) 0) (AZ ..) ?_
    refine Ej g3 rfl rfl (by omega) (by show 0+1<=9;omega) λH8 g3 t8=>?_
    have x:=x.st (by omega) t8
    have g1:=(t8 n (by omega)).trans g1
    refine vk f _ _ _ _ _ _ x.p x.lt h3 λH12 n12 c y hx=>?_
    have x:=x.tr y
    have hn12:=y.le
    have g1:=y.get g1 (by omega) hb
    have g3:=y.get g3 (by omega) (by omega)
    refine J9 (G:=G) (vs:=[.agg c]) rfl (by omega) (λv hv=>by simp at hv;subst hv;exact hx.ok) λH13 f13 _ hel=>?_
    have x:=x.al f13
    have g1:=f13.get g1 (by omega)
    have g3:=f13.get g3 (by omega)
    have hes:fO G H13 (λid=>n+1<id/\id<n12+1) (.sl n12 0 1 1 11) [e1]:=AJW hel (hx.mono (λid h=>⟨by have:=h.1;omega,by have:=h.2;omega⟩) λid h=>f13.same id h.2) ⟨by omega,by omega⟩
    refine AB (v:=.ptr (n+1) 6) (by rw[AZ,Nat.zero_add]) ?_
    refine Ej g3 rfl rfl (by omega) (by show 6+1<=9;omega) λH14 g3 t14=>?_
    have x:=x.st (by omega) t14
    have g1:=(t14 n (by omega)).trans g1
    have hes:=hes.mono (B:=λid=>n+1<id/\id<n12+1) (λid h=>h) λid h=>t14 id (by have:=h.1;omega)
    refine AC1 hst x.p x.lt h4 λH15 n15 vt y hss=>?_
    have x:=x.tr y
    have hn15:=y.le
    have g1:=y.get g1 (by omega) hb
    have g3:=y.get g3 (by omega) (by omega)
    have hes:=hes.mono (B:=λid=>n+1<id/\id<n15) (λid h=>⟨h.1,by have:=h.2;omega⟩) λid h=>y.f.same id h.2 (by have:=h.1;omega)
    obtain⟨_,_,_,okt,vct,_,_⟩:=id hss
    refine AB (v:=.ptr (n+1) 7) (by rw[AZ,Nat.zero_add]) ?_
    refine Ej g3 okt (by rw[vct];rfl) (by omega) (by show 7+1<=9;omega) λH16 g3 t16=>?_
    rw[vct]at g3
    have x:=x.st (by omega) t16
    exact out (c:=gI 5 line col [] JY (.sl n12 0 1 1 11) vt .Ae) x ((t16 n (by omega)).trans g1) g3 (.of (hes.mono (λid h=>h) λid h=>t16 id (by have:=h.1;omega)) (hss.mono (λid h=>⟨by have:=h.1;omega,h.2⟩) λid h=>t16 id (by have:=h.1;omega)) .nil)
   |false=>
    obtain⟨⟨b,s3⟩,h3,hm⟩:=Option.bind_eq_some_iff.1 (show((C9 Eo s2).bind λp=>bif p.1 then(expr f p.2).bind λx=>endP (.mk 6 [] JY [x.1] [] []) x.2 else
     (C9 Fp p.2).bind λp=>bif p.1 then(expr f p.2).bind λx=>endP (.mk 7 [] JY [x.1] [] []) x.2 else(o7 f p.2).bind λx=>endP x.1 x.2)=some (e,s')from hm)
    rw[Aq,show V.str 6 121437875889522=sB Eo from rfl]
    refine Oq x.p x.lt h3 λH8 n8 y=>?_
    have x:=x.tr y
    have hn8:=y.le
    have g1:=y.get g1 (by omega) hb
    have g3:=y.get g3 (by omega) (by omega)
    cases b with
    |true=>
     obtain⟨⟨e1,s4⟩,h4,hm⟩:=Option.bind_eq_some_iff.1 (show((expr f s3).bind λx=>endP (.mk 6 [] JY [x.1] [] []) x.2)=some (e,s')from hm)
     rw[Ah]
     exact AYi (P:=.undef) x (by omega) g1 g3 h4 hm
    |false=>
     obtain⟨⟨b,s4⟩,h4,hm⟩:=Option.bind_eq_some_iff.1 (show((C9 Fp s3).bind λp=>bif p.1 then(expr f p.2).bind λx=>endP (.mk 7 [] JY [x.1] [] []) x.2 else(o7 f p.2).bind λx=>endP x.1 x.2)=some (e,s')from hm)
     rw[Aq,show V.str 5 500068610672=sB Fp from rfl]
     refine Oq x.p x.lt h4 λH9 n9 y=>?_
     have x:=x.tr y
     have hn9:=y.le
     have g1:=y.get g1 (by omega) hb
     have g3:=y.get g3 (by omega) (by omega)
     cases b with
     |true=>
      obtain⟨⟨e1,s5⟩,h5,hm⟩:=Option.bind_eq_some_iff.1 (show((expr f s4).bind λx=>endP (.mk 7 [] JY [x.1] [] []) x.2)=some (e,s')from hm)
      rw[Ah]
      exact AYi (P:=.undef) x (by omega) g1 g3 h5 hm
     |false=>
      obtain⟨⟨e1,s5⟩,h5,hm⟩:=Option.bind_eq_some_iff.1 (show((o7 f s4).bind λx=>endP x.1 x.2)=some (e,s')from hm)
      rw[Aq]
      refine ATw x.p (by omega) (by omega) g3 h5 λH10 n10 c y hle gb hx=>?_
      have x10:Fr G pb H n H10 n10 s5:=⟨⟨by omega,λid hid hp=>(y.f.same id (by omega) hp).trans (x.f.same id hid hp)⟩,y.p,hb⟩
      exact fin x10 (by omega) hm (y.get g1 (by omega) hb) gb hx
theorem AbR(f:Nat):StC G pb GR (sc f false)/\StC G pb Gh (sc f true):=by
 induction f with
 |zero=>exact⟨λs H n s' e k _ _ hm _=>(by cases hm),λs H n s' e k _ _ hm _=>(by cases hm)⟩
 |succ f ih=>exact⟨λs H n s' e k h hb hm hk=>AVV (f:=f) ih.1 ih.2 s H n s' e k h hb hm hk,λs H n s' e k h hb hm hk=>ARI (f:=f) ih.1 ih.2 s H n s' e k h hb hm hk⟩
end
def vaC(x:Va):LV:=[sB x.nm,sB x.ty.nm,.bool x.ty.arr]
def ABX(G:AV)(H:Heap)(A:Nat->Prop)(v:V)(xs:List Va):Prop:=El G H v 3 (xs.map vaC)/\KS v/\kD v=true/\CZ v=[v]/\(∀id,v.Qa=some id->A id)
theorem ABX.mono{G:AV}{H H':Heap}{A B:Nat->Prop}{v:V}{xs:List Va}(h:ABX G H A v xs)(hA:∀id,A id->B id)(hs:∀id,A id->T.get H' id=T.get H id):ABX G H' B v xs:=
 ⟨h.1.same λid hid=>hs id (h.2.2.2.2 id hid),h.2.1,h.2.2.1,h.2.2.2.1,λid hid=>hA id (h.2.2.2.2 id hid)⟩
def meZ:LV:=[.int .i64 (.ofNat 0) 0,.int .i64 (.ofNat 0) 0,.str 0 0,.bool false,.Ae,.str 0 0,.bool false,.Ae]
def meC(line col:Nat)(nm:Bs)(st:Bool)(vp:V)(ty:Ty)(vb:V):LV:=[.int .i64 (.ofNat line) 0,.int .i64 (.ofNat col) 0,sB nm,.bool st,vp,sB ty.nm,.bool ty.arr,vb]
inductive aY(G:AV)(H:Heap)(A:Nat->Prop):LV->Me->Prop where
 |mk (line col:Nat) {nm:Bs} {st:Bool} {ty:Ty} {ps:List Va} {bd:List St} {vp vb:V} (hp:ABX G H A vp ps) (hb:PX G H A vb bd):aY G H A (meC line col nm st vp ty vb) ⟨nm,st,ps,ty,bd⟩
theorem aY.mono{G:AV}{H H':Heap}{A B:Nat->Prop}{c:LV}{m:Me}(hA:∀id,A id->B id)(hs:∀id,A id->T.get H' id=T.get H id)(h:aY G H A c m):aY G H' B c m:=by
 cases h with
 |mk line col hp hb=>exact .mk line col (hp.mono hA hs) (hb.mono hA hs)
theorem aY.len{G:AV}{H:Heap}{A:Nat->Prop}{c:LV}{m:Me}(h:aY G H A c m):c.length=8:=by cases h;rfl
theorem AZo{x y:V}{b:Bool}:Bh meZ [(0,2,.c (.agg [x,y])),(3,1,.c (.bool b))]=some (.agg [x,y,.str 0 0,.bool b,.Ae,.str 0 0,.bool false,.Ae]):=rfl
theorem AUS(l m:Bs)(b:Bool):Bh [.str 0 0,.str 0 0,.bool false] [(0,1,.c (sB l)),(1,2,.c (.agg [sB m,.bool b]))]=some (.agg [sB l,sB m,.bool b]):=rfl
theorem AIC(t:Ty):BU (.agg (tyC t)) (.agg (tyC t))=true:=AEB λv hv=>by simp[tyC]at hv;rcases hv with rfl|rfl;exact AEH ..;exact lF ..
theorem AOM{G:AV}{H:Heap}{m z:Nat}{v:V}{LS:D5}(h:Gr G H m z v LS):BU v v=true:=by
 cases h with
 |nil=>rfl
 |O5=>exact AP6 ..
section
variable{G:AV}{pb:Nat}{H:Heap}{n:Nat}{s s':S}{k:KV}
theorem ADi{m:Nat}{t:S}(h:(GZ m t).ok=true):m<=200:=by
 unfold GZ at h
 cases hd:decide (200<m)with
 |false=>have:=of_decide_eq_false hd;omega
 |true=>
  rw[hd]at h
  exfalso
  unfold Gy at h
  cases ho:t.ok with
  |false=>rw[ho]at h;simp[ho]at h
  |true=>rw[ho]at h;cases h
theorem ADE{z bs m:Nat}{v:V}{c:LV}{LS:D5}{P:KV}{Z:LV}(ho:Own G H m n z v LS)(hm:m<=n)(hz:0<z)(hc:c.length=z)(hok:kD (.agg c)=true)(hb:(LS.length+1)*bs<=140737488355328)
 (hk:∀v' H',Own G H' m (n+2) z v' (LS++[c])->(∀id,id<n->v.Qa≠some id->T.get H' id=T.get H id)->(∀id,v'.Qa=some id->id=n+1)->P v' H' (n+2)):
 DY (Aj z 1 Z [(0,.c (.agg c))] E0) H n λw H n=>X0 z bs v w G H n P:=by
 refine J9 (G:=G) (vs:=[.agg c]) rfl hz (λv hv=>by simp at hv;subst hv;exact⟨hok,hc⟩) λH6 f6 _ hel=>?_
 have ho6:=ho.kp f6
 refine ADS ho6.gr (by omega) ho6.lo hel.2 hb ?_ (λh=>by cases h)
 intro v' H7 hgr hsame hlo
 refine hk v' H7 ⟨hgr,λid hid=>by have:=hlo id hid;omega⟩ (λid h1 h2=>(hsame id (by omega) h2).trans (f6.same id h1)) hlo
theorem AOb{f:Nat}{m:Me}(h:aP G H pb s)(hb:pb<n)(hm:ZV f s=some (m,s'))(hk:∀H' n' c,Fr G pb H n H' n' s'->aY G H' (Rg n n') c m->k (.agg c) H' n'):Runs F G WV [.ptr pb 0] H n k:=by
 refine Am (s:=Ho (LK lfp G)) P6 (by obtain⟨h,o⟩:=kT Ap G;rw[P6]at h;cases h;exact o) ?_
 show LK lfp G (Runs F G) (.ptr pb 0) H n k
 delta LK
 obtain⟨⟨b,s1⟩,h1,hm⟩:=Option.bind_eq_some_iff.1 hm
 obtain⟨s2,h2,hm⟩:=Option.bind_eq_some_iff.1 hm
 obtain⟨⟨ty,s3⟩,h3,hm⟩:=Option.bind_eq_some_iff.1 hm
 obtain⟨⟨nm,s4⟩,h4,hm⟩:=Option.bind_eq_some_iff.1 hm
 obtain⟨s5,h5,hm⟩:=Option.bind_eq_some_iff.1 hm
 obtain⟨⟨ps,s6⟩,h6,hm⟩:=Option.bind_eq_some_iff.1 hm
 obtain⟨⟨bd,s7⟩,h7,hm⟩:=Option.bind_eq_some_iff.1 hm
 cases hm
 have x:=Fr.refl h hb
 refine Az rfl λH1 f1 g1=>?_
 have x:=x.al f1
 obtain⟨v,tid,o,line,col,e0,ea,_,_,_,_,_,e5⟩:=x.p.tok
 refine AB (v:=.ptr pb 0) rfl (AB (v:=.ptr pb 0) rfl (AB e0 (AB ea (AB (v:=.ptr tid (o+3)) (AZ ..) (AB e5 ?_)))))
 refine Az rfl λH2 f2 g2=>?_
 have x:=x.al f2
 have g1:=f2.get g1 (by omega)
 refine CG (L:=[.int .i64 (.ofNat line) 0,.int .i64 (.ofNat col) 0]) g2 rfl rfl (by omega) λH3 g2 t3=>?_
 have x:=x.st (by omega) t3
 have g1:=(t3 n (by omega)).trans g1
 refine AB (Ai (m:=2) g2 (by omega) rfl) ?_
 refine Az rfl λH4 f4 g3=>?_
 have x:=x.al f4
 have g1:=f4.get g1 (by omega)
 have g2:=f4.get g2 (by omega)
 clear f4 t3 f2 f1 e0 ea e5
 rw[show V.str 6 109304575259763=sB F9 from rfl]
 refine Oq x.p x.lt h1 λH5 n5 y=>?_
 have x:=x.tr y
 have hn5:=y.le
 have g1:=y.get g1 (by omega) hb
 have g2:=y.get g2 (by omega) (by omega)
 have g3:=y.get g3 (by omega) (by omega)
 refine AB (Ai (m:=2) g2 (by omega) rfl) (Cc (Yt ..) (AB AZo ?_))
 refine CG g3 rfl rfl (by omega) λH6 g3 t6=>?_
 have x:=x.st (by omega) t6
 have g1:=(t6 n (by omega)).trans g1
 refine LM (ws:=[E5]) x.p x.lt rfl (by show 1<=1000;omega) h2 λH7 n7 y=>?_
 have x:=x.tr y
 have hn7:=y.le
 have g1:=y.get g1 (by omega) hb
 have g3:=y.get g3 (by omega) (by omega)
 refine AL7 x.p x.lt h3 λH8 n8 y=>?_
 have x:=x.tr y
 have hn8:=y.le
 have g1:=y.get g1 (by omega) hb
 have g3:=y.get g3 (by omega) (by omega)
 refine AB (v:=.ptr (n+1+1) 5) (by rw[AZ,Nat.zero_add]) ?_
 refine Ej g3 rfl rfl (by omega) (by show 5+2<=8;omega) λH9 g3 t9=>?_
 have x:=x.st (by omega) t9
 have g1:=(t9 n (by omega)).trans g1
 refine fU x.p x.lt h4 λH10 n10 y=>?_
 have x:=x.tr y
 have hn10:=y.le
 have g1:=y.get g1 (by omega) hb
 have g3:=y.get g3 (by omega) (by omega)
 refine AB (v:=.ptr (n+1+1) 2) (by rw[AZ,Nat.zero_add]) ?_
 refine Ej g3 rfl rfl (by omega) (by show 2+1<=8;omega) λH11 g3 t11=>?_
 have x:=x.st (by omega) t11
 have g1:=(t11 n (by omega)).trans g1
 have g3:T.get H11 (n+1+1)=some (one (meC line col nm b .Ae ty .Ae)):=g3
 refine LM (ws:=[BG]) x.p x.lt rfl (by show 1<=1000;omega) h5 λH12 n12 y=>?_
 have x:=x.tr y
 have hn12:=y.le
 have g1:=y.get g1 (by omega) hb
 have g3:=y.get g3 (by omega) (by omega)
 clear t6 t9 t11
 refine O3 (J:=λg r=>∃H' n' t v out,r=(.ptr pb 0,.ptr n 0,.ptr (n+1+1) 0,H',n')/\Fr G pb H n H' n' t/\n12<=n'/\T.get H' n=some (one meZ)/\T.get H' (n+1+1)=some (one (meC line col nm b v ty .Ae))/\Own G H' n12 n' 3 v (out.map vaC)/\
  (t.ok=true->out.length<=200)/\out.length<=201/\JW g out t=some (ps,s6)) ?_ (m:=f)
  ⟨H12,n12,s5,.Ae,[],rfl,x,Nat.le_refl _,g1,g3,Xp,λ_=>Nat.zero_le _,Nat.zero_le _,h6⟩
 clear g1 g3 x
 rintro I g r ⟨H13,n13,t,v,out,rfl,x,hn13,g1,g3,ho,hle,hle2,hm⟩ ih
 show L9 lfp G (Runs F G) k I (.ptr pb 0) (.ptr n 0) (.ptr (n+1+1) 0) H13 n13
 delta L9
 cases g with
 |zero=>cases hm
 |succ g=>
  have hm:(bif t.ok then(C9 BH t).bind λp=>bif p.1 then some (out,p.2)else
   (bif decide (0<out.length)then CJ [Ce] p.2 else some p.2).bind λs1=>(fQ s1).bind λt=>(Jp 3 t.2).bind λn=>JW g (out++[⟨n.1,t.1⟩]) (GZ (out.length+1) n.2)
   else some (out,t))=some (ps,s6):=hm
  have fin:∀{H3:Heap} {n3:Nat} {t3:S},Fr G pb H13 n13 H3 n3 t3->some (out,t3)=some (ps,s6)->I7 lfp G (Runs F G) k (.ptr pb 0) (.ptr n 0) (.ptr (n+1+1) 0) H3 n3:=by
   intro H14 n14 t3 y he
   cases he
   delta I7
   have hn14:=y.le
   have ho:=ho.kx y.f (by omega)
   have x:=x.tr y
   have g1:=y.get g1 (by omega) hb
   have g3:=y.get g3 (by omega) (by omega)
   refine AC1 (AbR f).1 x.p x.lt h7 λH15 n15 vb y hss=>?_
   have hn15:=y.le
   have ho:=ho.kx y.f (by omega)
   have x:=x.tr y
   have g1:=y.get g1 (by omega) hb
   have g3:=y.get g3 (by omega) (by omega)
   obtain⟨_,_,_,okb,vcb,_,_⟩:=id hss
   refine AB (v:=.ptr (n+1+1) 7) (by rw[AZ,Nat.zero_add]) ?_
   refine Ej g3 okb (by rw[vcb];rfl) (by omega) (by show 7+1<=8;omega) λH16 g3 t16=>?_
   rw[vcb]at g3
   have x:=x.st (by omega) t16
   have g1:=(t16 n (by omega)).trans g1
   have g3:T.get H16 (n+1+1)=some (one (meC line col nm b v ty vb)):=g3
   refine AB (Ai (m:=8) g3 (by omega) rfl) ?_
   refine CG g1 rfl rfl (by omega) λH17 g1 t17=>?_
   rw[DX (m:=8) g1 (by omega) rfl]
   simp only[go_sem]
   refine hk _ _ _ (x.st (Nat.le_refl _) t17) (.mk line col ⟨(ho.el (by omega)).same λid hid=>?_,(QL ho.gr).1,(QL ho.gr).2.1,(QL ho.gr).2.2,λid hid=>⟨by have:=ho.ge hid;omega,ho.lo id hid⟩⟩ (hss.mono (λid h=>⟨by have:=h.1;omega,h.2⟩) λid h=>?_))
   ·have:=ho.ge hid;exact(t17 id (by omega)).trans (t16 id (by omega))
   ·have:=h.1;exact(t17 id (by omega)).trans (t16 id (by omega))
  rw[AZZ]
  refine AAE x.p x.lt (λhf=>fin (Fr.refl x.p x.lt) (by rw[hf]at hm;exact hm)) λht=>?_
  rw[ht,cond_true]at hm
  obtain⟨⟨b2,t2⟩,h2,hm⟩:=Option.bind_eq_some_iff.1 hm
  refine⟨b2,t2,h2,λH14 n14 y=>?_⟩
  cases b2 with
  |true=>exact fin y hm
  |false=>
   have hlen:=hle ht
   have hm:((bif decide (0<out.length)then CJ [Ce] t2 else some t2).bind λs1=>(fQ s1).bind λt=>(Jp 3 t.2).bind λn=>JW g (out++[⟨n.1,t.1⟩]) (GZ (out.length+1) n.2))=some (ps,s6):=hm
   obtain⟨t3,h3,hm⟩:=Option.bind_eq_some_iff.1 hm
   obtain⟨⟨pt,t4⟩,h4,hm⟩:=Option.bind_eq_some_iff.1 hm
   obtain⟨⟨pn,t5⟩,h5,hm⟩:=Option.bind_eq_some_iff.1 hm
   have hm:JW g (out++[⟨pn,pt⟩]) (GZ (out.length+1) t5)=some (ps,s6):=hm
   have hn14:=y.le
   have ho:=ho.kx y.f (by omega)
   have x:=x.tr y
   have g1:=y.get g1 (by omega) hb
   have g3:=y.get g3 (by omega) (by omega)
   have body:∀{H4:Heap} {n4:Nat},Fr G pb H14 n14 H4 n4 t3->F6 lfp G (Runs F G) k I (.ptr pb 0) (.ptr n 0) (.ptr (n+1+1) 0) H4 n4:=by
    intro H15 n15 y
    delta F6
    have hn15:=y.le
    have ho:=ho.kx y.f (by omega)
    have x:=x.tr y
    have g1:=y.get g1 (by omega) hb
    have g3:=y.get g3 (by omega) (by omega)
    refine AL7 x.p x.lt h4 λH16 n16 y=>?_
    have hn16:=y.le
    have ho:=ho.kx y.f (by omega)
    have x:=x.tr y
    have g1:=y.get g1 (by omega) hb
    have g3:=y.get g3 (by omega) (by omega)
    refine Az rfl λH17 f17 g17=>?_
    have hlo:=ho.lo
    have ho:=ho.kp f17
    have x:=x.al f17
    have g1:=f17.get g1 (by omega)
    have g3:=f17.get g3 (by omega)
    refine CG (L:=tyC pt) g17 rfl rfl (by omega) λH18 g17 t18=>?_
    have ho:Own G H18 n12 (n16+1) 3 v (out.map vaC):=⟨ho.gr.mono λid hid=>t18 id (by have:=hlo id hid;omega),ho.lo⟩
    have x:=x.st (by omega) t18
    have g1:=(t18 n (by omega)).trans g1
    have g3:=(t18 (n+1+1) (by omega)).trans g3
    refine AB (v:=.ptr (n+1+1) 4) (by rw[AZ,Nat.zero_add]) (AB (AQ (off:=4) g3 (v:=v) rfl) (AB (Ai (m:=2) g17 (by omega) rfl) ?_))
    refine fU x.p x.lt h5 λH19 n19 y=>?_
    have hn19:=y.le
    have ho:=ho.kx y.f (by omega)
    have x:=x.tr y
    have g1:=y.get g1 (by omega) hb
    have g3:=y.get g3 (by omega) (by omega)
    have g17:=y.get g17 (by omega) (by omega)
    refine AB (AQ (off:=4) g3 (v:=v) rfl) (Cc (AOM ho.gr) (AB (Ai (m:=2) g17 (by omega) rfl) (Cc (AIC pt) (AB (AUS ..) ?_))))
    have hlo:=ho.lo
    refine ADE (bs:=40) ho (by omega) (by omega) rfl rfl (by rw[List.length_map];omega) λv' H20 ho' hsame hnew=>?_
    have hlow:∀id,id<n12->T.get H20 id=T.get H19 id:=λid hid=>hsame id (by omega) λh=>by have:=ho.ge h;omega
    have x:Fr G pb H n H20 (n19+2) t5:=⟨⟨by omega,λid hid hp=>(hlow id (by omega)).trans (x.f.same id hid hp)⟩,x.p.same λid hid=>hlow id (by omega),hb⟩
    have g1:=(hlow n (by omega)).trans g1
    have g3:=(hlow (n+1+1) (by omega)).trans g3
    refine AB (v:=.ptr (n+1+1) 4) (by rw[AZ,Nat.zero_add]) ?_
    refine Ej g3 (QL ho'.gr).2.1 (by rw[(QL ho'.gr).2.2];rfl) (by omega) (by show 4+1<=8;omega) λH21 g3 t21=>?_
    rw[(QL ho'.gr).2.2]at g3
    have ho:Own G H21 n12 (n19+2) 3 v' (out.map vaC++[vaC ⟨pn,pt⟩]):=⟨ho'.gr.mono λid hid=>t21 id (by have:=ho'.ge hid;omega),ho'.lo⟩
    have x:=x.st (by omega) t21
    have g1:=(t21 n (by omega)).trans g1
    have g3:T.get H21 (n+1+1)=some (one (meC line col nm b v' ty .Ae)):=g3
    refine AB (v:=.ptr (n+1+1) 4) (by rw[AZ,Nat.zero_add]) (AB (AQ (off:=4) g3 (v:=v') rfl) ?_)
    rw[(ho.el (by omega)).len,Au,List.length_append,List.length_map]
    refine AHc x.p x.lt λH22 n22 y=>?_
    have hn22:=y.le
    refine ih g _ (by omega) ⟨H22,n22,_,v',out++[⟨pn,pt⟩],rfl,x.tr y,by omega,y.get g1 (by omega) hb,y.get g3 (by omega) (by omega),?_,λh=>by rw[List.length_append];exact ADi h,by rw[List.length_append];show out.length+1<=201;omega,hm⟩
    rw[List.map_append]
    exact ho.kx y.f (by omega)
   rw[cond_false]
   refine AB (v:=.ptr (n+1+1) 4) (by rw[AZ,Nat.zero_add]) (AB (AQ (off:=4) g3 (v:=v) rfl) ?_)
   rw[(ho.el (by omega)).len,Au,List.length_map,Ls,Au]
   cases hd:decide (0<out.length)with
   |false=>
    rw[hd]at h3
    cases h3
    rw[Aq]
    exact body (Fr.refl x.p x.lt)
   |true=>
    rw[hd]at h3
    have h3:CJ [Ce] t2=some t3:=h3
    rw[Ah]
    exact LM (ws:=[Ce]) x.p x.lt rfl (by show 1<=1000;omega) h3 λH15 n15 y=>body y
end
inductive ZW(G:AV)(H:Heap)(A:Nat->Prop):D5->List Me->Prop where
 |nil:ZW G H A [] []
 |cons {c:LV} {e:Me} {cs:D5} {es:List Me} (h:aY G H A c e) (t:ZW G H A cs es):ZW G H A (c::cs) (e::es)
theorem ZW.mono{G:AV}{H H':Heap}{A B:Nat->Prop}(hA:∀id,A id->B id)(hs:∀id,A id->T.get H' id=T.get H id):∀{cs:D5} {es:List Me},ZW G H A cs es->ZW G H' B cs es
 |_,_,.nil=>.nil
 |_,_,.cons h t=>.cons (h.mono hA hs) (t.mono hA hs)
theorem ZW.app{G:AV}{H:Heap}{A:Nat->Prop}:∀{cs:D5} {es:List Me} {cs':D5} {es':List Me},ZW G H A cs es->ZW G H A cs' es'->ZW G H A (cs++cs') (es++es')
 |_,_,_,_,.nil,h=>h
 |_,_,_,_,.cons h t,h'=>.cons h (t.app h')
theorem ZW.len{G:AV}{H:Heap}{A:Nat->Prop}:∀{cs:D5} {es:List Me},ZW G H A cs es->cs.length=es.length
 |_,_,.nil=>rfl
 |_,_,.cons h t=>by simp[t.len]
def APj(G:AV)(H:Heap)(A:Nat->Prop)(v:V)(ms:List Me):Prop:=∃cs,El G H v 8 cs/\KS v/\kD v=true/\CZ v=[v]/\(∀id,v.Qa=some id->A id)/\ZW G H A cs ms
theorem APj.mono{G:AV}{H H':Heap}{A B:Nat->Prop}{v:V}{es:List Me}(h:APj G H A v es)(hA:∀id,A id->B id)(hs:∀id,A id->T.get H' id=T.get H id):APj G H' B v es:=by
 obtain⟨cs,h1,h2,h3,h4,h5,h6⟩:=h
 exact⟨cs,h1.same λid hid=>hs id (h5 id hid),h2,h3,h4,λid hid=>hA id (h5 id hid),h6.mono hA hs⟩
def clC(line col:Nat)(nm sup:Bs)(vf vm:V):LV:=[.int .i64 (.ofNat line) 0,.int .i64 (.ofNat col) 0,sB nm,sB sup,vf,vm]
def clZ:LV:=[.int .i64 (.ofNat 0) 0,.int .i64 (.ofNat 0) 0,.str 0 0,.str 0 0,.Ae,.Ae]
inductive XF(G:AV)(H:Heap)(A:Nat->Prop):LV->Cl->Prop where
 |mk (line col:Nat) {nm sup:Bs} {fs:List Va} {ms:List Me} {vf vm:V} (hf:ABX G H A vf fs) (hm:APj G H A vm ms):XF G H A (clC line col nm sup vf vm) ⟨nm,sup,fs,ms⟩
theorem XF.mono{G:AV}{H H':Heap}{A B:Nat->Prop}{c:LV}{m:Cl}(hA:∀id,A id->B id)(hs:∀id,A id->T.get H' id=T.get H id)(h:XF G H A c m):XF G H' B c m:=by
 cases h with
 |mk line col hf hm=>exact .mk line col (hf.mono hA hs) (hm.mono hA hs)
def AQX(c:LV):Prop:=∃line,1<=line/\c[0]? =some (.int .i64 (.ofNat line) 0)
theorem XF.len{G:AV}{H:Heap}{A:Nat->Prop}{c:LV}{m:Cl}(h:XF G H A c m):c.length=6:=by cases h;rfl
theorem AZO{x y:V}:Bh clZ [(0,2,.c (.agg [x,y]))]=some (.agg [x,y,.str 0 0,.str 0 0,.Ae,.Ae]):=rfl
theorem AOu:Bh clZ []=some (.agg clZ):=rfl
theorem AZh{id o l:Nat}:Bh [.Ae,.int .i64 (.ofNat 0) 0,.int .i64 (.ofNat 0) 0,.int .i64 (.ofNat 0) 0,.int .i64 (.ofNat 0) 0] [(0,1,.c (.O5 id o l 5))]=some (.agg [.O5 id o l 5,.int .i64 (.ofNat 0) 0,.int .i64 (.ofNat 0) 0,.int .i64 (.ofNat 0) 0,.int .i64 (.ofNat 0) 0]):=rfl
section
variable{G:AV}{pb:Nat}{H:Heap}{n:Nat}{s s':S}{k:KV}
theorem ATL{e:Nat}{t:S}(he:e≠0):(Gy e t).ok=false:=by
 unfold Gy
 cases ho:t.ok with
 |false=>exact ho
 |true=>simp[S.ok,he]
theorem ATy{w:Bs}{t t':S}(h:CJ [w] t=some t')(h':t'.ok=true):t.ok=true:=by
 obtain⟨⟨b,t1⟩,h1,h⟩:=Option.bind_eq_some_iff.1 (show((C9 w t).bind λp=>some (bif p.1 then p.2 else Gy 21 p.2))=some t' from h)
 unfold C9 at h1
 cases ho:Vp w t with
 |false=>
  rw[ho]at h1
  cases h1
  have h:Gy 21 t=t':=by simpa using h
  rw[<-h,ATL (by decide)]at h'
  cases h'
 |true=>
  unfold Vp at ho
  simp only[Bool.and_eq_true]at ho
  exact ho.1
def ClK(G:AV)(pb:Nat)(H:Heap)(n:Nat)(s':S)(c:Cl)(k:KV):Prop:=∀H' n' l,Fr G pb H n H' n' s'->XF G H' (Rg n n') l c->AQX l->k (.agg l) H' n'
structure ClJ(G:AV)(pb:Nat)(H0:Heap)(n0 m0 line col:Nat)(nm sup:Bs)(H:Heap)(n:Nat)(t:S)(fs:List Va)(ms:List Me)(vf vm:V)(cs:D5):Prop where
 x:Fr G pb H0 n0 H n t
 hn:m0<=n
 g1:T.get H n0=some (one clZ)
 g2:T.get H (n0+1)=some (one (clC line col nm sup vf vm))
 hf:Own G H m0 n 3 vf (fs.map vaC)
 hm:Own G H m0 n 8 vm cs
 ne:∀id,vf.Qa=some id->vm.Qa≠some id
 hc:ZW G H (λid=>m0<=id/\id<n/\vf.Qa≠some id/\vm.Qa≠some id) cs ms
theorem ClJ.fr{H0 H:Heap}{n0 m0 line col n n':Nat}{nm sup:Bs}{H':Heap}{t t':S}{fs:List Va}{ms:List Me}{vf vm:V}{cs:D5}(j:ClJ G pb H0 n0 m0 line col nm sup H n t fs ms vf vm cs)(y:Fr G pb H n H' n' t')(hm0:n0+2<=m0):
 ClJ G pb H0 n0 m0 line col nm sup H' n' t' fs ms vf vm cs:=by
 have hb:=j.x.b
 have hn:=j.hn
 have hn':=y.le
 exact⟨j.x.tr y,by omega,y.get j.g1 (by omega) hb,y.get j.g2 (by omega) (by omega),j.hf.kx y.f (by omega),j.hm.kx y.f (by omega),j.ne,
  j.hc.mono (λid h=>⟨h.1,by have:=h.2.1;omega,h.2.2⟩) λid h=>y.f.same id h.2.1 (by have:=h.1;omega)⟩
theorem ClJ.al{H0 H:Heap}{n0 m0 line col n n':Nat}{nm sup:Bs}{H':Heap}{t:S}{fs:List Va}{ms:List Me}{vf vm:V}{cs:D5}(j:ClJ G pb H0 n0 m0 line col nm sup H n t fs ms vf vm cs)(f:Kp H n H' n')(hm0:n0+2<=m0):
 ClJ G pb H0 n0 m0 line col nm sup H' n' t fs ms vf vm cs:=j.fr ((Fr.refl j.x.p j.x.lt).al f) hm0
theorem ClJ.AbI{H0 H H1 H2:Heap}{n0 m0 line col n:Nat}{nm sup:Bs}{t:S}{fs:List Va}{ms:List Me}{vf vm v':V}{cs:D5}{a:Va}(j:ClJ G pb H0 n0 m0 line col nm sup H n t fs ms vf vm cs)(hm0:n0+2<=m0)
 (ho:Own G H1 m0 (n+2) 3 v' (fs.map vaC++[vaC a])) (hs:∀id,id<n->vf.Qa≠some id->T.get H1 id=T.get H id) (hw:∀id,v'.Qa=some id->id=n+1)
 (g2:T.get H2 (n0+1)=some (one (clC line col nm sup v' vm))) (ht:∀i,i≠n0+1->T.get H2 i=T.get H1 i):ClJ G pb H0 n0 m0 line col nm sup H2 (n+2) t (fs++[a]) ms v' vm cs:=by
 have hb:=j.x.b
 have hn:=j.hn
 have low:∀id,id<m0->id≠n0+1->T.get H2 id=T.get H id:=λid h1 h2=>(ht id h2).trans (hs id (by omega) λh=>by have:=j.hf.ge h;omega)
 have hvm:∀id,vm.Qa=some id->id<n:=j.hm.lo
 refine⟨⟨⟨by have:=j.x.f.le;omega,λid hid hp=>(low id (by omega) (by omega)).trans (j.x.f.same id hid hp)⟩,j.x.p.same λid hid=>low id (by omega) (by omega),hb⟩,by omega,(low n0 (by omega) (by omega)).trans j.g1,g2,?_,
  ⟨j.hm.gr.mono λid hid=>(ht id (by have:=j.hm.ge hid;omega)).trans (hs id (hvm id hid) λh=>j.ne id h hid),j.hm.lo.mono (by omega)⟩,λid h1 h2=>by have:=hw id h1;have:=hvm id h2;omega,?_⟩
 ·rw[List.map_append]
  exact⟨ho.gr.mono λid hid=>ht id (by have:=ho.ge hid;omega),ho.lo⟩
 ·exact j.hc.mono (λid h=>⟨h.1,by have:=h.2.1;omega,λh2=>by have:=hw id h2;have:=h.2.1;omega,h.2.2.2⟩) λid h=>(ht id (by have:=h.1;omega)).trans (hs id h.2.1 h.2.2.1)
theorem ClJ.Aa3{H0 H H1 H2:Heap}{n0 m0 line col n:Nat}{nm sup:Bs}{t:S}{fs:List Va}{ms:List Me}{vf vm v':V}{cs:D5}{c:LV}{e:Me}{A:Nat->Prop}(j:ClJ G pb H0 n0 m0 line col nm sup H n t fs ms vf vm cs)(hm0:n0+2<=m0)
 (hx:aY G H A c e) (hA:∀id,A id->m0<=id/\id<n/\vf.Qa≠some id/\vm.Qa≠some id)
 (ho:Own G H1 m0 (n+2) 8 v' (cs++[c])) (hs:∀id,id<n->vm.Qa≠some id->T.get H1 id=T.get H id) (hw:∀id,v'.Qa=some id->id=n+1)
 (g2:T.get H2 (n0+1)=some (one (clC line col nm sup vf v'))) (ht:∀i,i≠n0+1->T.get H2 i=T.get H1 i):ClJ G pb H0 n0 m0 line col nm sup H2 (n+2) t fs (ms++[e]) vf v' (cs++[c]):=by
 have hb:=j.x.b
 have hn:=j.hn
 have low:∀id,id<m0->id≠n0+1->T.get H2 id=T.get H id:=λid h1 h2=>(ht id h2).trans (hs id (by omega) λh=>by have:=j.hm.ge h;omega)
 have hvf:∀id,vf.Qa=some id->id<n:=j.hf.lo
 have hx:aY G H (λid=>m0<=id/\id<n/\vf.Qa≠some id/\vm.Qa≠some id) c e:=hx.mono hA λ_ _=>rfl
 refine⟨⟨⟨by have:=j.x.f.le;omega,λid hid hp=>(low id (by omega) (by omega)).trans (j.x.f.same id hid hp)⟩,j.x.p.same λid hid=>low id (by omega) (by omega),hb⟩,by omega,(low n0 (by omega) (by omega)).trans j.g1,g2,
  ⟨j.hf.gr.mono λid hid=>(ht id (by have:=j.hf.ge hid;omega)).trans (hs id (hvf id hid) λh=>j.ne id hid h),j.hf.lo.mono (by omega)⟩,⟨ho.gr.mono λid hid=>ht id (by have:=ho.ge hid;omega),ho.lo⟩,λid h1 h2=>by have:=hw id h2;have:=hvf id h1;omega,?_⟩
 exact(j.hc.app (.cons hx .nil)).mono (λid h=>⟨h.1,by have:=h.2.1;omega,h.2.2.1,λh2=>by have:=hw id h2;have:=h.2.1;omega⟩) λid h=>(ht id (by have:=h.1;omega)).trans (hs id h.2.1 h.2.2.2)
theorem ASH{f:Nat}{c:Cl}(h:aP G H pb s)(hb:pb<n)(hm:ALS f s=some (c,s'))(hk:ClK G pb H n s' c k):Runs F G Xw [.ptr pb 0] H n k:=by
 refine Am (s:=Ho (ND lfp G)) Qe (by obtain⟨h,o⟩:=nR Ap G;rw[Qe]at h;cases h;exact o) ?_
 show ND lfp G (Runs F G) (.ptr pb 0) H n k
 delta ND
 obtain⟨s1,h1,hm⟩:=Option.bind_eq_some_iff.1 hm
 obtain⟨⟨nm,s2⟩,h2,hm⟩:=Option.bind_eq_some_iff.1 hm
 obtain⟨⟨b,s3⟩,h3,hm⟩:=Option.bind_eq_some_iff.1 hm
 obtain⟨⟨sup,s4⟩,h4,hm⟩:=Option.bind_eq_some_iff.1 hm
 obtain⟨s5,h5,hm⟩:=Option.bind_eq_some_iff.1 hm
 obtain⟨⟨⟨fs1,ms1⟩,s6⟩,h6,hm⟩:=Option.bind_eq_some_iff.1 hm
 have hm:some (Cl.mk nm sup fs1 ms1,bif s6.ok&& !decide (s6.t.kind=0)then Gy 21 s6 else s6)=some (c,s'):=hm
 have x:=Fr.refl h hb
 refine Az rfl λH1 f1 g1=>?_
 have x:=x.al f1
 obtain⟨v,tid,o,line,col,e0,ea,hline,_,_,_,_,e5⟩:=x.p.tok
 refine AB (v:=.ptr pb 0) rfl (AB (v:=.ptr pb 0) rfl (AB e0 (AB ea (AB (v:=.ptr tid (o+3)) (AZ ..) (AB e5 (AB AZO ?_))))))
 refine Az rfl λH2 f2 g2=>?_
 have x:=x.al f2
 have g1:=f2.get g1 (by omega)
 refine CG g2 rfl rfl (by omega) λH3 g2 t3=>?_
 have x:=x.st (by omega) t3
 have g1:=(t3 n (by omega)).trans g1
 clear t3 f2 f1 e0 ea e5
 refine LM (ws:=[OE]) x.p x.lt rfl (by show 1<=1000;omega) h1 λH4 n4 y=>?_
 have x:=x.tr y
 have hn4:=y.le
 have g1:=y.get g1 (by omega) hb
 have g2:=y.get g2 (by omega) (by omega)
 refine fU x.p x.lt h2 λH5 n5 y=>?_
 have x:=x.tr y
 have hn5:=y.le
 have g1:=y.get g1 (by omega) hb
 have g2:=y.get g2 (by omega) (by omega)
 refine AB (v:=.ptr (n+1) 2) (by rw[AZ,Nat.zero_add]) ?_
 refine Ej g2 rfl rfl (by omega) (by show 2+1<=6;omega) λH6 g2 t6=>?_
 have x:=x.st (by omega) t6
 have g1:=(t6 n (by omega)).trans g1
 rw[show V.str 7 32480047633037413=sB Fv from rfl]
 refine Oq x.p x.lt h3 λH7 n7 y=>?_
 have x:=x.tr y
 have hn7:=y.le
 have g1:=y.get g1 (by omega) hb
 have g2:=y.get g2 (by omega) (by omega)
 have members:∀{H8:Heap} {n8:Nat},Fr G pb H n H8 n8 s4->n+2<=n8->T.get H8 n=some (one clZ)->T.get H8 (n+1)=some (one (clC line col nm sup .Ae .Ae))->Gw lfp G (Runs F G) k (.ptr pb 0) (.ptr n 0) (.ptr (n+1) 0) H8 n8:=by
  intro H8 n8 x hn8 g1 g2
  delta Gw
  refine LM (ws:=[OC]) x.p x.lt rfl (by show 1<=1000;omega) h5 λH9 n9 y=>?_
  have x:=x.tr y
  have hn9:=y.le
  have g1:=y.get g1 (by omega) hb
  have g2:=y.get g2 (by omega) (by omega)
  refine O3 (J:=λg r=>∃H' n' t fs ms vf vm cs,r=(.ptr pb 0,.ptr n 0,.ptr (n+1) 0,H',n')/\ClJ G pb H n n9 line col nm sup H' n' t fs ms vf vm cs/\(t.ok=true->fs.length<=200/\ms.length<=200)/\fs.length<=201/\ms.length<=201/\Hl f g fs ms t=some ((fs1,ms1),s6)) ?_ (m:=f)
   ⟨H9,n9,s5,[],[],.Ae,.Ae,[],rfl,⟨x,Nat.le_refl _,g1,g2,Xp,Xp,λ_ h=>(by cases h),.nil⟩,λ_=>⟨Nat.zero_le _,Nat.zero_le _⟩,Nat.zero_le _,Nat.zero_le _,h6⟩
  have hm9:n+2<=n9:=by omega
  clear g1 g2 x y hn9 hn8
  rintro I g r ⟨H10,n10,t,fs,ms,vf,vm,cs,rfl,j,hle,hf1,hm1,hm6⟩ ih
  show Ny lfp G (Runs F G) k I (.ptr pb 0) (.ptr n 0) (.ptr (n+1) 0) H10 n10
  delta Ny
  cases g with
  |zero=>cases hm6
  |succ g=>
   have hm6:(bif t.ok then(C9 m_rc t).bind λp=>bif p.1 then some ((fs,ms),p.2)else
    (C9 PY p.2).bind λp=>bif p.1 then(fQ p.2).bind λt=>(Jp 3 t.2).bind λn=>(CJ [Aw] (GZ (fs.length+1) n.2)).bind λs1=>Hl f g (fs++[⟨n.1,t.1⟩]) ms s1 else
    bif Kw [F9,E5] p.2 then(ZV f p.2).bind λm=>Hl f g fs (ms++[m.1]) (GZ (ms.length+1) m.2)else
    Hl f g fs ms (Gy 21 p.2)
    else some ((fs,ms),t))=some ((fs1,ms1),s6):=hm6
   have fin:∀{H3:Heap} {n3:Nat} {t3:S},Fr G pb H10 n10 H3 n3 t3->some ((fs,ms),t3)=some ((fs1,ms1),s6)->JK lfp G (Runs F G) k (.ptr pb 0) (.ptr n 0) (.ptr (n+1) 0) H3 n3:=by
    intro H14 n14 t3 y he
    cases he
    have j:=j.fr y hm9
    delta JK
    have out:∀{H':Heap} {n':Nat},Fr G pb H14 n14 H' n' s'->Gp lfp G (Runs F G) k (.ptr n 0) (.ptr (n+1) 0) H' n':=by
     intro H15 n15 y
     have j:=j.fr y hm9
     have hn:=j.hn
     delta Gp
     refine AB (Ai (m:=6) j.g2 (by omega) rfl) ?_
     refine CG j.g1 rfl rfl (by omega) λH17 g1 t17=>?_
     rw[DX (m:=6) g1 (by omega) rfl]
     simp only[go_sem]
     have ec:c=Cl.mk nm sup fs1 ms1:=by cases hm;rfl
     subst ec
     refine hk _ _ _ (j.x.st (Nat.le_refl _) t17) (.mk line col ⟨(j.hf.el (by omega)).same λid hid=>t17 id ?_,(QL j.hf.gr).1,(QL j.hf.gr).2.1,(QL j.hf.gr).2.2,λid hid=>⟨by have:=j.hf.ge hid;omega,j.hf.lo id hid⟩⟩
      ⟨cs,(j.hm.el (by omega)).same λid hid=>t17 id ?_,(QL j.hm.gr).1,(QL j.hm.gr).2.1,(QL j.hm.gr).2.2,λid hid=>⟨by have:=j.hm.ge hid;omega,j.hm.lo id hid⟩,j.hc.mono (λid h=>⟨by have:=h.1;omega,h.2.1⟩) λid h=>t17 id (by have:=h.1;omega)⟩) ⟨line,hline,rfl⟩
     ·have:=j.hf.ge hid;omega
     ·have:=j.hm.ge hid;omega
    refine ANj j.x.p ?_
    cases ho:s6.ok with
    |false=>
     rw[ho]at hm
     have hs:s'=s6:=by simp at hm;exact hm.2.symm
     subst hs
     simp only[go_sem]
     exact out (Fr.refl j.x.p j.x.lt)
    |true=>
     obtain⟨v,tid,o,line,col,e0,e1,x1,x2,e2,e3,e4,e5⟩:=j.x.p.tok
     rw[ho]at hm
     simp only[go_sem,Nat.reduceAdd,Nat.add_zero,e0,e1,e3,YX]
     cases hd:decide (s6.t.kind=0)with
     |true=>
      rw[hd]at hm
      have hs:s'=s6:=by simp at hm;exact hm.2.symm
      subst hs
      simp only[go_sem,Bool.not_true]
      exact out (Fr.refl j.x.p j.x.lt)
     |false=>
      rw[hd]at hm
      have hs:s'=Gy 21 s6:=by simp at hm;exact hm.2.symm
      subst hs
      simp only[go_sem,Bool.not_false]
      exact kQ j.x.p j.x.lt λH15 n15 y=>out y
   rw[AYh]
   refine AAE j.x.p j.x.lt (λhf=>fin (Fr.refl j.x.p j.x.lt) (by rw[hf]at hm6;exact hm6)) λht=>?_
   rw[ht,cond_true]at hm6
   obtain⟨⟨b2,t2⟩,h2,hm6⟩:=Option.bind_eq_some_iff.1 hm6
   refine⟨b2,t2,h2,λH11 n11 y=>?_⟩
   cases b2 with
   |true=>exact fin y hm6
   |false=>
    rw[cond_false]
    obtain⟨hlf,hlm⟩:=hle ht
    have j:=j.fr y hm9
    clear y fin
    obtain⟨⟨b3,t3⟩,h3,hm6⟩:=Option.bind_eq_some_iff.1 (show((C9 PY t2).bind λp=>bif p.1 then(fQ p.2).bind λt=>(Jp 3 t.2).bind λn=>(CJ [Aw] (GZ (fs.length+1) n.2)).bind λs1=>Hl f g (fs++[⟨n.1,t.1⟩]) ms s1 else
     bif Kw [F9,E5] p.2 then(ZV f p.2).bind λm=>Hl f g fs (ms++[m.1]) (GZ (ms.length+1) m.2)else
     Hl f g fs ms (Gy 21 p.2))=some ((fs1,ms1),s6)from hm6)
    rw[show V.str 5 431315315046=sB PY from rfl]
    refine Oq j.x.p j.x.lt h3 λH12 n12 y=>?_
    have j:=j.fr y hm9
    cases b3 with
    |true=>
     obtain⟨⟨pt,t4⟩,h4,hm6⟩:=Option.bind_eq_some_iff.1 (show((fQ t3).bind λt=>(Jp 3 t.2).bind λn=>(CJ [Aw] (GZ (fs.length+1) n.2)).bind λs1=>Hl f g (fs++[⟨n.1,t.1⟩]) ms s1)=some ((fs1,ms1),s6)from hm6)
     obtain⟨⟨pn,t5⟩,h5,hm6⟩:=Option.bind_eq_some_iff.1 hm6
     obtain⟨t6,h6,hm6⟩:=Option.bind_eq_some_iff.1 hm6
     have hm6:Hl f g (fs++[⟨pn,pt⟩]) ms t6=some ((fs1,ms1),s6):=hm6
     have h6:CJ [Aw] (GZ (fs.length+1) t5)=some t6:=h6
     rw[Ah]
     refine AL7 j.x.p j.x.lt h4 λH13 n13 y=>?_
     have j:=j.fr y hm9
     have hn:=j.hn
     refine Az rfl λH14 f14 g14=>?_
     refine CG (L:=tyC pt) g14 rfl rfl (by omega) λH15 g15 t15=>?_
     have j:=j.al (⟨f14.le,λid hid=>(t15 id (by omega)).trans (f14.same id hid)⟩:Kp H13 n13 H15 (n13+1)) hm9
     refine AB (v:=.ptr (n+1) 4) (by rw[AZ,Nat.zero_add]) (AB (AQ (off:=4) j.g2 (v:=vf) rfl) (AB (Ai (m:=2) g15 (by omega) rfl) ?_))
     refine fU j.x.p j.x.lt h5 λH16 n16 y=>?_
     have j:=j.fr y hm9
     have hn16:=y.le
     have g15:=y.get g15 (by omega) (by omega)
     refine AB (AQ (off:=4) j.g2 (v:=vf) rfl) (Cc (AOM j.hf.gr) (AB (Ai (m:=2) g15 (by omega) rfl) (Cc (AIC pt) (AB (AUS ..) ?_))))
     have hj:=j.hn
     refine ADE (bs:=40) j.hf (by omega) (by omega) rfl rfl (by rw[List.length_map];omega) λv' H17 ho hsame hnew=>?_
     have g2:=(hsame (n+1) (by omega) λh=>by have:=j.hf.ge h;omega).trans j.g2
     refine AB (v:=.ptr (n+1) 4) (by rw[AZ,Nat.zero_add]) ?_
     refine Ej g2 (QL ho.gr).2.1 (by rw[(QL ho.gr).2.2];rfl) (by omega) (by show 4+1<=6;omega) λH18 g2 t18=>?_
     rw[(QL ho.gr).2.2]at g2
     have j:=j.AbI (a:=⟨pn,pt⟩) hm9 ho hsame hnew g2 t18
     refine AB (v:=.ptr (n+1) 4) (by rw[AZ,Nat.zero_add]) (AB (AQ (off:=4) j.g2 (v:=v') rfl) ?_)
     rw[(j.hf.el (by omega)).len,Au,List.length_map,List.length_append]
     refine AHc j.x.p j.x.lt λH19 n19 y=>?_
     have j:=j.fr y hm9
     refine LM (ws:=[Aw]) j.x.p j.x.lt rfl (by show 1<=1000;omega) h6 λH20 n20 y=>?_
     have j:=j.fr y hm9
     have hok:t6.ok=true->fs.length+1<=200:=λh=>ADi (t:=t5) (ATy h6 h)
     exact ih g _ (by omega) ⟨H20,n20,t6,_,_,v',vm,cs,rfl,j,λh=>⟨by rw[List.length_append];exact hok h,hlm⟩,by rw[List.length_append];show fs.length+1<=201;omega,hm1,hm6⟩
    |false=>
     rw[Aq]
     have hm6:(bif Kw [F9,E5] t3 then(ZV f t3).bind λm=>Hl f g fs (ms++[m.1]) (GZ (ms.length+1) m.2)else Hl f g fs ms (Gy 21 t3))=some ((fs1,ms1),s6):=hm6
     refine vT (ws:=[F9,E5]) j.x.p j.x.lt rfl (by show 2<=1000;omega) λH13 n13 y=>?_
     have j:=j.fr y hm9
     cases hi:Kw [F9,E5] t3 with
     |true=>
      rw[hi,cond_true]at hm6
      obtain⟨⟨m,t4⟩,h4,hm6⟩:=Option.bind_eq_some_iff.1 hm6
      have hm6:Hl f g fs (ms++[m]) (GZ (ms.length+1) t4)=some ((fs1,ms1),s6):=hm6
      rw[Ah]
      refine AB (v:=.ptr (n+1) 5) (by rw[AZ,Nat.zero_add]) (AB (AQ (off:=5) j.g2 (v:=vm) rfl) ?_)
      refine AOb j.x.p j.x.lt h4 λH14 n14 l y hx=>?_
      have hlv:∀id,vf.Qa=some id->id<n13:=j.hf.lo
      have hlw:∀id,vm.Qa=some id->id<n13:=j.hm.lo
      have h13:=j.hn
      have j:=j.fr y hm9
      refine AB (AQ (off:=5) j.g2 (v:=vm) rfl) (Cc (AOM j.hm.gr) ?_)
      refine ADE (bs:=112) j.hm j.hn (by omega) hx.len rfl (by rw[j.hc.len];omega) λv' H17 ho hsame hnew=>?_
      have hj:=j.hn
      have g2:=(hsame (n+1) (by omega) λh=>by have:=j.hm.ge h;omega).trans j.g2
      refine AB (v:=.ptr (n+1) 5) (by rw[AZ,Nat.zero_add]) ?_
      refine Ej g2 (QL ho.gr).2.1 (by rw[(QL ho.gr).2.2];rfl) (by omega) (by show 5+1<=6;omega) λH18 g2 t18=>?_
      rw[(QL ho.gr).2.2]at g2
      have j:=j.Aa3 hm9 hx (λid h=>⟨by have:=h.1;omega,h.2,λh2=>by have:=hlv id h2;have:=h.1;omega,λh2=>by have:=hlw id h2;have:=h.1;omega⟩) ho hsame hnew g2 t18
      refine AB (v:=.ptr (n+1) 5) (by rw[AZ,Nat.zero_add]) (AB (AQ (off:=5) j.g2 (v:=v') rfl) ?_)
      rw[(j.hm.el (by omega)).len,Au,j.hc.len,List.length_append]
      refine AHc j.x.p j.x.lt λH19 n19 y=>?_
      have j:=j.fr y hm9
      exact ih g _ (by omega) ⟨H19,n19,_,_,_,vf,v',_,rfl,j,λh=>⟨hlf,by rw[List.length_append];exact ADi h⟩,hf1,by rw[List.length_append];show ms.length+1<=201;omega,hm6⟩
     |false=>
      rw[hi,cond_false]at hm6
      rw[Aq]
      refine kQ j.x.p j.x.lt λH14 n14 y=>?_
      have j:=j.fr y hm9
      exact ih g _ (by omega) ⟨H14,n14,_,_,_,vf,vm,_,rfl,j,λ_=>⟨hlf,hlm⟩,hf1,hm1,hm6⟩
 cases b with
 |true=>
  rw[Ah]
  have h4:Jp 2 s3=some (sup,s4):=h4
  refine fU x.p x.lt h4 λH8 n8 y=>?_
  have x:=x.tr y
  have hn8:=y.le
  have g1:=y.get g1 (by omega) hb
  have g2:=y.get g2 (by omega) (by omega)
  refine AB (v:=.ptr (n+1) 3) (by rw[AZ,Nat.zero_add]) ?_
  refine Ej g2 rfl rfl (by omega) (by show 3+1<=6;omega) λH9 g2 t9=>?_
  exact members (x.st (by omega) t9) (by omega) ((t9 n (by omega)).trans g1) g2
 |false=>
  rw[Aq]
  cases h4
  exact members x (by omega) g1 g2
end
def aV(e line col:Nat):LV:=[.int .i64 (.ofNat e) 0,.int .i64 (.ofNat line) 0,.int .i64 (.ofNat col) 0]
theorem ALM(e line col:Nat):BU (.agg (aV e line col)) (.agg (aV e line col))=true:=AEB λv hv=>by simp[aV]at hv;rcases hv with rfl|rfl|rfl<;>exact kS ..
def kE(f:Nat)(s:Bs):Option (Option Cl×Nat):=bif decide ((zV s).1=0)then(AHE f (zV s).2).bind λp=>some (bif decide (p.2=0)then(some p.1,0)else(none,p.2))else some (none,(zV s).1)
def ClO(G:AV)(H:Heap)(A:Nat->Prop)(c:LV):Option Cl->Prop
 |none=>c=clZ
 |some cl=>XF G H A c cl/\AQX c
def FtO(e:Nat)(ft:LV):Prop:=∃line col,ft=aV e line col/\(e≠0->1<=line/\1<=col)/\(e=0->line=0/\col=0)
theorem FtO.z:FtO 0 (aV 0 0 0):=⟨0,0,rfl,λh=>absurd rfl h,λ_=>⟨rfl,rfl⟩⟩
theorem AKq:Bh (aV 0 0 0) []=some (.agg (aV 0 0 0)):=rfl
section
variable{G:AV}{H:Heap}{n:Nat}{s:Bs}{k:KV}
theorem AGc{f e:Nat}{o:Option Cl}(hG:X4 G)(hm:kE f s=some (o,e))(hk:∀H' n' c ft,Kp H n H' n'->ClO G H' (Rg n n') c o->FtO e ft->k (.J4 [.agg c,.agg ft]) H' n'):Runs F G dX [sB s] H n k:=by
 refine Am (s:=Ho (Xk lfp G)) Zy (by obtain⟨h,o⟩:=ADx Ap G;rw[Zy]at h;cases h;exact o) ?_
 show Xk lfp G (Runs F G) (sB s) H n k
 delta Xk
 refine Az rfl λH1 f1 g1=>?_
 refine Az rfl λH2 f2 g2=>?_
 have g1:=f2.get g1 (by omega)
 have f2:=f1.trans f2
 refine AU0 hG ?_
 intro H3 n3 v c f3 h0 h1
 have g1:=f3.get g1 (by omega)
 have g2:=f3.get g2 (by omega)
 have hn3:=f3.le
 have f2:=f2.trans f3
 unfold kE at hm
 simp only[wG,wz,Au]
 cases he:decide ((zV s).1=0)with
 |false=>
  rw[he]at hm
  cases hm
  have he:=of_decide_eq_false he
  obtain⟨line,col,x1,x2,rfl⟩:=h1 he
  refine Az rfl λH4 f4 g4=>?_
  refine CG g4 rfl rfl (by omega) λH5 g4 t5=>?_
  have f45:Kp H3 n3 H5 (n3+1):=⟨f4.le,λid hid=>(t5 id (by omega)).trans (f4.same id hid)⟩
  have g1:=f45.get g1 (by omega)
  have g2:=f45.get g2 (by omega)
  have f2:=f2.trans f45
  refine AB (v:=.ptr n3 0) (by rw[AZ]) (AB (AQ (off:=0) g4 (v:=.int .i64 (.ofNat (zV s).1) 0) rfl) ?_)
  rw[YX,Au,decide_eq_false he,Bool.not_false,Ah]
  refine AB AOu (AB (Ai (m:=3) g4 (by omega) rfl) ?_)
  refine CG g1 rfl rfl (by omega) λH6 g1 t6=>?_
  have g4:=(t6 n3 (by omega)).trans g4
  have g2:=(t6 (n+1) (by omega)).trans g2
  refine AB (Ai (m:=3) g4 (by omega) rfl) (Cc (ALM ..) ?_)
  refine CG g2 rfl rfl (by omega) λH7 g2 t7=>?_
  have g1:=(t7 n (by omega)).trans g1
  rw[DX (m:=6) g1 (by omega) rfl,DX (m:=3) g2 (by omega) rfl]
  simp only[go_sem]
  exact hk _ _ _ _ ⟨by have:=f2.le;omega,λid hid=>(t7 id (by omega)).trans ((t6 id (by omega)).trans (f2.same id hid))⟩ rfl ⟨line,col,rfl,λ_=>⟨x1,x2⟩,λh=>absurd h he⟩
 |true=>
  rw[he,cond_true]at hm
  have he:=of_decide_eq_true he
  obtain⟨⟨cl,e1⟩,hp,hm⟩:=Option.bind_eq_some_iff.1 hm
  obtain⟨⟨cs,tid,rfl,ht1,ht2,hel,htk⟩,rfl⟩:=h0 he
  refine Az rfl λH4 f4 g4=>?_
  refine CG (L:=aV 0 0 0) g4 rfl rfl (by omega) λH5 g4 t5=>?_
  have f45:Kp H3 n3 H5 (n3+1):=⟨f4.le,λid hid=>(t5 id (by omega)).trans (f4.same id hid)⟩
  have g1:=f45.get g1 (by omega)
  have g2:=f45.get g2 (by omega)
  have hel:=hel.kp (λid hid=>by cases jq hid;exact ht2) f45
  have f2:=f2.trans f45
  refine AB (v:=.ptr n3 0) (by rw[AZ]) (AB (AQ (off:=0) g4 (v:=.int .i64 (.ofNat 0) 0) rfl) ?_)
  rw[YX,Au,decide_eq_true rfl,Bool.not_true,Aq]
  refine AB AZh ?_
  refine Dk λH6 f6 g6=>?_
  have g1:=f6.get g1 (by omega)
  have g2:=f6.get g2 (by omega)
  have hel:=hel.kp (λid hid=>by cases jq hid;omega) f6
  have f2:=f2.trans f6
  cases hl:(zV s).2 with
  |nil=>rw[hl]at hp;cases hp
  |cons t r=>
   rw[hl]at hp htk
   obtain⟨⟨cl',s'⟩,hc,hp⟩:=Option.bind_eq_some_iff.1 (show((ALS f ⟨t,r,0,0⟩).bind λp=>some (p.1,p.2.e))=some (cl,e1)from hp)
   have hcl:cl'=cl:=by cases hp;rfl
   have hce:s'.e=e1:=by cases hp;rfl
   subst hcl;subst hce
   have hpa:aP G H6 (n3+1) ⟨t,r,0,0⟩:=.mk (s:=⟨t,r,0,0⟩) g6 hel htk (λh=>absurd rfl h) (by omega)
   refine ASH hpa (by omega) hc λH7 n7 l y hx hline=>?_
   have hn7:=y.le
   have g1:=(y.f.same n (by omega) (by omega)).trans g1
   have g2:=(y.f.same (n+1) (by omega) (by omega)).trans g2
   have f2:Kp H n H7 n7:=⟨by have:=f2.le;omega,λid hid=>(y.f.same id (by omega) (by omega)).trans (f2.same id hid)⟩
   refine Az rfl λH8 f8 g8=>?_
   refine CG g8 rfl hx.len (by omega) λH9 g9 t9=>?_
   have f9:Kp H7 n7 H9 (n7+1):=⟨f8.le,λid hid=>(t9 id (by omega)).trans (f8.same id hid)⟩
   have g1:=f9.get g1 (by omega)
   have g2:=f9.get g2 (by omega)
   have f2:=f2.trans f9
   have hx:XF G H9 (Rg (n3+1+1) n7) l cl':=hx.mono (λid h=>h) λid h=>f9.same id h.2
   have p9:=y.p.kp f9 (by omega)
   refine ANj p9 ?_
   rw[MF,Au]
   cases ho:s'.ok with
   |true=>
    have he0:s'.e=0:=of_decide_eq_true ho
    rw[he0]at hp
    have hm:some (some cl',0)=some (o,e):=by rw[<-hm];show _=some (bif decide (s'.e=0)then(some cl',0)else(none,s'.e));rw[he0];rfl
    cases hm
    rw[Bool.not_true,Aq]
    refine AB (Ai (m:=6) g9 (by omega) hx.len) (AB AKq ?_)
    refine CG g1 rfl hx.len (by omega) λH10 g1 t10=>?_
    have g2:=(t10 (n+1) (by omega)).trans g2
    refine CG g2 rfl rfl (by omega) λH11 g2 t11=>?_
    have g1:=(t11 n (by omega)).trans g1
    rw[DX (m:=6) g1 (by omega) hx.len,DX (m:=3) g2 (by omega) rfl]
    simp only[go_sem]
    exact hk _ _ _ _ ⟨by have:=f2.le;omega,λid hid=>(t11 id (by omega)).trans ((t10 id (by omega)).trans (f2.same id hid))⟩
     ⟨hx.mono (λid h=>⟨by have:=h.1;omega,by have:=h.2;omega⟩) λid h=>(t11 id (by have:=h.1;omega)).trans (t10 id (by have:=h.1;omega)),hline⟩ FtO.z
   |false=>
    have he0:s'.e≠0:=of_decide_eq_false ho
    have hm:some (none,s'.e)=some (o,e):=by rw[<-hm];show _=some (bif decide (s'.e=0)then(some cl',0)else(none,s'.e));rw[decide_eq_false he0];rfl
    cases hm
    rw[Bool.not_false,Ah]
    refine AB AOu (AB (v:=.ptr (n3+1) 0) rfl (AB (v:=.ptr (n3+1) 2) (by rw[AZ,Nat.zero_add]) ?_))
    cases p9 with
    |mk hg he ht hp hl=>
     rename_i tid' off line col cs'
     obtain⟨x1,x2⟩:=hp he0
     refine AB (OZ (m:=3) (o:=2) hg (by omega) (by show 2+3<=5;omega)) ?_
     refine CG g1 rfl rfl (by omega) λH10 g1 t10=>?_
     have g2:=(t10 (n+1) (by omega)).trans g2
     have hg:=(t10 (n3+1) (by omega)).trans hg
     refine AB (OZ (m:=3) (o:=2) hg (by omega) (by show 2+3<=5;omega)) (Cc (ALM ..) ?_)
     refine CG (L:=aV s'.e line col) g2 rfl rfl (by omega) λH11 g2 t11=>?_
     have g1:=(t11 n (by omega)).trans g1
     rw[DX (m:=6) g1 (by omega) rfl,DX (m:=3) g2 (by omega) rfl]
     simp only[go_sem]
     exact hk _ _ _ _ ⟨by have:=f2.le;omega,λid hid=>(t11 id (by omega)).trans ((t10 id (by omega)).trans (f2.same id hid))⟩ rfl ⟨line,col,rfl,λ_=>⟨x1,x2⟩,λh=>absurd h he0⟩
end
end Go.PQ
