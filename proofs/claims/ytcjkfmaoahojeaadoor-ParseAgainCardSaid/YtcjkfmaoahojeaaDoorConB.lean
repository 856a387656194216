/- Part of a proof; nothing is assumed. -/
import Derived.Test.YtcjkfmaoahojeaaDoorConA
set_option linter.unusedVariables false
set_option linter.unusedSimpArgs false
namespace Go.PQ
open Go.Eng
set_option maxRecDepth 100000
section
variable{G:AY}{pb:Nat}{H:Heap}{n:Nat}{s s':S}{k:KV}
theorem AR2{rec:PM Ex}{f:Nat}{e:Ex}(hr:AHy G pb rec)(h:YH G H pb s)(hb:pb<n)(hm:Qc rec f s=some (e,s'))(hk:ExK G pb H n s' e k):
 Runs F G XV [.ptr pb 0] H n k:=by
 refine Am (s:=IQ (Md lfp G)) PK (by obtain⟨h,o⟩:=mJ Ap G;rw[PK]at h;cases h;exact o) ?_
 show Md lfp G (Runs F G) (.ptr pb 0) H n k
 delta Md
 have x:=Fr.refl h hb
 refine BG rfl λH1 f1 g1=>?_
 have x:=x.al f1
 obtain⟨v,tid,o,line,col,e0,e1,_,_,e2,_,_,_⟩:=x.p.tok
 refine AB (v:=.ptr pb 0) rfl (AB (v:=.ptr pb 0) rfl (AB e0 (AB e1 (AB e2 ?_))))
 refine BG rfl λH2 f2 g2=>?_
 have x:=x.al f2
 have g1:=f2.get g1 (by omega)
 refine DI (L:=TP s.t line col) g2 rfl rfl (by omega) λH3 g2 s3=>?_
 have x:=x.st (by omega) s3
 have g1:=(s3 n (by omega)).trans g1
 refine AB (v:=.ptr (n+1) 3) (Aa ..) (AB (MI (m:=2) (o:=3) g2 (by omega) (by show 3+2<=5;omega)) (AB ATO ?_))
 refine BG rfl λH4 f4 g4=>?_
 have x:=x.al f4
 have g1:=f4.get g1 (by omega)
 have g2:=f4.get g2 (by omega)
 refine DI (L:=iC 0 0 [] [] false line col .Aj) g4 rfl rfl (by omega) λH5 g4 s5=>?_
 have x:=x.st (by omega) s5
 have g1:=(s5 n (by omega)).trans g1
 have g2:=(s5 (n+1) (by omega)).trans g2
 clear s5 f4 s3 f2 f1 e0 e1 e2
 have fin:∀{H':Heap} {n':Nat} {c:LV},Fr G pb H n H' n' s'->T.get H' n=some (one exZ)->T.get H' (n+2)=some (one c)->ER G H' (λid=>n+2<id/\id<n') c e->Aw lfp G (Runs F G) k (.ptr n 0) (.ptr (n+2) 0) H' n':=by
  intro H' n' c x g1 g4 hx
  delta Aw
  exact qG x g1 rfl g4 (Nat.le_refl _) hx (λid h=>⟨by have:=h.1;omega,h.2,by have:=h.1;omega⟩) hk
 have leaf:∀{H':Heap} {n' kd num:Nat} {nm ty:Bs} {arr:Bool},Fr G pb H n H' n' s'->T.get H' n=some (one exZ)->T.get H' (n+2)=some (one (iC kd num nm ty arr line col .Aj))->e=.mk kd num nm ty arr []->Aw lfp G (Runs F G) k (.ptr n 0) (.ptr (n+2) 0) H' n':=by
  intro H' n' kd num nm ty arr x g1 g4 he
  subst he
  exact fin x g1 g4 (.mk kd num nm ty arr line col AM6 ADb (λid h=>by cases h) .nil)
 have AKM:∀{H':Heap} {n' kd kd' num:Nat} {nm ty:Bs} {arr:Bool} {w:V} {P:KV},T.get H' (n+2)=some (one (iC kd num nm ty arr line col w))->(∀H'',T.get H'' (n+2)=some (one (iC kd' num nm ty arr line col w))->(∀j,j≠n+2->T.get H'' j=T.get H' j)->P .undef H'' n')->Df 1 (.ptr (n+2) 0) (.int .i64 (.ofNat kd') 0) H' n' P:=by
  intro H' n' kd kd' num nm ty arr w P g hP
  exact Ew g rfl rfl (by omega) (by show 0+1<=11;omega) λH'' g'' s''=>hP H'' g'' s''
 unfold Qc at hm
 refine AKv x.p ?_
 rw[Qv,BA]
 cases ho:s.ok with
 |false=>
  rw[ho]at hm
  cases hm
  rw[Bool.not_false,Bq]
  exact leaf x g1 g4 rfl
 |true=>
  rw[ho,Bool.not_true,cond_false]at hm
  have q0:AZ (.ptr (n+1) 0) G H5=some (.int .i64 (.ofNat s.t.kind) 0):=AQ g2 rfl
  rw[Bool.not_true,Bg]
  refine AB (v:=.ptr (n+1) 0) (Aa ..) (AB q0 (AB (VN ..) ?_))
  cases k4:decide (s.t.kind=4)with
  |true=>
   rw[k4,cond_true,Option.bind_eq_some_iff]at hm
   obtain⟨s1,h1,hm⟩:=hm
   cases hm
   rw[Bq]
   refine ZH x.p x.lt h1 λH6 n6 _ _ _ _ y=>?_
   have x:=x.tr y
   have g1:=y.get g1 (by omega) hb
   have g2:=y.get g2 (by omega) (by omega)
   have g4:=y.get g4 (by omega) (by omega)
   have q2:AZ (.ptr (n+1) 2) G H6=some (.int .i64 (.ofNat s.t.num) 0):=AQ g2 rfl
   refine AB (v:=.ptr (n+1) 2) (Aa ..) (AB q2 (AB (v:=.ptr (n+2) 0) (Aa ..) ?_))
   refine AKM g4 λH7 g4 s7=>?_
   have x:=x.st (by omega) s7
   have g1:=(s7 n (by omega)).trans g1
   have g2:=(s7 (n+1) (by omega)).trans g2
   have q2:AZ (.ptr (n+1) 2) G H7=some (.int .i64 (.ofNat s.t.num) 0):=AQ g2 rfl
   refine AB q2 (Dv (bM ..) (AB (v:=.ptr (n+2) 3) (Aa ..) ?_))
   refine Ew g4 rfl rfl (by omega) (by show 3+1<=11;omega) λH8 g8 s8=>?_
   exact leaf (kd:=1) (num:=s.t.num) (nm:=[]) (ty:=[]) (arr:=false) (x.st (by omega) s8) ((s8 n (by omega)).trans g1) g8 rfl
  |false=>
  rw[k4,cond_false]at hm
  rw[Bg]
  refine AB (v:=.ptr (n+1) 0) (Aa ..) (AB q0 (AB (VN ..) ?_))
  cases k3:decide (s.t.kind=3)with
  |true=>
   rw[k3,cond_true,Option.bind_eq_some_iff]at hm
   obtain⟨s1,h1,hm⟩:=hm
   cases hm
   rw[Bq]
   refine ZH x.p x.lt h1 λH6 n6 _ _ _ _ y=>?_
   have x:=x.tr y
   have g1:=y.get g1 (by omega) hb
   have g2:=y.get g2 (by omega) (by omega)
   have g4:=y.get g4 (by omega) (by omega)
   have q2:AZ (.ptr (n+1) 1) G H6=some (sB s.t.text):=AQ g2 rfl
   refine AB (v:=.ptr (n+1) 1) (Aa ..) (AB q2 (AB (v:=.ptr (n+2) 0) (Aa ..) ?_))
   refine AKM g4 λH7 g4 s7=>?_
   have x:=x.st (by omega) s7
   have g1:=(s7 n (by omega)).trans g1
   have g2:=(s7 (n+1) (by omega)).trans g2
   have q2:AZ (.ptr (n+1) 1) G H7=some (sB s.t.text):=AQ g2 rfl
   refine AB q2 (Dv (TB ..) (AB (v:=.ptr (n+2) 4) (Aa ..) ?_))
   refine Ew g4 rfl rfl (by omega) (by show 4+1<=11;omega) λH8 g8 s8=>?_
   exact leaf (kd:=6) (num:=0) (nm:=s.t.text) (ty:=[]) (arr:=false) (x.st (by omega) s8) ((s8 n (by omega)).trans g1) g8 rfl
  |false=>
  rw[k3,cond_false]at hm
  rw[Bg]
  refine AB (v:=.ptr (n+1) 0) (Aa ..) (AB q0 (AB (VN ..) ?_))
  cases k2:decide (s.t.kind=2)with
  |true=>
   rw[k2,cond_true,Option.bind_eq_some_iff]at hm
   obtain⟨s1,h1,hm⟩:=hm
   rw[Option.bind_eq_some_iff]at hm
   obtain⟨s2,h2,hm⟩:=hm
   rw[Option.bind_eq_some_iff]at hm
   obtain⟨⟨nm,s3⟩,h3,hm⟩:=hm
   rw[Option.bind_eq_some_iff]at hm
   obtain⟨⟨es,s4⟩,h4,hm⟩:=hm
   cases hm
   rw[Bq]
   refine ZH x.p x.lt h1 λH6 n6 l6 c6 _ _ y=>?_
   have x:=x.tr y
   have hn6:=y.le
   have g1:=y.get g1 (by omega) hb
   have g4:=y.get g4 (by omega) (by omega)
   refine AB (v:=sB s.t.text) (AMg rfl) ?_
   refine AAl λH7 f7=>?_
   have x:=x.al f7
   have g1:=f7.get g1 (by omega)
   have g4:=f7.get g4 (by omega)
   refine AB (v:=.ptr (n+2) 0) (Aa ..) ?_
   refine AKM g4 λH8 g4 s8=>?_
   have x:=x.st (by omega) s8
   have g1:=(s8 n (by omega)).trans g1
   refine AB (v:=.ptr (n+2) 5) (Aa ..) ?_
   refine Ew g4 rfl rfl (by omega) (by show 5+2<=11;omega) λH9 g4 s9=>?_
   have x:=x.st (by omega) s9
   have g1:=(s9 n (by omega)).trans g1
   have g4:T.get H9 (n+2)=some (one (iC 9 0 [] s.t.text false line col .Aj)):=g4
   refine KJ (ws:=[DJ]) x.p x.lt rfl (by show 1<=1000;omega) h2 λH10 n10 y=>?_
   have x:=x.tr y
   have hn10:=y.le
   have g1:=y.get g1 (by omega) hb
   have g4:=y.get g4 (by omega) (by omega)
   refine ZU x.p x.lt h3 λH11 n11 y=>?_
   have x:=x.tr y
   have hn11:=y.le
   have g1:=y.get g1 (by omega) hb
   have g4:=y.get g4 (by omega) (by omega)
   refine AB (v:=.ptr (n+2) 4) (Aa ..) ?_
   refine Ew g4 rfl rfl (by omega) (by show 4+1<=11;omega) λH12 g4 s12=>?_
   have x:=x.st (by omega) s12
   have g1:=(s12 n (by omega)).trans g1
   have g4:T.get H12 (n+2)=some (one (iC 9 0 nm s.t.text false line col .Aj)):=g4
   refine ALP hr x.p x.lt h4 λH13 n13 v y hes hle=>?_
   have x:=x.tr y
   have hn13:=y.le
   have g1:=y.get g1 (by omega) hb
   have g4:=y.get g4 (by omega) (by omega)
   obtain⟨cs,he1,he2,he3,he4,he5,he6⟩:=hes
   refine AB (v:=.ptr (n+2) 7) (Aa ..) ?_
   refine Ew g4 he3 (by rw[he4];rfl) (by omega) (by show 7+1<=11;omega) λH14 g14 s14=>?_
   rw[he4]at g14
   refine fin (c:=iC 9 0 nm s.t.text false line col v) (x.st (by omega) s14) ((s14 n (by omega)).trans g1) g14 ?_
   refine .mk 9 0 nm s.t.text false line col (he1.same λid hid=>s14 id (by have:=(he5 id hid).1;omega)) he2 (λid hid=>⟨by have:=(he5 id hid).1;omega,(he5 id hid).2⟩) (he6.mono (λid h=>⟨by have:=h.1;omega,h.2⟩) λid h=>s14 id (by have:=h.1;omega))
  |false=>
  rw[k2,cond_false]at hm
  rw[Bg]
  have kw:∀{w:Bs} {kd:Nat} {H':Heap} {n':Nat} {s1:S} {N:Bool×S->Option (Ex×S)} {R:Heap->Nat->Prop},Fr G pb H n H' n' s1->n+2<n'->T.get H' n=some (one exZ)->T.get H' (n+2)=some (one (iC 0 0 [] [] false line col .Aj))->
   (BZ w s1).bind N=some (e,s')->(∀s2,N (true,s2)=some (.mk kd 0 [] [] false [],s2))->
   (∀H'' n'' s2,Fr G pb H n H'' n'' s2->n+2<n''->T.get H'' n=some (one exZ)->T.get H'' (n+2)=some (one (iC 0 0 [] [] false line col .Aj))->N (false,s2)=some (e,s')->R H'' n'')->
   Runs F G Af [.ptr pb 0,sB w] H' n' λv H n'=>Ae v true (AP (AU 0 (.ptr (n+2) 0)) λv60=>Df 1 v60 (.int .i64 (.ofNat kd) 0) H n' λ_ H n'=>Aw lfp G (Runs F G) k (.ptr n 0) (.ptr (n+2) 0) H n') (R H n'):=by
   intro w kd H' n' s1 N R x hn' g1 g4 hm hN hR
   rw[Option.bind_eq_some_iff]at hm
   obtain⟨⟨b,s2⟩,h2,hm⟩:=hm
   refine NV x.p x.lt h2 λH6 n6 y=>?_
   have x:=x.tr y
   have hn6:=y.le
   have g1:=y.get g1 (by omega) hb
   have g4:=y.get g4 (by omega) (by omega)
   cases b with
   |true=>
    rw[hN]at hm
    cases hm
    rw[Bq]
    refine AB (v:=.ptr (n+2) 0) (Aa ..) ?_
    refine AKM g4 λH7 g4 s7=>?_
    exact leaf (kd:=kd) (num:=0) (nm:=[]) (ty:=[]) (arr:=false) (x.st (by omega) s7) ((s7 n (by omega)).trans g1) g4 rfl
   |false=>rw[Bg];exact hR _ _ _ x (by omega) g1 g4 hm
  refine kw (w:=Wv) x (by omega) g1 g4 hm (λ_=>rfl) λH6 n6 s6 x hn6 g1 g4 hm=>?_
  refine kw (w:=Rk) x (by omega) g1 g4 hm (λ_=>rfl) λH6 n6 s6 x hn6 g1 g4 hm=>?_
  refine kw (w:=Qp) x (by omega) g1 g4 hm (λ_=>rfl) λH6 n6 s6 x hn6 g1 g4 hm=>?_
  refine kw (w:=XB) x (by omega) g1 g4 hm (λ_=>rfl) λH6 n6 s6 x hn6 g1 g4 hm=>?_
  obtain⟨⟨b,s7⟩,h7,hm⟩:=Option.bind_eq_some_iff.1 hm
  rw[show V.str 3 7824750=sB Ib from rfl]
  refine NV x.p x.lt h7 λH7 n7 y=>?_
  have x:=x.tr y
  have hn7:=y.le
  have g1:=y.get g1 (by omega) hb
  have g4:=y.get g4 (by omega) (by omega)
  cases b with
  |true=>
   have hm:((Yu s7).bind λb=>(BZ Fe b.2).bind λq=>bif q.1 then(rec q.2).bind λx=>(BM [FV] x.2).bind λs1=>some ((.mk 11 0 [] b.1.nm b.1.arr [x.1]:Ex),s1)
    else some (.mk 10 0 [] b.1.nm b.1.arr [],bif ZT b.1 then q.2 else EJ 21 q.2))=some (e,s'):=hm
   rw[Option.bind_eq_some_iff]at hm
   obtain⟨⟨t,s8⟩,h8,hm⟩:=hm
   rw[Option.bind_eq_some_iff]at hm
   obtain⟨⟨b,s9⟩,h9,hm⟩:=hm
   rw[Bq]
   refine ANC x.p x.lt h8 λH8 n8 y=>?_
   have x:=x.tr y
   have hn8:=y.le
   have g1:=y.get g1 (by omega) hb
   have g4:=y.get g4 (by omega) (by omega)
   refine AB (v:=.ptr (n+2) 0) (Aa ..) ?_
   refine AKM g4 λH9 g4 t9=>?_
   have x:=x.st (by omega) t9
   have g1:=(t9 n (by omega)).trans g1
   refine AB (v:=.ptr (n+2) 5) (Aa ..) ?_
   refine Ew g4 rfl rfl (by omega) (by show 5+2<=11;omega) λH10 g4 t10=>?_
   have x:=x.st (by omega) t10
   have g1:=(t10 n (by omega)).trans g1
   have g4:T.get H10 (n+2)=some (one (iC 10 0 [] t.nm t.arr line col .Aj)):=g4
   rw[show V.str 1 91=sB Fe from rfl]
   refine NV x.p x.lt h9 λH11 n11 y=>?_
   have x:=x.tr y
   have hn11:=y.le
   have g1:=y.get g1 (by omega) hb
   have g4:=y.get g4 (by omega) (by omega)
   cases b with
   |true=>
    have hm:((rec s9).bind λx=>(BM [FV] x.2).bind λs1=>some ((.mk 11 0 [] t.nm t.arr [x.1]:Ex),s1))=some (e,s'):=hm
    rw[Option.bind_eq_some_iff]at hm
    obtain⟨⟨e1,s10⟩,h10,hm⟩:=hm
    rw[Option.bind_eq_some_iff]at hm
    obtain⟨s11,h11,hm⟩:=hm
    cases hm
    rw[Bq]
    refine hr _ _ _ _ _ _ x.p x.lt h10 λH12 n12 c y hx=>?_
    have x:=x.tr y
    have hn12:=y.le
    have g1:=y.get g1 (by omega) hb
    have g4:=y.get g4 (by omega) (by omega)
    refine O3 (G:=G) (vs:=[.agg c]) rfl (by omega) (λv hv=>by simp at hv;subst hv;exact hx.ok) λH13 f13 _ hel=>?_
    have x:=x.al f13
    have g1:=f13.get g1 (by omega)
    have g4:=f13.get g4 (by omega)
    refine AB (v:=.ptr (n+2) 0) (Aa ..) ?_
    refine AKM g4 λH14 g4 t14=>?_
    have x:=x.st (by omega) t14
    have g1:=(t14 n (by omega)).trans g1
    refine AB (v:=.ptr (n+2) 7) (Aa ..) ?_
    refine Ew g4 rfl rfl (by omega) (by show 7+1<=11;omega) λH15 g4 t15=>?_
    have x:=x.st (by omega) t15
    have g1:=(t15 n (by omega)).trans g1
    have g4:T.get H15 (n+2)=some (one (iC 11 0 [] t.nm t.arr line col (.sl n12 0 1 1 11))):=g4
    refine KJ (ws:=[FV]) x.p x.lt rfl (by show 1<=1000;omega) h11 λH16 n16 y=>?_
    have x:=x.tr y
    have hn16:=y.le
    have g1:=y.get g1 (by omega) hb
    have g4:=y.get g4 (by omega) (by omega)
    have same:∀id,n+2<id->id<n12+1->T.get H16 id=T.get H13 id:=λid h1 h2=>(y.f.same id (by omega) (by omega)).trans ((t15 id (by omega)).trans (t14 id (by omega)))
    refine fin x g1 g4 (.mk 11 0 [] t.nm t.arr line col (hel.same λid hid=>by cases Iq hid;exact same _ (by omega) (by omega)) (gy (by omega)) (λid hid=>by cases Iq hid;exact⟨by omega,by omega⟩) (.cons ?_ .nil))
    exact hx.mono (λid h=>⟨by have:=h.1;omega,by have:=h.2;omega⟩) λid h=>(same id (by have:=h.1;omega) (by have:=h.2;omega)).trans (f13.same id h.2)
   |false=>
    cases hm
    rw[Bg]
    have q5:A8 2 (.ptr (n+2) 5) G H11=some (.agg (tyC t)):=MI g4 (by omega) (by show 5+2<=11;omega)
    refine AB (v:=.ptr (n+2) 5) (Aa ..) (AB q5 ?_)
    refine APt λH12 f12=>?_
    have x:=x.al f12
    have g1:=f12.get g1 (by omega)
    have g4:=f12.get g4 (by omega)
    refine AB (Qv _) ?_
    cases hc:ZT t with
    |true=>
     have x:Fr G pb H n H12 (n11+1) s9:=x
     have leaf':= @leaf H12 (n11+1) 10 0 [] t.nm t.arr
     rw[hc]at leaf'
     rw[Bool.not_true,Bg]
     exact leaf' x g1 g4 rfl
    |false=>
     rw[Bool.not_false,Bq]
     refine dR x.p x.lt λH13 n13 y=>?_
     have x:=x.tr y
     have g1:=y.get g1 (by omega) hb
     have g4:=y.get g4 (by omega) (by omega)
     have leaf':= @leaf H13 n13 10 0 [] t.nm t.arr
     rw[hc]at leaf'
     exact leaf' x g1 g4 rfl
  |false=>
   have hm:((BZ Au s7).bind λp=>bif p.1 then(rec p.2).bind λx=>(BM [BD] x.2).bind λs1=>some (x.1,s1)else
    some (.mk 0 0 [] [] false [],EJ 21 p.2))=some (e,s'):=hm
   rw[Option.bind_eq_some_iff]at hm
   obtain⟨⟨b,s8⟩,h8,hm⟩:=hm
   rw[Bg,show V.str 1 40=sB Au from rfl]
   refine NV x.p x.lt h8 λH8 n8 y=>?_
   have x:=x.tr y
   have hn8:=y.le
   have g1:=y.get g1 (by omega) hb
   have g4:=y.get g4 (by omega) (by omega)
   cases b with
   |true=>
    have hm:((rec s8).bind λx=>(BM [BD] x.2).bind λs1=>some (x.1,s1))=some (e,s'):=hm
    rw[Option.bind_eq_some_iff]at hm
    obtain⟨⟨e1,s10⟩,h10,hm⟩:=hm
    rw[Option.bind_eq_some_iff]at hm
    obtain⟨s11,h11,hm⟩:=hm
    cases hm
    rw[Bq]
    refine hr _ _ _ _ _ _ x.p x.lt h10 λH12 n12 c y hx=>?_
    have x:=x.tr y
    have hn12:=y.le
    have g1:=y.get g1 (by omega) hb
    have g4:=y.get g4 (by omega) (by omega)
    refine DI g4 rfl hx.len (by omega) λH13 g4 t13=>?_
    have x:=x.st (by omega) t13
    have g1:=(t13 n (by omega)).trans g1
    refine KJ (ws:=[BD]) x.p x.lt rfl (by show 1<=1000;omega) h11 λH16 n16 y=>?_
    have x:=x.tr y
    have hn16:=y.le
    have g1:=y.get g1 (by omega) hb
    have g4:=y.get g4 (by omega) (by omega)
    refine fin x g1 g4 (hx.mono (λid h=>⟨by have:=h.1;omega,by have:=h.2;omega⟩) λid h=>?_)
    exact(y.f.same id h.2 (by have:=h.1;omega)).trans (t13 id (by have:=h.1;omega))
   |false=>
    cases hm
    rw[Bg]
    refine dR x.p x.lt λH13 n13 y=>?_
    have x:=x.tr y
    exact leaf (kd:=0) (num:=0) (nm:=[]) (ty:=[]) (arr:=false) x (y.get g1 (by omega) hb) (y.get g4 (by omega) (by omega)) rfl
end
section
variable{G:AY}{pb:Nat}{H:Heap}{n:Nat}{s s':S}{k:KV}
theorem APD{rec:PM Ex}{f:Nat}{e:Ex}(hr:AHy G pb rec)(h:YH G H pb s)(hb:pb<n)(hm:SV rec f s=some (e,s'))(hk:ExK G pb H n s' e k):
 Runs F G Vu [.ptr pb 0] H n k:=by
 refine Am (s:=IQ (LZ lfp G)) Oa (by obtain⟨h,o⟩:=iJ Ap G;rw[Oa]at h;cases h;exact o) ?_
 show LZ lfp G (Runs F G) (.ptr pb 0) H n k
 delta LZ
 have x:=Fr.refl h hb
 refine BG rfl λH1 f1 g1=>?_
 have x:=x.al f1
 obtain⟨⟨e1,s1⟩,h1,hm⟩:=Option.bind_eq_some_iff.1 hm
 have hm:Jo rec f e1 s1=some (e,s'):=hm
 refine AR2 hr x.p x.lt h1 λH2 n2 c y hx=>?_
 have x:=x.tr y
 have g1:=y.get g1 (by omega) hb
 have hn2:=y.le
 refine BG rfl λH3 f3 g3=>?_
 have x:=x.al f3
 have g1:=f3.get g1 (by omega)
 refine DI g3 rfl hx.len (by omega) λH4 g4 s4=>?_
 have x:=x.st (by omega) s4
 have g1:=(s4 n (by omega)).trans g1
 have hx:ER G H4 (Al n (n2+1) n2) c e1:=hx.mono (λid h=>⟨by have:=h.1;omega,by have:=h.2;omega,by have:=h.2;omega⟩) λid h=>(s4 id (by have:=h.2;omega)).trans (f3.same id h.2)
 refine NW (J:=λg q=>∃H' n' t c e1,q=(.ptr pb 0,.ptr n 0,.ptr n2 0,H',n')/\Fr G pb H n H' n' t/\n2<n'/\T.get H' n=some (one exZ)/\T.get H' n2=some (one c)/\ER G H' (Al n n' n2) c e1/\Jo rec g e1 t=some (e,s')) ?_ (m:=f)
  ⟨H4,n2+1,s1,c,e1,rfl,x,by omega,g1,g4,hx,hm⟩
 rintro I g q ⟨H5,n5,t,c,e1,rfl,x,hn5,g1,g4,hx,hm⟩ ih
 show NZ lfp G (Runs F G) k I (.ptr pb 0) (.ptr n 0) (.ptr n2 0) H5 n5
 delta NZ
 cases g with
 |zero=>cases hm
 |succ g=>
  obtain⟨v,tid,o,line,col,e0,ea,_,_,_,_,_,e5⟩:=x.p.tok
  refine AB (v:=.ptr pb 0) rfl (AB (v:=.ptr pb 0) rfl (AB e0 (AB ea (AB (v:=.ptr tid (o+3)) (Aa ..) (AB e5 ?_)))))
  refine BG rfl λH8 f8 g8=>?_
  have x:=x.al f8
  refine DI g8 rfl (L:=[.int .i64 (.ofNat line) 0,.int .i64 (.ofNat col) 0]) rfl (by omega) λH9 g9 s9=>?_
  have x:=x.st (by omega) s9
  have g1:=(s9 n (by omega)).trans (f8.get g1 (by omega))
  have g4:=(s9 n2 (by omega)).trans (f8.get g4 (by omega))
  have hx:ER G H9 (Al n n5 n2) c e1:=hx.mono (λid h=>h) λid h=>(s9 id (by have:=h.2.1;omega)).trans (f8.same id h.2.1)
  obtain⟨⟨b,t2⟩,h2,hm⟩:=Option.bind_eq_some_iff.1 hm
  have hm:(bif b then(rec t2).bind λq=>(BM [FV] q.2).bind λs1=>Jo rec g (.mk 12 0 [] [] false [e1,q.1]) s1 else
   (BZ DJ t2).bind λp=>bif p.1 then(TQ rec g e1 p.2).bind λq=>Jo rec g q.1 q.2 else some (e1,p.2))=some (e,s'):=hm
  rw[show V.str 1 91=sB Fe from rfl]
  refine NV x.p x.lt h2 λH10 n10 y=>?_
  have x:=x.tr y
  have hn10:=y.le
  have g1:=y.get g1 (by omega) hb
  have g4:=y.get g4 (by omega) (by omega)
  have g9:=y.get g9 (by omega) (by omega)
  have hx:ER G H10 (Al n n5 n2) c e1:=hx.mono (λid h=>h) λid h=>y.f.same id (by have:=h.2.1;omega) (by have:=h.1;omega)
  cases b with
  |true=>
   rw[cond_true]at hm
   obtain⟨⟨e2,t3⟩,h3,hm⟩:=Option.bind_eq_some_iff.1 hm
   obtain⟨t4,h4,hm⟩:=Option.bind_eq_some_iff.1 hm
   rw[Bq,Ah (m:=2) g9 (by omega) rfl,BA,Ah (m:=11) g4 (by omega) hx.len,BA]
   refine hr _ _ _ _ _ _ x.p x.lt h3 λH11 n11 c2 y hx2=>?_
   have x:=x.tr y
   have hn11:=y.le
   have g1:=y.get g1 (by omega) hb
   have g4:=y.get g4 (by omega) (by omega)
   have g9:=y.get g9 (by omega) (by omega)
   have hx:ER G H11 (Al n n5 n2) c e1:=hx.mono (λid h=>h) λid h=>y.f.same id (by have:=h.2.1;omega) (by have:=h.1;omega)
   rw[Ah (m:=2) g9 (by omega) rfl,BA,Ah (m:=11) g4 (by omega) hx.len]
   refine Dv (WZ ..) (Dv hx.vs ?_)
   refine O3 (G:=G) (vs:=[.agg c,.agg c2]) rfl (by omega) (λv hv=>by simp at hv;rcases hv with rfl|rfl;exact hx.ok;exact hx2.ok) λH12 f12 _ hel=>?_
   have x:=x.al f12
   have g1:=f12.get g1 (by omega)
   have g4:=f12.get g4 (by omega)
   refine AB AHD ?_
   refine DI g4 hx.len rfl (by omega) λH13 g4 s13=>?_
   have x:=x.st (by omega) s13
   have g1:=(s13 n (by omega)).trans g1
   refine KJ (ws:=[FV]) x.p x.lt rfl (by show 1<=1000;omega) h4 λH14 n14 y=>?_
   have x:=x.tr y
   have hn14:=y.le
   have g1:=y.get g1 (by omega) hb
   have g4:=y.get g4 (by omega) (by omega)
   have same:∀id,n<id->id≠n2->id<n11+1->T.get H14 id=T.get H12 id:=λid h1 h2 h3=>(y.f.same id (by omega) (by omega)).trans (s13 id h2)
   refine ih g _ (by omega) ⟨H14,n14,t4,_,.mk 12 0 [] [] false [e1,e2],rfl,x,by omega,g1,g4,?_,hm⟩
   refine .mk 12 0 [] [] false line col (hel.same λid hid=>by cases Iq hid;exact same _ (by omega) (by omega) (by omega)) (gy (by omega)) (λid hid=>by cases Iq hid;exact⟨by omega,by omega,by omega⟩) ?_
   refine .cons (hx.mono (λid h=>⟨h.1,by have:=h.2.1;omega,h.2.2⟩) λid h=>?_) (.cons (hx2.mono (λid h=>⟨by have:=h.1;omega,by have:=h.2;omega,by have:=h.1;omega⟩) λid h=>?_) .nil)
   ·have h1:=h.1;have h2:=h.2.1
    exact(same id h1 h.2.2 (by omega)).trans (f12.same id (by omega))
   ·have h1:=h.1;have h2:=h.2
    exact(same id (by omega) (by omega) (by omega)).trans (f12.same id h2)
  |false=>
   rw[cond_false]at hm
   obtain⟨⟨b,t3⟩,h3,hm⟩:=Option.bind_eq_some_iff.1 hm
   have hm:(bif b then(TQ rec g e1 t3).bind λq=>Jo rec g q.1 q.2 else some (e1,t3))=some (e,s'):=hm
   rw[Bg,show V.str 1 46=sB DJ from rfl]
   refine NV x.p x.lt h3 λH11 n11 y=>?_
   have x:=x.tr y
   have hn11:=y.le
   have g1:=y.get g1 (by omega) hb
   have g4:=y.get g4 (by omega) (by omega)
   have g9:=y.get g9 (by omega) (by omega)
   have hx:ER G H11 (Al n n5 n2) c e1:=hx.mono (λid h=>h) λid h=>y.f.same id (by have:=h.2.1;omega) (by have:=h.1;omega)
   cases b with
   |true=>
    rw[cond_true]at hm
    obtain⟨⟨e2,t4⟩,h4,hm⟩:=Option.bind_eq_some_iff.1 hm
    rw[Bq,Ah (m:=11) g4 (by omega) hx.len,BA,Ah (m:=2) g9 (by omega) rfl,BA]
    refine ALv hr (λid h=>⟨by have:=h.1;omega,by have:=h.2.1;omega⟩) hx x.p x.lt h4 λH12 n12 c2 y hx2=>?_
    have x:=x.tr y
    have hn12:=y.le
    have g1:=y.get g1 (by omega) hb
    have g4:=y.get g4 (by omega) (by omega)
    refine DI g4 hx.len hx2.len (by omega) λH13 g4 s13=>?_
    have x:=x.st (by omega) s13
    have g1:=(s13 n (by omega)).trans g1
    refine ih g _ (by omega) ⟨H13,n12,t4,c2,e2,rfl,x,by omega,g1,g4,?_,hm⟩
    refine hx2.mono (λid h=>?_) λid h=>s13 id ?_
    ·rcases h with h|h
     ·exact⟨h.1,by have:=h.2.1;omega,h.2.2⟩
     ·exact⟨by have:=h.1;omega,h.2,by have:=h.1;omega⟩
    ·rcases h with h|h
     ·exact h.2.2
     ·have:=h.1;omega
   |false=>
    cases hm
    rw[Bg]
    exact qG x g1 rfl g4 (Nat.le_refl _) hx (λid h=>⟨by have:=h.1;omega,by have:=h.2.1;omega,by have:=h.1;omega⟩) hk
end
theorem AUT{kd:Nat}{x y:V}{nm:Bs}{id o l c:Nat}:Cj exZ [(0,1,.c (.int .i64 (.ofNat kd) 0)),(1,2,.c (.agg [x,y])),(5,2,.c (.agg [sB nm,.bool false])),(7,1,.c (.sl id o l c 11))]=
 some (.agg [.int .i64 (.ofNat kd) 0,x,y,.int .i64 (.ofNat 0) 0,.str 0 0,sB nm,.bool false,.sl id o l c 11,.str 0 0,.bool false,.str 0 0]):=rfl
section
variable{G:AY}{pb:Nat}{H0:Heap}{n0:Nat}{s s':S}{k:KV}
theorem AMV{rec:PM Ex}{f:Nat}{e:Ex}{H:Heap}{n:Nat}(hr:AHy G pb rec)(x:Fr G pb H0 n0 H n s)(gr:T.get H n0=some (one exZ))(hn0:n0<n)(hm:((SV rec f s).bind λp=>asL f p.1 p.2)=some (e,s'))(hk:ExK G pb H0 n0 s' e k):
 Ig lfp G (Runs F G) k (.ptr pb 0) (.ptr n0 0) .undef H n:=by
 delta Ig
 have hb:=x.b
 obtain⟨⟨e1,s1⟩,h1,hm⟩:=Option.bind_eq_some_iff.1 hm
 have hm:asL f e1 s1=some (e,s'):=hm
 refine APD hr x.p x.lt h1 λH2 n2 c y hx=>?_
 have x:=x.tr y
 have g1:=y.get gr hn0 hb
 have hn2:=y.le
 refine BG rfl λH3 f3 g3=>?_
 have x:=x.al f3
 have g1:=f3.get g1 (by omega)
 refine DI g3 rfl hx.len (by omega) λH4 g4 s4=>?_
 have x:=x.st (by omega) s4
 have g1:=(s4 n0 (by omega)).trans g1
 have hx:ER G H4 (Al n0 (n2+1) n2) c e1:=hx.mono (λid h=>⟨by have:=h.1;omega,by have:=h.2;omega,by have:=h.2;omega⟩) λid h=>(s4 id (by have:=h.2;omega)).trans (f3.same id h.2)
 refine NW (J:=λg q=>∃H' n' t c e1,q=(.ptr pb 0,.ptr n0 0,.ptr n2 0,.undef,H',n')/\Fr G pb H0 n0 H' n' t/\n2<n'/\T.get H' n0=some (one exZ)/\T.get H' n2=some (one c)/\ER G H' (Al n0 n' n2) c e1/\asL g e1 t=some (e,s')) ?_ (m:=f)
  ⟨H4,n2+1,s1,c,e1,rfl,x,by omega,g1,g4,hx,hm⟩
 rintro I g q ⟨H5,n5,t,c,e1,rfl,x,hn5,g1,g4,hx,hm⟩ ih
 show Lp lfp G (Runs F G) k I (.ptr pb 0) (.ptr n0 0) (.ptr n2 0) .undef H5 n5
 delta Lp
 cases g with
 |zero=>cases hm
 |succ g=>
  have hm:(bif Hq [RP,OC] t then(Hu t).bind λs1=>(Eo 2 s1).bind λp=>asL g (.mk (bif decide (t.t.text=OC)then 20 else 19) 0 [] p.1 false [e1]) p.2 else some (e1,t))=some (e,s'):=hm
  refine oO (ws:=[RP,OC]) x.p x.lt rfl (by show 2<=1000;omega) λH6 n6 y=>?_
  have x:=x.tr y
  have hn6:=y.le
  have g1:=y.get g1 (by omega) hb
  have g4:=y.get g4 (by omega) (by omega)
  have hx:ER G H6 (Al n0 n5 n2) c e1:=hx.mono (λid h=>h) λid h=>y.f.same id h.2.1 (by have:=h.1;omega)
  cases hi:Hq [RP,OC] t with
  |false=>
   rw[hi]at hm
   cases hm
   rw[Bg]
   delta Lh
   show AP (A8 11 (.ptr n2 0) G H6) λv15=>Df 11 (.ptr n0 0) v15 H6 n6 λ_ H n=>Ip (EI [.cn (.ptr n0 0) 11] G H) λl=>k (Hr l) H n
   exact qG x g1 rfl g4 (Nat.le_refl _) hx (λid h=>⟨by have:=h.1;omega,by have:=h.2.1;omega,by have:=h.1;omega⟩) hk
  |true=>
   rw[hi,cond_true]at hm
   obtain⟨t1,h1,hm⟩:=Option.bind_eq_some_iff.1 hm
   obtain⟨⟨nm,t2⟩,h2,hm⟩:=Option.bind_eq_some_iff.1 hm
   rw[Bq]
   refine ZH x.p x.lt h1 λH7 n7 line col _ _ y=>?_
   have x:=x.tr y
   have hn7:=y.le
   have g1:=y.get g1 (by omega) hb
   have g4:=y.get g4 (by omega) (by omega)
   have hx:ER G H7 (Al n0 n5 n2) c e1:=hx.mono (λid h=>h) λid h=>y.f.same id (by have:=h.2.1;omega) (by have:=h.1;omega)
   refine BG rfl λH8 f8 g8=>?_
   have x:=x.al f8
   refine DI g8 rfl (L:=TP t.t line col) rfl (by omega) λH9 g9 s9=>?_
   have x:=x.st (by omega) s9
   have g1:=(s9 n0 (by omega)).trans (f8.get g1 (by omega))
   have g4:=(s9 n2 (by omega)).trans (f8.get g4 (by omega))
   have hx:ER G H9 (Al n0 n5 n2) c e1:=hx.mono (λid h=>h) λid h=>(s9 id (by have:=h.2.1;omega)).trans (f8.same id (by have:=h.2.1;omega))
   have q1:AZ (.ptr n7 1) G H9=some (sB t.t.text):=AQ g9 rfl
   refine AB (v:=.ptr n7 1) (by rw[Aa,Nat.zero_add]) (AB q1 (AB (show Ez (.one .str) false (sB t.t.text) (.str 2 29545)=_ from AFM _ OC) ?_))
   have body:∀kd,asL g (.mk kd 0 [] nm false [e1]) t2=some (e,s')->GH lfp G (Runs F G) k I (.ptr pb 0) (.ptr n0 0) (.ptr n2 0) (.ptr n7 0) (.int .i64 (.ofNat kd) 0) .undef H9 (n7+1):=by
    intro kd hm
    delta GH
    refine AB (v:=.ptr n7 3) (by rw[Aa,Nat.zero_add]) (AB (MI (m:=2) (o:=3) g9 (by omega) (by show 3+2<=5;omega)) (AB (Ah (m:=11) g4 (by omega) hx.len) ?_))
    refine O3 (G:=G) (vs:=[.agg c]) rfl (by omega) (λv hv=>by simp at hv;subst hv;exact hx.ok) λH10 f10 _ hel=>?_
    have x:=x.al f10
    have g1:=f10.get g1 (by omega)
    have g4:=f10.get g4 (by omega)
    have g9:=f10.get g9 (by omega)
    have hx:ER G H10 (Al n0 n5 n2) c e1:=hx.mono (λid h=>h) λid h=>f10.same id (by have:=h.2.1;omega)
    refine ZU x.p x.lt h2 λH11 n11 y=>?_
    have x:=x.tr y
    have hn11:=y.le
    have g1:=y.get g1 (by omega) hb
    have g4:=y.get g4 (by omega) (by omega)
    have g9:=y.get g9 (by omega) (by omega)
    have hx:ER G H11 (Al n0 n5 n2) c e1:=hx.mono (λid h=>h) λid h=>y.f.same id (by have:=h.2.1;omega) (by have:=h.1;omega)
    have hel:El G H11 (.sl (n7+1) 0 1 1 11) 11 [c]:=hel.same λid hid=>by cases Iq hid;exact y.f.same _ (by omega) (by omega)
    refine AB (MI (m:=2) (o:=3) g9 (by omega) (by show 3+2<=5;omega)) (Dv (WZ ..) (AB (Ah (m:=11) g4 (by omega) hx.len) (Dv hx.vs ?_)))
    refine AAl λH12 f12=>?_
    have x:=x.al f12
    have g1:=f12.get g1 (by omega)
    have g4:=f12.get g4 (by omega)
    have g9:=f12.get g9 (by omega)
    have hx:ER G H12 (Al n0 n5 n2) c e1:=hx.mono (λid h=>h) λid h=>f12.same id (by have:=h.2.1;omega)
    have hel:El G H12 (.sl (n7+1) 0 1 1 11) 11 [c]:=hel.same λid hid=>by cases Iq hid;exact f12.same _ (by omega)
    refine AB (MI (m:=2) (o:=3) g9 (by omega) (by show 3+2<=5;omega)) (Dv (WZ ..) (AB (Ah (m:=11) g4 (by omega) hx.len) (Dv hx.vs ?_)))
    refine AB AUT ?_
    refine DI g4 hx.len rfl (by omega) λH13 g4 s13=>?_
    have x:=x.st (by omega) s13
    refine ih g _ (by omega) ⟨H13,n11+1,t2,_,.mk kd 0 [] nm false [e1],rfl,x,by omega,(s13 n0 (by omega)).trans g1,g4,?_,hm⟩
    exact .mk kd 0 [] nm false line col (hel.same λid hid=>by cases Iq hid;exact s13 _ (by omega)) (gy (by omega)) (λid hid=>by cases Iq hid;exact⟨by omega,by omega,by omega⟩)
     (.cons (hx.mono (λid h=>⟨h.1,by have:=h.2.1;omega,h.2.2⟩) λid h=>s13 id h.2.2) .nil)
   cases hd:decide (t.t.text=OC)with
   |true=>rw[hd]at hm;rw[Bq];exact body 20 hm
   |false=>rw[hd]at hm;rw[Bg];exact body 19 hm
end
section
variable{G:AY}{pb:Nat}
theorem AI6{rec:PM Ex}(hr:AHy G pb rec):∀f,FnC G pb [] (unary rec f) (.fn DU [.ptr pb 0] [])
 |0=>λs H n s' e k _ _ _ hm _=>by cases hm
 |f+1=>by
  have ihf:=AI6 hr f
  intro s H n s' e k h hb hbs hm hk
  rw[mP]
  show Runs F G DU [.ptr pb 0] H n k
  refine Am (s:=IQ (LM lfp G)) Oi (by obtain⟨h,o⟩:=iH Ap G;rw[Oi]at h;cases h;exact o) ?_
  show LM lfp G (Runs F G) (.ptr pb 0) H n k
  delta LM
  have x:=Fr.refl h hb
  refine BG rfl λH1 f1 g1=>?_
  have x:=x.al f1
  obtain⟨v,tid,o,line,col,e0,ea,_,_,_,_,_,e5⟩:=x.p.tok
  refine AB (v:=.ptr pb 0) rfl (AB (v:=.ptr pb 0) rfl (AB e0 (AB ea (AB (v:=.ptr tid (o+3)) (Aa ..) (AB e5 ?_)))))
  refine BG rfl λH8 f8 g8=>?_
  have x:=x.al f8
  refine DI g8 rfl (L:=[.int .i64 (.ofNat line) 0,.int .i64 (.ofNat col) 0]) rfl (by omega) λH9 g9 s9=>?_
  have x:=x.st (by omega) s9
  have g1:=(s9 n (by omega)).trans (f8.get g1 (by omega))
  refine uI (G:=G) (ws:=[Dq,IV]) rfl λH10 f10 hel=>?_
  have x:=x.al f10
  have g1:=f10.get g1 (by omega)
  have g9:=f10.get g9 (by omega)
  refine AB hel.len ?_
  have hm:(bif Hq [Dq] s then(LD s).bind λs1=>(Hu s1).bind λs2=>(unary rec f s2).bind λp=>(VB p.2).bind λs'=>some (.mk 14 0 [] [] false [p.1],s')else
   bif Hq [IV] s then(LD s).bind λs1=>(Hu s1).bind λs2=>(unary rec f s2).bind λp=>(VB p.2).bind λs'=>some (.mk 15 0 [] [] false [p.1],s')else
   (SV rec f s).bind λp=>asL f p.1 p.2)=some (e,s'):=hm
  refine IZ (N:=2) (J:=λj q=>∃H' n',q=(.ptr pb 0,.ptr n 0,.ptr (n+1) 0,.sl (n+2) 0 2 2 1,.int .i64 (.ofNat 2) 0,.int .i64 (.ofNat j) 0,.undef,H',n')/\Fr G pb H n H' n' s/\n+2<n'/\T.get H' n=some (one exZ)/\
   T.get H' (n+1)=some (one [.int .i64 (.ofNat line) 0,.int .i64 (.ofNat col) 0])/\El G H' (.sl (n+2) 0 2 2 1) 1 (wsC [Dq,IV])/\(0<j->Hq [Dq] s=false)/\(1<j->Hq [IV] s=false)) ?_ ?_
   ⟨H10,_,rfl,x,by omega,g1,g9,hel,λh=>by omega,λh=>by omega⟩
  ·rintro I j q hlt ⟨H2,n2,rfl,x,hn2,g1,g9,hel,hj0,hj1⟩ ih
   show Fv lfp G (Runs F G) k I (.ptr pb 0) (.ptr n 0) (.ptr (n+1) 0) (.sl (n+2) 0 2 2 1) (.int .i64 (.ofNat 2) 0) (.int .i64 (.ofNat j) 0) .undef H2 n2
   delta Fv
   have hj:j<[Dq,IV].length:=hlt
   obtain⟨p,hp,hld⟩:=hel.at (AHH hj)
   refine AB (Ht ..) ?_
   rw[decide_eq_true hlt,Bq]
   refine AB hp (AB (vg hld) ?_)
   refine oO (ws:=[[Dq,IV][j]]) x.p x.lt rfl (by show 1<=1000;omega) λH3 n3 y=>?_
   have x:=x.tr y
   have hn3:=y.le
   have g1:=y.get g1 (by omega) hb
   have g9:=y.get g9 (by omega) (by omega)
   have hel:El G H3 (.sl (n+2) 0 2 2 1) 1 (wsC [Dq,IV]):=hel.same λid hid=>by cases Iq hid;exact y.f.same _ (by omega) (by omega)
   cases hi:Hq [[Dq,IV][j]] s with
   |false=>
    rw[Bg]
    refine AB (Iz (show j+1<9223372036854775808 by omega)) ?_
    refine ih _ ⟨H3,n3,rfl,x,by omega,g1,g9,hel,λ_=>?_,λh=>?_⟩
    ·rcases Nat.eq_zero_or_pos j with h0|h0
     ·subst h0;exact hi
     ·exact hj0 h0
    ·have:j=1:=by omega
     subst this;exact hi
   |true=>
    have hm:((LD s).bind λs1=>(Hu s1).bind λs2=>(unary rec f s2).bind λp=>(VB p.2).bind λs'=>some ((.mk (14+j) 0 [] [] false [p.1]:Ex),s'))=some (e,s'):=by
     rcases Nat.eq_zero_or_pos j with h0|h0
     ·subst h0
      have hi:Hq [Dq] s=true:=hi
      rw[hi]at hm;exact hm
     ·have:j=1:=by omega
      subst this
      have hi:Hq [IV] s=true:=hi
      rw[hj0 h0,hi]at hm;exact hm
    obtain⟨s1,h1,hm⟩:=Option.bind_eq_some_iff.1 hm
    obtain⟨s2,h2,hm⟩:=Option.bind_eq_some_iff.1 hm
    obtain⟨⟨e1,s3⟩,h3,hm⟩:=Option.bind_eq_some_iff.1 hm
    obtain⟨s4,h4,hm⟩:=Option.bind_eq_some_iff.1 hm
    cases hm
    rw[Bq]
    refine ADs x.p x.lt h1 λH4 n4 q y hq1 hq2 hq3=>?_
    have x:=x.tr y
    have hn4:=y.le
    have g1:=y.get g1 (by omega) hb
    have g9:=y.get g9 (by omega) (by omega)
    rw[zx]
    refine ZH x.p x.lt h2 λH5 n5 l5 c5 _ _ y=>?_
    have x:=x.tr y
    have hn5:=y.le
    have g1:=y.get g1 (by omega) hb
    have g9:=y.get g9 (by omega) (by omega)
    have hq3:=y.get hq3 hq2 (by omega)
    refine O3 (G:=G) (vs:=[.int .i64 (.ofNat 14) 0,.int .i64 (.ofNat 15) 0]) rfl (by omega) (λv hv=>by simp at hv;rcases hv with rfl|rfl<;>exact⟨rfl,rfl⟩) λH6 f6 _ hel6=>?_
    have x:=x.al f6
    have g1:=f6.get g1 (by omega)
    have g9:=f6.get g9 (by omega)
    have hq3:=f6.get hq3 (by omega)
    have hj6:([V.int .i64 (.ofNat 14) 0,.int .i64 (.ofNat 15) 0].map Cc)[j]? =some [.int .i64 (.ofNat (14+j)) 0]:=by
     rcases Nat.eq_zero_or_pos j with h0|h0
     ·subst h0;rfl
     ·have:j=1:=by omega
      subst this;rfl
    obtain⟨p6,hp6,hld6⟩:=hel6.at hj6
    have hp6':p6=.ptr n5 (j*1):=by
     have:Bj 1 (.sl n5 0 2 2 1) (.int .i64 (.ofNat j) 0)=some (.ptr n5 ((0+j)*1)):=by
      show BJ (band (Nat.beq 1 1) (Nat.blt j 2)) (Dk ((0+j)*1) λo=>some (.ptr n5 o))=_
      rw[show Nat.blt j 2=true by rw[Nat.blt_eq];exact hlt,Bc];rfl
     rw[this,Nat.zero_add]at hp6
     exact(Option.some.inj hp6).symm
    refine AB hp6 (AB (vg hld6) (AB (Ah (m:=2) g9 (by omega) rfl) ?_))
    have keep:∀H',T.get H' n5=T.get H6 n5->AZ p6 G H'=some (.int .i64 (.ofNat (14+j)) 0):=by
     intro H' hs
     rw[hp6']at hld6⊢
     rw[zH]
     show OO (gX H' n5 (j*1) 1) _=_
     have:gX H' n5 (j*1) 1=gX H6 n5 (j*1) 1:=by unfold gX;rw[hs]
     rw[this,show gX H6 n5 (j*1) 1=_ from hld6];rfl
    have hrun:∀{H:Heap} {n:Nat} {k:KV},VQ (.fn DU [.ptr pb 0] []) [] (Runs F G) H n k->Runs F G DU [.ptr pb 0] H n k:=λh=>h
    refine hrun (ihf _ _ _ _ _ _ x.p x.lt Bxs.nil h3 λH7 n7 c y hx=>?_)
    have x:=x.tr y
    have hn7:=y.le
    have g1:=y.get g1 (by omega) hb
    have g9:=y.get g9 (by omega) (by omega)
    have hq3:=y.get hq3 (by omega) (by omega)
    refine AB (keep _ (y.f.same _ (by omega) (by omega))) (Dv (bM ..) (AB (Ah (m:=2) g9 (by omega) rfl) (Dv (WZ ..) ?_)))
    refine O3 (G:=G) (vs:=[.agg c]) rfl (by omega) (λv hv=>by simp at hv;subst hv;exact hx.ok) λH8 f8 _ hel8=>?_
    have x:=x.al f8
    have g1:=f8.get g1 (by omega)
    have g9:=f8.get g9 (by omega)
    have hq3:=f8.get hq3 (by omega)
    refine DI (L:=exZ) g1 rfl rfl (by omega) λH9 g1 s9=>?_
    have x:=x.st (Nat.le_refl _) s9
    have g9:=(s9 (n+1) (by omega)).trans g9
    have hq3:=(s9 q (by omega)).trans hq3
    have k9:=keep H9 ((s9 n5 (by omega)).trans ((f8.same _ (by omega)).trans (y.f.same _ (by omega) (by omega))))
    refine AB k9 (Dv (bM ..) (AB (Ah (m:=2) g9 (by omega) rfl) (Dv (WZ ..) (AB (v:=.ptr n 0) (Aa ..) ?_))))
    refine Ew g1 rfl rfl (by omega) (by show 0+1<=11;omega) λH10 g1 s10=>?_
    have x:=x.st (Nat.le_refl _) s10
    have g9:=(s10 (n+1) (by omega)).trans g9
    have hq3:=(s10 q (by omega)).trans hq3
    refine AB (Ah (m:=2) g9 (by omega) rfl) (Dv (WZ ..) (AB (v:=.ptr n 1) (by rw[Aa,Nat.zero_add]) ?_))
    refine Ew g1 rfl rfl (by omega) (by show 1+2<=11;omega) λH11 g1 s11=>?_
    have x:=x.st (Nat.le_refl _) s11
    have hq3:=(s11 q (by omega)).trans hq3
    refine AB (v:=.ptr n 7) (by rw[Aa,Nat.zero_add]) ?_
    refine Ew g1 rfl rfl (by omega) (by show 7+1<=11;omega) λH12 g1 s12=>?_
    have x:=x.st (Nat.le_refl _) s12
    have hq3:=(s12 q (by omega)).trans hq3
    have g1:T.get H12 n=some (one (iC (14+j) 0 [] [] false line col (.sl n7 0 1 1 11))):=g1
    have same:∀id,id≠n->T.get H12 id=T.get H8 id:=λid h=>(s12 id h).trans ((s11 id h).trans ((s10 id h).trans (s9 id h)))
    refine AOg x.p x.lt hq3 h4 λH13 n13 y=>?_
    have x:=x.tr y
    have hn13:=y.le
    have g1:=y.get g1 (by omega) hb
    rw[ED (m:=11) g1 (by omega) rfl]
    simp only[go_sem]
    refine hk _ _ _ x (.mk (14+j) 0 [] [] false line col (hel8.same λid hid=>by cases Iq hid;exact(y.f.same _ (by omega) (by omega)).trans (same _ (by omega))) (gy (by omega)) (λid hid=>by cases Iq hid;exact⟨by omega,by omega⟩) (.cons ?_ .nil))
    exact hx.mono (λid h=>⟨by have:=h.1;omega,by have:=h.2;omega⟩) λid h=>(y.f.same id (by have:=h.2;omega) (by have:=h.1;omega)).trans ((same id (by have:=h.1;omega)).trans (f8.same id h.2))
  ·rintro I q ⟨H2,n2,rfl,x,hn2,g1,g9,hel,hj0,hj1⟩
   show Fv lfp G (Runs F G) k I (.ptr pb 0) (.ptr n 0) (.ptr (n+1) 0) (.sl (n+2) 0 2 2 1) (.int .i64 (.ofNat 2) 0) (.int .i64 (.ofNat 2) 0) .undef H2 n2
   delta Fv
   refine AB (Ht ..) ?_
   rw[show decide (2<2)=false from rfl,Bg]
   rw[hj0 (by omega),hj1 (by omega)]at hm
   exact AMV hr x g1 (by omega) hm hk
theorem qK:∀f,AHy G pb (expr f)
 |0=>λs H n s' e k _ _ hm _=>by cases hm
 |f+1=>λs H n s' e k h hb hm hk=>AOf (rec:=expr f) (f:=f) (AI6 (qK f) f) h hb hm hk
end
def ny(does:Nat)(line col:Nat)(nm:Bs)(ty:Ty)(ve vt vl:V):LV:=
 [.int .i64 (.ofNat does) 0,.int .i64 (.ofNat line) 0,.int .i64 (.ofNat col) 0,sB nm,sB ty.nm,.bool ty.arr,ve,vt,vl]
theorem pq.mono{G:AY}{H H':Heap}{A B:Nat->Prop}{v:V}{es:List Ex}(h:pq G H A v es)(hA:∀id,A id->B id)(hs:∀id,A id->T.get H' id=T.get H id):pq G H' B v es:=by
 obtain⟨cs,h1,h2,h3,h4,h5,h6⟩:=h
 exact⟨cs,h1.same λid hid=>hs id (h5 id hid),h2,h3,h4,λid hid=>hA id (h5 id hid),h6.mono hA hs⟩
mutual
inductive SY(G:AY)(H:Heap)(A:Nat->Prop):LV->St->Prop where
 |mk (does:Nat) (nm:Bs) (ty:Ty) (line col:Nat) {ve vt vl:V} {es:List Ex} {th el:List St} {ct cl:EY} (he:pq G H A ve es) (ht:El G H vt 9 ct) (kt:KS vt) (at':∀id,vt.Ry=some id->A id) (st:RF G H A ct th)
  (hl:El G H vl 9 cl) (kl:KS vl) (al:∀id,vl.Ry=some id->A id) (sl:RF G H A cl el):SY G H A (ny does line col nm ty ve vt vl) (.mk does nm ty es th el)
inductive RF(G:AY)(H:Heap)(A:Nat->Prop):EY->List St->Prop where
 |nil:RF G H A [] []
 |cons {c:LV} {e:St} {cs:EY} {es:List St} (h:SY G H A c e) (t:RF G H A cs es):RF G H A (c::cs) (e::es)
end
mutual
theorem SY.mono{G:AY}{H H':Heap}{A B:Nat->Prop}(hA:∀id,A id->B id)(hs:∀id,A id->T.get H' id=T.get H id):∀{c:LV} {e:St},SY G H A c e->SY G H' B c e
 |_,_,.mk does nm ty line col he ht kt a1 st hl kl a2 sl=>.mk does nm ty line col (he.mono hA hs) (ht.same λid hid=>hs id (a1 id hid)) kt (λid hid=>hA id (a1 id hid)) (RF.mono hA hs st)
  (hl.same λid hid=>hs id (a2 id hid)) kl (λid hid=>hA id (a2 id hid)) (RF.mono hA hs sl)
theorem RF.mono{G:AY}{H H':Heap}{A B:Nat->Prop}(hA:∀id,A id->B id)(hs:∀id,A id->T.get H' id=T.get H id):∀{cs:EY} {es:List St},RF G H A cs es->RF G H' B cs es
 |_,_,.nil=>.nil
 |_,_,.cons h t=>.cons (SY.mono hA hs h) (RF.mono hA hs t)
end
theorem RF.app{G:AY}{H:Heap}{A:Nat->Prop}:∀{cs:EY} {es:List St} {cs':EY} {es':List St},RF G H A cs es->RF G H A cs' es'->RF G H A (cs++cs') (es++es')
 |_,_,_,_,.nil,h=>h
 |_,_,_,_,.cons h t,h'=>.cons h (t.app h')
theorem RF.len{G:AY}{H:Heap}{A:Nat->Prop}:∀{cs:EY} {es:List St},RF G H A cs es->cs.length=es.length
 |_,_,.nil=>rfl
 |_,_,.cons h t=>by simp[t.len]
theorem SY.len{G:AY}{H:Heap}{A:Nat->Prop}{c:LV}{e:St}(h:SY G H A c e):c.length=9:=by cases h;rfl
theorem SY.ok{G:AY}{H:Heap}{A:Nat->Prop}{c:LV}{e:St}(h:SY G H A c e):kX (.agg c)=true/\(Cc (.agg c)).length=9:=⟨rfl,h.len⟩
def uX(G:AY)(H:Heap)(A:Nat->Prop)(v:V)(sts:List St):Prop:=∃cs,El G H v 9 cs/\KS v/\kX v=true/\Cc v=[v]/\(∀id,v.Ry=some id->A id)/\RF G H A cs sts
theorem uX.mono{G:AY}{H H':Heap}{A B:Nat->Prop}{v:V}{es:List St}(h:uX G H A v es)(hA:∀id,A id->B id)(hs:∀id,A id->T.get H' id=T.get H id):uX G H' B v es:=by
 obtain⟨cs,h1,h2,h3,h4,h5,h6⟩:=h
 exact⟨cs,h1.same λid hid=>hs id (h5 id hid),h2,h3,h4,λid hid=>hA id (h5 id hid),h6.mono hA hs⟩
theorem uX.nil{G:AY}{H:Heap}{A:Nat->Prop}:uX G H A .Aj []:=⟨[],AM6,ADb,rfl,rfl,(λ_ h=>by cases h),.nil⟩
theorem SY.of{G:AY}{H:Heap}{A:Nat->Prop}{does line col:Nat}{nm:Bs}{ty:Ty}{ve vt vl:V}{es:List Ex}{th el:List St}(he:pq G H A ve es)(ht:uX G H A vt th)(hl:uX G H A vl el):SY G H A (ny does line col nm ty ve vt vl) (.mk does nm ty es th el):=by
 obtain⟨ct,h1,h0,_,_,h2,h3⟩:=ht
 obtain⟨cl,k1,k0,_,_,k2,k3⟩:=hl
 exact .mk does nm ty line col he h1 h0 h2 h3 k1 k0 k2 k3
def StK(G:AY)(pb:Nat)(H:Heap)(n:Nat)(s':S)(e:St)(k:KV):Prop:=∀H' n' c,Fr G pb H n H' n' s'->SY G H' (Rg n n') c e->k (.agg c) H' n'
def SsK(G:AY)(pb:Nat)(H:Heap)(n:Nat)(s':S)(es:List St)(k:KV):Prop:=∀H' n' v,Fr G pb H n H' n' s'->uX G H' (Rg n n') v es->k v H' n'
def StC(G:AY)(pb:Nat)(fn:Nat)(m:PM St):Prop:=∀(s:S) (H:Heap) (n:Nat) (s':S) (e:St) (k:KV),YH G H pb s->pb<n->m s=some (e,s')->StK G pb H n s' e k->Runs F G fn [.ptr pb 0] H n k
section
variable{G:AY}{pb:Nat}{H:Heap}{n:Nat}{s s':S}{k:KV}
theorem AAB{st:PM St}{f:Nat}{es:List St}(hst:StC G pb FT st)(h:YH G H pb s)(hb:pb<n)(hm:EW st f s=some (es,s'))(hk:SsK G pb H n s' es k):Runs F G I4 [.ptr pb 0] H n k:=by
 refine Am (s:=IQ (Kv lfp G)) Oe (by obtain⟨h,o⟩:=iq Ap G;rw[Oe]at h;cases h;exact o) ?_
 show Kv lfp G (Runs F G) (.ptr pb 0) H n k
 delta Kv
 obtain⟨s1,h1,hm⟩:=Option.bind_eq_some_iff.1 hm
 obtain⟨s2,h2,hm⟩:=Option.bind_eq_some_iff.1 hm
 obtain⟨⟨es1,s3⟩,h3,hm⟩:=Option.bind_eq_some_iff.1 hm
 obtain⟨s4,h4,hm⟩:=Option.bind_eq_some_iff.1 hm
 cases hm
 refine ADs h hb h1 λH1 n1 q x hq1 hq2 hq3=>?_
 rw[zx]
 refine KJ (ws:=[MG]) x.p x.lt rfl (by show 1<=1000;omega) h2 λH2 n2 y=>?_
 have x:=x.tr y
 have hq3:=y.get hq3 hq2 (by omega)
 have hn2:=y.le
 refine NW (J:=λg r=>∃H' n' t v cs out,r=(.ptr pb 0,v,.JL [.fn Bv [] [.ptr q 0]],H',n')/\Fr G pb H n H' n' t/\n2<=n'/\T.get H' q=some (one [.ptr pb 0])/\Own G H' n2 n' 9 v cs/\RF G H' (λid=>n2<=id/\id<n'/\v.Ry≠some id) cs out/\KQ st g out t=some (es1,s3)) ?_ (m:=f)
  ⟨H2,n2,s2,.Aj,[],[],rfl,x,Nat.le_refl _,hq3,Yp,.nil,h3⟩
 rintro I g r ⟨H3,n3,t,v,cs,out,rfl,x,hn3,hq3,ho,hc,hm⟩ ih
 show NY lfp G (Runs F G) k I (.ptr pb 0) v (.JL [.fn Bv [] [.ptr q 0]]) H3 n3
 delta NY
 cases g with
 |zero=>cases hm
 |succ g=>
  have hm:(bif t.ok then(BZ m_rc t).bind λp=>bif p.1 then some (out,p.2)else(st p.2).bind λq=>bif decide (out.length<1000000)then KQ st g (out++[q.1]) q.2 else none
   else some (out,t))=some (es1,s3):=hm
  have fin:∀{H4:Heap} {n4:Nat} {t4:S},Fr G pb H3 n3 H4 n4 t4->some (out,t4)=some (es1,s3)->JU lfp G (Runs F G) k v (.JL [.fn Bv [] [.ptr q 0]]) H4 n4:=by
   intro H4 n4 t4 y he
   cases he
   delta JU
   have ho4:=ho.kx y.f (by omega)
   have x:=x.tr y
   have hq3:=y.get hq3 (by omega) (by omega)
   refine AOg x.p x.lt hq3 h4 λH5 n5 y5=>?_
   have ho5:=ho4.kx y5.f (by omega)
   have hn4:=y.le
   have hn5:=y5.le
   refine hk _ _ _ (x.tr y5) ⟨cs,ho5.el (by omega),(O7 ho5.gr).1,(O7 ho5.gr).2.1,(O7 ho5.gr).2.2,λid hid=>⟨by have:=ho5.ge hid;omega,ho5.lo id hid⟩,?_⟩
   exact hc.mono (λid h=>⟨by have:=h.1;omega,by have:=h.2.1;omega⟩) λid h=>(y5.f.same id (by have:=h.2.1;omega) (by have:=h.1;omega)).trans (y.f.same id h.2.1 (by have:=h.1;omega))
  rw[AVs]
  refine vJ x.p x.lt (λhf=>fin (Fr.refl x.p x.lt) (by rw[hf]at hm;exact hm)) λht=>?_
  rw[ht,cond_true]at hm
  obtain⟨⟨b,t2⟩,h2,hm⟩:=Option.bind_eq_some_iff.1 hm
  refine⟨b,t2,h2,λH4 n4 y=>?_⟩
  cases b with
  |true=>exact fin y hm
  |false=>
   obtain⟨⟨e,t4⟩,h4,hm⟩:=Option.bind_eq_some_iff.1 (show((st t2).bind λq=>bif decide (out.length<1000000)then KQ st g (out++[q.1]) q.2 else none)=some (es1,s3)from hm)
   cases hlen:decide (out.length<1000000)with
   |false=>rw[hlen]at hm;cases hm
   |true=>
   rw[hlen,cond_true]at hm
   have hlen:=of_decide_eq_true hlen
   have ho4:=ho.kx y.f (by omega)
   have hn4:=y.le
   have hc4:RF G H4 (λid=>n2<=id/\id<n3/\v.Ry≠some id) cs out:=hc.mono (λid h=>h) λid h=>y.f.same id h.2.1 (by have:=h.1;omega)
   have x:=x.tr y
   have hq3:=y.get hq3 (by omega) (by omega)
   show Runs F G FT [.ptr pb 0] H4 n4 _
   refine hst _ _ _ _ _ _ x.p x.lt h4 λH5 n5 c y hx=>?_
   have hn5:=y.le
   have x:=x.tr y
   have hq3:=y.get hq3 (by omega) (by omega)
   have ho5:=ho4.kx y.f (by omega)
   have hc5:RF G H5 (λid=>n2<=id/\id<n3/\v.Ry≠some id) cs out:=hc4.mono (λid h=>h) λid h=>y.f.same id (by have:=h.2.1;omega) (by have:=h.1;omega)
   refine O3 (G:=G) (vs:=[.agg c]) rfl (by omega) (λv hv=>by simp at hv;subst hv;exact hx.ok) λH6 f6 _ hel=>?_
   have x:=x.al f6
   have ho6:=ho5.kp f6
   have hq3:=f6.get hq3 (by omega)
   refine zh ho6.gr (by omega) ho6.lo hel.2 (by have:=hc.len;show(cs.length+1)*136<=_;omega) ?_ (λh=>by cases h)
   intro v' H7 hgr hsame hlo
   have hgr:Gr G H7 n2 9 v' (cs++[c]):=hgr
   have f7:Fr G pb H n H7 (n5+1+1) t4:=⟨⟨by omega,λid hid hp=>(hsame id (by omega) (λh=>by have:=ho6.ge h;omega)).trans (x.f.same id hid hp)⟩,x.p.same λid hid=>hsame id (by omega) (λh=>by have:=ho6.ge h;omega),hb⟩
   have hv4:∀id,v.Ry=some id->id<n3:=ho.lo
   refine ih g (_,_,_,H7,n5+1+1) (by omega) ⟨H7,n5+1+1,t4,v',cs++[c],out++[e],rfl,f7,by omega,(hsame q (by omega) (λh=>by have:=ho6.ge h;omega)).trans hq3,⟨hgr,λid hid=>by have:=hlo id hid;omega⟩,?_,hm⟩
   refine(hc5.mono (λid h=>⟨h.1,by have:=h.2.1;omega,λhv=>by have:=hlo id hv;have:=h.2.1;omega⟩) λid h=>?_).app (.cons (hx.mono (λid h=>⟨by have:=h.1;omega,by have:=h.2;omega,λhv=>by have:=hlo id hv;have:=h.2;omega⟩) λid h=>?_) .nil)
   ·have h1:=h.1;have h2:=h.2.1
    exact(hsame id (by omega) h.2.2).trans (f6.same id (by omega))
   ·have h1:=h.1;have h2:=h.2
    exact(hsame id (by omega) (λhv=>by have:=hv4 id hv;omega)).trans (f6.same id (by omega))
end
abbrev stZ:LV:=[.int .i64 (.ofNat 0) 0,.int .i64 (.ofNat 0) 0,.int .i64 (.ofNat 0) 0,.str 0 0,.str 0 0,.bool false,.Aj,.Aj,.Aj]
theorem AS9{x y:V}:Cj stZ [(1,2,.c (.agg [x,y]))]=some (.agg [.int .i64 (.ofNat 0) 0,x,y,.str 0 0,.str 0 0,.bool false,.Aj,.Aj,.Aj]):=rfl
theorem AR1{kd:Nat}{x y:V}:Cj stZ [(0,1,.c (.int .i64 (.ofNat kd) 0)),(1,2,.c (.agg [x,y]))]=some (.agg [.int .i64 (.ofNat kd) 0,x,y,.str 0 0,.str 0 0,.bool false,.Aj,.Aj,.Aj]):=rfl
section
variable{G:AY}{pb:Nat}{H:Heap}{n:Nat}{s s':S}{k:KV}
theorem AFt{A:Nat->Prop}{c:LV}{e:Ex}{m:Nat}(hel:El G H (.sl m 0 1 1 11) 11 [c])(hx:ER G H A c e)(hm:A m):pq G H A (.sl m 0 1 1 11) [e]:=
 ⟨[c],hel,gy (Nat.le_refl _),rfl,rfl,λid hid=>by cases Iq hid;exact hm,.cons hx .nil⟩
theorem APU{f b line col:Nat}{e:St}(h:YH G H pb s)(hb:pb<b)(hbn:b<n)(gb:T.get H b=some (one (ny 0 line col [] JE .Aj .Aj .Aj)))(hm:Wu f s=some (e,s'))
 (hk:∀H' n' c,Fr G pb H b H' n' s'->n<=n'->T.get H' b=some (one c)->SY G H' (λid=>b<id/\id<n') c e->k (.JL []) H' n'):
 Runs F G Vz [.ptr pb 0,.ptr b 0] H n k:=by
 refine Am (s:=RG (LH lfp G)) Ob (by obtain⟨h,o⟩:=iZ Ap G;rw[Ob]at h;cases h;exact o) ?_
 show LH lfp G (Runs F G) (.ptr pb 0) (.ptr b 0) H n k
 delta LH
 have x:Fr G pb H b H n s:=⟨⟨by omega,λ_ _ _=>rfl⟩,h,hb⟩
 obtain⟨⟨e1,s1⟩,h1,hm⟩:=Option.bind_eq_some_iff.1 hm
 refine qK f _ _ _ _ _ _ x.p x.lt h1 λH1 n1 c y hx=>?_
 have x:=x.tr y
 have hn1:=y.le
 have gb:=y.get gb hbn hb
 refine BG rfl λH2 f2 g2=>?_
 have x:=x.al f2
 have gb:=f2.get gb (by omega)
 refine DI g2 rfl hx.len (by omega) λH3 g2 s3=>?_
 have x:=x.st (by omega) s3
 have gb:=(s3 b (by omega)).trans gb
 have hx:ER G H3 (Rg n n1) c e1:=hx.mono (λid h=>h) λid h=>(s3 id (by have:=h.2;omega)).trans (f2.same id h.2)
 refine AB (Ah (m:=11) g2 (by omega) hx.len) ?_
 refine O3 (G:=G) (vs:=[.agg c]) rfl (by omega) (λv hv=>by simp at hv;subst hv;exact hx.ok) λH4 f4 hb4 hel=>?_
 have x:=x.al f4
 have gb:=f4.get gb (by omega)
 have g2:=f4.get g2 (by omega)
 have hx:ER G H4 (Rg n n1) c e1:=hx.mono (λid h=>h) λid h=>f4.same id (by have:=h.2;omega)
 refine AB (v:=.ptr b 0) rfl (AB (v:=.ptr b 0) (Aa ..) ?_)
 refine Ew gb rfl rfl (by omega) (by show 0+1<=9;omega) λH5 gb s5=>?_
 have x:=x.st (Nat.le_refl _) s5
 have g2:=(s5 n1 (by omega)).trans g2
 refine AB (Ah (m:=11) g2 (by omega) hx.len) (Dv hx.vs (AB (v:=.ptr b 0) rfl (AB (v:=.ptr b 6) (by rw[Aa,Nat.zero_add]) ?_)))
 refine Ew gb rfl rfl (by omega) (by show 6+1<=9;omega) λH6 gb s6=>?_
 have x:=x.st (Nat.le_refl _) s6
 have g2:=(s6 n1 (by omega)).trans g2
 have gb:T.get H6 b=some (one (ny 3 line col [] JE (.sl (n1+1) 0 1 1 11) .Aj .Aj)):=gb
 have hel:El G H6 (.sl (n1+1) 0 1 1 11) 11 [c]:=hel.same λid hid=>by cases Iq hid;exact(s6 _ (by omega)).trans (s5 _ (by omega))
 have hx:ER G H6 (Rg n n1) c e1:=hx.mono (λid h=>h) λid h=>(s6 id (by have:=h.1;omega)).trans (s5 id (by have:=h.1;omega))
 have hb6:∃t,T.get H6 (n1+1)=some (.arr 11 1 t):=by
  obtain⟨t,ht⟩:=hb4
  exact⟨t,(s6 _ (by omega)).trans ((s5 _ (by omega)).trans ht)⟩
 have hm:(bif Hq [Di] s1 then
  (BM [Di] (bif decide (e1.kind=6)||(decide (e1.kind=7)||decide (e1.kind=12))then s1 else EJ 21 s1)).bind λs1=>(expr f s1).bind λq=>some (.mk 2 [] JE [e1,q.1] [] [],q.2)
  else some (.mk 3 [] JE [e1] [] [],bif decide (e1.kind=8)||decide (e1.kind=9)then s1 else EJ 21 s1))=some (e,s'):=hm
 refine oO (ws:=[Di]) x.p x.lt rfl (by show 1<=1000;omega) λH7 n7 y=>?_
 have x:=x.tr y
 have hn7:=y.le
 have gb:=y.get gb (by omega) hb
 have g2:=y.get g2 (by omega) (by omega)
 have hel:El G H7 (.sl (n1+1) 0 1 1 11) 11 [c]:=hel.same λid hid=>by cases Iq hid;exact y.f.same _ (by omega) (by omega)
 have hx:ER G H7 (Rg n n1) c e1:=hx.mono (λid h=>h) λid h=>y.f.same id (by have:=h.2;omega) (by have:=h.1;omega)
 obtain⟨t7,ht7⟩:=hb6
 have ht7:=(y.f.same (n1+1) (by omega) (by omega)).trans ht7
 have q0:AZ (.ptr n1 0) G H7=some (.int .i64 (.ofNat e1.kind) 0):=AQ g2 hx.kd
 refine AB (Qv _) ?_
 cases hi:Hq [Di] s1 with
 |false=>
  rw[hi]at hm
  cases hm
  rw[Bool.not_false,Bq]
  have fin:∀{H8:Heap} {n8:Nat} {t:S},Fr G pb H7 n7 H8 n8 t->t=(bif decide (e1.kind=8)||decide (e1.kind=9)then s1 else EJ 21 s1)->F7 lfp G (Runs F G) k H8 n8:=by
   intro H8 n8 t y ht
   subst ht
   delta F7
   have hn8:=y.le
   refine hk _ _ _ (x.tr y) (by omega) (y.get gb (by omega) hb) ?_
   have hel8:El G H8 (.sl (n1+1) 0 1 1 11) 11 [c]:=hel.same λid hid=>by cases Iq hid;exact y.f.same _ (by omega) (by omega)
   exact .of (AFt hel8 (hx.mono (λid h=>⟨by have:=h.1;omega,by have:=h.2;omega⟩) λid h=>y.f.same id (by have:=h.2;omega) (by have:=h.1;omega)) ⟨by omega,by omega⟩) .nil .nil
  refine AB (v:=.ptr n1 0) (Aa ..) (AB q0 (AB (aY ..) ?_))
  cases k8:decide (e1.kind=8)with
  |true=>
   rw[k8]at fin
   simp only[Bool.not_true,go_sem]
   exact fin (Fr.refl x.p x.lt) rfl
  |false=>
   rw[k8]at fin
   simp only[Bool.not_false,go_sem,Nat.add_zero,q0,aY]
   cases k9:decide (e1.kind=9)with
   |true=>
    rw[k9]at fin
    simp only[Bool.not_true,go_sem]
    exact fin (Fr.refl x.p x.lt) rfl
   |false=>
    rw[k9]at fin
    simp only[Bool.not_false,go_sem]
    exact dR x.p x.lt λH8 n8 y=>fin y rfl
 |true=>
  rw[hi,cond_true]at hm
  obtain⟨s2,h2,hm⟩:=Option.bind_eq_some_iff.1 hm
  obtain⟨⟨e2,s3⟩,h3,hm⟩:=Option.bind_eq_some_iff.1 hm
  cases hm
  rw[Bool.not_true,Bg]
  have fin:∀{H8:Heap} {n8:Nat} {t:S},Fr G pb H7 n7 H8 n8 t->BM [Di] t=some s2->F8 lfp G (Runs F G) k (.ptr pb 0) (.ptr b 0) H8 n8:=by
   intro H8 n8 t y ht
   delta F8
   have hn8:=y.le
   have x:=x.tr y
   refine KJ (ws:=[Di]) x.p x.lt rfl (by show 1<=1000;omega) ht λH9 n9 y9=>?_
   have x:=x.tr y9
   have hn9:=y9.le
   have y:=y.tr y9
   have gb:=y.get gb (by omega) hb
   have q6:AZ (.ptr b 6) G H9=some (.sl (n1+1) 0 1 1 11):=AQ gb rfl
   refine AB (v:=.ptr b 0) rfl (AB (v:=.ptr b 6) (by rw[Aa,Nat.zero_add]) (AB q6 ?_))
   refine qK f _ _ _ _ _ _ x.p x.lt h3 λH10 n10 c2 y10 hx2=>?_
   have x:=x.tr y10
   have hn10:=y10.le
   have y:=y.tr y10
   have gb:=y10.get gb (by omega) hb
   have q6:AZ (.ptr b 6) G H10=some (.sl (n1+1) 0 1 1 11):=AQ gb rfl
   refine AB q6 (Dv (ARQ ..) ?_)
   refine O3 (G:=G) (vs:=[.agg c2]) rfl (by omega) (λv hv=>by simp at hv;subst hv;exact hx2.ok) λH11 f11 _ hel2=>?_
   have x:=x.al f11
   have gb:=f11.get gb (by omega)
   have hel11:El G H11 (.sl (n1+1) 0 1 1 11) 11 [c]:=hel.same λid hid=>by cases Iq hid;exact(f11.same _ (by omega)).trans (y.f.same _ (by omega) (by omega))
   have ht11:=(f11.same (n1+1) (by omega)).trans ((y.f.same (n1+1) (by omega) (by omega)).trans ht7)
   refine AGd (by omega) ht11 (by omega) hel11.2 hel2.2 (by show(1+1)*136<=_;omega) ?_
   intro v' H12 n12 hel12 hs12 hn12 hv'
   have gb:=(hs12 b (by omega)).trans gb
   have hcs:QW G H12 (λid=>b<id/\id<n12) ([c]++[c2]) [e1,e2]:=by
    refine .cons (hx.mono (λid h=>⟨by have:=h.1;omega,by have:=h.2;omega⟩) λid h=>?_) (.cons (hx2.mono (λid h=>⟨by have:=h.1;omega,by have:=h.2;omega⟩) λid h=>?_) .nil)
    ·have h1:=h.1;have h2:=h.2
     exact(hs12 id (by omega)).trans ((f11.same id (by omega)).trans (y.f.same id (by omega) (by omega)))
    ·have h1:=h.1;have h2:=h.2
     exact(hs12 id (by omega)).trans (f11.same id (by omega))
   have x12:Fr G pb H b H12 n12 s3:=⟨⟨by omega,λid hid hp=>(hs12 id (by omega)).trans (x.f.same id hid hp)⟩,x.p.same λid hid=>hs12 id (by omega),hb⟩
   have es:pq G H12 (λid=>b<id/\id<n12) v' [e1,e2]/\kX v'=true/\Cc v'=[v']:=by
    rcases hv' with⟨l,rfl,hl1⟩|⟨l,rfl,hl⟩
    ·exact⟨⟨_,hel12,gy hl1,rfl,rfl,λid hid=>by cases Iq hid;exact⟨by omega,by omega⟩,hcs⟩,rfl,rfl⟩
    ·exact⟨⟨_,hel12,AIV ..,rfl,rfl,λid hid=>by cases qE hid;exact⟨by omega,by omega⟩,hcs⟩,rfl,rfl⟩
   obtain⟨es,ok1,vc1⟩:=es
   refine AB (v:=.ptr b 0) rfl (AB (v:=.ptr b 0) (Aa ..) ?_)
   refine Ew gb rfl rfl (by omega) (by show 0+1<=9;omega) λH13 gb s13=>?_
   have x:=x12.st (Nat.le_refl _) s13
   refine AB (v:=.ptr b 0) rfl (AB (v:=.ptr b 6) (by rw[Aa,Nat.zero_add]) ?_)
   refine Ew gb ok1 (by rw[vc1];rfl) (by omega) (by show 6+1<=9;omega) λH14 gb s14=>?_
   have x:=x.st (Nat.le_refl _) s14
   rw[vc1]at gb
   refine hk _ _ (ny 2 line col [] JE v' .Aj .Aj) x (by omega) gb ?_
   exact .of (es.mono (λid h=>h) λid h=>(s14 id (by have:=h.1;omega)).trans (s13 id (by have:=h.1;omega))) .nil .nil
  refine AB (v:=.ptr n1 0) (Aa ..) (AB q0 (AB (aY ..) ?_))
  cases k6:decide (e1.kind=6)with
  |true=>
   rw[k6]at h2
   simp only[Bool.not_true]
   repeat (first|with_reducible refine ABz ?_|with_reducible refine AE8 ?_|with_reducible refine AB0 ?_)
   simp only[go_sem]
   exact fin (Fr.refl x.p x.lt) h2
  |false=>
   rw[k6]at h2
   simp only[Bool.not_false,go_sem,Nat.add_zero,q0,aY]
   cases k7:decide (e1.kind=7)with
   |true=>
    rw[k7]at h2
    simp only[Bool.not_true]
    repeat (first|with_reducible refine ABz ?_|with_reducible refine AE8 ?_|with_reducible refine AB0 ?_)
    simp only[go_sem]
    exact fin (Fr.refl x.p x.lt) h2
   |false=>
    rw[k7]at h2
    simp only[Bool.not_false,go_sem,Nat.add_zero,q0,aY]
    cases k12:decide (e1.kind=12)with
    |true=>
     rw[k12]at h2
     simp only[Bool.not_true,go_sem]
     exact fin (Fr.refl x.p x.lt) h2
    |false=>
     rw[k12]at h2
     simp only[Bool.not_false,go_sem]
     exact dR x.p x.lt λH8 n8 y=>fin y h2
end
section
variable{G:AY}{pb:Nat}
theorem AU1{G:AY}{H:Heap}{A:Nat->Prop}{c:LV}{e:St}{m:Nat}(hel:El G H (.sl m 0 1 1 9) 9 [c])(hx:SY G H A c e)(hm:A m):uX G H A (.sl m 0 1 1 9) [e]:=
 ⟨[c],hel,gy (Nat.le_refl _),rfl,rfl,λid hid=>by cases Iq hid;exact hm,.cons hx .nil⟩
theorem AMc{st ch:PM St}{f:Nat}(hst:StC G pb FT st)(hch:StC G pb Fj ch):StC G pb Fj (Yn st ch f):=by
 intro s H n s' e k h hb hm hk
 refine Am (s:=IQ (KL lfp G)) OA (by obtain⟨h,o⟩:=eu Ap G;rw[OA]at h;cases h;exact o) ?_
 show KL lfp G (Runs F G) (.ptr pb 0) H n k
 delta KL
 obtain⟨s1,h1,hm⟩:=Option.bind_eq_some_iff.1 hm
 obtain⟨s2,h2,hm⟩:=Option.bind_eq_some_iff.1 hm
 obtain⟨⟨e1,s3⟩,h3,hm⟩:=Option.bind_eq_some_iff.1 hm
 obtain⟨⟨th,s4⟩,h4,hm⟩:=Option.bind_eq_some_iff.1 hm
 obtain⟨⟨b,s5⟩,h5,hm⟩:=Option.bind_eq_some_iff.1 hm
 obtain⟨⟨el,s6⟩,h6,hm⟩:=Option.bind_eq_some_iff.1 hm
 obtain⟨s7,h7,hm⟩:=Option.bind_eq_some_iff.1 hm
 cases hm
 have x:=Fr.refl h hb
 refine BG rfl λH1 f1 g1=>?_
 have x:=x.al f1
 refine ADs x.p x.lt h1 λH2 n2 q y hq1 hq2 hq3=>?_
 have x:=x.tr y
 have hn2:=y.le
 have g1:=y.get g1 (by omega) hb
 rw[zx]
 obtain⟨v,tid,o,line,col,e0,ea,_,_,_,_,_,e5⟩:=x.p.tok
 refine AB (v:=.ptr pb 0) rfl (AB (v:=.ptr pb 0) rfl (AB e0 (AB ea (AB (v:=.ptr tid (o+3)) (Aa ..) (AB e5 (AB AR1 ?_))))))
 refine BG rfl λH3 f3 g3=>?_
 have x:=x.al f3
 have g1:=f3.get g1 (by omega)
 have hq3:=f3.get hq3 (by omega)
 refine DI (L:=ny 4 line col [] JE .Aj .Aj .Aj) g3 rfl rfl (by omega) λH4 g3 t4=>?_
 have x:=x.st (by omega) t4
 have g1:=(t4 n (by omega)).trans g1
 have hq3:=(t4 q (by omega)).trans hq3
 refine KJ (ws:=[IL]) x.p x.lt rfl (by show 1<=1000;omega) h2 λH5 n5 y=>?_
 have x:=x.tr y
 have hn5:=y.le
 have g1:=y.get g1 (by omega) hb
 have g3:=y.get g3 (by omega) (by omega)
 have hq3:=y.get hq3 (by omega) (by omega)
 refine qK f _ _ _ _ _ _ x.p x.lt h3 λH6 n6 c y hx=>?_
 have x:=x.tr y
 have hn6:=y.le
 have g1:=y.get g1 (by omega) hb
 have g3:=y.get g3 (by omega) (by omega)
 have hq3:=y.get hq3 (by omega) (by omega)
 refine O3 (G:=G) (vs:=[.agg c]) rfl (by omega) (λv hv=>by simp at hv;subst hv;exact hx.ok) λH7 f7 _ hel=>?_
 have x:=x.al f7
 have g1:=f7.get g1 (by omega)
 have g3:=f7.get g3 (by omega)
 have hq3:=f7.get hq3 (by omega)
 have hes:pq G H7 (λid=>n2<id/\id<n6+1) (.sl n6 0 1 1 11) [e1]:=AFt hel (hx.mono (λid h=>⟨by have:=h.1;omega,by have:=h.2;omega⟩) λid h=>f7.same id h.2) ⟨by omega,by omega⟩
 refine AB (v:=.ptr n2 6) (by rw[Aa,Nat.zero_add]) ?_
 refine Ew g3 rfl rfl (by omega) (by show 6+1<=9;omega) λH8 g3 t8=>?_
 have x:=x.st (by omega) t8
 have g1:=(t8 n (by omega)).trans g1
 have hq3:=(t8 q (by omega)).trans hq3
 have hes:=hes.mono (B:=λid=>n2<id/\id<n6+1) (λid h=>h) λid h=>t8 id (by have:=h.1;omega)
 refine AAB hst x.p x.lt h4 λH9 n9 vt y hss=>?_
 have x:=x.tr y
 have hn9:=y.le
 have g1:=y.get g1 (by omega) hb
 have g3:=y.get g3 (by omega) (by omega)
 have hq3:=y.get hq3 (by omega) (by omega)
 have hes:=hes.mono (B:=λid=>n2<id/\id<n9) (λid h=>⟨h.1,by have:=h.2;omega⟩) λid h=>y.f.same id h.2 (by have:=h.1;omega)
 obtain⟨_,_,_,okt,vct,_,_⟩:=id hss
 refine AB (v:=.ptr n2 7) (by rw[Aa,Nat.zero_add]) ?_
 refine Ew g3 okt (by rw[vct];rfl) (by omega) (by show 7+1<=9;omega) λH10 g3 t10=>?_
 rw[vct]at g3
 have g3:T.get H10 n2=some (one (ny 4 line col [] JE (.sl n6 0 1 1 11) vt .Aj)):=g3
 have x:=x.st (by omega) t10
 have g1:=(t10 n (by omega)).trans g1
 have hq3:=(t10 q (by omega)).trans hq3
 have hes:=hes.mono (B:=λid=>n2<id/\id<n9) (λid h=>h) λid h=>t10 id (by have:=h.1;omega)
 have hss:=hss.mono (B:=λid=>n2<id/\id<n9) (λid h=>⟨by have:=h.1;omega,h.2⟩) λid h=>t10 id (by have:=h.1;omega)
 rw[show V.str 4 1702063205=sB EU from rfl]
 refine NV x.p x.lt h5 λH11 n11 y=>?_
 have x:=x.tr y
 have hn11:=y.le
 have g1:=y.get g1 (by omega) hb
 have g3:=y.get g3 (by omega) (by omega)
 have hq3:=y.get hq3 (by omega) (by omega)
 have hes:=hes.mono (B:=λid=>n2<id/\id<n11) (λid h=>⟨h.1,by have:=h.2;omega⟩) λid h=>y.f.same id h.2 (by have:=h.1;omega)
 have hss:=hss.mono (B:=λid=>n2<id/\id<n11) (λid h=>⟨h.1,by have:=h.2;omega⟩) λid h=>y.f.same id h.2 (by have:=h.1;omega)
 have fin:∀{H':Heap} {n':Nat} {vl:V},Fr G pb H n H' n' s6->n2<n'->T.get H' n=some (one stZ)->T.get H' n2=some (one (ny 4 line col [] JE (.sl n6 0 1 1 11) vt vl))->T.get H' q=some (one [.ptr pb 0])->
  pq G H' (λid=>n2<id/\id<n') (.sl n6 0 1 1 11) [e1]->uX G H' (λid=>n2<id/\id<n') vt th->uX G H' (λid=>n2<id/\id<n') vl el->
  Ea lfp G (Runs F G) k (.ptr n 0) (.ptr n2 0) (.JL [.fn Bv [] [.ptr q 0]]) H' n':=by
  intro H' n' vl x hn' g1 g3 hq3 hes hss hsl
  delta Ea
  refine AB (Ah (m:=9) g3 (by omega) rfl) ?_
  refine DI g1 rfl rfl (by omega) λH12 g12 t12=>?_
  have x:=x.st (Nat.le_refl _) t12
  refine AOg x.p x.lt ((t12 q (by omega)).trans hq3) h7 λH13 n13 y=>?_
  have hn13:=y.le
  rw[ED (m:=9) (y.get g12 (by omega) hb) (by omega) rfl]
  simp only[go_sem]
  have keep:∀id,n2<id/\id<n'->T.get H13 id=T.get H' id:=λid h=>(y.f.same id h.2 (by have:=h.1;omega)).trans (t12 id (by have:=h.1;omega))
  refine hk _ _ _ (x.tr y) (.of (hes.mono (λid h=>⟨by have:=h.1;omega,by have:=h.2;omega⟩) keep) (hss.mono (λid h=>⟨by have:=h.1;omega,by have:=h.2;omega⟩) keep) (hsl.mono (λid h=>⟨by have:=h.1;omega,by have:=h.2;omega⟩) keep))
 cases b with
 |false=>
  cases h6
  rw[Bg]
  exact fin x (by omega) g1 g3 hq3 hes hss .nil
 |true=>
  rw[cond_true]at h6
  rw[Bq]
  refine oO (ws:=[IL]) x.p x.lt rfl (by show 1<=1000;omega) λH12 n12 y=>?_
  have x:=x.tr y
  have hn12:=y.le
  have g1:=y.get g1 (by omega) hb
  have g3:=y.get g3 (by omega) (by omega)
  have hq3:=y.get hq3 (by omega) (by omega)
  have hes:=hes.mono (B:=λid=>n2<id/\id<n12) (λid h=>⟨h.1,by have:=h.2;omega⟩) λid h=>y.f.same id h.2 (by have:=h.1;omega)
  have hss:=hss.mono (B:=λid=>n2<id/\id<n12) (λid h=>⟨h.1,by have:=h.2;omega⟩) λid h=>y.f.same id h.2 (by have:=h.1;omega)
  cases hi:Hq [IL] s5 with
  |true=>
   have h6:((ch s5).bind λx=>some ([x.1],x.2))=some (el,s6):=by simpa[hi]using h6
   obtain⟨⟨e2,s8⟩,h8,h6⟩:=Option.bind_eq_some_iff.1 h6
   cases h6
   rw[Bq]
   refine hch _ _ _ _ _ _ x.p x.lt h8 λH13 n13 c2 y hx2=>?_
   have x:=x.tr y
   have hn13:=y.le
   have g1:=y.get g1 (by omega) hb
   have g3:=y.get g3 (by omega) (by omega)
   have hq3:=y.get hq3 (by omega) (by omega)
   have hes:=hes.mono (B:=λid=>n2<id/\id<n13) (λid h=>⟨h.1,by have:=h.2;omega⟩) λid h=>y.f.same id h.2 (by have:=h.1;omega)
   have hss:=hss.mono (B:=λid=>n2<id/\id<n13) (λid h=>⟨h.1,by have:=h.2;omega⟩) λid h=>y.f.same id h.2 (by have:=h.1;omega)
   refine O3 (G:=G) (vs:=[.agg c2]) rfl (by omega) (λv hv=>by simp at hv;subst hv;exact hx2.ok) λH14 f14 _ hel2=>?_
   have x:=x.al f14
   have g1:=f14.get g1 (by omega)
   have g3:=f14.get g3 (by omega)
   have hq3:=f14.get hq3 (by omega)
   refine AB (v:=.ptr n2 8) (by rw[Aa,Nat.zero_add]) ?_
   refine Ew g3 rfl rfl (by omega) (by show 8+1<=9;omega) λH15 g3 t15=>?_
   have x:=x.st (by omega) t15
   have hsl:uX G H14 (λid=>n2<id/\id<n13+1) (.sl n13 0 1 1 9) [e2]:=AU1 hel2 (hx2.mono (λid h=>⟨by have:=h.1;omega,by have:=h.2;omega⟩) λid h=>f14.same id h.2) ⟨by omega,by omega⟩
   refine fin x (by omega) ((t15 n (by omega)).trans g1) g3 ((t15 q (by omega)).trans hq3) (hes.mono (λid h=>⟨h.1,by have:=h.2;omega⟩) ?_) (hss.mono (λid h=>⟨h.1,by have:=h.2;omega⟩) ?_) (hsl.mono (λid h=>h) λid h=>t15 id (by have:=h.1;omega))
   ·exact λid h=>(t15 id (by have:=h.1;omega)).trans (f14.same id h.2)
   ·exact λid h=>(t15 id (by have:=h.1;omega)).trans (f14.same id h.2)
  |false=>
   have h6:EW st f s5=some (el,s6):=by simpa[hi]using h6
   rw[Bg]
   refine AAB hst x.p x.lt h6 λH13 n13 vl y hsl=>?_
   have x:=x.tr y
   have hn13:=y.le
   have g1:=y.get g1 (by omega) hb
   have g3:=y.get g3 (by omega) (by omega)
   have hq3:=y.get hq3 (by omega) (by omega)
   have hes:=hes.mono (B:=λid=>n2<id/\id<n13) (λid h=>⟨h.1,by have:=h.2;omega⟩) λid h=>y.f.same id h.2 (by have:=h.1;omega)
   have hss:=hss.mono (B:=λid=>n2<id/\id<n13) (λid h=>⟨h.1,by have:=h.2;omega⟩) λid h=>y.f.same id h.2 (by have:=h.1;omega)
   obtain⟨_,_,_,okl,vcl,_,_⟩:=id hsl
   refine AB (v:=.ptr n2 8) (by rw[Aa,Nat.zero_add]) ?_
   refine Ew g3 okl (by rw[vcl];rfl) (by omega) (by show 8+1<=9;omega) λH15 g3 t15=>?_
   rw[vcl]at g3
   have x:=x.st (by omega) t15
   exact fin (vl:=vl) x (by omega) ((t15 n (by omega)).trans g1) g3 ((t15 q (by omega)).trans hq3) (hes.mono (λid h=>h) λid h=>t15 id (by have:=h.1;omega)) (hss.mono (λid h=>h) λid h=>t15 id (by have:=h.1;omega))
    (hsl.mono (λid h=>⟨by have:=h.1;omega,h.2⟩) λid h=>t15 id (by have:=h.1;omega))
end
section
variable{G:AY}{pb:Nat}
theorem ASL{st ch:PM St}{f:Nat}(hst:StC G pb FT st)(hch:StC G pb Fj ch):StC G pb FT (TT st ch f):=by
 intro s H n s' e k h hb hm hk
 refine Am (s:=IQ (MZ lfp G)) Px (by obtain⟨h,o⟩:=lV Ap G;rw[Px]at h;cases h;exact o) ?_
 show MZ lfp G (Runs F G) (.ptr pb 0) H n k
 delta MZ
 obtain⟨⟨b,s1⟩,h1,hm⟩:=Option.bind_eq_some_iff.1 hm
 have hm:(bif b then
  (UZ s1).bind λt=>(Eo 3 t.2).bind λn=>(BM [Di] n.2).bind λs1=>(expr f s1).bind λx=>endP (.mk 1 n.1 t.1 [x.1] [] []) x.2 else
  bif Hq [IL] s1 then ch s1 else
  (BZ FK s1).bind λp=>bif p.1 then(expr f p.2).bind λc=>(EW st f c.2).bind λt=>some (.mk 5 [] JE [c.1] t.1 [],t.2)else
  (BZ EZ p.2).bind λp=>bif p.1 then(expr f p.2).bind λx=>endP (.mk 6 [] JE [x.1] [] []) x.2 else
  (BZ FM p.2).bind λp=>bif p.1 then(expr f p.2).bind λx=>endP (.mk 7 [] JE [x.1] [] []) x.2 else
  (Wu f p.2).bind λx=>endP x.1 x.2)=some (e,s'):=hm
 have x:=Fr.refl h hb
 refine BG rfl λH1 f1 g1=>?_
 have x:=x.al f1
 obtain⟨v,tid,o,line,col,e0,ea,_,_,_,_,_,e5⟩:=x.p.tok
 refine AB (v:=.ptr pb 0) rfl (AB (v:=.ptr pb 0) rfl (AB e0 (AB ea (AB (v:=.ptr tid (o+3)) (Aa ..) (AB e5 (AB AS9 ?_))))))
 refine BG rfl λH3 f3 g3=>?_
 have x:=x.al f3
 have g1:=f3.get g1 (by omega)
 refine DI (L:=ny 0 line col [] JE .Aj .Aj .Aj) g3 rfl rfl (by omega) λH4 g3 t4=>?_
 have x:=x.st (by omega) t4
 have g1:=(t4 n (by omega)).trans g1
 clear t4 f3 f1 e0 ea e5
 have out:∀{H':Heap} {n':Nat} {c:LV},Fr G pb H n H' n' s'->T.get H' n=some (one stZ)->T.get H' (n+1)=some (one c)->SY G H' (λid=>n+1<id/\id<n') c e->
  AP (A8 9 (.ptr (n+1) 0) G H') λv45=>Df 9 (.ptr n 0) v45 H' n' λ_ H n'=>Ip (EI [.cn (.ptr n 0) 9] G H) λl=>k (Hr l) H n':=by
  intro H' n' c x g1 g3 hx
  refine AB (Ah (m:=9) g3 (by omega) hx.len) ?_
  refine DI g1 rfl hx.len (by omega) λH12 g12 t12=>?_
  rw[ED (m:=9) g12 (by omega) hx.len]
  simp only[go_sem]
  exact hk _ _ _ (x.st (Nat.le_refl _) t12) (hx.mono (λid h=>⟨by have:=h.1;omega,h.2⟩) λid h=>t12 id (by have:=h.1;omega))
 have fin:∀{H':Heap} {n':Nat} {c:LV} {t':S} {b':St},Fr G pb H n H' n' t'->n+1<n'->endP b' t'=some (e,s')->T.get H' n=some (one stZ)->T.get H' (n+1)=some (one c)->SY G H' (λid=>n+1<id/\id<n') c b'->
  Dz lfp G (Runs F G) k (.ptr pb 0) (.ptr n 0) (.ptr (n+1) 0) H' n':=by
  intro H' n' c t' b' x hn' he g1 g3 hx
  delta Dz
  obtain⟨t2,h2,he⟩:=Option.bind_eq_some_iff.1 he
  cases he
  refine KJ (ws:=[Aq]) x.p x.lt rfl (by show 1<=1000;omega) h2 λH5 n5 y=>?_
  have hn5:=y.le
  exact out (x.tr y) (y.get g1 (by omega) hb) (y.get g3 (by omega) (by omega)) (hx.mono (λid h=>⟨h.1,by have:=h.2;omega⟩) λid h=>y.f.same id h.2 (by have:=h.1;omega))
 have AWV:∀{H':Heap} {n' kd:Nat} {t t1:S} {e1:Ex} {P:V},Fr G pb H n H' n' t->n+1<n'->T.get H' n=some (one stZ)->T.get H' (n+1)=some (one (ny 0 line col [] JE .Aj .Aj .Aj))->
  expr f t=some (e1,t1)->endP (.mk kd [] JE [e1] [] []) t1=some (e,s')->
  Runs F G CS [.ptr pb 0] H' n' λv48 H n'=>EH (Ar 11 1 exZ [(0,.c v48)] E0) H n' λv49 H n'=>AP (AU 0 (.ptr (n+1) 0)) λv50=>Df 1 v50 (.int .i64 (.ofNat kd) 0) H n' λ_ H n'=>
   AP (AU 6 (.ptr (n+1) 0)) λv52=>Df 1 v52 v49 H n' λ_ H n'=>Dz lfp G (Runs F G) k (.ptr pb 0) (.ptr n 0) (.ptr (n+1) 0) H n':=by
  intro H' n' kd t t1 e1 _ x hn' g1 g3 h1 he
  refine qK f _ _ _ _ _ _ x.p x.lt h1 λH6 n6 c y hx=>?_
  have x:=x.tr y
  have hn6:=y.le
  have g1:=y.get g1 (by omega) hb
  have g3:=y.get g3 (by omega) (by omega)
  refine O3 (G:=G) (vs:=[.agg c]) rfl (by omega) (λv hv=>by simp at hv;subst hv;exact hx.ok) λH7 f7 _ hel=>?_
  have x:=x.al f7
  have g1:=f7.get g1 (by omega)
  have g3:=f7.get g3 (by omega)
  have hes:pq G H7 (λid=>n+1<id/\id<n6+1) (.sl n6 0 1 1 11) [e1]:=AFt hel (hx.mono (λid h=>⟨by have:=h.1;omega,by have:=h.2;omega⟩) λid h=>f7.same id h.2) ⟨by omega,by omega⟩
  refine AB (v:=.ptr (n+1) 0) (Aa ..) ?_
  refine Ew g3 rfl rfl (by omega) (by show 0+1<=9;omega) λH8 g3 t8=>?_
  have x:=x.st (by omega) t8
  have g1:=(t8 n (by omega)).trans g1
  refine AB (v:=.ptr (n+1) 6) (by rw[Aa,Nat.zero_add]) ?_
  refine Ew g3 rfl rfl (by omega) (by show 6+1<=9;omega) λH9 g3 t9=>?_
  have x:=x.st (by omega) t9
  exact fin (c:=ny kd line col [] JE (.sl n6 0 1 1 11) .Aj .Aj) x (by omega) he ((t9 n (by omega)).trans g1) g3 (.of (hes.mono (λid h=>h) λid h=>(t9 id (by have:=h.1;omega)).trans (t8 id (by have:=h.1;omega))) .nil .nil)
 rw[show V.str 3 7628140=sB NM from rfl]
 refine NV x.p x.lt h1 λH5 n5 y=>?_
 have x:=x.tr y
 have hn5:=y.le
 have g1:=y.get g1 (by omega) hb
 have g3:=y.get g3 (by omega) (by omega)
 cases b with
 |true=>
  rw[cond_true]at hm
  obtain⟨⟨t,s2⟩,h2,hm⟩:=Option.bind_eq_some_iff.1 hm
  obtain⟨⟨nm,s3⟩,h3,hm⟩:=Option.bind_eq_some_iff.1 hm
  obtain⟨s4,h4,hm⟩:=Option.bind_eq_some_iff.1 hm
  obtain⟨⟨e1,s5⟩,h5,hm⟩:=Option.bind_eq_some_iff.1 hm
  rw[Bq]
  refine AB (v:=.ptr (n+1) 0) (Aa ..) ?_
  refine Ew g3 rfl rfl (by omega) (by show 0+1<=9;omega) λH6 g3 t6=>?_
  have x:=x.st (by omega) t6
  have g1:=(t6 n (by omega)).trans g1
  refine AI3 x.p x.lt h2 λH7 n7 y=>?_
  have x:=x.tr y
  have hn7:=y.le
  have g1:=y.get g1 (by omega) hb
  have g3:=y.get g3 (by omega) (by omega)
  refine AB (v:=.ptr (n+1) 4) (by rw[Aa,Nat.zero_add]) ?_
  refine Ew g3 rfl rfl (by omega) (by show 4+2<=9;omega) λH8 g3 t8=>?_
  have x:=x.st (by omega) t8
  have g1:=(t8 n (by omega)).trans g1
  refine ZU x.p x.lt h3 λH9 n9 y=>?_
  have x:=x.tr y
  have hn9:=y.le
  have g1:=y.get g1 (by omega) hb
  have g3:=y.get g3 (by omega) (by omega)
  refine AB (v:=.ptr (n+1) 3) (by rw[Aa,Nat.zero_add]) ?_
  refine Ew g3 rfl rfl (by omega) (by show 3+1<=9;omega) λH10 g3 t10=>?_
  have x:=x.st (by omega) t10
  have g1:=(t10 n (by omega)).trans g1
  have g3:T.get H10 (n+1)=some (one (ny 1 line col nm t .Aj .Aj .Aj)):=g3
  refine KJ (ws:=[Di]) x.p x.lt rfl (by show 1<=1000;omega) h4 λH11 n11 y=>?_
  have x:=x.tr y
  have hn11:=y.le
  have g1:=y.get g1 (by omega) hb
  have g3:=y.get g3 (by omega) (by omega)
  refine qK f _ _ _ _ _ _ x.p x.lt h5 λH12 n12 c y hx=>?_
  have x:=x.tr y
  have hn12:=y.le
  have g1:=y.get g1 (by omega) hb
  have g3:=y.get g3 (by omega) (by omega)
  refine O3 (G:=G) (vs:=[.agg c]) rfl (by omega) (λv hv=>by simp at hv;subst hv;exact hx.ok) λH13 f13 _ hel=>?_
  have x:=x.al f13
  have g1:=f13.get g1 (by omega)
  have g3:=f13.get g3 (by omega)
  have hes:pq G H13 (λid=>n+1<id/\id<n12+1) (.sl n12 0 1 1 11) [e1]:=AFt hel (hx.mono (λid h=>⟨by have:=h.1;omega,by have:=h.2;omega⟩) λid h=>f13.same id h.2) ⟨by omega,by omega⟩
  refine AB (v:=.ptr (n+1) 6) (by rw[Aa,Nat.zero_add]) ?_
  refine Ew g3 rfl rfl (by omega) (by show 6+1<=9;omega) λH14 g3 t14=>?_
  have x:=x.st (by omega) t14
  exact fin (c:=ny 1 line col nm t (.sl n12 0 1 1 11) .Aj .Aj) x (by omega) hm ((t14 n (by omega)).trans g1) g3 (.of (hes.mono (λid h=>h) λid h=>t14 id (by have:=h.1;omega)) .nil .nil)
 |false=>
  rw[cond_false]at hm
  rw[Bg]
  refine oO (ws:=[IL]) x.p x.lt rfl (by show 1<=1000;omega) λH6 n6 y=>?_
  have x:=x.tr y
  have hn6:=y.le
  have g1:=y.get g1 (by omega) hb
  have g3:=y.get g3 (by omega) (by omega)
  cases hi:Hq [IL] s1 with
  |true=>
   rw[hi,cond_true]at hm
   rw[Bq]
   refine hch _ _ _ _ _ _ x.p x.lt hm λH7 n7 c y hx=>?_
   have hn7:=y.le
   refine DI (y.get g1 (by omega) hb) rfl hx.len (by omega) λH12 g12 t12=>?_
   rw[ED (m:=9) g12 (by omega) hx.len]
   simp only[go_sem]
   exact hk _ _ _ ((x.tr y).st (Nat.le_refl _) t12) (hx.mono (λid h=>⟨by have:=h.1;omega,h.2⟩) λid h=>t12 id (by have:=h.1;omega))
  |false=>
   rw[hi,cond_false]at hm
   rw[Bg]
   obtain⟨⟨b,s2⟩,h2,hm⟩:=Option.bind_eq_some_iff.1 hm
   rw[show V.str 5 435610544247=sB FK from rfl]
   refine NV x.p x.lt h2 λH7 n7 y=>?_
   have x:=x.tr y
   have hn7:=y.le
   have g1:=y.get g1 (by omega) hb
   have g3:=y.get g3 (by omega) (by omega)
   cases b with
   |true=>
    obtain⟨⟨e1,s3⟩,h3,hm⟩:=Option.bind_eq_some_iff.1 (show((expr f s2).bind λc=>(EW st f c.2).bind λt=>some (.mk 5 [] JE [c.1] t.1 [],t.2))=some (e,s')from hm)
    obtain⟨⟨th,s4⟩,h4,hm⟩:=Option.bind_eq_some_iff.1 hm
    cases hm
    rw[Bq]
    refine AB (v:=.ptr (n+1) 0) (Aa ..) ?_
    refine Ew g3 rfl rfl (by omega) (by show 0+1<=9;omega) λH8 g3 t8=>?_
    have x:=x.st (by omega) t8
    have g1:=(t8 n (by omega)).trans g1
    refine qK f _ _ _ _ _ _ x.p x.lt h3 λH12 n12 c y hx=>?_
    have x:=x.tr y
    have hn12:=y.le
    have g1:=y.get g1 (by omega) hb
    have g3:=y.get g3 (by omega) (by omega)
    refine O3 (G:=G) (vs:=[.agg c]) rfl (by omega) (λv hv=>by simp at hv;subst hv;exact hx.ok) λH13 f13 _ hel=>?_
    have x:=x.al f13
    have g1:=f13.get g1 (by omega)
    have g3:=f13.get g3 (by omega)
    have hes:pq G H13 (λid=>n+1<id/\id<n12+1) (.sl n12 0 1 1 11) [e1]:=AFt hel (hx.mono (λid h=>⟨by have:=h.1;omega,by have:=h.2;omega⟩) λid h=>f13.same id h.2) ⟨by omega,by omega⟩
    refine AB (v:=.ptr (n+1) 6) (by rw[Aa,Nat.zero_add]) ?_
    refine Ew g3 rfl rfl (by omega) (by show 6+1<=9;omega) λH14 g3 t14=>?_
    have x:=x.st (by omega) t14
    have g1:=(t14 n (by omega)).trans g1
    have hes:=hes.mono (B:=λid=>n+1<id/\id<n12+1) (λid h=>h) λid h=>t14 id (by have:=h.1;omega)
    refine AAB hst x.p x.lt h4 λH15 n15 vt y hss=>?_
    have x:=x.tr y
    have hn15:=y.le
    have g1:=y.get g1 (by omega) hb
    have g3:=y.get g3 (by omega) (by omega)
    have hes:=hes.mono (B:=λid=>n+1<id/\id<n15) (λid h=>⟨h.1,by have:=h.2;omega⟩) λid h=>y.f.same id h.2 (by have:=h.1;omega)
    obtain⟨_,_,_,okt,vct,_,_⟩:=id hss
    refine AB (v:=.ptr (n+1) 7) (by rw[Aa,Nat.zero_add]) ?_
    refine Ew g3 okt (by rw[vct];rfl) (by omega) (by show 7+1<=9;omega) λH16 g3 t16=>?_
    rw[vct]at g3
    have x:=x.st (by omega) t16
    exact out (c:=ny 5 line col [] JE (.sl n12 0 1 1 11) vt .Aj) x ((t16 n (by omega)).trans g1) g3 (.of (hes.mono (λid h=>h) λid h=>t16 id (by have:=h.1;omega)) (hss.mono (λid h=>⟨by have:=h.1;omega,h.2⟩) λid h=>t16 id (by have:=h.1;omega)) .nil)
   |false=>
    obtain⟨⟨b,s3⟩,h3,hm⟩:=Option.bind_eq_some_iff.1 (show((BZ EZ s2).bind λp=>bif p.1 then(expr f p.2).bind λx=>endP (.mk 6 [] JE [x.1] [] []) x.2 else
     (BZ FM p.2).bind λp=>bif p.1 then(expr f p.2).bind λx=>endP (.mk 7 [] JE [x.1] [] []) x.2 else(Wu f p.2).bind λx=>endP x.1 x.2)=some (e,s')from hm)
    rw[Bg,show V.str 6 121437875889522=sB EZ from rfl]
    refine NV x.p x.lt h3 λH8 n8 y=>?_
    have x:=x.tr y
    have hn8:=y.le
    have g1:=y.get g1 (by omega) hb
    have g3:=y.get g3 (by omega) (by omega)
    cases b with
    |true=>
     obtain⟨⟨e1,s4⟩,h4,hm⟩:=Option.bind_eq_some_iff.1 (show((expr f s3).bind λx=>endP (.mk 6 [] JE [x.1] [] []) x.2)=some (e,s')from hm)
     rw[Bq]
     exact AWV (P:=.undef) x (by omega) g1 g3 h4 hm
    |false=>
     obtain⟨⟨b,s4⟩,h4,hm⟩:=Option.bind_eq_some_iff.1 (show((BZ FM s3).bind λp=>bif p.1 then(expr f p.2).bind λx=>endP (.mk 7 [] JE [x.1] [] []) x.2 else(Wu f p.2).bind λx=>endP x.1 x.2)=some (e,s')from hm)
     rw[Bg,show V.str 5 500068610672=sB FM from rfl]
     refine NV x.p x.lt h4 λH9 n9 y=>?_
     have x:=x.tr y
     have hn9:=y.le
     have g1:=y.get g1 (by omega) hb
     have g3:=y.get g3 (by omega) (by omega)
     cases b with
     |true=>
      obtain⟨⟨e1,s5⟩,h5,hm⟩:=Option.bind_eq_some_iff.1 (show((expr f s4).bind λx=>endP (.mk 7 [] JE [x.1] [] []) x.2)=some (e,s')from hm)
      rw[Bq]
      exact AWV (P:=.undef) x (by omega) g1 g3 h5 hm
     |false=>
      obtain⟨⟨e1,s5⟩,h5,hm⟩:=Option.bind_eq_some_iff.1 (show((Wu f s4).bind λx=>endP x.1 x.2)=some (e,s')from hm)
      rw[Bg]
      refine APU x.p (by omega) (by omega) g3 h5 λH10 n10 c y hle gb hx=>?_
      have x10:Fr G pb H n H10 n10 s5:=⟨⟨by omega,λid hid hp=>(y.f.same id (by omega) hp).trans (x.f.same id hid hp)⟩,y.p,hb⟩
      exact fin x10 (by omega) hm (y.get g1 (by omega) hb) gb hx
theorem AXQ(f:Nat):StC G pb FT (sc f false)/\StC G pb Fj (sc f true):=by
 induction f with
 |zero=>exact⟨λs H n s' e k _ _ hm _=>(by cases hm),λs H n s' e k _ _ hm _=>(by cases hm)⟩
 |succ f ih=>exact⟨λs H n s' e k h hb hm hk=>ASL (f:=f) ih.1 ih.2 s H n s' e k h hb hm hk,λs H n s' e k h hb hm hk=>AMc (f:=f) ih.1 ih.2 s H n s' e k h hb hm hk⟩
end
def vaC(x:Va):LV:=[sB x.nm,sB x.ty.nm,.bool x.ty.arr]
def ADd(G:AY)(H:Heap)(A:Nat->Prop)(v:V)(xs:List Va):Prop:=El G H v 3 (xs.map vaC)/\KS v/\kX v=true/\Cc v=[v]/\(∀id,v.Ry=some id->A id)
theorem ADd.mono{G:AY}{H H':Heap}{A B:Nat->Prop}{v:V}{xs:List Va}(h:ADd G H A v xs)(hA:∀id,A id->B id)(hs:∀id,A id->T.get H' id=T.get H id):ADd G H' B v xs:=
 ⟨h.1.same λid hid=>hs id (h.2.2.2.2 id hid),h.2.1,h.2.2.1,h.2.2.2.1,λid hid=>hA id (h.2.2.2.2 id hid)⟩
def meZ:LV:=[.int .i64 (.ofNat 0) 0,.int .i64 (.ofNat 0) 0,.str 0 0,.bool false,.Aj,.str 0 0,.bool false,.Aj]
def meC(line col:Nat)(nm:Bs)(st:Bool)(vp:V)(ty:Ty)(vb:V):LV:=[.int .i64 (.ofNat line) 0,.int .i64 (.ofNat col) 0,sB nm,.bool st,vp,sB ty.nm,.bool ty.arr,vb]
inductive Zf(G:AY)(H:Heap)(A:Nat->Prop):LV->Me->Prop where
 |mk (line col:Nat) {nm:Bs} {st:Bool} {ty:Ty} {ps:List Va} {bd:List St} {vp vb:V} (hp:ADd G H A vp ps) (hb:uX G H A vb bd):Zf G H A (meC line col nm st vp ty vb) ⟨nm,st,ps,ty,bd⟩
theorem Zf.mono{G:AY}{H H':Heap}{A B:Nat->Prop}{c:LV}{m:Me}(hA:∀id,A id->B id)(hs:∀id,A id->T.get H' id=T.get H id)(h:Zf G H A c m):Zf G H' B c m:=by
 cases h with
 |mk line col hp hb=>exact .mk line col (hp.mono hA hs) (hb.mono hA hs)
theorem Zf.len{G:AY}{H:Heap}{A:Nat->Prop}{c:LV}{m:Me}(h:Zf G H A c m):c.length=8:=by cases h;rfl
theorem AVU{x y:V}{b:Bool}:Cj meZ [(0,2,.c (.agg [x,y])),(3,1,.c (.bool b))]=some (.agg [x,y,.str 0 0,.bool b,.Aj,.str 0 0,.bool false,.Aj]):=rfl
theorem AQ9(l m:Bs)(b:Bool):Cj [.str 0 0,.str 0 0,.bool false] [(0,1,.c (sB l)),(1,2,.c (.agg [sB m,.bool b]))]=some (.agg [sB l,sB m,.bool b]):=rfl
theorem ARn(t:Ty):CX (.agg (tyC t)) (.agg (tyC t))=true:=ABc λv hv=>by simp[tyC]at hv;rcases hv with rfl|rfl;exact AAV ..;exact AEu ..
theorem AL2{G:AY}{H:Heap}{m z:Nat}{v:V}{LS:EY}(h:Gr G H m z v LS):CX v v=true:=by
 cases h with
 |nil=>rfl
 |Qg=>exact AMF ..
section
variable{G:AY}{pb:Nat}{H:Heap}{n:Nat}{s s':S}{k:KV}
theorem ABA{m:Nat}{t:S}(h:(D9 m t).ok=true):m<=200:=by
 unfold D9 at h
 cases hd:decide (200<m)with
 |false=>have:=of_decide_eq_false hd;omega
 |true=>
  rw[hd]at h
  exfalso
  unfold EJ at h
  cases ho:t.ok with
  |false=>rw[ho]at h;simp[ho]at h
  |true=>rw[ho]at h;cases h
theorem AEE{z bs m:Nat}{v:V}{c:LV}{LS:EY}{P:KV}{Z:LV}(ho:Own G H m n z v LS)(hm:m<=n)(hz:0<z)(hc:c.length=z)(hok:kX (.agg c)=true)(hb:(LS.length+1)*bs<=140737488355328)
 (hk:∀v' H',Own G H' m (n+2) z v' (LS++[c])->(∀id,id<n->v.Ry≠some id->T.get H' id=T.get H id)->(∀id,v'.Ry=some id->id=n+1)->P v' H' (n+2)):
 EH (Ar z 1 Z [(0,.c (.agg c))] E0) H n λw H n=>iW z bs v w G H n P:=by
 refine O3 (G:=G) (vs:=[.agg c]) rfl hz (λv hv=>by simp at hv;subst hv;exact⟨hok,hc⟩) λH6 f6 _ hel=>?_
 have ho6:=ho.kp f6
 refine zh ho6.gr (by omega) ho6.lo hel.2 hb ?_ (λh=>by cases h)
 intro v' H7 hgr hsame hlo
 refine hk v' H7 ⟨hgr,λid hid=>by have:=hlo id hid;omega⟩ (λid h1 h2=>(hsame id (by omega) h2).trans (f6.same id h1)) hlo
theorem AMA{f:Nat}{m:Me}(h:YH G H pb s)(hb:pb<n)(hm:Rh f s=some (m,s'))(hk:∀H' n' c,Fr G pb H n H' n' s'->Zf G H' (Rg n n') c m->k (.agg c) H' n'):Runs F G Uk [.ptr pb 0] H n k:=by
 refine Am (s:=IQ (J3 lfp G)) N7 (by obtain⟨h,o⟩:=bY Ap G;rw[N7]at h;cases h;exact o) ?_
 show J3 lfp G (Runs F G) (.ptr pb 0) H n k
 delta J3
 obtain⟨⟨b,s1⟩,h1,hm⟩:=Option.bind_eq_some_iff.1 hm
 obtain⟨s2,h2,hm⟩:=Option.bind_eq_some_iff.1 hm
 obtain⟨⟨ty,s3⟩,h3,hm⟩:=Option.bind_eq_some_iff.1 hm
 obtain⟨⟨nm,s4⟩,h4,hm⟩:=Option.bind_eq_some_iff.1 hm
 obtain⟨s5,h5,hm⟩:=Option.bind_eq_some_iff.1 hm
 obtain⟨⟨ps,s6⟩,h6,hm⟩:=Option.bind_eq_some_iff.1 hm
 obtain⟨⟨bd,s7⟩,h7,hm⟩:=Option.bind_eq_some_iff.1 hm
 cases hm
 have x:=Fr.refl h hb
 refine BG rfl λH1 f1 g1=>?_
 have x:=x.al f1
 obtain⟨v,tid,o,line,col,e0,ea,_,_,_,_,_,e5⟩:=x.p.tok
 refine AB (v:=.ptr pb 0) rfl (AB (v:=.ptr pb 0) rfl (AB e0 (AB ea (AB (v:=.ptr tid (o+3)) (Aa ..) (AB e5 ?_)))))
 refine BG rfl λH2 f2 g2=>?_
 have x:=x.al f2
 have g1:=f2.get g1 (by omega)
 refine DI (L:=[.int .i64 (.ofNat line) 0,.int .i64 (.ofNat col) 0]) g2 rfl rfl (by omega) λH3 g2 t3=>?_
 have x:=x.st (by omega) t3
 have g1:=(t3 n (by omega)).trans g1
 refine AB (Ah (m:=2) g2 (by omega) rfl) ?_
 refine BG rfl λH4 f4 g3=>?_
 have x:=x.al f4
 have g1:=f4.get g1 (by omega)
 have g2:=f4.get g2 (by omega)
 clear f4 t3 f2 f1 e0 ea e5
 rw[show V.str 6 109304575259763=sB FB from rfl]
 refine NV x.p x.lt h1 λH5 n5 y=>?_
 have x:=x.tr y
 have hn5:=y.le
 have g1:=y.get g1 (by omega) hb
 have g2:=y.get g2 (by omega) (by omega)
 have g3:=y.get g3 (by omega) (by omega)
 refine AB (Ah (m:=2) g2 (by omega) rfl) (Dv (WZ ..) (AB AVU ?_))
 refine DI g3 rfl rfl (by omega) λH6 g3 t6=>?_
 have x:=x.st (by omega) t6
 have g1:=(t6 n (by omega)).trans g1
 refine KJ (ws:=[D8]) x.p x.lt rfl (by show 1<=1000;omega) h2 λH7 n7 y=>?_
 have x:=x.tr y
 have hn7:=y.le
 have g1:=y.get g1 (by omega) hb
 have g3:=y.get g3 (by omega) (by omega)
 refine AI3 x.p x.lt h3 λH8 n8 y=>?_
 have x:=x.tr y
 have hn8:=y.le
 have g1:=y.get g1 (by omega) hb
 have g3:=y.get g3 (by omega) (by omega)
 refine AB (v:=.ptr (n+1+1) 5) (by rw[Aa,Nat.zero_add]) ?_
 refine Ew g3 rfl rfl (by omega) (by show 5+2<=8;omega) λH9 g3 t9=>?_
 have x:=x.st (by omega) t9
 have g1:=(t9 n (by omega)).trans g1
 refine ZU x.p x.lt h4 λH10 n10 y=>?_
 have x:=x.tr y
 have hn10:=y.le
 have g1:=y.get g1 (by omega) hb
 have g3:=y.get g3 (by omega) (by omega)
 refine AB (v:=.ptr (n+1+1) 2) (by rw[Aa,Nat.zero_add]) ?_
 refine Ew g3 rfl rfl (by omega) (by show 2+1<=8;omega) λH11 g3 t11=>?_
 have x:=x.st (by omega) t11
 have g1:=(t11 n (by omega)).trans g1
 have g3:T.get H11 (n+1+1)=some (one (meC line col nm b .Aj ty .Aj)):=g3
 refine KJ (ws:=[Au]) x.p x.lt rfl (by show 1<=1000;omega) h5 λH12 n12 y=>?_
 have x:=x.tr y
 have hn12:=y.le
 have g1:=y.get g1 (by omega) hb
 have g3:=y.get g3 (by omega) (by omega)
 clear t6 t9 t11
 refine NW (J:=λg r=>∃H' n' t v out,r=(.ptr pb 0,.ptr n 0,.ptr (n+1+1) 0,H',n')/\Fr G pb H n H' n' t/\n12<=n'/\T.get H' n=some (one meZ)/\T.get H' (n+1+1)=some (one (meC line col nm b v ty .Aj))/\Own G H' n12 n' 3 v (out.map vaC)/\
  (t.ok=true->out.length<=200)/\out.length<=201/\ET g out t=some (ps,s6)) ?_ (m:=f)
  ⟨H12,n12,s5,.Aj,[],rfl,x,Nat.le_refl _,g1,g3,Yp,λ_=>Nat.zero_le _,Nat.zero_le _,h6⟩
 clear g1 g3 x
 rintro I g r ⟨H13,n13,t,v,out,rfl,x,hn13,g1,g3,ho,hle,hle2,hm⟩ ih
 show KU lfp G (Runs F G) k I (.ptr pb 0) (.ptr n 0) (.ptr (n+1+1) 0) H13 n13
 delta KU
 cases g with
 |zero=>cases hm
 |succ g=>
  have hm:(bif t.ok then(BZ BD t).bind λp=>bif p.1 then some (out,p.2)else
   (bif decide (0<out.length)then BM [CY] p.2 else some p.2).bind λs1=>(UZ s1).bind λt=>(Eo 3 t.2).bind λn=>ET g (out++[⟨n.1,t.1⟩]) (D9 (out.length+1) n.2)
   else some (out,t))=some (ps,s6):=hm
  have fin:∀{H3:Heap} {n3:Nat} {t3:S},Fr G pb H13 n13 H3 n3 t3->some (out,t3)=some (ps,s6)->II lfp G (Runs F G) k (.ptr pb 0) (.ptr n 0) (.ptr (n+1+1) 0) H3 n3:=by
   intro H14 n14 t3 y he
   cases he
   delta II
   have hn14:=y.le
   have ho:=ho.kx y.f (by omega)
   have x:=x.tr y
   have g1:=y.get g1 (by omega) hb
   have g3:=y.get g3 (by omega) (by omega)
   refine AAB (AXQ f).1 x.p x.lt h7 λH15 n15 vb y hss=>?_
   have hn15:=y.le
   have ho:=ho.kx y.f (by omega)
   have x:=x.tr y
   have g1:=y.get g1 (by omega) hb
   have g3:=y.get g3 (by omega) (by omega)
   obtain⟨_,_,_,okb,vcb,_,_⟩:=id hss
   refine AB (v:=.ptr (n+1+1) 7) (by rw[Aa,Nat.zero_add]) ?_
   refine Ew g3 okb (by rw[vcb];rfl) (by omega) (by show 7+1<=8;omega) λH16 g3 t16=>?_
   rw[vcb]at g3
   have x:=x.st (by omega) t16
   have g1:=(t16 n (by omega)).trans g1
   have g3:T.get H16 (n+1+1)=some (one (meC line col nm b v ty vb)):=g3
   refine AB (Ah (m:=8) g3 (by omega) rfl) ?_
   refine DI g1 rfl rfl (by omega) λH17 g1 t17=>?_
   rw[ED (m:=8) g1 (by omega) rfl]
   simp only[go_sem]
   refine hk _ _ _ (x.st (Nat.le_refl _) t17) (.mk line col ⟨(ho.el (by omega)).same λid hid=>?_,(O7 ho.gr).1,(O7 ho.gr).2.1,(O7 ho.gr).2.2,λid hid=>⟨by have:=ho.ge hid;omega,ho.lo id hid⟩⟩ (hss.mono (λid h=>⟨by have:=h.1;omega,h.2⟩) λid h=>?_))
   ·have:=ho.ge hid;exact(t17 id (by omega)).trans (t16 id (by omega))
   ·have:=h.1;exact(t17 id (by omega)).trans (t16 id (by omega))
  rw[AVQ]
  refine vJ x.p x.lt (λhf=>fin (Fr.refl x.p x.lt) (by rw[hf]at hm;exact hm)) λht=>?_
  rw[ht,cond_true]at hm
  obtain⟨⟨b2,t2⟩,h2,hm⟩:=Option.bind_eq_some_iff.1 hm
  refine⟨b2,t2,h2,λH14 n14 y=>?_⟩
  cases b2 with
  |true=>exact fin y hm
  |false=>
   have hlen:=hle ht
   have hm:((bif decide (0<out.length)then BM [CY] t2 else some t2).bind λs1=>(UZ s1).bind λt=>(Eo 3 t.2).bind λn=>ET g (out++[⟨n.1,t.1⟩]) (D9 (out.length+1) n.2))=some (ps,s6):=hm
   obtain⟨t3,h3,hm⟩:=Option.bind_eq_some_iff.1 hm
   obtain⟨⟨pt,t4⟩,h4,hm⟩:=Option.bind_eq_some_iff.1 hm
   obtain⟨⟨pn,t5⟩,h5,hm⟩:=Option.bind_eq_some_iff.1 hm
   have hm:ET g (out++[⟨pn,pt⟩]) (D9 (out.length+1) t5)=some (ps,s6):=hm
   have hn14:=y.le
   have ho:=ho.kx y.f (by omega)
   have x:=x.tr y
   have g1:=y.get g1 (by omega) hb
   have g3:=y.get g3 (by omega) (by omega)
   have body:∀{H4:Heap} {n4:Nat},Fr G pb H14 n14 H4 n4 t3->FQ lfp G (Runs F G) k I (.ptr pb 0) (.ptr n 0) (.ptr (n+1+1) 0) H4 n4:=by
    intro H15 n15 y
    delta FQ
    have hn15:=y.le
    have ho:=ho.kx y.f (by omega)
    have x:=x.tr y
    have g1:=y.get g1 (by omega) hb
    have g3:=y.get g3 (by omega) (by omega)
    refine AI3 x.p x.lt h4 λH16 n16 y=>?_
    have hn16:=y.le
    have ho:=ho.kx y.f (by omega)
    have x:=x.tr y
    have g1:=y.get g1 (by omega) hb
    have g3:=y.get g3 (by omega) (by omega)
    refine BG rfl λH17 f17 g17=>?_
    have hlo:=ho.lo
    have ho:=ho.kp f17
    have x:=x.al f17
    have g1:=f17.get g1 (by omega)
    have g3:=f17.get g3 (by omega)
    refine DI (L:=tyC pt) g17 rfl rfl (by omega) λH18 g17 t18=>?_
    have ho:Own G H18 n12 (n16+1) 3 v (out.map vaC):=⟨ho.gr.mono λid hid=>t18 id (by have:=hlo id hid;omega),ho.lo⟩
    have x:=x.st (by omega) t18
    have g1:=(t18 n (by omega)).trans g1
    have g3:=(t18 (n+1+1) (by omega)).trans g3
    refine AB (v:=.ptr (n+1+1) 4) (by rw[Aa,Nat.zero_add]) (AB (AQ (off:=4) g3 (v:=v) rfl) (AB (Ah (m:=2) g17 (by omega) rfl) ?_))
    refine ZU x.p x.lt h5 λH19 n19 y=>?_
    have hn19:=y.le
    have ho:=ho.kx y.f (by omega)
    have x:=x.tr y
    have g1:=y.get g1 (by omega) hb
    have g3:=y.get g3 (by omega) (by omega)
    have g17:=y.get g17 (by omega) (by omega)
    refine AB (AQ (off:=4) g3 (v:=v) rfl) (Dv (AL2 ho.gr) (AB (Ah (m:=2) g17 (by omega) rfl) (Dv (ARn pt) (AB (AQ9 ..) ?_))))
    have hlo:=ho.lo
    refine AEE (bs:=40) ho (by omega) (by omega) rfl rfl (by rw[List.length_map];omega) λv' H20 ho' hsame hnew=>?_
    have hlow:∀id,id<n12->T.get H20 id=T.get H19 id:=λid hid=>hsame id (by omega) λh=>by have:=ho.ge h;omega
    have x:Fr G pb H n H20 (n19+2) t5:=⟨⟨by omega,λid hid hp=>(hlow id (by omega)).trans (x.f.same id hid hp)⟩,x.p.same λid hid=>hlow id (by omega),hb⟩
    have g1:=(hlow n (by omega)).trans g1
    have g3:=(hlow (n+1+1) (by omega)).trans g3
    refine AB (v:=.ptr (n+1+1) 4) (by rw[Aa,Nat.zero_add]) ?_
    refine Ew g3 (O7 ho'.gr).2.1 (by rw[(O7 ho'.gr).2.2];rfl) (by omega) (by show 4+1<=8;omega) λH21 g3 t21=>?_
    rw[(O7 ho'.gr).2.2]at g3
    have ho:Own G H21 n12 (n19+2) 3 v' (out.map vaC++[vaC ⟨pn,pt⟩]):=⟨ho'.gr.mono λid hid=>t21 id (by have:=ho'.ge hid;omega),ho'.lo⟩
    have x:=x.st (by omega) t21
    have g1:=(t21 n (by omega)).trans g1
    have g3:T.get H21 (n+1+1)=some (one (meC line col nm b v' ty .Aj)):=g3
    refine AB (v:=.ptr (n+1+1) 4) (by rw[Aa,Nat.zero_add]) (AB (AQ (off:=4) g3 (v:=v') rfl) ?_)
    rw[(ho.el (by omega)).len,BA,List.length_append,List.length_map]
    refine AER x.p x.lt λH22 n22 y=>?_
    have hn22:=y.le
    refine ih g _ (by omega) ⟨H22,n22,_,v',out++[⟨pn,pt⟩],rfl,x.tr y,by omega,y.get g1 (by omega) hb,y.get g3 (by omega) (by omega),?_,λh=>by rw[List.length_append];exact ABA h,by rw[List.length_append];show out.length+1<=201;omega,hm⟩
    rw[List.map_append]
    exact ho.kx y.f (by omega)
   rw[cond_false]
   refine AB (v:=.ptr (n+1+1) 4) (by rw[Aa,Nat.zero_add]) (AB (AQ (off:=4) g3 (v:=v) rfl) ?_)
   rw[(ho.el (by omega)).len,BA,List.length_map,kN,BA]
   cases hd:decide (0<out.length)with
   |false=>
    rw[hd]at h3
    cases h3
    rw[Bg]
    exact body (Fr.refl x.p x.lt)
   |true=>
    rw[hd]at h3
    have h3:BM [CY] t2=some t3:=h3
    rw[Bq]
    exact KJ (ws:=[CY]) x.p x.lt rfl (by show 1<=1000;omega) h3 λH15 n15 y=>body y
end
inductive Yb(G:AY)(H:Heap)(A:Nat->Prop):EY->List Me->Prop where
 |nil:Yb G H A [] []
 |cons {c:LV} {e:Me} {cs:EY} {es:List Me} (h:Zf G H A c e) (t:Yb G H A cs es):Yb G H A (c::cs) (e::es)
theorem Yb.mono{G:AY}{H H':Heap}{A B:Nat->Prop}(hA:∀id,A id->B id)(hs:∀id,A id->T.get H' id=T.get H id):∀{cs:EY} {es:List Me},Yb G H A cs es->Yb G H' B cs es
 |_,_,.nil=>.nil
 |_,_,.cons h t=>.cons (h.mono hA hs) (t.mono hA hs)
theorem Yb.app{G:AY}{H:Heap}{A:Nat->Prop}:∀{cs:EY} {es:List Me} {cs':EY} {es':List Me},Yb G H A cs es->Yb G H A cs' es'->Yb G H A (cs++cs') (es++es')
 |_,_,_,_,.nil,h=>h
 |_,_,_,_,.cons h t,h'=>.cons h (t.app h')
theorem Yb.len{G:AY}{H:Heap}{A:Nat->Prop}:∀{cs:EY} {es:List Me},Yb G H A cs es->cs.length=es.length
 |_,_,.nil=>rfl
 |_,_,.cons h t=>by simp[t.len]
def ALm(G:AY)(H:Heap)(A:Nat->Prop)(v:V)(ms:List Me):Prop:=∃cs,El G H v 8 cs/\KS v/\kX v=true/\Cc v=[v]/\(∀id,v.Ry=some id->A id)/\Yb G H A cs ms
theorem ALm.mono{G:AY}{H H':Heap}{A B:Nat->Prop}{v:V}{es:List Me}(h:ALm G H A v es)(hA:∀id,A id->B id)(hs:∀id,A id->T.get H' id=T.get H id):ALm G H' B v es:=by
 obtain⟨cs,h1,h2,h3,h4,h5,h6⟩:=h
 exact⟨cs,h1.same λid hid=>hs id (h5 id hid),h2,h3,h4,λid hid=>hA id (h5 id hid),h6.mono hA hs⟩
def clC(line col:Nat)(nm sup:Bs)(vf vm:V):LV:=[.int .i64 (.ofNat line) 0,.int .i64 (.ofNat col) 0,sB nm,sB sup,vf,vm]
def clZ:LV:=[.int .i64 (.ofNat 0) 0,.int .i64 (.ofNat 0) 0,.str 0 0,.str 0 0,.Aj,.Aj]
inductive YS(G:AY)(H:Heap)(A:Nat->Prop):LV->Cl->Prop where
 |mk (line col:Nat) {nm sup:Bs} {fs:List Va} {ms:List Me} {vf vm:V} (hf:ADd G H A vf fs) (hm:ALm G H A vm ms):YS G H A (clC line col nm sup vf vm) ⟨nm,sup,fs,ms⟩
theorem YS.mono{G:AY}{H H':Heap}{A B:Nat->Prop}{c:LV}{m:Cl}(hA:∀id,A id->B id)(hs:∀id,A id->T.get H' id=T.get H id)(h:YS G H A c m):YS G H' B c m:=by
 cases h with
 |mk line col hf hm=>exact .mk line col (hf.mono hA hs) (hm.mono hA hs)
def ALN(c:LV):Prop:=∃line,1<=line/\c[0]? =some (.int .i64 (.ofNat line) 0)
theorem YS.len{G:AY}{H:Heap}{A:Nat->Prop}{c:LV}{m:Cl}(h:YS G H A c m):c.length=6:=by cases h;rfl
theorem AVD{x y:V}:Cj clZ [(0,2,.c (.agg [x,y]))]=some (.agg [x,y,.str 0 0,.str 0 0,.Aj,.Aj]):=rfl
theorem ANl:Cj clZ []=some (.agg clZ):=rfl
theorem AVN{id o l:Nat}:Cj [.Aj,.int .i64 (.ofNat 0) 0,.int .i64 (.ofNat 0) 0,.int .i64 (.ofNat 0) 0,.int .i64 (.ofNat 0) 0] [(0,1,.c (.Qg id o l 5))]=some (.agg [.Qg id o l 5,.int .i64 (.ofNat 0) 0,.int .i64 (.ofNat 0) 0,.int .i64 (.ofNat 0) 0,.int .i64 (.ofNat 0) 0]):=rfl
section
variable{G:AY}{pb:Nat}{H:Heap}{n:Nat}{s s':S}{k:KV}
theorem APY{e:Nat}{t:S}(he:e≠0):(EJ e t).ok=false:=by
 unfold EJ
 cases ho:t.ok with
 |false=>exact ho
 |true=>simp[S.ok,he]
theorem AP1{w:Bs}{t t':S}(h:BM [w] t=some t')(h':t'.ok=true):t.ok=true:=by
 obtain⟨⟨b,t1⟩,h1,h⟩:=Option.bind_eq_some_iff.1 (show((BZ w t).bind λp=>some (bif p.1 then p.2 else EJ 21 p.2))=some t' from h)
 unfold BZ at h1
 cases ho:Qy w t with
 |false=>
  rw[ho]at h1
  cases h1
  have h:EJ 21 t=t':=by simpa using h
  rw[<-h,APY (by decide)]at h'
  cases h'
 |true=>
  unfold Qy at ho
  simp only[Bool.and_eq_true]at ho
  exact ho.1
def ClK(G:AY)(pb:Nat)(H:Heap)(n:Nat)(s':S)(c:Cl)(k:KV):Prop:=∀H' n' l,Fr G pb H n H' n' s'->YS G H' (Rg n n') l c->ALN l->k (.agg l) H' n'
structure ClJ(G:AY)(pb:Nat)(H0:Heap)(n0 m0 line col:Nat)(nm sup:Bs)(H:Heap)(n:Nat)(t:S)(fs:List Va)(ms:List Me)(vf vm:V)(cs:EY):Prop where
 x:Fr G pb H0 n0 H n t
 hn:m0<=n
 g1:T.get H n0=some (one clZ)
 g2:T.get H (n0+1)=some (one (clC line col nm sup vf vm))
 hf:Own G H m0 n 3 vf (fs.map vaC)
 hm:Own G H m0 n 8 vm cs
 ne:∀id,vf.Ry=some id->vm.Ry≠some id
 hc:Yb G H (λid=>m0<=id/\id<n/\vf.Ry≠some id/\vm.Ry≠some id) cs ms
theorem ClJ.fr{H0 H:Heap}{n0 m0 line col n n':Nat}{nm sup:Bs}{H':Heap}{t t':S}{fs:List Va}{ms:List Me}{vf vm:V}{cs:EY}(j:ClJ G pb H0 n0 m0 line col nm sup H n t fs ms vf vm cs)(y:Fr G pb H n H' n' t')(hm0:n0+2<=m0):
 ClJ G pb H0 n0 m0 line col nm sup H' n' t' fs ms vf vm cs:=by
 have hb:=j.x.b
 have hn:=j.hn
 have hn':=y.le
 exact⟨j.x.tr y,by omega,y.get j.g1 (by omega) hb,y.get j.g2 (by omega) (by omega),j.hf.kx y.f (by omega),j.hm.kx y.f (by omega),j.ne,
  j.hc.mono (λid h=>⟨h.1,by have:=h.2.1;omega,h.2.2⟩) λid h=>y.f.same id h.2.1 (by have:=h.1;omega)⟩
theorem ClJ.al{H0 H:Heap}{n0 m0 line col n n':Nat}{nm sup:Bs}{H':Heap}{t:S}{fs:List Va}{ms:List Me}{vf vm:V}{cs:EY}(j:ClJ G pb H0 n0 m0 line col nm sup H n t fs ms vf vm cs)(f:Kp H n H' n')(hm0:n0+2<=m0):
 ClJ G pb H0 n0 m0 line col nm sup H' n' t fs ms vf vm cs:=j.fr ((Fr.refl j.x.p j.x.lt).al f) hm0
theorem ClJ.AW5{H0 H H1 H2:Heap}{n0 m0 line col n:Nat}{nm sup:Bs}{t:S}{fs:List Va}{ms:List Me}{vf vm v':V}{cs:EY}{a:Va}(j:ClJ G pb H0 n0 m0 line col nm sup H n t fs ms vf vm cs)(hm0:n0+2<=m0)
 (ho:Own G H1 m0 (n+2) 3 v' (fs.map vaC++[vaC a])) (hs:∀id,id<n->vf.Ry≠some id->T.get H1 id=T.get H id) (hw:∀id,v'.Ry=some id->id=n+1)
 (g2:T.get H2 (n0+1)=some (one (clC line col nm sup v' vm))) (ht:∀i,i≠n0+1->T.get H2 i=T.get H1 i):ClJ G pb H0 n0 m0 line col nm sup H2 (n+2) t (fs++[a]) ms v' vm cs:=by
 have hb:=j.x.b
 have hn:=j.hn
 have low:∀id,id<m0->id≠n0+1->T.get H2 id=T.get H id:=λid h1 h2=>(ht id h2).trans (hs id (by omega) λh=>by have:=j.hf.ge h;omega)
 have hvm:∀id,vm.Ry=some id->id<n:=j.hm.lo
 refine⟨⟨⟨by have:=j.x.f.le;omega,λid hid hp=>(low id (by omega) (by omega)).trans (j.x.f.same id hid hp)⟩,j.x.p.same λid hid=>low id (by omega) (by omega),hb⟩,by omega,(low n0 (by omega) (by omega)).trans j.g1,g2,?_,
  ⟨j.hm.gr.mono λid hid=>(ht id (by have:=j.hm.ge hid;omega)).trans (hs id (hvm id hid) λh=>j.ne id h hid),j.hm.lo.mono (by omega)⟩,λid h1 h2=>by have:=hw id h1;have:=hvm id h2;omega,?_⟩
 ·rw[List.map_append]
  exact⟨ho.gr.mono λid hid=>ht id (by have:=ho.ge hid;omega),ho.lo⟩
 ·exact j.hc.mono (λid h=>⟨h.1,by have:=h.2.1;omega,λh2=>by have:=hw id h2;have:=h.2.1;omega,h.2.2.2⟩) λid h=>(ht id (by have:=h.1;omega)).trans (hs id h.2.1 h.2.2.1)
theorem ClJ.AXY{H0 H H1 H2:Heap}{n0 m0 line col n:Nat}{nm sup:Bs}{t:S}{fs:List Va}{ms:List Me}{vf vm v':V}{cs:EY}{c:LV}{e:Me}{A:Nat->Prop}(j:ClJ G pb H0 n0 m0 line col nm sup H n t fs ms vf vm cs)(hm0:n0+2<=m0)
 (hx:Zf G H A c e) (hA:∀id,A id->m0<=id/\id<n/\vf.Ry≠some id/\vm.Ry≠some id)
 (ho:Own G H1 m0 (n+2) 8 v' (cs++[c])) (hs:∀id,id<n->vm.Ry≠some id->T.get H1 id=T.get H id) (hw:∀id,v'.Ry=some id->id=n+1)
 (g2:T.get H2 (n0+1)=some (one (clC line col nm sup vf v'))) (ht:∀i,i≠n0+1->T.get H2 i=T.get H1 i):ClJ G pb H0 n0 m0 line col nm sup H2 (n+2) t fs (ms++[e]) vf v' (cs++[c]):=by
 have hb:=j.x.b
 have hn:=j.hn
 have low:∀id,id<m0->id≠n0+1->T.get H2 id=T.get H id:=λid h1 h2=>(ht id h2).trans (hs id (by omega) λh=>by have:=j.hm.ge h;omega)
 have hvf:∀id,vf.Ry=some id->id<n:=j.hf.lo
 have hx:Zf G H (λid=>m0<=id/\id<n/\vf.Ry≠some id/\vm.Ry≠some id) c e:=hx.mono hA λ_ _=>rfl
 refine⟨⟨⟨by have:=j.x.f.le;omega,λid hid hp=>(low id (by omega) (by omega)).trans (j.x.f.same id hid hp)⟩,j.x.p.same λid hid=>low id (by omega) (by omega),hb⟩,by omega,(low n0 (by omega) (by omega)).trans j.g1,g2,
  ⟨j.hf.gr.mono λid hid=>(ht id (by have:=j.hf.ge hid;omega)).trans (hs id (hvf id hid) λh=>j.ne id hid h),j.hf.lo.mono (by omega)⟩,⟨ho.gr.mono λid hid=>ht id (by have:=ho.ge hid;omega),ho.lo⟩,λid h1 h2=>by have:=hw id h2;have:=hvf id h1;omega,?_⟩
 exact(j.hc.app (.cons hx .nil)).mono (λid h=>⟨h.1,by have:=h.2.1;omega,h.2.2.1,λh2=>by have:=hw id h2;have:=h.2.1;omega⟩) λid h=>(ht id (by have:=h.1;omega)).trans (hs id h.2.1 h.2.2.2)
theorem AOt{f:Nat}{c:Cl}(h:YH G H pb s)(hb:pb<n)(hm:xX f s=some (c,s'))(hk:ClK G pb H n s' c k):Runs F G V5 [.ptr pb 0] H n k:=by
 refine Am (s:=IQ (Ku lfp G)) Oc (by obtain⟨h,o⟩:=iR Ap G;rw[Oc]at h;cases h;exact o) ?_
 show Ku lfp G (Runs F G) (.ptr pb 0) H n k
 delta Ku
 obtain⟨s1,h1,hm⟩:=Option.bind_eq_some_iff.1 hm
 obtain⟨⟨nm,s2⟩,h2,hm⟩:=Option.bind_eq_some_iff.1 hm
 obtain⟨⟨b,s3⟩,h3,hm⟩:=Option.bind_eq_some_iff.1 hm
 obtain⟨⟨sup,s4⟩,h4,hm⟩:=Option.bind_eq_some_iff.1 hm
 obtain⟨s5,h5,hm⟩:=Option.bind_eq_some_iff.1 hm
 obtain⟨⟨⟨fs1,ms1⟩,s6⟩,h6,hm⟩:=Option.bind_eq_some_iff.1 hm
 have hm:some (Cl.mk nm sup fs1 ms1,bif s6.ok&& !decide (s6.t.kind=0)then EJ 21 s6 else s6)=some (c,s'):=hm
 have x:=Fr.refl h hb
 refine BG rfl λH1 f1 g1=>?_
 have x:=x.al f1
 obtain⟨v,tid,o,line,col,e0,ea,hline,_,_,_,_,e5⟩:=x.p.tok
 refine AB (v:=.ptr pb 0) rfl (AB (v:=.ptr pb 0) rfl (AB e0 (AB ea (AB (v:=.ptr tid (o+3)) (Aa ..) (AB e5 (AB AVD ?_))))))
 refine BG rfl λH2 f2 g2=>?_
 have x:=x.al f2
 have g1:=f2.get g1 (by omega)
 refine DI g2 rfl rfl (by omega) λH3 g2 t3=>?_
 have x:=x.st (by omega) t3
 have g1:=(t3 n (by omega)).trans g1
 clear t3 f2 f1 e0 ea e5
 refine KJ (ws:=[J9]) x.p x.lt rfl (by show 1<=1000;omega) h1 λH4 n4 y=>?_
 have x:=x.tr y
 have hn4:=y.le
 have g1:=y.get g1 (by omega) hb
 have g2:=y.get g2 (by omega) (by omega)
 refine ZU x.p x.lt h2 λH5 n5 y=>?_
 have x:=x.tr y
 have hn5:=y.le
 have g1:=y.get g1 (by omega) hb
 have g2:=y.get g2 (by omega) (by omega)
 refine AB (v:=.ptr (n+1) 2) (by rw[Aa,Nat.zero_add]) ?_
 refine Ew g2 rfl rfl (by omega) (by show 2+1<=6;omega) λH6 g2 t6=>?_
 have x:=x.st (by omega) t6
 have g1:=(t6 n (by omega)).trans g1
 rw[show V.str 7 32480047633037413=sB Hl from rfl]
 refine NV x.p x.lt h3 λH7 n7 y=>?_
 have x:=x.tr y
 have hn7:=y.le
 have g1:=y.get g1 (by omega) hb
 have g2:=y.get g2 (by omega) (by omega)
 have members:∀{H8:Heap} {n8:Nat},Fr G pb H n H8 n8 s4->n+2<=n8->T.get H8 n=some (one clZ)->T.get H8 (n+1)=some (one (clC line col nm sup .Aj .Aj))->F9 lfp G (Runs F G) k (.ptr pb 0) (.ptr n 0) (.ptr (n+1) 0) H8 n8:=by
  intro H8 n8 x hn8 g1 g2
  delta F9
  refine KJ (ws:=[MG]) x.p x.lt rfl (by show 1<=1000;omega) h5 λH9 n9 y=>?_
  have x:=x.tr y
  have hn9:=y.le
  have g1:=y.get g1 (by omega) hb
  have g2:=y.get g2 (by omega) (by omega)
  refine NW (J:=λg r=>∃H' n' t fs ms vf vm cs,r=(.ptr pb 0,.ptr n 0,.ptr (n+1) 0,H',n')/\ClJ G pb H n n9 line col nm sup H' n' t fs ms vf vm cs/\(t.ok=true->fs.length<=200/\ms.length<=200)/\fs.length<=201/\ms.length<=201/\EL f g fs ms t=some ((fs1,ms1),s6)) ?_ (m:=f)
   ⟨H9,n9,s5,[],[],.Aj,.Aj,[],rfl,⟨x,Nat.le_refl _,g1,g2,Yp,Yp,λ_ h=>(by cases h),.nil⟩,λ_=>⟨Nat.zero_le _,Nat.zero_le _⟩,Nat.zero_le _,Nat.zero_le _,h6⟩
  have hm9:n+2<=n9:=by omega
  clear g1 g2 x y hn9 hn8
  rintro I g r ⟨H10,n10,t,fs,ms,vf,vm,cs,rfl,j,hle,hf1,hm1,hm6⟩ ih
  show Lm lfp G (Runs F G) k I (.ptr pb 0) (.ptr n 0) (.ptr (n+1) 0) H10 n10
  delta Lm
  cases g with
  |zero=>cases hm6
  |succ g=>
   have hm6:(bif t.ok then(BZ m_rc t).bind λp=>bif p.1 then some ((fs,ms),p.2)else
    (BZ MN p.2).bind λp=>bif p.1 then(UZ p.2).bind λt=>(Eo 3 t.2).bind λn=>(BM [Aq] (D9 (fs.length+1) n.2)).bind λs1=>EL f g (fs++[⟨n.1,t.1⟩]) ms s1 else
    bif Hq [FB,D8] p.2 then(Rh f p.2).bind λm=>EL f g fs (ms++[m.1]) (D9 (ms.length+1) m.2)else
    EL f g fs ms (EJ 21 p.2)
    else some ((fs,ms),t))=some ((fs1,ms1),s6):=hm6
   have fin:∀{H3:Heap} {n3:Nat} {t3:S},Fr G pb H10 n10 H3 n3 t3->some ((fs,ms),t3)=some ((fs1,ms1),s6)->Ie lfp G (Runs F G) k (.ptr pb 0) (.ptr n 0) (.ptr (n+1) 0) H3 n3:=by
    intro H14 n14 t3 y he
    cases he
    have j:=j.fr y hm9
    delta Ie
    have out:∀{H':Heap} {n':Nat},Fr G pb H14 n14 H' n' s'->Fq lfp G (Runs F G) k (.ptr n 0) (.ptr (n+1) 0) H' n':=by
     intro H15 n15 y
     have j:=j.fr y hm9
     have hn:=j.hn
     delta Fq
     refine AB (Ah (m:=6) j.g2 (by omega) rfl) ?_
     refine DI j.g1 rfl rfl (by omega) λH17 g1 t17=>?_
     rw[ED (m:=6) g1 (by omega) rfl]
     simp only[go_sem]
     have ec:c=Cl.mk nm sup fs1 ms1:=by cases hm;rfl
     subst ec
     refine hk _ _ _ (j.x.st (Nat.le_refl _) t17) (.mk line col ⟨(j.hf.el (by omega)).same λid hid=>t17 id ?_,(O7 j.hf.gr).1,(O7 j.hf.gr).2.1,(O7 j.hf.gr).2.2,λid hid=>⟨by have:=j.hf.ge hid;omega,j.hf.lo id hid⟩⟩
      ⟨cs,(j.hm.el (by omega)).same λid hid=>t17 id ?_,(O7 j.hm.gr).1,(O7 j.hm.gr).2.1,(O7 j.hm.gr).2.2,λid hid=>⟨by have:=j.hm.ge hid;omega,j.hm.lo id hid⟩,j.hc.mono (λid h=>⟨by have:=h.1;omega,h.2.1⟩) λid h=>t17 id (by have:=h.1;omega)⟩) ⟨line,hline,rfl⟩
     ·have:=j.hf.ge hid;omega
     ·have:=j.hm.ge hid;omega
    refine AKv j.x.p ?_
    cases ho:s6.ok with
    |false=>
     rw[ho]at hm
     have hs:s'=s6:=by simp at hm;exact hm.2.symm
     subst hs
     simp only[go_sem]
     exact out (Fr.refl j.x.p j.x.lt)
    |true=>
     obtain⟨v,tid,o,line,col,e0,e1,x1,x2,e2,e3,e4,e5⟩:=j.x.p.tok
     rw[ho]at hm
     simp only[go_sem,Nat.reduceAdd,Nat.add_zero,e0,e1,e3,aY]
     cases hd:decide (s6.t.kind=0)with
     |true=>
      rw[hd]at hm
      have hs:s'=s6:=by simp at hm;exact hm.2.symm
      subst hs
      simp only[go_sem,Bool.not_true]
      exact out (Fr.refl j.x.p j.x.lt)
     |false=>
      rw[hd]at hm
      have hs:s'=EJ 21 s6:=by simp at hm;exact hm.2.symm
      subst hs
      simp only[go_sem,Bool.not_false]
      exact dR j.x.p j.x.lt λH15 n15 y=>out y
   rw[AVs]
   refine vJ j.x.p j.x.lt (λhf=>fin (Fr.refl j.x.p j.x.lt) (by rw[hf]at hm6;exact hm6)) λht=>?_
   rw[ht,cond_true]at hm6
   obtain⟨⟨b2,t2⟩,h2,hm6⟩:=Option.bind_eq_some_iff.1 hm6
   refine⟨b2,t2,h2,λH11 n11 y=>?_⟩
   cases b2 with
   |true=>exact fin y hm6
   |false=>
    rw[cond_false]
    obtain⟨hlf,hlm⟩:=hle ht
    have j:=j.fr y hm9
    clear y fin
    obtain⟨⟨b3,t3⟩,h3,hm6⟩:=Option.bind_eq_some_iff.1 (show((BZ MN t2).bind λp=>bif p.1 then(UZ p.2).bind λt=>(Eo 3 t.2).bind λn=>(BM [Aq] (D9 (fs.length+1) n.2)).bind λs1=>EL f g (fs++[⟨n.1,t.1⟩]) ms s1 else
     bif Hq [FB,D8] p.2 then(Rh f p.2).bind λm=>EL f g fs (ms++[m.1]) (D9 (ms.length+1) m.2)else
     EL f g fs ms (EJ 21 p.2))=some ((fs1,ms1),s6)from hm6)
    rw[show V.str 5 431315315046=sB MN from rfl]
    refine NV j.x.p j.x.lt h3 λH12 n12 y=>?_
    have j:=j.fr y hm9
    cases b3 with
    |true=>
     obtain⟨⟨pt,t4⟩,h4,hm6⟩:=Option.bind_eq_some_iff.1 (show((UZ t3).bind λt=>(Eo 3 t.2).bind λn=>(BM [Aq] (D9 (fs.length+1) n.2)).bind λs1=>EL f g (fs++[⟨n.1,t.1⟩]) ms s1)=some ((fs1,ms1),s6)from hm6)
     obtain⟨⟨pn,t5⟩,h5,hm6⟩:=Option.bind_eq_some_iff.1 hm6
     obtain⟨t6,h6,hm6⟩:=Option.bind_eq_some_iff.1 hm6
     have hm6:EL f g (fs++[⟨pn,pt⟩]) ms t6=some ((fs1,ms1),s6):=hm6
     have h6:BM [Aq] (D9 (fs.length+1) t5)=some t6:=h6
     rw[Bq]
     refine AI3 j.x.p j.x.lt h4 λH13 n13 y=>?_
     have j:=j.fr y hm9
     have hn:=j.hn
     refine BG rfl λH14 f14 g14=>?_
     refine DI (L:=tyC pt) g14 rfl rfl (by omega) λH15 g15 t15=>?_
     have j:=j.al (⟨f14.le,λid hid=>(t15 id (by omega)).trans (f14.same id hid)⟩:Kp H13 n13 H15 (n13+1)) hm9
     refine AB (v:=.ptr (n+1) 4) (by rw[Aa,Nat.zero_add]) (AB (AQ (off:=4) j.g2 (v:=vf) rfl) (AB (Ah (m:=2) g15 (by omega) rfl) ?_))
     refine ZU j.x.p j.x.lt h5 λH16 n16 y=>?_
     have j:=j.fr y hm9
     have hn16:=y.le
     have g15:=y.get g15 (by omega) (by omega)
     refine AB (AQ (off:=4) j.g2 (v:=vf) rfl) (Dv (AL2 j.hf.gr) (AB (Ah (m:=2) g15 (by omega) rfl) (Dv (ARn pt) (AB (AQ9 ..) ?_))))
     have hj:=j.hn
     refine AEE (bs:=40) j.hf (by omega) (by omega) rfl rfl (by rw[List.length_map];omega) λv' H17 ho hsame hnew=>?_
     have g2:=(hsame (n+1) (by omega) λh=>by have:=j.hf.ge h;omega).trans j.g2
     refine AB (v:=.ptr (n+1) 4) (by rw[Aa,Nat.zero_add]) ?_
     refine Ew g2 (O7 ho.gr).2.1 (by rw[(O7 ho.gr).2.2];rfl) (by omega) (by show 4+1<=6;omega) λH18 g2 t18=>?_
     rw[(O7 ho.gr).2.2]at g2
     have j:=j.AW5 (a:=⟨pn,pt⟩) hm9 ho hsame hnew g2 t18
     refine AB (v:=.ptr (n+1) 4) (by rw[Aa,Nat.zero_add]) (AB (AQ (off:=4) j.g2 (v:=v') rfl) ?_)
     rw[(j.hf.el (by omega)).len,BA,List.length_map,List.length_append]
     refine AER j.x.p j.x.lt λH19 n19 y=>?_
     have j:=j.fr y hm9
     refine KJ (ws:=[Aq]) j.x.p j.x.lt rfl (by show 1<=1000;omega) h6 λH20 n20 y=>?_
     have j:=j.fr y hm9
     have hok:t6.ok=true->fs.length+1<=200:=λh=>ABA (t:=t5) (AP1 h6 h)
     exact ih g _ (by omega) ⟨H20,n20,t6,_,_,v',vm,cs,rfl,j,λh=>⟨by rw[List.length_append];exact hok h,hlm⟩,by rw[List.length_append];show fs.length+1<=201;omega,hm1,hm6⟩
    |false=>
     rw[Bg]
     have hm6:(bif Hq [FB,D8] t3 then(Rh f t3).bind λm=>EL f g fs (ms++[m.1]) (D9 (ms.length+1) m.2)else EL f g fs ms (EJ 21 t3))=some ((fs1,ms1),s6):=hm6
     refine oO (ws:=[FB,D8]) j.x.p j.x.lt rfl (by show 2<=1000;omega) λH13 n13 y=>?_
     have j:=j.fr y hm9
     cases hi:Hq [FB,D8] t3 with
     |true=>
      rw[hi,cond_true]at hm6
      obtain⟨⟨m,t4⟩,h4,hm6⟩:=Option.bind_eq_some_iff.1 hm6
      have hm6:EL f g fs (ms++[m]) (D9 (ms.length+1) t4)=some ((fs1,ms1),s6):=hm6
      rw[Bq]
      refine AB (v:=.ptr (n+1) 5) (by rw[Aa,Nat.zero_add]) (AB (AQ (off:=5) j.g2 (v:=vm) rfl) ?_)
      refine AMA j.x.p j.x.lt h4 λH14 n14 l y hx=>?_
      have hlv:∀id,vf.Ry=some id->id<n13:=j.hf.lo
      have hlw:∀id,vm.Ry=some id->id<n13:=j.hm.lo
      have h13:=j.hn
      have j:=j.fr y hm9
      refine AB (AQ (off:=5) j.g2 (v:=vm) rfl) (Dv (AL2 j.hm.gr) ?_)
      refine AEE (bs:=112) j.hm j.hn (by omega) hx.len rfl (by rw[j.hc.len];omega) λv' H17 ho hsame hnew=>?_
      have hj:=j.hn
      have g2:=(hsame (n+1) (by omega) λh=>by have:=j.hm.ge h;omega).trans j.g2
      refine AB (v:=.ptr (n+1) 5) (by rw[Aa,Nat.zero_add]) ?_
      refine Ew g2 (O7 ho.gr).2.1 (by rw[(O7 ho.gr).2.2];rfl) (by omega) (by show 5+1<=6;omega) λH18 g2 t18=>?_
      rw[(O7 ho.gr).2.2]at g2
      have j:=j.AXY hm9 hx (λid h=>⟨by have:=h.1;omega,h.2,λh2=>by have:=hlv id h2;have:=h.1;omega,λh2=>by have:=hlw id h2;have:=h.1;omega⟩) ho hsame hnew g2 t18
      refine AB (v:=.ptr (n+1) 5) (by rw[Aa,Nat.zero_add]) (AB (AQ (off:=5) j.g2 (v:=v') rfl) ?_)
      rw[(j.hm.el (by omega)).len,BA,j.hc.len,List.length_append]
      refine AER j.x.p j.x.lt λH19 n19 y=>?_
      have j:=j.fr y hm9
      exact ih g _ (by omega) ⟨H19,n19,_,_,_,vf,v',_,rfl,j,λh=>⟨hlf,by rw[List.length_append];exact ABA h⟩,hf1,by rw[List.length_append];show ms.length+1<=201;omega,hm6⟩
     |false=>
      rw[hi,cond_false]at hm6
      rw[Bg]
      refine dR j.x.p j.x.lt λH14 n14 y=>?_
      have j:=j.fr y hm9
      exact ih g _ (by omega) ⟨H14,n14,_,_,_,vf,vm,_,rfl,j,λ_=>⟨hlf,hlm⟩,hf1,hm1,hm6⟩
 cases b with
 |true=>
  rw[Bq]
  have h4:Eo 2 s3=some (sup,s4):=h4
  refine ZU x.p x.lt h4 λH8 n8 y=>?_
  have x:=x.tr y
  have hn8:=y.le
  have g1:=y.get g1 (by omega) hb
  have g2:=y.get g2 (by omega) (by omega)
  refine AB (v:=.ptr (n+1) 3) (by rw[Aa,Nat.zero_add]) ?_
  refine Ew g2 rfl rfl (by omega) (by show 3+1<=6;omega) λH9 g2 t9=>?_
  exact members (x.st (by omega) t9) (by omega) ((t9 n (by omega)).trans g1) g2
 |false=>
  rw[Bg]
  cases h4
  exact members x (by omega) g1 g2
end
def YX(e line col:Nat):LV:=[.int .i64 (.ofNat e) 0,.int .i64 (.ofNat line) 0,.int .i64 (.ofNat col) 0]
theorem AHg(e line col:Nat):CX (.agg (YX e line col)) (.agg (YX e line col))=true:=ABc λv hv=>by simp[YX]at hv;rcases hv with rfl|rfl|rfl<;>exact bM ..
def bD(f:Nat)(s:Bs):Option (Option Cl×Nat):=bif decide ((zN s).1=0)then(vS f (zN s).2).bind λp=>some (bif decide (p.2=0)then(some p.1,0)else(none,p.2))else some (none,(zN s).1)
def ClO(G:AY)(H:Heap)(A:Nat->Prop)(c:LV):Option Cl->Prop
 |none=>c=clZ
 |some cl=>YS G H A c cl/\ALN c
def FtO(e:Nat)(ft:LV):Prop:=∃line col,ft=YX e line col/\(e≠0->1<=line/\1<=col)/\(e=0->line=0/\col=0)
theorem FtO.z:FtO 0 (YX 0 0 0):=⟨0,0,rfl,λh=>absurd rfl h,λ_=>⟨rfl,rfl⟩⟩
theorem AHm:Cj (YX 0 0 0) []=some (.agg (YX 0 0 0)):=rfl
section
variable{G:AY}{H:Heap}{n:Nat}{s:Bs}{k:KV}
theorem zZ{f e:Nat}{o:Option Cl}(hG:Xx G)(hm:bD f s=some (o,e))(hk:∀H' n' c ft,Kp H n H' n'->ClO G H' (Rg n n') c o->FtO e ft->k (.JL [.agg c,.agg ft]) H' n'):Runs F G Ve [sB s] H n k:=by
 refine Am (s:=IQ (Vg lfp G)) YC (by obtain⟨h,o⟩:=AAu Ap G;rw[YC]at h;cases h;exact o) ?_
 show Vg lfp G (Runs F G) (sB s) H n k
 delta Vg
 refine BG rfl λH1 f1 g1=>?_
 refine BG rfl λH2 f2 g2=>?_
 have g1:=f2.get g1 (by omega)
 have f2:=f1.trans f2
 refine AVa hG ?_
 intro H3 n3 v c f3 h0 h1
 have g1:=f3.get g1 (by omega)
 have g2:=f3.get g2 (by omega)
 have hn3:=f3.le
 have f2:=f2.trans f3
 unfold bD at hm
 simp only[qZ,qo,BA]
 cases he:decide ((zN s).1=0)with
 |false=>
  rw[he]at hm
  cases hm
  have he:=of_decide_eq_false he
  obtain⟨line,col,x1,x2,rfl⟩:=h1 he
  refine BG rfl λH4 f4 g4=>?_
  refine DI g4 rfl rfl (by omega) λH5 g4 t5=>?_
  have f45:Kp H3 n3 H5 (n3+1):=⟨f4.le,λid hid=>(t5 id (by omega)).trans (f4.same id hid)⟩
  have g1:=f45.get g1 (by omega)
  have g2:=f45.get g2 (by omega)
  have f2:=f2.trans f45
  refine AB (v:=.ptr n3 0) (by rw[Aa]) (AB (AQ (off:=0) g4 (v:=.int .i64 (.ofNat (zN s).1) 0) rfl) ?_)
  rw[aY,BA,decide_eq_false he,Bool.not_false,Bq]
  refine AB ANl (AB (Ah (m:=3) g4 (by omega) rfl) ?_)
  refine DI g1 rfl rfl (by omega) λH6 g1 t6=>?_
  have g4:=(t6 n3 (by omega)).trans g4
  have g2:=(t6 (n+1) (by omega)).trans g2
  refine AB (Ah (m:=3) g4 (by omega) rfl) (Dv (AHg ..) ?_)
  refine DI g2 rfl rfl (by omega) λH7 g2 t7=>?_
  have g1:=(t7 n (by omega)).trans g1
  rw[ED (m:=6) g1 (by omega) rfl,ED (m:=3) g2 (by omega) rfl]
  simp only[go_sem]
  exact hk _ _ _ _ ⟨by have:=f2.le;omega,λid hid=>(t7 id (by omega)).trans ((t6 id (by omega)).trans (f2.same id hid))⟩ rfl ⟨line,col,rfl,λ_=>⟨x1,x2⟩,λh=>absurd h he⟩
 |true=>
  rw[he,cond_true]at hm
  have he:=of_decide_eq_true he
  obtain⟨⟨cl,e1⟩,hp,hm⟩:=Option.bind_eq_some_iff.1 hm
  obtain⟨⟨cs,tid,rfl,ht1,ht2,hel,htk⟩,rfl⟩:=h0 he
  refine BG rfl λH4 f4 g4=>?_
  refine DI (L:=YX 0 0 0) g4 rfl rfl (by omega) λH5 g4 t5=>?_
  have f45:Kp H3 n3 H5 (n3+1):=⟨f4.le,λid hid=>(t5 id (by omega)).trans (f4.same id hid)⟩
  have g1:=f45.get g1 (by omega)
  have g2:=f45.get g2 (by omega)
  have hel:=hel.kp (λid hid=>by cases qE hid;exact ht2) f45
  have f2:=f2.trans f45
  refine AB (v:=.ptr n3 0) (by rw[Aa]) (AB (AQ (off:=0) g4 (v:=.int .i64 (.ofNat 0) 0) rfl) ?_)
  rw[aY,BA,decide_eq_true rfl,Bool.not_true,Bg]
  refine AB AVN ?_
  refine D5 λH6 f6 g6=>?_
  have g1:=f6.get g1 (by omega)
  have g2:=f6.get g2 (by omega)
  have hel:=hel.kp (λid hid=>by cases qE hid;omega) f6
  have f2:=f2.trans f6
  cases hl:(zN s).2 with
  |nil=>rw[hl]at hp;cases hp
  |cons t r=>
   rw[hl]at hp htk
   obtain⟨⟨cl',s'⟩,hc,hp⟩:=Option.bind_eq_some_iff.1 (show((xX f ⟨t,r,0,0⟩).bind λp=>some (p.1,p.2.e))=some (cl,e1)from hp)
   have hcl:cl'=cl:=by cases hp;rfl
   have hce:s'.e=e1:=by cases hp;rfl
   subst hcl;subst hce
   have hpa:YH G H6 (n3+1) ⟨t,r,0,0⟩:=.mk (s:=⟨t,r,0,0⟩) g6 hel htk (λh=>absurd rfl h) (by omega)
   refine AOt hpa (by omega) hc λH7 n7 l y hx hline=>?_
   have hn7:=y.le
   have g1:=(y.f.same n (by omega) (by omega)).trans g1
   have g2:=(y.f.same (n+1) (by omega) (by omega)).trans g2
   have f2:Kp H n H7 n7:=⟨by have:=f2.le;omega,λid hid=>(y.f.same id (by omega) (by omega)).trans (f2.same id hid)⟩
   refine BG rfl λH8 f8 g8=>?_
   refine DI g8 rfl hx.len (by omega) λH9 g9 t9=>?_
   have f9:Kp H7 n7 H9 (n7+1):=⟨f8.le,λid hid=>(t9 id (by omega)).trans (f8.same id hid)⟩
   have g1:=f9.get g1 (by omega)
   have g2:=f9.get g2 (by omega)
   have f2:=f2.trans f9
   have hx:YS G H9 (Rg (n3+1+1) n7) l cl':=hx.mono (λid h=>h) λid h=>f9.same id h.2
   have p9:=y.p.kp f9 (by omega)
   refine AKv p9 ?_
   rw[Qv,BA]
   cases ho:s'.ok with
   |true=>
    have he0:s'.e=0:=of_decide_eq_true ho
    rw[he0]at hp
    have hm:some (some cl',0)=some (o,e):=by rw[<-hm];show _=some (bif decide (s'.e=0)then(some cl',0)else(none,s'.e));rw[he0];rfl
    cases hm
    rw[Bool.not_true,Bg]
    refine AB (Ah (m:=6) g9 (by omega) hx.len) (AB AHm ?_)
    refine DI g1 rfl hx.len (by omega) λH10 g1 t10=>?_
    have g2:=(t10 (n+1) (by omega)).trans g2
    refine DI g2 rfl rfl (by omega) λH11 g2 t11=>?_
    have g1:=(t11 n (by omega)).trans g1
    rw[ED (m:=6) g1 (by omega) hx.len,ED (m:=3) g2 (by omega) rfl]
    simp only[go_sem]
    exact hk _ _ _ _ ⟨by have:=f2.le;omega,λid hid=>(t11 id (by omega)).trans ((t10 id (by omega)).trans (f2.same id hid))⟩
     ⟨hx.mono (λid h=>⟨by have:=h.1;omega,by have:=h.2;omega⟩) λid h=>(t11 id (by have:=h.1;omega)).trans (t10 id (by have:=h.1;omega)),hline⟩ FtO.z
   |false=>
    have he0:s'.e≠0:=of_decide_eq_false ho
    have hm:some (none,s'.e)=some (o,e):=by rw[<-hm];show _=some (bif decide (s'.e=0)then(some cl',0)else(none,s'.e));rw[decide_eq_false he0];rfl
    cases hm
    rw[Bool.not_false,Bq]
    refine AB ANl (AB (v:=.ptr (n3+1) 0) rfl (AB (v:=.ptr (n3+1) 2) (by rw[Aa,Nat.zero_add]) ?_))
    cases p9 with
    |mk hg he ht hp hl=>
     rename_i tid' off line col cs'
     obtain⟨x1,x2⟩:=hp he0
     refine AB (MI (m:=3) (o:=2) hg (by omega) (by show 2+3<=5;omega)) ?_
     refine DI g1 rfl rfl (by omega) λH10 g1 t10=>?_
     have g2:=(t10 (n+1) (by omega)).trans g2
     have hg:=(t10 (n3+1) (by omega)).trans hg
     refine AB (MI (m:=3) (o:=2) hg (by omega) (by show 2+3<=5;omega)) (Dv (AHg ..) ?_)
     refine DI (L:=YX s'.e line col) g2 rfl rfl (by omega) λH11 g2 t11=>?_
     have g1:=(t11 n (by omega)).trans g1
     rw[ED (m:=6) g1 (by omega) rfl,ED (m:=3) g2 (by omega) rfl]
     simp only[go_sem]
     exact hk _ _ _ _ ⟨by have:=f2.le;omega,λid hid=>(t11 id (by omega)).trans ((t10 id (by omega)).trans (f2.same id hid))⟩ rfl ⟨line,col,rfl,λ_=>⟨x1,x2⟩,λh=>absurd h he0⟩
end
end Go.PQ
