/- Part of a proof; nothing is assumed. -/
import Derived.Test.YtdellhdojgpghaaGreatDoorConD
set_option linter.unusedVariables false
set_option linter.unusedSimpArgs false
namespace Go.PQ
open Go.RL
open Go.Bj
set_option maxRecDepth 100000
theorem AX6{kd:Nat}{x y:V}{nm:Bs}{id o l c:Nat}:BN exZ [(0,1,.c (.int .i64 (.ofNat kd) 0)),(1,2,.c (.agg [x,y])),(5,2,.c (.agg [sB nm,.bool false])),(7,1,.c (.sl id o l c 11))]=
 some (.agg [.int .i64 (.ofNat kd) 0,x,y,.int .i64 (.ofNat 0) 0,.str 0 0,sB nm,.bool false,.sl id o l c 11,.str 0 0,.bool false,.str 0 0]):=rfl
section
variable{G:AV}{pb:Nat}{H0:Heap}{n0:Nat}{s s':S}{k:KV}
theorem ASA{rec:PM Ex}{f:Nat}{e:Ex}{H:Heap}{n:Nat}(hr:AMe G pb rec)(x:Fr G pb H0 n0 H n s)(gr:T.get H n0=some (one exZ))(hn0:n0<n)(hm:((pY rec f s).bind λp=>asL f p.1 p.2)=some (e,s'))(hk:ExK G pb H0 n0 s' e k):
 JA lfp G (Runs F G) k (.ptr pb 0) (.ptr n0 0) .undef H n:=by
 delta JA
 have hb:=x.b
 obtain⟨⟨e1,s1⟩,h1,hm⟩:=Option.bind_eq_some_iff.1 hm
 have hm:asL f e1 s1=some (e,s'):=hm
 refine AU8 hr x.p x.lt h1 λH2 n2 c y hx=>?_
 have x:=x.tr y
 have g1:=y.get gr hn0 hb
 have hn2:=y.le
 refine Ar rfl λH3 f3 g3=>?_
 have x:=x.al f3
 have g1:=f3.get g1 (by omega)
 refine Bf g3 rfl hx.len (by omega) λH4 g4 s4=>?_
 have x:=x.st (by omega) s4
 have g1:=(s4 n0 (by omega)).trans g1
 have hx:Fa G H4 (Al n0 (n2+1) n2) c e1:=hx.mono (λid h=>⟨by have:=h.1;omega,by have:=h.2;omega,by have:=h.2;omega⟩) λid h=>(s4 id (by have:=h.2;omega)).trans (f3.same id h.2)
 refine FB (J:=λg q=>∃H' n' t c e1,q=(.ptr pb 0,.ptr n0 0,.ptr n2 0,.undef,H',n')/\Fr G pb H0 n0 H' n' t/\n2<n'/\T.get H' n0=some (one exZ)/\T.get H' n2=some (one c)/\Fa G H' (Al n0 n' n2) c e1/\asL g e1 t=some (e,s')) ?_ (m:=f)
  ⟨H4,n2+1,s1,c,e1,rfl,x,by omega,g1,g4,hx,hm⟩
 rintro I g q ⟨H5,n5,t,c,e1,rfl,x,hn5,g1,g4,hx,hm⟩ ih
 show NM lfp G (Runs F G) k I (.ptr pb 0) (.ptr n0 0) (.ptr n2 0) .undef H5 n5
 delta NM
 cases g with
 |zero=>cases hm
 |succ g=>
  have hm:(bif WZ [AKW,ADw] t then(Qj t).bind λs1=>(Jh 2 s1).bind λp=>asL g (.mk (bif decide (t.t.text=ADw)then 20 else 19) 0 [] p.1 false [e1]) p.2 else some (e1,t))=some (e,s'):=hm
  refine yO (ws:=[AKW,ADw]) x.p x.lt rfl (by show 2<=1000;omega) λH6 n6 y=>?_
  have x:=x.tr y
  have hn6:=y.le
  have g1:=y.get g1 (by omega) hb
  have g4:=y.get g4 (by omega) (by omega)
  have hx:Fa G H6 (Al n0 n5 n2) c e1:=hx.mono (λid h=>h) λid h=>y.f.same id h.2.1 (by have:=h.1;omega)
  cases hi:WZ [AKW,ADw] t with
  |false=>
   rw[hi]at hm
   cases hm
   rw[Ak]
   delta NK
   show AP (Ah 11 (.ptr n2 0) G H6) λv15=>Bd 11 (.ptr n0 0) v15 H6 n6 λ_ H n=>EN (CP [.cn (.ptr n0 0) 11] G H) λl=>k (EG l) H n
   exact zD x g1 rfl g4 (Nat.le_refl _) hx (λid h=>⟨by have:=h.1;omega,by have:=h.2.1;omega,by have:=h.1;omega⟩) hk
  |true=>
   rw[hi,cond_true]at hm
   obtain⟨t1,h1,hm⟩:=Option.bind_eq_some_iff.1 hm
   obtain⟨⟨nm,t2⟩,h2,hm⟩:=Option.bind_eq_some_iff.1 hm
   rw[A8]
   refine dn x.p x.lt h1 λH7 n7 line col _ _ y=>?_
   have x:=x.tr y
   have hn7:=y.le
   have g1:=y.get g1 (by omega) hb
   have g4:=y.get g4 (by omega) (by omega)
   have hx:Fa G H7 (Al n0 n5 n2) c e1:=hx.mono (λid h=>h) λid h=>y.f.same id (by have:=h.2.1;omega) (by have:=h.1;omega)
   refine Ar rfl λH8 f8 g8=>?_
   have x:=x.al f8
   refine Bf g8 rfl (L:=UK t.t line col) rfl (by omega) λH9 g9 s9=>?_
   have x:=x.st (by omega) s9
   have g1:=(s9 n0 (by omega)).trans (f8.get g1 (by omega))
   have g4:=(s9 n2 (by omega)).trans (f8.get g4 (by omega))
   have hx:Fa G H9 (Al n0 n5 n2) c e1:=hx.mono (λid h=>h) λid h=>(s9 id (by have:=h.2.1;omega)).trans (f8.same id (by have:=h.2.1;omega))
   have q1:Aa (.ptr n7 1) G H9=some (sB t.t.text):=AX g9 rfl
   refine AB (v:=.ptr n7 1) (by rw[AY,Nat.zero_add]) (AB q1 (AB (show Dw (.one .str) false (sB t.t.text) (.str 2 29545)=_ from AQv _ ADw) ?_))
   have body:∀kd,asL g (.mk kd 0 [] nm false [e1]) t2=some (e,s')->Fh lfp G (Runs F G) k I (.ptr pb 0) (.ptr n0 0) (.ptr n2 0) (.ptr n7 0) (.int .i64 (.ofNat kd) 0) .undef H9 (n7+1):=by
    intro kd hm
    delta Fh
    refine AB (v:=.ptr n7 3) (by rw[AY,Nat.zero_add]) (AB (QK (m:=2) (o:=3) g9 (by omega) (by show 3+2<=5;omega)) (AB (Aw (m:=11) g4 (by omega) hx.len) ?_))
    refine Ld (G:=G) (vs:=[.agg c]) rfl (by omega) (λv hv=>by simp at hv;subst hv;exact hx.ok) λH10 f10 _ hel=>?_
    have x:=x.al f10
    have g1:=f10.get g1 (by omega)
    have g4:=f10.get g4 (by omega)
    have g9:=f10.get g9 (by omega)
    have hx:Fa G H10 (Al n0 n5 n2) c e1:=hx.mono (λid h=>h) λid h=>f10.same id (by have:=h.2.1;omega)
    refine dJ x.p x.lt h2 λH11 n11 y=>?_
    have x:=x.tr y
    have hn11:=y.le
    have g1:=y.get g1 (by omega) hb
    have g4:=y.get g4 (by omega) (by omega)
    have g9:=y.get g9 (by omega) (by omega)
    have hx:Fa G H11 (Al n0 n5 n2) c e1:=hx.mono (λid h=>h) λid h=>y.f.same id (by have:=h.2.1;omega) (by have:=h.1;omega)
    have hel:El G H11 (.sl (n7+1) 0 1 1 11) 11 [c]:=hel.same λid hid=>by cases JM hid;exact y.f.same _ (by omega) (by omega)
    refine AB (QK (m:=2) (o:=3) g9 (by omega) (by show 3+2<=5;omega)) (CX (Jf ..) (AB (Aw (m:=11) g4 (by omega) hx.len) (CX hx.vs ?_)))
    refine AEz λH12 f12=>?_
    have x:=x.al f12
    have g1:=f12.get g1 (by omega)
    have g4:=f12.get g4 (by omega)
    have g9:=f12.get g9 (by omega)
    have hx:Fa G H12 (Al n0 n5 n2) c e1:=hx.mono (λid h=>h) λid h=>f12.same id (by have:=h.2.1;omega)
    have hel:El G H12 (.sl (n7+1) 0 1 1 11) 11 [c]:=hel.same λid hid=>by cases JM hid;exact f12.same _ (by omega)
    refine AB (QK (m:=2) (o:=3) g9 (by omega) (by show 3+2<=5;omega)) (CX (Jf ..) (AB (Aw (m:=11) g4 (by omega) hx.len) (CX hx.vs ?_)))
    refine AB AX6 ?_
    refine Bf g4 hx.len rfl (by omega) λH13 g4 s13=>?_
    have x:=x.st (by omega) s13
    refine ih g _ (by omega) ⟨H13,n11+1,t2,_,.mk kd 0 [] nm false [e1],rfl,x,by omega,(s13 n0 (by omega)).trans g1,g4,?_,hm⟩
    exact .mk kd 0 [] nm false line col (hel.same λid hid=>by cases JM hid;exact s13 _ (by omega)) (aT (by omega)) (λid hid=>by cases JM hid;exact⟨by omega,by omega,by omega⟩)
     (.cons (hx.mono (λid h=>⟨h.1,by have:=h.2.1;omega,h.2.2⟩) λid h=>s13 id h.2.2) .nil)
   cases hd:decide (t.t.text=ADw)with
   |true=>rw[hd]at hm;rw[A8];exact body 20 hm
   |false=>rw[hd]at hm;rw[Ak];exact body 19 hm
end
section
variable{G:AV}{pb:Nat}
theorem AN9{rec:PM Ex}(hr:AMe G pb rec):∀f,FnC G pb [] (unary rec f) (.fn Ci [.ptr pb 0] [])
 |0=>λs H n s' e k _ _ _ hm _=>by cases hm
 |f+1=>by
  have ihf:=AN9 hr f
  intro s H n s' e k h hb hbs hm hk
  rw[vw]
  show Runs F G Ci [.ptr pb 0] H n k
  refine go1 (mX Aq G) ?_
  delta Xk
  have x:=Fr.refl h hb
  refine Ar rfl λH1 f1 g1=>?_
  have x:=x.al f1
  obtain⟨v,tid,o,line,col,e0,ea,_,_,_,_,_,e5⟩:=x.p.tok
  refine AB (v:=.ptr pb 0) rfl (AB (v:=.ptr pb 0) rfl (AB e0 (AB ea (AB (v:=.ptr tid (o+3)) (AY ..) (AB e5 ?_)))))
  refine Ar rfl λH8 f8 g8=>?_
  have x:=x.al f8
  refine Bf g8 rfl (L:=[.int .i64 (.ofNat line) 0,.int .i64 (.ofNat col) 0]) rfl (by omega) λH9 g9 s9=>?_
  have x:=x.st (by omega) s9
  have g1:=(s9 n (by omega)).trans (f8.get g1 (by omega))
  refine ABB (G:=G) (ws:=[Kz,XH]) rfl λH10 f10 hel=>?_
  have x:=x.al f10
  have g1:=f10.get g1 (by omega)
  have g9:=f10.get g9 (by omega)
  refine AB hel.len ?_
  have hm:(bif WZ [Kz] s then(aY s).bind λs1=>(Qj s1).bind λs2=>(unary rec f s2).bind λp=>(upS p.2).bind λs'=>some (.mk 14 0 [] [] false [p.1],s')else
   bif WZ [XH] s then(aY s).bind λs1=>(Qj s1).bind λs2=>(unary rec f s2).bind λp=>(upS p.2).bind λs'=>some (.mk 15 0 [] [] false [p.1],s')else
   (pY rec f s).bind λp=>asL f p.1 p.2)=some (e,s'):=hm
  refine CG (N:=2) (J:=λj q=>∃H' n',q=(.ptr pb 0,.ptr n 0,.ptr (n+1) 0,.sl (n+2) 0 2 2 1,.int .i64 (.ofNat 2) 0,.int .i64 (.ofNat j) 0,.undef,H',n')/\Fr G pb H n H' n' s/\n+2<n'/\T.get H' n=some (one exZ)/\
   T.get H' (n+1)=some (one [.int .i64 (.ofNat line) 0,.int .i64 (.ofNat col) 0])/\El G H' (.sl (n+2) 0 2 2 1) 1 (wsC [Kz,XH])/\(0<j->WZ [Kz] s=false)/\(1<j->WZ [XH] s=false)) ?_ ?_
   ⟨H10,_,rfl,x,by omega,g1,g9,hel,λh=>by omega,λh=>by omega⟩
  ·rintro I j q hlt ⟨H2,n2,rfl,x,hn2,g1,g9,hel,hj0,hj1⟩ ih
   show GH lfp G (Runs F G) k I (.ptr pb 0) (.ptr n 0) (.ptr (n+1) 0) (.sl (n+2) 0 2 2 1) (.int .i64 (.ofNat 2) 0) (.int .i64 (.ofNat j) 0) .undef H2 n2
   delta GH
   have hj:j<[Kz,XH].length:=hlt
   obtain⟨p,hp,hld⟩:=hel.at (AMd hj)
   refine AB (FP ..) ?_
   rw[decide_eq_true hlt,A8]
   refine AB hp (AB (Zz hld) ?_)
   refine yO (ws:=[[Kz,XH][j]]) x.p x.lt rfl (by show 1<=1000;omega) λH3 n3 y=>?_
   have x:=x.tr y
   have hn3:=y.le
   have g1:=y.get g1 (by omega) hb
   have g9:=y.get g9 (by omega) (by omega)
   have hel:El G H3 (.sl (n+2) 0 2 2 1) 1 (wsC [Kz,XH]):=hel.same λid hid=>by cases JM hid;exact y.f.same _ (by omega) (by omega)
   cases hi:WZ [[Kz,XH][j]] s with
   |false=>
    rw[Ak]
    refine AB (Vu (show j+1<9223372036854775808 by omega)) ?_
    refine ih _ ⟨H3,n3,rfl,x,by omega,g1,g9,hel,λ_=>?_,λh=>?_⟩
    ·rcases Nat.eq_zero_or_pos j with h0|h0
     ·subst h0;exact hi
     ·exact hj0 h0
    ·have:j=1:=by omega
     subst this;exact hi
   |true=>
    have hm:((aY s).bind λs1=>(Qj s1).bind λs2=>(unary rec f s2).bind λp=>(upS p.2).bind λs'=>some ((.mk (14+j) 0 [] [] false [p.1]:Ex),s'))=some (e,s'):=by
     rcases Nat.eq_zero_or_pos j with h0|h0
     ·subst h0
      have hi:WZ [Kz] s=true:=hi
      rw[hi]at hm;exact hm
     ·have:j=1:=by omega
      subst this
      have hi:WZ [XH] s=true:=hi
      rw[hj0 h0,hi]at hm;exact hm
    obtain⟨s1,h1,hm⟩:=Option.bind_eq_some_iff.1 hm
    obtain⟨s2,h2,hm⟩:=Option.bind_eq_some_iff.1 hm
    obtain⟨⟨e1,s3⟩,h3,hm⟩:=Option.bind_eq_some_iff.1 hm
    obtain⟨s4,h4,hm⟩:=Option.bind_eq_some_iff.1 hm
    cases hm
    rw[A8]
    refine AID x.p x.lt h1 λH4 n4 q y hq1 hq2 hq3=>?_
    have x:=x.tr y
    have hn4:=y.le
    have g1:=y.get g1 (by omega) hb
    have g9:=y.get g9 (by omega) (by omega)
    rw[AEU]
    refine dn x.p x.lt h2 λH5 n5 l5 c5 _ _ y=>?_
    have x:=x.tr y
    have hn5:=y.le
    have g1:=y.get g1 (by omega) hb
    have g9:=y.get g9 (by omega) (by omega)
    have hq3:=y.get hq3 hq2 (by omega)
    refine Ld (G:=G) (vs:=[.int .i64 (.ofNat 14) 0,.int .i64 (.ofNat 15) 0]) rfl (by omega) (λv hv=>by simp at hv;rcases hv with rfl|rfl<;>exact⟨rfl,rfl⟩) λH6 f6 _ hel6=>?_
    have x:=x.al f6
    have g1:=f6.get g1 (by omega)
    have g9:=f6.get g9 (by omega)
    have hq3:=f6.get hq3 (by omega)
    have hj6:([V.int .i64 (.ofNat 14) 0,.int .i64 (.ofNat 15) 0].map BA)[j]? =some [.int .i64 (.ofNat (14+j)) 0]:=by
     rcases Nat.eq_zero_or_pos j with h0|h0
     ·subst h0;rfl
     ·have:j=1:=by omega
      subst this;rfl
    obtain⟨p6,hp6,hld6⟩:=hel6.at hj6
    have hp6':p6=.ptr n5 (j*1):=by
     have:BJ 1 (.sl n5 0 2 2 1) (.int .i64 (.ofNat j) 0)=some (.ptr n5 ((0+j)*1)):=by
      show BF (band (Nat.beq 1 1) (Nat.blt j 2)) (CW ((0+j)*1) λo=>some (.ptr n5 o))=_
      rw[show Nat.blt j 2=true by rw[Nat.blt_eq];exact hlt,BP];rfl
     rw[this,Nat.zero_add]at hp6
     exact(Option.some.inj hp6).symm
    refine AB hp6 (AB (Zz hld6) (AB (Aw (m:=2) g9 (by omega) rfl) ?_))
    have keep:∀H',T.get H' n5=T.get H6 n5->Aa p6 G H'=some (.int .i64 (.ofNat (14+j)) 0):=by
     intro H' hs
     rw[hp6']at hld6⊢
     rw[ADs]
     show PY (aB H' n5 (j*1) 1) _=_
     have:aB H' n5 (j*1) 1=aB H6 n5 (j*1) 1:=by unfold aB;rw[hs]
     rw[this,show aB H6 n5 (j*1) 1=_ from hld6];rfl
    have hrun:∀{H:Heap} {n:Nat} {k:KV},WQ (.fn Ci [.ptr pb 0] []) [] (Runs F G) H n k->Runs F G Ci [.ptr pb 0] H n k:=λh=>h
    refine hrun (ihf _ _ _ _ _ _ x.p x.lt Bxs.nil h3 λH7 n7 c y hx=>?_)
    have x:=x.tr y
    have hn7:=y.le
    have g1:=y.get g1 (by omega) hb
    have g9:=y.get g9 (by omega) (by omega)
    have hq3:=y.get hq3 (by omega) (by omega)
    refine AB (keep _ (y.f.same _ (by omega) (by omega))) (CX (Xv ..) (AB (Aw (m:=2) g9 (by omega) rfl) (CX (Jf ..) ?_)))
    refine Ld (G:=G) (vs:=[.agg c]) rfl (by omega) (λv hv=>by simp at hv;subst hv;exact hx.ok) λH8 f8 _ hel8=>?_
    have x:=x.al f8
    have g1:=f8.get g1 (by omega)
    have g9:=f8.get g9 (by omega)
    have hq3:=f8.get hq3 (by omega)
    refine Bf (L:=exZ) g1 rfl rfl (by omega) λH9 g1 s9=>?_
    have x:=x.st (Nat.le_refl _) s9
    have g9:=(s9 (n+1) (by omega)).trans g9
    have hq3:=(s9 q (by omega)).trans hq3
    have k9:=keep H9 ((s9 n5 (by omega)).trans ((f8.same _ (by omega)).trans (y.f.same _ (by omega) (by omega))))
    refine AB k9 (CX (Xv ..) (AB (Aw (m:=2) g9 (by omega) rfl) (CX (Jf ..) (AB (v:=.ptr n 0) (AY ..) ?_))))
    refine Em g1 rfl rfl (by omega) (by show 0+1<=11;omega) λH10 g1 s10=>?_
    have x:=x.st (Nat.le_refl _) s10
    have g9:=(s10 (n+1) (by omega)).trans g9
    have hq3:=(s10 q (by omega)).trans hq3
    refine AB (Aw (m:=2) g9 (by omega) rfl) (CX (Jf ..) (AB (v:=.ptr n 1) (by rw[AY,Nat.zero_add]) ?_))
    refine Em g1 rfl rfl (by omega) (by show 1+2<=11;omega) λH11 g1 s11=>?_
    have x:=x.st (Nat.le_refl _) s11
    have hq3:=(s11 q (by omega)).trans hq3
    refine AB (v:=.ptr n 7) (by rw[AY,Nat.zero_add]) ?_
    refine Em g1 rfl rfl (by omega) (by show 7+1<=11;omega) λH12 g1 s12=>?_
    have x:=x.st (Nat.le_refl _) s12
    have hq3:=(s12 q (by omega)).trans hq3
    have g1:T.get H12 n=some (one (exC (14+j) 0 [] [] false line col (.sl n7 0 1 1 11))):=g1
    have same:∀id,id≠n->T.get H12 id=T.get H8 id:=λid h=>(s12 id h).trans ((s11 id h).trans ((s10 id h).trans (s9 id h)))
    refine AUN x.p x.lt hq3 h4 λH13 n13 y=>?_
    have x:=x.tr y
    have hn13:=y.le
    have g1:=y.get g1 (by omega) hb
    rw[BU (m:=11) g1 (by omega) rfl]
    simp only[go_sem]
    refine hk _ _ _ x (.mk (14+j) 0 [] [] false line col (hel8.same λid hid=>by cases JM hid;exact(y.f.same _ (by omega) (by omega)).trans (same _ (by omega))) (aT (by omega)) (λid hid=>by cases JM hid;exact⟨by omega,by omega⟩) (.cons ?_ .nil))
    exact hx.mono (λid h=>⟨by have:=h.1;omega,by have:=h.2;omega⟩) λid h=>(y.f.same id (by have:=h.2;omega) (by have:=h.1;omega)).trans ((same id (by have:=h.1;omega)).trans (f8.same id h.2))
  ·rintro I q ⟨H2,n2,rfl,x,hn2,g1,g9,hel,hj0,hj1⟩
   show GH lfp G (Runs F G) k I (.ptr pb 0) (.ptr n 0) (.ptr (n+1) 0) (.sl (n+2) 0 2 2 1) (.int .i64 (.ofNat 2) 0) (.int .i64 (.ofNat 2) 0) .undef H2 n2
   delta GH
   refine AB (FP ..) ?_
   rw[show decide (2<2)=false from rfl,Ak]
   rw[hj0 (by omega),hj1 (by omega)]at hm
   exact ASA hr x g1 (by omega) hm hk
theorem AAV:∀f,AMe G pb (expr f)
 |0=>λs H n s' e k _ _ hm _=>by cases hm
 |f+1=>λs H n s' e k h hb hm hk=>AUp (rec:=expr f) (f:=f) (AN9 (AAV f) f) h hb hm hk
end
open Go.Bj
set_option maxRecDepth 100000
def stC(does:Nat)(line col:Nat)(nm:Bs)(ty:Ty)(ve vt vl:V):LV:=
 [.int .i64 (.ofNat does) 0,.int .i64 (.ofNat line) 0,.int .i64 (.ofNat col) 0,sB nm,sB ty.nm,.bool ty.arr,ve,vt,vl]
theorem Ob.mono{G:AV}{H H':Heap}{A B:Nat->Prop}{v:V}{es:List Ex}(h:Ob G H A v es)(hA:∀id,A id->B id)(hs:∀id,A id->T.get H' id=T.get H id):Ob G H' B v es:=by
 obtain⟨cs,h1,h2,h3,h4,h5,h6⟩:=h
 exact⟨cs,h1.same λid hid=>hs id (h5 id hid),h2,h3,h4,λid hid=>hA id (h5 id hid),h6.mono hA hs⟩
mutual
inductive Z8(G:AV)(H:Heap)(A:Nat->Prop):LV->St->Prop where
 |mk (does:Nat) (nm:Bs) (ty:Ty) (line col:Nat) {ve vt vl:V} {es:List Ex} {th el:List St} {ct cl:CJ} (he:Ob G H A ve es) (ht:El G H vt 9 ct) (kt:KS vt) (at':∀id,vt.Dl=some id->A id) (st:aA G H A ct th)
  (hl:El G H vl 9 cl) (kl:KS vl) (al:∀id,vl.Dl=some id->A id) (sl:aA G H A cl el):Z8 G H A (stC does line col nm ty ve vt vl) (.mk does nm ty es th el)
inductive aA(G:AV)(H:Heap)(A:Nat->Prop):CJ->List St->Prop where
 |nil:aA G H A [] []
 |cons {c:LV} {e:St} {cs:CJ} {es:List St} (h:Z8 G H A c e) (t:aA G H A cs es):aA G H A (c::cs) (e::es)
end
mutual
theorem Z8.mono{G:AV}{H H':Heap}{A B:Nat->Prop}(hA:∀id,A id->B id)(hs:∀id,A id->T.get H' id=T.get H id):∀{c:LV} {e:St},Z8 G H A c e->Z8 G H' B c e
 |_,_,.mk does nm ty line col he ht kt a1 st hl kl a2 sl=>.mk does nm ty line col (he.mono hA hs) (ht.same λid hid=>hs id (a1 id hid)) kt (λid hid=>hA id (a1 id hid)) (aA.mono hA hs st)
  (hl.same λid hid=>hs id (a2 id hid)) kl (λid hid=>hA id (a2 id hid)) (aA.mono hA hs sl)
theorem aA.mono{G:AV}{H H':Heap}{A B:Nat->Prop}(hA:∀id,A id->B id)(hs:∀id,A id->T.get H' id=T.get H id):∀{cs:CJ} {es:List St},aA G H A cs es->aA G H' B cs es
 |_,_,.nil=>.nil
 |_,_,.cons h t=>.cons (Z8.mono hA hs h) (aA.mono hA hs t)
end
theorem aA.app{G:AV}{H:Heap}{A:Nat->Prop}:∀{cs:CJ} {es:List St} {cs':CJ} {es':List St},aA G H A cs es->aA G H A cs' es'->aA G H A (cs++cs') (es++es')
 |_,_,_,_,.nil,h=>h
 |_,_,_,_,.cons h t,h'=>.cons h (t.app h')
theorem aA.len{G:AV}{H:Heap}{A:Nat->Prop}:∀{cs:CJ} {es:List St},aA G H A cs es->cs.length=es.length
 |_,_,.nil=>rfl
 |_,_,.cons h t=>by simp[t.len]
theorem Z8.len{G:AV}{H:Heap}{A:Nat->Prop}{c:LV}{e:St}(h:Z8 G H A c e):c.length=9:=by cases h;rfl
theorem Z8.ok{G:AV}{H:Heap}{A:Nat->Prop}{c:LV}{e:St}(h:Z8 G H A c e):Wi (.agg c)=true/\(BA (.agg c)).length=9:=⟨rfl,h.len⟩
def Oc(G:AV)(H:Heap)(A:Nat->Prop)(v:V)(sts:List St):Prop:=∃cs,El G H v 9 cs/\KS v/\Wi v=true/\BA v=[v]/\(∀id,v.Dl=some id->A id)/\aA G H A cs sts
theorem Oc.mono{G:AV}{H H':Heap}{A B:Nat->Prop}{v:V}{es:List St}(h:Oc G H A v es)(hA:∀id,A id->B id)(hs:∀id,A id->T.get H' id=T.get H id):Oc G H' B v es:=by
 obtain⟨cs,h1,h2,h3,h4,h5,h6⟩:=h
 exact⟨cs,h1.same λid hid=>hs id (h5 id hid),h2,h3,h4,λid hid=>hA id (h5 id hid),h6.mono hA hs⟩
theorem Oc.nil{G:AV}{H:Heap}{A:Nat->Prop}:Oc G H A .Af []:=⟨[],AAY,vK,rfl,rfl,(λ_ h=>by cases h),.nil⟩
theorem Z8.of{G:AV}{H:Heap}{A:Nat->Prop}{does line col:Nat}{nm:Bs}{ty:Ty}{ve vt vl:V}{es:List Ex}{th el:List St}(he:Ob G H A ve es)(ht:Oc G H A vt th)(hl:Oc G H A vl el):Z8 G H A (stC does line col nm ty ve vt vl) (.mk does nm ty es th el):=by
 obtain⟨ct,h1,h0,_,_,h2,h3⟩:=ht
 obtain⟨cl,k1,k0,_,_,k2,k3⟩:=hl
 exact .mk does nm ty line col he h1 h0 h2 h3 k1 k0 k2 k3
def StK(G:AV)(pb:Nat)(H:Heap)(n:Nat)(s':S)(e:St)(k:KV):Prop:=∀H' n' c,Fr G pb H n H' n' s'->Z8 G H' (Rg n n') c e->k (.agg c) H' n'
def SsK(G:AV)(pb:Nat)(H:Heap)(n:Nat)(s':S)(es:List St)(k:KV):Prop:=∀H' n' v,Fr G pb H n H' n' s'->Oc G H' (Rg n n') v es->k v H' n'
def StC(G:AV)(pb:Nat)(fn:Nat)(m:PM St):Prop:=∀(s:S) (H:Heap) (n:Nat) (s':S) (e:St) (k:KV),ZR G H pb s->pb<n->m s=some (e,s')->StK G pb H n s' e k->Runs F G fn [.ptr pb 0] H n k
section
variable{G:AV}{pb:Nat}{H:Heap}{n:Nat}{s s':S}{k:KV}
theorem AER{st:PM St}{f:Nat}{es:List St}(hst:StC G pb FW st)(h:ZR G H pb s)(hb:pb<n)(hm:Zx st f s=some (es,s'))(hk:SsK G pb H n s' es k):Runs F G JE [.ptr pb 0] H n k:=by
 refine go1 (nR Aq G) ?_
 delta Xh
 obtain⟨s1,h1,hm⟩:=Option.bind_eq_some_iff.1 hm
 obtain⟨s2,h2,hm⟩:=Option.bind_eq_some_iff.1 hm
 obtain⟨⟨es1,s3⟩,h3,hm⟩:=Option.bind_eq_some_iff.1 hm
 obtain⟨s4,h4,hm⟩:=Option.bind_eq_some_iff.1 hm
 cases hm
 refine AID h hb h1 λH1 n1 q x hq1 hq2 hq3=>?_
 rw[AEU]
 refine LW (ws:=[Rz]) x.p x.lt rfl (by show 1<=1000;omega) h2 λH2 n2 y=>?_
 have x:=x.tr y
 have hq3:=y.get hq3 hq2 (by omega)
 have hn2:=y.le
 refine FB (J:=λg r=>∃H' n' t v cs out,r=(.ptr pb 0,v,.EI [.fn Bo [] [.ptr q 0]],H',n')/\Fr G pb H n H' n' t/\n2<=n'/\T.get H' q=some (one [.ptr pb 0])/\Own G H' n2 n' 9 v cs/\aA G H' (λid=>n2<=id/\id<n'/\v.Dl≠some id) cs out/\J3 st g out t=some (es1,s3)) ?_ (m:=f)
  ⟨H2,n2,s2,.Af,[],[],rfl,x,Nat.le_refl _,hq3,vN,.nil,h3⟩
 rintro I g r ⟨H3,n3,t,v,cs,out,rfl,x,hn3,hq3,ho,hc,hm⟩ ih
 show OH lfp G (Runs F G) k I (.ptr pb 0) v (.EI [.fn Bo [] [.ptr q 0]]) H3 n3
 delta OH
 cases g with
 |zero=>cases hm
 |succ g=>
  have hm:(bif t.ok then(Dk m_rc t).bind λp=>bif p.1 then some (out,p.2)else(st p.2).bind λq=>bif decide (out.length<1000000)then J3 st g (out++[q.1]) q.2 else none
   else some (out,t))=some (es1,s3):=hm
  have fin:∀{H4:Heap} {n4:Nat} {t4:S},Fr G pb H3 n3 H4 n4 t4->some (out,t4)=some (es1,s3)->JX lfp G (Runs F G) k v (.EI [.fn Bo [] [.ptr q 0]]) H4 n4:=by
   intro H4 n4 t4 y he
   cases he
   delta JX
   have ho4:=ho.kx y.f (by omega)
   have x:=x.tr y
   have hq3:=y.get hq3 (by omega) (by omega)
   refine AUN x.p x.lt hq3 h4 λH5 n5 y5=>?_
   have ho5:=ho4.kx y5.f (by omega)
   have hn4:=y.le
   have hn5:=y5.le
   refine hk _ _ _ (x.tr y5) ⟨cs,ho5.el (by omega),(Ph ho5.gr).1,(Ph ho5.gr).2.1,(Ph ho5.gr).2.2,λid hid=>⟨by have:=ho5.ge hid;omega,ho5.lo id hid⟩,?_⟩
   exact hc.mono (λid h=>⟨by have:=h.1;omega,by have:=h.2.1;omega⟩) λid h=>(y5.f.same id (by have:=h.2.1;omega) (by have:=h.1;omega)).trans (y.f.same id h.2.1 (by have:=h.1;omega))
  rw[AbK]
  refine ABt x.p x.lt (λhf=>fin (Fr.refl x.p x.lt) (by rw[hf]at hm;exact hm)) λht=>?_
  rw[ht,cond_true]at hm
  obtain⟨⟨b,t2⟩,h2,hm⟩:=Option.bind_eq_some_iff.1 hm
  refine⟨b,t2,h2,λH4 n4 y=>?_⟩
  cases b with
  |true=>exact fin y hm
  |false=>
   obtain⟨⟨e,t4⟩,h4,hm⟩:=Option.bind_eq_some_iff.1 (show((st t2).bind λq=>bif decide (out.length<1000000)then J3 st g (out++[q.1]) q.2 else none)=some (es1,s3)from hm)
   cases hlen:decide (out.length<1000000)with
   |false=>rw[hlen]at hm;cases hm
   |true=>
   rw[hlen,cond_true]at hm
   have hlen:=of_decide_eq_true hlen
   have ho4:=ho.kx y.f (by omega)
   have hn4:=y.le
   have hc4:aA G H4 (λid=>n2<=id/\id<n3/\v.Dl≠some id) cs out:=hc.mono (λid h=>h) λid h=>y.f.same id h.2.1 (by have:=h.1;omega)
   have x:=x.tr y
   have hq3:=y.get hq3 (by omega) (by omega)
   show Runs F G FW [.ptr pb 0] H4 n4 _
   refine hst _ _ _ _ _ _ x.p x.lt h4 λH5 n5 c y hx=>?_
   have hn5:=y.le
   have x:=x.tr y
   have hq3:=y.get hq3 (by omega) (by omega)
   have ho5:=ho4.kx y.f (by omega)
   have hc5:aA G H5 (λid=>n2<=id/\id<n3/\v.Dl≠some id) cs out:=hc4.mono (λid h=>h) λid h=>y.f.same id (by have:=h.2.1;omega) (by have:=h.1;omega)
   refine Ld (G:=G) (vs:=[.agg c]) rfl (by omega) (λv hv=>by simp at hv;subst hv;exact hx.ok) λH6 f6 _ hel=>?_
   have x:=x.al f6
   have ho6:=ho5.kp f6
   have hq3:=f6.get hq3 (by omega)
   refine aP ho6.gr (by omega) ho6.lo hel.2 (by have:=hc.len;show(cs.length+1)*136<=_;omega) ?_ (λh=>by cases h)
   intro v' H7 hgr hsame hlo
   have hgr:Gr G H7 n2 9 v' (cs++[c]):=hgr
   have f7:Fr G pb H n H7 (n5+1+1) t4:=⟨⟨by omega,λid hid hp=>(hsame id (by omega) (λh=>by have:=ho6.ge h;omega)).trans (x.f.same id hid hp)⟩,x.p.same λid hid=>hsame id (by omega) (λh=>by have:=ho6.ge h;omega),hb⟩
   have hv4:∀id,v.Dl=some id->id<n3:=ho.lo
   refine ih g (_,_,_,H7,n5+1+1) (by omega) ⟨H7,n5+1+1,t4,v',cs++[c],out++[e],rfl,f7,by omega,(hsame q (by omega) (λh=>by have:=ho6.ge h;omega)).trans hq3,⟨hgr,λid hid=>by have:=hlo id hid;omega⟩,?_,hm⟩
   refine(hc5.mono (λid h=>⟨h.1,by have:=h.2.1;omega,λhv=>by have:=hlo id hv;have:=h.2.1;omega⟩) λid h=>?_).app (.cons (hx.mono (λid h=>⟨by have:=h.1;omega,by have:=h.2;omega,λhv=>by have:=hlo id hv;have:=h.2;omega⟩) λid h=>?_) .nil)
   ·have h1:=h.1;have h2:=h.2.1
    exact(hsame id (by omega) h.2.2).trans (f6.same id (by omega))
   ·have h1:=h.1;have h2:=h.2
    exact(hsame id (by omega) (λhv=>by have:=hv4 id hv;omega)).trans (f6.same id (by omega))
end
open Go.Bj
set_option maxRecDepth 100000
abbrev stZ:LV:=[.int .i64 (.ofNat 0) 0,.int .i64 (.ofNat 0) 0,.int .i64 (.ofNat 0) 0,.str 0 0,.str 0 0,.bool false,.Af,.Af,.Af]
theorem AYV{x y:V}:BN stZ [(1,2,.c (.agg [x,y]))]=some (.agg [.int .i64 (.ofNat 0) 0,x,y,.str 0 0,.str 0 0,.bool false,.Af,.Af,.Af]):=rfl
theorem AYY{kd:Nat}{x y:V}:BN stZ [(0,1,.c (.int .i64 (.ofNat kd) 0)),(1,2,.c (.agg [x,y]))]=some (.agg [.int .i64 (.ofNat kd) 0,x,y,.str 0 0,.str 0 0,.bool false,.Af,.Af,.Af]):=rfl
section
variable{G:AV}{pb:Nat}{H:Heap}{n:Nat}{s s':S}{k:KV}
theorem AKB{A:Nat->Prop}{c:LV}{e:Ex}{m:Nat}(hel:El G H (.sl m 0 1 1 11) 11 [c])(hx:Fa G H A c e)(hm:A m):Ob G H A (.sl m 0 1 1 11) [e]:=
 ⟨[c],hel,aT (Nat.le_refl _),rfl,rfl,λid hid=>by cases JM hid;exact hm,.cons hx .nil⟩
theorem AVq{f b line col:Nat}{e:St}(h:ZR G H pb s)(hb:pb<b)(hbn:b<n)(gb:T.get H b=some (one (stC 0 line col [] fK .Af .Af .Af)))(hm:ACc f s=some (e,s'))
 (hk:∀H' n' c,Fr G pb H b H' n' s'->n<=n'->T.get H' b=some (one c)->Z8 G H' (λid=>b<id/\id<n') c e->k (.EI []) H' n'):
 Runs F G Xe [.ptr pb 0,.ptr b 0] H n k:=by
 refine go2 (nS Aq G) ?_
 delta Xo
 have x:Fr G pb H b H n s:=⟨⟨by omega,λ_ _ _=>rfl⟩,h,hb⟩
 obtain⟨⟨e1,s1⟩,h1,hm⟩:=Option.bind_eq_some_iff.1 hm
 refine AAV f _ _ _ _ _ _ x.p x.lt h1 λH1 n1 c y hx=>?_
 have x:=x.tr y
 have hn1:=y.le
 have gb:=y.get gb hbn hb
 refine Ar rfl λH2 f2 g2=>?_
 have x:=x.al f2
 have gb:=f2.get gb (by omega)
 refine Bf g2 rfl hx.len (by omega) λH3 g2 s3=>?_
 have x:=x.st (by omega) s3
 have gb:=(s3 b (by omega)).trans gb
 have hx:Fa G H3 (Rg n n1) c e1:=hx.mono (λid h=>h) λid h=>(s3 id (by have:=h.2;omega)).trans (f2.same id h.2)
 refine AB (Aw (m:=11) g2 (by omega) hx.len) ?_
 refine Ld (G:=G) (vs:=[.agg c]) rfl (by omega) (λv hv=>by simp at hv;subst hv;exact hx.ok) λH4 f4 hb4 hel=>?_
 have x:=x.al f4
 have gb:=f4.get gb (by omega)
 have g2:=f4.get g2 (by omega)
 have hx:Fa G H4 (Rg n n1) c e1:=hx.mono (λid h=>h) λid h=>f4.same id (by have:=h.2;omega)
 refine AB (v:=.ptr b 0) rfl (AB (v:=.ptr b 0) (AY ..) ?_)
 refine Em gb rfl rfl (by omega) (by show 0+1<=9;omega) λH5 gb s5=>?_
 have x:=x.st (Nat.le_refl _) s5
 have g2:=(s5 n1 (by omega)).trans g2
 refine AB (Aw (m:=11) g2 (by omega) hx.len) (CX hx.vs (AB (v:=.ptr b 0) rfl (AB (v:=.ptr b 6) (by rw[AY,Nat.zero_add]) ?_)))
 refine Em gb rfl rfl (by omega) (by show 6+1<=9;omega) λH6 gb s6=>?_
 have x:=x.st (Nat.le_refl _) s6
 have g2:=(s6 n1 (by omega)).trans g2
 have gb:T.get H6 b=some (one (stC 3 line col [] fK (.sl (n1+1) 0 1 1 11) .Af .Af)):=gb
 have hel:El G H6 (.sl (n1+1) 0 1 1 11) 11 [c]:=hel.same λid hid=>by cases JM hid;exact(s6 _ (by omega)).trans (s5 _ (by omega))
 have hx:Fa G H6 (Rg n n1) c e1:=hx.mono (λid h=>h) λid h=>(s6 id (by have:=h.1;omega)).trans (s5 id (by have:=h.1;omega))
 have hb6:∃t,T.get H6 (n1+1)=some (.arr 11 1 t):=by
  obtain⟨t,ht⟩:=hb4
  exact⟨t,(s6 _ (by omega)).trans ((s5 _ (by omega)).trans ht)⟩
 have hm:(bif WZ [PV] s1 then
  (D7 [PV] (bif decide (e1.kind=6)||(decide (e1.kind=7)||decide (e1.kind=12))then s1 else Jt 21 s1)).bind λs1=>(expr f s1).bind λq=>some (.mk 2 [] fK [e1,q.1] [] [],q.2)
  else some (.mk 3 [] fK [e1] [] [],bif decide (e1.kind=8)||decide (e1.kind=9)then s1 else Jt 21 s1))=some (e,s'):=hm
 refine yO (ws:=[PV]) x.p x.lt rfl (by show 1<=1000;omega) λH7 n7 y=>?_
 have x:=x.tr y
 have hn7:=y.le
 have gb:=y.get gb (by omega) hb
 have g2:=y.get g2 (by omega) (by omega)
 have hel:El G H7 (.sl (n1+1) 0 1 1 11) 11 [c]:=hel.same λid hid=>by cases JM hid;exact y.f.same _ (by omega) (by omega)
 have hx:Fa G H7 (Rg n n1) c e1:=hx.mono (λid h=>h) λid h=>y.f.same id (by have:=h.2;omega) (by have:=h.1;omega)
 obtain⟨t7,ht7⟩:=hb6
 have ht7:=(y.f.same (n1+1) (by omega) (by omega)).trans ht7
 have q0:Aa (.ptr n1 0) G H7=some (.int .i64 (.ofNat e1.kind) 0):=AX g2 hx.kd
 refine AB (Du _) ?_
 cases hi:WZ [PV] s1 with
 |false=>
  rw[hi]at hm
  cases hm
  rw[Bool.not_false,A8]
  have fin:∀{H8:Heap} {n8:Nat} {t:S},Fr G pb H7 n7 H8 n8 t->t=(bif decide (e1.kind=8)||decide (e1.kind=9)then s1 else Jt 21 s1)->Fz lfp G (Runs F G) k H8 n8:=by
   intro H8 n8 t y ht
   subst ht
   delta Fz
   have hn8:=y.le
   refine hk _ _ _ (x.tr y) (by omega) (y.get gb (by omega) hb) ?_
   have hel8:El G H8 (.sl (n1+1) 0 1 1 11) 11 [c]:=hel.same λid hid=>by cases JM hid;exact y.f.same _ (by omega) (by omega)
   exact .of (AKB hel8 (hx.mono (λid h=>⟨by have:=h.1;omega,by have:=h.2;omega⟩) λid h=>y.f.same id (by have:=h.2;omega) (by have:=h.1;omega)) ⟨by omega,by omega⟩) .nil .nil
  refine AB (v:=.ptr n1 0) (AY ..) (AB q0 (AB (AAg ..) ?_))
  cases k8:decide (e1.kind=8)with
  |true=>
   rw[k8]at fin
   simp only[Bool.not_true,go_sem]
   exact fin (Fr.refl x.p x.lt) rfl
  |false=>
   rw[k8]at fin
   simp only[Bool.not_false,go_sem,Nat.add_zero,q0,AAg]
   cases k9:decide (e1.kind=9)with
   |true=>
    rw[k9]at fin
    simp only[Bool.not_true,go_sem]
    exact fin (Fr.refl x.p x.lt) rfl
   |false=>
    rw[k9]at fin
    simp only[Bool.not_false,go_sem]
    exact kJ x.p x.lt λH8 n8 y=>fin y rfl
 |true=>
  rw[hi,cond_true]at hm
  obtain⟨s2,h2,hm⟩:=Option.bind_eq_some_iff.1 hm
  obtain⟨⟨e2,s3⟩,h3,hm⟩:=Option.bind_eq_some_iff.1 hm
  cases hm
  rw[Bool.not_true,Ak]
  have fin:∀{H8:Heap} {n8:Nat} {t:S},Fr G pb H7 n7 H8 n8 t->D7 [PV] t=some s2->GL lfp G (Runs F G) k (.ptr pb 0) (.ptr b 0) H8 n8:=by
   intro H8 n8 t y ht
   delta GL
   have hn8:=y.le
   have x:=x.tr y
   refine LW (ws:=[PV]) x.p x.lt rfl (by show 1<=1000;omega) ht λH9 n9 y9=>?_
   have x:=x.tr y9
   have hn9:=y9.le
   have y:=y.tr y9
   have gb:=y.get gb (by omega) hb
   have q6:Aa (.ptr b 6) G H9=some (.sl (n1+1) 0 1 1 11):=AX gb rfl
   refine AB (v:=.ptr b 0) rfl (AB (v:=.ptr b 6) (by rw[AY,Nat.zero_add]) (AB q6 ?_))
   refine AAV f _ _ _ _ _ _ x.p x.lt h3 λH10 n10 c2 y10 hx2=>?_
   have x:=x.tr y10
   have hn10:=y10.le
   have y:=y.tr y10
   have gb:=y10.get gb (by omega) hb
   have q6:Aa (.ptr b 6) G H10=some (.sl (n1+1) 0 1 1 11):=AX gb rfl
   refine AB q6 (CX (AKt ..) ?_)
   refine Ld (G:=G) (vs:=[.agg c2]) rfl (by omega) (λv hv=>by simp at hv;subst hv;exact hx2.ok) λH11 f11 _ hel2=>?_
   have x:=x.al f11
   have gb:=f11.get gb (by omega)
   have hel11:El G H11 (.sl (n1+1) 0 1 1 11) 11 [c]:=hel.same λid hid=>by cases JM hid;exact(f11.same _ (by omega)).trans (y.f.same _ (by omega) (by omega))
   have ht11:=(f11.same (n1+1) (by omega)).trans ((y.f.same (n1+1) (by omega) (by omega)).trans ht7)
   refine AFG (by omega) ht11 (by omega) hel11.2 hel2.2 (by show(1+1)*136<=_;omega) ?_
   intro v' H12 n12 hel12 hs12 hn12 hv'
   have gb:=(hs12 b (by omega)).trans gb
   have hcs:Zg G H12 (λid=>b<id/\id<n12) ([c]++[c2]) [e1,e2]:=by
    refine .cons (hx.mono (λid h=>⟨by have:=h.1;omega,by have:=h.2;omega⟩) λid h=>?_) (.cons (hx2.mono (λid h=>⟨by have:=h.1;omega,by have:=h.2;omega⟩) λid h=>?_) .nil)
    ·have h1:=h.1;have h2:=h.2
     exact(hs12 id (by omega)).trans ((f11.same id (by omega)).trans (y.f.same id (by omega) (by omega)))
    ·have h1:=h.1;have h2:=h.2
     exact(hs12 id (by omega)).trans (f11.same id (by omega))
   have x12:Fr G pb H b H12 n12 s3:=⟨⟨by omega,λid hid hp=>(hs12 id (by omega)).trans (x.f.same id hid hp)⟩,x.p.same λid hid=>hs12 id (by omega),hb⟩
   have es:Ob G H12 (λid=>b<id/\id<n12) v' [e1,e2]/\Wi v'=true/\BA v'=[v']:=by
    rcases hv' with⟨l,rfl,hl1⟩|⟨l,rfl,hl⟩
    ·exact⟨⟨_,hel12,aT hl1,rfl,rfl,λid hid=>by cases JM hid;exact⟨by omega,by omega⟩,hcs⟩,rfl,rfl⟩
    ·exact⟨⟨_,hel12,AFX ..,rfl,rfl,λid hid=>by cases yc hid;exact⟨by omega,by omega⟩,hcs⟩,rfl,rfl⟩
   obtain⟨es,ok1,vc1⟩:=es
   refine AB (v:=.ptr b 0) rfl (AB (v:=.ptr b 0) (AY ..) ?_)
   refine Em gb rfl rfl (by omega) (by show 0+1<=9;omega) λH13 gb s13=>?_
   have x:=x12.st (Nat.le_refl _) s13
   refine AB (v:=.ptr b 0) rfl (AB (v:=.ptr b 6) (by rw[AY,Nat.zero_add]) ?_)
   refine Em gb ok1 (by rw[vc1];rfl) (by omega) (by show 6+1<=9;omega) λH14 gb s14=>?_
   have x:=x.st (Nat.le_refl _) s14
   rw[vc1]at gb
   refine hk _ _ (stC 2 line col [] fK v' .Af .Af) x (by omega) gb ?_
   exact .of (es.mono (λid h=>h) λid h=>(s14 id (by have:=h.1;omega)).trans (s13 id (by have:=h.1;omega))) .nil .nil
  refine AB (v:=.ptr n1 0) (AY ..) (AB q0 (AB (AAg ..) ?_))
  cases k6:decide (e1.kind=6)with
  |true=>
   rw[k6]at h2
   simp only[Bool.not_true]
   repeat (first|with_reducible refine AJQ ?_|with_reducible refine AKM ?_|with_reducible refine xP ?_)
   simp only[go_sem]
   exact fin (Fr.refl x.p x.lt) h2
  |false=>
   rw[k6]at h2
   simp only[Bool.not_false,go_sem,Nat.add_zero,q0,AAg]
   cases k7:decide (e1.kind=7)with
   |true=>
    rw[k7]at h2
    simp only[Bool.not_true]
    repeat (first|with_reducible refine AJQ ?_|with_reducible refine AKM ?_|with_reducible refine xP ?_)
    simp only[go_sem]
    exact fin (Fr.refl x.p x.lt) h2
   |false=>
    rw[k7]at h2
    simp only[Bool.not_false,go_sem,Nat.add_zero,q0,AAg]
    cases k12:decide (e1.kind=12)with
    |true=>
     rw[k12]at h2
     simp only[Bool.not_true,go_sem]
     exact fin (Fr.refl x.p x.lt) h2
    |false=>
     rw[k12]at h2
     simp only[Bool.not_false,go_sem]
     exact kJ x.p x.lt λH8 n8 y=>fin y h2
end
open Go.Bj
set_option maxRecDepth 100000
section
variable{G:AV}{pb:Nat}
theorem AbU{G:AV}{H:Heap}{A:Nat->Prop}{c:LV}{e:St}{m:Nat}(hel:El G H (.sl m 0 1 1 9) 9 [c])(hx:Z8 G H A c e)(hm:A m):Oc G H A (.sl m 0 1 1 9) [e]:=
 ⟨[c],hel,aT (Nat.le_refl _),rfl,rfl,λid hid=>by cases JM hid;exact hm,.cons hx .nil⟩
theorem ARS{st ch:PM St}{f:Nat}(hst:StC G pb FW st)(hch:StC G pb Fb ch):StC G pb Fb (AEB st ch f):=by
 intro s H n s' e k h hb hm hk
 refine go1 (jo Aq G) ?_
 delta V4
 obtain⟨s1,h1,hm⟩:=Option.bind_eq_some_iff.1 hm
 obtain⟨s2,h2,hm⟩:=Option.bind_eq_some_iff.1 hm
 obtain⟨⟨e1,s3⟩,h3,hm⟩:=Option.bind_eq_some_iff.1 hm
 obtain⟨⟨th,s4⟩,h4,hm⟩:=Option.bind_eq_some_iff.1 hm
 obtain⟨⟨b,s5⟩,h5,hm⟩:=Option.bind_eq_some_iff.1 hm
 obtain⟨⟨el,s6⟩,h6,hm⟩:=Option.bind_eq_some_iff.1 hm
 obtain⟨s7,h7,hm⟩:=Option.bind_eq_some_iff.1 hm
 cases hm
 have x:=Fr.refl h hb
 refine Ar rfl λH1 f1 g1=>?_
 have x:=x.al f1
 refine AID x.p x.lt h1 λH2 n2 q y hq1 hq2 hq3=>?_
 have x:=x.tr y
 have hn2:=y.le
 have g1:=y.get g1 (by omega) hb
 rw[AEU]
 obtain⟨v,tid,o,line,col,e0,ea,_,_,_,_,_,e5⟩:=x.p.tok
 refine AB (v:=.ptr pb 0) rfl (AB (v:=.ptr pb 0) rfl (AB e0 (AB ea (AB (v:=.ptr tid (o+3)) (AY ..) (AB e5 (AB AYY ?_))))))
 refine Ar rfl λH3 f3 g3=>?_
 have x:=x.al f3
 have g1:=f3.get g1 (by omega)
 have hq3:=f3.get hq3 (by omega)
 refine Bf (L:=stC 4 line col [] fK .Af .Af .Af) g3 rfl rfl (by omega) λH4 g3 t4=>?_
 have x:=x.st (by omega) t4
 have g1:=(t4 n (by omega)).trans g1
 have hq3:=(t4 q (by omega)).trans hq3
 refine LW (ws:=[dX]) x.p x.lt rfl (by show 1<=1000;omega) h2 λH5 n5 y=>?_
 have x:=x.tr y
 have hn5:=y.le
 have g1:=y.get g1 (by omega) hb
 have g3:=y.get g3 (by omega) (by omega)
 have hq3:=y.get hq3 (by omega) (by omega)
 refine AAV f _ _ _ _ _ _ x.p x.lt h3 λH6 n6 c y hx=>?_
 have x:=x.tr y
 have hn6:=y.le
 have g1:=y.get g1 (by omega) hb
 have g3:=y.get g3 (by omega) (by omega)
 have hq3:=y.get hq3 (by omega) (by omega)
 refine Ld (G:=G) (vs:=[.agg c]) rfl (by omega) (λv hv=>by simp at hv;subst hv;exact hx.ok) λH7 f7 _ hel=>?_
 have x:=x.al f7
 have g1:=f7.get g1 (by omega)
 have g3:=f7.get g3 (by omega)
 have hq3:=f7.get hq3 (by omega)
 have hes:Ob G H7 (λid=>n2<id/\id<n6+1) (.sl n6 0 1 1 11) [e1]:=AKB hel (hx.mono (λid h=>⟨by have:=h.1;omega,by have:=h.2;omega⟩) λid h=>f7.same id h.2) ⟨by omega,by omega⟩
 refine AB (v:=.ptr n2 6) (by rw[AY,Nat.zero_add]) ?_
 refine Em g3 rfl rfl (by omega) (by show 6+1<=9;omega) λH8 g3 t8=>?_
 have x:=x.st (by omega) t8
 have g1:=(t8 n (by omega)).trans g1
 have hq3:=(t8 q (by omega)).trans hq3
 have hes:=hes.mono (B:=λid=>n2<id/\id<n6+1) (λid h=>h) λid h=>t8 id (by have:=h.1;omega)
 refine AER hst x.p x.lt h4 λH9 n9 vt y hss=>?_
 have x:=x.tr y
 have hn9:=y.le
 have g1:=y.get g1 (by omega) hb
 have g3:=y.get g3 (by omega) (by omega)
 have hq3:=y.get hq3 (by omega) (by omega)
 have hes:=hes.mono (B:=λid=>n2<id/\id<n9) (λid h=>⟨h.1,by have:=h.2;omega⟩) λid h=>y.f.same id h.2 (by have:=h.1;omega)
 obtain⟨_,_,_,okt,vct,_,_⟩:=id hss
 refine AB (v:=.ptr n2 7) (by rw[AY,Nat.zero_add]) ?_
 refine Em g3 okt (by rw[vct];rfl) (by omega) (by show 7+1<=9;omega) λH10 g3 t10=>?_
 rw[vct]at g3
 have g3:T.get H10 n2=some (one (stC 4 line col [] fK (.sl n6 0 1 1 11) vt .Af)):=g3
 have x:=x.st (by omega) t10
 have g1:=(t10 n (by omega)).trans g1
 have hq3:=(t10 q (by omega)).trans hq3
 have hes:=hes.mono (B:=λid=>n2<id/\id<n9) (λid h=>h) λid h=>t10 id (by have:=h.1;omega)
 have hss:=hss.mono (B:=λid=>n2<id/\id<n9) (λid h=>⟨by have:=h.1;omega,h.2⟩) λid h=>t10 id (by have:=h.1;omega)
 rw[show V.str 4 1702063205=sB zC from rfl]
 refine OI x.p x.lt h5 λH11 n11 y=>?_
 have x:=x.tr y
 have hn11:=y.le
 have g1:=y.get g1 (by omega) hb
 have g3:=y.get g3 (by omega) (by omega)
 have hq3:=y.get hq3 (by omega) (by omega)
 have hes:=hes.mono (B:=λid=>n2<id/\id<n11) (λid h=>⟨h.1,by have:=h.2;omega⟩) λid h=>y.f.same id h.2 (by have:=h.1;omega)
 have hss:=hss.mono (B:=λid=>n2<id/\id<n11) (λid h=>⟨h.1,by have:=h.2;omega⟩) λid h=>y.f.same id h.2 (by have:=h.1;omega)
 have fin:∀{H':Heap} {n':Nat} {vl:V},Fr G pb H n H' n' s6->n2<n'->T.get H' n=some (one stZ)->T.get H' n2=some (one (stC 4 line col [] fK (.sl n6 0 1 1 11) vt vl))->T.get H' q=some (one [.ptr pb 0])->
  Ob G H' (λid=>n2<id/\id<n') (.sl n6 0 1 1 11) [e1]->Oc G H' (λid=>n2<id/\id<n') vt th->Oc G H' (λid=>n2<id/\id<n') vl el->
  EL lfp G (Runs F G) k (.ptr n 0) (.ptr n2 0) (.EI [.fn Bo [] [.ptr q 0]]) H' n':=by
  intro H' n' vl x hn' g1 g3 hq3 hes hss hsl
  delta EL
  refine AB (Aw (m:=9) g3 (by omega) rfl) ?_
  refine Bf g1 rfl rfl (by omega) λH12 g12 t12=>?_
  have x:=x.st (Nat.le_refl _) t12
  refine AUN x.p x.lt ((t12 q (by omega)).trans hq3) h7 λH13 n13 y=>?_
  have hn13:=y.le
  rw[BU (m:=9) (y.get g12 (by omega) hb) (by omega) rfl]
  simp only[go_sem]
  have keep:∀id,n2<id/\id<n'->T.get H13 id=T.get H' id:=λid h=>(y.f.same id h.2 (by have:=h.1;omega)).trans (t12 id (by have:=h.1;omega))
  refine hk _ _ _ (x.tr y) (.of (hes.mono (λid h=>⟨by have:=h.1;omega,by have:=h.2;omega⟩) keep) (hss.mono (λid h=>⟨by have:=h.1;omega,by have:=h.2;omega⟩) keep) (hsl.mono (λid h=>⟨by have:=h.1;omega,by have:=h.2;omega⟩) keep))
 cases b with
 |false=>
  cases h6
  rw[Ak]
  exact fin x (by omega) g1 g3 hq3 hes hss .nil
 |true=>
  rw[cond_true]at h6
  rw[A8]
  refine yO (ws:=[dX]) x.p x.lt rfl (by show 1<=1000;omega) λH12 n12 y=>?_
  have x:=x.tr y
  have hn12:=y.le
  have g1:=y.get g1 (by omega) hb
  have g3:=y.get g3 (by omega) (by omega)
  have hq3:=y.get hq3 (by omega) (by omega)
  have hes:=hes.mono (B:=λid=>n2<id/\id<n12) (λid h=>⟨h.1,by have:=h.2;omega⟩) λid h=>y.f.same id h.2 (by have:=h.1;omega)
  have hss:=hss.mono (B:=λid=>n2<id/\id<n12) (λid h=>⟨h.1,by have:=h.2;omega⟩) λid h=>y.f.same id h.2 (by have:=h.1;omega)
  cases hi:WZ [dX] s5 with
  |true=>
   have h6:((ch s5).bind λx=>some ([x.1],x.2))=some (el,s6):=by simpa[hi]using h6
   obtain⟨⟨e2,s8⟩,h8,h6⟩:=Option.bind_eq_some_iff.1 h6
   cases h6
   rw[A8]
   refine hch _ _ _ _ _ _ x.p x.lt h8 λH13 n13 c2 y hx2=>?_
   have x:=x.tr y
   have hn13:=y.le
   have g1:=y.get g1 (by omega) hb
   have g3:=y.get g3 (by omega) (by omega)
   have hq3:=y.get hq3 (by omega) (by omega)
   have hes:=hes.mono (B:=λid=>n2<id/\id<n13) (λid h=>⟨h.1,by have:=h.2;omega⟩) λid h=>y.f.same id h.2 (by have:=h.1;omega)
   have hss:=hss.mono (B:=λid=>n2<id/\id<n13) (λid h=>⟨h.1,by have:=h.2;omega⟩) λid h=>y.f.same id h.2 (by have:=h.1;omega)
   refine Ld (G:=G) (vs:=[.agg c2]) rfl (by omega) (λv hv=>by simp at hv;subst hv;exact hx2.ok) λH14 f14 _ hel2=>?_
   have x:=x.al f14
   have g1:=f14.get g1 (by omega)
   have g3:=f14.get g3 (by omega)
   have hq3:=f14.get hq3 (by omega)
   refine AB (v:=.ptr n2 8) (by rw[AY,Nat.zero_add]) ?_
   refine Em g3 rfl rfl (by omega) (by show 8+1<=9;omega) λH15 g3 t15=>?_
   have x:=x.st (by omega) t15
   have hsl:Oc G H14 (λid=>n2<id/\id<n13+1) (.sl n13 0 1 1 9) [e2]:=AbU hel2 (hx2.mono (λid h=>⟨by have:=h.1;omega,by have:=h.2;omega⟩) λid h=>f14.same id h.2) ⟨by omega,by omega⟩
   refine fin x (by omega) ((t15 n (by omega)).trans g1) g3 ((t15 q (by omega)).trans hq3) (hes.mono (λid h=>⟨h.1,by have:=h.2;omega⟩) ?_) (hss.mono (λid h=>⟨h.1,by have:=h.2;omega⟩) ?_) (hsl.mono (λid h=>h) λid h=>t15 id (by have:=h.1;omega))
   ·exact λid h=>(t15 id (by have:=h.1;omega)).trans (f14.same id h.2)
   ·exact λid h=>(t15 id (by have:=h.1;omega)).trans (f14.same id h.2)
  |false=>
   have h6:Zx st f s5=some (el,s6):=by simpa[hi]using h6
   rw[Ak]
   refine AER hst x.p x.lt h6 λH13 n13 vl y hsl=>?_
   have x:=x.tr y
   have hn13:=y.le
   have g1:=y.get g1 (by omega) hb
   have g3:=y.get g3 (by omega) (by omega)
   have hq3:=y.get hq3 (by omega) (by omega)
   have hes:=hes.mono (B:=λid=>n2<id/\id<n13) (λid h=>⟨h.1,by have:=h.2;omega⟩) λid h=>y.f.same id h.2 (by have:=h.1;omega)
   have hss:=hss.mono (B:=λid=>n2<id/\id<n13) (λid h=>⟨h.1,by have:=h.2;omega⟩) λid h=>y.f.same id h.2 (by have:=h.1;omega)
   obtain⟨_,_,_,okl,vcl,_,_⟩:=id hsl
   refine AB (v:=.ptr n2 8) (by rw[AY,Nat.zero_add]) ?_
   refine Em g3 okl (by rw[vcl];rfl) (by omega) (by show 8+1<=9;omega) λH15 g3 t15=>?_
   rw[vcl]at g3
   have x:=x.st (by omega) t15
   exact fin (vl:=vl) x (by omega) ((t15 n (by omega)).trans g1) g3 ((t15 q (by omega)).trans hq3) (hes.mono (λid h=>h) λid h=>t15 id (by have:=h.1;omega)) (hss.mono (λid h=>h) λid h=>t15 id (by have:=h.1;omega))
    (hsl.mono (λid h=>⟨by have:=h.1;omega,h.2⟩) λid h=>t15 id (by have:=h.1;omega))
end
open Go.Bj
set_option maxRecDepth 100000
section
variable{G:AV}{pb:Nat}
theorem AY5{st ch:PM St}{f:Nat}(hst:StC G pb FW st)(hch:StC G pb Fb ch):StC G pb FW (AFy st ch f):=by
 intro s H n s' e k h hb hm hk
 refine go1 (qm Aq G) ?_
 delta Yb
 obtain⟨⟨b,s1⟩,h1,hm⟩:=Option.bind_eq_some_iff.1 hm
 have hm:(bif b then
  (wV s1).bind λt=>(Jh 3 t.2).bind λn=>(D7 [PV] n.2).bind λs1=>(expr f s1).bind λx=>endP (.mk 1 n.1 t.1 [x.1] [] []) x.2 else
  bif WZ [dX] s1 then ch s1 else
  (Dk ABd s1).bind λp=>bif p.1 then(expr f p.2).bind λc=>(Zx st f c.2).bind λt=>some (.mk 5 [] fK [c.1] t.1 [],t.2)else
  (Dk Pg p.2).bind λp=>bif p.1 then(expr f p.2).bind λx=>endP (.mk 6 [] fK [x.1] [] []) x.2 else
  (Dk jl p.2).bind λp=>bif p.1 then(expr f p.2).bind λx=>endP (.mk 7 [] fK [x.1] [] []) x.2 else
  (ACc f p.2).bind λx=>endP x.1 x.2)=some (e,s'):=hm
 have x:=Fr.refl h hb
 refine Ar rfl λH1 f1 g1=>?_
 have x:=x.al f1
 obtain⟨v,tid,o,line,col,e0,ea,_,_,_,_,_,e5⟩:=x.p.tok
 refine AB (v:=.ptr pb 0) rfl (AB (v:=.ptr pb 0) rfl (AB e0 (AB ea (AB (v:=.ptr tid (o+3)) (AY ..) (AB e5 (AB AYV ?_))))))
 refine Ar rfl λH3 f3 g3=>?_
 have x:=x.al f3
 have g1:=f3.get g1 (by omega)
 refine Bf (L:=stC 0 line col [] fK .Af .Af .Af) g3 rfl rfl (by omega) λH4 g3 t4=>?_
 have x:=x.st (by omega) t4
 have g1:=(t4 n (by omega)).trans g1
 clear t4 f3 f1 e0 ea e5
 have out:∀{H':Heap} {n':Nat} {c:LV},Fr G pb H n H' n' s'->T.get H' n=some (one stZ)->T.get H' (n+1)=some (one c)->Z8 G H' (λid=>n+1<id/\id<n') c e->
  AP (Ah 9 (.ptr (n+1) 0) G H') λv45=>Bd 9 (.ptr n 0) v45 H' n' λ_ H n'=>EN (CP [.cn (.ptr n 0) 9] G H) λl=>k (EG l) H n':=by
  intro H' n' c x g1 g3 hx
  refine AB (Aw (m:=9) g3 (by omega) hx.len) ?_
  refine Bf g1 rfl hx.len (by omega) λH12 g12 t12=>?_
  rw[BU (m:=9) g12 (by omega) hx.len]
  simp only[go_sem]
  exact hk _ _ _ (x.st (Nat.le_refl _) t12) (hx.mono (λid h=>⟨by have:=h.1;omega,h.2⟩) λid h=>t12 id (by have:=h.1;omega))
 have fin:∀{H':Heap} {n':Nat} {c:LV} {t':S} {b':St},Fr G pb H n H' n' t'->n+1<n'->endP b' t'=some (e,s')->T.get H' n=some (one stZ)->T.get H' (n+1)=some (one c)->Z8 G H' (λid=>n+1<id/\id<n') c b'->
  Dn lfp G (Runs F G) k (.ptr pb 0) (.ptr n 0) (.ptr (n+1) 0) H' n':=by
  intro H' n' c t' b' x hn' he g1 g3 hx
  delta Dn
  obtain⟨t2,h2,he⟩:=Option.bind_eq_some_iff.1 he
  cases he
  refine LW (ws:=[Gz]) x.p x.lt rfl (by show 1<=1000;omega) h2 λH5 n5 y=>?_
  have hn5:=y.le
  exact out (x.tr y) (y.get g1 (by omega) hb) (y.get g3 (by omega) (by omega)) (hx.mono (λid h=>⟨h.1,by have:=h.2;omega⟩) λid h=>y.f.same id h.2 (by have:=h.1;omega))
 have AZp:∀{H':Heap} {n' kd:Nat} {t t1:S} {e1:Ex} {P:V},Fr G pb H n H' n' t->n+1<n'->T.get H' n=some (one stZ)->T.get H' (n+1)=some (one (stC 0 line col [] fK .Af .Af .Af))->
  expr f t=some (e1,t1)->endP (.mk kd [] fK [e1] [] []) t1=some (e,s')->
  Runs F G CO [.ptr pb 0] H' n' λv48 H n'=>CB (Aj 11 1 exZ [(0,.c v48)] E0) H n' λv49 H n'=>AP (AQ 0 (.ptr (n+1) 0)) λv50=>Bd 1 v50 (.int .i64 (.ofNat kd) 0) H n' λ_ H n'=>
   AP (AQ 6 (.ptr (n+1) 0)) λv52=>Bd 1 v52 v49 H n' λ_ H n'=>Dn lfp G (Runs F G) k (.ptr pb 0) (.ptr n 0) (.ptr (n+1) 0) H n':=by
  intro H' n' kd t t1 e1 _ x hn' g1 g3 h1 he
  refine AAV f _ _ _ _ _ _ x.p x.lt h1 λH6 n6 c y hx=>?_
  have x:=x.tr y
  have hn6:=y.le
  have g1:=y.get g1 (by omega) hb
  have g3:=y.get g3 (by omega) (by omega)
  refine Ld (G:=G) (vs:=[.agg c]) rfl (by omega) (λv hv=>by simp at hv;subst hv;exact hx.ok) λH7 f7 _ hel=>?_
  have x:=x.al f7
  have g1:=f7.get g1 (by omega)
  have g3:=f7.get g3 (by omega)
  have hes:Ob G H7 (λid=>n+1<id/\id<n6+1) (.sl n6 0 1 1 11) [e1]:=AKB hel (hx.mono (λid h=>⟨by have:=h.1;omega,by have:=h.2;omega⟩) λid h=>f7.same id h.2) ⟨by omega,by omega⟩
  refine AB (v:=.ptr (n+1) 0) (AY ..) ?_
  refine Em g3 rfl rfl (by omega) (by show 0+1<=9;omega) λH8 g3 t8=>?_
  have x:=x.st (by omega) t8
  have g1:=(t8 n (by omega)).trans g1
  refine AB (v:=.ptr (n+1) 6) (by rw[AY,Nat.zero_add]) ?_
  refine Em g3 rfl rfl (by omega) (by show 6+1<=9;omega) λH9 g3 t9=>?_
  have x:=x.st (by omega) t9
  exact fin (c:=stC kd line col [] fK (.sl n6 0 1 1 11) .Af .Af) x (by omega) he ((t9 n (by omega)).trans g1) g3 (.of (hes.mono (λid h=>h) λid h=>(t9 id (by have:=h.1;omega)).trans (t8 id (by have:=h.1;omega))) .nil .nil)
 rw[show V.str 3 7628140=sB aH from rfl]
 refine OI x.p x.lt h1 λH5 n5 y=>?_
 have x:=x.tr y
 have hn5:=y.le
 have g1:=y.get g1 (by omega) hb
 have g3:=y.get g3 (by omega) (by omega)
 cases b with
 |true=>
  rw[cond_true]at hm
  obtain⟨⟨t,s2⟩,h2,hm⟩:=Option.bind_eq_some_iff.1 hm
  obtain⟨⟨nm,s3⟩,h3,hm⟩:=Option.bind_eq_some_iff.1 hm
  obtain⟨s4,h4,hm⟩:=Option.bind_eq_some_iff.1 hm
  obtain⟨⟨e1,s5⟩,h5,hm⟩:=Option.bind_eq_some_iff.1 hm
  rw[A8]
  refine AB (v:=.ptr (n+1) 0) (AY ..) ?_
  refine Em g3 rfl rfl (by omega) (by show 0+1<=9;omega) λH6 g3 t6=>?_
  have x:=x.st (by omega) t6
  have g1:=(t6 n (by omega)).trans g1
  refine AOM x.p x.lt h2 λH7 n7 y=>?_
  have x:=x.tr y
  have hn7:=y.le
  have g1:=y.get g1 (by omega) hb
  have g3:=y.get g3 (by omega) (by omega)
  refine AB (v:=.ptr (n+1) 4) (by rw[AY,Nat.zero_add]) ?_
  refine Em g3 rfl rfl (by omega) (by show 4+2<=9;omega) λH8 g3 t8=>?_
  have x:=x.st (by omega) t8
  have g1:=(t8 n (by omega)).trans g1
  refine dJ x.p x.lt h3 λH9 n9 y=>?_
  have x:=x.tr y
  have hn9:=y.le
  have g1:=y.get g1 (by omega) hb
  have g3:=y.get g3 (by omega) (by omega)
  refine AB (v:=.ptr (n+1) 3) (by rw[AY,Nat.zero_add]) ?_
  refine Em g3 rfl rfl (by omega) (by show 3+1<=9;omega) λH10 g3 t10=>?_
  have x:=x.st (by omega) t10
  have g1:=(t10 n (by omega)).trans g1
  have g3:T.get H10 (n+1)=some (one (stC 1 line col nm t .Af .Af .Af)):=g3
  refine LW (ws:=[PV]) x.p x.lt rfl (by show 1<=1000;omega) h4 λH11 n11 y=>?_
  have x:=x.tr y
  have hn11:=y.le
  have g1:=y.get g1 (by omega) hb
  have g3:=y.get g3 (by omega) (by omega)
  refine AAV f _ _ _ _ _ _ x.p x.lt h5 λH12 n12 c y hx=>?_
  have x:=x.tr y
  have hn12:=y.le
  have g1:=y.get g1 (by omega) hb
  have g3:=y.get g3 (by omega) (by omega)
  refine Ld (G:=G) (vs:=[.agg c]) rfl (by omega) (λv hv=>by simp at hv;subst hv;exact hx.ok) λH13 f13 _ hel=>?_
  have x:=x.al f13
  have g1:=f13.get g1 (by omega)
  have g3:=f13.get g3 (by omega)
  have hes:Ob G H13 (λid=>n+1<id/\id<n12+1) (.sl n12 0 1 1 11) [e1]:=AKB hel (hx.mono (λid h=>⟨by have:=h.1;omega,by have:=h.2;omega⟩) λid h=>f13.same id h.2) ⟨by omega,by omega⟩
  refine AB (v:=.ptr (n+1) 6) (by rw[AY,Nat.zero_add]) ?_
  refine Em g3 rfl rfl (by omega) (by show 6+1<=9;omega) λH14 g3 t14=>?_
  have x:=x.st (by omega) t14
  exact fin (c:=stC 1 line col nm t (.sl n12 0 1 1 11) .Af .Af) x (by omega) hm ((t14 n (by omega)).trans g1) g3 (.of (hes.mono (λid h=>h) λid h=>t14 id (by have:=h.1;omega)) .nil .nil)
 |false=>
  rw[cond_false]at hm
  rw[Ak]
  refine yO (ws:=[dX]) x.p x.lt rfl (by show 1<=1000;omega) λH6 n6 y=>?_
  have x:=x.tr y
  have hn6:=y.le
  have g1:=y.get g1 (by omega) hb
  have g3:=y.get g3 (by omega) (by omega)
  cases hi:WZ [dX] s1 with
  |true=>
   rw[hi,cond_true]at hm
   rw[A8]
   refine hch _ _ _ _ _ _ x.p x.lt hm λH7 n7 c y hx=>?_
   have hn7:=y.le
   refine Bf (y.get g1 (by omega) hb) rfl hx.len (by omega) λH12 g12 t12=>?_
   rw[BU (m:=9) g12 (by omega) hx.len]
   simp only[go_sem]
   exact hk _ _ _ ((x.tr y).st (Nat.le_refl _) t12) (hx.mono (λid h=>⟨by have:=h.1;omega,h.2⟩) λid h=>t12 id (by have:=h.1;omega))
  |false=>
   rw[hi,cond_false]at hm
   rw[Ak]
   obtain⟨⟨b,s2⟩,h2,hm⟩:=Option.bind_eq_some_iff.1 hm
   rw[show V.str 5 435610544247=sB ABd from rfl]
   refine OI x.p x.lt h2 λH7 n7 y=>?_
   have x:=x.tr y
   have hn7:=y.le
   have g1:=y.get g1 (by omega) hb
   have g3:=y.get g3 (by omega) (by omega)
   cases b with
   |true=>
    obtain⟨⟨e1,s3⟩,h3,hm⟩:=Option.bind_eq_some_iff.1 (show((expr f s2).bind λc=>(Zx st f c.2).bind λt=>some (.mk 5 [] fK [c.1] t.1 [],t.2))=some (e,s')from hm)
    obtain⟨⟨th,s4⟩,h4,hm⟩:=Option.bind_eq_some_iff.1 hm
    cases hm
    rw[A8]
    refine AB (v:=.ptr (n+1) 0) (AY ..) ?_
    refine Em g3 rfl rfl (by omega) (by show 0+1<=9;omega) λH8 g3 t8=>?_
    have x:=x.st (by omega) t8
    have g1:=(t8 n (by omega)).trans g1
    refine AAV f _ _ _ _ _ _ x.p x.lt h3 λH12 n12 c y hx=>?_
    have x:=x.tr y
    have hn12:=y.le
    have g1:=y.get g1 (by omega) hb
    have g3:=y.get g3 (by omega) (by omega)
    refine Ld (G:=G) (vs:=[.agg c]) rfl (by omega) (λv hv=>by simp at hv;subst hv;exact hx.ok) λH13 f13 _ hel=>?_
    have x:=x.al f13
    have g1:=f13.get g1 (by omega)
    have g3:=f13.get g3 (by omega)
    have hes:Ob G H13 (λid=>n+1<id/\id<n12+1) (.sl n12 0 1 1 11) [e1]:=AKB hel (hx.mono (λid h=>⟨by have:=h.1;omega,by have:=h.2;omega⟩) λid h=>f13.same id h.2) ⟨by omega,by omega⟩
    refine AB (v:=.ptr (n+1) 6) (by rw[AY,Nat.zero_add]) ?_
    refine Em g3 rfl rfl (by omega) (by show 6+1<=9;omega) λH14 g3 t14=>?_
    have x:=x.st (by omega) t14
    have g1:=(t14 n (by omega)).trans g1
    have hes:=hes.mono (B:=λid=>n+1<id/\id<n12+1) (λid h=>h) λid h=>t14 id (by have:=h.1;omega)
    refine AER hst x.p x.lt h4 λH15 n15 vt y hss=>?_
    have x:=x.tr y
    have hn15:=y.le
    have g1:=y.get g1 (by omega) hb
    have g3:=y.get g3 (by omega) (by omega)
    have hes:=hes.mono (B:=λid=>n+1<id/\id<n15) (λid h=>⟨h.1,by have:=h.2;omega⟩) λid h=>y.f.same id h.2 (by have:=h.1;omega)
    obtain⟨_,_,_,okt,vct,_,_⟩:=id hss
    refine AB (v:=.ptr (n+1) 7) (by rw[AY,Nat.zero_add]) ?_
    refine Em g3 okt (by rw[vct];rfl) (by omega) (by show 7+1<=9;omega) λH16 g3 t16=>?_
    rw[vct]at g3
    have x:=x.st (by omega) t16
    exact out (c:=stC 5 line col [] fK (.sl n12 0 1 1 11) vt .Af) x ((t16 n (by omega)).trans g1) g3 (.of (hes.mono (λid h=>h) λid h=>t16 id (by have:=h.1;omega)) (hss.mono (λid h=>⟨by have:=h.1;omega,h.2⟩) λid h=>t16 id (by have:=h.1;omega)) .nil)
   |false=>
    obtain⟨⟨b,s3⟩,h3,hm⟩:=Option.bind_eq_some_iff.1 (show((Dk Pg s2).bind λp=>bif p.1 then(expr f p.2).bind λx=>endP (.mk 6 [] fK [x.1] [] []) x.2 else
     (Dk jl p.2).bind λp=>bif p.1 then(expr f p.2).bind λx=>endP (.mk 7 [] fK [x.1] [] []) x.2 else(ACc f p.2).bind λx=>endP x.1 x.2)=some (e,s')from hm)
    rw[Ak,show V.str 6 121437875889522=sB Pg from rfl]
    refine OI x.p x.lt h3 λH8 n8 y=>?_
    have x:=x.tr y
    have hn8:=y.le
    have g1:=y.get g1 (by omega) hb
    have g3:=y.get g3 (by omega) (by omega)
    cases b with
    |true=>
     obtain⟨⟨e1,s4⟩,h4,hm⟩:=Option.bind_eq_some_iff.1 (show((expr f s3).bind λx=>endP (.mk 6 [] fK [x.1] [] []) x.2)=some (e,s')from hm)
     rw[A8]
     exact AZp (P:=.undef) x (by omega) g1 g3 h4 hm
    |false=>
     obtain⟨⟨b,s4⟩,h4,hm⟩:=Option.bind_eq_some_iff.1 (show((Dk jl s3).bind λp=>bif p.1 then(expr f p.2).bind λx=>endP (.mk 7 [] fK [x.1] [] []) x.2 else(ACc f p.2).bind λx=>endP x.1 x.2)=some (e,s')from hm)
     rw[Ak,show V.str 5 500068610672=sB jl from rfl]
     refine OI x.p x.lt h4 λH9 n9 y=>?_
     have x:=x.tr y
     have hn9:=y.le
     have g1:=y.get g1 (by omega) hb
     have g3:=y.get g3 (by omega) (by omega)
     cases b with
     |true=>
      obtain⟨⟨e1,s5⟩,h5,hm⟩:=Option.bind_eq_some_iff.1 (show((expr f s4).bind λx=>endP (.mk 7 [] fK [x.1] [] []) x.2)=some (e,s')from hm)
      rw[A8]
      exact AZp (P:=.undef) x (by omega) g1 g3 h5 hm
     |false=>
      obtain⟨⟨e1,s5⟩,h5,hm⟩:=Option.bind_eq_some_iff.1 (show((ACc f s4).bind λx=>endP x.1 x.2)=some (e,s')from hm)
      rw[Ak]
      refine AVq x.p (by omega) (by omega) g3 h5 λH10 n10 c y hle gb hx=>?_
      have x10:Fr G pb H n H10 n10 s5:=⟨⟨by omega,λid hid hp=>(y.f.same id (by omega) hp).trans (x.f.same id hid hp)⟩,y.p,hb⟩
      exact fin x10 (by omega) hm (y.get g1 (by omega) hb) gb hx
theorem AcL(f:Nat):StC G pb FW (sc f false)/\StC G pb Fb (sc f true):=by
 induction f with
 |zero=>exact⟨λs H n s' e k _ _ hm _=>(by cases hm),λs H n s' e k _ _ hm _=>(by cases hm)⟩
 |succ f ih=>exact⟨λs H n s' e k h hb hm hk=>AY5 (f:=f) ih.1 ih.2 s H n s' e k h hb hm hk,λs H n s' e k h hb hm hk=>ARS (f:=f) ih.1 ih.2 s H n s' e k h hb hm hk⟩
end
open Go.Bj
set_option maxRecDepth 100000
def Yy(x:Va):LV:=[sB x.nm,sB x.ty.nm,.bool x.ty.arr]
def lF(G:AV)(H:Heap)(A:Nat->Prop)(v:V)(xs:List Va):Prop:=El G H v 3 (xs.map Yy)/\KS v/\Wi v=true/\BA v=[v]/\(∀id,v.Dl=some id->A id)
theorem lF.mono{G:AV}{H H':Heap}{A B:Nat->Prop}{v:V}{xs:List Va}(h:lF G H A v xs)(hA:∀id,A id->B id)(hs:∀id,A id->T.get H' id=T.get H id):lF G H' B v xs:=
 ⟨h.1.same λid hid=>hs id (h.2.2.2.2 id hid),h.2.1,h.2.2.1,h.2.2.2.1,λid hid=>hA id (h.2.2.2.2 id hid)⟩
def meZ:LV:=[.int .i64 (.ofNat 0) 0,.int .i64 (.ofNat 0) 0,.str 0 0,.bool false,.Af,.str 0 0,.bool false,.Af]
def meC(line col:Nat)(nm:Bs)(st:Bool)(vp:V)(ty:Ty)(vb:V):LV:=[.int .i64 (.ofNat line) 0,.int .i64 (.ofNat col) 0,sB nm,.bool st,vp,sB ty.nm,.bool ty.arr,vb]
inductive AFq(G:AV)(H:Heap)(A:Nat->Prop):LV->Me->Prop where
 |mk (line col:Nat) {nm:Bs} {st:Bool} {ty:Ty} {ps:List Va} {bd:List St} {vp vb:V} (hp:lF G H A vp ps) (hb:Oc G H A vb bd):AFq G H A (meC line col nm st vp ty vb) ⟨nm,st,ps,ty,bd⟩
theorem AFq.mono{G:AV}{H H':Heap}{A B:Nat->Prop}{c:LV}{m:Me}(hA:∀id,A id->B id)(hs:∀id,A id->T.get H' id=T.get H id)(h:AFq G H A c m):AFq G H' B c m:=by
 cases h with
 |mk line col hp hb=>exact .mk line col (hp.mono hA hs) (hb.mono hA hs)
theorem AFq.len{G:AV}{H:Heap}{A:Nat->Prop}{c:LV}{m:Me}(h:AFq G H A c m):c.length=8:=by cases h;rfl
theorem AbS{x y:V}{b:Bool}:BN meZ [(0,2,.c (.agg [x,y])),(3,1,.c (.bool b))]=some (.agg [x,y,.str 0 0,.bool b,.Af,.str 0 0,.bool false,.Af]):=rfl
theorem AXB(l m:Bs)(b:Bool):BN [.str 0 0,.str 0 0,.bool false] [(0,1,.c (sB l)),(1,2,.c (.agg [sB m,.bool b]))]=some (.agg [sB l,sB m,.bool b]):=rfl
theorem AWJ(t:Ty):BH (.agg (tyC t)) (.agg (tyC t))=true:=dF λv hv=>by simp[tyC]at hv;rcases hv with rfl|rfl;exact jH ..;exact AIl ..
theorem ATm{G:AV}{H:Heap}{m z:Nat}{v:V}{LS:CJ}(h:Gr G H m z v LS):BH v v=true:=by
 cases h with
 |nil=>rfl
 |G6=>exact AFf ..
section
variable{G:AV}{pb:Nat}{H:Heap}{n:Nat}{s s':S}{k:KV}
theorem AEp{m:Nat}{t:S}(h:(Ls m t).ok=true):m<=200:=by
 unfold Ls at h
 cases hd:decide (200<m)with
 |false=>have:=of_decide_eq_false hd;omega
 |true=>
  rw[hd]at h
  exfalso
  unfold Jt at h
  cases ho:t.ok with
  |false=>rw[ho]at h;simp[ho]at h
  |true=>rw[ho]at h;cases h
theorem AIx{z bs m:Nat}{v:V}{c:LV}{LS:CJ}{P:KV}{Z:LV}(ho:Own G H m n z v LS)(hm:m<=n)(hz:0<z)(hc:c.length=z)(hok:Wi (.agg c)=true)(hb:(LS.length+1)*bs<=140737488355328)
 (hk:∀v' H',Own G H' m (n+2) z v' (LS++[c])->(∀id,id<n->v.Dl≠some id->T.get H' id=T.get H id)->(∀id,v'.Dl=some id->id=n+1)->P v' H' (n+2)):
 CB (Aj z 1 Z [(0,.c (.agg c))] E0) H n λw H n=>Oq z bs v w G H n P:=by
 refine Ld (G:=G) (vs:=[.agg c]) rfl hz (λv hv=>by simp at hv;subst hv;exact⟨hok,hc⟩) λH6 f6 _ hel=>?_
 have ho6:=ho.kp f6
 refine aP ho6.gr (by omega) ho6.lo hel.2 hb ?_ (λh=>by cases h)
 intro v' H7 hgr hsame hlo
 refine hk v' H7 ⟨hgr,λid hid=>by have:=hlo id hid;omega⟩ (λid h1 h2=>(hsame id (by omega) h2).trans (f6.same id h1)) hlo
theorem AEg{f:Nat}{m:Me}(h:ZR G H pb s)(hb:pb<n)(hm:Yn f s=some (m,s'))(hk:∀H' n' c,Fr G pb H n H' n' s'->AFq G H' (Rg n n') c m->k (.agg c) H' n'):Runs F G Vo [.ptr pb 0] H n k:=by
 refine go1 (kS Aq G) ?_
 delta V9
 obtain⟨⟨b,s1⟩,h1,hm⟩:=Option.bind_eq_some_iff.1 hm
 obtain⟨s2,h2,hm⟩:=Option.bind_eq_some_iff.1 hm
 obtain⟨⟨ty,s3⟩,h3,hm⟩:=Option.bind_eq_some_iff.1 hm
 obtain⟨⟨nm,s4⟩,h4,hm⟩:=Option.bind_eq_some_iff.1 hm
 obtain⟨s5,h5,hm⟩:=Option.bind_eq_some_iff.1 hm
 obtain⟨⟨ps,s6⟩,h6,hm⟩:=Option.bind_eq_some_iff.1 hm
 obtain⟨⟨bd,s7⟩,h7,hm⟩:=Option.bind_eq_some_iff.1 hm
 cases hm
 have x:=Fr.refl h hb
 refine Ar rfl λH1 f1 g1=>?_
 have x:=x.al f1
 obtain⟨v,tid,o,line,col,e0,ea,_,_,_,_,_,e5⟩:=x.p.tok
 refine AB (v:=.ptr pb 0) rfl (AB (v:=.ptr pb 0) rfl (AB e0 (AB ea (AB (v:=.ptr tid (o+3)) (AY ..) (AB e5 ?_)))))
 refine Ar rfl λH2 f2 g2=>?_
 have x:=x.al f2
 have g1:=f2.get g1 (by omega)
 refine Bf (L:=[.int .i64 (.ofNat line) 0,.int .i64 (.ofNat col) 0]) g2 rfl rfl (by omega) λH3 g2 t3=>?_
 have x:=x.st (by omega) t3
 have g1:=(t3 n (by omega)).trans g1
 refine AB (Aw (m:=2) g2 (by omega) rfl) ?_
 refine Ar rfl λH4 f4 g3=>?_
 have x:=x.al f4
 have g1:=f4.get g1 (by omega)
 have g2:=f4.get g2 (by omega)
 clear f4 t3 f2 f1 e0 ea e5
 rw[show V.str 6 109304575259763=sB S9 from rfl]
 refine OI x.p x.lt h1 λH5 n5 y=>?_
 have x:=x.tr y
 have hn5:=y.le
 have g1:=y.get g1 (by omega) hb
 have g2:=y.get g2 (by omega) (by omega)
 have g3:=y.get g3 (by omega) (by omega)
 refine AB (Aw (m:=2) g2 (by omega) rfl) (CX (Jf ..) (AB AbS ?_))
 refine Bf g3 rfl rfl (by omega) λH6 g3 t6=>?_
 have x:=x.st (by omega) t6
 have g1:=(t6 n (by omega)).trans g1
 refine LW (ws:=[Il]) x.p x.lt rfl (by show 1<=1000;omega) h2 λH7 n7 y=>?_
 have x:=x.tr y
 have hn7:=y.le
 have g1:=y.get g1 (by omega) hb
 have g3:=y.get g3 (by omega) (by omega)
 refine AOM x.p x.lt h3 λH8 n8 y=>?_
 have x:=x.tr y
 have hn8:=y.le
 have g1:=y.get g1 (by omega) hb
 have g3:=y.get g3 (by omega) (by omega)
 refine AB (v:=.ptr (n+1+1) 5) (by rw[AY,Nat.zero_add]) ?_
 refine Em g3 rfl rfl (by omega) (by show 5+2<=8;omega) λH9 g3 t9=>?_
 have x:=x.st (by omega) t9
 have g1:=(t9 n (by omega)).trans g1
 refine dJ x.p x.lt h4 λH10 n10 y=>?_
 have x:=x.tr y
 have hn10:=y.le
 have g1:=y.get g1 (by omega) hb
 have g3:=y.get g3 (by omega) (by omega)
 refine AB (v:=.ptr (n+1+1) 2) (by rw[AY,Nat.zero_add]) ?_
 refine Em g3 rfl rfl (by omega) (by show 2+1<=8;omega) λH11 g3 t11=>?_
 have x:=x.st (by omega) t11
 have g1:=(t11 n (by omega)).trans g1
 have g3:T.get H11 (n+1+1)=some (one (meC line col nm b .Af ty .Af)):=g3
 refine LW (ws:=[VZ]) x.p x.lt rfl (by show 1<=1000;omega) h5 λH12 n12 y=>?_
 have x:=x.tr y
 have hn12:=y.le
 have g1:=y.get g1 (by omega) hb
 have g3:=y.get g3 (by omega) (by omega)
 clear t6 t9 t11
 refine FB (J:=λg r=>∃H' n' t v out,r=(.ptr pb 0,.ptr n 0,.ptr (n+1+1) 0,H',n')/\Fr G pb H n H' n' t/\n12<=n'/\T.get H' n=some (one meZ)/\T.get H' (n+1+1)=some (one (meC line col nm b v ty .Af))/\Own G H' n12 n' 3 v (out.map Yy)/\
  (t.ok=true->out.length<=200)/\out.length<=201/\N8 g out t=some (ps,s6)) ?_ (m:=f)
  ⟨H12,n12,s5,.Af,[],rfl,x,Nat.le_refl _,g1,g3,vN,λ_=>Nat.zero_le _,Nat.zero_le _,h6⟩
 clear g1 g3 x
 rintro I g r ⟨H13,n13,t,v,out,rfl,x,hn13,g1,g3,ho,hle,hle2,hm⟩ ih
 show Ll lfp G (Runs F G) k I (.ptr pb 0) (.ptr n 0) (.ptr (n+1+1) 0) H13 n13
 delta Ll
 cases g with
 |zero=>cases hm
 |succ g=>
  have hm:(bif t.ok then(Dk Ov t).bind λp=>bif p.1 then some (out,p.2)else
   (bif decide (0<out.length)then D7 [LX] p.2 else some p.2).bind λs1=>(wV s1).bind λt=>(Jh 3 t.2).bind λn=>N8 g (out++[⟨n.1,t.1⟩]) (Ls (out.length+1) n.2)
   else some (out,t))=some (ps,s6):=hm
  have fin:∀{H3:Heap} {n3:Nat} {t3:S},Fr G pb H13 n13 H3 n3 t3->some (out,t3)=some (ps,s6)->IX lfp G (Runs F G) k (.ptr pb 0) (.ptr n 0) (.ptr (n+1+1) 0) H3 n3:=by
   intro H14 n14 t3 y he
   cases he
   delta IX
   have hn14:=y.le
   have ho:=ho.kx y.f (by omega)
   have x:=x.tr y
   have g1:=y.get g1 (by omega) hb
   have g3:=y.get g3 (by omega) (by omega)
   refine AER (AcL f).1 x.p x.lt h7 λH15 n15 vb y hss=>?_
   have hn15:=y.le
   have ho:=ho.kx y.f (by omega)
   have x:=x.tr y
   have g1:=y.get g1 (by omega) hb
   have g3:=y.get g3 (by omega) (by omega)
   obtain⟨_,_,_,okb,vcb,_,_⟩:=id hss
   refine AB (v:=.ptr (n+1+1) 7) (by rw[AY,Nat.zero_add]) ?_
   refine Em g3 okb (by rw[vcb];rfl) (by omega) (by show 7+1<=8;omega) λH16 g3 t16=>?_
   rw[vcb]at g3
   have x:=x.st (by omega) t16
   have g1:=(t16 n (by omega)).trans g1
   have g3:T.get H16 (n+1+1)=some (one (meC line col nm b v ty vb)):=g3
   refine AB (Aw (m:=8) g3 (by omega) rfl) ?_
   refine Bf g1 rfl rfl (by omega) λH17 g1 t17=>?_
   rw[BU (m:=8) g1 (by omega) rfl]
   simp only[go_sem]
   refine hk _ _ _ (x.st (Nat.le_refl _) t17) (.mk line col ⟨(ho.el (by omega)).same λid hid=>?_,(Ph ho.gr).1,(Ph ho.gr).2.1,(Ph ho.gr).2.2,λid hid=>⟨by have:=ho.ge hid;omega,ho.lo id hid⟩⟩ (hss.mono (λid h=>⟨by have:=h.1;omega,h.2⟩) λid h=>?_))
   ·have:=ho.ge hid;exact(t17 id (by omega)).trans (t16 id (by omega))
   ·have:=h.1;exact(t17 id (by omega)).trans (t16 id (by omega))
  rw[Aa9]
  refine ABt x.p x.lt (λhf=>fin (Fr.refl x.p x.lt) (by rw[hf]at hm;exact hm)) λht=>?_
  rw[ht,cond_true]at hm
  obtain⟨⟨b2,t2⟩,h2,hm⟩:=Option.bind_eq_some_iff.1 hm
  refine⟨b2,t2,h2,λH14 n14 y=>?_⟩
  cases b2 with
  |true=>exact fin y hm
  |false=>
   have hlen:=hle ht
   have hm:((bif decide (0<out.length)then D7 [LX] t2 else some t2).bind λs1=>(wV s1).bind λt=>(Jh 3 t.2).bind λn=>N8 g (out++[⟨n.1,t.1⟩]) (Ls (out.length+1) n.2))=some (ps,s6):=hm
   obtain⟨t3,h3,hm⟩:=Option.bind_eq_some_iff.1 hm
   obtain⟨⟨pt,t4⟩,h4,hm⟩:=Option.bind_eq_some_iff.1 hm
   obtain⟨⟨pn,t5⟩,h5,hm⟩:=Option.bind_eq_some_iff.1 hm
   have hm:N8 g (out++[⟨pn,pt⟩]) (Ls (out.length+1) t5)=some (ps,s6):=hm
   have hn14:=y.le
   have ho:=ho.kx y.f (by omega)
   have x:=x.tr y
   have g1:=y.get g1 (by omega) hb
   have g3:=y.get g3 (by omega) (by omega)
   have body:∀{H4:Heap} {n4:Nat},Fr G pb H14 n14 H4 n4 t3->FT lfp G (Runs F G) k I (.ptr pb 0) (.ptr n 0) (.ptr (n+1+1) 0) H4 n4:=by
    intro H15 n15 y
    delta FT
    have hn15:=y.le
    have ho:=ho.kx y.f (by omega)
    have x:=x.tr y
    have g1:=y.get g1 (by omega) hb
    have g3:=y.get g3 (by omega) (by omega)
    refine AOM x.p x.lt h4 λH16 n16 y=>?_
    have hn16:=y.le
    have ho:=ho.kx y.f (by omega)
    have x:=x.tr y
    have g1:=y.get g1 (by omega) hb
    have g3:=y.get g3 (by omega) (by omega)
    refine Ar rfl λH17 f17 g17=>?_
    have hlo:=ho.lo
    have ho:=ho.kp f17
    have x:=x.al f17
    have g1:=f17.get g1 (by omega)
    have g3:=f17.get g3 (by omega)
    refine Bf (L:=tyC pt) g17 rfl rfl (by omega) λH18 g17 t18=>?_
    have ho:Own G H18 n12 (n16+1) 3 v (out.map Yy):=⟨ho.gr.mono λid hid=>t18 id (by have:=hlo id hid;omega),ho.lo⟩
    have x:=x.st (by omega) t18
    have g1:=(t18 n (by omega)).trans g1
    have g3:=(t18 (n+1+1) (by omega)).trans g3
    refine AB (v:=.ptr (n+1+1) 4) (by rw[AY,Nat.zero_add]) (AB (AX (off:=4) g3 (v:=v) rfl) (AB (Aw (m:=2) g17 (by omega) rfl) ?_))
    refine dJ x.p x.lt h5 λH19 n19 y=>?_
    have hn19:=y.le
    have ho:=ho.kx y.f (by omega)
    have x:=x.tr y
    have g1:=y.get g1 (by omega) hb
    have g3:=y.get g3 (by omega) (by omega)
    have g17:=y.get g17 (by omega) (by omega)
    refine AB (AX (off:=4) g3 (v:=v) rfl) (CX (ATm ho.gr) (AB (Aw (m:=2) g17 (by omega) rfl) (CX (AWJ pt) (AB (AXB ..) ?_))))
    have hlo:=ho.lo
    refine AIx (bs:=40) ho (by omega) (by omega) rfl rfl (by rw[List.length_map];omega) λv' H20 ho' hsame hnew=>?_
    have hlow:∀id,id<n12->T.get H20 id=T.get H19 id:=λid hid=>hsame id (by omega) λh=>by have:=ho.ge h;omega
    have x:Fr G pb H n H20 (n19+2) t5:=⟨⟨by omega,λid hid hp=>(hlow id (by omega)).trans (x.f.same id hid hp)⟩,x.p.same λid hid=>hlow id (by omega),hb⟩
    have g1:=(hlow n (by omega)).trans g1
    have g3:=(hlow (n+1+1) (by omega)).trans g3
    refine AB (v:=.ptr (n+1+1) 4) (by rw[AY,Nat.zero_add]) ?_
    refine Em g3 (Ph ho'.gr).2.1 (by rw[(Ph ho'.gr).2.2];rfl) (by omega) (by show 4+1<=8;omega) λH21 g3 t21=>?_
    rw[(Ph ho'.gr).2.2]at g3
    have ho:Own G H21 n12 (n19+2) 3 v' (out.map Yy++[Yy ⟨pn,pt⟩]):=⟨ho'.gr.mono λid hid=>t21 id (by have:=ho'.ge hid;omega),ho'.lo⟩
    have x:=x.st (by omega) t21
    have g1:=(t21 n (by omega)).trans g1
    have g3:T.get H21 (n+1+1)=some (one (meC line col nm b v' ty .Af)):=g3
    refine AB (v:=.ptr (n+1+1) 4) (by rw[AY,Nat.zero_add]) (AB (AX (off:=4) g3 (v:=v') rfl) ?_)
    rw[(ho.el (by omega)).len,AU,List.length_append,List.length_map]
    refine AIk x.p x.lt λH22 n22 y=>?_
    have hn22:=y.le
    refine ih g _ (by omega) ⟨H22,n22,_,v',out++[⟨pn,pt⟩],rfl,x.tr y,by omega,y.get g1 (by omega) hb,y.get g3 (by omega) (by omega),?_,λh=>by rw[List.length_append];exact AEp h,by rw[List.length_append];show out.length+1<=201;omega,hm⟩
    rw[List.map_append]
    exact ho.kx y.f (by omega)
   rw[cond_false]
   refine AB (v:=.ptr (n+1+1) 4) (by rw[AY,Nat.zero_add]) (AB (AX (off:=4) g3 (v:=v) rfl) ?_)
   rw[(ho.el (by omega)).len,AU,List.length_map,AAs,AU]
   cases hd:decide (0<out.length)with
   |false=>
    rw[hd]at h3
    cases h3
    rw[Ak]
    exact body (Fr.refl x.p x.lt)
   |true=>
    rw[hd]at h3
    have h3:D7 [LX] t2=some t3:=h3
    rw[A8]
    exact LW (ws:=[LX]) x.p x.lt rfl (by show 1<=1000;omega) h3 λH15 n15 y=>body y
end
open Go.Bj
set_option maxRecDepth 100000
inductive zV(G:AV)(H:Heap)(A:Nat->Prop):CJ->List Me->Prop where
 |nil:zV G H A [] []
 |cons {c:LV} {e:Me} {cs:CJ} {es:List Me} (h:AFq G H A c e) (t:zV G H A cs es):zV G H A (c::cs) (e::es)
theorem zV.mono{G:AV}{H H':Heap}{A B:Nat->Prop}(hA:∀id,A id->B id)(hs:∀id,A id->T.get H' id=T.get H id):∀{cs:CJ} {es:List Me},zV G H A cs es->zV G H' B cs es
 |_,_,.nil=>.nil
 |_,_,.cons h t=>.cons (h.mono hA hs) (t.mono hA hs)
theorem zV.app{G:AV}{H:Heap}{A:Nat->Prop}:∀{cs:CJ} {es:List Me} {cs':CJ} {es':List Me},zV G H A cs es->zV G H A cs' es'->zV G H A (cs++cs') (es++es')
 |_,_,_,_,.nil,h=>h
 |_,_,_,_,.cons h t,h'=>.cons h (t.app h')
theorem zV.len{G:AV}{H:Heap}{A:Nat->Prop}:∀{cs:CJ} {es:List Me},zV G H A cs es->cs.length=es.length
 |_,_,.nil=>rfl
 |_,_,.cons h t=>by simp[t.len]
def AG4(G:AV)(H:Heap)(A:Nat->Prop)(v:V)(ms:List Me):Prop:=∃cs,El G H v 8 cs/\KS v/\Wi v=true/\BA v=[v]/\(∀id,v.Dl=some id->A id)/\zV G H A cs ms
theorem AG4.mono{G:AV}{H H':Heap}{A B:Nat->Prop}{v:V}{es:List Me}(h:AG4 G H A v es)(hA:∀id,A id->B id)(hs:∀id,A id->T.get H' id=T.get H id):AG4 G H' B v es:=by
 obtain⟨cs,h1,h2,h3,h4,h5,h6⟩:=h
 exact⟨cs,h1.same λid hid=>hs id (h5 id hid),h2,h3,h4,λid hid=>hA id (h5 id hid),h6.mono hA hs⟩
def clC(line col:Nat)(nm sup:Bs)(vf vm:V):LV:=[.int .i64 (.ofNat line) 0,.int .i64 (.ofNat col) 0,sB nm,sB sup,vf,vm]
def clZ:LV:=[.int .i64 (.ofNat 0) 0,.int .i64 (.ofNat 0) 0,.str 0 0,.str 0 0,.Af,.Af]
inductive AD9(G:AV)(H:Heap)(A:Nat->Prop):LV->Cl->Prop where
 |mk (line col:Nat) {nm sup:Bs} {fs:List Va} {ms:List Me} {vf vm:V} (hf:lF G H A vf fs) (hm:AG4 G H A vm ms):AD9 G H A (clC line col nm sup vf vm) ⟨nm,sup,fs,ms⟩
theorem AD9.mono{G:AV}{H H':Heap}{A B:Nat->Prop}{c:LV}{m:Cl}(hA:∀id,A id->B id)(hs:∀id,A id->T.get H' id=T.get H id)(h:AD9 G H A c m):AD9 G H' B c m:=by
 cases h with
 |mk line col hf hm=>exact .mk line col (hf.mono hA hs) (hm.mono hA hs)
def ASF(c:LV):Prop:=∃line,1<=line/\c[0]? =some (.int .i64 (.ofNat line) 0)
theorem AD9.len{G:AV}{H:Heap}{A:Nat->Prop}{c:LV}{m:Cl}(h:AD9 G H A c m):c.length=6:=by cases h;rfl
theorem Aan{x y:V}:BN clZ [(0,2,.c (.agg [x,y]))]=some (.agg [x,y,.str 0 0,.str 0 0,.Af,.Af]):=rfl
theorem ATb:BN clZ []=some (.agg clZ):=rfl
theorem Abr{id o l:Nat}:BN [.Af,.int .i64 (.ofNat 0) 0,.int .i64 (.ofNat 0) 0,.int .i64 (.ofNat 0) 0,.int .i64 (.ofNat 0) 0] [(0,1,.c (.G6 id o l 5))]=some (.agg [.G6 id o l 5,.int .i64 (.ofNat 0) 0,.int .i64 (.ofNat 0) 0,.int .i64 (.ofNat 0) 0,.int .i64 (.ofNat 0) 0]):=rfl
section
variable{G:AV}{pb:Nat}{H:Heap}{n:Nat}{s s':S}{k:KV}
theorem ATx{e:Nat}{t:S}(he:e≠0):(Jt e t).ok=false:=by
 unfold Jt
 cases ho:t.ok with
 |false=>exact ho
 |true=>simp[S.ok,he]
theorem AVc{w:Bs}{t t':S}(h:D7 [w] t=some t')(h':t'.ok=true):t.ok=true:=by
 obtain⟨⟨b,t1⟩,h1,h⟩:=Option.bind_eq_some_iff.1 (show((Dk w t).bind λp=>some (bif p.1 then p.2 else Jt 21 p.2))=some t' from h)
 unfold Dk at h1
 cases ho:QX w t with
 |false=>
  rw[ho]at h1
  cases h1
  have h:Jt 21 t=t':=by simpa using h
  rw[<-h,ATx (by decide)]at h'
  cases h'
 |true=>
  unfold QX at ho
  simp only[Bool.and_eq_true]at ho
  exact ho.1
def ClK(G:AV)(pb:Nat)(H:Heap)(n:Nat)(s':S)(c:Cl)(k:KV):Prop:=∀H' n' l,Fr G pb H n H' n' s'->AD9 G H' (Rg n n') l c->ASF l->k (.agg l) H' n'
structure ClJ(G:AV)(pb:Nat)(H0:Heap)(n0 m0 line col:Nat)(nm sup:Bs)(H:Heap)(n:Nat)(t:S)(fs:List Va)(ms:List Me)(vf vm:V)(cs:CJ):Prop where
 x:Fr G pb H0 n0 H n t
 hn:m0<=n
 g1:T.get H n0=some (one clZ)
 g2:T.get H (n0+1)=some (one (clC line col nm sup vf vm))
 hf:Own G H m0 n 3 vf (fs.map Yy)
 hm:Own G H m0 n 8 vm cs
 ne:∀id,vf.Dl=some id->vm.Dl≠some id
 hc:zV G H (λid=>m0<=id/\id<n/\vf.Dl≠some id/\vm.Dl≠some id) cs ms
theorem ClJ.fr{H0 H:Heap}{n0 m0 line col n n':Nat}{nm sup:Bs}{H':Heap}{t t':S}{fs:List Va}{ms:List Me}{vf vm:V}{cs:CJ}(j:ClJ G pb H0 n0 m0 line col nm sup H n t fs ms vf vm cs)(y:Fr G pb H n H' n' t')(hm0:n0+2<=m0):
 ClJ G pb H0 n0 m0 line col nm sup H' n' t' fs ms vf vm cs:=by
 have hb:=j.x.b
 have hn:=j.hn
 have hn':=y.le
 exact⟨j.x.tr y,by omega,y.get j.g1 (by omega) hb,y.get j.g2 (by omega) (by omega),j.hf.kx y.f (by omega),j.hm.kx y.f (by omega),j.ne,
  j.hc.mono (λid h=>⟨h.1,by have:=h.2.1;omega,h.2.2⟩) λid h=>y.f.same id h.2.1 (by have:=h.1;omega)⟩
theorem ClJ.al{H0 H:Heap}{n0 m0 line col n n':Nat}{nm sup:Bs}{H':Heap}{t:S}{fs:List Va}{ms:List Me}{vf vm:V}{cs:CJ}(j:ClJ G pb H0 n0 m0 line col nm sup H n t fs ms vf vm cs)(f:Kp H n H' n')(hm0:n0+2<=m0):
 ClJ G pb H0 n0 m0 line col nm sup H' n' t fs ms vf vm cs:=j.fr ((Fr.refl j.x.p j.x.lt).al f) hm0
theorem ClJ.Acr{H0 H H1 H2:Heap}{n0 m0 line col n:Nat}{nm sup:Bs}{t:S}{fs:List Va}{ms:List Me}{vf vm v':V}{cs:CJ}{a:Va}(j:ClJ G pb H0 n0 m0 line col nm sup H n t fs ms vf vm cs)(hm0:n0+2<=m0)
 (ho:Own G H1 m0 (n+2) 3 v' (fs.map Yy++[Yy a])) (hs:∀id,id<n->vf.Dl≠some id->T.get H1 id=T.get H id) (hw:∀id,v'.Dl=some id->id=n+1)
 (g2:T.get H2 (n0+1)=some (one (clC line col nm sup v' vm))) (ht:∀i,i≠n0+1->T.get H2 i=T.get H1 i):ClJ G pb H0 n0 m0 line col nm sup H2 (n+2) t (fs++[a]) ms v' vm cs:=by
 have hb:=j.x.b
 have hn:=j.hn
 have low:∀id,id<m0->id≠n0+1->T.get H2 id=T.get H id:=λid h1 h2=>(ht id h2).trans (hs id (by omega) λh=>by have:=j.hf.ge h;omega)
 have hvm:∀id,vm.Dl=some id->id<n:=j.hm.lo
 refine⟨⟨⟨by have:=j.x.f.le;omega,λid hid hp=>(low id (by omega) (by omega)).trans (j.x.f.same id hid hp)⟩,j.x.p.same λid hid=>low id (by omega) (by omega),hb⟩,by omega,(low n0 (by omega) (by omega)).trans j.g1,g2,?_,
  ⟨j.hm.gr.mono λid hid=>(ht id (by have:=j.hm.ge hid;omega)).trans (hs id (hvm id hid) λh=>j.ne id h hid),j.hm.lo.mono (by omega)⟩,λid h1 h2=>by have:=hw id h1;have:=hvm id h2;omega,?_⟩
 ·rw[List.map_append]
  exact⟨ho.gr.mono λid hid=>ht id (by have:=ho.ge hid;omega),ho.lo⟩
 ·exact j.hc.mono (λid h=>⟨h.1,by have:=h.2.1;omega,λh2=>by have:=hw id h2;have:=h.2.1;omega,h.2.2.2⟩) λid h=>(ht id (by have:=h.1;omega)).trans (hs id h.2.1 h.2.2.1)
theorem ClJ.AcX{H0 H H1 H2:Heap}{n0 m0 line col n:Nat}{nm sup:Bs}{t:S}{fs:List Va}{ms:List Me}{vf vm v':V}{cs:CJ}{c:LV}{e:Me}{A:Nat->Prop}(j:ClJ G pb H0 n0 m0 line col nm sup H n t fs ms vf vm cs)(hm0:n0+2<=m0)
 (hx:AFq G H A c e) (hA:∀id,A id->m0<=id/\id<n/\vf.Dl≠some id/\vm.Dl≠some id)
 (ho:Own G H1 m0 (n+2) 8 v' (cs++[c])) (hs:∀id,id<n->vm.Dl≠some id->T.get H1 id=T.get H id) (hw:∀id,v'.Dl=some id->id=n+1)
 (g2:T.get H2 (n0+1)=some (one (clC line col nm sup vf v'))) (ht:∀i,i≠n0+1->T.get H2 i=T.get H1 i):ClJ G pb H0 n0 m0 line col nm sup H2 (n+2) t fs (ms++[e]) vf v' (cs++[c]):=by
 have hb:=j.x.b
 have hn:=j.hn
 have low:∀id,id<m0->id≠n0+1->T.get H2 id=T.get H id:=λid h1 h2=>(ht id h2).trans (hs id (by omega) λh=>by have:=j.hm.ge h;omega)
 have hvf:∀id,vf.Dl=some id->id<n:=j.hf.lo
 have hx:AFq G H (λid=>m0<=id/\id<n/\vf.Dl≠some id/\vm.Dl≠some id) c e:=hx.mono hA λ_ _=>rfl
 refine⟨⟨⟨by have:=j.x.f.le;omega,λid hid hp=>(low id (by omega) (by omega)).trans (j.x.f.same id hid hp)⟩,j.x.p.same λid hid=>low id (by omega) (by omega),hb⟩,by omega,(low n0 (by omega) (by omega)).trans j.g1,g2,
  ⟨j.hf.gr.mono λid hid=>(ht id (by have:=j.hf.ge hid;omega)).trans (hs id (hvf id hid) λh=>j.ne id hid h),j.hf.lo.mono (by omega)⟩,⟨ho.gr.mono λid hid=>ht id (by have:=ho.ge hid;omega),ho.lo⟩,λid h1 h2=>by have:=hw id h2;have:=hvf id h1;omega,?_⟩
 exact(j.hc.app (.cons hx .nil)).mono (λid h=>⟨h.1,by have:=h.2.1;omega,h.2.2.1,λh2=>by have:=hw id h2;have:=h.2.1;omega⟩) λid h=>(ht id (by have:=h.1;omega)).trans (hs id h.2.1 h.2.2.2)
theorem AT0{f:Nat}{c:Cl}(h:ZR G H pb s)(hb:pb<n)(hm:ANq f s=some (c,s'))(hk:ClK G pb H n s' c k):Runs F G Xi [.ptr pb 0] H n k:=by
 refine go1 (l7 Aq G) ?_
 delta W9
 obtain⟨s1,h1,hm⟩:=Option.bind_eq_some_iff.1 hm
 obtain⟨⟨nm,s2⟩,h2,hm⟩:=Option.bind_eq_some_iff.1 hm
 obtain⟨⟨b,s3⟩,h3,hm⟩:=Option.bind_eq_some_iff.1 hm
 obtain⟨⟨sup,s4⟩,h4,hm⟩:=Option.bind_eq_some_iff.1 hm
 obtain⟨s5,h5,hm⟩:=Option.bind_eq_some_iff.1 hm
 obtain⟨⟨⟨fs1,ms1⟩,s6⟩,h6,hm⟩:=Option.bind_eq_some_iff.1 hm
 have hm:some (Cl.mk nm sup fs1 ms1,bif s6.ok&& !decide (s6.t.kind=0)then Jt 21 s6 else s6)=some (c,s'):=hm
 have x:=Fr.refl h hb
 refine Ar rfl λH1 f1 g1=>?_
 have x:=x.al f1
 obtain⟨v,tid,o,line,col,e0,ea,hline,_,_,_,_,e5⟩:=x.p.tok
 refine AB (v:=.ptr pb 0) rfl (AB (v:=.ptr pb 0) rfl (AB e0 (AB ea (AB (v:=.ptr tid (o+3)) (AY ..) (AB e5 (AB Aan ?_))))))
 refine Ar rfl λH2 f2 g2=>?_
 have x:=x.al f2
 have g1:=f2.get g1 (by omega)
 refine Bf g2 rfl rfl (by omega) λH3 g2 t3=>?_
 have x:=x.st (by omega) t3
 have g1:=(t3 n (by omega)).trans g1
 clear t3 f2 f1 e0 ea e5
 refine LW (ws:=[kV]) x.p x.lt rfl (by show 1<=1000;omega) h1 λH4 n4 y=>?_
 have x:=x.tr y
 have hn4:=y.le
 have g1:=y.get g1 (by omega) hb
 have g2:=y.get g2 (by omega) (by omega)
 refine dJ x.p x.lt h2 λH5 n5 y=>?_
 have x:=x.tr y
 have hn5:=y.le
 have g1:=y.get g1 (by omega) hb
 have g2:=y.get g2 (by omega) (by omega)
 refine AB (v:=.ptr (n+1) 2) (by rw[AY,Nat.zero_add]) ?_
 refine Em g2 rfl rfl (by omega) (by show 2+1<=6;omega) λH6 g2 t6=>?_
 have x:=x.st (by omega) t6
 have g1:=(t6 n (by omega)).trans g1
 rw[show V.str 7 32480047633037413=sB vk from rfl]
 refine OI x.p x.lt h3 λH7 n7 y=>?_
 have x:=x.tr y
 have hn7:=y.le
 have g1:=y.get g1 (by omega) hb
 have g2:=y.get g2 (by omega) (by omega)
 have members:∀{H8:Heap} {n8:Nat},Fr G pb H n H8 n8 s4->n+2<=n8->T.get H8 n=some (one clZ)->T.get H8 (n+1)=some (one (clC line col nm sup .Af .Af))->F5 lfp G (Runs F G) k (.ptr pb 0) (.ptr n 0) (.ptr (n+1) 0) H8 n8:=by
  intro H8 n8 x hn8 g1 g2
  delta F5
  refine LW (ws:=[Rz]) x.p x.lt rfl (by show 1<=1000;omega) h5 λH9 n9 y=>?_
  have x:=x.tr y
  have hn9:=y.le
  have g1:=y.get g1 (by omega) hb
  have g2:=y.get g2 (by omega) (by omega)
  refine FB (J:=λg r=>∃H' n' t fs ms vf vm cs,r=(.ptr pb 0,.ptr n 0,.ptr (n+1) 0,H',n')/\ClJ G pb H n n9 line col nm sup H' n' t fs ms vf vm cs/\(t.ok=true->fs.length<=200/\ms.length<=200)/\fs.length<=201/\ms.length<=201/\NU f g fs ms t=some ((fs1,ms1),s6)) ?_ (m:=f)
   ⟨H9,n9,s5,[],[],.Af,.Af,[],rfl,⟨x,Nat.le_refl _,g1,g2,vN,vN,λ_ h=>(by cases h),.nil⟩,λ_=>⟨Nat.zero_le _,Nat.zero_le _⟩,Nat.zero_le _,Nat.zero_le _,h6⟩
  have hm9:n+2<=n9:=by omega
  clear g1 g2 x y hn9 hn8
  rintro I g r ⟨H10,n10,t,fs,ms,vf,vm,cs,rfl,j,hle,hf1,hm1,hm6⟩ ih
  show NT lfp G (Runs F G) k I (.ptr pb 0) (.ptr n 0) (.ptr (n+1) 0) H10 n10
  delta NT
  cases g with
  |zero=>cases hm6
  |succ g=>
   have hm6:(bif t.ok then(Dk m_rc t).bind λp=>bif p.1 then some ((fs,ms),p.2)else
    (Dk vg p.2).bind λp=>bif p.1 then(wV p.2).bind λt=>(Jh 3 t.2).bind λn=>(D7 [Gz] (Ls (fs.length+1) n.2)).bind λs1=>NU f g (fs++[⟨n.1,t.1⟩]) ms s1 else
    bif WZ [S9,Il] p.2 then(Yn f p.2).bind λm=>NU f g fs (ms++[m.1]) (Ls (ms.length+1) m.2)else
    NU f g fs ms (Jt 21 p.2)
    else some ((fs,ms),t))=some ((fs1,ms1),s6):=hm6
   have fin:∀{H3:Heap} {n3:Nat} {t3:S},Fr G pb H10 n10 H3 n3 t3->some ((fs,ms),t3)=some ((fs1,ms1),s6)->I4 lfp G (Runs F G) k (.ptr pb 0) (.ptr n 0) (.ptr (n+1) 0) H3 n3:=by
    intro H14 n14 t3 y he
    cases he
    have j:=j.fr y hm9
    delta I4
    have out:∀{H':Heap} {n':Nat},Fr G pb H14 n14 H' n' s'->F8 lfp G (Runs F G) k (.ptr n 0) (.ptr (n+1) 0) H' n':=by
     intro H15 n15 y
     have j:=j.fr y hm9
     have hn:=j.hn
     delta F8
     refine AB (Aw (m:=6) j.g2 (by omega) rfl) ?_
     refine Bf j.g1 rfl rfl (by omega) λH17 g1 t17=>?_
     rw[BU (m:=6) g1 (by omega) rfl]
     simp only[go_sem]
     have ec:c=Cl.mk nm sup fs1 ms1:=by cases hm;rfl
     subst ec
     refine hk _ _ _ (j.x.st (Nat.le_refl _) t17) (.mk line col ⟨(j.hf.el (by omega)).same λid hid=>t17 id ?_,(Ph j.hf.gr).1,(Ph j.hf.gr).2.1,(Ph j.hf.gr).2.2,λid hid=>⟨by have:=j.hf.ge hid;omega,j.hf.lo id hid⟩⟩
      ⟨cs,(j.hm.el (by omega)).same λid hid=>t17 id ?_,(Ph j.hm.gr).1,(Ph j.hm.gr).2.1,(Ph j.hm.gr).2.2,λid hid=>⟨by have:=j.hm.ge hid;omega,j.hm.lo id hid⟩,j.hc.mono (λid h=>⟨by have:=h.1;omega,h.2.1⟩) λid h=>t17 id (by have:=h.1;omega)⟩) ⟨line,hline,rfl⟩
     ·have:=j.hf.ge hid;omega
     ·have:=j.hm.ge hid;omega
    refine AP2 j.x.p ?_
    cases ho:s6.ok with
    |false=>
     rw[ho]at hm
     have hs:s'=s6:=by simp at hm;exact hm.2.symm
     subst hs
     simp only[go_sem]
     exact out (Fr.refl j.x.p j.x.lt)
    |true=>
     obtain⟨v,tid,o,line,col,e0,e1,x1,x2,e2,e3,e4,e5⟩:=j.x.p.tok
     rw[ho]at hm
     simp only[go_sem,Nat.reduceAdd,Nat.add_zero,e0,e1,e3,AAg]
     cases hd:decide (s6.t.kind=0)with
     |true=>
      rw[hd]at hm
      have hs:s'=s6:=by simp at hm;exact hm.2.symm
      subst hs
      simp only[go_sem,Bool.not_true]
      exact out (Fr.refl j.x.p j.x.lt)
     |false=>
      rw[hd]at hm
      have hs:s'=Jt 21 s6:=by simp at hm;exact hm.2.symm
      subst hs
      simp only[go_sem,Bool.not_false]
      exact kJ j.x.p j.x.lt λH15 n15 y=>out y
   rw[AbK]
   refine ABt j.x.p j.x.lt (λhf=>fin (Fr.refl j.x.p j.x.lt) (by rw[hf]at hm6;exact hm6)) λht=>?_
   rw[ht,cond_true]at hm6
   obtain⟨⟨b2,t2⟩,h2,hm6⟩:=Option.bind_eq_some_iff.1 hm6
   refine⟨b2,t2,h2,λH11 n11 y=>?_⟩
   cases b2 with
   |true=>exact fin y hm6
   |false=>
    rw[cond_false]
    obtain⟨hlf,hlm⟩:=hle ht
    have j:=j.fr y hm9
    clear y fin
    obtain⟨⟨b3,t3⟩,h3,hm6⟩:=Option.bind_eq_some_iff.1 (show((Dk vg t2).bind λp=>bif p.1 then(wV p.2).bind λt=>(Jh 3 t.2).bind λn=>(D7 [Gz] (Ls (fs.length+1) n.2)).bind λs1=>NU f g (fs++[⟨n.1,t.1⟩]) ms s1 else
     bif WZ [S9,Il] p.2 then(Yn f p.2).bind λm=>NU f g fs (ms++[m.1]) (Ls (ms.length+1) m.2)else
     NU f g fs ms (Jt 21 p.2))=some ((fs1,ms1),s6)from hm6)
    rw[show V.str 5 431315315046=sB vg from rfl]
    refine OI j.x.p j.x.lt h3 λH12 n12 y=>?_
    have j:=j.fr y hm9
    cases b3 with
    |true=>
     obtain⟨⟨pt,t4⟩,h4,hm6⟩:=Option.bind_eq_some_iff.1 (show((wV t3).bind λt=>(Jh 3 t.2).bind λn=>(D7 [Gz] (Ls (fs.length+1) n.2)).bind λs1=>NU f g (fs++[⟨n.1,t.1⟩]) ms s1)=some ((fs1,ms1),s6)from hm6)
     obtain⟨⟨pn,t5⟩,h5,hm6⟩:=Option.bind_eq_some_iff.1 hm6
     obtain⟨t6,h6,hm6⟩:=Option.bind_eq_some_iff.1 hm6
     have hm6:NU f g (fs++[⟨pn,pt⟩]) ms t6=some ((fs1,ms1),s6):=hm6
     have h6:D7 [Gz] (Ls (fs.length+1) t5)=some t6:=h6
     rw[A8]
     refine AOM j.x.p j.x.lt h4 λH13 n13 y=>?_
     have j:=j.fr y hm9
     have hn:=j.hn
     refine Ar rfl λH14 f14 g14=>?_
     refine Bf (L:=tyC pt) g14 rfl rfl (by omega) λH15 g15 t15=>?_
     have j:=j.al (⟨f14.le,λid hid=>(t15 id (by omega)).trans (f14.same id hid)⟩:Kp H13 n13 H15 (n13+1)) hm9
     refine AB (v:=.ptr (n+1) 4) (by rw[AY,Nat.zero_add]) (AB (AX (off:=4) j.g2 (v:=vf) rfl) (AB (Aw (m:=2) g15 (by omega) rfl) ?_))
     refine dJ j.x.p j.x.lt h5 λH16 n16 y=>?_
     have j:=j.fr y hm9
     have hn16:=y.le
     have g15:=y.get g15 (by omega) (by omega)
     refine AB (AX (off:=4) j.g2 (v:=vf) rfl) (CX (ATm j.hf.gr) (AB (Aw (m:=2) g15 (by omega) rfl) (CX (AWJ pt) (AB (AXB ..) ?_))))
     have hj:=j.hn
     refine AIx (bs:=40) j.hf (by omega) (by omega) rfl rfl (by rw[List.length_map];omega) λv' H17 ho hsame hnew=>?_
     have g2:=(hsame (n+1) (by omega) λh=>by have:=j.hf.ge h;omega).trans j.g2
     refine AB (v:=.ptr (n+1) 4) (by rw[AY,Nat.zero_add]) ?_
     refine Em g2 (Ph ho.gr).2.1 (by rw[(Ph ho.gr).2.2];rfl) (by omega) (by show 4+1<=6;omega) λH18 g2 t18=>?_
     rw[(Ph ho.gr).2.2]at g2
     have j:=j.Acr (a:=⟨pn,pt⟩) hm9 ho hsame hnew g2 t18
     refine AB (v:=.ptr (n+1) 4) (by rw[AY,Nat.zero_add]) (AB (AX (off:=4) j.g2 (v:=v') rfl) ?_)
     rw[(j.hf.el (by omega)).len,AU,List.length_map,List.length_append]
     refine AIk j.x.p j.x.lt λH19 n19 y=>?_
     have j:=j.fr y hm9
     refine LW (ws:=[Gz]) j.x.p j.x.lt rfl (by show 1<=1000;omega) h6 λH20 n20 y=>?_
     have j:=j.fr y hm9
     have hok:t6.ok=true->fs.length+1<=200:=λh=>AEp (t:=t5) (AVc h6 h)
     exact ih g _ (by omega) ⟨H20,n20,t6,_,_,v',vm,cs,rfl,j,λh=>⟨by rw[List.length_append];exact hok h,hlm⟩,by rw[List.length_append];show fs.length+1<=201;omega,hm1,hm6⟩
    |false=>
     rw[Ak]
     have hm6:(bif WZ [S9,Il] t3 then(Yn f t3).bind λm=>NU f g fs (ms++[m.1]) (Ls (ms.length+1) m.2)else NU f g fs ms (Jt 21 t3))=some ((fs1,ms1),s6):=hm6
     refine yO (ws:=[S9,Il]) j.x.p j.x.lt rfl (by show 2<=1000;omega) λH13 n13 y=>?_
     have j:=j.fr y hm9
     cases hi:WZ [S9,Il] t3 with
     |true=>
      rw[hi,cond_true]at hm6
      obtain⟨⟨m,t4⟩,h4,hm6⟩:=Option.bind_eq_some_iff.1 hm6
      have hm6:NU f g fs (ms++[m]) (Ls (ms.length+1) t4)=some ((fs1,ms1),s6):=hm6
      rw[A8]
      refine AB (v:=.ptr (n+1) 5) (by rw[AY,Nat.zero_add]) (AB (AX (off:=5) j.g2 (v:=vm) rfl) ?_)
      refine AEg j.x.p j.x.lt h4 λH14 n14 l y hx=>?_
      have hlv:∀id,vf.Dl=some id->id<n13:=j.hf.lo
      have hlw:∀id,vm.Dl=some id->id<n13:=j.hm.lo
      have h13:=j.hn
      have j:=j.fr y hm9
      refine AB (AX (off:=5) j.g2 (v:=vm) rfl) (CX (ATm j.hm.gr) ?_)
      refine AIx (bs:=112) j.hm j.hn (by omega) hx.len rfl (by rw[j.hc.len];omega) λv' H17 ho hsame hnew=>?_
      have hj:=j.hn
      have g2:=(hsame (n+1) (by omega) λh=>by have:=j.hm.ge h;omega).trans j.g2
      refine AB (v:=.ptr (n+1) 5) (by rw[AY,Nat.zero_add]) ?_
      refine Em g2 (Ph ho.gr).2.1 (by rw[(Ph ho.gr).2.2];rfl) (by omega) (by show 5+1<=6;omega) λH18 g2 t18=>?_
      rw[(Ph ho.gr).2.2]at g2
      have j:=j.AcX hm9 hx (λid h=>⟨by have:=h.1;omega,h.2,λh2=>by have:=hlv id h2;have:=h.1;omega,λh2=>by have:=hlw id h2;have:=h.1;omega⟩) ho hsame hnew g2 t18
      refine AB (v:=.ptr (n+1) 5) (by rw[AY,Nat.zero_add]) (AB (AX (off:=5) j.g2 (v:=v') rfl) ?_)
      rw[(j.hm.el (by omega)).len,AU,j.hc.len,List.length_append]
      refine AIk j.x.p j.x.lt λH19 n19 y=>?_
      have j:=j.fr y hm9
      exact ih g _ (by omega) ⟨H19,n19,_,_,_,vf,v',_,rfl,j,λh=>⟨hlf,by rw[List.length_append];exact AEp h⟩,hf1,by rw[List.length_append];show ms.length+1<=201;omega,hm6⟩
     |false=>
      rw[hi,cond_false]at hm6
      rw[Ak]
      refine kJ j.x.p j.x.lt λH14 n14 y=>?_
      have j:=j.fr y hm9
      exact ih g _ (by omega) ⟨H14,n14,_,_,_,vf,vm,_,rfl,j,λ_=>⟨hlf,hlm⟩,hf1,hm1,hm6⟩
 cases b with
 |true=>
  rw[A8]
  have h4:Jh 2 s3=some (sup,s4):=h4
  refine dJ x.p x.lt h4 λH8 n8 y=>?_
  have x:=x.tr y
  have hn8:=y.le
  have g1:=y.get g1 (by omega) hb
  have g2:=y.get g2 (by omega) (by omega)
  refine AB (v:=.ptr (n+1) 3) (by rw[AY,Nat.zero_add]) ?_
  refine Em g2 rfl rfl (by omega) (by show 3+1<=6;omega) λH9 g2 t9=>?_
  exact members (x.st (by omega) t9) (by omega) ((t9 n (by omega)).trans g1) g2
 |false=>
  rw[Ak]
  cases h4
  exact members x (by omega) g1 g2
end
open Go.Bj
set_option maxRecDepth 100000
def AJl(e line col:Nat):LV:=[.int .i64 (.ofNat e) 0,.int .i64 (.ofNat line) 0,.int .i64 (.ofNat col) 0]
theorem ASi(e line col:Nat):BH (.agg (AJl e line col)) (.agg (AJl e line col))=true:=dF λv hv=>by simp[AJl]at hv;rcases hv with rfl|rfl|rfl<;>exact Xv ..
def AEv(f:Nat)(s:Bs):Option (Option Cl×Nat):=bif decide ((AGz s).1=0)then(AJB f (AGz s).2).bind λp=>some (bif decide (p.2=0)then(some p.1,0)else(none,p.2))else some (none,(AGz s).1)
def ClO(G:AV)(H:Heap)(A:Nat->Prop)(c:LV):Option Cl->Prop
 |none=>c=clZ
 |some cl=>AD9 G H A c cl/\ASF c
def FtO(e:Nat)(ft:LV):Prop:=∃line col,ft=AJl e line col/\(e≠0->1<=line/\1<=col)/\(e=0->line=0/\col=0)
theorem FtO.z:FtO 0 (AJl 0 0 0):=⟨0,0,rfl,λh=>absurd rfl h,λ_=>⟨rfl,rfl⟩⟩
theorem AYO:BN (AJl 0 0 0) []=some (.agg (AJl 0 0 0)):=rfl
section
variable{G:AV}{H:Heap}{n:Nat}{s:Bs}{k:KV}
theorem ABM{f e:Nat}{o:Option Cl}(hG:Ur G)(hm:AEv f s=some (o,e))(hk:∀H' n' c ft,Kp H n H' n'->ClO G H' (Rg n n') c o->FtO e ft->k (.EI [.agg c,.agg ft]) H' n'):Runs F G yQ [sB s] H n k:=by
 refine go1 (AFK Aq G) ?_
 delta yK
 refine Ar rfl λH1 f1 g1=>?_
 refine Ar rfl λH2 f2 g2=>?_
 have g1:=f2.get g1 (by omega)
 have f2:=f1.trans f2
 refine AZl hG ?_
 intro H3 n3 v c f3 h0 h1
 have g1:=f3.get g1 (by omega)
 have g2:=f3.get g2 (by omega)
 have hn3:=f3.le
 have f2:=f2.trans f3
 unfold AEv at hm
 simp only[ZF,ZN,AU]
 cases he:decide ((AGz s).1=0)with
 |false=>
  rw[he]at hm
  cases hm
  have he:=of_decide_eq_false he
  obtain⟨line,col,x1,x2,rfl⟩:=h1 he
  refine Ar rfl λH4 f4 g4=>?_
  refine Bf g4 rfl rfl (by omega) λH5 g4 t5=>?_
  have f45:Kp H3 n3 H5 (n3+1):=⟨f4.le,λid hid=>(t5 id (by omega)).trans (f4.same id hid)⟩
  have g1:=f45.get g1 (by omega)
  have g2:=f45.get g2 (by omega)
  have f2:=f2.trans f45
  refine AB (v:=.ptr n3 0) (by rw[AY]) (AB (AX (off:=0) g4 (v:=.int .i64 (.ofNat (AGz s).1) 0) rfl) ?_)
  rw[AAg,AU,decide_eq_false he,Bool.not_false,A8]
  refine AB ATb (AB (Aw (m:=3) g4 (by omega) rfl) ?_)
  refine Bf g1 rfl rfl (by omega) λH6 g1 t6=>?_
  have g4:=(t6 n3 (by omega)).trans g4
  have g2:=(t6 (n+1) (by omega)).trans g2
  refine AB (Aw (m:=3) g4 (by omega) rfl) (CX (ASi ..) ?_)
  refine Bf g2 rfl rfl (by omega) λH7 g2 t7=>?_
  have g1:=(t7 n (by omega)).trans g1
  rw[BU (m:=6) g1 (by omega) rfl,BU (m:=3) g2 (by omega) rfl]
  simp only[go_sem]
  exact hk _ _ _ _ ⟨by have:=f2.le;omega,λid hid=>(t7 id (by omega)).trans ((t6 id (by omega)).trans (f2.same id hid))⟩ rfl ⟨line,col,rfl,λ_=>⟨x1,x2⟩,λh=>absurd h he⟩
 |true=>
  rw[he,cond_true]at hm
  have he:=of_decide_eq_true he
  obtain⟨⟨cl,e1⟩,hp,hm⟩:=Option.bind_eq_some_iff.1 hm
  obtain⟨⟨cs,tid,rfl,ht1,ht2,hel,htk⟩,rfl⟩:=h0 he
  refine Ar rfl λH4 f4 g4=>?_
  refine Bf (L:=AJl 0 0 0) g4 rfl rfl (by omega) λH5 g4 t5=>?_
  have f45:Kp H3 n3 H5 (n3+1):=⟨f4.le,λid hid=>(t5 id (by omega)).trans (f4.same id hid)⟩
  have g1:=f45.get g1 (by omega)
  have g2:=f45.get g2 (by omega)
  have hel:=hel.kq (λid hid=>by cases yc hid;exact ht2) f45
  have f2:=f2.trans f45
  refine AB (v:=.ptr n3 0) (by rw[AY]) (AB (AX (off:=0) g4 (v:=.int .i64 (.ofNat 0) 0) rfl) ?_)
  rw[AAg,AU,decide_eq_true rfl,Bool.not_true,Ak]
  refine AB Abr ?_
  refine Ei λH6 f6 g6=>?_
  have g1:=f6.get g1 (by omega)
  have g2:=f6.get g2 (by omega)
  have hel:=hel.kq (λid hid=>by cases yc hid;omega) f6
  have f2:=f2.trans f6
  cases hl:(AGz s).2 with
  |nil=>rw[hl]at hp;cases hp
  |cons t r=>
   rw[hl]at hp htk
   obtain⟨⟨cl',s'⟩,hc,hp⟩:=Option.bind_eq_some_iff.1 (show((ANq f ⟨t,r,0,0⟩).bind λp=>some (p.1,p.2.e))=some (cl,e1)from hp)
   have hcl:cl'=cl:=by cases hp;rfl
   have hce:s'.e=e1:=by cases hp;rfl
   subst hcl;subst hce
   have hpa:ZR G H6 (n3+1) ⟨t,r,0,0⟩:=.mk (s:=⟨t,r,0,0⟩) g6 hel htk (λh=>absurd rfl h) (by omega)
   refine AT0 hpa (by omega) hc λH7 n7 l y hx hline=>?_
   have hn7:=y.le
   have g1:=(y.f.same n (by omega) (by omega)).trans g1
   have g2:=(y.f.same (n+1) (by omega) (by omega)).trans g2
   have f2:Kp H n H7 n7:=⟨by have:=f2.le;omega,λid hid=>(y.f.same id (by omega) (by omega)).trans (f2.same id hid)⟩
   refine Ar rfl λH8 f8 g8=>?_
   refine Bf g8 rfl hx.len (by omega) λH9 g9 t9=>?_
   have f9:Kp H7 n7 H9 (n7+1):=⟨f8.le,λid hid=>(t9 id (by omega)).trans (f8.same id hid)⟩
   have g1:=f9.get g1 (by omega)
   have g2:=f9.get g2 (by omega)
   have f2:=f2.trans f9
   have hx:AD9 G H9 (Rg (n3+1+1) n7) l cl':=hx.mono (λid h=>h) λid h=>f9.same id h.2
   have p9:=y.p.kp f9 (by omega)
   refine AP2 p9 ?_
   rw[Du,AU]
   cases ho:s'.ok with
   |true=>
    have he0:s'.e=0:=of_decide_eq_true ho
    rw[he0]at hp
    have hm:some (some cl',0)=some (o,e):=by rw[<-hm];show _=some (bif decide (s'.e=0)then(some cl',0)else(none,s'.e));rw[he0];rfl
    cases hm
    rw[Bool.not_true,Ak]
    refine AB (Aw (m:=6) g9 (by omega) hx.len) (AB AYO ?_)
    refine Bf g1 rfl hx.len (by omega) λH10 g1 t10=>?_
    have g2:=(t10 (n+1) (by omega)).trans g2
    refine Bf g2 rfl rfl (by omega) λH11 g2 t11=>?_
    have g1:=(t11 n (by omega)).trans g1
    rw[BU (m:=6) g1 (by omega) hx.len,BU (m:=3) g2 (by omega) rfl]
    simp only[go_sem]
    exact hk _ _ _ _ ⟨by have:=f2.le;omega,λid hid=>(t11 id (by omega)).trans ((t10 id (by omega)).trans (f2.same id hid))⟩
     ⟨hx.mono (λid h=>⟨by have:=h.1;omega,by have:=h.2;omega⟩) λid h=>(t11 id (by have:=h.1;omega)).trans (t10 id (by have:=h.1;omega)),hline⟩ FtO.z
   |false=>
    have he0:s'.e≠0:=of_decide_eq_false ho
    have hm:some (none,s'.e)=some (o,e):=by rw[<-hm];show _=some (bif decide (s'.e=0)then(some cl',0)else(none,s'.e));rw[decide_eq_false he0];rfl
    cases hm
    rw[Bool.not_false,A8]
    refine AB ATb (AB (v:=.ptr (n3+1) 0) rfl (AB (v:=.ptr (n3+1) 2) (by rw[AY,Nat.zero_add]) ?_))
    cases p9 with
    |mk hg he ht hp hl=>
     rename_i tid' off line col cs'
     obtain⟨x1,x2⟩:=hp he0
     refine AB (QK (m:=3) (o:=2) hg (by omega) (by show 2+3<=5;omega)) ?_
     refine Bf g1 rfl rfl (by omega) λH10 g1 t10=>?_
     have g2:=(t10 (n+1) (by omega)).trans g2
     have hg:=(t10 (n3+1) (by omega)).trans hg
     refine AB (QK (m:=3) (o:=2) hg (by omega) (by show 2+3<=5;omega)) (CX (ASi ..) ?_)
     refine Bf (L:=AJl s'.e line col) g2 rfl rfl (by omega) λH11 g2 t11=>?_
     have g1:=(t11 n (by omega)).trans g1
     rw[BU (m:=6) g1 (by omega) rfl,BU (m:=3) g2 (by omega) rfl]
     simp only[go_sem]
     exact hk _ _ _ _ ⟨by have:=f2.le;omega,λid hid=>(t11 id (by omega)).trans ((t10 id (by omega)).trans (f2.same id hid))⟩ rfl ⟨line,col,rfl,λ_=>⟨x1,x2⟩,λh=>absurd h he0⟩
end
end Go.PQ
