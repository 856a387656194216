/- Part of a proof; nothing is assumed. -/
import Derived.Test.YtmbhlmocojopaaaGreatDoorConC
import Derived.Test.YtmbhlmocojopaaaGreatDoorWalk
set_option linter.unusedVariables false
set_option linter.unusedSimpArgs false
namespace Go.RL
open Go.DK
set_option maxRecDepth 100000
structure Mg where
 vp:V
 at':Nat
 vv:V
 names:Nat
 inn:St
def Mg.cells(s:Mg):LV:=[s.vp,.int .i64 (.ofNat s.at') 0,s.vv,.int .i64 (.ofNat s.names) 0,s.inn.v]
def ints(xs:List Int):Dy:=xs.map λi=>[.int .i64 i 0]
theorem AQZ(xs:List Int):(ints xs).length=xs.length:=List.length_map ..
def AYf(G:AX)(vp:V):Prop:=∃ps:List Int,(∀H,El G H vp 1 (ints ps))/\ps.length<=200
structure Uw(G:AX)(H:Heap)(gp:Nat)(s:Mg):Prop where
 g:T.get H gp=some (one s.cells)
 pk:AYf G s.vp
structure Fg(gp:Nat)(H:Heap)(n:Nat)(H':Heap)(n':Nat):Prop where
 le:n<=n'
 same:∀id,id<n->id≠gp->T.get H' id=T.get H id
theorem Fg.refl(gp:Nat)(H:Heap)(n:Nat):Fg gp H n H n:=⟨Nat.le_refl _,λ_ _ _=>rfl⟩
theorem Fg.trans{gp:Nat}{H H' H'':Heap}{n n' n'':Nat}(x:Fg gp H n H' n')(y:Fg gp H' n' H'' n''):Fg gp H n H'' n'':=
 ⟨Nat.le_trans x.le y.le,λid h hg=>(y.same id (Nat.lt_of_lt_of_le h x.le) hg).trans (x.same id h hg)⟩
theorem Fg.kp{gp:Nat}{H H':Heap}{n n':Nat}(x:Kp H n H' n'):Fg gp H n H' n':=⟨x.le,λid h _=>x.same id h⟩
theorem Fg.get{gp:Nat}{H H':Heap}{n n' id:Nat}{b:Ro}(x:Fg gp H n H' n')(h:T.get H id=some b)(hl:id<n)(hg:id≠gp):T.get H' id=some b:=(x.same id hl hg).trans h
def Mg.to(s:Mg)(a:Nat):Mg:={s with at':=a}
theorem AVB(a b:Int):B2.ev .add (.int .i64 a 0) (.int .i64 b 0)=some (.int .i64 (qh .i64 (AHJ a b)) 0):=rfl
theorem AOY(z:Int){m:Nat}(hm:0<m):B2.ev .rem (.int .i64 z 0) (.int .i64 (.ofNat m) 0)=some (.int .i64 (Int.tmod z m) 0):=by
 show CO (band true (band true (Rt (ieq (.ofNat m) 0)))) (mkN .i64 (Int.tmod z (.ofNat m)) 0)=_
 have:ieq (.ofNat m) 0=false:=by rw[jI];cases m with|zero=>omega|succ m=>rfl
 rw[this]
 show X8 (Int.tmod z (.ofNat m)) (λm=>some (.int .i64 m 0))=_
 rw[Xx];rfl
theorem AYW(u:Nat){m:Nat}(hm:0<m)(hu:u<9223372036854775808):B2.ev .quo (.int .i64 (.ofNat u) 0) (.int .i64 (.ofNat m) 0)=some (.int .i64 (.ofNat (u/m)) 0):=by
 show CO (band true (band true (Rt (ieq (.ofNat m) 0)))) (mkI .i64 (Int.tdiv (.ofNat u) (.ofNat m)) 0)=_
 have:ieq (.ofNat m) 0=false:=by rw[jI];cases m with|zero=>omega|succ m=>rfl
 rw[this]
 show some (V.int .i64 (qh .i64 (Int.tdiv (.ofNat u) (.ofNat m))) 0)=_
 have hd:u/m<=u:=Nat.div_le_self ..
 rw[show Int.tdiv (.ofNat u) (.ofNat m)=Int.ofNat (u/m)from rfl,YU]
 generalize u/m=d at hd
 rw[Zk (by simp) (by simp;omega)]
theorem Ib{H:Heap}{n m b off:Nat}{L0:LV}{v:V}{P:KV}(g:T.get H b=some (one L0))(hv:jc v=true)(hn:(Bl v).length=m)(hm:0<m)(hl:off+m<=L0.length)
 (h:∀H',T.get H' b=some (one (L0.take off++(Bl v++L0.drop (off+m))))->(∀j,j≠b->T.get H' j=T.get H j)->P .undef H' n):BL m (.ptr b off) v H n P:=by
 rw[AOi g hv hn hm hl];exact h _ (T.BX ..) λj hj=>T.Ap _ _ (Ne.symm hj)
theorem ATv(z:Int){m:Nat}(hm:0<m): -(m:Int)<Int.tmod z m/\Int.tmod z m<m:=by
 have h1:=Int.tmod_lt_of_pos z (show(0:Int)<m by omega)
 have h2:=Int.tmod_lt_of_pos (-z) (show(0:Int)<m by omega)
 rw[Int.neg_tmod]at h2
 omega
theorem BU(i o:Nat):Am (.ptr i o)=some (.ptr i o):=rfl
section
variable{G:AX}{H:Heap}{n gp:Nat}{s:Mg}{k:KV}
theorem JB{m:Nat}(h:Uw G H gp s)(hm:0<m)(hm2:m<=1000000)(hs:s.at'<1000000000000)
 (hk:∀H' r a,r<m->a<=s.at'+1->Uw G H' gp (s.to a)->(∀id,id≠gp->T.get H' id=T.get H id)->k (.int .i64 (.ofNat r) 0) H' n):Runs F G AZ [.ptr gp 0,.int .i64 (.ofNat m) 0] H n k:=by
 refine go2 (mF BK G) ?_
 delta Vz
 obtain⟨ps,hp,hl⟩:=h.pk
 have q0:AY (.ptr gp 0) G H=some s.vp:=AV h.g rfl
 have q1:AY (.ptr gp 1) G H=some (.int .i64 (.ofNat s.at') 0):=AV h.g rfl
 have hlen:=(hp H).len
 rw[AQZ]at hlen
 simp only[go_sem,BU,Nat.reduceAdd,q0,hlen,CY]
 by_cases h0:ps.length=0
 ·rw[decide_eq_true h0,A8]
  exact hk H 0 s.at' hm (Nat.le_succ _) h λ_ _=>rfl
 ·rw[decide_eq_false h0,Ai]
  have hpos:0<ps.length:=by omega
  have hlt:s.at'%ps.length<ps.length:=Nat.mod_lt _ hpos
  obtain⟨p,hpp,hld⟩:=(hp H).at (i:=s.at'%ps.length) (c:=[.int .i64 ps[s.at'%ps.length] 0]) (by simp[ints,hlt])
  have rz:=AOY (s.at':Int) hpos
  rw[show Int.tmod (s.at':Int) (ps.length:Int)=Int.ofNat (s.at'%ps.length)from rfl]at rz
  generalize hz:qh .i64 (AHJ ps[s.at'%ps.length] (Int.ofNat (s.at'/ps.length)))=z
  have hb:=ATv z hm
  obtain⟨r,hr⟩:∃r:Nat,Int.tmod z m+m=r:=⟨(Int.tmod z m+m).toNat,by omega⟩
  have ha:B2.ev .add (.int .i64 (Int.tmod z m) 0) (.int .i64 (.ofNat m) 0)=some (.int .i64 (.ofNat r) 0):=by
   rw[AVB,ACO,YU]
   have e:Int.tmod z (m:Int)+Int.ofNat m=(r:Int):=hr
   rw[e,Zk (by omega) (by omega)];rfl
  have q2:B2.ev .rem (.int .i64 (.ofNat s.at') 0) (.int .i64 (.ofNat ps.length) 0)=some (.int .i64 (.ofNat (s.at'%ps.length)) 0):=rz
  have q3:AY p G H=some (.int .i64 ps[s.at'%ps.length] 0):=qR hld
  have q4:=AYW s.at' hpos (by omega)
  have q5:=AVB ps[s.at'%ps.length] (Int.ofNat (s.at'/ps.length))
  rw[hz]at q5
  have q6:=Eu (i:=s.at') (by omega)
  have q7:B2.ev .rem (.int .i64 (.ofNat r) 0) (.int .i64 (.ofNat m) 0)=some (.int .i64 (.ofNat (r%m)) 0):=AOY (r:Int) hm
  simp only[go_sem,BU,Nat.reduceAdd,q0,q1,hlen,q2,hpp,q3,q4,q5,q6,AOY z hm,ha,q7]
  refine Ib (off:=1) (m:=1) h.g rfl rfl (by omega) (by show 1+1<=5;omega) λH1 g1 s1=>?_
  refine hk H1 (r%m) (s.at'+1) (Nat.mod_lt _ hm) (Nat.le_refl _) ⟨g1,h.pk⟩ s1
abbrev teZ:LV:=[.int .i64 (.ofNat 0) 0,.int .i64 (.ofNat 0) 0,.int .i64 (.ofNat 0) 0,.int .i64 (.ofNat 0) 0,.str 0 0,.str 0 0,.bool false,.Ag,.str 0 0,.bool false,.str 0 0]
theorem vJ{kind:Nat}{nm:St}{v:V}(hv:v=.Ag∨∃a b c d e,v=.sl a b c d e)(hk:∀H' n',Kp H n H' n'->k (.agg (LM kind 0 nm OU OU (0,0) 0 0 v)) H' n'):Runs F G Ak [.int .i64 (.ofNat kind) 0,nm.v,v] H n k:=by
 refine go3 (ADX BK G) ?_
 delta rO
 refine Au rfl λH1 f1 g1=>?_
 refine AB (v:=.agg (LM kind 0 nm OU OU (0,0) 0 0 v)) (by rcases hv with rfl|⟨a,b,c,d,e,rfl⟩<;>rfl) ?_
 refine Bq g1 rfl rfl (by omega) λH2 g2 s2=>?_
 rw[Cm (m:=11) g2 (by omega) rfl]
 simp only[go_sem]
 exact hk _ _ ⟨f1.le,λid hid=>(s2 id (by omega)).trans (f1.same id hid)⟩
theorem AU1{r:Nat}(hk:∀H' n',Kp H n H' n'->k (.agg (LM 1 r (0,0) OU OU (0,0) 0 0 .Ag)) H' n'):Runs F G Qg [.int .i64 (.ofNat r) 0] H n k:=by
 refine go1 (ADh BK G) ?_
 delta rC
 refine Au rfl λH1 f1 g1=>?_
 refine AB (v:=.agg (LM 1 r (0,0) OU OU (0,0) 0 0 .Ag)) rfl ?_
 refine Bq g1 rfl rfl (by omega) λH2 g2 s2=>?_
 rw[Cm (m:=11) g2 (by omega) rfl]
 simp only[go_sem]
 exact hk _ _ ⟨f1.le,λid hid=>(s2 id (by omega)).trans (f1.same id hid)⟩
end
theorem Dl(a b:Nat):B2.ev .lss (.int .i64 (.ofNat a) 0) (.int .i64 (.ofNat b) 0)=some (.bool (decide (a<b))):=AGZ ..
theorem AVG{e:Option V}{a:V}{P:Prop}(hp:P):ACj (.bool true) false e a P:=hp
theorem AaJ{b:Bool}{e:Option V}{a:V}{P:Prop}(hp:P):ACj (.G5 []) b e a P:=hp
theorem ARg{e:Option V}{a:V}{P:Prop}(hp:P):ACj (.bool false) true e a P:=hp
structure AO7(G:AX)(H:Heap)(n gp:Nat)(v:V)(Γ:List DJ):Prop where
 el:El G H v 3 (Γ.map QZ)
 lo:∀id,v.D9=some id->id<n/\id≠gp
 lt:Γ.length<=1000
theorem AO7.fg{G:AX}{H H':Heap}{n n' gp:Nat}{v:V}{Γ:List DJ}(h:AO7 G H n gp v Γ)(f:Fg gp H n H' n'):AO7 G H' n' gp v Γ:=
 ⟨h.el.same λid hid=>f.same id (h.lo id hid).1 (h.lo id hid).2,λid hid=>⟨Nat.lt_of_lt_of_le (h.lo id hid).1 f.le,(h.lo id hid).2⟩,h.lt⟩
def Fit(t u:Ty):Prop:=u=t∨t=tA/\u=tB
theorem Fit.rq{t u:Ty}(h:Fit t u):Rq t u:=by rcases h with rfl|⟨rfl,rfl⟩;exact .same _;exact .ba
def LcJ(G:AX)(H:Heap)(n gp:Nat)(s:Mg)(Γ:List DJ)(t:Ty)(j:Nat)(H':Heap)(n':Nat)(v:V)(xs:List St):Prop:=
 Fg gp H n H' n'/\Uw G H' gp s/\T.get H' n=some (one t.cells)/\T.get H' (n+1)=some (one teZ)/\n+2<n'/\Sk H' 1 (λid=>n+2<=id/\id<n') v (xs.map λx=>[x.v])/\
  (∀x∈xs,∃f∈Γ,f.nm=x/\Fit t f.ty)/\xs.length<=j
section
variable{G:AX}{H:Heap}{n gp:Nat}{s:Mg}{Γ:List DJ}{k:KV}
theorem AUj{t:Ty}(h:Uw G H gp s)(hg:gp<n)(hv:AO7 G H n gp s.vv Γ)(hs:s.at'<1000000000000)
 (hk1:∀H' n',Fg gp H n H' n'->Uw G H' gp s->k (.G5 [.agg teZ,.bool false]) H' n')
 (hk2:∀H' n' f a,f∈Γ->Fit t f.ty->a<=s.at'+1->Fg gp H n H' n'->Uw G H' gp (s.to a)->k (.G5 [.agg (LM 6 0 f.nm OU OU (0,0) 0 0 .Ag),.bool true]) H' n'):
 Runs F G VK [.ptr gp 0,t.v] H n k:=by
 refine go2 (jA BK G) ?_
 delta VA
 refine DY λH1 f1 g1=>?_
 refine Au rfl λH2 f2 g2=>?_
 have g1:=f2.get g1 (by omega)
 refine TD (G:=G) (vs:=[]) rfl (by omega) (λv hv=>by cases hv) λH3 f3 g3 hel=>?_
 have g1:=f3.get g1 (by omega)
 have g2:=f3.get g2 (by omega)
 have f13:Kp H n H3 (n+1+1+1):=(f1.trans f2).trans f3
 have m3:Uw G H3 gp s:=⟨f13.get h.g hg,h.pk⟩
 have q2:AY (.ptr gp 2) G H3=some s.vv:=AV m3.g rfl
 have hv3:=hv.fg (Fg.kp (gp:=gp) f13)
 have hl:=hv3.el.len
 rw[List.length_map]at hl
 simp only[go_sem,BU,Nat.reduceAdd,q2,hl]
 obtain⟨t3,g3⟩:=g3
 refine CP (N:=Γ.length) (J:=λj q=>∃H' n' v xs,q=(.ptr gp 0,.ptr n 0,.ptr (n+1) 0,v,s.vv,.int .i64 (.ofNat Γ.length) 0,.int .i64 (.ofNat j) 0,H',n')/\LcJ G H n gp s Γ t j H' n' v xs) ?_ ?_
  ⟨H3,n+1+1+1,_,[],rfl,Fg.kp f13,m3,g1,g2,by omega,.emp g3 (by omega),λx hx=>(by cases hx),Nat.le_refl _⟩
 ·rintro I j q hlt ⟨H4,n4,v,xs,rfl,hj⟩ ih
  show GX lfp G (Runs F G) k I (.ptr gp 0) (.ptr n 0) (.ptr (n+1) 0) v s.vv (.int .i64 (.ofNat Γ.length) 0) (.int .i64 (.ofNat j) 0) H4 n4
  delta GX
  obtain⟨f4,m4,b1,b2,hn4,hsk,hxs,hxl⟩:=hj
  have hv4:=hv.fg f4
  obtain⟨p,hp,hld⟩:=hv4.el.at (i:=j) (c:=QZ Γ[j]) (by simp[hlt])
  have hmem:Γ[j]∈Γ:=List.getElem_mem hlt
  generalize Γ[j]=f at hld hmem
  rw[Dl,AQ,decide_eq_true hlt,A8]
  refine AB hp (AB (DW hld) ?_)
  refine Au rfl λH5 f5 g5=>?_
  refine Bq g5 rfl rfl (by omega) λH6 g6 s6=>?_
  have f6:Kp H4 n4 H6 (n4+1):=⟨f5.le,λid hid=>(s6 id (by omega)).trans (f5.same id hid)⟩
  have b1:=f6.get b1 (by omega)
  have b2:=f6.get b2 (by omega)
  have m6:Uw G H6 gp s:=⟨f6.get m4.g (by omega),h.pk⟩
  have qt:∀{H':Heap},T.get H' n4=some (one (QZ f))->Ad 2 (.ptr n4 1) G H'=some f.ty.v:=λg=>Dh (off:=1) (m:=2) g (by omega) (by show 3<=3;omega)
  have q1:=qt g6
  have q2:Ad 2 (.ptr n 0) G H6=some t.v:=DZ b1
  have f46:=f4.trans (Fg.kp (gp:=gp) f6)
  have hsk6:Sk H6 1 (λid=>n+2<=id/\id<n4) v (xs.map λx=>[x.v]):=hsk.mono (λ_ h=>h) λid hid=>f6.same id hid.2
  have yes:∀{H7:Heap} {n7:Nat},Kp H6 (n4+1) H7 n7->Fit t f.ty->AL (AY (.ptr n4 0) G H7) (λv42=>BZ (Ah 1 1 [.str 0 0] [(0,.c v42)] E0) H7 n7 λv43 H n'=>
   O8 1 16 v v43 G H n' λv44 H n'=>EF lfp G (Runs F G) k I (.ptr gp 0) (.ptr n 0) (.ptr (n+1) 0) v44 s.vv (.int .i64 (.ofNat Γ.length) 0) (.int .i64 (.ofNat j) 0) H n'):=by
   intro H7 n7 f7 hfit
   have g7:=f7.get g6 (by omega)
   have m7:Uw G H7 gp s:=⟨f7.get m6.g (by omega),h.pk⟩
   have hn7:=f7.le
   refine AB (AV (off:=0) g7 (v:=f.nm.v) rfl) ?_
   have hsk7:Sk H7 1 (λid=>n+2<=id/\id<n7) v (xs.map λx=>[x.v]):=hsk6.mono (λ_ hh=>⟨hh.1,by omega⟩) λid hid=>f7.same id (by omega)
   have hxb:xs.length<=1000:=by have:=hv.lt;omega
   refine hsk7.app (m:=0) (bs:=16) (c:=f.nm.v) (λid hid=>(hsk7.own hid).2) (by omega) rfl rfl (by rw[List.length_map];omega) λv' H8 hs8 hsame hsid=>?_
   delta EF
   rw[Eu (by have:=hv.lt;omega),AQ]
   have same:∀id,id<n7->v.D9≠some id->T.get H8 id=T.get H7 id:=hsame
   have old:∀id,id<n+2->T.get H8 id=T.get H7 id:=λid hid=>same id (by omega) λe=>by have:=(hsk7.own e).1;omega
   refine ih _ ⟨H8,n7+2,v',xs++[f.nm],rfl,?_⟩
   refine⟨⟨by have:=f4.le;omega,λid hid hne=>(old id (by omega)).trans ((f7.same id (by omega)).trans (f46.same id hid hne))⟩,⟨(old gp (by omega)).trans m7.g,h.pk⟩,(old n (by omega)).trans (f7.get b1 (by omega)),(old (n+1) (by omega)).trans (f7.get b2 (by omega)),by omega,?_,?_,by rw[List.length_append];exact Nat.succ_le_succ hxl⟩
   ·have:=hs8 (λid=>n+2<=id/\id<n7+2) ⟨by omega,by omega⟩
    rw[List.map_append];exact this
   ·intro x hx
    rcases List.mem_append.1 hx with hx|hx
    ·exact hxs x hx
    ·rw[List.mem_singleton.1 hx];exact⟨f,hmem,rfl,hfit⟩
  have no:∀{H7:Heap} {n7:Nat},Kp H6 (n4+1) H7 n7->EF lfp G (Runs F G) k I (.ptr gp 0) (.ptr n 0) (.ptr (n+1) 0) v s.vv (.int .i64 (.ofNat Γ.length) 0) (.int .i64 (.ofNat j) 0) H7 n7:=by
   intro H7 n7 f7
   have hn7:=f7.le
   delta EF
   rw[Eu (by have:=hv.lt;omega),AQ]
   exact ih _ ⟨H7,n7,v,xs,rfl,f46.trans (Fg.kp f7),⟨f7.get m6.g (by omega),h.pk⟩,f7.get b1 (by omega),f7.get b2 (by omega),by omega,hsk6.mono (λ_ hh=>⟨hh.1,by omega⟩) λid hid=>f7.same id (by omega),hxs,Nat.le_succ_of_le hxl⟩
  simp only[go_sem,Nat.reduceAdd,q1,q2,ZJ]
  cases hE:f.ty.is t with
  |true=>
   repeat (first|with_reducible refine Y0 ?_|with_reducible refine AHt ?_|with_reducible refine AVG ?_)
   simp only[go_sem]
   refine AaJ ?_
   exact yes (Kp.refl _ _) (.inl (Ty.wM.1 hE))
  |false=>
   refine XE rfl (AHC ?_)
   refine bW λH7 n7 f7=>?_
   have b17:=f7.get b1 (by omega)
   refine ATA (DZ b17) (Lu t) ?_
   refine XE (ZJ t tA) (XE rfl ?_)
   cases hA:t.is tA with
   |false=>
    repeat (first|with_reducible refine ACQ ?_|with_reducible refine rD ?_|with_reducible refine ARg ?_)
    simp only[go_sem]
    exact no f7
   |true=>
    have g67:=f7.get g6 (by omega)
    refine PV rfl (PV (qt g67) (ACa ?_))
    refine bW λH8 n8 f8=>?_
    have g68:=f8.get g67 (by have:=f7.le;omega)
    refine ATu (qt g68) (Lu _) ?_
    refine PV (ZJ f.ty tB) ?_
    refine XE (AE3 ..) (AB (AE3 ..) ?_)
    cases hB:f.ty.is tB with
    |true=>show Aa (.bool true) true _ _;rw[A8];exact yes (f7.trans f8) (.inr ⟨Ty.wM.1 hA,Ty.wM.1 hB⟩)
    |false=>show Aa (.bool false) true _ _;rw[Ai];exact no (f7.trans f8)
 ·rintro I q ⟨H4,n4,v,xs,rfl,hj⟩
  show GX lfp G (Runs F G) k I (.ptr gp 0) (.ptr n 0) (.ptr (n+1) 0) v s.vv (.int .i64 (.ofNat Γ.length) 0) (.int .i64 (.ofNat Γ.length) 0) H4 n4
  delta GX
  rw[Dl,AQ,decide_eq_false (Nat.lt_irrefl _),Ai]
  delta NP
  obtain⟨f4,m4,b1,b2,hn4,hsk,hxs,hxl⟩:=hj
  have hel:=hsk.el (G:=G) (by omega)
  refine AB hel.len (AB (CY ..) ?_)
  rw[List.length_map]
  cases xs with
  |nil=>
   rw[show decide (([]:List St).length=0)=true from rfl,A8]
   refine AB (v:=.agg teZ) rfl ?_
   refine Bq b2 rfl rfl (by omega) λH5 g5 s5=>?_
   rw[Cm (m:=11) g5 (by omega) rfl]
   simp only[go_sem]
   have f5:Fg gp H n H5 n4:=⟨f4.le,λid hid hne=>(s5 id (by omega)).trans (f4.same id hid hne)⟩
   exact hk1 _ _ f5 ⟨(s5 gp (by omega)).trans m4.g,h.pk⟩
  |cons x xs=>
   rw[decide_eq_false (by simp),Ai]
   refine AB hel.len ?_
   rw[List.length_map]
   have hln:(x::xs).length<=1000:=by have:=hv.lt;omega
   refine JB m4 (by simp) (by omega) hs λH5 r a hr ha m5 same5=>?_
   have ACx:El G H5 v 1 ((x::xs).map λx=>[x.v]):=hel.same λid hid=>same5 id λe=>by have:=(hsk.own hid).1;omega
   obtain⟨p,hp,hld⟩:=ACx.at (i:=r) (c:=[(x::xs)[r].v]) (by rw[List.getElem?_map,List.getElem?_eq_getElem hr];rfl)
   obtain⟨f,hf,hnm,hfit⟩:=hxs _ (List.getElem_mem hr)
   rw[<-hnm]at hld
   refine AB hp (AB (qR hld) ?_)
   refine vJ (nm:=f.nm) (.inl rfl) λH6 n6 f6=>?_
   have b5:T.get H5 (n+1)=some (one teZ):=(same5 _ (by omega)).trans b2
   have b6:=f6.get b5 (by omega)
   refine Bq b6 rfl rfl (by omega) λH7 g7 s7=>?_
   rw[Cm (m:=11) g7 (by omega) rfl]
   simp only[go_sem]
   have m6:Uw G H7 gp (s.to a):=⟨(s7 gp (by omega)).trans (f6.get m5.g (by omega)),h.pk⟩
   have f7:Fg gp H n H7 n6:=⟨Nat.le_trans f4.le f6.le,λid hid hne=>(s7 id (by omega)).trans ((f6.same id (Nat.lt_of_lt_of_le hid f4.le)).trans ((same5 id hne).trans (f4.same id hid hne)))⟩
   exact hk2 _ _ f a hf hfit ha f7 m6
end
def Rg(a b:Nat):Nat->Prop:=λid=>a<=id/\id<b
structure aW(inn:St)(Γ:List DJ)(e:Te)(t:Ty):Prop where
 ex:∃u,Rq t u/\Gd inn Γ e u/\(e.kind≠4->u≠IE)
theorem aW.of{inn:St}{Γ:List DJ}{e:Te}{t u:Ty}(hu:Rq t u)(h:Gd inn Γ e u)(hk:u≠IE):aW inn Γ e t:=⟨u,hu,h,λ_=>hk⟩
structure Mk(G:AX)(H:Heap)(n gp:Nat)(s:Mg)(Γ:List DJ):Prop where
 m:Uw G H gp s
 g:gp<n
 v:AO7 G H n gp s.vv Γ
 gam:Gam Γ s.names
 inn:s.inn=(0,0)∨s.inn=nA∨s.inn=nB
theorem Mk.fg{G:AX}{H H':Heap}{n n' gp a:Nat}{s:Mg}{Γ:List DJ}(h:Mk G H n gp s Γ)(f:Fg gp H n H' n')(m:Uw G H' gp (s.to a)):Mk G H' n' gp (s.to a) Γ:=
 ⟨m,Nat.lt_of_lt_of_le h.g f.le,h.v.fg f,h.gam,h.inn⟩
theorem Mk.kp{G:AX}{H H':Heap}{n n' gp:Nat}{s:Mg}{Γ:List DJ}(h:Mk G H n gp s Γ)(f:Kp H n H' n'):Mk G H' n' gp s Γ:=
 ⟨⟨f.get h.m.g h.g,h.m.pk⟩,Nat.lt_of_lt_of_le h.g f.le,h.v.fg (.kp f),h.gam,h.inn⟩
def EPost(G:AX)(H:Heap)(n gp:Nat)(s:Mg)(Γ:List DJ)(t:Ty)(c:Nat)(k:KV):Prop:=
 ∀H' n' a l e,Fg gp H n H' n'->Uw G H' gp (s.to a)->a<=s.at'+c->FQ G H' (Rg n n') l e->aW s.inn Γ e t->k (.agg l) H' n'
def cst:Nat->Nat
 |0=>10
 |d+1=>10+3*cst d
def mg(G:AX)(gp d:Nat):Prop:=∀(t:Ty) (H:Heap) (n:Nat) (s:Mg) (Γ:List DJ) (k:KV),Lh t->Mk G H n gp s Γ->s.at'+cst d+2<1000000000000->EPost G H n gp s Γ t (cst d) k->Runs F G Aj [.ptr gp 0,t.v,.int .i64 (.ofNat d) 0] H n k
theorem FQ.fg{G:AX}{H H':Heap}{a b n' gp:Nat}{l:LV}{e:Te}(h:FQ G H (Rg a b) l e)(hg:gp<a)(f:Fg gp H b H' n'):FQ G H' (Rg a n') l e:=
 h.mono (λid hid=>⟨hid.1,Nat.lt_of_lt_of_le hid.2 f.le⟩) λid hid=>f.same id hid.2 λe=>by have:=hid.1;omega
theorem FQ.kp'{G:AX}{H H':Heap}{a b n':Nat}{l:LV}{e:Te}(h:FQ G H (Rg a b) l e)(f:Kp H b H' n'):FQ G H' (Rg a n') l e:=
 h.mono (λid hid=>⟨hid.1,Nat.lt_of_lt_of_le hid.2 f.le⟩) λid hid=>f.same id hid.2
section
variable{G:AX}{H:Heap}{n a:Nat}{P:KV}{Z:LV}
theorem WA{l:LV}{e:Te}(h:FQ G H (Rg a n) l e)(ha:a<=n)(hk:∀H',Kp H n H' (n+1)->QI G H' (Rg a (n+1)) (.sl n 0 1 1 11) [e]->P (.sl n 0 1 1 11) H' (n+1)):BZ (Ah 11 1 Z [(0,.c (.agg l))] E0) H n P:=by
 refine TD (G:=G) (vs:=[.agg l]) rfl (by omega) (λv hv=>by simp at hv;subst hv;exact⟨rfl,h.len⟩) λH' f _ hel=>?_
 refine hk H' f ⟨[l],hel,AHh (Nat.le_refl _),rfl,rfl,λid hid=>by cases hid;exact⟨ha,Nat.lt_succ_self _⟩,.cons (h.kp' f) .nil⟩
theorem gV{l1 l2:LV}{e1 e2:Te}(h1:FQ G H (Rg a n) l1 e1)(h2:FQ G H (Rg a n) l2 e2)(ha:a<=n)(hk:∀H',Kp H n H' (n+1)->QI G H' (Rg a (n+1)) (.sl n 0 2 2 11) [e1,e2]->P (.sl n 0 2 2 11) H' (n+1)):BZ (Ah 11 2 Z [(0,.c (.agg l1)),(1,.c (.agg l2))] E0) H n P:=by
 refine TD (G:=G) (vs:=[.agg l1,.agg l2]) rfl (by omega) (λv hv=>by simp at hv;rcases hv with rfl|rfl;exact⟨rfl,h1.len⟩;exact⟨rfl,h2.len⟩) λH' f _ hel=>?_
 refine hk H' f ⟨[l1,l2],hel,AHh (Nat.le_refl _),rfl,rfl,λid hid=>by cases hid;exact⟨ha,Nat.lt_succ_self _⟩,.cons (h1.kp' f) (.cons (h2.kp' f) .nil)⟩
theorem Xf{kind:Nat}{nm:St}{id m:Nat}{es:List Te}{k:KV}(h:QI G H (Rg a n) (.sl id 0 m m 11) es)(hk:∀H' n' l,Kp H n H' n'->FQ G H' (Rg a n') l (.mk kind 0 nm OU OU (0,0) es)->k (.agg l) H' n'):
 Runs F G Ak [.int .i64 (.ofNat kind) 0,nm.v,.sl id 0 m m 11] H n k:=
 vJ (.inr ⟨_,_,_,_,_,rfl⟩) λH' n' f=>hk H' n' _ f (FQ.of (h.mono (λid hid=>⟨hid.1,Nat.lt_of_lt_of_le hid.2 f.le⟩) λid hid=>f.same id hid.2))
theorem AMu{kind:Nat}{nm:St}{k:KV}(hk:∀H' n' l,Kp H n H' n'->FQ G H' (Rg a n') l (.mk kind 0 nm OU OU (0,0) [])->k (.agg l) H' n'):Runs F G Ak [.int .i64 (.ofNat kind) 0,nm.v,.Ag] H n k:=
 vJ (.inl rfl) λH' n' f=>hk H' n' _ f (FQ.of .nil)
theorem AFm{b:Nat}{l L0:LV}{e:Te}{k:KV}(hb:T.get H b=some (one L0))(h0:L0.length=11)(he:FQ G H (Rg a n) l e)(hba:b<a)(hk:∀H',(∀id,id≠b->T.get H' id=T.get H id)->FQ G H' (Rg a n) l e->k (.agg l) H' n):
 BL 11 (.ptr b 0) (.agg l) H n λ_ H n=>Dz (BA [.cn (.ptr b 0) 11] G H) λl=>k (CG l) H n:=by
 refine Bq hb h0 he.len (by omega) λH' g s=>?_
 rw[Cm (m:=11) g (by omega) he.len]
 simp only[go_sem]
 exact hk H' s (he.mono (λ_ h=>h) λid hid=>s id λe=>by have:=hid.1;omega)
end
theorem FQ.kd{G:AX}{H:Heap}{A:Nat->Prop}{c:LV}{e:Te}(h:FQ G H A c e):c[0]? =some (.int .i64 (.ofNat e.kind) 0):=by cases h;rfl
theorem AZQ{cl:St}(hcl:cl=nA∨cl=nB){u:Ty}(r:Rq ⟨cl,false⟩ u)(hn:u≠IE):(u=tA∨u=tB)/\(cl=nB->u=tB):=by
 rcases hcl with rfl|rfl
 ·have key:∀t,Rq t u->t=tA->u=tA∨u=tB:=by
   intro t r ht
   cases r with
   |same=>exact .inl ht
   |ba=>exact .inr rfl
   |na=>exact absurd rfl hn
   |nb=>exact absurd rfl hn
  exact⟨key _ r rfl,λh=>by cases h⟩
 ·have key:∀t,Rq t u->t=tB->u=tB:=by
   intro t r ht
   cases r with
   |same=>exact ht
   |ba=>rfl
   |na=>exact absurd rfl hn
   |nb=>exact absurd rfl hn
  exact⟨.inr (key _ r rfl),λ_=>key _ r rfl⟩
section
variable{G:AX}{H:Heap}{n gp:Nat}{s:Mg}{Γ:List DJ}{k:KV}
theorem ANb{b c a:Nat}{l L0:LV}{e:Te}(hb:T.get H b=some (one L0))(h0:L0.length=11)(hc:T.get H c=some (one l))(he:FQ G H (Rg a n) l e)(hba:b<a)(hk:∀H',(∀id,id≠b->T.get H' id=T.get H id)->FQ G H' (Rg a n) l e->k (.agg l) H' n):
 Gv lfp G (Runs F G) k (.ptr b 0) (.ptr c 0) H n:=by
 delta Gv
 refine AB (BI (m:=11) hc (by omega) he.len) ?_
 exact AFm hb h0 he hba hk
theorem xR{d:Nat}{cl:St}(hE:mg G gp d)(hcl:cl=nA∨cl=nB)(h:Mk G H n gp s Γ)(hs:s.at'+cst d+2<1000000000000)
 (hk:∀H' n' a l e u,Fg gp H n H' n'->Uw G H' gp (s.to a)->a<=s.at'+cst d->FQ G H' (Rg n n') l e->Gd s.inn Γ e u->(u=tA∨u=tB)->(cl=nB->u=tB)->k (.agg l) H' n'):
 Runs F G Bc [.ptr gp 0,cl.v,.int .i64 (.ofNat d) 0] H n k:=by
 refine go3 (mX BK G) ?_
 delta Wi
 have hgn:=h.g
 refine Au rfl λH1 f1 g1=>?_
 refine bW (l:=cl.1) (c:=cl.2) λH2 n2 f2=>?_
 have f12:=f1.trans f2
 have hn2:=f2.le
 have htm:Lh ⟨cl,false⟩:=by rcases hcl with rfl|rfl;exact .inr (.inr (.inl rfl));exact .inr (.inr (.inr (.inl rfl)))
 refine hE ⟨cl,false⟩ H2 n2 s Γ _ htm (h.kp f12) hs λH3 n3 a l e f3 m3 ha he hgd=>?_
 have hn3:=f3.le
 have g3:=f3.get (f2.get g1 (by omega)) (by omega) (by omega)
 refine Au rfl λH4 f4 g4=>?_
 refine Bq g4 rfl he.len (by omega) λH5 g5 s5=>?_
 have f45:Kp H3 n3 H5 (n3+1):=⟨f4.le,λid hid=>(s5 id (by omega)).trans (f4.same id hid)⟩
 have g35:=f45.get g3 (by omega)
 have he5:FQ G H5 (Rg n2 (n3+1)) l e:=he.kp' f45
 have m5:Uw G H5 gp (s.to a):=⟨f45.get m3.g (by omega),m3.pk⟩
 have f5:Fg gp H n H5 (n3+1):=((Fg.kp f12).trans f3).trans (.kp f45)
 rw[Dk,AQ]
 refine AB (AV (off:=0) g5 he5.kd) (AB (CY ..) ?_)
 cases hk4:decide (e.kind=4)with
 |true=>
  rw[A8]
  refine vJ (kind:=10) (nm:=(0,0)) (.inl rfl) λH6 n6 f6=>?_
  have hn6:=f6.le
  have g56:=f6.get g5 (by omega)
  refine Bq g56 he.len rfl (by omega) λH7 g7 s7=>?_
  refine bW (l:=cl.1) (c:=cl.2) λH8 n8 f8=>?_
  have hn8:=f8.le
  have g8:=f8.get g7 (by omega)
  rw[Ae,AQ]
  refine Ib (off:=0+5) (m:=2) (v:=Ty.v ⟨cl,false⟩) g8 rfl rfl (by omega) (by show 0+5+2<=11;omega) λH9 g9 s9=>?_
  have same:∀id,id<n3->T.get H9 id=T.get H5 id:=λid hid=>(s9 id (by omega)).trans ((f8.same id (by omega)).trans ((s7 id (by omega)).trans (f6.same id (by omega))))
  refine ANb (a:=n+1) (b:=n) (L0:=teZ) (e:=.mk 10 0 (0,0) ⟨cl,false⟩ OU (0,0) []) ((same n (by omega)).trans g35) rfl g9 (FQ.of .nil) (Nat.lt_succ_self _) λH10 s10 he10=>?_
  refine hk H10 n8 a _ _ ⟨cl,false⟩ ?_ ?_ ha (he10.mono (λid hid=>⟨by have:=hid.1;omega,hid.2⟩) λ_ _=>rfl) (Gd.new (by rcases hcl with rfl|rfl;exact .inl rfl;exact .inr rfl)) (by rcases hcl with rfl|rfl;exact .inl rfl;exact .inr rfl) λe=>by rw[e];rfl
  ·exact⟨by omega,λid hid hne=>(s10 id (by omega)).trans ((same id (by omega)).trans (f5.same id hid hne))⟩
  ·exact⟨(s10 gp (by omega)).trans ((same gp (by omega)).trans m5.g),m5.pk⟩
 |false=>
  rw[Ai]
  refine ANb (a:=n2) (b:=n) (L0:=teZ) g35 rfl g5 he5 (by omega) λH10 s10 he10=>?_
  obtain⟨u,r,hu,hnn⟩:=hgd.ex
  obtain⟨q1,q2⟩:=AZQ hcl r (hnn (of_decide_eq_false hk4))
  refine hk H10 (n3+1) a _ _ u ?_ ⟨(s10 gp (by omega)).trans m5.g,m5.pk⟩ ha (he10.mono (λid hid=>⟨by have:=hid.1;omega,hid.2⟩) λ_ _=>rfl) hu q1 q2
  exact⟨by omega,λid hid hne=>(s10 id (by omega)).trans (f5.same id hid hne)⟩
end
theorem ACF{t u:Ty}(h:t.nm≠u.nm):t≠u:=λe=>h (congrArg Ty.nm e)
theorem int_ne:Cb≠IE:=ACF (by decide)
theorem ZU:BM≠IE:=ACF (by decide)
theorem ARV:tIs≠IE:=ACF (by decide)
theorem APr:tA≠IE:=ACF (by decide)
theorem APU:tB≠IE:=ACF (by decide)
theorem Rq.AQE{t u:Ty}(r:Rq t u)(hA:t≠tA)(hB:t≠tB):u=t:=by
 cases r with
 |same=>rfl
 |ba=>exact absurd rfl hA
 |na=>exact absurd rfl hA
 |nb=>exact absurd rfl hB
theorem aW.AQE{inn:St}{Γ:List DJ}{e:Te}{t:Ty}(h:aW inn Γ e t)(hA:t≠tA)(hB:t≠tB):Gd inn Γ e t:=by
 obtain⟨u,r,hu,_⟩:=h.ex
 rw[<-r.AQE hA hB];exact hu
theorem aW.int{inn:St}{Γ:List DJ}{e:Te}(h:aW inn Γ e Cb):Gd inn Γ e Cb:=h.AQE (ACF (by decide)) (ACF (by decide))
theorem aW.bool{inn:St}{Γ:List DJ}{e:Te}(h:aW inn Γ e BM):Gd inn Γ e BM:=h.AQE (ACF (by decide)) (ACF (by decide))
theorem aW.is{inn:St}{Γ:List DJ}{e:Te}(h:aW inn Γ e tIs):Gd inn Γ e tIs:=h.AQE (λe=>by have:=congrArg Ty.arr e;cases this) (λe=>by have:=congrArg Ty.arr e;cases this)
theorem ADJ{f:Nat}{a b:V}{call:BG}{H:Heap}{n:Nat}{k:KV}:D7 (.fn f [] [a,b]) [] call H n k=call f [a,b] H n k:=rfl
theorem jE{f:Nat}{a b x:V}{call:BG}{H:Heap}{n:Nat}{k:KV}:D7 (.fn f [] [a,b]) [x] call H n k=call f [x,a,b] H n k:=rfl
structure Bx(H:Heap)(n b gp d:Nat):Prop where
 b1:T.get H b=some (one [.ptr gp 0])
 b2:T.get H (b+1)=some (one [.int .i64 (.ofNat (d+1)) 0])
 b3:T.get H (b+2)=some (one teZ)
 le:b+3<=n
 g:gp<b
theorem Bx.fg{H H':Heap}{n n' b gp d:Nat}(h:Bx H n b gp d)(f:Fg gp H n H' n'):Bx H' n' b gp d:=by
 have:=h.le;have:=h.g
 exact⟨f.get h.b1 (by omega) (by omega),f.get h.b2 (by omega) (by omega),f.get h.b3 (by omega) (by omega),Nat.le_trans h.le f.le,h.g⟩
theorem Bx.same{H H':Heap}{n n' b gp d:Nat}(h:Bx H n b gp d)(hn:n<=n')(hs:∀id,b<=id->id<b+3->T.get H' id=T.get H id):Bx H' n' b gp d:=
 ⟨(hs b (by omega) (by omega)).trans h.b1,(hs (b+1) (by omega) (by omega)).trans h.b2,(hs (b+2) (by omega) (by omega)).trans h.b3,Nat.le_trans h.le hn,h.g⟩
theorem Bx.kp{H H':Heap}{n n' b gp d:Nat}(h:Bx H n b gp d)(f:Kp H n H' n'):Bx H' n' b gp d:=h.fg (.kp f)
theorem AKm(i o:Nat):Ar (.ptr i o) (.ptr i o)=true:=by
 show band (Nat.beq i i) (Nat.beq o o)=true
 rw[EZ,EZ];rfl
theorem ALI(q:IntKind)(a:Int):Ar (.int q a 0) (.int q a 0)=true:=AAI q a
theorem AEm(d:Nat)(hd:d<1000):B2.ev .sub (.int .i64 (.ofNat (d+1)) 0) (.int .i64 (.ofNat 1) 0)=some (.int .i64 (.ofNat d) 0):=AWe (a:=d+1) (b:=1) (by omega) (by omega)
section
variable{G:AX}{H:Heap}{n gp d b:Nat}{s:Mg}{Γ:List DJ}{k:KV}
theorem ABL(hk:∀H' n',Kp H n H' n'->k tIs.v H' n'):Runs F G FI [] H n k:=by
 refine go0 (AB3 BK G) ?_
 delta lM
 refine Au rfl λH1 f1 g1=>?_
 refine AB (v:=tIs.v) rfl ?_
 refine Bq g1 rfl rfl (by omega) λH2 g2 s2=>?_
 rw[Cm (m:=2) g2 (by omega) rfl]
 simp only[go_sem]
 exact hk _ _ ⟨f1.le,λid hid=>(s2 id (by omega)).trans (f1.same id hid)⟩
theorem AD5(hE:mg G gp d)(hd:d<1000)(h:Mk G H n gp s Γ)(hb:Bx H n b gp d)(hs:s.at'+cst d+2<1000000000000)(hk:EPost G H n gp s Γ Cb (cst d) k):Runs F G FB [.ptr b 0,.ptr (b+1) 0] H n k:=by
 refine go2 (ig BK G) ?_
 delta VQ
 have hgn:=h.g
 refine Au rfl λH1 f1 g1=>?_
 have hb1:=hb.kp f1
 refine AB (AV (off:=0) hb1.b1 rfl) (AB (AV (off:=0) hb1.b2 rfl) ?_)
 rw[AEm d hd,AQ]
 refine JL λH2 n2 f2=>?_
 have hn2:=f2.le
 have hb2:=hb1.kp f2
 refine AB (AV (off:=0) hb2.b1 rfl) (Bd (AKm ..) (AB (AV (off:=0) hb2.b2 rfl) (Bd (ALI ..) ?_)))
 have f12:=f1.trans f2
 refine hE Cb H2 n2 s Γ _ (.inl rfl) (h.kp f12) hs λH3 n3 a l e f3 m3 ha he hgd=>?_
 have hn3:=f3.le
 have g3:=f3.get (f2.get g1 (by omega)) (by omega) (by omega)
 refine AFm g3 rfl he (by omega) λH4 s4 he4=>?_
 refine hk H4 n3 a l e ?_ ⟨(s4 gp (by omega)).trans m3.g,m3.pk⟩ ha (he4.mono (λid hid=>⟨by have:=hid.1;omega,hid.2⟩) λ_ _=>rfl) hgd
 exact⟨by omega,λid hid hne=>(s4 id (by omega)).trans (((Fg.kp f12).trans f3).same id hid hne)⟩
theorem ADv{vs:List V}{m:Nat}{P:KV}(hm:vs.length=m)(hv:∀v∈vs,jc v=true/\(Bl v).length=1)(hk:∀H',Kp H n H' (n+1)->El G H' (.sl n 0 m m 1) 1 (vs.map Bl)->P (.sl n 0 m m 1) H' (n+1)):BZ (Ah 1 m [.str 0 0] (AJv 0 vs) E0) H n P:=
 TD (G:=G) hm (by omega) hv λH' f _ hel=>hk H' f hel
def W1(G:AX)(H:Heap)(v:V)(ws:List St):Prop:=El G H v 1 (ws.map λx=>[x.v])
theorem W1.at{G:AX}{H:Heap}{v:V}{ws:List St}(h:W1 G H v ws){r:Nat}(hr:r<ws.length):∃p,Az 1 v (.int .i64 (.ofNat r) 0)=some p/\AY p G H=some (ws[r].v):=by
 obtain⟨p,hp,hld⟩:=El.at h (i:=r) (c:=[ws[r].v]) (by rw[List.getElem?_map,List.getElem?_eq_getElem hr];rfl)
 exact⟨p,hp,qR hld⟩
theorem W1.again{G:AX}{H':Heap}{v p:V}{ws:List St}(h':W1 G H' v ws){r:Nat}(hr:r<ws.length)(hp:Az 1 v (.int .i64 (.ofNat r) 0)=some p):AY p G H'=some (ws[r].v):=by
 obtain⟨p',hp',hl⟩:=h'.at hr
 rw[hp]at hp';cases hp';exact hl
theorem W1.fg{G:AX}{H H':Heap}{n n' gp id m:Nat}{ws:List St}(h:W1 G H (.sl id 0 m m 1) ws)(f:Fg gp H n H' n')(hid:id<n)(hg:id≠gp):W1 G H' (.sl id 0 m m 1) ws:=
 El.same h λj hj=>by cases hj;exact f.same id hid hg
theorem AG9(x:St):Ar x.v x.v=true:=ny ..
theorem iC{c a0 n0:Nat}{t:Ty}{H0:Heap}{l:LV}{e:Te}{a:Nat}(hp:EPost G H0 n0 gp s Γ t c k)(hb:Bx H n b gp d)(hb0:n0<=b)(f:Fg gp H0 n0 H n)(m:Uw G H gp (s.to a))(ha:a<=s.at'+c)(ha0:b+2<a0)
 (he:FQ G H (Rg a0 n) l e) (hg:aW s.inn Γ e t) (hgn:gp<n0):BL 11 (.ptr (b+2) 0) (.agg l) H n λ_ H n=>Dz (BA [.cn (.ptr (b+2) 0) 11] G H) λl=>k (CG l) H n:=by
 have:=hb.g
 refine AFm hb.b3 rfl he ha0 λH4 s4 he4=>?_
 refine hp H4 n a l e ⟨f.le,λid hid hne=>(s4 id (by omega)).trans (f.same id hid hne)⟩ ⟨(s4 gp (by omega)).trans m.g,m.pk⟩ ha (he4.mono (λid hid=>⟨by have:=hid.1;omega,hid.2⟩) λ_ _=>rfl) hg
end
theorem AGP(d:Nat):B2.ev .leq (.int .i64 (.ofNat d) 0) (.int .i64 (.ofNat 0) 0)=some (.bool (decide (d<=0))):=AL8 ..
def ws2:List St:=[nA,nB]
def ops5:List St:=[AVn,AVg,AVT,AUx,AV0]
section
variable{G:AX}{H:Heap}{n gp d:Nat}{s:Mg}{Γ:List DJ}{k:KV}
theorem AWr(h:Mk G H n gp s Γ)(hs:s.at'<1000000000000-10)(hk:EPost G H n gp s Γ Cb (cst 0-2) k):Runs F G Ez [.ptr gp 0,.int .i64 (.ofNat 0) 0] H n k:=by
 refine go2 (WM BK G) ?_
 delta Q8
 have hgn:=h.g
 refine DY λH1 f1 g1=>?_
 refine DY λH2 f2 g2=>?_
 refine Au rfl λH3 f3 g3=>?_
 have g1:=f3.get (f2.get g1 (by omega)) (by omega)
 have g2:=f3.get g2 (by omega)
 have f:=(f1.trans f2).trans f3
 refine AB (AV (off:=0) g2 rfl) (AB (AGP 0) ?_)
 rw[decide_eq_true (Nat.le_refl 0),A8]
 refine AB (AV (off:=0) g1 rfl) ?_
 have h3:=h.kp f
 refine JB h3.m (by omega) (by omega) (by omega) λH4 r a hr ha m4 s4=>?_
 refine AU1 λH5 n5 f5=>?_
 have hn5:=f5.le
 have g5:=f5.get ((s4 (n+1+1) (by omega)).trans g3) (by omega)
 refine AFm (a:=n+1+1+1) (e:=.mk 1 r (0,0) OU OU (0,0) []) g5 rfl (FQ.of .nil) (by omega) λH6 s6 he6=>?_
 refine hk H6 n5 a _ _ ⟨by omega,λid hid hne=>(s6 id (by omega)).trans ((f5.same id (by omega)).trans ((s4 id hne).trans (f.same id hid)))⟩ ⟨(s6 gp (by omega)).trans (f5.get m4.g (by omega)),m4.pk⟩ (by unfold cst;omega) (he6.mono (λid hid=>⟨by have:=hid.1;omega,hid.2⟩) λ_ _=>rfl) ⟨Cb,.same _,Gd.num,λ_=>int_ne⟩
theorem AYa(hE:mg G gp d)(hd:d<1000)(h:Mk G H n gp s Γ)(hs:s.at'+cst (d+1)<1000000000000)(hk:EPost G H n gp s Γ Cb (cst (d+1)-2) k):Runs F G Ez [.ptr gp 0,.int .i64 (.ofNat (d+1)) 0] H n k:=by
 refine go2 (WM BK G) ?_
 delta Q8
 have hgn:=h.g
 have hc:cst (d+1)=10+3*cst d:=rfl
 refine DY λH1 f1 g1=>?_
 refine DY λH2 f2 g2=>?_
 refine Au rfl λH3 f3 g3=>?_
 have bx:Bx H3 (n+1+1+1) n gp d:=⟨f3.get (f2.get g1 (by omega)) (by omega),f3.get g2 (by omega),g3,by omega,hgn⟩
 have f0:=(f1.trans f2).trans f3
 have mk:=h.kp f0
 have fg0:=Fg.kp (gp:=gp) f0
 clear f1 f2 f3 g1 g2 g3 f0
 generalize hn3:n+1+1+1=n3 at*
 have hle:=bx.le
 refine AB (AV (off:=0) bx.b2 rfl) (AB (AGP (d+1)) ?_)
 rw[decide_eq_false (by omega),Ai]
 refine AB (AV (off:=0) bx.b1 rfl) ?_
 refine JB mk.m (by omega) (by omega) (by omega) λH4 r a1 hr ha1 m4 s4=>?_
 have f4:Fg gp H3 n3 H4 n3:=⟨Nat.le_refl _,λid _ hne=>s4 id hne⟩
 have fg4:=fg0.trans f4
 have bx4:=bx.fg f4
 have mk4:=mk.fg f4 m4
 refine AB (CY ..) ?_
 cases h0:decide (r=0)with
 |true=>
  rw[A8]
  refine AB (AV (off:=0) bx4.b1 rfl) (AB (AV (off:=0) bx4.b2 rfl) ?_)
  rw[AEm d hd,AQ]
  refine xR (cl:=nA) hE (.inl rfl) mk4 (by show a1+cst d+2<_;omega) λH5 n5 a2 l e u f5 m5 ha2 he hu huc _=>?_
  have hn5:=f5.le
  refine WA he hn5 λH6 f6 hes=>?_
  refine Xf (nm:=n_x) (es:=[e]) hes λH7 n7 l7 f7 he7=>?_
  have f67:=f6.trans f7
  refine iC hk ((bx4.fg f5).kp f67) (Nat.le_refl _) ((fg4.trans f5).trans (.kp f67)) ⟨f67.get m5.g (by omega),m5.pk⟩ (a:=a2) (by have:a2<=a1+cst d:=ha2;omega) (by omega) he7 (.of (.same _) (Gd.get hu huc rfl (by decide)) int_ne) hgn
 |false=>
 rw[Ai]
 refine AB (CY ..) ?_
 cases h1:decide (r=1)with
 |true=>
  rw[A8]
  refine AB (AV (off:=0) bx4.b1 rfl) (AB (AV (off:=0) bx4.b2 rfl) ?_)
  rw[AEm d hd,AQ]
  refine xR (cl:=nA) hE (.inl rfl) mk4 (by show a1+cst d+2<_;omega) λH5 n5 a2 l e u f5 m5 ha2 he hu huc _=>?_
  have hn5:=f5.le
  have ha2:a2<=a1+cst d:=ha2
  have mk5:=mk4.fg f5 m5
  have pO:=bx4.fg f5
  rw[ADJ]
  refine AD5 hE hd mk5 pO (by show a2+cst d+2<_;omega) λH6 n6 a3 l2 e2 f6 m6 aB he2 hg2=>?_
  have hn6:=f6.le
  have aB:a3<=a2+cst d:=aB
  have he6:=he.fg (by omega) f6
  have he2':FQ G H6 (Rg n3 n6) l2 e2:=he2.mono (λid hid=>⟨by have:=hid.1;omega,hid.2⟩) λ_ _=>rfl
  refine gV he6 he2' (by omega) λH7 f7 hes=>?_
  refine Xf (nm:=Zx) (es:=[e,e2]) hes λH8 n8 l8 f8 he8=>?_
  have f78:=f7.trans f8
  refine iC hk ((pO.fg f6).kp f78) (Nat.le_refl _) (((fg4.trans f5).trans f6).trans (.kp f78)) ⟨f78.get m6.g (by omega),m6.pk⟩ (a:=a3) (by omega) (by omega) he8 (.of (.same _) (Gd.AYj hu huc hg2.int) int_ne) hgn
 |false=>
 rw[Ai]
 refine AB (CY ..) ?_
 cases h2:decide (r=2)with
 |true=>
  rw[A8]
  refine AB (AV (off:=0) bx4.b1 rfl) (AB (AV (off:=0) bx4.b2 rfl) ?_)
  rw[AEm d hd,AQ]
  refine Au rfl λH5 f5 g5=>?_
  have pO:=bx4.kp f5
  have mk5:=mk4.kp f5
  rw[ADJ]
  refine AD5 hE hd mk5 pO (by show a1+cst d+2<_;omega) λH6 n6 a2 l e f6 m6 ha2 he hg1=>?_
  have hn6:=f6.le
  have ha2:a2<=a1+cst d:=ha2
  have bx6:=pO.fg f6
  have mk6:=mk5.fg f6 m6
  have g6:=f6.get g5 (by omega) (by omega)
  refine AB (AV (off:=0) bx6.b1 rfl) (Bd (AKm ..) (AB (AV (off:=0) bx6.b2 rfl) (Bd (ALI ..) ?_)))
  refine bW (l:=1) (c:=65) λH7 n7 f7=>?_
  have hn7:=f7.le
  have bx7:=bx6.kp f7
  refine AB (AV (off:=0) bx7.b1 rfl) (Bd (AKm ..) (AB (AV (off:=0) bx7.b2 rfl) (Bd (ALI ..) ?_)))
  refine hE tA H7 n7 (s.to a2) Γ _ (.inr (.inr (.inl rfl))) (mk6.kp f7) (by show a2+cst d+2<_;omega) λH8 n8 a3 l2 e2 f8 m8 aB he2 hg2=>?_
  have hn8:=f8.le
  have aB:a3<=a2+cst d:=aB
  have g8:=f8.get (f7.get g6 (by omega)) (by omega) (by omega)
  have he8:=(he.kp' f7).fg (by omega) f8
  have he2':FQ G H8 (Rg (n3+1) n8) l2 e2:=he2.mono (λid hid=>⟨by have:=hid.1;omega,hid.2⟩) λ_ _=>rfl
  refine gV he8 he2' (by omega) λH9 f9 hes=>?_
  refine vJ (kind:=9) (nm:=ug) (.inr ⟨_,_,_,_,_,rfl⟩) λH10 n10 f10=>?_
  have hn10:=f10.le
  have hes10:=hes.mono (B:=Rg (n3+1) n10) (H':=H10) (λid hid=>⟨hid.1,by have:=hid.2;omega⟩) λid hid=>f10.same id hid.2
  have g10:=f10.get (f9.get g8 (by omega)) (by omega)
  refine Bq g10 rfl rfl (by omega) λH11 g11 s11=>?_
  have same11:∀id,id<n8->id≠n3->T.get H11 id=T.get H8 id:=λid hid e=>(s11 id e).trans ((f10.same id (by omega)).trans (f9.same id (by omega)))
  have bx11:Bx H11 n10 n gp d:=(bx7.fg f8).same (by omega) λid _ hid=>same11 id (by omega) (by omega)
  have m11:Uw G H11 gp (s.to a3):=⟨(same11 gp (by omega) (by omega)).trans m8.g,m8.pk⟩
  refine ADv (G:=G) (vs:=ws2.map St.v) rfl (λv hv=>by obtain⟨x,_,rfl⟩:=List.mem_map.1 hv;exact⟨rfl,rfl⟩) λH12 f12 hw=>?_
  have hw:W1 G H12 (.sl n10 0 2 2 1) ws2:=hw
  have bx12:=bx11.kp f12
  refine AB (AV (off:=0) bx12.b1 rfl) ?_
  have m12:Uw G H12 gp (s.to a3):=⟨f12.get m11.g (by omega),m11.pk⟩
  refine JB m12 (by omega) (by omega) (by show a3<_;omega) λH13 q a4 hq zu m13 s13=>?_
  have zu:a4<=a3+1:=zu
  have f13:Fg gp H12 (n10+1) H13 (n10+1):=⟨Nat.le_refl _,λid _ hne=>s13 id hne⟩
  have hw13:=hw.fg f13 (by omega) (by omega)
  obtain⟨p,hp,hld⟩:=hw13.at hq
  refine AB hp (AB hld ?_)
  refine bW (l:=ws2[q].1) (c:=ws2[q].2) λH14 n14 f14=>?_
  have hn14:=f14.le
  have g14:=f14.get (f13.get (f12.get g11 (by omega)) (by omega) (by omega)) (by omega)
  rw[Ae,AQ]
  refine Ib (off:=0+5) (m:=2) (v:=Ty.v ⟨ws2[q],false⟩) g14 rfl rfl (by omega) (by show 0+5+2<=11;omega) λH15 g15 s15=>?_
  refine AB (BI (m:=11) g15 (by omega) rfl) ?_
  have same15:∀id,id<n10->id≠n3->id≠gp->T.get H15 id=T.get H11 id:=λid hid e hne=>(s15 id e).trans ((f14.same id (by omega)).trans ((f13.same id (by omega) hne).trans (f12.same id hid)))
  have hes15:=hes10.mono (B:=Rg (n3+1) n14) (H':=H15) (λid hid=>⟨hid.1,by have:=hid.2;omega⟩) λid hid=>(same15 id (by have:=hid.2;omega) (by have:=hid.1;omega) (by have:=hid.1;omega)).trans (s11 id (by have:=hid.1;omega))
  have hty:({nm:=ws2[q],arr:=false}:Ty)=tA∨({nm:=ws2[q],arr:=false}:Ty)=tB:=by
   match q,hq with
   |0,_=>exact .inl rfl
   |1,_=>exact .inr rfl
  obtain⟨u,hu1,hu2,_⟩:=hg2.ex
  refine iC (a:=a4) (a0:=n3+1) (e:=.mk 9 0 ug ⟨ws2[q],false⟩ OU (0,0) [e,e2]) hk (bx12.same (n':=n14) (by omega) λid _ hid=>(s15 id (by omega)).trans ((f14.same id (by omega)).trans (f13.same id (by omega) (by omega)))) (Nat.le_refl _) ?_ ⟨(s15 gp (by omega)).trans (f14.get m13.g (by omega)),m13.pk⟩ (by omega) (by omega) (FQ.of hes15) (.of (.same _) (Gd.AbI hty hg1.int hu2 hu1) int_ne) hgn
  refine⟨by omega,λid hid hne=>(same15 id (by omega) (by omega) hne).trans ((same11 id (by omega) (by omega)).trans ?_)⟩
  exact(((((fg4.trans (.kp f5)).trans f6).trans (.kp f7)).trans f8).same id hid hne)
 |false=>
 rw[Ai]
 refine AB (CY ..) ?_
 cases h3:decide (r=3)with
 |true=>
  rw[A8]
  refine AB (AV (off:=0) bx4.b1 rfl) (AB (AV (off:=0) bx4.b2 rfl) ?_)
  rw[AEm d hd,AQ]
  refine ABL λH5 n5 f5=>?_
  have hn5:=f5.le
  have pO:=bx4.kp f5
  refine AB (AV (off:=0) pO.b1 rfl) (Bd (AKm ..) (AB (AV (off:=0) pO.b2 rfl) (Bd (ALI ..) ?_)))
  refine hE tIs H5 n5 (s.to a1) Γ _ (.inr (.inr (.inr (.inr rfl)))) (mk4.kp f5) (by show a1+cst d+2<_;omega) λH6 n6 a2 l e f6 m6 ha2 he hgd=>?_
  have hn6:=f6.le
  have ha2:a2<=a1+cst d:=ha2
  have mk6:=(mk4.kp f5).fg f6 m6
  have bx6:=pO.fg f6
  rw[ADJ]
  refine AD5 hE hd mk6 bx6 (by show a2+cst d+2<_;omega) λH7 n7 a3 l2 e2 f7 m7 aB he2 hg2=>?_
  have hn7:=f7.le
  have aB:a3<=a2+cst d:=aB
  have he7:=he.fg (by omega) f7
  have he2':FQ G H7 (Rg n5 n7) l2 e2:=he2.mono (λid hid=>⟨by have:=hid.1;omega,hid.2⟩) λ_ _=>rfl
  refine gV he7 he2' (by omega) λH8 f8 hes=>?_
  refine Xf (nm:=(0,0)) (es:=[e,e2]) hes λH9 n9 l9 f9 he9=>?_
  have f89:=f8.trans f9
  refine iC hk ((bx6.fg f7).kp f89) (Nat.le_refl _) ((((fg4.trans (.kp f5)).trans f6).trans f7).trans (.kp f89)) ⟨f89.get m7.g (by omega),m7.pk⟩ (a:=a3) (by omega) (by omega) he9 (.of (.same _) (Gd.elm hgd.is hg2.int) int_ne) hgn
 |false=>
 rw[Ai]
 refine AB (CY ..) ?_
 cases h4:decide (r=4)with
 |true=>
  rw[A8]
  refine AB (AV (off:=0) bx4.b1 rfl) (AB (AV (off:=0) bx4.b2 rfl) ?_)
  rw[AEm d hd,AQ]
  refine ABL λH5 n5 f5=>?_
  have hn5:=f5.le
  have pO:=bx4.kp f5
  refine AB (AV (off:=0) pO.b1 rfl) (Bd (AKm ..) (AB (AV (off:=0) pO.b2 rfl) (Bd (ALI ..) ?_)))
  refine hE tIs H5 n5 (s.to a1) Γ _ (.inr (.inr (.inr (.inr rfl)))) (mk4.kp f5) (by show a1+cst d+2<_;omega) λH6 n6 a2 l e f6 m6 ha2 he hgd=>?_
  have hn6:=f6.le
  have ha2:a2<=a1+cst d:=ha2
  refine WA he hn6 λH8 f8 hes=>?_
  refine Xf (nm:=(0,0)) (es:=[e]) hes λH9 n9 l9 f9 he9=>?_
  have f89:=f8.trans f9
  refine iC hk ((pO.fg f6).kp f89) (Nat.le_refl _) (((fg4.trans (.kp f5)).trans f6).trans (.kp f89)) ⟨f89.get m6.g (by omega),m6.pk⟩ (a:=a2) (by omega) (by omega) he9 (.of (.same _) (Gd.len hgd.is) int_ne) hgn
 |false=>
 rw[Ai]
 refine AB (CY ..) ?_
 cases h5:decide (r=5)with
 |true=>
  rw[A8,ADJ]
  refine AD5 hE hd mk4 bx4 (by show a1+cst d+2<_;omega) λH6 n6 a2 l e f6 m6 ha2 he hgd=>?_
  have hn6:=f6.le
  have ha2:a2<=a1+cst d:=ha2
  refine WA he hn6 λH8 f8 hes=>?_
  refine Xf (nm:=(0,0)) (es:=[e]) hes λH9 n9 l9 f9 he9=>?_
  have f89:=f8.trans f9
  refine iC hk ((bx4.fg f6).kp f89) (Nat.le_refl _) ((fg4.trans f6).trans (.kp f89)) ⟨f89.get m6.g (by omega),m6.pk⟩ (a:=a2) (by omega) (by omega) he9 (.of (.same _) (Gd.neg hgd.int) int_ne) hgn
 |false=>
 rw[Ai]
 refine ADv (G:=G) (vs:=ops5.map St.v) rfl (λv hv=>by obtain⟨x,_,rfl⟩:=List.mem_map.1 hv;exact⟨rfl,rfl⟩) λH5 f5 hw=>?_
 have hw:W1 G H5 (.sl n3 0 5 5 1) ops5:=hw
 have pO:=bx4.kp f5
 have mk5:=mk4.kp f5
 refine AB (AV (off:=0) pO.b1 rfl) ?_
 refine JB mk5.m (by omega) (by omega) (by show a1<_;omega) λH6 q a2 hq ha2 m6 s6=>?_
 have ha2:a2<=a1+1:=ha2
 have f6:Fg gp H5 (n3+1) H6 (n3+1):=⟨Nat.le_refl _,λid _ hne=>s6 id hne⟩
 have hw6:=hw.fg f6 (by omega) (by omega)
 have bx6:=pO.fg f6
 have mk6:=mk5.fg f6 m6
 obtain⟨p,hp,hld⟩:=hw6.at hq
 refine AB hp (AB hld ?_)
 rw[ADJ]
 refine AD5 hE hd mk6 bx6 (by show a2+cst d+2<_;omega) λH7 n7 a3 l e f7 m7 aB he hg1=>?_
 have hn7:=f7.le
 have aB:a3<=a2+cst d:=aB
 have hw7:=hw6.fg f7 (by omega) (by omega)
 refine AB (hw7.again hq hp) (Bd (AG9 _) ?_)
 have bx7:=bx6.fg f7
 have mk7:=mk6.fg f7 m7
 rw[ADJ]
 refine AD5 hE hd mk7 bx7 (by show a3+cst d+2<_;omega) λH8 n8 a4 l2 e2 f8 m8 zu he2 hg2=>?_
 have hn8:=f8.le
 have zu:a4<=a3+cst d:=zu
 have hw8:=hw7.fg f8 (by omega) (by omega)
 refine AB (hw8.again hq hp) (Bd (AG9 _) ?_)
 have he8:=he.fg (by omega) f8
 have he2':FQ G H8 (Rg (n3+1) n8) l2 e2:=he2.mono (λid hid=>⟨by have:=hid.1;omega,hid.2⟩) λ_ _=>rfl
 refine gV he8 he2' (by omega) λH9 f9 hes=>?_
 refine Xf (nm:=ops5[q]) (es:=[e,e2]) hes λH10 n10 l10 f10 he10=>?_
 have f910:=f9.trans f10
 refine iC hk ((bx7.fg f8).kp f910) (Nat.le_refl _) (((((fg4.trans (.kp f5)).trans f6).trans f7).trans f8).trans (.kp f910)) ⟨f910.get m8.g (by omega),m8.pk⟩ (a:=a4) (by omega) (by omega) he10 (.of (.same _) (Gd.ari (List.getElem_mem hq) hg1.int hg2.int) int_ne) hgn
end
theorem rqA{u:Ty}(r:Rq tA u):u=tA∨u=tB∨u=IE:=by
 have key:∀t,Rq t u->t=tA->u=tA∨u=tB∨u=IE:=by
  intro t r ht
  cases r with
  |same=>exact .inl ht
  |ba=>exact .inr (.inl rfl)
  |na=>exact .inr (.inr rfl)
  |nb=>exact .inr (.inr rfl)
 exact key _ r rfl
theorem AOG{u:Ty}(r:Rq tA u):(u.cls||u.is IE)=true:=by rcases rqA r with rfl|rfl|rfl<;>rfl
def wsE:List St:=[oU,oC]
def ws4:List St:=[xH,AAC,oU,oC]
section
variable{G:AX}{H:Heap}{n gp d b:Nat}{s:Mg}{Γ:List DJ}{k:KV}
theorem YC{t:Ty}(hE:mg G gp d)(hd:d<1000)(ht:Lh t)(h:Mk G H n gp s Γ)(hb:Bx H n b gp d)(hs:s.at'+cst d+2<1000000000000)(hk:EPost G H n gp s Γ t (cst d) k):Runs F G C9 [t.v,.ptr b 0,.ptr (b+1) 0] H n k:=by
 refine go3 (dG BK G) ?_
 delta UY
 have hgn:=h.g
 refine DY λH1 f1 g1=>?_
 refine Au rfl λH2 f2 g2=>?_
 have g1:=f2.get g1 (by omega)
 have f12:=f1.trans f2
 have hb2:=hb.kp f12
 refine AB (AV (off:=0) hb2.b1 rfl) (AB (DZ g1) (AB (AV (off:=0) hb2.b2 rfl) ?_))
 rw[AEm d hd,AQ]
 refine hE t H2 (n+1+1) s Γ _ ht (h.kp f12) hs λH3 n3 a l e f3 m3 ha he hgd=>?_
 have hn3:=f3.le
 have g3:=f3.get g2 (by omega) (by omega)
 refine AFm g3 rfl he (by omega) λH4 s4 he4=>?_
 refine hk H4 n3 a l e ?_ ⟨(s4 gp (by omega)).trans m3.g,m3.pk⟩ ha (he4.mono (λid hid=>⟨by have:=hid.1;omega,hid.2⟩) λ_ _=>rfl) hgd
 exact⟨by omega,λid hid hne=>(s4 id (by omega)).trans (((Fg.kp f12).trans f3).same id hid hne)⟩
theorem AUg(h:Mk G H n gp s Γ)(hs:s.at'<1000000000000-10)(hk:EPost G H n gp s Γ BM (cst 0-2) k):Runs F G JG [.ptr gp 0,.int .i64 (.ofNat 0) 0] H n k:=by
 refine go2 (VN BK G) ?_
 delta Py
 have hgn:=h.g
 refine DY λH1 f1 g1=>?_
 refine DY λH2 f2 g2=>?_
 refine Au rfl λH3 f3 g3=>?_
 have g1:=f3.get (f2.get g1 (by omega)) (by omega)
 have g2:=f3.get g2 (by omega)
 refine AB (AV (off:=0) g2 rfl) (AB (AGP 0) ?_)
 rw[decide_eq_true (Nat.le_refl 0),A8]
 refine TD (G:=G) (vs:=[.int .i64 (.ofNat 2) 0,.int .i64 (.ofNat 3) 0]) rfl (by omega) (λv hv=>by simp at hv;rcases hv with rfl|rfl<;>exact⟨rfl,rfl⟩) λH4 f4 _ hel=>?_
 have f:=((f1.trans f2).trans f3).trans f4
 refine AB (AV (off:=0) (f4.get g1 (by omega)) rfl) ?_
 have h4:=h.kp f
 refine JB h4.m (by omega) (by omega) (by omega) λH5 r a hr ha m5 s5=>?_
 have ACx:El G H5 (.sl (n+1+1+1) 0 2 2 1) 1 [[.int .i64 (.ofNat 2) 0],[.int .i64 (.ofNat 3) 0]]:=El.same hel λid hid=>by cases hid;exact s5 _ (by omega)
 obtain⟨kd,hkd,hk2⟩:∃kd,([[.int .i64 (.ofNat 2) 0],[.int .i64 (.ofNat 3) 0]]:Dy)[r]? =some [.int .i64 (.ofNat kd) 0]/\(kd=2∨kd=3):=by
  match r,hr with
  |0,_=>exact⟨2,rfl,.inl rfl⟩
  |1,_=>exact⟨3,rfl,.inr rfl⟩
 obtain⟨p,hp,hld⟩:=ACx.at hkd
 refine AB hp (AB (qR hld) ?_)
 refine AMu (a:=n+1+1+1+1) (nm:=(0,0)) λH6 n6 l6 f6 he6=>?_
 have hn6:=f6.le
 have g6:=f6.get ((s5 (n+1+1) (by omega)).trans (f4.get g3 (by omega))) (by omega)
 refine AFm g6 rfl he6 (by omega) λH7 s7 he7=>?_
 refine hk H7 n6 a _ _ ⟨by omega,λid hid hne=>(s7 id (by omega)).trans ((f6.same id (by omega)).trans ((s5 id hne).trans (f.same id hid)))⟩ ⟨(s7 gp (by omega)).trans (f6.get m5.g (by omega)),m5.pk⟩ (by unfold cst;omega) (he7.mono (λid hid=>⟨by have:=hid.1;omega,hid.2⟩) λ_ _=>rfl) (.of (.same _) ?_ ZU)
 rcases hk2 with rfl|rfl
 ·exact Gd.tru
 ·exact Gd.fls
end
section
variable{G:AX}{H:Heap}{n gp d:Nat}{s:Mg}{Γ:List DJ}{k:KV}
theorem AXe(hE:mg G gp d)(hd:d<1000)(h:Mk G H n gp s Γ)(hs:s.at'+cst (d+1)<1000000000000)(hk:EPost G H n gp s Γ BM (cst (d+1)-2) k):Runs F G JG [.ptr gp 0,.int .i64 (.ofNat (d+1)) 0] H n k:=by
 refine go2 (VN BK G) ?_
 delta Py
 have hgn:=h.g
 have hc:cst (d+1)=10+3*cst d:=rfl
 have tb:Lh BM:=.inr (.inl rfl)
 have ta:Lh tA:=.inr (.inr (.inl rfl))
 have tbb:Lh tB:=.inr (.inr (.inr (.inl rfl)))
 have ti:Lh Cb:=.inl rfl
 refine DY λH1 f1 g1=>?_
 refine DY λH2 f2 g2=>?_
 refine Au rfl λH3 f3 g3=>?_
 have bx:Bx H3 (n+1+1+1) n gp d:=⟨f3.get (f2.get g1 (by omega)) (by omega),f3.get g2 (by omega),g3,by omega,hgn⟩
 have f0:=(f1.trans f2).trans f3
 have mk:=h.kp f0
 have fg0:=Fg.kp (gp:=gp) f0
 clear f1 f2 f3 g1 g2 g3 f0
 generalize hn3:n+1+1+1=n3 at*
 have hle:=bx.le
 refine AB (AV (off:=0) bx.b2 rfl) (AB (AGP (d+1)) ?_)
 rw[decide_eq_false (by omega),Ai]
 refine AB (AV (off:=0) bx.b1 rfl) ?_
 refine JB mk.m (by omega) (by omega) (by omega) λH4 r a1 hr ha1 m4 s4=>?_
 have f4:Fg gp H3 n3 H4 n3:=⟨Nat.le_refl _,λid _ hne=>s4 id hne⟩
 have fg4:=fg0.trans f4
 have bx4:=bx.fg f4
 have mk4:=mk.fg f4 m4
 refine AB (CY ..) ?_
 cases h0:decide (r=0)with
 |true=>
  rw[A8]
  refine NJ λH5 n5 f5=>?_
  have hn5:=f5.le
  have pO:=bx4.kp f5
  have mk5:=mk4.kp f5
  rw[jE]
  refine YC (t:=BM) hE hd tb mk5 pO (by show a1+cst d+2<_;omega) λH6 n6 a2 l e f6 m6 ha2 he hg1=>?_
  have hn6:=f6.le
  have ha2:a2<=a1+cst d:=ha2
  refine WA he hn6 λH8 f8 hes=>?_
  refine Xf (nm:=(0,0)) (es:=[e]) hes λH9 n9 l9 f9 he9=>?_
  have f89:=f8.trans f9
  refine iC hk ((pO.fg f6).kp f89) (Nat.le_refl _) (((fg4.trans (.kp f5)).trans f6).trans (.kp f89)) ⟨f89.get m6.g (by omega),m6.pk⟩ (a:=a2) (by omega) (by omega) he9 (.of (.same _) (Gd.not hg1.bool) ZU) hgn
 |false=>
 rw[Ai]
 refine AB (CY ..) ?_
 cases h1:decide (r=1)with
 |true=>
  rw[A8]
  refine NJ λH5 n5 f5=>?_
  have hn5:=f5.le
  have pO:=bx4.kp f5
  have mk5:=mk4.kp f5
  rw[jE]
  refine YC (t:=BM) hE hd tb mk5 pO (by show a1+cst d+2<_;omega) λH6 n6 a2 l e f6 m6 ha2 he hg1=>?_
  have hn6:=f6.le
  have ha2:a2<=a1+cst d:=ha2
  have bx6:=pO.fg f6
  have mk6:=mk5.fg f6 m6
  refine NJ λH7 n7 f7=>?_
  have hn7:=f7.le
  have bx7:=bx6.kp f7
  have mk7:=mk6.kp f7
  rw[jE]
  refine YC (t:=BM) hE hd tb mk7 bx7 (by show a2+cst d+2<_;omega) λH8 n8 a3 l2 e2 f8 m8 aB he2 hg2=>?_
  have hn8:=f8.le
  have aB:a3<=a2+cst d:=aB
  have he8:=(he.kp' f7).fg (by omega) f8
  have he2':FQ G H8 (Rg n5 n8) l2 e2:=he2.mono (λid hid=>⟨by have:=hid.1;omega,hid.2⟩) λ_ _=>rfl
  refine gV he8 he2' (by omega) λH9 f9 hes=>?_
  refine Xf (nm:=(0,0)) (es:=[e,e2]) hes λH10 n10 l10 f10 he10=>?_
  have f910:=f9.trans f10
  refine iC hk ((bx7.fg f8).kp f910) (Nat.le_refl _) (((((fg4.trans (.kp f5)).trans f6).trans (.kp f7)).trans f8).trans (.kp f910)) ⟨f910.get m8.g (by omega),m8.pk⟩ (a:=a3) (by omega) (by omega) he10 (.of (.same _) (Gd.and hg1.bool hg2.bool) ZU) hgn
 |false=>
 rw[Ai]
 refine AB (CY ..) ?_
 cases h2:decide (r=2)with
 |true=>
  rw[A8]
  refine NJ λH5 n5 f5=>?_
  have hn5:=f5.le
  have pO:=bx4.kp f5
  have mk5:=mk4.kp f5
  rw[jE]
  refine YC (t:=BM) hE hd tb mk5 pO (by show a1+cst d+2<_;omega) λH6 n6 a2 l e f6 m6 ha2 he hg1=>?_
  have hn6:=f6.le
  have ha2:a2<=a1+cst d:=ha2
  have bx6:=pO.fg f6
  have mk6:=mk5.fg f6 m6
  refine NJ λH7 n7 f7=>?_
  have hn7:=f7.le
  have bx7:=bx6.kp f7
  have mk7:=mk6.kp f7
  rw[jE]
  refine YC (t:=BM) hE hd tb mk7 bx7 (by show a2+cst d+2<_;omega) λH8 n8 a3 l2 e2 f8 m8 aB he2 hg2=>?_
  have hn8:=f8.le
  have aB:a3<=a2+cst d:=aB
  have he8:=(he.kp' f7).fg (by omega) f8
  have he2':FQ G H8 (Rg n5 n8) l2 e2:=he2.mono (λid hid=>⟨by have:=hid.1;omega,hid.2⟩) λ_ _=>rfl
  refine gV he8 he2' (by omega) λH9 f9 hes=>?_
  refine Xf (nm:=(0,0)) (es:=[e,e2]) hes λH10 n10 l10 f10 he10=>?_
  have f910:=f9.trans f10
  refine iC hk ((bx7.fg f8).kp f910) (Nat.le_refl _) (((((fg4.trans (.kp f5)).trans f6).trans (.kp f7)).trans f8).trans (.kp f910)) ⟨f910.get m8.g (by omega),m8.pk⟩ (a:=a3) (by omega) (by omega) he10 (.of (.same _) (Gd.or hg1.bool hg2.bool) ZU) hgn
 |false=>
 rw[Ai]
 refine AB (CY ..) ?_
 cases h3:decide (r=3)with
 |true=>
  rw[A8]
  refine ADv (G:=G) (vs:=wsE.map St.v) rfl (λv hv=>by obtain⟨x,_,rfl⟩:=List.mem_map.1 hv;exact⟨rfl,rfl⟩) λH5 f5 hw=>?_
  have hw:W1 G H5 (.sl n3 0 2 2 1) wsE:=hw
  have pO:=bx4.kp f5
  have mk5:=mk4.kp f5
  refine AB (AV (off:=0) pO.b1 rfl) ?_
  refine JB mk5.m (by omega) (by omega) (by show a1<_;omega) λH6 q a2 hq ha2 m6 s6=>?_
  have ha2:a2<=a1+1:=ha2
  have f6:Fg gp H5 (n3+1) H6 (n3+1):=⟨Nat.le_refl _,λid _ hne=>s6 id hne⟩
  have hw6:=hw.fg f6 (by omega) (by omega)
  have bx6:=pO.fg f6
  have mk6:=mk5.fg f6 m6
  obtain⟨p,hp,hld⟩:=hw6.at hq
  refine AB hp (AB hld ?_)
  refine bW (l:=1) (c:=65) λH7 n7 f7=>?_
  have hn7:=f7.le
  have hw7:=hw6.fg (Fg.kp (gp:=gp) f7) (by omega) (by omega)
  refine AB (hw7.again hq hp) (Bd (AG9 _) ?_)
  have bx7:=bx6.kp f7
  have mk7:=mk6.kp f7
  rw[jE]
  refine YC (t:=tA) hE hd ta mk7 bx7 (by show a2+cst d+2<_;omega) λH8 n8 a3 l e f8 m8 aB he hg1=>?_
  have hn8:=f8.le
  have aB:a3<=a2+cst d:=aB
  have hw8:=hw7.fg f8 (by omega) (by omega)
  refine AB (hw8.again hq hp) (Bd (AG9 _) ?_)
  have bx8:=bx7.fg f8
  have mk8:=mk7.fg f8 m8
  refine bW (l:=1) (c:=66) λH9 n9 f9=>?_
  have hn9:=f9.le
  have hw9:=hw8.fg (Fg.kp (gp:=gp) f9) (by omega) (by omega)
  refine AB (hw9.again hq hp) (Bd (AG9 _) ?_)
  have bx9:=bx8.kp f9
  have mk9:=mk8.kp f9
  rw[jE]
  refine YC (t:=tB) hE hd tbb mk9 bx9 (by show a3+cst d+2<_;omega) λH10 n10 a4 l2 e2 f10 m10 zu he2 hg2=>?_
  have hn10:=f10.le
  have zu:a4<=a3+cst d:=zu
  have hw10:=hw9.fg f10 (by omega) (by omega)
  refine AB (hw10.again hq hp) (Bd (AG9 _) ?_)
  have he10:=(he.kp' f9).fg (by omega) f10
  have he2':FQ G H10 (Rg n7 n10) l2 e2:=he2.mono (λid hid=>⟨by have:=hid.1;omega,hid.2⟩) λ_ _=>rfl
  refine gV he10 he2' (by omega) λH11 f11 hes=>?_
  refine Xf (nm:=wsE[q]) (es:=[e,e2]) hes λH12 n12 l12 f12 he12=>?_
  have f1112:=f11.trans f12
  obtain⟨u1,r1,q1,_⟩:=hg1.ex
  obtain⟨u2,r2,q2,_⟩:=hg2.ex
  have hgd:Gd s.inn Γ (.mk 16 0 wsE[q] OU OU (0,0) [e,e2]) BM:=Gd.same (List.getElem_mem hq) q1 q2 (r1.obj rfl) (r2.obj rfl)
  refine iC hk ((bx9.fg f10).kp f1112) (Nat.le_refl _) (((((((fg4.trans (.kp f5)).trans f6).trans (.kp f7)).trans f8).trans (.kp f9)).trans f10).trans (.kp f1112)) ⟨f1112.get m10.g (by omega),m10.pk⟩ (a:=a4) (by omega) (by omega) he12 (.of (.same _) hgd ZU) hgn
 |false=>
 rw[Ai]
 refine AB (CY ..) ?_
 cases h4:decide (r=4)with
 |true=>
  rw[A8]
  refine bW (l:=1) (c:=65) λH5 n5 f5=>?_
  have hn5:=f5.le
  have pO:=bx4.kp f5
  have mk5:=mk4.kp f5
  rw[jE]
  refine YC (t:=tA) hE hd ta mk5 pO (by show a1+cst d+2<_;omega) λH6 n6 a2 l e f6 m6 ha2 he hg1=>?_
  have hn6:=f6.le
  have ha2:a2<=a1+cst d:=ha2
  have bx6:=pO.fg f6
  refine WA he hn6 λH9 f9 hes=>?_
  refine vJ (kind:=20) (nm:=(0,0)) (.inr ⟨_,_,_,_,_,rfl⟩) λH10 n10 f10=>?_
  have hn10:=f10.le
  have f910:=f9.trans f10
  have hes10:=hes.mono (B:=Rg n5 n10) (H':=H10) (λid hid=>⟨hid.1,by have:=hid.2;omega⟩) λid hid=>f10.same id hid.2
  refine Au rfl λH11 f11 g11=>?_
  refine Bq g11 rfl rfl (by omega) λH12 g12 s12=>?_
  have f12:Kp H10 n10 H12 (n10+1):=⟨f11.le,λid hid=>(s12 id (by omega)).trans (f11.same id hid)⟩
  have f612:=f910.trans f12
  have bx12:=bx6.kp f612
  have m12:Uw G H12 gp (s.to a2):=⟨f612.get m6.g (by omega),m6.pk⟩
  refine ADv (G:=G) (vs:=ws2.map St.v) rfl (λv hv=>by obtain⟨x,_,rfl⟩:=List.mem_map.1 hv;exact⟨rfl,rfl⟩) λH13 f13 hw=>?_
  have hw:W1 G H13 (.sl (n10+1) 0 2 2 1) ws2:=hw
  have bx13:=bx12.kp f13
  refine AB (AV (off:=0) bx13.b1 rfl) ?_
  have m13:Uw G H13 gp (s.to a2):=⟨f13.get m12.g (by omega),m12.pk⟩
  refine JB m13 (by omega) (by omega) (by show a2<_;omega) λH14 q a3 hq aB m14 s14=>?_
  have aB:a3<=a2+1:=aB
  have f14:Fg gp H13 (n10+1+1) H14 (n10+1+1):=⟨Nat.le_refl _,λid _ hne=>s14 id hne⟩
  have hw14:=hw.fg f14 (by omega) (by omega)
  obtain⟨p,hp,hld⟩:=hw14.at hq
  refine AB hp (AB hld ?_)
  refine bW (l:=ws2[q].1) (c:=ws2[q].2) λH15 n15 f15=>?_
  have hn15:=f15.le
  have g15:=f15.get (f14.get (f13.get g12 (by omega)) (by omega) (by omega)) (by omega)
  rw[Ae,AQ]
  refine Ib (off:=0+5) (m:=2) (v:=Ty.v ⟨ws2[q],false⟩) g15 rfl rfl (by omega) (by show 0+5+2<=11;omega) λH16 g16 s16=>?_
  refine AB (BI (m:=11) g16 (by omega) rfl) ?_
  have same16:∀id,id<n10->id≠gp->T.get H16 id=T.get H10 id:=λid hid hne=>(s16 id (by omega)).trans ((f15.same id (by omega)).trans ((f14.same id (by omega) hne).trans ((f13.same id (by omega)).trans (f12.same id hid))))
  have hes16:=hes10.mono (B:=Rg n5 n15) (H':=H16) (λid hid=>⟨hid.1,by have:=hid.2;omega⟩) λid hid=>same16 id hid.2 (by have:=hid.1;omega)
  have hty:({nm:=ws2[q],arr:=false}:Ty)=tA∨({nm:=ws2[q],arr:=false}:Ty)=tB:=by
   match q,hq with
   |0,_=>exact .inl rfl
   |1,_=>exact .inr rfl
  obtain⟨u,hu1,hu2,_⟩:=hg1.ex
  refine iC (a:=a3) (a0:=n5) (e:=.mk 20 0 (0,0) ⟨ws2[q],false⟩ OU (0,0) [e]) hk (bx6.same (n':=n15) (by omega) λid _ hid=>(same16 id (by omega) (by omega)).trans (f910.same id (by omega))) (Nat.le_refl _) ?_ ⟨(s16 gp (by omega)).trans (f15.get m14.g (by omega)),m14.pk⟩ (by omega) (by omega) (FQ.of hes16) (.of (.same _) (Gd.isx hty hu2 (AOG hu1)) ZU) hgn
  exact⟨by omega,λid hid hne=>(same16 id (by omega) hne).trans ((((fg4.trans (.kp f5)).trans f6).trans (.kp f910)).same id hid hne)⟩
 |false=>
 rw[Ai]
 refine AB (CY ..) ?_
 cases h5:decide (r=5)with
 |true=>
  rw[A8]
  refine AB (AV (off:=0) bx4.b1 rfl) (AB (AV (off:=0) bx4.b2 rfl) ?_)
  rw[AEm d hd,AQ]
  refine xR (cl:=nB) hE (.inr rfl) mk4 (by show a1+cst d+2<_;omega) λH5 n5 a2 l e u f5 m5 ha2 he hu _ huB=>?_
  have hn5:=f5.le
  have ha2:a2<=a1+cst d:=ha2
  obtain rfl:=huB rfl
  refine WA he hn5 λH6 f6 hes=>?_
  refine Xf (nm:=QC) (es:=[e]) hes λH7 n7 l7 f7 he7=>?_
  have f67:=f6.trans f7
  refine iC hk ((bx4.fg f5).kp f67) (Nat.le_refl _) ((fg4.trans f5).trans (.kp f67)) ⟨f67.get m5.g (by omega),m5.pk⟩ (a:=a2) (by omega) (by omega) he7 (.of (.same _) (Gd.flag hu) ZU) hgn
 |false=>
 rw[Ai]
 refine ADv (G:=G) (vs:=ws4.map St.v) rfl (λv hv=>by obtain⟨x,_,rfl⟩:=List.mem_map.1 hv;exact⟨rfl,rfl⟩) λH5 f5 hw=>?_
 have hw:W1 G H5 (.sl n3 0 4 4 1) ws4:=hw
 have pO:=bx4.kp f5
 have mk5:=mk4.kp f5
 refine AB (AV (off:=0) pO.b1 rfl) ?_
 refine JB mk5.m (by omega) (by omega) (by show a1<_;omega) λH6 q a2 hq ha2 m6 s6=>?_
 have ha2:a2<=a1+1:=ha2
 have f6:Fg gp H5 (n3+1) H6 (n3+1):=⟨Nat.le_refl _,λid _ hne=>s6 id hne⟩
 have hw6:=hw.fg f6 (by omega) (by omega)
 have bx6:=pO.fg f6
 have mk6:=mk5.fg f6 m6
 obtain⟨p,hp,hld⟩:=hw6.at hq
 refine AB hp (AB hld ?_)
 refine JL λH7 n7 f7=>?_
 have hn7:=f7.le
 have hw7:=hw6.fg (Fg.kp (gp:=gp) f7) (by omega) (by omega)
 refine AB (hw7.again hq hp) (Bd (AG9 _) ?_)
 have bx7:=bx6.kp f7
 have mk7:=mk6.kp f7
 rw[jE]
 refine YC (t:=Cb) hE hd ti mk7 bx7 (by show a2+cst d+2<_;omega) λH8 n8 a3 l e f8 m8 aB he hg1=>?_
 have hn8:=f8.le
 have aB:a3<=a2+cst d:=aB
 have hw8:=hw7.fg f8 (by omega) (by omega)
 refine AB (hw8.again hq hp) (Bd (AG9 _) ?_)
 have bx8:=bx7.fg f8
 have mk8:=mk7.fg f8 m8
 refine JL λH9 n9 f9=>?_
 have hn9:=f9.le
 have hw9:=hw8.fg (Fg.kp (gp:=gp) f9) (by omega) (by omega)
 refine AB (hw9.again hq hp) (Bd (AG9 _) ?_)
 have bx9:=bx8.kp f9
 have mk9:=mk8.kp f9
 rw[jE]
 refine YC (t:=Cb) hE hd ti mk9 bx9 (by show a3+cst d+2<_;omega) λH10 n10 a4 l2 e2 f10 m10 zu he2 hg2=>?_
 have hn10:=f10.le
 have zu:a4<=a3+cst d:=zu
 have hw10:=hw9.fg f10 (by omega) (by omega)
 refine AB (hw10.again hq hp) (Bd (AG9 _) ?_)
 have he10:=(he.kp' f9).fg (by omega) f10
 have he2':FQ G H10 (Rg n7 n10) l2 e2:=he2.mono (λid hid=>⟨by have:=hid.1;omega,hid.2⟩) λ_ _=>rfl
 refine gV he10 he2' (by omega) λH11 f11 hes=>?_
 refine Xf (nm:=ws4[q]) (es:=[e,e2]) hes λH12 n12 l12 f12 he12=>?_
 have f1112:=f11.trans f12
 have hgd:Gd s.inn Γ (.mk 16 0 ws4[q] OU OU (0,0) [e,e2]) BM:=Gd.cmp (List.getElem_mem hq) hg1.int hg2.int
 refine iC hk ((bx9.fg f10).kp f1112) (Nat.le_refl _) (((((((fg4.trans (.kp f5)).trans f6).trans (.kp f7)).trans f8).trans (.kp f9)).trans f10).trans (.kp f1112)) ⟨f1112.get m10.g (by omega),m10.pk⟩ (a:=a4) (by omega) (by omega) he12 (.of (.same _) hgd ZU) hgn
end
noncomputable def AUK(G:AX)(call:BG)(a0 a2 v1 v2:V)(H:Heap)(n:Nat)(k:KV):Prop:=
 AL (B2.ev .leq a2 (.int .i64 (.ofNat 0) 0)) λv27=>
 Ba v27 false (some a0) λv28=>
 Ik v27 false (call AZ [v28,(.int .i64 (.ofNat 5) 0)] H n) H n λv29 H n=>
 Ba v27 false (Dc (.one .int) false v29 (.int .i64 (.ofNat 0) 0)) λv30=>
 AL (DT v27 (.bool true) v30) λv31=>
 Aa v31 true (call AZ [a0,(.int .i64 (.ofNat 4) 0)] H n λv32 H n=>
 AL (Dc (.one .int) false v32 (.int .i64 (.ofNat 0) 0)) λv33=>
 Aa v33 true (call Ak [(.int .i64 (.ofNat 4) 0),(.str 0 0),.Ag] H n λv34 H n=>
 BL 11 v2 v34 H n λv35 H n=>
 Dz (BA [.cn v2 11] G H) λl=>k (CG l) H n) (call Ak [(.int .i64 (.ofNat 10) 0),(.str 0 0),.Ag] H n λv36 H n=>
 BZ (Aq 11 [[(.int .i64 (.ofNat 0) 0),(.int .i64 (.ofNat 0) 0),(.int .i64 (.ofNat 0) 0),(.int .i64 (.ofNat 0) 0),(.str 0 0),(.str 0 0),(.bool false),.Ag,(.str 0 0),(.bool false),(.str 0 0)]] E0) H n λv37 H n=>
 BL 11 v37 v36 H n λv38 H n=>
 AL (Ad 2 v1 G H) λv39=>
 AL (AU 5 v37) λv40=>
 BL 2 v40 v39 H n λv41 H n=>
 AL (Ad 11 v37 G H) λv42=>
 BL 11 v2 v42 H n λv43 H n=>
 Dz (BA [.cn v2 11] G H) λl=>k (CG l) H n)) (AL (AU 0 v1) λv44=>
 AL (AY v44 G H) λv45=>
 AL (Dc (.one .str) false v45 (.str 1 66)) λv46=>
 Aa v46 true (call Ec [(.str 1 65)] H n λv47 H n=>
 AL (B2.ev .sub a2 (.int .i64 (.ofNat 1) 0)) λv48=>
 call Aj [a0,v47,v48] H n λv49 H n=>
 BZ (Ah 11 1 [(.int .i64 (.ofNat 0) 0),(.int .i64 (.ofNat 0) 0),(.int .i64 (.ofNat 0) 0),(.int .i64 (.ofNat 0) 0),(.str 0 0),(.str 0 0),(.bool false),.Ag,(.str 0 0),(.bool false),(.str 0 0)] [(0,.c v49)] E0) H n λv50 H n=>
 call Ak [(.int .i64 (.ofNat 19) 0),(.str 0 0),v50] H n λv51 H n=>
 BZ (Aq 11 [[(.int .i64 (.ofNat 0) 0),(.int .i64 (.ofNat 0) 0),(.int .i64 (.ofNat 0) 0),(.int .i64 (.ofNat 0) 0),(.str 0 0),(.str 0 0),(.bool false),.Ag,(.str 0 0),(.bool false),(.str 0 0)]] E0) H n λv52 H n=>
 BL 11 v52 v51 H n λv53 H n=>
 AL (Ad 2 v1 G H) λv54=>
 AL (AU 5 v52) λv55=>
 BL 2 v55 v54 H n λv56 H n=>
 AL (Ad 11 v52 G H) λv57=>
 BL 11 v2 v57 H n λv58 H n=>
 Dz (BA [.cn v2 11] G H) λl=>k (CG l) H n) (call AZ [a0,(.int .i64 (.ofNat 3) 0)] H n λv59 H n=>
 AL (Dc (.one .int) false v59 (.int .i64 (.ofNat 0) 0)) λv60=>
 Aa v60 true (AL (B2.ev .sub a2 (.int .i64 (.ofNat 1) 0)) λv61=>
 call Bc [a0,(.str 1 65),v61] H n λv62 H n=>
 BZ (Ah 11 1 [(.int .i64 (.ofNat 0) 0),(.int .i64 (.ofNat 0) 0),(.int .i64 (.ofNat 0) 0),(.int .i64 (.ofNat 0) 0),(.str 0 0),(.str 0 0),(.bool false),.Ag,(.str 0 0),(.bool false),(.str 0 0)] [(0,.c v62)] E0) H n λv63 H n=>
 call Ak [(.int .i64 (.ofNat 7) 0),(.str 4 1954047342),v63] H n λv64 H n=>
 BL 11 v2 v64 H n λv65 H n=>
 Dz (BA [.cn v2 11] G H) λl=>k (CG l) H n) (AL (Dc (.one .int) false v59 (.int .i64 (.ofNat 1) 0)) λv66=>
 Aa v66 true (AL (B2.ev .sub a2 (.int .i64 (.ofNat 1) 0)) λv67=>
 call Bc [a0,(.str 1 65),v67] H n λv68 H n=>
 BZ (Ah 11 1 [(.int .i64 (.ofNat 0) 0),(.int .i64 (.ofNat 0) 0),(.int .i64 (.ofNat 0) 0),(.int .i64 (.ofNat 0) 0),(.str 0 0),(.str 0 0),(.bool false),.Ag,(.str 0 0),(.bool false),(.str 0 0)] [(0,.c v68)] E0) H n λv69 H n=>
 call Ak [(.int .i64 (.ofNat 8) 0),(.str 4 1718379891),v69] H n λv70 H n=>
 BL 11 v2 v70 H n λv71 H n=>
 Dz (BA [.cn v2 11] G H) λl=>k (CG l) H n) (call Ak [(.int .i64 (.ofNat 10) 0),(.str 0 0),.Ag] H n λv72 H n=>
 BZ (Aq 11 [[(.int .i64 (.ofNat 0) 0),(.int .i64 (.ofNat 0) 0),(.int .i64 (.ofNat 0) 0),(.int .i64 (.ofNat 0) 0),(.str 0 0),(.str 0 0),(.bool false),.Ag,(.str 0 0),(.bool false),(.str 0 0)]] E0) H n λv73 H n=>
 BL 11 v73 v72 H n λv74 H n=>
 BZ (Ah 1 2 [(.str 0 0)] [(0,.c (.str 1 65)),(1,.c (.str 1 66))] E0) H n λv75 H n=>
 call AZ [a0,(.int .i64 (.ofNat 2) 0)] H n λv76 H n=>
 AL (Az 1 v75 v76) λv77=>
 AL (AY v77 G H) λv78=>
 call Ec [v78] H n λv79 H n=>
 AL (AU 5 v73) λv80=>
 BL 2 v80 v79 H n λv81 H n=>
 AL (Ad 11 v73 G H) λv82=>
 BL 11 v2 v82 H n λv83 H n=>
 Dz (BA [.cn v2 11] G H) λl=>k (CG l) H n))))
section
variable{G:AX}{H:Heap}{n gp d b c:Nat}{s:Mg}{Γ:List DJ}{k:KV}
theorem AaB{kind:Nat}{nm:St}{ty:Ty}{v:V}{L0:LV}(hc:T.get H c=some (one (LM kind 0 nm OU OU (0,0) 0 0 v)))(hb:T.get H b=some (one L0))(h0:L0.length=11)(hbc:b≠c)
 (hk:∀H',(∀id,id≠c->id≠b->T.get H' id=T.get H id)->k (.agg (LM kind 0 nm ty OU (0,0) 0 0 v)) H' n):
 AL (AU 5 (.ptr c 0)) λp=>BL 2 p ty.v H n λ_ H n=>AL (Ad 11 (.ptr c 0) G H) λl=>BL 11 (.ptr b 0) l H n λ_ H n=>Dz (BA [.cn (.ptr b 0) 11] G H) λl=>k (CG l) H n:=by
 rw[Ae,AQ]
 refine Ib (off:=0+5) (m:=2) (v:=ty.v) hc rfl rfl (by omega) (by show 0+5+2<=11;omega) λH1 g1 s1=>?_
 refine AB (BI (m:=11) g1 (by omega) rfl) ?_
 refine Bq ((s1 b hbc).trans hb) h0 rfl (by omega) λH2 g2 s2=>?_
 rw[Cm (m:=11) g2 (by omega) rfl]
 simp only[go_sem]
 exact hk H2 λid h1 h2=>(s2 id h2).trans (s1 id h1)
end
structure Bo(H:Heap)(n b gp:Nat)(t:Ty):Prop where
 b1:T.get H b=some (one t.cells)
 b2:T.get H (b+1)=some (one teZ)
 le:b+2<=n
 g:gp<b
theorem Bo.fg{H H':Heap}{n n' b gp:Nat}{t:Ty}(h:Bo H n b gp t)(f:Fg gp H n H' n'):Bo H' n' b gp t:=by
 have:=h.le;have:=h.g
 exact⟨f.get h.b1 (by omega) (by omega),f.get h.b2 (by omega) (by omega),Nat.le_trans h.le f.le,h.g⟩
theorem Bo.kp{H H':Heap}{n n' b gp:Nat}{t:Ty}(h:Bo H n b gp t)(f:Kp H n H' n'):Bo H' n' b gp t:=h.fg (.kp f)
theorem ARH{d:Nat}(hd:d+1<1000):B2.ev .sub (.int .i64 (.ofNat (d+1)) 0) (.int .i64 (.ofNat 1) 0)=some (.int .i64 (.ofNat d) 0):=AEm d (by omega)
theorem AFL:∀d,10<=cst d
 |0=>Nat.le_refl _
 |d+1=>by show 10<=10+3*cst d;omega
section
variable{G:AX}{H H0:Heap}{n gp d b a0:Nat}{s:Mg}{Γ:List DJ}{k:KV}{t:Ty}
theorem pq{c a1:Nat}{l:LV}{e:Te}{a:Nat}(hp:EPost G H0 b gp s Γ t c k)(hb:Bo H n b gp t)(f:Fg gp H0 b H n)(m:Uw G H gp (s.to a))(ha:a<=s.at'+c)(ha1:b+1<a1)
 (he:FQ G H (Rg a1 n) l e) (hg:aW s.inn Γ e t):BL 11 (.ptr (b+1) 0) (.agg l) H n λ_ H n=>Dz (BA [.cn (.ptr (b+1) 0) 11] G H) λl=>k (CG l) H n:=by
 have:=hb.g
 refine AFm hb.b2 rfl he ha1 λH4 s4 he4=>?_
 refine hp H4 n a l e ⟨f.le,λid hid hne=>(s4 id (by omega)).trans (f.same id hid hne)⟩ ⟨(s4 gp (by omega)).trans m.g,m.pk⟩ ha (he4.mono (λid hid=>⟨by have:=hid.1;omega,hid.2⟩) λ_ _=>rfl) hg
theorem AJw{kind c0 c a:Nat}{ty:Ty}{v:V}{kids:List Te}(hp:EPost G H0 b gp s Γ t c0 k)(hb:Bo H n b gp t)(f:Fg gp H0 b H n)(m:Uw G H gp (s.to a))(ha:a<=s.at'+c0)(hbc:b+1<c)
 (hc:T.get H c=some (one (LM kind 0 (0,0) OU OU (0,0) 0 0 v))) (hv:QI G H (λid=>b<id/\id<n/\id≠c/\id≠b+1) v kids) (hg:aW s.inn Γ (.mk kind 0 (0,0) ty OU (0,0) kids) t):
 AL (AU 5 (.ptr c 0)) λp=>BL 2 p ty.v H n λ_ H n=>AL (Ad 11 (.ptr c 0) G H) λl=>BL 11 (.ptr (b+1) 0) l H n λ_ H n=>Dz (BA [.cn (.ptr (b+1) 0) 11] G H) λl=>k (CG l) H n:=by
 have:=hb.g;have:=hb.le
 refine AaB hc hb.b2 rfl (by omega) λH4 s4=>?_
 refine hp H4 n a _ _ ⟨f.le,λid hid hne=>(s4 id (by omega) (by omega)).trans (f.same id hid hne)⟩ ⟨(s4 gp (by omega) (by omega)).trans m.g,m.pk⟩ ha (FQ.of (hv.mono (λid hid=>⟨by omega,hid.2.1⟩) λid hid=>s4 id hid.2.2.1 hid.2.2.2)) hg
theorem AXv(hE:∀d',d=d'+1->mg G gp d')(hd:d<1000)(ht:t=tA∨t=tB)(hb:Bo H n b gp t)(h:Mk G H n gp (s.to a0) Γ)(ha0:a0<=s.at'+1)(hs:s.at'+cst d<1000000000000)(f:Fg gp H0 b H n)(hp:EPost G H0 b gp s Γ t (cst d-2) k):
 AUK G (Runs F G) (.ptr gp 0) (.int .i64 (.ofNat d) 0) (.ptr b 0) (.ptr (b+1) 0) H n k:=by
 unfold AUK
 have hcd:=AFL d
 have hle:=hb.le
 have hbg:=hb.g
 have hty:Lh t:=by rcases ht with rfl|rfl;exact .inr (.inr (.inl rfl));exact .inr (.inr (.inr (.inl rfl)))
 have hnt:t≠IE:=by rcases ht with rfl|rfl;exact APr;exact APU
 have leaf:∀(H1:Heap) (a1:Nat),Fg gp H n H1 n->Uw G H1 gp (s.to a1)->a1<=a0+1->Runs F G AZ [.ptr gp 0,.int .i64 (.ofNat 4) 0] H1 n λv32 H n=>AL (Dc (.one .int) false v32 (.int .i64 (.ofNat 0) 0)) λv33=>
  Aa v33 true (Runs F G Ak [(.int .i64 (.ofNat 4) 0),(.str 0 0),.Ag] H n λv34 H n=>BL 11 (.ptr (b+1) 0) v34 H n λv35 H n=>Dz (BA [.cn (.ptr (b+1) 0) 11] G H) λl=>k (CG l) H n)
  (Runs F G Ak [(.int .i64 (.ofNat 10) 0),(.str 0 0),.Ag] H n λv36 H n=>BZ (Aq 11 [teZ] E0) H n λv37 H n=>BL 11 v37 v36 H n λv38 H n=>AL (Ad 2 (.ptr b 0) G H) λv39=>
   AL (AU 5 v37) λv40=>BL 2 v40 v39 H n λv41 H n=>AL (Ad 11 v37 G H) λv42=>BL 11 (.ptr (b+1) 0) v42 H n λv43 H n=>Dz (BA [.cn (.ptr (b+1) 0) 11] G H) λl=>k (CG l) H n):=by
  intro H1 a1 f1 m1 ha1
  refine JB m1 (by omega) (by omega) (by show a1<_;omega) λH2 r a2 hr ha2 m2 s2=>?_
  have ha2:a2<=a1+1:=ha2
  have f2:Fg gp H n H2 n:=⟨Nat.le_refl _,λid hid hne=>(s2 id hne).trans (f1.same id hid hne)⟩
  have hb2:=hb.fg f2
  refine AB (CY ..) ?_
  cases h0:decide (r=0)with
  |true=>
   rw[A8]
   refine AMu (a:=n) (nm:=(0,0)) λH3 n3 l3 f3 he3=>?_
   have hn3:=f3.le
   exact pq hp (hb2.kp f3) ((f.trans f2).trans (.kp f3)) ⟨f3.get m2.g (by omega),m2.pk⟩ (a:=a2) (by omega) (by omega) he3 ⟨IE,by rcases ht with rfl|rfl;exact .na;exact .nb,Gd.nul,λh=>absurd rfl h⟩
  |false=>
   rw[Ai]
   refine vJ (kind:=10) (nm:=(0,0)) (.inl rfl) λH3 n3 f3=>?_
   have hn3:=f3.le
   refine Au rfl λH4 f4 g4=>?_
   refine Bq g4 rfl rfl (by omega) λH5 g5 s5=>?_
   have f5:Kp H3 n3 H5 (n3+1):=⟨f4.le,λid hid=>(s5 id (by omega)).trans (f4.same id hid)⟩
   have f35:=f3.trans f5
   have hb5:=hb2.kp f35
   refine AB (DZ hb5.b1) ?_
   exact AJw hp hb5 ((f.trans f2).trans (.kp f35)) ⟨f35.get m2.g (by omega),m2.pk⟩ (a:=a2) (by omega) (by omega) g5 .nil (.of (.same _) (Gd.new ht) hnt)
 cases d with
 |zero=>
  refine AB (AGP 0) ?_
  rw[decide_eq_true (Nat.le_refl 0)]
  refine Y0 (AHt (Y0 (AB (AE3 ..) ?_)))
  show Aa (.bool true) true _ _
  rw[A8]
  exact leaf H a0 (Fg.refl ..) h.m (by omega)
 |succ d=>
 have hcs:cst (d+1)=10+3*cst d:=rfl
 have hE:=hE d rfl
 refine AB (AGP (d+1)) ?_
 rw[decide_eq_false (by omega)]
 refine XE rfl (AHC ?_)
 refine JB h.m (by omega) (by omega) (by show a0<_;omega) λH1 r a1 hr ha1 m1 s1=>?_
 have ha1:a1<=a0+1:=ha1
 have f1:Fg gp H n H1 n:=⟨Nat.le_refl _,λid _ hne=>s1 id hne⟩
 have hb1:=hb.fg f1
 have mk1:=h.fg (a:=a1) f1 m1
 have ff1:=f.trans f1
 refine XE (CY ..) (AB (AE3 ..) ?_)
 show Aa (.bool (decide (r=0))) true _ _
 cases h0:decide (r=0)with
 |true=>rw[A8];exact leaf H1 a1 f1 m1 ha1
 |false=>
 rw[Ai,Dk,AQ]
 refine AB (AV (off:=0) hb1.b1 (v:=t.nm.v) rfl) ?_
 rcases ht with rfl|rfl
 ·refine AB (v:=.bool false) rfl ?_
  rw[Ai]
  refine JB m1 (by omega) (by omega) (by show a1<_;omega) λH2 q a2 hq ha2 m2 s2=>?_
  have ha2:a2<=a1+1:=ha2
  have f2:Fg gp H1 n H2 n:=⟨Nat.le_refl _,λid _ hne=>s2 id hne⟩
  have hb2:=hb1.fg f2
  have mk2:=mk1.fg (a:=a2) f2 m2
  have ff2:=ff1.trans f2
  refine AB (CY ..) ?_
  cases q0:decide (q=0)with
  |true=>
   rw[A8]
   refine AB (ARH hd) ?_
   refine xR (cl:=nA) hE (.inl rfl) mk2 (by show a2+cst d+2<_;omega) λH5 n5 a3 l e u f5 m5 aB he hu huc _=>?_
   have hn5:=f5.le
   have aB:a3<=a2+cst d:=aB
   refine WA he hn5 λH6 f6 hes=>?_
   refine Xf (nm:=ADL) (es:=[e]) hes λH7 n7 l7 f7 he7=>?_
   have f67:=f6.trans f7
   exact pq hp ((hb2.fg f5).kp f67) ((ff2.trans f5).trans (.kp f67)) ⟨f67.get m5.g (by omega),m5.pk⟩ (a:=a3) (by omega) (by omega) he7 (.of (.same _) (Gd.get hu huc rfl (by decide)) APr)
  |false=>
  rw[Ai]
  refine AB (CY ..) ?_
  cases q1:decide (q=1)with
  |true=>
   rw[A8]
   refine AB (ARH hd) ?_
   refine xR (cl:=nA) hE (.inl rfl) mk2 (by show a2+cst d+2<_;omega) λH5 n5 a3 l e u f5 m5 aB he hu huc _=>?_
   have hn5:=f5.le
   have aB:a3<=a2+cst d:=aB
   refine WA he hn5 λH6 f6 hes=>?_
   refine Xf (nm:=AGp) (es:=[e]) hes λH7 n7 l7 f7 he7=>?_
   have f67:=f6.trans f7
   exact pq hp ((hb2.fg f5).kp f67) ((ff2.trans f5).trans (.kp f67)) ⟨f67.get m5.g (by omega),m5.pk⟩ (a:=a3) (by omega) (by omega) he7 (.of (.same _) (Gd.AYR hu huc) APr)
  |false=>
  rw[Ai]
  refine vJ (kind:=10) (nm:=(0,0)) (.inl rfl) λH3 n3 f3=>?_
  have hn3:=f3.le
  refine Au rfl λH4 f4 g4=>?_
  refine Bq g4 rfl rfl (by omega) λH5 g5 s5=>?_
  have f5:Kp H3 n3 H5 (n3+1):=⟨f4.le,λid hid=>(s5 id (by omega)).trans (f4.same id hid)⟩
  have f35:=f3.trans f5
  refine ADv (G:=G) (vs:=ws2.map St.v) rfl (λv hv=>by obtain⟨x,_,rfl⟩:=List.mem_map.1 hv;exact⟨rfl,rfl⟩) λH6 f6 hw=>?_
  have hw:W1 G H6 (.sl (n3+1) 0 2 2 1) ws2:=hw
  have f36:=f35.trans f6
  have m6:Uw G H6 gp (s.to a2):=⟨f36.get m2.g (by omega),m2.pk⟩
  refine JB m6 (by omega) (by omega) (by show a2<_;omega) λH7 w a3 hw3 aB m7 s7=>?_
  have aB:a3<=a2+1:=aB
  have f7:Fg gp H6 (n3+1+1) H7 (n3+1+1):=⟨Nat.le_refl _,λid _ hne=>s7 id hne⟩
  have hw7:=hw.fg f7 (by omega) (by omega)
  obtain⟨p,hpp,hld⟩:=hw7.at hw3
  refine AB hpp (AB hld ?_)
  refine bW (l:=ws2[w].1) (c:=ws2[w].2) λH8 n8 f8=>?_
  have hn8:=f8.le
  have g8:=f8.get (f7.get (f6.get g5 (by omega)) (by omega) (by omega)) (by omega)
  have hty2:({nm:=ws2[w],arr:=false}:Ty)=tA∨({nm:=ws2[w],arr:=false}:Ty)=tB:=by
   match w,hw3 with
   |0,_=>exact .inl rfl
   |1,_=>exact .inr rfl
  refine AJw (ty:=⟨ws2[w],false⟩) (kids:=[]) hp (((hb2.kp f36).fg f7).kp f8) (((ff2.trans (.kp f36)).trans f7).trans (.kp f8)) ⟨f8.get m7.g (by omega),m7.pk⟩ (a:=a3) (by omega) (by omega) g8 .nil ?_
  rcases hty2 with e|e
  ·rw[e];exact .of (.same _) (Gd.new (.inl rfl)) APr
  ·rw[e];exact .of .ba (Gd.new (.inr rfl)) APU
 ·refine AB (v:=.bool true) rfl ?_
  rw[A8]
  refine bW (l:=1) (c:=65) λH2 n2 f2=>?_
  have hn2:=f2.le
  refine AB (ARH hd) ?_
  refine hE tA H2 n2 (s.to a1) Γ _ (.inr (.inr (.inl rfl))) (mk1.kp f2) (by show a1+cst d+2<_;omega) λH3 n3 a2 l e f3 m3 ha2 he hgd=>?_
  have hn3:=f3.le
  have ha2:a2<=a1+cst d:=ha2
  have hb3:=(hb1.kp f2).fg f3
  have ff3:=(ff1.trans (.kp f2)).trans f3
  refine WA he hn3 λH4 f4 hes=>?_
  refine vJ (kind:=19) (nm:=(0,0)) (.inr ⟨_,_,_,_,_,rfl⟩) λH5 n5 f5=>?_
  have hn5:=f5.le
  have hes5:=hes.mono (B:=Rg n2 n5) (H':=H5) (λid hid=>⟨hid.1,by have:=hid.2;omega⟩) λid hid=>f5.same id hid.2
  refine Au rfl λH6 f6 g6=>?_
  refine Bq g6 rfl rfl (by omega) λH7 g7 s7=>?_
  have f7:Kp H5 n5 H7 (n5+1):=⟨f6.le,λid hid=>(s7 id (by omega)).trans (f6.same id hid)⟩
  have f47:=(f4.trans f5).trans f7
  have hb7:=hb3.kp f47
  have hes7:=hes5.mono (B:=λid=>b<id/\id<n5+1/\id≠n5/\id≠b+1) (H':=H7) (λid hid=>by have:=hid.1;have:=hid.2;omega) λid hid=>f7.same id hid.2
  refine AB (DZ hb7.b1) ?_
  obtain⟨u,hu1,hu2,_⟩:=hgd.ex
  exact AJw hp hb7 (ff3.trans (.kp f47)) ⟨f47.get m3.g (by omega),m3.pk⟩ (a:=a2) (by omega) (by omega) g7 hes7 (.of (.same _) (Gd.asx (.inr rfl) hu2 (AOG hu1)) APU)
end
theorem AFZ(d:Nat):B2.ev .gtr (.int .i64 (.ofNat d) 0) (.int .i64 (.ofNat 0) 0)=some (.bool (decide (0<d))):=wz ..
theorem AHB{b:Bool}{e:Option V}{P:V->Prop}(h:P (.G5 [])):Ba (.G5 []) b e P:=h
section
variable{G:AX}{H:Heap}{n gp d:Nat}{s:Mg}{Γ:List DJ}{k:KV}{t:Ty}
theorem ASD(hE:∀d',d=d'+1->mg G gp d')(hd:d<1000)(ht:t=tA∨t=tB)(h:Mk G H n gp s Γ)(hs:s.at'+cst d<1000000000000)(hp:EPost G H n gp s Γ t (cst d-2) k):
 Runs F G OV [.ptr gp 0,t.v,.int .i64 (.ofNat d) 0] H n k:=by
 refine go3 (dB BK G) ?_
 delta Uh
 have hgn:=h.g
 have hcd:=AFL d
 refine DY λH1 f1 g1=>?_
 refine Au rfl λH2 f2 g2=>?_
 have f:=f1.trans f2
 have hb:Bo H2 (n+1+1) n gp t:=⟨f2.get g1 (by omega),g2,by omega,hgn⟩
 have mk:=h.kp f
 have fg:=Fg.kp (gp:=gp) f
 have q4:AY (.ptr gp 4) G H2=some s.inn.v:=AV mk.m.g rfl
 have rest:∀(H3:Heap) (a1:Nat),Fg gp H2 (n+1+1) H3 (n+1+1)->Uw G H3 gp (s.to a1)->a1<=s.at'+1->AUK G (Runs F G) (.ptr gp 0) (.int .i64 (.ofNat d) 0) (.ptr n 0) (.ptr (n+1) 0) H3 (n+1+1) k:=λH3 a1 f3 m3 ha1=>
  AXv hE hd ht (hb.fg f3) (mk.fg f3 m3) ha1 hs (fg.trans f3) hp
 have rest0:=rest H2 s.at' (Fg.refl ..) mk.m (by omega)
 have self:s.inn≠(0,0)->Rq t ⟨s.inn,false⟩->(⟨s.inn,false⟩:Ty)≠IE->Runs F G AZ [.ptr gp 0,.int .i64 (.ofNat 3) 0] H2 (n+1+1) λv22 H n'=>Ba (.bool true) true (Dc (.one .int) false v22 (.int .i64 (.ofNat 0) 0)) λv23=>AL (DT (.bool true) v23 (.bool false)) λv24=>
  Aa v24 true (Runs F G Ak [(.int .i64 (.ofNat 5) 0),(.str 0 0),.Ag] H n' λv25 H n'=>BL 11 (.ptr (n+1) 0) v25 H n' λv26 H n'=>Dz (BA [.cn (.ptr (n+1) 0) 11] G H) λl=>k (CG l) H n')
   (AUK G (Runs F G) (.ptr gp 0) (.int .i64 (.ofNat d) 0) (.ptr n 0) (.ptr (n+1) 0) H n' k):=by
  intro hi hr hn
  refine JB mk.m (by omega) (by omega) (by omega) λH3 r a1 hr3 ha1 m3 s3=>?_
  have f3:Fg gp H2 (n+1+1) H3 (n+1+1):=⟨Nat.le_refl _,λid _ hne=>s3 id hne⟩
  refine PV (CY ..) (eP ?_)
  cases h0:decide (r=0)with
  |true=>
   rw[A8]
   refine AMu (a:=n+1+1) (nm:=(0,0)) λH4 n4 l4 f4 he4=>?_
   have hn4:=f4.le
   exact pq hp ((hb.fg f3).kp f4) ((fg.trans f3).trans (.kp f4)) ⟨f4.get m3.g (by omega),m3.pk⟩ (a:=a1) (by omega) (by omega) he4 (.of hr (Gd.this hi) hn)
  |false=>rw[Ai];exact rest H3 a1 f3 m3 ha1
 rw[BU,AQ,Ae,AQ]
 refine AB q4 ?_
 rcases h.inn with e|e|e
 ·rw[e]
  refine AB (v:=.bool false) rfl ?_
  repeat (first|with_reducible refine ACQ ?_|with_reducible refine rD ?_|with_reducible refine AHB ?_|with_reducible refine lZ ?_)
  rw[Ai]
  exact rest0
 ·rw[e]at self⊢
  refine AB (v:=.bool true) rfl (PV rfl (PV (AFZ d) (eP ?_)))
  cases hd0:decide (0<d)with
  |false=>
   repeat (first|with_reducible refine ACQ ?_|with_reducible refine rD ?_|with_reducible refine AHB ?_|with_reducible refine lZ ?_)
   rw[Ai]
   exact rest0
  |true=>
  rcases ht with rfl|rfl
  ·refine PV (Dk _ _) (PV (AV (off:=0) hb.b1 (v:=tA.nm.v) rfl) (PV (a:=.bool true) rfl (PV rfl ?_)))
   repeat (first|with_reducible refine Y0 ?_)
   repeat (first|with_reducible refine AHB ?_)
   refine PV (a:=.bool true) rfl (eP ?_)
   exact PV rfl (ACa (self (by decide) (.same _) APr))
  ·refine PV (Dk _ _) (PV (AV (off:=0) hb.b1 (v:=tB.nm.v) rfl) (PV (a:=.bool false) rfl (PV rfl ?_)))
   refine XE rfl (XE (BU _ _) (XE (by rw[Ae]) (XE q4 ?_)))
   refine XE (a:=.bool false) (by rw[e];rfl) (PV (a:=.bool false) rfl (eP ?_))
   repeat (first|with_reducible refine ACQ ?_|with_reducible refine rD ?_|with_reducible refine AHB ?_|with_reducible refine lZ ?_)
   rw[Ai]
   exact rest0
 ·rw[e]at self⊢
  refine AB (v:=.bool true) rfl (PV rfl (PV (AFZ d) (eP ?_)))
  cases hd0:decide (0<d)with
  |false=>
   repeat (first|with_reducible refine ACQ ?_|with_reducible refine rD ?_|with_reducible refine AHB ?_|with_reducible refine lZ ?_)
   rw[Ai]
   exact rest0
  |true=>
  rcases ht with rfl|rfl
  ·refine PV (Dk _ _) (PV (AV (off:=0) hb.b1 (v:=tA.nm.v) rfl) (PV (a:=.bool true) rfl (PV rfl ?_)))
   repeat (first|with_reducible refine Y0 ?_)
   repeat (first|with_reducible refine AHB ?_)
   refine PV (a:=.bool true) rfl (eP ?_)
   exact PV rfl (ACa (self (by decide) .ba APU))
  ·refine PV (Dk _ _) (PV (AV (off:=0) hb.b1 (v:=tB.nm.v) rfl) (PV (a:=.bool false) rfl (PV rfl ?_)))
   refine XE rfl (XE (BU _ _) (XE (by rw[Ae]) (XE q4 ?_)))
   refine XE (a:=.bool true) (by rw[e];rfl) (PV (a:=.bool true) rfl (eP ?_))
   exact PV rfl (ACa (self (by decide) (.same _) APU))
end
noncomputable def AVI(G:AX)(call:BG)(a0 a2 v1 v2:V)(H:Heap)(n:Nat)(k:KV):Prop:=
 AL (Ad 2 v1 G H) λv19=>
 call BN [] H n λv20 H n=>
 AL (Ad 2 v1 G H) λv=>Dj (Ar v v19) <|
 AL (Dc (.agg [.str,.bool]) false v19 v20) λv21=>
 Aa v21 true (call Ez [a0,a2] H n λv22 H n=>
 BL 11 v2 v22 H n λv23 H n=>
 Dz (BA [.cn v2 11] G H) λl=>k (CG l) H n) (AL (Ad 2 v1 G H) λv24=>
 call DR [] H n λv25 H n=>
 AL (Ad 2 v1 G H) λv=>Dj (Ar v v24) <|
 AL (Dc (.agg [.str,.bool]) false v24 v25) λv26=>
 Aa v26 true (call JG [a0,a2] H n λv27 H n=>
 BL 11 v2 v27 H n λv28 H n=>
 Dz (BA [.cn v2 11] G H) λl=>k (CG l) H n) (AL (Ad 2 v1 G H) λv29=>
 call FI [] H n λv30 H n=>
 AL (Ad 2 v1 G H) λv=>Dj (Ar v v29) <|
 AL (Dc (.agg [.str,.bool]) false v29 v30) λv31=>
 Aa v31 true (AL (B2.ev .gtr a2 (.int .i64 (.ofNat 0) 0)) λv32=>
 Ba v32 true (some a0) λv33=>
 Ik v32 true (call AZ [v33,(.int .i64 (.ofNat 3) 0)] H n) H n λv34 H n=>
 Ba v32 true (B2.ev .gtr v34 (.int .i64 (.ofNat 0) 0)) λv35=>
 AL (DT v32 v35 (.bool false)) λv36=>
 Aa v36 true (AL (B2.ev .sub a2 (.int .i64 (.ofNat 1) 0)) λv37=>
 call Bc [a0,(.str 1 65),v37] H n λv38 H n=>
 BZ (Ah 11 1 [(.int .i64 (.ofNat 0) 0),(.int .i64 (.ofNat 0) 0),(.int .i64 (.ofNat 0) 0),(.int .i64 (.ofNat 0) 0),(.str 0 0),(.str 0 0),(.bool false),.Ag,(.str 0 0),(.bool false),(.str 0 0)] [(0,.c v38)] E0) H n λv39 H n=>
 call Ak [(.int .i64 (.ofNat 7) 0),(.str 2 29560),v39] H n λv40 H n=>
 BL 11 v2 v40 H n λv41 H n=>
 Dz (BA [.cn v2 11] G H) λl=>k (CG l) H n) (call AZ [a0,(.int .i64 (.ofNat 6) 0)] H n λv42 H n=>
 call Qg [v42] H n λv43 H n=>
 BZ (Ah 11 1 [(.int .i64 (.ofNat 0) 0),(.int .i64 (.ofNat 0) 0),(.int .i64 (.ofNat 0) 0),(.int .i64 (.ofNat 0) 0),(.str 0 0),(.str 0 0),(.bool false),.Ag,(.str 0 0),(.bool false),(.str 0 0)] [(0,.c v43)] E0) H n λv44 H n=>
 call Ak [(.int .i64 (.ofNat 11) 0),(.str 0 0),v44] H n λv45 H n=>
 BZ (Aq 11 [[(.int .i64 (.ofNat 0) 0),(.int .i64 (.ofNat 0) 0),(.int .i64 (.ofNat 0) 0),(.int .i64 (.ofNat 0) 0),(.str 0 0),(.str 0 0),(.bool false),.Ag,(.str 0 0),(.bool false),(.str 0 0)]] E0) H n λv46 H n=>
 BL 11 v46 v45 H n λv47 H n=>
 AL (B2.ev .gtr a2 (.int .i64 (.ofNat 0) 0)) λv54=>
 Ba v54 true (some a0) λv55=>
 Ik v54 true (call AZ [v55,(.int .i64 (.ofNat 4) 0)] H n) H n λv56 H n=>
 Ba v54 true (Dc (.one .int) false v56 (.int .i64 (.ofNat 0) 0)) λv57=>
 AL (DT v54 v57 (.bool false)) λv58=>
 Aa v58 true (AL (B2.ev .sub a2 (.int .i64 (.ofNat 1) 0)) λv59=>
 call Ez [a0,v59] H n λv60 H n=>
 BZ (Ah 11 1 [(.int .i64 (.ofNat 0) 0),(.int .i64 (.ofNat 0) 0),(.int .i64 (.ofNat 0) 0),(.int .i64 (.ofNat 0) 0),(.str 0 0),(.str 0 0),(.bool false),.Ag,(.str 0 0),(.bool false),(.str 0 0)] [(0,.c v60)] E0) H n λv61 H n=>
 AL (AU 7 v46) λv62=>
 BL 1 v62 v61 H n λv63 H n=>
 DX lfp G call k v2 v46 H n) (DX lfp G call k v2 v46 H n))) (AL (Ad 2 v1 G H) λv64=>
 call OV [a0,v64,a2] H n λv65 H n=>
 BL 11 v2 v65 H n λv66 H n=>
 Dz (BA [.cn v2 11] G H) λl=>k (CG l) H n)))
section
variable{G:AX}{H H0:Heap}{n gp d b a0:Nat}{s:Mg}{Γ:List DJ}{k:KV}{t:Ty}
theorem AOT(hE:∀d',d'<d->mg G gp d')(hd:d<1000)(h:Mk G H n gp s Γ)(hs:s.at'+cst d<1000000000000)(hk:EPost G H n gp s Γ Cb (cst d-2) k):Runs F G Ez [.ptr gp 0,.int .i64 (.ofNat d) 0] H n k:=by
 cases d with
 |zero=>exact AWr h (by have:cst 0=10:=rfl;omega) hk
 |succ d=>exact AYa (hE d (by omega)) (by omega) h hs hk
theorem ASM(hE:∀d',d'<d->mg G gp d')(hd:d<1000)(h:Mk G H n gp s Γ)(hs:s.at'+cst d<1000000000000)(hk:EPost G H n gp s Γ BM (cst d-2) k):Runs F G JG [.ptr gp 0,.int .i64 (.ofNat d) 0] H n k:=by
 cases d with
 |zero=>exact AUg h (by have:cst 0=10:=rfl;omega) hk
 |succ d=>exact AXe (hE d (by omega)) (by omega) h hs hk
theorem ARU{c0 c a:Nat}{v:V}{e:Te}(hp:EPost G H0 b gp s Γ tIs c0 k)(hb:Bo H n b gp tIs)(f:Fg gp H0 b H n)(m:Uw G H gp (s.to a))(ha:a<=s.at'+c0)(hbc:b+1<c)(hcn:c<n)
 (hc:T.get H c=some (one (LM 11 0 (0,0) OU OU (0,0) 0 0 v))) (hv:QI G H (λid=>b<id/\id<n/\id≠c/\id≠b+1) v [e]) (hg:Gd s.inn Γ e Cb):
 DX lfp G (Runs F G) k (.ptr (b+1) 0) (.ptr c 0) H n:=by
 delta DX
 have:=hb.g;have:=hb.le
 refine JL λH1 n1 f1=>?_
 have hn1:=f1.le
 exact AJw (ty:=Cb) hp (hb.kp f1) (f.trans (.kp f1)) ⟨f1.get m.g (by omega),m.pk⟩ ha hbc (f1.get hc hcn) (hv.mono (λid hid=>⟨hid.1,by omega,hid.2.2⟩) λid hid=>f1.same id hid.2.1) (.of (.same _) (Gd.arr hg) ARV)
theorem ANX(hE:∀d',d'<d->mg G gp d')(hd:d<1000)(ht:Lh t)(hb:Bo H n b gp t)(h:Mk G H n gp (s.to a0) Γ)(ha0:a0<=s.at'+2)(hs:s.at'+cst d+2<1000000000000)(f:Fg gp H0 b H n)(hp:EPost G H0 b gp s Γ t (cst d) k):
 AVI G (Runs F G) (.ptr gp 0) (.int .i64 (.ofNat d) 0) (.ptr b 0) (.ptr (b+1) 0) H n k:=by
 unfold AVI
 have hcd:=AFL d
 have hle:=hb.le
 have hbg:=hb.g
 refine AB (DZ hb.b1) ?_
 refine JL λH1 n1 f1=>?_
 have hn1:=f1.le
 have hb1:=hb.kp f1
 have mk1:=h.kp f1
 have ff1:=f.trans (.kp f1)
 refine AB (DZ hb1.b1) (Bd (Lu _) (AB (ZJ t Cb) ?_))
 cases e1:t.is Cb with
 |true=>
  have e1:=Ty.wM.1 e1
  subst e1
  rw[A8]
  refine AOT hE hd mk1 (by show a0+cst d<_;omega) λH2 n2 a l e f2 m2 ha he hg=>?_
  have ha:a<=a0+(cst d-2):=ha
  exact pq hp (hb1.fg f2) (ff1.trans f2) m2 (a:=a) (by omega) (by omega) he hg
 |false=>
 rw[Ai]
 refine AB (DZ hb1.b1) ?_
 refine NJ λH2 n2 f2=>?_
 have hn2:=f2.le
 have hb2:=hb1.kp f2
 have mk2:=mk1.kp f2
 have ff2:=ff1.trans (.kp f2)
 refine AB (DZ hb2.b1) (Bd (Lu _) (AB (ZJ t BM) ?_))
 cases e2:t.is BM with
 |true=>
  have e2:=Ty.wM.1 e2
  subst e2
  rw[A8]
  refine ASM hE hd mk2 (by show a0+cst d<_;omega) λH3 n3 a l e f3 m3 ha he hg=>?_
  have ha:a<=a0+(cst d-2):=ha
  exact pq hp (hb2.fg f3) (ff2.trans f3) m3 (a:=a) (by omega) (by omega) he hg
 |false=>
 rw[Ai]
 refine AB (DZ hb2.b1) ?_
 refine ABL λH3 n3 f3=>?_
 have hn3:=f3.le
 have hb3:=hb2.kp f3
 have mk3:=mk2.kp f3
 have ff3:=ff2.trans (.kp f3)
 refine AB (DZ hb3.b1) (Bd (Lu _) (AB (ZJ t tIs) ?_))
 cases e3:t.is tIs with
 |true=>
  have e3:=Ty.wM.1 e3
  subst e3
  rw[A8]
  have arr:∀(H4:Heap) (a1:Nat),Fg gp H3 n3 H4 n3->Uw G H4 gp (s.to a1)->a1<=a0+1->Runs F G AZ [.ptr gp 0,.int .i64 (.ofNat 6) 0] H4 n3 λv42 H n=>Runs F G Qg [v42] H n λv43 H n=>
   BZ (Ah 11 1 teZ [(0,.c v43)] E0) H n λv44 H n=>Runs F G Ak [(.int .i64 (.ofNat 11) 0),(.str 0 0),v44] H n λv45 H n=>BZ (Aq 11 [teZ] E0) H n λv46 H n=>BL 11 v46 v45 H n λv47 H n=>
   AL (B2.ev .gtr (.int .i64 (.ofNat d) 0) (.int .i64 (.ofNat 0) 0)) λv54=>Ba v54 true (some (.ptr gp 0)) λv55=>Ik v54 true (Runs F G AZ [v55,.int .i64 (.ofNat 4) 0] H n) H n λv56 H n=>
   Ba v54 true (Dc (.one .int) false v56 (.int .i64 (.ofNat 0) 0)) λv57=>AL (DT v54 v57 (.bool false)) λv58=>Aa v58 true (AL (B2.ev .sub (.int .i64 (.ofNat d) 0) (.int .i64 (.ofNat 1) 0)) λv59=>
    Runs F G Ez [.ptr gp 0,v59] H n λv60 H n=>BZ (Ah 11 1 teZ [(0,.c v60)] E0) H n λv61 H n=>AL (AU 7 v46) λv62=>BL 1 v62 v61 H n λv63 H n=>DX lfp G (Runs F G) k (.ptr (b+1) 0) v46 H n)
    (DX lfp G (Runs F G) k (.ptr (b+1) 0) v46 H n):=by
   intro H4 a1 f4 m4 ha1
   refine JB m4 (by omega) (by omega) (by show a1<_;omega) λH5 r a2 hr ha2 m5 s5=>?_
   have ha2:a2<=a1+1:=ha2
   have f5:Fg gp H4 n3 H5 n3:=⟨Nat.le_refl _,λid _ hne=>s5 id hne⟩
   have f35:=f4.trans f5
   refine AU1 λH6 n6 f6=>?_
   have hn6:=f6.le
   refine WA (G:=G) (a:=n3) (e:=.mk 1 r (0,0) OU OU (0,0) []) (FQ.of .nil) hn6 λH7 f7 hes=>?_
   refine vJ (kind:=11) (nm:=(0,0)) (.inr ⟨_,_,_,_,_,rfl⟩) λH8 n8 f8=>?_
   have hn8:=f8.le
   refine Au rfl λH9 f9 g9=>?_
   refine Bq g9 rfl rfl (by omega) λH10 g10 s10=>?_
   have f10:Kp H8 n8 H10 (n8+1):=⟨f9.le,λid hid=>(s10 id (by omega)).trans (f9.same id hid)⟩
   have f510:=((f6.trans f7).trans f8).trans f10
   have f310:=f35.trans (Fg.kp (gp:=gp) f510)
   have hb10:=hb3.fg f310
   have m10:Uw G H10 gp (s.to a2):=⟨f510.get m5.g (by omega),m5.pk⟩
   have hes10:QI G H10 (λid=>b<id/\id<n8+1/\id≠n8/\id≠b+1) (.sl n6 0 1 1 11) [.mk 1 r (0,0) OU OU (0,0) []]:=hes.mono (λid hid=>by have:=hid.1;have:=hid.2;omega) λid hid=>(f8.trans f10).same id (by have:=hid.2;omega)
   have ff10:=ff3.trans f310
   cases d with
   |zero=>
    refine AB (AFZ 0) ?_
    rw[decide_eq_false (by omega)]
    refine ACQ (rD (ACQ (lZ ?_)))
    rw[Ai]
    exact ARU hp hb10 ff10 m10 (a:=a2) (by omega) (by omega) (by omega) g10 hes10 Gd.num
   |succ d=>
    have hcs:cst (d+1)=10+3*cst d:=rfl
    refine AB (AFZ (d+1)) ?_
    rw[decide_eq_true (by omega)]
    refine PV rfl (ACa ?_)
    refine JB m10 (by omega) (by omega) (by show a2<_;omega) λH11 q a3 hq aB m11 s11=>?_
    have aB:a3<=a2+1:=aB
    have f11:Fg gp H10 (n8+1) H11 (n8+1):=⟨Nat.le_refl _,λid _ hne=>s11 id hne⟩
    have hb11:=hb10.fg f11
    have ff11:=ff10.trans f11
    have g11:=f11.get g10 (by omega) (by omega)
    refine PV (CY ..) (eP ?_)
    cases q0:decide (q=0)with
    |false=>
     rw[Ai]
     exact ARU hp hb11 ff11 m11 (a:=a3) (by omega) (by omega) (by omega) g11 (hes10.mono (λid h=>h) λid hid=>s11 id (by omega)) Gd.num
    |true=>
     rw[A8]
     refine AB (ARH hd) ?_
     have mk11:Mk G H11 (n8+1) gp (s.to a3) Γ:=((mk3.fg (a:=a2) f310 m10)).fg (a:=a3) f11 m11
     refine AOT (λd' e=>hE d' (by omega)) (by omega) mk11 (by show a3+cst d<_;omega) λH12 n12 a4 l e f12 m12 zu he hg=>?_
     have hn12:=f12.le
     have zu:a4<=a3+(cst d-2):=zu
     have g12:=f12.get g11 (by omega) (by omega)
     refine WA he hn12 λH13 f13 hes2=>?_
     rw[Ae,AQ]
     refine Ib (off:=0+7) (m:=1) (v:=.sl n12 0 1 1 11) (f13.get g12 (by omega)) rfl rfl (by omega) (by show 0+7+1<=11;omega) λH14 g14 s14=>?_
     have f14:Fg gp H3 n3 H14 (n12+1):=⟨by omega,λid hid hne=>(s14 id (by omega)).trans ((f13.same id (by omega)).trans ((f12.same id (by omega) hne).trans ((f11.same id (by omega) hne).trans (f310.same id hid hne))))⟩
     exact ARU hp (hb3.fg f14) (ff3.trans f14) ⟨(s14 gp (by omega)).trans (f13.get m12.g (by omega)),m12.pk⟩ (a:=a4) (by omega) (by omega) (by omega) g14 (hes2.mono (λid hid=>by have:=hid.1;have:=hid.2;omega) λid hid=>s14 id (by have:=hid.1;omega)) hg.int
  have arr0:=arr H3 a0 (Fg.refl ..) mk3.m (by omega)
  cases d with
  |zero=>
   refine AB (AFZ 0) ?_
   rw[decide_eq_false (by omega)]
   refine ACQ (rD (ACQ (lZ ?_)))
   rw[Ai]
   exact arr0
  |succ d=>
   have hcs:cst (d+1)=10+3*cst d:=rfl
   refine AB (AFZ (d+1)) ?_
   rw[decide_eq_true (by omega)]
   refine PV rfl (ACa ?_)
   refine JB mk3.m (by omega) (by omega) (by show a0<_;omega) λH4 q a1 hq ha1 m4 s4=>?_
   have ha1:a1<=a0+1:=ha1
   have f4:Fg gp H3 n3 H4 n3:=⟨Nat.le_refl _,λid _ hne=>s4 id hne⟩
   refine PV (AFZ q) (eP ?_)
   cases q0:decide (0<q)with
   |false=>rw[Ai];exact arr H4 a1 f4 m4 ha1
   |true=>
    rw[A8]
    refine AB (ARH hd) ?_
    refine xR (cl:=nA) (hE d (by omega)) (.inl rfl) (mk3.fg (a:=a1) f4 m4) (by show a1+cst d+2<_;omega) λH5 n5 a2 l e u f5 m5 ha2 he hu huc _=>?_
    have hn5:=f5.le
    have ha2:a2<=a1+cst d:=ha2
    refine WA he hn5 λH6 f6 hes=>?_
    refine Xf (nm:=AOt) (es:=[e]) hes λH7 n7 l7 f7 he7=>?_
    have f67:=f6.trans f7
    exact pq hp (((hb3.fg f4).fg f5).kp f67) (((ff3.trans f4).trans f5).trans (.kp f67)) ⟨f67.get m5.g (by omega),m5.pk⟩ (a:=a2) (by omega) (by omega) he7 (.of (.same _) (Gd.get hu huc rfl (by decide)) ARV)
 |false=>
 rw[Ai]
 have ht2:t=tA∨t=tB:=by
  rcases ht with rfl|rfl|rfl|rfl|rfl
  ·rw[Ty.oz]at e1;cases e1
  ·rw[Ty.oz]at e2;cases e2
  ·exact .inl rfl
  ·exact .inr rfl
  ·rw[Ty.oz]at e3;cases e3
 refine AB (DZ hb3.b1) ?_
 refine ASD (λd' e=>hE d' (by omega)) hd ht2 mk3 (by show a0+cst d<_;omega) λH4 n4 a l e f4 m4 ha he hg=>?_
 have ha:a<=a0+(cst d-2):=ha
 exact pq hp (hb3.fg f4) (ff3.trans f4) m4 (a:=a) (by omega) (by omega) he hg
end
theorem ASe{inn:St}{Γ:List DJ}{m:Nat}(h:Gam Γ m){f:DJ}(hf:f∈Γ){t:Ty}(hfit:Fit t f.ty):aW inn Γ (.mk 6 0 f.nm OU OU (0,0) []) t:=
 .of hfit.rq (Gd.loc (ADf h.nd hf)) (by rcases h.ty f hf with e|e|e|e|e<;>rw[e];exact int_ne;exact ZU;exact APr;exact APU;exact ARV)
theorem AOV{b:Bool}{t:KV->Prop}{H:Heap}{n:Nat}{Q:KV}(h:Q (.G5 []) H n):Ik (.G5 []) b t H n Q:=h
section
variable{G:AX}{gp:Nat}
theorem APn(d:Nat)(hd:d<1000)(hE:∀d',d'<d->mg G gp d'):mg G gp d:=by
 intro t H n s Γ k ht h hs hp
 refine go3 (lH BK G) ?_
 delta WQ
 have hgn:=h.g
 have hcd:=AFL d
 refine DY λH1 f1 g1=>?_
 refine Au rfl λH2 f2 g2=>?_
 have f:=f1.trans f2
 have hb:Bo H2 (n+1+1) n gp t:=⟨f2.get g1 (by omega),g2,by omega,hgn⟩
 have mk:=h.kp f
 have fg:=Fg.kp (gp:=gp) f
 refine AB (DZ hb.b1) ?_
 refine AUj mk.m mk.g mk.v (by omega) (λH3 n3 f3 m3=>?_) (λH3 n3 l a hl hfit ha f3 m3=>?_)
 ·have hn3:=f3.le
  rw[O5,AQ,O7,AQ]
  refine Au rfl λH4 f4 g4=>?_
  refine Bq g4 rfl rfl (by omega) λH5 g5 s5=>?_
  have f5:Kp H3 n3 H5 (n3+1):=⟨f4.le,λid hid=>(s5 id (by omega)).trans (f4.same id hid)⟩
  repeat (first|with_reducible refine ACQ ?_|with_reducible refine rD ?_|with_reducible refine AHB ?_|with_reducible refine AOV ?_|with_reducible refine lZ ?_)
  rw[Ai]
  have f25:Fg gp H2 (n+1+1) H5 (n3+1):=f3.trans (.kp f5)
  exact ANX (s:=s) (a0:=s.at') hE hd ht (hb.fg f25) (mk.fg (a:=s.at') f25 ⟨f5.get m3.g (by omega),m3.pk⟩) (by omega) (by omega) (fg.trans f25) hp
 ·have hn3:=f3.le
  rw[O5,AQ,O7,AQ]
  refine Au rfl λH4 f4 g4=>?_
  refine Bq g4 rfl rfl (by omega) λH5 g5 s5=>?_
  have f5:Kp H3 n3 H5 (n3+1):=⟨f4.le,λid hid=>(s5 id (by omega)).trans (f4.same id hid)⟩
  have f25:Fg gp H2 (n+1+1) H5 (n3+1):=f3.trans (.kp f5)
  have hb5:=hb.fg f25
  have m5:Uw G H5 gp (s.to a):=⟨f5.get m3.g (by omega),m3.pk⟩
  have mk5:=mk.fg (a:=a) f25 m5
  have ff5:=fg.trans f25
  have hgood:=ASe (inn:=s.inn) h.gam hl hfit
  have take:∀(H6:Heap) (a1:Nat),Fg gp H5 (n3+1) H6 (n3+1)->Uw G H6 gp (s.to a1)->a1<=a+1->AL (Ad 11 (.ptr n3 0) G H6) λv17=>BL 11 (.ptr (n+1) 0) v17 H6 (n3+1) λv18 H n'=>Dz (BA [.cn (.ptr (n+1) 0) 11] G H) λl=>k (CG l) H n':=by
   intro H6 a1 f6 m6 ha1
   have g6:=f6.get g5 (by omega) (by omega)
   refine AB (BI (m:=11) g6 (by omega) rfl) ?_
   exact pq (l:=LM 6 0 l.nm OU OU (0,0) 0 0 .Ag) (a1:=n+1+1) (e:=.mk 6 0 l.nm OU OU (0,0) []) hp (hb5.fg f6) (ff5.trans f6) m6 (a:=a1) (by omega) (by omega) (FQ.of .nil) hgood
  refine PV rfl (PV (AGP d) (PV rfl ?_))
  cases d with
  |zero=>
   rw[decide_eq_true (Nat.le_refl 0)]
   refine Y0 (AHt (Y0 (PV (a:=.bool true) rfl (eP ?_))))
   rw[A8]
   exact take H5 a (Fg.refl ..) m5 (by omega)
  |succ d=>
   rw[decide_eq_false (by omega)]
   refine XE rfl (AHC ?_)
   refine JB m5 (by omega) (by omega) (by show a<_;omega) λH6 r a1 hr ha1 m6 s6=>?_
   have ha1:a1<=a+1:=ha1
   have f6:Fg gp H5 (n3+1) H6 (n3+1):=⟨Nat.le_refl _,λid _ hne=>s6 id hne⟩
   refine XE (CY ..) ?_
   cases r0:decide (r=0)with
   |true=>
    refine PV (a:=.bool true) rfl (eP ?_)
    rw[A8]
    exact take H6 a1 f6 m6 ha1
   |false=>
    refine PV (a:=.bool false) rfl (eP ?_)
    rw[Ai]
    exact ANX (s:=s) (a0:=a1) hE hd ht (hb5.fg f6) (mk5.fg (a:=a1) f6 m6) (by omega) (by omega) (ff5.trans f6) hp
theorem PU:∀d,d<1000->mg G gp d:=by
 intro d
 induction d using Nat.strongRecOn with
 |_ d ih=>intro hd;exact APn d hd λd' h=>ih d' h (by omega)
end
def typs:List Ty:=[Cb,Cb,BM,tA,tB,tIs]
section
variable{G:AX}{H:Heap}{n gp:Nat}{s:Mg}{Γ:List DJ}{k:KV}
theorem AYX(h:Mk G H n gp s Γ)(hs:s.at'<1000000000000)(hk:∀H' n' a t,Lh t->a<=s.at'+1->Fg gp H n H' n'->Uw G H' gp (s.to a)->k t.v H' n'):Runs F G Xm [.ptr gp 0] H n k:=by
 refine go1 (qH BK G) ?_
 delta XZ
 have hgn:=h.g
 refine Au rfl λH1 f1 g1=>?_
 refine JL λH2 n2 f2=>JL λH3 n3 f3=>NJ λH4 n4 f4=>bW (l:=1) (c:=65) λH5 n5 f5=>bW (l:=1) (c:=66) λH6 n6 f6=>ABL λH7 n7 f7=>?_
 have f27:=((((f2.trans f3).trans f4).trans f5).trans f6).trans f7
 have hn7:=f27.le
 refine TD (G:=G) (vs:=typs.map Ty.v) rfl (by omega) (λv hv=>by obtain⟨x,_,rfl⟩:=List.mem_map.1 hv;exact⟨rfl,rfl⟩) λH8 f8 _ hel=>?_
 have f28:=f27.trans f8
 have m8:Uw G H8 gp s:=⟨f28.get (f1.get h.m.g hgn) (by omega),h.m.pk⟩
 refine JB m8 (by omega) (by omega) hs λH9 r a hr ha m9 s9=>?_
 have Aa9:El G H9 (.sl n7 0 6 6 2) 2 (typs.map Ty.cells):=El.same hel λid hid=>by cases hid;exact s9 _ (by omega)
 obtain⟨p,hp,hld⟩:=Aa9.at (i:=r) (c:=typs[r].cells) (by rw[List.getElem?_map,List.getElem?_eq_getElem hr];rfl)
 refine AB hp (AB (DW hld) ?_)
 have g9:T.get H9 n=_:=(s9 n (by omega)).trans (f28.get g1 (by omega))
 refine Bq g9 rfl rfl (by omega) λH10 g10 s10=>?_
 rw[Cm (m:=2) g10 (by omega) rfl]
 simp only[go_sem]
 refine hk H10 (n7+1) a typs[r] ?_ ha ⟨by omega,λid hid hne=>(s10 id (by omega)).trans ((s9 id hne).trans ((f28.same id (by omega)).trans (f1.same id hid)))⟩ ⟨(s10 gp (by omega)).trans m9.g,m9.pk⟩
 match r,hr with
 |0,_=>exact .inl rfl
 |1,_=>exact .inl rfl
 |2,_=>exact .inr (.inl rfl)
 |3,_=>exact .inr (.inr (.inl rfl))
 |4,_=>exact .inr (.inr (.inr (.inl rfl)))
 |5,_=>exact .inr (.inr (.inr (.inr rfl)))
abbrev ttZ:LV:=[.int .i64 (.ofNat 0) 0,.int .i64 (.ofNat 0) 0,.int .i64 (.ofNat 0) 0,.str 0 0,.str 0 0,.bool false,.Ag,.Ag,.Ag]
theorem AJl{does id m:Nat}(hk:∀H' n',Kp H n H' n'->k (.agg (ttC does 0 0 (0,0) OU (.sl id 0 m m 11) .Ag .Ag)) H' n'):Runs F G BR [.int .i64 (.ofNat does) 0,.sl id 0 m m 11] H n k:=by
 refine go2 (dL BK G) ?_
 delta Un
 refine Au rfl λH1 f1 g1=>?_
 refine AB (v:=.agg (ttC does 0 0 (0,0) OU (.sl id 0 m m 11) .Ag .Ag)) rfl ?_
 refine Bq g1 rfl rfl (by omega) λH2 g2 s2=>?_
 rw[Cm (m:=9) g2 (by omega) rfl]
 simp only[go_sem]
 exact hk _ _ ⟨f1.le,λid hid=>(s2 id (by omega)).trans (f1.same id hid)⟩
end
end Go.RL
