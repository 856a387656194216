/- Part of a proof; nothing is assumed. -/
import Derived.Test.YtmbhlmocojopaaaGreatDoorConC
import Derived.Test.YtmbhlmocojopaaaGreatDoorWalk
set_option linter.unusedVariables false
set_option linter.unusedSimpArgs false
namespace Go.RL
open Go.DW
set_option maxRecDepth 100000
structure Mg where
 vp:V
 at':Nat
 vv:V
 names:Nat
 inn:St
def Mg.cells(s:Mg):LV:=[s.vp,.int .i64 (.ofNat s.at') 0,s.vv,.int .i64 (.ofNat s.names) 0,s.inn.v]
def ints(xs:List Int):DZ:=xs.map λi=>[.int .i64 i 0]
theorem ARH(xs:List Int):(ints xs).length=xs.length:=List.length_map ..
def AWr(G:AX)(vp:V):Prop:=∃ps:List Int,(∀H,El G H vp 1 (ints ps))/\ps.length<=200
structure WC(G:AX)(H:Heap)(gp:Nat)(s:Mg):Prop where
 g:T.get H gp=some (one s.cells)
 pk:AWr G s.vp
structure Fg(gp:Nat)(H:Heap)(n:Nat)(H':Heap)(n':Nat):Prop where
 le:n<=n'
 same:∀id,id<n->id≠gp->T.get H' id=T.get H id
theorem Fg.refl(gp:Nat)(H:Heap)(n:Nat):Fg gp H n H n:=⟨Nat.le_refl _,λ_ _ _=>rfl⟩
theorem Fg.trans{gp:Nat}{H H' H'':Heap}{n n' n'':Nat}(x:Fg gp H n H' n')(y:Fg gp H' n' H'' n''):Fg gp H n H'' n'':=
 ⟨Nat.le_trans x.le y.le,λid h hg=>(y.same id (Nat.lt_of_lt_of_le h x.le) hg).trans (x.same id h hg)⟩
theorem Fg.kp{gp:Nat}{H H':Heap}{n n':Nat}(x:Kp H n H' n'):Fg gp H n H' n':=⟨x.le,λid h _=>x.same id h⟩
theorem Fg.get{gp:Nat}{H H':Heap}{n n' id:Nat}{b:S9}(x:Fg gp H n H' n')(h:T.get H id=some b)(hl:id<n)(hg:id≠gp):T.get H' id=some b:=(x.same id hl hg).trans h
def Mg.to(s:Mg)(a:Nat):Mg:={s with at':=a}
theorem AUT(a b:Int):B2.ev .add (.int .i64 a 0) (.int .i64 b 0)=some (.int .i64 (qN .i64 (AF9 a b)) 0):=rfl
theorem AMc(z:Int){m:Nat}(hm:0<m):B2.ev .rem (.int .i64 z 0) (.int .i64 (.ofNat m) 0)=some (.int .i64 (Int.tmod z m) 0):=by
 show CG (band true (band true (TM (ieq (.ofNat m) 0)))) (mkN .i64 (Int.tmod z (.ofNat m)) 0)=_
 have:ieq (.ofNat m) 0=false:=by rw[jQ];cases m with|zero=>omega|succ m=>rfl
 rw[this]
 show Yz (Int.tmod z (.ofNat m)) (λm=>some (.int .i64 m 0))=_
 rw[Yp];rfl
theorem AXW(u:Nat){m:Nat}(hm:0<m)(hu:u<9223372036854775808):B2.ev .quo (.int .i64 (.ofNat u) 0) (.int .i64 (.ofNat m) 0)=some (.int .i64 (.ofNat (u/m)) 0):=by
 show CG (band true (band true (TM (ieq (.ofNat m) 0)))) (mkI .i64 (Int.tdiv (.ofNat u) (.ofNat m)) 0)=_
 have:ieq (.ofNat m) 0=false:=by rw[jQ];cases m with|zero=>omega|succ m=>rfl
 rw[this]
 show some (V.int .i64 (qN .i64 (Int.tdiv (.ofNat u) (.ofNat m))) 0)=_
 have hd:u/m<=u:=Nat.div_le_self ..
 rw[show Int.tdiv (.ofNat u) (.ofNat m)=Int.ofNat (u/m)from rfl,Ze]
 generalize u/m=d at hd
 rw[ay (by simp) (by simp;omega)]
theorem Jm{H:Heap}{n m b off:Nat}{L0:LV}{v:V}{P:KV}(g:T.get H b=some (one L0))(hv:jZ v=true)(hn:(Ba v).length=m)(hm:0<m)(hl:off+m<=L0.length)
 (h:∀H',T.get H' b=some (one (L0.take off++(Ba v++L0.drop (off+m))))->(∀j,j≠b->T.get H' j=T.get H j)->P .undef H' n):Bq m (.ptr b off) v H n P:=by
 rw[AMw g hv hn hm hl];exact h _ (T.BP ..) λj hj=>T.Ak _ _ (Ne.symm hj)
theorem ARk(z:Int){m:Nat}(hm:0<m): -(m:Int)<Int.tmod z m/\Int.tmod z m<m:=by
 have h1:=Int.tmod_lt_of_pos z (show(0:Int)<m by omega)
 have h2:=Int.tmod_lt_of_pos (-z) (show(0:Int)<m by omega)
 rw[Int.neg_tmod]at h2
 omega
theorem CO(i o:Nat):Ap (.ptr i o)=some (.ptr i o):=rfl
section
variable{G:AX}{H:Heap}{n gp:Nat}{s:Mg}{k:KV}
theorem JI{m:Nat}(h:WC G H gp s)(hm:0<m)(hm2:m<=1000000)(hs:s.at'<1000000000000)
 (hk:∀H' r a,r<m->a<=s.at'+1->WC G H' gp (s.to a)->(∀id,id≠gp->T.get H' id=T.get H id)->k (.int .i64 (.ofNat r) 0) H' n):Runs F G AZ [.ptr gp 0,.int .i64 (.ofNat m) 0] H n k:=by
 refine BH (s:=N7 (MK lfp G)) PZ (by obtain⟨h,o⟩:=jc BI G;rw[PZ]at h;cases h;exact o) ?_
 show MK lfp G (Runs F G) (.ptr gp 0) (.int .i64 (.ofNat m) 0) H n k
 delta MK
 obtain⟨ps,hp,hl⟩:=h.pk
 have q0:AY (.ptr gp 0) G H=some s.vp:=AV h.g rfl
 have q1:AY (.ptr gp 1) G H=some (.int .i64 (.ofNat s.at') 0):=AV h.g rfl
 have hlen:=(hp H).len
 rw[ARH]at hlen
 simp only[go_sem,CO,Nat.reduceAdd,q0,hlen,DI]
 by_cases h0:ps.length=0
 ·rw[decide_eq_true h0,Ar]
  exact hk H 0 s.at' hm (Nat.le_succ _) h λ_ _=>rfl
 ·rw[decide_eq_false h0,Aj]
  have hpos:0<ps.length:=by omega
  have hlt:s.at'%ps.length<ps.length:=Nat.mod_lt _ hpos
  obtain⟨p,hpp,hld⟩:=(hp H).at (i:=s.at'%ps.length) (c:=[.int .i64 ps[s.at'%ps.length] 0]) (by simp[ints,hlt])
  have rz:=AMc (s.at':Int) hpos
  rw[show Int.tmod (s.at':Int) (ps.length:Int)=Int.ofNat (s.at'%ps.length)from rfl]at rz
  generalize hz:qN .i64 (AF9 ps[s.at'%ps.length] (Int.ofNat (s.at'/ps.length)))=z
  have hb:=ARk z hm
  obtain⟨r,hr⟩:∃r:Nat,Int.tmod z m+m=r:=⟨(Int.tmod z m+m).toNat,by omega⟩
  have ha:B2.ev .add (.int .i64 (Int.tmod z m) 0) (.int .i64 (.ofNat m) 0)=some (.int .i64 (.ofNat r) 0):=by
   rw[AUT,ABR,Ze]
   have e:Int.tmod z (m:Int)+Int.ofNat m=(r:Int):=hr
   rw[e,ay (by omega) (by omega)];rfl
  have q2:B2.ev .rem (.int .i64 (.ofNat s.at') 0) (.int .i64 (.ofNat ps.length) 0)=some (.int .i64 (.ofNat (s.at'%ps.length)) 0):=rz
  have q3:AY p G H=some (.int .i64 ps[s.at'%ps.length] 0):=ni hld
  have q4:=AXW s.at' hpos (by omega)
  have q5:=AUT ps[s.at'%ps.length] (Int.ofNat (s.at'/ps.length))
  rw[hz]at q5
  have q6:=FB (i:=s.at') (by omega)
  have q7:B2.ev .rem (.int .i64 (.ofNat r) 0) (.int .i64 (.ofNat m) 0)=some (.int .i64 (.ofNat (r%m)) 0):=AMc (r:Int) hm
  simp only[go_sem,CO,Nat.reduceAdd,q0,q1,hlen,q2,hpp,q3,q4,q5,q6,AMc z hm,ha,q7]
  refine Jm (off:=1) (m:=1) h.g rfl rfl (by omega) (by show 1+1<=5;omega) λH1 g1 s1=>?_
  refine hk H1 (r%m) (s.at'+1) (Nat.mod_lt _ hm) (Nat.le_refl _) ⟨g1,h.pk⟩ s1
abbrev teZ:LV:=[.int .i64 (.ofNat 0) 0,.int .i64 (.ofNat 0) 0,.int .i64 (.ofNat 0) 0,.int .i64 (.ofNat 0) 0,.str 0 0,.str 0 0,.bool false,.Ad,.str 0 0,.bool false,.str 0 0]
theorem uZ{kind:Nat}{nm:St}{v:V}(hv:v=.Ad∨∃a b c d e,v=.sl a b c d e)(hk:∀H' n',Kp H n H' n'->k (.agg (XL kind 0 nm Ox Ox (0,0) 0 0 v)) H' n'):Runs F G Ai [.int .i64 (.ofNat kind) 0,nm.v,v] H n k:=by
 refine BH (s:=ar3 (Vj lfp G)) Yo (by obtain⟨h,o⟩:=ACQ BI G;rw[Yo]at h;cases h;exact o) ?_
 show Vj lfp G (Runs F G) (.int .i64 (.ofNat kind) 0) nm.v v H n k
 delta Vj
 refine Az rfl λH1 f1 g1=>?_
 refine AB (v:=.agg (XL kind 0 nm Ox Ox (0,0) 0 0 v)) (by rcases hv with rfl|⟨a,b,c,d,e,rfl⟩<;>rfl) ?_
 refine DV g1 rfl rfl (by omega) λH2 g2 s2=>?_
 rw[D9 (m:=11) g2 (by omega) rfl]
 simp only[go_sem]
 exact hk _ _ ⟨f1.le,λid hid=>(s2 id (by omega)).trans (f1.same id hid)⟩
theorem AUK{r:Nat}(hk:∀H' n',Kp H n H' n'->k (.agg (XL 1 r (0,0) Ox Ox (0,0) 0 0 .Ad)) H' n'):Runs F G Qy [.int .i64 (.ofNat r) 0] H n k:=by
 refine BH (s:=mO (Vk lfp G)) Yv (by obtain⟨h,o⟩:=ACr BI G;rw[Yv]at h;cases h;exact o) ?_
 show Vk lfp G (Runs F G) (.int .i64 (.ofNat r) 0) H n k
 delta Vk
 refine Az rfl λH1 f1 g1=>?_
 refine AB (v:=.agg (XL 1 r (0,0) Ox Ox (0,0) 0 0 .Ad)) rfl ?_
 refine DV g1 rfl rfl (by omega) λH2 g2 s2=>?_
 rw[D9 (m:=11) g2 (by omega) rfl]
 simp only[go_sem]
 exact hk _ _ ⟨f1.le,λid hid=>(s2 id (by omega)).trans (f1.same id hid)⟩
end
theorem EP(a b:Nat):B2.ev .lss (.int .i64 (.ofNat a) 0) (.int .i64 (.ofNat b) 0)=some (.bool (decide (a<b))):=AEL ..
theorem ATw{e:Option V}{a:V}{P:Prop}(hp:P):ADV (.bool true) false e a P:=hp
theorem AXM{b:Bool}{e:Option V}{a:V}{P:Prop}(hp:P):ADV (.Io []) b e a P:=hp
theorem AT4{e:Option V}{a:V}{P:Prop}(hp:P):ADV (.bool false) true e a P:=hp
structure AOF(G:AX)(H:Heap)(n gp:Nat)(v:V)(Γ:List Dh):Prop where
 el:El G H v 3 (Γ.map UW)
 lo:∀id,v.Ec=some id->id<n/\id≠gp
 lt:Γ.length<=1000
theorem AOF.fg{G:AX}{H H':Heap}{n n' gp:Nat}{v:V}{Γ:List Dh}(h:AOF G H n gp v Γ)(f:Fg gp H n H' n'):AOF G H' n' gp v Γ:=
 ⟨h.el.same λid hid=>f.same id (h.lo id hid).1 (h.lo id hid).2,λid hid=>⟨Nat.lt_of_lt_of_le (h.lo id hid).1 f.le,(h.lo id hid).2⟩,h.lt⟩
def Fit(t u:Ty):Prop:=u=t∨t=tA/\u=tB
theorem Fit.rq{t u:Ty}(h:Fit t u):Rq t u:=by rcases h with rfl|⟨rfl,rfl⟩;exact .same _;exact .ba
def LcJ(G:AX)(H:Heap)(n gp:Nat)(s:Mg)(Γ:List Dh)(t:Ty)(j:Nat)(H':Heap)(n':Nat)(v:V)(xs:List St):Prop:=
 Fg gp H n H' n'/\WC G H' gp s/\T.get H' n=some (one t.cells)/\T.get H' (n+1)=some (one teZ)/\n+2<n'/\Sk H' 1 (λid=>n+2<=id/\id<n') v (xs.map λx=>[x.v])/\
  (∀x∈xs,∃f∈Γ,f.nm=x/\Fit t f.ty)/\xs.length<=j
section
variable{G:AX}{H:Heap}{n gp:Nat}{s:Mg}{Γ:List Dh}{k:KV}
theorem ATC{t:Ty}(h:WC G H gp s)(hg:gp<n)(hv:AOF G H n gp s.vv Γ)(hs:s.at'<1000000000000)
 (hk1:∀H' n',Fg gp H n H' n'->WC G H' gp s->k (.Io [.agg teZ,.bool false]) H' n')
 (hk2:∀H' n' f a,f∈Γ->Fit t f.ty->a<=s.at'+1->Fg gp H n H' n'->WC G H' gp (s.to a)->k (.Io [.agg (XL 6 0 f.nm Ox Ox (0,0) 0 0 .Ad),.bool true]) H' n'):
 Runs F G WS [.ptr gp 0,t.v] H n k:=by
 refine BH (s:=N7 (Ku lfp G)) Oq (by obtain⟨h,o⟩:=jT BI G;rw[Oq]at h;cases h;exact o) ?_
 show Ku lfp G (Runs F G) (.ptr gp 0) t.v H n k
 delta Ku
 refine Dq λH1 f1 g1=>?_
 refine Az rfl λH2 f2 g2=>?_
 have g1:=f2.get g1 (by omega)
 refine WU (G:=G) (vs:=[]) rfl (by omega) (λv hv=>by cases hv) λH3 f3 g3 hel=>?_
 have g1:=f3.get g1 (by omega)
 have g2:=f3.get g2 (by omega)
 have f13:Kp H n H3 (n+1+1+1):=(f1.trans f2).trans f3
 have m3:WC G H3 gp s:=⟨f13.get h.g hg,h.pk⟩
 have q2:AY (.ptr gp 2) G H3=some s.vv:=AV m3.g rfl
 have hv3:=hv.fg (Fg.kp (gp:=gp) f13)
 have hl:=hv3.el.len
 rw[List.length_map]at hl
 simp only[go_sem,CO,Nat.reduceAdd,q2,hl]
 obtain⟨t3,g3⟩:=g3
 refine DF (N:=Γ.length) (J:=λj q=>∃H' n' v xs,q=(.ptr gp 0,.ptr n 0,.ptr (n+1) 0,v,s.vv,.int .i64 (.ofNat Γ.length) 0,.int .i64 (.ofNat j) 0,H',n')/\LcJ G H n gp s Γ t j H' n' v xs) ?_ ?_
  ⟨H3,n+1+1+1,_,[],rfl,Fg.kp f13,m3,g1,g2,by omega,.emp g3 (by omega),λx hx=>(by cases hx),Nat.le_refl _⟩
 ·rintro I j q hlt ⟨H4,n4,v,xs,rfl,hj⟩ ih
  show GX lfp G (Runs F G) k I (.ptr gp 0) (.ptr n 0) (.ptr (n+1) 0) v s.vv (.int .i64 (.ofNat Γ.length) 0) (.int .i64 (.ofNat j) 0) H4 n4
  delta GX
  obtain⟨f4,m4,b1,b2,hn4,hsk,hxs,hxl⟩:=hj
  have hv4:=hv.fg f4
  obtain⟨p,hp,hld⟩:=hv4.el.at (i:=j) (c:=UW Γ[j]) (by simp[hlt])
  have hmem:Γ[j]∈Γ:=List.getElem_mem hlt
  generalize Γ[j]=f at hld hmem
  rw[EP,AQ,decide_eq_true hlt,Ar]
  refine AB hp (AB (Dx hld) ?_)
  refine Az rfl λH5 f5 g5=>?_
  refine DV g5 rfl rfl (by omega) λH6 g6 s6=>?_
  have f6:Kp H4 n4 H6 (n4+1):=⟨f5.le,λid hid=>(s6 id (by omega)).trans (f5.same id hid)⟩
  have b1:=f6.get b1 (by omega)
  have b2:=f6.get b2 (by omega)
  have m6:WC G H6 gp s:=⟨f6.get m4.g (by omega),h.pk⟩
  have qt:∀{H':Heap},T.get H' n4=some (one (UW f))->Ag 2 (.ptr n4 1) G H'=some f.ty.v:=λg=>EM (off:=1) (m:=2) g (by omega) (by show 3<=3;omega)
  have q1:=qt g6
  have q2:Ag 2 (.ptr n 0) G H6=some t.v:=DT b1
  have f46:=f4.trans (Fg.kp (gp:=gp) f6)
  have hsk6:Sk H6 1 (λid=>n+2<=id/\id<n4) v (xs.map λx=>[x.v]):=hsk.mono (λ_ h=>h) λid hid=>f6.same id hid.2
  have yes:∀{H7:Heap} {n7:Nat},Kp H6 (n4+1) H7 n7->Fit t f.ty->AP (AY (.ptr n4 0) G H7) (λv42=>Bh (Af 1 1 [.str 0 0] [(0,.c v42)] E0) H7 n7 λv43 H n'=>
   Rt 1 16 v v43 G H n' λv44 H n'=>ED lfp G (Runs F G) k I (.ptr gp 0) (.ptr n 0) (.ptr (n+1) 0) v44 s.vv (.int .i64 (.ofNat Γ.length) 0) (.int .i64 (.ofNat j) 0) H n'):=by
   intro H7 n7 f7 hfit
   have g7:=f7.get g6 (by omega)
   have m7:WC G H7 gp s:=⟨f7.get m6.g (by omega),h.pk⟩
   have hn7:=f7.le
   refine AB (AV (off:=0) g7 (v:=f.nm.v) rfl) ?_
   have hsk7:Sk H7 1 (λid=>n+2<=id/\id<n7) v (xs.map λx=>[x.v]):=hsk6.mono (λ_ hh=>⟨hh.1,by omega⟩) λid hid=>f7.same id (by omega)
   have hxb:xs.length<=1000:=by have:=hv.lt;omega
   refine hsk7.app (m:=0) (bs:=16) (c:=f.nm.v) (λid hid=>(hsk7.own hid).2) (by omega) rfl rfl (by rw[List.length_map];omega) λv' H8 hs8 hsame hsid=>?_
   delta ED
   rw[FB (by have:=hv.lt;omega),AQ]
   have same:∀id,id<n7->v.Ec≠some id->T.get H8 id=T.get H7 id:=hsame
   have old:∀id,id<n+2->T.get H8 id=T.get H7 id:=λid hid=>same id (by omega) λe=>by have:=(hsk7.own e).1;omega
   refine ih _ ⟨H8,n7+2,v',xs++[f.nm],rfl,?_⟩
   refine⟨⟨by have:=f4.le;omega,λid hid hne=>(old id (by omega)).trans ((f7.same id (by omega)).trans (f46.same id hid hne))⟩,⟨(old gp (by omega)).trans m7.g,h.pk⟩,(old n (by omega)).trans (f7.get b1 (by omega)),(old (n+1) (by omega)).trans (f7.get b2 (by omega)),by omega,?_,?_,by rw[List.length_append];exact Nat.succ_le_succ hxl⟩
   ·have:=hs8 (λid=>n+2<=id/\id<n7+2) ⟨by omega,by omega⟩
    rw[List.map_append];exact this
   ·intro x hx
    rcases List.mem_append.1 hx with hx|hx
    ·exact hxs x hx
    ·rw[List.mem_singleton.1 hx];exact⟨f,hmem,rfl,hfit⟩
  have no:∀{H7:Heap} {n7:Nat},Kp H6 (n4+1) H7 n7->ED lfp G (Runs F G) k I (.ptr gp 0) (.ptr n 0) (.ptr (n+1) 0) v s.vv (.int .i64 (.ofNat Γ.length) 0) (.int .i64 (.ofNat j) 0) H7 n7:=by
   intro H7 n7 f7
   have hn7:=f7.le
   delta ED
   rw[FB (by have:=hv.lt;omega),AQ]
   exact ih _ ⟨H7,n7,v,xs,rfl,f46.trans (Fg.kp f7),⟨f7.get m6.g (by omega),h.pk⟩,f7.get b1 (by omega),f7.get b2 (by omega),by omega,hsk6.mono (λ_ hh=>⟨hh.1,by omega⟩) λid hid=>f7.same id (by omega),hxs,Nat.le_succ_of_le hxl⟩
  simp only[go_sem,Nat.reduceAdd,q1,q2,iE]
  cases hE:f.ty.is t with
  |true=>
   repeat (first|with_reducible refine SE ?_|with_reducible refine Zt ?_|with_reducible refine ATw ?_)
   simp only[go_sem]
   refine AXM ?_
   exact yes (Kp.refl _ _) (.inl (Ty.sV.1 hE))
  |false=>
   refine X5 rfl (AF6 ?_)
   refine jK λH7 n7 f7=>?_
   have b17:=f7.get b1 (by omega)
   refine ARa (DT b17) (Ld t) ?_
   refine X5 (iE t tA) (X5 rfl ?_)
   cases hA:t.is tA with
   |false=>
    repeat (first|with_reducible refine ABz ?_|with_reducible refine vM ?_|with_reducible refine AT4 ?_)
    simp only[go_sem]
    exact no f7
   |true=>
    have g67:=f7.get g6 (by omega)
    refine Sr rfl (Sr (qt g67) (ADX ?_))
    refine jK λH8 n8 f8=>?_
    have g68:=f8.get g67 (by have:=f7.le;omega)
    refine AWx (qt g68) (Ld _) ?_
    refine Sr (iE f.ty tB) ?_
    refine X5 (ADs ..) (AB (ADs ..) ?_)
    cases hB:f.ty.is tB with
    |true=>show Ae (.bool true) true _ _;rw[Ar];exact yes (f7.trans f8) (.inr ⟨Ty.sV.1 hA,Ty.sV.1 hB⟩)
    |false=>show Ae (.bool false) true _ _;rw[Aj];exact no (f7.trans f8)
 ·rintro I q ⟨H4,n4,v,xs,rfl,hj⟩
  show GX lfp G (Runs F G) k I (.ptr gp 0) (.ptr n 0) (.ptr (n+1) 0) v s.vv (.int .i64 (.ofNat Γ.length) 0) (.int .i64 (.ofNat Γ.length) 0) H4 n4
  delta GX
  rw[EP,AQ,decide_eq_false (Nat.lt_irrefl _),Aj]
  delta NG
  obtain⟨f4,m4,b1,b2,hn4,hsk,hxs,hxl⟩:=hj
  have hel:=hsk.el (G:=G) (by omega)
  refine AB hel.len (AB (DI ..) ?_)
  rw[List.length_map]
  cases xs with
  |nil=>
   rw[show decide (([]:List St).length=0)=true from rfl,Ar]
   refine AB (v:=.agg teZ) rfl ?_
   refine DV b2 rfl rfl (by omega) λH5 g5 s5=>?_
   rw[D9 (m:=11) g5 (by omega) rfl]
   simp only[go_sem]
   have f5:Fg gp H n H5 n4:=⟨f4.le,λid hid hne=>(s5 id (by omega)).trans (f4.same id hid hne)⟩
   exact hk1 _ _ f5 ⟨(s5 gp (by omega)).trans m4.g,h.pk⟩
  |cons x xs=>
   rw[decide_eq_false (by simp),Aj]
   refine AB hel.len ?_
   rw[List.length_map]
   have hln:(x::xs).length<=1000:=by have:=hv.lt;omega
   refine JI m4 (by simp) (by omega) hs λH5 r a hr ha m5 same5=>?_
   have AFs:El G H5 v 1 ((x::xs).map λx=>[x.v]):=hel.same λid hid=>same5 id λe=>by have:=(hsk.own hid).1;omega
   obtain⟨p,hp,hld⟩:=AFs.at (i:=r) (c:=[(x::xs)[r].v]) (by rw[List.getElem?_map,List.getElem?_eq_getElem hr];rfl)
   obtain⟨f,hf,hnm,hfit⟩:=hxs _ (List.getElem_mem hr)
   rw[<-hnm]at hld
   refine AB hp (AB (ni hld) ?_)
   refine uZ (nm:=f.nm) (.inl rfl) λH6 n6 f6=>?_
   have b5:T.get H5 (n+1)=some (one teZ):=(same5 _ (by omega)).trans b2
   have b6:=f6.get b5 (by omega)
   refine DV b6 rfl rfl (by omega) λH7 g7 s7=>?_
   rw[D9 (m:=11) g7 (by omega) rfl]
   simp only[go_sem]
   have m6:WC G H7 gp (s.to a):=⟨(s7 gp (by omega)).trans (f6.get m5.g (by omega)),h.pk⟩
   have f7:Fg gp H n H7 n6:=⟨Nat.le_trans f4.le f6.le,λid hid hne=>(s7 id (by omega)).trans ((f6.same id (Nat.lt_of_lt_of_le hid f4.le)).trans ((same5 id hne).trans (f4.same id hid hne)))⟩
   exact hk2 _ _ f a hf hfit ha f7 m6
end
def Rg(a b:Nat):Nat->Prop:=λid=>a<=id/\id<b
structure dV(inn:St)(Γ:List Dh)(e:Te)(t:Ty):Prop where
 ex:∃u,Rq t u/\Gd inn Γ e u/\(e.kind≠4->u≠Jl)
theorem dV.of{inn:St}{Γ:List Dh}{e:Te}{t u:Ty}(hu:Rq t u)(h:Gd inn Γ e u)(hk:u≠Jl):dV inn Γ e t:=⟨u,hu,h,λ_=>hk⟩
structure Mk(G:AX)(H:Heap)(n gp:Nat)(s:Mg)(Γ:List Dh):Prop where
 m:WC G H gp s
 g:gp<n
 v:AOF G H n gp s.vv Γ
 gam:Gam Γ s.names
 inn:s.inn=(0,0)∨s.inn=nA∨s.inn=nB
theorem Mk.fg{G:AX}{H H':Heap}{n n' gp a:Nat}{s:Mg}{Γ:List Dh}(h:Mk G H n gp s Γ)(f:Fg gp H n H' n')(m:WC G H' gp (s.to a)):Mk G H' n' gp (s.to a) Γ:=
 ⟨m,Nat.lt_of_lt_of_le h.g f.le,h.v.fg f,h.gam,h.inn⟩
theorem Mk.kp{G:AX}{H H':Heap}{n n' gp:Nat}{s:Mg}{Γ:List Dh}(h:Mk G H n gp s Γ)(f:Kp H n H' n'):Mk G H' n' gp s Γ:=
 ⟨⟨f.get h.m.g h.g,h.m.pk⟩,Nat.lt_of_lt_of_le h.g f.le,h.v.fg (.kp f),h.gam,h.inn⟩
def EPost(G:AX)(H:Heap)(n gp:Nat)(s:Mg)(Γ:List Dh)(t:Ty)(c:Nat)(k:KV):Prop:=
 ∀H' n' a l e,Fg gp H n H' n'->WC G H' gp (s.to a)->a<=s.at'+c->GN G H' (Rg n n') l e->dV s.inn Γ e t->k (.agg l) H' n'
def cst:Nat->Nat
 |0=>10
 |d+1=>10+3*cst d
def jd(G:AX)(gp d:Nat):Prop:=∀(t:Ty) (H:Heap) (n:Nat) (s:Mg) (Γ:List Dh) (k:KV),Lh t->Mk G H n gp s Γ->s.at'+cst d+2<1000000000000->EPost G H n gp s Γ t (cst d) k->Runs F G Ah [.ptr gp 0,t.v,.int .i64 (.ofNat d) 0] H n k
theorem GN.fg{G:AX}{H H':Heap}{a b n' gp:Nat}{l:LV}{e:Te}(h:GN G H (Rg a b) l e)(hg:gp<a)(f:Fg gp H b H' n'):GN G H' (Rg a n') l e:=
 h.mono (λid hid=>⟨hid.1,Nat.lt_of_lt_of_le hid.2 f.le⟩) λid hid=>f.same id hid.2 λe=>by have:=hid.1;omega
theorem GN.kp'{G:AX}{H H':Heap}{a b n':Nat}{l:LV}{e:Te}(h:GN G H (Rg a b) l e)(f:Kp H b H' n'):GN G H' (Rg a n') l e:=
 h.mono (λid hid=>⟨hid.1,Nat.lt_of_lt_of_le hid.2 f.le⟩) λid hid=>f.same id hid.2
section
variable{G:AX}{H:Heap}{n a:Nat}{P:KV}{Z:LV}
theorem Xf{l:LV}{e:Te}(h:GN G H (Rg a n) l e)(ha:a<=n)(hk:∀H',Kp H n H' (n+1)->Qc G H' (Rg a (n+1)) (.sl n 0 1 1 11) [e]->P (.sl n 0 1 1 11) H' (n+1)):Bh (Af 11 1 Z [(0,.c (.agg l))] E0) H n P:=by
 refine WU (G:=G) (vs:=[.agg l]) rfl (by omega) (λv hv=>by simp at hv;subst hv;exact⟨rfl,h.len⟩) λH' f _ hel=>?_
 refine hk H' f ⟨[l],hel,AGa (Nat.le_refl _),rfl,rfl,λid hid=>by cases hid;exact⟨ha,Nat.lt_succ_self _⟩,.cons (h.kp' f) .nil⟩
theorem iF{l1 l2:LV}{e1 e2:Te}(h1:GN G H (Rg a n) l1 e1)(h2:GN G H (Rg a n) l2 e2)(ha:a<=n)(hk:∀H',Kp H n H' (n+1)->Qc G H' (Rg a (n+1)) (.sl n 0 2 2 11) [e1,e2]->P (.sl n 0 2 2 11) H' (n+1)):Bh (Af 11 2 Z [(0,.c (.agg l1)),(1,.c (.agg l2))] E0) H n P:=by
 refine WU (G:=G) (vs:=[.agg l1,.agg l2]) rfl (by omega) (λv hv=>by simp at hv;rcases hv with rfl|rfl;exact⟨rfl,h1.len⟩;exact⟨rfl,h2.len⟩) λH' f _ hel=>?_
 refine hk H' f ⟨[l1,l2],hel,AGa (Nat.le_refl _),rfl,rfl,λid hid=>by cases hid;exact⟨ha,Nat.lt_succ_self _⟩,.cons (h1.kp' f) (.cons (h2.kp' f) .nil)⟩
theorem YO{kind:Nat}{nm:St}{id m:Nat}{es:List Te}{k:KV}(h:Qc G H (Rg a n) (.sl id 0 m m 11) es)(hk:∀H' n' l,Kp H n H' n'->GN G H' (Rg a n') l (.mk kind 0 nm Ox Ox (0,0) es)->k (.agg l) H' n'):
 Runs F G Ai [.int .i64 (.ofNat kind) 0,nm.v,.sl id 0 m m 11] H n k:=
 uZ (.inr ⟨_,_,_,_,_,rfl⟩) λH' n' f=>hk H' n' _ f (GN.of (h.mono (λid hid=>⟨hid.1,Nat.lt_of_lt_of_le hid.2 f.le⟩) λid hid=>f.same id hid.2))
theorem ALg{kind:Nat}{nm:St}{k:KV}(hk:∀H' n' l,Kp H n H' n'->GN G H' (Rg a n') l (.mk kind 0 nm Ox Ox (0,0) [])->k (.agg l) H' n'):Runs F G Ai [.int .i64 (.ofNat kind) 0,nm.v,.Ad] H n k:=
 uZ (.inl rfl) λH' n' f=>hk H' n' _ f (GN.of .nil)
theorem AFU{b:Nat}{l L0:LV}{e:Te}{k:KV}(hb:T.get H b=some (one L0))(h0:L0.length=11)(he:GN G H (Rg a n) l e)(hba:b<a)(hk:∀H',(∀id,id≠b->T.get H' id=T.get H id)->GN G H' (Rg a n) l e->k (.agg l) H' n):
 Bq 11 (.ptr b 0) (.agg l) H n λ_ H n=>Ej (BO [.cn (.ptr b 0) 11] G H) λl=>k (DX l) H n:=by
 refine DV hb h0 he.len (by omega) λH' g s=>?_
 rw[D9 (m:=11) g (by omega) he.len]
 simp only[go_sem]
 exact hk H' s (he.mono (λ_ h=>h) λid hid=>s id λe=>by have:=hid.1;omega)
end
theorem GN.kd{G:AX}{H:Heap}{A:Nat->Prop}{c:LV}{e:Te}(h:GN G H A c e):c[0]? =some (.int .i64 (.ofNat e.kind) 0):=by cases h;rfl
theorem AXc{cl:St}(hcl:cl=nA∨cl=nB){u:Ty}(r:Rq ⟨cl,false⟩ u)(hn:u≠Jl):(u=tA∨u=tB)/\(cl=nB->u=tB):=by
 rcases hcl with rfl|rfl
 ·have key:∀t,Rq t u->t=tA->u=tA∨u=tB:=by
   intro t r ht
   cases r with
   |same=>exact .inl ht
   |ba=>exact .inr rfl
   |na=>exact absurd rfl hn
   |nb=>exact absurd rfl hn
  exact⟨key _ r rfl,λh=>by cases h⟩
 ·have key:∀t,Rq t u->t=tB->u=tB:=by
   intro t r ht
   cases r with
   |same=>exact ht
   |ba=>rfl
   |na=>exact absurd rfl hn
   |nb=>exact absurd rfl hn
  exact⟨.inr (key _ r rfl),λ_=>key _ r rfl⟩
section
variable{G:AX}{H:Heap}{n gp:Nat}{s:Mg}{Γ:List Dh}{k:KV}
theorem ANC{b c a:Nat}{l L0:LV}{e:Te}(hb:T.get H b=some (one L0))(h0:L0.length=11)(hc:T.get H c=some (one l))(he:GN G H (Rg a n) l e)(hba:b<a)(hk:∀H',(∀id,id≠b->T.get H' id=T.get H id)->GN G H' (Rg a n) l e->k (.agg l) H' n):
 G9 lfp G (Runs F G) k (.ptr b 0) (.ptr c 0) H n:=by
 delta G9
 refine AB (Bf (m:=11) hc (by omega) he.len) ?_
 exact AFU hb h0 he hba hk
theorem tH{d:Nat}{cl:St}(hE:jd G gp d)(hcl:cl=nA∨cl=nB)(h:Mk G H n gp s Γ)(hs:s.at'+cst d+2<1000000000000)
 (hk:∀H' n' a l e u,Fg gp H n H' n'->WC G H' gp (s.to a)->a<=s.at'+cst d->GN G H' (Rg n n') l e->Gd s.inn Γ e u->(u=tA∨u=tB)->(cl=nB->u=tB)->k (.agg l) H' n'):
 Runs F G BQ [.ptr gp 0,cl.v,.int .i64 (.ofNat d) 0] H n k:=by
 refine BH (s:=ar3 (ML lfp G)) Pq (by obtain⟨h,o⟩:=kS BI G;rw[Pq]at h;cases h;exact o) ?_
 show ML lfp G (Runs F G) (.ptr gp 0) cl.v (.int .i64 (.ofNat d) 0) H n k
 delta ML
 have hgn:=h.g
 refine Az rfl λH1 f1 g1=>?_
 refine jK (l:=cl.1) (c:=cl.2) λH2 n2 f2=>?_
 have f12:=f1.trans f2
 have hn2:=f2.le
 have htm:Lh ⟨cl,false⟩:=by rcases hcl with rfl|rfl;exact .inr (.inr (.inl rfl));exact .inr (.inr (.inr (.inl rfl)))
 refine hE ⟨cl,false⟩ H2 n2 s Γ _ htm (h.kp f12) hs λH3 n3 a l e f3 m3 ha he hgd=>?_
 have hn3:=f3.le
 have g3:=f3.get (f2.get g1 (by omega)) (by omega) (by omega)
 refine Az rfl λH4 f4 g4=>?_
 refine DV g4 rfl he.len (by omega) λH5 g5 s5=>?_
 have f45:Kp H3 n3 H5 (n3+1):=⟨f4.le,λid hid=>(s5 id (by omega)).trans (f4.same id hid)⟩
 have g35:=f45.get g3 (by omega)
 have he5:GN G H5 (Rg n2 (n3+1)) l e:=he.kp' f45
 have m5:WC G H5 gp (s.to a):=⟨f45.get m3.g (by omega),m3.pk⟩
 have f5:Fg gp H n H5 (n3+1):=((Fg.kp f12).trans f3).trans (.kp f45)
 rw[Ee,AQ]
 refine AB (AV (off:=0) g5 he5.kd) (AB (DI ..) ?_)
 cases hk4:decide (e.kind=4)with
 |true=>
  rw[Ar]
  refine uZ (kind:=10) (nm:=(0,0)) (.inl rfl) λH6 n6 f6=>?_
  have hn6:=f6.le
  have g56:=f6.get g5 (by omega)
  refine DV g56 he.len rfl (by omega) λH7 g7 s7=>?_
  refine jK (l:=cl.1) (c:=cl.2) λH8 n8 f8=>?_
  have hn8:=f8.le
  have g8:=f8.get g7 (by omega)
  rw[Am,AQ]
  refine Jm (off:=0+5) (m:=2) (v:=Ty.v ⟨cl,false⟩) g8 rfl rfl (by omega) (by show 0+5+2<=11;omega) λH9 g9 s9=>?_
  have same:∀id,id<n3->T.get H9 id=T.get H5 id:=λid hid=>(s9 id (by omega)).trans ((f8.same id (by omega)).trans ((s7 id (by omega)).trans (f6.same id (by omega))))
  refine ANC (a:=n+1) (b:=n) (L0:=teZ) (e:=.mk 10 0 (0,0) ⟨cl,false⟩ Ox (0,0) []) ((same n (by omega)).trans g35) rfl g9 (GN.of .nil) (Nat.lt_succ_self _) λH10 s10 he10=>?_
  refine hk H10 n8 a _ _ ⟨cl,false⟩ ?_ ?_ ha (he10.mono (λid hid=>⟨by have:=hid.1;omega,hid.2⟩) λ_ _=>rfl) (Gd.new (by rcases hcl with rfl|rfl;exact .inl rfl;exact .inr rfl)) (by rcases hcl with rfl|rfl;exact .inl rfl;exact .inr rfl) λe=>by rw[e];rfl
  ·exact⟨by omega,λid hid hne=>(s10 id (by omega)).trans ((same id (by omega)).trans (f5.same id hid hne))⟩
  ·exact⟨(s10 gp (by omega)).trans ((same gp (by omega)).trans m5.g),m5.pk⟩
 |false=>
  rw[Aj]
  refine ANC (a:=n2) (b:=n) (L0:=teZ) g35 rfl g5 he5 (by omega) λH10 s10 he10=>?_
  obtain⟨u,r,hu,hnn⟩:=hgd.ex
  obtain⟨q1,q2⟩:=AXc hcl r (hnn (of_decide_eq_false hk4))
  refine hk H10 (n3+1) a _ _ u ?_ ⟨(s10 gp (by omega)).trans m5.g,m5.pk⟩ ha (he10.mono (λid hid=>⟨by have:=hid.1;omega,hid.2⟩) λ_ _=>rfl) hu q1 q2
  exact⟨by omega,λid hid hne=>(s10 id (by omega)).trans (f5.same id hid hne)⟩
end
theorem ABT{t u:Ty}(h:t.nm≠u.nm):t≠u:=λe=>h (congrArg Ty.nm e)
theorem int_ne:Du≠Jl:=ABT (by decide)
theorem aV:CJ≠Jl:=ABT (by decide)
theorem AQM:tIs≠Jl:=ABT (by decide)
theorem AN1:tA≠Jl:=ABT (by decide)
theorem ANf:tB≠Jl:=ABT (by decide)
theorem Rq.APY{t u:Ty}(r:Rq t u)(hA:t≠tA)(hB:t≠tB):u=t:=by
 cases r with
 |same=>rfl
 |ba=>exact absurd rfl hA
 |na=>exact absurd rfl hA
 |nb=>exact absurd rfl hB
theorem dV.APY{inn:St}{Γ:List Dh}{e:Te}{t:Ty}(h:dV inn Γ e t)(hA:t≠tA)(hB:t≠tB):Gd inn Γ e t:=by
 obtain⟨u,r,hu,_⟩:=h.ex
 rw[<-r.APY hA hB];exact hu
theorem dV.int{inn:St}{Γ:List Dh}{e:Te}(h:dV inn Γ e Du):Gd inn Γ e Du:=h.APY (ABT (by decide)) (ABT (by decide))
theorem dV.bool{inn:St}{Γ:List Dh}{e:Te}(h:dV inn Γ e CJ):Gd inn Γ e CJ:=h.APY (ABT (by decide)) (ABT (by decide))
theorem dV.is{inn:St}{Γ:List Dh}{e:Te}(h:dV inn Γ e tIs):Gd inn Γ e tIs:=h.APY (λe=>by have:=congrArg Ty.arr e;cases this) (λe=>by have:=congrArg Ty.arr e;cases this)
theorem AB5{f:Nat}{a b:V}{call:BG}{H:Heap}{n:Nat}{k:KV}:Em (.fn f [] [a,b]) [] call H n k=call f [a,b] H n k:=rfl
theorem jO{f:Nat}{a b x:V}{call:BG}{H:Heap}{n:Nat}{k:KV}:Em (.fn f [] [a,b]) [x] call H n k=call f [x,a,b] H n k:=rfl
structure Bx(H:Heap)(n b gp d:Nat):Prop where
 b1:T.get H b=some (one [.ptr gp 0])
 b2:T.get H (b+1)=some (one [.int .i64 (.ofNat (d+1)) 0])
 b3:T.get H (b+2)=some (one teZ)
 le:b+3<=n
 g:gp<b
theorem Bx.fg{H H':Heap}{n n' b gp d:Nat}(h:Bx H n b gp d)(f:Fg gp H n H' n'):Bx H' n' b gp d:=by
 have:=h.le;have:=h.g
 exact⟨f.get h.b1 (by omega) (by omega),f.get h.b2 (by omega) (by omega),f.get h.b3 (by omega) (by omega),Nat.le_trans h.le f.le,h.g⟩
theorem Bx.same{H H':Heap}{n n' b gp d:Nat}(h:Bx H n b gp d)(hn:n<=n')(hs:∀id,b<=id->id<b+3->T.get H' id=T.get H id):Bx H' n' b gp d:=
 ⟨(hs b (by omega) (by omega)).trans h.b1,(hs (b+1) (by omega) (by omega)).trans h.b2,(hs (b+2) (by omega) (by omega)).trans h.b3,Nat.le_trans h.le hn,h.g⟩
theorem Bx.kp{H H':Heap}{n n' b gp d:Nat}(h:Bx H n b gp d)(f:Kp H n H' n'):Bx H' n' b gp d:=h.fg (.kp f)
theorem AJs(i o:Nat):Aw (.ptr i o) (.ptr i o)=true:=by
 show band (Nat.beq i i) (Nat.beq o o)=true
 rw[Ea,Ea];rfl
theorem AI8(q:IntKind)(a:Int):Aw (.int q a 0) (.int q a 0)=true:=AIN q a
theorem ADY(d:Nat)(hd:d<1000):B2.ev .sub (.int .i64 (.ofNat (d+1)) 0) (.int .i64 (.ofNat 1) 0)=some (.int .i64 (.ofNat d) 0):=AUj (a:=d+1) (b:=1) (by omega) (by omega)
section
variable{G:AX}{H:Heap}{n gp d b:Nat}{s:Mg}{Γ:List Dh}{k:KV}
theorem zh(hk:∀H' n',Kp H n H' n'->k tIs.v H' n'):Runs F G FH [] H n k:=by
 refine BH (s:=ar0 (Ud lfp G)) Xh (by obtain⟨h,o⟩:=ABE BI G;rw[Xh]at h;cases h;exact o) ?_
 show Ud lfp G (Runs F G) H n k
 delta Ud
 refine Az rfl λH1 f1 g1=>?_
 refine AB (v:=tIs.v) rfl ?_
 refine DV g1 rfl rfl (by omega) λH2 g2 s2=>?_
 rw[D9 (m:=2) g2 (by omega) rfl]
 simp only[go_sem]
 exact hk _ _ ⟨f1.le,λid hid=>(s2 id (by omega)).trans (f1.same id hid)⟩
theorem ACH(hE:jd G gp d)(hd:d<1000)(h:Mk G H n gp s Γ)(hb:Bx H n b gp d)(hs:s.at'+cst d+2<1000000000000)(hk:EPost G H n gp s Γ Du (cst d) k):Runs F G FK [.ptr b 0,.ptr (b+1) 0] H n k:=by
 refine BH (s:=N7 (LU lfp G)) O1 (by obtain⟨h,o⟩:=jI BI G;rw[O1]at h;cases h;exact o) ?_
 show LU lfp G (Runs F G) (.ptr b 0) (.ptr (b+1) 0) H n k
 delta LU
 have hgn:=h.g
 refine Az rfl λH1 f1 g1=>?_
 have hb1:=hb.kp f1
 refine AB (AV (off:=0) hb1.b1 rfl) (AB (AV (off:=0) hb1.b2 rfl) ?_)
 rw[ADY d hd,AQ]
 refine Oj λH2 n2 f2=>?_
 have hn2:=f2.le
 have hb2:=hb1.kp f2
 refine AB (AV (off:=0) hb2.b1 rfl) (Di (AJs ..) (AB (AV (off:=0) hb2.b2 rfl) (Di (AI8 ..) ?_)))
 have f12:=f1.trans f2
 refine hE Du H2 n2 s Γ _ (.inl rfl) (h.kp f12) hs λH3 n3 a l e f3 m3 ha he hgd=>?_
 have hn3:=f3.le
 have g3:=f3.get (f2.get g1 (by omega)) (by omega) (by omega)
 refine AFU g3 rfl he (by omega) λH4 s4 he4=>?_
 refine hk H4 n3 a l e ?_ ⟨(s4 gp (by omega)).trans m3.g,m3.pk⟩ ha (he4.mono (λid hid=>⟨by have:=hid.1;omega,hid.2⟩) λ_ _=>rfl) hgd
 exact⟨by omega,λid hid hne=>(s4 id (by omega)).trans (((Fg.kp f12).trans f3).same id hid hne)⟩
theorem ACq{vs:List V}{m:Nat}{P:KV}(hm:vs.length=m)(hv:∀v∈vs,jZ v=true/\(Ba v).length=1)(hk:∀H',Kp H n H' (n+1)->El G H' (.sl n 0 m m 1) 1 (vs.map Ba)->P (.sl n 0 m m 1) H' (n+1)):Bh (Af 1 m [.str 0 0] (AHu 0 vs) E0) H n P:=
 WU (G:=G) hm (by omega) hv λH' f _ hel=>hk H' f hel
def W1(G:AX)(H:Heap)(v:V)(ws:List St):Prop:=El G H v 1 (ws.map λx=>[x.v])
theorem W1.at{G:AX}{H:Heap}{v:V}{ws:List St}(h:W1 G H v ws){r:Nat}(hr:r<ws.length):∃p,BD 1 v (.int .i64 (.ofNat r) 0)=some p/\AY p G H=some (ws[r].v):=by
 obtain⟨p,hp,hld⟩:=El.at h (i:=r) (c:=[ws[r].v]) (by rw[List.getElem?_map,List.getElem?_eq_getElem hr];rfl)
 exact⟨p,hp,ni hld⟩
theorem W1.again{G:AX}{H':Heap}{v p:V}{ws:List St}(h':W1 G H' v ws){r:Nat}(hr:r<ws.length)(hp:BD 1 v (.int .i64 (.ofNat r) 0)=some p):AY p G H'=some (ws[r].v):=by
 obtain⟨p',hp',hl⟩:=h'.at hr
 rw[hp]at hp';cases hp';exact hl
theorem W1.fg{G:AX}{H H':Heap}{n n' gp id m:Nat}{ws:List St}(h:W1 G H (.sl id 0 m m 1) ws)(f:Fg gp H n H' n')(hid:id<n)(hg:id≠gp):W1 G H' (.sl id 0 m m 1) ws:=
 El.same h λj hj=>by cases hj;exact f.same id hid hg
theorem AFo(x:St):Aw x.v x.v=true:=AFb ..
theorem iD{c a0 n0:Nat}{t:Ty}{H0:Heap}{l:LV}{e:Te}{a:Nat}(hp:EPost G H0 n0 gp s Γ t c k)(hb:Bx H n b gp d)(hb0:n0<=b)(f:Fg gp H0 n0 H n)(m:WC G H gp (s.to a))(ha:a<=s.at'+c)(ha0:b+2<a0)
 (he:GN G H (Rg a0 n) l e) (hg:dV s.inn Γ e t) (hgn:gp<n0):Bq 11 (.ptr (b+2) 0) (.agg l) H n λ_ H n=>Ej (BO [.cn (.ptr (b+2) 0) 11] G H) λl=>k (DX l) H n:=by
 have:=hb.g
 refine AFU hb.b3 rfl he ha0 λH4 s4 he4=>?_
 refine hp H4 n a l e ⟨f.le,λid hid hne=>(s4 id (by omega)).trans (f.same id hid hne)⟩ ⟨(s4 gp (by omega)).trans m.g,m.pk⟩ ha (he4.mono (λid hid=>⟨by have:=hid.1;omega,hid.2⟩) λ_ _=>rfl) hg
end
theorem AEy(d:Nat):B2.ev .leq (.int .i64 (.ofNat d) 0) (.int .i64 (.ofNat 0) 0)=some (.bool (decide (d<=0))):=ALF ..
def ws2:List St:=[nA,nB]
def ops5:List St:=[AT5,ATd,ATr,ATc,ATp]
section
variable{G:AX}{H:Heap}{n gp d:Nat}{s:Mg}{Γ:List Dh}{k:KV}
theorem AVq(h:Mk G H n gp s Γ)(hs:s.at'<1000000000000-10)(hk:EPost G H n gp s Γ Du (cst 0-2) k):Runs F G E5 [.ptr gp 0,.int .i64 (.ofNat 0) 0] H n k:=by
 refine BH (s:=N7 (GK lfp G)) JH (by obtain⟨h,o⟩:=XR BI G;rw[JH]at h;cases h;exact o) ?_
 show GK lfp G (Runs F G) (.ptr gp 0) (.int .i64 (.ofNat 0) 0) H n k
 delta GK
 have hgn:=h.g
 refine Dq λH1 f1 g1=>?_
 refine Dq λH2 f2 g2=>?_
 refine Az rfl λH3 f3 g3=>?_
 have g1:=f3.get (f2.get g1 (by omega)) (by omega)
 have g2:=f3.get g2 (by omega)
 have f:=(f1.trans f2).trans f3
 refine AB (AV (off:=0) g2 rfl) (AB (AEy 0) ?_)
 rw[decide_eq_true (Nat.le_refl 0),Ar]
 refine AB (AV (off:=0) g1 rfl) ?_
 have h3:=h.kp f
 refine JI h3.m (by omega) (by omega) (by omega) λH4 r a hr ha m4 s4=>?_
 refine AUK λH5 n5 f5=>?_
 have hn5:=f5.le
 have g5:=f5.get ((s4 (n+1+1) (by omega)).trans g3) (by omega)
 refine AFU (a:=n+1+1+1) (e:=.mk 1 r (0,0) Ox Ox (0,0) []) g5 rfl (GN.of .nil) (by omega) λH6 s6 he6=>?_
 refine hk H6 n5 a _ _ ⟨by omega,λid hid hne=>(s6 id (by omega)).trans ((f5.same id (by omega)).trans ((s4 id hne).trans (f.same id hid)))⟩ ⟨(s6 gp (by omega)).trans (f5.get m4.g (by omega)),m4.pk⟩ (by unfold cst;omega) (he6.mono (λid hid=>⟨by have:=hid.1;omega,hid.2⟩) λ_ _=>rfl) ⟨Du,.same _,Gd.num,λ_=>int_ne⟩
theorem AX3(hE:jd G gp d)(hd:d<1000)(h:Mk G H n gp s Γ)(hs:s.at'+cst (d+1)<1000000000000)(hk:EPost G H n gp s Γ Du (cst (d+1)-2) k):Runs F G E5 [.ptr gp 0,.int .i64 (.ofNat (d+1)) 0] H n k:=by
 refine BH (s:=N7 (GK lfp G)) JH (by obtain⟨h,o⟩:=XR BI G;rw[JH]at h;cases h;exact o) ?_
 show GK lfp G (Runs F G) (.ptr gp 0) (.int .i64 (.ofNat (d+1)) 0) H n k
 delta GK
 have hgn:=h.g
 have hc:cst (d+1)=10+3*cst d:=rfl
 refine Dq λH1 f1 g1=>?_
 refine Dq λH2 f2 g2=>?_
 refine Az rfl λH3 f3 g3=>?_
 have bx:Bx H3 (n+1+1+1) n gp d:=⟨f3.get (f2.get g1 (by omega)) (by omega),f3.get g2 (by omega),g3,by omega,hgn⟩
 have f0:=(f1.trans f2).trans f3
 have mk:=h.kp f0
 have fg0:=Fg.kp (gp:=gp) f0
 clear f1 f2 f3 g1 g2 g3 f0
 generalize hn3:n+1+1+1=n3 at*
 have hle:=bx.le
 refine AB (AV (off:=0) bx.b2 rfl) (AB (AEy (d+1)) ?_)
 rw[decide_eq_false (by omega),Aj]
 refine AB (AV (off:=0) bx.b1 rfl) ?_
 refine JI mk.m (by omega) (by omega) (by omega) λH4 r a1 hr ha1 m4 s4=>?_
 have f4:Fg gp H3 n3 H4 n3:=⟨Nat.le_refl _,λid _ hne=>s4 id hne⟩
 have fg4:=fg0.trans f4
 have bx4:=bx.fg f4
 have mk4:=mk.fg f4 m4
 refine AB (DI ..) ?_
 cases h0:decide (r=0)with
 |true=>
  rw[Ar]
  refine AB (AV (off:=0) bx4.b1 rfl) (AB (AV (off:=0) bx4.b2 rfl) ?_)
  rw[ADY d hd,AQ]
  refine tH (cl:=nA) hE (.inl rfl) mk4 (by show a1+cst d+2<_;omega) λH5 n5 a2 l e u f5 m5 ha2 he hu huc _=>?_
  have hn5:=f5.le
  refine Xf he hn5 λH6 f6 hes=>?_
  refine YO (nm:=n_x) (es:=[e]) hes λH7 n7 l7 f7 he7=>?_
  have f67:=f6.trans f7
  refine iD hk ((bx4.fg f5).kp f67) (Nat.le_refl _) ((fg4.trans f5).trans (.kp f67)) ⟨f67.get m5.g (by omega),m5.pk⟩ (a:=a2) (by have:a2<=a1+cst d:=ha2;omega) (by omega) he7 (.of (.same _) (Gd.get hu huc rfl (by decide)) int_ne) hgn
 |false=>
 rw[Aj]
 refine AB (DI ..) ?_
 cases h1:decide (r=1)with
 |true=>
  rw[Ar]
  refine AB (AV (off:=0) bx4.b1 rfl) (AB (AV (off:=0) bx4.b2 rfl) ?_)
  rw[ADY d hd,AQ]
  refine tH (cl:=nA) hE (.inl rfl) mk4 (by show a1+cst d+2<_;omega) λH5 n5 a2 l e u f5 m5 ha2 he hu huc _=>?_
  have hn5:=f5.le
  have ha2:a2<=a1+cst d:=ha2
  have mk5:=mk4.fg f5 m5
  have pV:=bx4.fg f5
  rw[AB5]
  refine ACH hE hd mk5 pV (by show a2+cst d+2<_;omega) λH6 n6 a3 l2 e2 f6 m6 bU he2 hg2=>?_
  have hn6:=f6.le
  have bU:a3<=a2+cst d:=bU
  have he6:=he.fg (by omega) f6
  have he2':GN G H6 (Rg n3 n6) l2 e2:=he2.mono (λid hid=>⟨by have:=hid.1;omega,hid.2⟩) λ_ _=>rfl
  refine iF he6 he2' (by omega) λH7 f7 hes=>?_
  refine YO (nm:=dM) (es:=[e,e2]) hes λH8 n8 l8 f8 he8=>?_
  have f78:=f7.trans f8
  refine iD hk ((pV.fg f6).kp f78) (Nat.le_refl _) (((fg4.trans f5).trans f6).trans (.kp f78)) ⟨f78.get m6.g (by omega),m6.pk⟩ (a:=a3) (by omega) (by omega) he8 (.of (.same _) (Gd.AXD hu huc hg2.int) int_ne) hgn
 |false=>
 rw[Aj]
 refine AB (DI ..) ?_
 cases h2:decide (r=2)with
 |true=>
  rw[Ar]
  refine AB (AV (off:=0) bx4.b1 rfl) (AB (AV (off:=0) bx4.b2 rfl) ?_)
  rw[ADY d hd,AQ]
  refine Az rfl λH5 f5 g5=>?_
  have pV:=bx4.kp f5
  have mk5:=mk4.kp f5
  rw[AB5]
  refine ACH hE hd mk5 pV (by show a1+cst d+2<_;omega) λH6 n6 a2 l e f6 m6 ha2 he hg1=>?_
  have hn6:=f6.le
  have ha2:a2<=a1+cst d:=ha2
  have bx6:=pV.fg f6
  have mk6:=mk5.fg f6 m6
  have g6:=f6.get g5 (by omega) (by omega)
  refine AB (AV (off:=0) bx6.b1 rfl) (Di (AJs ..) (AB (AV (off:=0) bx6.b2 rfl) (Di (AI8 ..) ?_)))
  refine jK (l:=1) (c:=65) λH7 n7 f7=>?_
  have hn7:=f7.le
  have bx7:=bx6.kp f7
  refine AB (AV (off:=0) bx7.b1 rfl) (Di (AJs ..) (AB (AV (off:=0) bx7.b2 rfl) (Di (AI8 ..) ?_)))
  refine hE tA H7 n7 (s.to a2) Γ _ (.inr (.inr (.inl rfl))) (mk6.kp f7) (by show a2+cst d+2<_;omega) λH8 n8 a3 l2 e2 f8 m8 bU he2 hg2=>?_
  have hn8:=f8.le
  have bU:a3<=a2+cst d:=bU
  have g8:=f8.get (f7.get g6 (by omega)) (by omega) (by omega)
  have he8:=(he.kp' f7).fg (by omega) f8
  have he2':GN G H8 (Rg (n3+1) n8) l2 e2:=he2.mono (λid hid=>⟨by have:=hid.1;omega,hid.2⟩) λ_ _=>rfl
  refine iF he8 he2' (by omega) λH9 f9 hes=>?_
  refine uZ (kind:=9) (nm:=vI) (.inr ⟨_,_,_,_,_,rfl⟩) λH10 n10 f10=>?_
  have hn10:=f10.le
  have hes10:=hes.mono (B:=Rg (n3+1) n10) (H':=H10) (λid hid=>⟨hid.1,by have:=hid.2;omega⟩) λid hid=>f10.same id hid.2
  have g10:=f10.get (f9.get g8 (by omega)) (by omega)
  refine DV g10 rfl rfl (by omega) λH11 g11 s11=>?_
  have same11:∀id,id<n8->id≠n3->T.get H11 id=T.get H8 id:=λid hid e=>(s11 id e).trans ((f10.same id (by omega)).trans (f9.same id (by omega)))
  have bx11:Bx H11 n10 n gp d:=(bx7.fg f8).same (by omega) λid _ hid=>same11 id (by omega) (by omega)
  have m11:WC G H11 gp (s.to a3):=⟨(same11 gp (by omega) (by omega)).trans m8.g,m8.pk⟩
  refine ACq (G:=G) (vs:=ws2.map St.v) rfl (λv hv=>by obtain⟨x,_,rfl⟩:=List.mem_map.1 hv;exact⟨rfl,rfl⟩) λH12 f12 hw=>?_
  have hw:W1 G H12 (.sl n10 0 2 2 1) ws2:=hw
  have bx12:=bx11.kp f12
  refine AB (AV (off:=0) bx12.b1 rfl) ?_
  have m12:WC G H12 gp (s.to a3):=⟨f12.get m11.g (by omega),m11.pk⟩
  refine JI m12 (by omega) (by omega) (by show a3<_;omega) λH13 q a4 hq yh m13 s13=>?_
  have yh:a4<=a3+1:=yh
  have f13:Fg gp H12 (n10+1) H13 (n10+1):=⟨Nat.le_refl _,λid _ hne=>s13 id hne⟩
  have hw13:=hw.fg f13 (by omega) (by omega)
  obtain⟨p,hp,hld⟩:=hw13.at hq
  refine AB hp (AB hld ?_)
  refine jK (l:=ws2[q].1) (c:=ws2[q].2) λH14 n14 f14=>?_
  have hn14:=f14.le
  have g14:=f14.get (f13.get (f12.get g11 (by omega)) (by omega) (by omega)) (by omega)
  rw[Am,AQ]
  refine Jm (off:=0+5) (m:=2) (v:=Ty.v ⟨ws2[q],false⟩) g14 rfl rfl (by omega) (by show 0+5+2<=11;omega) λH15 g15 s15=>?_
  refine AB (Bf (m:=11) g15 (by omega) rfl) ?_
  have same15:∀id,id<n10->id≠n3->id≠gp->T.get H15 id=T.get H11 id:=λid hid e hne=>(s15 id e).trans ((f14.same id (by omega)).trans ((f13.same id (by omega) hne).trans (f12.same id hid)))
  have hes15:=hes10.mono (B:=Rg (n3+1) n14) (H':=H15) (λid hid=>⟨hid.1,by have:=hid.2;omega⟩) λid hid=>(same15 id (by have:=hid.2;omega) (by have:=hid.1;omega) (by have:=hid.1;omega)).trans (s11 id (by have:=hid.1;omega))
  have hty:({nm:=ws2[q],arr:=false}:Ty)=tA∨({nm:=ws2[q],arr:=false}:Ty)=tB:=by
   match q,hq with
   |0,_=>exact .inl rfl
   |1,_=>exact .inr rfl
  obtain⟨u,hu1,hu2,_⟩:=hg2.ex
  refine iD (a:=a4) (a0:=n3+1) (e:=.mk 9 0 vI ⟨ws2[q],false⟩ Ox (0,0) [e,e2]) hk (bx12.same (n':=n14) (by omega) λid _ hid=>(s15 id (by omega)).trans ((f14.same id (by omega)).trans (f13.same id (by omega) (by omega)))) (Nat.le_refl _) ?_ ⟨(s15 gp (by omega)).trans (f14.get m13.g (by omega)),m13.pk⟩ (by omega) (by omega) (GN.of hes15) (.of (.same _) (Gd.AZ2 hty hg1.int hu2 hu1) int_ne) hgn
  refine⟨by omega,λid hid hne=>(same15 id (by omega) (by omega) hne).trans ((same11 id (by omega) (by omega)).trans ?_)⟩
  exact(((((fg4.trans (.kp f5)).trans f6).trans (.kp f7)).trans f8).same id hid hne)
 |false=>
 rw[Aj]
 refine AB (DI ..) ?_
 cases h3:decide (r=3)with
 |true=>
  rw[Ar]
  refine AB (AV (off:=0) bx4.b1 rfl) (AB (AV (off:=0) bx4.b2 rfl) ?_)
  rw[ADY d hd,AQ]
  refine zh λH5 n5 f5=>?_
  have hn5:=f5.le
  have pV:=bx4.kp f5
  refine AB (AV (off:=0) pV.b1 rfl) (Di (AJs ..) (AB (AV (off:=0) pV.b2 rfl) (Di (AI8 ..) ?_)))
  refine hE tIs H5 n5 (s.to a1) Γ _ (.inr (.inr (.inr (.inr rfl)))) (mk4.kp f5) (by show a1+cst d+2<_;omega) λH6 n6 a2 l e f6 m6 ha2 he hgd=>?_
  have hn6:=f6.le
  have ha2:a2<=a1+cst d:=ha2
  have mk6:=(mk4.kp f5).fg f6 m6
  have bx6:=pV.fg f6
  rw[AB5]
  refine ACH hE hd mk6 bx6 (by show a2+cst d+2<_;omega) λH7 n7 a3 l2 e2 f7 m7 bU he2 hg2=>?_
  have hn7:=f7.le
  have bU:a3<=a2+cst d:=bU
  have he7:=he.fg (by omega) f7
  have he2':GN G H7 (Rg n5 n7) l2 e2:=he2.mono (λid hid=>⟨by have:=hid.1;omega,hid.2⟩) λ_ _=>rfl
  refine iF he7 he2' (by omega) λH8 f8 hes=>?_
  refine YO (nm:=(0,0)) (es:=[e,e2]) hes λH9 n9 l9 f9 he9=>?_
  have f89:=f8.trans f9
  refine iD hk ((bx6.fg f7).kp f89) (Nat.le_refl _) ((((fg4.trans (.kp f5)).trans f6).trans f7).trans (.kp f89)) ⟨f89.get m7.g (by omega),m7.pk⟩ (a:=a3) (by omega) (by omega) he9 (.of (.same _) (Gd.elm hgd.is hg2.int) int_ne) hgn
 |false=>
 rw[Aj]
 refine AB (DI ..) ?_
 cases h4:decide (r=4)with
 |true=>
  rw[Ar]
  refine AB (AV (off:=0) bx4.b1 rfl) (AB (AV (off:=0) bx4.b2 rfl) ?_)
  rw[ADY d hd,AQ]
  refine zh λH5 n5 f5=>?_
  have hn5:=f5.le
  have pV:=bx4.kp f5
  refine AB (AV (off:=0) pV.b1 rfl) (Di (AJs ..) (AB (AV (off:=0) pV.b2 rfl) (Di (AI8 ..) ?_)))
  refine hE tIs H5 n5 (s.to a1) Γ _ (.inr (.inr (.inr (.inr rfl)))) (mk4.kp f5) (by show a1+cst d+2<_;omega) λH6 n6 a2 l e f6 m6 ha2 he hgd=>?_
  have hn6:=f6.le
  have ha2:a2<=a1+cst d:=ha2
  refine Xf he hn6 λH8 f8 hes=>?_
  refine YO (nm:=(0,0)) (es:=[e]) hes λH9 n9 l9 f9 he9=>?_
  have f89:=f8.trans f9
  refine iD hk ((pV.fg f6).kp f89) (Nat.le_refl _) (((fg4.trans (.kp f5)).trans f6).trans (.kp f89)) ⟨f89.get m6.g (by omega),m6.pk⟩ (a:=a2) (by omega) (by omega) he9 (.of (.same _) (Gd.len hgd.is) int_ne) hgn
 |false=>
 rw[Aj]
 refine AB (DI ..) ?_
 cases h5:decide (r=5)with
 |true=>
  rw[Ar,AB5]
  refine ACH hE hd mk4 bx4 (by show a1+cst d+2<_;omega) λH6 n6 a2 l e f6 m6 ha2 he hgd=>?_
  have hn6:=f6.le
  have ha2:a2<=a1+cst d:=ha2
  refine Xf he hn6 λH8 f8 hes=>?_
  refine YO (nm:=(0,0)) (es:=[e]) hes λH9 n9 l9 f9 he9=>?_
  have f89:=f8.trans f9
  refine iD hk ((bx4.fg f6).kp f89) (Nat.le_refl _) ((fg4.trans f6).trans (.kp f89)) ⟨f89.get m6.g (by omega),m6.pk⟩ (a:=a2) (by omega) (by omega) he9 (.of (.same _) (Gd.neg hgd.int) int_ne) hgn
 |false=>
 rw[Aj]
 refine ACq (G:=G) (vs:=ops5.map St.v) rfl (λv hv=>by obtain⟨x,_,rfl⟩:=List.mem_map.1 hv;exact⟨rfl,rfl⟩) λH5 f5 hw=>?_
 have hw:W1 G H5 (.sl n3 0 5 5 1) ops5:=hw
 have pV:=bx4.kp f5
 have mk5:=mk4.kp f5
 refine AB (AV (off:=0) pV.b1 rfl) ?_
 refine JI mk5.m (by omega) (by omega) (by show a1<_;omega) λH6 q a2 hq ha2 m6 s6=>?_
 have ha2:a2<=a1+1:=ha2
 have f6:Fg gp H5 (n3+1) H6 (n3+1):=⟨Nat.le_refl _,λid _ hne=>s6 id hne⟩
 have hw6:=hw.fg f6 (by omega) (by omega)
 have bx6:=pV.fg f6
 have mk6:=mk5.fg f6 m6
 obtain⟨p,hp,hld⟩:=hw6.at hq
 refine AB hp (AB hld ?_)
 rw[AB5]
 refine ACH hE hd mk6 bx6 (by show a2+cst d+2<_;omega) λH7 n7 a3 l e f7 m7 bU he hg1=>?_
 have hn7:=f7.le
 have bU:a3<=a2+cst d:=bU
 have hw7:=hw6.fg f7 (by omega) (by omega)
 refine AB (hw7.again hq hp) (Di (AFo _) ?_)
 have bx7:=bx6.fg f7
 have mk7:=mk6.fg f7 m7
 rw[AB5]
 refine ACH hE hd mk7 bx7 (by show a3+cst d+2<_;omega) λH8 n8 a4 l2 e2 f8 m8 yh he2 hg2=>?_
 have hn8:=f8.le
 have yh:a4<=a3+cst d:=yh
 have hw8:=hw7.fg f8 (by omega) (by omega)
 refine AB (hw8.again hq hp) (Di (AFo _) ?_)
 have he8:=he.fg (by omega) f8
 have he2':GN G H8 (Rg (n3+1) n8) l2 e2:=he2.mono (λid hid=>⟨by have:=hid.1;omega,hid.2⟩) λ_ _=>rfl
 refine iF he8 he2' (by omega) λH9 f9 hes=>?_
 refine YO (nm:=ops5[q]) (es:=[e,e2]) hes λH10 n10 l10 f10 he10=>?_
 have f910:=f9.trans f10
 refine iD hk ((bx7.fg f8).kp f910) (Nat.le_refl _) (((((fg4.trans (.kp f5)).trans f6).trans f7).trans f8).trans (.kp f910)) ⟨f910.get m8.g (by omega),m8.pk⟩ (a:=a4) (by omega) (by omega) he10 (.of (.same _) (Gd.ari (List.getElem_mem hq) hg1.int hg2.int) int_ne) hgn
end
theorem rqA{u:Ty}(r:Rq tA u):u=tA∨u=tB∨u=Jl:=by
 have key:∀t,Rq t u->t=tA->u=tA∨u=tB∨u=Jl:=by
  intro t r ht
  cases r with
  |same=>exact .inl ht
  |ba=>exact .inr (.inl rfl)
  |na=>exact .inr (.inr rfl)
  |nb=>exact .inr (.inr rfl)
 exact key _ r rfl
theorem AMg{u:Ty}(r:Rq tA u):(u.cls||u.is Jl)=true:=by rcases rqA r with rfl|rfl|rfl<;>rfl
def wsE:List St:=[yR,xw]
def ws4:List St:=[ADW,ADb,yR,xw]
section
variable{G:AX}{H:Heap}{n gp d b:Nat}{s:Mg}{Γ:List Dh}{k:KV}
theorem Y1{t:Ty}(hE:jd G gp d)(hd:d<1000)(ht:Lh t)(h:Mk G H n gp s Γ)(hb:Bx H n b gp d)(hs:s.at'+cst d+2<1000000000000)(hk:EPost G H n gp s Γ t (cst d) k):Runs F G Cc [t.v,.ptr b 0,.ptr (b+1) 0] H n k:=by
 refine BH (s:=ar3 (KD lfp G)) Nz (by obtain⟨h,o⟩:=fF BI G;rw[Nz]at h;cases h;exact o) ?_
 show KD lfp G (Runs F G) t.v (.ptr b 0) (.ptr (b+1) 0) H n k
 delta KD
 have hgn:=h.g
 refine Dq λH1 f1 g1=>?_
 refine Az rfl λH2 f2 g2=>?_
 have g1:=f2.get g1 (by omega)
 have f12:=f1.trans f2
 have hb2:=hb.kp f12
 refine AB (AV (off:=0) hb2.b1 rfl) (AB (DT g1) (AB (AV (off:=0) hb2.b2 rfl) ?_))
 rw[ADY d hd,AQ]
 refine hE t H2 (n+1+1) s Γ _ ht (h.kp f12) hs λH3 n3 a l e f3 m3 ha he hgd=>?_
 have hn3:=f3.le
 have g3:=f3.get g2 (by omega) (by omega)
 refine AFU g3 rfl he (by omega) λH4 s4 he4=>?_
 refine hk H4 n3 a l e ?_ ⟨(s4 gp (by omega)).trans m3.g,m3.pk⟩ ha (he4.mono (λid hid=>⟨by have:=hid.1;omega,hid.2⟩) λ_ _=>rfl) hgd
 exact⟨by omega,λid hid hne=>(s4 id (by omega)).trans (((Fg.kp f12).trans f3).same id hid hne)⟩
theorem ARs(h:Mk G H n gp s Γ)(hs:s.at'<1000000000000-10)(hk:EPost G H n gp s Γ CJ (cst 0-2) k):Runs F G JD [.ptr gp 0,.int .i64 (.ofNat 0) 0] H n k:=by
 refine BH (s:=N7 (FU lfp G)) Ig (by obtain⟨h,o⟩:=WR BI G;rw[Ig]at h;cases h;exact o) ?_
 show FU lfp G (Runs F G) (.ptr gp 0) (.int .i64 (.ofNat 0) 0) H n k
 delta FU
 have hgn:=h.g
 refine Dq λH1 f1 g1=>?_
 refine Dq λH2 f2 g2=>?_
 refine Az rfl λH3 f3 g3=>?_
 have g1:=f3.get (f2.get g1 (by omega)) (by omega)
 have g2:=f3.get g2 (by omega)
 refine AB (AV (off:=0) g2 rfl) (AB (AEy 0) ?_)
 rw[decide_eq_true (Nat.le_refl 0),Ar]
 refine WU (G:=G) (vs:=[.int .i64 (.ofNat 2) 0,.int .i64 (.ofNat 3) 0]) rfl (by omega) (λv hv=>by simp at hv;rcases hv with rfl|rfl<;>exact⟨rfl,rfl⟩) λH4 f4 _ hel=>?_
 have f:=((f1.trans f2).trans f3).trans f4
 refine AB (AV (off:=0) (f4.get g1 (by omega)) rfl) ?_
 have h4:=h.kp f
 refine JI h4.m (by omega) (by omega) (by omega) λH5 r a hr ha m5 s5=>?_
 have AFs:El G H5 (.sl (n+1+1+1) 0 2 2 1) 1 [[.int .i64 (.ofNat 2) 0],[.int .i64 (.ofNat 3) 0]]:=El.same hel λid hid=>by cases hid;exact s5 _ (by omega)
 obtain⟨kd,hkd,hk2⟩:∃kd,([[.int .i64 (.ofNat 2) 0],[.int .i64 (.ofNat 3) 0]]:DZ)[r]? =some [.int .i64 (.ofNat kd) 0]/\(kd=2∨kd=3):=by
  match r,hr with
  |0,_=>exact⟨2,rfl,.inl rfl⟩
  |1,_=>exact⟨3,rfl,.inr rfl⟩
 obtain⟨p,hp,hld⟩:=AFs.at hkd
 refine AB hp (AB (ni hld) ?_)
 refine ALg (a:=n+1+1+1+1) (nm:=(0,0)) λH6 n6 l6 f6 he6=>?_
 have hn6:=f6.le
 have g6:=f6.get ((s5 (n+1+1) (by omega)).trans (f4.get g3 (by omega))) (by omega)
 refine AFU g6 rfl he6 (by omega) λH7 s7 he7=>?_
 refine hk H7 n6 a _ _ ⟨by omega,λid hid hne=>(s7 id (by omega)).trans ((f6.same id (by omega)).trans ((s5 id hne).trans (f.same id hid)))⟩ ⟨(s7 gp (by omega)).trans (f6.get m5.g (by omega)),m5.pk⟩ (by unfold cst;omega) (he7.mono (λid hid=>⟨by have:=hid.1;omega,hid.2⟩) λ_ _=>rfl) (.of (.same _) ?_ aV)
 rcases hk2 with rfl|rfl
 ·exact Gd.tru
 ·exact Gd.fls
end
section
variable{G:AX}{H:Heap}{n gp d:Nat}{s:Mg}{Γ:List Dh}{k:KV}
theorem AUv(hE:jd G gp d)(hd:d<1000)(h:Mk G H n gp s Γ)(hs:s.at'+cst (d+1)<1000000000000)(hk:EPost G H n gp s Γ CJ (cst (d+1)-2) k):Runs F G JD [.ptr gp 0,.int .i64 (.ofNat (d+1)) 0] H n k:=by
 refine BH (s:=N7 (FU lfp G)) Ig (by obtain⟨h,o⟩:=WR BI G;rw[Ig]at h;cases h;exact o) ?_
 show FU lfp G (Runs F G) (.ptr gp 0) (.int .i64 (.ofNat (d+1)) 0) H n k
 delta FU
 have hgn:=h.g
 have hc:cst (d+1)=10+3*cst d:=rfl
 have tb:Lh CJ:=.inr (.inl rfl)
 have ta:Lh tA:=.inr (.inr (.inl rfl))
 have tbb:Lh tB:=.inr (.inr (.inr (.inl rfl)))
 have ti:Lh Du:=.inl rfl
 refine Dq λH1 f1 g1=>?_
 refine Dq λH2 f2 g2=>?_
 refine Az rfl λH3 f3 g3=>?_
 have bx:Bx H3 (n+1+1+1) n gp d:=⟨f3.get (f2.get g1 (by omega)) (by omega),f3.get g2 (by omega),g3,by omega,hgn⟩
 have f0:=(f1.trans f2).trans f3
 have mk:=h.kp f0
 have fg0:=Fg.kp (gp:=gp) f0
 clear f1 f2 f3 g1 g2 g3 f0
 generalize hn3:n+1+1+1=n3 at*
 have hle:=bx.le
 refine AB (AV (off:=0) bx.b2 rfl) (AB (AEy (d+1)) ?_)
 rw[decide_eq_false (by omega),Aj]
 refine AB (AV (off:=0) bx.b1 rfl) ?_
 refine JI mk.m (by omega) (by omega) (by omega) λH4 r a1 hr ha1 m4 s4=>?_
 have f4:Fg gp H3 n3 H4 n3:=⟨Nat.le_refl _,λid _ hne=>s4 id hne⟩
 have fg4:=fg0.trans f4
 have bx4:=bx.fg f4
 have mk4:=mk.fg f4 m4
 refine AB (DI ..) ?_
 cases h0:decide (r=0)with
 |true=>
  rw[Ar]
  refine UC λH5 n5 f5=>?_
  have hn5:=f5.le
  have pV:=bx4.kp f5
  have mk5:=mk4.kp f5
  rw[jO]
  refine Y1 (t:=CJ) hE hd tb mk5 pV (by show a1+cst d+2<_;omega) λH6 n6 a2 l e f6 m6 ha2 he hg1=>?_
  have hn6:=f6.le
  have ha2:a2<=a1+cst d:=ha2
  refine Xf he hn6 λH8 f8 hes=>?_
  refine YO (nm:=(0,0)) (es:=[e]) hes λH9 n9 l9 f9 he9=>?_
  have f89:=f8.trans f9
  refine iD hk ((pV.fg f6).kp f89) (Nat.le_refl _) (((fg4.trans (.kp f5)).trans f6).trans (.kp f89)) ⟨f89.get m6.g (by omega),m6.pk⟩ (a:=a2) (by omega) (by omega) he9 (.of (.same _) (Gd.not hg1.bool) aV) hgn
 |false=>
 rw[Aj]
 refine AB (DI ..) ?_
 cases h1:decide (r=1)with
 |true=>
  rw[Ar]
  refine UC λH5 n5 f5=>?_
  have hn5:=f5.le
  have pV:=bx4.kp f5
  have mk5:=mk4.kp f5
  rw[jO]
  refine Y1 (t:=CJ) hE hd tb mk5 pV (by show a1+cst d+2<_;omega) λH6 n6 a2 l e f6 m6 ha2 he hg1=>?_
  have hn6:=f6.le
  have ha2:a2<=a1+cst d:=ha2
  have bx6:=pV.fg f6
  have mk6:=mk5.fg f6 m6
  refine UC λH7 n7 f7=>?_
  have hn7:=f7.le
  have bx7:=bx6.kp f7
  have mk7:=mk6.kp f7
  rw[jO]
  refine Y1 (t:=CJ) hE hd tb mk7 bx7 (by show a2+cst d+2<_;omega) λH8 n8 a3 l2 e2 f8 m8 bU he2 hg2=>?_
  have hn8:=f8.le
  have bU:a3<=a2+cst d:=bU
  have he8:=(he.kp' f7).fg (by omega) f8
  have he2':GN G H8 (Rg n5 n8) l2 e2:=he2.mono (λid hid=>⟨by have:=hid.1;omega,hid.2⟩) λ_ _=>rfl
  refine iF he8 he2' (by omega) λH9 f9 hes=>?_
  refine YO (nm:=(0,0)) (es:=[e,e2]) hes λH10 n10 l10 f10 he10=>?_
  have f910:=f9.trans f10
  refine iD hk ((bx7.fg f8).kp f910) (Nat.le_refl _) (((((fg4.trans (.kp f5)).trans f6).trans (.kp f7)).trans f8).trans (.kp f910)) ⟨f910.get m8.g (by omega),m8.pk⟩ (a:=a3) (by omega) (by omega) he10 (.of (.same _) (Gd.and hg1.bool hg2.bool) aV) hgn
 |false=>
 rw[Aj]
 refine AB (DI ..) ?_
 cases h2:decide (r=2)with
 |true=>
  rw[Ar]
  refine UC λH5 n5 f5=>?_
  have hn5:=f5.le
  have pV:=bx4.kp f5
  have mk5:=mk4.kp f5
  rw[jO]
  refine Y1 (t:=CJ) hE hd tb mk5 pV (by show a1+cst d+2<_;omega) λH6 n6 a2 l e f6 m6 ha2 he hg1=>?_
  have hn6:=f6.le
  have ha2:a2<=a1+cst d:=ha2
  have bx6:=pV.fg f6
  have mk6:=mk5.fg f6 m6
  refine UC λH7 n7 f7=>?_
  have hn7:=f7.le
  have bx7:=bx6.kp f7
  have mk7:=mk6.kp f7
  rw[jO]
  refine Y1 (t:=CJ) hE hd tb mk7 bx7 (by show a2+cst d+2<_;omega) λH8 n8 a3 l2 e2 f8 m8 bU he2 hg2=>?_
  have hn8:=f8.le
  have bU:a3<=a2+cst d:=bU
  have he8:=(he.kp' f7).fg (by omega) f8
  have he2':GN G H8 (Rg n5 n8) l2 e2:=he2.mono (λid hid=>⟨by have:=hid.1;omega,hid.2⟩) λ_ _=>rfl
  refine iF he8 he2' (by omega) λH9 f9 hes=>?_
  refine YO (nm:=(0,0)) (es:=[e,e2]) hes λH10 n10 l10 f10 he10=>?_
  have f910:=f9.trans f10
  refine iD hk ((bx7.fg f8).kp f910) (Nat.le_refl _) (((((fg4.trans (.kp f5)).trans f6).trans (.kp f7)).trans f8).trans (.kp f910)) ⟨f910.get m8.g (by omega),m8.pk⟩ (a:=a3) (by omega) (by omega) he10 (.of (.same _) (Gd.or hg1.bool hg2.bool) aV) hgn
 |false=>
 rw[Aj]
 refine AB (DI ..) ?_
 cases h3:decide (r=3)with
 |true=>
  rw[Ar]
  refine ACq (G:=G) (vs:=wsE.map St.v) rfl (λv hv=>by obtain⟨x,_,rfl⟩:=List.mem_map.1 hv;exact⟨rfl,rfl⟩) λH5 f5 hw=>?_
  have hw:W1 G H5 (.sl n3 0 2 2 1) wsE:=hw
  have pV:=bx4.kp f5
  have mk5:=mk4.kp f5
  refine AB (AV (off:=0) pV.b1 rfl) ?_
  refine JI mk5.m (by omega) (by omega) (by show a1<_;omega) λH6 q a2 hq ha2 m6 s6=>?_
  have ha2:a2<=a1+1:=ha2
  have f6:Fg gp H5 (n3+1) H6 (n3+1):=⟨Nat.le_refl _,λid _ hne=>s6 id hne⟩
  have hw6:=hw.fg f6 (by omega) (by omega)
  have bx6:=pV.fg f6
  have mk6:=mk5.fg f6 m6
  obtain⟨p,hp,hld⟩:=hw6.at hq
  refine AB hp (AB hld ?_)
  refine jK (l:=1) (c:=65) λH7 n7 f7=>?_
  have hn7:=f7.le
  have hw7:=hw6.fg (Fg.kp (gp:=gp) f7) (by omega) (by omega)
  refine AB (hw7.again hq hp) (Di (AFo _) ?_)
  have bx7:=bx6.kp f7
  have mk7:=mk6.kp f7
  rw[jO]
  refine Y1 (t:=tA) hE hd ta mk7 bx7 (by show a2+cst d+2<_;omega) λH8 n8 a3 l e f8 m8 bU he hg1=>?_
  have hn8:=f8.le
  have bU:a3<=a2+cst d:=bU
  have hw8:=hw7.fg f8 (by omega) (by omega)
  refine AB (hw8.again hq hp) (Di (AFo _) ?_)
  have bx8:=bx7.fg f8
  have mk8:=mk7.fg f8 m8
  refine jK (l:=1) (c:=66) λH9 n9 f9=>?_
  have hn9:=f9.le
  have hw9:=hw8.fg (Fg.kp (gp:=gp) f9) (by omega) (by omega)
  refine AB (hw9.again hq hp) (Di (AFo _) ?_)
  have bx9:=bx8.kp f9
  have mk9:=mk8.kp f9
  rw[jO]
  refine Y1 (t:=tB) hE hd tbb mk9 bx9 (by show a3+cst d+2<_;omega) λH10 n10 a4 l2 e2 f10 m10 yh he2 hg2=>?_
  have hn10:=f10.le
  have yh:a4<=a3+cst d:=yh
  have hw10:=hw9.fg f10 (by omega) (by omega)
  refine AB (hw10.again hq hp) (Di (AFo _) ?_)
  have he10:=(he.kp' f9).fg (by omega) f10
  have he2':GN G H10 (Rg n7 n10) l2 e2:=he2.mono (λid hid=>⟨by have:=hid.1;omega,hid.2⟩) λ_ _=>rfl
  refine iF he10 he2' (by omega) λH11 f11 hes=>?_
  refine YO (nm:=wsE[q]) (es:=[e,e2]) hes λH12 n12 l12 f12 he12=>?_
  have f1112:=f11.trans f12
  obtain⟨u1,r1,q1,_⟩:=hg1.ex
  obtain⟨u2,r2,q2,_⟩:=hg2.ex
  have hgd:Gd s.inn Γ (.mk 16 0 wsE[q] Ox Ox (0,0) [e,e2]) CJ:=Gd.same (List.getElem_mem hq) q1 q2 (r1.obj rfl) (r2.obj rfl)
  refine iD hk ((bx9.fg f10).kp f1112) (Nat.le_refl _) (((((((fg4.trans (.kp f5)).trans f6).trans (.kp f7)).trans f8).trans (.kp f9)).trans f10).trans (.kp f1112)) ⟨f1112.get m10.g (by omega),m10.pk⟩ (a:=a4) (by omega) (by omega) he12 (.of (.same _) hgd aV) hgn
 |false=>
 rw[Aj]
 refine AB (DI ..) ?_
 cases h4:decide (r=4)with
 |true=>
  rw[Ar]
  refine jK (l:=1) (c:=65) λH5 n5 f5=>?_
  have hn5:=f5.le
  have pV:=bx4.kp f5
  have mk5:=mk4.kp f5
  rw[jO]
  refine Y1 (t:=tA) hE hd ta mk5 pV (by show a1+cst d+2<_;omega) λH6 n6 a2 l e f6 m6 ha2 he hg1=>?_
  have hn6:=f6.le
  have ha2:a2<=a1+cst d:=ha2
  have bx6:=pV.fg f6
  refine Xf he hn6 λH9 f9 hes=>?_
  refine uZ (kind:=20) (nm:=(0,0)) (.inr ⟨_,_,_,_,_,rfl⟩) λH10 n10 f10=>?_
  have hn10:=f10.le
  have f910:=f9.trans f10
  have hes10:=hes.mono (B:=Rg n5 n10) (H':=H10) (λid hid=>⟨hid.1,by have:=hid.2;omega⟩) λid hid=>f10.same id hid.2
  refine Az rfl λH11 f11 g11=>?_
  refine DV g11 rfl rfl (by omega) λH12 g12 s12=>?_
  have f12:Kp H10 n10 H12 (n10+1):=⟨f11.le,λid hid=>(s12 id (by omega)).trans (f11.same id hid)⟩
  have f612:=f910.trans f12
  have bx12:=bx6.kp f612
  have m12:WC G H12 gp (s.to a2):=⟨f612.get m6.g (by omega),m6.pk⟩
  refine ACq (G:=G) (vs:=ws2.map St.v) rfl (λv hv=>by obtain⟨x,_,rfl⟩:=List.mem_map.1 hv;exact⟨rfl,rfl⟩) λH13 f13 hw=>?_
  have hw:W1 G H13 (.sl (n10+1) 0 2 2 1) ws2:=hw
  have bx13:=bx12.kp f13
  refine AB (AV (off:=0) bx13.b1 rfl) ?_
  have m13:WC G H13 gp (s.to a2):=⟨f13.get m12.g (by omega),m12.pk⟩
  refine JI m13 (by omega) (by omega) (by show a2<_;omega) λH14 q a3 hq bU m14 s14=>?_
  have bU:a3<=a2+1:=bU
  have f14:Fg gp H13 (n10+1+1) H14 (n10+1+1):=⟨Nat.le_refl _,λid _ hne=>s14 id hne⟩
  have hw14:=hw.fg f14 (by omega) (by omega)
  obtain⟨p,hp,hld⟩:=hw14.at hq
  refine AB hp (AB hld ?_)
  refine jK (l:=ws2[q].1) (c:=ws2[q].2) λH15 n15 f15=>?_
  have hn15:=f15.le
  have g15:=f15.get (f14.get (f13.get g12 (by omega)) (by omega) (by omega)) (by omega)
  rw[Am,AQ]
  refine Jm (off:=0+5) (m:=2) (v:=Ty.v ⟨ws2[q],false⟩) g15 rfl rfl (by omega) (by show 0+5+2<=11;omega) λH16 g16 s16=>?_
  refine AB (Bf (m:=11) g16 (by omega) rfl) ?_
  have same16:∀id,id<n10->id≠gp->T.get H16 id=T.get H10 id:=λid hid hne=>(s16 id (by omega)).trans ((f15.same id (by omega)).trans ((f14.same id (by omega) hne).trans ((f13.same id (by omega)).trans (f12.same id hid))))
  have hes16:=hes10.mono (B:=Rg n5 n15) (H':=H16) (λid hid=>⟨hid.1,by have:=hid.2;omega⟩) λid hid=>same16 id hid.2 (by have:=hid.1;omega)
  have hty:({nm:=ws2[q],arr:=false}:Ty)=tA∨({nm:=ws2[q],arr:=false}:Ty)=tB:=by
   match q,hq with
   |0,_=>exact .inl rfl
   |1,_=>exact .inr rfl
  obtain⟨u,hu1,hu2,_⟩:=hg1.ex
  refine iD (a:=a3) (a0:=n5) (e:=.mk 20 0 (0,0) ⟨ws2[q],false⟩ Ox (0,0) [e]) hk (bx6.same (n':=n15) (by omega) λid _ hid=>(same16 id (by omega) (by omega)).trans (f910.same id (by omega))) (Nat.le_refl _) ?_ ⟨(s16 gp (by omega)).trans (f15.get m14.g (by omega)),m14.pk⟩ (by omega) (by omega) (GN.of hes16) (.of (.same _) (Gd.isx hty hu2 (AMg hu1)) aV) hgn
  exact⟨by omega,λid hid hne=>(same16 id (by omega) hne).trans ((((fg4.trans (.kp f5)).trans f6).trans (.kp f910)).same id hid hne)⟩
 |false=>
 rw[Aj]
 refine AB (DI ..) ?_
 cases h5:decide (r=5)with
 |true=>
  rw[Ar]
  refine AB (AV (off:=0) bx4.b1 rfl) (AB (AV (off:=0) bx4.b2 rfl) ?_)
  rw[ADY d hd,AQ]
  refine tH (cl:=nB) hE (.inr rfl) mk4 (by show a1+cst d+2<_;omega) λH5 n5 a2 l e u f5 m5 ha2 he hu _ huB=>?_
  have hn5:=f5.le
  have ha2:a2<=a1+cst d:=ha2
  obtain rfl:=huB rfl
  refine Xf he hn5 λH6 f6 hes=>?_
  refine YO (nm:=QK) (es:=[e]) hes λH7 n7 l7 f7 he7=>?_
  have f67:=f6.trans f7
  refine iD hk ((bx4.fg f5).kp f67) (Nat.le_refl _) ((fg4.trans f5).trans (.kp f67)) ⟨f67.get m5.g (by omega),m5.pk⟩ (a:=a2) (by omega) (by omega) he7 (.of (.same _) (Gd.flag hu) aV) hgn
 |false=>
 rw[Aj]
 refine ACq (G:=G) (vs:=ws4.map St.v) rfl (λv hv=>by obtain⟨x,_,rfl⟩:=List.mem_map.1 hv;exact⟨rfl,rfl⟩) λH5 f5 hw=>?_
 have hw:W1 G H5 (.sl n3 0 4 4 1) ws4:=hw
 have pV:=bx4.kp f5
 have mk5:=mk4.kp f5
 refine AB (AV (off:=0) pV.b1 rfl) ?_
 refine JI mk5.m (by omega) (by omega) (by show a1<_;omega) λH6 q a2 hq ha2 m6 s6=>?_
 have ha2:a2<=a1+1:=ha2
 have f6:Fg gp H5 (n3+1) H6 (n3+1):=⟨Nat.le_refl _,λid _ hne=>s6 id hne⟩
 have hw6:=hw.fg f6 (by omega) (by omega)
 have bx6:=pV.fg f6
 have mk6:=mk5.fg f6 m6
 obtain⟨p,hp,hld⟩:=hw6.at hq
 refine AB hp (AB hld ?_)
 refine Oj λH7 n7 f7=>?_
 have hn7:=f7.le
 have hw7:=hw6.fg (Fg.kp (gp:=gp) f7) (by omega) (by omega)
 refine AB (hw7.again hq hp) (Di (AFo _) ?_)
 have bx7:=bx6.kp f7
 have mk7:=mk6.kp f7
 rw[jO]
 refine Y1 (t:=Du) hE hd ti mk7 bx7 (by show a2+cst d+2<_;omega) λH8 n8 a3 l e f8 m8 bU he hg1=>?_
 have hn8:=f8.le
 have bU:a3<=a2+cst d:=bU
 have hw8:=hw7.fg f8 (by omega) (by omega)
 refine AB (hw8.again hq hp) (Di (AFo _) ?_)
 have bx8:=bx7.fg f8
 have mk8:=mk7.fg f8 m8
 refine Oj λH9 n9 f9=>?_
 have hn9:=f9.le
 have hw9:=hw8.fg (Fg.kp (gp:=gp) f9) (by omega) (by omega)
 refine AB (hw9.again hq hp) (Di (AFo _) ?_)
 have bx9:=bx8.kp f9
 have mk9:=mk8.kp f9
 rw[jO]
 refine Y1 (t:=Du) hE hd ti mk9 bx9 (by show a3+cst d+2<_;omega) λH10 n10 a4 l2 e2 f10 m10 yh he2 hg2=>?_
 have hn10:=f10.le
 have yh:a4<=a3+cst d:=yh
 have hw10:=hw9.fg f10 (by omega) (by omega)
 refine AB (hw10.again hq hp) (Di (AFo _) ?_)
 have he10:=(he.kp' f9).fg (by omega) f10
 have he2':GN G H10 (Rg n7 n10) l2 e2:=he2.mono (λid hid=>⟨by have:=hid.1;omega,hid.2⟩) λ_ _=>rfl
 refine iF he10 he2' (by omega) λH11 f11 hes=>?_
 refine YO (nm:=ws4[q]) (es:=[e,e2]) hes λH12 n12 l12 f12 he12=>?_
 have f1112:=f11.trans f12
 have hgd:Gd s.inn Γ (.mk 16 0 ws4[q] Ox Ox (0,0) [e,e2]) CJ:=Gd.cmp (List.getElem_mem hq) hg1.int hg2.int
 refine iD hk ((bx9.fg f10).kp f1112) (Nat.le_refl _) (((((((fg4.trans (.kp f5)).trans f6).trans (.kp f7)).trans f8).trans (.kp f9)).trans f10).trans (.kp f1112)) ⟨f1112.get m10.g (by omega),m10.pk⟩ (a:=a4) (by omega) (by omega) he12 (.of (.same _) hgd aV) hgn
end
noncomputable def ASl(G:AX)(call:BG)(a0 a2 v1 v2:V)(H:Heap)(n:Nat)(k:KV):Prop:=
 AP (B2.ev .leq a2 (.int .i64 (.ofNat 0) 0)) λv27=>
 BF v27 false (some a0) λv28=>
 I5 v27 false (call AZ [v28,(.int .i64 (.ofNat 5) 0)] H n) H n λv29 H n=>
 BF v27 false (EN (.one .int) false v29 (.int .i64 (.ofNat 0) 0)) λv30=>
 AP (CQ v27 (.bool true) v30) λv31=>
 Ae v31 true (call AZ [a0,(.int .i64 (.ofNat 4) 0)] H n λv32 H n=>
 AP (EN (.one .int) false v32 (.int .i64 (.ofNat 0) 0)) λv33=>
 Ae v33 true (call Ai [(.int .i64 (.ofNat 4) 0),(.str 0 0),.Ad] H n λv34 H n=>
 Bq 11 v2 v34 H n λv35 H n=>
 Ej (BO [.cn v2 11] G H) λl=>k (DX l) H n) (call Ai [(.int .i64 (.ofNat 10) 0),(.str 0 0),.Ad] H n λv36 H n=>
 Bh (Au 11 [[(.int .i64 (.ofNat 0) 0),(.int .i64 (.ofNat 0) 0),(.int .i64 (.ofNat 0) 0),(.int .i64 (.ofNat 0) 0),(.str 0 0),(.str 0 0),(.bool false),.Ad,(.str 0 0),(.bool false),(.str 0 0)]] E0) H n λv37 H n=>
 Bq 11 v37 v36 H n λv38 H n=>
 AP (Ag 2 v1 G H) λv39=>
 AP (AU 5 v37) λv40=>
 Bq 2 v40 v39 H n λv41 H n=>
 AP (Ag 11 v37 G H) λv42=>
 Bq 11 v2 v42 H n λv43 H n=>
 Ej (BO [.cn v2 11] G H) λl=>k (DX l) H n)) (AP (AU 0 v1) λv44=>
 AP (AY v44 G H) λv45=>
 AP (EN (.one .str) false v45 (.str 1 66)) λv46=>
 Ae v46 true (call Ez [(.str 1 65)] H n λv47 H n=>
 AP (B2.ev .sub a2 (.int .i64 (.ofNat 1) 0)) λv48=>
 call Ah [a0,v47,v48] H n λv49 H n=>
 Bh (Af 11 1 [(.int .i64 (.ofNat 0) 0),(.int .i64 (.ofNat 0) 0),(.int .i64 (.ofNat 0) 0),(.int .i64 (.ofNat 0) 0),(.str 0 0),(.str 0 0),(.bool false),.Ad,(.str 0 0),(.bool false),(.str 0 0)] [(0,.c v49)] E0) H n λv50 H n=>
 call Ai [(.int .i64 (.ofNat 19) 0),(.str 0 0),v50] H n λv51 H n=>
 Bh (Au 11 [[(.int .i64 (.ofNat 0) 0),(.int .i64 (.ofNat 0) 0),(.int .i64 (.ofNat 0) 0),(.int .i64 (.ofNat 0) 0),(.str 0 0),(.str 0 0),(.bool false),.Ad,(.str 0 0),(.bool false),(.str 0 0)]] E0) H n λv52 H n=>
 Bq 11 v52 v51 H n λv53 H n=>
 AP (Ag 2 v1 G H) λv54=>
 AP (AU 5 v52) λv55=>
 Bq 2 v55 v54 H n λv56 H n=>
 AP (Ag 11 v52 G H) λv57=>
 Bq 11 v2 v57 H n λv58 H n=>
 Ej (BO [.cn v2 11] G H) λl=>k (DX l) H n) (call AZ [a0,(.int .i64 (.ofNat 3) 0)] H n λv59 H n=>
 AP (EN (.one .int) false v59 (.int .i64 (.ofNat 0) 0)) λv60=>
 Ae v60 true (AP (B2.ev .sub a2 (.int .i64 (.ofNat 1) 0)) λv61=>
 call BQ [a0,(.str 1 65),v61] H n λv62 H n=>
 Bh (Af 11 1 [(.int .i64 (.ofNat 0) 0),(.int .i64 (.ofNat 0) 0),(.int .i64 (.ofNat 0) 0),(.int .i64 (.ofNat 0) 0),(.str 0 0),(.str 0 0),(.bool false),.Ad,(.str 0 0),(.bool false),(.str 0 0)] [(0,.c v62)] E0) H n λv63 H n=>
 call Ai [(.int .i64 (.ofNat 7) 0),(.str 4 1954047342),v63] H n λv64 H n=>
 Bq 11 v2 v64 H n λv65 H n=>
 Ej (BO [.cn v2 11] G H) λl=>k (DX l) H n) (AP (EN (.one .int) false v59 (.int .i64 (.ofNat 1) 0)) λv66=>
 Ae v66 true (AP (B2.ev .sub a2 (.int .i64 (.ofNat 1) 0)) λv67=>
 call BQ [a0,(.str 1 65),v67] H n λv68 H n=>
 Bh (Af 11 1 [(.int .i64 (.ofNat 0) 0),(.int .i64 (.ofNat 0) 0),(.int .i64 (.ofNat 0) 0),(.int .i64 (.ofNat 0) 0),(.str 0 0),(.str 0 0),(.bool false),.Ad,(.str 0 0),(.bool false),(.str 0 0)] [(0,.c v68)] E0) H n λv69 H n=>
 call Ai [(.int .i64 (.ofNat 8) 0),(.str 4 1718379891),v69] H n λv70 H n=>
 Bq 11 v2 v70 H n λv71 H n=>
 Ej (BO [.cn v2 11] G H) λl=>k (DX l) H n) (call Ai [(.int .i64 (.ofNat 10) 0),(.str 0 0),.Ad] H n λv72 H n=>
 Bh (Au 11 [[(.int .i64 (.ofNat 0) 0),(.int .i64 (.ofNat 0) 0),(.int .i64 (.ofNat 0) 0),(.int .i64 (.ofNat 0) 0),(.str 0 0),(.str 0 0),(.bool false),.Ad,(.str 0 0),(.bool false),(.str 0 0)]] E0) H n λv73 H n=>
 Bq 11 v73 v72 H n λv74 H n=>
 Bh (Af 1 2 [(.str 0 0)] [(0,.c (.str 1 65)),(1,.c (.str 1 66))] E0) H n λv75 H n=>
 call AZ [a0,(.int .i64 (.ofNat 2) 0)] H n λv76 H n=>
 AP (BD 1 v75 v76) λv77=>
 AP (AY v77 G H) λv78=>
 call Ez [v78] H n λv79 H n=>
 AP (AU 5 v73) λv80=>
 Bq 2 v80 v79 H n λv81 H n=>
 AP (Ag 11 v73 G H) λv82=>
 Bq 11 v2 v82 H n λv83 H n=>
 Ej (BO [.cn v2 11] G H) λl=>k (DX l) H n))))
section
variable{G:AX}{H:Heap}{n gp d b c:Nat}{s:Mg}{Γ:List Dh}{k:KV}
theorem AXi{kind:Nat}{nm:St}{ty:Ty}{v:V}{L0:LV}(hc:T.get H c=some (one (XL kind 0 nm Ox Ox (0,0) 0 0 v)))(hb:T.get H b=some (one L0))(h0:L0.length=11)(hbc:b≠c)
 (hk:∀H',(∀id,id≠c->id≠b->T.get H' id=T.get H id)->k (.agg (XL kind 0 nm ty Ox (0,0) 0 0 v)) H' n):
 AP (AU 5 (.ptr c 0)) λp=>Bq 2 p ty.v H n λ_ H n=>AP (Ag 11 (.ptr c 0) G H) λl=>Bq 11 (.ptr b 0) l H n λ_ H n=>Ej (BO [.cn (.ptr b 0) 11] G H) λl=>k (DX l) H n:=by
 rw[Am,AQ]
 refine Jm (off:=0+5) (m:=2) (v:=ty.v) hc rfl rfl (by omega) (by show 0+5+2<=11;omega) λH1 g1 s1=>?_
 refine AB (Bf (m:=11) g1 (by omega) rfl) ?_
 refine DV ((s1 b hbc).trans hb) h0 rfl (by omega) λH2 g2 s2=>?_
 rw[D9 (m:=11) g2 (by omega) rfl]
 simp only[go_sem]
 exact hk H2 λid h1 h2=>(s2 id h2).trans (s1 id h1)
end
structure Bo(H:Heap)(n b gp:Nat)(t:Ty):Prop where
 b1:T.get H b=some (one t.cells)
 b2:T.get H (b+1)=some (one teZ)
 le:b+2<=n
 g:gp<b
theorem Bo.fg{H H':Heap}{n n' b gp:Nat}{t:Ty}(h:Bo H n b gp t)(f:Fg gp H n H' n'):Bo H' n' b gp t:=by
 have:=h.le;have:=h.g
 exact⟨f.get h.b1 (by omega) (by omega),f.get h.b2 (by omega) (by omega),Nat.le_trans h.le f.le,h.g⟩
theorem Bo.kp{H H':Heap}{n n' b gp:Nat}{t:Ty}(h:Bo H n b gp t)(f:Kp H n H' n'):Bo H' n' b gp t:=h.fg (.kp f)
theorem APM{d:Nat}(hd:d+1<1000):B2.ev .sub (.int .i64 (.ofNat (d+1)) 0) (.int .i64 (.ofNat 1) 0)=some (.int .i64 (.ofNat d) 0):=ADY d (by omega)
theorem AD8:∀d,10<=cst d
 |0=>Nat.le_refl _
 |d+1=>by show 10<=10+3*cst d;omega
section
variable{G:AX}{H H0:Heap}{n gp d b a0:Nat}{s:Mg}{Γ:List Dh}{k:KV}{t:Ty}
theorem mX{c a1:Nat}{l:LV}{e:Te}{a:Nat}(hp:EPost G H0 b gp s Γ t c k)(hb:Bo H n b gp t)(f:Fg gp H0 b H n)(m:WC G H gp (s.to a))(ha:a<=s.at'+c)(ha1:b+1<a1)
 (he:GN G H (Rg a1 n) l e) (hg:dV s.inn Γ e t):Bq 11 (.ptr (b+1) 0) (.agg l) H n λ_ H n=>Ej (BO [.cn (.ptr (b+1) 0) 11] G H) λl=>k (DX l) H n:=by
 have:=hb.g
 refine AFU hb.b2 rfl he ha1 λH4 s4 he4=>?_
 refine hp H4 n a l e ⟨f.le,λid hid hne=>(s4 id (by omega)).trans (f.same id hid hne)⟩ ⟨(s4 gp (by omega)).trans m.g,m.pk⟩ ha (he4.mono (λid hid=>⟨by have:=hid.1;omega,hid.2⟩) λ_ _=>rfl) hg
theorem AIL{kind c0 c a:Nat}{ty:Ty}{v:V}{kids:List Te}(hp:EPost G H0 b gp s Γ t c0 k)(hb:Bo H n b gp t)(f:Fg gp H0 b H n)(m:WC G H gp (s.to a))(ha:a<=s.at'+c0)(hbc:b+1<c)
 (hc:T.get H c=some (one (XL kind 0 (0,0) Ox Ox (0,0) 0 0 v))) (hv:Qc G H (λid=>b<id/\id<n/\id≠c/\id≠b+1) v kids) (hg:dV s.inn Γ (.mk kind 0 (0,0) ty Ox (0,0) kids) t):
 AP (AU 5 (.ptr c 0)) λp=>Bq 2 p ty.v H n λ_ H n=>AP (Ag 11 (.ptr c 0) G H) λl=>Bq 11 (.ptr (b+1) 0) l H n λ_ H n=>Ej (BO [.cn (.ptr (b+1) 0) 11] G H) λl=>k (DX l) H n:=by
 have:=hb.g;have:=hb.le
 refine AXi hc hb.b2 rfl (by omega) λH4 s4=>?_
 refine hp H4 n a _ _ ⟨f.le,λid hid hne=>(s4 id (by omega) (by omega)).trans (f.same id hid hne)⟩ ⟨(s4 gp (by omega) (by omega)).trans m.g,m.pk⟩ ha (GN.of (hv.mono (λid hid=>⟨by omega,hid.2.1⟩) λid hid=>s4 id hid.2.2.1 hid.2.2.2)) hg
theorem AWH(hE:∀d',d=d'+1->jd G gp d')(hd:d<1000)(ht:t=tA∨t=tB)(hb:Bo H n b gp t)(h:Mk G H n gp (s.to a0) Γ)(ha0:a0<=s.at'+1)(hs:s.at'+cst d<1000000000000)(f:Fg gp H0 b H n)(hp:EPost G H0 b gp s Γ t (cst d-2) k):
 ASl G (Runs F G) (.ptr gp 0) (.int .i64 (.ofNat d) 0) (.ptr b 0) (.ptr (b+1) 0) H n k:=by
 unfold ASl
 have hcd:=AD8 d
 have hle:=hb.le
 have hbg:=hb.g
 have hty:Lh t:=by rcases ht with rfl|rfl;exact .inr (.inr (.inl rfl));exact .inr (.inr (.inr (.inl rfl)))
 have hnt:t≠Jl:=by rcases ht with rfl|rfl;exact AN1;exact ANf
 have leaf:∀(H1:Heap) (a1:Nat),Fg gp H n H1 n->WC G H1 gp (s.to a1)->a1<=a0+1->Runs F G AZ [.ptr gp 0,.int .i64 (.ofNat 4) 0] H1 n λv32 H n=>AP (EN (.one .int) false v32 (.int .i64 (.ofNat 0) 0)) λv33=>
  Ae v33 true (Runs F G Ai [(.int .i64 (.ofNat 4) 0),(.str 0 0),.Ad] H n λv34 H n=>Bq 11 (.ptr (b+1) 0) v34 H n λv35 H n=>Ej (BO [.cn (.ptr (b+1) 0) 11] G H) λl=>k (DX l) H n)
  (Runs F G Ai [(.int .i64 (.ofNat 10) 0),(.str 0 0),.Ad] H n λv36 H n=>Bh (Au 11 [teZ] E0) H n λv37 H n=>Bq 11 v37 v36 H n λv38 H n=>AP (Ag 2 (.ptr b 0) G H) λv39=>
   AP (AU 5 v37) λv40=>Bq 2 v40 v39 H n λv41 H n=>AP (Ag 11 v37 G H) λv42=>Bq 11 (.ptr (b+1) 0) v42 H n λv43 H n=>Ej (BO [.cn (.ptr (b+1) 0) 11] G H) λl=>k (DX l) H n):=by
  intro H1 a1 f1 m1 ha1
  refine JI m1 (by omega) (by omega) (by show a1<_;omega) λH2 r a2 hr ha2 m2 s2=>?_
  have ha2:a2<=a1+1:=ha2
  have f2:Fg gp H n H2 n:=⟨Nat.le_refl _,λid hid hne=>(s2 id hne).trans (f1.same id hid hne)⟩
  have hb2:=hb.fg f2
  refine AB (DI ..) ?_
  cases h0:decide (r=0)with
  |true=>
   rw[Ar]
   refine ALg (a:=n) (nm:=(0,0)) λH3 n3 l3 f3 he3=>?_
   have hn3:=f3.le
   exact mX hp (hb2.kp f3) ((f.trans f2).trans (.kp f3)) ⟨f3.get m2.g (by omega),m2.pk⟩ (a:=a2) (by omega) (by omega) he3 ⟨Jl,by rcases ht with rfl|rfl;exact .na;exact .nb,Gd.nul,λh=>absurd rfl h⟩
  |false=>
   rw[Aj]
   refine uZ (kind:=10) (nm:=(0,0)) (.inl rfl) λH3 n3 f3=>?_
   have hn3:=f3.le
   refine Az rfl λH4 f4 g4=>?_
   refine DV g4 rfl rfl (by omega) λH5 g5 s5=>?_
   have f5:Kp H3 n3 H5 (n3+1):=⟨f4.le,λid hid=>(s5 id (by omega)).trans (f4.same id hid)⟩
   have f35:=f3.trans f5
   have hb5:=hb2.kp f35
   refine AB (DT hb5.b1) ?_
   exact AIL hp hb5 ((f.trans f2).trans (.kp f35)) ⟨f35.get m2.g (by omega),m2.pk⟩ (a:=a2) (by omega) (by omega) g5 .nil (.of (.same _) (Gd.new ht) hnt)
 cases d with
 |zero=>
  refine AB (AEy 0) ?_
  rw[decide_eq_true (Nat.le_refl 0)]
  refine SE (Zt (SE (AB (ADs ..) ?_)))
  show Ae (.bool true) true _ _
  rw[Ar]
  exact leaf H a0 (Fg.refl ..) h.m (by omega)
 |succ d=>
 have hcs:cst (d+1)=10+3*cst d:=rfl
 have hE:=hE d rfl
 refine AB (AEy (d+1)) ?_
 rw[decide_eq_false (by omega)]
 refine X5 rfl (AF6 ?_)
 refine JI h.m (by omega) (by omega) (by show a0<_;omega) λH1 r a1 hr ha1 m1 s1=>?_
 have ha1:a1<=a0+1:=ha1
 have f1:Fg gp H n H1 n:=⟨Nat.le_refl _,λid _ hne=>s1 id hne⟩
 have hb1:=hb.fg f1
 have mk1:=h.fg (a:=a1) f1 m1
 have ff1:=f.trans f1
 refine X5 (DI ..) (AB (ADs ..) ?_)
 show Ae (.bool (decide (r=0))) true _ _
 cases h0:decide (r=0)with
 |true=>rw[Ar];exact leaf H1 a1 f1 m1 ha1
 |false=>
 rw[Aj,Ee,AQ]
 refine AB (AV (off:=0) hb1.b1 (v:=t.nm.v) rfl) ?_
 rcases ht with rfl|rfl
 ·refine AB (v:=.bool false) rfl ?_
  rw[Aj]
  refine JI m1 (by omega) (by omega) (by show a1<_;omega) λH2 q a2 hq ha2 m2 s2=>?_
  have ha2:a2<=a1+1:=ha2
  have f2:Fg gp H1 n H2 n:=⟨Nat.le_refl _,λid _ hne=>s2 id hne⟩
  have hb2:=hb1.fg f2
  have mk2:=mk1.fg (a:=a2) f2 m2
  have ff2:=ff1.trans f2
  refine AB (DI ..) ?_
  cases q0:decide (q=0)with
  |true=>
   rw[Ar]
   refine AB (APM hd) ?_
   refine tH (cl:=nA) hE (.inl rfl) mk2 (by show a2+cst d+2<_;omega) λH5 n5 a3 l e u f5 m5 bU he hu huc _=>?_
   have hn5:=f5.le
   have bU:a3<=a2+cst d:=bU
   refine Xf he hn5 λH6 f6 hes=>?_
   refine YO (nm:=ACO) (es:=[e]) hes λH7 n7 l7 f7 he7=>?_
   have f67:=f6.trans f7
   exact mX hp ((hb2.fg f5).kp f67) ((ff2.trans f5).trans (.kp f67)) ⟨f67.get m5.g (by omega),m5.pk⟩ (a:=a3) (by omega) (by omega) he7 (.of (.same _) (Gd.get hu huc rfl (by decide)) AN1)
  |false=>
  rw[Aj]
  refine AB (DI ..) ?_
  cases q1:decide (q=1)with
  |true=>
   rw[Ar]
   refine AB (APM hd) ?_
   refine tH (cl:=nA) hE (.inl rfl) mk2 (by show a2+cst d+2<_;omega) λH5 n5 a3 l e u f5 m5 bU he hu huc _=>?_
   have hn5:=f5.le
   have bU:a3<=a2+cst d:=bU
   refine Xf he hn5 λH6 f6 hes=>?_
   refine YO (nm:=AEC) (es:=[e]) hes λH7 n7 l7 f7 he7=>?_
   have f67:=f6.trans f7
   exact mX hp ((hb2.fg f5).kp f67) ((ff2.trans f5).trans (.kp f67)) ⟨f67.get m5.g (by omega),m5.pk⟩ (a:=a3) (by omega) (by omega) he7 (.of (.same _) (Gd.AYN hu huc) AN1)
  |false=>
  rw[Aj]
  refine uZ (kind:=10) (nm:=(0,0)) (.inl rfl) λH3 n3 f3=>?_
  have hn3:=f3.le
  refine Az rfl λH4 f4 g4=>?_
  refine DV g4 rfl rfl (by omega) λH5 g5 s5=>?_
  have f5:Kp H3 n3 H5 (n3+1):=⟨f4.le,λid hid=>(s5 id (by omega)).trans (f4.same id hid)⟩
  have f35:=f3.trans f5
  refine ACq (G:=G) (vs:=ws2.map St.v) rfl (λv hv=>by obtain⟨x,_,rfl⟩:=List.mem_map.1 hv;exact⟨rfl,rfl⟩) λH6 f6 hw=>?_
  have hw:W1 G H6 (.sl (n3+1) 0 2 2 1) ws2:=hw
  have f36:=f35.trans f6
  have m6:WC G H6 gp (s.to a2):=⟨f36.get m2.g (by omega),m2.pk⟩
  refine JI m6 (by omega) (by omega) (by show a2<_;omega) λH7 w a3 hw3 bU m7 s7=>?_
  have bU:a3<=a2+1:=bU
  have f7:Fg gp H6 (n3+1+1) H7 (n3+1+1):=⟨Nat.le_refl _,λid _ hne=>s7 id hne⟩
  have hw7:=hw.fg f7 (by omega) (by omega)
  obtain⟨p,hpp,hld⟩:=hw7.at hw3
  refine AB hpp (AB hld ?_)
  refine jK (l:=ws2[w].1) (c:=ws2[w].2) λH8 n8 f8=>?_
  have hn8:=f8.le
  have g8:=f8.get (f7.get (f6.get g5 (by omega)) (by omega) (by omega)) (by omega)
  have hty2:({nm:=ws2[w],arr:=false}:Ty)=tA∨({nm:=ws2[w],arr:=false}:Ty)=tB:=by
   match w,hw3 with
   |0,_=>exact .inl rfl
   |1,_=>exact .inr rfl
  refine AIL (ty:=⟨ws2[w],false⟩) (kids:=[]) hp (((hb2.kp f36).fg f7).kp f8) (((ff2.trans (.kp f36)).trans f7).trans (.kp f8)) ⟨f8.get m7.g (by omega),m7.pk⟩ (a:=a3) (by omega) (by omega) g8 .nil ?_
  rcases hty2 with e|e
  ·rw[e];exact .of (.same _) (Gd.new (.inl rfl)) AN1
  ·rw[e];exact .of .ba (Gd.new (.inr rfl)) ANf
 ·refine AB (v:=.bool true) rfl ?_
  rw[Ar]
  refine jK (l:=1) (c:=65) λH2 n2 f2=>?_
  have hn2:=f2.le
  refine AB (APM hd) ?_
  refine hE tA H2 n2 (s.to a1) Γ _ (.inr (.inr (.inl rfl))) (mk1.kp f2) (by show a1+cst d+2<_;omega) λH3 n3 a2 l e f3 m3 ha2 he hgd=>?_
  have hn3:=f3.le
  have ha2:a2<=a1+cst d:=ha2
  have hb3:=(hb1.kp f2).fg f3
  have ff3:=(ff1.trans (.kp f2)).trans f3
  refine Xf he hn3 λH4 f4 hes=>?_
  refine uZ (kind:=19) (nm:=(0,0)) (.inr ⟨_,_,_,_,_,rfl⟩) λH5 n5 f5=>?_
  have hn5:=f5.le
  have hes5:=hes.mono (B:=Rg n2 n5) (H':=H5) (λid hid=>⟨hid.1,by have:=hid.2;omega⟩) λid hid=>f5.same id hid.2
  refine Az rfl λH6 f6 g6=>?_
  refine DV g6 rfl rfl (by omega) λH7 g7 s7=>?_
  have f7:Kp H5 n5 H7 (n5+1):=⟨f6.le,λid hid=>(s7 id (by omega)).trans (f6.same id hid)⟩
  have f47:=(f4.trans f5).trans f7
  have hb7:=hb3.kp f47
  have hes7:=hes5.mono (B:=λid=>b<id/\id<n5+1/\id≠n5/\id≠b+1) (H':=H7) (λid hid=>by have:=hid.1;have:=hid.2;omega) λid hid=>f7.same id hid.2
  refine AB (DT hb7.b1) ?_
  obtain⟨u,hu1,hu2,_⟩:=hgd.ex
  exact AIL hp hb7 (ff3.trans (.kp f47)) ⟨f47.get m3.g (by omega),m3.pk⟩ (a:=a2) (by omega) (by omega) g7 hes7 (.of (.same _) (Gd.asx (.inr rfl) hu2 (AMg hu1)) ANf)
end
theorem AEF(d:Nat):B2.ev .gtr (.int .i64 (.ofNat d) 0) (.int .i64 (.ofNat 0) 0)=some (.bool (decide (0<d))):=N9 ..
theorem AF3{b:Bool}{e:Option V}{P:V->Prop}(h:P (.Io [])):BF (.Io []) b e P:=h
section
variable{G:AX}{H:Heap}{n gp d:Nat}{s:Mg}{Γ:List Dh}{k:KV}{t:Ty}
theorem AO2(hE:∀d',d=d'+1->jd G gp d')(hd:d<1000)(ht:t=tA∨t=tB)(h:Mk G H n gp s Γ)(hs:s.at'+cst d<1000000000000)(hp:EPost G H n gp s Γ t (cst d-2) k):
 Runs F G Ot [.ptr gp 0,t.v,.int .i64 (.ofNat d) 0] H n k:=by
 refine BH (s:=ar3 (J6 lfp G)) OB (by obtain⟨h,o⟩:=fB BI G;rw[OB]at h;cases h;exact o) ?_
 show J6 lfp G (Runs F G) (.ptr gp 0) t.v (.int .i64 (.ofNat d) 0) H n k
 delta J6
 have hgn:=h.g
 have hcd:=AD8 d
 refine Dq λH1 f1 g1=>?_
 refine Az rfl λH2 f2 g2=>?_
 have f:=f1.trans f2
 have hb:Bo H2 (n+1+1) n gp t:=⟨f2.get g1 (by omega),g2,by omega,hgn⟩
 have mk:=h.kp f
 have fg:=Fg.kp (gp:=gp) f
 have q4:AY (.ptr gp 4) G H2=some s.inn.v:=AV mk.m.g rfl
 have rest:∀(H3:Heap) (a1:Nat),Fg gp H2 (n+1+1) H3 (n+1+1)->WC G H3 gp (s.to a1)->a1<=s.at'+1->ASl G (Runs F G) (.ptr gp 0) (.int .i64 (.ofNat d) 0) (.ptr n 0) (.ptr (n+1) 0) H3 (n+1+1) k:=λH3 a1 f3 m3 ha1=>
  AWH hE hd ht (hb.fg f3) (mk.fg f3 m3) ha1 hs (fg.trans f3) hp
 have rest0:=rest H2 s.at' (Fg.refl ..) mk.m (by omega)
 have self:s.inn≠(0,0)->Rq t ⟨s.inn,false⟩->(⟨s.inn,false⟩:Ty)≠Jl->Runs F G AZ [.ptr gp 0,.int .i64 (.ofNat 3) 0] H2 (n+1+1) λv22 H n'=>BF (.bool true) true (EN (.one .int) false v22 (.int .i64 (.ofNat 0) 0)) λv23=>AP (CQ (.bool true) v23 (.bool false)) λv24=>
  Ae v24 true (Runs F G Ai [(.int .i64 (.ofNat 5) 0),(.str 0 0),.Ad] H n' λv25 H n'=>Bq 11 (.ptr (n+1) 0) v25 H n' λv26 H n'=>Ej (BO [.cn (.ptr (n+1) 0) 11] G H) λl=>k (DX l) H n')
   (ASl G (Runs F G) (.ptr gp 0) (.int .i64 (.ofNat d) 0) (.ptr n 0) (.ptr (n+1) 0) H n' k):=by
  intro hi hr hn
  refine JI mk.m (by omega) (by omega) (by omega) λH3 r a1 hr3 ha1 m3 s3=>?_
  have f3:Fg gp H2 (n+1+1) H3 (n+1+1):=⟨Nat.le_refl _,λid _ hne=>s3 id hne⟩
  refine Sr (DI ..) (Uj ?_)
  cases h0:decide (r=0)with
  |true=>
   rw[Ar]
   refine ALg (a:=n+1+1) (nm:=(0,0)) λH4 n4 l4 f4 he4=>?_
   have hn4:=f4.le
   exact mX hp ((hb.fg f3).kp f4) ((fg.trans f3).trans (.kp f4)) ⟨f4.get m3.g (by omega),m3.pk⟩ (a:=a1) (by omega) (by omega) he4 (.of hr (Gd.this hi) hn)
  |false=>rw[Aj];exact rest H3 a1 f3 m3 ha1
 rw[CO,AQ,Am,AQ]
 refine AB q4 ?_
 rcases h.inn with e|e|e
 ·rw[e]
  refine AB (v:=.bool false) rfl ?_
  repeat (first|with_reducible refine ABz ?_|with_reducible refine vM ?_|with_reducible refine AF3 ?_|with_reducible refine jW ?_)
  rw[Aj]
  exact rest0
 ·rw[e]at self⊢
  refine AB (v:=.bool true) rfl (Sr rfl (Sr (AEF d) (Uj ?_)))
  cases hd0:decide (0<d)with
  |false=>
   repeat (first|with_reducible refine ABz ?_|with_reducible refine vM ?_|with_reducible refine AF3 ?_|with_reducible refine jW ?_)
   rw[Aj]
   exact rest0
  |true=>
  rcases ht with rfl|rfl
  ·refine Sr (Ee _ _) (Sr (AV (off:=0) hb.b1 (v:=tA.nm.v) rfl) (Sr (a:=.bool true) rfl (Sr rfl ?_)))
   repeat (first|with_reducible refine SE ?_)
   repeat (first|with_reducible refine AF3 ?_)
   refine Sr (a:=.bool true) rfl (Uj ?_)
   exact Sr rfl (ADX (self (by decide) (.same _) AN1))
  ·refine Sr (Ee _ _) (Sr (AV (off:=0) hb.b1 (v:=tB.nm.v) rfl) (Sr (a:=.bool false) rfl (Sr rfl ?_)))
   refine X5 rfl (X5 (CO _ _) (X5 (by rw[Am]) (X5 q4 ?_)))
   refine X5 (a:=.bool false) (by rw[e];rfl) (Sr (a:=.bool false) rfl (Uj ?_))
   repeat (first|with_reducible refine ABz ?_|with_reducible refine vM ?_|with_reducible refine AF3 ?_|with_reducible refine jW ?_)
   rw[Aj]
   exact rest0
 ·rw[e]at self⊢
  refine AB (v:=.bool true) rfl (Sr rfl (Sr (AEF d) (Uj ?_)))
  cases hd0:decide (0<d)with
  |false=>
   repeat (first|with_reducible refine ABz ?_|with_reducible refine vM ?_|with_reducible refine AF3 ?_|with_reducible refine jW ?_)
   rw[Aj]
   exact rest0
  |true=>
  rcases ht with rfl|rfl
  ·refine Sr (Ee _ _) (Sr (AV (off:=0) hb.b1 (v:=tA.nm.v) rfl) (Sr (a:=.bool true) rfl (Sr rfl ?_)))
   repeat (first|with_reducible refine SE ?_)
   repeat (first|with_reducible refine AF3 ?_)
   refine Sr (a:=.bool true) rfl (Uj ?_)
   exact Sr rfl (ADX (self (by decide) .ba ANf))
  ·refine Sr (Ee _ _) (Sr (AV (off:=0) hb.b1 (v:=tB.nm.v) rfl) (Sr (a:=.bool false) rfl (Sr rfl ?_)))
   refine X5 rfl (X5 (CO _ _) (X5 (by rw[Am]) (X5 q4 ?_)))
   refine X5 (a:=.bool true) (by rw[e];rfl) (Sr (a:=.bool true) rfl (Uj ?_))
   exact Sr rfl (ADX (self (by decide) (.same _) ANf))
end
noncomputable def AUL(G:AX)(call:BG)(a0 a2 v1 v2:V)(H:Heap)(n:Nat)(k:KV):Prop:=
 AP (Ag 2 v1 G H) λv19=>
 call BZ [] H n λv20 H n=>
 AP (Ag 2 v1 G H) λv=>ER (Aw v v19) <|
 AP (EN (.agg [.str,.bool]) false v19 v20) λv21=>
 Ae v21 true (call E5 [a0,a2] H n λv22 H n=>
 Bq 11 v2 v22 H n λv23 H n=>
 Ej (BO [.cn v2 11] G H) λl=>k (DX l) H n) (AP (Ag 2 v1 G H) λv24=>
 call ES [] H n λv25 H n=>
 AP (Ag 2 v1 G H) λv=>ER (Aw v v24) <|
 AP (EN (.agg [.str,.bool]) false v24 v25) λv26=>
 Ae v26 true (call JD [a0,a2] H n λv27 H n=>
 Bq 11 v2 v27 H n λv28 H n=>
 Ej (BO [.cn v2 11] G H) λl=>k (DX l) H n) (AP (Ag 2 v1 G H) λv29=>
 call FH [] H n λv30 H n=>
 AP (Ag 2 v1 G H) λv=>ER (Aw v v29) <|
 AP (EN (.agg [.str,.bool]) false v29 v30) λv31=>
 Ae v31 true (AP (B2.ev .gtr a2 (.int .i64 (.ofNat 0) 0)) λv32=>
 BF v32 true (some a0) λv33=>
 I5 v32 true (call AZ [v33,(.int .i64 (.ofNat 3) 0)] H n) H n λv34 H n=>
 BF v32 true (B2.ev .gtr v34 (.int .i64 (.ofNat 0) 0)) λv35=>
 AP (CQ v32 v35 (.bool false)) λv36=>
 Ae v36 true (AP (B2.ev .sub a2 (.int .i64 (.ofNat 1) 0)) λv37=>
 call BQ [a0,(.str 1 65),v37] H n λv38 H n=>
 Bh (Af 11 1 [(.int .i64 (.ofNat 0) 0),(.int .i64 (.ofNat 0) 0),(.int .i64 (.ofNat 0) 0),(.int .i64 (.ofNat 0) 0),(.str 0 0),(.str 0 0),(.bool false),.Ad,(.str 0 0),(.bool false),(.str 0 0)] [(0,.c v38)] E0) H n λv39 H n=>
 call Ai [(.int .i64 (.ofNat 7) 0),(.str 2 29560),v39] H n λv40 H n=>
 Bq 11 v2 v40 H n λv41 H n=>
 Ej (BO [.cn v2 11] G H) λl=>k (DX l) H n) (call AZ [a0,(.int .i64 (.ofNat 6) 0)] H n λv42 H n=>
 call Qy [v42] H n λv43 H n=>
 Bh (Af 11 1 [(.int .i64 (.ofNat 0) 0),(.int .i64 (.ofNat 0) 0),(.int .i64 (.ofNat 0) 0),(.int .i64 (.ofNat 0) 0),(.str 0 0),(.str 0 0),(.bool false),.Ad,(.str 0 0),(.bool false),(.str 0 0)] [(0,.c v43)] E0) H n λv44 H n=>
 call Ai [(.int .i64 (.ofNat 11) 0),(.str 0 0),v44] H n λv45 H n=>
 Bh (Au 11 [[(.int .i64 (.ofNat 0) 0),(.int .i64 (.ofNat 0) 0),(.int .i64 (.ofNat 0) 0),(.int .i64 (.ofNat 0) 0),(.str 0 0),(.str 0 0),(.bool false),.Ad,(.str 0 0),(.bool false),(.str 0 0)]] E0) H n λv46 H n=>
 Bq 11 v46 v45 H n λv47 H n=>
 AP (B2.ev .gtr a2 (.int .i64 (.ofNat 0) 0)) λv54=>
 BF v54 true (some a0) λv55=>
 I5 v54 true (call AZ [v55,(.int .i64 (.ofNat 4) 0)] H n) H n λv56 H n=>
 BF v54 true (EN (.one .int) false v56 (.int .i64 (.ofNat 0) 0)) λv57=>
 AP (CQ v54 v57 (.bool false)) λv58=>
 Ae v58 true (AP (B2.ev .sub a2 (.int .i64 (.ofNat 1) 0)) λv59=>
 call E5 [a0,v59] H n λv60 H n=>
 Bh (Af 11 1 [(.int .i64 (.ofNat 0) 0),(.int .i64 (.ofNat 0) 0),(.int .i64 (.ofNat 0) 0),(.int .i64 (.ofNat 0) 0),(.str 0 0),(.str 0 0),(.bool false),.Ad,(.str 0 0),(.bool false),(.str 0 0)] [(0,.c v60)] E0) H n λv61 H n=>
 AP (AU 7 v46) λv62=>
 Bq 1 v62 v61 H n λv63 H n=>
 DU lfp G call k v2 v46 H n) (DU lfp G call k v2 v46 H n))) (AP (Ag 2 v1 G H) λv64=>
 call Ot [a0,v64,a2] H n λv65 H n=>
 Bq 11 v2 v65 H n λv66 H n=>
 Ej (BO [.cn v2 11] G H) λl=>k (DX l) H n)))
section
variable{G:AX}{H H0:Heap}{n gp d b a0:Nat}{s:Mg}{Γ:List Dh}{k:KV}{t:Ty}
theorem AMh(hE:∀d',d'<d->jd G gp d')(hd:d<1000)(h:Mk G H n gp s Γ)(hs:s.at'+cst d<1000000000000)(hk:EPost G H n gp s Γ Du (cst d-2) k):Runs F G E5 [.ptr gp 0,.int .i64 (.ofNat d) 0] H n k:=by
 cases d with
 |zero=>exact AVq h (by have:cst 0=10:=rfl;omega) hk
 |succ d=>exact AX3 (hE d (by omega)) (by omega) h hs hk
theorem AO6(hE:∀d',d'<d->jd G gp d')(hd:d<1000)(h:Mk G H n gp s Γ)(hs:s.at'+cst d<1000000000000)(hk:EPost G H n gp s Γ CJ (cst d-2) k):Runs F G JD [.ptr gp 0,.int .i64 (.ofNat d) 0] H n k:=by
 cases d with
 |zero=>exact ARs h (by have:cst 0=10:=rfl;omega) hk
 |succ d=>exact AUv (hE d (by omega)) (by omega) h hs hk
theorem AQf{c0 c a:Nat}{v:V}{e:Te}(hp:EPost G H0 b gp s Γ tIs c0 k)(hb:Bo H n b gp tIs)(f:Fg gp H0 b H n)(m:WC G H gp (s.to a))(ha:a<=s.at'+c0)(hbc:b+1<c)(hcn:c<n)
 (hc:T.get H c=some (one (XL 11 0 (0,0) Ox Ox (0,0) 0 0 v))) (hv:Qc G H (λid=>b<id/\id<n/\id≠c/\id≠b+1) v [e]) (hg:Gd s.inn Γ e Du):
 DU lfp G (Runs F G) k (.ptr (b+1) 0) (.ptr c 0) H n:=by
 delta DU
 have:=hb.g;have:=hb.le
 refine Oj λH1 n1 f1=>?_
 have hn1:=f1.le
 exact AIL (ty:=Du) hp (hb.kp f1) (f.trans (.kp f1)) ⟨f1.get m.g (by omega),m.pk⟩ ha hbc (f1.get hc hcn) (hv.mono (λid hid=>⟨hid.1,by omega,hid.2.2⟩) λid hid=>f1.same id hid.2.1) (.of (.same _) (Gd.arr hg) AQM)
theorem AMd(hE:∀d',d'<d->jd G gp d')(hd:d<1000)(ht:Lh t)(hb:Bo H n b gp t)(h:Mk G H n gp (s.to a0) Γ)(ha0:a0<=s.at'+2)(hs:s.at'+cst d+2<1000000000000)(f:Fg gp H0 b H n)(hp:EPost G H0 b gp s Γ t (cst d) k):
 AUL G (Runs F G) (.ptr gp 0) (.int .i64 (.ofNat d) 0) (.ptr b 0) (.ptr (b+1) 0) H n k:=by
 unfold AUL
 have hcd:=AD8 d
 have hle:=hb.le
 have hbg:=hb.g
 refine AB (DT hb.b1) ?_
 refine Oj λH1 n1 f1=>?_
 have hn1:=f1.le
 have hb1:=hb.kp f1
 have mk1:=h.kp f1
 have ff1:=f.trans (.kp f1)
 refine AB (DT hb1.b1) (Di (Ld _) (AB (iE t Du) ?_))
 cases e1:t.is Du with
 |true=>
  have e1:=Ty.sV.1 e1
  subst e1
  rw[Ar]
  refine AMh hE hd mk1 (by show a0+cst d<_;omega) λH2 n2 a l e f2 m2 ha he hg=>?_
  have ha:a<=a0+(cst d-2):=ha
  exact mX hp (hb1.fg f2) (ff1.trans f2) m2 (a:=a) (by omega) (by omega) he hg
 |false=>
 rw[Aj]
 refine AB (DT hb1.b1) ?_
 refine UC λH2 n2 f2=>?_
 have hn2:=f2.le
 have hb2:=hb1.kp f2
 have mk2:=mk1.kp f2
 have ff2:=ff1.trans (.kp f2)
 refine AB (DT hb2.b1) (Di (Ld _) (AB (iE t CJ) ?_))
 cases e2:t.is CJ with
 |true=>
  have e2:=Ty.sV.1 e2
  subst e2
  rw[Ar]
  refine AO6 hE hd mk2 (by show a0+cst d<_;omega) λH3 n3 a l e f3 m3 ha he hg=>?_
  have ha:a<=a0+(cst d-2):=ha
  exact mX hp (hb2.fg f3) (ff2.trans f3) m3 (a:=a) (by omega) (by omega) he hg
 |false=>
 rw[Aj]
 refine AB (DT hb2.b1) ?_
 refine zh λH3 n3 f3=>?_
 have hn3:=f3.le
 have hb3:=hb2.kp f3
 have mk3:=mk2.kp f3
 have ff3:=ff2.trans (.kp f3)
 refine AB (DT hb3.b1) (Di (Ld _) (AB (iE t tIs) ?_))
 cases e3:t.is tIs with
 |true=>
  have e3:=Ty.sV.1 e3
  subst e3
  rw[Ar]
  have arr:∀(H4:Heap) (a1:Nat),Fg gp H3 n3 H4 n3->WC G H4 gp (s.to a1)->a1<=a0+1->Runs F G AZ [.ptr gp 0,.int .i64 (.ofNat 6) 0] H4 n3 λv42 H n=>Runs F G Qy [v42] H n λv43 H n=>
   Bh (Af 11 1 teZ [(0,.c v43)] E0) H n λv44 H n=>Runs F G Ai [(.int .i64 (.ofNat 11) 0),(.str 0 0),v44] H n λv45 H n=>Bh (Au 11 [teZ] E0) H n λv46 H n=>Bq 11 v46 v45 H n λv47 H n=>
   AP (B2.ev .gtr (.int .i64 (.ofNat d) 0) (.int .i64 (.ofNat 0) 0)) λv54=>BF v54 true (some (.ptr gp 0)) λv55=>I5 v54 true (Runs F G AZ [v55,.int .i64 (.ofNat 4) 0] H n) H n λv56 H n=>
   BF v54 true (EN (.one .int) false v56 (.int .i64 (.ofNat 0) 0)) λv57=>AP (CQ v54 v57 (.bool false)) λv58=>Ae v58 true (AP (B2.ev .sub (.int .i64 (.ofNat d) 0) (.int .i64 (.ofNat 1) 0)) λv59=>
    Runs F G E5 [.ptr gp 0,v59] H n λv60 H n=>Bh (Af 11 1 teZ [(0,.c v60)] E0) H n λv61 H n=>AP (AU 7 v46) λv62=>Bq 1 v62 v61 H n λv63 H n=>DU lfp G (Runs F G) k (.ptr (b+1) 0) v46 H n)
    (DU lfp G (Runs F G) k (.ptr (b+1) 0) v46 H n):=by
   intro H4 a1 f4 m4 ha1
   refine JI m4 (by omega) (by omega) (by show a1<_;omega) λH5 r a2 hr ha2 m5 s5=>?_
   have ha2:a2<=a1+1:=ha2
   have f5:Fg gp H4 n3 H5 n3:=⟨Nat.le_refl _,λid _ hne=>s5 id hne⟩
   have f35:=f4.trans f5
   refine AUK λH6 n6 f6=>?_
   have hn6:=f6.le
   refine Xf (G:=G) (a:=n3) (e:=.mk 1 r (0,0) Ox Ox (0,0) []) (GN.of .nil) hn6 λH7 f7 hes=>?_
   refine uZ (kind:=11) (nm:=(0,0)) (.inr ⟨_,_,_,_,_,rfl⟩) λH8 n8 f8=>?_
   have hn8:=f8.le
   refine Az rfl λH9 f9 g9=>?_
   refine DV g9 rfl rfl (by omega) λH10 g10 s10=>?_
   have f10:Kp H8 n8 H10 (n8+1):=⟨f9.le,λid hid=>(s10 id (by omega)).trans (f9.same id hid)⟩
   have f510:=((f6.trans f7).trans f8).trans f10
   have f310:=f35.trans (Fg.kp (gp:=gp) f510)
   have hb10:=hb3.fg f310
   have m10:WC G H10 gp (s.to a2):=⟨f510.get m5.g (by omega),m5.pk⟩
   have hes10:Qc G H10 (λid=>b<id/\id<n8+1/\id≠n8/\id≠b+1) (.sl n6 0 1 1 11) [.mk 1 r (0,0) Ox Ox (0,0) []]:=hes.mono (λid hid=>by have:=hid.1;have:=hid.2;omega) λid hid=>(f8.trans f10).same id (by have:=hid.2;omega)
   have ff10:=ff3.trans f310
   cases d with
   |zero=>
    refine AB (AEF 0) ?_
    rw[decide_eq_false (by omega)]
    refine ABz (vM (ABz (jW ?_)))
    rw[Aj]
    exact AQf hp hb10 ff10 m10 (a:=a2) (by omega) (by omega) (by omega) g10 hes10 Gd.num
   |succ d=>
    have hcs:cst (d+1)=10+3*cst d:=rfl
    refine AB (AEF (d+1)) ?_
    rw[decide_eq_true (by omega)]
    refine Sr rfl (ADX ?_)
    refine JI m10 (by omega) (by omega) (by show a2<_;omega) λH11 q a3 hq bU m11 s11=>?_
    have bU:a3<=a2+1:=bU
    have f11:Fg gp H10 (n8+1) H11 (n8+1):=⟨Nat.le_refl _,λid _ hne=>s11 id hne⟩
    have hb11:=hb10.fg f11
    have ff11:=ff10.trans f11
    have g11:=f11.get g10 (by omega) (by omega)
    refine Sr (DI ..) (Uj ?_)
    cases q0:decide (q=0)with
    |false=>
     rw[Aj]
     exact AQf hp hb11 ff11 m11 (a:=a3) (by omega) (by omega) (by omega) g11 (hes10.mono (λid h=>h) λid hid=>s11 id (by omega)) Gd.num
    |true=>
     rw[Ar]
     refine AB (APM hd) ?_
     have mk11:Mk G H11 (n8+1) gp (s.to a3) Γ:=((mk3.fg (a:=a2) f310 m10)).fg (a:=a3) f11 m11
     refine AMh (λd' e=>hE d' (by omega)) (by omega) mk11 (by show a3+cst d<_;omega) λH12 n12 a4 l e f12 m12 yh he hg=>?_
     have hn12:=f12.le
     have yh:a4<=a3+(cst d-2):=yh
     have g12:=f12.get g11 (by omega) (by omega)
     refine Xf he hn12 λH13 f13 hes2=>?_
     rw[Am,AQ]
     refine Jm (off:=0+7) (m:=1) (v:=.sl n12 0 1 1 11) (f13.get g12 (by omega)) rfl rfl (by omega) (by show 0+7+1<=11;omega) λH14 g14 s14=>?_
     have f14:Fg gp H3 n3 H14 (n12+1):=⟨by omega,λid hid hne=>(s14 id (by omega)).trans ((f13.same id (by omega)).trans ((f12.same id (by omega) hne).trans ((f11.same id (by omega) hne).trans (f310.same id hid hne))))⟩
     exact AQf hp (hb3.fg f14) (ff3.trans f14) ⟨(s14 gp (by omega)).trans (f13.get m12.g (by omega)),m12.pk⟩ (a:=a4) (by omega) (by omega) (by omega) g14 (hes2.mono (λid hid=>by have:=hid.1;have:=hid.2;omega) λid hid=>s14 id (by have:=hid.1;omega)) hg.int
  have arr0:=arr H3 a0 (Fg.refl ..) mk3.m (by omega)
  cases d with
  |zero=>
   refine AB (AEF 0) ?_
   rw[decide_eq_false (by omega)]
   refine ABz (vM (ABz (jW ?_)))
   rw[Aj]
   exact arr0
  |succ d=>
   have hcs:cst (d+1)=10+3*cst d:=rfl
   refine AB (AEF (d+1)) ?_
   rw[decide_eq_true (by omega)]
   refine Sr rfl (ADX ?_)
   refine JI mk3.m (by omega) (by omega) (by show a0<_;omega) λH4 q a1 hq ha1 m4 s4=>?_
   have ha1:a1<=a0+1:=ha1
   have f4:Fg gp H3 n3 H4 n3:=⟨Nat.le_refl _,λid _ hne=>s4 id hne⟩
   refine Sr (AEF q) (Uj ?_)
   cases q0:decide (0<q)with
   |false=>rw[Aj];exact arr H4 a1 f4 m4 ha1
   |true=>
    rw[Ar]
    refine AB (APM hd) ?_
    refine tH (cl:=nA) (hE d (by omega)) (.inl rfl) (mk3.fg (a:=a1) f4 m4) (by show a1+cst d+2<_;omega) λH5 n5 a2 l e u f5 m5 ha2 he hu huc _=>?_
    have hn5:=f5.le
    have ha2:a2<=a1+cst d:=ha2
    refine Xf he hn5 λH6 f6 hes=>?_
    refine YO (nm:=ANm) (es:=[e]) hes λH7 n7 l7 f7 he7=>?_
    have f67:=f6.trans f7
    exact mX hp (((hb3.fg f4).fg f5).kp f67) (((ff3.trans f4).trans f5).trans (.kp f67)) ⟨f67.get m5.g (by omega),m5.pk⟩ (a:=a2) (by omega) (by omega) he7 (.of (.same _) (Gd.get hu huc rfl (by decide)) AQM)
 |false=>
 rw[Aj]
 have ht2:t=tA∨t=tB:=by
  rcases ht with rfl|rfl|rfl|rfl|rfl
  ·rw[Ty.AAy]at e1;cases e1
  ·rw[Ty.AAy]at e2;cases e2
  ·exact .inl rfl
  ·exact .inr rfl
  ·rw[Ty.AAy]at e3;cases e3
 refine AB (DT hb3.b1) ?_
 refine AO2 (λd' e=>hE d' (by omega)) hd ht2 mk3 (by show a0+cst d<_;omega) λH4 n4 a l e f4 m4 ha he hg=>?_
 have ha:a<=a0+(cst d-2):=ha
 exact mX hp (hb3.fg f4) (ff3.trans f4) m4 (a:=a) (by omega) (by omega) he hg
end
theorem APj{inn:St}{Γ:List Dh}{m:Nat}(h:Gam Γ m){f:Dh}(hf:f∈Γ){t:Ty}(hfit:Fit t f.ty):dV inn Γ (.mk 6 0 f.nm Ox Ox (0,0) []) t:=
 .of hfit.rq (Gd.loc (ACi h.nd hf)) (by rcases h.ty f hf with e|e|e|e|e<;>rw[e];exact int_ne;exact aV;exact AN1;exact ANf;exact AQM)
theorem ANG{b:Bool}{t:KV->Prop}{H:Heap}{n:Nat}{Q:KV}(h:Q (.Io []) H n):I5 (.Io []) b t H n Q:=h
section
variable{G:AX}{gp:Nat}
theorem ANW(d:Nat)(hd:d<1000)(hE:∀d',d'<d->jd G gp d'):jd G gp d:=by
 intro t H n s Γ k ht h hs hp
 refine BH (s:=ar3 (Ls lfp G)) Ph (by obtain⟨h,o⟩:=ku BI G;rw[Ph]at h;cases h;exact o) ?_
 show Ls lfp G (Runs F G) (.ptr gp 0) t.v (.int .i64 (.ofNat d) 0) H n k
 delta Ls
 have hgn:=h.g
 have hcd:=AD8 d
 refine Dq λH1 f1 g1=>?_
 refine Az rfl λH2 f2 g2=>?_
 have f:=f1.trans f2
 have hb:Bo H2 (n+1+1) n gp t:=⟨f2.get g1 (by omega),g2,by omega,hgn⟩
 have mk:=h.kp f
 have fg:=Fg.kp (gp:=gp) f
 refine AB (DT hb.b1) ?_
 refine ATC mk.m mk.g mk.v (by omega) (λH3 n3 f3 m3=>?_) (λH3 n3 l a hl hfit ha f3 m3=>?_)
 ·have hn3:=f3.le
  rw[iY,AQ,iK,AQ]
  refine Az rfl λH4 f4 g4=>?_
  refine DV g4 rfl rfl (by omega) λH5 g5 s5=>?_
  have f5:Kp H3 n3 H5 (n3+1):=⟨f4.le,λid hid=>(s5 id (by omega)).trans (f4.same id hid)⟩
  repeat (first|with_reducible refine ABz ?_|with_reducible refine vM ?_|with_reducible refine AF3 ?_|with_reducible refine ANG ?_|with_reducible refine jW ?_)
  rw[Aj]
  have f25:Fg gp H2 (n+1+1) H5 (n3+1):=f3.trans (.kp f5)
  exact AMd (s:=s) (a0:=s.at') hE hd ht (hb.fg f25) (mk.fg (a:=s.at') f25 ⟨f5.get m3.g (by omega),m3.pk⟩) (by omega) (by omega) (fg.trans f25) hp
 ·have hn3:=f3.le
  rw[iY,AQ,iK,AQ]
  refine Az rfl λH4 f4 g4=>?_
  refine DV g4 rfl rfl (by omega) λH5 g5 s5=>?_
  have f5:Kp H3 n3 H5 (n3+1):=⟨f4.le,λid hid=>(s5 id (by omega)).trans (f4.same id hid)⟩
  have f25:Fg gp H2 (n+1+1) H5 (n3+1):=f3.trans (.kp f5)
  have hb5:=hb.fg f25
  have m5:WC G H5 gp (s.to a):=⟨f5.get m3.g (by omega),m3.pk⟩
  have mk5:=mk.fg (a:=a) f25 m5
  have ff5:=fg.trans f25
  have hgood:=APj (inn:=s.inn) h.gam hl hfit
  have take:∀(H6:Heap) (a1:Nat),Fg gp H5 (n3+1) H6 (n3+1)->WC G H6 gp (s.to a1)->a1<=a+1->AP (Ag 11 (.ptr n3 0) G H6) λv17=>Bq 11 (.ptr (n+1) 0) v17 H6 (n3+1) λv18 H n'=>Ej (BO [.cn (.ptr (n+1) 0) 11] G H) λl=>k (DX l) H n':=by
   intro H6 a1 f6 m6 ha1
   have g6:=f6.get g5 (by omega) (by omega)
   refine AB (Bf (m:=11) g6 (by omega) rfl) ?_
   exact mX (l:=XL 6 0 l.nm Ox Ox (0,0) 0 0 .Ad) (a1:=n+1+1) (e:=.mk 6 0 l.nm Ox Ox (0,0) []) hp (hb5.fg f6) (ff5.trans f6) m6 (a:=a1) (by omega) (by omega) (GN.of .nil) hgood
  refine Sr rfl (Sr (AEy d) (Sr rfl ?_))
  cases d with
  |zero=>
   rw[decide_eq_true (Nat.le_refl 0)]
   refine SE (Zt (SE (Sr (a:=.bool true) rfl (Uj ?_))))
   rw[Ar]
   exact take H5 a (Fg.refl ..) m5 (by omega)
  |succ d=>
   rw[decide_eq_false (by omega)]
   refine X5 rfl (AF6 ?_)
   refine JI m5 (by omega) (by omega) (by show a<_;omega) λH6 r a1 hr ha1 m6 s6=>?_
   have ha1:a1<=a+1:=ha1
   have f6:Fg gp H5 (n3+1) H6 (n3+1):=⟨Nat.le_refl _,λid _ hne=>s6 id hne⟩
   refine X5 (DI ..) ?_
   cases r0:decide (r=0)with
   |true=>
    refine Sr (a:=.bool true) rfl (Uj ?_)
    rw[Ar]
    exact take H6 a1 f6 m6 ha1
   |false=>
    refine Sr (a:=.bool false) rfl (Uj ?_)
    rw[Aj]
    exact AMd (s:=s) (a0:=a1) hE hd ht (hb5.fg f6) (mk5.fg (a:=a1) f6 m6) (by omega) (by omega) (ff5.trans f6) hp
theorem P6:∀d,d<1000->jd G gp d:=by
 intro d
 induction d using Nat.strongRecOn with
 |_ d ih=>intro hd;exact ANW d hd λd' h=>ih d' h (by omega)
end
def typs:List Ty:=[Du,Du,CJ,tA,tB,tIs]
section
variable{G:AX}{H:Heap}{n gp:Nat}{s:Mg}{Γ:List Dh}{k:KV}
theorem AYK(h:Mk G H n gp s Γ)(hs:s.at'<1000000000000)(hk:∀H' n' a t,Lh t->a<=s.at'+1->Fg gp H n H' n'->WC G H' gp (s.to a)->k t.v H' n'):Runs F G YZ [.ptr gp 0] H n k:=by
 refine BH (s:=mO (NW lfp G)) Qq (by obtain⟨h,o⟩:=og BI G;rw[Qq]at h;cases h;exact o) ?_
 show NW lfp G (Runs F G) (.ptr gp 0) H n k
 delta NW
 have hgn:=h.g
 refine Az rfl λH1 f1 g1=>?_
 refine Oj λH2 n2 f2=>Oj λH3 n3 f3=>UC λH4 n4 f4=>jK (l:=1) (c:=65) λH5 n5 f5=>jK (l:=1) (c:=66) λH6 n6 f6=>zh λH7 n7 f7=>?_
 have f27:=((((f2.trans f3).trans f4).trans f5).trans f6).trans f7
 have hn7:=f27.le
 refine WU (G:=G) (vs:=typs.map Ty.v) rfl (by omega) (λv hv=>by obtain⟨x,_,rfl⟩:=List.mem_map.1 hv;exact⟨rfl,rfl⟩) λH8 f8 _ hel=>?_
 have f28:=f27.trans f8
 have m8:WC G H8 gp s:=⟨f28.get (f1.get h.m.g hgn) (by omega),h.m.pk⟩
 refine JI m8 (by omega) (by omega) hs λH9 r a hr ha m9 s9=>?_
 have AZK:El G H9 (.sl n7 0 6 6 2) 2 (typs.map Ty.cells):=El.same hel λid hid=>by cases hid;exact s9 _ (by omega)
 obtain⟨p,hp,hld⟩:=AZK.at (i:=r) (c:=typs[r].cells) (by rw[List.getElem?_map,List.getElem?_eq_getElem hr];rfl)
 refine AB hp (AB (Dx hld) ?_)
 have g9:T.get H9 n=_:=(s9 n (by omega)).trans (f28.get g1 (by omega))
 refine DV g9 rfl rfl (by omega) λH10 g10 s10=>?_
 rw[D9 (m:=2) g10 (by omega) rfl]
 simp only[go_sem]
 refine hk H10 (n7+1) a typs[r] ?_ ha ⟨by omega,λid hid hne=>(s10 id (by omega)).trans ((s9 id hne).trans ((f28.same id (by omega)).trans (f1.same id hid)))⟩ ⟨(s10 gp (by omega)).trans m9.g,m9.pk⟩
 match r,hr with
 |0,_=>exact .inl rfl
 |1,_=>exact .inl rfl
 |2,_=>exact .inr (.inl rfl)
 |3,_=>exact .inr (.inr (.inl rfl))
 |4,_=>exact .inr (.inr (.inr (.inl rfl)))
 |5,_=>exact .inr (.inr (.inr (.inr rfl)))
abbrev ttZ:LV:=[.int .i64 (.ofNat 0) 0,.int .i64 (.ofNat 0) 0,.int .i64 (.ofNat 0) 0,.str 0 0,.str 0 0,.bool false,.Ad,.Ad,.Ad]
theorem AHR{does id m:Nat}(hk:∀H' n',Kp H n H' n'->k (.agg (ttC does 0 0 (0,0) Ox (.sl id 0 m m 11) .Ad .Ad)) H' n'):Runs F G BN [.int .i64 (.ofNat does) 0,.sl id 0 m m 11] H n k:=by
 refine BH (s:=N7 (J9 lfp G)) N8 (by obtain⟨h,o⟩:=eG BI G;rw[N8]at h;cases h;exact o) ?_
 show J9 lfp G (Runs F G) (.int .i64 (.ofNat does) 0) (.sl id 0 m m 11) H n k
 delta J9
 refine Az rfl λH1 f1 g1=>?_
 refine AB (v:=.agg (ttC does 0 0 (0,0) Ox (.sl id 0 m m 11) .Ad .Ad)) rfl ?_
 refine DV g1 rfl rfl (by omega) λH2 g2 s2=>?_
 rw[D9 (m:=9) g2 (by omega) rfl]
 simp only[go_sem]
 exact hk _ _ ⟨f1.le,λid hid=>(s2 id (by omega)).trans (f1.same id hid)⟩
end
end Go.RL
