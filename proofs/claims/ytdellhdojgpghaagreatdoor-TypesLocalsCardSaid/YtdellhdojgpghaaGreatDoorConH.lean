/- Part of a proof; nothing is assumed. -/
import Derived.Test.YtdellhdojgpghaaGreatDoorConG
set_option linter.unusedVariables false
set_option linter.unusedSimpArgs false
namespace Go.RL
open Go.Bj
set_option maxRecDepth 100000
structure Kq where
 kb:Nat
 n0:Nat
 t:Nat
 a:Nat
 b:Nat
 tb:Tab
 cl:Nat
 cc:Nat
 cls:St
 sup:St
 vf:V
 vm:V
structure Km where
 ml:Nat
 mc:Nat
 nm:St
 st:Bool
 vp:V
 ret:Ty
 vb:V
def Kq.cells(K:Kq)(M:Km)(vv:V)(all:Nat):LV:=[.ptr K.t 0,vv,.int .i64 (.ofNat all) 0,.int .i64 (.ofNat K.cl) 0,.int .i64 (.ofNat K.cc) 0,K.cls.v,K.sup.v,K.vf,K.vm,
 .int .i64 (.ofNat M.ml) 0,.int .i64 (.ofNat M.mc) 0,M.nm.v,.bool M.st,M.vp,M.ret.nm.v,.bool M.ret.arr,M.vb,.int .i64 (.ofNat 0) 0,.int .i64 (.ofNat 0) 0,.int .i64 (.ofNat 0) 0]
def Kq.x(K:Kq)(M:Km):Kx:=⟨K.tb,K.cls,M.st,M.ret⟩
structure Ry(G:AV)(K:Kq):Prop where
 n0:K.n0<=K.kb
 ta:K.t<K.n0
 aa:K.a<K.n0
 ba:K.b<K.n0
 ar:∀s c,JV K.tb s=some c->∀m∈c.ms,m.ps.length<=1000
 tn:∀s c,JV K.tb s=some c->(∀f∈c.fs,f.ty.nm.ok)/\∀m∈c.ms,m.ret.nm.ok
 tl:K.tb.length<=1000
 cls:K.cls.ok
 sub:ACs G
structure XC(G:AV)(H:Heap)(n:Nat)(K:Kq)(M:Km)(vv:V)(all:Nat)(Γ:List ER):Prop where
 g:T.get H K.kb=some (one (K.cells M vv all))
 tab:TabAt G H K.n0 K.t K.a K.b K.tb
 kn:K.kb<n
 sk:Sk H 3 (λid=>K.kb<id/\id<n) vv (Γ.map Yy)
 la:Γ.length<=all
 al:all<=200
 ok:∀f∈Γ,f.ty.nm.ok
 ret:M.ret.nm.ok
theorem TabAt.up{G:AV}{H:Heap}{n n' t a b:Nat}{fs:Tab}(h:TabAt G H n t a b fs)(hn:n<=n'):TabAt G H n' t a b fs:=
 h.kb ⟨hn,λ_ _ _=>rfl,λh=>h⟩
theorem XC.kb{G:AV}{H H':Heap}{n n':Nat}{K:Kq}{M:Km}{vv:V}{all:Nat}{Γ:List ER}(o:Ry G K)(h:XC G H n K M vv all Γ)(f:Kb K.b H n H' n'):XC G H' n' K M vv all Γ:=by
 have:=o.n0;have:=o.ba
 exact⟨f.get h.g h.kn (by omega),h.tab.kb (f.low (by have:=h.kn;omega)),Nat.lt_of_lt_of_le h.kn f.le,h.sk.mono (λid hid=>⟨hid.1,Nat.lt_of_lt_of_le hid.2 f.le⟩) λid hid=>f.same id hid.2 (by omega),h.la,h.al,h.ok,h.ret⟩
theorem XC.kp{G:AV}{H H':Heap}{n n':Nat}{K:Kq}{M:Km}{vv:V}{all:Nat}{Γ:List ER}(o:Ry G K)(h:XC G H n K M vv all Γ)(f:Kp H n H' n'):XC G H' n' K M vv all Γ:=
 h.kb o (f.kb (by have:=h.kn;have:=o.n0;have:=o.ba;omega))
theorem XC.lt{G:AV}{H:Heap}{n:Nat}{K:Kq}{M:Km}{vv:V}{all:Nat}{Γ:List ER}(h:XC G H n K M vv all Γ):Γ.length<=200:=Nat.le_trans h.la h.al
theorem XC.bn{G:AV}{H:Heap}{n:Nat}{K:Kq}{M:Km}{vv:V}{all:Nat}{Γ:List ER}(o:Ry G K)(h:XC G H n K M vv all Γ):K.b<n:=by
 have:=h.kn;have:=o.n0;have:=o.ba;omega
theorem XC.up{G:AV}{H:Heap}{n:Nat}{K:Kq}{M:Km}{vv:V}{all:Nat}{Γ:List ER}(o:Ry G K)(h:XC G H n K M vv all Γ):TabAt G H n K.t K.a K.b K.tb:=
 h.tab.up (by have:=h.kn;have:=o.n0;omega)
section
variable{G:AV}{H:Heap}{n:Nat}{K:Kq}{M:Km}{vv:V}{all:Nat}{Γ:List ER}{k:KV}{A:Nat->Prop}
theorem O9{ec p0 p1:V}(g:T.get H K.kb=some (one (K.cells M vv all)))(hn:K.kb<n)(hk:∀H',Kp H n H' (n+1)->k (.bool true) H' (n+1)):
 Runs F G Ai [.ptr K.kb 0,.bool true,ec,.agg [p0,p1]] H n k:=by
 refine go4 (Vp Aq G) ?_
 delta Qh
 refine Ei λH1 f1 g1=>?_
 rw[Du,AU]
 show Ac (.bool false) true _ _
 rw[Ak]
 delta Gm
 rw[Bz,AU,AY,AU,DK,AU]
 refine AB (AX (off:=0+17) (f1.get g hn) rfl) ?_
 refine AB (Dy ..) ?_
 exact hk H1 f1
theorem vZ{v:V}{cs:CJ}{es:List Te}{t:Ty}(g:T.get H K.kb=some (one (K.cells M vv all)))(hn:K.kb<n)(h1:El G H v 11 cs)(h5:∀id,v.Dl=some id->A id)(h6:G9 G H A cs es)(hA:∀id,A id->id<n)(hall:∀e∈es,e.of=t)(hln:es.length<=1000000)
 (hk:∀H' n',Kp H n H' n'->k (.bool true) H' n'):Runs F G Dj [.ptr K.kb 0,v,t.v] H n k:=by
 refine go3 (kF Aq G) ?_
 delta V6
 refine Ei λH1 f1 g1=>?_
 have hlen:=(h1.same (H':=H1) λid hid=>f1.same id (hA id (h5 id hid))).len
 rw[h6.len]at hlen
 refine AB hlen ?_
 refine CG (N:=es.length) (J:=λj q=>∃H' n',q=(.ptr K.kb 0,.ptr n 0,v,.int .i64 (.ofNat es.length) 0,.int .i64 (.ofNat j) 0,H',n')/\Kp H1 (n+1) H' n') ?_ ?_ ⟨H1,n+1,rfl,Kp.refl _ _⟩
 ·rintro I j q hlt ⟨H2,n2,rfl,f2⟩ ih
  show GI lfp G (Runs F G) k I (.ptr K.kb 0) (.ptr n 0) v (.int .i64 (.ofNat es.length) 0) (.int .i64 (.ofNat j) 0) H2 n2
  delta GI
  have f12:=f1.trans f2
  have hn2:=f12.le
  obtain⟨l,hl,he⟩:=(G9.mono (H':=H2) (λ_ h=>h) (λid hid=>f12.same id (hA id hid)) h6).at (List.getElem?_eq_getElem hlt)
  obtain⟨p,hpp,hld⟩:=(h1.same (H':=H2) λid hid=>f12.same id (hA id (h5 id hid))).at hl
  have hof:=hall _ (List.getElem_mem hlt)
  generalize es[j]=e at he hof
  rw[FM,AU,decide_eq_true hlt,A8]
  refine AB hpp (AB (EM hld) ?_)
  refine Ar rfl λH3 f3 g3=>?_
  refine Bf g3 rfl he.len (by omega) λH4 g4 s4=>?_
  have f24:Kp H2 n2 H4 (n2+1):=⟨f3.le,λid hid=>(s4 id (by omega)).trans (f3.same id hid)⟩
  cases he with
  |mk kind num nm ty of own line col hev hvk hva hvc=>
   obtain rfl:of=t:=hof
   rw[AY,AU]
   refine AB (Dz (off:=0+8) (m:=2) g4 (by omega) (by show 0+8+2<=11;omega)) ?_
   have g1':T.get H4 n=_:=f24.get (f2.get g1 (by omega)) (by have:=f2.le;omega)
   refine AB (Gp g1') ?_
   refine AB (AFj of of) ?_
   rw[Ty.AUq,AY,AU]
   refine AB (Dz (off:=0+1) (m:=2) g4 (by omega) (by show 0+1+2<=11;omega)) ?_
   refine O9 (K:=K) (f24.get (f12.get g hn) (by omega)) (by omega) λH5 f5=>?_
   rw[Du,AU]
   show Ac (.bool false) true _ _
   rw[Ak,GV (by omega),AU]
   exact ih _ ⟨H5,n2+1+1,rfl,f2.trans (f24.trans f5)⟩
 ·rintro I q ⟨H2,n2,rfl,f2⟩
  show GI lfp G (Runs F G) k I (.ptr K.kb 0) (.ptr n 0) v (.int .i64 (.ofNat es.length) 0) (.int .i64 (.ofNat es.length) 0) H2 n2
  delta GI
  rw[FM,AU,decide_eq_false (Nat.lt_irrefl _),Ak]
  exact hk H2 n2 (f1.trans f2)
theorem AGB{s:St}:∀{Γ:List ER} {j:Nat},JF s (Γ.take j)=none->∀{f:ER},Γ[j]? =some f->(f.nm=s->JF s Γ=some f.ty)/\(f.nm≠s->JF s (Γ.take (j+1))=none)
 |[],_,_,_,h=>by simp at h
 |g::l,0,_,f,h=>by
  cases h
  refine⟨λe=>?_,λe=>?_⟩
  ·show(bif decide (g.nm=s)then some g.ty else JF s l)=_
   rw[decide_eq_true e];rfl
  ·show(bif decide (g.nm=s)then some g.ty else JF s (l.take 0))=_
   rw[decide_eq_false e];rfl
 |g::l,j+1,hn,f,h=>by
  have hn:(bif decide (g.nm=s)then some g.ty else JF s (l.take j))=none:=hn
  cases hd:decide (g.nm=s)with
  |true=>rw[hd]at hn;cases hn
  |false=>
   rw[hd]at hn
   obtain⟨h1,h2⟩:=AGB (j:=j) hn (show l[j]? =some f from h)
   refine⟨λe=>?_,λe=>?_⟩
   ·show(bif decide (g.nm=s)then some g.ty else JF s l)=_
    rw[hd];exact h1 e
   ·show(bif decide (g.nm=s)then some g.ty else JF s (l.take (j+1)))=_
    rw[hd];exact h2 e
theorem ANk{s:St}(o:Ry G K)(h:XC G H n K M vv all Γ)(hk:∀H' n',Kp H n H' n'->k (.EI [((JF s Γ).getD tyN).v,.bool (JF s Γ).isSome]) H' n'):Runs F G Tf [.ptr K.kb (0+1),s.v] H n k:=by
 refine go2 (xO Aq G) ?_
 delta Y7
 refine Ar rfl λH1 f1 g1=>?_
 have h1:=h.kp o f1
 rw[Bz,AU,DK,AU]
 refine AB (AX (off:=0+1) h1.g (v:=vv) rfl) ?_
 have hlen:=(h1.sk.el (G:=G) (by omega)).len
 rw[List.length_map]at hlen
 have hln:=h.lt
 refine AB hlen ?_
 refine CG (N:=Γ.length) (J:=λj q=>∃H' n',q=(s.v,.ptr n 0,vv,.int .i64 (.ofNat Γ.length) 0,.int .i64 (.ofNat j) 0,H',n')/\Kp H1 (n+1) H' n'/\JF s (Γ.take j)=none) ?_ ?_ ⟨H1,n+1,rfl,Kp.refl _ _,rfl⟩
 ·rintro I j q hlt ⟨H2,n2,rfl,f2,hnone⟩ ih
  show Ie lfp G (Runs F G) k I s.v (.ptr n 0) vv (.int .i64 (.ofNat Γ.length) 0) (.int .i64 (.ofNat j) 0) H2 n2
  delta Ie
  have h2:=h1.kp o f2
  obtain⟨p,hpp,hld⟩:=(h2.sk.el (G:=G) (by omega)).at (i:=j) (c:=Yy Γ[j]) (by simp[hlt])
  obtain⟨q1,q2⟩:=AGB hnone (List.getElem?_eq_getElem hlt)
  generalize Γ[j]=f at hld q1 q2
  rw[FM,AU,decide_eq_true hlt,A8]
  refine AB hpp (AB (EM hld) ?_)
  refine Ar rfl λH3 f3 g3=>?_
  refine Bf g3 rfl rfl (by omega) λH4 g4 s4=>?_
  have hn2:=f2.le
  have f24:Kp H2 n2 H4 (n2+1):=⟨f3.le,λid hid=>(s4 id (by omega)).trans (f3.same id hid)⟩
  rw[DK,AU]
  refine AB (AX (off:=0) g4 (v:=f.nm.v) rfl) ?_
  refine AB (show Dw (.one .str) false f.nm.v s.v=some (.bool (decide (f.nm.1=s.1/\f.nm.2=s.2)))from ACl ..) ?_
  by_cases e:f.nm=s
  ·rw[show decide (f.nm.1=s.1/\f.nm.2=s.2)=true by rw[e];simp,A8,AY,AU]
   refine AB (Dz (off:=0+1) (m:=2) g4 (by omega) (by show 0+1+2<=3;omega)) ?_
   have g1':=f24.get (f2.get g1 (by omega)) (by omega)
   refine Bf g1' rfl rfl (by omega) λH5 g5 s5=>?_
   rw[BU (m:=2) g5 (by omega) rfl]
   simp only[go_sem]
   have:=hk H5 (n2+1) ⟨by omega,λid hid=>(s5 id (by omega)).trans ((f24.same id (by omega)).trans ((f2.same id (by omega)).trans (f1.same id hid)))⟩
   rw[q1 e]at this
   exact this
  ·rw[show decide (f.nm.1=s.1/\f.nm.2=s.2)=false from decide_eq_false λh=>e (Prod.ext h.1 h.2),Ak,GV (by omega),AU]
   exact ih _ ⟨H4,n2+1,rfl,f2.trans f24,q2 e⟩
 ·rintro I q ⟨H2,n2,rfl,f2,hnone⟩
  show Ie lfp G (Runs F G) k I s.v (.ptr n 0) vv (.int .i64 (.ofNat Γ.length) 0) (.int .i64 (.ofNat Γ.length) 0) H2 n2
  delta Ie
  rw[FM,AU,decide_eq_false (Nat.lt_irrefl _),Ak]
  delta P8
  refine AB (v:=tyN.v) rfl ?_
  have hn2:=f2.le
  refine Bf (f2.get g1 (by omega)) rfl rfl (by omega) λH5 g5 s5=>?_
  rw[BU (m:=2) g5 (by omega) rfl]
  simp only[go_sem]
  rw[List.take_of_length_le (Nat.le_refl _)]at hnone
  have:=hk H5 n2 ⟨by omega,λid hid=>(s5 id (by omega)).trans ((f2.same id (by omega)).trans (f1.same id hid))⟩
  rw[hnone]at this
  exact this
end
def ALj(G:AV)(K:Kq)(M:Km)(Γ:List ER)(e:Te):Prop:=∀(H:Heap) (n:Nat) (A:Nat->Prop) (l:LV) (e':Te) (vv:V) (all:Nat) (k:KV),XC G H n K M vv all Γ->jE G H A l e->(∀id,A id->id<n/\id≠K.b)->ckE (K.x M) Γ e=some e'->
 (∀H' n' l',Kb K.b H n H' n'->jE G H' (Rg n n') l' e'->k (.agg l') H' n')->Runs F G Qu [.ptr K.kb 0,.agg l] H n k
structure Kbc(b c:Nat)(H:Heap)(n:Nat)(H':Heap)(n':Nat):Prop where
 le:n<=n'
 same:∀id,id<n->id≠b->id≠c->T.get H' id=T.get H id
 seen:Lj H b->Lj H' b
theorem Kbc.trans{b c:Nat}{H H' H'':Heap}{n n' n'':Nat}(x:Kbc b c H n H' n')(y:Kbc b c H' n' H'' n''):Kbc b c H n H'' n'':=
 ⟨Nat.le_trans x.le y.le,λid h hb hc=>(y.same id (Nat.lt_of_lt_of_le h x.le) hb hc).trans (x.same id h hb hc),λh=>y.seen (x.seen h)⟩
theorem Kb.bc{b:Nat}{H H':Heap}{n n':Nat}(c:Nat)(x:Kb b H n H' n'):Kbc b c H n H' n':=⟨x.le,λid h hb _=>x.same id h hb,x.seen⟩
theorem Kbc.low{b c m:Nat}{H H':Heap}{n n':Nat}(x:Kbc b c H n H' n')(hm:m<=c)(hn:m<=n):Kb b H m H' n':=⟨Nat.le_trans hn x.le,λid h hb=>x.same id (Nat.lt_of_lt_of_le h hn) hb (by omega),x.seen⟩
theorem Kbc.box{b c:Nat}{H H':Heap}{n:Nat}(hb:b≠c)(h:∀id,id≠c->T.get H' id=T.get H id):Kbc b c H n H' n:=⟨Nat.le_refl _,λid _ _ hc=>h id hc,λhs=>hs.same (h b hb)⟩
theorem set_mid{α:Type}{ds cs:List α}{j:Nat}{a x:α}(hl:ds.length=j)(h:cs[j]? =some a):(ds++cs.drop j).set j x=(ds++[x])++cs.drop (j+1):=by
 obtain⟨hlt,_⟩:=List.getElem?_eq_some_iff.1 h
 subst hl
 have e:(cs.drop ds.length).set 0 x=x::cs.drop (ds.length+1):=by rw[List.drop_eq_getElem_cons hlt];rfl
 rw[List.set_append,if_neg (by omega),Nat.sub_self,e,List.append_assoc];rfl
theorem AJq{α:Type}{ds cs:List α}{j:Nat}(hl:ds.length=j):(ds++cs.drop j)[j]? =cs[j]? :=by
 subst hl
 rw[List.getElem?_append_right (by omega),Nat.sub_self,List.getElem?_drop,Nat.add_zero]
section
variable{G:AV}{H:Heap}{n m c:Nat}{K:Kq}{M:Km}{vv:V}{all:Nat}{Γ:List ER}{k:KV}{A:Nat->Prop}
theorem AYX{kind num:Nat}{nm:St}{ty of:Ty}{own:St}{line col:Nat}{v:V}{es es':List Te}(o:Ry G K)(hX:∀e∈es,ALj G K M Γ e)(h:XC G H m K M vv all Γ)(hmc:m<=c)(hcn:c<n)
 (hA:∀id,A id->id<m/\id≠K.b) (gc:T.get H c=some (one (Zv kind num nm ty of own line col v))) (he:Ob G H A v es) (hln:es.length<=10000) (hck:ckL (K.x M) Γ es=some es')
 (hk:∀H' n' v',Kbc K.b c H n H' n'->T.get H' c=some (one (Zv kind num nm ty of own line col v'))->Ob G H' (Rg n n') v' es'->k (.bool true) H' n'):Runs F G XO [.ptr K.kb 0,.ptr c 0] H n k:=by
 refine go2 (mP Aq G) ?_
 delta XQ
 have hkn:=h.kn
 have hbm:=h.bn o
 obtain⟨cs,e1,-,-,-,e5,hts⟩:=he
 have hcl:=hts.len
 rw[Bz,AU,AY,AU]
 refine AB (AX (off:=0+7) gc (v:=v) rfl) ?_
 refine AC7 e1 (λid hid=>by have:=hA id (e5 id hid);omega) (by omega) λv' H1 n1 f1 sk=>?_
 have hn1:=f1.le
 rw[AU,AY,AU]
 refine UE (off:=0+7) (m:=1) (v:=v') (f1.get gc hcn) sk.ok.1 (by rw[sk.ok.2.1];rfl) (by omega) (by show 0+7+1<=11;omega) λH2 g2 s2=>?_
 rw[sk.ok.2.1]at g2
 have f2:Kbc K.b c H n H2 n1:=(f1.kb (b:=K.b) (by omega)).bc c |>.trans (.box (by omega) s2)
 have sk2:Sk H2 11 (λid=>n<=id/\id<n1) v' cs:=sk.mono (λ_ h=>h) λid h=>s2 id (by omega)
 rw[AU,AY,AU]
 have q2:∀{H':Heap},T.get H' c=some (one (Zv kind num nm ty of own line col v'))->Aa (.ptr c (0+7)) G H'=some v':=λg=>AX (off:=0+7) g rfl
 refine AB (q2 g2) ?_
 have hlen:=(sk2.el (G:=G) (by omega)).len
 rw[hcl]at hlen
 refine AB hlen ?_
 have hel:=AAq hck
 refine CG (N:=es.length) (J:=λj q=>∃H' n' ds,q=(.ptr K.kb 0,.ptr c 0,v',.int .i64 (.ofNat es.length) 0,.int .i64 (.ofNat j) 0,H',n')/\Kbc K.b c H n H' n'/\n1<=n'/\T.get H' c=some (one (Zv kind num nm ty of own line col v'))/\
  Sk H' 11 (λid=>n<=id/\id<n1) v' (ds++cs.drop j)/\G9 G H' (λid=>n<=id/\id<n'/\v'.Dl≠some id) ds (es'.take j)/\ds.length=j) ?_ ?_ ⟨H2,n1,[],rfl,f2,Nat.le_refl _,g2,sk2,.nil,rfl⟩
 ·rintro I j q hlt ⟨H3,n3,ds,rfl,f3,hn3,g3,sk3,hds,hdl⟩ ih
  show F9 lfp G (Runs F G) k I (.ptr K.kb 0) (.ptr c 0) v' (.int .i64 (.ofNat es.length) 0) (.int .i64 (.ofNat j) 0) H3 n3
  delta F9
  have hts3:=G9.mono (H':=H3) (λ_ h=>h) (λid hid=>f3.same id (by have:=hA id hid;omega) (hA id hid).2 (by have:=hA id hid;omega)) hts
  have hget:=List.getElem?_eq_getElem hlt
  obtain⟨l,hl,het⟩:=hts3.at hget
  obtain⟨e',he',hce⟩:=AML hck hget
  have hX1:=hX _ (List.getElem_mem hlt)
  generalize es[j]=e at het hce hX1
  obtain⟨p,hpp,hld⟩:=(sk3.el (G:=G) (by omega)).at (i:=j) (c:=l) (by rw[AJq hdl];exact hl)
  rw[FM,AU,decide_eq_true hlt,A8]
  refine AB hpp (AB (EM hld) ?_)
  refine Ar rfl λH4 f4 g4=>?_
  refine Bf g4 rfl het.len (by omega) λH5 g5 s5=>?_
  have f35:Kp H3 n3 H5 (n3+1):=⟨f4.le,λid hid=>(s5 id (by omega)).trans (f4.same id hid)⟩
  rw[Bz,AU,AY,AU]
  refine AB (q2 (f35.get g3 (by omega))) (AB (Aw (m:=11) g5 (by omega) het.len) ?_)
  have f05:Kbc K.b c H n H5 (n3+1):=f3.trans ((f35.kb (b:=K.b) (by omega)).bc c)
  have h5:=h.kb o (f05.low hmc (by omega))
  have het5:jE G H5 A l e:=het.mono (λ_ h=>h) λid hid=>f35.same id (by have:=hA id hid;omega)
  refine hX1 H5 (n3+1) A l e' vv all _ h5 het5 (λid hid=>by have:=hA id hid;exact⟨by omega,this.2⟩) hce λH6 n6 l' f6 het6=>?_
  have hn6:=f6.le
  have g6:T.get H6 c=_:=f6.get (f35.get g3 (by omega)) (by omega) (by omega)
  refine AB (q2 g6) (CX sk.ok.2.2 ?_)
  have f36:Kb K.b H3 n3 H6 n6:=(f35.kb (b:=K.b) (by omega)).trans f6
  have sk6:Sk H6 11 (λid=>n<=id/\id<n1) v' (ds++cs.drop j):=sk3.mono (λ_ h=>h) λid h=>f36.same id (by omega) (by omega)
  have hlj:j<(ds++cs.drop j).length:=by rw[List.length_append,List.length_drop];omega
  refine sk6.put (i:=j) (w:=.agg l') (by omega) hlj rfl het6.len λH7 sk7 s7=>?_
  rw[show BA (.agg l')=l' from rfl,set_mid hdl hl]at sk7
  rw[GV (by omega),AU]
  have vne:∀id,id<n∨n1<=id->v'.Dl≠some id:=λid h e=>by have:=sk.own e;omega
  refine ih _ ⟨H7,n6,ds++[l'],rfl,?_,by omega,(s7 c (vne c (.inl hcn))).trans g6,sk7,?_,by rw[List.length_append,hdl];rfl⟩
  ·exact⟨by have:=f3.le;omega,λid h1 h2 h3=>(s7 id (vne id (.inl h1))).trans ((f36.same id (by have:=f3.le;omega) h2).trans (f3.same id h1 h2 h3)),λhs=>(f36.seen (f3.seen hs)).same (s7 _ (vne _ (.inl (by omega))))⟩
  ·rw[take_snoc he']
   refine(G9.mono (λid hid=>⟨hid.1,by omega,hid.2.2⟩) (λid hid=>(s7 id hid.2.2).trans (f36.same id hid.2.1 (by omega))) hds).app (.cons (het6.mono (λid hid=>⟨by have:=hid.1;omega,hid.2,vne id (.inr (by have:=hid.1;omega))⟩) λid hid=>s7 id (vne id (.inr (by have:=hid.1;omega)))) .nil)
 ·rintro I q ⟨H3,n3,ds,rfl,f3,hn3,g3,sk3,hds,hdl⟩
  show F9 lfp G (Runs F G) k I (.ptr K.kb 0) (.ptr c 0) v' (.int .i64 (.ofNat es.length) 0) (.int .i64 (.ofNat es.length) 0) H3 n3
  delta F9
  rw[FM,AU,decide_eq_false (Nat.lt_irrefl _),Ak]
  delta OX
  have h3:=h.kb o (f3.low hmc (by omega))
  rw[Bz,AU,AY,AU,DK,AU]
  refine AB (AX (off:=0+17) h3.g rfl) ?_
  refine AB (Dy ..) ?_
  rw[List.drop_eq_nil_of_le (by omega),List.append_nil]at sk3
  rw[List.take_of_length_le (by omega)]at hds
  refine hk H3 n3 v' f3 g3 ⟨ds,sk3.el (by omega),sk3.ks,sk3.ok.1,sk3.ok.2.1,λid hid=>by have:=sk3.own hid;exact⟨this.1,by omega⟩,G9.mono (λid hid=>⟨hid.1,hid.2.1⟩) (λ_ _=>rfl) hds⟩
end
structure Kid(G:AV)(v:V)(cs:CJ)(i:Nat)(l:LV)(p q1 q8 q9:V):Prop where
 ip:BJ 11 v (.int .i64 (.ofNat i) 0)=some p
 i1:AQ 1 p=some q1
 i8:AQ 8 p=some q8
 i9:AQ 1 q8=some q9
 ld:∀H',El G H' v 11 cs->Ah 11 p G H'=some (.agg l)/\Ah 2 q1 G H'=some (.agg ((l.drop 1).take 2))/\Ah 2 q8 G H'=some (.agg ((l.drop 8).take 2))/\∀x,l[9]? =some x->Aa q9 G H'=some x
theorem kW{G:AV}(hG:ACs G){H:Heap}{v:V}{cs:CJ}{i:Nat}{l:LV}(h:El G H v 11 cs)(hi:cs[i]? =some l)(hl:l.length=11):∃p q1 q8 q9,Kid G v cs i l p q1 q8 q9:=by
 obtain⟨p,hp,hld⟩:=h.at hi
 obtain⟨q1,h1,_⟩:=vP hG hld hl (o:=1) (m:=2) (by omega) (by omega)
 obtain⟨q8,h8,hl8⟩:=vP hG hld hl (o:=8) (m:=2) (by omega) (by omega)
 have hln:((l.drop 8).take 2).length=2:=by rw[List.length_take,List.length_drop];omega
 obtain⟨q9,h9,_⟩:=vP hG hl8 hln (o:=1) (m:=1) (by omega) (by omega)
 refine⟨p,q1,q8,q9,hp,h1,h8,h9,λH' h'=>?_⟩
 obtain⟨p',hp',hld'⟩:=h'.at hi
 rw[hp]at hp';cases hp'
 obtain⟨r1,e1,g1⟩:=vP hG hld' hl (o:=1) (m:=2) (by omega) (by omega)
 rw[h1]at e1;cases e1
 obtain⟨r8,e8,g8⟩:=vP hG hld' hl (o:=8) (m:=2) (by omega) (by omega)
 rw[h8]at e8;cases e8
 refine⟨EM hld',EM g1,EM g8,λx hx=>?_⟩
 obtain⟨r9,e9,g9⟩:=pR hG g8 hln (o:=1) (x:=x) (by rw[List.getElem?_take,if_pos (by omega),List.getElem?_drop];exact hx)
 rw[h9]at e9;cases e9
 exact g9
theorem AVK{z b o ln c e l:Nat}(h1:l<=ln)(h2:ln<=c):ADx z (.rsl b o ln c e) E0 (some (.c (.int .i64 (.ofNat l) 0))) none none=some (.rsl b (o+l*z) (ln-l) (c-l) e):=by
 show BF (band (Nat.ble l ln) (Nat.ble ln c)) (CW (o+l*z) λa=>CW (ln-l) λb'=>CW (c-l) λc'=>some (.rsl b a b' c' e))=_
 rw[show Nat.ble l ln=true by rw[Nat.ble_eq];exact h1,show Nat.ble ln c=true by rw[Nat.ble_eq];exact h2,BP,BP,BP];rfl
theorem ART{G:AV}{H:Heap}{b o n c z e l c' e':Nat}{LS:CJ}(h:El G H (.rsl b o n c e) z LS):El G H (.rsl b (o+l*z) (n-l) c' e') z (LS.drop l):=by
 obtain⟨h1,h2⟩:=Zf _ _ (show dM G b z n o=some LS from h.2)
 rw[show n-l=(LS.drop l).length by simp[h1]]
 refine AYt λi L hi=>?_
 rw[List.getElem?_drop]at hi
 have:=h2 _ _ hi
 rwa [Nat.add_mul,<-Nat.add_assoc]at this
theorem El.tail{G:AV}{H:Heap}{v:V}{z:Nat}{c:LV}{cs:CJ}(h:El G H v z (c::cs))(hk:KS v):∃w,ADx z v E0 (some (.c (.int .i64 (.ofNat 1) 0))) none none=some w/\El G H w z cs/\w.Dl=v.Dl:=by
 obtain⟨h1,h2⟩:=h
 cases v<;>try (cases h2;done)
 ·cases h1
 ·rename_i id off m cp e
  have hle:=hk.2.1 _ _ _ _ _ rfl
  cases hb:Nat.beq e z with
  |false=>have h':(Bool.rec (motive:=λ_=>Option CJ) none (BZ H id z m off) (Nat.beq e z):Option CJ)=some (c::cs):=h2;rw[hb]at h';cases h'
  |true=>
   have h':(Bool.rec (motive:=λ_=>Option CJ) none (BZ H id z m off) (Nat.beq e z):Option CJ)=some (c::cs):=h2
   rw[hb]at h'
   have h':BZ H id z m off=some (c::cs):=h'
   obtain⟨hl,hat⟩:=Kr _ _ h'
   have hez:e=z:=by simpa using hb
   subst hez
   rw[List.length_cons]at hl
   refine⟨.sl id (off+1) (m-1) (cp-1) e,?_,⟨rfl,?_⟩,rfl⟩
   ·show BF (Nat.beq e e) (BF (band (Nat.ble 1 m) (band (Nat.ble m cp) (Nat.ble cp cp))) (f3 (off+1) (m-1) (cp-1) λo d c=>.sl id o d c e))=_
    rw[CQ,show Nat.ble 1 m=true by rw[Nat.ble_eq];omega,show Nat.ble m cp=true by rw[Nat.ble_eq];exact hle,show Nat.ble cp cp=true by rw[Nat.ble_eq];exact Nat.le_refl _]
    show CW (off+1) (λa=>CW (m-1) λb=>CW (cp-1) λc=>some (.sl id a b c e))=_
    rw[BP,BP,BP]
   ·show(Bool.rec (motive:=λ_=>Option CJ) none (BZ H id e (m-1) (off+1)) (Nat.beq e e):Option CJ)=some cs
    rw[CQ]
    exact WY _ _ _ (by omega) λi x hx=>by
     have:=hat (i+1) x (by simpa using hx)
     rwa [show off+(i+1)=off+1+i by omega]at this
 ·rename_i id off m e
  cases hb:Nat.beq e z with
  |false=>have h':(Bool.rec (motive:=λ_=>Option CJ) none (BZ H id z m off) (Nat.beq e z):Option CJ)=some (c::cs):=h2;rw[hb]at h';cases h'
  |true=>
   have h':(Bool.rec (motive:=λ_=>Option CJ) none (BZ H id z m off) (Nat.beq e z):Option CJ)=some (c::cs):=h2
   rw[hb]at h'
   have h':BZ H id z m off=some (c::cs):=h'
   obtain⟨hl,hat⟩:=Kr _ _ h'
   have hez:e=z:=by simpa using hb
   subst hez
   rw[List.length_cons]at hl
   refine⟨.G6 id (off+1) (m-1) e,?_,⟨rfl,?_⟩,rfl⟩
   ·show BF (Nat.beq e e) (BF (band (Nat.ble 1 m) (Nat.ble m m)) (f3 (off+1) (m-1) 0 λo d _=>.G6 id o d e))=_
    rw[CQ,show Nat.ble 1 m=true by rw[Nat.ble_eq];omega,show Nat.ble m m=true by rw[Nat.ble_eq];exact Nat.le_refl _]
    show CW (off+1) (λa=>CW (m-1) λb=>CW 0 λ_=>some (.G6 id a b e))=_
    rw[BP,BP,BP]
   ·show(Bool.rec (motive:=λ_=>Option CJ) none (BZ H id e (m-1) (off+1)) (Nat.beq e e):Option CJ)=some cs
    rw[CQ]
    exact WY _ _ _ (by omega) λi x hx=>by
     have:=hat (i+1) x (by simpa using hx)
     rwa [show off+(i+1)=off+1+i by omega]at this
 ·rename_i b o m cp e
  have hle:=hk.2.2 _ _ _ _ _ rfl
  obtain⟨hl,_⟩:=Zf _ _ (show dM G b z m o=some (c::cs)from h2)
  rw[List.length_cons]at hl
  exact⟨.rsl b (o+1*z) (m-1) (cp-1) e,AVK (l:=1) (by omega) hle,ART (l:=1) (LS:=c::cs) ⟨h1,h2⟩,rfl⟩
theorem AFT{tb:Tab}:∀{gs ps:List Ty},AGi tb gs ps=true->gs.length=ps.length
 |[],[],_=>rfl
 |[],_::_,h=>by cases h
 |_::_,[],h=>by cases h
 |a::l,p::ps,h=>by
  have h:(fitsT tb a p&&AGi tb l ps)=true:=h
  rw[Bool.and_eq_true]at h
  rw[List.length_cons,List.length_cons,AFT h.2]
theorem AOP{tb:Tab}:∀{gs ps:List Ty},AGi tb gs ps=true->∀{i:Nat} {a p:Ty},gs[i]? =some a->ps[i]? =some p->fitsT tb a p=true
 |[],_,_,i,a,p,ha,_=>by simp at ha
 |_::_,[],h,_,_,_,_,_=>by cases h
 |a::l,q::ps,h,i,b,p,ha,hp=>by
  have h:(fitsT tb a q&&AGi tb l ps)=true:=h
  rw[Bool.and_eq_true]at h
  cases i with
  |zero=>cases ha;cases hp;exact h.1
  |succ i=>exact AOP h.2 (i:=i) ha hp
section
variable{G:AV}{H:Heap}{n:Nat}{K:Kq}{M:Km}{vv:V}{all:Nat}{Γ:List ER}{k:KV}{B:Nat->Prop}
theorem AYq{kind num:Nat}{nm:St}{ty of:Ty}{own:St}{line col:Nat}{v w u:V}{cs:CJ}{es:List Te}{m:FN}(o:Ry G K)(h:XC G H n K M vv all Γ)(hw:El G H w 11 cs)(hwo:∀id,w.Dl=some id->id<n/\id≠K.b)
 (hts:G9 G H B cs es) (hB:∀id,B id->id<n/\id≠K.b) (hok:∀e∈es,e.of.nm.ok) (hu:Y8 G H n u m.ps) (hfit:AGi K.tb (es.map Te.of) m.ps=true) (hln:es.length<=10000)
 (hk:∀H' n',Kb K.b H n H' n'->k (.EI []) H' n'):
 Runs F G XE [.ptr K.kb 0,.agg (Zv kind num nm ty of own line col v),w,.agg (m.cells u)] H n k:=by
 refine go4 (nC Aq G) ?_
 delta Xg
 have hcl:=hts.len
 have hpl:=AFT hfit
 rw[List.length_map]at hpl
 have hkn:=h.kn
 have hbn:=h.bn o
 refine Ei λH1 f1 g1=>?_
 refine Ei λH2 f2 g2=>?_
 have f12:=f1.trans f2
 have g1:=f2.get g1 (by omega)
 have hw2:=hw.same (H':=H2) λid hid=>f12.same id (hwo id hid).1
 have hlen:=hw2.len
 rw[hcl]at hlen
 refine AB hlen ?_
 rw[AY,AU]
 refine AB (AX (off:=0+2) g2 (v:=u) rfl) ?_
 have hu2:=hu.kp f12
 have hul:=hu2.el.len
 rw[AEN,<-hpl]at hul
 refine AB hul (AB (Dy ..) ?_)
 rw[decide_eq_true rfl,AY,AU]
 refine AB (Dz (off:=0+1) (m:=2) g1 (by omega) (by show 0+1+2<=11;omega)) ?_
 refine O9 (K:=K) (f12.get h.g hkn) (by omega) λH3 f3=>?_
 rw[Du,AU]
 show Ac (.bool false) true _ _
 rw[Ak]
 have f13:=f12.trans f3
 have hlen3:=(hw.same (H':=H3) λid hid=>f13.same id (hwo id hid).1).len
 rw[hcl]at hlen3
 refine AB hlen3 ?_
 have g3:=f3.get g2 (by omega)
 refine CG (N:=es.length) (J:=λj q=>∃H' n',q=(.ptr K.kb 0,.ptr (n+1) 0,w,.int .i64 (.ofNat es.length) 0,.int .i64 (.ofNat j) 0,H',n')/\Kb K.b H n H' n'/\n+2<=n'/\T.get H' (n+1)=some (one (m.cells u))) ?_ ?_
  ⟨H3,n+1+1+1,rfl,f13.kb hbn,by omega,g3⟩
 ·rintro I j q hlt ⟨H4,n4,rfl,f4,hn4,g4⟩ ih
  show Fj lfp G (Runs F G) k I (.ptr K.kb 0) (.ptr (n+1) 0) w (.int .i64 (.ofNat es.length) 0) (.int .i64 (.ofNat j) 0) H4 n4
  delta Fj
  have hget:=List.getElem?_eq_getElem hlt
  have htys:=AOP hfit (i:=j) (a:=es[j].of) (p:=m.ps[j]'(by omega)) (by rw[List.getElem?_map,hget];rfl) (List.getElem?_eq_getElem (by omega))
  have AKD:=hok _ (List.getElem_mem hlt)
  have hokp:=hu.ok _ (List.getElem_mem (show j<m.ps.length by omega))
  have htat:(tys m.ps)[j]? =some (m.ps[j]'(by omega)).cells:=AJT (by omega)
  obtain⟨l,hl,het⟩:=(G9.mono (H':=H4) (λ_ h=>h) (λid hid=>f4.same id (hB id hid).1 (hB id hid).2) hts).at hget
  obtain⟨p,hpp,hld⟩:=(hw.same (H':=H4) λid hid=>f4.same id (hwo id hid).1 (hwo id hid).2).at hl
  generalize es[j]=e at het htys AKD
  generalize m.ps[j]'(by omega)=t at htys hokp htat
  rw[FM,AU,decide_eq_true hlt,A8]
  refine AB hpp (AB (EM hld) ?_)
  refine Ar rfl λH5 f5 g5=>?_
  refine Bf g5 rfl het.len (by omega) λH6 g6 s6=>?_
  have f46:Kp H4 n4 H6 (n4+1):=⟨f5.le,λid hid=>(s6 id (by omega)).trans (f5.same id hid)⟩
  have f6:Kb K.b H n H6 (n4+1):=f4.trans (f46.kb (by omega))
  have h6:=h.kb o f6
  rw[Bz,AU,DK,AU]
  refine AB (AX (off:=0) h6.g (v:=.ptr K.t 0) rfl) ?_
  cases het with
  |mk kind' num' nm' ty' of' own' line' col' hev hvk hva hvc=>
   rename_i v' cs' kids'
   have htys:fitsT K.tb of' t=true:=htys
   have AKD:of'.nm.ok:=AKD
   have qpos:∀{H':Heap},T.get H' n4=some (one (Zv kind' num' nm' ty' of' own' line' col' v'))->Ah 2 (.ptr n4 (0+1)) G H'=some (.agg [.int .i64 (.ofNat line') 0,.int .i64 (.ofNat col') 0]):=λg=>Dz (off:=0+1) (m:=2) g (by omega) (by show 0+1+2<=11;omega)
   rw[AY,AU]
   refine AB (Dz (off:=0+8) (m:=2) g6 (by omega) (by show 0+8+2<=11;omega)) ?_
   rw[AY,AU]
   refine AB (AX (off:=0+2) (f46.get g4 (by omega)) (v:=u) rfl) ?_
   have hu6:=hu.ke (f6.ke h.tab.seen)
   obtain⟨pt,hpt,hldt⟩:=hu6.el.at htat
   refine AB hpt (AB (EM hldt) ?_)
   rw[AY,AU]
   refine AB (qpos g6) ?_
   refine AMa (x:=of') (y:=t) h6.tab (by have:=h6.kn;have:=o.n0;omega) o.tl AKD hokp λH7 n7 f7=>?_
   rw[htys]
   have hn7:=f7.le
   have g7:=f7.get g6 (by omega) (by omega)
   refine AB (qpos g7) (CX (by exact dF (L:=[.int .i64 (.ofNat line') 0,.int .i64 (.ofNat col') 0]) λv hv=>by simp at hv;rcases hv with rfl|rfl<;>exact Xv ..) ?_)
   have h7:=h6.kb o f7
   refine O9 (K:=K) h7.g h7.kn λH8 f8=>?_
   rw[GV (by omega),AU]
   have f78:Kb K.b H6 (n4+1) H8 (n7+1):=f7.trans (f8.kb (by omega))
   exact ih _ ⟨H8,n7+1,rfl,f6.trans f78,by omega,f78.get (f46.get g4 (by omega)) (by omega) (by omega)⟩
 ·rintro I q ⟨H4,n4,rfl,f4,hn4,g4⟩
  show Fj lfp G (Runs F G) k I (.ptr K.kb 0) (.ptr (n+1) 0) w (.int .i64 (.ofNat es.length) 0) (.int .i64 (.ofNat es.length) 0) H4 n4
  delta Fj
  rw[FM,AU,decide_eq_false (Nat.lt_irrefl _),Ak]
  exact hk H4 n4 f4
end
theorem ATi{G:AV}{H:Heap}{n n0 t a b:Nat}{fs:Tab}(h0:TabAt G H n0 t a b fs)(hn0:n0<=n)(hfs:fs.length<=1000){c s:St}{st:Bool}{k:KV}
 (hk:∀H' n' w,Kb b H n H' n'->uG G H' n0 w ((Xr fs c s st).getD ((0,0),WR)).2->k (.EI [((Xr fs c s st).getD ((0,0),WR)).1.v,w,.bool (Xr fs c s st).isSome]) H' n'):
 Runs F G Nv [.ptr t 0,c.v,s.v,.bool st] H n k:=by
 refine go4 (XF Aq G) ?_
 delta Rq
 have h:=h0.up hn0
 have hbn:=h.bn
 unfold Xr at hk
 refine Ar rfl λH1 f1 g1=>?_
 have f1:=f1.kb (b:=b) hbn
 refine ABl (h.kb f1) hfs λH2 n2 v f2 ho hlen=>?_
 generalize(above fs c).1=cs at ho hk hlen
 have f3:=f1.trans f2
 have g2:=f2.get g1 (by omega) (by omega)
 have h2n:=f2.le
 simp only[go_sem,(ho.el (by omega)).len,iL]
 refine CG (N:=cs.length) (J:=λi q=>∃H' n',q=(.ptr t 0,s.v,.bool st,.ptr n 0,v,.int .i64 (.ofNat cs.length) 0,.int .i64 (.ofNat i) 0,H',n')/\Kb b H n H' n'/\n<n'/\Own G H' (n+1) n' 1 v (strs cs)/\T.get H' n=some (one (WR.cells .Af))/\
  (∀H' n' w,Kb b H n H' n'->uG G H' n0 w ((Pm fs s st (cs.drop i)).getD ((0,0),WR)).2->k (.EI [((Pm fs s st (cs.drop i)).getD ((0,0),WR)).1.v,w,.bool (Pm fs s st (cs.drop i)).isSome]) H' n')) ?_ ?_ ⟨H2,n2,rfl,f3,by omega,ho,g2,hk⟩
 ·rintro I i q hlt ⟨H3,n3,rfl,f3,hn3,ho,g3,hk⟩ ih
  show DV lfp G (Runs F G) k I (.ptr t 0) s.v (.bool st) (.ptr n 0) v (.int .i64 (.ofNat cs.length) 0) (.int .i64 (.ofNat i) 0) H3 n3
  delta DV
  obtain⟨q,hp,hld⟩:=(ho.el (by omega)).at (ABy hlt)
  rw[List.drop_eq_getElem_cons hlt]at hk
  unfold Pm at hk
  generalize cs[i]=m at hld hk
  simp only[go_sem,FP,hlt,decide_true,hp,Zz hld]
  refine rZ (s:=m) (n0:=n0) (h0.kb (f3.low hn0)) (by omega) λH4 n4 w f4 hw=>?_
  obtain⟨vf,vm,ws,hw,rfl⟩:=hw
  have f5:=f3.trans f4
  have h5n:=f4.le
  simp only[go_sem,Nat.reduceAdd]
  rw[T.set_set]
  refine run_set λH6 f6 g6=>?_
  have f6':=f6.kb (b:=b) (by omega)
  have f7:=f5.trans f6'
  refine ABq (s:=s) (n:=n4+1) (n0:=n0) (v:=.agg [((JV fs m).getD GU).nm.v,((JV fs m).getD GU).sup.v,vf,vm]) (c:=(JV fs m).getD GU) ⟨vf,vm,ws,hw.ke ((f6.ke).low (by omega)),rfl⟩ (by omega) λH8 n8 w f8 hw=>?_
  have f8':=f8.kb (b:=b) (by omega)
  have f9:=f7.trans f8'
  have h9n:=f8.le
  have f10:=f4.trans (f6'.trans f8')
  have ho:=ho.kb f10 (by omega)
  have g10:=f10.get g3 hn3 (by omega)
  obtain⟨x,rfl,hx⟩:=hw
  unfold AHS at hk
  have g11:T.get (T.set H8 n8 (one (((WC s ((JV fs m).getD GU).ms).getD WR).cells x))) n8=_:=T.Au ..
  have g12:T.get (T.set H8 n8 (one (((WC s ((JV fs m).getD GU).ms).getD WR).cells x))) n=_:=(T.Ad _ _ (by omega)).trans g10
  unfold FN.cells at g11 g12⊢
  simp only[go_sem,Nat.reduceAdd]
  rw[T.set_set]
  have no:(∀H' n' w,Kb b H n H' n'->uG G H' n0 w ((Pm fs s st (cs.drop (i+1))).getD ((0,0),WR)).2->k (.EI [((Pm fs s st (cs.drop (i+1))).getD ((0,0),WR)).1.v,w,.bool (Pm fs s st (cs.drop (i+1))).isSome]) H' n')->
   I (.ptr t 0,s.v,.bool st,.ptr n 0,v,.int .i64 (.ofNat cs.length) 0,.int .i64 (.ofNat (i+1)) 0,T.set H8 n8 (one (((WC s ((JV fs m).getD GU).ms).getD WR).cells x)),n8+1):=λhk=>by
   refine ih _ ⟨_,_,rfl,f9.trans' (m:=n8+1) (λid hid=>T.Ad _ _ (by omega)) (by omega) hbn,by omega,ho.kp ((Kp.refl _ _).new _ (Nat.le_refl _) (by omega)),(T.Ad _ _ (by omega)).trans g10,hk⟩
  unfold FN.cells at no
  cases h1:WC s ((JV fs m).getD GU).ms with
  |none=>
   rw[h1]at hk g11 g12 no
   simp only[Option.isSome_none,go_sem,Option.getD_none,GV (show i+1<9223372036854775808 by omega)]
   exact no hk
  |some o=>
   rw[h1]at hk g11 g12 no hx
   simp only[Option.getD_some]at g11 g12 no hx
   simp only[Option.isSome_some,go_sem,Option.getD_some,Nat.reduceAdd,AX (off:=1) g11 rfl,ASo]
   cases h2:o.st==st with
   |false=>
    simp only[h2,cond_false]at hk
    simp only[go_sem,GV (show i+1<9223372036854775808 by omega)]
    exact no hk
   |true=>
    simp only[h2,cond_true]at hk
    simp only[go_sem]
    rw[IY (m:=5) g12 (by omega) rfl rfl]
    rw[BU (m:=5) (T.Au ..) (by omega) rfl]
    simp only[go_sem]
    have f11:∀id,id<n->T.get (T.set (T.set H8 n8 (one [o.nm.v,.bool o.st,x,o.ret.nm.v,.bool o.ret.arr])) n (one [o.nm.v,.bool o.st,x,o.ret.nm.v,.bool o.ret.arr])) id=T.get H8 id:=λid hid=>by
     rw[T.Ad _ _ (by omega),T.Ad _ _ (by omega)]
    exact hk _ _ _ (f9.trans' (m:=n8+1) f11 (by omega) hbn) ⟨x,rfl,hx.ke ((Kp.ke (n:=n) (n':=n) ⟨Nat.le_refl _,f11⟩).low hn0)⟩
 ·rintro I q ⟨H3,n3,rfl,f3,hn3,ho,g3,hk⟩
  show DV lfp G (Runs F G) k I (.ptr t 0) s.v (.bool st) (.ptr n 0) v (.int .i64 (.ofNat cs.length) 0) (.int .i64 (.ofNat cs.length) 0) H3 n3
  delta DV
  rw[List.drop_eq_nil_of_le (Nat.le_refl _)]at hk
  simp only[go_sem,FP,Nat.lt_irrefl,decide_false]
  delta Jv
  simp only[rQ,AU]
  rw[IY (m:=5) g3 (by omega) rfl rfl,AED,BU (m:=5) (T.Au ..) (by omega) rfl]
  simp only[go_sem]
  refine hk _ _ _ (f3.trans' (m:=n3) (λid hid=>?_) (by omega) hbn) AMy
  rw[T.Ad _ _ (by omega)]
theorem Jf(a b:Nat):BH (.agg [.int .i64 (.ofNat a) 0,.int .i64 (.ofNat b) 0]) (.agg [.int .i64 (.ofNat a) 0,.int .i64 (.ofNat b) 0])=true:=
 dF λv hv=>by simp at hv;rcases hv with rfl|rfl<;>exact Xv ..
abbrev Y4(line col:Nat):V:=.agg [.int .i64 (.ofNat line) 0,.int .i64 (.ofNat col) 0]
structure Xb(G:AV)(H:Heap)(n m c:Nat)(K:Kq)(M:Km)(vv:V)(all:Nat)(Γ:List ER)(L:LV):Prop where
 ka:XC G H m K M vv all Γ
 mc:m<=c
 cn:c<n
 g:T.get H c=some (one L)
theorem Xb.kb{G:AV}{H H':Heap}{n n' m c:Nat}{K:Kq}{M:Km}{vv:V}{all:Nat}{Γ:List ER}{L:LV}(o:Ry G K)(h:Xb G H n m c K M vv all Γ L)(f:Kb K.b H n H' n'):Xb G H' n' m c K M vv all Γ L:=by
 have hb:=h.ka.bn o
 have:=h.mc;have:=h.cn
 exact⟨h.ka.kb o (f.low (by omega)),h.mc,Nat.lt_of_lt_of_le h.cn f.le,f.get h.g h.cn (by omega)⟩
theorem Xb.kp{G:AV}{H H':Heap}{n n' m c:Nat}{K:Kq}{M:Km}{vv:V}{all:Nat}{Γ:List ER}{L:LV}(o:Ry G K)(h:Xb G H n m c K M vv all Γ L)(f:Kp H n H' n'):Xb G H' n' m c K M vv all Γ L:=by
 have hb:=h.ka.bn o
 have:=h.mc;have:=h.cn
 exact h.kb o (f.kb (by omega))
theorem Xb.bn{G:AV}{H:Heap}{n m c:Nat}{K:Kq}{M:Km}{vv:V}{all:Nat}{Γ:List ER}{L:LV}(o:Ry G K)(h:Xb G H n m c K M vv all Γ L):K.b<c:=by
 have hb:=h.ka.bn o
 have:=h.mc;omega
theorem Xb.tab{G:AV}{H:Heap}{n m c:Nat}{K:Kq}{M:Km}{vv:V}{all:Nat}{Γ:List ER}{L:LV}(o:Ry G K)(h:Xb G H n m c K M vv all Γ L):TabAt G H n K.t K.a K.b K.tb:=
 h.ka.tab.up (by have:=h.ka.kn;have:=o.n0;have:=h.mc;have:=h.cn;omega)
theorem Xb.kn{G:AV}{H:Heap}{n m c:Nat}{K:Kq}{M:Km}{vv:V}{all:Nat}{Γ:List ER}{L:LV}(h:Xb G H n m c K M vv all Γ L):K.kb<c:=by
 have:=h.ka.kn;have:=h.mc;omega
theorem XC.lift{G:AV}{H:Heap}{n m:Nat}{K:Kq}{M:Km}{vv:V}{all:Nat}{Γ:List ER}(o:Ry G K)(h:XC G H m K M vv all Γ)(hn:m<=n):XC G H n K M vv all Γ:=h.kb o ⟨hn,λ_ _ _=>rfl,λh=>h⟩
section
variable{G:AV}{H:Heap}{n m c d:Nat}{K:Kq}{M:Km}{vv:V}{all:Nat}{Γ:List ER}{k:KV}{B:Nat->Prop}{kind num:Nat}{nm:St}{ty of t:Ty}{own ow:St}{line col:Nat}{v w:V}{C:Ty}
theorem ADF{H' H'':Heap}{n':Nat}(hbc:K.b≠c)(f:Kb K.b H n H' n')(s:∀id,id≠c->T.get H'' id=T.get H' id):Kbc K.b c H n H'' n':=(f.bc c).trans (.box hbc s)
theorem rJ{P:KV}(g:T.get H c=some (one (Zv kind num nm ty of own line col v)))(hk:∀H',(∀id,id≠c->T.get H' id=T.get H id)->T.get H' c=some (one (Zv kind num nm ty t own line col v))->P .undef H' n):
 Bd 2 (.ptr c (0+8)) t.v H n P:=
 UE (off:=0+8) (m:=2) (v:=t.v) g rfl rfl (by omega) (by show 0+8+2<=11;omega) λH' g' s'=>hk H' s' g'
theorem AON{P:KV}(g:T.get H c=some (one (Zv kind num nm ty of own line col v)))(hk:∀H',(∀id,id≠c->T.get H' id=T.get H id)->T.get H' c=some (one (Zv kind num nm ty of ow line col v))->P .undef H' n):
 Bd 1 (.ptr c (0+10)) ow.v H n P:=
 UE (off:=0+10) (m:=1) (v:=ow.v) g rfl rfl (by omega) (by show 0+10+1<=11;omega) λH' g' s'=>hk H' s' g'
theorem X5{H':Heap}(g:T.get H' c=some (one (Zv kind num nm ty of own line col v))):Ah 2 (.ptr c (0+1)) G H'=some (Y4 line col):=Dz (off:=0+1) (m:=2) g (by omega) (by show 0+1+2<=11;omega)
theorem AFY{P:KV}(o:Ry G K)(h:Xb G H n m c K M vv all Γ (Zv kind num nm ty of own line col v))(hC:C.nm.ok)(hkn:DR K.tb C=true)
 (hk:∀H' n',Kb K.b H n H' n'->P (.bool true) H' n'):
 CB (Aj 2 1 [.str 0 0,.bool false] [(0,.c C.v)] E0) H n λv14 H n=>
  AP (Ae (.ptr c 0)) λv15=>AP (AQ 1 v15) λv16=>AP (Ah 2 v16 G H) λv17=>Runs F G DF [.ptr K.t 0,v14] H n λv18 H n=>AP (Ah 2 v16 G H) λv=>EJ (BH v v17) <|
  Runs F G Ai [.ptr K.kb 0,v18,.int .i64 (.ofNat 23) 0,v17] H n P:=by
 have hbc:=h.bn o
 have hkc:=h.kn
 have hcn:=h.cn
 refine Ld (G:=G) (vs:=[C.v]) rfl (by omega) (λv hv=>by simp at hv;subst hv;exact⟨rfl,rfl⟩) λH1 f1 _ hel=>?_
 have h1:=h.kp o f1
 rw[Bz,AU,AY,AU]
 refine AB (X5 h1.g) ?_
 refine kK (xs:=[C]) (h1.tab o) ⟨hel,λid hid=>by cases hid;omega,by unfold big;exact(by decide:1<9223372036854775808),λt ht=>by rw[List.mem_singleton.1 ht];exact hC⟩ λH2 n2 f2=>?_
 have f12:Kb K.b H n H2 n2:=(f1.kb (by omega)).trans f2
 have h2:=h1.kb o f2
 rw[show[C].all (DR K.tb)=true by simp[hkn]]
 refine AB (X5 h2.g) (CX (Jf ..) ?_)
 refine O9 (K:=K) h2.ka.g (by have:=h2.cn;omega) λH3 f3=>?_
 exact hk H3 _ (f12.trans (f3.kb (by have:=f12.le;omega)))
theorem AOE{P:KV}{u:V}(o:Ry G K)(h:Xb G H n m c K M vv all Γ (Zv kind num nm ty of own line col v))(hu:Ah 2 u G H=some C.v)(hC:C.nm.ok)(hkn:DR K.tb C=true)
 (hk:∀H' n',Kb K.b H n H' n'->P (.bool true) H' n'):
 AP (Ae (.ptr K.kb 0)) λv10=>AP (AQ 0 v10) λv11=>AP (Aa v11 G H) λv12=>AP (Ah 2 u G H) λv13=>CB (Aj 2 1 [.str 0 0,.bool false] [(0,.c v13)] E0) H n λv14 H n=>
  AP (Ae (.ptr c 0)) λv15=>AP (AQ 1 v15) λv16=>AP (Ah 2 v16 G H) λv17=>Runs F G DF [v12,v14] H n λv18 H n=>AP (Ah 2 v16 G H) λv=>EJ (BH v v17) <|
  Runs F G Ai [.ptr K.kb 0,v18,.int .i64 (.ofNat 23) 0,v17] H n P:=by
 rw[Bz,AU,DK,AU]
 refine AB (AX (off:=0) h.ka.g (v:=.ptr K.t 0) rfl) ?_
 refine AB hu ?_
 exact AFY o h hC hkn hk
theorem Aa3(o:Ry G K)(h:Xb G H n m c K M vv all Γ (Zv 7 num nm ty of own line col v))(hcd:c<d)(hdn:d<n)(gd:T.get H d=some (one C.cells))(hC:C.nm.ok)(hkn:DR K.tb C=true)(hf:ACO K.tb C.nm nm=some (ow,t))
 (hk:∀H' n',Kbc K.b c H n H' n'->T.get H' c=some (one (Zv 7 num nm ty t ow line col v))->k (.EI []) H' n'):Dv lfp G (Runs F G) k (.ptr K.kb 0) (.ptr c 0) (.ptr d 0) w H n:=by
 delta Dv
 have hbc:=h.bn o
 have hkc:=h.kn
 refine AOE o h (Gp gd) hC hkn λH1 n1 f1=>?_
 have h1:=h.kb o f1
 have gd1:=f1.get gd hdn (by omega)
 have hn1:=f1.le
 rw[Du,AU]
 show Ac (.bool false) true _ _
 rw[Ak,Bz,AU,DK,AU]
 refine AB (AX (off:=0) h1.g (v:=.int .i64 (.ofNat 7) 0) rfl) (AB (Dy ..) ?_)
 rw[decide_eq_true rfl,A8,Bz,AU,DK,AU]
 refine AB (AX (off:=0) h1.ka.g (v:=.ptr K.t 0) rfl) ?_
 rw[DK,AU]
 refine AB (AX (off:=0) gd1 (v:=C.nm.v) rfl) ?_
 rw[AU,AY,AU]
 refine AB (AX (off:=0+4) h1.g (v:=nm.v) rfl) ?_
 refine Ar rfl λH2 f2 g2=>?_
 have h2:=h1.kp o f2
 refine AOy (c:=C.nm) (s:=nm) (h2.tab o) o.tl λH3 n3 f3=>?_
 rw[hf]
 have h3:=h2.kb o f3
 have hn3:=f3.le
 rw[ZF,AU,ZN,AU,ANn,AU]
 have g3:=f3.get g2 (by omega) (by omega)
 refine Bf g3 rfl rfl (by omega) λH4 g4 s4=>?_
 have f14:Kb K.b H1 n1 H4 n3:=((f2.kb (by omega)).trans f3).trans ⟨Nat.le_refl _,λ_ _ _=>rfl,λh=>h⟩ |> λx=>⟨x.le,λid a b=>(s4 id (by omega)).trans (x.same id a b),λhs=>(x.seen hs).same (s4 _ (by omega))⟩
 have h4:=h1.kb o f14
 rw[AU,AY,AU]
 refine AB (X5 h4.g) ?_
 refine O9 (K:=K) h4.ka.g (by omega) λH5 f5=>?_
 have h5:=h4.kp o f5
 have g5:=f5.get g4 (by omega)
 refine AB (Gp (t:=t) g5) ?_
 rw[AU,AY,AU]
 refine AON (ow:=ow) h5.g λH6 s6 g6=>?_
 refine AB (Gp (t:=t) ((s6 _ (by omega)).trans g5)) (CX (iK t) ?_)
 rw[AU,AY,AU]
 refine rJ (t:=t) g6 λH7 s7 g7=>?_
 exact hk H7 _ (ADF (by omega) (f1.trans (f14.trans (f5.kb (by omega)))) λid hne=>(s7 id hne).trans (s6 id hne)) g7
theorem ASp{cs:CJ}{es:List Te}{s:FN}(o:Ry G K)(h:Xb G H n m c K M vv all Γ (Zv kind num nm ty of own line col v))(h7:kind≠7)(hcd:c<d)(hdn:d<n)(gd:T.get H d=some (one C.cells))(hC:C.nm.ok)(hkn:DR K.tb C=true)
 (hw:El G H w 11 cs) (hwo:∀id,w.Dl=some id->id<n/\id≠c/\id≠K.b) (hts:G9 G H B cs es) (hB:∀id,B id->id<n/\id≠c/\id≠K.b) (hok:∀e∈es,e.of.nm.ok) (hln:es.length<=10000)
 (hm:Xr K.tb C.nm nm (decide (kind=9))=some (ow,s)) (hfit:AGi K.tb (es.map Te.of) s.ps=true)
 (hk:∀H' n',Kbc K.b c H n H' n'->T.get H' c=some (one (Zv kind num nm ty s.ret ow line col v))->k (.EI []) H' n'):Dv lfp G (Runs F G) k (.ptr K.kb 0) (.ptr c 0) (.ptr d 0) w H n:=by
 delta Dv
 have hbc:=h.bn o
 have hkc:=h.kn
 refine AOE o h (Gp gd) hC hkn λH1 n1 f1=>?_
 have h1:=h.kb o f1
 have gd1:=f1.get gd hdn (by omega)
 have hn1:=f1.le
 rw[Du,AU]
 show Ac (.bool false) true _ _
 rw[Ak,Bz,AU,DK,AU]
 refine AB (AX (off:=0) h1.g (v:=.int .i64 (.ofNat kind) 0) rfl) (AB (Dy ..) ?_)
 rw[decide_eq_false h7,Ak,Bz,AU,DK,AU]
 refine AB (AX (off:=0) h1.ka.g (v:=.ptr K.t 0) rfl) ?_
 rw[DK,AU]
 refine AB (AX (off:=0) gd1 (v:=C.nm.v) rfl) ?_
 rw[AU,AY,AU]
 refine AB (AX (off:=0+4) h1.g (v:=nm.v) rfl) ?_
 rw[AU,DK,AU]
 refine AB (AX (off:=0) h1.g (v:=.int .i64 (.ofNat kind) 0) rfl) (AB (Dy ..) ?_)
 refine Ar rfl λH2 f2 g2=>?_
 have h2:=h1.kp o f2
 refine ATi (c:=C.nm) (s:=nm) h2.ka.tab (by have:=h2.ka.kn;have:=o.n0;omega) o.tl λH3 n3 sv f3 hsv=>?_
 rw[hm]at hsv⊢
 obtain⟨u,rfl,hu⟩:=hsv
 have hu:Y8 G H3 K.n0 u s.ps:=hu
 have h3:=h2.kb o f3
 have hn3:=f3.le
 rw[ZF,AU,ZN,AU,ANn,AU]
 have g3:=f3.get g2 (by omega) (by omega)
 refine Bf (L:=s.cells u) g3 rfl rfl (by omega) λH4 g4 s4=>?_
 have f14:Kb K.b H1 n1 H4 n3:=((f2.kb (by omega)).trans f3) |> λx=>⟨x.le,λid a b=>(s4 id (by omega)).trans (x.same id a b),λhs=>(x.seen hs).same (s4 _ (by omega))⟩
 have h4:=h1.kb o f14
 rw[AU,AY,AU]
 refine AB (X5 h4.g) ?_
 refine O9 (K:=K) h4.ka.g (by omega) λH5 f5=>?_
 have h5:=h4.kp o f5
 have g5:=f5.get g4 (by omega)
 show Ac (.bool true) true _ _
 rw[A8,AU]
 refine AB (Aw (m:=11) h5.g (by omega) rfl) (AB (Aw (m:=5) g5 (by omega) rfl) ?_)
 have f15:Kb K.b H1 n1 H5 (n3+1):=f14.trans (f5.kb (by omega))
 have f05:=f1.trans f15
 have hn0:=o.n0
 have hu5:Y8 G H5 (n3+1) u s.ps:=⟨hu.el.same λid hid=>by
  have:=hu.lo id hid
  exact(f5.same id (by omega)).trans (s4 id (by omega)),λid hid=>by have:=hu.lo id hid;omega,hu.lt,hu.ok⟩
 refine AYq (B:=B) o (h5.ka.lift o (by have:=h5.mc;have:=h5.cn;omega)) (hw.same λid hid=>f05.same id (hwo id hid).1 (hwo id hid).2.2) (λid hid=>by have:=hwo id hid;exact⟨by omega,this.2.2⟩) (G9.mono (λ_ h=>h) (λid hid=>f05.same id (hB id hid).1 (hB id hid).2.2) hts) (λid hid=>by have:=hB id hid;exact⟨by omega,this.2.2⟩) hok hu5 hfit hln λH6 n6 f6=>?_
 have hn6:=f6.le
 have h6:=h5.kb o f6
 have g6:=f6.get g5 (by omega) (by omega)
 delta Ho
 have qr:∀{H':Heap},T.get H' n1=some (one (s.cells u))->Ah 2 (.ptr n1 (0+3)) G H'=some s.ret.v:=λg=>Dz (off:=0+3) (m:=2) g (by omega) (by show 0+3+2<=5;omega)
 rw[AY,AU]
 refine AB (qr g6) ?_
 rw[Bz,AU,AY,AU]
 refine AON (ow:=ow) h6.g λH7 s7 g7=>?_
 refine AB (qr ((s7 n1 (by omega)).trans g6)) (CX (iK s.ret) ?_)
 rw[AU,AY,AU]
 refine rJ (t:=s.ret) g7 λH8 s8 g8=>?_
 exact hk H8 _ (ADF (by omega) (f05.trans f6) λid hne=>(s8 id hne).trans (s7 id hne)) g8
end
theorem AB5{x:Kx}{c:Ty}{nm:St}{st:Bool}{gs:List Ty}{p:Ty×St}(h:ABT x c nm st gs=some p):DR x.tb c=true/\∃s,Xr x.tb c.nm nm st=some (p.2,s)/\AGi x.tb gs s.ps=true/\p.1=s.ret:=by
 unfold ABT at h
 cases hk:DR x.tb c with
 |false=>rw[hk]at h;cases h
 |true=>
  rw[hk]at h
  refine⟨rfl,?_⟩
  cases hm:Xr x.tb c.nm nm st with
  |none=>rw[hm]at h;cases h
  |some q=>
   obtain⟨ow,s⟩:=q
   rw[hm]at h
   obtain⟨h1,h2⟩:=Nq (show iY (AGi x.tb gs s.ps) s.ret ow=some p from h)
   exact⟨s,by rw[h2],h1,by rw[h2]⟩
theorem AIw{x:Kx}{Γ:List ER}{nm:St}{ty:Ty}{ks:List Ty}{p:Ty×St}(h:yw x Γ 7 nm ty ks=some p):∃c,ks=[c]/\c.cls=true/\DR x.tb c=true/\ACO x.tb c.nm nm=some (p.2,p.1):=by
 rcases ks with _|⟨c,_|⟨a,l⟩⟩
 ·cases h
 ·refine⟨c,rfl,?_⟩
  have h:(bif c.cls&&DR x.tb c then(ACO x.tb c.nm nm).map (λp=>(p.2,p.1))else none)=some p:=h
  cases hc:c.cls&&DR x.tb c with
  |false=>rw[hc]at h;cases h
  |true=>
   rw[hc]at h
   rw[Bool.and_eq_true]at hc
   obtain⟨q,hq,rfl⟩:=Option.map_eq_some_iff.1 (show(ACO x.tb c.nm nm).map (λp=>(p.2,p.1))=some p from h)
   exact⟨hc.1,hc.2,hq⟩
 ·cases h
theorem ACX{x:Kx}{Γ:List ER}{nm:St}{ty:Ty}{ks:List Ty}{p:Ty×St}(h:yw x Γ 8 nm ty ks=some p):∃c gs,ks=c::gs/\c.cls=true/\ABT x c nm false gs=some p:=by
 rcases ks with _|⟨c,gs⟩
 ·cases h
 ·refine⟨c,gs,rfl,?_⟩
  have h:(bif c.cls then ABT x c nm false gs else none)=some p:=h
  cases hc:c.cls with
  |false=>rw[hc]at h;cases h
  |true=>rw[hc]at h;exact⟨rfl,h⟩
section
variable{G:AV}{H:Heap}{n m c:Nat}{K:Kq}{M:Km}{vv:V}{all:Nat}{Γ:List ER}{k:KV}{B:Nat->Prop}{kind num:Nat}{nm:St}{ty of t:Ty}{own ow:St}{line col:Nat}{v:V}{es:List Te}
theorem AR8(o:Ry G K)(h:Xb G H n m c K M vv all Γ (Zv kind num nm ty of own line col v))(hes:Ob G H B v es)(hB:∀id,B id->id<n/\id≠c/\id≠K.b)(hok:∀e∈es,e.of.nm.ok)(hln:es.length<=10000)(hmb:mbr kind=true)(hty:ty.nm.ok)
 (htp:yw (K.x M) Γ kind nm ty (es.map Te.of)=some (t,ow)) (hk:∀H' n',Kbc K.b c H n H' n'->T.get H' c=some (one (Zv kind num nm ty t ow line col v))->k (.EI []) H' n'):
 Runs F G Uw [.ptr K.kb 0,.ptr c 0] H n k:=by
 refine go2 (gW Aq G) ?_
 delta VG
 have hbc:=h.bn o
 have hkc:=h.kn
 have hcn:=h.cn
 obtain⟨cs,e1,e2,e3,e4,e5,hts⟩:=hes
 have hvs:BH v v=true:=e2.1 |> λh=>by
  cases v<;>first|exact h|(cases e1.2;done)|(cases e1.1;done)
 rw[Bz,AU,AY,AU]
 refine AB (Dz (off:=0+5) (m:=2) h.g (by omega) (by show 0+5+2<=11;omega)) ?_
 rw[AU,AY,AU]
 have qv:∀{H':Heap},T.get H' c=some (one (Zv kind num nm ty of own line col v))->Aa (.ptr c (0+7)) G H'=some v:=λg=>AX (off:=0+7) g rfl
 refine AB (qv h.g) ?_
 refine Ar rfl λH1 f1 g1=>?_
 refine Bf (L:=ty.cells) g1 rfl rfl (by omega) λH2 g2 s2=>?_
 have f2:Kp H n H2 (n+1):=⟨f1.le,λid hid=>(s2 id (by omega)).trans (f1.same id hid)⟩
 have h2:=h.kp o f2
 have e12:=e1.same (H':=H2) λid hid=>f2.same id (hB id (e5 id hid)).1
 refine AB (qv h2.g) (CX hvs ?_)
 rw[AU,DK,AU]
 refine AB (AX (off:=0) h2.g (v:=.int .i64 (.ofNat kind) 0) rfl) (AB (ADX ..) ?_)
 have f2b:Kb K.b H n H2 (n+1):=f2.kb (by omega)
 by_cases h9:kind=9
 ·subst h9
  rw[show(!decide (9=9))=false from rfl,Ak]
  obtain⟨hkn,s,hm,hf,e⟩:=AB5 (show ABT (K.x M) ty nm true (es.map Te.of)=some (t,ow)from htp)
  obtain rfl:t=s.ret:=e
  refine ASp (C:=ty) (B:=B) o h2 (by decide) (by omega) (Nat.lt_succ_self _) g2 hty hkn e12 (λid hid=>by have:=hB id (e5 id hid);exact⟨by omega,this.2.1,this.2.2⟩) (G9.mono (λ_ h=>h) (λid hid=>f2.same id (hB id hid).1) hts) (λid hid=>by have:=hB id hid;exact⟨by omega,this.2.1,this.2.2⟩) hok hln hm hf λH' n' f g=>?_
  exact hk H' n' ((f2b.bc c).trans f) g
 ·rw[decide_eq_false h9,show(!false)=true from rfl,A8]
  obtain⟨C,gs,hmap,hcls⟩:∃C gs,es.map Te.of=C::gs/\C.cls=true:=by
   by_cases h7:kind=7
   ·subst h7;obtain⟨c,h1,h2,_⟩:=AIw htp;exact⟨c,[],h1,h2⟩
   ·by_cases h8:kind=8
    ·subst h8;obtain⟨c,gs,h1,h2,_⟩:=ACX htp;exact⟨c,gs,h1,h2⟩
    ·exfalso
     unfold mbr at hmb
     rw[decide_eq_false h7,decide_eq_false h8,decide_eq_false h9]at hmb;cases hmb
  cases es with
  |nil=>cases hmap
  |cons e rest=>
  rw[List.map_cons,List.cons.injEq]at hmap
  obtain⟨rfl,hgs⟩:=hmap
  have hok0:=hok e (List.mem_cons_self ..)
  cases hts with
  |cons het htr=>
  rename_i l ls
  have het2:=het.mono (H':=H2) (λ_ h=>h) λid hid=>f2.same id (hB id hid).1
  obtain⟨p,q1,q8,q9,kd⟩:=kW o.sub (i:=0) (l:=l) e12 rfl het2.len
  cases het with
  |mk kind' num' nm' ty' of' own' line' col' hev hvk hva hvc=>
  rename_i v' cs' kids'
  have hcls:of'.cls=true:=hcls
  have hok0:of'.nm.ok:=hok0
  rw[AU,AY,AU]
  refine AB (qv h2.g) (AB kd.ip (AB kd.i8 (AB (v:=of'.v) (kd.ld H2 e12).2.2.1 ?_)))
  rw[AU,AY,AU]
  refine AB (qv h2.g) ?_
  obtain⟨w,hw,hwe,hws⟩:=El.tail e12 e2
  refine AB hw ?_
  refine Bf (L:=of'.cells) g2 rfl rfl (by omega) λH3 g3 s3=>?_
  have f3:Kp H n H3 (n+1):=⟨f2.le,λid hid=>(s3 id (by omega)).trans (f2.same id hid)⟩
  have h3:=h.kp o f3
  refine AB (qv h3.g) (CX hvs ?_)
  refine AB (Gp g3) ?_
  rw[AU,AY,AU]
  refine AB (qv h3.g) ?_
  have e13:=e1.same (H':=H3) λid hid=>f3.same id (hB id (e5 id hid)).1
  refine AB kd.ip (AB kd.i1 (AB (v:=Y4 line' col') (kd.ld H3 e13).2.1 ?_))
  refine AKI (t:=of') hok0 λH4 n4 f4=>?_
  have f04:=f3.trans f4
  have hn4:=f4.le
  have h4:=h.kp o f04
  have e14:=e1.same (H':=H4) λid hid=>f04.same id (hB id (e5 id hid)).1
  refine AB (qv h4.g) (CX hvs (AB (v:=Y4 line' col') (kd.ld H4 e14).2.1 (CX (Jf ..) ?_)))
  rw[hcls]
  refine O9 (K:=K) h4.ka.g (by have:=h4.cn;omega) λH5 f5=>?_
  have f05:=f04.trans f5
  have h5:=h.kp o f05
  have g5:=f5.get (f4.get g3 (by omega)) (by omega)
  rw[Du,AU]
  show Ac (.bool false) true _ _
  rw[Ak]
  have f05b:Kb K.b H n H5 (n4+1):=f05.kb (by omega)
  have hfin:∀H' n',Kbc K.b c H5 (n4+1) H' n'->T.get H' c=some (one (Zv kind num nm ty t ow line col v))->k (.EI []) H' n':=λH' n' f g=>hk H' n' ((f05b.bc c).trans f) g
  by_cases h7:kind=7
  ·subst h7
   obtain⟨C,hC,_,hkn,hf⟩:=AIw htp
   rw[List.map_cons,List.cons.injEq]at hC
   obtain⟨rfl,_⟩:=hC
   exact Aa3 (C:=of') (w:=w) o h5 hcn (by omega) g5 hok0 hkn hf hfin
  ·have h8:kind=8:=by
    unfold mbr at hmb
    by_cases h8:kind=8
    ·exact h8
    ·rw[decide_eq_false h7,decide_eq_false h8,decide_eq_false h9]at hmb;cases hmb
   subst h8
   obtain⟨C,gs',hC,_,hcl⟩:=ACX htp
   rw[List.map_cons,List.cons.injEq]at hC
   obtain⟨rfl,rfl⟩:=hC
   obtain⟨hkn,s,hm,hf,e⟩:=AB5 hcl
   obtain rfl:t=s.ret:=e
   have hw5:El G H5 w 11 ls:=hwe.same λid hid=>by
    rw[hws]at hid
    have:=hB id (e5 id hid)
    exact((f4.trans f5).same id (by omega)).trans (s3 id (by omega))
   exact ASp (C:=of') (B:=B) o h5 (by decide) hcn (by omega) g5 hok0 hkn hw5 (λid hid=>by rw[hws]at hid;have:=hB id (e5 id hid);exact⟨by omega,this.2.1,this.2.2⟩) (G9.mono (λ_ h=>h) (λid hid=>f05.same id (hB id hid).1) htr) (λid hid=>by have:=hB id hid;exact⟨by omega,this.2.1,this.2.2⟩)
    (λx hx=>hok x (List.mem_cons_of_mem _ hx)) (by rw[List.length_cons]at hln;omega) hm hf hfin
end
section
variable{G:AV}{H:Heap}{n m c d:Nat}{K:Kq}{M:Km}{vv:V}{all:Nat}{Γ:List ER}{k:KV}{B:Nat->Prop}{kind num:Nat}{nm:St}{ty of t t1:Ty}{own ow:St}{line col:Nat}{v:V}{es:List Te}
theorem qI{P:V->Prop}{A:Nat}(b0:Bool)(qk:Aa (.ptr c 0) G H=some (.int .i64 (.ofNat kind) 0))(h:P (.bool (b0||decide (kind=A)))):
 BX (.bool b0) false (some (.ptr c 0)) λv18=>BX (.bool b0) false (Ae v18) λv19=>BX (.bool b0) false (AQ 0 v19) λv20=>BX (.bool b0) false (Aa v20 G H) λv21=>BX (.bool b0) false (Dw (.one .int) false v21 (.int .i64 (.ofNat A) 0)) λv22=>AP (Cj (.bool b0) (.bool true) v22) P:=by
 cases b0 with
 |true=>exact uO (uO (uO (uO (uO (AL4 h)))))
 |false=>exact o9 rfl (o9 (Bz ..) (o9 (DK ..) (o9 qk (o9 (Dy ..) (xP h)))))
theorem AOY(x y:St):Dw (.one .str) false x.v y.v=some (.bool (decide (x=y))):=by
 show Dw (.one .str) false (.str x.1 x.2) (.str y.1 y.2)=_
 rw[ACl]
 congr 2
 rw[decide_eq_decide]
 exact⟨λh=>Prod.ext h.1 h.2,λh=>by rw[h];exact⟨rfl,rfl⟩⟩
theorem AS2{P:V->Prop}{x:St}(b0:Bool)(qk:Aa (.ptr c (0+4)) G H=some nm.v)(h:P (.bool (b0||decide (nm=x)))):
 BX (.bool b0) false (some (.ptr c 0)) λv18=>BX (.bool b0) false (Ae v18) λv19=>BX (.bool b0) false (AQ 4 v19) λv20=>BX (.bool b0) false (Aa v20 G H) λv21=>BX (.bool b0) false (Dw (.one .str) false v21 x.v) λv22=>AP (Cj (.bool b0) (.bool true) v22) P:=by
 cases b0 with
 |true=>exact uO (uO (uO (uO (uO (AL4 h)))))
 |false=>exact o9 rfl (o9 (Bz ..) (o9 (AY ..) (o9 qk (o9 (AOY ..) (xP h)))))
theorem AMV{f1 f2:Nat}{P:KV}(o:Ry G K)(hf1:∀{H:Heap} {n:Nat} {P:KV},(∀H' n',Kp H n H' n'->P t1.v H' n')->Runs F G f1 [] H n P)(hf2:∀{H:Heap} {n:Nat} {P:KV},(∀H' n',Kp H n H' n'->P t.v H' n')->Runs F G f2 [] H n P)
 (h:Xb G H n m c K M vv all Γ (Zv kind num nm ty of own line col v)) (hes:Ob G H B v es) (hB:∀id,B id->id<n/\id≠c/\id≠K.b) (hall:∀e∈es,e.of=t1) (hln:es.length<=10000)
 (hk:∀H' n',Kbc K.b c H n H' n'->Xb G H' n' m c K M vv all Γ (Zv kind num nm ty t own line col v)->P .undef H' n'):
 AP (Ae (.ptr c 0)) λv5=>AP (AQ 7 v5) λv6=>AP (Aa v6 G H) λv7=>Runs F G f1 [] H n λv8 H n=>AP (Aa v6 G H) λv=>EJ (BH v v7) <| Runs F G Dj [.ptr K.kb 0,v7,v8] H n λ_ H n=>
  Runs F G f2 [] H n λv10 H n=>AP (Ae (.ptr c 0)) λv11=>AP (AQ 8 v11) λv12=>Bd 2 v12 v10 H n P:=by
 have hbc:=h.bn o
 have hkc:=h.kn
 have hcn:=h.cn
 obtain⟨cs,e1,e2,e3,e4,e5,hts⟩:=hes
 have hvs:BH v v=true:=e2.1 |> λh=>by
  cases v<;>first|exact h|(cases e1.2;done)|(cases e1.1;done)
 have qv:∀{H':Heap},T.get H' c=some (one (Zv kind num nm ty of own line col v))->Aa (.ptr c (0+7)) G H'=some v:=λg=>AX (off:=0+7) g rfl
 rw[Bz,AU,AY,AU]
 refine AB (qv h.g) ?_
 refine hf1 λH1 n1 x1=>?_
 have h1:=h.kp o x1
 refine AB (qv h1.g) (CX hvs ?_)
 refine vZ (K:=K) h1.ka.g (by have:=h1.cn;omega) (e1.same λid hid=>x1.same id (hB id (e5 id hid)).1) e5 (G9.mono (λ_ h=>h) (λid hid=>x1.same id (hB id hid).1) hts) (λid hid=>by have:=hB id hid;have:=x1.le;omega) hall (by omega) λH2 n2 x2=>?_
 refine hf2 λH3 n3 x3=>?_
 have x:=x1.trans (x2.trans x3)
 have h3:=h.kp o x
 rw[AU,AY,AU]
 refine rJ (t:=t) h3.g λH4 s4 g4=>?_
 have f:=ADF (by omega) (x.kb (b:=K.b) (by omega)) s4
 have hm:=h.mc
 exact hk H4 n3 f ⟨h.ka.kb o ((f.low hm (by omega)).low (Nat.le_refl _)),hm,by have:=x.le;omega,g4⟩
theorem gG{a b:Ty}(h:a.is b=true):a=b:=Ty.ASZ.1 h
theorem Abe(o:Ry G K)(h:Xb G H n m c K M vv all Γ (Zv 14 num nm ty of own line col v))(hes:Ob G H B v es)(hB:∀id,B id->id<n/\id≠c/\id≠K.b)(hln:es.length<=10000)
 (htp:yw (K.x M) Γ 14 nm ty (es.map Te.of)=some (t,ow)) (hk:∀H' n',Kbc K.b c H n H' n'->T.get H' c=some (one (Zv 14 num nm ty t own line col v))->k (.EI []) H' n'):
 Runs F G Gl [.ptr K.kb 0,.ptr c 0] H n k:=by
 refine go2 (Ib Aq G) ?_
 delta Gi
 rw[Bz,AU,DK,AU]
 refine AB (AX (off:=0) h.g (v:=.int .i64 (.ofNat 14) 0) rfl) (AB (Dy ..) ?_)
 rw[show decide (14=14)=true from rfl,A8]
 rcases es with _|⟨a,_|⟨b,l⟩⟩
 ·cases htp
 ·obtain⟨h1,h2⟩:=Nq (show iY (a.of.is DZ) DZ (0,0)=some (t,ow)from htp)
  cases h2
  exact AMV o ABX ABX h hes hB (λe he=>by rw[List.mem_singleton.1 he];exact gG h1) hln λH' n' f x=>hk H' n' f x.g
 ·cases htp
theorem AcY(o:Ry G K)(h:Xb G H n m c K M vv all Γ (Zv kind num nm ty of own line col v))(hkd:kind=15∨kind=17∨kind=18)(hes:Ob G H B v es)(hB:∀id,B id->id<n/\id≠c/\id≠K.b)(hln:es.length<=10000)
 (htp:yw (K.x M) Γ kind nm ty (es.map Te.of)=some (t,ow)) (hk:∀H' n',Kbc K.b c H n H' n'->T.get H' c=some (one (Zv kind num nm ty t own line col v))->k (.EI []) H' n'):
 Runs F G Gl [.ptr K.kb 0,.ptr c 0] H n k:=by
 refine go2 (Ib Aq G) ?_
 delta Gi
 have qk:Aa (.ptr c 0) G H=some (.int .i64 (.ofNat kind) 0):=AX (off:=0) h.g rfl
 rw[Bz,AU,DK,AU]
 refine AB qk (AB (Dy ..) ?_)
 rw[decide_eq_false (by omega),Ak,AU,DK,AU]
 refine AB qk (AB (Dy ..) ?_)
 refine qI _ qk (qI _ qk ?_)
 have hb:((decide (kind=15)||decide (kind=17))||decide (kind=18))=true:=by rcases hkd with rfl|rfl|rfl<;>rfl
 rw[hb,A8]
 have hh:t=Df/\∀e∈es,e.of=Df:=by
  rcases hkd with rfl|rfl|rfl
  ·rcases es with _|⟨a,_|⟨b,l⟩⟩
   ·cases htp
   ·obtain⟨h1,h2⟩:=Nq (show iY (a.of.is Df) Df (0,0)=some (t,ow)from htp)
    cases h2
    exact⟨rfl,λe he=>by rw[List.mem_singleton.1 he];exact gG h1⟩
   ·cases htp
  ·rcases es with _|⟨a,_|⟨b,_|⟨c',l⟩⟩⟩
   ·cases htp
   ·cases htp
   ·obtain⟨h1,h2⟩:=Nq (show iY (a.of.is Df&&b.of.is Df) Df (0,0)=some (t,ow)from htp)
    cases h2
    rw[Bool.and_eq_true]at h1
    exact⟨rfl,λe he=>by simp at he;rcases he with rfl|rfl;exact gG h1.1;exact gG h1.2⟩
   ·cases htp
  ·rcases es with _|⟨a,_|⟨b,_|⟨c',l⟩⟩⟩
   ·cases htp
   ·cases htp
   ·obtain⟨h1,h2⟩:=Nq (show iY (a.of.is Df&&b.of.is Df) Df (0,0)=some (t,ow)from htp)
    cases h2
    rw[Bool.and_eq_true]at h1
    exact⟨rfl,λe he=>by simp at he;rcases he with rfl|rfl;exact gG h1.1;exact gG h1.2⟩
   ·cases htp
 obtain⟨rfl,hall⟩:=hh
 exact AMV o jw jw h hes hB hall hln λH' n' f x=>hk H' n' f x.g
theorem AdF(o:Ry G K)(h:Xb G H n m c K M vv all Γ (Zv 16 num nm ty of own line col v))(hnm:nm≠ACF/\nm≠ACA)(hes:Ob G H B v es)(hB:∀id,B id->id<n/\id≠c/\id≠K.b)(hln:es.length<=10000)
 (htp:yw (K.x M) Γ 16 nm ty (es.map Te.of)=some (t,ow)) (hk:∀H' n',Kbc K.b c H n H' n'->T.get H' c=some (one (Zv 16 num nm ty t own line col v))->k (.EI []) H' n'):
 Runs F G Gl [.ptr K.kb 0,.ptr c 0] H n k:=by
 refine go2 (Ib Aq G) ?_
 delta Gi
 have hbc:=h.bn o
 have qk:Aa (.ptr c 0) G H=some (.int .i64 (.ofNat 16) 0):=AX (off:=0) h.g rfl
 have qn:∀{H':Heap} {t':Ty},T.get H' c=some (one (Zv 16 num nm ty t' own line col v))->Aa (.ptr c (0+4)) G H'=some nm.v:=λg=>AX (off:=0+4) g rfl
 rw[Bz,AU,DK,AU]
 refine AB qk (AB (Dy ..) ?_)
 rw[show decide (16=14)=false from rfl,Ak,AU,DK,AU]
 refine AB qk (AB (Dy ..) ?_)
 refine qI _ qk (qI _ qk ?_)
 rw[show((decide (16=15)||decide (16=17))||decide (16=18))=false from rfl,Ak,Bz,AU,DK,AU]
 refine AB qk (AB (Dy ..) ?_)
 refine qI _ qk ?_
 rw[show(decide (16=19)||decide (16=20))=false from rfl,Ak,AU,AY,AU]
 refine AB (qn h.g) (AB (AOY nm ACF) ?_)
 refine AS2 (x:=ACA) _ (qn h.g) ?_
 rw[decide_eq_false hnm.1,decide_eq_false hnm.2]
 show Ac (.bool false) true _ _
 rw[Ak]
 rcases es with _|⟨a,_|⟨b,_|⟨c',l⟩⟩⟩
 ·cases htp
 ·cases htp
 ·have htp:(bif decide (nm=ACF)||decide (nm=ACA)then iY (a.of.is b.of||(a.of.obj&&b.of.obj)) Df (0,0)else iY (a.of.is DZ&&b.of.is DZ) (bif decide (nm=AGE)||decide (nm=AEe)then Df else DZ) (0,0))=some (t,ow):=htp
  rw[decide_eq_false hnm.1,decide_eq_false hnm.2]at htp
  obtain⟨h1,h2⟩:=Nq (show iY (a.of.is DZ&&b.of.is DZ) (bif decide (nm=AGE)||decide (nm=AEe)then Df else DZ) (0,0)=some (t,ow)from htp)
  cases h2
  rw[Bool.and_eq_true]at h1
  refine AMV (t:=DZ) o ABX ABX h hes hB (λe he=>by simp at he;rcases he with rfl|rfl;exact gG h1.1;exact gG h1.2) hln λH1 n1 f1 x1=>?_
  rw[AU,AY,AU]
  refine AB (qn x1.g) (AB (AOY nm AGE) ?_)
  refine AS2 (x:=AEe) _ (qn x1.g) ?_
  cases hb:decide (nm=AGE)||decide (nm=AEe)with
  |false=>
   rw[Ak]
   exact hk H1 n1 f1 (by rw[hb];exact x1.g)
  |true=>
   rw[A8]
   refine jw λH2 n2 f2=>?_
   have x2:=x1.kp o f2
   rw[AU,AY,AU]
   refine rJ (t:=Df) x2.g λH3 s3 g3=>?_
   exact hk H3 n2 (f1.trans (ADF (by omega) (f2.kb (b:=K.b) (by have:=f1.le;have:=h.cn;omega)) s3)) (by rw[hb];exact g3)
 ·cases htp
end
section
variable{G:AV}{H:Heap}{n m c d:Nat}{K:Kq}{M:Km}{vv:V}{all:Nat}{Γ:List ER}{k:KV}{B:Nat->Prop}{kind num:Nat}{nm:St}{ty of t t1:Ty}{own ow:St}{line col:Nat}{v:V}{es:List Te}
theorem AcP(o:Ry G K)(h:Xb G H n m c K M vv all Γ (Zv kind num nm ty of own line col v))(hkd:kind=19∨kind=20)(hes:Ob G H B v es)(hB:∀id,B id->id<n/\id≠c/\id≠K.b)(hok:∀e∈es,e.of.nm.ok)(hty:ty.nm.ok)
 (htp:yw (K.x M) Γ kind nm ty (es.map Te.of)=some (t,ow)) (hk:∀H' n',Kbc K.b c H n H' n'->T.get H' c=some (one (Zv kind num nm ty t own line col v))->k (.EI []) H' n'):
 Runs F G Gl [.ptr K.kb 0,.ptr c 0] H n k:=by
 refine go2 (Ib Aq G) ?_
 delta Gi
 have hbc:=h.bn o
 have hkc:=h.kn
 have hcn:=h.cn
 have qk:∀{H':Heap} {t':Ty},T.get H' c=some (one (Zv kind num nm ty t' own line col v))->Aa (.ptr c 0) G H'=some (.int .i64 (.ofNat kind) 0):=λg=>AX (off:=0) g rfl
 have qv:∀{H':Heap},T.get H' c=some (one (Zv kind num nm ty of own line col v))->Aa (.ptr c (0+7)) G H'=some v:=λg=>AX (off:=0+7) g rfl
 obtain⟨e,he,hinv,ht⟩:∃e,es=[e]/\((e.of.cls||e.of.is bP)=true/\DR K.tb ty=true)/\t=bif decide (kind=20)then Df else ty:=by
  rcases es with _|⟨a,_|⟨b,l⟩⟩
  ·rcases hkd with rfl|rfl<;>cases htp
  ·refine⟨a,rfl,?_⟩
   rcases hkd with rfl|rfl
   ·obtain⟨h1,h2⟩:=Nq (show iY ((a.of.cls||a.of.is bP)&&DR K.tb ty) ty (0,0)=some (t,ow)from htp)
    cases h2;rw[Bool.and_eq_true]at h1;exact⟨h1,rfl⟩
   ·obtain⟨h1,h2⟩:=Nq (show iY ((a.of.cls||a.of.is bP)&&DR K.tb ty) Df (0,0)=some (t,ow)from htp)
    cases h2;rw[Bool.and_eq_true]at h1;exact⟨h1,rfl⟩
  ·rcases hkd with rfl|rfl<;>cases htp
 subst he
 have AKD:=hok e (List.mem_cons_self ..)
 obtain⟨cs,e1,e2,e3,e4,e5,hts⟩:=hes
 have hvs:BH v v=true:=e2.1 |> λh=>by
  cases v<;>first|exact h|(cases e1.2;done)|(cases e1.1;done)
 cases hts with
 |cons het htr=>
 cases htr with
 |nil=>
 rename_i l
 obtain⟨p,q1,q8,q9,kd⟩:=kW o.sub (i:=0) (l:=l) e1 rfl het.len
 cases het with
 |mk kind' num' nm' ty' of' own' line' col' hev hvk hva hvc=>
 rename_i v' cs' kids'
 have AKD:of'.nm.ok:=AKD
 have hinv:(of'.cls||of'.is bP)=true/\DR K.tb ty=true:=hinv
 rw[Bz,AU,DK,AU]
 refine AB (qk h.g) (AB (Dy ..) ?_)
 rw[decide_eq_false (by omega),Ak,AU,DK,AU]
 refine AB (qk h.g) (AB (Dy ..) ?_)
 refine qI _ (qk h.g) (qI _ (qk h.g) ?_)
 rw[show((decide (kind=15)||decide (kind=17))||decide (kind=18))=false by rcases hkd with rfl|rfl<;>rfl,Ak,AU,DK,AU]
 refine AB (qk h.g) (AB (Dy ..) ?_)
 refine qI _ (qk h.g) ?_
 rw[show(decide (kind=19)||decide (kind=20))=true by rcases hkd with rfl|rfl<;>rfl,A8,AU,AY,AU]
 refine AB (qv h.g) (AB kd.ip (AB kd.i8 (AB (v:=of'.v) (kd.ld H e1).2.2.1 ?_)))
 refine Ar rfl λH1 f1 g1=>?_
 refine Bf (L:=of'.cells) g1 rfl rfl (by omega) λH2 g2 s2=>?_
 have f2:Kp H n H2 (n+1):=⟨f1.le,λid hid=>(s2 id (by omega)).trans (f1.same id hid)⟩
 have h2:=h.kp o f2
 refine AB (Gp g2) ?_
 rw[AU,AY,AU]
 have e12:=e1.same (H':=H2) λid hid=>f2.same id (hB id (e5 id hid)).1
 refine AB (qv h2.g) (AB kd.ip (AB kd.i1 (AB (v:=Y4 line' col') (kd.ld H2 e12).2.1 ?_)))
 refine AKI (t:=of') AKD λH3 n3 f3=>?_
 have f03:=f2.trans f3
 have hn3:=f3.le
 have h3:=h.kp o f03
 have e13:=e1.same (H':=H3) λid hid=>f03.same id (hB id (e5 id hid)).1
 have g3:=f3.get g2 (by omega)
 refine AB (qv h3.g) (CX hvs (AB (v:=Y4 line' col') (kd.ld H3 e13).2.1 (CX (Jf ..) ?_)))
 have rest:∀H4 n4,Kp H n H4 n4->Runs F G Ai [.ptr K.kb 0,.bool true,.int .i64 (.ofNat 24) 0,Y4 line' col'] H4 n4 (λv84 H n=>Ac v84 true (AP (Ae (.ptr K.kb 0)) λv85=>AP (AQ 0 v85) λv86=>AP (Aa v86 G H) λv87=>AP (Ae (.ptr c 0)) λv88=>AP (AQ 5 v88) λv89=>AP (Ah 2 v89 G H) λv90=>
  CB (Aj 2 1 [(.str 0 0),(.bool false)] [(0,.c v90)] E0) H n λv91 H n=>AP (Ae (.ptr c 0)) λv92=>AP (AQ 1 v92) λv93=>AP (Ah 2 v93 G H) λv94=>Runs F G DF [v87,v91] H n λv95 H n=>AP (Ah 2 v93 G H) λv=>EJ (BH v v94) <|
  Runs F G Ai [.ptr K.kb 0,v95,(.int .i64 (.ofNat 23) 0),v94] H n λv96 H n=>Ee lfp G (Runs F G) k (.ptr c 0) H n) (Ee lfp G (Runs F G) k (.ptr c 0) H n)):=by
  intro H4 n4 f4
  have h4:=h.kp o f4
  have hn4:=f4.le
  refine O9 (K:=K) h4.ka.g (by omega) λH5 f5=>?_
  have h5:=h4.kp o f5
  rw[A8,Bz,AU,DK,AU]
  refine AB (AX (off:=0) h5.ka.g (v:=.ptr K.t 0) rfl) ?_
  rw[Bz,AU,AY,AU]
  refine AB (v:=ty.v) (Dz (off:=0+5) (m:=2) h5.g (by omega) (by show 0+5+2<=11;omega)) ?_
  refine AFY o h5 hty hinv.2 λH6 n6 f6=>?_
  have h6:=h5.kb o f6
  have f06:Kb K.b H n H6 n6:=(f4.kb (by omega)).trans ((f5.kb (by omega)).trans f6)
  delta Ee
  rw[Bz,AU,AY,AU]
  refine AB (v:=ty.v) (Dz (off:=0+5) (m:=2) h6.g (by omega) (by show 0+5+2<=11;omega)) ?_
  rw[AU,AY,AU]
  refine rJ (t:=ty) h6.g λH7 s7 g7=>?_
  rw[AU,DK,AU]
  refine AB (qk g7) (AB (Dy ..) ?_)
  have f07:=ADF (by omega) f06 s7
  cases h20:decide (kind=20)with
  |false=>
   rw[Ak]
   rw[h20]at ht
   obtain rfl:t=ty:=ht
   exact hk H7 n6 f07 g7
  |true=>
   rw[A8]
   rw[h20]at ht
   obtain rfl:t=Df:=ht
   refine jw λH8 n8 f8=>?_
   rw[AU,AY,AU]
   have:=f6.le
   refine rJ (t:=Df) (f8.get g7 (by omega)) λH9 s9 g9=>?_
   exact hk H9 n8 (f07.trans (ADF (by omega) (f8.kb (b:=K.b) (by omega)) s9)) g9
 cases hc:of'.cls with
 |true=>
  refine uO (AWY ?_)
  refine AB (qv h3.g) (CX hvs (AB (v:=Y4 line' col') (kd.ld H3 e13).2.1 (CX (Jf ..) ?_)))
  refine AaM (uO (AL4 ?_))
  exact rest H3 n3 f03
 |false=>
  have hnull:of'.is bP=true:=by have:=hinv.1;rw[hc]at this;exact this
  refine o9 (Gp g3) (APw ?_)
  refine vO λH4 n4 f4=>?_
  have f04:=f03.trans f4
  have h4:=h.kp o f04
  have e14:=e1.same (H':=H4) λid hid=>f04.same id (hB id (e5 id hid)).1
  refine AB (qv h4.g) (CX hvs (AB (v:=Y4 line' col') (kd.ld H4 e14).2.1 (CX (Jf ..) ?_)))
  refine AXX (Gp (f4.get g3 (by omega))) (iK _) (o9 (AFj of' bP) (xP ?_))
  rw[hnull]
  exact rest H4 n4 f04
theorem AdP(o:Ry G K)(h:Xb G H n m c K M vv all Γ (Zv 16 num nm ty of own line col v))(hnm:(decide (nm=ACF)||decide (nm=ACA))=true)(hes:Ob G H B v es)(hB:∀id,B id->id<n/\id≠c/\id≠K.b)(hok:∀e∈es,e.of.nm.ok)
 (htp:yw (K.x M) Γ 16 nm ty (es.map Te.of)=some (t,ow)) (hk:∀H' n',Kbc K.b c H n H' n'->T.get H' c=some (one (Zv 16 num nm ty t own line col v))->k (.EI []) H' n'):
 Runs F G Gl [.ptr K.kb 0,.ptr c 0] H n k:=by
 refine go2 (Ib Aq G) ?_
 delta Gi
 have hbc:=h.bn o
 have hkc:=h.kn
 have hcn:=h.cn
 have qk:Aa (.ptr c 0) G H=some (.int .i64 (.ofNat 16) 0):=AX (off:=0) h.g rfl
 have qn:Aa (.ptr c (0+4)) G H=some nm.v:=AX (off:=0+4) h.g rfl
 have qv:∀{H':Heap},T.get H' c=some (one (Zv 16 num nm ty of own line col v))->Aa (.ptr c (0+7)) G H'=some v:=λg=>AX (off:=0+7) g rfl
 obtain⟨e,e',he,hinv,ht⟩:∃e e',es=[e,e']/\(e.of.is e'.of||(e.of.obj&&e'.of.obj))=true/\t=Df:=by
  rcases es with _|⟨a,_|⟨b,_|⟨c',l⟩⟩⟩
  ·cases htp
  ·cases htp
  ·have htp:(bif decide (nm=ACF)||decide (nm=ACA)then iY (a.of.is b.of||(a.of.obj&&b.of.obj)) Df (0,0)else iY (a.of.is DZ&&b.of.is DZ) (bif decide (nm=AGE)||decide (nm=AEe)then Df else DZ) (0,0))=some (t,ow):=htp
   rw[hnm]at htp
   obtain⟨h1,h2⟩:=Nq (show iY (a.of.is b.of||(a.of.obj&&b.of.obj)) Df (0,0)=some (t,ow)from htp)
   cases h2
   exact⟨a,b,rfl,h1,rfl⟩
  ·cases htp
 subst he ht
 have hok0:=hok e (List.mem_cons_self ..)
 have hok1:=hok e' (by simp)
 obtain⟨cs,e1,e2,e3,e4,e5,hts⟩:=hes
 have hvs:BH v v=true:=e2.1 |> λh=>by
  cases v<;>first|exact h|(cases e1.2;done)|(cases e1.1;done)
 cases hts with
 |cons het htr=>
 cases htr with
 |cons het' htr=>
 cases htr with
 |nil=>
 rename_i l l'
 obtain⟨p,q1,q8,q9,kd⟩:=kW o.sub (i:=0) (l:=l) e1 rfl het.len
 obtain⟨r,r1,r8,r9,kd'⟩:=kW o.sub (i:=1) (l:=l') e1 rfl het'.len
 have e8:(l.drop 8).take 2=e.of.cells:=by cases het;rfl
 have e8':(l'.drop 8).take 2=e'.of.cells:=by cases het';rfl
 generalize e.of=x at hok0 hinv e8
 generalize e'.of=y at hok1 hinv e8'
 have lx:∀H',El G H' v 11 [l,l']->Ah 2 q8 G H'=some x.v:=λH' h'=>by rw[(kd.ld H' h').2.2.1,e8];rfl
 have ly:∀H',El G H' v 11 [l,l']->Ah 2 r8 G H'=some y.v:=λH' h'=>by rw[(kd'.ld H' h').2.2.1,e8'];rfl
 rw[Bz,AU,DK,AU]
 refine AB qk (AB (Dy ..) ?_)
 rw[show decide (16=14)=false from rfl,Ak,AU,DK,AU]
 refine AB qk (AB (Dy ..) ?_)
 refine qI _ qk (qI _ qk ?_)
 rw[show((decide (16=15)||decide (16=17))||decide (16=18))=false from rfl,Ak,AU,DK,AU]
 refine AB qk (AB (Dy ..) ?_)
 refine qI _ qk ?_
 rw[show(decide (16=19)||decide (16=20))=false from rfl,Ak,AU,AY,AU]
 refine AB qn (AB (AOY nm ACF) ?_)
 refine AS2 (x:=ACA) _ qn ?_
 rw[hnm,A8,AU,AY,AU]
 refine AB (qv h.g) (AB kd.ip (AB kd.i8 (AB (lx H e1) ?_)))
 rw[AU,AY,AU]
 refine AB (qv h.g) (AB kd'.ip (AB kd'.i8 (AB (ly H e1) ?_)))
 refine Ar rfl λH1 f1 g1=>?_
 refine Ar rfl λH2 f2 g2=>?_
 refine Bf (L:=x.cells) (f2.get g1 (by omega)) rfl rfl (by omega) λH3 g3 s3=>?_
 have f3:Kp H n H3 (n+1+1):=⟨by omega,λid hid=>(s3 id (by omega)).trans ((f1.trans f2).same id hid)⟩
 have h3:=h.kp o f3
 have e13:=e1.same (H':=H3) λid hid=>f3.same id (hB id (e5 id hid)).1
 refine AB (qv h3.g) (CX hvs (AB (ly H3 e13) (CX (iK y) ?_)))
 have g23:T.get H3 (n+1)=_:=(s3 (n+1) (by omega)).trans g2
 refine Bf (L:=y.cells) g23 rfl rfl (by omega) λH4 g4 s4=>?_
 have f4:Kp H n H4 (n+1+1):=⟨by omega,λid hid=>(s4 id (by omega)).trans (f3.same id hid)⟩
 have h4:=h.kp o f4
 have g34:T.get H4 n=_:=(s4 n (by omega)).trans g3
 refine AB (Gp g34) (AB (Gp g4) (AB (AFj x y) ?_))
 have rest:∀H5 n5,Kp H n H5 n5->Runs F G Ai [.ptr K.kb 0,.bool true,.int .i64 (.ofNat 24) 0,Y4 line col] H5 n5 (λv136 H n=>Runs F G KO [] H n λv137 H n=>AP (Ae (.ptr c 0)) λv138=>AP (AQ 8 v138) λv139=>Bd 2 v139 v137 H n λv140 H n=>k (.EI []) H n):=by
  intro H5 n5 f5
  have h5:=h.kp o f5
  have:=f5.le
  refine O9 (K:=K) h5.ka.g (by omega) λH6 f6=>jw λH7 n7 f7=>?_
  have f07:=f5.trans (f6.trans f7)
  have h7:=h.kp o f07
  rw[Bz,AU,AY,AU]
  refine rJ (t:=Df) h7.g λH8 s8 g8=>?_
  exact hk H8 n7 (ADF (by omega) (f07.kb (b:=K.b) (by omega)) s8) g8
 cases hxy:x.is y with
 |true=>
  refine uO ?_
  rw[AU,AY,AU]
  refine AB (X5 h4.g) (AWY (AB (X5 h4.g) (CX (Jf ..) ?_)))
  refine uO (AX1 (ATB (AB (X5 h4.g) (CX (Jf ..) ?_))))
  refine uO (AL4 ?_)
  exact rest H4 _ f4
 |false=>
  rw[hxy,Bool.false_or,Bool.and_eq_true]at hinv
  refine o9 (Gp g34) ?_
  rw[AU,AY,AU]
  refine AB (X5 h4.g) (APw ?_)
  refine AE9 hok0 λH5 n5 f5=>?_
  have f05:=f4.trans f5
  have h5:=h.kp o f05
  have hn5:=f5.le
  refine AB (X5 h5.g) (CX (Jf ..) ?_)
  rw[hinv.1]
  refine o9 rfl (xW (Gp (f5.get g4 (by omega))) (AQO ?_))
  refine AE9 hok1 λH6 n6 f6=>?_
  have f06:=f05.trans f6
  have h6:=h.kp o f06
  refine AB (X5 h6.g) (CX (Jf ..) ?_)
  rw[hinv.2]
  refine o9 rfl (xP ?_)
  exact rest H6 n6 f06
end
end Go.RL
