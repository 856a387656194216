/- Part of a proof; nothing is assumed. -/
import Derived.Test.YtmbhlmocojopaaaGreatDoorConF
set_option linter.unusedVariables false
set_option linter.unusedSimpArgs false
namespace Go.RL
open Go.DK
set_option maxRecDepth 100000
structure Kq where
 kb:Nat
 n0:Nat
 t:Nat
 a:Nat
 b:Nat
 tb:Tab
 cl:Nat
 cc:Nat
 cls:St
 sup:St
 vf:V
 vm:V
structure Km where
 ml:Nat
 mc:Nat
 nm:St
 st:Bool
 vp:V
 ret:Ty
 vb:V
def Kq.cells(K:Kq)(M:Km)(vv:V)(all:Nat):LV:=[.ptr K.t 0,vv,.int .i64 (.ofNat all) 0,.int .i64 (.ofNat K.cl) 0,.int .i64 (.ofNat K.cc) 0,K.cls.v,K.sup.v,K.vf,K.vm,
 .int .i64 (.ofNat M.ml) 0,.int .i64 (.ofNat M.mc) 0,M.nm.v,.bool M.st,M.vp,M.ret.nm.v,.bool M.ret.arr,M.vb,.int .i64 (.ofNat 0) 0,.int .i64 (.ofNat 0) 0,.int .i64 (.ofNat 0) 0]
def Kq.x(K:Kq)(M:Km):Kx:=⟨K.tb,K.cls,M.st,M.ret⟩
structure Yg(G:AX)(K:Kq):Prop where
 n0:K.n0<=K.kb
 ta:K.t<K.n0
 aa:K.a<K.n0
 ba:K.b<K.n0
 ar:∀s c,Ie K.tb s=some c->∀m∈c.ms,m.ps.length<=1000
 tn:∀s c,Ie K.tb s=some c->(∀f∈c.fs,f.ty.nm.ok)/\∀m∈c.ms,m.ret.nm.ok
 tl:K.tb.length<=1000
 cls:K.cls.ok
 sub:jS G
structure nP(G:AX)(H:Heap)(n:Nat)(K:Kq)(M:Km)(vv:V)(all:Nat)(Γ:List DJ):Prop where
 g:T.get H K.kb=some (one (K.cells M vv all))
 tab:TabAt G H K.n0 K.t K.a K.b K.tb
 kn:K.kb<n
 sk:Sk H 3 (λid=>K.kb<id/\id<n) vv (Γ.map QZ)
 la:Γ.length<=all
 al:all<=200
 ok:∀f∈Γ,f.ty.nm.ok
 ret:M.ret.nm.ok
theorem TabAt.up{G:AX}{H:Heap}{n n' t a b:Nat}{fs:Tab}(h:TabAt G H n t a b fs)(hn:n<=n'):TabAt G H n' t a b fs:=
 h.kb ⟨hn,λ_ _ _=>rfl,λh=>h⟩
theorem nP.kb{G:AX}{H H':Heap}{n n':Nat}{K:Kq}{M:Km}{vv:V}{all:Nat}{Γ:List DJ}(o:Yg G K)(h:nP G H n K M vv all Γ)(f:Kb K.b H n H' n'):nP G H' n' K M vv all Γ:=by
 have:=o.n0;have:=o.ba
 exact⟨f.get h.g h.kn (by omega),h.tab.kb (f.low (by have:=h.kn;omega)),Nat.lt_of_lt_of_le h.kn f.le,h.sk.mono (λid hid=>⟨hid.1,Nat.lt_of_lt_of_le hid.2 f.le⟩) λid hid=>f.same id hid.2 (by omega),h.la,h.al,h.ok,h.ret⟩
theorem nP.kp{G:AX}{H H':Heap}{n n':Nat}{K:Kq}{M:Km}{vv:V}{all:Nat}{Γ:List DJ}(o:Yg G K)(h:nP G H n K M vv all Γ)(f:Kp H n H' n'):nP G H' n' K M vv all Γ:=
 h.kb o (f.kb (by have:=h.kn;have:=o.n0;have:=o.ba;omega))
theorem nP.lt{G:AX}{H:Heap}{n:Nat}{K:Kq}{M:Km}{vv:V}{all:Nat}{Γ:List DJ}(h:nP G H n K M vv all Γ):Γ.length<=200:=Nat.le_trans h.la h.al
theorem nP.bn{G:AX}{H:Heap}{n:Nat}{K:Kq}{M:Km}{vv:V}{all:Nat}{Γ:List DJ}(o:Yg G K)(h:nP G H n K M vv all Γ):K.b<n:=by
 have:=h.kn;have:=o.n0;have:=o.ba;omega
theorem nP.up{G:AX}{H:Heap}{n:Nat}{K:Kq}{M:Km}{vv:V}{all:Nat}{Γ:List DJ}(o:Yg G K)(h:nP G H n K M vv all Γ):TabAt G H n K.t K.a K.b K.tb:=
 h.tab.up (by have:=h.kn;have:=o.n0;omega)
section
variable{G:AX}{H:Heap}{n:Nat}{K:Kq}{M:Km}{vv:V}{all:Nat}{Γ:List DJ}{k:KV}{A:Nat->Prop}
theorem RD{ec p0 p1:V}(g:T.get H K.kb=some (one (K.cells M vv all)))(hn:K.kb<n)(hk:∀H',Kp H n H' (n+1)->k (.bool true) H' (n+1)):
 Runs F G Aw [.ptr K.kb 0,.bool true,ec,.agg [p0,p1]] H n k:=by
 refine go4 (rU BK G) ?_
 delta YJ
 refine DY λH1 f1 g1=>?_
 rw[Ef,AQ]
 show Aa (.bool false) true _ _
 rw[Ai]
 delta Ky
 rw[BU,AQ,Ae,AQ,Dk,AQ]
 refine AB (AV (off:=0+17) (f1.get g hn) rfl) ?_
 refine AB (CY ..) ?_
 exact hk H1 f1
theorem ACf{v:V}{cs:Dy}{es:List Te}{t:Ty}(g:T.get H K.kb=some (one (K.cells M vv all)))(hn:K.kb<n)(h1:El G H v 11 cs)(h5:∀id,v.D9=some id->A id)(h6:Gh G H A cs es)(hA:∀id,A id->id<n)(hall:∀e∈es,e.of=t)(hln:es.length<=1000000)
 (hk:∀H' n',Kp H n H' n'->k (.bool true) H' n'):Runs F G EU [.ptr K.kb 0,v,t.v] H n k:=by
 refine go3 (pX BK G) ?_
 delta Xj
 refine DY λH1 f1 g1=>?_
 have hlen:=(h1.same (H':=H1) λid hid=>f1.same id (hA id (h5 id hid))).len
 rw[h6.len]at hlen
 refine AB hlen ?_
 refine CP (N:=es.length) (J:=λj q=>∃H' n',q=(.ptr K.kb 0,.ptr n 0,v,.int .i64 (.ofNat es.length) 0,.int .i64 (.ofNat j) 0,H',n')/\Kp H1 (n+1) H' n') ?_ ?_ ⟨H1,n+1,rfl,Kp.refl _ _⟩
 ·rintro I j q hlt ⟨H2,n2,rfl,f2⟩ ih
  show Hw lfp G (Runs F G) k I (.ptr K.kb 0) (.ptr n 0) v (.int .i64 (.ofNat es.length) 0) (.int .i64 (.ofNat j) 0) H2 n2
  delta Hw
  have f12:=f1.trans f2
  have hn2:=f12.le
  obtain⟨l,hl,he⟩:=(Gh.mono (H':=H2) (λ_ h=>h) (λid hid=>f12.same id (hA id hid)) h6).at (List.getElem?_eq_getElem hlt)
  obtain⟨p,hpp,hld⟩:=(h1.same (H':=H2) λid hid=>f12.same id (hA id (h5 id hid))).at hl
  have hof:=hall _ (List.getElem_mem hlt)
  generalize es[j]=e at he hof
  rw[Dl,AQ,decide_eq_true hlt,A8]
  refine AB hpp (AB (DW hld) ?_)
  refine Au rfl λH3 f3 g3=>?_
  refine Bq g3 rfl he.len (by omega) λH4 g4 s4=>?_
  have f24:Kp H2 n2 H4 (n2+1):=⟨f3.le,λid hid=>(s4 id (by omega)).trans (f3.same id hid)⟩
  cases he with
  |mk kind num nm ty of own line col hev hvk hva hvc=>
   obtain rfl:of=t:=hof
   rw[Ae,AQ]
   refine AB (Dh (off:=0+8) (m:=2) g4 (by omega) (by show 0+8+2<=11;omega)) ?_
   have g1':T.get H4 n=_:=f24.get (f2.get g1 (by omega)) (by have:=f2.le;omega)
   refine AB (DZ g1') ?_
   refine AB (ZJ of of) ?_
   rw[Ty.oz,Ae,AQ]
   refine AB (Dh (off:=0+1) (m:=2) g4 (by omega) (by show 0+1+2<=11;omega)) ?_
   refine RD (K:=K) (f24.get (f12.get g hn) (by omega)) (by omega) λH5 f5=>?_
   rw[Ef,AQ]
   show Aa (.bool false) true _ _
   rw[Ai,Eu (by omega),AQ]
   exact ih _ ⟨H5,n2+1+1,rfl,f2.trans (f24.trans f5)⟩
 ·rintro I q ⟨H2,n2,rfl,f2⟩
  show Hw lfp G (Runs F G) k I (.ptr K.kb 0) (.ptr n 0) v (.int .i64 (.ofNat es.length) 0) (.int .i64 (.ofNat es.length) 0) H2 n2
  delta Hw
  rw[Dl,AQ,decide_eq_false (Nat.lt_irrefl _),Ai]
  exact hk H2 n2 (f1.trans f2)
theorem AGd{s:St}:∀{Γ:List DJ} {j:Nat},FP s (Γ.take j)=none->∀{f:DJ},Γ[j]? =some f->(f.nm=s->FP s Γ=some f.ty)/\(f.nm≠s->FP s (Γ.take (j+1))=none)
 |[],_,_,_,h=>by simp at h
 |g::l,0,_,f,h=>by
  cases h
  refine⟨λe=>?_,λe=>?_⟩
  ·show(bif decide (g.nm=s)then some g.ty else FP s l)=_
   rw[decide_eq_true e];rfl
  ·show(bif decide (g.nm=s)then some g.ty else FP s (l.take 0))=_
   rw[decide_eq_false e];rfl
 |g::l,j+1,hn,f,h=>by
  have hn:(bif decide (g.nm=s)then some g.ty else FP s (l.take j))=none:=hn
  cases hd:decide (g.nm=s)with
  |true=>rw[hd]at hn;cases hn
  |false=>
   rw[hd]at hn
   obtain⟨h1,h2⟩:=AGd (j:=j) hn (show l[j]? =some f from h)
   refine⟨λe=>?_,λe=>?_⟩
   ·show(bif decide (g.nm=s)then some g.ty else FP s l)=_
    rw[hd];exact h1 e
   ·show(bif decide (g.nm=s)then some g.ty else FP s (l.take (j+1)))=_
    rw[hd];exact h2 e
theorem ASG{s:St}(o:Yg G K)(h:nP G H n K M vv all Γ)(hk:∀H' n',Kp H n H' n'->k (.G5 [((FP s Γ).getD OU).v,.bool (FP s Γ).isSome]) H' n'):Runs F G U7 [.ptr K.kb (0+1),s.v] H n k:=by
 refine go2 (zD BK G) ?_
 delta Zu
 refine Au rfl λH1 f1 g1=>?_
 have h1:=h.kp o f1
 rw[BU,AQ,Dk,AQ]
 refine AB (AV (off:=0+1) h1.g (v:=vv) rfl) ?_
 have hlen:=(h1.sk.el (G:=G) (by omega)).len
 rw[List.length_map]at hlen
 have hln:=h.lt
 refine AB hlen ?_
 refine CP (N:=Γ.length) (J:=λj q=>∃H' n',q=(s.v,.ptr n 0,vv,.int .i64 (.ofNat Γ.length) 0,.int .i64 (.ofNat j) 0,H',n')/\Kp H1 (n+1) H' n'/\FP s (Γ.take j)=none) ?_ ?_ ⟨H1,n+1,rfl,Kp.refl _ _,rfl⟩
 ·rintro I j q hlt ⟨H2,n2,rfl,f2,hnone⟩ ih
  show Ji lfp G (Runs F G) k I s.v (.ptr n 0) vv (.int .i64 (.ofNat Γ.length) 0) (.int .i64 (.ofNat j) 0) H2 n2
  delta Ji
  have h2:=h1.kp o f2
  obtain⟨p,hpp,hld⟩:=(h2.sk.el (G:=G) (by omega)).at (i:=j) (c:=QZ Γ[j]) (by simp[hlt])
  obtain⟨q1,q2⟩:=AGd hnone (List.getElem?_eq_getElem hlt)
  generalize Γ[j]=f at hld q1 q2
  rw[Dl,AQ,decide_eq_true hlt,A8]
  refine AB hpp (AB (DW hld) ?_)
  refine Au rfl λH3 f3 g3=>?_
  refine Bq g3 rfl rfl (by omega) λH4 g4 s4=>?_
  have hn2:=f2.le
  have f24:Kp H2 n2 H4 (n2+1):=⟨f3.le,λid hid=>(s4 id (by omega)).trans (f3.same id hid)⟩
  rw[Dk,AQ]
  refine AB (AV (off:=0) g4 (v:=f.nm.v) rfl) ?_
  refine AB (show Dc (.one .str) false f.nm.v s.v=some (.bool (decide (f.nm.1=s.1/\f.nm.2=s.2)))from ADc ..) ?_
  by_cases e:f.nm=s
  ·rw[show decide (f.nm.1=s.1/\f.nm.2=s.2)=true by rw[e];simp,A8,Ae,AQ]
   refine AB (Dh (off:=0+1) (m:=2) g4 (by omega) (by show 0+1+2<=3;omega)) ?_
   have g1':=f24.get (f2.get g1 (by omega)) (by omega)
   refine Bq g1' rfl rfl (by omega) λH5 g5 s5=>?_
   rw[Cm (m:=2) g5 (by omega) rfl]
   simp only[go_sem]
   have:=hk H5 (n2+1) ⟨by omega,λid hid=>(s5 id (by omega)).trans ((f24.same id (by omega)).trans ((f2.same id (by omega)).trans (f1.same id hid)))⟩
   rw[q1 e]at this
   exact this
  ·rw[show decide (f.nm.1=s.1/\f.nm.2=s.2)=false from decide_eq_false λh=>e (Prod.ext h.1 h.2),Ai,Eu (by omega),AQ]
   exact ih _ ⟨H4,n2+1,rfl,f2.trans f24,q2 e⟩
 ·rintro I q ⟨H2,n2,rfl,f2,hnone⟩
  show Ji lfp G (Runs F G) k I s.v (.ptr n 0) vv (.int .i64 (.ofNat Γ.length) 0) (.int .i64 (.ofNat Γ.length) 0) H2 n2
  delta Ji
  rw[Dl,AQ,decide_eq_false (Nat.lt_irrefl _),Ai]
  delta Qw
  refine AB (v:=OU.v) rfl ?_
  have hn2:=f2.le
  refine Bq (f2.get g1 (by omega)) rfl rfl (by omega) λH5 g5 s5=>?_
  rw[Cm (m:=2) g5 (by omega) rfl]
  simp only[go_sem]
  rw[List.take_of_length_le (Nat.le_refl _)]at hnone
  have:=hk H5 n2 ⟨by omega,λid hid=>(s5 id (by omega)).trans ((f2.same id (by omega)).trans (f1.same id hid))⟩
  rw[hnone]at this
  exact this
end
def ALT(G:AX)(K:Kq)(M:Km)(Γ:List DJ)(e:Te):Prop:=∀(H:Heap) (n:Nat) (A:Nat->Prop) (l:LV) (e':Te) (vv:V) (all:Nat) (k:KV),nP G H n K M vv all Γ->FQ G H A l e->(∀id,A id->id<n/\id≠K.b)->ckE (K.x M) Γ e=some e'->
 (∀H' n' l',Kb K.b H n H' n'->FQ G H' (Rg n n') l' e'->k (.agg l') H' n')->Runs F G Sv [.ptr K.kb 0,.agg l] H n k
structure Kbc(b c:Nat)(H:Heap)(n:Nat)(H':Heap)(n':Nat):Prop where
 le:n<=n'
 same:∀id,id<n->id≠b->id≠c->T.get H' id=T.get H id
 seen:MI H b->MI H' b
theorem Kbc.trans{b c:Nat}{H H' H'':Heap}{n n' n'':Nat}(x:Kbc b c H n H' n')(y:Kbc b c H' n' H'' n''):Kbc b c H n H'' n'':=
 ⟨Nat.le_trans x.le y.le,λid h hb hc=>(y.same id (Nat.lt_of_lt_of_le h x.le) hb hc).trans (x.same id h hb hc),λh=>y.seen (x.seen h)⟩
theorem Kb.bc{b:Nat}{H H':Heap}{n n':Nat}(c:Nat)(x:Kb b H n H' n'):Kbc b c H n H' n':=⟨x.le,λid h hb _=>x.same id h hb,x.seen⟩
theorem Kbc.low{b c m:Nat}{H H':Heap}{n n':Nat}(x:Kbc b c H n H' n')(hm:m<=c)(hn:m<=n):Kb b H m H' n':=⟨Nat.le_trans hn x.le,λid h hb=>x.same id (Nat.lt_of_lt_of_le h hn) hb (by omega),x.seen⟩
theorem Kbc.box{b c:Nat}{H H':Heap}{n:Nat}(hb:b≠c)(h:∀id,id≠c->T.get H' id=T.get H id):Kbc b c H n H' n:=⟨Nat.le_refl _,λid _ _ hc=>h id hc,λhs=>hs.same (h b hb)⟩
theorem set_mid{α:Type}{ds cs:List α}{j:Nat}{a x:α}(hl:ds.length=j)(h:cs[j]? =some a):(ds++cs.drop j).set j x=(ds++[x])++cs.drop (j+1):=by
 obtain⟨hlt,_⟩:=List.getElem?_eq_some_iff.1 h
 subst hl
 have e:(cs.drop ds.length).set 0 x=x::cs.drop (ds.length+1):=by rw[List.drop_eq_getElem_cons hlt];rfl
 rw[List.set_append,if_neg (by omega),Nat.sub_self,e,List.append_assoc];rfl
theorem AJp{α:Type}{ds cs:List α}{j:Nat}(hl:ds.length=j):(ds++cs.drop j)[j]? =cs[j]? :=by
 subst hl
 rw[List.getElem?_append_right (by omega),Nat.sub_self,List.getElem?_drop,Nat.add_zero]
section
variable{G:AX}{H:Heap}{n m c:Nat}{K:Kq}{M:Km}{vv:V}{all:Nat}{Γ:List DJ}{k:KV}{A:Nat->Prop}
theorem AW9{kind num:Nat}{nm:St}{ty of:Ty}{own:St}{line col:Nat}{v:V}{es es':List Te}(o:Yg G K)(hX:∀e∈es,ALT G K M Γ e)(h:nP G H m K M vv all Γ)(hmc:m<=c)(hcn:c<n)
 (hA:∀id,A id->id<m/\id≠K.b) (gc:T.get H c=some (one (LM kind num nm ty of own line col v))) (he:QI G H A v es) (hln:es.length<=10000) (hck:uS (K.x M) Γ es=some es')
 (hk:∀H' n' v',Kbc K.b c H n H' n'->T.get H' c=some (one (LM kind num nm ty of own line col v'))->QI G H' (Rg n n') v' es'->k (.bool true) H' n'):Runs F G YT [.ptr K.kb 0,.ptr c 0] H n k:=by
 refine go2 (ru BK G) ?_
 delta YV
 have hkn:=h.kn
 have hbm:=h.bn o
 obtain⟨cs,e1,-,-,-,e5,hts⟩:=he
 have hcl:=hts.len
 rw[BU,AQ,Ae,AQ]
 refine AB (AV (off:=0+7) gc (v:=v) rfl) ?_
 refine AEB e1 (λid hid=>by have:=hA id (e5 id hid);omega) (by omega) λv' H1 n1 f1 sk=>?_
 have hn1:=f1.le
 rw[AQ,Ae,AQ]
 refine Ib (off:=0+7) (m:=1) (v:=v') (f1.get gc hcn) sk.ok.1 (by rw[sk.ok.2.1];rfl) (by omega) (by show 0+7+1<=11;omega) λH2 g2 s2=>?_
 rw[sk.ok.2.1]at g2
 have f2:Kbc K.b c H n H2 n1:=(f1.kb (b:=K.b) (by omega)).bc c |>.trans (.box (by omega) s2)
 have sk2:Sk H2 11 (λid=>n<=id/\id<n1) v' cs:=sk.mono (λ_ h=>h) λid h=>s2 id (by omega)
 rw[AQ,Ae,AQ]
 have q2:∀{H':Heap},T.get H' c=some (one (LM kind num nm ty of own line col v'))->AY (.ptr c (0+7)) G H'=some v':=λg=>AV (off:=0+7) g rfl
 refine AB (q2 g2) ?_
 have hlen:=(sk2.el (G:=G) (by omega)).len
 rw[hcl]at hlen
 refine AB hlen ?_
 have hel:=ABg hck
 refine CP (N:=es.length) (J:=λj q=>∃H' n' ds,q=(.ptr K.kb 0,.ptr c 0,v',.int .i64 (.ofNat es.length) 0,.int .i64 (.ofNat j) 0,H',n')/\Kbc K.b c H n H' n'/\n1<=n'/\T.get H' c=some (one (LM kind num nm ty of own line col v'))/\
  Sk H' 11 (λid=>n<=id/\id<n1) v' (ds++cs.drop j)/\Gh G H' (λid=>n<=id/\id<n'/\v'.D9≠some id) ds (es'.take j)/\ds.length=j) ?_ ?_ ⟨H2,n1,[],rfl,f2,Nat.le_refl _,g2,sk2,.nil,rfl⟩
 ·rintro I j q hlt ⟨H3,n3,ds,rfl,f3,hn3,g3,sk3,hds,hdl⟩ ih
  show Hu lfp G (Runs F G) k I (.ptr K.kb 0) (.ptr c 0) v' (.int .i64 (.ofNat es.length) 0) (.int .i64 (.ofNat j) 0) H3 n3
  delta Hu
  have hts3:=Gh.mono (H':=H3) (λ_ h=>h) (λid hid=>f3.same id (by have:=hA id hid;omega) (hA id hid).2 (by have:=hA id hid;omega)) hts
  have hget:=List.getElem?_eq_getElem hlt
  obtain⟨l,hl,het⟩:=hts3.at hget
  obtain⟨e',he',hce⟩:=ACu hck hget
  have hX1:=hX _ (List.getElem_mem hlt)
  generalize es[j]=e at het hce hX1
  obtain⟨p,hpp,hld⟩:=(sk3.el (G:=G) (by omega)).at (i:=j) (c:=l) (by rw[AJp hdl];exact hl)
  rw[Dl,AQ,decide_eq_true hlt,A8]
  refine AB hpp (AB (DW hld) ?_)
  refine Au rfl λH4 f4 g4=>?_
  refine Bq g4 rfl het.len (by omega) λH5 g5 s5=>?_
  have f35:Kp H3 n3 H5 (n3+1):=⟨f4.le,λid hid=>(s5 id (by omega)).trans (f4.same id hid)⟩
  rw[BU,AQ,Ae,AQ]
  refine AB (q2 (f35.get g3 (by omega))) (AB (BI (m:=11) g5 (by omega) het.len) ?_)
  have f05:Kbc K.b c H n H5 (n3+1):=f3.trans ((f35.kb (b:=K.b) (by omega)).bc c)
  have h5:=h.kb o (f05.low hmc (by omega))
  have het5:FQ G H5 A l e:=het.mono (λ_ h=>h) λid hid=>f35.same id (by have:=hA id hid;omega)
  refine hX1 H5 (n3+1) A l e' vv all _ h5 het5 (λid hid=>by have:=hA id hid;exact⟨by omega,this.2⟩) hce λH6 n6 l' f6 het6=>?_
  have hn6:=f6.le
  have g6:T.get H6 c=_:=f6.get (f35.get g3 (by omega)) (by omega) (by omega)
  refine AB (q2 g6) (Bd sk.ok.2.2 ?_)
  have f36:Kb K.b H3 n3 H6 n6:=(f35.kb (b:=K.b) (by omega)).trans f6
  have sk6:Sk H6 11 (λid=>n<=id/\id<n1) v' (ds++cs.drop j):=sk3.mono (λ_ h=>h) λid h=>f36.same id (by omega) (by omega)
  have hlj:j<(ds++cs.drop j).length:=by rw[List.length_append,List.length_drop];omega
  refine sk6.put (i:=j) (w:=.agg l') (by omega) hlj rfl het6.len λH7 sk7 s7=>?_
  rw[show Bl (.agg l')=l' from rfl,set_mid hdl hl]at sk7
  rw[Eu (by omega),AQ]
  have vne:∀id,id<n∨n1<=id->v'.D9≠some id:=λid h e=>by have:=sk.own e;omega
  refine ih _ ⟨H7,n6,ds++[l'],rfl,?_,by omega,(s7 c (vne c (.inl hcn))).trans g6,sk7,?_,by rw[List.length_append,hdl];rfl⟩
  ·exact⟨by have:=f3.le;omega,λid h1 h2 h3=>(s7 id (vne id (.inl h1))).trans ((f36.same id (by have:=f3.le;omega) h2).trans (f3.same id h1 h2 h3)),λhs=>(f36.seen (f3.seen hs)).same (s7 _ (vne _ (.inl (by omega))))⟩
  ·rw[take_snoc he']
   refine(Gh.mono (λid hid=>⟨hid.1,by omega,hid.2.2⟩) (λid hid=>(s7 id hid.2.2).trans (f36.same id hid.2.1 (by omega))) hds).app (.cons (het6.mono (λid hid=>⟨by have:=hid.1;omega,hid.2,vne id (.inr (by have:=hid.1;omega))⟩) λid hid=>s7 id (vne id (.inr (by have:=hid.1;omega)))) .nil)
 ·rintro I q ⟨H3,n3,ds,rfl,f3,hn3,g3,sk3,hds,hdl⟩
  show Hu lfp G (Runs F G) k I (.ptr K.kb 0) (.ptr c 0) v' (.int .i64 (.ofNat es.length) 0) (.int .i64 (.ofNat es.length) 0) H3 n3
  delta Hu
  rw[Dl,AQ,decide_eq_false (Nat.lt_irrefl _),Ai]
  delta PS
  have h3:=h.kb o (f3.low hmc (by omega))
  rw[BU,AQ,Ae,AQ,Dk,AQ]
  refine AB (AV (off:=0+17) h3.g rfl) ?_
  refine AB (CY ..) ?_
  rw[List.drop_eq_nil_of_le (by omega),List.append_nil]at sk3
  rw[List.take_of_length_le (by omega)]at hds
  refine hk H3 n3 v' f3 g3 ⟨ds,sk3.el (by omega),sk3.ks,sk3.ok.1,sk3.ok.2.1,λid hid=>by have:=sk3.own hid;exact⟨this.1,by omega⟩,Gh.mono (λid hid=>⟨hid.1,hid.2.1⟩) (λ_ _=>rfl) hds⟩
end
structure Kid(G:AX)(v:V)(cs:Dy)(i:Nat)(l:LV)(p q1 q8 q9:V):Prop where
 ip:Az 11 v (.int .i64 (.ofNat i) 0)=some p
 i1:AU 1 p=some q1
 i8:AU 8 p=some q8
 i9:AU 1 q8=some q9
 ld:∀H',El G H' v 11 cs->Ad 11 p G H'=some (.agg l)/\Ad 2 q1 G H'=some (.agg ((l.drop 1).take 2))/\Ad 2 q8 G H'=some (.agg ((l.drop 8).take 2))/\∀x,l[9]? =some x->AY q9 G H'=some x
theorem qG{G:AX}(hG:jS G){H:Heap}{v:V}{cs:Dy}{i:Nat}{l:LV}(h:El G H v 11 cs)(hi:cs[i]? =some l)(hl:l.length=11):∃p q1 q8 q9,Kid G v cs i l p q1 q8 q9:=by
 obtain⟨p,hp,hld⟩:=h.at hi
 obtain⟨q1,h1,_⟩:=gI hG hld hl (o:=1) (m:=2) (by omega) (by omega)
 obtain⟨q8,h8,hl8⟩:=gI hG hld hl (o:=8) (m:=2) (by omega) (by omega)
 have hln:((l.drop 8).take 2).length=2:=by rw[List.length_take,List.length_drop];omega
 obtain⟨q9,h9,_⟩:=gI hG hl8 hln (o:=1) (m:=1) (by omega) (by omega)
 refine⟨p,q1,q8,q9,hp,h1,h8,h9,λH' h'=>?_⟩
 obtain⟨p',hp',hld'⟩:=h'.at hi
 rw[hp]at hp';cases hp'
 obtain⟨r1,e1,g1⟩:=gI hG hld' hl (o:=1) (m:=2) (by omega) (by omega)
 rw[h1]at e1;cases e1
 obtain⟨r8,e8,g8⟩:=gI hG hld' hl (o:=8) (m:=2) (by omega) (by omega)
 rw[h8]at e8;cases e8
 refine⟨DW hld',DW g1,DW g8,λx hx=>?_⟩
 obtain⟨r9,e9,g9⟩:=Vu hG g8 hln (o:=1) (x:=x) (by rw[List.getElem?_take,if_pos (by omega),List.getElem?_drop];exact hx)
 rw[h9]at e9;cases e9
 exact g9
theorem AT6{z b o ln c e l:Nat}(h1:l<=ln)(h2:ln<=c):AC0 z (.rsl b o ln c e) E0 (some (.c (.int .i64 (.ofNat l) 0))) none none=some (.rsl b (o+l*z) (ln-l) (c-l) e):=by
 show CO (band (Nat.ble l ln) (Nat.ble ln c)) (En (o+l*z) λa=>En (ln-l) λb'=>En (c-l) λc'=>some (.rsl b a b' c' e))=_
 rw[show Nat.ble l ln=true by rw[Nat.ble_eq];exact h1,show Nat.ble ln c=true by rw[Nat.ble_eq];exact h2,DU,DU,DU];rfl
theorem AQh{G:AX}{H:Heap}{b o n c z e l c' e':Nat}{LS:Dy}(h:El G H (.rsl b o n c e) z LS):El G H (.rsl b (o+l*z) (n-l) c' e') z (LS.drop l):=by
 obtain⟨h1,h2⟩:=aj _ _ (show jJ G b z n o=some LS from h.2)
 rw[show n-l=(LS.drop l).length by simp[h1]]
 refine ARz λi L hi=>?_
 rw[List.getElem?_drop]at hi
 have:=h2 _ _ hi
 rwa [Nat.add_mul,<-Nat.add_assoc]at this
theorem El.tail{G:AX}{H:Heap}{v:V}{z:Nat}{c:LV}{cs:Dy}(h:El G H v z (c::cs))(hk:KS v):∃w,AC0 z v E0 (some (.c (.int .i64 (.ofNat 1) 0))) none none=some w/\El G H w z cs/\w.D9=v.D9:=by
 obtain⟨h1,h2⟩:=h
 cases v<;>try (cases h2;done)
 ·cases h1
 ·rename_i id off m cp e
  have hle:=hk.2.1 _ _ _ _ _ rfl
  cases hb:Nat.beq e z with
  |false=>have h':(Bool.rec (motive:=λ_=>Option Dy) none (DV H id z m off) (Nat.beq e z):Option Dy)=some (c::cs):=h2;rw[hb]at h';cases h'
  |true=>
   have h':(Bool.rec (motive:=λ_=>Option Dy) none (DV H id z m off) (Nat.beq e z):Option Dy)=some (c::cs):=h2
   rw[hb]at h'
   have h':DV H id z m off=some (c::cs):=h'
   obtain⟨hl,hat⟩:=TK _ _ h'
   have hez:e=z:=by simpa using hb
   subst hez
   rw[List.length_cons]at hl
   refine⟨.sl id (off+1) (m-1) (cp-1) e,?_,⟨rfl,?_⟩,rfl⟩
   ·show CO (Nat.beq e e) (CO (band (Nat.ble 1 m) (band (Nat.ble m cp) (Nat.ble cp cp))) (f3 (off+1) (m-1) (cp-1) λo d c=>.sl id o d c e))=_
    rw[EZ,show Nat.ble 1 m=true by rw[Nat.ble_eq];omega,show Nat.ble m cp=true by rw[Nat.ble_eq];exact hle,show Nat.ble cp cp=true by rw[Nat.ble_eq];exact Nat.le_refl _]
    show En (off+1) (λa=>En (m-1) λb=>En (cp-1) λc=>some (.sl id a b c e))=_
    rw[DU,DU,DU]
   ·show(Bool.rec (motive:=λ_=>Option Dy) none (DV H id e (m-1) (off+1)) (Nat.beq e e):Option Dy)=some cs
    rw[EZ]
    exact Zn _ _ _ (by omega) λi x hx=>by
     have:=hat (i+1) x (by simpa using hx)
     rwa [show off+(i+1)=off+1+i by omega]at this
 ·rename_i id off m e
  cases hb:Nat.beq e z with
  |false=>have h':(Bool.rec (motive:=λ_=>Option Dy) none (DV H id z m off) (Nat.beq e z):Option Dy)=some (c::cs):=h2;rw[hb]at h';cases h'
  |true=>
   have h':(Bool.rec (motive:=λ_=>Option Dy) none (DV H id z m off) (Nat.beq e z):Option Dy)=some (c::cs):=h2
   rw[hb]at h'
   have h':DV H id z m off=some (c::cs):=h'
   obtain⟨hl,hat⟩:=TK _ _ h'
   have hez:e=z:=by simpa using hb
   subst hez
   rw[List.length_cons]at hl
   refine⟨.OT id (off+1) (m-1) e,?_,⟨rfl,?_⟩,rfl⟩
   ·show CO (Nat.beq e e) (CO (band (Nat.ble 1 m) (Nat.ble m m)) (f3 (off+1) (m-1) 0 λo d _=>.OT id o d e))=_
    rw[EZ,show Nat.ble 1 m=true by rw[Nat.ble_eq];omega,show Nat.ble m m=true by rw[Nat.ble_eq];exact Nat.le_refl _]
    show En (off+1) (λa=>En (m-1) λb=>En 0 λ_=>some (.OT id a b e))=_
    rw[DU,DU,DU]
   ·show(Bool.rec (motive:=λ_=>Option Dy) none (DV H id e (m-1) (off+1)) (Nat.beq e e):Option Dy)=some cs
    rw[EZ]
    exact Zn _ _ _ (by omega) λi x hx=>by
     have:=hat (i+1) x (by simpa using hx)
     rwa [show off+(i+1)=off+1+i by omega]at this
 ·rename_i b o m cp e
  have hle:=hk.2.2 _ _ _ _ _ rfl
  obtain⟨hl,_⟩:=aj _ _ (show jJ G b z m o=some (c::cs)from h2)
  rw[List.length_cons]at hl
  exact⟨.rsl b (o+1*z) (m-1) (cp-1) e,AT6 (l:=1) (by omega) hle,AQh (l:=1) (LS:=c::cs) ⟨h1,h2⟩,rfl⟩
theorem kX{tb:Tab}:∀{gs ps:List Ty},Z5 tb gs ps=true->gs.length=ps.length
 |[],[],_=>rfl
 |[],_::_,h=>by cases h
 |_::_,[],h=>by cases h
 |a::l,p::ps,h=>by
  have h:(fitsT tb a p&&Z5 tb l ps)=true:=h
  rw[Bool.and_eq_true]at h
  rw[List.length_cons,List.length_cons,kX h.2]
theorem AIp{tb:Tab}:∀{gs ps:List Ty},Z5 tb gs ps=true->∀{i:Nat} {a p:Ty},gs[i]? =some a->ps[i]? =some p->fitsT tb a p=true
 |[],_,_,i,a,p,ha,_=>by simp at ha
 |_::_,[],h,_,_,_,_,_=>by cases h
 |a::l,q::ps,h,i,b,p,ha,hp=>by
  have h:(fitsT tb a q&&Z5 tb l ps)=true:=h
  rw[Bool.and_eq_true]at h
  cases i with
  |zero=>cases ha;cases hp;exact h.1
  |succ i=>exact AIp h.2 (i:=i) ha hp
section
variable{G:AX}{H:Heap}{n:Nat}{K:Kq}{M:Km}{vv:V}{all:Nat}{Γ:List DJ}{k:KV}{B:Nat->Prop}
theorem AXN{kind num:Nat}{nm:St}{ty of:Ty}{own:St}{line col:Nat}{v w u:V}{cs:Dy}{es:List Te}{m:Ej}(o:Yg G K)(h:nP G H n K M vv all Γ)(hw:El G H w 11 cs)(hwo:∀id,w.D9=some id->id<n/\id≠K.b)
 (hts:Gh G H B cs es) (hB:∀id,B id->id<n/\id≠K.b) (hok:∀e∈es,e.of.nm.ok) (hu:Vs G H n u m.ps) (hfit:Z5 K.tb (es.map Te.of) m.ps=true) (hln:es.length<=10000)
 (hk:∀H' n',Kb K.b H n H' n'->k (.G5 []) H' n'):
 Runs F G YN [.ptr K.kb 0,.agg (LM kind num nm ty of own line col v),w,.agg (m.cells u)] H n k:=by
 refine go4 (sH BK G) ?_
 delta Yh
 have hcl:=hts.len
 have hpl:=kX hfit
 rw[List.length_map]at hpl
 have hkn:=h.kn
 have hbn:=h.bn o
 refine DY λH1 f1 g1=>?_
 refine DY λH2 f2 g2=>?_
 have f12:=f1.trans f2
 have g1:=f2.get g1 (by omega)
 have hw2:=hw.same (H':=H2) λid hid=>f12.same id (hwo id hid).1
 have hlen:=hw2.len
 rw[hcl]at hlen
 refine AB hlen ?_
 rw[Ae,AQ]
 refine AB (AV (off:=0+2) g2 (v:=u) rfl) ?_
 have hu2:=hu.kp f12
 have hul:=hu2.el.len
 rw[ACK,<-hpl]at hul
 refine AB hul (AB (CY ..) ?_)
 rw[decide_eq_true rfl,Ae,AQ]
 refine AB (Dh (off:=0+1) (m:=2) g1 (by omega) (by show 0+1+2<=11;omega)) ?_
 refine RD (K:=K) (f12.get h.g hkn) (by omega) λH3 f3=>?_
 rw[Ef,AQ]
 show Aa (.bool false) true _ _
 rw[Ai]
 have f13:=f12.trans f3
 have hlen3:=(hw.same (H':=H3) λid hid=>f13.same id (hwo id hid).1).len
 rw[hcl]at hlen3
 refine AB hlen3 ?_
 have g3:=f3.get g2 (by omega)
 refine CP (N:=es.length) (J:=λj q=>∃H' n',q=(.ptr K.kb 0,.ptr (n+1) 0,w,.int .i64 (.ofNat es.length) 0,.int .i64 (.ofNat j) 0,H',n')/\Kb K.b H n H' n'/\n+2<=n'/\T.get H' (n+1)=some (one (m.cells u))) ?_ ?_
  ⟨H3,n+1+1+1,rfl,f13.kb hbn,by omega,g3⟩
 ·rintro I j q hlt ⟨H4,n4,rfl,f4,hn4,g4⟩ ih
  show HY lfp G (Runs F G) k I (.ptr K.kb 0) (.ptr (n+1) 0) w (.int .i64 (.ofNat es.length) 0) (.int .i64 (.ofNat j) 0) H4 n4
  delta HY
  have hget:=List.getElem?_eq_getElem hlt
  have htys:=AIp hfit (i:=j) (a:=es[j].of) (p:=m.ps[j]'(by omega)) (by rw[List.getElem?_map,hget];rfl) (List.getElem?_eq_getElem (by omega))
  have AKB:=hok _ (List.getElem_mem hlt)
  have hokp:=hu.ok _ (List.getElem_mem (show j<m.ps.length by omega))
  have htat:(tys m.ps)[j]? =some (m.ps[j]'(by omega)).cells:=AJb (by omega)
  obtain⟨l,hl,het⟩:=(Gh.mono (H':=H4) (λ_ h=>h) (λid hid=>f4.same id (hB id hid).1 (hB id hid).2) hts).at hget
  obtain⟨p,hpp,hld⟩:=(hw.same (H':=H4) λid hid=>f4.same id (hwo id hid).1 (hwo id hid).2).at hl
  generalize es[j]=e at het htys AKB
  generalize m.ps[j]'(by omega)=t at htys hokp htat
  rw[Dl,AQ,decide_eq_true hlt,A8]
  refine AB hpp (AB (DW hld) ?_)
  refine Au rfl λH5 f5 g5=>?_
  refine Bq g5 rfl het.len (by omega) λH6 g6 s6=>?_
  have f46:Kp H4 n4 H6 (n4+1):=⟨f5.le,λid hid=>(s6 id (by omega)).trans (f5.same id hid)⟩
  have f6:Kb K.b H n H6 (n4+1):=f4.trans (f46.kb (by omega))
  have h6:=h.kb o f6
  rw[BU,AQ,Dk,AQ]
  refine AB (AV (off:=0) h6.g (v:=.ptr K.t 0) rfl) ?_
  cases het with
  |mk kind' num' nm' ty' of' own' line' col' hev hvk hva hvc=>
   rename_i v' cs' kids'
   have htys:fitsT K.tb of' t=true:=htys
   have AKB:of'.nm.ok:=AKB
   have qpos:∀{H':Heap},T.get H' n4=some (one (LM kind' num' nm' ty' of' own' line' col' v'))->Ad 2 (.ptr n4 (0+1)) G H'=some (.agg [.int .i64 (.ofNat line') 0,.int .i64 (.ofNat col') 0]):=λg=>Dh (off:=0+1) (m:=2) g (by omega) (by show 0+1+2<=11;omega)
   rw[Ae,AQ]
   refine AB (Dh (off:=0+8) (m:=2) g6 (by omega) (by show 0+8+2<=11;omega)) ?_
   rw[Ae,AQ]
   refine AB (AV (off:=0+2) (f46.get g4 (by omega)) (v:=u) rfl) ?_
   have hu6:=hu.ke (f6.ke h.tab.seen)
   obtain⟨pt,hpt,hldt⟩:=hu6.el.at htat
   refine AB hpt (AB (DW hldt) ?_)
   rw[Ae,AQ]
   refine AB (qpos g6) ?_
   refine AIi (x:=of') (y:=t) h6.tab (by have:=h6.kn;have:=o.n0;omega) o.tl AKB hokp λH7 n7 f7=>?_
   rw[htys]
   have hn7:=f7.le
   have g7:=f7.get g6 (by omega) (by omega)
   refine AB (qpos g7) (Bd (by exact AAZ (L:=[.int .i64 (.ofNat line') 0,.int .i64 (.ofNat col') 0]) λv hv=>by simp at hv;rcases hv with rfl|rfl<;>exact AAI ..) ?_)
   have h7:=h6.kb o f7
   refine RD (K:=K) h7.g h7.kn λH8 f8=>?_
   rw[Eu (by omega),AQ]
   have f78:Kb K.b H6 (n4+1) H8 (n7+1):=f7.trans (f8.kb (by omega))
   exact ih _ ⟨H8,n7+1,rfl,f6.trans f78,by omega,f78.get (f46.get g4 (by omega)) (by omega) (by omega)⟩
 ·rintro I q ⟨H4,n4,rfl,f4,hn4,g4⟩
  show HY lfp G (Runs F G) k I (.ptr K.kb 0) (.ptr (n+1) 0) w (.int .i64 (.ofNat es.length) 0) (.int .i64 (.ofNat es.length) 0) H4 n4
  delta HY
  rw[Dl,AQ,decide_eq_false (Nat.lt_irrefl _),Ai]
  exact hk H4 n4 f4
end
theorem ALr{G:AX}{H:Heap}{n n0 t a b:Nat}{fs:Tab}(h0:TabAt G H n0 t a b fs)(hn0:n0<=n)(hfs:fs.length<=1000){c s:St}{st:Bool}{k:KV}
 (hk:∀H' n' w,Kb b H n H' n'->xC G H' n0 w ((Iu fs c s st).getD ((0,0),Xv)).2->k (.G5 [((Iu fs c s st).getD ((0,0),Xv)).1.v,w,.bool (Iu fs c s st).isSome]) H' n'):
 Runs F G G6 [.ptr t 0,c.v,s.v,.bool st] H n k:=by
 refine go4 (YO BK G) ?_
 delta UG
 have h:=h0.up hn0
 have hbn:=h.bn
 unfold Iu at hk
 refine Au rfl λH1 f1 g1=>?_
 have f1:=f1.kb (b:=b) hbn
 refine ACZ (h.kb f1) hfs λH2 n2 v f2 ho hlen=>?_
 generalize(above fs c).1=cs at ho hk hlen
 have f3:=f1.trans f2
 have g2:=f2.get g1 (by omega) (by omega)
 have h2n:=f2.le
 simp only[go_sem,(ho.el (by omega)).len,mZ]
 refine CP (N:=cs.length) (J:=λi q=>∃H' n',q=(.ptr t 0,s.v,.bool st,.ptr n 0,v,.int .i64 (.ofNat cs.length) 0,.int .i64 (.ofNat i) 0,H',n')/\Kb b H n H' n'/\n<n'/\Own G H' (n+1) n' 1 v (strs cs)/\T.get H' n=some (one (Xv.cells .Ag))/\
  (∀H' n' w,Kb b H n H' n'->xC G H' n0 w ((Nq fs s st (cs.drop i)).getD ((0,0),Xv)).2->k (.G5 [((Nq fs s st (cs.drop i)).getD ((0,0),Xv)).1.v,w,.bool (Nq fs s st (cs.drop i)).isSome]) H' n')) ?_ ?_ ⟨H2,n2,rfl,f3,by omega,ho,g2,hk⟩
 ·rintro I i q hlt ⟨H3,n3,rfl,f3,hn3,ho,g3,hk⟩ ih
  show EL lfp G (Runs F G) k I (.ptr t 0) s.v (.bool st) (.ptr n 0) v (.int .i64 (.ofNat cs.length) 0) (.int .i64 (.ofNat i) 0) H3 n3
  delta EL
  obtain⟨q,hp,hld⟩:=(ho.el (by omega)).at (ACl hlt)
  rw[List.drop_eq_getElem_cons hlt]at hk
  unfold Nq at hk
  generalize cs[i]=m at hld hk
  simp only[go_sem,Nc,hlt,decide_true,hp,qR hld]
  refine wJ (s:=m) (n0:=n0) (h0.kb (f3.low hn0)) (by omega) λH4 n4 w f4 hw=>?_
  obtain⟨vf,vm,ws,hw,rfl⟩:=hw
  have f5:=f3.trans f4
  have h5n:=f4.le
  simp only[go_sem,Nat.reduceAdd]
  rw[T.set_set]
  refine run_set λH6 f6 g6=>?_
  have f6':=f6.kb (b:=b) (by omega)
  have f7:=f5.trans f6'
  refine ACd (s:=s) (n:=n4+1) (n0:=n0) (v:=.agg [((Ie fs m).getD FV).nm.v,((Ie fs m).getD FV).sup.v,vf,vm]) (c:=(Ie fs m).getD FV) ⟨vf,vm,ws,hw.ke ((f6.ke).low (by omega)),rfl⟩ (by omega) λH8 n8 w f8 hw=>?_
  have f8':=f8.kb (b:=b) (by omega)
  have f9:=f7.trans f8'
  have h9n:=f8.le
  have f10:=f4.trans (f6'.trans f8')
  have ho:=ho.kb f10 (by omega)
  have g10:=f10.get g3 hn3 (by omega)
  obtain⟨x,rfl,hx⟩:=hw
  unfold VL at hk
  have g11:T.get (T.set H8 n8 (one (((Ol s ((Ie fs m).getD FV).ms).getD Xv).cells x))) n8=_:=T.BX ..
  have g12:T.get (T.set H8 n8 (one (((Ol s ((Ie fs m).getD FV).ms).getD Xv).cells x))) n=_:=(T.Ap _ _ (by omega)).trans g10
  unfold Ej.cells at g11 g12⊢
  simp only[go_sem,Nat.reduceAdd]
  rw[T.set_set]
  have no:(∀H' n' w,Kb b H n H' n'->xC G H' n0 w ((Nq fs s st (cs.drop (i+1))).getD ((0,0),Xv)).2->k (.G5 [((Nq fs s st (cs.drop (i+1))).getD ((0,0),Xv)).1.v,w,.bool (Nq fs s st (cs.drop (i+1))).isSome]) H' n')->
   I (.ptr t 0,s.v,.bool st,.ptr n 0,v,.int .i64 (.ofNat cs.length) 0,.int .i64 (.ofNat (i+1)) 0,T.set H8 n8 (one (((Ol s ((Ie fs m).getD FV).ms).getD Xv).cells x)),n8+1):=λhk=>by
   refine ih _ ⟨_,_,rfl,f9.trans' (m:=n8+1) (λid hid=>T.Ap _ _ (by omega)) (by omega) hbn,by omega,ho.kp ((Kp.refl _ _).new _ (Nat.le_refl _) (by omega)),(T.Ap _ _ (by omega)).trans g10,hk⟩
  unfold Ej.cells at no
  cases h1:Ol s ((Ie fs m).getD FV).ms with
  |none=>
   rw[h1]at hk g11 g12 no
   simp only[Option.isSome_none,go_sem,Option.getD_none,Eu (show i+1<9223372036854775808 by omega)]
   exact no hk
  |some o=>
   rw[h1]at hk g11 g12 no hx
   simp only[Option.getD_some]at g11 g12 no hx
   simp only[Option.isSome_some,go_sem,Option.getD_some,Nat.reduceAdd,AV (off:=1) g11 rfl,AXI]
   cases h2:o.st==st with
   |false=>
    simp only[h2,cond_false]at hk
    simp only[go_sem,Eu (show i+1<9223372036854775808 by omega)]
    exact no hk
   |true=>
    simp only[h2,cond_true]at hk
    simp only[go_sem]
    rw[RI (m:=5) g12 (by omega) rfl rfl]
    rw[Cm (m:=5) (T.BX ..) (by omega) rfl]
    simp only[go_sem]
    have f11:∀id,id<n->T.get (T.set (T.set H8 n8 (one [o.nm.v,.bool o.st,x,o.ret.nm.v,.bool o.ret.arr])) n (one [o.nm.v,.bool o.st,x,o.ret.nm.v,.bool o.ret.arr])) id=T.get H8 id:=λid hid=>by
     rw[T.Ap _ _ (by omega),T.Ap _ _ (by omega)]
    exact hk _ _ _ (f9.trans' (m:=n8+1) f11 (by omega) hbn) ⟨x,rfl,hx.ke ((Kp.ke (n:=n) (n':=n) ⟨Nat.le_refl _,f11⟩).low hn0)⟩
 ·rintro I q ⟨H3,n3,rfl,f3,hn3,ho,g3,hk⟩
  show EL lfp G (Runs F G) k I (.ptr t 0) s.v (.bool st) (.ptr n 0) v (.int .i64 (.ofNat cs.length) 0) (.int .i64 (.ofNat cs.length) 0) H3 n3
  delta EL
  rw[List.drop_eq_nil_of_le (Nat.le_refl _)]at hk
  simp only[go_sem,Nc,Nat.lt_irrefl,decide_false]
  delta L6
  simp only[wF,AQ]
  rw[RI (m:=5) g3 (by omega) rfl rfl,AEq,Cm (m:=5) (T.BX ..) (by omega) rfl]
  simp only[go_sem]
  refine hk _ _ _ (f3.trans' (m:=n3) (λid hid=>?_) (by omega) hbn) AMT
  rw[T.Ap _ _ (by omega)]
theorem MH(a b:Nat):Ar (.agg [.int .i64 (.ofNat a) 0,.int .i64 (.ofNat b) 0]) (.agg [.int .i64 (.ofNat a) 0,.int .i64 (.ofNat b) 0])=true:=
 AAZ λv hv=>by simp at hv;rcases hv with rfl|rfl<;>exact AAI ..
abbrev bU(line col:Nat):V:=.agg [.int .i64 (.ofNat line) 0,.int .i64 (.ofNat col) 0]
structure Xb(G:AX)(H:Heap)(n m c:Nat)(K:Kq)(M:Km)(vv:V)(all:Nat)(Γ:List DJ)(L:LV):Prop where
 ka:nP G H m K M vv all Γ
 mc:m<=c
 cn:c<n
 g:T.get H c=some (one L)
theorem Xb.kb{G:AX}{H H':Heap}{n n' m c:Nat}{K:Kq}{M:Km}{vv:V}{all:Nat}{Γ:List DJ}{L:LV}(o:Yg G K)(h:Xb G H n m c K M vv all Γ L)(f:Kb K.b H n H' n'):Xb G H' n' m c K M vv all Γ L:=by
 have hb:=h.ka.bn o
 have:=h.mc;have:=h.cn
 exact⟨h.ka.kb o (f.low (by omega)),h.mc,Nat.lt_of_lt_of_le h.cn f.le,f.get h.g h.cn (by omega)⟩
theorem Xb.kp{G:AX}{H H':Heap}{n n' m c:Nat}{K:Kq}{M:Km}{vv:V}{all:Nat}{Γ:List DJ}{L:LV}(o:Yg G K)(h:Xb G H n m c K M vv all Γ L)(f:Kp H n H' n'):Xb G H' n' m c K M vv all Γ L:=by
 have hb:=h.ka.bn o
 have:=h.mc;have:=h.cn
 exact h.kb o (f.kb (by omega))
theorem Xb.bn{G:AX}{H:Heap}{n m c:Nat}{K:Kq}{M:Km}{vv:V}{all:Nat}{Γ:List DJ}{L:LV}(o:Yg G K)(h:Xb G H n m c K M vv all Γ L):K.b<c:=by
 have hb:=h.ka.bn o
 have:=h.mc;omega
theorem Xb.tab{G:AX}{H:Heap}{n m c:Nat}{K:Kq}{M:Km}{vv:V}{all:Nat}{Γ:List DJ}{L:LV}(o:Yg G K)(h:Xb G H n m c K M vv all Γ L):TabAt G H n K.t K.a K.b K.tb:=
 h.ka.tab.up (by have:=h.ka.kn;have:=o.n0;have:=h.mc;have:=h.cn;omega)
theorem Xb.kn{G:AX}{H:Heap}{n m c:Nat}{K:Kq}{M:Km}{vv:V}{all:Nat}{Γ:List DJ}{L:LV}(h:Xb G H n m c K M vv all Γ L):K.kb<c:=by
 have:=h.ka.kn;have:=h.mc;omega
theorem nP.lift{G:AX}{H:Heap}{n m:Nat}{K:Kq}{M:Km}{vv:V}{all:Nat}{Γ:List DJ}(o:Yg G K)(h:nP G H m K M vv all Γ)(hn:m<=n):nP G H n K M vv all Γ:=h.kb o ⟨hn,λ_ _ _=>rfl,λh=>h⟩
section
variable{G:AX}{H:Heap}{n m c d:Nat}{K:Kq}{M:Km}{vv:V}{all:Nat}{Γ:List DJ}{k:KV}{B:Nat->Prop}{kind num:Nat}{nm:St}{ty of t:Ty}{own ow:St}{line col:Nat}{v w:V}{C:Ty}
theorem AEF{H' H'':Heap}{n':Nat}(hbc:K.b≠c)(f:Kb K.b H n H' n')(s:∀id,id≠c->T.get H'' id=T.get H' id):Kbc K.b c H n H'' n':=(f.bc c).trans (.box hbc s)
theorem wE{P:KV}(g:T.get H c=some (one (LM kind num nm ty of own line col v)))(hk:∀H',(∀id,id≠c->T.get H' id=T.get H id)->T.get H' c=some (one (LM kind num nm ty t own line col v))->P .undef H' n):
 BL 2 (.ptr c (0+8)) t.v H n P:=
 Ib (off:=0+8) (m:=2) (v:=t.v) g rfl rfl (by omega) (by show 0+8+2<=11;omega) λH' g' s'=>hk H' s' g'
theorem ANl{P:KV}(g:T.get H c=some (one (LM kind num nm ty of own line col v)))(hk:∀H',(∀id,id≠c->T.get H' id=T.get H id)->T.get H' c=some (one (LM kind num nm ty of ow line col v))->P .undef H' n):
 BL 1 (.ptr c (0+10)) ow.v H n P:=
 Ib (off:=0+10) (m:=1) (v:=ow.v) g rfl rfl (by omega) (by show 0+10+1<=11;omega) λH' g' s'=>hk H' s' g'
theorem Yx{H':Heap}(g:T.get H' c=some (one (LM kind num nm ty of own line col v))):Ad 2 (.ptr c (0+1)) G H'=some (bU line col):=Dh (off:=0+1) (m:=2) g (by omega) (by show 0+1+2<=11;omega)
theorem AF8{P:KV}(o:Yg G K)(h:Xb G H n m c K M vv all Γ (LM kind num nm ty of own line col v))(hC:C.nm.ok)(hkn:BO K.tb C=true)
 (hk:∀H' n',Kb K.b H n H' n'->P (.bool true) H' n'):
 BZ (Ah 2 1 [.str 0 0,.bool false] [(0,.c C.v)] E0) H n λv14 H n=>
  AL (Am (.ptr c 0)) λv15=>AL (AU 1 v15) λv16=>AL (Ad 2 v16 G H) λv17=>Runs F G CQ [.ptr K.t 0,v14] H n λv18 H n=>AL (Ad 2 v16 G H) λv=>Dj (Ar v v17) <|
  Runs F G Aw [.ptr K.kb 0,v18,.int .i64 (.ofNat 23) 0,v17] H n P:=by
 have hbc:=h.bn o
 have hkc:=h.kn
 have hcn:=h.cn
 refine TD (G:=G) (vs:=[C.v]) rfl (by omega) (λv hv=>by simp at hv;subst hv;exact⟨rfl,rfl⟩) λH1 f1 _ hel=>?_
 have h1:=h.kp o f1
 rw[BU,AQ,Ae,AQ]
 refine AB (Yx h1.g) ?_
 refine X3 (xs:=[C]) (h1.tab o) ⟨hel,λid hid=>by cases hid;omega,by unfold big;exact(by decide:1<9223372036854775808),λt ht=>by rw[List.mem_singleton.1 ht];exact hC⟩ λH2 n2 f2=>?_
 have f12:Kb K.b H n H2 n2:=(f1.kb (by omega)).trans f2
 have h2:=h1.kb o f2
 rw[show[C].all (BO K.tb)=true by simp[hkn]]
 refine AB (Yx h2.g) (Bd (MH ..) ?_)
 refine RD (K:=K) h2.ka.g (by have:=h2.cn;omega) λH3 f3=>?_
 exact hk H3 _ (f12.trans (f3.kb (by have:=f12.le;omega)))
theorem ANf{P:KV}{u:V}(o:Yg G K)(h:Xb G H n m c K M vv all Γ (LM kind num nm ty of own line col v))(hu:Ad 2 u G H=some C.v)(hC:C.nm.ok)(hkn:BO K.tb C=true)
 (hk:∀H' n',Kb K.b H n H' n'->P (.bool true) H' n'):
 AL (Am (.ptr K.kb 0)) λv10=>AL (AU 0 v10) λv11=>AL (AY v11 G H) λv12=>AL (Ad 2 u G H) λv13=>BZ (Ah 2 1 [.str 0 0,.bool false] [(0,.c v13)] E0) H n λv14 H n=>
  AL (Am (.ptr c 0)) λv15=>AL (AU 1 v15) λv16=>AL (Ad 2 v16 G H) λv17=>Runs F G CQ [v12,v14] H n λv18 H n=>AL (Ad 2 v16 G H) λv=>Dj (Ar v v17) <|
  Runs F G Aw [.ptr K.kb 0,v18,.int .i64 (.ofNat 23) 0,v17] H n P:=by
 rw[BU,AQ,Dk,AQ]
 refine AB (AV (off:=0) h.ka.g (v:=.ptr K.t 0) rfl) ?_
 refine AB hu ?_
 exact AF8 o h hC hkn hk
theorem AZY(o:Yg G K)(h:Xb G H n m c K M vv all Γ (LM 7 num nm ty of own line col v))(hcd:c<d)(hdn:d<n)(gd:T.get H d=some (one C.cells))(hC:C.nm.ok)(hkn:BO K.tb C=true)(hf:UF K.tb C.nm nm=some (ow,t))
 (hk:∀H' n',Kbc K.b c H n H' n'->T.get H' c=some (one (LM 7 num nm ty t ow line col v))->k (.G5 []) H' n'):EY lfp G (Runs F G) k (.ptr K.kb 0) (.ptr c 0) (.ptr d 0) w H n:=by
 delta EY
 have hbc:=h.bn o
 have hkc:=h.kn
 refine ANf o h (DZ gd) hC hkn λH1 n1 f1=>?_
 have h1:=h.kb o f1
 have gd1:=f1.get gd hdn (by omega)
 have hn1:=f1.le
 rw[Ef,AQ]
 show Aa (.bool false) true _ _
 rw[Ai,BU,AQ,Dk,AQ]
 refine AB (AV (off:=0) h1.g (v:=.int .i64 (.ofNat 7) 0) rfl) (AB (CY ..) ?_)
 rw[decide_eq_true rfl,A8,BU,AQ,Dk,AQ]
 refine AB (AV (off:=0) h1.ka.g (v:=.ptr K.t 0) rfl) ?_
 rw[Dk,AQ]
 refine AB (AV (off:=0) gd1 (v:=C.nm.v) rfl) ?_
 rw[AQ,Ae,AQ]
 refine AB (AV (off:=0+4) h1.g (v:=nm.v) rfl) ?_
 refine Au rfl λH2 f2 g2=>?_
 have h2:=h1.kp o f2
 refine AFD (c:=C.nm) (s:=nm) (h2.tab o) o.tl λH3 n3 f3=>?_
 rw[hf]
 have h3:=h2.kb o f3
 have hn3:=f3.le
 rw[O5,AQ,O7,AQ,xJ,AQ]
 have g3:=f3.get g2 (by omega) (by omega)
 refine Bq g3 rfl rfl (by omega) λH4 g4 s4=>?_
 have f14:Kb K.b H1 n1 H4 n3:=((f2.kb (by omega)).trans f3).trans ⟨Nat.le_refl _,λ_ _ _=>rfl,λh=>h⟩ |> λx=>⟨x.le,λid a b=>(s4 id (by omega)).trans (x.same id a b),λhs=>(x.seen hs).same (s4 _ (by omega))⟩
 have h4:=h1.kb o f14
 rw[AQ,Ae,AQ]
 refine AB (Yx h4.g) ?_
 refine RD (K:=K) h4.ka.g (by omega) λH5 f5=>?_
 have h5:=h4.kp o f5
 have g5:=f5.get g4 (by omega)
 refine AB (DZ (t:=t) g5) ?_
 rw[AQ,Ae,AQ]
 refine ANl (ow:=ow) h5.g λH6 s6 g6=>?_
 refine AB (DZ (t:=t) ((s6 _ (by omega)).trans g5)) (Bd (Lu t) ?_)
 rw[AQ,Ae,AQ]
 refine wE (t:=t) g6 λH7 s7 g7=>?_
 exact hk H7 _ (AEF (by omega) (f1.trans (f14.trans (f5.kb (by omega)))) λid hne=>(s7 id hne).trans (s6 id hne)) g7
theorem ARn{cs:Dy}{es:List Te}{s:Ej}(o:Yg G K)(h:Xb G H n m c K M vv all Γ (LM kind num nm ty of own line col v))(h7:kind≠7)(hcd:c<d)(hdn:d<n)(gd:T.get H d=some (one C.cells))(hC:C.nm.ok)(hkn:BO K.tb C=true)
 (hw:El G H w 11 cs) (hwo:∀id,w.D9=some id->id<n/\id≠c/\id≠K.b) (hts:Gh G H B cs es) (hB:∀id,B id->id<n/\id≠c/\id≠K.b) (hok:∀e∈es,e.of.nm.ok) (hln:es.length<=10000)
 (hm:Iu K.tb C.nm nm (decide (kind=9))=some (ow,s)) (hfit:Z5 K.tb (es.map Te.of) s.ps=true)
 (hk:∀H' n',Kbc K.b c H n H' n'->T.get H' c=some (one (LM kind num nm ty s.ret ow line col v))->k (.G5 []) H' n'):EY lfp G (Runs F G) k (.ptr K.kb 0) (.ptr c 0) (.ptr d 0) w H n:=by
 delta EY
 have hbc:=h.bn o
 have hkc:=h.kn
 refine ANf o h (DZ gd) hC hkn λH1 n1 f1=>?_
 have h1:=h.kb o f1
 have gd1:=f1.get gd hdn (by omega)
 have hn1:=f1.le
 rw[Ef,AQ]
 show Aa (.bool false) true _ _
 rw[Ai,BU,AQ,Dk,AQ]
 refine AB (AV (off:=0) h1.g (v:=.int .i64 (.ofNat kind) 0) rfl) (AB (CY ..) ?_)
 rw[decide_eq_false h7,Ai,BU,AQ,Dk,AQ]
 refine AB (AV (off:=0) h1.ka.g (v:=.ptr K.t 0) rfl) ?_
 rw[Dk,AQ]
 refine AB (AV (off:=0) gd1 (v:=C.nm.v) rfl) ?_
 rw[AQ,Ae,AQ]
 refine AB (AV (off:=0+4) h1.g (v:=nm.v) rfl) ?_
 rw[AQ,Dk,AQ]
 refine AB (AV (off:=0) h1.g (v:=.int .i64 (.ofNat kind) 0) rfl) (AB (CY ..) ?_)
 refine Au rfl λH2 f2 g2=>?_
 have h2:=h1.kp o f2
 refine ALr (c:=C.nm) (s:=nm) h2.ka.tab (by have:=h2.ka.kn;have:=o.n0;omega) o.tl λH3 n3 sv f3 hsv=>?_
 rw[hm]at hsv⊢
 obtain⟨u,rfl,hu⟩:=hsv
 have hu:Vs G H3 K.n0 u s.ps:=hu
 have h3:=h2.kb o f3
 have hn3:=f3.le
 rw[O5,AQ,O7,AQ,xJ,AQ]
 have g3:=f3.get g2 (by omega) (by omega)
 refine Bq (L:=s.cells u) g3 rfl rfl (by omega) λH4 g4 s4=>?_
 have f14:Kb K.b H1 n1 H4 n3:=((f2.kb (by omega)).trans f3) |> λx=>⟨x.le,λid a b=>(s4 id (by omega)).trans (x.same id a b),λhs=>(x.seen hs).same (s4 _ (by omega))⟩
 have h4:=h1.kb o f14
 rw[AQ,Ae,AQ]
 refine AB (Yx h4.g) ?_
 refine RD (K:=K) h4.ka.g (by omega) λH5 f5=>?_
 have h5:=h4.kp o f5
 have g5:=f5.get g4 (by omega)
 show Aa (.bool true) true _ _
 rw[A8,AQ]
 refine AB (BI (m:=11) h5.g (by omega) rfl) (AB (BI (m:=5) g5 (by omega) rfl) ?_)
 have f15:Kb K.b H1 n1 H5 (n3+1):=f14.trans (f5.kb (by omega))
 have f05:=f1.trans f15
 have hn0:=o.n0
 have hu5:Vs G H5 (n3+1) u s.ps:=⟨hu.el.same λid hid=>by
  have:=hu.lo id hid
  exact(f5.same id (by omega)).trans (s4 id (by omega)),λid hid=>by have:=hu.lo id hid;omega,hu.lt,hu.ok⟩
 refine AXN (B:=B) o (h5.ka.lift o (by have:=h5.mc;have:=h5.cn;omega)) (hw.same λid hid=>f05.same id (hwo id hid).1 (hwo id hid).2.2) (λid hid=>by have:=hwo id hid;exact⟨by omega,this.2.2⟩) (Gh.mono (λ_ h=>h) (λid hid=>f05.same id (hB id hid).1 (hB id hid).2.2) hts) (λid hid=>by have:=hB id hid;exact⟨by omega,this.2.2⟩) hok hu5 hfit hln λH6 n6 f6=>?_
 have hn6:=f6.le
 have h6:=h5.kb o f6
 have g6:=f6.get g5 (by omega) (by omega)
 delta I8
 have qr:∀{H':Heap},T.get H' n1=some (one (s.cells u))->Ad 2 (.ptr n1 (0+3)) G H'=some s.ret.v:=λg=>Dh (off:=0+3) (m:=2) g (by omega) (by show 0+3+2<=5;omega)
 rw[Ae,AQ]
 refine AB (qr g6) ?_
 rw[BU,AQ,Ae,AQ]
 refine ANl (ow:=ow) h6.g λH7 s7 g7=>?_
 refine AB (qr ((s7 n1 (by omega)).trans g6)) (Bd (Lu s.ret) ?_)
 rw[AQ,Ae,AQ]
 refine wE (t:=s.ret) g7 λH8 s8 g8=>?_
 exact hk H8 _ (AEF (by omega) (f05.trans f6) λid hne=>(s8 id hne).trans (s7 id hne)) g8
end
theorem ACr{x:Kx}{c:Ty}{nm:St}{st:Bool}{gs:List Ty}{p:Ty×St}(h:PE x c nm st gs=some p):BO x.tb c=true/\∃s,Iu x.tb c.nm nm st=some (p.2,s)/\Z5 x.tb gs s.ps=true/\p.1=s.ret:=by
 unfold PE at h
 cases hk:BO x.tb c with
 |false=>rw[hk]at h;cases h
 |true=>
  rw[hk]at h
  refine⟨rfl,?_⟩
  cases hm:Iu x.tb c.nm nm st with
  |none=>rw[hm]at h;cases h
  |some q=>
   obtain⟨ow,s⟩:=q
   rw[hm]at h
   obtain⟨h1,h2⟩:=Eb (show TL (Z5 x.tb gs s.ps) s.ret ow=some p from h)
   exact⟨s,by rw[h2],h1,by rw[h2]⟩
theorem AI6{x:Kx}{Γ:List DJ}{nm:St}{ty:Ty}{ks:List Ty}{p:Ty×St}(h:Xu x Γ 7 nm ty ks=some p):∃c,ks=[c]/\c.cls=true/\BO x.tb c=true/\UF x.tb c.nm nm=some (p.2,p.1):=by
 rcases ks with _|⟨c,_|⟨a,l⟩⟩
 ·cases h
 ·refine⟨c,rfl,?_⟩
  have h:(bif c.cls&&BO x.tb c then(UF x.tb c.nm nm).map (λp=>(p.2,p.1))else none)=some p:=h
  cases hc:c.cls&&BO x.tb c with
  |false=>rw[hc]at h;cases h
  |true=>
   rw[hc]at h
   rw[Bool.and_eq_true]at hc
   obtain⟨q,hq,rfl⟩:=Option.map_eq_some_iff.1 (show(UF x.tb c.nm nm).map (λp=>(p.2,p.1))=some p from h)
   exact⟨hc.1,hc.2,hq⟩
 ·cases h
theorem ADQ{x:Kx}{Γ:List DJ}{nm:St}{ty:Ty}{ks:List Ty}{p:Ty×St}(h:Xu x Γ 8 nm ty ks=some p):∃c gs,ks=c::gs/\c.cls=true/\PE x c nm false gs=some p:=by
 rcases ks with _|⟨c,gs⟩
 ·cases h
 ·refine⟨c,gs,rfl,?_⟩
  have h:(bif c.cls then PE x c nm false gs else none)=some p:=h
  cases hc:c.cls with
  |false=>rw[hc]at h;cases h
  |true=>rw[hc]at h;exact⟨rfl,h⟩
section
variable{G:AX}{H:Heap}{n m c:Nat}{K:Kq}{M:Km}{vv:V}{all:Nat}{Γ:List DJ}{k:KV}{B:Nat->Prop}{kind num:Nat}{nm:St}{ty of t:Ty}{own ow:St}{line col:Nat}{v:V}{es:List Te}
theorem ARC(o:Yg G K)(h:Xb G H n m c K M vv all Γ (LM kind num nm ty of own line col v))(hes:QI G H B v es)(hB:∀id,B id->id<n/\id≠c/\id≠K.b)(hok:∀e∈es,e.of.nm.ok)(hln:es.length<=10000)(hmb:mbr kind=true)(hty:ty.nm.ok)
 (htp:Xu (K.x M) Γ kind nm ty (es.map Te.of)=some (t,ow)) (hk:∀H' n',Kbc K.b c H n H' n'->T.get H' c=some (one (LM kind num nm ty t ow line col v))->k (.G5 []) H' n'):
 Runs F G V3 [.ptr K.kb 0,.ptr c 0] H n k:=by
 refine go2 (lG BK G) ?_
 delta Wp
 have hbc:=h.bn o
 have hkc:=h.kn
 have hcn:=h.cn
 obtain⟨cs,e1,e2,e3,e4,e5,hts⟩:=hes
 have hvs:Ar v v=true:=e2.1 |> λh=>by
  cases v<;>first|exact h|(cases e1.2;done)|(cases e1.1;done)
 rw[BU,AQ,Ae,AQ]
 refine AB (Dh (off:=0+5) (m:=2) h.g (by omega) (by show 0+5+2<=11;omega)) ?_
 rw[AQ,Ae,AQ]
 have qv:∀{H':Heap},T.get H' c=some (one (LM kind num nm ty of own line col v))->AY (.ptr c (0+7)) G H'=some v:=λg=>AV (off:=0+7) g rfl
 refine AB (qv h.g) ?_
 refine Au rfl λH1 f1 g1=>?_
 refine Bq (L:=ty.cells) g1 rfl rfl (by omega) λH2 g2 s2=>?_
 have f2:Kp H n H2 (n+1):=⟨f1.le,λid hid=>(s2 id (by omega)).trans (f1.same id hid)⟩
 have h2:=h.kp o f2
 have e12:=e1.same (H':=H2) λid hid=>f2.same id (hB id (e5 id hid)).1
 refine AB (qv h2.g) (Bd hvs ?_)
 rw[AQ,Dk,AQ]
 refine AB (AV (off:=0) h2.g (v:=.int .i64 (.ofNat kind) 0) rfl) (AB (lS ..) ?_)
 have f2b:Kb K.b H n H2 (n+1):=f2.kb (by omega)
 by_cases h9:kind=9
 ·subst h9
  rw[show(!decide (9=9))=false from rfl,Ai]
  obtain⟨hkn,s,hm,hf,e⟩:=ACr (show PE (K.x M) ty nm true (es.map Te.of)=some (t,ow)from htp)
  obtain rfl:t=s.ret:=e
  refine ARn (C:=ty) (B:=B) o h2 (by decide) (by omega) (Nat.lt_succ_self _) g2 hty hkn e12 (λid hid=>by have:=hB id (e5 id hid);exact⟨by omega,this.2.1,this.2.2⟩) (Gh.mono (λ_ h=>h) (λid hid=>f2.same id (hB id hid).1) hts) (λid hid=>by have:=hB id hid;exact⟨by omega,this.2.1,this.2.2⟩) hok hln hm hf λH' n' f g=>?_
  exact hk H' n' ((f2b.bc c).trans f) g
 ·rw[decide_eq_false h9,show(!false)=true from rfl,A8]
  obtain⟨C,gs,hmap,hcls⟩:∃C gs,es.map Te.of=C::gs/\C.cls=true:=by
   by_cases h7:kind=7
   ·subst h7;obtain⟨c,h1,h2,_⟩:=AI6 htp;exact⟨c,[],h1,h2⟩
   ·by_cases h8:kind=8
    ·subst h8;obtain⟨c,gs,h1,h2,_⟩:=ADQ htp;exact⟨c,gs,h1,h2⟩
    ·exfalso
     unfold mbr at hmb
     rw[decide_eq_false h7,decide_eq_false h8,decide_eq_false h9]at hmb;cases hmb
  cases es with
  |nil=>cases hmap
  |cons e rest=>
  rw[List.map_cons,List.cons.injEq]at hmap
  obtain⟨rfl,hgs⟩:=hmap
  have hok0:=hok e (List.mem_cons_self ..)
  cases hts with
  |cons het htr=>
  rename_i l ls
  have het2:=het.mono (H':=H2) (λ_ h=>h) λid hid=>f2.same id (hB id hid).1
  obtain⟨p,q1,q8,q9,kd⟩:=qG o.sub (i:=0) (l:=l) e12 rfl het2.len
  cases het with
  |mk kind' num' nm' ty' of' own' line' col' hev hvk hva hvc=>
  rename_i v' cs' kids'
  have hcls:of'.cls=true:=hcls
  have hok0:of'.nm.ok:=hok0
  rw[AQ,Ae,AQ]
  refine AB (qv h2.g) (AB kd.ip (AB kd.i8 (AB (v:=of'.v) (kd.ld H2 e12).2.2.1 ?_)))
  rw[AQ,Ae,AQ]
  refine AB (qv h2.g) ?_
  obtain⟨w,hw,hwe,hws⟩:=El.tail e12 e2
  refine AB hw ?_
  refine Bq (L:=of'.cells) g2 rfl rfl (by omega) λH3 g3 s3=>?_
  have f3:Kp H n H3 (n+1):=⟨f2.le,λid hid=>(s3 id (by omega)).trans (f2.same id hid)⟩
  have h3:=h.kp o f3
  refine AB (qv h3.g) (Bd hvs ?_)
  refine AB (DZ g3) ?_
  rw[AQ,Ae,AQ]
  refine AB (qv h3.g) ?_
  have e13:=e1.same (H':=H3) λid hid=>f3.same id (hB id (e5 id hid)).1
  refine AB kd.ip (AB kd.i1 (AB (v:=bU line' col') (kd.ld H3 e13).2.1 ?_))
  refine AKG (t:=of') hok0 λH4 n4 f4=>?_
  have f04:=f3.trans f4
  have hn4:=f4.le
  have h4:=h.kp o f04
  have e14:=e1.same (H':=H4) λid hid=>f04.same id (hB id (e5 id hid)).1
  refine AB (qv h4.g) (Bd hvs (AB (v:=bU line' col') (kd.ld H4 e14).2.1 (Bd (MH ..) ?_)))
  rw[hcls]
  refine RD (K:=K) h4.ka.g (by have:=h4.cn;omega) λH5 f5=>?_
  have f05:=f04.trans f5
  have h5:=h.kp o f05
  have g5:=f5.get (f4.get g3 (by omega)) (by omega)
  rw[Ef,AQ]
  show Aa (.bool false) true _ _
  rw[Ai]
  have f05b:Kb K.b H n H5 (n4+1):=f05.kb (by omega)
  have hfin:∀H' n',Kbc K.b c H5 (n4+1) H' n'->T.get H' c=some (one (LM kind num nm ty t ow line col v))->k (.G5 []) H' n':=λH' n' f g=>hk H' n' ((f05b.bc c).trans f) g
  by_cases h7:kind=7
  ·subst h7
   obtain⟨C,hC,_,hkn,hf⟩:=AI6 htp
   rw[List.map_cons,List.cons.injEq]at hC
   obtain⟨rfl,_⟩:=hC
   exact AZY (C:=of') (w:=w) o h5 hcn (by omega) g5 hok0 hkn hf hfin
  ·have h8:kind=8:=by
    unfold mbr at hmb
    by_cases h8:kind=8
    ·exact h8
    ·rw[decide_eq_false h7,decide_eq_false h8,decide_eq_false h9]at hmb;cases hmb
   subst h8
   obtain⟨C,gs',hC,_,hcl⟩:=ADQ htp
   rw[List.map_cons,List.cons.injEq]at hC
   obtain⟨rfl,rfl⟩:=hC
   obtain⟨hkn,s,hm,hf,e⟩:=ACr hcl
   obtain rfl:t=s.ret:=e
   have hw5:El G H5 w 11 ls:=hwe.same λid hid=>by
    rw[hws]at hid
    have:=hB id (e5 id hid)
    exact((f4.trans f5).same id (by omega)).trans (s3 id (by omega))
   exact ARn (C:=of') (B:=B) o h5 (by decide) hcn (by omega) g5 hok0 hkn hw5 (λid hid=>by rw[hws]at hid;have:=hB id (e5 id hid);exact⟨by omega,this.2.1,this.2.2⟩) (Gh.mono (λ_ h=>h) (λid hid=>f05.same id (hB id hid).1) htr) (λid hid=>by have:=hB id hid;exact⟨by omega,this.2.1,this.2.2⟩)
    (λx hx=>hok x (List.mem_cons_of_mem _ hx)) (by rw[List.length_cons]at hln;omega) hm hf hfin
end
section
variable{G:AX}{H:Heap}{n m c d:Nat}{K:Kq}{M:Km}{vv:V}{all:Nat}{Γ:List DJ}{k:KV}{B:Nat->Prop}{kind num:Nat}{nm:St}{ty of t t1:Ty}{own ow:St}{line col:Nat}{v:V}{es:List Te}
theorem vC{P:V->Prop}{A:Nat}(b0:Bool)(qk:AY (.ptr c 0) G H=some (.int .i64 (.ofNat kind) 0))(h:P (.bool (b0||decide (kind=A)))):
 Ba (.bool b0) false (some (.ptr c 0)) λv18=>Ba (.bool b0) false (Am v18) λv19=>Ba (.bool b0) false (AU 0 v19) λv20=>Ba (.bool b0) false (AY v20 G H) λv21=>Ba (.bool b0) false (Dc (.one .int) false v21 (.int .i64 (.ofNat A) 0)) λv22=>AL (DT (.bool b0) (.bool true) v22) P:=by
 cases b0 with
 |true=>exact Y0 (Y0 (Y0 (Y0 (Y0 (eP h)))))
 |false=>exact XE rfl (XE (BU ..) (XE (Dk ..) (XE qk (XE (CY ..) (lZ h)))))
theorem ANt(x y:St):Dc (.one .str) false x.v y.v=some (.bool (decide (x=y))):=by
 show Dc (.one .str) false (.str x.1 x.2) (.str y.1 y.2)=_
 rw[ADc]
 congr 2
 rw[decide_eq_decide]
 exact⟨λh=>Prod.ext h.1 h.2,λh=>by rw[h];exact⟨rfl,rfl⟩⟩
theorem AR3{P:V->Prop}{x:St}(b0:Bool)(qk:AY (.ptr c (0+4)) G H=some nm.v)(h:P (.bool (b0||decide (nm=x)))):
 Ba (.bool b0) false (some (.ptr c 0)) λv18=>Ba (.bool b0) false (Am v18) λv19=>Ba (.bool b0) false (AU 4 v19) λv20=>Ba (.bool b0) false (AY v20 G H) λv21=>Ba (.bool b0) false (Dc (.one .str) false v21 x.v) λv22=>AL (DT (.bool b0) (.bool true) v22) P:=by
 cases b0 with
 |true=>exact Y0 (Y0 (Y0 (Y0 (Y0 (eP h)))))
 |false=>exact XE rfl (XE (BU ..) (XE (Ae ..) (XE qk (XE (ANt ..) (lZ h)))))
theorem AL5{f1 f2:Nat}{P:KV}(o:Yg G K)(hf1:∀{H:Heap} {n:Nat} {P:KV},(∀H' n',Kp H n H' n'->P t1.v H' n')->Runs F G f1 [] H n P)(hf2:∀{H:Heap} {n:Nat} {P:KV},(∀H' n',Kp H n H' n'->P t.v H' n')->Runs F G f2 [] H n P)
 (h:Xb G H n m c K M vv all Γ (LM kind num nm ty of own line col v)) (hes:QI G H B v es) (hB:∀id,B id->id<n/\id≠c/\id≠K.b) (hall:∀e∈es,e.of=t1) (hln:es.length<=10000)
 (hk:∀H' n',Kbc K.b c H n H' n'->Xb G H' n' m c K M vv all Γ (LM kind num nm ty t own line col v)->P .undef H' n'):
 AL (Am (.ptr c 0)) λv5=>AL (AU 7 v5) λv6=>AL (AY v6 G H) λv7=>Runs F G f1 [] H n λv8 H n=>AL (AY v6 G H) λv=>Dj (Ar v v7) <| Runs F G EU [.ptr K.kb 0,v7,v8] H n λ_ H n=>
  Runs F G f2 [] H n λv10 H n=>AL (Am (.ptr c 0)) λv11=>AL (AU 8 v11) λv12=>BL 2 v12 v10 H n P:=by
 have hbc:=h.bn o
 have hkc:=h.kn
 have hcn:=h.cn
 obtain⟨cs,e1,e2,e3,e4,e5,hts⟩:=hes
 have hvs:Ar v v=true:=e2.1 |> λh=>by
  cases v<;>first|exact h|(cases e1.2;done)|(cases e1.1;done)
 have qv:∀{H':Heap},T.get H' c=some (one (LM kind num nm ty of own line col v))->AY (.ptr c (0+7)) G H'=some v:=λg=>AV (off:=0+7) g rfl
 rw[BU,AQ,Ae,AQ]
 refine AB (qv h.g) ?_
 refine hf1 λH1 n1 x1=>?_
 have h1:=h.kp o x1
 refine AB (qv h1.g) (Bd hvs ?_)
 refine ACf (K:=K) h1.ka.g (by have:=h1.cn;omega) (e1.same λid hid=>x1.same id (hB id (e5 id hid)).1) e5 (Gh.mono (λ_ h=>h) (λid hid=>x1.same id (hB id hid).1) hts) (λid hid=>by have:=hB id hid;have:=x1.le;omega) hall (by omega) λH2 n2 x2=>?_
 refine hf2 λH3 n3 x3=>?_
 have x:=x1.trans (x2.trans x3)
 have h3:=h.kp o x
 rw[AQ,Ae,AQ]
 refine wE (t:=t) h3.g λH4 s4 g4=>?_
 have f:=AEF (by omega) (x.kb (b:=K.b) (by omega)) s4
 have hm:=h.mc
 exact hk H4 n3 f ⟨h.ka.kb o ((f.low hm (by omega)).low (Nat.le_refl _)),hm,by have:=x.le;omega,g4⟩
theorem kW{a b:Ty}(h:a.is b=true):a=b:=Ty.wM.1 h
theorem AZ7(o:Yg G K)(h:Xb G H n m c K M vv all Γ (LM 14 num nm ty of own line col v))(hes:QI G H B v es)(hB:∀id,B id->id<n/\id≠c/\id≠K.b)(hln:es.length<=10000)
 (htp:Xu (K.x M) Γ 14 nm ty (es.map Te.of)=some (t,ow)) (hk:∀H' n',Kbc K.b c H n H' n'->T.get H' c=some (one (LM 14 num nm ty t own line col v))->k (.G5 []) H' n'):
 Runs F G IZ [.ptr K.kb 0,.ptr c 0] H n k:=by
 refine go2 (Jg BK G) ?_
 delta IV
 rw[BU,AQ,Dk,AQ]
 refine AB (AV (off:=0) h.g (v:=.int .i64 (.ofNat 14) 0) rfl) (AB (CY ..) ?_)
 rw[show decide (14=14)=true from rfl,A8]
 rcases es with _|⟨a,_|⟨b,l⟩⟩
 ·cases htp
 ·obtain⟨h1,h2⟩:=Eb (show TL (a.of.is Cb) Cb (0,0)=some (t,ow)from htp)
  cases h2
  exact AL5 o JL JL h hes hB (λe he=>by rw[List.mem_singleton.1 he];exact kW h1) hln λH' n' f x=>hk H' n' f x.g
 ·cases htp
theorem AbH(o:Yg G K)(h:Xb G H n m c K M vv all Γ (LM kind num nm ty of own line col v))(hkd:kind=15∨kind=17∨kind=18)(hes:QI G H B v es)(hB:∀id,B id->id<n/\id≠c/\id≠K.b)(hln:es.length<=10000)
 (htp:Xu (K.x M) Γ kind nm ty (es.map Te.of)=some (t,ow)) (hk:∀H' n',Kbc K.b c H n H' n'->T.get H' c=some (one (LM kind num nm ty t own line col v))->k (.G5 []) H' n'):
 Runs F G IZ [.ptr K.kb 0,.ptr c 0] H n k:=by
 refine go2 (Jg BK G) ?_
 delta IV
 have qk:AY (.ptr c 0) G H=some (.int .i64 (.ofNat kind) 0):=AV (off:=0) h.g rfl
 rw[BU,AQ,Dk,AQ]
 refine AB qk (AB (CY ..) ?_)
 rw[decide_eq_false (by omega),Ai,AQ,Dk,AQ]
 refine AB qk (AB (CY ..) ?_)
 refine vC _ qk (vC _ qk ?_)
 have hb:((decide (kind=15)||decide (kind=17))||decide (kind=18))=true:=by rcases hkd with rfl|rfl|rfl<;>rfl
 rw[hb,A8]
 have hh:t=BM/\∀e∈es,e.of=BM:=by
  rcases hkd with rfl|rfl|rfl
  ·rcases es with _|⟨a,_|⟨b,l⟩⟩
   ·cases htp
   ·obtain⟨h1,h2⟩:=Eb (show TL (a.of.is BM) BM (0,0)=some (t,ow)from htp)
    cases h2
    exact⟨rfl,λe he=>by rw[List.mem_singleton.1 he];exact kW h1⟩
   ·cases htp
  ·rcases es with _|⟨a,_|⟨b,_|⟨c',l⟩⟩⟩
   ·cases htp
   ·cases htp
   ·obtain⟨h1,h2⟩:=Eb (show TL (a.of.is BM&&b.of.is BM) BM (0,0)=some (t,ow)from htp)
    cases h2
    rw[Bool.and_eq_true]at h1
    exact⟨rfl,λe he=>by simp at he;rcases he with rfl|rfl;exact kW h1.1;exact kW h1.2⟩
   ·cases htp
  ·rcases es with _|⟨a,_|⟨b,_|⟨c',l⟩⟩⟩
   ·cases htp
   ·cases htp
   ·obtain⟨h1,h2⟩:=Eb (show TL (a.of.is BM&&b.of.is BM) BM (0,0)=some (t,ow)from htp)
    cases h2
    rw[Bool.and_eq_true]at h1
    exact⟨rfl,λe he=>by simp at he;rcases he with rfl|rfl;exact kW h1.1;exact kW h1.2⟩
   ·cases htp
 obtain⟨rfl,hall⟩:=hh
 exact AL5 o NJ NJ h hes hB hall hln λH' n' f x=>hk H' n' f x.g
theorem Abw(o:Yg G K)(h:Xb G H n m c K M vv all Γ (LM 16 num nm ty of own line col v))(hnm:nm≠oU/\nm≠oC)(hes:QI G H B v es)(hB:∀id,B id->id<n/\id≠c/\id≠K.b)(hln:es.length<=10000)
 (htp:Xu (K.x M) Γ 16 nm ty (es.map Te.of)=some (t,ow)) (hk:∀H' n',Kbc K.b c H n H' n'->T.get H' c=some (one (LM 16 num nm ty t own line col v))->k (.G5 []) H' n'):
 Runs F G IZ [.ptr K.kb 0,.ptr c 0] H n k:=by
 refine go2 (Jg BK G) ?_
 delta IV
 have hbc:=h.bn o
 have qk:AY (.ptr c 0) G H=some (.int .i64 (.ofNat 16) 0):=AV (off:=0) h.g rfl
 have qn:∀{H':Heap} {t':Ty},T.get H' c=some (one (LM 16 num nm ty t' own line col v))->AY (.ptr c (0+4)) G H'=some nm.v:=λg=>AV (off:=0+4) g rfl
 rw[BU,AQ,Dk,AQ]
 refine AB qk (AB (CY ..) ?_)
 rw[show decide (16=14)=false from rfl,Ai,AQ,Dk,AQ]
 refine AB qk (AB (CY ..) ?_)
 refine vC _ qk (vC _ qk ?_)
 rw[show((decide (16=15)||decide (16=17))||decide (16=18))=false from rfl,Ai,BU,AQ,Dk,AQ]
 refine AB qk (AB (CY ..) ?_)
 refine vC _ qk ?_
 rw[show(decide (16=19)||decide (16=20))=false from rfl,Ai,AQ,Ae,AQ]
 refine AB (qn h.g) (AB (ANt nm oU) ?_)
 refine AR3 (x:=oC) _ (qn h.g) ?_
 rw[decide_eq_false hnm.1,decide_eq_false hnm.2]
 show Aa (.bool false) true _ _
 rw[Ai]
 rcases es with _|⟨a,_|⟨b,_|⟨c',l⟩⟩⟩
 ·cases htp
 ·cases htp
 ·have htp:(bif decide (nm=oU)||decide (nm=oC)then TL (a.of.is b.of||(a.of.obj&&b.of.obj)) BM (0,0)else TL (a.of.is Cb&&b.of.is Cb) (bif decide (nm=xH)||decide (nm=AAC)then BM else Cb) (0,0))=some (t,ow):=htp
  rw[decide_eq_false hnm.1,decide_eq_false hnm.2]at htp
  obtain⟨h1,h2⟩:=Eb (show TL (a.of.is Cb&&b.of.is Cb) (bif decide (nm=xH)||decide (nm=AAC)then BM else Cb) (0,0)=some (t,ow)from htp)
  cases h2
  rw[Bool.and_eq_true]at h1
  refine AL5 (t:=Cb) o JL JL h hes hB (λe he=>by simp at he;rcases he with rfl|rfl;exact kW h1.1;exact kW h1.2) hln λH1 n1 f1 x1=>?_
  rw[AQ,Ae,AQ]
  refine AB (qn x1.g) (AB (ANt nm xH) ?_)
  refine AR3 (x:=AAC) _ (qn x1.g) ?_
  cases hb:decide (nm=xH)||decide (nm=AAC)with
  |false=>
   rw[Ai]
   exact hk H1 n1 f1 (by rw[hb];exact x1.g)
  |true=>
   rw[A8]
   refine NJ λH2 n2 f2=>?_
   have x2:=x1.kp o f2
   rw[AQ,Ae,AQ]
   refine wE (t:=BM) x2.g λH3 s3 g3=>?_
   exact hk H3 n2 (f1.trans (AEF (by omega) (f2.kb (b:=K.b) (by have:=f1.le;have:=h.cn;omega)) s3)) (by rw[hb];exact g3)
 ·cases htp
end
section
variable{G:AX}{H:Heap}{n m c d:Nat}{K:Kq}{M:Km}{vv:V}{all:Nat}{Γ:List DJ}{k:KV}{B:Nat->Prop}{kind num:Nat}{nm:St}{ty of t t1:Ty}{own ow:St}{line col:Nat}{v:V}{es:List Te}
theorem Aa6(o:Yg G K)(h:Xb G H n m c K M vv all Γ (LM kind num nm ty of own line col v))(hkd:kind=19∨kind=20)(hes:QI G H B v es)(hB:∀id,B id->id<n/\id≠c/\id≠K.b)(hok:∀e∈es,e.of.nm.ok)(hty:ty.nm.ok)
 (htp:Xu (K.x M) Γ kind nm ty (es.map Te.of)=some (t,ow)) (hk:∀H' n',Kbc K.b c H n H' n'->T.get H' c=some (one (LM kind num nm ty t own line col v))->k (.G5 []) H' n'):
 Runs F G IZ [.ptr K.kb 0,.ptr c 0] H n k:=by
 refine go2 (Jg BK G) ?_
 delta IV
 have hbc:=h.bn o
 have hkc:=h.kn
 have hcn:=h.cn
 have qk:∀{H':Heap} {t':Ty},T.get H' c=some (one (LM kind num nm ty t' own line col v))->AY (.ptr c 0) G H'=some (.int .i64 (.ofNat kind) 0):=λg=>AV (off:=0) g rfl
 have qv:∀{H':Heap},T.get H' c=some (one (LM kind num nm ty of own line col v))->AY (.ptr c (0+7)) G H'=some v:=λg=>AV (off:=0+7) g rfl
 obtain⟨e,he,hinv,ht⟩:∃e,es=[e]/\((e.of.cls||e.of.is IE)=true/\BO K.tb ty=true)/\t=bif decide (kind=20)then BM else ty:=by
  rcases es with _|⟨a,_|⟨b,l⟩⟩
  ·rcases hkd with rfl|rfl<;>cases htp
  ·refine⟨a,rfl,?_⟩
   rcases hkd with rfl|rfl
   ·obtain⟨h1,h2⟩:=Eb (show TL ((a.of.cls||a.of.is IE)&&BO K.tb ty) ty (0,0)=some (t,ow)from htp)
    cases h2;rw[Bool.and_eq_true]at h1;exact⟨h1,rfl⟩
   ·obtain⟨h1,h2⟩:=Eb (show TL ((a.of.cls||a.of.is IE)&&BO K.tb ty) BM (0,0)=some (t,ow)from htp)
    cases h2;rw[Bool.and_eq_true]at h1;exact⟨h1,rfl⟩
  ·rcases hkd with rfl|rfl<;>cases htp
 subst he
 have AKB:=hok e (List.mem_cons_self ..)
 obtain⟨cs,e1,e2,e3,e4,e5,hts⟩:=hes
 have hvs:Ar v v=true:=e2.1 |> λh=>by
  cases v<;>first|exact h|(cases e1.2;done)|(cases e1.1;done)
 cases hts with
 |cons het htr=>
 cases htr with
 |nil=>
 rename_i l
 obtain⟨p,q1,q8,q9,kd⟩:=qG o.sub (i:=0) (l:=l) e1 rfl het.len
 cases het with
 |mk kind' num' nm' ty' of' own' line' col' hev hvk hva hvc=>
 rename_i v' cs' kids'
 have AKB:of'.nm.ok:=AKB
 have hinv:(of'.cls||of'.is IE)=true/\BO K.tb ty=true:=hinv
 rw[BU,AQ,Dk,AQ]
 refine AB (qk h.g) (AB (CY ..) ?_)
 rw[decide_eq_false (by omega),Ai,AQ,Dk,AQ]
 refine AB (qk h.g) (AB (CY ..) ?_)
 refine vC _ (qk h.g) (vC _ (qk h.g) ?_)
 rw[show((decide (kind=15)||decide (kind=17))||decide (kind=18))=false by rcases hkd with rfl|rfl<;>rfl,Ai,AQ,Dk,AQ]
 refine AB (qk h.g) (AB (CY ..) ?_)
 refine vC _ (qk h.g) ?_
 rw[show(decide (kind=19)||decide (kind=20))=true by rcases hkd with rfl|rfl<;>rfl,A8,AQ,Ae,AQ]
 refine AB (qv h.g) (AB kd.ip (AB kd.i8 (AB (v:=of'.v) (kd.ld H e1).2.2.1 ?_)))
 refine Au rfl λH1 f1 g1=>?_
 refine Bq (L:=of'.cells) g1 rfl rfl (by omega) λH2 g2 s2=>?_
 have f2:Kp H n H2 (n+1):=⟨f1.le,λid hid=>(s2 id (by omega)).trans (f1.same id hid)⟩
 have h2:=h.kp o f2
 refine AB (DZ g2) ?_
 rw[AQ,Ae,AQ]
 have e12:=e1.same (H':=H2) λid hid=>f2.same id (hB id (e5 id hid)).1
 refine AB (qv h2.g) (AB kd.ip (AB kd.i1 (AB (v:=bU line' col') (kd.ld H2 e12).2.1 ?_)))
 refine AKG (t:=of') AKB λH3 n3 f3=>?_
 have f03:=f2.trans f3
 have hn3:=f3.le
 have h3:=h.kp o f03
 have e13:=e1.same (H':=H3) λid hid=>f03.same id (hB id (e5 id hid)).1
 have g3:=f3.get g2 (by omega)
 refine AB (qv h3.g) (Bd hvs (AB (v:=bU line' col') (kd.ld H3 e13).2.1 (Bd (MH ..) ?_)))
 have rest:∀H4 n4,Kp H n H4 n4->Runs F G Aw [.ptr K.kb 0,.bool true,.int .i64 (.ofNat 24) 0,bU line' col'] H4 n4 (λv84 H n=>Aa v84 true (AL (Am (.ptr K.kb 0)) λv85=>AL (AU 0 v85) λv86=>AL (AY v86 G H) λv87=>AL (Am (.ptr c 0)) λv88=>AL (AU 5 v88) λv89=>AL (Ad 2 v89 G H) λv90=>
  BZ (Ah 2 1 [(.str 0 0),(.bool false)] [(0,.c v90)] E0) H n λv91 H n=>AL (Am (.ptr c 0)) λv92=>AL (AU 1 v92) λv93=>AL (Ad 2 v93 G H) λv94=>Runs F G CQ [v87,v91] H n λv95 H n=>AL (Ad 2 v93 G H) λv=>Dj (Ar v v94) <|
  Runs F G Aw [.ptr K.kb 0,v95,(.int .i64 (.ofNat 23) 0),v94] H n λv96 H n=>GI lfp G (Runs F G) k (.ptr c 0) H n) (GI lfp G (Runs F G) k (.ptr c 0) H n)):=by
  intro H4 n4 f4
  have h4:=h.kp o f4
  have hn4:=f4.le
  refine RD (K:=K) h4.ka.g (by omega) λH5 f5=>?_
  have h5:=h4.kp o f5
  rw[A8,BU,AQ,Dk,AQ]
  refine AB (AV (off:=0) h5.ka.g (v:=.ptr K.t 0) rfl) ?_
  rw[BU,AQ,Ae,AQ]
  refine AB (v:=ty.v) (Dh (off:=0+5) (m:=2) h5.g (by omega) (by show 0+5+2<=11;omega)) ?_
  refine AF8 o h5 hty hinv.2 λH6 n6 f6=>?_
  have h6:=h5.kb o f6
  have f06:Kb K.b H n H6 n6:=(f4.kb (by omega)).trans ((f5.kb (by omega)).trans f6)
  delta GI
  rw[BU,AQ,Ae,AQ]
  refine AB (v:=ty.v) (Dh (off:=0+5) (m:=2) h6.g (by omega) (by show 0+5+2<=11;omega)) ?_
  rw[AQ,Ae,AQ]
  refine wE (t:=ty) h6.g λH7 s7 g7=>?_
  rw[AQ,Dk,AQ]
  refine AB (qk g7) (AB (CY ..) ?_)
  have f07:=AEF (by omega) f06 s7
  cases h20:decide (kind=20)with
  |false=>
   rw[Ai]
   rw[h20]at ht
   obtain rfl:t=ty:=ht
   exact hk H7 n6 f07 g7
  |true=>
   rw[A8]
   rw[h20]at ht
   obtain rfl:t=BM:=ht
   refine NJ λH8 n8 f8=>?_
   rw[AQ,Ae,AQ]
   have:=f6.le
   refine wE (t:=BM) (f8.get g7 (by omega)) λH9 s9 g9=>?_
   exact hk H9 n8 (f07.trans (AEF (by omega) (f8.kb (b:=K.b) (by omega)) s9)) g9
 cases hc:of'.cls with
 |true=>
  refine Y0 (AHt ?_)
  refine AB (qv h3.g) (Bd hvs (AB (v:=bU line' col') (kd.ld H3 e13).2.1 (Bd (MH ..) ?_)))
  refine AVG (Y0 (eP ?_))
  exact rest H3 n3 f03
 |false=>
  have hnull:of'.is IE=true:=by have:=hinv.1;rw[hc]at this;exact this
  refine XE (DZ g3) (AHC ?_)
  refine Zl λH4 n4 f4=>?_
  have f04:=f03.trans f4
  have h4:=h.kp o f04
  have e14:=e1.same (H':=H4) λid hid=>f04.same id (hB id (e5 id hid)).1
  refine AB (qv h4.g) (Bd hvs (AB (v:=bU line' col') (kd.ld H4 e14).2.1 (Bd (MH ..) ?_)))
  refine ATA (DZ (f4.get g3 (by omega))) (Lu _) (XE (ZJ of' IE) (lZ ?_))
  rw[hnull]
  exact rest H4 n4 f04
theorem AcC(o:Yg G K)(h:Xb G H n m c K M vv all Γ (LM 16 num nm ty of own line col v))(hnm:(decide (nm=oU)||decide (nm=oC))=true)(hes:QI G H B v es)(hB:∀id,B id->id<n/\id≠c/\id≠K.b)(hok:∀e∈es,e.of.nm.ok)
 (htp:Xu (K.x M) Γ 16 nm ty (es.map Te.of)=some (t,ow)) (hk:∀H' n',Kbc K.b c H n H' n'->T.get H' c=some (one (LM 16 num nm ty t own line col v))->k (.G5 []) H' n'):
 Runs F G IZ [.ptr K.kb 0,.ptr c 0] H n k:=by
 refine go2 (Jg BK G) ?_
 delta IV
 have hbc:=h.bn o
 have hkc:=h.kn
 have hcn:=h.cn
 have qk:AY (.ptr c 0) G H=some (.int .i64 (.ofNat 16) 0):=AV (off:=0) h.g rfl
 have qn:AY (.ptr c (0+4)) G H=some nm.v:=AV (off:=0+4) h.g rfl
 have qv:∀{H':Heap},T.get H' c=some (one (LM 16 num nm ty of own line col v))->AY (.ptr c (0+7)) G H'=some v:=λg=>AV (off:=0+7) g rfl
 obtain⟨e,e',he,hinv,ht⟩:∃e e',es=[e,e']/\(e.of.is e'.of||(e.of.obj&&e'.of.obj))=true/\t=BM:=by
  rcases es with _|⟨a,_|⟨b,_|⟨c',l⟩⟩⟩
  ·cases htp
  ·cases htp
  ·have htp:(bif decide (nm=oU)||decide (nm=oC)then TL (a.of.is b.of||(a.of.obj&&b.of.obj)) BM (0,0)else TL (a.of.is Cb&&b.of.is Cb) (bif decide (nm=xH)||decide (nm=AAC)then BM else Cb) (0,0))=some (t,ow):=htp
   rw[hnm]at htp
   obtain⟨h1,h2⟩:=Eb (show TL (a.of.is b.of||(a.of.obj&&b.of.obj)) BM (0,0)=some (t,ow)from htp)
   cases h2
   exact⟨a,b,rfl,h1,rfl⟩
  ·cases htp
 subst he ht
 have hok0:=hok e (List.mem_cons_self ..)
 have hok1:=hok e' (by simp)
 obtain⟨cs,e1,e2,e3,e4,e5,hts⟩:=hes
 have hvs:Ar v v=true:=e2.1 |> λh=>by
  cases v<;>first|exact h|(cases e1.2;done)|(cases e1.1;done)
 cases hts with
 |cons het htr=>
 cases htr with
 |cons het' htr=>
 cases htr with
 |nil=>
 rename_i l l'
 obtain⟨p,q1,q8,q9,kd⟩:=qG o.sub (i:=0) (l:=l) e1 rfl het.len
 obtain⟨r,r1,r8,r9,kd'⟩:=qG o.sub (i:=1) (l:=l') e1 rfl het'.len
 have e8:(l.drop 8).take 2=e.of.cells:=by cases het;rfl
 have e8':(l'.drop 8).take 2=e'.of.cells:=by cases het';rfl
 generalize e.of=x at hok0 hinv e8
 generalize e'.of=y at hok1 hinv e8'
 have lx:∀H',El G H' v 11 [l,l']->Ad 2 q8 G H'=some x.v:=λH' h'=>by rw[(kd.ld H' h').2.2.1,e8];rfl
 have ly:∀H',El G H' v 11 [l,l']->Ad 2 r8 G H'=some y.v:=λH' h'=>by rw[(kd'.ld H' h').2.2.1,e8'];rfl
 rw[BU,AQ,Dk,AQ]
 refine AB qk (AB (CY ..) ?_)
 rw[show decide (16=14)=false from rfl,Ai,AQ,Dk,AQ]
 refine AB qk (AB (CY ..) ?_)
 refine vC _ qk (vC _ qk ?_)
 rw[show((decide (16=15)||decide (16=17))||decide (16=18))=false from rfl,Ai,AQ,Dk,AQ]
 refine AB qk (AB (CY ..) ?_)
 refine vC _ qk ?_
 rw[show(decide (16=19)||decide (16=20))=false from rfl,Ai,AQ,Ae,AQ]
 refine AB qn (AB (ANt nm oU) ?_)
 refine AR3 (x:=oC) _ qn ?_
 rw[hnm,A8,AQ,Ae,AQ]
 refine AB (qv h.g) (AB kd.ip (AB kd.i8 (AB (lx H e1) ?_)))
 rw[AQ,Ae,AQ]
 refine AB (qv h.g) (AB kd'.ip (AB kd'.i8 (AB (ly H e1) ?_)))
 refine Au rfl λH1 f1 g1=>?_
 refine Au rfl λH2 f2 g2=>?_
 refine Bq (L:=x.cells) (f2.get g1 (by omega)) rfl rfl (by omega) λH3 g3 s3=>?_
 have f3:Kp H n H3 (n+1+1):=⟨by omega,λid hid=>(s3 id (by omega)).trans ((f1.trans f2).same id hid)⟩
 have h3:=h.kp o f3
 have e13:=e1.same (H':=H3) λid hid=>f3.same id (hB id (e5 id hid)).1
 refine AB (qv h3.g) (Bd hvs (AB (ly H3 e13) (Bd (Lu y) ?_)))
 have g23:T.get H3 (n+1)=_:=(s3 (n+1) (by omega)).trans g2
 refine Bq (L:=y.cells) g23 rfl rfl (by omega) λH4 g4 s4=>?_
 have f4:Kp H n H4 (n+1+1):=⟨by omega,λid hid=>(s4 id (by omega)).trans (f3.same id hid)⟩
 have h4:=h.kp o f4
 have g34:T.get H4 n=_:=(s4 n (by omega)).trans g3
 refine AB (DZ g34) (AB (DZ g4) (AB (ZJ x y) ?_))
 have rest:∀H5 n5,Kp H n H5 n5->Runs F G Aw [.ptr K.kb 0,.bool true,.int .i64 (.ofNat 24) 0,bU line col] H5 n5 (λv136 H n=>Runs F G DR [] H n λv137 H n=>AL (Am (.ptr c 0)) λv138=>AL (AU 8 v138) λv139=>BL 2 v139 v137 H n λv140 H n=>k (.G5 []) H n):=by
  intro H5 n5 f5
  have h5:=h.kp o f5
  have:=f5.le
  refine RD (K:=K) h5.ka.g (by omega) λH6 f6=>NJ λH7 n7 f7=>?_
  have f07:=f5.trans (f6.trans f7)
  have h7:=h.kp o f07
  rw[BU,AQ,Ae,AQ]
  refine wE (t:=BM) h7.g λH8 s8 g8=>?_
  exact hk H8 n7 (AEF (by omega) (f07.kb (b:=K.b) (by omega)) s8) g8
 cases hxy:x.is y with
 |true=>
  refine Y0 ?_
  rw[AQ,Ae,AQ]
  refine AB (Yx h4.g) (AHt (AB (Yx h4.g) (Bd (MH ..) ?_)))
  refine Y0 (AHB (AOV (AB (Yx h4.g) (Bd (MH ..) ?_))))
  refine Y0 (eP ?_)
  exact rest H4 _ f4
 |false=>
  rw[hxy,Bool.false_or,Bool.and_eq_true]at hinv
  refine XE (DZ g34) ?_
  rw[AQ,Ae,AQ]
  refine AB (Yx h4.g) (AHC ?_)
  refine vK hok0 λH5 n5 f5=>?_
  have f05:=f4.trans f5
  have h5:=h.kp o f05
  have hn5:=f5.le
  refine AB (Yx h5.g) (Bd (MH ..) ?_)
  rw[hinv.1]
  refine XE rfl (PV (DZ (f5.get g4 (by omega))) (ACa ?_))
  refine vK hok1 λH6 n6 f6=>?_
  have f06:=f05.trans f6
  have h6:=h.kp o f06
  refine AB (Yx h6.g) (Bd (MH ..) ?_)
  rw[hinv.2]
  refine XE rfl (lZ ?_)
  exact rest H6 n6 f06
end
theorem AIn{s:St}(h:okS s=true):s.ok:=by
 intro h0
 unfold okS at h
 rw[decide_eq_true h0,Bool.not_true,Bool.false_or]at h
 exact of_decide_eq_true h
theorem AKy{s:St}{t:Ty}:∀{fs:List DJ},Yu s fs=some t->∃f∈fs,f.ty=t
 |[],h=>by cases h
 |f::l,h=>by
  have h:(bif decide (f.nm.1=s.1/\f.nm.2=s.2)then some f.ty else Yu s l)=some t:=h
  cases hd:decide (f.nm.1=s.1/\f.nm.2=s.2)with
  |true=>rw[hd]at h;exact⟨f,List.mem_cons_self ..,Option.some.inj h⟩
  |false=>rw[hd]at h;obtain⟨g,hg,e⟩:=AKy (fs:=l) h;exact⟨g,List.mem_cons_of_mem _ hg,e⟩
theorem AHz{s:St}{m:Ej}:∀{ms:List Ej},Ol s ms=some m->m∈ms
 |[],h=>by cases h
 |f::l,h=>by
  have h:(bif decide (f.nm.1=s.1/\f.nm.2=s.2)then some f else Ol s l)=some m:=h
  cases hd:decide (f.nm.1=s.1/\f.nm.2=s.2)with
  |true=>rw[hd]at h;cases h;exact List.mem_cons_self ..
  |false=>rw[hd]at h;exact List.mem_cons_of_mem _ (AHz (ms:=l) h)
theorem AHk{tb:Tab}{s:St}{p:St×Ty}:∀{cs:List St},rG tb s cs=some p->∃u c,Ie tb u=some c/\∃f∈c.fs,f.ty=p.2
 |[],h=>by cases h
 |u::cs,h=>by
  have h:(match Yu s ((Ie tb u).getD FV).fs with|some t=>some (u,t)|none=>rG tb s cs)=some p:=h
  cases hf:Yu s ((Ie tb u).getD FV).fs with
  |none=>rw[hf]at h;exact AHk (cs:=cs) h
  |some t=>
   rw[hf]at h
   cases h
   cases hl:Ie tb u with
   |none=>rw[hl]at hf;cases hf
   |some c=>rw[hl]at hf;exact⟨u,c,hl,AKy hf⟩
theorem AAa{tb:Tab}{s:St}{st:Bool}{p:St×Ej}:∀{cs:List St},Nq tb s st cs=some p->∃u c,Ie tb u=some c/\p.2∈c.ms
 |[],h=>by cases h
 |u::cs,h=>by
  have h:(match VL st s ((Ie tb u).getD FV).ms with|some m=>some (u,m)|none=>Nq tb s st cs)=some p:=h
  cases hf:VL st s ((Ie tb u).getD FV).ms with
  |none=>rw[hf]at h;exact AAa (cs:=cs) h
  |some t=>
   rw[hf]at h
   cases h
   unfold VL at hf
   cases hm:Ol s ((Ie tb u).getD FV).ms with
   |none=>rw[hm]at hf;cases hf
   |some q=>
    rw[hm]at hf
    have hq:q=t:=by
     cases hs:q.st==st with
     |false=>simp only[hs,cond_false]at hf;cases hf
     |true=>simp only[hs,cond_true]at hf;exact Option.some.inj hf
    subst hq
    cases hl:Ie tb u with
    |none=>rw[hl]at hm;cases hm
    |some c=>rw[hl]at hm;exact⟨u,c,hl,AHz hm⟩
theorem AKt{s:St}{t:Ty}:∀{Γ:List DJ},FP s Γ=some t->∃f∈Γ,f.ty=t
 |[],h=>by cases h
 |f::l,h=>by
  have h:(bif decide (f.nm=s)then some f.ty else FP s l)=some t:=h
  cases hd:decide (f.nm=s)with
  |true=>rw[hd]at h;exact⟨f,List.mem_cons_self ..,Option.some.inj h⟩
  |false=>rw[hd]at h;obtain⟨g,hg,e⟩:=AKt (Γ:=l) h;exact⟨g,List.mem_cons_of_mem _ hg,e⟩
section
variable{G:AX}{K:Kq}{M:Km}{Γ:List DJ}{nm:St}{ty:Ty}{p:Ty×St}
theorem AKH(o:Yg G K){c:Ty}{st:Bool}{gs:List Ty}(h:PE (K.x M) c nm st gs=some p):p.1.nm.ok/\gs.length<=1000:=by
 obtain⟨_,s,hm,hf,e⟩:=ACr h
 obtain⟨u,c',hl,hmem⟩:=AAa hm
 have h1:=(o.tn u c' hl).2 s hmem
 have h2:=o.ar u c' hl s hmem
 have h3:=kX hf
 exact⟨by rw[e];exact h1,by omega⟩
theorem AE4(o:Yg G K)(hΓ:∀f∈Γ,f.ty.nm.ok)(hty:ty.nm.ok)(kind:Nat)(ks:List Ty)(hks:∀t∈ks,t.nm.ok)(h:Xu (K.x M) Γ kind nm ty ks=some p):p.1.nm.ok/\ks.length<=1001:=by
 have i0:Cb.nm.ok:=by intro h;cases h
 have b0:BM.nm.ok:=by intro h;cases h
 have okT':∀{b:Bool} {t:Ty} {w:St},TL b t w=some p->t.nm.ok->p.1.nm.ok:=λh ht=>by rw[(Eb h).2];exact ht
 match kind,h with
 |0,h=>cases h
 |1,h=>rcases ks with _|⟨a,l⟩;(cases h;exact⟨i0,Nat.zero_le _⟩);cases h
 |2,h=>rcases ks with _|⟨a,l⟩;(cases h;exact⟨b0,Nat.zero_le _⟩);cases h
 |3,h=>rcases ks with _|⟨a,l⟩;(cases h;exact⟨b0,Nat.zero_le _⟩);cases h
 |4,h=>rcases ks with _|⟨a,l⟩;(cases h;exact⟨ATy,Nat.zero_le _⟩);cases h
 |5,h=>rcases ks with _|⟨a,l⟩;exact⟨okT' h o.cls,Nat.zero_le _⟩;cases h
 |6,h=>
  rcases ks with _|⟨a,l⟩
  ·obtain⟨t,h1,h2⟩:=Option.map_eq_some_iff.1 (show(FP nm Γ).map (λt=>(t,((0,0):St)))=some p from h)
   obtain⟨f,hf,e⟩:=AKt h1
   rw[<-h2,<-e];exact⟨hΓ f hf,Nat.zero_le _⟩
  ·cases h
 |7,h=>
  obtain⟨c,e,_,_,hf⟩:=AI6 h
  obtain⟨u,c',hl,f,hf',e'⟩:=AHk hf
  have:=(o.tn u c' hl).1 f hf'
  rw[e']at this
  exact⟨this,by rw[e];show 1<=1001;omega⟩
 |8,h=>
  obtain⟨c,gs,e,_,hc⟩:=ADQ h
  obtain⟨h1,h2⟩:=AKH o hc
  exact⟨h1,by rw[e,List.length_cons];omega⟩
 |9,h=>
  obtain⟨h1,h2⟩:=AKH o (show PE (K.x M) ty nm true ks=some p from h)
  exact⟨h1,by omega⟩
 |10,h=>rcases ks with _|⟨a,l⟩;exact⟨okT' h hty,Nat.zero_le _⟩;cases h
 |11,h=>rcases ks with _|⟨a,_|⟨b,l⟩⟩;cases h;exact⟨okT' h hty,by show 1<=1001;omega⟩;cases h
 |12,h=>rcases ks with _|⟨a,_|⟨b,_|⟨c,l⟩⟩⟩;cases h;cases h;exact⟨okT' h (hks a (List.mem_cons_self ..)),by show 2<=1001;omega⟩;cases h
 |13,h=>rcases ks with _|⟨a,_|⟨b,l⟩⟩;cases h;exact⟨okT' h i0,by show 1<=1001;omega⟩;cases h
 |14,h=>rcases ks with _|⟨a,_|⟨b,l⟩⟩;cases h;exact⟨okT' h i0,by show 1<=1001;omega⟩;cases h
 |15,h=>rcases ks with _|⟨a,_|⟨b,l⟩⟩;cases h;exact⟨okT' h b0,by show 1<=1001;omega⟩;cases h
 |16,h=>
  rcases ks with _|⟨a,_|⟨b,_|⟨c,l⟩⟩⟩
  ·cases h
  ·cases h
  ·have h:(bif decide (nm=oU)||decide (nm=oC)then TL (a.is b||(a.obj&&b.obj)) BM (0,0)else TL (a.is Cb&&b.is Cb) (bif decide (nm=xH)||decide (nm=AAC)then BM else Cb) (0,0))=some p:=h
   refine⟨?_,by show 2<=1001;omega⟩
   cases hb:decide (nm=oU)||decide (nm=oC)with
   |true=>rw[hb]at h;exact okT' h b0
   |false=>
    rw[hb]at h
    refine okT' (show TL (a.is Cb&&b.is Cb) (bif decide (nm=xH)||decide (nm=AAC)then BM else Cb) (0,0)=some p from h) ?_
    cases decide (nm=xH)||decide (nm=AAC);exact i0;exact b0
  ·cases h
 |17,h=>rcases ks with _|⟨a,_|⟨b,_|⟨c,l⟩⟩⟩;cases h;cases h;exact⟨okT' h b0,by show 2<=1001;omega⟩;cases h
 |18,h=>rcases ks with _|⟨a,_|⟨b,_|⟨c,l⟩⟩⟩;cases h;cases h;exact⟨okT' h b0,by show 2<=1001;omega⟩;cases h
 |19,h=>rcases ks with _|⟨a,_|⟨b,l⟩⟩;cases h;exact⟨okT' h hty,by show 1<=1001;omega⟩;cases h
 |20,h=>rcases ks with _|⟨a,_|⟨b,l⟩⟩;cases h;exact⟨okT' h b0,by show 1<=1001;omega⟩;cases h
 |k+21,h=>cases h
mutual
theorem AV7(o:Yg G K)(hΓ:∀f∈Γ,f.ty.nm.ok):∀{e e':Te},ckE (K.x M) Γ e=some e'->e'.of.nm.ok
 |.mk kind num nm ty of own kids,e',h=>by
  obtain⟨ks,p,h1,h2,rfl,h0⟩:=ABO h
  unfold gdE at h0
  rw[Bool.and_eq_true]at h0
  exact(AE4 o hΓ (AIn h0.1) kind _ (λt ht=>by obtain⟨e,he,rfl⟩:=List.mem_map.1 ht;exact ACs o hΓ h1 e he) h2).1
theorem ACs(o:Yg G K)(hΓ:∀f∈Γ,f.ty.nm.ok):∀{l l':List Te},uS (K.x M) Γ l=some l'->∀e∈l',e.of.nm.ok
 |[],l',h,e,he=>by rw[uS]at h;cases h;cases he
 |a::l,l',h,e,he=>by
  obtain⟨a',t,h1,h2,rfl⟩:=nO h
  rcases List.mem_cons.1 he with rfl|he
  ·exact AV7 o hΓ h1
  ·exact ACs o hΓ h2 e he
end
end
section
variable{G:AX}{H:Heap}{n m c:Nat}{K:Kq}{M:Km}{vv:V}{all:Nat}{Γ:List DJ}{k:KV}{B:Nat->Prop}{kind num:Nat}{nm:St}{ty of t:Ty}{own ow:St}{line col:Nat}{v:V}{es:List Te}
theorem AbP(g:T.get H c=some (one (LM kind num nm ty of own line col v)))(g2:T.get H (c+1)=some (one teZ))(hes:QI G H B v es)(hB:∀id,B id->c+2<=id/\id<n)
 (hk:∀H' l,(∀id,id≠c+1->T.get H' id=T.get H id)->FQ G H' (Rg c n) l (.mk kind num nm ty of own es)->k (.agg l) H' n):BQ lfp G (Runs F G) k (.ptr c 0) (.ptr (c+1) 0) H n:=by
 delta BQ
 refine AB (BI (m:=11) g (by omega) rfl) ?_
 refine Bq g2 rfl rfl (by omega) λH1 g1 s1=>?_
 rw[Cm (m:=11) g1 (by omega) rfl]
 simp only[go_sem]
 exact hk H1 _ s1 (FQ.of (hes.mono (λid hid=>by have:=hB id hid;exact⟨by omega,this.2⟩) λid hid=>s1 id (by have:=hB id hid;omega)))
theorem ALe{P:KV}(o:Yg G K)(h:Xb G H n m c K M vv all Γ (LM kind num nm ty of own line col v))(hC:ty.nm.ok)(hkn:BO K.tb ty=true)
 (hk:∀H' n',Kb K.b H n H' n'->P (.bool true) H' n'):
 AL (Am (.ptr K.kb 0)) λv59=>AL (AU 0 v59) λv60=>AL (AY v60 G H) λv61=>AL (AU 5 (.ptr c 0)) λv62=>AL (Ad 2 v62 G H) λv63=>BZ (Ah 2 1 [.str 0 0,.bool false] [(0,.c v63)] E0) H n λv64 H n=>
  AL (AU 1 (.ptr c 0)) λv65=>AL (Ad 2 v65 G H) λv66=>Runs F G CQ [v61,v64] H n λv67 H n=>AL (Ad 2 v65 G H) λv=>Dj (Ar v v66) <|
  Runs F G Aw [.ptr K.kb 0,v67,.int .i64 (.ofNat 23) 0,v66] H n P:=by
 rw[BU,AQ,Dk,AQ]
 refine AB (AV (off:=0) h.ka.g (v:=.ptr K.t 0) rfl) ?_
 rw[Ae,AQ]
 refine AB (v:=ty.v) (Dh (off:=0+5) (m:=2) h.g (by omega) (by show 0+5+2<=11;omega)) ?_
 exact AF8 o h hC hkn hk
structure Left(G:AX)(K:Kq)(M:Km)(Γ:List DJ)(vv:V)(all:Nat)(m c:Nat)(kind num:Nat)(nm:St)(ty of t:Ty)(own ow:St)(line col:Nat)(v:V)(H:Heap)(n:Nat)(k:KV):Prop where
 h:Xb G H n m c K M vv all Γ (LM kind num nm ty of own line col v)
 fin:∀H' n',Kbc K.b c H n H' n'->T.get H' c=some (one (LM kind num nm ty t ow line col v))->BQ lfp G (Runs F G) k (.ptr c 0) (.ptr (c+1) 0) H' n'
theorem Left.put(o:Yg G K){H':Heap}{n':Nat}(w:Left G K M Γ vv all m c kind num nm ty of t own own line col v H n k)(f:Kb K.b H n H' n'):
 AL (AU 8 (.ptr c 0)) λp=>BL 2 p t.v H' n' λ_ H n=>BQ lfp G (Runs F G) k (.ptr c 0) (.ptr (c+1) 0) H n:=by
 have hbc:=w.h.bn o
 have h':=w.h.kb o f
 rw[Ae,AQ]
 exact wE (t:=t) h'.g λH1 s1 g1=>w.fin H1 n' (AEF (by omega) f s1) g1
theorem AGE(o:Yg G K)(w:Left G K M Γ vv all m c kind num nm ty of t own ow line col v H n k)(hes:QI G H B v es)(hB:∀id,B id->id<n/\id≠c/\id≠K.b)(hok:∀e∈es,e.of.nm.ok)(hln:es.length<=10000)(hmb:mbr kind=true)(hty:ty.nm.ok)
 (htp:Xu (K.x M) Γ kind nm ty (es.map Te.of)=some (t,ow)) {a4:V}:EN lfp G (Runs F G) k (.ptr K.kb 0) (.ptr c 0) (.ptr (c+1) 0) a4 (.bool true) H n:=by
 delta EN
 rw[A8]
 exact ARC o w.h hes hB hok hln hmb hty htp λH' n' f g=>w.fin H' n' f g
theorem APH(o:Yg G K)(w:Left G K M Γ vv all m c kind num nm ty of t own own line col v H n k)(hes:QI G H B v es)(hB:∀id,B id->id<n/\id≠c/\id≠K.b)(hok:∀e∈es,e.of.nm.ok)(hln:es.length<=10000)(hkd:10<=kind)(hty:ty.nm.ok)
 (htp:Xu (K.x M) Γ kind nm ty (es.map Te.of)=some (t,ow)):EN lfp G (Runs F G) k (.ptr K.kb 0) (.ptr c 0) (.ptr (c+1) 0) (.int .i64 (.ofNat kind) 0) (.bool false) H n:=by
 delta EN
 rw[Ai]
 have h:=w.h
 have hbc:=h.bn o
 have hkc:=h.kn
 have hcn:=h.cn
 have qv:∀{H':Heap},T.get H' c=some (one (LM kind num nm ty of own line col v))->AY (.ptr c (0+7)) G H'=some v:=λg=>AV (off:=0+7) g rfl
 have hes0:=hes
 obtain⟨cs,e1,e2,e3,e4,e5,hts⟩:=hes
 have hvs:Ar v v=true:=e2.1 |> λh=>by
  cases v<;>first|exact h|(cases e1.2;done)|(cases e1.1;done)
 refine AB (CY ..) ?_
 by_cases k10:kind=10
 ·subst k10
  rw[show decide (10=10)=true from rfl,A8]
  rcases es with _|⟨a,l⟩
  ·obtain⟨h1,h2⟩:=Eb (show TL (BO K.tb ty) ty (0,0)=some (t,ow)from htp)
   cases h2
   refine ALe o h hty h1 λH1 n1 f1=>?_
   have h1:=h.kb o f1
   rw[Ae,AQ]
   refine AB (v:=ty.v) (Dh (off:=0+5) (m:=2) h1.g (by omega) (by show 0+5+2<=11;omega)) ?_
   exact w.put o f1
  ·cases htp
 rw[decide_eq_false k10,Ai]
 refine AB (CY ..) ?_
 by_cases k11:kind=11
 ·subst k11
  rw[show decide (11=11)=true from rfl,A8]
  rcases es with _|⟨a,_|⟨b,l⟩⟩
  ·cases htp
  ·obtain⟨h1,h2⟩:=Eb (show TL (a.of.is Cb&&BO K.tb ty) ⟨ty.nm,true⟩ (0,0)=some (t,ow)from htp)
   cases h2
   rw[Bool.and_eq_true]at h1
   rw[Ae,AQ]
   refine AB (qv h.g) ?_
   refine JL λH1 n1 x1=>?_
   have h1':=h.kp o x1
   refine AB (qv h1'.g) (Bd hvs ?_)
   refine ACf (K:=K) h1'.ka.g (by have:=h1'.cn;omega) (e1.same λid hid=>x1.same id (hB id (e5 id hid)).1) e5 (Gh.mono (λ_ h=>h) (λid hid=>x1.same id (hB id hid).1) hts) (λid hid=>by have:=hB id hid;have:=x1.le;omega) (λe he=>by rw[List.mem_singleton.1 he];exact kW h1.1) (by omega) λH2 n2 x2=>?_
   have h2:=h1'.kp o x2
   rw[A8]
   refine ALe o h2 hty h1.2 λH3 n3 f3=>?_
   have f03:Kb K.b H n H3 n3:=((x1.trans x2).kb (by omega)).trans f3
   have h3:=h.kb o f03
   delta Jz
   rw[Ae,AQ,Dk,AQ]
   refine AB (AV (off:=0+5) h3.g (v:=ty.nm.v) rfl) ?_
   refine AB (v:=Ty.v ⟨ty.nm,true⟩) rfl ?_
   exact w.put o f03
  ·cases htp
 rw[decide_eq_false k11,Ai]
 refine AB (CY ..) ?_
 by_cases k12:kind=12
 ·subst k12
  rw[show decide (12=12)=true from rfl,A8]
  rcases es with _|⟨a,_|⟨b,_|⟨c',l⟩⟩⟩
  ·cases htp
  ·cases htp
  ·obtain⟨h1,h2⟩:=Eb (show TL (a.of.arr&&b.of.is Cb) (AHg a.of) (0,0)=some (t,ow)from htp)
   cases h2
   rw[Bool.and_eq_true]at h1
   cases hts with
   |cons het htr=>
   rename_i l ls
   obtain⟨p,q1,q8,q9,kd⟩:=qG o.sub (i:=0) (l:=l) e1 rfl het.len
   cases het with
   |mk kind' num' nm' ty' of' own' line' col' hev hvk hva hvc=>
   rename_i v' cs' kids'
   have harr:of'.arr=true:=h1.1
   rw[Ae,AQ]
   refine AB (qv h.g) (AB kd.ip (AB kd.i8 (AB kd.i9 (AB (v:=.bool of'.arr) ((kd.ld H e1).2.2.2 _ rfl) ?_))))
   rw[AQ]
   refine AB (qv h.g) (AB kd.ip (AB kd.i1 (AB (v:=bU line' col') (kd.ld H e1).2.1 ?_)))
   rw[harr]
   refine RD (K:=K) h.ka.g (by omega) λH1 x1=>?_
   have h1':=h.kp o x1
   rw[A8,AQ]
   refine AB (qv h1'.g) ?_
   have e11:=e1.same (H':=H1) λid hid=>x1.same id (hB id (e5 id hid)).1
   obtain⟨w',hw',hwe,hws⟩:=El.tail e11 e2
   refine AB hw' ?_
   refine JL λH2 n2 x2=>?_
   have h2:=h1'.kp o x2
   have x02:=x1.trans x2
   have hn2:=x2.le
   refine AB (qv h2.g) (Bd hvs ?_)
   refine ACf (K:=K) (A:=B) h2.ka.g (by have:=h2.cn;omega) (hwe.same λid hid=>by rw[hws]at hid;have:=hB id (e5 id hid);exact x2.same id (by omega)) (λid hid=>by rw[hws]at hid;exact e5 id hid) (Gh.mono (λ_ h=>h) (λid hid=>x02.same id (hB id hid).1) htr) (λid hid=>by have:=hB id hid;omega) (λe he=>by rw[List.mem_singleton.1 he];exact kW h1.2) (by show 1<=1000000;omega) λH3 n3 x3=>?_
   have x03:=x02.trans x3
   have h3:=h.kp o x03
   delta J4
   rw[Ae,AQ]
   have e13:=e1.same (H':=H3) λid hid=>x03.same id (hB id (e5 id hid)).1
   refine AB (qv h3.g) (AB kd.ip (AB kd.i8 (AB (v:=of'.v) (kd.ld H3 e13).2.2.1 ?_)))
   refine ASc (t:=of') λH4 n4 x4=>?_
   exact w.put o ((x03.trans x4).kb (by omega))
  ·cases htp
 rw[decide_eq_false k12,Ai]
 refine AB (CY ..) ?_
 by_cases k13:kind=13
 ·subst k13
  rw[show decide (13=13)=true from rfl,A8]
  rcases es with _|⟨a,_|⟨b,l⟩⟩
  ·cases htp
  ·obtain⟨h1,h2⟩:=Eb (show TL a.of.arr Cb (0,0)=some (t,ow)from htp)
   cases h2
   cases hts with
   |cons het htr=>
   rename_i l ls
   obtain⟨p,q1,q8,q9,kd⟩:=qG o.sub (i:=0) (l:=l) e1 rfl het.len
   cases het with
   |mk kind' num' nm' ty' of' own' line' col' hev hvk hva hvc=>
   rename_i v' cs' kids'
   have harr:of'.arr=true:=h1
   rw[Ae,AQ]
   refine AB (qv h.g) (AB kd.ip (AB kd.i8 (AB kd.i9 (AB (v:=.bool of'.arr) ((kd.ld H e1).2.2.2 _ rfl) ?_))))
   rw[AQ]
   refine AB (qv h.g) (AB kd.ip (AB kd.i1 (AB (v:=bU line' col') (kd.ld H e1).2.1 ?_)))
   rw[harr]
   refine RD (K:=K) h.ka.g (by omega) λH1 x1=>?_
   refine JL λH2 n2 x2=>?_
   exact w.put o ((x1.trans x2).kb (by omega))
  ·cases htp
 rw[decide_eq_false k13,Ai]
 have fin':∀H' n',Kbc K.b c H n H' n'->T.get H' c=some (one (LM kind num nm ty t own line col v))->BQ lfp G (Runs F G) k (.ptr c 0) (.ptr (c+1) 0) H' n':=w.fin
 by_cases k14:kind=14
 ·subst k14;exact AZ7 o h hes0 hB hln htp fin'
 by_cases k15:kind=15∨kind=17∨kind=18
 ·exact AbH o h k15 hes0 hB hln htp fin'
 by_cases k19:kind=19∨kind=20
 ·exact Aa6 o h k19 hes0 hB hok hty htp fin'
 by_cases k16:kind=16
 ·subst k16
  cases hb:decide (nm=oU)||decide (nm=oC)with
  |true=>exact AcC o h hb hes0 hB hok htp fin'
  |false=>
   rw[Bool.or_eq_false_iff]at hb
   exact Abw o h ⟨of_decide_eq_false hb.1,of_decide_eq_false hb.2⟩ hes0 hB hln htp fin'
 ·exfalso
  obtain⟨j,rfl⟩:∃j,kind=j+21:=⟨kind-21,by omega⟩
  cases htp
end
section
variable{G:AX}{K:Kq}{M:Km}{Γ:List DJ}
theorem map_nil{es:List Te}{x:Ty}{l:List Ty}(h:es.map Te.of=x::l):es≠[]:=λe=>by rw[e]at h;cases h
theorem AMF(o:Yg G K){kind num:Nat}{nm:St}{ty of:Ty}{own:St}{kids:List Te}(hX:∀e∈kids,ALT G K M Γ e):ALT G K M Γ (.mk kind num nm ty of own kids):=by
 intro H n A l e' vv all k h ht hA hck hk
 refine go2 (tC BK G) ?_
 delta YL
 obtain⟨ks,p,hL,htp,rfl,hg⟩:=ABO hck
 obtain⟨t,ow⟩:=p
 unfold gdE at hg
 rw[Bool.and_eq_true]at hg
 have hty:=AIn hg.1
 have hkok:=ACs o h.ok hL
 have hlen:=(AE4 o h.ok hty kind _ (λt ht=>by obtain⟨e,he,rfl⟩:=List.mem_map.1 ht;exact hkok e he) htp).2
 rw[List.length_map]at hlen
 have hll:=ABg hL
 have hkn:=h.kn
 have hbn:=h.bn o
 cases ht with
 |mk _ _ _ _ _ _ line col hev hvk hva hvc=>
 rename_i v cs
 refine DY λH1 f1 g1=>?_
 refine Au rfl λH2 f2 g2=>?_
 have f02:=f1.trans f2
 have g1:=f2.get g1 (by omega)
 have hv:jc v=true/\Bl v=[v]:=by
  cases v<;>first|exact⟨rfl,rfl⟩|(cases hev.2;done)|(cases hev.1;done)
 have hes:QI G H2 A v kids:=⟨cs,hev.same λid hid=>f02.same id (hA id (hva id hid)).1,hvk,hv.1,hv.2,hva,Gh.mono (λ_ h=>h) (λid hid=>f02.same id (hA id hid).1) hvc⟩
 refine AW9 (m:=n) o hX (h.kb o ((f02.kb hbn).low (Nat.le_refl _))) (Nat.le_refl _) (by omega) hA g1 hes (by omega) hL λH3 n3 v3 f3 g3 hes3=>?_
 have hn3:=f3.le
 rw[Ef,AQ]
 show Aa (.bool false) true _ _
 rw[Ai]
 have f03:Kb K.b H n H3 n3:=⟨by omega,λid h1 h2=>(f3.same id (by omega) h2 (by omega)).trans (f02.same id h1),λhs=>f3.seen (hs.same (f02.same _ hbn))⟩
 have hx:Xb G H3 n3 n n K M vv all Γ (LM kind num nm ty of own line col v3):=⟨h.kb o (f03.low (Nat.le_refl _)),Nat.le_refl _,by omega,g3⟩
 have hB:∀id,Rg (n+1+1) n3 id->id<n3/\id≠n/\id≠K.b:=λid hid=>by have h1:=hid.1;have h2:=hid.2;omega
 have w:Left G K M Γ vv all n n kind num nm ty of t own ow line col v3 H3 n3 k:=⟨hx,λH4 n4 f4 g4=>by
  have hn4:=f4.le
  refine AbP g4 ((f4.same (n+1) (by omega) (by omega) (by omega)).trans ((f3.same (n+1) (by omega) (by omega) (by omega)).trans g2)) (hes3.mono (B:=Rg (n+1+1) n4) (λid hid=>⟨hid.1,Nat.lt_of_lt_of_le hid.2 hn4⟩) λid hid=>f4.same id hid.2 (hB id hid).2.2 (hB id hid).2.1) (λid hid=>hid) λH5 l5 s5 ht5=>?_
  refine hk H5 n4 l5 ⟨by omega,λid h1 h2=>(s5 id (by omega)).trans ((f4.same id (by omega) h2 (by omega)).trans (f03.same id h1 h2)),λhs=>(f4.seen (f03.seen hs)).same (s5 _ (by omega))⟩ ht5⟩
 rw[Dk,AQ]
 refine AB (AV (off:=0) g3 (v:=.int .i64 (.ofNat kind) 0) rfl) (AB (CY ..) ?_)
 have hown:mbr kind=false->own=ow:=λhm=>by
  have h1:=hg.2
  rw[hm,Bool.false_or]at h1
  rcases AFY _ _ htp with h2|h2
  ·rw[hm]at h2;cases h2
  ·rw[of_decide_eq_true h1];exact h2.symm
 by_cases k1:kind=1
 ·subst k1
  rw[show decide (1=1)=true from rfl,A8]
  cases hown rfl
  rcases ks with _|⟨a,l⟩
  ·cases htp
   exact JL λH4 n4 f4=>w.put o (f4.kb (by omega))
  ·cases htp
 rw[decide_eq_false k1,Ai]
 refine AB (CY ..) ?_
 by_cases k2:kind=2
 ·subst k2
  rw[show decide (2=2)=true from rfl,A8]
  delta Hy
  rw[A8]
  cases hown rfl
  rcases ks with _|⟨a,l⟩
  ·cases htp
   exact NJ λH4 n4 f4=>w.put o (f4.kb (by omega))
  ·cases htp
 rw[decide_eq_false k2,Ai]
 refine AB (CY ..) ?_
 delta Hy
 by_cases k3:kind=3
 ·subst k3
  rw[show decide (3=3)=true from rfl,A8]
  cases hown rfl
  rcases ks with _|⟨a,l⟩
  ·cases htp
   exact NJ λH4 n4 f4=>w.put o (f4.kb (by omega))
  ·cases htp
 rw[decide_eq_false k3,Ai]
 refine AB (CY ..) ?_
 by_cases k4:kind=4
 ·subst k4
  rw[show decide (4=4)=true from rfl,A8]
  cases hown rfl
  rcases ks with _|⟨a,l⟩
  ·cases htp
   exact Zl λH4 n4 f4=>w.put o (f4.kb (by omega))
  ·cases htp
 rw[decide_eq_false k4,Ai]
 refine AB (CY ..) ?_
 by_cases k5:kind=5
 ·subst k5
  rw[show decide (5=5)=true from rfl,A8]
  cases hown rfl
  rcases ks with _|⟨a,l⟩
  ·obtain⟨h1,h2⟩:=Eb (show TL (!M.st) ⟨K.cls,false⟩ (0,0)=some (t,own)from htp)
   cases h2
   rw[BU,AQ,Ae,AQ,Ae,AQ]
   refine AB (AV (off:=0+9+3) hx.ka.g (v:=.bool M.st) rfl) ?_
   rw[Ef,AQ,Ae,AQ]
   refine AB (Yx g3) ?_
   rw[h1]
   refine RD (K:=K) hx.ka.g (by omega) λH4 f4=>?_
   have h4:=hx.kp o f4
   rw[AQ,Ae,AQ,Ae,AQ]
   refine AB (AV (off:=0+3+2) h4.ka.g (v:=K.cls.v) rfl) ?_
   refine bW (l:=K.cls.1) (c:=K.cls.2) λH5 n5 f5=>?_
   exact w.put o ((f4.trans f5).kb (by omega))
  ·cases htp
 rw[decide_eq_false k5,Ai]
 refine AB (CY ..) ?_
 by_cases k6:kind=6
 ·subst k6
  rw[show decide (6=6)=true from rfl,A8]
  cases hown rfl
  rcases ks with _|⟨a,l⟩
  ·obtain⟨t',h1,h2⟩:=Option.map_eq_some_iff.1 (show(FP nm Γ).map (λt=>(t,((0,0):St)))=some (t,own)from htp)
   cases h2
   rw[BU,AQ,Ae,AQ,Ae,AQ]
   refine AB (AV (off:=0+4) g3 (v:=nm.v) rfl) ?_
   refine Au rfl λH4 f4 g4=>?_
   have h4:=hx.kp o f4
   refine ASG (s:=nm) o (h4.ka.lift o (by omega)) λH5 n5 f5=>?_
   have h5:=h4.kp o f5
   rw[h1,O5,AQ,O7,AQ]
   have g5:=f5.get g4 (by omega)
   have hn5:=f5.le
   refine Bq (L:=t.cells) g5 rfl rfl (by omega) λH6 g6 s6=>?_
   have f36:Kp H3 n3 H6 n5:=⟨by omega,λid hid=>(s6 id (by omega)).trans ((f4.trans f5).same id hid)⟩
   have h6:=hx.kp o f36
   rw[Ae,AQ]
   refine AB (Yx h6.g) ?_
   refine RD (K:=K) h6.ka.g (by omega) λH7 f7=>?_
   refine AB (DZ (f7.get g6 (by omega))) ?_
   exact w.put o ((f36.trans f7).kb (by omega))
  ·cases htp
 rw[decide_eq_false k6,Ai]
 refine AB (CY ..) ?_
 have hln:ks.length<=10000:=by omega
 by_cases k7:kind=7
 ·subst k7
  rw[show decide (7=7)=true from rfl,A8]
  exact AGE o w hes3 hB hkok hln rfl hty htp
 rw[decide_eq_false k7,Ai]
 refine AB (CY ..) ?_
 by_cases k8:kind=8
 ·subst k8
  rw[show decide (8=8)=true from rfl,A8]
  exact AGE o w hes3 hB hkok hln rfl hty htp
 rw[decide_eq_false k8,Ai]
 refine AB (CY ..) ?_
 by_cases k9:kind=9
 ·subst k9
  exact AGE o w hes3 hB hkok hln rfl hty htp
 rw[decide_eq_false k9]
 have hmb:mbr kind=false:=by unfold mbr;rw[decide_eq_false k7,decide_eq_false k8,decide_eq_false k9];rfl
 cases hown hmb
 by_cases k0:kind=0
 ·subst k0;cases htp
 exact APH o w hes3 hB hkok hln (by omega) hty htp
mutual
theorem AR1(o:Yg G K):∀e,ALT G K M Γ e
 |.mk _ _ _ _ _ _ kids=>AMF o (AOJ o kids)
theorem AOJ(o:Yg G K):∀es:List Te,∀e∈es,ALT G K M Γ e
 |[]=>λe h=>by cases h
 |a::l=>by
  have ha:=AR1 o a
  have hl:=AOJ o l
  intro e h
  rcases List.mem_cons.1 h with rfl|h
  ·exact ha
  ·exact hl e h
end
end
theorem Sk.AbB{G:AX}{H:Heap}{z n bs:Nat}{A:Nat->Prop}{v w:V}{LS:Dy}{c:LV}{P:KV}(h:Sk H z A v LS)(hn:∀id,v.D9=some id->id<n)(hz:0<z)(hw:elems w G H z=some [c])(hb:(LS.length+1)*bs<=140737488355328)
 (hk:∀v' H',(∀B:Nat->Prop,B n->Sk H' z B v' (LS++[c]))->(∀id,id<n->v.D9≠some id->T.get H' id=T.get H id)->v'.D9=some n->P v' H' (n+1)):O8 z bs v w G H n P:=by
 have fin:∀{v':V} {H7:Heap},Gr G H7 0 z v' (LS++[c])->(∀id,v'.D9=some id->id=n)->v'.D9=some n/\∀B:Nat->Prop,B n->Sk H7 z B v' (LS++[c]):=by
  intro v' H7 hgr hlo
  generalize hX:LS++[c]=X at hgr
  cases hgr with
  |nil=>simp at hX
  |OT hg hc ht hid=>
   have e:=hlo _ rfl
   subst e
   exact⟨rfl,λB hB=>.OT hg hc ht hB⟩
 cases h with
 |nil=>
  refine AEu (m:=0) .nil (by omega) (λ_ h=>by cases h) hw hb ?_ (λh=>by cases h)
  intro v' H7 hgr hsame hlo
  obtain⟨q1,q2⟩:=fin (v':=v') hgr hlo
  exact hk v' H7 q2 (λid h1 h2=>hsame id h1 h2) q1
 |emp hg ha=>
  rename_i id t
  refine xq (t:=t) hz hw (by simpa using hb) ?_
  intro v' H7 hgr hsame hlo
  obtain⟨q1,q2⟩:=fin (v':=v') hgr hlo
  exact hk v' H7 q2 (λid h1 h2=>hsame id h1) q1
 |OT hg hc' ht ha=>
  rename_i id c' t
  have hid:=hn id rfl
  have hgr:Gr G H 0 z (.OT id 0 LS.length z) LS:=.OT hg hc' ht (Nat.zero_le _)
  refine AEu (m:=0) hgr (by omega) (λj h=>by cases h;omega) hw hb ?_ (λh=>by cases h)
  intro v' H7 hgr hsame hlo
  obtain⟨q1,q2⟩:=fin (v':=v') hgr hlo
  exact hk v' H7 q2 (λid h1 h2=>hsame id h1 h2) q1
structure Ks(K:Kq)(v:V)(H:Heap)(n:Nat)(H':Heap)(n':Nat):Prop where
 le:n<=n'
 same:∀id,id<n->id≠K.b->id≠K.kb->v.D9≠some id->T.get H' id=T.get H id
 seen:MI H K.b->MI H' K.b
theorem Kb.ks{K:Kq}{H H':Heap}{n n':Nat}(v:V)(f:Kb K.b H n H' n'):Ks K v H n H' n':=⟨f.le,λid h hb _ _=>f.same id h hb,f.seen⟩
theorem Ks.refl(K:Kq)(v:V)(H:Heap)(n:Nat):Ks K v H n H n:=⟨Nat.le_refl _,λ_ _ _ _ _=>rfl,λh=>h⟩
theorem Ks.trans{K:Kq}{v v':V}{H H' H'':Heap}{n n' n'':Nat}(x:Ks K v H n H' n')(y:Ks K v' H' n' H'' n'')(h:Sd n v v'):Ks K v H n H'' n'':=
 ⟨Nat.le_trans x.le y.le,λid hid hb hk hv=>(y.same id (Nat.lt_of_lt_of_le hid x.le) hb hk (by
  rcases h with h|h
  ·rw[h];exact hv
  ·intro e;have:=h id e;omega)).trans (x.same id hid hb hk hv),λh=>y.seen (x.seen h)⟩
section
variable{G:AX}{H:Heap}{n:Nat}{K:Kq}{M:Km}{vv:V}{all:Nat}{Γ:List DJ}{k:KV}
theorem AVU{x:DJ}{p0 p1:V}(o:Yg G K)(h:nP G H n K M vv all Γ)(hx:x.ty.nm.ok)(hn:FP x.nm Γ=none)(ha:all<200)
 (hk:∀H' n' vv',Ks K vv H n H' n'->nP G H' n' K M vv' (all+1) (Γ++[x])->Sd n vv vv'->k (.G5 []) H' n'):Runs F G UJ [.ptr K.kb 0,.agg (QZ x),.agg [p0,p1]] H n k:=by
 refine go3 (xP BK G) ?_
 delta ZH
 have hkn:=h.kn
 have hbn:=h.bn o
 have hn0:=o.n0
 have hb0:=o.ba
 refine DY λH1 f1 g1=>?_
 refine DY λH2 f2 g2=>?_
 rw[BU,AQ,Ae,AQ,Dk,AQ]
 refine AB (AV (off:=0) (f2.get g1 (by omega)) (v:=x.nm.v) rfl) ?_
 refine Au rfl λH3 f3 g3=>?_
 have f13:=(f1.trans f2).trans f3
 have h3:=h.kp o f13
 refine ASG (s:=x.nm) o h3 λH4 n4 f4=>?_
 have h4:=h3.kp o f4
 have hn4:=f4.le
 rw[hn,O5,AQ,O7,AQ]
 have g4:=f4.get g3 (by omega)
 refine Bq (L:=OU.cells) g4 rfl rfl (by omega) λH5 g5 s5=>?_
 have f15:Kp H n H5 n4:=⟨by omega,λid hid=>(s5 id (by omega)).trans ((f13.trans f4).same id hid)⟩
 have g25:T.get H5 (n+1)=some (one [p0,p1]):=(s5 (n+1) (by omega)).trans (f4.get (f3.get g2 (by omega)) (by omega))
 have g15:T.get H5 n=some (one (QZ x)):=(s5 n (by omega)).trans (f4.get (f3.get (f2.get g1 (by omega)) (by omega)) (by omega))
 rw[Ef,AQ]
 refine AB (BI (m:=2) g25 (by omega) rfl) ?_
 refine RD (K:=K) (f15.get h.g hkn) (by omega) λH6 f6=>?_
 have f16:=f15.trans f6
 have h6:=h.kp o f16
 have g26:=f6.get g25 (by omega)
 rw[Ef,AQ]
 show Ba (.bool false) false _ _
 refine XE rfl (XE rfl (XE (BU ..) (XE (Ae ..) (XE (Ae ..) ?_))))
 refine XE (AV (off:=0+1+1) h6.g (v:=.int .i64 (.ofNat all) 0) rfl) (XE (Dl ..) ?_)
 rw[decide_eq_true ha]
 refine XE (BI (m:=2) g26 (by omega) rfl) (AHC ?_)
 refine RD (K:=K) h6.g (by omega) λH7 f7=>?_
 have f17:=f16.trans f7
 have h7:=h.kp o f17
 refine XE (Ef ..) (lZ ?_)
 show Aa (.bool false) true _ _
 rw[Ai,AQ,Ae,AQ,Dk,AQ]
 refine AB (AV (off:=0+1) h7.g (v:=vv) rfl) ?_
 refine AB (BI (m:=3) (f7.get (f6.get g15 (by omega)) (by omega)) (by omega) rfl) ?_
 generalize hn7:n4+1+1=n7 at*
 refine TD (G:=G) (vs:=[.agg (QZ x)]) rfl (by omega) (λv hv=>by simp at hv;subst hv;exact⟨rfl,rfl⟩) λH8 f8 _ hel=>?_
 have h8:=h7.kp o f8
 have f18:=f17.trans f8
 have qa:∀{H':Heap} {v:V},T.get H' K.kb=some (one (K.cells M v all))->AY (.ptr K.kb (0+1+1)) G H'=some (.int .i64 (.ofNat all) 0):=λg=>AV (off:=0+1+1) g rfl
 rw[AQ,Ae,AQ,Ae,AQ]
 refine AB (qa h8.g) ?_
 rw[Eu (by omega),AQ]
 have hlen:=h.lt
 refine h8.sk.AbB (c:=QZ x) (λid hid=>(h8.sk.own hid).2) (by omega) hel.2 (by rw[List.length_map];omega) λvv' H9 hs9 AEJ hsid=>?_
 have xY:∀id,vv.D9=some id->K.kb<id/\id<n:=λid hid=>h.sk.own hid
 have g9:T.get H9 K.kb=_:=(AEJ K.kb (by omega) λe=>by have:=xY _ e;omega).trans h8.g
 refine AB (qa g9) (Bd (AAI ..) ?_)
 have hsk9:=hs9 (λid=>K.kb<id/\id<n7+1+1) ⟨by omega,by omega⟩
 rw[AQ,Ae,AQ,Dk,AQ]
 refine Ib (off:=0+1) (m:=1) (v:=vv') g9 hsk9.ok.1 (by rw[hsk9.ok.2.1];rfl) (by omega) (by show 0+1+1<=20;omega) λH10 g10 s10=>?_
 rw[hsk9.ok.2.1]at g10
 rw[AQ,Ae,AQ,Ae,AQ]
 refine Ib (off:=0+1+1) (m:=1) (v:=.int .i64 (.ofNat (all+1)) 0) g10 rfl rfl (by omega) (by show 0+1+1+1<=20;omega) λH11 g11 s11=>?_
 have keep:∀id,id<n->id≠K.kb->vv.D9≠some id->T.get H11 id=T.get H id:=λid h1 h2 h3=>(s11 id h2).trans ((s10 id h2).trans ((AEJ id (by have:=f18.le;omega) h3).trans (f18.same id h1)))
 have hle:=f18.le
 have vb:∀id,id<K.n0->vv.D9≠some id:=λid h e=>by have:=xY id e;omega
 refine hk H11 _ vv' ⟨by omega,λid h1 _ h3 h4=>keep id h1 h3 h4,λhs=>hs.same (keep _ hbn (by omega) (vb _ hb0))⟩ ⟨g11,?_,by omega,?_,?_,by omega,?_,h.ret⟩ (.inr λid hid=>by rw[hsid]at hid;cases hid;omega)
 ·exact h.tab.kb ⟨Nat.le_refl _,λid h1 _=>keep id (by omega) (by omega) (vb id h1),λhs=>hs.same (keep _ hbn (by omega) (vb _ hb0))⟩
 ·rw[List.map_append]
  exact hsk9.PW (λid hid=>hsk9.own hid) λid hid=>(s11 id (by have:=(hsk9.own hid).1;omega)).trans (s10 id (by have:=(hsk9.own hid).1;omega))
 ·rw[List.length_append];have:=h.la;exact Nat.succ_le_succ this
 ·intro f hf
  rcases List.mem_append.1 hf with hf|hf
  ·exact h.ok f hf
  ·rw[List.mem_singleton.1 hf];exact hx
end
def RA(A:Nat->Prop)(a b:Nat)(v:V):Nat->Prop:=λid=>A id∨Rv a b v id
def AKc(G:AX)(K:Kq)(M:Km)(A:Nat->Prop)(H:Heap)(n:Nat)(vv:V)(g':Gs)(s':Tt)(k:KV):Prop:=
 ∀H' n' l' vv',Ks K vv H n H' n'->nP G H' n' K M vv' g'.2 g'.1->Sd n vv vv'->XU G H' (RA A n n' vv') l' s'->k (.agg l') H' n'
def ANe(G:AX)(K:Kq)(M:Km)(s:Tt):Prop:=∀(H:Heap) (n:Nat) (A:Nat->Prop) (l:LV) (vv:V) (all:Nat) (Γ:List DJ) (g':Gs) (s':Tt) (k:KV),nP G H n K M vv all Γ->XU G H A l s->(∀id,A id->id<K.kb/\id≠K.b)->ckS (K.x M) s (Γ,all)=some (s',g')->
 AKc G K M A H n vv g' s' k->Runs F G YG [.ptr K.kb 0,.agg l] H n k
def vV(G:AX)(K:Kq)(M:Km)(b:List Tt):Prop:=b.length<=1000->∀(H:Heap) (n:Nat) (A:Nat->Prop) (v:V) (vv:V) (all:Nat) (Γ:List DJ) (b':List Tt) (all':Nat) (k:KV),nP G H n K M vv all Γ->U9 G H A v b->(∀id,A id->id<K.kb/\id≠K.b)->iG (K.x M) b (Γ,all)=some (b',all')->
 (∀H' n' v' vv',Ks K vv H n H' n'->nP G H' n' K M vv' all' Γ->Sd n vv vv'->U9 G H' (RA A n n' vv') v' b'->k v' H' n')->Runs F G Na [.ptr K.kb 0,v] H n k
section
variable{G:AX}{H:Heap}{n m c:Nat}{K:Kq}{M:Km}{vv:V}{all:Nat}{Γ:List DJ}{k:KV}{A R:Nat->Prop}{does:Nat}{nm:St}{ty:Ty}{line col:Nat}{ve vt vl:V}{es es':List Te}{th el:List Tt}
theorem AQs(gc:T.get H c=some (one (ttC does line col nm ty ve vt vl)))(g2:T.get H (c+1)=some (one ttZ))(he:QI G H R ve es)(ht:U9 G H R vt th)(hl:U9 G H R vl el)(hR:∀id,R id->id≠c+1)
 (hk:∀H' l,(∀id,id≠c+1->T.get H' id=T.get H id)->XU G H' R l (.mk does nm ty es th el)->k (.agg l) H' n):CS lfp G (Runs F G) k (.ptr c 0) (.ptr (c+1) 0) H n:=by
 delta CS
 refine AB (BI (m:=9) gc (by omega) rfl) ?_
 refine Bq g2 rfl rfl (by omega) λH1 g1 s1=>?_
 rw[Cm (m:=9) g1 (by omega) rfl]
 simp only[go_sem]
 exact hk H1 _ s1 (XU.of (he.mono (λ_ h=>h) λid h=>s1 id (hR id h)) (ht.mono (λ_ h=>h) λid h=>s1 id (hR id h)) (hl.mono (λ_ h=>h) λid h=>s1 id (hR id h)))
theorem ASW(o:Yg G K)(h:nP G H m K M vv all Γ)(hmc:m<=c)(hcn:c<n)
 (hA:∀id,A id->id<K.kb/\id≠K.b) (gc:T.get H c=some (one (ttC does line col nm ty ve vt vl))) (he:QI G H A ve es) (hln:es.length<=10000) (hck:uS (K.x M) Γ es=some es')
 (hk:∀H' n' v',Kbc K.b c H n H' n'->T.get H' c=some (one (ttC does line col nm ty v' vt vl))->QI G H' (Rg n n') v' es'->Hq lfp G (Runs F G) k (.ptr K.kb 0) (.ptr c 0) (.ptr (c+1) 0) H' n'):
 AL (AU 6 (.ptr c 0)) λv29=>AL (AY v29 G H) λv30=>Runs F G Ei [v30] H n λv31 H n=>AL (AU 6 (.ptr c 0)) λv32=>BL 1 v32 v31 H n λv33 H n=>AL (AU 6 (.ptr c 0)) λv127=>AL (AY v127 G H) λv128=>AL (lenV v128) λv129=>
  lfp (V×V×V×V×V×V×Heap×Nat) (I9 lfp G (Runs F G) k) (.ptr K.kb 0,.ptr c 0,.ptr (c+1) 0,v128,v129,.int .i64 (.ofNat 0) 0,H,n):=by
 have hkn:=h.kn
 have hbm:=h.bn o
 obtain⟨cs,e1,-,-,-,e5,hts⟩:=he
 have hcl:=hts.len
 rw[Ae,AQ]
 refine AB (AV (off:=0+6) gc (v:=ve) rfl) ?_
 refine AEB e1 (λid hid=>by have:=hA id (e5 id hid);omega) (by omega) λv' H1 n1 f1 sk=>?_
 have hn1:=f1.le
 rw[AQ]
 refine Ib (off:=0+6) (m:=1) (v:=v') (f1.get gc hcn) sk.ok.1 (by rw[sk.ok.2.1];rfl) (by omega) (by show 0+6+1<=9;omega) λH2 g2 s2=>?_
 rw[sk.ok.2.1]at g2
 have f2:Kbc K.b c H n H2 n1:=(f1.kb (b:=K.b) (by omega)).bc c |>.trans (.box (by omega) s2)
 have sk2:Sk H2 11 (λid=>n<=id/\id<n1) v' cs:=sk.mono (λ_ h=>h) λid h=>s2 id (by omega)
 rw[AQ]
 have q2:∀{H':Heap},T.get H' c=some (one (ttC does line col nm ty v' vt vl))->AY (.ptr c (0+6)) G H'=some v':=λg=>AV (off:=0+6) g rfl
 refine AB (q2 g2) ?_
 have hlen:=(sk2.el (G:=G) (by omega)).len
 rw[hcl]at hlen
 refine AB hlen ?_
 have hel:=ABg hck
 refine CP (N:=es.length) (J:=λj q=>∃H' n' ds,q=(.ptr K.kb 0,.ptr c 0,.ptr (c+1) 0,v',.int .i64 (.ofNat es.length) 0,.int .i64 (.ofNat j) 0,H',n')/\Kbc K.b c H n H' n'/\n1<=n'/\T.get H' c=some (one (ttC does line col nm ty v' vt vl))/\
  Sk H' 11 (λid=>n<=id/\id<n1) v' (ds++cs.drop j)/\Gh G H' (λid=>n<=id/\id<n'/\v'.D9≠some id) ds (es'.take j)/\ds.length=j) ?_ ?_ ⟨H2,n1,[],rfl,f2,Nat.le_refl _,g2,sk2,.nil,rfl⟩
 ·rintro I j q hlt ⟨H3,n3,ds,rfl,f3,hn3,g3,sk3,hds,hdl⟩ ih
  show Gy lfp G (Runs F G) k I (.ptr K.kb 0) (.ptr c 0) (.ptr (c+1) 0) v' (.int .i64 (.ofNat es.length) 0) (.int .i64 (.ofNat j) 0) H3 n3
  delta Gy
  have hts3:=Gh.mono (H':=H3) (λ_ h=>h) (λid hid=>f3.same id (by have:=hA id hid;omega) (hA id hid).2 (by have:=hA id hid;omega)) hts
  have hget:=List.getElem?_eq_getElem hlt
  obtain⟨l,hl,het⟩:=hts3.at hget
  obtain⟨e',he',hce⟩:=ACu hck hget
  generalize es[j]=e at het hce
  obtain⟨p,hpp,hld⟩:=(sk3.el (G:=G) (by omega)).at (i:=j) (c:=l) (by rw[AJp hdl];exact hl)
  rw[Dl,AQ,decide_eq_true hlt,A8]
  refine AB hpp (AB (DW hld) ?_)
  refine Au rfl λH4 f4 g4=>?_
  refine Bq g4 rfl het.len (by omega) λH5 g5 s5=>?_
  have f35:Kp H3 n3 H5 (n3+1):=⟨f4.le,λid hid=>(s5 id (by omega)).trans (f4.same id hid)⟩
  rw[Ae,AQ]
  refine AB (q2 (f35.get g3 (by omega))) (AB (BI (m:=11) g5 (by omega) het.len) ?_)
  have f05:Kbc K.b c H n H5 (n3+1):=f3.trans ((f35.kb (b:=K.b) (by omega)).bc c)
  have h5:=h.kb o (f05.low hmc (by omega))
  have het5:FQ G H5 A l e:=het.mono (λ_ h=>h) λid hid=>f35.same id (by have:=hA id hid;omega)
  refine AR1 (M:=M) (Γ:=Γ) o e H5 (n3+1) A l e' vv all _ h5 het5 (λid hid=>by have:=hA id hid;exact⟨by omega,this.2⟩) hce λH6 n6 l' f6 het6=>?_
  have hn6:=f6.le
  have g6:T.get H6 c=_:=f6.get (f35.get g3 (by omega)) (by omega) (by omega)
  refine AB (q2 g6) (Bd sk.ok.2.2 ?_)
  have f36:Kb K.b H3 n3 H6 n6:=(f35.kb (b:=K.b) (by omega)).trans f6
  have sk6:Sk H6 11 (λid=>n<=id/\id<n1) v' (ds++cs.drop j):=sk3.mono (λ_ h=>h) λid h=>f36.same id (by omega) (by omega)
  have hlj:j<(ds++cs.drop j).length:=by rw[List.length_append,List.length_drop];omega
  refine sk6.put (i:=j) (w:=.agg l') (by omega) hlj rfl het6.len λH7 sk7 s7=>?_
  rw[show Bl (.agg l')=l' from rfl,set_mid hdl hl]at sk7
  rw[Eu (by omega),AQ]
  have vne:∀id,id<n∨n1<=id->v'.D9≠some id:=λid h e=>by have:=sk.own e;omega
  refine ih _ ⟨H7,n6,ds++[l'],rfl,?_,by omega,(s7 c (vne c (.inl hcn))).trans g6,sk7,?_,by rw[List.length_append,hdl];rfl⟩
  ·exact⟨by have:=f3.le;omega,λid h1 h2 h3=>(s7 id (vne id (.inl h1))).trans ((f36.same id (by have:=f3.le;omega) h2).trans (f3.same id h1 h2 h3)),λhs=>(f36.seen (f3.seen hs)).same (s7 _ (vne _ (.inl (by omega))))⟩
  ·rw[take_snoc he']
   refine(Gh.mono (λid hid=>⟨hid.1,by omega,hid.2.2⟩) (λid hid=>(s7 id hid.2.2).trans (f36.same id hid.2.1 (by omega))) hds).app (.cons (het6.mono (λid hid=>⟨by have:=hid.1;omega,hid.2,vne id (.inr (by have:=hid.1;omega))⟩) λid hid=>s7 id (vne id (.inr (by have:=hid.1;omega)))) .nil)
 ·rintro I q ⟨H3,n3,ds,rfl,f3,hn3,g3,sk3,hds,hdl⟩
  show Gy lfp G (Runs F G) k I (.ptr K.kb 0) (.ptr c 0) (.ptr (c+1) 0) v' (.int .i64 (.ofNat es.length) 0) (.int .i64 (.ofNat es.length) 0) H3 n3
  delta Gy
  rw[Dl,AQ,decide_eq_false (Nat.lt_irrefl _),Ai]
  rw[List.drop_eq_nil_of_le (by omega),List.append_nil]at sk3
  rw[List.take_of_length_le (by omega)]at hds
  exact hk H3 n3 v' f3 g3 ⟨ds,sk3.el (by omega),sk3.ks,sk3.ok.1,sk3.ok.2.1,λid hid=>by have:=sk3.own hid;exact⟨this.1,by omega⟩,Gh.mono (λid hid=>⟨hid.1,hid.2.1⟩) (λ_ _=>rfl) hds⟩
end
theorem AQH{s:St}(h:AKa s=true):s.ok:=by
 intro h0
 obtain⟨l,c⟩:=s
 have h0:l=0:=h0
 subst h0
 exfalso
 unfold AKa AIQ upper at h
 simp at h
theorem ADK{tb:Tab}{t:Ty}(h:BO tb t=true):t.nm.ok:=by
 unfold BO at h
 rw[Bool.and_eq_true]at h
 exact AQH h.1
theorem AEx{x:Kx}{does:Nat}{nm:St}{ty:Ty}{es:List Te}{th el:List Tt}{g:Gs}{r:Tt×Gs}(h:ckS x (.mk does nm ty es th el) g=some r):
 (does=1->BO x.tb ty=true)/\∃es' g1,uS x g.1 es=some es'/\AHD x does nm ty (es'.map Te.of) g=some g1/\
  ((does=4∨does=5)/\(th.length<=1000/\el.length<=1000)/\(∃p q,iG x th g1=some p/\iG x el (g1.1,p.2)=some q/\r=(.mk does nm ty es' p.1 q.1,(g1.1,q.2)))∨¬(does=4∨does=5)/\r=(.mk does nm ty es' th el,g1)):=by
 rw[ckS]at h
 cases hk:decide (does=1)&& !BO x.tb ty with
 |true=>rw[hk]at h;cases h
 |false=>
  rw[hk]at h
  refine⟨λhd=>?_,?_⟩
  ·rw[decide_eq_true hd]at hk
   cases hkn:BO x.tb ty with
   |true=>rfl
   |false=>rw[hkn]at hk;cases hk
  ·obtain⟨es',h1,h⟩:=Option.bind_eq_some_iff.1 h
   obtain⟨g1,h2,h⟩:=Option.bind_eq_some_iff.1 h
   refine⟨es',g1,h1,h2,?_⟩
   cases hd:decide (does=4)||decide (does=5)with
   |true=>
    rw[hd]at h
    have h:(bif szB th&&szB el then(iG x th g1).bind λp=>(iG x el (g1.1,p.2)).map λq=>(Tt.mk does nm ty es' p.1 q.1,(g1.1,q.2))else none)=some r:=h
    cases hz:szB th&&szB el with
    |false=>rw[hz]at h;cases h
    |true=>
     rw[hz]at h
     rw[Bool.and_eq_true]at hz
     obtain⟨p,h3,h⟩:=Option.bind_eq_some_iff.1 h
     obtain⟨q,h4,h5⟩:=Option.map_eq_some_iff.1 h
     refine .inl ⟨by simpa using hd,⟨of_decide_eq_true hz.1,of_decide_eq_true hz.2⟩,p,q,h3,h4,h5.symm⟩
   |false=>
    rw[hd]at h
    have h:(bif th.isEmpty&&el.isEmpty then some (Tt.mk does nm ty es' th el,g1)else none)=some r:=h
    cases hz:th.isEmpty&&el.isEmpty with
    |false=>rw[hz]at h;cases h
    |true=>
     rw[hz]at h
     exact .inr ⟨by simpa using hd,(Option.some.inj h).symm⟩
theorem AJ9{x:Kx}{does:Nat}{nm:St}{ty:Ty}{es:List Te}{th el:List Tt}{g:Gs}{r:Tt×Gs}(h:ckS x (.mk does nm ty es th el) g=some r)(hd:¬(does=4∨does=5)):th=[]/\el=[]:=by
 rw[ckS]at h
 cases hk:decide (does=1)&& !BO x.tb ty with
 |true=>rw[hk]at h;cases h
 |false=>
  rw[hk]at h
  obtain⟨es',h1,h⟩:=Option.bind_eq_some_iff.1 h
  obtain⟨g1,h2,h⟩:=Option.bind_eq_some_iff.1 h
  rw[show(decide (does=4)||decide (does=5))=false by simpa using hd]at h
  have h:(bif th.isEmpty&&el.isEmpty then some (Tt.mk does nm ty es' th el,g1)else none)=some r:=h
  cases hz:th.isEmpty&&el.isEmpty with
  |false=>rw[hz]at h;cases h
  |true=>simpa using hz
section
variable{G:AX}{H H0:Heap}{n n0:Nat}{K:Kq}{M:Km}{vv:V}{all:Nat}{Γ:List DJ}{k:KV}{A:Nat->Prop}{does:Nat}{nm:St}{ty:Ty}{line col:Nat}{ve v' vt vl:V}{es es':List Te}{th el:List Tt}
structure Sb(G:AX)(H0:Heap)(n0:Nat)(H:Heap)(n:Nat)(K:Kq)(M:Km)(vv:V)(all:Nat)(Γ:List DJ)(A:Nat->Prop)(does line col:Nat)(nm:St)(ty:Ty)(v' vt vl:V)(es':List Te)(th el:List Tt):Prop where
 ka:nP G H0 n0 K M vv all Γ
 hA:∀id,A id->id<K.kb/\id≠K.b
 f:Kbc K.b n0 H0 n0 H n
 le:n0+2<=n
 g:T.get H n0=some (one (ttC does line col nm ty v' vt vl))
 g2:T.get H (n0+1)=some (one ttZ)
 es:QI G H (Rg (n0+2) n) v' es'
 th:U9 G H0 A vt th
 el:U9 G H0 A vl el
theorem Sb.kb{H':Heap}{n':Nat}(o:Yg G K)(h:Sb G H0 n0 H n K M vv all Γ A does line col nm ty v' vt vl es' th el)(f:Kb K.b H n H' n'):Sb G H0 n0 H' n' K M vv all Γ A does line col nm ty v' vt vl es' th el:=by
 have hb:=h.ka.bn o
 have:=h.le
 have hr:∀id,Rg (n0+2) n id->id<n/\id≠K.b:=λid hid=>by have:=hid.1;have:=hid.2;omega
 exact⟨h.ka,h.hA,h.f.trans (f.bc n0),by have:=f.le;omega,f.get h.g (by omega) (by omega),f.get h.g2 (by omega) (by omega),h.es.mono (λid hid=>⟨hid.1,Nat.lt_of_lt_of_le hid.2 f.le⟩) λid hid=>f.same id (hr id hid).1 (hr id hid).2,h.th,h.el⟩
theorem Sb.kp{H':Heap}{n':Nat}(o:Yg G K)(h:Sb G H0 n0 H n K M vv all Γ A does line col nm ty v' vt vl es' th el)(f:Kp H n H' n'):Sb G H0 n0 H' n' K M vv all Γ A does line col nm ty v' vt vl es' th el:=by
 have hb:=h.ka.bn o
 have:=h.le
 exact h.kb o (f.kb (by omega))
theorem Sb.kk(o:Yg G K)(h:Sb G H0 n0 H n K M vv all Γ A does line col nm ty v' vt vl es' th el):nP G H n K M vv all Γ:=
 h.ka.kb o (h.f.low (Nat.le_refl _) (Nat.le_refl _))
theorem nP.box{H':Heap}{q:Nat}(o:Yg G K)(h:nP G H n K M vv all Γ)(hs:∀id,id≠q->T.get H' id=T.get H id)(hq:K.kb<q)(hv:vv.D9≠some q):nP G H' n K M vv all Γ:=by
 have:=o.n0;have:=o.ba
 exact⟨(hs _ (by omega)).trans h.g,h.tab.kb ⟨Nat.le_refl _,λid h1 _=>hs id (by omega),λx=>x.same (hs _ (by omega))⟩,h.kn,h.sk.PW (λid hid=>h.sk.own hid) λid hid=>hs id λe=>hv (e▸hid),h.la,h.al,h.ok,h.ret⟩
theorem Sb.done{H':Heap}{n':Nat}{vv':V}{g':Gs}(o:Yg G K)(h:Sb G H0 n0 H n K M vv all Γ A does line col nm ty v' vt vl es' th el)(f:Ks K vv H n H' n')(ka':nP G H' n' K M vv' g'.2 g'.1)(sd:Sd n vv vv')
 (hk:AKc G K M A H0 n0 vv g' (.mk does nm ty es' th el) k):CS lfp G (Runs F G) k (.ptr n0 0) (.ptr (n0+1) 0) H' n':=by
 have hkn:=h.ka.kn
 have hbn:=h.ka.bn o
 have hle:=h.le
 have hle':=f.le
 have hn0:=o.n0
 have hb0:=o.ba
 have xY:∀id,vv.D9=some id->K.kb<id/\id<n0:=λid hid=>h.ka.sk.own hid
 have vlo':∀id,vv'.D9=some id->id<n0∨n<=id:=λid hid=>by
  rcases sd with s|s
  ·exact .inl (xY id (s.symm.trans hid)).2
  ·exact .inr (s id hid)
 have keep:∀id,id<n->id≠K.b->id≠K.kb->(id<n0->vv.D9≠some id)->T.get H' id=T.get H id:=λid h1 h2 h3 h4=>f.same id h1 h2 h3 λe=>by have:=xY id e;exact h4 this.2 e
 have hA:∀id,A id->T.get H' id=T.get H0 id:=λid hid=>by
  have:=h.hA id hid
  exact(keep id (by omega) this.2 (by omega) λ_ e=>by have:=xY id e;omega).trans (h.f.same id (by omega) this.2 (by omega))
 refine AQs (R:=λid=>A id∨Rv (n0+2) n' vv' id) ((keep n0 (by omega) (by omega) (by omega) (by omega)).trans h.g) ((keep (n0+1) (by omega) (by omega) (by omega) (by omega)).trans h.g2)
  (h.es.mono (λid hid=>.inr ⟨hid.1,by have:=hid.2;omega,λe=>by have:=vlo' id e;have:=hid.1;have:=hid.2;omega⟩) λid hid=>by have h1:=hid.1;have h2:=hid.2;exact keep id (by omega) (by omega) (by omega) (by omega))
  (h.th.mono (λ_ hid=>.inl hid) hA) (h.el.mono (λ_ hid=>.inl hid) hA) (λid hid=>?_) λH'' l s' ht=>?_
 ·rcases hid with hid|hid
  ·have:=h.hA id hid;omega
  ·have:=hid.1;omega
 ·refine hk H'' n' l vv' ⟨by omega,λid h1 h2 h3 h4=>(s' id (by omega)).trans ((keep id (by omega) h2 h3 λ_=>h4).trans (h.f.same id h1 h2 (by omega))),λhs=>(f.seen (h.f.seen hs)).same (s' _ (by omega))⟩ (ka'.box o s' (by omega) λe=>by have:=vlo' _ e;omega) ?_ (ht.mono (λid hid=>?_) λ_ _=>rfl)
  ·rcases sd with s|s
   ·exact .inl s
   ·exact .inr λid hid=>by have:=s id hid;omega
  ·rcases hid with hid|hid
   ·exact .inl hid
   ·exact .inr ⟨by have:=hid.1;omega,hid.2⟩
theorem Sb.AN4{H':Heap}{n':Nat}(o:Yg G K)(h:Sb G H0 n0 H n K M vv all Γ A does line col nm ty v' vt vl es' th el)(f:Kb K.b H n H' n')(hk:AKc G K M A H0 n0 vv (Γ,all) (.mk does nm ty es' th el) k):CS lfp G (Runs F G) k (.ptr n0 0) (.ptr (n0+1) 0) H' n':=
 h.done o (f.ks vv) (h.kk o |>.kb o f) (Sd.refl ..) hk
structure Qb(H:Heap)(q:Nat)(t:Ty)(pl pc:Nat):Prop where
 of:∀{G:AX},Ad 2 (.ptr q (0+8)) G H=some t.v
 ps:∀{G:AX},Ad 2 (.ptr q (0+1)) G H=some (bU pl pc)
theorem AZo{q:Nat}{l:LV}{e:Te}{B:Nat->Prop}(ht:FQ G H0 B l e):∃pl pc,∀{H:Heap},T.get H q=some (one l)->Qb H q e.of pl pc:=by
 cases ht with
 |mk kind num nm ty of own line col hev hvk hva hvc=>
 exact⟨line,col,λg=>⟨Dh (off:=0+8) (m:=2) g (by omega) (by show 0+8+2<=11;omega),Dh (off:=0+1) (m:=2) g (by omega) (by show 0+1+2<=11;omega)⟩⟩
theorem AHX{P:KV}{x y:Ty}{pl pc:Nat}{pp:V}(o:Yg G K)(h:nP G H n K M vv all Γ)(hx:x.nm.ok)(hy:y.nm.ok)(hf:fitsT K.tb x y=true)(hp:∀H' n',Kb K.b H n H' n'->Ad 2 pp G H'=some (bU pl pc))
 (hk:∀H' n',Kb K.b H n H' n'->P (.bool true) H' n'):
 Runs F G JD [.ptr K.t 0,x.v,y.v] H n λv63 H n=>AL (Ad 2 pp G H) λv=>Dj (Ar v (bU pl pc)) <| Runs F G Aw [.ptr K.kb 0,v63,.int .i64 (.ofNat 24) 0,bU pl pc] H n P:=by
 refine AIi (x:=x) (y:=y) h.tab (by have:=h.kn;have:=o.n0;omega) o.tl hx hy λH1 n1 f1=>?_
 rw[hf]
 have h1:=h.kb o f1
 refine AB (hp H1 n1 f1) (Bd (MH ..) ?_)
 refine RD (K:=K) h1.g h1.kn λH2 f2=>?_
 exact hk H2 _ (f1.trans (f2.kb (h1.bn o)))
end
end Go.RL
