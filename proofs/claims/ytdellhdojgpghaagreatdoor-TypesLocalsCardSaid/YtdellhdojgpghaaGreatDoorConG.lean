/- Part of a proof; nothing is assumed. -/
import Derived.Test.YtdellhdojgpghaaGreatDoorConF
import Derived.Test.YtdellhdojgpghaaGreatDoorConB
set_option linter.unusedVariables false
set_option linter.unusedSimpArgs false
noncomputable section
namespace Go.RL
open Go.Bj
set_option maxRecDepth 100000
def sink{α:Type}(lt:α->α->Bool):Nat->List α->List α
 |0,xs=>xs
 |j+1,xs=>match xs[j+1]?,xs[j]? with
  |some a,some b=>bif lt a b then sink lt j ((xs.set (j+1) b).set j a)else xs
  |_,_=>xs
def Zc{α:Type}(lt:α->α->Bool)(xs:List α)(i:Nat):Nat->List α
 |0=>xs
 |r+1=>Zc lt (sink lt i xs) (i+1) r
def Rf{α:Type}(lt:α->α->Bool)(xs:List α):List α:=Zc lt xs 1 (xs.length-1)
def ltN{α:Type}(key:α->St)(a b:α):Bool:=slt (key a).1 (key a).2 (key b).1 (key b).2
theorem Y2{α:Type}{lt:α->α->Bool}{j:Nat}{xs:List α}(h:j+1<xs.length)(hc:lt xs[j+1] xs[j]=false):sink lt (j+1) xs=xs:=by
 show(match xs[j+1]?,xs[j]? with|some a,some b=>bif lt a b then sink lt j ((xs.set (j+1) b).set j a)else xs|_,_=>xs)=xs
 rw[List.getElem?_eq_getElem h,List.getElem?_eq_getElem (show j<xs.length by omega)]
 show(bif lt xs[j+1] xs[j]then _ else xs)=xs
 rw[hc];rfl
theorem vS{α:Type}{lt:α->α->Bool}{j:Nat}{xs:List α}(h:j+1<xs.length)(hc:lt xs[j+1] xs[j]=true):sink lt (j+1) xs=sink lt j ((xs.set (j+1) xs[j]).set j xs[j+1]):=by
 show(match xs[j+1]?,xs[j]? with|some a,some b=>bif lt a b then sink lt j ((xs.set (j+1) b).set j a)else xs|_,_=>xs)=_
 rw[List.getElem?_eq_getElem h,List.getElem?_eq_getElem (show j<xs.length by omega)]
 show(bif lt xs[j+1] xs[j]then _ else xs)=_
 rw[hc];rfl
theorem ALi{α:Type}{lt:α->α->Bool}:∀(j:Nat) (xs:List α),(sink lt j xs).length=xs.length
 |0,_=>rfl
 |j+1,xs=>by
  by_cases h:j+1<xs.length
  ·cases hc:lt xs[j+1] xs[j]with
   |false=>rw[Y2 h hc]
   |true=>rw[vS h hc,ALi j];simp
  ·show(match xs[j+1]?,xs[j]? with|some a,some b=>bif lt a b then sink lt j ((xs.set (j+1) b).set j a)else xs|_,_=>xs).length=_
   rw[List.getElem?_eq_none (by omega)]
theorem ALn{α:Type}{lt:α->α->Bool}:∀(j:Nat) (xs:List α) (x:α),x∈sink lt j xs->x∈xs
 |0,_,_,h=>h
 |j+1,xs,x,h=>by
  by_cases hl:j+1<xs.length
  ·cases hc:lt xs[j+1] xs[j]with
   |false=>rw[Y2 hl hc]at h;exact h
   |true=>
    rw[vS hl hc]at h
    have h:=ALn j _ x h
    rcases List.mem_or_eq_of_mem_set h with h|rfl
    ·rcases List.mem_or_eq_of_mem_set h with h|rfl
     ·exact h
     ·exact List.getElem_mem _
    ·exact List.getElem_mem _
  ·have:sink lt (j+1) xs=xs:=by
    show(match xs[j+1]?,xs[j]? with|some a,some b=>bif lt a b then sink lt j ((xs.set (j+1) b).set j a)else xs|_,_=>xs)=_
    rw[List.getElem?_eq_none (by omega)]
   rw[this]at h;exact h
theorem AGL{α:Type}{lt:α->α->Bool}:∀(r:Nat) (xs:List α) (i:Nat),(Zc lt xs i r).length=xs.length
 |0,_,_=>rfl
 |r+1,xs,i=>by show(Zc lt (sink lt i xs) (i+1) r).length=_;rw[AGL r,ALi]
theorem AFN{α:Type}{lt:α->α->Bool}:∀(r:Nat) (xs:List α) (i:Nat) (x:α),x∈Zc lt xs i r->x∈xs
 |0,_,_,_,h=>h
 |r+1,xs,i,x,h=>ALn i xs x (AFN r _ _ x h)
theorem vV{α:Type}{lt:α->α->Bool}(xs:List α):(Rf lt xs).length=xs.length:=AGL ..
theorem ACZ{α:Type}{lt:α->α->Bool}{xs:List α}{x:α}(h:x∈Rf lt xs):x∈xs:=AFN _ _ _ _ h
theorem AL2{α β:Type}{lt:α->α->Bool}{lt':β->β->Bool}{f:α->β}(hl:∀a b,lt a b=lt' (f a) (f b)):∀(j:Nat) (xs:List α),(sink lt j xs).map f=sink lt' j (xs.map f)
 |0,_=>rfl
 |j+1,xs=>by
  by_cases h:j+1<xs.length
  ·have h':j+1<(xs.map f).length:=by rw[List.length_map];exact h
   cases hc:lt xs[j+1] xs[j]with
   |false=>rw[Y2 h hc,Y2 h' (by rw[List.getElem_map,List.getElem_map,<-hl];exact hc)]
   |true=>rw[vS h hc,vS h' (by rw[List.getElem_map,List.getElem_map,<-hl];exact hc),AL2 hl j,List.map_set,List.map_set,List.getElem_map,List.getElem_map]
  ·show(match xs[j+1]?,xs[j]? with|some a,some b=>bif lt a b then sink lt j ((xs.set (j+1) b).set j a)else xs|_,_=>xs).map f=(match(xs.map f)[j+1]?,(xs.map f)[j]? with|some a,some b=>bif lt' a b then sink lt' j (((xs.map f).set (j+1) b).set j a)else xs.map f|_,_=>xs.map f)
   rw[List.getElem?_eq_none (by omega),List.getElem?_eq_none (l:=xs.map f) (by rw[List.length_map];omega)]
theorem AFB{α β:Type}{lt:α->α->Bool}{lt':β->β->Bool}{f:α->β}(hl:∀a b,lt a b=lt' (f a) (f b)):∀(r:Nat) (xs:List α) (i:Nat),(Zc lt xs i r).map f=Zc lt' (xs.map f) i r
 |0,_,_=>rfl
 |r+1,xs,i=>by show(Zc lt (sink lt i xs) (i+1) r).map f=Zc lt' (sink lt' i (xs.map f)) (i+1) r;rw[AFB hl r,AL2 hl]
theorem APz{α β:Type}{lt:α->α->Bool}{lt':β->β->Bool}{f:α->β}(hl:∀a b,lt a b=lt' (f a) (f b))(xs:List α):(Rf lt xs).map f=Rf lt' (xs.map f):=by
 unfold Rf;rw[AFB hl,List.length_map]
def ACE(a b:St):Int:=Bool.rec (Bool.rec (.ofNat 0) (.ofNat 1) (slt b.1 b.2 a.1 a.2)) (.negSucc 0) (slt a.1 a.2 b.1 b.2)
theorem APX(a b:St):B2.ev .lss (.int .i64 (ACE a b) 0) (.int .i64 (.ofNat 0) 0)=some (.bool (slt a.1 a.2 b.1 b.2)):=by
 rw[AdN]
 unfold ACE
 cases slt a.1 a.2 b.1 b.2 with
 |true=>rfl
 |false=>cases slt b.1 b.2 a.1 a.2<;>rfl
theorem AHQ{G:AV}{a b:St}{H:Heap}{n:Nat}{k:KV}(hk:k (.int .i64 (ACE a b) 0) H n):Runs F G VO [a.v,b.v] H n k:=by
 refine go2 (AAT Aq G) ?_
 delta bQ
 refine go2 (UL Aq G) ?_
 delta MI
 exact AB (show AKz a.v b.v=some (.int .i64 (ACE a b) 0)from rfl) hk
def sgC(p:FN×V):LV:=FN.cells p.1 p.2
def sgN(p:FN×V):St:=p.1.nm
theorem AOA:∀ps:List (FN×V),ps.map sgC=List.zipWith FN.cells (ps.map Prod.fst) (ps.map Prod.snd)
 |[]=>rfl
 |p::l=>by rw[List.map_cons,AOA l];rfl
section
variable{G:AV}
theorem ATl{x y:ER}{H:Heap}{n:Nat}{k:KV}(hk:∀H' n',Kp H n H' n'->k (.int .i64 (ACE (ER.nm x) (ER.nm y)) 0) H' n'):Runs F G CY [.agg (Yy x),.agg (Yy y)] H n k:=by
 refine go2 (wB Aq G) ?_
 delta ZT
 refine Ei λH1 f1 g1=>?_
 refine Ei λH2 f2 g2=>?_
 rw[DK,AU]
 refine AB (AX (off:=0) (f2.get g1 (by omega)) (v:=(ER.nm x).v) rfl) ?_
 rw[DK,AU]
 refine AB (AX (off:=0) g2 (v:=(ER.nm y).v) rfl) ?_
 exact AHQ (hk _ _ (f1.trans f2))
structure AIp(H0:Heap)(n0:Nat)(A:Nat->Prop)(v:V)(H:Heap)(n:Nat)(xs:List (ER)):Prop where
 sk:Sk H 3 A v (xs.map Yy)
 same:∀id,id<n0->v.Dl≠some id->T.get H id=T.get H0 id
 le:n0<=n
theorem ASG{A:Nat->Prop}{v:V}{xs:List (ER)}{H:Heap}{n:Nat}{k:KV}{m:Nat}(h:Sk H 3 A v (xs.map Yy))(hA:∀id,v.Dl=some id->id<n)(hm:xs.length=m)(hb:m<=1000)
 (hk:∀H' n',n<=n'->Sk H' 3 A v ((Rf (ltN ER.nm) xs).map Yy)->(∀id,id<n->v.Dl≠some id->T.get H' id=T.get H id)->k (.EI []) H' n'):
 Runs F G FQ [v,.int .i64 (.ofNat 0) 0,.int .i64 (.ofNat m) 0,.fn CY [] []] H n k:=by
 refine go4 (Qp Aq G) ?_
 delta JZ
 rw[GV (by omega),AU]
 refine FB (J:=λq s=>∃i H' n' ys,q=m-i/\1<=i/\s=(v,.int .i64 (.ofNat 0) 0,.int .i64 (.ofNat m) 0,.fn CY [] [],.int .i64 (.ofNat i) 0,H',n')/\ys.length=m/\Zc (ltN ER.nm) ys i (m-i)=Rf (ltN ER.nm) xs/\AIp H n A v H' n' ys) ?_
  (m:=m-1) ⟨1,H,n,xs,rfl,Nat.le_refl _,rfl,hm,by rw[Rf,hm],h,λ_ _ _=>rfl,Nat.le_refl _⟩
 rintro I q s ⟨i,H1,n1,ys,rfl,hi,rfl,hl,hf,hj⟩ ih
 show Ef lfp G (Runs F G) k I v (.int .i64 (.ofNat 0) 0) (.int .i64 (.ofNat m) 0) (.fn CY [] []) (.int .i64 (.ofNat i) 0) H1 n1
 delta Ef
 refine AB (AF5 ..) ?_
 by_cases hlt:i<m
 ·rw[decide_eq_true hlt,A8]
  obtain⟨r,hr⟩:∃r,m-i=r+1:=⟨m-i-1,by omega⟩
  rw[hr]at hf
  refine FB (J:=λj s=>∃H' n' zs,s=(v,.int .i64 (.ofNat 0) 0,.int .i64 (.ofNat m) 0,.fn CY [] [],.int .i64 (.ofNat i) 0,.int .i64 (.ofNat j) 0,H',n')/\j<=i/\zs.length=m/\sink (ltN ER.nm) j zs=sink (ltN ER.nm) i ys/\AIp H n A v H' n' zs) ?_
   (m:=i) ⟨H1,n1,ys,rfl,Nat.le_refl _,hl,rfl,hj⟩
  rintro I2 j s ⟨H2,n2,zs,rfl,hji,hl2,hsk,hj2⟩ ih2
  show Eh lfp G (Runs F G) k I I2 v (.int .i64 (.ofNat 0) 0) (.int .i64 (.ofNat m) 0) (.fn CY [] []) (.int .i64 (.ofNat i) 0) (.int .i64 (.ofNat j) 0) H2 n2
  delta Eh
  refine AB (ANW ..) ?_
  have fin:∀{H':Heap} {n':Nat} {ws:List (ER)},AIp H n A v H' n' ws->ws.length=m->ws=sink (ltN ER.nm) i ys->Di lfp G (Runs F G) k I v (.int .i64 (.ofNat 0) 0) (.int .i64 (.ofNat m) 0) (.fn CY [] []) (.int .i64 (.ofNat i) 0) H' n':=by
   intro H' n' ws hw hwl hwe
   delta Di
   rw[GV (by omega),AU]
   refine ih (m-(i+1)) _ (by omega) ⟨i+1,H',n',ws,rfl,by omega,rfl,hwl,?_,hw⟩
   rw[show m-(i+1)=r by omega,hwe];exact hf
  cases j with
  |zero=>
   rw[show decide (0<0)=false from rfl]
   repeat (first|with_reducible refine AJQ ?_|with_reducible refine ASv ?_|with_reducible refine ATB ?_|with_reducible refine AX1 ?_|with_reducible refine xP ?_)
   rw[Ak]
   exact fin hj2 hl2 (by rw[<-hsk];rfl)
  |succ j=>
   rw[decide_eq_true (show 0<j+1 by omega)]
   have hel:=hj2.sk.el (G:=G) (by omega)
   have hj1:j+1<zs.length:=by omega
   obtain⟨p1,hp1,hl1⟩:=hel.at (i:=j+1) (c:=Yy zs[j+1]) (by simp[hj1])
   obtain⟨p0,hp0,hl0⟩:=hel.at (i:=j) (c:=Yy zs[j]) (by rw[List.getElem?_map,List.getElem?_eq_getElem (show j<zs.length by omega)];rfl)
   have hs1:=AbD j (by omega)
   refine xW rfl (xW rfl (xW rfl (xW hp1 (xW (EM hl1) (xW rfl (xW rfl (xW hs1 (xW hp0 (xW (EM hl0) (AQO ?_))))))))))
   show Runs F G CY [.agg (Yy zs[j+1]),.agg (Yy zs[j])] H2 n2 _
   refine ATl λH3 n3 f3=>?_
   refine xW (APX _ _) ?_
   refine AL4 ?_
   have hlo:∀id,v.Dl=some id->id<n2:=λid hid=>Nat.lt_of_lt_of_le (hA id hid) hj2.le
   have hj3:AIp H n A v H3 n3 zs:=⟨hj2.sk.aJ (λid hid=>hj2.sk.own hid) λid hid=>f3.same id (hlo id hid),λid h1 h2=>(f3.same id (by have:=hj2.le;omega)).trans (hj2.same id h1 h2),Nat.le_trans hj2.le f3.le⟩
   cases hc:slt (ER.nm zs[j+1]).1 (ER.nm zs[j+1]).2 (ER.nm zs[j]).1 (ER.nm zs[j]).2 with
   |false=>
    rw[Ak]
    exact fin hj3 hl2 (by rw[<-hsk,Y2 hj1 hc])
   |true=>
    rw[A8,hs1,AU,AU]
    have hel3:=hj3.sk.el (G:=G) (by omega)
    obtain⟨q1,hq1,hr1⟩:=hel3.at (i:=j+1) (c:=Yy zs[j+1]) (by simp[hj1])
    obtain⟨q0,hq0,hr0⟩:=hel3.at (i:=j) (c:=Yy zs[j]) (by rw[List.getElem?_map,List.getElem?_eq_getElem (show j<zs.length by omega)];rfl)
    refine AB hq0 (AB (EM hr0) (AB hq1 (AB (EM hr1) ?_)))
    refine hj3.sk.put (i:=j+1) (w:=.agg (Yy zs[j])) (by omega) (by rw[List.length_map];exact hj1) rfl rfl λH4 hsk4 s4=>?_
    refine hsk4.put (i:=j) (w:=.agg (Yy zs[j+1])) (by omega) (by rw[List.length_set,List.length_map];omega) rfl rfl λH5 hsk5 s5=>?_
    rw[show(BA (.agg (Yy zs[j])))=Yy zs[j]from rfl,show(BA (.agg (Yy zs[j+1])))=Yy zs[j+1]from rfl,<-List.map_set,<-List.map_set]at hsk5
    rw[AU]
    refine ih2 j _ (by omega) ⟨H5,n3,(zs.set (j+1) zs[j]).set j zs[j+1],rfl,by omega,by simp[hl2],?_,⟨hsk5,λid h1 h2=>(s5 id h2).trans ((s4 id h2).trans (hj3.same id h1 h2)),hj3.le⟩⟩
    rw[<-hsk,vS hj1 hc]
 ·rw[decide_eq_false hlt,Ak]
  have:m-i=0:=by omega
  rw[this]at hf
  have hf:ys=Rf (ltN ER.nm) xs:=hf
  rw[<-hf]at hk
  exact hk H1 n1 hj.le hj.sk hj.same
theorem AQB{A:Nat->Prop}{v:V}{xs:List (ER)}{H:Heap}{n:Nat}{k:KV}(h:Sk H 3 A v (xs.map Yy))(hA:∀id,v.Dl=some id->id<n)(hb:xs.length<20)
 (hk:∀H' n',n<=n'->Sk H' 3 A v ((Rf (ltN ER.nm) xs).map Yy)->(∀id,id<n->v.Dl≠some id->T.get H' id=T.get H id)->k (.EI []) H' n'):
 Runs F G Iw [v,.fn CY [] []] H n k:=by
 refine go2 (Px Aq G) ?_
 delta Iu
 have hlen:=(h.el (G:=G) (by omega)).len
 rw[List.length_map]at hlen
 refine AB hlen ?_
 refine go3 (Vm Aq G) ?_
 delta OQ
 generalize hm:xs.length=m at*
 refine FB (J:=λ_ s=>s=(v,.int .i64 (.ofNat m) 0,.fn CY [] [],.int .i64 (.ofNat 20) 0,.int .i64 (.ofNat 0) 0,.int .i64 (.ofNat 20) 0,H,n)) ?_ (m:=0) rfl
 rintro I q s rfl _
 show Gf lfp G (Runs F G) _ I v (.int .i64 (.ofNat m) 0) (.fn CY [] []) (.int .i64 (.ofNat 20) 0) (.int .i64 (.ofNat 0) 0) (.int .i64 (.ofNat 20) 0) H n
 delta Gf
 refine AB (AMY ..) ?_
 rw[decide_eq_false (by omega),Ak]
 delta Gt
 refine ASG h hA hm (by omega) λH1 n1 hn1 hs1 same1=>?_
 refine FB (J:=λ_ s=>s=(v,.int .i64 (.ofNat m) 0,.fn CY [] [],.int .i64 (.ofNat 20) 0,H1,n1)) ?_ (m:=0) rfl
 rintro I2 q2 s2 rfl _
 show Gw lfp G (Runs F G) _ I2 v (.int .i64 (.ofNat m) 0) (.fn CY [] []) (.int .i64 (.ofNat 20) 0) H1 n1
 delta Gw
 refine AB (AF5 ..) ?_
 rw[decide_eq_false (by omega),Ak]
 exact hk H1 n1 hn1 hs1 same1
end
section
variable{G:AV}
theorem ARv{x y:FN×V}{H:Heap}{n:Nat}{k:KV}(hk:∀H' n',Kp H n H' n'->k (.int .i64 (ACE (sgN x) (sgN y)) 0) H' n'):Runs F G CZ [.agg (sgC x),.agg (sgC y)] H n k:=by
 refine go2 (wY Aq G) ?_
 delta ZQ
 refine Ei λH1 f1 g1=>?_
 refine Ei λH2 f2 g2=>?_
 rw[DK,AU]
 refine AB (AX (off:=0) (f2.get g1 (by omega)) (v:=(sgN x).v) rfl) ?_
 rw[DK,AU]
 refine AB (AX (off:=0) g2 (v:=(sgN y).v) rfl) ?_
 exact AHQ (hk _ _ (f1.trans f2))
structure AJE(H0:Heap)(n0:Nat)(A:Nat->Prop)(v:V)(H:Heap)(n:Nat)(xs:List (FN×V)):Prop where
 sk:Sk H 5 A v (xs.map sgC)
 same:∀id,id<n0->v.Dl≠some id->T.get H id=T.get H0 id
 le:n0<=n
theorem ARW{A:Nat->Prop}{v:V}{xs:List (FN×V)}{H:Heap}{n:Nat}{k:KV}{m:Nat}(h:Sk H 5 A v (xs.map sgC))(hA:∀id,v.Dl=some id->id<n)(hm:xs.length=m)(hb:m<=1000)
 (hk:∀H' n',n<=n'->Sk H' 5 A v ((Rf (ltN sgN) xs).map sgC)->(∀id,id<n->v.Dl≠some id->T.get H' id=T.get H id)->k (.EI []) H' n'):
 Runs F G FI [v,.int .i64 (.ofNat 0) 0,.int .i64 (.ofNat m) 0,.fn CZ [] []] H n k:=by
 refine go4 (QV Aq G) ?_
 delta JC
 rw[GV (by omega),AU]
 refine FB (J:=λq s=>∃i H' n' ys,q=m-i/\1<=i/\s=(v,.int .i64 (.ofNat 0) 0,.int .i64 (.ofNat m) 0,.fn CZ [] [],.int .i64 (.ofNat i) 0,H',n')/\ys.length=m/\Zc (ltN sgN) ys i (m-i)=Rf (ltN sgN) xs/\AJE H n A v H' n' ys) ?_
  (m:=m-1) ⟨1,H,n,xs,rfl,Nat.le_refl _,rfl,hm,by rw[Rf,hm],h,λ_ _ _=>rfl,Nat.le_refl _⟩
 rintro I q s ⟨i,H1,n1,ys,rfl,hi,rfl,hl,hf,hj⟩ ih
 show EO lfp G (Runs F G) k I v (.int .i64 (.ofNat 0) 0) (.int .i64 (.ofNat m) 0) (.fn CZ [] []) (.int .i64 (.ofNat i) 0) H1 n1
 delta EO
 refine AB (AF5 ..) ?_
 by_cases hlt:i<m
 ·rw[decide_eq_true hlt,A8]
  obtain⟨r,hr⟩:∃r,m-i=r+1:=⟨m-i-1,by omega⟩
  rw[hr]at hf
  refine FB (J:=λj s=>∃H' n' zs,s=(v,.int .i64 (.ofNat 0) 0,.int .i64 (.ofNat m) 0,.fn CZ [] [],.int .i64 (.ofNat i) 0,.int .i64 (.ofNat j) 0,H',n')/\j<=i/\zs.length=m/\sink (ltN sgN) j zs=sink (ltN sgN) i ys/\AJE H n A v H' n' zs) ?_
   (m:=i) ⟨H1,n1,ys,rfl,Nat.le_refl _,hl,rfl,hj⟩
  rintro I2 j s ⟨H2,n2,zs,rfl,hji,hl2,hsk,hj2⟩ ih2
  show ES lfp G (Runs F G) k I I2 v (.int .i64 (.ofNat 0) 0) (.int .i64 (.ofNat m) 0) (.fn CZ [] []) (.int .i64 (.ofNat i) 0) (.int .i64 (.ofNat j) 0) H2 n2
  delta ES
  refine AB (ANW ..) ?_
  have fin:∀{H':Heap} {n':Nat} {ws:List (FN×V)},AJE H n A v H' n' ws->ws.length=m->ws=sink (ltN sgN) i ys->Dc lfp G (Runs F G) k I v (.int .i64 (.ofNat 0) 0) (.int .i64 (.ofNat m) 0) (.fn CZ [] []) (.int .i64 (.ofNat i) 0) H' n':=by
   intro H' n' ws hw hwl hwe
   delta Dc
   rw[GV (by omega),AU]
   refine ih (m-(i+1)) _ (by omega) ⟨i+1,H',n',ws,rfl,by omega,rfl,hwl,?_,hw⟩
   rw[show m-(i+1)=r by omega,hwe];exact hf
  cases j with
  |zero=>
   rw[show decide (0<0)=false from rfl]
   repeat (first|with_reducible refine AJQ ?_|with_reducible refine ASv ?_|with_reducible refine ATB ?_|with_reducible refine AX1 ?_|with_reducible refine xP ?_)
   rw[Ak]
   exact fin hj2 hl2 (by rw[<-hsk];rfl)
  |succ j=>
   rw[decide_eq_true (show 0<j+1 by omega)]
   have hel:=hj2.sk.el (G:=G) (by omega)
   have hj1:j+1<zs.length:=by omega
   obtain⟨p1,hp1,hl1⟩:=hel.at (i:=j+1) (c:=sgC zs[j+1]) (by simp[hj1])
   obtain⟨p0,hp0,hl0⟩:=hel.at (i:=j) (c:=sgC zs[j]) (by rw[List.getElem?_map,List.getElem?_eq_getElem (show j<zs.length by omega)];rfl)
   have hs1:=AbD j (by omega)
   refine xW rfl (xW rfl (xW rfl (xW hp1 (xW (EM hl1) (xW rfl (xW rfl (xW hs1 (xW hp0 (xW (EM hl0) (AQO ?_))))))))))
   show Runs F G CZ [.agg (sgC zs[j+1]),.agg (sgC zs[j])] H2 n2 _
   refine ARv λH3 n3 f3=>?_
   refine xW (APX _ _) ?_
   refine AL4 ?_
   have hlo:∀id,v.Dl=some id->id<n2:=λid hid=>Nat.lt_of_lt_of_le (hA id hid) hj2.le
   have hj3:AJE H n A v H3 n3 zs:=⟨hj2.sk.aJ (λid hid=>hj2.sk.own hid) λid hid=>f3.same id (hlo id hid),λid h1 h2=>(f3.same id (by have:=hj2.le;omega)).trans (hj2.same id h1 h2),Nat.le_trans hj2.le f3.le⟩
   cases hc:slt (sgN zs[j+1]).1 (sgN zs[j+1]).2 (sgN zs[j]).1 (sgN zs[j]).2 with
   |false=>
    rw[Ak]
    exact fin hj3 hl2 (by rw[<-hsk,Y2 hj1 hc])
   |true=>
    rw[A8,hs1,AU,AU]
    have hel3:=hj3.sk.el (G:=G) (by omega)
    obtain⟨q1,hq1,hr1⟩:=hel3.at (i:=j+1) (c:=sgC zs[j+1]) (by simp[hj1])
    obtain⟨q0,hq0,hr0⟩:=hel3.at (i:=j) (c:=sgC zs[j]) (by rw[List.getElem?_map,List.getElem?_eq_getElem (show j<zs.length by omega)];rfl)
    refine AB hq0 (AB (EM hr0) (AB hq1 (AB (EM hr1) ?_)))
    refine hj3.sk.put (i:=j+1) (w:=.agg (sgC zs[j])) (by omega) (by rw[List.length_map];exact hj1) rfl rfl λH4 hsk4 s4=>?_
    refine hsk4.put (i:=j) (w:=.agg (sgC zs[j+1])) (by omega) (by rw[List.length_set,List.length_map];omega) rfl rfl λH5 hsk5 s5=>?_
    rw[show(BA (.agg (sgC zs[j])))=sgC zs[j]from rfl,show(BA (.agg (sgC zs[j+1])))=sgC zs[j+1]from rfl,<-List.map_set,<-List.map_set]at hsk5
    rw[AU]
    refine ih2 j _ (by omega) ⟨H5,n3,(zs.set (j+1) zs[j]).set j zs[j+1],rfl,by omega,by simp[hl2],?_,⟨hsk5,λid h1 h2=>(s5 id h2).trans ((s4 id h2).trans (hj3.same id h1 h2)),hj3.le⟩⟩
    rw[<-hsk,vS hj1 hc]
 ·rw[decide_eq_false hlt,Ak]
  have:m-i=0:=by omega
  rw[this]at hf
  have hf:ys=Rf (ltN sgN) xs:=hf
  rw[<-hf]at hk
  exact hk H1 n1 hj.le hj.sk hj.same
theorem APZ{A:Nat->Prop}{v:V}{xs:List (FN×V)}{H:Heap}{n:Nat}{k:KV}(h:Sk H 5 A v (xs.map sgC))(hA:∀id,v.Dl=some id->id<n)(hb:xs.length<20)
 (hk:∀H' n',n<=n'->Sk H' 5 A v ((Rf (ltN sgN) xs).map sgC)->(∀id,id<n->v.Dl≠some id->T.get H' id=T.get H id)->k (.EI []) H' n'):
 Runs F G IK [v,.fn CZ [] []] H n k:=by
 refine go2 (Oj Aq G) ?_
 delta IG
 have hlen:=(h.el (G:=G) (by omega)).len
 rw[List.length_map]at hlen
 refine AB hlen ?_
 refine go3 (VP Aq G) ?_
 delta NW
 generalize hm:xs.length=m at*
 refine FB (J:=λ_ s=>s=(v,.int .i64 (.ofNat m) 0,.fn CZ [] [],.int .i64 (.ofNat 20) 0,.int .i64 (.ofNat 0) 0,.int .i64 (.ofNat 20) 0,H,n)) ?_ (m:=0) rfl
 rintro I q s rfl _
 show F7 lfp G (Runs F G) _ I v (.int .i64 (.ofNat m) 0) (.fn CZ [] []) (.int .i64 (.ofNat 20) 0) (.int .i64 (.ofNat 0) 0) (.int .i64 (.ofNat 20) 0) H n
 delta F7
 refine AB (AMY ..) ?_
 rw[decide_eq_false (by omega),Ak]
 delta GX
 refine ARW h hA hm (by omega) λH1 n1 hn1 hs1 same1=>?_
 refine FB (J:=λ_ s=>s=(v,.int .i64 (.ofNat m) 0,.fn CZ [] [],.int .i64 (.ofNat 20) 0,H1,n1)) ?_ (m:=0) rfl
 rintro I2 q2 s2 rfl _
 show GY lfp G (Runs F G) _ I2 v (.int .i64 (.ofNat m) 0) (.fn CZ [] []) (.int .i64 (.ofNat 20) 0) H1 n1
 delta GY
 refine AB (AF5 ..) ?_
 rw[decide_eq_false (by omega),Ak]
 exact hk H1 n1 hn1 hs1 same1
end
structure Z8(H:Heap)(m n q:Nat)(s:Sta):Prop where
 mk'::
 mq:m<=q
 qn:q<n
 is:∃vl vs,T.get H q=some (one [vl,vs])/\Sk H 2 (λid=>m<=id/\id<n/\id≠q) vl (tys s.loc)/\Sk H 2 (λid=>m<=id/\id<n/\id≠q) vs (tys s.stk.reverse)/\(∀id,vl.Dl=some id->vs.Dl≠some id)
 ol:∀t∈s.loc,t.nm.ok
 os:∀t∈s.stk,t.nm.ok
 bl:s.loc.length<=100000
 bs:s.stk.length<=100000
theorem Z8.mono{H H':Heap}{m n n' q:Nat}{s:Sta}(h:Z8 H m n q s)(hn:n<=n')(e:∀id,m<=id->id<n->T.get H' id=T.get H id):Z8 H' m n' q s:=by
 obtain⟨vl,vs,g,h1,h2,hd⟩:=h.is
 exact⟨h.mq,Nat.lt_of_lt_of_le h.qn hn,⟨vl,vs,(e q h.mq h.qn).trans g,h1.mono (λid ⟨a,b,c⟩=>⟨a,Nat.lt_of_lt_of_le b hn,c⟩) (λid ⟨a,b,c⟩=>e id a b),
  h2.mono (λid ⟨a,b,c⟩=>⟨a,Nat.lt_of_lt_of_le b hn,c⟩) (λid ⟨a,b,c⟩=>e id a b),hd⟩,h.ol,h.os,h.bl,h.bs⟩
theorem AF7{G:AV}{H:Heap}{n id z bs:Nat}{t:T LV}{w:V}{k:KV}(hg:T.get H id=some (.arr z 0 t))(hw:elems w G H z=some [])
 (hk:∀H',(∀j,T.get H' j=T.get H j)->k (.sl id 0 0 0 z) H' n):Oq z bs (.sl id 0 0 0 z) w G H n k:=by
 unfold Oq
 rw[hw,Qe]
 have e0:AGA (.sl id 0 0 0 z) G z bs [] H n k=Bool.rec (motive:=λ_=>Prop) (EN (BZ H id z 0 0) λOS=>Gv z bs OS [] H n k) (EN (T.get H id) λb=>YS id 0 0 0 z (0+([]:CJ).length) [] H n k b) (Nat.ble (0+([]:CJ).length) 0):=by
  show EJ (Nat.beq z z) (DU (Nat.add 0 (len ([]:CJ))) λneed=>Bool.rec (motive:=λ_=>Prop) (EN (BZ H id z 0 0) λOS=>Gv z bs OS [] H n k) (EN (T.get H id) λb=>YS id 0 0 0 z need [] H n k b) (Nat.ble need 0))=_
  rw[CQ,UF,BL,len_eq];rfl
 rw[e0]
 show EN (T.get H id) (λb=>YS id 0 0 0 z (0+0) [] H n k b)
 rw[hg,Qe]
 show EJ (band (Nat.beq z z) (Nat.ble (Nat.add 0 (0+0)) 0)) (k (.sl id 0 (0+0) 0 z) (T.set H id (.arr z 0 t)) n)
 rw[CQ,show Nat.ble (Nat.add 0 (0+0)) 0=true by rw[Nat.ble_eq];exact Nat.le_refl _]
 refine hk _ λj=>?_
 rw[T.KT];split
 ·rename_i e;subst e;exact hg.symm
 ·rfl
theorem AIP{G:AV}{H:Heap}{v:V}{z:Nat}{LS:CJ}(h:El G H v z LS):v=.Af/\LS=[]∨Dw .sl false v .Af=some (.bool false):=by
 obtain⟨h1,h2⟩:=h
 cases v<;>try (cases h2;done)
 ·cases h1
 ·cases h2;exact .inl ⟨rfl,rfl⟩
 ·exact .inr rfl
 ·exact .inr rfl
 ·exact .inr rfl
theorem AMZ{G:AV}{H:Heap}{n:Nat}{v:V}{LS:CJ}(h:El G H v 3 LS)(hlt:∀id,v.Dl=some id->id<n)(hb:LS.length<=100000){k:KV}
 (hk:∀v' H' n',Kp H n H' n'->Sk H' 3 (λid=>n<=id/\id<n') v' LS->k v' H' n'):Runs F G OC [v] H n k:=by
 refine go1 (VU Aq G) ?_
 delta OW
 rcases AIP h with⟨rfl,rfl⟩|e
 ·refine AB (show Dw .sl false .Af .Af=some (.bool true)from rfl) ?_
  rw[A8]
  exact hk _ _ _ (Kp.refl _ _) .nil
 ·refine AB e ?_
  rw[Ak,AMT]
  have he:=h.same (H':=T.set H n (.arr 3 0 .e)) λid hid=>T.Ad _ _ (by have:=hlt id hid;omega)
  cases LS with
  |nil=>exact AF7 (T.Au ..) he.2 λH' hs=>hk _ _ _ ⟨by omega,λid hid=>by rw[hs,T.Ad _ _ (by omega)]⟩ (.emp ((hs _).trans (T.Au ..)) ⟨Nat.le_refl _,by omega⟩)
  |cons a NS=>
   refine ABE (t:=.e) (by omega) he.2 (by omega) λv' H' hgr hsame hlo=>?_
   refine hk _ _ _ ⟨by omega,λid hid=>(hsame id (by omega)).trans (T.Ad _ _ (by omega))⟩ ?_
   generalize hX:a::NS=X at hgr
   cases hgr with
   |nil=>cases hX
   |G6 hg hc ht hid=>
    have e:=hlo _ rfl
    exact .G6 hg hc ht ⟨by omega,by omega⟩
theorem AC7{G:AV}{H:Heap}{n:Nat}{v:V}{LS:CJ}(h:El G H v 11 LS)(hlt:∀id,v.Dl=some id->id<n)(hb:LS.length<=100000){k:KV}
 (hk:∀v' H' n',Kp H n H' n'->Sk H' 11 (λid=>n<=id/\id<n') v' LS->k v' H' n'):Runs F G D5 [v] H n k:=by
 refine go1 (Uc Aq G) ?_
 delta MV
 rcases AIP h with⟨rfl,rfl⟩|e
 ·refine AB (show Dw .sl false .Af .Af=some (.bool true)from rfl) ?_
  rw[A8]
  exact hk _ _ _ (Kp.refl _ _) .nil
 ·refine AB e ?_
  rw[Ak,AMT]
  have he:=h.same (H':=T.set H n (.arr 11 0 .e)) λid hid=>T.Ad _ _ (by have:=hlt id hid;omega)
  cases LS with
  |nil=>exact AF7 (T.Au ..) he.2 λH' hs=>hk _ _ _ ⟨by omega,λid hid=>by rw[hs,T.Ad _ _ (by omega)]⟩ (.emp ((hs _).trans (T.Au ..)) ⟨Nat.le_refl _,by omega⟩)
  |cons a NS=>
   refine ABE (t:=.e) (by omega) he.2 (by omega) λv' H' hgr hsame hlo=>?_
   refine hk _ _ _ ⟨by omega,λid hid=>(hsame id (by omega)).trans (T.Ad _ _ (by omega))⟩ ?_
   generalize hX:a::NS=X at hgr
   cases hgr with
   |nil=>cases hX
   |G6 hg hc ht hid=>
    have e:=hlo _ rfl
    exact .G6 hg hc ht ⟨by omega,by omega⟩
theorem AGb{G:AV}{H:Heap}{n:Nat}{v:V}{LS:CJ}(h:El G H v 8 LS)(hlt:∀id,v.Dl=some id->id<n)(hb:LS.length<=100000){k:KV}
 (hk:∀v' H' n',Kp H n H' n'->Sk H' 8 (λid=>n<=id/\id<n') v' LS->k v' H' n'):Runs F G Ji [v] H n k:=by
 refine go1 (Q9 Aq G) ?_
 delta Jr
 rcases AIP h with⟨rfl,rfl⟩|e
 ·refine AB (show Dw .sl false .Af .Af=some (.bool true)from rfl) ?_
  rw[A8]
  exact hk _ _ _ (Kp.refl _ _) .nil
 ·refine AB e ?_
  rw[Ak,AMT]
  have he:=h.same (H':=T.set H n (.arr 8 0 .e)) λid hid=>T.Ad _ _ (by have:=hlt id hid;omega)
  cases LS with
  |nil=>exact AF7 (T.Au ..) he.2 λH' hs=>hk _ _ _ ⟨by omega,λid hid=>by rw[hs,T.Ad _ _ (by omega)]⟩ (.emp ((hs _).trans (T.Au ..)) ⟨Nat.le_refl _,by omega⟩)
  |cons a NS=>
   refine ABE (t:=.e) (by omega) he.2 (by omega) λv' H' hgr hsame hlo=>?_
   refine hk _ _ _ ⟨by omega,λid hid=>(hsame id (by omega)).trans (T.Ad _ _ (by omega))⟩ ?_
   generalize hX:a::NS=X at hgr
   cases hgr with
   |nil=>cases hX
   |G6 hg hc ht hid=>
    have e:=hlo _ rfl
    exact .G6 hg hc ht ⟨by omega,by omega⟩
def AEb(m:Tm):FN:=⟨m.nm,m.st,m.ps.map ER.ty,m.ret⟩
def Py(c:Tc):Fc:=⟨c.nm,c.sup,Rf (ltN ER.nm) c.fs,Rf (ltN FN.nm) (c.ms.map AEb)⟩
structure AT9(m:Tm):Prop where
 nm:m.nm.ok
 ret:m.ret.nm.ok
 ps:∀f∈m.ps,f.ty.nm.ok
 ln:m.ps.length<=1000
structure AP9(c:Tc):Prop where
 nm:c.nm.ok
 sup:c.sup.ok
 fs:∀f∈c.fs,f.nm.ok/\f.ty.nm.ok
 ms:∀m∈c.ms,AT9 m
 lf:c.fs.length<20
 lm:c.ms.length<20
inductive AGs(G:AV)(H:Heap)(A:Nat->Prop):LV->Tm->Prop where
 |mk (p q vb:V) {nm:St} {st:Bool} {ty:Ty} {ps:List ER} {bd:List Tt} {vp:V} (hp:lF G H A vp ps):AGs G H A [p,q,nm.v,.bool st,vp,ty.nm.v,.bool ty.arr,vb] ⟨nm,st,ps,ty,bd⟩
theorem AGs.mono{G:AV}{H H':Heap}{A B:Nat->Prop}{c:LV}{m:Tm}(hA:∀id,A id->B id)(hs:∀id,A id->T.get H' id=T.get H id)(h:AGs G H A c m):AGs G H' B c m:=by
 cases h with
 |mk p q vb hp=>exact .mk p q vb (hp.mono hA hs)
theorem AGs.len{G:AV}{H:Heap}{A:Nat->Prop}{c:LV}{m:Tm}(h:AGs G H A c m):c.length=8:=by cases h;rfl
theorem ABs.fm{G:AV}{H:Heap}{A:Nat->Prop}{c:LV}{m:Tm}(h:ABs G H A c m):AGs G H A c m:=by
 cases h with
 |mk line col hp hb=>exact .mk _ _ _ hp
inductive iQ(G:AV)(H:Heap)(A:Nat->Prop):CJ->List Tm->Prop where
 |nil:iQ G H A [] []
 |cons {c:LV} {e:Tm} {cs:CJ} {es:List Tm} (h:AGs G H A c e) (t:iQ G H A cs es):iQ G H A (c::cs) (e::es)
theorem iQ.mono{G:AV}{H H':Heap}{A B:Nat->Prop}(hA:∀id,A id->B id)(hs:∀id,A id->T.get H' id=T.get H id):∀{cs:CJ} {es:List Tm},iQ G H A cs es->iQ G H' B cs es
 |_,_,.nil=>.nil
 |_,_,.cons h t=>.cons (h.mono hA hs) (t.mono hA hs)
theorem iQ.len{G:AV}{H:Heap}{A:Nat->Prop}:∀{cs:CJ} {es:List Tm},iQ G H A cs es->cs.length=es.length
 |_,_,.nil=>rfl
 |_,_,.cons h t=>by simp[t.len]
theorem iQ.at{G:AV}{H:Heap}{A:Nat->Prop}:∀{cs:CJ} {es:List Tm},iQ G H A cs es->∀{i:Nat} {e:Tm},es[i]? =some e->∃c,cs[i]? =some c/\AGs G H A c e
 |_,_,.nil,i,e,h=>by simp at h
 |_,_,.cons h t,0,e,he=>by cases he;exact⟨_,rfl,h⟩
 |_,_,.cons h t,i+1,e,he=>by obtain⟨c,h1,h2⟩:=t.at (i:=i) he;exact⟨c,h1,h2⟩
theorem PW.fm{G:AV}{H:Heap}{A:Nat->Prop}:∀{cs:CJ} {es:List Tm},PW G H A cs es->iQ G H A cs es
 |_,_,.nil=>.nil
 |_,_,.cons h t=>.cons h.fm t.fm
inductive AGq(G:AV)(H:Heap)(A:Nat->Prop):LV->Tc->Prop where
 |mk (p q:V) {nm sup:St} {fs:List ER} {ms:List Tm} {vf vm:V} {cs:CJ} (hf:lF G H A vf fs) (e1:El G H vm 8 cs) (e5:∀id,vm.Dl=some id->A id) (hts:iQ G H A cs ms):AGq G H A [p,q,nm.v,sup.v,vf,vm] ⟨nm,sup,fs,ms⟩
theorem AGq.mono{G:AV}{H H':Heap}{A B:Nat->Prop}{c:LV}{m:Tc}(hA:∀id,A id->B id)(hs:∀id,A id->T.get H' id=T.get H id)(h:AGq G H A c m):AGq G H' B c m:=by
 cases h with
 |mk p q hf e1 e5 hts=>exact .mk p q (hf.mono hA hs) (e1.same λid hid=>hs id (e5 id hid)) (λid hid=>hA id (e5 id hid)) (hts.mono hA hs)
theorem AGq.len{G:AV}{H:Heap}{A:Nat->Prop}{c:LV}{m:Tc}(h:AGq G H A c m):c.length=6:=by cases h;rfl
theorem jC.fc{G:AV}{H:Heap}{A:Nat->Prop}{c:LV}{m:Tc}(h:jC G H A c m):AGq G H A c m:=by
 cases h with
 |mk line col hf hm=>
  obtain⟨cs,e1,_,_,_,e5,hts⟩:=hm
  exact .mk _ _ hf e1 e5 hts.fm
abbrev sgZ:LV:=[.str 0 0,.bool false,.Af,.str 0 0,.bool false]
section
variable{G:AV}{H:Heap}{n:Nat}{A:Nat->Prop}{k:KV}
theorem AbW{l:LV}{m:Tm}(h:AGs G H A l m)(hA:∀id,A id->id<n)(hln:m.ps.length<=1000)
 (hk:∀H' n' w,Kp H n H' n'->Sk H' 2 (λid=>n<=id/\id<n') w ((m.ps.map ER.ty).map Ty.cells)->k (.agg (sgC (AEb m,w))) H' n'):Runs F G AFd [.agg l] H n k:=by
 refine go1 (ALP Aq G) ?_
 delta AEh
 cases h with
 |mk p0 q0 vb hp=>
  rename_i nm st ty ps bd vp
  have hln:ps.length<=1000:=hln
  refine Ei λH1 f1 g1=>?_
  refine Ar rfl λH2 f2 g2=>?_
  have g1:=f2.get g1 (by omega)
  rw[AY,AU]
  refine AB (AX (off:=0+2) g1 (v:=nm.v) rfl) ?_
  rw[AY,AU]
  refine AB (AX (off:=0+3) g1 (v:=.bool st) rfl) ?_
  rw[AY,AU]
  refine AB (Dz (off:=0+5) (m:=2) g1 (by omega) (by show 0+5+2<=8;omega)) ?_
  refine AB (v:=.agg (sgC (⟨nm,st,[],ty⟩,.Af))) rfl ?_
  refine Ar rfl λH3 f3 g3=>?_
  refine Bf g3 rfl rfl (by omega) λH4 g4 s4=>?_
  have f14:Kp H n H4 (n+1+1+1):=(f1.trans f2).trans ⟨f3.le,λid hid=>(s4 id (by omega)).trans (f3.same id hid)⟩
  have g1:T.get H4 n=_:=(s4 n (by omega)).trans (f3.get g1 (by omega))
  have g2:T.get H4 (n+1)=_:=(s4 (n+1) (by omega)).trans (f3.get g2 (by omega))
  rw[AY,AU]
  refine AB (AX (off:=0+4) g1 (v:=vp) rfl) ?_
  have hp4:=hp.mono (H':=H4) (λ_ h=>h) λid hid=>f14.same id (hA id hid)
  have hlen:=hp4.1.len
  rw[List.length_map]at hlen
  refine AB hlen ?_
  refine CG (N:=ps.length) (J:=λj q=>∃H' n' w,q=(.ptr (n+1) 0,.ptr (n+2) 0,vp,.int .i64 (.ofNat ps.length) 0,.int .i64 (.ofNat j) 0,H',n')/\Kp H n H' n'/\n+3<=n'/\T.get H' (n+1)=some (one sgZ)/\T.get H' (n+2)=some (one (sgC (⟨nm,st,[],ty⟩,w)))/\
   Sk H' 2 (λid=>n+3<=id/\id<n') w (((ps.take j).map ER.ty).map Ty.cells)) ?_ ?_ ⟨H4,n+1+1+1,.Af,rfl,f14,by omega,g2,g4,.nil⟩
  ·rintro I j q hlt ⟨H5,n5,w,rfl,f5,hn5,b1,b2,sk⟩ ih
   show Qv lfp G (Runs F G) k I (.ptr (n+1) 0) (.ptr (n+2) 0) vp (.int .i64 (.ofNat ps.length) 0) (.int .i64 (.ofNat j) 0) H5 n5
   delta Qv
   have hp5:=hp.1.same (H':=H5) λid hid=>f5.same id (hA id (hp.2.2.2.2 id hid))
   obtain⟨p,hpp,hld⟩:=hp5.at (i:=j) (c:=Yy ps[j]) (by simp[hlt])
   have htake:=take_snoc (List.getElem?_eq_getElem hlt)
   generalize ps[j]=x at hld htake
   rw[FM,AU,decide_eq_true hlt,A8]
   refine AB hpp (AB (EM hld) ?_)
   refine Ar rfl λH6 f6 g6=>?_
   refine Bf g6 rfl rfl (by omega) λH7 g7 s7=>?_
   have f57:Kp H5 n5 H7 (n5+1):=⟨f6.le,λid hid=>(s7 id (by omega)).trans (f6.same id hid)⟩
   have b2':=f57.get b2 (by omega)
   rw[AY,AU]
   refine AB (AX (off:=0+2) b2' (v:=w) rfl) ?_
   rw[AY,AU]
   refine AB (Dz (off:=0+1) (m:=2) g7 (by omega) (by show 0+1+2<=3;omega)) ?_
   have sk7:Sk H7 2 (λid=>n+3<=id/\id<n5) w (((ps.take j).map ER.ty).map Ty.cells):=sk.mono (λ_ h=>h) λid hid=>f57.same id hid.2
   refine sk7.app (bs:=24) (c:=x.ty.v) (m:=0) (λid hid=>by have:=(sk7.own hid).2;omega) (by omega) rfl rfl (by rw[List.length_map,List.length_map,List.length_take];omega) λw' H8 hs8 same8 hsid=>?_
   have k8:∀id,id<n+3->T.get H8 id=T.get H5 id:=λid h=>(same8 id (by omega) λe=>by have:=(sk7.own e).1;omega).trans (f57.same id (by omega))
   have hsk8:=hs8 (λid=>n+3<=id/\id<n5+1+2) ⟨by omega,by omega⟩
   rw[AU]
   refine UE (off:=0+2) (m:=1) (v:=w') ((k8 (n+2) (by omega)).trans b2) hsk8.ok.1 (by rw[hsk8.ok.2.1];rfl) (by omega) (by show 0+2+1<=5;omega) λH9 g9 s9=>?_
   rw[hsk8.ok.2.1]at g9
   rw[GV (by omega),AU]
   refine ih _ ⟨H9,n5+1+2,w',rfl,⟨by have:=f5.le;omega,λid hid=>(s9 id (by omega)).trans ((k8 id (by omega)).trans (f5.same id hid))⟩,by omega,(s9 (n+1) (by omega)).trans ((k8 (n+1) (by omega)).trans b1),g9,?_⟩
   rw[htake,List.map_append,List.map_append]
   exact hsk8.aJ (λid hid=>hsk8.own hid) λid hid=>s9 id (by have:=hsk8.own hid;omega)
  ·rintro I q ⟨H5,n5,w,rfl,f5,hn5,b1,b2,sk⟩
   show Qv lfp G (Runs F G) k I (.ptr (n+1) 0) (.ptr (n+2) 0) vp (.int .i64 (.ofNat ps.length) 0) (.int .i64 (.ofNat ps.length) 0) H5 n5
   delta Qv
   rw[FM,AU,decide_eq_false (Nat.lt_irrefl _),Ak]
   delta Z5
   refine AB (Aw (m:=5) b2 (by omega) rfl) ?_
   refine Bf b1 rfl rfl (by omega) λH6 g6 s6=>?_
   rw[BU (m:=5) g6 (by omega) rfl]
   simp only[go_sem]
   rw[List.take_of_length_le (Nat.le_refl _)]at sk
   refine hk H6 n5 w ⟨f5.le,λid hid=>(s6 id (by omega)).trans (f5.same id hid)⟩ (sk.mono (λid h=>⟨by omega,h.2⟩) λid h=>s6 id (by omega))
end
abbrev fcZ:LV:=[.str 0 0,.str 0 0,.Af,.Af]
def fcC(nm sup:St)(vf vm:V):LV:=[nm.v,sup.v,vf,vm]
theorem ARa{H:Heap}{A:Nat->Prop}{v:V}{LS:CJ}(h:Sk H 3 A v LS)(a b c d:Nat):BN fcZ [(0,1,.c (.str a b)),(1,1,.c (.str c d)),(2,1,.c v)]=some (.agg [.str a b,.str c d,v,.Af]):=by
 cases h<;>rfl
section
variable{G:AV}{H:Heap}{n:Nat}{A:Nat->Prop}{k:KV}
def ADW(G:AV)(H:Heap)(R:Nat->Prop)(v:V)(c:Fc):Prop:=∀H' n',(∀id,R id->T.get H' id=T.get H id)->(∀id,R id->id<n')->PK G H' n' v c
theorem ADW.mono{H H':Heap}{R R':Nat->Prop}{v:V}{c:Fc}(h:ADW G H R v c)(hR:∀id,R id->R' id)(hs:∀id,R id->T.get H' id=T.get H id):ADW G H' R' v c:=
 λH'' n'' h1 h2=>h H'' n'' (λid hid=>(h1 id (hR id hid)).trans (hs id hid)) λid hid=>h2 id (hR id hid)
structure AQ6(G:AV)(H:Heap)(B:Nat->Prop)(ps:List (FN×V)):Prop where
 at':∀p∈ps,El G H p.2 2 (p.1.ps.map Ty.cells)/\(∀id,p.2.Dl=some id->B id)/\p.1.ps.length<=1000/\(∀t∈p.1.ps,t.nm.ok)/\p.1.nm.ok/\p.1.ret.nm.ok
theorem AQ6.mono{H':Heap}{B C:Nat->Prop}{ps:List (FN×V)}(h:AQ6 G H B ps)(hB:∀id,B id->C id)(hs:∀id,B id->T.get H' id=T.get H id):AQ6 G H' C ps:=
 ⟨λp hp=>by
  obtain⟨h1,h2,h3⟩:=h.at' p hp
  exact⟨h1.same λid hid=>hs id (h2 id hid),λid hid=>hB id (h2 id hid),h3⟩⟩
theorem AYK{ps:List (FN×V)}{i:Nat}{m:FN}{w:V}(h1:(ps.map Prod.fst)[i]? =some m)(h2:(ps.map Prod.snd)[i]? =some w):(m,w)∈ps:=by
 rw[List.getElem?_map]at h1 h2
 obtain⟨p,hp,rfl⟩:=Option.map_eq_some_iff.1 h1
 rw[hp]at h2
 cases h2
 exact List.mem_of_getElem? hp
theorem AXZ{nm sup:St}{fs:List ER}{ps:List (FN×V)}{vf w:V}{b:Nat}{H0:Heap}{n0:Nat}(hb:b+2<=n)(hb0:n0<=b)(b1:T.get H b=some (one fcZ))(b2:T.get H (b+1)=some (one (fcC nm sup vf w)))
 (f:Kp H0 n0 H n) (sf:Sk H 3 (λid=>b+2<=id/\id<n) vf (fs.map Yy)) (sw:Sk H 5 (λid=>b+2<=id/\id<n/\vf.Dl≠some id) w (ps.map sgC)) (hps:AQ6 G H (λid=>b+2<=id/\id<n/\vf.Dl≠some id/\w.Dl≠some id) ps)
 (hfo:∀f∈fs,f.nm.ok/\f.ty.nm.ok) (hno:nm.ok/\sup.ok) (hlf:fs.length<20) (hlp:ps.length<20)
 (hk:∀H' n' v,Kp H0 n0 H' n'->ADW G H' (λid=>n0<=id/\id<n') v ⟨nm,sup,Rf (ltN ER.nm) fs,Rf (ltN FN.nm) (ps.map Prod.fst)⟩->k v H' n'):Ws lfp G (Runs F G) k (.ptr b 0) (.ptr (b+1) 0) H n:=by
 delta Ws
 have hn0:=f.le
 refine go1 (ABJ Aq G) ?_
 delta eH
 rw[Bz,AU,AY,AU]
 refine AB (AX (off:=0+2) b2 (v:=vf) rfl) ?_
 refine AQB sf (λid hid=>(sf.own hid).2) hlf λH1 n1 hn1 Yg same1=>?_
 have vfo:∀id,id<b+2->vf.Dl≠some id:=λid h e=>by have:=sf.own e;omega
 have b21:T.get H1 (b+1)=_:=(same1 (b+1) (by omega) (vfo _ (by omega))).trans b2
 rw[AU,AY,AU]
 refine AB (AX (off:=0+3) b21 (v:=w) rfl) ?_
 have sw1:Sk H1 5 (λid=>b+2<=id/\id<n/\vf.Dl≠some id) w (ps.map sgC):=sw.mono (λ_ h=>h) λid h=>same1 id h.2.1 h.2.2
 refine APZ sw1 (λid hid=>by have:=sw1.own hid;omega) hlp λH2 n2 hn2 sw2 same2=>?_
 have wo:∀id,id<b+2->w.Dl≠some id:=λid h e=>by have:=sw.own e;omega
 have b22:T.get H2 (b+1)=_:=(same2 (b+1) (by omega) (wo _ (by omega))).trans b21
 refine AB (Aw (m:=4) b22 (by omega) rfl) ?_
 have b12:T.get H2 b=_:=(same2 b (by omega) (wo _ (by omega))).trans ((same1 b (by omega) (vfo _ (by omega))).trans b1)
 refine Bf b12 rfl rfl (by omega) λH3 g3 s3=>?_
 rw[BU (m:=4) g3 (by omega) rfl]
 simp only[go_sem]
 have sf3:Sk H3 3 (λid=>b+2<=id/\id<n) vf ((Rf (ltN ER.nm) fs).map Yy):=Yg.aJ (λid hid=>Yg.own hid) λid hid=>(s3 id (by have:=Yg.own hid;omega)).trans (same2 id (by have:=Yg.own hid;omega) λe=>(sw.own e).2.2 hid)
 have sw3:Sk H3 5 (λid=>b+2<=id/\id<n) w ((Rf (ltN sgN) ps).map sgC):=sw2.aJ (λid hid=>by have:=sw2.own hid;exact⟨this.1,this.2.1⟩) λid hid=>s3 id (by have:=sw2.own hid;omega)
 have hps3:=hps.mono (H':=H3) (C:=λid=>b+2<=id/\id<n) (λid h=>⟨h.1,h.2.1⟩) λid h=>(s3 id (by omega)).trans ((same2 id (by omega) h.2.2.2).trans (same1 id h.2.1 h.2.2.1))
 have hmap:=APz (lt:=ltN sgN) (lt':=ltN FN.nm) (f:=Prod.fst) (λa b=>rfl) ps
 refine hk H3 n2 _ ⟨by omega,λid hid=>(s3 id (by omega)).trans ((same2 id (by omega) (wo _ (by omega))).trans ((same1 id (by omega) (vfo _ (by omega))).trans (f.same id hid)))⟩ λH4 n4 h4 hl4=>?_
 have rg:∀id,b+2<=id->id<n->n0<=id/\id<n2:=λid h1 h2=>⟨by omega,by omega⟩
 have sf3:=sf3.mono (H':=H4) (B:=λid=>id<n4) (λid h=>hl4 id (rg id h.1 h.2)) λid h=>h4 id (rg id h.1 h.2)
 have sw3:=sw3.mono (H':=H4) (B:=λid=>id<n4) (λid h=>hl4 id (rg id h.1 h.2)) λid h=>h4 id (rg id h.1 h.2)
 have hps3:=hps3.mono (H':=H4) (C:=λid=>id<n4) (λid h=>hl4 id (rg id h.1 h.2)) λid h=>h4 id (rg id h.1 h.2)
 refine⟨vf,w,(Rf (ltN sgN) ps).map Prod.snd,⟨rfl,?_,?_,hno⟩,rfl⟩
 ·exact⟨sf3.el (by omega),λid hid=>sf3.own hid,by rw[vV];unfold big;omega,λx hx=>hfo x (ACZ hx)⟩
 ·refine⟨?_,λid hid=>sw3.own hid,by rw[vV,List.length_map];unfold big;omega,by rw[List.length_map,vV,vV,List.length_map],?_,?_⟩
  ·have:=sw3.el (G:=G) (by omega)
   rw[AOA,hmap]at this;exact this
  ·intro i m w' h1 h2
   rw[<-hmap]at h1
   obtain⟨q1,q2,q3,q4,_⟩:=hps3.at' _ (ACZ (AYK h1 h2))
   exact⟨q1,λid hid=>q2 id hid,Nat.lt_of_le_of_lt (show m.ps.length<=1000 from q3) (by unfold big;omega),q4⟩
  ·intro m hm
   obtain⟨p,hp,rfl⟩:=List.mem_map.1 (ACZ hm)
   exact(hps.at' p hp).2.2.2.2
theorem AbQ{l:LV}{c:Tc}(h:AGq G H A l c)(hA:∀id,A id->id<n)(hc:AP9 c)(hk:∀H' n' v,Kp H n H' n'->ADW G H' (λid=>n<=id/\id<n') v (Py c)->k v H' n'):Runs F G ACt [.agg l] H n k:=by
 refine go1 (AN1 Aq G) ?_
 delta AG9
 cases h with
 |mk p0 q0 hf e1 e5 hts=>
  rename_i nm sup fs ms vf vm cs
  have hno:nm.ok/\sup.ok:=⟨hc.nm,hc.sup⟩
  have hlm:ms.length<20:=hc.lm
  have hlf:fs.length<20:=hc.lf
  have hcl:=hts.len
  refine Ei λH1 f1 g1=>?_
  refine Ar rfl λH2 f2 g2=>?_
  have g1:=f2.get g1 (by omega)
  rw[AY,AU]
  refine AB (AX (off:=0+2) g1 (v:=nm.v) rfl) ?_
  rw[AY,AU]
  refine AB (AX (off:=0+3) g1 (v:=sup.v) rfl) ?_
  rw[AY,AU]
  refine AB (AX (off:=0+4) g1 (v:=vf) rfl) ?_
  refine Ar rfl λH3 f3 g3=>?_
  have f13:=(f1.trans f2).trans f3
  have hf3:=hf.1.same (H':=H3) λid hid=>f13.same id (hA id (hf.2.2.2.2 id hid))
  refine AMZ hf3 (λid hid=>by have:=hA id (hf.2.2.2.2 id hid);omega) (by rw[List.length_map];omega) λvf' H4 n4 f4 sf=>?_
  have hn4:=f4.le
  have g4:=f4.get (f3.get g1 (by omega)) (by omega)
  refine AB (AX (off:=0+2) g4 (v:=nm.v) rfl) (CX (jH ..) (AB (AX (off:=0+3) g4 (v:=sup.v) rfl) (CX (jH ..) ?_)))
  refine AB (ARa sf ..) ?_
  have g34:=f4.get g3 (by omega)
  refine Bf g34 rfl rfl (by omega) λH5 g5 s5=>?_
  have f15:Kp H n H5 n4:=⟨by omega,λid hid=>(s5 id (by omega)).trans ((f13.trans f4).same id hid)⟩
  have g15:T.get H5 n=_:=(s5 n (by omega)).trans g4
  have g25:T.get H5 (n+1)=_:=(s5 (n+1) (by omega)).trans (f4.get (f3.get g2 (by omega)) (by omega))
  have sf5:Sk H5 3 (λid=>n+3<=id/\id<n4) vf' (fs.map Yy):=sf.mono (λid h=>⟨by omega,h.2⟩) λid h=>s5 id (by omega)
  rw[AY,AU]
  refine AB (AX (off:=0+5) g15 (v:=vm) rfl) ?_
  have e15:=e1.same (H':=H5) λid hid=>f15.same id (hA id (e5 id hid))
  have hlen:=e15.len
  rw[hcl]at hlen
  refine AB hlen ?_
  refine CG (N:=ms.length) (J:=λj q=>∃H' n' w ps,q=(.ptr (n+1) 0,.ptr (n+2) 0,vm,.int .i64 (.ofNat ms.length) 0,.int .i64 (.ofNat j) 0,H',n')/\Kp H n H' n'/\n+3<=n'/\T.get H' (n+1)=some (one fcZ)/\T.get H' (n+2)=some (one (fcC nm sup vf' w))/\
   Sk H' 3 (λid=>n+3<=id/\id<n') vf' (fs.map Yy)/\Sk H' 5 (λid=>n+3<=id/\id<n'/\vf'.Dl≠some id) w (ps.map sgC)/\AQ6 G H' (λid=>n+3<=id/\id<n'/\vf'.Dl≠some id/\w.Dl≠some id) ps/\ps.map Prod.fst=(ms.take j).map AEb) ?_ ?_
   ⟨H5,n4,.Af,[],rfl,f15,by omega,g25,g5,sf5,.nil,⟨λp hp=>by cases hp⟩,rfl⟩
  ·rintro I j q hlt ⟨H6,n6,w,ps,rfl,f6,hn6,b1,b2,sf6,sw6,hps6,hpe⟩ ih
   show SX lfp G (Runs F G) k I (.ptr (n+1) 0) (.ptr (n+2) 0) vm (.int .i64 (.ofNat ms.length) 0) (.int .i64 (.ofNat j) 0) H6 n6
   delta SX
   have e16:=e1.same (H':=H6) λid hid=>f6.same id (hA id (e5 id hid))
   have hts6:=iQ.mono (H':=H6) (λ_ h=>h) (λid hid=>f6.same id (hA id hid)) hts
   obtain⟨lm,hlm1,htm⟩:=hts6.at (i:=j) (List.getElem?_eq_getElem hlt)
   obtain⟨p,hpp,hld⟩:=e16.at hlm1
   have htake:=take_snoc (List.getElem?_eq_getElem hlt)
   have hmo:=hc.ms _ (List.getElem_mem hlt)
   have hpl:ps.length=j:=by have:=congrArg List.length hpe;simpa[List.length_take,Nat.min_eq_left (Nat.le_of_lt hlt)]using this
   generalize ms[j]=m at htm htake hmo
   rw[FM,AU,decide_eq_true hlt,A8]
   refine AB hpp (AB (EM hld) ?_)
   refine Ar rfl λH7 f7 g7=>?_
   refine Bf g7 rfl htm.len (by omega) λH8 g8 s8=>?_
   have f68:Kp H6 n6 H8 (n6+1):=⟨f7.le,λid hid=>(s8 id (by omega)).trans (f7.same id hid)⟩
   have b28:=f68.get b2 (by omega)
   rw[AY,AU]
   have q2:∀{H':Heap},T.get H' (n+2)=some (one (fcC nm sup vf' w))->Aa (.ptr (n+2) (0+3)) G H'=some w:=λg=>AX (off:=0+3) g rfl
   refine AB (q2 b28) (AB (Aw (m:=8) g8 (by omega) htm.len) ?_)
   have htm8:=htm.mono (H':=H8) (λ_ h=>h) λid hid=>f68.same id (by have:=hA id hid;have:=f6.le;omega)
   refine AbW htm8 (λid hid=>by have:=hA id hid;have:=f6.le;omega) hmo.ln λH9 n9 w1 f9 sk9=>?_
   have hn9:=f9.le
   have f69:=f68.trans f9
   have b29:=f69.get b2 (by omega)
   refine AB (q2 b29) (CX sw6.ok.2.2 ?_)
   have sw9:Sk H9 5 (λid=>n+3<=id/\id<n6/\vf'.Dl≠some id) w (ps.map sgC):=sw6.mono (λ_ h=>h) λid h=>f69.same id h.2.1
   refine sw9.app (bs:=72) (c:=.agg (sgC (AEb m,w1))) (m:=0) (λid hid=>by have:=sw9.own hid;omega) (by omega) rfl rfl (by rw[List.length_map];omega) λw' H10 hs10 same10 hsid=>?_
   have k10:∀id,id<n+3->T.get H10 id=T.get H6 id:=λid h=>(same10 id (by omega) λe=>by have:=sw9.own e;omega).trans (f69.same id (by omega))
   have vfo:∀id,vf'.Dl=some id->n+3<=id/\id<n6:=λid hid=>sf6.own hid
   have hsk10:=hs10 (λid=>n+3<=id/\id<n9+2/\vf'.Dl≠some id) ⟨by omega,by omega,λe=>by have:=vfo _ e;omega⟩
   rw[AU]
   refine UE (off:=0+3) (m:=1) (v:=w') ((k10 (n+2) (by omega)).trans b2) hsk10.ok.1 (by rw[hsk10.ok.2.1];rfl) (by omega) (by show 0+3+1<=4;omega) λH11 g11 s11=>?_
   rw[hsk10.ok.2.1]at g11
   rw[GV (by omega),AU]
   refine ih _ ⟨H11,n9+2,w',ps++[(AEb m,w1)],rfl,⟨by have:=f6.le;omega,λid hid=>(s11 id (by omega)).trans ((k10 id (by omega)).trans (f6.same id hid))⟩,by omega,(s11 (n+1) (by omega)).trans ((k10 (n+1) (by omega)).trans b1),g11,?_,?_,⟨λp hp=>?_⟩,?_⟩
   ·refine sf6.aJ (λid hid=>by have:=vfo id hid;omega) λid hid=>?_
    have:=vfo id hid
    exact(s11 id (by omega)).trans ((same10 id (by omega) λe=>(sw9.own e).2.2 hid).trans (f69.same id this.2))
   ·rw[List.map_append]
    exact hsk10.aJ (λid hid=>hsk10.own hid) λid hid=>s11 id (by have:=hsk10.own hid;omega)
   ·have w'ne:∀id,id<n9+1->w'.Dl≠some id:=λid h e=>by rw[hsid]at e;have:=Option.some.inj e;omega
    rcases List.mem_append.1 hp with hp|hp
    ·have:=(hps6.mono (H':=H11) (C:=λid=>n+3<=id/\id<n9+2/\vf'.Dl≠some id/\w'.Dl≠some id) (λid h=>⟨h.1,by omega,h.2.2.1,w'ne id (by omega)⟩) λid h=>(s11 id (by omega)).trans ((same10 id (by omega) h.2.2.2).trans (f69.same id h.2.1))).at' p hp
     exact this
    ·rw[List.mem_singleton.1 hp]
     have sk11:Sk H11 2 (λid=>n6+1<=id/\id<n9) w1 ((m.ps.map ER.ty).map Ty.cells):=sk9.mono (λ_ h=>h) λid h=>(s11 id (by omega)).trans (same10 id (by omega) λe=>by have:=sw9.own e;omega)
     refine⟨sk11.el (by omega),λid hid=>?_,?_,?_,hmo.nm,hmo.ret⟩
     ·have:=sk11.own hid
      exact⟨by omega,by omega,λe=>by have:=vfo _ e;omega,w'ne id (by omega)⟩
     ·show(m.ps.map ER.ty).length<=1000
      rw[List.length_map];exact hmo.ln
     ·intro t ht
      obtain⟨f,hf,rfl⟩:=List.mem_map.1 (show t∈m.ps.map ER.ty from ht)
      exact hmo.ps f hf
   ·rw[htake,List.map_append,List.map_append,hpe];rfl
  ·rintro I q ⟨H6,n6,w,ps,rfl,f6,hn6,b1,b2,sf6,sw6,hps6,hpe⟩
   show SX lfp G (Runs F G) k I (.ptr (n+1) 0) (.ptr (n+2) 0) vm (.int .i64 (.ofNat ms.length) 0) (.int .i64 (.ofNat ms.length) 0) H6 n6
   delta SX
   rw[FM,AU,decide_eq_false (Nat.lt_irrefl _),Ak]
   rw[List.take_of_length_le (Nat.le_refl _)]at hpe
   have hpl:ps.length=ms.length:=by have:=congrArg List.length hpe;simpa using this
   refine AXZ (b:=n+1) (n0:=n) (by omega) (by omega) b1 b2 f6 sf6 sw6 hps6 hc.fs hno hlf (by omega) λH' n' v f' hv=>?_
   rw[hpe]at hv
   exact hk H' n' v f' hv
end
inductive lV(G:AV)(H:Heap)(A:Nat->Prop):CJ->List Tc->Prop where
 |nil:lV G H A [] []
 |cons {c:LV} {e:Tc} {cs:CJ} {es:List Tc} (h:AGq G H A c e) (t:lV G H A cs es):lV G H A (c::cs) (e::es)
theorem lV.mono{G:AV}{H H':Heap}{A B:Nat->Prop}(hA:∀id,A id->B id)(hs:∀id,A id->T.get H' id=T.get H id):∀{cs:CJ} {es:List Tc},lV G H A cs es->lV G H' B cs es
 |_,_,.nil=>.nil
 |_,_,.cons h t=>.cons (h.mono hA hs) (t.mono hA hs)
theorem lV.len{G:AV}{H:Heap}{A:Nat->Prop}:∀{cs:CJ} {es:List Tc},lV G H A cs es->cs.length=es.length
 |_,_,.nil=>rfl
 |_,_,.cons h t=>by simp[t.len]
theorem lV.at{G:AV}{H:Heap}{A:Nat->Prop}:∀{cs:CJ} {es:List Tc},lV G H A cs es->∀{i:Nat} {e:Tc},es[i]? =some e->∃c,cs[i]? =some c/\AGq G H A c e
 |_,_,.nil,i,e,h=>by simp at h
 |_,_,.cons h t,0,e,he=>by cases he;exact⟨_,rfl,h⟩
 |_,_,.cons h t,i+1,e,he=>by obtain⟨c,h1,h2⟩:=t.at (i:=i) he;exact⟨c,h1,h2⟩
inductive Ym(G:AV)(H:Heap)(R:Nat->Prop):CJ->List Fc->Prop where
 |nil:Ym G H R [] []
 |cons {l:LV} {c:Fc} {ls:CJ} {cs:List Fc} (h:ADW G H R (.agg l) c) (t:Ym G H R ls cs):Ym G H R (l::ls) (c::cs)
theorem Ym.mono{G:AV}{H H':Heap}{R R':Nat->Prop}(hR:∀id,R id->R' id)(hs:∀id,R id->T.get H' id=T.get H id):∀{ls:CJ} {cs:List Fc},Ym G H R ls cs->Ym G H' R' ls cs
 |_,_,.nil=>.nil
 |_,_,.cons h t=>.cons (h.mono hR hs) (t.mono hR hs)
theorem Ym.len{G:AV}{H:Heap}{R:Nat->Prop}:∀{ls:CJ} {cs:List Fc},Ym G H R ls cs->ls.length=cs.length
 |_,_,.nil=>rfl
 |_,_,.cons _ t=>by simp[t.len]
theorem Ym.at{G:AV}{H:Heap}{R:Nat->Prop}:∀{ls:CJ} {cs:List Fc},Ym G H R ls cs->∀{i:Nat} {l:LV} {c:Fc},ls[i]? =some l->cs[i]? =some c->ADW G H R (.agg l) c
 |_,_,.nil,i,l,c,_,h=>by simp at h
 |_,_,.cons h t,0,l,c,h1,h2=>by cases h1;cases h2;exact h
 |_,_,.cons h t,i+1,l,c,h1,h2=>t.at (i:=i) h1 h2
theorem Ym.snoc{G:AV}{H:Heap}{R:Nat->Prop}:∀{ls:CJ} {cs:List Fc} {l:LV} {c:Fc},Ym G H R ls cs->ADW G H R (.agg l) c->Ym G H R (ls++[l]) (cs++[c])
 |_,_,_,_,.nil,h=>.cons h .nil
 |_,_,_,_,.cons h t,h'=>.cons h (t.snoc h')
theorem PK.cells{G:AV}{H:Heap}{n:Nat}{v:V}{c:Fc}(h:PK G H n v c):∃vf vm,v=.agg (fcC c.nm c.sup vf vm):=by
 obtain⟨vf,vm,ws,_,e⟩:=h;exact⟨vf,vm,e⟩
section
variable{G:AV}{H:Heap}{n:Nat}{k:KV}{A:Nat->Prop}
theorem AUt{v:V}{ls:CJ}{cs:List Tc}(h:El G H v 6 ls)(hlo:Lo v n)(hts:lV G H A ls cs)(hA:∀id,A id->id<n)(hok:∀c∈cs,AP9 c)(hln:cs.length<=100)
 (hk:∀H' n' t a b,Kp H n H' n'->(n<=b/\n<=a/\n<=t)->TabAt G H' n' t a b (ALM (cs.map Py))->k (.ptr t 0) H' n'):Runs F G au [v] H n k:=by
 refine go1 (AAM Aq G) ?_
 delta bJ
 refine AOw (by omega) λH1 f1 g1=>?_
 obtain⟨t1,g1⟩:=g1
 have hlen:=(h.kp hlo f1).len
 rw[hts.len]at hlen
 refine AB hlen ?_
 refine CG (N:=cs.length) (J:=λj q=>∃H' n' w fl,q=(w,v,.int .i64 (.ofNat cs.length) 0,.int .i64 (.ofNat j) 0,H',n')/\Kp H n H' n'/\Sk H' 4 (λid=>n<=id/\id<n') w fl/\Ym G H' (λid=>n<=id/\id<n'/\w.Dl≠some id) fl ((cs.take j).map Py)) ?_ ?_
  ⟨H1,n+1,_,[],rfl,f1,.emp g1 ⟨Nat.le_refl _,by omega⟩,.nil⟩
 ·rintro I j q hlt ⟨H2,n2,w,fl,rfl,f2,sk,hfr⟩ ih
  show JL lfp G (Runs F G) k I w v (.int .i64 (.ofNat cs.length) 0) (.int .i64 (.ofNat j) 0) H2 n2
  delta JL
  have hn2:=f2.le
  have hts2:=lV.mono (H':=H2) (λ_ h=>h) (λid hid=>f2.same id (hA id hid)) hts
  obtain⟨l,hl,htc⟩:=hts2.at (List.getElem?_eq_getElem hlt)
  obtain⟨p,hpp,hld⟩:=(h.kp hlo f2).at hl
  have htake:=take_snoc (List.getElem?_eq_getElem hlt)
  have hco:=hok _ (List.getElem_mem hlt)
  have hfl:=hfr.len
  rw[List.length_map,List.length_take]at hfl
  generalize cs[j]=c at htc htake hco
  rw[FM,AU,decide_eq_true hlt,A8]
  refine AB hpp (AB (EM hld) ?_)
  refine Ar rfl λH3 f3 g3=>?_
  refine Bf g3 rfl htc.len (by omega) λH4 g4 s4=>?_
  have f24:Kp H2 n2 H4 (n2+1):=⟨f3.le,λid hid=>(s4 id (by omega)).trans (f3.same id hid)⟩
  refine AB (Aw (m:=6) g4 (by omega) htc.len) ?_
  have htc4:=htc.mono (H':=H4) (λ_ h=>h) λid hid=>f24.same id (by have:=hA id hid;omega)
  refine AbQ htc4 (λid hid=>by have:=hA id hid;omega) hco λH5 n5 fv f5 hfv=>?_
  have hn5:=f5.le
  have f25:=f24.trans f5
  obtain⟨vf,vm,e⟩:=(hfv H5 n5 (λ_ _=>rfl) λ_ h=>h.2).cells
  subst e
  have sk5:Sk H5 4 (λid=>n<=id/\id<n2) w fl:=sk.mono (λ_ h=>h) λid h=>f25.same id h.2
  refine sk5.app (bs:=80) (c:=.agg (fcC (Py c).nm (Py c).sup vf vm)) (m:=0) (λid hid=>by have:=sk5.own hid;omega) (by omega) rfl rfl (by rw[hfl];omega) λw' H6 hs6 same6 hsid=>?_
  rw[GV (by omega),AU]
  have w'ne:∀id,id<n5+1->w'.Dl≠some id:=λid h e=>by rw[hsid]at e;have:=Option.some.inj e;omega
  refine ih _ ⟨H6,n5+2,w',_,rfl,⟨by omega,λid hid=>(same6 id (by omega) λe=>by have:=sk5.own e;omega).trans ((f25.same id (by omega)).trans (f2.same id hid))⟩,hs6 _ ⟨by omega,by omega⟩,?_⟩
  rw[htake,List.map_append]
  refine Ym.snoc (Ym.mono (λid h=>⟨h.1,by omega,w'ne id (by omega)⟩) (λid h=>(same6 id (by omega) h.2.2).trans (f25.same id h.2.1)) hfr) (hfv.mono (λid h=>⟨by omega,by omega,w'ne id (by omega)⟩) λid h=>same6 id (by omega) λe=>by have:=sk5.own e;omega)
 ·rintro I q ⟨H2,n2,w,fl,rfl,f2,sk,hfr⟩
  show JL lfp G (Runs F G) k I w v (.int .i64 (.ofNat cs.length) 0) (.int .i64 (.ofNat cs.length) 0) H2 n2
  delta JL
  rw[FM,AU,decide_eq_false (Nat.lt_irrefl _),Ak]
  delta Qx
  rw[List.take_of_length_le (Nat.le_refl _)]at hfr
  have hfl:=hfr.len
  have hcl:(cs.map Py).length<=1000:=by rw[List.length_map];omega
  refine Aa2 (m:=n2) (cs:=cs.map Py) ⟨⟨fl,sk.el (by omega),hfl,λi L c h1 h2=>hfr.at h1 h2 H2 n2 (λ_ _=>rfl) λid h=>h.2.1⟩,λid hid=>(sk.own hid).2,hcl,Nat.le_refl _⟩ λH3 n3 t a b f3 g3 hfa hsn h1 h2 h3 h4=>?_
  have:=f2.le
  refine hk H3 n3 t a b (f2.trans f3) (by omega) ⟨h4,by omega,by omega,by omega,by omega,g3,?_,hsn⟩
  obtain⟨ps,q1,q2,q3⟩:=hfa.is
  exact⟨ps,q1,q2,λs v c x y=>(q3 s v c x y).up f3.le⟩
end
end Go.RL
