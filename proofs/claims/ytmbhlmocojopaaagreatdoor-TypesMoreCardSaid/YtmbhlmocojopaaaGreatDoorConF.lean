/- Part of a proof; nothing is assumed. -/
import Derived.Test.YtmbhlmocojopaaaGreatDoorConE
import Derived.Test.YtmbhlmocojopaaaGreatDoorConC
import Derived.Test.YtmbhlmocojopaaaGreatDoorConB
set_option linter.unusedVariables false
set_option linter.unusedSimpArgs false
noncomputable section
namespace Go.RL
open Go.DW
set_option maxRecDepth 100000
def sink{α:Type}(lt:α->α->Bool):Nat->List α->List α
 |0,xs=>xs
 |j+1,xs=>match xs[j+1]?,xs[j]? with
  |some a,some b=>bif lt a b then sink lt j ((xs.set (j+1) b).set j a)else xs
  |_,_=>xs
def dL{α:Type}(lt:α->α->Bool)(xs:List α)(i:Nat):Nat->List α
 |0=>xs
 |r+1=>dL lt (sink lt i xs) (i+1) r
def O7{α:Type}(lt:α->α->Bool)(xs:List α):List α:=dL lt xs 1 (xs.length-1)
def zY{α:Type}(key:α->St)(a b:α):Bool:=slt (key a).1 (key a).2 (key b).1 (key b).2
theorem ak{α:Type}{lt:α->α->Bool}{j:Nat}{xs:List α}(h:j+1<xs.length)(hc:lt xs[j+1] xs[j]=false):sink lt (j+1) xs=xs:=by
 show(match xs[j+1]?,xs[j]? with|some a,some b=>bif lt a b then sink lt j ((xs.set (j+1) b).set j a)else xs|_,_=>xs)=xs
 rw[List.getElem?_eq_getElem h,List.getElem?_eq_getElem (show j<xs.length by omega)]
 show(bif lt xs[j+1] xs[j]then _ else xs)=xs
 rw[hc];rfl
theorem wz{α:Type}{lt:α->α->Bool}{j:Nat}{xs:List α}(h:j+1<xs.length)(hc:lt xs[j+1] xs[j]=true):sink lt (j+1) xs=sink lt j ((xs.set (j+1) xs[j]).set j xs[j+1]):=by
 show(match xs[j+1]?,xs[j]? with|some a,some b=>bif lt a b then sink lt j ((xs.set (j+1) b).set j a)else xs|_,_=>xs)=_
 rw[List.getElem?_eq_getElem h,List.getElem?_eq_getElem (show j<xs.length by omega)]
 show(bif lt xs[j+1] xs[j]then _ else xs)=_
 rw[hc];rfl
theorem AJ9{α:Type}{lt:α->α->Bool}:∀(j:Nat) (xs:List α),(sink lt j xs).length=xs.length
 |0,_=>rfl
 |j+1,xs=>by
  by_cases h:j+1<xs.length
  ·cases hc:lt xs[j+1] xs[j]with
   |false=>rw[ak h hc]
   |true=>rw[wz h hc,AJ9 j];simp
  ·show(match xs[j+1]?,xs[j]? with|some a,some b=>bif lt a b then sink lt j ((xs.set (j+1) b).set j a)else xs|_,_=>xs).length=_
   rw[List.getElem?_eq_none (by omega)]
theorem AJe{α:Type}{lt:α->α->Bool}:∀(j:Nat) (xs:List α) (x:α),x∈sink lt j xs->x∈xs
 |0,_,_,h=>h
 |j+1,xs,x,h=>by
  by_cases hl:j+1<xs.length
  ·cases hc:lt xs[j+1] xs[j]with
   |false=>rw[ak hl hc]at h;exact h
   |true=>
    rw[wz hl hc]at h
    have h:=AJe j _ x h
    rcases List.mem_or_eq_of_mem_set h with h|rfl
    ·rcases List.mem_or_eq_of_mem_set h with h|rfl
     ·exact h
     ·exact List.getElem_mem _
    ·exact List.getElem_mem _
  ·have:sink lt (j+1) xs=xs:=by
    show(match xs[j+1]?,xs[j]? with|some a,some b=>bif lt a b then sink lt j ((xs.set (j+1) b).set j a)else xs|_,_=>xs)=_
    rw[List.getElem?_eq_none (by omega)]
   rw[this]at h;exact h
theorem AEs{α:Type}{lt:α->α->Bool}:∀(r:Nat) (xs:List α) (i:Nat),(dL lt xs i r).length=xs.length
 |0,_,_=>rfl
 |r+1,xs,i=>by show(dL lt (sink lt i xs) (i+1) r).length=_;rw[AEs r,AJ9]
theorem AEn{α:Type}{lt:α->α->Bool}:∀(r:Nat) (xs:List α) (i:Nat) (x:α),x∈dL lt xs i r->x∈xs
 |0,_,_,_,h=>h
 |r+1,xs,i,x,h=>AJe i xs x (AEn r _ _ x h)
theorem wR{α:Type}{lt:α->α->Bool}(xs:List α):(O7 lt xs).length=xs.length:=AEs ..
theorem ji{α:Type}{lt:α->α->Bool}{xs:List α}{x:α}(h:x∈O7 lt xs):x∈xs:=AEn _ _ _ _ h
theorem AJm{α β:Type}{lt:α->α->Bool}{lt':β->β->Bool}{f:α->β}(hl:∀a b,lt a b=lt' (f a) (f b)):∀(j:Nat) (xs:List α),(sink lt j xs).map f=sink lt' j (xs.map f)
 |0,_=>rfl
 |j+1,xs=>by
  by_cases h:j+1<xs.length
  ·have h':j+1<(xs.map f).length:=by rw[List.length_map];exact h
   cases hc:lt xs[j+1] xs[j]with
   |false=>rw[ak h hc,ak h' (by rw[List.getElem_map,List.getElem_map,<-hl];exact hc)]
   |true=>rw[wz h hc,wz h' (by rw[List.getElem_map,List.getElem_map,<-hl];exact hc),AJm hl j,List.map_set,List.map_set,List.getElem_map,List.getElem_map]
  ·show(match xs[j+1]?,xs[j]? with|some a,some b=>bif lt a b then sink lt j ((xs.set (j+1) b).set j a)else xs|_,_=>xs).map f=(match(xs.map f)[j+1]?,(xs.map f)[j]? with|some a,some b=>bif lt' a b then sink lt' j (((xs.map f).set (j+1) b).set j a)else xs.map f|_,_=>xs.map f)
   rw[List.getElem?_eq_none (by omega),List.getElem?_eq_none (l:=xs.map f) (by rw[List.length_map];omega)]
theorem AFS{α β:Type}{lt:α->α->Bool}{lt':β->β->Bool}{f:α->β}(hl:∀a b,lt a b=lt' (f a) (f b)):∀(r:Nat) (xs:List α) (i:Nat),(dL lt xs i r).map f=dL lt' (xs.map f) i r
 |0,_,_=>rfl
 |r+1,xs,i=>by show(dL lt (sink lt i xs) (i+1) r).map f=dL lt' (sink lt' i (xs.map f)) (i+1) r;rw[AFS hl r,AJm hl]
theorem ANX{α β:Type}{lt:α->α->Bool}{lt':β->β->Bool}{f:α->β}(hl:∀a b,lt a b=lt' (f a) (f b))(xs:List α):(O7 lt xs).map f=O7 lt' (xs.map f):=by
 unfold O7;rw[AFS hl,List.length_map]
def ACR(a b:St):Int:=Bool.rec (Bool.rec (.ofNat 0) (.ofNat 1) (slt b.1 b.2 a.1 a.2)) (.negSucc 0) (slt a.1 a.2 b.1 b.2)
theorem AML(a b:St):B2.ev .lss (.int .i64 (ACR a b) 0) (.int .i64 (.ofNat 0) 0)=some (.bool (slt a.1 a.2 b.1 b.2)):=by
 rw[AZL]
 unfold ACR
 cases slt a.1 a.2 b.1 b.2 with
 |true=>rfl
 |false=>cases slt b.1 b.2 a.1 a.2<;>rfl
theorem AGg{G:AX}{a b:St}{H:Heap}{n:Nat}{k:KV}(hk:k (.int .i64 (ACR a b) 0) H n):Runs F G Xg [a.v,b.v] H n k:=by
 refine BH (s:=N7 (TD lfp G)) WH (by obtain⟨h,o⟩:=zV BI G;rw[WH]at h;cases h;exact o) ?_
 show TD lfp G (Runs F G) a.v b.v H n k
 delta TD
 refine BH (s:=N7 (GU lfp G)) Iu (by obtain⟨h,o⟩:=Wl BI G;rw[Iu]at h;cases h;exact o) ?_
 show GU lfp G (Runs F G) a.v b.v H n _
 delta GU
 exact AB (show AIm a.v b.v=some (.int .i64 (ACR a b) 0)from rfl) hk
def zy(p:Es×V):LV:=Es.cells p.1 p.2
def sgN(p:Es×V):St:=p.1.nm
theorem AM3:∀ps:List (Es×V),ps.map zy=List.zipWith Es.cells (ps.map Prod.fst) (ps.map Prod.snd)
 |[]=>rfl
 |p::l=>by rw[List.map_cons,AM3 l];rfl
section
variable{G:AX}
theorem APx{x y:Dh}{H:Heap}{n:Nat}{k:KV}(hk:∀H' n',Kp H n H' n'->k (.int .i64 (ACR (Dh.nm x) (Dh.nm y)) 0) H' n'):Runs F G CV [.agg (UW x),.agg (UW y)] H n k:=by
 refine BH (s:=N7 (QU lfp G)) VD (by obtain⟨h,o⟩:=yC BI G;rw[VD]at h;cases h;exact o) ?_
 show QU lfp G (Runs F G) (.agg (UW x)) (.agg (UW y)) H n k
 delta QU
 refine Dq λH1 f1 g1=>?_
 refine Dq λH2 f2 g2=>?_
 rw[Ee,AQ]
 refine AB (AV (off:=0) (f2.get g1 (by omega)) (v:=(Dh.nm x).v) rfl) ?_
 rw[Ee,AQ]
 refine AB (AV (off:=0) g2 (v:=(Dh.nm y).v) rfl) ?_
 exact AGg (hk _ _ (f1.trans f2))
structure AHY(H0:Heap)(n0:Nat)(A:Nat->Prop)(v:V)(H:Heap)(n:Nat)(xs:List (Dh)):Prop where
 sk:Sk H 3 A v (xs.map UW)
 same:∀id,id<n0->v.Ec≠some id->T.get H id=T.get H0 id
 le:n0<=n
theorem APX{A:Nat->Prop}{v:V}{xs:List (Dh)}{H:Heap}{n:Nat}{k:KV}{m:Nat}(h:Sk H 3 A v (xs.map UW))(hA:∀id,v.Ec=some id->id<n)(hm:xs.length=m)(hb:m<=1000)
 (hk:∀H' n',n<=n'->Sk H' 3 A v ((O7 (zY Dh.nm) xs).map UW)->(∀id,id<n->v.Ec≠some id->T.get H' id=T.get H id)->k (.Io []) H' n'):
 Runs F G Gw [v,.int .i64 (.ofNat 0) 0,.int .i64 (.ofNat m) 0,.fn CV [] []] H n k:=by
 refine BH (s:=ar4 (Ew lfp G)) Gt (by obtain⟨h,o⟩:=Tz BI G;rw[Gt]at h;cases h;exact o) ?_
 show Ew lfp G (Runs F G) v (.int .i64 (.ofNat 0) 0) (.int .i64 (.ofNat m) 0) (.fn CV [] []) H n k
 delta Ew
 rw[FB (by omega),AQ]
 refine RF (J:=λq s=>∃i H' n' ys,q=m-i/\1<=i/\s=(v,.int .i64 (.ofNat 0) 0,.int .i64 (.ofNat m) 0,.fn CV [] [],.int .i64 (.ofNat i) 0,H',n')/\ys.length=m/\dL (zY Dh.nm) ys i (m-i)=O7 (zY Dh.nm) xs/\AHY H n A v H' n' ys) ?_
  (m:=m-1) ⟨1,H,n,xs,rfl,Nat.le_refl _,rfl,hm,by rw[O7,hm],h,λ_ _ _=>rfl,Nat.le_refl _⟩
 rintro I q s ⟨i,H1,n1,ys,rfl,hi,rfl,hl,hf,hj⟩ ih
 show GH lfp G (Runs F G) k I v (.int .i64 (.ofNat 0) 0) (.int .i64 (.ofNat m) 0) (.fn CV [] []) (.int .i64 (.ofNat i) 0) H1 n1
 delta GH
 refine AB (AEL ..) ?_
 by_cases hlt:i<m
 ·rw[decide_eq_true hlt,Ar]
  obtain⟨r,hr⟩:∃r,m-i=r+1:=⟨m-i-1,by omega⟩
  rw[hr]at hf
  refine RF (J:=λj s=>∃H' n' zs,s=(v,.int .i64 (.ofNat 0) 0,.int .i64 (.ofNat m) 0,.fn CV [] [],.int .i64 (.ofNat i) 0,.int .i64 (.ofNat j) 0,H',n')/\j<=i/\zs.length=m/\sink (zY Dh.nm) j zs=sink (zY Dh.nm) i ys/\AHY H n A v H' n' zs) ?_
   (m:=i) ⟨H1,n1,ys,rfl,Nat.le_refl _,hl,rfl,hj⟩
  rintro I2 j s ⟨H2,n2,zs,rfl,hji,hl2,hsk,hj2⟩ ih2
  show F9 lfp G (Runs F G) k I I2 v (.int .i64 (.ofNat 0) 0) (.int .i64 (.ofNat m) 0) (.fn CV [] []) (.int .i64 (.ofNat i) 0) (.int .i64 (.ofNat j) 0) H2 n2
  delta F9
  refine AB (N9 ..) ?_
  have fin:∀{H':Heap} {n':Nat} {ws:List (Dh)},AHY H n A v H' n' ws->ws.length=m->ws=sink (zY Dh.nm) i ys->ET lfp G (Runs F G) k I v (.int .i64 (.ofNat 0) 0) (.int .i64 (.ofNat m) 0) (.fn CV [] []) (.int .i64 (.ofNat i) 0) H' n':=by
   intro H' n' ws hw hwl hwe
   delta ET
   rw[FB (by omega),AQ]
   refine ih (m-(i+1)) _ (by omega) ⟨i+1,H',n',ws,rfl,by omega,rfl,hwl,?_,hw⟩
   rw[show m-(i+1)=r by omega,hwe];exact hf
  cases j with
  |zero=>
   rw[show decide (0<0)=false from rfl]
   repeat (first|with_reducible refine ABz ?_|with_reducible refine vM ?_|with_reducible refine ANG ?_|with_reducible refine AF3 ?_|with_reducible refine jW ?_)
   rw[Aj]
   exact fin hj2 hl2 (by rw[<-hsk];rfl)
  |succ j=>
   rw[decide_eq_true (show 0<j+1 by omega)]
   have hel:=hj2.sk.el (G:=G) (by omega)
   have hj1:j+1<zs.length:=by omega
   obtain⟨p1,hp1,hl1⟩:=hel.at (i:=j+1) (c:=UW zs[j+1]) (by simp[hj1])
   obtain⟨p0,hp0,hl0⟩:=hel.at (i:=j) (c:=UW zs[j]) (by rw[List.getElem?_map,List.getElem?_eq_getElem (show j<zs.length by omega)];rfl)
   have hs1:=ADY j (by omega)
   refine Sr rfl (Sr rfl (Sr rfl (Sr hp1 (Sr (Dx hl1) (Sr rfl (Sr rfl (Sr hs1 (Sr hp0 (Sr (Dx hl0) (ADX ?_))))))))))
   show Runs F G CV [.agg (UW zs[j+1]),.agg (UW zs[j])] H2 n2 _
   refine APx λH3 n3 f3=>?_
   refine Sr (AML _ _) ?_
   refine Uj ?_
   have hlo:∀id,v.Ec=some id->id<n2:=λid hid=>Nat.lt_of_lt_of_le (hA id hid) hj2.le
   have hj3:AHY H n A v H3 n3 zs:=⟨hj2.sk.TV (λid hid=>hj2.sk.own hid) λid hid=>f3.same id (hlo id hid),λid h1 h2=>(f3.same id (by have:=hj2.le;omega)).trans (hj2.same id h1 h2),Nat.le_trans hj2.le f3.le⟩
   cases hc:slt (Dh.nm zs[j+1]).1 (Dh.nm zs[j+1]).2 (Dh.nm zs[j]).1 (Dh.nm zs[j]).2 with
   |false=>
    rw[Aj]
    exact fin hj3 hl2 (by rw[<-hsk,ak hj1 hc])
   |true=>
    rw[Ar,hs1,AQ,AQ]
    have AAF:=hj3.sk.el (G:=G) (by omega)
    obtain⟨q1,hq1,hr1⟩:=AAF.at (i:=j+1) (c:=UW zs[j+1]) (by simp[hj1])
    obtain⟨q0,hq0,hr0⟩:=AAF.at (i:=j) (c:=UW zs[j]) (by rw[List.getElem?_map,List.getElem?_eq_getElem (show j<zs.length by omega)];rfl)
    refine AB hq0 (AB (Dx hr0) (AB hq1 (AB (Dx hr1) ?_)))
    refine hj3.sk.put (i:=j+1) (w:=.agg (UW zs[j])) (by omega) (by rw[List.length_map];exact hj1) rfl rfl λH4 hsk4 s4=>?_
    refine hsk4.put (i:=j) (w:=.agg (UW zs[j+1])) (by omega) (by rw[List.length_set,List.length_map];omega) rfl rfl λH5 hsk5 s5=>?_
    rw[show(Ba (.agg (UW zs[j])))=UW zs[j]from rfl,show(Ba (.agg (UW zs[j+1])))=UW zs[j+1]from rfl,<-List.map_set,<-List.map_set]at hsk5
    rw[AQ]
    refine ih2 j _ (by omega) ⟨H5,n3,(zs.set (j+1) zs[j]).set j zs[j+1],rfl,by omega,by simp[hl2],?_,⟨hsk5,λid h1 h2=>(s5 id h2).trans ((s4 id h2).trans (hj3.same id h1 h2)),hj3.le⟩⟩
    rw[<-hsk,wz hj1 hc]
 ·rw[decide_eq_false hlt,Aj]
  have:m-i=0:=by omega
  rw[this]at hf
  have hf:ys=O7 (zY Dh.nm) xs:=hf
  rw[<-hf]at hk
  exact hk H1 n1 hj.le hj.sk hj.same
theorem AOB{A:Nat->Prop}{v:V}{xs:List (Dh)}{H:Heap}{n:Nat}{k:KV}(h:Sk H 3 A v (xs.map UW))(hA:∀id,v.Ec=some id->id<n)(hb:xs.length<20)
 (hk:∀H' n',n<=n'->Sk H' 3 A v ((O7 (zY Dh.nm) xs).map UW)->(∀id,id<n->v.Ec≠some id->T.get H' id=T.get H id)->k (.Io []) H' n'):
 Runs F G Jv [v,.fn CV [] []] H n k:=by
 refine BH (s:=N7 (EY lfp G)) GI (by obtain⟨h,o⟩:=RU BI G;rw[GI]at h;cases h;exact o) ?_
 show EY lfp G (Runs F G) v (.fn CV [] []) H n k
 delta EY
 have hlen:=(h.el (G:=G) (by omega)).len
 rw[List.length_map]at hlen
 refine AB hlen ?_
 refine BH (s:=ar3 (Gz lfp G)) Ja (by obtain⟨h,o⟩:=YD BI G;rw[Ja]at h;cases h;exact o) ?_
 show Gz lfp G (Runs F G) v (.int .i64 (.ofNat xs.length) 0) (.fn CV [] []) H n _
 delta Gz
 generalize hm:xs.length=m at*
 refine RF (J:=λ_ s=>s=(v,.int .i64 (.ofNat m) 0,.fn CV [] [],.int .i64 (.ofNat 20) 0,.int .i64 (.ofNat 0) 0,.int .i64 (.ofNat 20) 0,H,n)) ?_ (m:=0) rfl
 rintro I q s rfl _
 show IY lfp G (Runs F G) _ I v (.int .i64 (.ofNat m) 0) (.fn CV [] []) (.int .i64 (.ofNat 20) 0) (.int .i64 (.ofNat 0) 0) (.int .i64 (.ofNat 20) 0) H n
 delta IY
 refine AB (ALF ..) ?_
 rw[decide_eq_false (by omega),Aj]
 delta Iw
 refine APX h hA hm (by omega) λH1 n1 hn1 hs1 same1=>?_
 refine RF (J:=λ_ s=>s=(v,.int .i64 (.ofNat m) 0,.fn CV [] [],.int .i64 (.ofNat 20) 0,H1,n1)) ?_ (m:=0) rfl
 rintro I2 q2 s2 rfl _
 show Iz lfp G (Runs F G) _ I2 v (.int .i64 (.ofNat m) 0) (.fn CV [] []) (.int .i64 (.ofNat 20) 0) H1 n1
 delta Iz
 refine AB (AEL ..) ?_
 rw[decide_eq_false (by omega),Aj]
 exact hk H1 n1 hn1 hs1 same1
end
section
variable{G:AX}
theorem AQ9{x y:Es×V}{H:Heap}{n:Nat}{k:KV}(hk:∀H' n',Kp H n H' n'->k (.int .i64 (ACR (sgN x) (sgN y)) 0) H' n'):Runs F G CU [.agg (zy x),.agg (zy y)] H n k:=by
 refine BH (s:=N7 (QH lfp G)) VG (by obtain⟨h,o⟩:=xJ BI G;rw[VG]at h;cases h;exact o) ?_
 show QH lfp G (Runs F G) (.agg (zy x)) (.agg (zy y)) H n k
 delta QH
 refine Dq λH1 f1 g1=>?_
 refine Dq λH2 f2 g2=>?_
 rw[Ee,AQ]
 refine AB (AV (off:=0) (f2.get g1 (by omega)) (v:=(sgN x).v) rfl) ?_
 rw[Ee,AQ]
 refine AB (AV (off:=0) g2 (v:=(sgN y).v) rfl) ?_
 exact AGg (hk _ _ (f1.trans f2))
structure AIE(H0:Heap)(n0:Nat)(A:Nat->Prop)(v:V)(H:Heap)(n:Nat)(xs:List (Es×V)):Prop where
 sk:Sk H 5 A v (xs.map zy)
 same:∀id,id<n0->v.Ec≠some id->T.get H id=T.get H0 id
 le:n0<=n
theorem AQB{A:Nat->Prop}{v:V}{xs:List (Es×V)}{H:Heap}{n:Nat}{k:KV}{m:Nat}(h:Sk H 5 A v (xs.map zy))(hA:∀id,v.Ec=some id->id<n)(hm:xs.length=m)(hb:m<=1000)
 (hk:∀H' n',n<=n'->Sk H' 5 A v ((O7 (zY sgN) xs).map zy)->(∀id,id<n->v.Ec≠some id->T.get H' id=T.get H id)->k (.Io []) H' n'):
 Runs F G Gq [v,.int .i64 (.ofNat 0) 0,.int .i64 (.ofNat m) 0,.fn CU [] []] H n k:=by
 refine BH (s:=ar4 (En lfp G)) Gg (by obtain⟨h,o⟩:=TJ BI G;rw[Gg]at h;cases h;exact o) ?_
 show En lfp G (Runs F G) v (.int .i64 (.ofNat 0) 0) (.int .i64 (.ofNat m) 0) (.fn CU [] []) H n k
 delta En
 rw[FB (by omega),AQ]
 refine RF (J:=λq s=>∃i H' n' ys,q=m-i/\1<=i/\s=(v,.int .i64 (.ofNat 0) 0,.int .i64 (.ofNat m) 0,.fn CU [] [],.int .i64 (.ofNat i) 0,H',n')/\ys.length=m/\dL (zY sgN) ys i (m-i)=O7 (zY sgN) xs/\AIE H n A v H' n' ys) ?_
  (m:=m-1) ⟨1,H,n,xs,rfl,Nat.le_refl _,rfl,hm,by rw[O7,hm],h,λ_ _ _=>rfl,Nat.le_refl _⟩
 rintro I q s ⟨i,H1,n1,ys,rfl,hi,rfl,hl,hf,hj⟩ ih
 show FW lfp G (Runs F G) k I v (.int .i64 (.ofNat 0) 0) (.int .i64 (.ofNat m) 0) (.fn CU [] []) (.int .i64 (.ofNat i) 0) H1 n1
 delta FW
 refine AB (AEL ..) ?_
 by_cases hlt:i<m
 ·rw[decide_eq_true hlt,Ar]
  obtain⟨r,hr⟩:∃r,m-i=r+1:=⟨m-i-1,by omega⟩
  rw[hr]at hf
  refine RF (J:=λj s=>∃H' n' zs,s=(v,.int .i64 (.ofNat 0) 0,.int .i64 (.ofNat m) 0,.fn CU [] [],.int .i64 (.ofNat i) 0,.int .i64 (.ofNat j) 0,H',n')/\j<=i/\zs.length=m/\sink (zY sgN) j zs=sink (zY sgN) i ys/\AIE H n A v H' n' zs) ?_
   (m:=i) ⟨H1,n1,ys,rfl,Nat.le_refl _,hl,rfl,hj⟩
  rintro I2 j s ⟨H2,n2,zs,rfl,hji,hl2,hsk,hj2⟩ ih2
  show Fp lfp G (Runs F G) k I I2 v (.int .i64 (.ofNat 0) 0) (.int .i64 (.ofNat m) 0) (.fn CU [] []) (.int .i64 (.ofNat i) 0) (.int .i64 (.ofNat j) 0) H2 n2
  delta Fp
  refine AB (N9 ..) ?_
  have fin:∀{H':Heap} {n':Nat} {ws:List (Es×V)},AIE H n A v H' n' ws->ws.length=m->ws=sink (zY sgN) i ys->EJ lfp G (Runs F G) k I v (.int .i64 (.ofNat 0) 0) (.int .i64 (.ofNat m) 0) (.fn CU [] []) (.int .i64 (.ofNat i) 0) H' n':=by
   intro H' n' ws hw hwl hwe
   delta EJ
   rw[FB (by omega),AQ]
   refine ih (m-(i+1)) _ (by omega) ⟨i+1,H',n',ws,rfl,by omega,rfl,hwl,?_,hw⟩
   rw[show m-(i+1)=r by omega,hwe];exact hf
  cases j with
  |zero=>
   rw[show decide (0<0)=false from rfl]
   repeat (first|with_reducible refine ABz ?_|with_reducible refine vM ?_|with_reducible refine ANG ?_|with_reducible refine AF3 ?_|with_reducible refine jW ?_)
   rw[Aj]
   exact fin hj2 hl2 (by rw[<-hsk];rfl)
  |succ j=>
   rw[decide_eq_true (show 0<j+1 by omega)]
   have hel:=hj2.sk.el (G:=G) (by omega)
   have hj1:j+1<zs.length:=by omega
   obtain⟨p1,hp1,hl1⟩:=hel.at (i:=j+1) (c:=zy zs[j+1]) (by simp[hj1])
   obtain⟨p0,hp0,hl0⟩:=hel.at (i:=j) (c:=zy zs[j]) (by rw[List.getElem?_map,List.getElem?_eq_getElem (show j<zs.length by omega)];rfl)
   have hs1:=ADY j (by omega)
   refine Sr rfl (Sr rfl (Sr rfl (Sr hp1 (Sr (Dx hl1) (Sr rfl (Sr rfl (Sr hs1 (Sr hp0 (Sr (Dx hl0) (ADX ?_))))))))))
   show Runs F G CU [.agg (zy zs[j+1]),.agg (zy zs[j])] H2 n2 _
   refine AQ9 λH3 n3 f3=>?_
   refine Sr (AML _ _) ?_
   refine Uj ?_
   have hlo:∀id,v.Ec=some id->id<n2:=λid hid=>Nat.lt_of_lt_of_le (hA id hid) hj2.le
   have hj3:AIE H n A v H3 n3 zs:=⟨hj2.sk.TV (λid hid=>hj2.sk.own hid) λid hid=>f3.same id (hlo id hid),λid h1 h2=>(f3.same id (by have:=hj2.le;omega)).trans (hj2.same id h1 h2),Nat.le_trans hj2.le f3.le⟩
   cases hc:slt (sgN zs[j+1]).1 (sgN zs[j+1]).2 (sgN zs[j]).1 (sgN zs[j]).2 with
   |false=>
    rw[Aj]
    exact fin hj3 hl2 (by rw[<-hsk,ak hj1 hc])
   |true=>
    rw[Ar,hs1,AQ,AQ]
    have AAF:=hj3.sk.el (G:=G) (by omega)
    obtain⟨q1,hq1,hr1⟩:=AAF.at (i:=j+1) (c:=zy zs[j+1]) (by simp[hj1])
    obtain⟨q0,hq0,hr0⟩:=AAF.at (i:=j) (c:=zy zs[j]) (by rw[List.getElem?_map,List.getElem?_eq_getElem (show j<zs.length by omega)];rfl)
    refine AB hq0 (AB (Dx hr0) (AB hq1 (AB (Dx hr1) ?_)))
    refine hj3.sk.put (i:=j+1) (w:=.agg (zy zs[j])) (by omega) (by rw[List.length_map];exact hj1) rfl rfl λH4 hsk4 s4=>?_
    refine hsk4.put (i:=j) (w:=.agg (zy zs[j+1])) (by omega) (by rw[List.length_set,List.length_map];omega) rfl rfl λH5 hsk5 s5=>?_
    rw[show(Ba (.agg (zy zs[j])))=zy zs[j]from rfl,show(Ba (.agg (zy zs[j+1])))=zy zs[j+1]from rfl,<-List.map_set,<-List.map_set]at hsk5
    rw[AQ]
    refine ih2 j _ (by omega) ⟨H5,n3,(zs.set (j+1) zs[j]).set j zs[j+1],rfl,by omega,by simp[hl2],?_,⟨hsk5,λid h1 h2=>(s5 id h2).trans ((s4 id h2).trans (hj3.same id h1 h2)),hj3.le⟩⟩
    rw[<-hsk,wz hj1 hc]
 ·rw[decide_eq_false hlt,Aj]
  have:m-i=0:=by omega
  rw[this]at hf
  have hf:ys=O7 (zY sgN) xs:=hf
  rw[<-hf]at hk
  exact hk H1 n1 hj.le hj.sk hj.same
theorem AN9{A:Nat->Prop}{v:V}{xs:List (Es×V)}{H:Heap}{n:Nat}{k:KV}(h:Sk H 5 A v (xs.map zy))(hA:∀id,v.Ec=some id->id<n)(hb:xs.length<20)
 (hk:∀H' n',n<=n'->Sk H' 5 A v ((O7 (zY sgN) xs).map zy)->(∀id,id<n->v.Ec≠some id->T.get H' id=T.get H id)->k (.Io []) H' n'):
 Runs F G JV [v,.fn CU [] []] H n k:=by
 refine BH (s:=N7 (EL lfp G)) FV (by obtain⟨h,o⟩:=Qg BI G;rw[FV]at h;cases h;exact o) ?_
 show EL lfp G (Runs F G) v (.fn CU [] []) H n k
 delta EL
 have hlen:=(h.el (G:=G) (by omega)).len
 rw[List.length_map]at hlen
 refine AB hlen ?_
 refine BH (s:=ar3 (Gh lfp G)) JB (by obtain⟨h,o⟩:=Xj BI G;rw[JB]at h;cases h;exact o) ?_
 show Gh lfp G (Runs F G) v (.int .i64 (.ofNat xs.length) 0) (.fn CU [] []) H n _
 delta Gh
 generalize hm:xs.length=m at*
 refine RF (J:=λ_ s=>s=(v,.int .i64 (.ofNat m) 0,.fn CU [] [],.int .i64 (.ofNat 20) 0,.int .i64 (.ofNat 0) 0,.int .i64 (.ofNat 20) 0,H,n)) ?_ (m:=0) rfl
 rintro I q s rfl _
 show IE lfp G (Runs F G) _ I v (.int .i64 (.ofNat m) 0) (.fn CU [] []) (.int .i64 (.ofNat 20) 0) (.int .i64 (.ofNat 0) 0) (.int .i64 (.ofNat 20) 0) H n
 delta IE
 refine AB (ALF ..) ?_
 rw[decide_eq_false (by omega),Aj]
 delta IZ
 refine AQB h hA hm (by omega) λH1 n1 hn1 hs1 same1=>?_
 refine RF (J:=λ_ s=>s=(v,.int .i64 (.ofNat m) 0,.fn CU [] [],.int .i64 (.ofNat 20) 0,H1,n1)) ?_ (m:=0) rfl
 rintro I2 q2 s2 rfl _
 show IV lfp G (Runs F G) _ I2 v (.int .i64 (.ofNat m) 0) (.fn CU [] []) (.int .i64 (.ofNat 20) 0) H1 n1
 delta IV
 refine AB (AEL ..) ?_
 rw[decide_eq_false (by omega),Aj]
 exact hk H1 n1 hn1 hs1 same1
end
theorem AH2{G:AX}{H:Heap}{v:V}{z:Nat}{LS:DZ}(h:El G H v z LS):v=.Ad/\LS=[]∨EN .sl false v .Ad=some (.bool false):=by
 obtain⟨h1,h2⟩:=h
 cases v<;>try (cases h2;done)
 ·cases h1
 ·cases h2;exact .inl ⟨rfl,rfl⟩
 ·exact .inr rfl
 ·exact .inr rfl
 ·exact .inr rfl
theorem ALr{G:AX}{H:Heap}{n:Nat}{v:V}{LS:DZ}(h:El G H v 3 LS)(hlt:∀id,v.Ec=some id->id<n)(hb:LS.length<=100000){k:KV}
 (hk:∀v' H' n',Kp H n H' n'->Sk H' 3 (λid=>n<=id/\id<n') v' LS->k v' H' n'):Runs F G P5 [v] H n k:=by
 refine BH (s:=mO (G5 lfp G)) JZ (by obtain⟨h,o⟩:=YC BI G;rw[JZ]at h;cases h;exact o) ?_
 show G5 lfp G (Runs F G) v H n k
 delta G5
 rcases AH2 h with⟨rfl,rfl⟩|e
 ·refine AB (show EN .sl false .Ad .Ad=some (.bool true)from rfl) ?_
  rw[Ar]
  exact hk _ _ _ (Kp.refl _ _) .nil
 ·refine AB e ?_
  rw[Aj,AKk]
  have he:=h.same (H':=T.set H n (.arr 3 0 .e)) λid hid=>T.Ak _ _ (by have:=hlt id hid;omega)
  cases LS with
  |nil=>exact AEq (T.BP ..) he.2 λH' hs=>hk _ _ _ ⟨by omega,λid hid=>by rw[hs,T.Ak _ _ (by omega)]⟩ (.emp ((hs _).trans (T.BP ..)) ⟨Nat.le_refl _,by omega⟩)
  |cons a NS=>
   refine AA5 (t:=.e) (by omega) he.2 (by omega) λv' H' hgr hsame hlo=>?_
   refine hk _ _ _ ⟨by omega,λid hid=>(hsame id (by omega)).trans (T.Ak _ _ (by omega))⟩ ?_
   generalize hX:a::NS=X at hgr
   cases hgr with
   |nil=>cases hX
   |PO hg hc ht hid=>
    have e:=hlo _ rfl
    exact .PO hg hc ht ⟨by omega,by omega⟩
theorem ACx{G:AX}{H:Heap}{n:Nat}{v:V}{LS:DZ}(h:El G H v 11 LS)(hlt:∀id,v.Ec=some id->id<n)(hb:LS.length<=100000){k:KV}
 (hk:∀v' H' n',Kp H n H' n'->Sk H' 11 (λid=>n<=id/\id<n') v' LS->k v' H' n'):Runs F G Ed [v] H n k:=by
 refine BH (s:=mO (GR lfp G)) I4 (by obtain⟨h,o⟩:=Wj BI G;rw[I4]at h;cases h;exact o) ?_
 show GR lfp G (Runs F G) v H n k
 delta GR
 rcases AH2 h with⟨rfl,rfl⟩|e
 ·refine AB (show EN .sl false .Ad .Ad=some (.bool true)from rfl) ?_
  rw[Ar]
  exact hk _ _ _ (Kp.refl _ _) .nil
 ·refine AB e ?_
  rw[Aj,AKk]
  have he:=h.same (H':=T.set H n (.arr 11 0 .e)) λid hid=>T.Ak _ _ (by have:=hlt id hid;omega)
  cases LS with
  |nil=>exact AEq (T.BP ..) he.2 λH' hs=>hk _ _ _ ⟨by omega,λid hid=>by rw[hs,T.Ak _ _ (by omega)]⟩ (.emp ((hs _).trans (T.BP ..)) ⟨Nat.le_refl _,by omega⟩)
  |cons a NS=>
   refine AA5 (t:=.e) (by omega) he.2 (by omega) λv' H' hgr hsame hlo=>?_
   refine hk _ _ _ ⟨by omega,λid hid=>(hsame id (by omega)).trans (T.Ak _ _ (by omega))⟩ ?_
   generalize hX:a::NS=X at hgr
   cases hgr with
   |nil=>cases hX
   |PO hg hc ht hid=>
    have e:=hlo _ rfl
    exact .PO hg hc ht ⟨by omega,by omega⟩
theorem AFy{G:AX}{H:Heap}{n:Nat}{v:V}{LS:DZ}(h:El G H v 8 LS)(hlt:∀id,v.Ec=some id->id<n)(hb:LS.length<=100000){k:KV}
 (hk:∀v' H' n',Kp H n H' n'->Sk H' 8 (λid=>n<=id/\id<n') v' LS->k v' H' n'):Runs F G LY [v] H n k:=by
 refine BH (s:=mO (E8 lfp G)) Gy (by obtain⟨h,o⟩:=Uo BI G;rw[Gy]at h;cases h;exact o) ?_
 show E8 lfp G (Runs F G) v H n k
 delta E8
 rcases AH2 h with⟨rfl,rfl⟩|e
 ·refine AB (show EN .sl false .Ad .Ad=some (.bool true)from rfl) ?_
  rw[Ar]
  exact hk _ _ _ (Kp.refl _ _) .nil
 ·refine AB e ?_
  rw[Aj,AKk]
  have he:=h.same (H':=T.set H n (.arr 8 0 .e)) λid hid=>T.Ak _ _ (by have:=hlt id hid;omega)
  cases LS with
  |nil=>exact AEq (T.BP ..) he.2 λH' hs=>hk _ _ _ ⟨by omega,λid hid=>by rw[hs,T.Ak _ _ (by omega)]⟩ (.emp ((hs _).trans (T.BP ..)) ⟨Nat.le_refl _,by omega⟩)
  |cons a NS=>
   refine AA5 (t:=.e) (by omega) he.2 (by omega) λv' H' hgr hsame hlo=>?_
   refine hk _ _ _ ⟨by omega,λid hid=>(hsame id (by omega)).trans (T.Ak _ _ (by omega))⟩ ?_
   generalize hX:a::NS=X at hgr
   cases hgr with
   |nil=>cases hX
   |PO hg hc ht hid=>
    have e:=hlo _ rfl
    exact .PO hg hc ht ⟨by omega,by omega⟩
def bH(m:Tm):Es:=⟨m.nm,m.st,m.ps.map Dh.ty,m.ret⟩
def Bc(c:Tc):Fc:=⟨c.nm,c.sup,O7 (zY Dh.nm) c.fs,O7 (zY Es.nm) (c.ms.map bH)⟩
structure AH9(m:Tm):Prop where
 nm:m.nm.ok
 ret:m.ret.nm.ok
 ps:∀f∈m.ps,f.ty.nm.ok
 ln:m.ps.length<=1000
structure AEV(c:Tc):Prop where
 nm:c.nm.ok
 sup:c.sup.ok
 fs:∀f∈c.fs,f.nm.ok/\f.ty.nm.ok
 ms:∀m∈c.ms,AH9 m
 lf:c.fs.length<20
 lm:c.ms.length<20
inductive AFc(G:AX)(H:Heap)(A:Nat->Prop):LV->Tm->Prop where
 |mk (p q vb:V) {nm:St} {st:Bool} {ty:Ty} {ps:List Dh} {bd:List Tt} {vp:V} (hp:ADg G H A vp ps):AFc G H A [p,q,nm.v,.bool st,vp,ty.nm.v,.bool ty.arr,vb] ⟨nm,st,ps,ty,bd⟩
theorem AFc.mono{G:AX}{H H':Heap}{A B:Nat->Prop}{c:LV}{m:Tm}(hA:∀id,A id->B id)(hs:∀id,A id->T.get H' id=T.get H id)(h:AFc G H A c m):AFc G H' B c m:=by
 cases h with
 |mk p q vb hp=>exact .mk p q vb (hp.mono hA hs)
theorem AFc.len{G:AX}{H:Heap}{A:Nat->Prop}{c:LV}{m:Tm}(h:AFc G H A c m):c.length=8:=by cases h;rfl
theorem jU.fm{G:AX}{H:Heap}{A:Nat->Prop}{c:LV}{m:Tm}(h:jU G H A c m):AFc G H A c m:=by
 cases h with
 |mk line col hp hb=>exact .mk _ _ _ hp
inductive gW(G:AX)(H:Heap)(A:Nat->Prop):DZ->List Tm->Prop where
 |nil:gW G H A [] []
 |cons {c:LV} {e:Tm} {cs:DZ} {es:List Tm} (h:AFc G H A c e) (t:gW G H A cs es):gW G H A (c::cs) (e::es)
theorem gW.mono{G:AX}{H H':Heap}{A B:Nat->Prop}(hA:∀id,A id->B id)(hs:∀id,A id->T.get H' id=T.get H id):∀{cs:DZ} {es:List Tm},gW G H A cs es->gW G H' B cs es
 |_,_,.nil=>.nil
 |_,_,.cons h t=>.cons (h.mono hA hs) (t.mono hA hs)
theorem gW.len{G:AX}{H:Heap}{A:Nat->Prop}:∀{cs:DZ} {es:List Tm},gW G H A cs es->cs.length=es.length
 |_,_,.nil=>rfl
 |_,_,.cons h t=>by simp[t.len]
theorem gW.at{G:AX}{H:Heap}{A:Nat->Prop}:∀{cs:DZ} {es:List Tm},gW G H A cs es->∀{i:Nat} {e:Tm},es[i]? =some e->∃c,cs[i]? =some c/\AFc G H A c e
 |_,_,.nil,i,e,h=>by simp at h
 |_,_,.cons h t,0,e,he=>by cases he;exact⟨_,rfl,h⟩
 |_,_,.cons h t,i+1,e,he=>by obtain⟨c,h1,h2⟩:=t.at (i:=i) he;exact⟨c,h1,h2⟩
theorem MW.fm{G:AX}{H:Heap}{A:Nat->Prop}:∀{cs:DZ} {es:List Tm},MW G H A cs es->gW G H A cs es
 |_,_,.nil=>.nil
 |_,_,.cons h t=>.cons h.fm t.fm
inductive AFC(G:AX)(H:Heap)(A:Nat->Prop):LV->Tc->Prop where
 |mk (p q:V) {nm sup:St} {fs:List Dh} {ms:List Tm} {vf vm:V} {cs:DZ} (hf:ADg G H A vf fs) (e1:El G H vm 8 cs) (e5:∀id,vm.Ec=some id->A id) (hts:gW G H A cs ms):AFC G H A [p,q,nm.v,sup.v,vf,vm] ⟨nm,sup,fs,ms⟩
theorem AFC.mono{G:AX}{H H':Heap}{A B:Nat->Prop}{c:LV}{m:Tc}(hA:∀id,A id->B id)(hs:∀id,A id->T.get H' id=T.get H id)(h:AFC G H A c m):AFC G H' B c m:=by
 cases h with
 |mk p q hf e1 e5 hts=>exact .mk p q (hf.mono hA hs) (e1.same λid hid=>hs id (e5 id hid)) (λid hid=>hA id (e5 id hid)) (hts.mono hA hs)
theorem AFC.len{G:AX}{H:Heap}{A:Nat->Prop}{c:LV}{m:Tc}(h:AFC G H A c m):c.length=6:=by cases h;rfl
theorem jF.fc{G:AX}{H:Heap}{A:Nat->Prop}{c:LV}{m:Tc}(h:jF G H A c m):AFC G H A c m:=by
 cases h with
 |mk line col hf hm=>
  obtain⟨cs,e1,_,_,_,e5,hts⟩:=hm
  exact .mk _ _ hf e1 e5 hts.fm
abbrev sgZ:LV:=[.str 0 0,.bool false,.Ad,.str 0 0,.bool false]
section
variable{G:AX}{H:Heap}{n:Nat}{A:Nat->Prop}{k:KV}
theorem AWq{l:LV}{m:Tm}(h:AFc G H A l m)(hA:∀id,A id->id<n)(hln:m.ps.length<=1000)
 (hk:∀H' n' w,Kp H n H' n'->Sk H' 2 (λid=>n<=id/\id<n') w ((m.ps.map Dh.ty).map Ty.cells)->k (.agg (zy (bH m,w))) H' n'):Runs F G AFG [.agg l] H n k:=by
 refine BH (s:=mO (nY lfp G)) wF (by obtain⟨h,o⟩:=AKJ BI G;rw[wF]at h;cases h;exact o) ?_
 show nY lfp G (Runs F G) (.agg l) H n k
 delta nY
 cases h with
 |mk p0 q0 vb hp=>
  rename_i nm st ty ps bd vp
  have hln:ps.length<=1000:=hln
  refine Dq λH1 f1 g1=>?_
  refine Az rfl λH2 f2 g2=>?_
  have g1:=f2.get g1 (by omega)
  rw[Am,AQ]
  refine AB (AV (off:=0+2) g1 (v:=nm.v) rfl) ?_
  rw[Am,AQ]
  refine AB (AV (off:=0+3) g1 (v:=.bool st) rfl) ?_
  rw[Am,AQ]
  refine AB (EM (off:=0+5) (m:=2) g1 (by omega) (by show 0+5+2<=8;omega)) ?_
  refine AB (v:=.agg (zy (⟨nm,st,[],ty⟩,.Ad))) rfl ?_
  refine Az rfl λH3 f3 g3=>?_
  refine DV g3 rfl rfl (by omega) λH4 g4 s4=>?_
  have f14:Kp H n H4 (n+1+1+1):=(f1.trans f2).trans ⟨f3.le,λid hid=>(s4 id (by omega)).trans (f3.same id hid)⟩
  have g1:T.get H4 n=_:=(s4 n (by omega)).trans (f3.get g1 (by omega))
  have g2:T.get H4 (n+1)=_:=(s4 (n+1) (by omega)).trans (f3.get g2 (by omega))
  rw[Am,AQ]
  refine AB (AV (off:=0+4) g1 (v:=vp) rfl) ?_
  have hp4:=hp.mono (H':=H4) (λ_ h=>h) λid hid=>f14.same id (hA id hid)
  have hlen:=hp4.1.len
  rw[List.length_map]at hlen
  refine AB hlen ?_
  refine DF (N:=ps.length) (J:=λj q=>∃H' n' w,q=(.ptr (n+1) 0,.ptr (n+2) 0,vp,.int .i64 (.ofNat ps.length) 0,.int .i64 (.ofNat j) 0,H',n')/\Kp H n H' n'/\n+3<=n'/\T.get H' (n+1)=some (one sgZ)/\T.get H' (n+2)=some (one (zy (⟨nm,st,[],ty⟩,w)))/\
   Sk H' 2 (λid=>n+3<=id/\id<n') w (((ps.take j).map Dh.ty).map Ty.cells)) ?_ ?_ ⟨H4,n+1+1+1,.Ad,rfl,f14,by omega,g2,g4,.nil⟩
  ·rintro I j q hlt ⟨H5,n5,w,rfl,f5,hn5,b1,b2,sk⟩ ih
   show UM lfp G (Runs F G) k I (.ptr (n+1) 0) (.ptr (n+2) 0) vp (.int .i64 (.ofNat ps.length) 0) (.int .i64 (.ofNat j) 0) H5 n5
   delta UM
   have hp5:=hp.1.same (H':=H5) λid hid=>f5.same id (hA id (hp.2.2.2.2 id hid))
   obtain⟨p,hpp,hld⟩:=hp5.at (i:=j) (c:=UW ps[j]) (by simp[hlt])
   have htake:=take_snoc (List.getElem?_eq_getElem hlt)
   generalize ps[j]=x at hld htake
   rw[EP,AQ,decide_eq_true hlt,Ar]
   refine AB hpp (AB (Dx hld) ?_)
   refine Az rfl λH6 f6 g6=>?_
   refine DV g6 rfl rfl (by omega) λH7 g7 s7=>?_
   have f57:Kp H5 n5 H7 (n5+1):=⟨f6.le,λid hid=>(s7 id (by omega)).trans (f6.same id hid)⟩
   have b2':=f57.get b2 (by omega)
   rw[Am,AQ]
   refine AB (AV (off:=0+2) b2' (v:=w) rfl) ?_
   rw[Am,AQ]
   refine AB (EM (off:=0+1) (m:=2) g7 (by omega) (by show 0+1+2<=3;omega)) ?_
   have sk7:Sk H7 2 (λid=>n+3<=id/\id<n5) w (((ps.take j).map Dh.ty).map Ty.cells):=sk.mono (λ_ h=>h) λid hid=>f57.same id hid.2
   refine sk7.app (bs:=24) (c:=x.ty.v) (m:=0) (λid hid=>by have:=(sk7.own hid).2;omega) (by omega) rfl rfl (by rw[List.length_map,List.length_map,List.length_take];omega) λw' H8 hs8 same8 hsid=>?_
   have k8:∀id,id<n+3->T.get H8 id=T.get H5 id:=λid h=>(same8 id (by omega) λe=>by have:=(sk7.own e).1;omega).trans (f57.same id (by omega))
   have hsk8:=hs8 (λid=>n+3<=id/\id<n5+1+2) ⟨by omega,by omega⟩
   rw[AQ]
   refine Jm (off:=0+2) (m:=1) (v:=w') ((k8 (n+2) (by omega)).trans b2) hsk8.ok.1 (by rw[hsk8.ok.2.1];rfl) (by omega) (by show 0+2+1<=5;omega) λH9 g9 s9=>?_
   rw[hsk8.ok.2.1]at g9
   rw[FB (by omega),AQ]
   refine ih _ ⟨H9,n5+1+2,w',rfl,⟨by have:=f5.le;omega,λid hid=>(s9 id (by omega)).trans ((k8 id (by omega)).trans (f5.same id hid))⟩,by omega,(s9 (n+1) (by omega)).trans ((k8 (n+1) (by omega)).trans b1),g9,?_⟩
   rw[htake,List.map_append,List.map_append]
   exact hsk8.TV (λid hid=>hsk8.own hid) λid hid=>s9 id (by have:=hsk8.own hid;omega)
  ·rintro I q ⟨H5,n5,w,rfl,f5,hn5,b1,b2,sk⟩
   show UM lfp G (Runs F G) k I (.ptr (n+1) 0) (.ptr (n+2) 0) vp (.int .i64 (.ofNat ps.length) 0) (.int .i64 (.ofNat ps.length) 0) H5 n5
   delta UM
   rw[EP,AQ,decide_eq_false (Nat.lt_irrefl _),Aj]
   delta dF
   refine AB (Bf (m:=5) b2 (by omega) rfl) ?_
   refine DV b1 rfl rfl (by omega) λH6 g6 s6=>?_
   rw[D9 (m:=5) g6 (by omega) rfl]
   simp only[go_sem]
   rw[List.take_of_length_le (Nat.le_refl _)]at sk
   refine hk H6 n5 w ⟨f5.le,λid hid=>(s6 id (by omega)).trans (f5.same id hid)⟩ (sk.mono (λid h=>⟨by omega,h.2⟩) λid h=>s6 id (by omega))
end
abbrev fcZ:LV:=[.str 0 0,.str 0 0,.Ad,.Ad]
def fcC(nm sup:St)(vf vm:V):LV:=[nm.v,sup.v,vf,vm]
theorem AQC{H:Heap}{A:Nat->Prop}{v:V}{LS:DZ}(h:Sk H 3 A v LS)(a b c d:Nat):Dv fcZ [(0,1,.c (.str a b)),(1,1,.c (.str c d)),(2,1,.c v)]=some (.agg [.str a b,.str c d,v,.Ad]):=by
 cases h<;>rfl
section
variable{G:AX}{H:Heap}{n:Nat}{A:Nat->Prop}{k:KV}
def ADS(G:AX)(H:Heap)(R:Nat->Prop)(v:V)(c:Fc):Prop:=∀H' n',(∀id,R id->T.get H' id=T.get H id)->(∀id,R id->id<n')->Qx G H' n' v c
theorem ADS.mono{H H':Heap}{R R':Nat->Prop}{v:V}{c:Fc}(h:ADS G H R v c)(hR:∀id,R id->R' id)(hs:∀id,R id->T.get H' id=T.get H id):ADS G H' R' v c:=
 λH'' n'' h1 h2=>h H'' n'' (λid hid=>(h1 id (hR id hid)).trans (hs id hid)) λid hid=>h2 id (hR id hid)
structure AQQ(G:AX)(H:Heap)(B:Nat->Prop)(ps:List (Es×V)):Prop where
 at':∀p∈ps,El G H p.2 2 (p.1.ps.map Ty.cells)/\(∀id,p.2.Ec=some id->B id)/\p.1.ps.length<=1000/\(∀t∈p.1.ps,t.nm.ok)/\p.1.nm.ok/\p.1.ret.nm.ok
theorem AQQ.mono{H':Heap}{B C:Nat->Prop}{ps:List (Es×V)}(h:AQQ G H B ps)(hB:∀id,B id->C id)(hs:∀id,B id->T.get H' id=T.get H id):AQQ G H' C ps:=
 ⟨λp hp=>by
  obtain⟨h1,h2,h3⟩:=h.at' p hp
  exact⟨h1.same λid hid=>hs id (h2 id hid),λid hid=>hB id (h2 id hid),h3⟩⟩
theorem AVH{ps:List (Es×V)}{i:Nat}{m:Es}{w:V}(h1:(ps.map Prod.fst)[i]? =some m)(h2:(ps.map Prod.snd)[i]? =some w):(m,w)∈ps:=by
 rw[List.getElem?_map]at h1 h2
 obtain⟨p,hp,rfl⟩:=Option.map_eq_some_iff.1 h1
 rw[hp]at h2
 cases h2
 exact List.mem_of_getElem? hp
theorem AUp{nm sup:St}{fs:List Dh}{ps:List (Es×V)}{vf w:V}{b:Nat}{H0:Heap}{n0:Nat}(hb:b+2<=n)(hb0:n0<=b)(b1:T.get H b=some (one fcZ))(b2:T.get H (b+1)=some (one (fcC nm sup vf w)))
 (f:Kp H0 n0 H n) (sf:Sk H 3 (λid=>b+2<=id/\id<n) vf (fs.map UW)) (sw:Sk H 5 (λid=>b+2<=id/\id<n/\vf.Ec≠some id) w (ps.map zy)) (hps:AQQ G H (λid=>b+2<=id/\id<n/\vf.Ec≠some id/\w.Ec≠some id) ps)
 (hfo:∀f∈fs,f.nm.ok/\f.ty.nm.ok) (hno:nm.ok/\sup.ok) (hlf:fs.length<20) (hlp:ps.length<20)
 (hk:∀H' n' v,Kp H0 n0 H' n'->ADS G H' (λid=>n0<=id/\id<n') v ⟨nm,sup,O7 (zY Dh.nm) fs,O7 (zY Es.nm) (ps.map Prod.fst)⟩->k v H' n'):Y0 lfp G (Runs F G) k (.ptr b 0) (.ptr (b+1) 0) H n:=by
 delta Y0
 have hn0:=f.le
 refine BH (s:=mO (Uk lfp G)) Xr (by obtain⟨h,o⟩:=AA9 BI G;rw[Xr]at h;cases h;exact o) ?_
 show Uk lfp G (Runs F G) (.ptr (b+1) 0) H n λv14 H n=>AP (Ag 4 (.ptr (b+1) 0) G H) λv15=>Bq 4 (.ptr b 0) v15 H n λv16 H n=>Ej (BO [AVr.cn (.ptr b 0) 4] G H) λl=>k (DX l) H n
 delta Uk
 rw[CO,AQ,Am,AQ]
 refine AB (AV (off:=0+2) b2 (v:=vf) rfl) ?_
 refine AOB sf (λid hid=>(sf.own hid).2) hlf λH1 n1 hn1 sf1 same1=>?_
 have vfo:∀id,id<b+2->vf.Ec≠some id:=λid h e=>by have:=sf.own e;omega
 have b21:T.get H1 (b+1)=_:=(same1 (b+1) (by omega) (vfo _ (by omega))).trans b2
 rw[AQ,Am,AQ]
 refine AB (AV (off:=0+3) b21 (v:=w) rfl) ?_
 have sw1:Sk H1 5 (λid=>b+2<=id/\id<n/\vf.Ec≠some id) w (ps.map zy):=sw.mono (λ_ h=>h) λid h=>same1 id h.2.1 h.2.2
 refine AN9 sw1 (λid hid=>by have:=sw1.own hid;omega) hlp λH2 n2 hn2 sw2 same2=>?_
 have wo:∀id,id<b+2->w.Ec≠some id:=λid h e=>by have:=sw.own e;omega
 have b22:T.get H2 (b+1)=_:=(same2 (b+1) (by omega) (wo _ (by omega))).trans b21
 refine AB (Bf (m:=4) b22 (by omega) rfl) ?_
 have b12:T.get H2 b=_:=(same2 b (by omega) (wo _ (by omega))).trans ((same1 b (by omega) (vfo _ (by omega))).trans b1)
 refine DV b12 rfl rfl (by omega) λH3 g3 s3=>?_
 rw[D9 (m:=4) g3 (by omega) rfl]
 simp only[go_sem]
 have sf3:Sk H3 3 (λid=>b+2<=id/\id<n) vf ((O7 (zY Dh.nm) fs).map UW):=sf1.TV (λid hid=>sf1.own hid) λid hid=>(s3 id (by have:=sf1.own hid;omega)).trans (same2 id (by have:=sf1.own hid;omega) λe=>(sw.own e).2.2 hid)
 have sw3:Sk H3 5 (λid=>b+2<=id/\id<n) w ((O7 (zY sgN) ps).map zy):=sw2.TV (λid hid=>by have:=sw2.own hid;exact⟨this.1,this.2.1⟩) λid hid=>s3 id (by have:=sw2.own hid;omega)
 have hps3:=hps.mono (H':=H3) (C:=λid=>b+2<=id/\id<n) (λid h=>⟨h.1,h.2.1⟩) λid h=>(s3 id (by omega)).trans ((same2 id (by omega) h.2.2.2).trans (same1 id h.2.1 h.2.2.1))
 have hmap:=ANX (lt:=zY sgN) (lt':=zY Es.nm) (f:=Prod.fst) (λa b=>rfl) ps
 refine hk H3 n2 _ ⟨by omega,λid hid=>(s3 id (by omega)).trans ((same2 id (by omega) (wo _ (by omega))).trans ((same1 id (by omega) (vfo _ (by omega))).trans (f.same id hid)))⟩ λH4 n4 h4 hl4=>?_
 have rg:∀id,b+2<=id->id<n->n0<=id/\id<n2:=λid h1 h2=>⟨by omega,by omega⟩
 have sf3:=sf3.mono (H':=H4) (B:=λid=>id<n4) (λid h=>hl4 id (rg id h.1 h.2)) λid h=>h4 id (rg id h.1 h.2)
 have sw3:=sw3.mono (H':=H4) (B:=λid=>id<n4) (λid h=>hl4 id (rg id h.1 h.2)) λid h=>h4 id (rg id h.1 h.2)
 have hps3:=hps3.mono (H':=H4) (C:=λid=>id<n4) (λid h=>hl4 id (rg id h.1 h.2)) λid h=>h4 id (rg id h.1 h.2)
 refine⟨vf,w,(O7 (zY sgN) ps).map Prod.snd,⟨rfl,?_,?_,hno⟩,rfl⟩
 ·exact⟨sf3.el (by omega),λid hid=>sf3.own hid,by rw[wR];unfold big;omega,λx hx=>hfo x (ji hx)⟩
 ·refine⟨?_,λid hid=>sw3.own hid,by rw[wR,List.length_map];unfold big;omega,by rw[List.length_map,wR,wR,List.length_map],?_,?_⟩
  ·have:=sw3.el (G:=G) (by omega)
   rw[AM3,hmap]at this;exact this
  ·intro i m w' h1 h2
   rw[<-hmap]at h1
   obtain⟨q1,q2,q3,q4,_⟩:=hps3.at' _ (ji (AVH h1 h2))
   exact⟨q1,λid hid=>q2 id hid,Nat.lt_of_le_of_lt (show m.ps.length<=1000 from q3) (by unfold big;omega),q4⟩
  ·intro m hm
   obtain⟨p,hp,rfl⟩:=List.mem_map.1 (ji hm)
   exact(hps.at' p hp).2.2.2.2
theorem AXq{l:LV}{c:Tc}(h:AFC G H A l c)(hA:∀id,A id->id<n)(hc:AEV c)(hk:∀H' n' v,Kp H n H' n'->ADS G H' (λid=>n<=id/\id<n') v (Bc c)->k v H' n'):Runs F G ACZ [.agg l] H n k:=by
 refine BH (s:=mO (wV lfp G)) AAO (by obtain⟨h,o⟩:=ALA BI G;rw[AAO]at h;cases h;exact o) ?_
 show wV lfp G (Runs F G) (.agg l) H n k
 delta wV
 cases h with
 |mk p0 q0 hf e1 e5 hts=>
  rename_i nm sup fs ms vf vm cs
  have hno:nm.ok/\sup.ok:=⟨hc.nm,hc.sup⟩
  have hlm:ms.length<20:=hc.lm
  have hlf:fs.length<20:=hc.lf
  have hcl:=hts.len
  refine Dq λH1 f1 g1=>?_
  refine Az rfl λH2 f2 g2=>?_
  have g1:=f2.get g1 (by omega)
  rw[Am,AQ]
  refine AB (AV (off:=0+2) g1 (v:=nm.v) rfl) ?_
  rw[Am,AQ]
  refine AB (AV (off:=0+3) g1 (v:=sup.v) rfl) ?_
  rw[Am,AQ]
  refine AB (AV (off:=0+4) g1 (v:=vf) rfl) ?_
  refine Az rfl λH3 f3 g3=>?_
  have f13:=(f1.trans f2).trans f3
  have hf3:=hf.1.same (H':=H3) λid hid=>f13.same id (hA id (hf.2.2.2.2 id hid))
  refine ALr hf3 (λid hid=>by have:=hA id (hf.2.2.2.2 id hid);omega) (by rw[List.length_map];omega) λvf' H4 n4 f4 sf=>?_
  have hn4:=f4.le
  have g4:=f4.get (f3.get g1 (by omega)) (by omega)
  refine AB (AV (off:=0+2) g4 (v:=nm.v) rfl) (Di (AFb ..) (AB (AV (off:=0+3) g4 (v:=sup.v) rfl) (Di (AFb ..) ?_)))
  refine AB (AQC sf ..) ?_
  have g34:=f4.get g3 (by omega)
  refine DV g34 rfl rfl (by omega) λH5 g5 s5=>?_
  have f15:Kp H n H5 n4:=⟨by omega,λid hid=>(s5 id (by omega)).trans ((f13.trans f4).same id hid)⟩
  have g15:T.get H5 n=_:=(s5 n (by omega)).trans g4
  have g25:T.get H5 (n+1)=_:=(s5 (n+1) (by omega)).trans (f4.get (f3.get g2 (by omega)) (by omega))
  have sf5:Sk H5 3 (λid=>n+3<=id/\id<n4) vf' (fs.map UW):=sf.mono (λid h=>⟨by omega,h.2⟩) λid h=>s5 id (by omega)
  rw[Am,AQ]
  refine AB (AV (off:=0+5) g15 (v:=vm) rfl) ?_
  have e15:=e1.same (H':=H5) λid hid=>f15.same id (hA id (e5 id hid))
  have hlen:=e15.len
  rw[hcl]at hlen
  refine AB hlen ?_
  refine DF (N:=ms.length) (J:=λj q=>∃H' n' w ps,q=(.ptr (n+1) 0,.ptr (n+2) 0,vm,.int .i64 (.ofNat ms.length) 0,.int .i64 (.ofNat j) 0,H',n')/\Kp H n H' n'/\n+3<=n'/\T.get H' (n+1)=some (one fcZ)/\T.get H' (n+2)=some (one (fcC nm sup vf' w))/\
   Sk H' 3 (λid=>n+3<=id/\id<n') vf' (fs.map UW)/\Sk H' 5 (λid=>n+3<=id/\id<n'/\vf'.Ec≠some id) w (ps.map zy)/\AQQ G H' (λid=>n+3<=id/\id<n'/\vf'.Ec≠some id/\w.Ec≠some id) ps/\ps.map Prod.fst=(ms.take j).map bH) ?_ ?_
   ⟨H5,n4,.Ad,[],rfl,f15,by omega,g25,g5,sf5,.nil,⟨λp hp=>by cases hp⟩,rfl⟩
  ·rintro I j q hlt ⟨H6,n6,w,ps,rfl,f6,hn6,b1,b2,sf6,sw6,hps6,hpe⟩ ih
   show VY lfp G (Runs F G) k I (.ptr (n+1) 0) (.ptr (n+2) 0) vm (.int .i64 (.ofNat ms.length) 0) (.int .i64 (.ofNat j) 0) H6 n6
   delta VY
   have e16:=e1.same (H':=H6) λid hid=>f6.same id (hA id (e5 id hid))
   have hts6:=gW.mono (H':=H6) (λ_ h=>h) (λid hid=>f6.same id (hA id hid)) hts
   obtain⟨lm,hlm1,htm⟩:=hts6.at (i:=j) (List.getElem?_eq_getElem hlt)
   obtain⟨p,hpp,hld⟩:=e16.at hlm1
   have htake:=take_snoc (List.getElem?_eq_getElem hlt)
   have hmo:=hc.ms _ (List.getElem_mem hlt)
   have hpl:ps.length=j:=by have:=congrArg List.length hpe;simpa[List.length_take,Nat.min_eq_left (Nat.le_of_lt hlt)]using this
   generalize ms[j]=m at htm htake hmo
   rw[EP,AQ,decide_eq_true hlt,Ar]
   refine AB hpp (AB (Dx hld) ?_)
   refine Az rfl λH7 f7 g7=>?_
   refine DV g7 rfl htm.len (by omega) λH8 g8 s8=>?_
   have f68:Kp H6 n6 H8 (n6+1):=⟨f7.le,λid hid=>(s8 id (by omega)).trans (f7.same id hid)⟩
   have b28:=f68.get b2 (by omega)
   rw[Am,AQ]
   have q2:∀{H':Heap},T.get H' (n+2)=some (one (fcC nm sup vf' w))->AY (.ptr (n+2) (0+3)) G H'=some w:=λg=>AV (off:=0+3) g rfl
   refine AB (q2 b28) (AB (Bf (m:=8) g8 (by omega) htm.len) ?_)
   have htm8:=htm.mono (H':=H8) (λ_ h=>h) λid hid=>f68.same id (by have:=hA id hid;have:=f6.le;omega)
   refine AWq htm8 (λid hid=>by have:=hA id hid;have:=f6.le;omega) hmo.ln λH9 n9 w1 f9 sk9=>?_
   have hn9:=f9.le
   have f69:=f68.trans f9
   have b29:=f69.get b2 (by omega)
   refine AB (q2 b29) (Di sw6.ok.2.2 ?_)
   have sw9:Sk H9 5 (λid=>n+3<=id/\id<n6/\vf'.Ec≠some id) w (ps.map zy):=sw6.mono (λ_ h=>h) λid h=>f69.same id h.2.1
   refine sw9.app (bs:=72) (c:=.agg (zy (bH m,w1))) (m:=0) (λid hid=>by have:=sw9.own hid;omega) (by omega) rfl rfl (by rw[List.length_map];omega) λw' H10 hs10 same10 hsid=>?_
   have k10:∀id,id<n+3->T.get H10 id=T.get H6 id:=λid h=>(same10 id (by omega) λe=>by have:=sw9.own e;omega).trans (f69.same id (by omega))
   have vfo:∀id,vf'.Ec=some id->n+3<=id/\id<n6:=λid hid=>sf6.own hid
   have hsk10:=hs10 (λid=>n+3<=id/\id<n9+2/\vf'.Ec≠some id) ⟨by omega,by omega,λe=>by have:=vfo _ e;omega⟩
   rw[AQ]
   refine Jm (off:=0+3) (m:=1) (v:=w') ((k10 (n+2) (by omega)).trans b2) hsk10.ok.1 (by rw[hsk10.ok.2.1];rfl) (by omega) (by show 0+3+1<=4;omega) λH11 g11 s11=>?_
   rw[hsk10.ok.2.1]at g11
   rw[FB (by omega),AQ]
   refine ih _ ⟨H11,n9+2,w',ps++[(bH m,w1)],rfl,⟨by have:=f6.le;omega,λid hid=>(s11 id (by omega)).trans ((k10 id (by omega)).trans (f6.same id hid))⟩,by omega,(s11 (n+1) (by omega)).trans ((k10 (n+1) (by omega)).trans b1),g11,?_,?_,⟨λp hp=>?_⟩,?_⟩
   ·refine sf6.TV (λid hid=>by have:=vfo id hid;omega) λid hid=>?_
    have:=vfo id hid
    exact(s11 id (by omega)).trans ((same10 id (by omega) λe=>(sw9.own e).2.2 hid).trans (f69.same id this.2))
   ·rw[List.map_append]
    exact hsk10.TV (λid hid=>hsk10.own hid) λid hid=>s11 id (by have:=hsk10.own hid;omega)
   ·have w'ne:∀id,id<n9+1->w'.Ec≠some id:=λid h e=>by rw[hsid]at e;have:=Option.some.inj e;omega
    rcases List.mem_append.1 hp with hp|hp
    ·have:=(hps6.mono (H':=H11) (C:=λid=>n+3<=id/\id<n9+2/\vf'.Ec≠some id/\w'.Ec≠some id) (λid h=>⟨h.1,by omega,h.2.2.1,w'ne id (by omega)⟩) λid h=>(s11 id (by omega)).trans ((same10 id (by omega) h.2.2.2).trans (f69.same id h.2.1))).at' p hp
     exact this
    ·rw[List.mem_singleton.1 hp]
     have sk11:Sk H11 2 (λid=>n6+1<=id/\id<n9) w1 ((m.ps.map Dh.ty).map Ty.cells):=sk9.mono (λ_ h=>h) λid h=>(s11 id (by omega)).trans (same10 id (by omega) λe=>by have:=sw9.own e;omega)
     refine⟨sk11.el (by omega),λid hid=>?_,?_,?_,hmo.nm,hmo.ret⟩
     ·have:=sk11.own hid
      exact⟨by omega,by omega,λe=>by have:=vfo _ e;omega,w'ne id (by omega)⟩
     ·show(m.ps.map Dh.ty).length<=1000
      rw[List.length_map];exact hmo.ln
     ·intro t ht
      obtain⟨f,hf,rfl⟩:=List.mem_map.1 (show t∈m.ps.map Dh.ty from ht)
      exact hmo.ps f hf
   ·rw[htake,List.map_append,List.map_append,hpe];rfl
  ·rintro I q ⟨H6,n6,w,ps,rfl,f6,hn6,b1,b2,sf6,sw6,hps6,hpe⟩
   show VY lfp G (Runs F G) k I (.ptr (n+1) 0) (.ptr (n+2) 0) vm (.int .i64 (.ofNat ms.length) 0) (.int .i64 (.ofNat ms.length) 0) H6 n6
   delta VY
   rw[EP,AQ,decide_eq_false (Nat.lt_irrefl _),Aj]
   rw[List.take_of_length_le (Nat.le_refl _)]at hpe
   have hpl:ps.length=ms.length:=by have:=congrArg List.length hpe;simpa using this
   refine AUp (b:=n+1) (n0:=n) (by omega) (by omega) b1 b2 f6 sf6 sw6 hps6 hc.fs hno hlf (by omega) λH' n' v f' hv=>?_
   rw[hpe]at hv
   exact hk H' n' v f' hv
end
inductive qG(G:AX)(H:Heap)(A:Nat->Prop):DZ->List Tc->Prop where
 |nil:qG G H A [] []
 |cons {c:LV} {e:Tc} {cs:DZ} {es:List Tc} (h:AFC G H A c e) (t:qG G H A cs es):qG G H A (c::cs) (e::es)
theorem qG.mono{G:AX}{H H':Heap}{A B:Nat->Prop}(hA:∀id,A id->B id)(hs:∀id,A id->T.get H' id=T.get H id):∀{cs:DZ} {es:List Tc},qG G H A cs es->qG G H' B cs es
 |_,_,.nil=>.nil
 |_,_,.cons h t=>.cons (h.mono hA hs) (t.mono hA hs)
theorem qG.len{G:AX}{H:Heap}{A:Nat->Prop}:∀{cs:DZ} {es:List Tc},qG G H A cs es->cs.length=es.length
 |_,_,.nil=>rfl
 |_,_,.cons h t=>by simp[t.len]
theorem qG.at{G:AX}{H:Heap}{A:Nat->Prop}:∀{cs:DZ} {es:List Tc},qG G H A cs es->∀{i:Nat} {e:Tc},es[i]? =some e->∃c,cs[i]? =some c/\AFC G H A c e
 |_,_,.nil,i,e,h=>by simp at h
 |_,_,.cons h t,0,e,he=>by cases he;exact⟨_,rfl,h⟩
 |_,_,.cons h t,i+1,e,he=>by obtain⟨c,h1,h2⟩:=t.at (i:=i) he;exact⟨c,h1,h2⟩
inductive Zq(G:AX)(H:Heap)(R:Nat->Prop):DZ->List Fc->Prop where
 |nil:Zq G H R [] []
 |cons {l:LV} {c:Fc} {ls:DZ} {cs:List Fc} (h:ADS G H R (.agg l) c) (t:Zq G H R ls cs):Zq G H R (l::ls) (c::cs)
theorem Zq.mono{G:AX}{H H':Heap}{R R':Nat->Prop}(hR:∀id,R id->R' id)(hs:∀id,R id->T.get H' id=T.get H id):∀{ls:DZ} {cs:List Fc},Zq G H R ls cs->Zq G H' R' ls cs
 |_,_,.nil=>.nil
 |_,_,.cons h t=>.cons (h.mono hR hs) (t.mono hR hs)
theorem Zq.len{G:AX}{H:Heap}{R:Nat->Prop}:∀{ls:DZ} {cs:List Fc},Zq G H R ls cs->ls.length=cs.length
 |_,_,.nil=>rfl
 |_,_,.cons _ t=>by simp[t.len]
theorem Zq.at{G:AX}{H:Heap}{R:Nat->Prop}:∀{ls:DZ} {cs:List Fc},Zq G H R ls cs->∀{i:Nat} {l:LV} {c:Fc},ls[i]? =some l->cs[i]? =some c->ADS G H R (.agg l) c
 |_,_,.nil,i,l,c,_,h=>by simp at h
 |_,_,.cons h t,0,l,c,h1,h2=>by cases h1;cases h2;exact h
 |_,_,.cons h t,i+1,l,c,h1,h2=>t.at (i:=i) h1 h2
theorem Zq.snoc{G:AX}{H:Heap}{R:Nat->Prop}:∀{ls:DZ} {cs:List Fc} {l:LV} {c:Fc},Zq G H R ls cs->ADS G H R (.agg l) c->Zq G H R (ls++[l]) (cs++[c])
 |_,_,_,_,.nil,h=>.cons h .nil
 |_,_,_,_,.cons h t,h'=>.cons h (t.snoc h')
theorem Qx.cells{G:AX}{H:Heap}{n:Nat}{v:V}{c:Fc}(h:Qx G H n v c):∃vf vm,v=.agg (fcC c.nm c.sup vf vm):=by
 obtain⟨vf,vm,ws,_,e⟩:=h;exact⟨vf,vm,e⟩
section
variable{G:AX}{H:Heap}{n:Nat}{k:KV}{A:Nat->Prop}
theorem AMr{v:V}{ls:DZ}{cs:List Tc}(h:El G H v 6 ls)(hlo:Lo v n)(hts:qG G H A ls cs)(hA:∀id,A id->id<n)(hok:∀c∈cs,AEV c)(hln:cs.length<=100)
 (hk:∀H' n' t a b,Kp H n H' n'->(n<=b/\n<=a/\n<=t)->TabAt G H' n' t a b (QB (cs.map Bc))->k (.ptr t 0) H' n'):Runs F G Xz [v] H n k:=by
 refine BH (s:=mO (SV lfp G)) WB (by obtain⟨h,o⟩:=zK BI G;rw[WB]at h;cases h;exact o) ?_
 show SV lfp G (Runs F G) v H n k
 delta SV
 refine AME (by omega) λH1 f1 g1=>?_
 obtain⟨t1,g1⟩:=g1
 have hlen:=(h.kp hlo f1).len
 rw[hts.len]at hlen
 refine AB hlen ?_
 refine DF (N:=cs.length) (J:=λj q=>∃H' n' w fl,q=(w,v,.int .i64 (.ofNat cs.length) 0,.int .i64 (.ofNat j) 0,H',n')/\Kp H n H' n'/\Sk H' 4 (λid=>n<=id/\id<n') w fl/\Zq G H' (λid=>n<=id/\id<n'/\w.Ec≠some id) fl ((cs.take j).map Bc)) ?_ ?_
  ⟨H1,n+1,_,[],rfl,f1,.emp g1 ⟨Nat.le_refl _,by omega⟩,.nil⟩
 ·rintro I j q hlt ⟨H2,n2,w,fl,rfl,f2,sk,hfr⟩ ih
  show KH lfp G (Runs F G) k I w v (.int .i64 (.ofNat cs.length) 0) (.int .i64 (.ofNat j) 0) H2 n2
  delta KH
  have hn2:=f2.le
  have hts2:=qG.mono (H':=H2) (λ_ h=>h) (λid hid=>f2.same id (hA id hid)) hts
  obtain⟨l,hl,htc⟩:=hts2.at (List.getElem?_eq_getElem hlt)
  obtain⟨p,hpp,hld⟩:=(h.kp hlo f2).at hl
  have htake:=take_snoc (List.getElem?_eq_getElem hlt)
  have hco:=hok _ (List.getElem_mem hlt)
  have hfl:=hfr.len
  rw[List.length_map,List.length_take]at hfl
  generalize cs[j]=c at htc htake hco
  rw[EP,AQ,decide_eq_true hlt,Ar]
  refine AB hpp (AB (Dx hld) ?_)
  refine Az rfl λH3 f3 g3=>?_
  refine DV g3 rfl htc.len (by omega) λH4 g4 s4=>?_
  have f24:Kp H2 n2 H4 (n2+1):=⟨f3.le,λid hid=>(s4 id (by omega)).trans (f3.same id hid)⟩
  refine AB (Bf (m:=6) g4 (by omega) htc.len) ?_
  have htc4:=htc.mono (H':=H4) (λ_ h=>h) λid hid=>f24.same id (by have:=hA id hid;omega)
  refine AXq htc4 (λid hid=>by have:=hA id hid;omega) hco λH5 n5 fv f5 hfv=>?_
  have hn5:=f5.le
  have f25:=f24.trans f5
  obtain⟨vf,vm,e⟩:=(hfv H5 n5 (λ_ _=>rfl) λ_ h=>h.2).cells
  subst e
  have sk5:Sk H5 4 (λid=>n<=id/\id<n2) w fl:=sk.mono (λ_ h=>h) λid h=>f25.same id h.2
  refine sk5.app (bs:=80) (c:=.agg (fcC (Bc c).nm (Bc c).sup vf vm)) (m:=0) (λid hid=>by have:=sk5.own hid;omega) (by omega) rfl rfl (by rw[hfl];omega) λw' H6 hs6 same6 hsid=>?_
  rw[FB (by omega),AQ]
  have w'ne:∀id,id<n5+1->w'.Ec≠some id:=λid h e=>by rw[hsid]at e;have:=Option.some.inj e;omega
  refine ih _ ⟨H6,n5+2,w',_,rfl,⟨by omega,λid hid=>(same6 id (by omega) λe=>by have:=sk5.own e;omega).trans ((f25.same id (by omega)).trans (f2.same id hid))⟩,hs6 _ ⟨by omega,by omega⟩,?_⟩
  rw[htake,List.map_append]
  refine Zq.snoc (Zq.mono (λid h=>⟨h.1,by omega,w'ne id (by omega)⟩) (λid h=>(same6 id (by omega) h.2.2).trans (f25.same id h.2.1)) hfr) (hfv.mono (λid h=>⟨by omega,by omega,w'ne id (by omega)⟩) λid h=>same6 id (by omega) λe=>by have:=sk5.own e;omega)
 ·rintro I q ⟨H2,n2,w,fl,rfl,f2,sk,hfr⟩
  show KH lfp G (Runs F G) k I w v (.int .i64 (.ofNat cs.length) 0) (.int .i64 (.ofNat cs.length) 0) H2 n2
  delta KH
  rw[EP,AQ,decide_eq_false (Nat.lt_irrefl _),Aj]
  delta Tj
  rw[List.take_of_length_le (Nat.le_refl _)]at hfr
  have hfl:=hfr.len
  have hcl:(cs.map Bc).length<=1000:=by rw[List.length_map];omega
  refine AXu (m:=n2) (cs:=cs.map Bc) ⟨⟨fl,sk.el (by omega),hfl,λi L c h1 h2=>hfr.at h1 h2 H2 n2 (λ_ _=>rfl) λid h=>h.2.1⟩,λid hid=>(sk.own hid).2,hcl,Nat.le_refl _⟩ λH3 n3 t a b f3 g3 hfa hsn h1 h2 h3 h4=>?_
  have:=f2.le
  refine hk H3 n3 t a b (f2.trans f3) (by omega) ⟨h4,by omega,by omega,by omega,by omega,g3,?_,hsn⟩
  obtain⟨ps,q1,q2,q3⟩:=hfa.is
  exact⟨ps,q1,q2,λs v c x y=>(q3 s v c x y).up f3.le⟩
end
section
variable{G:AX}{H:Heap}{n:Nat}{k:KV}{A:Nat->Prop}
end
end Go.RL
