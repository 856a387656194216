/- Part of a proof; nothing is assumed. -/
import Derived.Test.YtlhlldpfafhpbaaGreatDoorConB
set_option linter.unusedVariables false
set_option linter.unusedSimpArgs false
namespace Go.RL
open Go.BN
set_option maxRecDepth 100000
inductive Te where
 |mk (kind num:Nat) (nm:St) (ty of:Ty) (own:St) (kids:List Te)
abbrev aAq:=List Te
inductive Tt where
 |mk (does:Nat) (nm:St) (ty:Ty) (es:List Te) (th el:List Tt)
abbrev aAt:=List Tt
structure Tm where
 nm:St
 st:Bool
 ps:List BU
 ret:Ty
 body:List Tt
abbrev aAz:=List Tm
structure Tc where
 nm:St
 sup:St
 fs:List BU
 ms:List Tm
def Te.kind:Te->Nat|.mk k _ _ _ _ _ _=>k
def Te.of:Te->Ty|.mk _ _ _ _ of _ _=>of
def Te.own:Te->St|.mk _ _ _ _ _ w _=>w
def KS(v:V):Prop:=Eh v v=true/\(∀id o m c e,v=.sl id o m c e->m<=c)/\∀b o m c e,v=.rsl b o m c e->m<=c
abbrev ABx(q:IntKind)(a:Int):Eh (.int q a 0) (.int q a 0)=true:=by simp[Eh,ABG,A6,Hm,PD,V.el]
abbrev xf(l c:Nat):Eh (.str l c) (.str l c)=true:=by simp[Eh,AIw,A6,V.el]
abbrev ARh(a b c d e:Nat):Eh (.sl a b c d e) (.sl a b c d e)=true:=by simp[Eh,ANR,A6,V.el]
abbrev AL4(a b c d:Nat):Eh (.Hf a b c d) (.Hf a b c d)=true:=by simp[Eh,AFt,A6,V.el]
variable{b:Nat}{d:Nat}
abbrev AA5{a c e:Nat}(h:c<=d):KS (.sl a b c d e):=⟨ARh ..,λ_ _ _ _ _ f=>(by cases f;exact h),o6⟩
abbrev ATa(a b c d:Nat):KS (.Hf a b c d):=⟨AL4 ..,λ_ _ _ _ _ h=>(by cases h),o6⟩
abbrev ACX:KS .AT:=⟨rfl,λ_ _ _ _ _ h=>(by cases h),o6⟩
abbrev vsL:∀L:LV,(∀v∈L,Eh v v=true)->oY L L=true
 |[],_=>rfl
 |v::L,h=>by show band (Eh v v) (oY L L)=true;rw[h v (u_ ..),vsL L λw hw=>h w (c_ _ hw)];rfl
variable{L:LV}
abbrev AGr(h:∀v∈L,Eh v v=true):Ak (.agg L) (.agg L)=true:=vsL L h
def Mb(kind num:Nat)(nm:St)(ty of:Ty)(own:St)(line col:Nat)(v:V):LV:=
 [iN kind,iN line,iN col,iN num,nm.v,ty.nm.v,.bool ty.arr,v,of.nm.v,.bool of.arr,own.v]
mutual
inductive C3(G:AQ)(H:Heap)(A:Nat->Prop):LV->Te->Prop where
 |mk (kind num:Nat) (nm:St) (ty of:Ty) (own:St) (line col:Nat) {v:V} {cs:Bh} {kids:List Te} (he:El G H v 11 cs) (hv:KS v) (ha:∀id,v.CD=some id->A id) (hc:DV G H A cs kids):
  C3 G H A (Mb kind num nm ty of own line col v) (.mk kind num nm ty of own kids)
inductive DV(G:AQ)(H:Heap)(A:Nat->Prop):Bh->List Te->Prop where
 |nil:DV G H A [] []
 |cons {c:LV} {e:Te} {cs:Bh} {es:List Te} (h:C3 G H A c e) (t:DV G H A cs es):DV G H A (c::cs) (e::es)
end
mutual
theorem C3.mono{G:AQ}{H H':Heap}{A B:Nat->Prop}(hA:∀id,A id->B id)(hs:∀id,A id->T.get H' id=T.get H id):∀{c:LV} {e:Te},C3 G H A c e->C3 G H' B c e
 |_,_,.mk kind num nm ty of own line col he hv ha hc=>.mk kind num nm ty of own line col (he.same λid hid=>hs id (ha id hid)) hv (λid hid=>hA id (ha id hid)) (DV.mono hA hs hc)
theorem DV.mono{G:AQ}{H H':Heap}{A B:Nat->Prop}(hA:∀id,A id->B id)(hs:∀id,A id->T.get H' id=T.get H id):∀{cs:Bh} {es:aAq},DV G H A cs es->DV G H' B cs es
 |_,_,.nil=>.nil
 |_,_,.cons h t=>.cons (C3.mono hA hs h) (DV.mono hA hs t)
end
variable{G:AQ}{H:Heap}{A:Nat->Prop}
abbrev DV.app:∀{cs:Bh} {es:aAq} {d:Bh} {f:aAq},DV G H A cs es->DV G H A d f->DV G H A (cs++d) (es++f)
 |_,_,_,_,.nil,h=>h
 |_,_,_,_,.cons h t,g=>.cons h (t.app g)
abbrev DV.len:∀{cs:Bh} {es:aAq},DV G H A cs es->cs.length=es.length
 |_,_,.nil=>rfl
 |_,_,.cons h t=>by simp[t.len]
abbrev DV.at:∀{cs:Bh} {es:aAq},DV G H A cs es->∀{i:Nat} {e:Te},es[i]? =some e->∃c,cs[i]? =some c/\C3 G H A c e
 |_,_,.nil,i,e,h=>by simp at h
 |_,_,.cons h t,0,e,d=>by cases d;exact⟨_,rfl,h⟩
 |_,_,.cons h t,i+1,e,d=>by have⟨c,f,g⟩:=t.at (i:=i) d;exact⟨c,f,g⟩
section
variable{G:AQ}{H:Heap}{A:Nat->Prop}{c:LV}{e:Te}
abbrev C3.len(h:C3 G H A c e):c.length=11:=by cases h;rfl
end
def Kt(G:AQ)(H:Heap)(A:Nat->Prop)(v:V)(es:aAq):Prop:=∃cs,El G H v 11 cs/\KS v/\Rb v=true/\At v=[v]/\(∀id,v.CD=some id->A id)/\DV G H A cs es
variable{H':Heap}{B:Nat->Prop}{v:V}{es:List Te}
abbrev Kt.mono{es:aAq}(h:Kt G H A v es)(f:∀id,A id->B id)(g:∀id,A id->T.get H' id=T.get H id):Kt G H' B v es:=by have⟨k,m,p,q,u,i,w⟩:=h;exact⟨k,m.same λid d=>g id (i id d),p,q,u,λid d=>f id (i id d),w.mono f g⟩
abbrev Kt.nil:Kt G H A .AT []:=⟨[],uG,ACX,rfl,rfl,(λ_ h=>by cases h),.nil⟩
variable{nm:St}{ty:Ty}
abbrev C3.of{kind num:Nat}{of:Ty}{own:St}{f:Nat}{kids:aAq}(h:Kt G H A v kids):C3 G H A (Mb kind num nm ty of own d f v) (.mk kind num nm ty of own kids):=by have⟨p,g,i,_,_,k,m⟩:=h;exact .mk kind num nm ty of own d f g i k m
def SB(does:Nat)(line col:Nat)(nm:St)(ty:Ty)(ve vt vl:V):LV:=
 [iN does,iN line,iN col,nm.v,ty.nm.v,.bool ty.arr,ve,vt,vl]
mutual
inductive Vy(G:AQ)(H:Heap)(A:Nat->Prop):LV->Tt->Prop where
 |mk (does:Nat) (nm:St) (ty:Ty) (line col:Nat) {ve vt vl:V} {es:List Te} {th el:List Tt} {ct cl:Bh} (he:Kt G H A ve es) (ht:El G H vt 9 ct) (kt:KS vt) (at':∀id,vt.CD=some id->A id) (st:FQ G H A ct th)
  (hl:El G H vl 9 cl) (kl:KS vl) (al:∀id,vl.CD=some id->A id) (sl:FQ G H A cl el):Vy G H A (SB does line col nm ty ve vt vl) (.mk does nm ty es th el)
inductive FQ(G:AQ)(H:Heap)(A:Nat->Prop):Bh->List Tt->Prop where
 |nil:FQ G H A [] []
 |cons {c:LV} {e:Tt} {cs:Bh} {es:List Tt} (h:Vy G H A c e) (t:FQ G H A cs es):FQ G H A (c::cs) (e::es)
end
mutual
theorem Vy.mono{G:AQ}{H H':Heap}{A B:Nat->Prop}(hA:∀id,A id->B id)(hs:∀id,A id->T.get H' id=T.get H id):∀{c:LV} {e:Tt},Vy G H A c e->Vy G H' B c e
 |_,_,.mk does nm ty line col he ht kt a1 st hl kl a2 sl=>.mk does nm ty line col (he.mono hA hs) (ht.same λid hid=>hs id (a1 id hid)) kt (λid hid=>hA id (a1 id hid)) (FQ.mono hA hs st)
  (hl.same λid hid=>hs id (a2 id hid)) kl (λid hid=>hA id (a2 id hid)) (FQ.mono hA hs sl)
theorem FQ.mono{G:AQ}{H H':Heap}{A B:Nat->Prop}(hA:∀id,A id->B id)(hs:∀id,A id->T.get H' id=T.get H id):∀{cs:Bh} {es:aAt},FQ G H A cs es->FQ G H' B cs es
 |_,_,.nil=>.nil
 |_,_,.cons h t=>.cons (Vy.mono hA hs h) (FQ.mono hA hs t)
end
abbrev FQ.app:∀{cs:Bh} {es:aAt} {d:Bh} {f:aAt},FQ G H A cs es->FQ G H A d f->FQ G H A (cs++d) (es++f)
 |_,_,_,_,.nil,h=>h
 |_,_,_,_,.cons h t,g=>.cons h (t.app g)
abbrev FQ.len:∀{cs:Bh} {es:aAt},FQ G H A cs es->cs.length=es.length
 |_,_,.nil=>rfl
 |_,_,.cons h t=>by simp[t.len]
abbrev FQ.at:∀{cs:Bh} {es:aAt},FQ G H A cs es->∀{i:Nat} {e:Tt},es[i]? =some e->∃c,cs[i]? =some c/\Vy G H A c e
 |_,_,.nil,i,e,h=>by simp at h
 |_,_,.cons h t,0,e,d=>by cases d;exact⟨_,rfl,h⟩
 |_,_,.cons h t,i+1,e,d=>by have⟨c,f,g⟩:=t.at (i:=i) d;exact⟨c,f,g⟩
variable{c:LV}
abbrev Vy.len{e:Tt}(h:Vy G H A c e):c.length=9:=by cases h;rfl
def UH(G:AQ)(H:Heap)(A:Nat->Prop)(v:V)(sts:aAt):Prop:=∃cs,El G H v 9 cs/\KS v/\Rb v=true/\At v=[v]/\(∀id,v.CD=some id->A id)/\FQ G H A cs sts
abbrev UH.mono{es:aAt}(h:UH G H A v es)(f:∀id,A id->B id)(g:∀id,A id->T.get H' id=T.get H id):UH G H' B v es:=by have⟨k,m,p,q,u,i,w⟩:=h;exact⟨k,m.same λid d=>g id (i id d),p,q,u,λid d=>f id (i id d),w.mono f g⟩
abbrev UH.nil:UH G H A .AT []:=⟨[],uG,ACX,rfl,rfl,(λ_ h=>by cases h),.nil⟩
variable{th:List Tt}
abbrev Vy.of{f g:Nat}{i k m:V}{es:aAq}{th el:aAt}(p:Kt G H A i es)(q:UH G H A k th)(u:UH G H A m el):Vy G H A (SB d f g nm ty i k m) (.mk d nm ty es th el):=by have⟨F,v,w,_,_,x,y⟩:=q;have⟨I,B,C,_,_,D,E⟩:=u;exact .mk d nm ty f g p v w x y B C D E
def RR(x:BU):LV:=[x.nm.v,x.ty.nm.v,.bool x.ty.arr]
def AF7(G:AQ)(H:Heap)(A:Nat->Prop)(v:V)(xs:aAm):Prop:=El G H v 3 (xs.map RR)/\KS v/\Rb v=true/\At v=[v]/\(∀id,v.CD=some id->A id)
abbrev AF7.mono{xs:aAm}(h:AF7 G H A v xs)(f:∀id,A id->B id)(g:∀id,A id->T.get H' id=T.get H id):AF7 G H' B v xs:=
 ⟨h.1.same λid d=>g id (h.2.2.2.2 id d),h.2.1,h.2.2.1,h.2.2.2.1,λid d=>f id (h.2.2.2.2 id d)⟩
def xW(line col:Nat)(nm:St)(st:Bool)(vp:V)(ty:Ty)(vb:V):LV:=[iN line,iN col,nm.v,.bool st,vp,ty.nm.v,.bool ty.arr,vb]
inductive lQ(G:AQ)(H:Heap)(A:Nat->Prop):LV->Tm->Prop where
 |mk (line col:Nat) {nm:St} {st:Bool} {ty:Ty} {ps:List BU} {bd:List Tt} {vp vb:V} (hp:AF7 G H A vp ps) (hb:UH G H A vb bd):lQ G H A (xW line col nm st vp ty vb) ⟨nm,st,ps,ty,bd⟩
abbrev lQ.mono{m:Tm}(g:∀id,A id->B id)(i:∀id,A id->T.get H' id=T.get H id)(h:lQ G H A c m):lQ G H' B c m:=by
 cases h with
 |mk d f k p=>exact .mk d f (k.mono g i) (p.mono g i)
abbrev lQ.len{m:Tm}(h:lQ G H A c m):c.length=8:=by cases h;rfl
inductive JW(G:AQ)(H:Heap)(A:Nat->Prop):Bh->List Tm->Prop where
 |nil:JW G H A [] []
 |cons {c:LV} {e:Tm} {cs:Bh} {es:List Tm} (h:lQ G H A c e) (t:JW G H A cs es):JW G H A (c::cs) (e::es)
abbrev JW.mono(d:∀id,A id->B id)(f:∀id,A id->T.get H' id=T.get H id):∀{cs:Bh} {es:aAz},JW G H A cs es->JW G H' B cs es
 |_,_,.nil=>.nil
 |_,_,.cons h t=>.cons (h.mono d f) (t.mono d f)
abbrev JW.app:∀{cs:Bh} {es:aAz} {d:Bh} {f:aAz},JW G H A cs es->JW G H A d f->JW G H A (cs++d) (es++f)
 |_,_,_,_,.nil,h=>h
 |_,_,_,_,.cons h t,g=>.cons h (t.app g)
abbrev JW.len:∀{cs:Bh} {es:aAz},JW G H A cs es->cs.length=es.length
 |_,_,.nil=>rfl
 |_,_,.cons h t=>by simp[t.len]
abbrev JW.at:∀{cs:Bh} {es:aAz},JW G H A cs es->∀{i:Nat} {e:Tm},es[i]? =some e->∃c,cs[i]? =some c/\lQ G H A c e
 |_,_,.nil,i,e,h=>by simp at h
 |_,_,.cons h t,0,e,d=>by cases d;exact⟨_,rfl,h⟩
 |_,_,.cons h t,i+1,e,d=>by have⟨c,f,g⟩:=t.at (i:=i) d;exact⟨c,f,g⟩
def APX(G:AQ)(H:Heap)(A:Nat->Prop)(v:V)(ms:aAz):Prop:=∃cs,El G H v 8 cs/\KS v/\Rb v=true/\At v=[v]/\(∀id,v.CD=some id->A id)/\JW G H A cs ms
abbrev APX.mono{es:aAz}(h:APX G H A v es)(f:∀id,A id->B id)(g:∀id,A id->T.get H' id=T.get H id):APX G H' B v es:=by have⟨k,m,p,q,u,i,w⟩:=h;exact⟨k,m.same λid d=>g id (i id d),p,q,u,λid d=>f id (i id d),w.mono f g⟩
def bm(line col:Nat)(nm sup:St)(vf vm:V):LV:=[iN line,iN col,nm.v,sup.v,vf,vm]
inductive WP(G:AQ)(H:Heap)(A:Nat->Prop):LV->Tc->Prop where
 |mk (line col:Nat) {nm sup:St} {fs:List BU} {ms:List Tm} {vf vm:V} (hf:AF7 G H A vf fs) (hm:APX G H A vm ms):WP G H A (bm line col nm sup vf vm) ⟨nm,sup,fs,ms⟩
abbrev WP.mono{m:Tc}(g:∀id,A id->B id)(i:∀id,A id->T.get H' id=T.get H id)(h:WP G H A c m):WP G H' B c m:=by
 cases h with
 |mk d f k p=>exact .mk d f (k.mono g i) (p.mono g i)
abbrev WP.len{m:Tc}(h:WP G H A c m):c.length=6:=by cases h;rfl
abbrev ANL(q:IntKind)(a b:Nat):B2.ev .leq (.int q (.ofNat a) 0) (.int q (.ofNat b) 0)=some (.bool (decide (a<=b))):=by show Az (band (keq q q) true) (R9 (dh (.ofNat a) (.ofNat b)))=_;rw[NA,iI,show band (keq q q) true=true by simp[Hm],show decide (Int.ofNat a<=Int.ofNat b)=decide (a<=b)by rw[_s];show(a:Int)<=b↔_;omega];rfl
abbrev cM(q:IntKind)(a b:Nat):B2.ev .gtr (.int q (.ofNat a) 0) (.int q (.ofNat b) 0)=some (.bool (decide (b<a))):=by show Az (band (keq q q) true) (R9 (UG (.ofNat b) (.ofNat a)))=_;rw[NA,Sm,show band (keq q q) true=true by simp[Hm],show decide (Int.ofNat b<Int.ofNat a)=decide (b<a)by rw[_s];show(b:Int)<a↔_;omega];rfl
abbrev AMy(q:IntKind)(x y:Int):BM (.one .int) false (.int q x 0) (.int q y 0)=some (.bool (decide (x=y))):=by
 have e:BM (.one .int) false (.int q x 0) (.int q y 0)=Ux (K8 (some (ieq x y)) λb=>some b):=by cases q<;>rfl
 rw[e,PD,show(x==y)=decide (x=y)by rw[zc];simp];cases decide (x=y)<;>rfl
abbrev AGf(q:IntKind)(x y:Int):BM (.one .int) true (.int q x 0) (.int q y 0)=some (.bool (!decide (x=y))):=by
 have e:BM (.one .int) true (.int q x 0) (.int q y 0)=Ux (K8 (some (ieq x y)) λb=>some (Lf b)):=by cases q<;>rfl
 rw[e,PD,show(x==y)=decide (x=y)by rw[zc];simp];cases decide (x=y)<;>rfl
abbrev A9(q:IntKind)(x y:Nat):BM (.one .int) false (.int q (.ofNat x) 0) (.int q (.ofNat y) 0)=some (.bool (decide (x=y))):=by rw[AMy];congr 2;rw[_s];show(x:Int)=y↔_;omega
abbrev zN(q:IntKind)(x y:Nat):BM (.one .int) true (.int q (.ofNat x) 0) (.int q (.ofNat y) 0)=some (.bool (!decide (x=y))):=by rw[AGf];congr 3;rw[_s];show(x:Int)=y↔_;omega
abbrev zF{a:Nat}(d:b<=a)(h:a<9223372036854775808):B2.ev .sub (iN a) (iN b)=some (iN (a-b)):=by
 show some (V.int .i64 (V9 .i64 (wh (.ofNat a) (Int.neg (.ofNat b)))) 0)=_;rw[NB,cr];have e:Int.ofNat a+Int.neg (Int.ofNat b)=Int.ofNat (a-b):=by show(a:Int)+ -(b:Int)=((a-b:Nat):Int);omega
 rw[e,NX (by show(-9223372036854775808:Int)<=((a-b:Nat):Int);omega) (by show((a-b:Nat):Int)<9223372036854775808;omega)]
abbrev ADl(q:IntKind)(a b:Nat):B2.ev .lss (.int q (.ofNat a) 0) (.int q (.ofNat b) 0)=some (.bool (decide (a<b))):=by show Az (band (keq q q) true) (R9 (UG (.ofNat a) (.ofNat b)))=_;rw[NA,Sm,show band (keq q q) true=true by simp[Hm],show decide (Int.ofNat a<Int.ofNat b)=decide (a<b)by rw[_s];show(a:Int)<b↔_;omega];rfl
def ACT:Nat->aAo->List (Nat×X)
 |_,[]=>[]
 |i,v::vs=>(i,.c v)::ACT (i+1) vs
variable{z:Nat}{m:Nat}
abbrev yV:∀(vs:aAo) (i:Nat),i+vs.length<=m->(∀v∈vs,Rb v=true/\(At v).length=z)->VC (ACT i vs) E0 z m=true
 |[],_,_,_=>rfl
 |v::vs,i,h,d=>by show band (band (Rb v) (band (Nat.blt i m) (Nat.beq (len (At v)) z))) (VC (ACT (i+1) vs) E0 z m)=true;have⟨f,g⟩:=d v (u_ ..);rw[f,len_eq,g,show Nat.blt i m=true by rw[xi];simp at h;omega,Bq,yV vs (i+1) (by simp at h;omega) λw hw=>d w (c_ _ hw)];rfl
abbrev ABF:∀(vs:aAo) (i:Nat) (t:T LV) (j:Nat),T.get (bR (ACT i vs) E0 t) j=if i<=j/\j<i+vs.length then(vs[j-i]?).map At else T.get t j
 |[],i,t,j=>by rw[g_ o6];rfl
 |v::vs,i,t,j=>by
  show T.get (bR (ACT (i+1) vs) E0 (T.set t i (At v))) j=_;rw[ABF vs (i+1)];by_cases d:i+1<=j/\j<i+1+vs.length
  .rw[hD d,hD (by rw[j'];omega)];rw[show j-i=(j-(i+1))+1 by omega,_G]
  .rw[g_ d,T.Mt];by_cases f:i=j
   .subst f;rw[hD o6];simp
   .rw[g_ f,g_ (by rw[j'];omega)]
variable{Z:LV}{n:Nat}{P:KV}
abbrev M1{vs:aAo}(g:vs.length=m)(k:0<z)(p:∀v∈vs,Rb v=true/\(At v).length=z)
 (h:∀H',Kp H n H' (n+1)->(∃t,T.get H' n=some (.arr z m t))->El G H' (.sl n 0 m m z) z (vs.map At)->P (.sl n 0 m m z) H' (n+1)):Au (AY z m Z (ACT 0 vs) E0) H n P:=by
 show B7 (VC (ACT 0 vs) E0 z m) (CS n λn=>P (.sl n 0 m m z) (T.set H n (.arr z m (bR (ACT 0 vs) E0 (qe Z m .e)))) (Nat.succ n));rw[yV vs 0 a6 p,YF,A8];refine h _ ((Kp.refl H n).new _ o_ a6) ⟨_,T.B4 ..⟩ ⟨rfl,?_⟩;show(Bool.rec (motive:=λ_=>aAs) none (BP _ n z m 0) (Nat.beq z z):aAs)=_;rw[Bq];refine Pu _ _ _ (by simp[g]) λi c f=>?_;have d:i<m:=by have:=(us.1 f).1;simp at this;omega
 rw[t_,AaP (T.B4 ..) k d,ABF,hD ⟨a6,a6⟩,aAd];simpa using f
variable{id:Nat}{o:Nat}{LS:Bh}
abbrev ATI(h:BP H id z m o=some LS):El G H (.Hf id o m z) z LS:=by refine⟨rfl,?_⟩;show(Bool.rec (motive:=λ_=>aAs) none (BP H id z m o) (Nat.beq z z):aAs)=some LS;rw[Bq];exact h
variable{i:Nat}
abbrev APg{e c:Nat}{t:T LV}{new:LV}(f:T.get H id=some (.arr e c t))(g:0<e)(hi:i<c)(k:T.get t i=some L):cJ H id (i*e) e new=some (T.set H id (.arr e c (T.set t i new))):=by unfold cJ;rw[f];show BB (stB e c t (i*e) e new) _=_;unfold stB;have d:Nat.div (i*e) e=i:=V_ i g;have m:Nat.mod (i*e) e=0:=aAa i e;rw[d,show Nat.blt i c=true by rw[xi];exact hi];show BB (BB (T.get t i) (gE new e c t (i*e) e)) _=_;rw[k,Kl];unfold gE;rw[d,m,Bq];rfl
abbrev AIs{e c:Nat}{t:T LV}(d:T.get H id=some (.arr e c t))(f:0<e)(hi:i<c)(g:T.get t i=some L)(k:Rb v=true)(m:(At v).length=e)
 (h:∀H',T.get H' id=some (.arr e c (T.set t i (At v)))->(∀j,j≠id->T.get H' j=T.get H j)->P .undef H' n):A1 e (.ptr id (i*e)) v H n P:=by unfold A1;rw[k,len_eq,m,Bq,show stP (.ptr id (i*e)) H e (At v)=cJ H id (i*e) e (At v)from rfl,APg d f hi g];exact h _ (T.B4 ..) λj p=>T.Ac _ _ (C_ p)
variable{q:IntKind}
abbrev AMU(h:i<m):Ai z (.Hf id o m z) (.int q (.ofNat i) 0)=some (.ptr id ((o+i)*z)):=by show Az (band (Nat.beq z z) (Nat.blt i m)) (CC (Nat.mul (Nat.add o i) z) λo=>some (.ptr id o))=_;rw[Bq,show Nat.blt i m=true by rw[xi];exact h,BF];rfl
variable{bs:Nat}{w:V}{k:KV}
abbrev jc{d:Bh}(h:Gr G H m z v LS)(y:m<=n)(J:∀id,v.CD=some id->id<n)(hw:elems w G H z=some d)
 (A:(LS.length+d.length)*bs<=140737488355328)
 (B:∀u H',Gr G H' m z u (LS++d)->(∀id,id<n->v.CD≠some id->T.get H' id=T.get H id)->(∀id,u.CD=some id->id=n)->k u H' (n+1))
 (p:d=[]->k v H n):Ey z bs v w G H n k:=by
 unfold Ey;rw[hw,SG];cases h with
 |nil=>
  cases d with
  |nil=>exact p rfl
  |cons a d=>
   show GR z bs [] (a::d) H n k;unfold GR;rw[A8,A8,len_eq,len_eq,show KZ (Nat.add ([]:Bh).length (a::d).length) bs=true from So A,YF];have e:Nat.add ([]:Bh).length (a::d).length=(a::d).length:=t_ _;rw[e];refine B _ _ ?_ (λid g _=>T.Ac _ _ a6) (λid g=>by cases g;rfl);refine .Hf (LS:=a::d) (T.B4 ..) o_ (λi L f=>?_) y;show T.get (Dk (a::d) 0 .e) i=some L;have q:=(us.1 f).1;rw[DD,hD ⟨j_ _,a6⟩];exact f
 |Hf E F I g=>
  rename_i id c t;show B7 (Nat.beq z z) _;rw[Bq,YF];cases d with
  |nil=>exact p rfl
  |cons a d=>
   show CR (T.get H id) (λb=>X2 id 0 LS.length z bs (a::d) H n k b);rw[E,SG];rw[AFf (So A) F,show LS.length+(a::d).length=(LS++a::d).length by rw[uk]];refine B _ _ ?_ (λj C x=>?_) (λj C=>by cases C;rfl)
   .refine .Hf (LS:=LS++a::d) (T.B4 ..) o_ (λi L f=>?_) y;rw[DD];by_cases q:i<LS.length
    .rw[g_ a6];rw[qi q]at f;exact I i L f
    .rw[i_ a6]at f;have D:=(us.1 f).1;rw[hD ⟨a6,a6⟩];exact f
   .rw[T.Ac _ _ a6,T.Ac _ _ (by intro e;subst e;exact x rfl)]
variable{e:Option V}
abbrev AB{e:aAl}{P:V->Prop}(h:e=some v)(d:P v):AD e P:=by rw[h];exact d
abbrev Ba{P:Prop}(h:Ak v v=true)(d:P):B7 (Ak v v) P:=by rw[h];exact d
abbrev AWr{e:aAl}{a:V}{P:Prop}(h:e=some a)(d:Ak a a=true)(f:P):qf (.bool true) true e a P:=by subst h;show B7 (Ak a a) P;rw[d];exact f
abbrev AOP{e:aAl}{a:V}{P:Prop}(h:e=some a)(d:Ak a a=true)(f:P):qf (.bool false) false e a P:=by subst h;show B7 (Ak a a) P;rw[d];exact f
abbrev MT{e:aAl}{a:V}{P:V->Prop}(h:e=some a)(d:P a):Ax (.bool true) true e P:=by rw[AQ6];exact AB h d
abbrev S9{e:aAl}{a:V}{P:V->Prop}(h:e=some a)(d:P a):Ax (.bool false) false e P:=by rw[AQx];exact AB h d
variable{Q:KV}
abbrev wi{t:KV->Prop}(d:t Q):Et (.bool true) true t H n Q:=d
abbrev AFl{t:KV->Prop}(d:t Q):Et (.bool false) false t H n Q:=d
abbrev BX{L0:LV}(g:T.get H b=some (one L0))(d:L0.length=m)(f:L.length=m)(i:0<m)(h:∀H',T.get H' b=some (one L)->(∀j,j≠b->T.get H' j=T.get H j)->P .undef H' n):
 A1 m (.ptr b 0) (.agg L) H n P:=by rw[MG g i d f];exact h _ (T.B4 ..) λj k=>T.Ac _ _ (C_ k)
abbrev AWK(a b c d e:Nat):Ak (.sl a b c d e) (.sl a b c d e)=true:=by show Eh (.sl a b c d e) (.sl a b c d e)=true;simp[Eh,ANR,A6,V.el]
abbrev ARZ(a b c d:Nat):Ak (.Hf a b c d) (.Hf a b c d)=true:=by show Eh (.Hf a b c d) (.Hf a b c d)=true;simp[Eh,AFt,A6,V.el]
abbrev ww{t:T LV}{a:LV}{d:Bh}(A:0<z)(hw:elems w G H z=some (a::d))(u:(a::d).length*bs<=140737488355328)
 (v:∀p H',Gr G H' 0 z p (a::d)->(∀j,j<n->T.get H' j=T.get H j)->(∀i,p.CD=some i->i=n)->k p H' (n+1)):Ey z bs (.sl id 0 0 0 z) w G H n k:=by
 unfold Ey;rw[hw,SG];have x:AAb (.sl id 0 0 0 z) G z bs (a::d) H n k=Bool.rec (motive:=λ_=>Prop) (CR (BP H id z 0 0) λg=>GR z bs g (a::d) H n k) (CR (T.get H id) λb=>aD id 0 0 0 z (0+(a::d).length) (a::d) H n k b) (Nat.ble (0+(a::d).length) 0):=by show B7 (Nat.beq z z) (CS (Nat.add 0 (len (a::d))) λf=>Bool.rec (motive:=λ_=>Prop) (CR (BP H id z 0 0) λg=>GR z bs g (a::d) H n k) (CR (T.get H id) λb=>aD id 0 0 0 z f (a::d) H n k b) (Nat.ble f 0))=_;rw[Bq,YF,A8,len_eq];rfl
 rw[x,show Nat.ble (0+(a::d).length) 0=false by rw[_q];intro q;rw[_e]at q;simp at q];show CR (some []) (λg=>GR z bs g (a::d) H n k);rw[SG];unfold GR;rw[A8,A8,len_eq,len_eq,show KZ (Nat.add ([]:Bh).length (a::d).length) bs=true from So (by rw[show Nat.add ([]:Bh).length (a::d).length=(a::d).length from t_ _];exact u),YF];have e:Nat.add ([]:Bh).length (a::d).length=(a::d).length:=t_ _;rw[e];refine v _ _ ?_ (λj B=>T.Ac _ _ a6) (λi m=>by cases m;rfl);refine .Hf (LS:=a::d) (T.B4 ..) o_ (λi L m=>?_) (j_ _);show T.get (Dk (a::d) 0 .e) i=some L;have y:=(us.1 m).1;rw[DD,hD ⟨j_ _,a6⟩];exact m
inductive Sk(H:Heap)(z:Nat)(A:Nat->Prop):V->Bh->Prop where
 |nil:Sk H z A .AT []
 |emp {id:Nat} {t:T LV} (hg:T.get H id=some (.arr z 0 t)) (ha:A id):Sk H z A (.sl id 0 0 0 z) []
 |Hf {id c:Nat} {t:T LV} {LS:Bh} (hg:T.get H id=some (.arr z c t)) (hc:LS.length<=c) (ht:∀i L,LS[i]? =some L->T.get t i=some L) (ha:A id):Sk H z A (.Hf id 0 LS.length z) LS
section
variable{G:AQ}{H H':Heap}{z n:Nat}{A B:Nat->Prop}{v:V}{LS:Bh}
abbrev Sk.own(h:Sk H z A v LS)(d:v.CD=some id):A id:=by cases h<;>cases d<;>assumption
abbrev Sk.mono(h:Sk H z A v LS)(g:∀id,A id->B id)(i:∀id,A id->T.get H' id=T.get H id):Sk H' z B v LS:=by
 cases h with
 |nil=>exact .nil
 |emp f d=>exact .emp ((i _ d).trans f) (g _ d)
 |Hf f k m d=>exact .Hf ((i _ d).trans f) k m (g _ d)
abbrev Sk.JO(h:Sk H z A v LS)(f:∀id,v.CD=some id->B id)(g:∀id,v.CD=some id->T.get H' id=T.get H id):Sk H' z B v LS:=by
 cases h with
 |nil=>exact .nil
 |emp d i=>exact .emp ((g _ rfl).trans d) (f _ rfl)
 |Hf d k m i=>exact .Hf ((g _ rfl).trans d) k m (f _ rfl)
abbrev Sk.el(h:Sk H z A v LS)(g:0<z):El G H v z LS:=by
 cases h with
 |nil=>exact⟨rfl,rfl⟩
 |emp d k=>
  refine⟨rfl,?_⟩;show(Bool.rec (motive:=λ_=>aAs) none (BP H _ z 0 0) (Nat.beq z z):aAs)=some [];rw[Bq];rfl
 |Hf d q m k=>exact ATI (Pu _ _ _ rfl λi c f=>by have p:=(us.1 f).1;rw[t_,AaP d g a6];exact m i c f)
abbrev Sk.ok(h:Sk H z A v LS):Rb v=true/\At v=[v]/\Ak v v=true:=by
 cases h with
 |nil=>exact⟨rfl,rfl,rfl⟩
 |emp=>exact⟨rfl,rfl,AWK ..⟩
 |Hf=>exact⟨rfl,rfl,ARZ ..⟩
abbrev Sk.put(h:Sk H z A v LS)(m:0<z)(hi:i<LS.length)(hw:Rb w=true)(u:(At w).length=z)
 (x:∀H',Sk H' z A v (LS.set i (At w))->(∀j,v.CD≠some j->T.get H' j=T.get H j)->P .undef H' n):AD (Ai z v (.int q (.ofNat i) 0)) λp=>A1 z p w H n P:=by
 cases h with
 |nil=>simp at hi
 |emp=>simp at hi
 |Hf y B f C=>
  rename_i D c t;refine AB (AMU hi) ?_;rw[t_];refine AIs y m a6 (f i _ (eb hi)) hw u λH' g s=>?_;refine x H' ?_ λj d=>s j λe=>d (by rw[e];rfl);have k:(LS.set i (At w)).length=LS.length:=o6;rw[<-k];refine .Hf g (by rw[k];exact B) (λj L d=>?_) C;by_cases e:i=j
  .subst e;rw[e9 hi]at d;rw[T.B4];exact d
  .rw[D_ e]at d;rw[T.Ac _ _ e];exact f j L d
abbrev Sk.app{m:Nat}{c:V}(h:Sk H z A v LS)(L:∀id,v.CD=some id->id<n)(M:0<z)(D:Rb c=true)(E:(At c).length=z)(F:(LS.length+1)*bs<=140737488355328)
 (I:∀v' H',(∀B:Nat->Prop,B (n+1)->Sk H' z B v' (LS++[At c]))->(∀id,id<n->v.CD≠some id->T.get H' id=T.get H id)->v'.CD=some (n+1)->P v' H' (n+2)):
 Au (AY z 1 Z [(0,.c c)] E0) H n λw H n=>Ey z bs v w G H n P:=by
 refine M1 (G:=G) (vs:=[c]) rfl M (λv N=>by simp at N;subst N;exact⟨D,E⟩) λO x _ k=>?_;have p:∀{v':V} {i:Heap},Gr G i 0 z v' (LS++[At c])->(∀id,v'.CD=some id->id=n+1)->v'.CD=some (n+1)/\∀B:Nat->Prop,B (n+1)->Sk i z B v' (LS++[At c]):=by
  intro v' i f g;generalize hX:LS++[At c]=X at f;cases f with
  |nil=>simp at hX
  |Hf y E J q=>
   have e:=g _ rfl;subst e;exact⟨rfl,λB Q=>.Hf y E J Q⟩
 cases h with
 |nil=>
  refine jc (m:=0) .nil a6 (λ_ h=>by cases h) k.2 F ?_ (λh=>by cases h);intro v' i f d g;have⟨q1,q2⟩:=p (v':=v') f g;exact I v' i q2 (λid u C=>(d id a6 C).trans (x.same id u)) q1
 |emp y R=>
  rename_i id t;have q:=L id rfl;refine ww (t:=t) M k.2 (by simpa using F) ?_;intro v' i f d g;have⟨q1,q2⟩:=p (v':=v') f g;exact I v' i q2 (λid u C=>(d id a6).trans (x.same id u)) q1
 |Hf y K J R=>
  rename_i id S t;have q:=L id rfl;have f:Gr G O 0 z (.Hf id 0 LS.length z) LS:=.Hf ((x.same id q).trans y) K J (j_ _);refine jc (m:=0) f a6 (λj h=>by cases h;omega) k.2 F ?_ (λh=>by cases h);intro v' i f d g;have⟨q1,q2⟩:=p (v':=v') f g;exact I v' i q2 (λid u C=>(d id a6 C).trans (x.same id u)) q1
end
abbrev Ty.jF{a b:Ty}:a.is b=true↔a=b:=by
 cases a with
 |mk n r=>
 cases b with
 |mk m s=>
 simp only[Ty.is,ez,_v,_T,Ty.mk.injEq];constructor
 .rintro⟨⟨d,f⟩,g⟩;exact⟨L_ d f,g⟩
 .rintro⟨rfl,rfl⟩;exact⟨⟨rfl,rfl⟩,rfl⟩
abbrev Ty.VF(a:Ty):a.is a=true:=Ty.jF.2 rfl
def BY:Ty:=⟨(3,7630441),false⟩
def A3:Ty:=⟨(4,1819242338),false⟩
def Ec:Ty:=⟨(4,1819047278),false⟩
def Ty.cls(t:Ty):Bool:=isClass t.nm.1 t.nm.2 t.arr
def Ty.obj(t:Ty):Bool:=t.arr||(t.cls||t.is Ec)
def yg(fs:Tab)(a b:St):Bool:=iP b (above fs a).1
def fitsT(fs:Tab)(a b:Ty):Bool:=bif a.is b then true else bif a.is Ec then b.obj else a.cls&&(b.cls&&yg fs a.nm b.nm)
def Whole(fs:Tab):Prop:=∀s c,DU fs s=some c->(above fs s).2=true
section
variable{fs:Tab}(hw:Whole fs)
include hw
end
def Upper(fs:Tab):Prop:=∀s c,DU fs s=some c->upper s.1 s.2=true
section
variable{fs:Tab}(hw:Whole fs)
include hw
variable(hu:Upper fs)
include hu
end
def AFd(t:Ty):Ty:=⟨t.nm,false⟩
section
variable{fs:Tab}(hw:Whole fs)
include hw
end
abbrev jW(f:∀H' d,Kp H n H' d->k Ec.v H' d):Runs F G OL [] H n k:=by refine go0 (yG Ae G) ?_;delta mF;simp only[go_sem,Nat.reduceAdd,show BT [.str 0 0,.bool false] [(0,1,.c (.str 4 1819047278))]=some (.agg [.str 4 1819047278,.bool false])from rfl];exact f _ _ (((Kp.refl H n).new (m:=n+1) _ o_ a6).new _ o_ o_)
abbrev Hg(f:∀H' d,Kp H n H' d->k BY.v H' d):Runs F G A7 [] H n k:=by refine go0 (AHW Ae G) ?_;delta ABZ;simp only[go_sem,Nat.reduceAdd,show BT [.str 0 0,.bool false] [(0,1,.c (.str 3 7630441))]=some (.agg [.str 3 7630441,.bool false])from rfl];exact f _ _ (((Kp.refl H n).new (m:=n+1) _ o_ a6).new _ o_ o_)
abbrev Fw(f:∀H' d,Kp H n H' d->k A3.v H' d):Runs F G CE [] H n k:=by refine go0 (AEI Ae G) ?_;delta xk;simp only[go_sem,Nat.reduceAdd,show BT [.str 0 0,.bool false] [(0,1,.c (.str 4 1819242338))]=some (.agg [.str 4 1819242338,.bool false])from rfl];exact f _ _ (((Kp.refl H n).new (m:=n+1) _ o_ a6).new _ o_ o_)
variable{t:Ty}
abbrev Be(h:T.get H i=some (one t.cells)):AX 2 (.ptr i 0) G H=some t.v:=As h a6 rfl
abbrev CZ(i o:Nat):AG 0 (.ptr i o)=some (.ptr i o):=by simp only[go_sem];rfl
abbrev ASY(i:∀H' f,Kp H n H' f->k (AFd t).v H' f):Runs F G dH [t.v] H n k:=by refine go1 (uT Ae G) ?_;delta dS;refine BE λw p q=>?_;refine Ao rfl λx g u=>?_;have d:=g.get q a6;simp only[go_sem,Nat.reduceAdd,AK (off:=0) d (v:=t.nm.v) rfl,show BT [.str 0 0,.bool false] [(0,1,.c t.nm.v)]=some (.agg (AFd t).cells)from rfl];rw[MG (m:=2) u a6 rfl rfl,By (m:=2) (T.B4 ..) a6 rfl];exact i _ _ ((p.trans g).new _ a6 o_)
abbrev AFZ(f:t.nm.ok)(g:∀H' d,Kp H n H' d->k (.bool t.cls) H' d):Runs F G CX [t.v] H n k:=jn f g
abbrev FH(t:Ty):Ak t.v t.v=true:=by show band (band (Nat.beq t.nm.1 t.nm.1) (Nat.beq t.nm.2 t.nm.2)) (band (zx (.bool t.arr) t.arr) true)=true;have⟨⟨l,c⟩,r⟩:=t;cases r<;>simp[zx,A6,V.el]<;>rfl
abbrev AOg:Ec.nm.ok:=by intro h;cases h
abbrev rv(x:t.nm.ok)(d:∀H' i,Kp H n H' i->k (.bool t.obj) H' i):Runs F G Hv [t.v] H n k:=by
 refine go1 (nW Ae G) ?_;delta YB;refine BE λB m f=>?_;unfold Ty.obj at d;simp only[go_sem,Nat.reduceAdd,AK (off:=1) f (v:=.bool t.arr) rfl];cases p:t.arr with
 |true=>
  rw[p]at d;simp only[go_sem];exact d _ _ m
 |false=>
  rw[p]at d;simp only[go_sem,Be f];refine AFZ x λC D g=>?_;have f3:=m.trans g;have q:=g.get f a6;cases u:t.cls with
  |true=>
   rw[u]at d;simp only[go_sem];exact d _ _ f3
  |false=>
   rw[u]at d;simp only[go_sem,Be q];refine jW λE I w=>?_;have y:=f3.trans w;have A:=w.get q (hN g.le);refine AOP (Be A) (FH t) ?_;simp only[go_sem,UX];exact d _ _ y
variable{n0:Nat}{fs:Tab}
abbrev APi{t a:Nat}(h:TabAt G H n0 t a b fs)(m:n0<=n)(d:fs.length<=1000){x y:St}
 (p:∀H' g,Kb b H n H' g->k (.bool (yg fs x y)) H' g):Runs F G WI [.ptr t 0,x.v,y.v] H n k:=by refine xN (kq Ae G) ?_;delta V2;have h:=h.kb (f:=⟨m,λ_ _ _=>rfl,λh=>h⟩);refine pz h d λw A v q u i=>?_;simp only[go_sem];refine nl (u.el a6) a6 ?_;exact p _ _ q
abbrev AHs{t a:Nat}(h:TabAt G H n0 t a b fs)(O:n0<=n)(u:fs.length<=1000){x y:Ty}(P:x.nm.ok)(C:y.nm.ok)
 (d:∀H' D,Kb b H n H' D->k (.bool (fitsT fs x y)) H' D):Runs F G GE [.ptr t 0,x.v,y.v] H n k:=by
 refine xN (oh Ae G) ?_;delta YG;have h:=h.kb (f:=⟨O,λ_ _ _=>rfl,λh=>h⟩);have w:=h.bn;unfold fitsT at d;refine BE λY Q g=>?_;refine BE λZ E i=>?_;have f3:=(Q.trans E).kb (b:=b) w;have g:=E.get g a6;simp only[go_sem,Be g,Be i,UX];cases I:x.is y with
 |true=>
  rw[I]at d;simp only[go_sem];exact d _ _ f3
 |false=>
  rw[I]at d;simp only[go_sem,Be g];refine jW λH4 n4 p=>?_;have J:=f3.trans (p.kb a6);have g:=p.get g a6;have i:=p.get i a6;have R:=p.le;rw[Be g,AJ,FH,YF];simp only[go_sem,UX];cases K:x.is Ec with
  |true=>
   rw[K]at d;simp only[go_sem,Be i];refine rv C λS T m=>?_;exact d _ _ (J.trans (m.kb a6))
  |false=>
   rw[K]at d;simp only[go_sem,Be g];refine AFZ P λS T m=>?_;have L:=J.trans (m.kb a6);have g:=m.get g a6;have i:=m.get i a6;have U:=m.le;cases M:x.cls with
   |false=>
    rw[M]at d;simp only[go_sem];exact d _ _ L
   |true=>
    rw[M]at d;simp only[go_sem,Be i];refine AFZ C λH8 n8 q=>?_;have A:=L.trans (q.kb a6);have g:=q.get g a6;have i:=q.get i a6;have V:=q.le;cases N:y.cls with
    |false=>
     rw[N]at d;simp only[go_sem];exact d _ _ A
    |true=>
     rw[N]at d;simp only[go_sem,Nat.reduceAdd,AK (off:=0) g (v:=x.nm.v) rfl,AK (off:=0) i (v:=y.nm.v) rfl];refine APi (h.kb A) o_ u λW X B=>?_;exact d _ _ (A.trans B)
abbrev AMz{t:T LV}(g:T.get H id=some (.arr z 0 t))(hw:elems w G H z=some [])
 (i:∀H',(∀j,T.get H' j=T.get H j)->k (.sl id 0 0 0 z) H' n):Ey z bs (.sl id 0 0 0 z) w G H n k:=by
 unfold Ey;rw[hw,SG];have m:AAb (.sl id 0 0 0 z) G z bs [] H n k=Bool.rec (motive:=λ_=>Prop) (CR (BP H id z 0 0) λf=>GR z bs f [] H n k) (CR (T.get H id) λb=>aD id 0 0 0 z (0+([]:Bh).length) [] H n k b) (Nat.ble (0+([]:Bh).length) 0):=by show B7 (Nat.beq z z) (CS (Nat.add 0 (len ([]:Bh))) λd=>Bool.rec (motive:=λ_=>Prop) (CR (BP H id z 0 0) λf=>GR z bs f [] H n k) (CR (T.get H id) λb=>aD id 0 0 0 z d [] H n k b) (Nat.ble d 0))=_;rw[Bq,YF,A8,len_eq];rfl
 rw[m];show CR (T.get H id) (λb=>aD id 0 0 0 z (0+0) [] H n k b);rw[g,SG];show B7 (band (Nat.beq z z) (Nat.ble (Nat.add 0 (0+0)) 0)) (k (.sl id 0 (0+0) 0 z) (T.set H id (.arr z 0 t)) n);rw[Bq,show Nat.ble (Nat.add 0 (0+0)) 0=true by rw[_e];exact ea _];refine i _ λj=>?_;rw[T.Mt];split
 .rename_i e;subst e;exact g.symm
 .rfl
abbrev ALt(x y:Int):B2.ev .leq (.int .i64 x 0) (.int .i64 y 0)=some (.bool (decide (x<=y))):=by show Az (band (keq .i64 .i64) true) (R9 (dh x y))=_;rw[NA,iI];rfl
def T3:St:=(2,15677)
def Qx:St:=(2,15649)
def eh:St:=(1,60)
def di:St:=(2,15676)
def Cg(s:St):aAm->Option Ty
 |[]=>none
 |f::l=>bif decide (f.nm=s)then some f.ty else Cg s l
structure Kx where
 tb:Tab
 cls:St
 st:Bool
 ret:Ty
def dq(tb:Tab):aAv->aAv->Bool
 |[],[]=>true
 |a::l,p::ps=>fitsT tb a p&&dq tb l ps
 |_,_=>false
def RT(b:Bool)(t:Ty)(w:St):Option (Ty×St):=bif b then some (t,w)else none
def Pr(x:Kx)(c:Ty)(nm:St)(st:Bool)(args:aAv):Option (Ty×St):=
 bif BD x.tb c then
  match Cq x.tb c.nm nm st with
  |some (o,s)=>RT (dq x.tb args s.ps) s.ret o
  |none=>none
 else none
def T9(x:Kx)(Γ:aAm)(kind:Nat)(nm:St)(ty:Ty)(ks:aAv):Option (Ty×St):=
 match kind,ks with
 |1,[]=>some (BY,(0,0))
 |2,[]=>some (A3,(0,0))
 |3,[]=>some (A3,(0,0))
 |4,[]=>some (Ec,(0,0))
 |5,[]=>RT (!x.st) ⟨x.cls,false⟩ (0,0)
 |6,[]=>(Cg nm Γ).map λt=>(t,(0,0))
 |7,[c]=>bif c.cls&&BD x.tb c then(QU x.tb c.nm nm).map λp=>(p.2,p.1)else none
 |8,c::gs=>bif c.cls then Pr x c nm false gs else none
 |9,gs=>Pr x ty nm true gs
 |10,[]=>RT (BD x.tb ty) ty (0,0)
 |11,[k]=>RT (k.is BY&&BD x.tb ty) ⟨ty.nm,true⟩ (0,0)
 |12,[a,i]=>RT (a.arr&&i.is BY) (AFd a) (0,0)
 |13,[a]=>RT a.arr BY (0,0)
 |14,[a]=>RT (a.is BY) BY (0,0)
 |15,[a]=>RT (a.is A3) A3 (0,0)
 |16,[a,b]=>
  bif decide (nm=T3)||decide (nm=Qx)then RT (a.is b||(a.obj&&b.obj)) A3 (0,0)
  else RT (a.is BY&&b.is BY) (bif decide (nm=eh)||decide (nm=di)then A3 else BY) (0,0)
 |17,[a,b]=>RT (a.is A3&&b.is A3) A3 (0,0)
 |18,[a,b]=>RT (a.is A3&&b.is A3) A3 (0,0)
 |19,[a]=>RT ((a.cls||a.is Ec)&&BD x.tb ty) ty (0,0)
 |20,[a]=>RT ((a.cls||a.is Ec)&&BD x.tb ty) A3 (0,0)
 |_,_=>none
def okS(s:St):Bool:= !(decide (s.1=0))||decide (s.2=0)
def dY(kind:Nat):Bool:=decide (kind=7)||(decide (kind=8)||decide (kind=9))
def fW(kind:Nat)(ty:Ty)(own:St):Bool:=(okS ty.nm&&(!(decide (kind=10)||(decide (kind=19)||decide (kind=20)))||upper ty.nm.1 ty.nm.2))&&(dY kind||decide (own=(0,0)))
mutual
def Yx(x:Kx)(Γ:aAm):Te->Option Te
 |.mk kind num nm ty _ own kids=>bif fW kind ty own then(jj x Γ kids).bind λks=>(T9 x Γ kind nm ty (ks.map Te.of)).map λp=>.mk kind num nm ty p.1 p.2 ks else none
def jj(x:Kx)(Γ:aAm):aAq->Option (aAq)
 |[]=>some []
 |e::l=>(Yx x Γ e).bind λe'=>(jj x Γ l).map λl'=>e'::l'
end
abbrev Gs:=aAm×Nat
def ql(v:BU)(g:Gs):Option Gs:=bif (Cg v.nm g.1).isNone&&decide (g.2<200)then some (g.1++[v],g.2+1)else none
def yb(x:Kx)(does:Nat)(nm:St)(ty:Ty)(es:aAv)(g:Gs):Option Gs:=
 match does,es with
 |1,[a]=>bif fitsT x.tb a ty then ql ⟨nm,ty⟩ g else none
 |2,[a,b]=>bif fitsT x.tb b a then some g else none
 |3,[_]=>some g
 |4,[a]=>bif a.is A3 then some g else none
 |5,[a]=>bif a.is A3 then some g else none
 |6,[a]=>bif fitsT x.tb a x.ret then some g else none
 |7,[a]=>bif a.is BY then some g else none
 |_,_=>none
def szB(l:aAt):Bool:=decide (l.length<=1000)
def ALw:aAq->Bool
 |.mk k _ _ _ _ _ _::_=>decide (k=6)||(decide (k=7)||decide (k=12))
 |[]=>false
def pZ(k:Nat):Nat:=if k=16 then 2 else if k=17 then 3 else if k=18 then 3 else 1
mutual
def Te.cz:Te->Nat
 |.mk k _ _ _ _ _ es=>OG es+pZ k
def OG:aAq->Nat
 |[]=>0
 |e::es=>e.cz+OG es
end
def sY(does:Nat)(es:aAq):Bool:=(!decide (does=2)||ALw es)&&decide (OG es<=900)
mutual
def Tq(x:Kx):Tt->Gs->Option (Tt×Gs)
 |.mk does nm ty es th el,g=>
  bif decide (does=1)&& !BD x.tb ty then none else
  bif sY does es then
  (jj x g.1 es).bind λes'=>(yb x does nm ty (es'.map Te.of) g).bind λg1=>
   bif decide (does=4)||decide (does=5)then bif szB th&&szB el then(Xr x th g1).bind λp=>(Xr x el (g1.1,p.2)).map λq=>(.mk does nm ty es' p.1 q.1,(g1.1,q.2))else none
   else bif th.isEmpty&&el.isEmpty then some (.mk does nm ty es' th el,g1)else none
  else none
def Xr(x:Kx):aAt->Gs->Option (aAt×Nat)
 |[],g=>some ([],g.2)
 |s::l,g=>(Tq x s g).bind λp=>(Xr x l p.2).map λq=>(p.1::q.1,q.2)
end
def qu:aAm->Gs->Option Gs
 |[],g=>some g
 |v::l,g=>(ql v g).bind (qu l)
def YZ(tb:Tab)(cls:St)(m:Tm):Option Tm:=
 bif szB m.body then(qu m.ps ([],0)).bind λg=>(Xr ⟨tb,cls,m.st,m.ret⟩ m.body g).map λq=>{m with body:=q.1}else none
def lE(tb:Tab)(cls:St):aAz->Option (aAz)
 |[]=>some []
 |m::l=>(YZ tb cls m).bind λm'=>(lE tb cls l).map λl'=>m'::l'
def Yy(tb:Tab)(c:Tc):Option Tc:=(lE tb c.nm c.ms).map λms=>{c with ms:=ms}
variable{x:Kx}{Γ:List BU}
abbrev uI{Γ:aAm}{kind num:Nat}{of:Ty}{own:St}{kids:aAq}{d:Te}(h:Yx x Γ (.mk kind num nm ty of own kids)=some d):
 ∃ks p,jj x Γ kids=some ks/\T9 x Γ kind nm ty (ks.map Te.of)=some p/\d=.mk kind num nm ty p.1 p.2 ks/\fW kind ty own=true:=by
 rw[Yx]at h;cases f:fW kind ty own with
 |false=>rw[f]at h;cases h
 |true=>
  rw[f]at h;have⟨ks,g,h⟩:=ee.1 (show((jj x Γ kids).bind λks=>(T9 x Γ kind nm ty (ks.map Te.of)).map λp=>Te.mk kind num nm ty p.1 p.2 ks)=some d from h);obtain⟨p,i,rfl⟩:=d_.1 h;exact⟨ks,p,g,i,rfl,rfl⟩
abbrev AMR{Γ:aAm}{kind num:Nat}{of:Ty}{own:St}{kids ks:aAq}{p:Ty×St}(d:fW kind ty own=true)(f:jj x Γ kids=some ks)(g:T9 x Γ kind nm ty (ks.map Te.of)=some p):
 Yx x Γ (.mk kind num nm ty of own kids)=some (.mk kind num nm ty p.1 p.2 ks):=by rw[Yx,d,f];show((T9 x Γ kind nm ty (ks.map Te.of)).map λp=>Te.mk kind num nm ty p.1 p.2 ks)=_;rw[g];rfl
abbrev EH{b:Bool}{w:St}{p:Ty×St}(h:RT b t w=some p):b=true/\p=(t,w):=by
 cases b
 .cases h
 .cases h;exact⟨rfl,rfl⟩
abbrev AKs{Γ:aAm}{p:Ty×St}(kind:Nat)(ks:aAv)(h:T9 x Γ kind nm ty ks=some p):dY kind=true∨p.2=(0,0):=by
 have ok:∀{b:Bool} {t:Ty},RT b t (0,0)=some p->p.2=(0,0):=λh=>by rw[(EH h).2]
 match kind,h with
 |0,h=>cases h
 |1,h=>rcases ks with _|⟨a,_|⟨b,_|⟨c,l⟩⟩⟩<;>first|(cases h;done)|exact .inr (ok h)|(cases h;exact .inr rfl)
 |2,h=>rcases ks with _|⟨a,_|⟨b,_|⟨c,l⟩⟩⟩<;>first|(cases h;done)|exact .inr (ok h)|(cases h;exact .inr rfl)
 |3,h=>rcases ks with _|⟨a,_|⟨b,_|⟨c,l⟩⟩⟩<;>first|(cases h;done)|exact .inr (ok h)|(cases h;exact .inr rfl)
 |4,h=>rcases ks with _|⟨a,_|⟨b,_|⟨c,l⟩⟩⟩<;>first|(cases h;done)|exact .inr (ok h)|(cases h;exact .inr rfl)
 |5,h=>rcases ks with _|⟨a,_|⟨b,_|⟨c,l⟩⟩⟩<;>first|(cases h;done)|exact .inr (ok h)|(cases h;exact .inr rfl)
 |10,h=>rcases ks with _|⟨a,_|⟨b,_|⟨c,l⟩⟩⟩<;>first|(cases h;done)|exact .inr (ok h)|(cases h;exact .inr rfl)
 |11,h=>rcases ks with _|⟨a,_|⟨b,_|⟨c,l⟩⟩⟩<;>first|(cases h;done)|exact .inr (ok h)|(cases h;exact .inr rfl)
 |12,h=>rcases ks with _|⟨a,_|⟨b,_|⟨c,l⟩⟩⟩<;>first|(cases h;done)|exact .inr (ok h)|(cases h;exact .inr rfl)
 |13,h=>rcases ks with _|⟨a,_|⟨b,_|⟨c,l⟩⟩⟩<;>first|(cases h;done)|exact .inr (ok h)|(cases h;exact .inr rfl)
 |14,h=>rcases ks with _|⟨a,_|⟨b,_|⟨c,l⟩⟩⟩<;>first|(cases h;done)|exact .inr (ok h)|(cases h;exact .inr rfl)
 |15,h=>rcases ks with _|⟨a,_|⟨b,_|⟨c,l⟩⟩⟩<;>first|(cases h;done)|exact .inr (ok h)|(cases h;exact .inr rfl)
 |17,h=>rcases ks with _|⟨a,_|⟨b,_|⟨c,l⟩⟩⟩<;>first|(cases h;done)|exact .inr (ok h)|(cases h;exact .inr rfl)
 |18,h=>rcases ks with _|⟨a,_|⟨b,_|⟨c,l⟩⟩⟩<;>first|(cases h;done)|exact .inr (ok h)|(cases h;exact .inr rfl)
 |19,h=>rcases ks with _|⟨a,_|⟨b,_|⟨c,l⟩⟩⟩<;>first|(cases h;done)|exact .inr (ok h)|(cases h;exact .inr rfl)
 |20,h=>rcases ks with _|⟨a,_|⟨b,_|⟨c,l⟩⟩⟩<;>first|(cases h;done)|exact .inr (ok h)|(cases h;exact .inr rfl)
 |6,h=>
  rcases ks with _|⟨a,l⟩
  .obtain⟨t,_,rfl⟩:=d_.1 (show(Cg nm Γ).map (λt=>(t,((0,0):St)))=some p from h);exact .inr rfl
  .cases h
 |7,h=>exact .inl rfl
 |8,h=>exact .inl rfl
 |9,h=>exact .inl rfl
 |16,h=>
  rcases ks with _|⟨a,_|⟨b,_|⟨c,l⟩⟩⟩<;>try (cases h;done)
  have h:(bif decide (nm=T3)||decide (nm=Qx)then RT (a.is b||(a.obj&&b.obj)) A3 (0,0)else RT (a.is BY&&b.is BY) (bif decide (nm=eh)||decide (nm=di)then A3 else BY) (0,0))=some p:=h;cases d:decide (nm=T3)||decide (nm=Qx)with
  |true=>rw[d]at h;exact .inr (ok h)
  |false=>rw[d]at h;exact .inr (ok h)
 |k+21,h=>cases h
abbrev Vg{Γ:aAm}{e:Te}{l f:aAq}(h:jj x Γ (e::l)=some f):∃d t,Yx x Γ e=some d/\jj x Γ l=some t/\f=d::t:=by rw[jj]at h;have⟨d,g,h⟩:=ee.1 h;obtain⟨t,i,rfl⟩:=d_.1 h;exact⟨d,t,g,i,rfl⟩
abbrev pN{Γ:aAm}:∀{l d:aAq},jj x Γ l=some d->d.length=l.length
 |[],d,h=>by rw[jj]at h;cases h;rfl
 |e::l,d,h=>by obtain⟨g,t,_,f,rfl⟩:=Vg h;simp[pN f]
abbrev AGF{Γ:aAm}:∀{l d:aAq} {i:Nat} {e:Te},jj x Γ l=some d->l[i]? =some e->∃f,d[i]? =some f/\Yx x Γ e=some f
 |[],d,i,e,h,g=>by simp at g
 |a::l,d,i,e,h,g=>by
  obtain⟨f,t,k,m,rfl⟩:=Vg h;cases i with
  |zero=>cases g;exact⟨f,rfl,k⟩
  |succ i=>exact AGF (i:=i) m g
def IY:Ty:=⟨(0,0),false⟩
def nA:St:=(1,65)
def nB:St:=(1,66)
def pu:St:=(1,120)
def my:St:=(4,1954047342)
def AGj:St:=(2,29560)
def Jd:St:=(4,1734437990)
def VR:St:=(3,7628135)
def yM:St:=(4,1718379891)
def fJ:St:=(3,7173491)
def ASf:St:=(4,1852399981)
def ABJ:St:=(1,43)
def ABp:St:=(1,45)
def ABD:St:=(1,42)
def ABR:St:=(1,47)
def AA3:St:=(1,37)
def tA:Ty:=⟨nA,false⟩
def tB:Ty:=⟨nB,false⟩
def wN:Ty:=⟨BY.nm,true⟩
def Hp:Bk:=⟨VR,false,[BY],BY⟩
def TO:Bk:=⟨yM,false,[],tA⟩
def IB:Bk:=⟨fJ,true,[BY,tA],BY⟩
def Xo:Bk:=⟨ASf,true,[BY,BY],BY⟩
def IK:Fc:=⟨nA,(0,0),[⟨my,tA⟩,⟨pu,BY⟩,⟨AGj,wN⟩],[Hp,Xo,TO,IB]⟩
def JJ(g s:Bool):Fc:=⟨nB,nA,[⟨Jd,A3⟩],(bif g then[Hp]else[])++(bif s then[IB]else[])⟩
variable{st:Bool}{f:St}
abbrev ATA{g s:Bool}{q m:Bk}(d:Ht st f (JJ g s).ms=some q)(w:Ht st f IK.ms=some m):q=m:=by
 have key:(f=VR/\st=false/\q=Hp)∨(f=fJ/\st=true/\q=IB):=by
  have u:HP f [Hp]=some Hp/\f=VR∨HP f [Hp]=none:=by
   by_cases e:VR=f
   .subst e;exact .inl ⟨rfl,rfl⟩
   .right;show(bif decide (VR.1=f.1/\VR.2=f.2)then _ else none)=none;rw[eg λi=>e (L_ i.1 i.2)];rfl
  have k:HP f [IB]=some IB/\f=fJ∨HP f [IB]=none:=by
   by_cases e:fJ=f
   .subst e;exact .inl ⟨rfl,rfl⟩
   .right;show(bif decide (fJ.1=f.1/\fJ.2=f.2)then _ else none)=none;rw[eg λi=>e (L_ i.1 i.2)];rfl
  have one:HP f (JJ g s).ms=some Hp/\f=VR∨HP f (JJ g s).ms=some IB/\f=fJ∨HP f (JJ g s).ms=none:=by
   cases g<;>cases s
   .exact .inr (.inr rfl)
   .rcases k with h|h
    .exact .inr (.inl h)
    .exact .inr (.inr h)
   .rcases u with h|h
    .exact .inl h
    .exact .inr (.inr h)
   .by_cases e:VR=f
    .subst e;exact .inl ⟨rfl,rfl⟩
    .have:HP f (JJ true true).ms=HP f [IB]:=by show(bif decide (VR.1=f.1/\VR.2=f.2)then _ else HP f [IB])=_;rw[eg λi=>e (L_ i.1 i.2)];rfl
     rw[this];rcases k with h|h
     .exact .inr (.inl h)
     .exact .inr (.inr h)
  unfold Ht at d;rcases one with⟨p,v⟩|⟨p,v⟩|p
  .rw[p]at d;cases st with
   |false=>cases d;exact .inl ⟨v,rfl,rfl⟩
   |true=>cases d
  .rw[p]at d;cases st with
   |false=>cases d
   |true=>cases d;exact .inr ⟨v,rfl,rfl⟩
  .rw[p]at d;cases d
 rcases key with⟨rfl,rfl,rfl⟩|⟨rfl,rfl,rfl⟩
 .exact e_ (show some Hp=some m from w)
 .exact e_ (show some IB=some m from w)
variable{tb:Tab}
abbrev jX(d:Eo t.nm=true)(f:upper t.nm.1 t.nm.2=false):BD tb t=true:=by unfold BD;rw[d,f];rfl
structure TI(tb:Tab):Prop where
 a:DU tb nA=some IK
 b:∃g s,DU tb nB=some (JJ g s)
 two:2<=tb.length
variable{s:St}
theorem xd{m:Nat}{tb:Tab}{out:List St}{s:St}{c:Fc}(d:¬(s.1=0/\s.2=0))(f:DU tb s=some c)(g:iP s out=false):HH (m+1) tb out s=HH m tb (out++[s]) c.sup:=by
 rw[HH,decide_eq_false d]
 show(match DU tb s with|none=>(out,false)|some c=>bif iP s out then(out,false)else HH m tb (out++[s]) c.sup)=_
 rw[f]
 show(bif iP s out then(out,false)else HH m tb (out++[s]) c.sup)=_
 rw[g];rfl
theorem pd{m:Nat}{tb:Tab}{out:List St}:HH (m+1) tb out (0,0)=(out,true):=rfl
section
variable{tb:Tab}(h:TI tb)
include h
abbrev TI.wZ:above tb nA=([nA],true):=by have f:=h.two;obtain⟨m,d⟩:∃m,tb.length=m+1:=⟨tb.length-1,a6⟩;unfold above;rw[d,xd a_ h.a rfl];exact pd
abbrev TI.wb:above tb nB=([nB,nA],true):=by have i:=h.two;have⟨g,s,d⟩:=h.b;obtain⟨m,f⟩:∃m,tb.length=m+2:=⟨tb.length-2,a6⟩;unfold above;rw[f,xd a_ d rfl,show(JJ g s).sup=nA from rfl,xd a_ h.a a_];exact pd
abbrev TI.kA:BD tb tA=true:=by unfold BD;rw[show tA.nm=nA from rfl,h.a];rfl
abbrev TI.kB:BD tb tB=true:=by have⟨g,s,d⟩:=h.b;unfold BD;rw[show tB.nm=nB from rfl,d];rfl
abbrev TI.AYo(d:QM f IK.fs=some t):QU tb nA f=some (nA,t):=by unfold QU;rw[h.wZ];show(match QM f ((DU tb nA).getD Cf).fs with|some t=>some (nA,t)|none=>_)=_;rw[h.a];show(match QM f IK.fs with|some t=>some (nA,t)|none=>_)=_;rw[d]
abbrev TI.AX1(d:QM f IK.fs=some t)(i:f≠Jd):QU tb nB f=some (nA,t):=by
 have⟨g,s,k⟩:=h.b;unfold QU;rw[h.wb];show(match QM f ((DU tb nB).getD Cf).fs with|some t=>some (nB,t)|none=>Xe tb f [nA])=_;rw[k];have:QM f (JJ g s).fs=none:=by show(bif decide (Jd.1=f.1/\Jd.2=f.2)then _ else none)=none;rw[eg λe=>i (L_ e.1.symm e.2.symm)];rfl
 show(match QM f (JJ g s).fs with|some t=>some (nB,t)|none=>Xe tb f [nA])=_;rw[this];show(match QM f ((DU tb nA).getD Cf).fs with|some t=>some (nA,t)|none=>_)=_;rw[h.a];show(match QM f IK.fs with|some t=>some (nA,t)|none=>_)=_;rw[d]
abbrev TI.flag:QU tb nB Jd=some (nB,A3):=by have⟨g,s,d⟩:=h.b;unfold QU;rw[h.wb];show(match QM Jd ((DU tb nB).getD Cf).fs with|some t=>some (nB,t)|none=>Xe tb Jd [nA])=_;rw[d];rfl
abbrev TI.AW6{m:Bk}(d:Ht st f IK.ms=some m):Cq tb nA f st=some (nA,m):=by unfold Cq;rw[h.wZ];show(match Ht st f ((DU tb nA).getD Cf).ms with|some m=>some (nA,m)|none=>_)=_;rw[h.a];show(match Ht st f IK.ms with|some m=>some (nA,m)|none=>_)=_;rw[d]
abbrev TI.AYv{m:Bk}(d:Ht st f IK.ms=some m):∃o,Cq tb nB f st=some (o,m):=by
 have⟨g,s,i⟩:=h.b;unfold Cq;rw[h.wb];have k:FP tb f st [nA]=some (nA,m):=by show(match Ht st f ((DU tb nA).getD Cf).ms with|some m=>some (nA,m)|none=>_)=_;rw[h.a];show(match Ht st f IK.ms with|some m=>some (nA,m)|none=>_)=_;rw[d]
 show ∃o,(match Ht st f ((DU tb nB).getD Cf).ms with|some m=>some (nB,m)|none=>FP tb f st [nA])=_;rw[i];show ∃o,(match Ht st f (JJ g s).ms with|some m=>some (nB,m)|none=>FP tb f st [nA])=_;cases p:Ht st f (JJ g s).ms with
 |none=>exact⟨nA,k⟩
 |some q=>
  refine⟨nB,?_⟩;rw[ATA p d]
abbrev TI.AVL:fitsT tb tB tA=true:=by
 have d:yg tb nB nA=true:=by unfold yg;rw[h.wb];rfl
 show(bif tB.is tA then true else bif tB.is Ec then tA.obj else tB.cls&&(tA.cls&&yg tb nB nA))=true;rw[d];rfl
omit h in
abbrev AVd(d:t=tA∨t=tB):fitsT tb Ec t=true:=by rcases d with rfl|rfl<;>rfl
omit h in
abbrev AR3(t:Ty):fitsT tb t t=true:=by unfold fitsT;rw[Ty.VF];rfl
end
structure kS(inn:St)(x:Kx):Prop where
 tb:TI x.tb
 inn:inn≠(0,0)->x.st=false/\x.cls=inn
def Gd(inn:St)(Γ:aAm)(e:Te)(t:Ty):Prop:=∀x,kS inn x->∃e',Yx x Γ e=some e'/\e'.of=t
def WK(inn:St)(Γ:aAm)(es:aAq)(ts:aAv):Prop:=∀x,kS inn x->∃es',jj x Γ es=some es'/\es'.map Te.of=ts
variable{a:Te}{u:Ty}
section
variable{inn:St}{Γ:List BU}
abbrev WK.nil:WK inn Γ [] []:=λ_ _=>⟨[],by rw[jj],rfl⟩
abbrev WK.cons{e:Te}{es:aAq}{f:aAv}(h:Gd inn Γ e t)(k:WK inn Γ es f):WK inn Γ (e::es) (t::f):=λx g=>by have⟨i,m,p⟩:=h x g;have⟨d,q,u⟩:=k x g;refine⟨i::d,?_,by rw[rl,p,u]⟩;rw[jj,m];show((jj x Γ es).map λv=>i::v)=_;rw[q];rfl
abbrev Gd.mk{kind num:Nat}{of:Ty}{own:St}{kids:aAq}{d:aAv}(g:fW kind ty own=true)(i:WK inn Γ kids d)(k:∀x,kS inn x->∃o,T9 x Γ kind nm ty d=some (t,o)):Gd inn Γ (.mk kind num nm ty of own kids) t:=λx f=>by have⟨ks,m,p⟩:=i x f;have⟨o,q⟩:=k x f;exact⟨.mk kind num nm ty t o ks,AMR g m (by rw[p];exact q),rfl⟩
abbrev WK.one(h:Gd inn Γ a t):WK inn Γ [a] [t]:=.cons h .nil
abbrev WK.two{b:Te}(h:Gd inn Γ a t)(d:Gd inn Γ b u):WK inn Γ [a,b] [t,u]:=.cons h (.cons d .nil)
variable{n:Nat}{nm:St}{ty of:Ty}{a b:Te}
abbrev Gd.num:Gd inn Γ (.mk 1 n nm IY of (0,0) []) BY:=.mk rfl .nil λ_ _=>⟨_,rfl⟩
abbrev Gd.tru:Gd inn Γ (.mk 2 n nm IY of (0,0) []) A3:=.mk rfl .nil λ_ _=>⟨_,rfl⟩
abbrev Gd.Cp:Gd inn Γ (.mk 3 n nm IY of (0,0) []) A3:=.mk rfl .nil λ_ _=>⟨_,rfl⟩
abbrev Gd.nul:Gd inn Γ (.mk 4 n nm IY of (0,0) []) Ec:=.mk rfl .nil λ_ _=>⟨_,rfl⟩
abbrev Gd.this(h:inn≠(0,0)):Gd inn Γ (.mk 5 n nm IY of (0,0) []) ⟨inn,false⟩:=.mk rfl .nil λx d=>by have⟨f,g⟩:=d.inn h;refine⟨(0,0),?_⟩;show RT (!x.st) ⟨x.cls,false⟩ (0,0)=_;rw[f,g];rfl
abbrev Gd.loc(h:Cg nm Γ=some t):Gd inn Γ (.mk 6 n nm IY of (0,0) []) t:=.mk rfl .nil λx d=>by refine⟨(0,0),?_⟩;show(Cg nm Γ).map _=_;rw[h];rfl
abbrev Gd.get{c:Ty}(g:Gd inn Γ a c)(i:c=tA∨c=tB)(f:QM nm IK.fs=some t)(k:nm≠Jd):Gd inn Γ (.mk 7 n nm IY of (0,0) [a]) t:=.mk rfl (.one g) λx d=>by
 rcases i with rfl|rfl
 .refine⟨nA,?_⟩;show(bif tA.cls&&BD x.tb tA then(QU x.tb nA nm).map λp=>(p.2,p.1)else none)=_;rw[d.tb.kA,d.tb.AYo f];rfl
 .refine⟨nA,?_⟩;show(bif tB.cls&&BD x.tb tB then(QU x.tb nB nm).map λp=>(p.2,p.1)else none)=_;rw[d.tb.kB,d.tb.AX1 f k];rfl
abbrev Gd.flag(f:Gd inn Γ a tB):Gd inn Γ (.mk 7 n Jd IY of (0,0) [a]) A3:=.mk rfl (.one f) λx d=>by refine⟨nB,?_⟩;show(bif tB.cls&&BD x.tb tB then(QU x.tb nB Jd).map λp=>(p.2,p.1)else none)=_;rw[d.tb.kB,d.tb.flag];rfl
abbrev AB1(d:kS inn x){c:Ty}(i:c=tA∨c=tB){s:Bk}{gs:aAv}(f:Ht st nm IK.ms=some s)(g:dq x.tb gs s.ps=true):∃o,Pr x c nm st gs=some (s.ret,o):=by
 unfold Pr;rcases i with rfl|rfl
 .rw[d.tb.kA];refine⟨nA,?_⟩;show(match Cq x.tb nA nm st with|some (o,s)=>RT (dq x.tb gs s.ps) s.ret o|none=>none)=_;rw[d.tb.AW6 f];show RT (dq x.tb gs s.ps) s.ret nA=_;rw[g];rfl
 .rw[d.tb.kB];have⟨o,k⟩:=d.tb.AYv f;refine⟨o,?_⟩;show(match Cq x.tb nB nm st with|some (o,s)=>RT (dq x.tb gs s.ps) s.ret o|none=>none)=_;rw[k];show RT (dq x.tb gs s.ps) s.ret o=_;rw[g];rfl
abbrev Gd.AV5{c:Ty}(f:Gd inn Γ a c)(d:c=tA∨c=tB)(g:Gd inn Γ b BY):Gd inn Γ (.mk 8 n VR IY of (0,0) [a,b]) BY:=.mk rfl (.two f g) λx i=>by have⟨o,h⟩:=AB1 (nm:=VR) i d (st:=false) (s:=Hp) rfl (gs:=[BY]) (by show(fitsT x.tb BY BY&&true)=true;rw[AR3];rfl);refine⟨o,?_⟩;show(bif c.cls then Pr x c VR false [BY]else none)=_;rw[show c.cls=true by rcases d with rfl|rfl<;>rfl,h];rfl
abbrev Gd.AV1{c:Ty}(f:Gd inn Γ a c)(d:c=tA∨c=tB):Gd inn Γ (.mk 8 n yM IY of (0,0) [a]) tA:=.mk rfl (.one f) λx g=>by have⟨o,h⟩:=AB1 (nm:=yM) g d (st:=false) (s:=TO) rfl (gs:=[]) rfl;refine⟨o,?_⟩;show(bif c.cls then Pr x c yM false []else none)=_;rw[show c.cls=true by rcases d with rfl|rfl<;>rfl,h];rfl
inductive Rq:Ty->Ty->Prop where
 |same (t:Ty):Rq t t
 |ba:Rq tA tB
 |na:Rq tA Ec
 |nb:Rq tB Ec
abbrev Rq.fits(h:TI tb)(r:Rq t u):fitsT tb u t=true:=by
 cases r with
 |same=>exact AR3 _
 |ba=>exact h.AVL
 |na=>exact AVd (.inl rfl)
 |nb=>exact AVd (.inr rfl)
abbrev Gd.AYX(d:ty=tA∨ty=tB)(g:Gd inn Γ a BY)(i:Gd inn Γ b u)(hu:Rq tA u):Gd inn Γ (.mk 9 n fJ ty of (0,0) [a,b]) BY:=.mk (by rcases d with rfl|rfl<;>rfl) (.two g i) λx f=>by have⟨o,h⟩:=AB1 (nm:=fJ) f d (st:=true) (s:=IB) rfl (gs:=[BY,u]) (by show(fitsT x.tb BY BY&&(fitsT x.tb u tA&&true))=true;rw[AR3,hu.fits f.tb];rfl);exact⟨o,h⟩
abbrev Gd.new(d:ty=tA∨ty=tB):Gd inn Γ (.mk 10 n nm ty of (0,0) []) ty:=.mk (by rcases d with rfl|rfl<;>rfl) .nil λx f=>by
 refine⟨(0,0),?_⟩;show RT (BD x.tb ty) ty (0,0)=_;rcases d with rfl|rfl
 .rw[f.tb.kA];rfl
 .rw[f.tb.kB];rfl
abbrev Gd.arr(d:Gd inn Γ a BY):Gd inn Γ (.mk 11 n nm BY of (0,0) [a]) wN:=.mk rfl (.one d) λx f=>⟨(0,0),rfl⟩
abbrev Gd.elm(d:Gd inn Γ a wN)(f:Gd inn Γ b BY):Gd inn Γ (.mk 12 n nm IY of (0,0) [a,b]) BY:=.mk rfl (.two d f) λx g=>⟨(0,0),rfl⟩
abbrev Gd.len(d:Gd inn Γ a wN):Gd inn Γ (.mk 13 n nm IY of (0,0) [a]) BY:=.mk rfl (.one d) λx f=>⟨(0,0),rfl⟩
abbrev Gd.neg(d:Gd inn Γ a BY):Gd inn Γ (.mk 14 n nm IY of (0,0) [a]) BY:=.mk rfl (.one d) λx f=>⟨(0,0),rfl⟩
abbrev Gd.not(d:Gd inn Γ a A3):Gd inn Γ (.mk 15 n nm IY of (0,0) [a]) A3:=.mk rfl (.one d) λx f=>⟨(0,0),rfl⟩
abbrev Gd.and(d:Gd inn Γ a A3)(f:Gd inn Γ b A3):Gd inn Γ (.mk 17 n nm IY of (0,0) [a,b]) A3:=.mk rfl (.two d f) λx g=>⟨(0,0),rfl⟩
abbrev Gd.or(d:Gd inn Γ a A3)(f:Gd inn Γ b A3):Gd inn Γ (.mk 18 n nm IY of (0,0) [a,b]) A3:=.mk rfl (.two d f) λx g=>⟨(0,0),rfl⟩
abbrev Gd.jN(d:nm∈[ABJ,ABp,ABD,ABR,AA3])(f:Gd inn Γ a BY)(g:Gd inn Γ b BY):Gd inn Γ (.mk 16 n nm IY of (0,0) [a,b]) BY:=.mk rfl (.two f g) λx i=>by refine⟨(0,0),?_⟩;simp only[qk,_3,aAj]at d;rcases d with rfl|rfl|rfl|rfl|rfl<;>rfl
abbrev Gd.cmp(d:nm∈[eh,di,T3,Qx])(f:Gd inn Γ a BY)(g:Gd inn Γ b BY):Gd inn Γ (.mk 16 n nm IY of (0,0) [a,b]) A3:=.mk rfl (.two f g) λx i=>by refine⟨(0,0),?_⟩;simp only[qk,_3,aAj]at d;rcases d with rfl|rfl|rfl|rfl<;>rfl
abbrev Rq.obj(r:Rq t u)(d:t.obj=true):u.obj=true:=by
 cases r with
 |same=>exact d
 |ba=>rfl
 |na=>rfl
 |nb=>rfl
abbrev Gd.same(d:nm∈[T3,Qx])(f:Gd inn Γ a t)(g:Gd inn Γ b u)(i:t.obj=true)(k:u.obj=true):Gd inn Γ (.mk 16 n nm IY of (0,0) [a,b]) A3:=.mk rfl (.two f g) λx m=>by
 refine⟨(0,0),?_⟩;simp only[qk,_3,aAj]at d;have:T9 x Γ 16 nm IY [t,u]=RT (t.is u||(t.obj&&u.obj)) A3 (0,0):=by rcases d with rfl|rfl<;>rfl
 rw[this,i,k,Bool.and_self,Bool.or_true];rfl
abbrev Gd.asx(d:ty=tA∨ty=tB)(g:Gd inn Γ a t)(i:(t.cls||t.is Ec)=true):Gd inn Γ (.mk 19 n nm ty of (0,0) [a]) ty:=.mk (by rcases d with rfl|rfl<;>rfl) (.one g) λx f=>by
 refine⟨(0,0),?_⟩;show RT ((t.cls||t.is Ec)&&BD x.tb ty) ty (0,0)=_;rw[i];rcases d with rfl|rfl
 .rw[f.tb.kA];rfl
 .rw[f.tb.kB];rfl
abbrev Gd.isx(d:ty=tA∨ty=tB)(g:Gd inn Γ a t)(i:(t.cls||t.is Ec)=true):Gd inn Γ (.mk 20 n nm ty of (0,0) [a]) A3:=.mk (by rcases d with rfl|rfl<;>rfl) (.one g) λx f=>by
 refine⟨(0,0),?_⟩;show RT ((t.cls||t.is Ec)&&BD x.tb ty) A3 (0,0)=_;rw[i];rcases d with rfl|rfl
 .rw[f.tb.kA];rfl
 .rw[f.tb.kB];rfl
end
def bF(d:Nat):Nat:=if d=2 then 0 else if d=4 then 2 else if d=5 then 2 else 1
mutual
def Tt.cz:Tt->Nat
 |.mk d _ _ es th el=>OG es+F2 th+F2 el+bF d
def F2:aAt->Nat
 |[]=>0
 |x::l=>x.cz+F2 l
end
abbrev AEN(a b:aAt):F2 (a++b)=F2 a+F2 b:=by
 induction a with
 |nil=>simp[F2]
 |cons x l d=>simp only[List.cons_append,F2,d];omega
def GW(t:Ty):Prop:=t=BY∨t=A3∨t=tA∨t=tB∨t=wN
abbrev TI.AWk(h:TI tb)(d:GW t):BD tb t=true:=by
 rcases d with rfl|rfl|rfl|rfl|rfl
 .exact jX a_ a_
 .exact jX a_ a_
 .exact h.kA
 .exact h.kB
 .exact jX a_ a_
def pP(inn:St)(ret:Ty)(Γ Γ':aAm)(k:Nat)(s:Tt):Prop:=∀x,kS inn x->x.ret=ret->∀n,n+k<=200->∃s' n',Tq x s (Γ,n)=some (s',(Γ',n'))/\n'<=n+k
def qZ(inn:St)(ret:Ty)(Γ:aAm)(k:Nat)(l:aAt):Prop:=∀x,kS inn x->x.ret=ret->∀n,n+k<=200->∃l' n',Xr x l (Γ,n)=some (l',n')/\n'<=n+k
def aT(inn:St)(ret:Ty)(Γ Γ':aAm)(k:Nat)(l:aAt):Prop:=∀x,kS inn x->x.ret=ret->∀n,n+k<=200->∃l' n',(∀r,Xr x (l++r) (Γ,n)=(Xr x r (Γ',n')).map λq=>(l'++q.1,q.2))/\n'<=n+k
variable{k2:Nat}{l:List Tt}
section
variable{inn:St}{ret:Ty}{Γ Γ':List BU}{nm:St}{ty:Ty}
abbrev yD{es f:aAq}{g:Gs}(m:decide (d=1)=true->BD x.tb ty=true)(p:jj x Γ es=some f)(q:yb x d nm ty (f.map Te.of) (Γ,n)=some g)(k:d≠4/\d≠5)(i:sY d es=true):
 Tq x (.mk d nm ty es [] []) (Γ,n)=some (.mk d nm ty f [] [],g):=by
 rw[Tq];have:(decide (d=1)&& !BD x.tb ty)=false:=by
  cases h:decide (d=1)with
  |false=>rfl
  |true=>rw[m h];rfl
 rw[this,i,p];show((yb x d nm ty (f.map Te.of) (Γ,n)).bind _)=_;rw[q];show(bif decide (d=4)||decide (d=5)then _ else _)=_;rw[eg k.1,eg k.2];rfl
abbrev pP.lt(f:GW ty)(i:Gd inn Γ a u)(hu:Rq ty u)(k:Cg nm Γ=none)(m:OG [a]<=900:=by first|omega|(simp[Te.cz,OG,pZ]<;>omega)):pP inn ret Γ (Γ++[⟨nm,ty⟩]) 1 (.mk 1 nm ty [a] [] []):=λx d _ n w=>by have⟨p,q,v⟩:=WK.one i x d;refine⟨_,_,yD (λ_=>d.tb.AWk f) q (g:=(Γ++[⟨nm,ty⟩],n+1)) ?_ a_ (by unfold sY;rw[ui m];rfl),ea _⟩;rw[v];show(bif fitsT x.tb u ty then ql ⟨nm,ty⟩ (Γ,n)else none)=_;rw[hu.fits d.tb];show(bif (Cg nm Γ).isNone&&decide (n<200)then _ else none)=_;rw[k,ui (show n<200 by omega)];rfl
abbrev pP.put{b:Te}(i:Gd inn Γ a t)(k:Gd inn Γ b u)(hu:Rq t u)(d:ALw [a,b]=true:=by rfl)(m:OG [a,b]<=900:=by first|omega|(simp[Te.cz,OG,pZ]<;>omega)):pP inn ret Γ Γ 0 (.mk 2 nm ty [a,b] [] []):=λx f _ n w=>by have⟨p,q,v⟩:=WK.two i k x f;refine⟨_,_,yD (λh=>by cases h) q (g:=(Γ,n)) ?_ a_ (by unfold sY;rw[d,ui m];rfl),ea _⟩;rw[v];show(bif fitsT x.tb u t then some (Γ,n)else none)=_;rw[hu.fits f.tb];rfl
abbrev pP.ask(d:Gd inn Γ a t)(f:OG [a]<=900:=by first|omega|(simp[Te.cz,OG,pZ]<;>omega)):pP inn ret Γ Γ 0 (.mk 3 nm ty [a] [] []):=λx i _ n q=>by have⟨k,m,p⟩:=WK.one d x i;refine⟨_,_,yD (λh=>by cases h) m (g:=(Γ,n)) ?_ a_ (by unfold sY;rw[ui f];rfl),ea _⟩;rw[p];rfl
abbrev pP.rtn(f:Gd inn Γ a u)(hu:Rq ret u)(i:OG [a]<=900:=by first|omega|(simp[Te.cz,OG,pZ]<;>omega)):pP inn ret Γ Γ 0 (.mk 6 nm ty [a] [] []):=λx d k n v=>by have⟨m,p,q⟩:=WK.one f x d;refine⟨_,_,yD (λh=>by cases h) p (g:=(Γ,n)) ?_ a_ (by unfold sY;rw[ui i];rfl),ea _⟩;rw[q];show(bif fitsT x.tb u x.ret then some (Γ,n)else none)=_;rw[k,hu.fits d.tb];rfl
abbrev pP.prt(d:Gd inn Γ a BY)(f:OG [a]<=900:=by first|omega|(simp[Te.cz,OG,pZ]<;>omega)):pP inn ret Γ Γ 0 (.mk 7 nm ty [a] [] []):=λx i _ n q=>by have⟨k,m,p⟩:=WK.one d x i;refine⟨_,_,yD (λh=>by cases h) m (g:=(Γ,n)) ?_ a_ (by unfold sY;rw[ui f];rfl),ea _⟩;rw[p];rfl
abbrev pP.cond{th el:aAt}{k:Nat}(g:d=4∨d=5)(v:Gd inn Γ a A3)(w:qZ inn ret Γ k th)(y:qZ inn ret Γ k2 el)(A:th.length<=1000)(B:el.length<=1000)(C:OG [a]<=900:=by first|omega|(simp[Te.cz,OG,pZ]<;>omega)):pP inn ret Γ Γ (k+k2) (.mk d nm ty [a] th el):=λx i m n L=>by
 have⟨f,D,E⟩:=WK.one v x i;have⟨F,u,G,M⟩:=w x i m n a6;have⟨H,I,J,N⟩:=y x i m u a6;refine⟨.mk d nm ty f F H,I,?_,a6⟩;rw[Tq];have K:yb x d nm ty (f.map Te.of) (Γ,n)=some (Γ,n):=by rw[E];rcases g with rfl|rfl<;>rfl
 rw[show(decide (d=1)&& !BD x.tb ty)=false by rcases g with rfl|rfl<;>rfl,show sY d [a]=true by unfold sY;rw[ui C];rcases g with rfl|rfl<;>rfl,D];show((yb x d nm ty (f.map Te.of) (Γ,n)).bind _)=_;rw[K];show(bif decide (d=4)||decide (d=5)then bif szB th&&szB el then(Xr x th (Γ,n)).bind λp=>(Xr x el (Γ,p.2)).map λq=>(Tt.mk d nm ty f p.1 q.1,(Γ,q.2))else none else _)=_;rw[show(decide (d=4)||decide (d=5))=true by rcases g with rfl|rfl<;>rfl,G,show(szB th&&szB el)=true by unfold szB;rw[ui A,ui B];rfl];show((Xr x el (Γ,u)).map _)=_;rw[J];rfl
abbrev aT.nil:aT inn ret Γ Γ 0 []:=λx _ _ n _=>⟨[],n,λr=>by show Xr x r (Γ,n)=_;cases Xr x r (Γ,n)<;>rfl,ea _⟩
abbrev aT.snoc{d:aAm}{l:aAt}{s:Tt}{k:Nat}(h:aT inn ret Γ Γ' k l)(v:pP inn ret Γ' d k2 s):aT inn ret Γ d (k+k2) (l++[s]):=λx m p n A=>by
 have⟨g,u,w,B⟩:=h x m p n a6;have⟨f,i,y,C⟩:=v x m p u a6;refine⟨g++[f],i,λr=>?_,a6⟩;rw[y_,w];show(Xr x (s::r) (Γ',u)).map _=_;rw[Xr,y];show((Xr x r (d,i)).map λq=>(f::q.1,q.2)).map _=_;cases Xr x r (d,i)with
 |none=>rfl
 |some q=>show some (g++f::q.1,q.2)=some (g++[f]++q.1,q.2);rw[y_];rfl
abbrev aT.blk{l:aAt}{k:Nat}(h:aT inn ret Γ Γ' k l):qZ inn ret Γ k l:=λx d f n g=>by have⟨q,i,m,p⟩:=h x d f n g;have:=m [];rw[qs,Xr]at this;exact⟨_,i,this,p⟩
abbrev qZ.nil{k:Nat}:qZ inn ret Γ k []:=λx _ _ n _=>⟨[],n,by rw[Xr],Nat.le_add_right _ _⟩
abbrev pP.le{s:Tt}{k k':Nat}(h:pP inn ret Γ Γ' k s)(p:k<=k'):pP inn ret Γ Γ' k' s:=λx d f n q=>by have⟨g,i,m,u⟩:=h x d f n a6;exact⟨g,i,m,a6⟩
end
def bf(cls:St)(m:Tm):Prop:=(∀tb,TI tb->∃m',YZ tb cls m=some m')/\F2 m.body<=4028
abbrev AFK:∀(ps Γ:aAm) (n:Nat),(∀p∈ps,Cg p.nm Γ=none)->(ps.map BU.nm).Nodup->n+ps.length<=200->qu ps (Γ,n)=some (Γ++ps,n+ps.length)
 |[],Γ,n,_,_,_=>by rw[qs];rfl
 |p::ps,Γ,n,h,d,k=>by
  rw[j']at k;have m:ql p (Γ,n)=some (Γ++[p],n+1):=by unfold ql;rw[h p (u_ ..),ui (show n<200 by omega)];rfl
  show(ql p (Γ,n)).bind (qu ps)=_;rw[m];show qu ps (Γ++[p],n+1)=_;rw[rl,R_]at d;rw[AFK ps (Γ++[p]) (n+1) ?_ d.2 a6]
  .rw[y_,j'];show some (Γ++(p::ps),n+1+ps.length)=_;rw[show n+1+ps.length=n+(ps.length+1)by omega]
  .intro q i;have g:p.nm≠q.nm:=λe=>d.1 (by rw[e];exact _2 i);have u:∀l:aAm,Cg q.nm l=none->Cg q.nm (l++[p])=none:=by
    intro l;induction l with
    |nil=>
     intro _;show(bif decide (p.nm=q.nm)then _ else _)=none;rw[eg g];rfl
    |cons a l v=>
     intro f;have f:(bif decide (a.nm=q.nm)then some a.ty else Cg q.nm l)=none:=f;show(bif decide (a.nm=q.nm)then some a.ty else Cg q.nm (l++[p]))=none;cases d:decide (a.nm=q.nm)with
     |true=>rw[d]at f;cases f
     |false=>rw[d]at f;exact v f
   exact u Γ (h q (c_ _ i))
abbrev bf.mk{cls:St}{ps:aAm}{ret:Ty}{body:aAt}{k:Nat}{inn:St}(m:(ps.map BU.nm).Nodup)(p:ps.length+k<=200)(hi:inn≠(0,0)->st=false/\cls=inn)(u:qZ inn ret ps k body)(v:body.length<=1000)(d:F2 body<=4028):bf cls ⟨nm,st,ps,ret,body⟩:=⟨λtb f=>by have⟨x,y,w,A⟩:=u ⟨tb,cls,st,ret⟩ ⟨f,hi⟩ rfl ps.length p;unfold YZ;rw[show szB body=true from ui v];show ∃i,((qu ps ([],0)).bind λg=>(Xr ⟨tb,cls,st,ret⟩ body g).map λq=>({nm:=nm,st:=st,ps:=ps,ret:=ret,body:=q.1}:Tm))=some i;rw[AFK ps [] 0 (λ_ _=>rfl) m a6];show ∃i,((Xr ⟨tb,cls,st,ret⟩ body ([]++ps,0+ps.length)).map _)=some i;rw[_W,t_,w];exact⟨_,rfl⟩,d⟩
abbrev xv{cls:St}(h:TI tb):∀{ms:aAz},(∀m∈ms,bf cls m)->∃d,lE tb cls ms=some d
 |[],_=>⟨[],rfl⟩
 |m::ms,f=>by have⟨g,i⟩:=(f m (u_ ..)).1 tb h;have⟨d,k⟩:=xv h λx p=>f x (c_ _ p);refine⟨g::d,?_⟩;unfold lE;rw[i];show((lE tb cls ms).map _)=_;rw[k];rfl
def Wp(i:Nat):St:=(2,112+256*(97+i))
def Wf(k:Nat):St:=(3,118+256*(97+k/26%26)+65536*(97+k%26))
variable{j:Nat}
abbrev AOf{k:Nat}(d:j<676)(f:k<676)(h:Wf j=Wf k):j=k:=by have h:118+256*(97+j/26%26)+65536*(97+j%26)=118+256*(97+k/26%26)+65536*(97+k%26):=congrArg Prod.snd h;omega
abbrev AVl(i k:Nat):Wp i≠Wf k:=λh=>by have:(2:Nat)=3:=congrArg Prod.fst h;omega
abbrev AQR(h:Wp i=Wp j):i=j:=by have h:112+256*(97+i)=112+256*(97+j):=congrArg Prod.snd h;omega
abbrev zo:∀{Γ:aAm},(∀f∈Γ,f.nm≠s)->Cg s Γ=none
 |[],_=>rfl
 |f::l,h=>by show(bif decide (f.nm=s)then some f.ty else Cg s l)=none;rw[eg (h f (u_ ..))];exact zo λg d=>h g (c_ _ d)
abbrev tP{f:BU}:∀{Γ:aAm},(Γ.map BU.nm).Nodup->f∈Γ->Cg f.nm Γ=some f.ty
 |[],_,h=>by cases h
 |g::l,d,h=>by
  rw[rl,R_]at d;show(bif decide (g.nm=f.nm)then some g.ty else Cg f.nm l)=_;rcases qk.1 h with rfl|h
  .rw[ui rfl];rfl
  .rw[eg λe=>d.1 (by rw[e];exact _2 h)];exact tP d.2 h
structure Zf(Γ:List BU)(m:Nat):Prop where
 nm:∀f∈Γ,(∃i,f.nm=Wp i)∨∃j,j<=m/\f.nm=Wf j
 nd:(Γ.map BU.nm).Nodup
 ty:∀f∈Γ,GW f.ty
abbrev Zf.fresh{Γ:aAm}(h:Zf Γ m)(g:m+1<676):∀f∈Γ,f.nm≠Wf (m+1):=λf k e=>by
 rcases h.nm f k with⟨i,d⟩|⟨j,p,d⟩
 .exact AVl _ _ (d.symm.trans e)
 .have:=AOf a6 g (d.symm.trans e);omega
abbrev Zf.add{Γ:aAm}(h:Zf Γ m)(i:m+1<676)(k:GW t):Zf (Γ++[⟨Wf (m+1),t⟩]) (m+1)where
 nm f d:=by
  rcases q_.1 d with d|d
  .rcases h.nm f d with h|⟨j,u,p⟩
   .exact .inl h
   .exact .inr ⟨j,a6,p⟩
  .rw[ff.1 d];exact .inr ⟨m+1,ea _,rfl⟩
 nd:=by rw[wm,List.nodup_append];refine⟨h.nd,o6,λa q b g e=>?_⟩;obtain⟨f,d,rfl⟩:=_c.1 q;simp only[rl,List.map_nil,ff]at g;exact h.fresh i f d (e.trans g)
 ty f d:=by
  rcases q_.1 d with d|d
  .exact h.ty f d
  .rw[ff.1 d];exact k
end Go.RL
