/- Part of a proof; nothing is assumed. -/
import Derived.Test.YtmbhlmocojopaaaGreatDoorConB
import Derived.Test.YtmbhlmocojopaaaGreatDoorEngE
set_option linter.unusedVariables false
set_option linter.unusedSimpArgs false
namespace Go.RL
open Go.DK
set_option maxRecDepth 100000
inductive Te where
 |mk (kind num:Nat) (nm:St) (ty of:Ty) (own:St) (kids:List Te)
inductive Tt where
 |mk (does:Nat) (nm:St) (ty:Ty) (es:List Te) (th el:List Tt)
structure Tm where
 nm:St
 st:Bool
 ps:List DJ
 ret:Ty
 body:List Tt
structure Tc where
 nm:St
 sup:St
 fs:List DJ
 ms:List Tm
def Te.kind:Te->Nat|.mk k _ _ _ _ _ _=>k
def Te.of:Te->Ty|.mk _ _ _ _ of _ _=>of
def Te.own:Te->St|.mk _ _ _ _ _ w _=>w
def KS(v:V):Prop:=NQ v v=true/\(∀id o m c e,v=.sl id o m c e->m<=c)/\∀b o m c e,v=.rsl b o m c e->m<=c
theorem AAI(q:IntKind)(a:Int):NQ (.int q a 0) (.int q a 0)=true:=by simp[NQ,AOI,Bv,UD,jI]
theorem ny(l c:Nat):NQ (.str l c) (.str l c)=true:=by simp[NQ,ANs,Bv]
theorem AE1(b:Bool):NQ (.bool b) (.bool b)=true:=by cases b<;>rfl
theorem AVJ(a b c d e:Nat):NQ (.sl a b c d e) (.sl a b c d e)=true:=by simp[NQ,AQg,Bv]
theorem ARJ(a b c d:Nat):NQ (.OT a b c d) (.OT a b c d)=true:=by simp[NQ,ALF,Bv]
theorem AHh{a b c d e:Nat}(h:c<=d):KS (.sl a b c d e):=⟨AVJ ..,λ_ _ _ _ _ h'=>(by cases h';exact h),by simp⟩
theorem AWh(a b c d:Nat):KS (.OT a b c d):=⟨ARJ ..,λ_ _ _ _ _ h=>(by cases h),by simp⟩
theorem AIl:KS .Ag:=⟨rfl,λ_ _ _ _ _ h=>(by cases h),by simp⟩
theorem vsL:∀L:LV,(∀v∈L,NQ v v=true)->ADp L L=true
 |[],_=>rfl
 |v::L,h=>by
  show band (NQ v v) (ADp L L)=true
  rw[h v (List.mem_cons_self ..),vsL L λw hw=>h w (List.mem_cons_of_mem _ hw)];rfl
theorem AAZ{L:LV}(h:∀v∈L,NQ v v=true):Ar (.agg L) (.agg L)=true:=vsL L h
def LM(kind num:Nat)(nm:St)(ty of:Ty)(own:St)(line col:Nat)(v:V):LV:=
 [.int .i64 (.ofNat kind) 0,.int .i64 (.ofNat line) 0,.int .i64 (.ofNat col) 0,.int .i64 (.ofNat num) 0,nm.v,ty.nm.v,.bool ty.arr,v,of.nm.v,.bool of.arr,own.v]
mutual
inductive FQ(G:AX)(H:Heap)(A:Nat->Prop):LV->Te->Prop where
 |mk (kind num:Nat) (nm:St) (ty of:Ty) (own:St) (line col:Nat) {v:V} {cs:Dy} {kids:List Te} (he:El G H v 11 cs) (hv:KS v) (ha:∀id,v.D9=some id->A id) (hc:Gh G H A cs kids):
  FQ G H A (LM kind num nm ty of own line col v) (.mk kind num nm ty of own kids)
inductive Gh(G:AX)(H:Heap)(A:Nat->Prop):Dy->List Te->Prop where
 |nil:Gh G H A [] []
 |cons {c:LV} {e:Te} {cs:Dy} {es:List Te} (h:FQ G H A c e) (t:Gh G H A cs es):Gh G H A (c::cs) (e::es)
end
mutual
theorem FQ.mono{G:AX}{H H':Heap}{A B:Nat->Prop}(hA:∀id,A id->B id)(hs:∀id,A id->T.get H' id=T.get H id):∀{c:LV} {e:Te},FQ G H A c e->FQ G H' B c e
 |_,_,.mk kind num nm ty of own line col he hv ha hc=>.mk kind num nm ty of own line col (he.same λid hid=>hs id (ha id hid)) hv (λid hid=>hA id (ha id hid)) (Gh.mono hA hs hc)
theorem Gh.mono{G:AX}{H H':Heap}{A B:Nat->Prop}(hA:∀id,A id->B id)(hs:∀id,A id->T.get H' id=T.get H id):∀{cs:Dy} {es:List Te},Gh G H A cs es->Gh G H' B cs es
 |_,_,.nil=>.nil
 |_,_,.cons h t=>.cons (FQ.mono hA hs h) (Gh.mono hA hs t)
end
theorem Gh.app{G:AX}{H:Heap}{A:Nat->Prop}:∀{cs:Dy} {es:List Te} {cs':Dy} {es':List Te},Gh G H A cs es->Gh G H A cs' es'->Gh G H A (cs++cs') (es++es')
 |_,_,_,_,.nil,h=>h
 |_,_,_,_,.cons h t,h'=>.cons h (t.app h')
theorem Gh.len{G:AX}{H:Heap}{A:Nat->Prop}:∀{cs:Dy} {es:List Te},Gh G H A cs es->cs.length=es.length
 |_,_,.nil=>rfl
 |_,_,.cons h t=>by simp[t.len]
theorem Gh.at{G:AX}{H:Heap}{A:Nat->Prop}:∀{cs:Dy} {es:List Te},Gh G H A cs es->∀{i:Nat} {e:Te},es[i]? =some e->∃c,cs[i]? =some c/\FQ G H A c e
 |_,_,.nil,i,e,h=>by simp at h
 |_,_,.cons h t,0,e,he=>by cases he;exact⟨_,rfl,h⟩
 |_,_,.cons h t,i+1,e,he=>by obtain⟨c,h1,h2⟩:=t.at (i:=i) he;exact⟨c,h1,h2⟩
section
variable{G:AX}{H:Heap}{A:Nat->Prop}{c:LV}{e:Te}
theorem FQ.len(h:FQ G H A c e):c.length=11:=by cases h;rfl
end
def QI(G:AX)(H:Heap)(A:Nat->Prop)(v:V)(es:List Te):Prop:=∃cs,El G H v 11 cs/\KS v/\jc v=true/\Bl v=[v]/\(∀id,v.D9=some id->A id)/\Gh G H A cs es
theorem QI.mono{G:AX}{H H':Heap}{A B:Nat->Prop}{v:V}{es:List Te}(h:QI G H A v es)(hA:∀id,A id->B id)(hs:∀id,A id->T.get H' id=T.get H id):QI G H' B v es:=by
 obtain⟨cs,h1,h2,h3,h4,h5,h6⟩:=h
 exact⟨cs,h1.same λid hid=>hs id (h5 id hid),h2,h3,h4,λid hid=>hA id (h5 id hid),h6.mono hA hs⟩
theorem QI.nil{G:AX}{H:Heap}{A:Nat->Prop}:QI G H A .Ag []:=⟨[],ADy,AIl,rfl,rfl,(λ_ h=>by cases h),.nil⟩
theorem FQ.of{G:AX}{H:Heap}{A:Nat->Prop}{kind num:Nat}{nm:St}{ty of:Ty}{own:St}{line col:Nat}{v:V}{kids:List Te}(h:QI G H A v kids):FQ G H A (LM kind num nm ty of own line col v) (.mk kind num nm ty of own kids):=by
 obtain⟨cs,h1,h2,_,_,h3,h4⟩:=h
 exact .mk kind num nm ty of own line col h1 h2 h3 h4
def ttC(does:Nat)(line col:Nat)(nm:St)(ty:Ty)(ve vt vl:V):LV:=
 [.int .i64 (.ofNat does) 0,.int .i64 (.ofNat line) 0,.int .i64 (.ofNat col) 0,nm.v,ty.nm.v,.bool ty.arr,ve,vt,vl]
mutual
inductive XU(G:AX)(H:Heap)(A:Nat->Prop):LV->Tt->Prop where
 |mk (does:Nat) (nm:St) (ty:Ty) (line col:Nat) {ve vt vl:V} {es:List Te} {th el:List Tt} {ct cl:Dy} (he:QI G H A ve es) (ht:El G H vt 9 ct) (kt:KS vt) (at':∀id,vt.D9=some id->A id) (st:IW G H A ct th)
  (hl:El G H vl 9 cl) (kl:KS vl) (al:∀id,vl.D9=some id->A id) (sl:IW G H A cl el):XU G H A (ttC does line col nm ty ve vt vl) (.mk does nm ty es th el)
inductive IW(G:AX)(H:Heap)(A:Nat->Prop):Dy->List Tt->Prop where
 |nil:IW G H A [] []
 |cons {c:LV} {e:Tt} {cs:Dy} {es:List Tt} (h:XU G H A c e) (t:IW G H A cs es):IW G H A (c::cs) (e::es)
end
mutual
theorem XU.mono{G:AX}{H H':Heap}{A B:Nat->Prop}(hA:∀id,A id->B id)(hs:∀id,A id->T.get H' id=T.get H id):∀{c:LV} {e:Tt},XU G H A c e->XU G H' B c e
 |_,_,.mk does nm ty line col he ht kt a1 st hl kl a2 sl=>.mk does nm ty line col (he.mono hA hs) (ht.same λid hid=>hs id (a1 id hid)) kt (λid hid=>hA id (a1 id hid)) (IW.mono hA hs st)
  (hl.same λid hid=>hs id (a2 id hid)) kl (λid hid=>hA id (a2 id hid)) (IW.mono hA hs sl)
theorem IW.mono{G:AX}{H H':Heap}{A B:Nat->Prop}(hA:∀id,A id->B id)(hs:∀id,A id->T.get H' id=T.get H id):∀{cs:Dy} {es:List Tt},IW G H A cs es->IW G H' B cs es
 |_,_,.nil=>.nil
 |_,_,.cons h t=>.cons (XU.mono hA hs h) (IW.mono hA hs t)
end
theorem IW.app{G:AX}{H:Heap}{A:Nat->Prop}:∀{cs:Dy} {es:List Tt} {cs':Dy} {es':List Tt},IW G H A cs es->IW G H A cs' es'->IW G H A (cs++cs') (es++es')
 |_,_,_,_,.nil,h=>h
 |_,_,_,_,.cons h t,h'=>.cons h (t.app h')
theorem IW.len{G:AX}{H:Heap}{A:Nat->Prop}:∀{cs:Dy} {es:List Tt},IW G H A cs es->cs.length=es.length
 |_,_,.nil=>rfl
 |_,_,.cons h t=>by simp[t.len]
theorem IW.at{G:AX}{H:Heap}{A:Nat->Prop}:∀{cs:Dy} {es:List Tt},IW G H A cs es->∀{i:Nat} {e:Tt},es[i]? =some e->∃c,cs[i]? =some c/\XU G H A c e
 |_,_,.nil,i,e,h=>by simp at h
 |_,_,.cons h t,0,e,he=>by cases he;exact⟨_,rfl,h⟩
 |_,_,.cons h t,i+1,e,he=>by obtain⟨c,h1,h2⟩:=t.at (i:=i) he;exact⟨c,h1,h2⟩
theorem XU.len{G:AX}{H:Heap}{A:Nat->Prop}{c:LV}{e:Tt}(h:XU G H A c e):c.length=9:=by cases h;rfl
def U9(G:AX)(H:Heap)(A:Nat->Prop)(v:V)(sts:List Tt):Prop:=∃cs,El G H v 9 cs/\KS v/\jc v=true/\Bl v=[v]/\(∀id,v.D9=some id->A id)/\IW G H A cs sts
theorem U9.mono{G:AX}{H H':Heap}{A B:Nat->Prop}{v:V}{es:List Tt}(h:U9 G H A v es)(hA:∀id,A id->B id)(hs:∀id,A id->T.get H' id=T.get H id):U9 G H' B v es:=by
 obtain⟨cs,h1,h2,h3,h4,h5,h6⟩:=h
 exact⟨cs,h1.same λid hid=>hs id (h5 id hid),h2,h3,h4,λid hid=>hA id (h5 id hid),h6.mono hA hs⟩
theorem U9.nil{G:AX}{H:Heap}{A:Nat->Prop}:U9 G H A .Ag []:=⟨[],ADy,AIl,rfl,rfl,(λ_ h=>by cases h),.nil⟩
theorem XU.of{G:AX}{H:Heap}{A:Nat->Prop}{does line col:Nat}{nm:St}{ty:Ty}{ve vt vl:V}{es:List Te}{th el:List Tt}(he:QI G H A ve es)(ht:U9 G H A vt th)(hl:U9 G H A vl el):XU G H A (ttC does line col nm ty ve vt vl) (.mk does nm ty es th el):=by
 obtain⟨ct,h1,h0,_,_,h2,h3⟩:=ht
 obtain⟨cl,k1,k0,_,_,k2,k3⟩:=hl
 exact .mk does nm ty line col he h1 h0 h2 h3 k1 k0 k2 k3
def QZ(x:DJ):LV:=[x.nm.v,x.ty.nm.v,.bool x.ty.arr]
def AGn(G:AX)(H:Heap)(A:Nat->Prop)(v:V)(xs:List DJ):Prop:=El G H v 3 (xs.map QZ)/\KS v/\jc v=true/\Bl v=[v]/\(∀id,v.D9=some id->A id)
theorem AGn.mono{G:AX}{H H':Heap}{A B:Nat->Prop}{v:V}{xs:List DJ}(h:AGn G H A v xs)(hA:∀id,A id->B id)(hs:∀id,A id->T.get H' id=T.get H id):AGn G H' B v xs:=
 ⟨h.1.same λid hid=>hs id (h.2.2.2.2 id hid),h.2.1,h.2.2.1,h.2.2.2.1,λid hid=>hA id (h.2.2.2.2 id hid)⟩
def tmC(line col:Nat)(nm:St)(st:Bool)(vp:V)(ty:Ty)(vb:V):LV:=[.int .i64 (.ofNat line) 0,.int .i64 (.ofNat col) 0,nm.v,.bool st,vp,ty.nm.v,.bool ty.arr,vb]
inductive bJ(G:AX)(H:Heap)(A:Nat->Prop):LV->Tm->Prop where
 |mk (line col:Nat) {nm:St} {st:Bool} {ty:Ty} {ps:List DJ} {bd:List Tt} {vp vb:V} (hp:AGn G H A vp ps) (hb:U9 G H A vb bd):bJ G H A (tmC line col nm st vp ty vb) ⟨nm,st,ps,ty,bd⟩
theorem bJ.mono{G:AX}{H H':Heap}{A B:Nat->Prop}{c:LV}{m:Tm}(hA:∀id,A id->B id)(hs:∀id,A id->T.get H' id=T.get H id)(h:bJ G H A c m):bJ G H' B c m:=by
 cases h with
 |mk line col hp hb=>exact .mk line col (hp.mono hA hs) (hb.mono hA hs)
theorem bJ.len{G:AX}{H:Heap}{A:Nat->Prop}{c:LV}{m:Tm}(h:bJ G H A c m):c.length=8:=by cases h;rfl
inductive Lp(G:AX)(H:Heap)(A:Nat->Prop):Dy->List Tm->Prop where
 |nil:Lp G H A [] []
 |cons {c:LV} {e:Tm} {cs:Dy} {es:List Tm} (h:bJ G H A c e) (t:Lp G H A cs es):Lp G H A (c::cs) (e::es)
theorem Lp.mono{G:AX}{H H':Heap}{A B:Nat->Prop}(hA:∀id,A id->B id)(hs:∀id,A id->T.get H' id=T.get H id):∀{cs:Dy} {es:List Tm},Lp G H A cs es->Lp G H' B cs es
 |_,_,.nil=>.nil
 |_,_,.cons h t=>.cons (h.mono hA hs) (t.mono hA hs)
theorem Lp.app{G:AX}{H:Heap}{A:Nat->Prop}:∀{cs:Dy} {es:List Tm} {cs':Dy} {es':List Tm},Lp G H A cs es->Lp G H A cs' es'->Lp G H A (cs++cs') (es++es')
 |_,_,_,_,.nil,h=>h
 |_,_,_,_,.cons h t,h'=>.cons h (t.app h')
theorem Lp.len{G:AX}{H:Heap}{A:Nat->Prop}:∀{cs:Dy} {es:List Tm},Lp G H A cs es->cs.length=es.length
 |_,_,.nil=>rfl
 |_,_,.cons h t=>by simp[t.len]
theorem Lp.at{G:AX}{H:Heap}{A:Nat->Prop}:∀{cs:Dy} {es:List Tm},Lp G H A cs es->∀{i:Nat} {e:Tm},es[i]? =some e->∃c,cs[i]? =some c/\bJ G H A c e
 |_,_,.nil,i,e,h=>by simp at h
 |_,_,.cons h t,0,e,he=>by cases he;exact⟨_,rfl,h⟩
 |_,_,.cons h t,i+1,e,he=>by obtain⟨c,h1,h2⟩:=t.at (i:=i) he;exact⟨c,h1,h2⟩
def APp(G:AX)(H:Heap)(A:Nat->Prop)(v:V)(ms:List Tm):Prop:=∃cs,El G H v 8 cs/\KS v/\jc v=true/\Bl v=[v]/\(∀id,v.D9=some id->A id)/\Lp G H A cs ms
theorem APp.mono{G:AX}{H H':Heap}{A B:Nat->Prop}{v:V}{es:List Tm}(h:APp G H A v es)(hA:∀id,A id->B id)(hs:∀id,A id->T.get H' id=T.get H id):APp G H' B v es:=by
 obtain⟨cs,h1,h2,h3,h4,h5,h6⟩:=h
 exact⟨cs,h1.same λid hid=>hs id (h5 id hid),h2,h3,h4,λid hid=>hA id (h5 id hid),h6.mono hA hs⟩
def tcC(line col:Nat)(nm sup:St)(vf vm:V):LV:=[.int .i64 (.ofNat line) 0,.int .i64 (.ofNat col) 0,nm.v,sup.v,vf,vm]
inductive VR(G:AX)(H:Heap)(A:Nat->Prop):LV->Tc->Prop where
 |mk (line col:Nat) {nm sup:St} {fs:List DJ} {ms:List Tm} {vf vm:V} (hf:AGn G H A vf fs) (hm:APp G H A vm ms):VR G H A (tcC line col nm sup vf vm) ⟨nm,sup,fs,ms⟩
theorem VR.mono{G:AX}{H H':Heap}{A B:Nat->Prop}{c:LV}{m:Tc}(hA:∀id,A id->B id)(hs:∀id,A id->T.get H' id=T.get H id)(h:VR G H A c m):VR G H' B c m:=by
 cases h with
 |mk line col hf hm=>exact .mk line col (hf.mono hA hs) (hm.mono hA hs)
theorem VR.len{G:AX}{H:Heap}{A:Nat->Prop}{c:LV}{m:Tc}(h:VR G H A c m):c.length=6:=by cases h;rfl
theorem AL8(q:IntKind)(a b:Nat):B2.ev .leq (.int q (.ofNat a) 0) (.int q (.ofNat b) 0)=some (.bool (decide (a<=b))):=by
 show CO (band (keq q q) true) (rQ (ile (.ofNat a) (.ofNat b)))=_
 rw[aH,AJP,show band (keq q q) true=true by simp[UD],show decide (Int.ofNat a<=Int.ofNat b)=decide (a<=b)by rw[decide_eq_decide];show(a:Int)<=b↔_;omega];rfl
theorem wz(q:IntKind)(a b:Nat):B2.ev .gtr (.int q (.ofNat a) 0) (.int q (.ofNat b) 0)=some (.bool (decide (b<a))):=by
 show CO (band (keq q q) true) (rQ (ilt (.ofNat b) (.ofNat a)))=_
 rw[aH,aG,show band (keq q q) true=true by simp[UD],show decide (Int.ofNat b<Int.ofNat a)=decide (b<a)by rw[decide_eq_decide];show(b:Int)<a↔_;omega];rfl
theorem AXP(q:IntKind)(x y:Int):Dc (.one .int) false (.int q x 0) (.int q y 0)=some (.bool (decide (x=y))):=by
 have e:Dc (.one .int) false (.int q x 0) (.int q y 0)=ofB (UK (some (ieq x y)) λb=>some b):=by cases q<;>rfl
 rw[e,jI,show(x==y)=decide (x=y)by rw[Bool.eq_iff_iff];simp];cases decide (x=y)<;>rfl
theorem ASX(q:IntKind)(x y:Int):Dc (.one .int) true (.int q x 0) (.int q y 0)=some (.bool (!decide (x=y))):=by
 have e:Dc (.one .int) true (.int q x 0) (.int q y 0)=ofB (UK (some (ieq x y)) λb=>some (Rt b)):=by cases q<;>rfl
 rw[e,jI,show(x==y)=decide (x=y)by rw[Bool.eq_iff_iff];simp];cases decide (x=y)<;>rfl
theorem CY(q:IntKind)(x y:Nat):Dc (.one .int) false (.int q (.ofNat x) 0) (.int q (.ofNat y) 0)=some (.bool (decide (x=y))):=by
 rw[AXP];congr 2;rw[decide_eq_decide];show(x:Int)=y↔_;omega
theorem lS(q:IntKind)(x y:Nat):Dc (.one .int) true (.int q (.ofNat x) 0) (.int q (.ofNat y) 0)=some (.bool (!decide (x=y))):=by
 rw[ASX];congr 3;rw[decide_eq_decide];show(x:Int)=y↔_;omega
theorem AWe{a b:Nat}(hb:b<=a)(h:a<9223372036854775808):B2.ev .sub (.int .i64 (.ofNat a) 0) (.int .i64 (.ofNat b) 0)=some (.int .i64 (.ofNat (a-b)) 0):=by
 show some (V.int .i64 (qh .i64 (AHJ (.ofNat a) (Int.neg (.ofNat b)))) 0)=_
 rw[YU,ACO]
 have e:Int.ofNat a+Int.neg (Int.ofNat b)=Int.ofNat (a-b):=by show(a:Int)+ -(b:Int)=((a-b:Nat):Int);omega
 rw[e,Zk (by show(-9223372036854775808:Int)<=((a-b:Nat):Int);omega) (by show((a-b:Nat):Int)<9223372036854775808;omega)]
theorem AGZ(q:IntKind)(a b:Nat):B2.ev .lss (.int q (.ofNat a) 0) (.int q (.ofNat b) 0)=some (.bool (decide (a<b))):=by
 show CO (band (keq q q) true) (rQ (ilt (.ofNat a) (.ofNat b)))=_
 rw[aH,aG,show band (keq q q) true=true by simp[UD],show decide (Int.ofNat a<Int.ofNat b)=decide (a<b)by rw[decide_eq_decide];show(a:Int)<b↔_;omega];rfl
def AJv:Nat->List V->List (Nat×X)
 |_,[]=>[]
 |i,v::vs=>(i,.c v)::AJv (i+1) vs
theorem AFr{z m:Nat}:∀(vs:List V) (i:Nat),i+vs.length<=m->(∀v∈vs,jc v=true/\(Bl v).length=z)->Zh (AJv i vs) E0 z m=true
 |[],_,_,_=>rfl
 |v::vs,i,h,hv=>by
  show band (band (jc v) (band (Nat.blt i m) (Nat.beq (len (Bl v)) z))) (Zh (AJv (i+1) vs) E0 z m)=true
  obtain⟨h1,h2⟩:=hv v (List.mem_cons_self ..)
  rw[h1,len_eq,h2,show Nat.blt i m=true by rw[Nat.blt_eq];simp at h;omega,EZ,AFr vs (i+1) (by simp at h;omega) λw hw=>hv w (List.mem_cons_of_mem _ hw)];rfl
theorem AH3:∀(vs:List V) (i:Nat) (t:T LV) (j:Nat),T.get (qP (AJv i vs) E0 t) j=if i<=j/\j<i+vs.length then(vs[j-i]?).map Bl else T.get t j
 |[],i,t,j=>by rw[if_neg (by simp)];rfl
 |v::vs,i,t,j=>by
  show T.get (qP (AJv (i+1) vs) E0 (T.set t i (Bl v))) j=_
  rw[AH3 vs (i+1)]
  by_cases h1:i+1<=j/\j<i+1+vs.length
  ·rw[if_pos h1,if_pos (by rw[List.length_cons];omega)]
   rw[show j-i=(j-(i+1))+1 by omega,List.getElem?_cons_succ]
  ·rw[if_neg h1,T.Rz]
   by_cases h2:i=j
   ·subst h2;rw[if_pos (by simp)];simp
   ·rw[if_neg h2,if_neg (by rw[List.length_cons];omega)]
theorem TD{G:AX}{z m:Nat}{Z:LV}{vs:List V}{H:Heap}{n:Nat}{P:KV}(hm:vs.length=m)(hz:0<z)(hv:∀v∈vs,jc v=true/\(Bl v).length=z)
 (h:∀H',Kp H n H' (n+1)->(∃t,T.get H' n=some (.arr z m t))->El G H' (.sl n 0 m m z) z (vs.map Bl)->P (.sl n 0 m m z) H' (n+1)):BZ (Ah z m Z (AJv 0 vs) E0) H n P:=by
 show Dj (Zh (AJv 0 vs) E0 z m) (FN n λn=>P (.sl n 0 m m z) (T.set H n (.arr z m (qP (AJv 0 vs) E0 (ANJ Z m .e)))) (Nat.succ n))
 rw[AFr vs 0 (by omega) hv,qx,CV]
 refine h _ ((Kp.refl H n).new _ (Nat.le_refl _) (by omega)) ⟨_,T.BX ..⟩ ⟨rfl,?_⟩
 show(Bool.rec (motive:=λ_=>Option Dy) none (DV _ n z m 0) (Nat.beq z z):Option Dy)=_
 rw[EZ]
 refine Zn _ _ _ (by simp[hm]) λi c hc=>?_
 have hlt:i<m:=by have:=(List.getElem?_eq_some_iff.1 hc).1;simp at this;omega
 rw[Nat.zero_add,AJm (T.BX ..) hz hlt,AH3,if_pos ⟨by omega,by omega⟩,Nat.sub_zero]
 simpa using hc
theorem AXq{G:AX}{H:Heap}{id o m z:Nat}{LS:Dy}(h:DV H id z m o=some LS):El G H (.OT id o m z) z LS:=by
 refine⟨rfl,?_⟩
 show(Bool.rec (motive:=λ_=>Option Dy) none (DV H id z m o) (Nat.beq z z):Option Dy)=some LS
 rw[EZ];exact h
theorem ATC{H:Heap}{id e c i:Nat}{t:T LV}{L new:LV}(hg:T.get H id=some (.arr e c t))(he:0<e)(hi:i<c)(ht:T.get t i=some L):stH H id (i*e) e new=some (T.set H id (.arr e c (T.set t i new))):=by
 unfold stH
 rw[hg]
 show DF (stB e c t (i*e) e new) _=_
 unfold stB
 have hd:Nat.div (i*e) e=i:=Nat.mul_div_cancel i he
 have hm:Nat.mod (i*e) e=0:=Nat.mul_mod_left i e
 rw[hd,show Nat.blt i c=true by rw[Nat.blt_eq];exact hi]
 show DF (DF (T.get t i) (stC new e c t (i*e) e)) _=_
 rw[ht,RN]
 unfold stC
 rw[hd,hm,EZ]
 rfl
theorem AYY{H:Heap}{id e c i n:Nat}{t:T LV}{L:LV}{v:V}{P:KV}(hg:T.get H id=some (.arr e c t))(he:0<e)(hi:i<c)(ht:T.get t i=some L)(hv:jc v=true)(hn:(Bl v).length=e)
 (h:∀H',T.get H' id=some (.arr e c (T.set t i (Bl v)))->(∀j,j≠id->T.get H' j=T.get H j)->P .undef H' n):BL e (.ptr id (i*e)) v H n P:=by
 unfold BL
 rw[hv,len_eq,hn,EZ,show stP (.ptr id (i*e)) H e (Bl v)=stH H id (i*e) e (Bl v)from rfl,ATC hg he hi ht]
 exact h _ (T.BX ..) λj hj=>T.Ap _ _ (Ne.symm hj)
theorem AXj{id o m z i:Nat}{q:IntKind}(h:i<m):Az z (.OT id o m z) (.int q (.ofNat i) 0)=some (.ptr id ((o+i)*z)):=by
 show CO (band (Nat.beq z z) (Nat.blt i m)) (En (Nat.mul (Nat.add o i) z) λo=>some (.ptr id o))=_
 rw[EZ,show Nat.blt i m=true by rw[Nat.blt_eq];exact h,DU];rfl
theorem AEu{G:AX}{H:Heap}{m n z bs:Nat}{v w:V}{LS NS:Dy}{k:KV}(h:Gr G H m z v LS)(hm:m<=n)(hn:∀id,v.D9=some id->id<n)(hw:elems w G H z=some NS)
 (hb:(LS.length+NS.length)*bs<=140737488355328)
 (hk:∀v' H',Gr G H' m z v' (LS++NS)->(∀id,id<n->v.D9≠some id->T.get H' id=T.get H id)->(∀id,v'.D9=some id->id=n)->k v' H' (n+1))
 (hk0:NS=[]->k v H n):O8 z bs v w G H n k:=by
 unfold O8
 rw[hw,Zq]
 cases h with
 |nil=>
  cases NS with
  |nil=>exact hk0 rfl
  |cons a NS=>
   show Nu z bs [] (a::NS) H n k
   unfold Nu
   rw[CV,CV,len_eq,len_eq,show Sz (Nat.add ([]:Dy).length (a::NS).length) bs=true from Zp hb,qx]
   have e:Nat.add ([]:Dy).length (a::NS).length=(a::NS).length:=Nat.zero_add _
   rw[e]
   refine hk _ _ ?_ (λid hid _=>T.Ap _ _ (by omega)) (λid hid=>by cases hid;rfl)
   refine .OT (LS:=a::NS) (T.BX ..) (Nat.le_refl _) (λi L hi=>?_) hm
   show T.get (IX (a::NS) 0 .e) i=some L
   have hlt:=(List.getElem?_eq_some_iff.1 hi).1
   rw[IY,if_pos ⟨Nat.zero_le _,by omega⟩];exact hi
 |OT hg hc ht hid=>
  rename_i id c t
  show Dj (Nat.beq z z) _
  rw[EZ,qx]
  cases NS with
  |nil=>exact hk0 rfl
  |cons a NS=>
   show Dz (T.get H id) (λb=>gW id 0 LS.length z bs (a::NS) H n k b)
   rw[hg,Zq]
   rw[AKS (Zp hb) hc,show LS.length+(a::NS).length=(LS++a::NS).length by rw[List.length_append]]
   refine hk _ _ ?_ (λj hj hne=>?_) (λj hj=>by cases hj;rfl)
   ·refine .OT (LS:=LS++a::NS) (T.BX ..) (Nat.le_refl _) (λi L hi=>?_) hm
    rw[IY]
    by_cases hlt:i<LS.length
    ·rw[if_neg (by omega)]
     rw[List.getElem?_append_left hlt]at hi
     exact ht i L hi
    ·rw[List.getElem?_append_right (by omega)]at hi
     have hlt2:=(List.getElem?_eq_some_iff.1 hi).1
     rw[if_pos ⟨by omega,by omega⟩];exact hi
   ·rw[T.Ap _ _ (by omega),T.Ap _ _ (by intro e;subst e;exact hne rfl)]
theorem AB{e:Option V}{v:V}{P:V->Prop}(h:e=some v)(hp:P v):AL e P:=by rw[h];exact hp
theorem Bd{v:V}{P:Prop}(h:Ar v v=true)(hp:P):Dj (Ar v v) P:=by rw[h];exact hp
theorem ATu{e:Option V}{a:V}{P:Prop}(h:e=some a)(hv:Ar a a=true)(hp:P):ACj (.bool true) true e a P:=by
 subst h
 show Dj (Ar a a) P
 rw[hv];exact hp
theorem ATA{e:Option V}{a:V}{P:Prop}(h:e=some a)(hv:Ar a a=true)(hp:P):ACj (.bool false) false e a P:=by
 subst h
 show Dj (Ar a a) P
 rw[hv];exact hp
theorem PV{e:Option V}{a:V}{P:V->Prop}(h:e=some a)(hp:P a):Ba (.bool true) true e P:=by rw[AU9];exact AB h hp
theorem XE{e:Option V}{a:V}{P:V->Prop}(h:e=some a)(hp:P a):Ba (.bool false) false e P:=by rw[AVk];exact AB h hp
theorem ACa{t:KV->Prop}{H:Heap}{n:Nat}{Q:KV}(hp:t Q):Ik (.bool true) true t H n Q:=hp
theorem AHC{t:KV->Prop}{H:Heap}{n:Nat}{Q:KV}(hp:t Q):Ik (.bool false) false t H n Q:=hp
theorem Bq{H:Heap}{n m b:Nat}{L0 L:LV}{P:KV}(g:T.get H b=some (one L0))(h0:L0.length=m)(h1:L.length=m)(hm:0<m)(h:∀H',T.get H' b=some (one L)->(∀j,j≠b->T.get H' j=T.get H j)->P .undef H' n):
 BL m (.ptr b 0) (.agg L) H n P:=by
 rw[RI g hm h0 h1];exact h _ (T.BX ..) λj hj=>T.Ap _ _ (Ne.symm hj)
theorem AbZ(a b c d e:Nat):Ar (.sl a b c d e) (.sl a b c d e)=true:=by
 show NQ (.sl a b c d e) (.sl a b c d e)=true
 simp[NQ,AQg,Bv]
theorem AZc(a b c d:Nat):Ar (.OT a b c d) (.OT a b c d)=true:=by
 show NQ (.OT a b c d) (.OT a b c d)=true
 simp[NQ,ALF,Bv]
theorem xq{G:AX}{H:Heap}{n id z bs:Nat}{t:T LV}{w:V}{a:LV}{NS:Dy}{k:KV}(hz:0<z)(hw:elems w G H z=some (a::NS))(hr:(a::NS).length*bs<=140737488355328)
 (hk:∀v' H',Gr G H' 0 z v' (a::NS)->(∀j,j<n->T.get H' j=T.get H j)->(∀i,v'.D9=some i->i=n)->k v' H' (n+1)):O8 z bs (.sl id 0 0 0 z) w G H n k:=by
 unfold O8
 rw[hw,Zq]
 have e0:AJj (.sl id 0 0 0 z) G z bs (a::NS) H n k=Bool.rec (motive:=λ_=>Prop) (Dz (DV H id z 0 0) λOS=>Nu z bs OS (a::NS) H n k) (Dz (T.get H id) λb=>zk id 0 0 0 z (0+(a::NS).length) (a::NS) H n k b) (Nat.ble (0+(a::NS).length) 0):=by
  show Dj (Nat.beq z z) (FN (Nat.add 0 (len (a::NS))) λneed=>Bool.rec (motive:=λ_=>Prop) (Dz (DV H id z 0 0) λOS=>Nu z bs OS (a::NS) H n k) (Dz (T.get H id) λb=>zk id 0 0 0 z need (a::NS) H n k b) (Nat.ble need 0))=_
  rw[EZ,qx,CV,len_eq];rfl
 rw[e0,show Nat.ble (0+(a::NS).length) 0=false by rw[Bool.eq_false_iff];intro hc;rw[Nat.ble_eq]at hc;simp at hc]
 show Dz (some []) (λOS=>Nu z bs OS (a::NS) H n k)
 rw[Zq]
 unfold Nu
 rw[CV,CV,len_eq,len_eq,show Sz (Nat.add ([]:Dy).length (a::NS).length) bs=true from Zp (by rw[show Nat.add ([]:Dy).length (a::NS).length=(a::NS).length from Nat.zero_add _];exact hr),qx]
 have e:Nat.add ([]:Dy).length (a::NS).length=(a::NS).length:=Nat.zero_add _
 rw[e]
 refine hk _ _ ?_ (λj hj=>T.Ap _ _ (by omega)) (λi hi=>by cases hi;rfl)
 refine .OT (LS:=a::NS) (T.BX ..) (Nat.le_refl _) (λi L hi=>?_) (Nat.zero_le _)
 show T.get (IX (a::NS) 0 .e) i=some L
 have hlt:=(List.getElem?_eq_some_iff.1 hi).1
 rw[IY,if_pos ⟨Nat.zero_le _,by omega⟩];exact hi
inductive Sk(H:Heap)(z:Nat)(A:Nat->Prop):V->Dy->Prop where
 |nil:Sk H z A .Ag []
 |emp {id:Nat} {t:T LV} (hg:T.get H id=some (.arr z 0 t)) (ha:A id):Sk H z A (.sl id 0 0 0 z) []
 |OT {id c:Nat} {t:T LV} {LS:Dy} (hg:T.get H id=some (.arr z c t)) (hc:LS.length<=c) (ht:∀i L,LS[i]? =some L->T.get t i=some L) (ha:A id):Sk H z A (.OT id 0 LS.length z) LS
section
variable{G:AX}{H H':Heap}{z n:Nat}{A B:Nat->Prop}{v:V}{LS:Dy}
theorem Sk.own(h:Sk H z A v LS){id:Nat}(hid:v.D9=some id):A id:=by cases h<;>cases hid<;>assumption
theorem Sk.mono(h:Sk H z A v LS)(hA:∀id,A id->B id)(hs:∀id,A id->T.get H' id=T.get H id):Sk H' z B v LS:=by
 cases h with
 |nil=>exact .nil
 |emp hg ha=>exact .emp ((hs _ ha).trans hg) (hA _ ha)
 |OT hg hc ht ha=>exact .OT ((hs _ ha).trans hg) hc ht (hA _ ha)
theorem Sk.PW(h:Sk H z A v LS)(hA:∀id,v.D9=some id->B id)(hs:∀id,v.D9=some id->T.get H' id=T.get H id):Sk H' z B v LS:=by
 cases h with
 |nil=>exact .nil
 |emp hg ha=>exact .emp ((hs _ rfl).trans hg) (hA _ rfl)
 |OT hg hc ht ha=>exact .OT ((hs _ rfl).trans hg) hc ht (hA _ rfl)
theorem Sk.el(h:Sk H z A v LS)(hz:0<z):El G H v z LS:=by
 cases h with
 |nil=>exact⟨rfl,rfl⟩
 |emp hg ha=>
  refine⟨rfl,?_⟩
  show(Bool.rec (motive:=λ_=>Option Dy) none (DV H _ z 0 0) (Nat.beq z z):Option Dy)=some []
  rw[EZ];rfl
 |OT hg hc ht ha=>exact AXq (Zn _ _ _ rfl λi c hi=>by
  have hlt:=(List.getElem?_eq_some_iff.1 hi).1
  rw[Nat.zero_add,AJm hg hz (by omega)];exact ht i c hi)
theorem Sk.ok(h:Sk H z A v LS):jc v=true/\Bl v=[v]/\Ar v v=true:=by
 cases h with
 |nil=>exact⟨rfl,rfl,rfl⟩
 |emp=>exact⟨rfl,rfl,AbZ ..⟩
 |OT=>exact⟨rfl,rfl,AZc ..⟩
theorem Sk.put{i:Nat}{q:IntKind}{w:V}{P:KV}(h:Sk H z A v LS)(hz:0<z)(hi:i<LS.length)(hw:jc w=true)(hn:(Bl w).length=z)
 (hk:∀H',Sk H' z A v (LS.set i (Bl w))->(∀j,v.D9≠some j->T.get H' j=T.get H j)->P .undef H' n):AL (Az z v (.int q (.ofNat i) 0)) λp=>BL z p w H n P:=by
 cases h with
 |nil=>simp at hi
 |emp=>simp at hi
 |OT hg hc ht ha=>
  rename_i id c t
  refine AB (AXj hi) ?_
  rw[Nat.zero_add]
  refine AYY hg hz (by omega) (ht i _ (List.getElem?_eq_getElem hi)) hw hn λH' g s=>?_
  refine hk H' ?_ λj hj=>s j λe=>hj (by rw[e];rfl)
  have hl:(LS.set i (Bl w)).length=LS.length:=by simp
  rw[<-hl]
  refine .OT g (by rw[hl];exact hc) (λj L hj=>?_) ha
  by_cases e:i=j
  ·subst e
   rw[List.getElem?_set_self hi]at hj
   rw[T.BX];exact hj
  ·rw[List.getElem?_set_ne e]at hj
   rw[T.Ap _ _ e];exact ht j L hj
theorem Sk.app{bs m:Nat}{c:V}{P:KV}{Z:LV}(h:Sk H z A v LS)(hn:∀id,v.D9=some id->id<n)(hz:0<z)(hok:jc c=true)(hc:(Bl c).length=z)(hb:(LS.length+1)*bs<=140737488355328)
 (hk:∀v' H',(∀B:Nat->Prop,B (n+1)->Sk H' z B v' (LS++[Bl c]))->(∀id,id<n->v.D9≠some id->T.get H' id=T.get H id)->v'.D9=some (n+1)->P v' H' (n+2)):
 BZ (Ah z 1 Z [(0,.c c)] E0) H n λw H n=>O8 z bs v w G H n P:=by
 refine TD (G:=G) (vs:=[c]) rfl hz (λv hv=>by simp at hv;subst hv;exact⟨hok,hc⟩) λH6 f6 _ hel=>?_
 have fin:∀{v':V} {H7:Heap},Gr G H7 0 z v' (LS++[Bl c])->(∀id,v'.D9=some id->id=n+1)->v'.D9=some (n+1)/\∀B:Nat->Prop,B (n+1)->Sk H7 z B v' (LS++[Bl c]):=by
  intro v' H7 hgr hlo
  generalize hX:LS++[Bl c]=X at hgr
  cases hgr with
  |nil=>simp at hX
  |OT hg hc ht hid=>
   have e:=hlo _ rfl
   subst e
   exact⟨rfl,λB hB=>.OT hg hc ht hB⟩
 cases h with
 |nil=>
  refine AEu (m:=0) .nil (by omega) (λ_ h=>by cases h) hel.2 hb ?_ (λh=>by cases h)
  intro v' H7 hgr hsame hlo
  obtain⟨q1,q2⟩:=fin (v':=v') hgr hlo
  exact hk v' H7 q2 (λid h1 h2=>(hsame id (by omega) h2).trans (f6.same id h1)) q1
 |emp hg ha=>
  rename_i id t
  have hid:=hn id rfl
  refine xq (t:=t) hz hel.2 (by simpa using hb) ?_
  intro v' H7 hgr hsame hlo
  obtain⟨q1,q2⟩:=fin (v':=v') hgr hlo
  exact hk v' H7 q2 (λid h1 h2=>(hsame id (by omega)).trans (f6.same id h1)) q1
 |OT hg hc' ht ha=>
  rename_i id c' t
  have hid:=hn id rfl
  have hgr:Gr G H6 0 z (.OT id 0 LS.length z) LS:=.OT ((f6.same id hid).trans hg) hc' ht (Nat.zero_le _)
  refine AEu (m:=0) hgr (by omega) (λj h=>by cases h;omega) hel.2 hb ?_ (λh=>by cases h)
  intro v' H7 hgr hsame hlo
  obtain⟨q1,q2⟩:=fin (v':=v') hgr hlo
  exact hk v' H7 q2 (λid h1 h2=>(hsame id (by omega) h2).trans (f6.same id h1)) q1
end
theorem Ty.wM{a b:Ty}:a.is b=true↔a=b:=by
 cases a with
 |mk n r=>
 cases b with
 |mk m s=>
 simp only[Ty.is,Bool.and_eq_true,decide_eq_true_eq,beq_iff_eq,Ty.mk.injEq]
 constructor
 ·rintro⟨⟨h1,h2⟩,h3⟩;exact⟨Prod.ext h1 h2,h3⟩
 ·rintro⟨rfl,rfl⟩;exact⟨⟨rfl,rfl⟩,rfl⟩
theorem Ty.oz(a:Ty):a.is a=true:=Ty.wM.2 rfl
def Cb:Ty:=⟨(3,7630441),false⟩
def BM:Ty:=⟨(4,1819242338),false⟩
def IE:Ty:=⟨(4,1819047278),false⟩
def Ty.cls(t:Ty):Bool:=isClass t.nm.1 t.nm.2 t.arr
def Ty.obj(t:Ty):Bool:=t.arr||(t.cls||t.is IE)
def AGH(fs:Tab)(a b:St):Bool:=AAx b (above fs a).1
def fitsT(fs:Tab)(a b:Ty):Bool:=bif a.is b then true else bif a.is IE then b.obj else a.cls&&(b.cls&&AGH fs a.nm b.nm)
def Whole(fs:Tab):Prop:=∀s c,Ie fs s=some c->(above fs s).2=true
section
variable{fs:Tab}(hw:Whole fs)
include hw
end
def Upper(fs:Tab):Prop:=∀s c,Ie fs s=some c->upper s.1 s.2=true
section
variable{fs:Tab}(hw:Whole fs)
include hw
variable(hu:Upper fs)
include hu
end
def AHg(t:Ty):Ty:=⟨t.nm,false⟩
section
variable{fs:Tab}(hw:Whole fs)
include hw
end
theorem Zl{G:AX}{H:Heap}{n:Nat}{k:KV}(hk:∀H' n',Kp H n H' n'->k IE.v H' n'):Runs F G OY [] H n k:=by
 refine go0 (AGU BK G) ?_
 delta zY
 simp only[go_sem,Nat.reduceAdd,show CZ [.str 0 0,.bool false] [(0,1,.c (.str 4 1819047278))]=some (.agg [.str 4 1819047278,.bool false])from rfl]
 exact hk _ _ (((Kp.refl H n).new (m:=n+1) _ (Nat.le_refl _) (by omega)).new _ (Nat.le_refl _) (Nat.le_refl _))
theorem JL{G:AX}{H:Heap}{n:Nat}{k:KV}(hk:∀H' n',Kp H n H' n'->k Cb.v H' n'):Runs F G BN [] H n k:=by
 refine go0 (AMS BK G) ?_
 delta AHf
 simp only[go_sem,Nat.reduceAdd,show CZ [.str 0 0,.bool false] [(0,1,.c (.str 3 7630441))]=some (.agg [.str 3 7630441,.bool false])from rfl]
 exact hk _ _ (((Kp.refl H n).new (m:=n+1) _ (Nat.le_refl _) (by omega)).new _ (Nat.le_refl _) (Nat.le_refl _))
theorem NJ{G:AX}{H:Heap}{n:Nat}{k:KV}(hk:∀H' n',Kp H n H' n'->k BM.v H' n'):Runs F G DR [] H n k:=by
 refine go0 (ALQ BK G) ?_
 delta AFi
 simp only[go_sem,Nat.reduceAdd,show CZ [.str 0 0,.bool false] [(0,1,.c (.str 4 1819242338))]=some (.agg [.str 4 1819242338,.bool false])from rfl]
 exact hk _ _ (((Kp.refl H n).new (m:=n+1) _ (Nat.le_refl _) (by omega)).new _ (Nat.le_refl _) (Nat.le_refl _))
theorem DZ{G:AX}{H:Heap}{i:Nat}{t:Ty}(h:T.get H i=some (one t.cells)):Ad 2 (.ptr i 0) G H=some t.v:=BI h (by omega) rfl
theorem Dk(i o:Nat):AU 0 (.ptr i o)=some (.ptr i o):=by simp only[go_sem];rfl
theorem ASc{G:AX}{t:Ty}{H:Heap}{n:Nat}{k:KV}(hk:∀H' n',Kp H n H' n'->k (AHg t).v H' n'):Runs F G Yz [t.v] H n k:=by
 refine go1 (ADO BK G) ?_
 delta rE
 refine DY λH1 f1 g1=>?_
 refine Au rfl λH2 f2 g2=>?_
 have g1':=f2.get g1 (by omega)
 simp only[go_sem,Nat.reduceAdd,AV (off:=0) g1' (v:=t.nm.v) rfl,show CZ [.str 0 0,.bool false] [(0,1,.c t.nm.v)]=some (.agg (AHg t).cells)from rfl]
 rw[RI (m:=2) g2 (by omega) rfl rfl,Cm (m:=2) (T.BX ..) (by omega) rfl]
 exact hk _ _ ((f1.trans f2).new _ (by omega) (Nat.le_refl _))
theorem AKG{G:AX}{t:Ty}(hl:t.nm.ok){H:Heap}{n:Nat}{k:KV}(hk:∀H' n',Kp H n H' n'->k (.bool t.cls) H' n'):Runs F G FC [t.v] H n k:=ACB hl hk
theorem Lu(t:Ty):Ar t.v t.v=true:=by
 show band (band (Nat.beq t.nm.1 t.nm.1) (Nat.beq t.nm.2 t.nm.2)) (band (AGX (.bool t.arr) t.arr) true)=true
 obtain⟨⟨l,c⟩,r⟩:=t
 cases r<;>simp[AGX,Bv]<;>rfl
theorem ATy:IE.nm.ok:=by intro h;cases h
theorem vK{G:AX}{t:Ty}(hl:t.nm.ok){H:Heap}{n:Nat}{k:KV}(hk:∀H' n',Kp H n H' n'->k (.bool t.obj) H' n'):Runs F G Kw [t.v] H n k:=by
 refine go1 (AAl BK G) ?_
 delta fP
 refine DY λH1 f1 g1=>?_
 unfold Ty.obj at hk
 simp only[go_sem,Nat.reduceAdd,AV (off:=1) g1 (v:=.bool t.arr) rfl]
 cases h1:t.arr with
 |true=>
  rw[h1]at hk
  simp only[go_sem]
  exact hk _ _ f1
 |false=>
  rw[h1]at hk
  simp only[go_sem,DZ g1]
  refine AKG hl λH2 n2 f2=>?_
  have f3:=f1.trans f2
  have g2:=f2.get g1 (by omega)
  cases h2:t.cls with
  |true=>
   rw[h2]at hk
   simp only[go_sem]
   exact hk _ _ f3
  |false=>
   rw[h2]at hk
   simp only[go_sem,DZ g2]
   refine Zl λH4 n4 f4=>?_
   have f5:=f3.trans f4
   have g4:=f4.get g2 (by have:=f2.le;omega)
   refine ATA (DZ g4) (Lu t) ?_
   simp only[go_sem,ZJ]
   exact hk _ _ f5
theorem ATI{G:AX}{H:Heap}{n n0 t a b:Nat}{fs:Tab}(h:TabAt G H n0 t a b fs)(hn:n0<=n)(hfs:fs.length<=1000){x y:St}{k:KV}
 (hk:∀H' n',Kb b H n H' n'->k (.bool (AGH fs x y)) H' n'):Runs F G bF [.ptr t 0,x.v,y.v] H n k:=by
 refine go3 (zM BK G) ?_
 delta bQ
 have h:=h.kb (f:=⟨hn,λ_ _ _=>rfl,λh=>h⟩)
 refine ACZ h hfs λH2 n2 v f2 ho hlen=>?_
 simp only[go_sem]
 refine ABB (ho.el (by omega)) (by omega) ?_
 exact hk _ _ f2
theorem AIi{G:AX}{H:Heap}{n n0 t a b:Nat}{fs:Tab}(h:TabAt G H n0 t a b fs)(hn:n0<=n)(hfs:fs.length<=1000){x y:Ty}(hx:x.nm.ok)(hy:y.nm.ok){k:KV}
 (hk:∀H' n',Kb b H n H' n'->k (.bool (fitsT fs x y)) H' n'):Runs F G JD [.ptr t 0,x.v,y.v] H n k:=by
 refine go3 (ABQ BK G) ?_
 delta gZ
 have h:=h.kb (f:=⟨hn,λ_ _ _=>rfl,λh=>h⟩)
 have hbn:=h.bn
 unfold fitsT at hk
 refine DY λH1 f1 g1=>?_
 refine DY λH2 f2 g2=>?_
 have f3:=(f1.trans f2).kb (b:=b) hbn
 have g1:=f2.get g1 (by omega)
 simp only[go_sem,DZ g1,DZ g2,ZJ]
 cases h1:x.is y with
 |true=>
  rw[h1]at hk
  simp only[go_sem]
  exact hk _ _ f3
 |false=>
  rw[h1]at hk
  simp only[go_sem,DZ g1]
  refine Zl λH4 n4 f4=>?_
  have f5:=f3.trans (f4.kb (by omega))
  have g1:=f4.get g1 (by omega)
  have g2:=f4.get g2 (by omega)
  have hn4:=f4.le
  rw[DZ g1,AQ,Lu,qx]
  simp only[go_sem,ZJ]
  cases h2:x.is IE with
  |true=>
   rw[h2]at hk
   simp only[go_sem,DZ g2]
   refine vK hy λH6 n6 f6=>?_
   exact hk _ _ (f5.trans (f6.kb (by omega)))
  |false=>
   rw[h2]at hk
   simp only[go_sem,DZ g1]
   refine AKG hx λH6 n6 f6=>?_
   have f7:=f5.trans (f6.kb (by omega))
   have g1:=f6.get g1 (by omega)
   have g2:=f6.get g2 (by omega)
   have hn6:=f6.le
   cases h3:x.cls with
   |false=>
    rw[h3]at hk
    simp only[go_sem]
    exact hk _ _ f7
   |true=>
    rw[h3]at hk
    simp only[go_sem,DZ g2]
    refine AKG hy λH8 n8 f8=>?_
    have f9:=f7.trans (f8.kb (by omega))
    have g1:=f8.get g1 (by omega)
    have g2:=f8.get g2 (by omega)
    have hn8:=f8.le
    cases h4:y.cls with
    |false=>
     rw[h4]at hk
     simp only[go_sem]
     exact hk _ _ f9
    |true=>
     rw[h4]at hk
     simp only[go_sem,Nat.reduceAdd,AV (off:=0) g1 (v:=x.nm.v) rfl,AV (off:=0) g2 (v:=y.nm.v) rfl]
     refine ATI (h.kb f9) (Nat.le_refl _) hfs λH10 n10 f10=>?_
     exact hk _ _ (f9.trans f10)
theorem ACX{G:AX}{H:Heap}{n id z bs:Nat}{t:T LV}{w:V}{k:KV}(hg:T.get H id=some (.arr z 0 t))(hw:elems w G H z=some [])
 (hk:∀H',(∀j,T.get H' j=T.get H j)->k (.sl id 0 0 0 z) H' n):O8 z bs (.sl id 0 0 0 z) w G H n k:=by
 unfold O8
 rw[hw,Zq]
 have e0:AJj (.sl id 0 0 0 z) G z bs [] H n k=Bool.rec (motive:=λ_=>Prop) (Dz (DV H id z 0 0) λOS=>Nu z bs OS [] H n k) (Dz (T.get H id) λb=>zk id 0 0 0 z (0+([]:Dy).length) [] H n k b) (Nat.ble (0+([]:Dy).length) 0):=by
  show Dj (Nat.beq z z) (FN (Nat.add 0 (len ([]:Dy))) λneed=>Bool.rec (motive:=λ_=>Prop) (Dz (DV H id z 0 0) λOS=>Nu z bs OS [] H n k) (Dz (T.get H id) λb=>zk id 0 0 0 z need [] H n k b) (Nat.ble need 0))=_
  rw[EZ,qx,CV,len_eq];rfl
 rw[e0]
 show Dz (T.get H id) (λb=>zk id 0 0 0 z (0+0) [] H n k b)
 rw[hg,Zq]
 show Dj (band (Nat.beq z z) (Nat.ble (Nat.add 0 (0+0)) 0)) (k (.sl id 0 (0+0) 0 z) (T.set H id (.arr z 0 t)) n)
 rw[EZ,show Nat.ble (Nat.add 0 (0+0)) 0=true by rw[Nat.ble_eq];exact Nat.le_refl _]
 refine hk _ λj=>?_
 rw[T.Rz];split
 ·rename_i e;subst e;exact hg.symm
 ·rfl
def oU:St:=(2,15677)
def oC:St:=(2,15649)
def xH:St:=(1,60)
def AAC:St:=(2,15676)
def FP(s:St):List DJ->Option Ty
 |[]=>none
 |f::l=>bif decide (f.nm=s)then some f.ty else FP s l
structure Kx where
 tb:Tab
 cls:St
 st:Bool
 ret:Ty
def allT(t:Ty)(ks:List Ty):Bool:=ks.all λk=>k.is t
def Z5(tb:Tab):List Ty->List Ty->Bool
 |[],[]=>true
 |a::l,p::ps=>fitsT tb a p&&Z5 tb l ps
 |_,_=>false
def TL(b:Bool)(t:Ty)(w:St):Option (Ty×St):=bif b then some (t,w)else none
def PE(x:Kx)(c:Ty)(nm:St)(st:Bool)(args:List Ty):Option (Ty×St):=
 bif BO x.tb c then
  match Iu x.tb c.nm nm st with
  |some (o,s)=>TL (Z5 x.tb args s.ps) s.ret o
  |none=>none
 else none
def Xu(x:Kx)(Γ:List DJ)(kind:Nat)(nm:St)(ty:Ty)(ks:List Ty):Option (Ty×St):=
 match kind,ks with
 |1,[]=>some (Cb,(0,0))
 |2,[]=>some (BM,(0,0))
 |3,[]=>some (BM,(0,0))
 |4,[]=>some (IE,(0,0))
 |5,[]=>TL (!x.st) ⟨x.cls,false⟩ (0,0)
 |6,[]=>(FP nm Γ).map λt=>(t,(0,0))
 |7,[c]=>bif c.cls&&BO x.tb c then(UF x.tb c.nm nm).map λp=>(p.2,p.1)else none
 |8,c::gs=>bif c.cls then PE x c nm false gs else none
 |9,gs=>PE x ty nm true gs
 |10,[]=>TL (BO x.tb ty) ty (0,0)
 |11,[k]=>TL (k.is Cb&&BO x.tb ty) ⟨ty.nm,true⟩ (0,0)
 |12,[a,i]=>TL (a.arr&&i.is Cb) (AHg a) (0,0)
 |13,[a]=>TL a.arr Cb (0,0)
 |14,[a]=>TL (a.is Cb) Cb (0,0)
 |15,[a]=>TL (a.is BM) BM (0,0)
 |16,[a,b]=>
  bif decide (nm=oU)||decide (nm=oC)then TL (a.is b||(a.obj&&b.obj)) BM (0,0)
  else TL (a.is Cb&&b.is Cb) (bif decide (nm=xH)||decide (nm=AAC)then BM else Cb) (0,0)
 |17,[a,b]=>TL (a.is BM&&b.is BM) BM (0,0)
 |18,[a,b]=>TL (a.is BM&&b.is BM) BM (0,0)
 |19,[a]=>TL ((a.cls||a.is IE)&&BO x.tb ty) ty (0,0)
 |20,[a]=>TL ((a.cls||a.is IE)&&BO x.tb ty) BM (0,0)
 |_,_=>none
def okS(s:St):Bool:= !(decide (s.1=0))||decide (s.2=0)
def mbr(kind:Nat):Bool:=decide (kind=7)||(decide (kind=8)||decide (kind=9))
def gdE(kind:Nat)(ty:Ty)(own:St):Bool:=okS ty.nm&&(mbr kind||decide (own=(0,0)))
mutual
def ckE(x:Kx)(Γ:List DJ):Te->Option Te
 |.mk kind num nm ty _ own kids=>bif gdE kind ty own then(uS x Γ kids).bind λks=>(Xu x Γ kind nm ty (ks.map Te.of)).map λp=>.mk kind num nm ty p.1 p.2 ks else none
def uS(x:Kx)(Γ:List DJ):List Te->Option (List Te)
 |[]=>some []
 |e::l=>(ckE x Γ e).bind λe'=>(uS x Γ l).map λl'=>e'::l'
end
abbrev Gs:=List DJ×Nat
def AAH(v:DJ)(g:Gs):Option Gs:=bif (FP v.nm g.1).isNone&&decide (g.2<200)then some (g.1++[v],g.2+1)else none
def AHD(x:Kx)(does:Nat)(nm:St)(ty:Ty)(es:List Ty)(g:Gs):Option Gs:=
 match does,es with
 |1,[a]=>bif fitsT x.tb a ty then AAH ⟨nm,ty⟩ g else none
 |2,[a,b]=>bif fitsT x.tb b a then some g else none
 |3,[_]=>some g
 |4,[a]=>bif a.is BM then some g else none
 |5,[a]=>bif a.is BM then some g else none
 |6,[a]=>bif fitsT x.tb a x.ret then some g else none
 |7,[a]=>bif a.is Cb then some g else none
 |_,_=>none
def szB(l:List Tt):Bool:=decide (l.length<=1000)
mutual
def ckS(x:Kx):Tt->Gs->Option (Tt×Gs)
 |.mk does nm ty es th el,g=>
  bif decide (does=1)&& !BO x.tb ty then none else
  (uS x g.1 es).bind λes'=>(AHD x does nm ty (es'.map Te.of) g).bind λg1=>
   bif decide (does=4)||decide (does=5)then bif szB th&&szB el then(iG x th g1).bind λp=>(iG x el (g1.1,p.2)).map λq=>(.mk does nm ty es' p.1 q.1,(g1.1,q.2))else none
   else bif th.isEmpty&&el.isEmpty then some (.mk does nm ty es' th el,g1)else none
def iG(x:Kx):List Tt->Gs->Option (List Tt×Nat)
 |[],g=>some ([],g.2)
 |s::l,g=>(ckS x s g).bind λp=>(iG x l p.2).map λq=>(p.1::q.1,q.2)
end
def yM:List DJ->Gs->Option Gs
 |[],g=>some g
 |v::l,g=>(AAH v g).bind (yM l)
def ckM(tb:Tab)(cls:St)(m:Tm):Option Tm:=
 bif szB m.body then(yM m.ps ([],0)).bind λg=>(iG ⟨tb,cls,m.st,m.ret⟩ m.body g).map λq=>{m with body:=q.1}else none
def yY(tb:Tab)(cls:St):List Tm->Option (List Tm)
 |[]=>some []
 |m::l=>(ckM tb cls m).bind λm'=>(yY tb cls l).map λl'=>m'::l'
def ckC(tb:Tab)(c:Tc):Option Tc:=(yY tb c.nm c.ms).map λms=>{c with ms:=ms}
theorem ABO{x:Kx}{Γ:List DJ}{kind num:Nat}{nm:St}{ty of:Ty}{own:St}{kids:List Te}{e':Te}(h:ckE x Γ (.mk kind num nm ty of own kids)=some e'):
 ∃ks p,uS x Γ kids=some ks/\Xu x Γ kind nm ty (ks.map Te.of)=some p/\e'=.mk kind num nm ty p.1 p.2 ks/\gdE kind ty own=true:=by
 rw[ckE]at h
 cases hg:gdE kind ty own with
 |false=>rw[hg]at h;cases h
 |true=>
  rw[hg]at h
  obtain⟨ks,h1,h⟩:=Option.bind_eq_some_iff.1 (show((uS x Γ kids).bind λks=>(Xu x Γ kind nm ty (ks.map Te.of)).map λp=>Te.mk kind num nm ty p.1 p.2 ks)=some e' from h)
  obtain⟨p,h2,rfl⟩:=Option.map_eq_some_iff.1 h
  exact⟨ks,p,h1,h2,rfl,rfl⟩
theorem ANB{x:Kx}{Γ:List DJ}{kind num:Nat}{nm:St}{ty of:Ty}{own:St}{kids ks:List Te}{p:Ty×St}(h0:gdE kind ty own=true)(h1:uS x Γ kids=some ks)(h2:Xu x Γ kind nm ty (ks.map Te.of)=some p):
 ckE x Γ (.mk kind num nm ty of own kids)=some (.mk kind num nm ty p.1 p.2 ks):=by
 rw[ckE,h0,h1]
 show((Xu x Γ kind nm ty (ks.map Te.of)).map λp=>Te.mk kind num nm ty p.1 p.2 ks)=_
 rw[h2];rfl
theorem Eb{b:Bool}{t:Ty}{w:St}{p:Ty×St}(h:TL b t w=some p):b=true/\p=(t,w):=by
 cases b
 ·cases h
 ·cases h;exact⟨rfl,rfl⟩
theorem AFY{x:Kx}{Γ:List DJ}{nm:St}{ty:Ty}{p:Ty×St}(kind:Nat)(ks:List Ty)(h:Xu x Γ kind nm ty ks=some p):mbr kind=true∨p.2=(0,0):=by
 have ok:∀{b:Bool} {t:Ty},TL b t (0,0)=some p->p.2=(0,0):=λh=>by rw[(Eb h).2]
 match kind,h with
 |0,h=>cases h
 |1,h=>rcases ks with _|⟨a,_|⟨b,_|⟨c,l⟩⟩⟩<;>first|(cases h;done)|exact .inr (ok h)|(cases h;exact .inr rfl)
 |2,h=>rcases ks with _|⟨a,_|⟨b,_|⟨c,l⟩⟩⟩<;>first|(cases h;done)|exact .inr (ok h)|(cases h;exact .inr rfl)
 |3,h=>rcases ks with _|⟨a,_|⟨b,_|⟨c,l⟩⟩⟩<;>first|(cases h;done)|exact .inr (ok h)|(cases h;exact .inr rfl)
 |4,h=>rcases ks with _|⟨a,_|⟨b,_|⟨c,l⟩⟩⟩<;>first|(cases h;done)|exact .inr (ok h)|(cases h;exact .inr rfl)
 |5,h=>rcases ks with _|⟨a,_|⟨b,_|⟨c,l⟩⟩⟩<;>first|(cases h;done)|exact .inr (ok h)|(cases h;exact .inr rfl)
 |10,h=>rcases ks with _|⟨a,_|⟨b,_|⟨c,l⟩⟩⟩<;>first|(cases h;done)|exact .inr (ok h)|(cases h;exact .inr rfl)
 |11,h=>rcases ks with _|⟨a,_|⟨b,_|⟨c,l⟩⟩⟩<;>first|(cases h;done)|exact .inr (ok h)|(cases h;exact .inr rfl)
 |12,h=>rcases ks with _|⟨a,_|⟨b,_|⟨c,l⟩⟩⟩<;>first|(cases h;done)|exact .inr (ok h)|(cases h;exact .inr rfl)
 |13,h=>rcases ks with _|⟨a,_|⟨b,_|⟨c,l⟩⟩⟩<;>first|(cases h;done)|exact .inr (ok h)|(cases h;exact .inr rfl)
 |14,h=>rcases ks with _|⟨a,_|⟨b,_|⟨c,l⟩⟩⟩<;>first|(cases h;done)|exact .inr (ok h)|(cases h;exact .inr rfl)
 |15,h=>rcases ks with _|⟨a,_|⟨b,_|⟨c,l⟩⟩⟩<;>first|(cases h;done)|exact .inr (ok h)|(cases h;exact .inr rfl)
 |17,h=>rcases ks with _|⟨a,_|⟨b,_|⟨c,l⟩⟩⟩<;>first|(cases h;done)|exact .inr (ok h)|(cases h;exact .inr rfl)
 |18,h=>rcases ks with _|⟨a,_|⟨b,_|⟨c,l⟩⟩⟩<;>first|(cases h;done)|exact .inr (ok h)|(cases h;exact .inr rfl)
 |19,h=>rcases ks with _|⟨a,_|⟨b,_|⟨c,l⟩⟩⟩<;>first|(cases h;done)|exact .inr (ok h)|(cases h;exact .inr rfl)
 |20,h=>rcases ks with _|⟨a,_|⟨b,_|⟨c,l⟩⟩⟩<;>first|(cases h;done)|exact .inr (ok h)|(cases h;exact .inr rfl)
 |6,h=>
  rcases ks with _|⟨a,l⟩
  ·obtain⟨t,_,rfl⟩:=Option.map_eq_some_iff.1 (show(FP nm Γ).map (λt=>(t,((0,0):St)))=some p from h);exact .inr rfl
  ·cases h
 |7,h=>exact .inl rfl
 |8,h=>exact .inl rfl
 |9,h=>exact .inl rfl
 |16,h=>
  rcases ks with _|⟨a,_|⟨b,_|⟨c,l⟩⟩⟩<;>try (cases h;done)
  have h:(bif decide (nm=oU)||decide (nm=oC)then TL (a.is b||(a.obj&&b.obj)) BM (0,0)else TL (a.is Cb&&b.is Cb) (bif decide (nm=xH)||decide (nm=AAC)then BM else Cb) (0,0))=some p:=h
  cases hb:decide (nm=oU)||decide (nm=oC)with
  |true=>rw[hb]at h;exact .inr (ok h)
  |false=>rw[hb]at h;exact .inr (ok h)
 |k+21,h=>cases h
theorem nO{x:Kx}{Γ:List DJ}{e:Te}{l l':List Te}(h:uS x Γ (e::l)=some l'):∃e' t,ckE x Γ e=some e'/\uS x Γ l=some t/\l'=e'::t:=by
 rw[uS]at h
 obtain⟨e',h1,h⟩:=Option.bind_eq_some_iff.1 h
 obtain⟨t,h2,rfl⟩:=Option.map_eq_some_iff.1 h
 exact⟨e',t,h1,h2,rfl⟩
theorem ABg{x:Kx}{Γ:List DJ}:∀{l l':List Te},uS x Γ l=some l'->l'.length=l.length
 |[],l',h=>by rw[uS]at h;cases h;rfl
 |e::l,l',h=>by
  obtain⟨e',t,_,h2,rfl⟩:=nO h
  simp[ABg h2]
theorem ACu{x:Kx}{Γ:List DJ}:∀{l l':List Te} {i:Nat} {e:Te},uS x Γ l=some l'->l[i]? =some e->∃e',l'[i]? =some e'/\ckE x Γ e=some e'
 |[],l',i,e,h,he=>by simp at he
 |a::l,l',i,e,h,he=>by
  obtain⟨e',t,h1,h2,rfl⟩:=nO h
  cases i with
  |zero=>cases he;exact⟨e',rfl,h1⟩
  |succ i=>exact ACu (i:=i) h2 he
mutual
theorem AO2{x:Kx}{Γ:List DJ}:∀{e e':Te},ckE x Γ e=some e'->ckE x Γ e'=some e'
 |.mk kind num nm ty of own kids,e',h=>by
  obtain⟨ks,p,h1,h2,rfl,h0⟩:=ABO h
  refine ANB ?_ (yF h1) h2
  unfold gdE at h0⊢
  rw[Bool.and_eq_true]at h0⊢
  refine⟨h0.1,?_⟩
  rcases AFY _ _ h2 with h|h
  ·rw[h];rfl
  ·rw[h,Bool.or_eq_true];exact .inr rfl
theorem yF{x:Kx}{Γ:List DJ}:∀{l l':List Te},uS x Γ l=some l'->uS x Γ l'=some l'
 |[],l',h=>by rw[uS]at h;cases h;rfl
 |e::l,l',h=>by
  obtain⟨e',t,h1,h2,rfl⟩:=nO h
  rw[uS,AO2 h1]
  show((uS x Γ t).map λl'=>e'::l')=_
  rw[yF h2];rfl
end
def OU:Ty:=⟨(0,0),false⟩
def nA:St:=(1,65)
def nB:St:=(1,66)
def n_x:St:=(1,120)
def ADL:St:=(4,1954047342)
def AOt:St:=(2,29560)
def QC:St:=(4,1734437990)
def Zx:St:=(3,7628135)
def AGp:St:=(4,1718379891)
def ug:St:=(3,7173491)
def AV3:St:=(4,1852399981)
def AVn:St:=(1,43)
def AVg:St:=(1,45)
def AVT:St:=(1,42)
def AUx:St:=(1,47)
def AV0:St:=(1,37)
def tA:Ty:=⟨nA,false⟩
def tB:Ty:=⟨nB,false⟩
def tIs:Ty:=⟨Cb.nm,true⟩
def P9:Ej:=⟨Zx,false,[Cb],Cb⟩
def fO:Ej:=⟨AGp,false,[],tA⟩
def Qa:Ej:=⟨ug,true,[Cb,tA],Cb⟩
def wK:Ej:=⟨AV3,true,[Cb,Cb],Cb⟩
def Qh:Fc:=⟨nA,(0,0),[⟨ADL,tA⟩,⟨n_x,Cb⟩,⟨AOt,tIs⟩],[P9,wK,fO,Qa]⟩
def Vr(g s:Bool):Fc:=⟨nB,nA,[⟨QC,BM⟩],(bif g then[P9]else[])++(bif s then[Qa]else[])⟩
theorem AXV{g s st:Bool}{f:St}{q m:Ej}(hq:VL st f (Vr g s).ms=some q)(hf:VL st f Qh.ms=some m):q=m:=by
 have key:(f=Zx/\st=false/\q=P9)∨(f=ug/\st=true/\q=Qa):=by
  have hgt:Ol f [P9]=some P9/\f=Zx∨Ol f [P9]=none:=by
   by_cases e:Zx=f
   ·subst e;exact .inl ⟨rfl,rfl⟩
   ·right
    show(bif decide (Zx.1=f.1/\Zx.2=f.2)then _ else none)=none
    rw[decide_eq_false λe'=>e (Prod.ext e'.1 e'.2)];rfl
  have hsm:Ol f [Qa]=some Qa/\f=ug∨Ol f [Qa]=none:=by
   by_cases e:ug=f
   ·subst e;exact .inl ⟨rfl,rfl⟩
   ·right
    show(bif decide (ug.1=f.1/\ug.2=f.2)then _ else none)=none
    rw[decide_eq_false λe'=>e (Prod.ext e'.1 e'.2)];rfl
  have one:Ol f (Vr g s).ms=some P9/\f=Zx∨Ol f (Vr g s).ms=some Qa/\f=ug∨Ol f (Vr g s).ms=none:=by
   cases g<;>cases s
   ·exact .inr (.inr rfl)
   ·rcases hsm with h|h
    ·exact .inr (.inl h)
    ·exact .inr (.inr h)
   ·rcases hgt with h|h
    ·exact .inl h
    ·exact .inr (.inr h)
   ·by_cases e:Zx=f
    ·subst e;exact .inl ⟨rfl,rfl⟩
    ·have:Ol f (Vr true true).ms=Ol f [Qa]:=by
      show(bif decide (Zx.1=f.1/\Zx.2=f.2)then _ else Ol f [Qa])=_
      rw[decide_eq_false λe'=>e (Prod.ext e'.1 e'.2)];rfl
     rw[this]
     rcases hsm with h|h
     ·exact .inr (.inl h)
     ·exact .inr (.inr h)
  unfold VL at hq
  rcases one with⟨h1,h2⟩|⟨h1,h2⟩|h1
  ·rw[h1]at hq
   cases st with
   |false=>cases hq;exact .inl ⟨h2,rfl,rfl⟩
   |true=>cases hq
  ·rw[h1]at hq
   cases st with
   |false=>cases hq
   |true=>cases hq;exact .inr ⟨h2,rfl,rfl⟩
  ·rw[h1]at hq;cases hq
 rcases key with⟨rfl,rfl,rfl⟩|⟨rfl,rfl,rfl⟩
 ·exact Option.some.inj (show some P9=some m from hf)
 ·exact Option.some.inj (show some Qa=some m from hf)
theorem xu{tb:Tab}{t:Ty}(h1:AKa t.nm=true)(h2:upper t.nm.1 t.nm.2=false):BO tb t=true:=by unfold BO;rw[h1,h2];rfl
structure Yl(tb:Tab):Prop where
 a:Ie tb nA=some Qh
 b:∃g s,Ie tb nB=some (Vr g s)
 two:2<=tb.length
theorem AGg{m:Nat}{tb:Tab}{out:List St}{s:St}{c:Fc}(h0:¬(s.1=0/\s.2=0))(hc:Ie tb s=some c)(ho:AAx s out=false):SY (m+1) tb out s=SY m tb (out++[s]) c.sup:=by
 rw[SY,decide_eq_false h0]
 show(match Ie tb s with|none=>(out,false)|some c=>bif AAx s out then(out,false)else SY m tb (out++[s]) c.sup)=_
 rw[hc]
 show(bif AAx s out then(out,false)else SY m tb (out++[s]) c.sup)=_
 rw[ho];rfl
theorem ACC{m:Nat}{tb:Tab}{out:List St}:SY (m+1) tb out (0,0)=(out,true):=rfl
section
variable{tb:Tab}(h:Yl tb)
include h
theorem Yl.upA:above tb nA=([nA],true):=by
 have h2:=h.two
 obtain⟨m,hm⟩:∃m,tb.length=m+1:=⟨tb.length-1,by omega⟩
 unfold above
 rw[hm,AGg (by decide) h.a rfl]
 exact ACC
theorem Yl.upB:above tb nB=([nB,nA],true):=by
 have h2:=h.two
 obtain⟨g,s,hb⟩:=h.b
 obtain⟨m,hm⟩:∃m,tb.length=m+2:=⟨tb.length-2,by omega⟩
 unfold above
 rw[hm,AGg (by decide) hb rfl,show(Vr g s).sup=nA from rfl,AGg (by decide) h.a (by decide)]
 exact ACC
theorem Yl.kA:BO tb tA=true:=by unfold BO;rw[show tA.nm=nA from rfl,h.a];rfl
theorem Yl.kB:BO tb tB=true:=by obtain⟨g,s,hb⟩:=h.b;unfold BO;rw[show tB.nm=nB from rfl,hb];rfl
theorem Yl.Ab7{f:St}{t:Ty}(hf:Yu f Qh.fs=some t):UF tb nA f=some (nA,t):=by
 unfold UF
 rw[h.upA]
 show(match Yu f ((Ie tb nA).getD FV).fs with|some t=>some (nA,t)|none=>_)=_
 rw[h.a]
 show(match Yu f Qh.fs with|some t=>some (nA,t)|none=>_)=_
 rw[hf]
theorem Yl.Aan{f:St}{t:Ty}(hf:Yu f Qh.fs=some t)(hn:f≠QC):UF tb nB f=some (nA,t):=by
 obtain⟨g,s,hb⟩:=h.b
 unfold UF
 rw[h.upB]
 show(match Yu f ((Ie tb nB).getD FV).fs with|some t=>some (nB,t)|none=>rG tb f [nA])=_
 rw[hb]
 have:Yu f (Vr g s).fs=none:=by
  show(bif decide (QC.1=f.1/\QC.2=f.2)then _ else none)=none
  rw[decide_eq_false λe=>hn (Prod.ext e.1.symm e.2.symm)];rfl
 show(match Yu f (Vr g s).fs with|some t=>some (nB,t)|none=>rG tb f [nA])=_
 rw[this]
 show(match Yu f ((Ie tb nA).getD FV).fs with|some t=>some (nA,t)|none=>_)=_
 rw[h.a]
 show(match Yu f Qh.fs with|some t=>some (nA,t)|none=>_)=_
 rw[hf]
theorem Yl.flag:UF tb nB QC=some (nB,BM):=by
 obtain⟨g,s,hb⟩:=h.b
 unfold UF
 rw[h.upB]
 show(match Yu QC ((Ie tb nB).getD FV).fs with|some t=>some (nB,t)|none=>rG tb QC [nA])=_
 rw[hb];rfl
theorem Yl.AZl{f:St}{st:Bool}{m:Ej}(hf:VL st f Qh.ms=some m):Iu tb nA f st=some (nA,m):=by
 unfold Iu
 rw[h.upA]
 show(match VL st f ((Ie tb nA).getD FV).ms with|some m=>some (nA,m)|none=>_)=_
 rw[h.a]
 show(match VL st f Qh.ms with|some m=>some (nA,m)|none=>_)=_
 rw[hf]
theorem Yl.Aay{f:St}{st:Bool}{m:Ej}(hf:VL st f Qh.ms=some m):∃o,Iu tb nB f st=some (o,m):=by
 obtain⟨g,s,hb⟩:=h.b
 unfold Iu
 rw[h.upB]
 have hA:Nq tb f st [nA]=some (nA,m):=by
  show(match VL st f ((Ie tb nA).getD FV).ms with|some m=>some (nA,m)|none=>_)=_
  rw[h.a]
  show(match VL st f Qh.ms with|some m=>some (nA,m)|none=>_)=_
  rw[hf]
 show ∃o,(match VL st f ((Ie tb nB).getD FV).ms with|some m=>some (nB,m)|none=>Nq tb f st [nA])=_
 rw[hb]
 show ∃o,(match VL st f (Vr g s).ms with|some m=>some (nB,m)|none=>Nq tb f st [nA])=_
 cases hq:VL st f (Vr g s).ms with
 |none=>exact⟨nA,hA⟩
 |some q=>
  refine⟨nB,?_⟩
  rw[AXV hq hf]
theorem Yl.AZm:fitsT tb tB tA=true:=by
 have hb:AGH tb nB nA=true:=by unfold AGH;rw[h.upB];rfl
 show(bif tB.is tA then true else bif tB.is IE then tA.obj else tB.cls&&(tA.cls&&AGH tb nB nA))=true
 rw[hb];rfl
omit h in
theorem AYq{t:Ty}(ht:t=tA∨t=tB):fitsT tb IE t=true:=by rcases ht with rfl|rfl<;>rfl
omit h in
theorem AWQ(t:Ty):fitsT tb t t=true:=by unfold fitsT;rw[Ty.oz];rfl
end
structure Okx(inn:St)(x:Kx):Prop where
 tb:Yl x.tb
 inn:inn≠(0,0)->x.st=false/\x.cls=inn
def Gd(inn:St)(Γ:List DJ)(e:Te)(t:Ty):Prop:=∀x,Okx inn x->∃e',ckE x Γ e=some e'/\e'.of=t
def GdL(inn:St)(Γ:List DJ)(es:List Te)(ts:List Ty):Prop:=∀x,Okx inn x->∃es',uS x Γ es=some es'/\es'.map Te.of=ts
section
variable{inn:St}{Γ:List DJ}
theorem GdL.nil:GdL inn Γ [] []:=λ_ _=>⟨[],by rw[uS],rfl⟩
theorem GdL.cons{e:Te}{t:Ty}{es:List Te}{ts:List Ty}(h:Gd inn Γ e t)(hs:GdL inn Γ es ts):GdL inn Γ (e::es) (t::ts):=λx hx=>by
 obtain⟨e',h1,h2⟩:=h x hx
 obtain⟨es',h3,h4⟩:=hs x hx
 refine⟨e'::es',?_,by rw[List.map_cons,h2,h4]⟩
 rw[uS,h1]
 show((uS x Γ es).map λl'=>e'::l')=_
 rw[h3];rfl
theorem Gd.mk{kind num:Nat}{nm:St}{ty of:Ty}{own:St}{kids:List Te}{ts:List Ty}{t:Ty}(h0:gdE kind ty own=true)(hk:GdL inn Γ kids ts)(ht:∀x,Okx inn x->∃o,Xu x Γ kind nm ty ts=some (t,o)):Gd inn Γ (.mk kind num nm ty of own kids) t:=λx hx=>by
 obtain⟨ks,h1,h2⟩:=hk x hx
 obtain⟨o,h3⟩:=ht x hx
 exact⟨.mk kind num nm ty t o ks,ANB h0 h1 (by rw[h2];exact h3),rfl⟩
theorem GdL.one{a:Te}{t:Ty}(h:Gd inn Γ a t):GdL inn Γ [a] [t]:=.cons h .nil
theorem GdL.two{a b:Te}{t u:Ty}(h:Gd inn Γ a t)(h2:Gd inn Γ b u):GdL inn Γ [a,b] [t,u]:=.cons h (.cons h2 .nil)
variable{n:Nat}{nm:St}{ty of:Ty}{a b:Te}
theorem Gd.num:Gd inn Γ (.mk 1 n nm OU of (0,0) []) Cb:=.mk rfl .nil λ_ _=>⟨_,rfl⟩
theorem Gd.tru:Gd inn Γ (.mk 2 n nm OU of (0,0) []) BM:=.mk rfl .nil λ_ _=>⟨_,rfl⟩
theorem Gd.fls:Gd inn Γ (.mk 3 n nm OU of (0,0) []) BM:=.mk rfl .nil λ_ _=>⟨_,rfl⟩
theorem Gd.nul:Gd inn Γ (.mk 4 n nm OU of (0,0) []) IE:=.mk rfl .nil λ_ _=>⟨_,rfl⟩
theorem Gd.this(h:inn≠(0,0)):Gd inn Γ (.mk 5 n nm OU of (0,0) []) ⟨inn,false⟩:=.mk rfl .nil λx hx=>by
 obtain⟨h1,h2⟩:=hx.inn h
 refine⟨(0,0),?_⟩
 show TL (!x.st) ⟨x.cls,false⟩ (0,0)=_
 rw[h1,h2];rfl
theorem Gd.loc{t:Ty}(h:FP nm Γ=some t):Gd inn Γ (.mk 6 n nm OU of (0,0) []) t:=.mk rfl .nil λx hx=>by
 refine⟨(0,0),?_⟩
 show(FP nm Γ).map _=_
 rw[h];rfl
theorem Gd.get{c t:Ty}(ha:Gd inn Γ a c)(hc:c=tA∨c=tB)(hf:Yu nm Qh.fs=some t)(hn:nm≠QC):Gd inn Γ (.mk 7 n nm OU of (0,0) [a]) t:=.mk rfl (.one ha) λx hx=>by
 rcases hc with rfl|rfl
 ·refine⟨nA,?_⟩
  show(bif tA.cls&&BO x.tb tA then(UF x.tb nA nm).map λp=>(p.2,p.1)else none)=_
  rw[hx.tb.kA,hx.tb.Ab7 hf];rfl
 ·refine⟨nA,?_⟩
  show(bif tB.cls&&BO x.tb tB then(UF x.tb nB nm).map λp=>(p.2,p.1)else none)=_
  rw[hx.tb.kB,hx.tb.Aan hf hn];rfl
theorem Gd.flag(ha:Gd inn Γ a tB):Gd inn Γ (.mk 7 n QC OU of (0,0) [a]) BM:=.mk rfl (.one ha) λx hx=>by
 refine⟨nB,?_⟩
 show(bif tB.cls&&BO x.tb tB then(UF x.tb nB QC).map λp=>(p.2,p.1)else none)=_
 rw[hx.tb.kB,hx.tb.flag];rfl
theorem AIo{x:Kx}(hx:Okx inn x){c:Ty}(hc:c=tA∨c=tB){st:Bool}{s:Ej}{gs:List Ty}(hs:VL st nm Qh.ms=some s)(hf:Z5 x.tb gs s.ps=true):∃o,PE x c nm st gs=some (s.ret,o):=by
 unfold PE
 rcases hc with rfl|rfl
 ·rw[hx.tb.kA]
  refine⟨nA,?_⟩
  show(match Iu x.tb nA nm st with|some (o,s)=>TL (Z5 x.tb gs s.ps) s.ret o|none=>none)=_
  rw[hx.tb.AZl hs]
  show TL (Z5 x.tb gs s.ps) s.ret nA=_
  rw[hf];rfl
 ·rw[hx.tb.kB]
  obtain⟨o,ho⟩:=hx.tb.Aay hs
  refine⟨o,?_⟩
  show(match Iu x.tb nB nm st with|some (o,s)=>TL (Z5 x.tb gs s.ps) s.ret o|none=>none)=_
  rw[ho]
  show TL (Z5 x.tb gs s.ps) s.ret o=_
  rw[hf];rfl
theorem Gd.AYj{c:Ty}(ha:Gd inn Γ a c)(hc:c=tA∨c=tB)(hb:Gd inn Γ b Cb):Gd inn Γ (.mk 8 n Zx OU of (0,0) [a,b]) Cb:=.mk rfl (.two ha hb) λx hx=>by
 obtain⟨o,h⟩:=AIo (nm:=Zx) hx hc (st:=false) (s:=P9) rfl (gs:=[Cb]) (by show(fitsT x.tb Cb Cb&&true)=true;rw[AWQ];rfl)
 refine⟨o,?_⟩
 show(bif c.cls then PE x c Zx false [Cb]else none)=_
 rw[show c.cls=true by rcases hc with rfl|rfl<;>rfl,h];rfl
theorem Gd.AYR{c:Ty}(ha:Gd inn Γ a c)(hc:c=tA∨c=tB):Gd inn Γ (.mk 8 n AGp OU of (0,0) [a]) tA:=.mk rfl (.one ha) λx hx=>by
 obtain⟨o,h⟩:=AIo (nm:=AGp) hx hc (st:=false) (s:=fO) rfl (gs:=[]) rfl
 refine⟨o,?_⟩
 show(bif c.cls then PE x c AGp false []else none)=_
 rw[show c.cls=true by rcases hc with rfl|rfl<;>rfl,h];rfl
inductive Rq:Ty->Ty->Prop where
 |same (t:Ty):Rq t t
 |ba:Rq tA tB
 |na:Rq tA IE
 |nb:Rq tB IE
theorem Rq.fits{tb:Tab}(h:Yl tb){t u:Ty}(r:Rq t u):fitsT tb u t=true:=by
 cases r with
 |same=>exact AWQ _
 |ba=>exact h.AZm
 |na=>exact AYq (.inl rfl)
 |nb=>exact AYq (.inr rfl)
theorem Gd.AbI{u:Ty}(ht:ty=tA∨ty=tB)(ha:Gd inn Γ a Cb)(hb:Gd inn Γ b u)(hu:Rq tA u):Gd inn Γ (.mk 9 n ug ty of (0,0) [a,b]) Cb:=.mk (by rcases ht with rfl|rfl<;>rfl) (.two ha hb) λx hx=>by
 obtain⟨o,h⟩:=AIo (nm:=ug) hx ht (st:=true) (s:=Qa) rfl (gs:=[Cb,u]) (by show(fitsT x.tb Cb Cb&&(fitsT x.tb u tA&&true))=true;rw[AWQ,hu.fits hx.tb];rfl)
 exact⟨o,h⟩
theorem Gd.new(ht:ty=tA∨ty=tB):Gd inn Γ (.mk 10 n nm ty of (0,0) []) ty:=.mk (by rcases ht with rfl|rfl<;>rfl) .nil λx hx=>by
 refine⟨(0,0),?_⟩
 show TL (BO x.tb ty) ty (0,0)=_
 rcases ht with rfl|rfl
 ·rw[hx.tb.kA];rfl
 ·rw[hx.tb.kB];rfl
theorem Gd.arr(ha:Gd inn Γ a Cb):Gd inn Γ (.mk 11 n nm Cb of (0,0) [a]) tIs:=.mk rfl (.one ha) λx hx=>⟨(0,0),rfl⟩
theorem Gd.elm(ha:Gd inn Γ a tIs)(hb:Gd inn Γ b Cb):Gd inn Γ (.mk 12 n nm OU of (0,0) [a,b]) Cb:=.mk rfl (.two ha hb) λx hx=>⟨(0,0),rfl⟩
theorem Gd.len(ha:Gd inn Γ a tIs):Gd inn Γ (.mk 13 n nm OU of (0,0) [a]) Cb:=.mk rfl (.one ha) λx hx=>⟨(0,0),rfl⟩
theorem Gd.neg(ha:Gd inn Γ a Cb):Gd inn Γ (.mk 14 n nm OU of (0,0) [a]) Cb:=.mk rfl (.one ha) λx hx=>⟨(0,0),rfl⟩
theorem Gd.not(ha:Gd inn Γ a BM):Gd inn Γ (.mk 15 n nm OU of (0,0) [a]) BM:=.mk rfl (.one ha) λx hx=>⟨(0,0),rfl⟩
theorem Gd.and(ha:Gd inn Γ a BM)(hb:Gd inn Γ b BM):Gd inn Γ (.mk 17 n nm OU of (0,0) [a,b]) BM:=.mk rfl (.two ha hb) λx hx=>⟨(0,0),rfl⟩
theorem Gd.or(ha:Gd inn Γ a BM)(hb:Gd inn Γ b BM):Gd inn Γ (.mk 18 n nm OU of (0,0) [a,b]) BM:=.mk rfl (.two ha hb) λx hx=>⟨(0,0),rfl⟩
theorem Gd.ari(hn:nm∈[AVn,AVg,AVT,AUx,AV0])(ha:Gd inn Γ a Cb)(hb:Gd inn Γ b Cb):Gd inn Γ (.mk 16 n nm OU of (0,0) [a,b]) Cb:=.mk rfl (.two ha hb) λx hx=>by
 refine⟨(0,0),?_⟩
 simp only[List.mem_cons,List.not_mem_nil,or_false]at hn
 rcases hn with rfl|rfl|rfl|rfl|rfl<;>rfl
theorem Gd.cmp(hn:nm∈[xH,AAC,oU,oC])(ha:Gd inn Γ a Cb)(hb:Gd inn Γ b Cb):Gd inn Γ (.mk 16 n nm OU of (0,0) [a,b]) BM:=.mk rfl (.two ha hb) λx hx=>by
 refine⟨(0,0),?_⟩
 simp only[List.mem_cons,List.not_mem_nil,or_false]at hn
 rcases hn with rfl|rfl|rfl|rfl<;>rfl
theorem Rq.obj{t u:Ty}(r:Rq t u)(ht:t.obj=true):u.obj=true:=by
 cases r with
 |same=>exact ht
 |ba=>rfl
 |na=>rfl
 |nb=>rfl
theorem Gd.same{t u:Ty}(hn:nm∈[oU,oC])(ha:Gd inn Γ a t)(hb:Gd inn Γ b u)(h1:t.obj=true)(h2:u.obj=true):Gd inn Γ (.mk 16 n nm OU of (0,0) [a,b]) BM:=.mk rfl (.two ha hb) λx hx=>by
 refine⟨(0,0),?_⟩
 simp only[List.mem_cons,List.not_mem_nil,or_false]at hn
 have:Xu x Γ 16 nm OU [t,u]=TL (t.is u||(t.obj&&u.obj)) BM (0,0):=by rcases hn with rfl|rfl<;>rfl
 rw[this,h1,h2,Bool.and_self,Bool.or_true];rfl
theorem Gd.asx{t:Ty}(hty:ty=tA∨ty=tB)(ha:Gd inn Γ a t)(ht:(t.cls||t.is IE)=true):Gd inn Γ (.mk 19 n nm ty of (0,0) [a]) ty:=.mk (by rcases hty with rfl|rfl<;>rfl) (.one ha) λx hx=>by
 refine⟨(0,0),?_⟩
 show TL ((t.cls||t.is IE)&&BO x.tb ty) ty (0,0)=_
 rw[ht]
 rcases hty with rfl|rfl
 ·rw[hx.tb.kA];rfl
 ·rw[hx.tb.kB];rfl
theorem Gd.isx{t:Ty}(hty:ty=tA∨ty=tB)(ha:Gd inn Γ a t)(ht:(t.cls||t.is IE)=true):Gd inn Γ (.mk 20 n nm ty of (0,0) [a]) BM:=.mk (by rcases hty with rfl|rfl<;>rfl) (.one ha) λx hx=>by
 refine⟨(0,0),?_⟩
 show TL ((t.cls||t.is IE)&&BO x.tb ty) BM (0,0)=_
 rw[ht]
 rcases hty with rfl|rfl
 ·rw[hx.tb.kA];rfl
 ·rw[hx.tb.kB];rfl
end
def Lh(t:Ty):Prop:=t=Cb∨t=BM∨t=tA∨t=tB∨t=tIs
theorem Yl.AYx{tb:Tab}(h:Yl tb){t:Ty}(ht:Lh t):BO tb t=true:=by
 rcases ht with rfl|rfl|rfl|rfl|rfl
 ·exact xu (by decide) (by decide)
 ·exact xu (by decide) (by decide)
 ·exact h.kA
 ·exact h.kB
 ·exact xu (by decide) (by decide)
def GdS(inn:St)(ret:Ty)(Γ Γ':List DJ)(k:Nat)(s:Tt):Prop:=∀x,Okx inn x->x.ret=ret->∀n,n+k<=200->∃s' n',ckS x s (Γ,n)=some (s',(Γ',n'))/\n'<=n+k
def GdB(inn:St)(ret:Ty)(Γ:List DJ)(k:Nat)(l:List Tt):Prop:=∀x,Okx inn x->x.ret=ret->∀n,n+k<=200->∃l' n',iG x l (Γ,n)=some (l',n')/\n'<=n+k
def GdQ(inn:St)(ret:Ty)(Γ Γ':List DJ)(k:Nat)(l:List Tt):Prop:=∀x,Okx inn x->x.ret=ret->∀n,n+k<=200->∃l' n',(∀r,iG x (l++r) (Γ,n)=(iG x r (Γ',n')).map λq=>(l'++q.1,q.2))/\n'<=n+k
section
variable{inn:St}{ret:Ty}{Γ Γ':List DJ}{nm:St}{ty:Ty}
theorem AGG{x:Kx}{does:Nat}{es es':List Te}{g:Gs}{n:Nat}(hk:decide (does=1)=true->BO x.tb ty=true)(he:uS x Γ es=some es')(hs:AHD x does nm ty (es'.map Te.of) (Γ,n)=some g)(hd:does≠4/\does≠5):
 ckS x (.mk does nm ty es [] []) (Γ,n)=some (.mk does nm ty es' [] [],g):=by
 rw[ckS]
 have:(decide (does=1)&& !BO x.tb ty)=false:=by
  cases h:decide (does=1)with
  |false=>rfl
  |true=>rw[hk h];rfl
 rw[this,he]
 show((AHD x does nm ty (es'.map Te.of) (Γ,n)).bind _)=_
 rw[hs]
 show(bif decide (does=4)||decide (does=5)then _ else _)=_
 rw[decide_eq_false hd.1,decide_eq_false hd.2];rfl
theorem GdS.lt{a:Te}{u:Ty}(ht:Lh ty)(ha:Gd inn Γ a u)(hu:Rq ty u)(hn:FP nm Γ=none):GdS inn ret Γ (Γ++[⟨nm,ty⟩]) 1 (.mk 1 nm ty [a] [] []):=λx hx _ n hk=>by
 obtain⟨es',h1,h2⟩:=GdL.one ha x hx
 refine⟨_,_,AGG (λ_=>hx.tb.AYx ht) h1 (g:=(Γ++[⟨nm,ty⟩],n+1)) ?_ (by decide),Nat.le_refl _⟩
 rw[h2]
 show(bif fitsT x.tb u ty then AAH ⟨nm,ty⟩ (Γ,n)else none)=_
 rw[hu.fits hx.tb]
 show(bif (FP nm Γ).isNone&&decide (n<200)then _ else none)=_
 rw[hn,decide_eq_true (show n<200 by omega)];rfl
theorem GdS.put{a b:Te}{t u:Ty}(ha:Gd inn Γ a t)(hb:Gd inn Γ b u)(hu:Rq t u):GdS inn ret Γ Γ 0 (.mk 2 nm ty [a,b] [] []):=λx hx _ n hk=>by
 obtain⟨es',h1,h2⟩:=GdL.two ha hb x hx
 refine⟨_,_,AGG (λh=>by cases h) h1 (g:=(Γ,n)) ?_ (by decide),Nat.le_refl _⟩
 rw[h2]
 show(bif fitsT x.tb u t then some (Γ,n)else none)=_
 rw[hu.fits hx.tb];rfl
theorem GdS.ask{a:Te}{t:Ty}(ha:Gd inn Γ a t):GdS inn ret Γ Γ 0 (.mk 3 nm ty [a] [] []):=λx hx _ n hk=>by
 obtain⟨es',h1,h2⟩:=GdL.one ha x hx
 refine⟨_,_,AGG (λh=>by cases h) h1 (g:=(Γ,n)) ?_ (by decide),Nat.le_refl _⟩
 rw[h2];rfl
theorem GdS.rtn{a:Te}{u:Ty}(ha:Gd inn Γ a u)(hu:Rq ret u):GdS inn ret Γ Γ 0 (.mk 6 nm ty [a] [] []):=λx hx hr n hk=>by
 obtain⟨es',h1,h2⟩:=GdL.one ha x hx
 refine⟨_,_,AGG (λh=>by cases h) h1 (g:=(Γ,n)) ?_ (by decide),Nat.le_refl _⟩
 rw[h2]
 show(bif fitsT x.tb u x.ret then some (Γ,n)else none)=_
 rw[hr,hu.fits hx.tb];rfl
theorem GdS.prt{a:Te}(ha:Gd inn Γ a Cb):GdS inn ret Γ Γ 0 (.mk 7 nm ty [a] [] []):=λx hx _ n hk=>by
 obtain⟨es',h1,h2⟩:=GdL.one ha x hx
 refine⟨_,_,AGG (λh=>by cases h) h1 (g:=(Γ,n)) ?_ (by decide),Nat.le_refl _⟩
 rw[h2];rfl
theorem GdS.cond{does:Nat}{a:Te}{th el:List Tt}{k1 k2:Nat}(hd:does=4∨does=5)(ha:Gd inn Γ a BM)(h1:GdB inn ret Γ k1 th)(h2:GdB inn ret Γ k2 el)(z1:th.length<=1000)(z2:el.length<=1000):GdS inn ret Γ Γ (k1+k2) (.mk does nm ty [a] th el):=λx hx hr n hk=>by
 obtain⟨es',e1,e2⟩:=GdL.one ha x hx
 obtain⟨l1,n1,b1,b2⟩:=h1 x hx hr n (by omega)
 obtain⟨l2,n2,b3,b4⟩:=h2 x hx hr n1 (by omega)
 refine⟨.mk does nm ty es' l1 l2,n2,?_,by omega⟩
 rw[ckS]
 have hs:AHD x does nm ty (es'.map Te.of) (Γ,n)=some (Γ,n):=by rw[e2];rcases hd with rfl|rfl<;>rfl
 rw[show(decide (does=1)&& !BO x.tb ty)=false by rcases hd with rfl|rfl<;>rfl,e1]
 show((AHD x does nm ty (es'.map Te.of) (Γ,n)).bind _)=_
 rw[hs]
 show(bif decide (does=4)||decide (does=5)then bif szB th&&szB el then(iG x th (Γ,n)).bind λp=>(iG x el (Γ,p.2)).map λq=>(Tt.mk does nm ty es' p.1 q.1,(Γ,q.2))else none else _)=_
 rw[show(decide (does=4)||decide (does=5))=true by rcases hd with rfl|rfl<;>rfl,b1,show(szB th&&szB el)=true by unfold szB;rw[decide_eq_true z1,decide_eq_true z2];rfl]
 show((iG x el (Γ,n1)).map _)=_
 rw[b3];rfl
theorem GdQ.nil:GdQ inn ret Γ Γ 0 []:=λx _ _ n _=>⟨[],n,λr=>by
 show iG x r (Γ,n)=_
 cases iG x r (Γ,n)<;>rfl,Nat.le_refl _⟩
theorem GdQ.snoc{Γ'':List DJ}{l:List Tt}{s:Tt}{k1 k2:Nat}(h:GdQ inn ret Γ Γ' k1 l)(hs:GdS inn ret Γ' Γ'' k2 s):GdQ inn ret Γ Γ'' (k1+k2) (l++[s]):=λx hx hr n hk=>by
 obtain⟨l',n1,h1,h2⟩:=h x hx hr n (by omega)
 obtain⟨s',n2,h3,h4⟩:=hs x hx hr n1 (by omega)
 refine⟨l'++[s'],n2,λr=>?_,by omega⟩
 rw[List.append_assoc,h1]
 show(iG x (s::r) (Γ',n1)).map _=_
 rw[iG,h3]
 show((iG x r (Γ'',n2)).map λq=>(s'::q.1,q.2)).map _=_
 cases iG x r (Γ'',n2)with
 |none=>rfl
 |some q=>show some (l'++s'::q.1,q.2)=some (l'++[s']++q.1,q.2);rw[List.append_assoc];rfl
theorem GdQ.blk{l:List Tt}{k:Nat}(h:GdQ inn ret Γ Γ' k l):GdB inn ret Γ k l:=λx hx hr n hk=>by
 obtain⟨l',n1,h1,h2⟩:=h x hx hr n hk
 have:=h1 []
 rw[List.append_nil,iG]at this
 exact⟨_,n1,this,h2⟩
theorem GdB.nil{k:Nat}:GdB inn ret Γ k []:=λx _ _ n _=>⟨[],n,by rw[iG],Nat.le_add_right _ _⟩
theorem GdS.le{s:Tt}{k k':Nat}(h:GdS inn ret Γ Γ' k s)(hk:k<=k'):GdS inn ret Γ Γ' k' s:=λx hx hr n hn=>by
 obtain⟨l',n',h1,h2⟩:=h x hx hr n (by omega)
 exact⟨l',n',h1,by omega⟩
end
def GdM(cls:St)(m:Tm):Prop:=∀tb,Yl tb->∃m',ckM tb cls m=some m'
theorem ALE:∀(ps Γ:List DJ) (n:Nat),(∀p∈ps,FP p.nm Γ=none)->(ps.map DJ.nm).Nodup->n+ps.length<=200->yM ps (Γ,n)=some (Γ++ps,n+ps.length)
 |[],Γ,n,_,_,_=>by rw[List.append_nil];rfl
 |p::ps,Γ,n,h,hd,hn=>by
  rw[List.length_cons]at hn
  have h1:AAH p (Γ,n)=some (Γ++[p],n+1):=by
   unfold AAH
   rw[h p (List.mem_cons_self ..),decide_eq_true (show n<200 by omega)];rfl
  show(AAH p (Γ,n)).bind (yM ps)=_
  rw[h1]
  show yM ps (Γ++[p],n+1)=_
  rw[List.map_cons,List.nodup_cons]at hd
  rw[ALE ps (Γ++[p]) (n+1) ?_ hd.2 (by omega)]
  ·rw[List.append_assoc,List.length_cons]
   show some (Γ++(p::ps),n+1+ps.length)=_
   rw[show n+1+ps.length=n+(ps.length+1)by omega]
  ·intro q hq
   have hne:p.nm≠q.nm:=λe=>hd.1 (by rw[e];exact List.mem_map_of_mem hq)
   have hl:∀l:List DJ,FP q.nm l=none->FP q.nm (l++[p])=none:=by
    intro l
    induction l with
    |nil=>
     intro _
     show(bif decide (p.nm=q.nm)then _ else _)=none
     rw[decide_eq_false hne];rfl
    |cons a l ih=>
     intro ha
     have ha:(bif decide (a.nm=q.nm)then some a.ty else FP q.nm l)=none:=ha
     show(bif decide (a.nm=q.nm)then some a.ty else FP q.nm (l++[p]))=none
     cases hd:decide (a.nm=q.nm)with
     |true=>rw[hd]at ha;cases ha
     |false=>rw[hd]at ha;exact ih ha
   exact hl Γ (h q (List.mem_cons_of_mem _ hq))
theorem GdM.mk{cls nm:St}{st:Bool}{ps:List DJ}{ret:Ty}{body:List Tt}{k:Nat}{inn:St}(hd:(ps.map DJ.nm).Nodup)(hn:ps.length+k<=200)(hi:inn≠(0,0)->st=false/\cls=inn)(hb:GdB inn ret ps k body)(hz:body.length<=1000):GdM cls ⟨nm,st,ps,ret,body⟩:=λtb htb=>by
 obtain⟨l',n',h1,h2⟩:=hb ⟨tb,cls,st,ret⟩ ⟨htb,hi⟩ rfl ps.length hn
 unfold ckM
 rw[show szB body=true from decide_eq_true hz]
 show ∃m',((yM ps ([],0)).bind λg=>(iG ⟨tb,cls,st,ret⟩ body g).map λq=>({nm:=nm,st:=st,ps:=ps,ret:=ret,body:=q.1}:Tm))=some m'
 rw[ALE ps [] 0 (λ_ _=>rfl) hd (by omega)]
 show ∃m',((iG ⟨tb,cls,st,ret⟩ body ([]++ps,0+ps.length)).map _)=some m'
 rw[List.nil_append,Nat.zero_add,h1]
 exact⟨_,rfl⟩
theorem AF3{tb:Tab}{cls:St}(h:Yl tb):∀{ms:List Tm},(∀m∈ms,GdM cls m)->∃ms',yY tb cls ms=some ms'
 |[],_=>⟨[],rfl⟩
 |m::ms,hm=>by
  obtain⟨m',h1⟩:=hm m (List.mem_cons_self ..) tb h
  obtain⟨ms',h2⟩:=AF3 h λx hx=>hm x (List.mem_cons_of_mem _ hx)
  refine⟨m'::ms',?_⟩
  unfold yY
  rw[h1]
  show((yY tb cls ms).map _)=_
  rw[h2];rfl
def nmP(i:Nat):St:=(2,112+256*(97+i))
def nmV(k:Nat):St:=(3,118+256*(97+k/26%26)+65536*(97+k%26))
theorem ATw{j k:Nat}(hj:j<676)(hk:k<676)(h:nmV j=nmV k):j=k:=by
 have h:118+256*(97+j/26%26)+65536*(97+j%26)=118+256*(97+k/26%26)+65536*(97+k%26):=congrArg Prod.snd h
 omega
theorem AZG(i k:Nat):nmP i≠nmV k:=λh=>by
 have:(2:Nat)=3:=congrArg Prod.fst h
 omega
theorem ATp{i j:Nat}(h:nmP i=nmP j):i=j:=by
 have h:112+256*(97+i)=112+256*(97+j):=congrArg Prod.snd h
 omega
theorem AF5{s:St}:∀{Γ:List DJ},(∀f∈Γ,f.nm≠s)->FP s Γ=none
 |[],_=>rfl
 |f::l,h=>by
  show(bif decide (f.nm=s)then some f.ty else FP s l)=none
  rw[decide_eq_false (h f (List.mem_cons_self ..))]
  exact AF5 λg hg=>h g (List.mem_cons_of_mem _ hg)
theorem ADf{f:DJ}:∀{Γ:List DJ},(Γ.map DJ.nm).Nodup->f∈Γ->FP f.nm Γ=some f.ty
 |[],_,h=>by cases h
 |g::l,hd,h=>by
  rw[List.map_cons,List.nodup_cons]at hd
  show(bif decide (g.nm=f.nm)then some g.ty else FP f.nm l)=_
  rcases List.mem_cons.1 h with rfl|h
  ·rw[decide_eq_true rfl];rfl
  ·rw[decide_eq_false λe=>hd.1 (by rw[e];exact List.mem_map_of_mem h)]
   exact ADf hd.2 h
structure Gam(Γ:List DJ)(m:Nat):Prop where
 nm:∀f∈Γ,(∃i,f.nm=nmP i)∨∃j,j<=m/\f.nm=nmV j
 nd:(Γ.map DJ.nm).Nodup
 ty:∀f∈Γ,Lh f.ty
theorem Gam.fresh{Γ:List DJ}{m:Nat}(h:Gam Γ m)(hm:m+1<676):∀f∈Γ,f.nm≠nmV (m+1):=λf hf e=>by
 rcases h.nm f hf with⟨i,hi⟩|⟨j,hj,hi⟩
 ·exact AZG _ _ (hi.symm.trans e)
 ·have:=ATw (by omega) hm (hi.symm.trans e);omega
theorem Gam.add{Γ:List DJ}{m:Nat}{t:Ty}(h:Gam Γ m)(hm:m+1<676)(ht:Lh t):Gam (Γ++[⟨nmV (m+1),t⟩]) (m+1)where
 nm f hf:=by
  rcases List.mem_append.1 hf with hf|hf
  ·rcases h.nm f hf with h|⟨j,hj,hi⟩
   ·exact .inl h
   ·exact .inr ⟨j,by omega,hi⟩
  ·rw[List.mem_singleton.1 hf];exact .inr ⟨m+1,Nat.le_refl _,rfl⟩
 nd:=by
  rw[List.map_append,List.nodup_append]
  refine⟨h.nd,by simp,λa ha b hb e=>?_⟩
  obtain⟨f,hf,rfl⟩:=List.mem_map.1 ha
  simp only[List.map_cons,List.map_nil,List.mem_singleton]at hb
  exact h.fresh hm f hf (e.trans hb)
 ty f hf:=by
  rcases List.mem_append.1 hf with hf|hf
  ·exact h.ty f hf
  ·rw[List.mem_singleton.1 hf];exact ht
end Go.RL
