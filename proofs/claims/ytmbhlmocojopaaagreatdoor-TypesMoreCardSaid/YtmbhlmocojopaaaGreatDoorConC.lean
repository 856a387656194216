/- Part of a proof; nothing is assumed. -/
import Derived.Test.YtmbhlmocojopaaaGreatDoorConB
import Derived.Test.YtmbhlmocojopaaaGreatDoorEngE
set_option linter.unusedVariables false
set_option linter.unusedSimpArgs false
namespace Go.RL
open Go.DW
set_option maxRecDepth 100000
inductive Te where
 |mk (kind num:Nat) (nm:St) (ty of:Ty) (own:St) (kids:List Te)
inductive Tt where
 |mk (does:Nat) (nm:St) (ty:Ty) (es:List Te) (th el:List Tt)
structure Tm where
 nm:St
 st:Bool
 ps:List Dh
 ret:Ty
 body:List Tt
structure Tc where
 nm:St
 sup:St
 fs:List Dh
 ms:List Tm
def Te.kind:Te->Nat|.mk k _ _ _ _ _ _=>k
def Te.of:Te->Ty|.mk _ _ _ _ of _ _=>of
def Te.own:Te->St|.mk _ _ _ _ _ w _=>w
def KS(v:V):Prop:=Me v v=true/\(∀id o m c e,v=.sl id o m c e->m<=c)/\∀b o m c e,v=.rsl b o m c e->m<=c
theorem AIN(q:IntKind)(a:Int):Me (.int q a 0) (.int q a 0)=true:=by simp[Me,ANI,Bg,VE,jQ]
theorem AFb(l c:Nat):Me (.str l c) (.str l c)=true:=by simp[Me,AMQ,Bg]
theorem ATf(a b c d e:Nat):Me (.sl a b c d e) (.sl a b c d e)=true:=by simp[Me,AQg,Bg]
theorem APk(a b c d:Nat):Me (.PO a b c d) (.PO a b c d)=true:=by simp[Me,AJj,Bg]
theorem AGa{a b c d e:Nat}(h:c<=d):KS (.sl a b c d e):=⟨ATf ..,λ_ _ _ _ _ h'=>(by cases h';exact h),by simp⟩
theorem AV4(a b c d:Nat):KS (.PO a b c d):=⟨APk ..,λ_ _ _ _ _ h=>(by cases h),by simp⟩
theorem ADm:KS .Ad:=⟨rfl,λ_ _ _ _ _ h=>(by cases h),by simp⟩
theorem vsL:∀L:LV,(∀v∈L,Me v v=true)->AB9 L L=true
 |[],_=>rfl
 |v::L,h=>by
  show band (Me v v) (AB9 L L)=true
  rw[h v (List.mem_cons_self ..),vsL L λw hw=>h w (List.mem_cons_of_mem _ hw)];rfl
theorem ALK{L:LV}(h:∀v∈L,Me v v=true):Aw (.agg L) (.agg L)=true:=vsL L h
def XL(kind num:Nat)(nm:St)(ty of:Ty)(own:St)(line col:Nat)(v:V):LV:=
 [.int .i64 (.ofNat kind) 0,.int .i64 (.ofNat line) 0,.int .i64 (.ofNat col) 0,.int .i64 (.ofNat num) 0,nm.v,ty.nm.v,.bool ty.arr,v,of.nm.v,.bool of.arr,own.v]
mutual
inductive GN(G:AX)(H:Heap)(A:Nat->Prop):LV->Te->Prop where
 |mk (kind num:Nat) (nm:St) (ty of:Ty) (own:St) (line col:Nat) {v:V} {cs:DZ} {kids:List Te} (he:El G H v 11 cs) (hv:KS v) (ha:∀id,v.Ec=some id->A id) (hc:Hr G H A cs kids):
  GN G H A (XL kind num nm ty of own line col v) (.mk kind num nm ty of own kids)
inductive Hr(G:AX)(H:Heap)(A:Nat->Prop):DZ->List Te->Prop where
 |nil:Hr G H A [] []
 |cons {c:LV} {e:Te} {cs:DZ} {es:List Te} (h:GN G H A c e) (t:Hr G H A cs es):Hr G H A (c::cs) (e::es)
end
mutual
theorem GN.mono{G:AX}{H H':Heap}{A B:Nat->Prop}(hA:∀id,A id->B id)(hs:∀id,A id->T.get H' id=T.get H id):∀{c:LV} {e:Te},GN G H A c e->GN G H' B c e
 |_,_,.mk kind num nm ty of own line col he hv ha hc=>.mk kind num nm ty of own line col (he.same λid hid=>hs id (ha id hid)) hv (λid hid=>hA id (ha id hid)) (Hr.mono hA hs hc)
theorem Hr.mono{G:AX}{H H':Heap}{A B:Nat->Prop}(hA:∀id,A id->B id)(hs:∀id,A id->T.get H' id=T.get H id):∀{cs:DZ} {es:List Te},Hr G H A cs es->Hr G H' B cs es
 |_,_,.nil=>.nil
 |_,_,.cons h t=>.cons (GN.mono hA hs h) (Hr.mono hA hs t)
end
theorem Hr.app{G:AX}{H:Heap}{A:Nat->Prop}:∀{cs:DZ} {es:List Te} {cs':DZ} {es':List Te},Hr G H A cs es->Hr G H A cs' es'->Hr G H A (cs++cs') (es++es')
 |_,_,_,_,.nil,h=>h
 |_,_,_,_,.cons h t,h'=>.cons h (t.app h')
theorem Hr.len{G:AX}{H:Heap}{A:Nat->Prop}:∀{cs:DZ} {es:List Te},Hr G H A cs es->cs.length=es.length
 |_,_,.nil=>rfl
 |_,_,.cons h t=>by simp[t.len]
theorem Hr.at{G:AX}{H:Heap}{A:Nat->Prop}:∀{cs:DZ} {es:List Te},Hr G H A cs es->∀{i:Nat} {e:Te},es[i]? =some e->∃c,cs[i]? =some c/\GN G H A c e
 |_,_,.nil,i,e,h=>by simp at h
 |_,_,.cons h t,0,e,he=>by cases he;exact⟨_,rfl,h⟩
 |_,_,.cons h t,i+1,e,he=>by obtain⟨c,h1,h2⟩:=t.at (i:=i) he;exact⟨c,h1,h2⟩
section
variable{G:AX}{H:Heap}{A:Nat->Prop}{c:LV}{e:Te}
theorem GN.len(h:GN G H A c e):c.length=11:=by cases h;rfl
end
def Qc(G:AX)(H:Heap)(A:Nat->Prop)(v:V)(es:List Te):Prop:=∃cs,El G H v 11 cs/\KS v/\jZ v=true/\Ba v=[v]/\(∀id,v.Ec=some id->A id)/\Hr G H A cs es
theorem Qc.mono{G:AX}{H H':Heap}{A B:Nat->Prop}{v:V}{es:List Te}(h:Qc G H A v es)(hA:∀id,A id->B id)(hs:∀id,A id->T.get H' id=T.get H id):Qc G H' B v es:=by
 obtain⟨cs,h1,h2,h3,h4,h5,h6⟩:=h
 exact⟨cs,h1.same λid hid=>hs id (h5 id hid),h2,h3,h4,λid hid=>hA id (h5 id hid),h6.mono hA hs⟩
theorem Qc.nil{G:AX}{H:Heap}{A:Nat->Prop}:Qc G H A .Ad []:=⟨[],ACW,ADm,rfl,rfl,(λ_ h=>by cases h),.nil⟩
theorem GN.of{G:AX}{H:Heap}{A:Nat->Prop}{kind num:Nat}{nm:St}{ty of:Ty}{own:St}{line col:Nat}{v:V}{kids:List Te}(h:Qc G H A v kids):GN G H A (XL kind num nm ty of own line col v) (.mk kind num nm ty of own kids):=by
 obtain⟨cs,h1,h2,_,_,h3,h4⟩:=h
 exact .mk kind num nm ty of own line col h1 h2 h3 h4
def ttC(does:Nat)(line col:Nat)(nm:St)(ty:Ty)(ve vt vl:V):LV:=
 [.int .i64 (.ofNat does) 0,.int .i64 (.ofNat line) 0,.int .i64 (.ofNat col) 0,nm.v,ty.nm.v,.bool ty.arr,ve,vt,vl]
mutual
inductive YF(G:AX)(H:Heap)(A:Nat->Prop):LV->Tt->Prop where
 |mk (does:Nat) (nm:St) (ty:Ty) (line col:Nat) {ve vt vl:V} {es:List Te} {th el:List Tt} {ct cl:DZ} (he:Qc G H A ve es) (ht:El G H vt 9 ct) (kt:KS vt) (at':∀id,vt.Ec=some id->A id) (st:JW G H A ct th)
  (hl:El G H vl 9 cl) (kl:KS vl) (al:∀id,vl.Ec=some id->A id) (sl:JW G H A cl el):YF G H A (ttC does line col nm ty ve vt vl) (.mk does nm ty es th el)
inductive JW(G:AX)(H:Heap)(A:Nat->Prop):DZ->List Tt->Prop where
 |nil:JW G H A [] []
 |cons {c:LV} {e:Tt} {cs:DZ} {es:List Tt} (h:YF G H A c e) (t:JW G H A cs es):JW G H A (c::cs) (e::es)
end
mutual
theorem YF.mono{G:AX}{H H':Heap}{A B:Nat->Prop}(hA:∀id,A id->B id)(hs:∀id,A id->T.get H' id=T.get H id):∀{c:LV} {e:Tt},YF G H A c e->YF G H' B c e
 |_,_,.mk does nm ty line col he ht kt a1 st hl kl a2 sl=>.mk does nm ty line col (he.mono hA hs) (ht.same λid hid=>hs id (a1 id hid)) kt (λid hid=>hA id (a1 id hid)) (JW.mono hA hs st)
  (hl.same λid hid=>hs id (a2 id hid)) kl (λid hid=>hA id (a2 id hid)) (JW.mono hA hs sl)
theorem JW.mono{G:AX}{H H':Heap}{A B:Nat->Prop}(hA:∀id,A id->B id)(hs:∀id,A id->T.get H' id=T.get H id):∀{cs:DZ} {es:List Tt},JW G H A cs es->JW G H' B cs es
 |_,_,.nil=>.nil
 |_,_,.cons h t=>.cons (YF.mono hA hs h) (JW.mono hA hs t)
end
theorem JW.app{G:AX}{H:Heap}{A:Nat->Prop}:∀{cs:DZ} {es:List Tt} {cs':DZ} {es':List Tt},JW G H A cs es->JW G H A cs' es'->JW G H A (cs++cs') (es++es')
 |_,_,_,_,.nil,h=>h
 |_,_,_,_,.cons h t,h'=>.cons h (t.app h')
theorem JW.len{G:AX}{H:Heap}{A:Nat->Prop}:∀{cs:DZ} {es:List Tt},JW G H A cs es->cs.length=es.length
 |_,_,.nil=>rfl
 |_,_,.cons h t=>by simp[t.len]
theorem JW.at{G:AX}{H:Heap}{A:Nat->Prop}:∀{cs:DZ} {es:List Tt},JW G H A cs es->∀{i:Nat} {e:Tt},es[i]? =some e->∃c,cs[i]? =some c/\YF G H A c e
 |_,_,.nil,i,e,h=>by simp at h
 |_,_,.cons h t,0,e,he=>by cases he;exact⟨_,rfl,h⟩
 |_,_,.cons h t,i+1,e,he=>by obtain⟨c,h1,h2⟩:=t.at (i:=i) he;exact⟨c,h1,h2⟩
theorem YF.len{G:AX}{H:Heap}{A:Nat->Prop}{c:LV}{e:Tt}(h:YF G H A c e):c.length=9:=by cases h;rfl
def ZM(G:AX)(H:Heap)(A:Nat->Prop)(v:V)(sts:List Tt):Prop:=∃cs,El G H v 9 cs/\KS v/\jZ v=true/\Ba v=[v]/\(∀id,v.Ec=some id->A id)/\JW G H A cs sts
theorem ZM.mono{G:AX}{H H':Heap}{A B:Nat->Prop}{v:V}{es:List Tt}(h:ZM G H A v es)(hA:∀id,A id->B id)(hs:∀id,A id->T.get H' id=T.get H id):ZM G H' B v es:=by
 obtain⟨cs,h1,h2,h3,h4,h5,h6⟩:=h
 exact⟨cs,h1.same λid hid=>hs id (h5 id hid),h2,h3,h4,λid hid=>hA id (h5 id hid),h6.mono hA hs⟩
theorem ZM.nil{G:AX}{H:Heap}{A:Nat->Prop}:ZM G H A .Ad []:=⟨[],ACW,ADm,rfl,rfl,(λ_ h=>by cases h),.nil⟩
theorem YF.of{G:AX}{H:Heap}{A:Nat->Prop}{does line col:Nat}{nm:St}{ty:Ty}{ve vt vl:V}{es:List Te}{th el:List Tt}(he:Qc G H A ve es)(ht:ZM G H A vt th)(hl:ZM G H A vl el):YF G H A (ttC does line col nm ty ve vt vl) (.mk does nm ty es th el):=by
 obtain⟨ct,h1,h0,_,_,h2,h3⟩:=ht
 obtain⟨cl,k1,k0,_,_,k2,k3⟩:=hl
 exact .mk does nm ty line col he h1 h0 h2 h3 k1 k0 k2 k3
def UW(x:Dh):LV:=[x.nm.v,x.ty.nm.v,.bool x.ty.arr]
def ADg(G:AX)(H:Heap)(A:Nat->Prop)(v:V)(xs:List Dh):Prop:=El G H v 3 (xs.map UW)/\KS v/\jZ v=true/\Ba v=[v]/\(∀id,v.Ec=some id->A id)
theorem ADg.mono{G:AX}{H H':Heap}{A B:Nat->Prop}{v:V}{xs:List Dh}(h:ADg G H A v xs)(hA:∀id,A id->B id)(hs:∀id,A id->T.get H' id=T.get H id):ADg G H' B v xs:=
 ⟨h.1.same λid hid=>hs id (h.2.2.2.2 id hid),h.2.1,h.2.2.1,h.2.2.2.1,λid hid=>hA id (h.2.2.2.2 id hid)⟩
def tmC(line col:Nat)(nm:St)(st:Bool)(vp:V)(ty:Ty)(vb:V):LV:=[.int .i64 (.ofNat line) 0,.int .i64 (.ofNat col) 0,nm.v,.bool st,vp,ty.nm.v,.bool ty.arr,vb]
inductive jU(G:AX)(H:Heap)(A:Nat->Prop):LV->Tm->Prop where
 |mk (line col:Nat) {nm:St} {st:Bool} {ty:Ty} {ps:List Dh} {bd:List Tt} {vp vb:V} (hp:ADg G H A vp ps) (hb:ZM G H A vb bd):jU G H A (tmC line col nm st vp ty vb) ⟨nm,st,ps,ty,bd⟩
theorem jU.mono{G:AX}{H H':Heap}{A B:Nat->Prop}{c:LV}{m:Tm}(hA:∀id,A id->B id)(hs:∀id,A id->T.get H' id=T.get H id)(h:jU G H A c m):jU G H' B c m:=by
 cases h with
 |mk line col hp hb=>exact .mk line col (hp.mono hA hs) (hb.mono hA hs)
theorem jU.len{G:AX}{H:Heap}{A:Nat->Prop}{c:LV}{m:Tm}(h:jU G H A c m):c.length=8:=by cases h;rfl
inductive MW(G:AX)(H:Heap)(A:Nat->Prop):DZ->List Tm->Prop where
 |nil:MW G H A [] []
 |cons {c:LV} {e:Tm} {cs:DZ} {es:List Tm} (h:jU G H A c e) (t:MW G H A cs es):MW G H A (c::cs) (e::es)
theorem MW.mono{G:AX}{H H':Heap}{A B:Nat->Prop}(hA:∀id,A id->B id)(hs:∀id,A id->T.get H' id=T.get H id):∀{cs:DZ} {es:List Tm},MW G H A cs es->MW G H' B cs es
 |_,_,.nil=>.nil
 |_,_,.cons h t=>.cons (h.mono hA hs) (t.mono hA hs)
theorem MW.app{G:AX}{H:Heap}{A:Nat->Prop}:∀{cs:DZ} {es:List Tm} {cs':DZ} {es':List Tm},MW G H A cs es->MW G H A cs' es'->MW G H A (cs++cs') (es++es')
 |_,_,_,_,.nil,h=>h
 |_,_,_,_,.cons h t,h'=>.cons h (t.app h')
theorem MW.len{G:AX}{H:Heap}{A:Nat->Prop}:∀{cs:DZ} {es:List Tm},MW G H A cs es->cs.length=es.length
 |_,_,.nil=>rfl
 |_,_,.cons h t=>by simp[t.len]
theorem MW.at{G:AX}{H:Heap}{A:Nat->Prop}:∀{cs:DZ} {es:List Tm},MW G H A cs es->∀{i:Nat} {e:Tm},es[i]? =some e->∃c,cs[i]? =some c/\jU G H A c e
 |_,_,.nil,i,e,h=>by simp at h
 |_,_,.cons h t,0,e,he=>by cases he;exact⟨_,rfl,h⟩
 |_,_,.cons h t,i+1,e,he=>by obtain⟨c,h1,h2⟩:=t.at (i:=i) he;exact⟨c,h1,h2⟩
def ATQ(G:AX)(H:Heap)(A:Nat->Prop)(v:V)(ms:List Tm):Prop:=∃cs,El G H v 8 cs/\KS v/\jZ v=true/\Ba v=[v]/\(∀id,v.Ec=some id->A id)/\MW G H A cs ms
theorem ATQ.mono{G:AX}{H H':Heap}{A B:Nat->Prop}{v:V}{es:List Tm}(h:ATQ G H A v es)(hA:∀id,A id->B id)(hs:∀id,A id->T.get H' id=T.get H id):ATQ G H' B v es:=by
 obtain⟨cs,h1,h2,h3,h4,h5,h6⟩:=h
 exact⟨cs,h1.same λid hid=>hs id (h5 id hid),h2,h3,h4,λid hid=>hA id (h5 id hid),h6.mono hA hs⟩
def tcC(line col:Nat)(nm sup:St)(vf vm:V):LV:=[.int .i64 (.ofNat line) 0,.int .i64 (.ofNat col) 0,nm.v,sup.v,vf,vm]
inductive jF(G:AX)(H:Heap)(A:Nat->Prop):LV->Tc->Prop where
 |mk (line col:Nat) {nm sup:St} {fs:List Dh} {ms:List Tm} {vf vm:V} (hf:ADg G H A vf fs) (hm:ATQ G H A vm ms):jF G H A (tcC line col nm sup vf vm) ⟨nm,sup,fs,ms⟩
theorem jF.mono{G:AX}{H H':Heap}{A B:Nat->Prop}{c:LV}{m:Tc}(hA:∀id,A id->B id)(hs:∀id,A id->T.get H' id=T.get H id)(h:jF G H A c m):jF G H' B c m:=by
 cases h with
 |mk line col hf hm=>exact .mk line col (hf.mono hA hs) (hm.mono hA hs)
theorem jF.len{G:AX}{H:Heap}{A:Nat->Prop}{c:LV}{m:Tc}(h:jF G H A c m):c.length=6:=by cases h;rfl
theorem ALF(q:IntKind)(a b:Nat):B2.ev .leq (.int q (.ofNat a) 0) (.int q (.ofNat b) 0)=some (.bool (decide (a<=b))):=by
 show CG (band (keq q q) true) (mkB (ile (.ofNat a) (.ofNat b)))=_
 rw[bT,AHH,show band (keq q q) true=true by simp[VE],show decide (Int.ofNat a<=Int.ofNat b)=decide (a<=b)by rw[decide_eq_decide];show(a:Int)<=b↔_;omega];rfl
theorem N9(q:IntKind)(a b:Nat):B2.ev .gtr (.int q (.ofNat a) 0) (.int q (.ofNat b) 0)=some (.bool (decide (b<a))):=by
 show CG (band (keq q q) true) (mkB (ilt (.ofNat b) (.ofNat a)))=_
 rw[bT,cu,show band (keq q q) true=true by simp[VE],show decide (Int.ofNat b<Int.ofNat a)=decide (b<a)by rw[decide_eq_decide];show(b:Int)<a↔_;omega];rfl
theorem AVB(q:IntKind)(x y:Int):EN (.one .int) false (.int q x 0) (.int q y 0)=some (.bool (decide (x=y))):=by
 have e:EN (.one .int) false (.int q x 0) (.int q y 0)=ofB (Va (some (ieq x y)) λb=>some b):=by cases q<;>rfl
 rw[e,jQ,show(x==y)=decide (x=y)by rw[Bool.eq_iff_iff];simp];cases decide (x=y)<;>rfl
theorem APv(q:IntKind)(x y:Int):EN (.one .int) true (.int q x 0) (.int q y 0)=some (.bool (!decide (x=y))):=by
 have e:EN (.one .int) true (.int q x 0) (.int q y 0)=ofB (Va (some (ieq x y)) λb=>some (TM b)):=by cases q<;>rfl
 rw[e,jQ,show(x==y)=decide (x=y)by rw[Bool.eq_iff_iff];simp];cases decide (x=y)<;>rfl
theorem DI(q:IntKind)(x y:Nat):EN (.one .int) false (.int q (.ofNat x) 0) (.int q (.ofNat y) 0)=some (.bool (decide (x=y))):=by
 rw[AVB];congr 2;rw[decide_eq_decide];show(x:Int)=y↔_;omega
theorem AA1(q:IntKind)(x y:Nat):EN (.one .int) true (.int q (.ofNat x) 0) (.int q (.ofNat y) 0)=some (.bool (!decide (x=y))):=by
 rw[APv];congr 3;rw[decide_eq_decide];show(x:Int)=y↔_;omega
theorem AUj{a b:Nat}(hb:b<=a)(h:a<9223372036854775808):B2.ev .sub (.int .i64 (.ofNat a) 0) (.int .i64 (.ofNat b) 0)=some (.int .i64 (.ofNat (a-b)) 0):=by
 show some (V.int .i64 (qN .i64 (AF9 (.ofNat a) (Int.neg (.ofNat b)))) 0)=_
 rw[Ze,ABR]
 have e:Int.ofNat a+Int.neg (Int.ofNat b)=Int.ofNat (a-b):=by show(a:Int)+ -(b:Int)=((a-b:Nat):Int);omega
 rw[e,ay (by show(-9223372036854775808:Int)<=((a-b:Nat):Int);omega) (by show((a-b:Nat):Int)<9223372036854775808;omega)]
theorem AEL(q:IntKind)(a b:Nat):B2.ev .lss (.int q (.ofNat a) 0) (.int q (.ofNat b) 0)=some (.bool (decide (a<b))):=by
 show CG (band (keq q q) true) (mkB (ilt (.ofNat a) (.ofNat b)))=_
 rw[bT,cu,show band (keq q q) true=true by simp[VE],show decide (Int.ofNat a<Int.ofNat b)=decide (a<b)by rw[decide_eq_decide];show(a:Int)<b↔_;omega];rfl
def AHu:Nat->List V->List (Nat×X)
 |_,[]=>[]
 |i,v::vs=>(i,.c v)::AHu (i+1) vs
theorem AEv{z m:Nat}:∀(vs:List V) (i:Nat),i+vs.length<=m->(∀v∈vs,jZ v=true/\(Ba v).length=z)->aU (AHu i vs) E0 z m=true
 |[],_,_,_=>rfl
 |v::vs,i,h,hv=>by
  show band (band (jZ v) (band (Nat.blt i m) (Nat.beq (len (Ba v)) z))) (aU (AHu (i+1) vs) E0 z m)=true
  obtain⟨h1,h2⟩:=hv v (List.mem_cons_self ..)
  rw[h1,len_eq,h2,show Nat.blt i m=true by rw[Nat.blt_eq];simp at h;omega,Ea,AEv vs (i+1) (by simp at h;omega) λw hw=>hv w (List.mem_cons_of_mem _ hw)];rfl
theorem AGX:∀(vs:List V) (i:Nat) (t:T LV) (j:Nat),T.get (oV (AHu i vs) E0 t) j=if i<=j/\j<i+vs.length then(vs[j-i]?).map Ba else T.get t j
 |[],i,t,j=>by rw[if_neg (by simp)];rfl
 |v::vs,i,t,j=>by
  show T.get (oV (AHu (i+1) vs) E0 (T.set t i (Ba v))) j=_
  rw[AGX vs (i+1)]
  by_cases h1:i+1<=j/\j<i+1+vs.length
  ·rw[if_pos h1,if_pos (by rw[List.length_cons];omega)]
   rw[show j-i=(j-(i+1))+1 by omega,List.getElem?_cons_succ]
  ·rw[if_neg h1,T.TQ]
   by_cases h2:i=j
   ·subst h2;rw[if_pos (by simp)];simp
   ·rw[if_neg h2,if_neg (by rw[List.length_cons];omega)]
theorem WU{G:AX}{z m:Nat}{Z:LV}{vs:List V}{H:Heap}{n:Nat}{P:KV}(hm:vs.length=m)(hz:0<z)(hv:∀v∈vs,jZ v=true/\(Ba v).length=z)
 (h:∀H',Kp H n H' (n+1)->(∃t,T.get H' n=some (.arr z m t))->El G H' (.sl n 0 m m z) z (vs.map Ba)->P (.sl n 0 m m z) H' (n+1)):Bh (Af z m Z (AHu 0 vs) E0) H n P:=by
 show ER (aU (AHu 0 vs) E0 z m) (FT n λn=>P (.sl n 0 m m z) (T.set H n (.arr z m (oV (AHu 0 vs) E0 (ALT Z m .e)))) (Nat.succ n))
 rw[AEv vs 0 (by omega) hv,qM,CS]
 refine h _ ((Kp.refl H n).new _ (Nat.le_refl _) (by omega)) ⟨_,T.BP ..⟩ ⟨rfl,?_⟩
 show(Bool.rec (motive:=λ_=>Option DZ) none (DN _ n z m 0) (Nat.beq z z):Option DZ)=_
 rw[Ea]
 refine ah _ _ _ (by simp[hm]) λi c hc=>?_
 have hlt:i<m:=by have:=(List.getElem?_eq_some_iff.1 hc).1;simp at this;omega
 rw[Nat.zero_add,AHh (T.BP ..) hz hlt,AGX,if_pos ⟨by omega,by omega⟩,Nat.sub_zero]
 simpa using hc
theorem AVR{G:AX}{H:Heap}{id o m z:Nat}{LS:DZ}(h:DN H id z m o=some LS):El G H (.PO id o m z) z LS:=by
 refine⟨rfl,?_⟩
 show(Bool.rec (motive:=λ_=>Option DZ) none (DN H id z m o) (Nat.beq z z):Option DZ)=some LS
 rw[Ea];exact h
theorem AS2{H:Heap}{id e c i:Nat}{t:T LV}{L new:LV}(hg:T.get H id=some (.arr e c t))(he:0<e)(hi:i<c)(ht:T.get t i=some L):stH H id (i*e) e new=some (T.set H id (.arr e c (T.set t i new))):=by
 unfold stH
 rw[hg]
 show CZ (stB e c t (i*e) e new) _=_
 unfold stB
 have hd:Nat.div (i*e) e=i:=Nat.mul_div_cancel i he
 have hm:Nat.mod (i*e) e=0:=Nat.mul_mod_left i e
 rw[hd,show Nat.blt i c=true by rw[Nat.blt_eq];exact hi]
 show CZ (CZ (T.get t i) (stC new e c t (i*e) e)) _=_
 rw[ht,SY]
 unfold stC
 rw[hd,hm,Ea]
 rfl
theorem AYM{H:Heap}{id e c i n:Nat}{t:T LV}{L:LV}{v:V}{P:KV}(hg:T.get H id=some (.arr e c t))(he:0<e)(hi:i<c)(ht:T.get t i=some L)(hv:jZ v=true)(hn:(Ba v).length=e)
 (h:∀H',T.get H' id=some (.arr e c (T.set t i (Ba v)))->(∀j,j≠id->T.get H' j=T.get H j)->P .undef H' n):Bq e (.ptr id (i*e)) v H n P:=by
 unfold Bq
 rw[hv,len_eq,hn,Ea,show stP (.ptr id (i*e)) H e (Ba v)=stH H id (i*e) e (Ba v)from rfl,AS2 hg he hi ht]
 exact h _ (T.BP ..) λj hj=>T.Ak _ _ (Ne.symm hj)
theorem AVX{id o m z i:Nat}{q:IntKind}(h:i<m):BD z (.PO id o m z) (.int q (.ofNat i) 0)=some (.ptr id ((o+i)*z)):=by
 show CG (band (Nat.beq z z) (Nat.blt i m)) (Et (Nat.mul (Nat.add o i) z) λo=>some (.ptr id o))=_
 rw[Ea,show Nat.blt i m=true by rw[Nat.blt_eq];exact h,DK];rfl
theorem ADw{G:AX}{H:Heap}{m n z bs:Nat}{v w:V}{LS NS:DZ}{k:KV}(h:Gr G H m z v LS)(hm:m<=n)(hn:∀id,v.Ec=some id->id<n)(hw:elems w G H z=some NS)
 (hb:(LS.length+NS.length)*bs<=140737488355328)
 (hk:∀v' H',Gr G H' m z v' (LS++NS)->(∀id,id<n->v.Ec≠some id->T.get H' id=T.get H id)->(∀id,v'.Ec=some id->id=n)->k v' H' (n+1))
 (hk0:NS=[]->k v H n):Rt z bs v w G H n k:=by
 unfold Rt
 rw[hw,dS]
 cases h with
 |nil=>
  cases NS with
  |nil=>exact hk0 rfl
  |cons a NS=>
   show Ny z bs [] (a::NS) H n k
   unfold Ny
   rw[CS,CS,len_eq,len_eq,show TP (Nat.add ([]:DZ).length (a::NS).length) bs=true from aj hb,qM]
   have e:Nat.add ([]:DZ).length (a::NS).length=(a::NS).length:=Nat.zero_add _
   rw[e]
   refine hk _ _ ?_ (λid hid _=>T.Ak _ _ (by omega)) (λid hid=>by cases hid;rfl)
   refine .PO (LS:=a::NS) (T.BP ..) (Nat.le_refl _) (λi L hi=>?_) hm
   show T.get (Ih (a::NS) 0 .e) i=some L
   have hlt:=(List.getElem?_eq_some_iff.1 hi).1
   rw[Ic,if_pos ⟨Nat.zero_le _,by omega⟩];exact hi
 |PO hg hc ht hid=>
  rename_i id c t
  show ER (Nat.beq z z) _
  rw[Ea,qM]
  cases NS with
  |nil=>exact hk0 rfl
  |cons a NS=>
   show Ej (T.get H id) (λb=>fK id 0 LS.length z bs (a::NS) H n k b)
   rw[hg,dS]
   rw[AIj (aj hb) hc,show LS.length+(a::NS).length=(LS++a::NS).length by rw[List.length_append]]
   refine hk _ _ ?_ (λj hj hne=>?_) (λj hj=>by cases hj;rfl)
   ·refine .PO (LS:=LS++a::NS) (T.BP ..) (Nat.le_refl _) (λi L hi=>?_) hm
    rw[Ic]
    by_cases hlt:i<LS.length
    ·rw[if_neg (by omega)]
     rw[List.getElem?_append_left hlt]at hi
     exact ht i L hi
    ·rw[List.getElem?_append_right (by omega)]at hi
     have hlt2:=(List.getElem?_eq_some_iff.1 hi).1
     rw[if_pos ⟨by omega,by omega⟩];exact hi
   ·rw[T.Ak _ _ (by omega),T.Ak _ _ (by intro e;subst e;exact hne rfl)]
theorem AB{e:Option V}{v:V}{P:V->Prop}(h:e=some v)(hp:P v):AP e P:=by rw[h];exact hp
theorem Di{v:V}{P:Prop}(h:Aw v v=true)(hp:P):ER (Aw v v) P:=by rw[h];exact hp
theorem AWx{e:Option V}{a:V}{P:Prop}(h:e=some a)(hv:Aw a a=true)(hp:P):ADV (.bool true) true e a P:=by
 subst h
 show ER (Aw a a) P
 rw[hv];exact hp
theorem ARa{e:Option V}{a:V}{P:Prop}(h:e=some a)(hv:Aw a a=true)(hp:P):ADV (.bool false) false e a P:=by
 subst h
 show ER (Aw a a) P
 rw[hv];exact hp
theorem Sr{e:Option V}{a:V}{P:V->Prop}(h:e=some a)(hp:P a):BF (.bool true) true e P:=by rw[ATR];exact AB h hp
theorem X5{e:Option V}{a:V}{P:V->Prop}(h:e=some a)(hp:P a):BF (.bool false) false e P:=by rw[AUC];exact AB h hp
theorem ADX{t:KV->Prop}{H:Heap}{n:Nat}{Q:KV}(hp:t Q):I5 (.bool true) true t H n Q:=hp
theorem AF6{t:KV->Prop}{H:Heap}{n:Nat}{Q:KV}(hp:t Q):I5 (.bool false) false t H n Q:=hp
theorem DV{H:Heap}{n m b:Nat}{L0 L:LV}{P:KV}(g:T.get H b=some (one L0))(h0:L0.length=m)(h1:L.length=m)(hm:0<m)(h:∀H',T.get H' b=some (one L)->(∀j,j≠b->T.get H' j=T.get H j)->P .undef H' n):
 Bq m (.ptr b 0) (.agg L) H n P:=by
 rw[TF g hm h0 h1];exact h _ (T.BP ..) λj hj=>T.Ak _ _ (Ne.symm hj)
theorem AaJ(a b c d e:Nat):Aw (.sl a b c d e) (.sl a b c d e)=true:=by
 show Me (.sl a b c d e) (.sl a b c d e)=true
 simp[Me,AQg,Bg]
theorem AX9(a b c d:Nat):Aw (.PO a b c d) (.PO a b c d)=true:=by
 show Me (.PO a b c d) (.PO a b c d)=true
 simp[Me,AJj,Bg]
theorem AA5{G:AX}{H:Heap}{n id z bs:Nat}{t:T LV}{w:V}{a:LV}{NS:DZ}{k:KV}(hz:0<z)(hw:elems w G H z=some (a::NS))(hr:(a::NS).length*bs<=140737488355328)
 (hk:∀v' H',Gr G H' 0 z v' (a::NS)->(∀j,j<n->T.get H' j=T.get H j)->(∀i,v'.Ec=some i->i=n)->k v' H' (n+1)):Rt z bs (.sl id 0 0 0 z) w G H n k:=by
 unfold Rt
 rw[hw,dS]
 have e0:AIT (.sl id 0 0 0 z) G z bs (a::NS) H n k=Bool.rec (motive:=λ_=>Prop) (Ej (DN H id z 0 0) λOS=>Ny z bs OS (a::NS) H n k) (Ej (T.get H id) λb=>yU id 0 0 0 z (0+(a::NS).length) (a::NS) H n k b) (Nat.ble (0+(a::NS).length) 0):=by
  show ER (Nat.beq z z) (FT (Nat.add 0 (len (a::NS))) λneed=>Bool.rec (motive:=λ_=>Prop) (Ej (DN H id z 0 0) λOS=>Ny z bs OS (a::NS) H n k) (Ej (T.get H id) λb=>yU id 0 0 0 z need (a::NS) H n k b) (Nat.ble need 0))=_
  rw[Ea,qM,CS,len_eq];rfl
 rw[e0,show Nat.ble (0+(a::NS).length) 0=false by rw[Bool.eq_false_iff];intro hc;rw[Nat.ble_eq]at hc;simp at hc]
 show Ej (some []) (λOS=>Ny z bs OS (a::NS) H n k)
 rw[dS]
 unfold Ny
 rw[CS,CS,len_eq,len_eq,show TP (Nat.add ([]:DZ).length (a::NS).length) bs=true from aj (by rw[show Nat.add ([]:DZ).length (a::NS).length=(a::NS).length from Nat.zero_add _];exact hr),qM]
 have e:Nat.add ([]:DZ).length (a::NS).length=(a::NS).length:=Nat.zero_add _
 rw[e]
 refine hk _ _ ?_ (λj hj=>T.Ak _ _ (by omega)) (λi hi=>by cases hi;rfl)
 refine .PO (LS:=a::NS) (T.BP ..) (Nat.le_refl _) (λi L hi=>?_) (Nat.zero_le _)
 show T.get (Ih (a::NS) 0 .e) i=some L
 have hlt:=(List.getElem?_eq_some_iff.1 hi).1
 rw[Ic,if_pos ⟨Nat.zero_le _,by omega⟩];exact hi
inductive Sk(H:Heap)(z:Nat)(A:Nat->Prop):V->DZ->Prop where
 |nil:Sk H z A .Ad []
 |emp {id:Nat} {t:T LV} (hg:T.get H id=some (.arr z 0 t)) (ha:A id):Sk H z A (.sl id 0 0 0 z) []
 |PO {id c:Nat} {t:T LV} {LS:DZ} (hg:T.get H id=some (.arr z c t)) (hc:LS.length<=c) (ht:∀i L,LS[i]? =some L->T.get t i=some L) (ha:A id):Sk H z A (.PO id 0 LS.length z) LS
section
variable{G:AX}{H H':Heap}{z n:Nat}{A B:Nat->Prop}{v:V}{LS:DZ}
theorem Sk.own(h:Sk H z A v LS){id:Nat}(hid:v.Ec=some id):A id:=by cases h<;>cases hid<;>assumption
theorem Sk.mono(h:Sk H z A v LS)(hA:∀id,A id->B id)(hs:∀id,A id->T.get H' id=T.get H id):Sk H' z B v LS:=by
 cases h with
 |nil=>exact .nil
 |emp hg ha=>exact .emp ((hs _ ha).trans hg) (hA _ ha)
 |PO hg hc ht ha=>exact .PO ((hs _ ha).trans hg) hc ht (hA _ ha)
theorem Sk.TV(h:Sk H z A v LS)(hA:∀id,v.Ec=some id->B id)(hs:∀id,v.Ec=some id->T.get H' id=T.get H id):Sk H' z B v LS:=by
 cases h with
 |nil=>exact .nil
 |emp hg ha=>exact .emp ((hs _ rfl).trans hg) (hA _ rfl)
 |PO hg hc ht ha=>exact .PO ((hs _ rfl).trans hg) hc ht (hA _ rfl)
theorem Sk.el(h:Sk H z A v LS)(hz:0<z):El G H v z LS:=by
 cases h with
 |nil=>exact⟨rfl,rfl⟩
 |emp hg ha=>
  refine⟨rfl,?_⟩
  show(Bool.rec (motive:=λ_=>Option DZ) none (DN H _ z 0 0) (Nat.beq z z):Option DZ)=some []
  rw[Ea];rfl
 |PO hg hc ht ha=>exact AVR (ah _ _ _ rfl λi c hi=>by
  have hlt:=(List.getElem?_eq_some_iff.1 hi).1
  rw[Nat.zero_add,AHh hg hz (by omega)];exact ht i c hi)
theorem Sk.ok(h:Sk H z A v LS):jZ v=true/\Ba v=[v]/\Aw v v=true:=by
 cases h with
 |nil=>exact⟨rfl,rfl,rfl⟩
 |emp=>exact⟨rfl,rfl,AaJ ..⟩
 |PO=>exact⟨rfl,rfl,AX9 ..⟩
theorem Sk.put{i:Nat}{q:IntKind}{w:V}{P:KV}(h:Sk H z A v LS)(hz:0<z)(hi:i<LS.length)(hw:jZ w=true)(hn:(Ba w).length=z)
 (hk:∀H',Sk H' z A v (LS.set i (Ba w))->(∀j,v.Ec≠some j->T.get H' j=T.get H j)->P .undef H' n):AP (BD z v (.int q (.ofNat i) 0)) λp=>Bq z p w H n P:=by
 cases h with
 |nil=>simp at hi
 |emp=>simp at hi
 |PO hg hc ht ha=>
  rename_i id c t
  refine AB (AVX hi) ?_
  rw[Nat.zero_add]
  refine AYM hg hz (by omega) (ht i _ (List.getElem?_eq_getElem hi)) hw hn λH' g s=>?_
  refine hk H' ?_ λj hj=>s j λe=>hj (by rw[e];rfl)
  have hl:(LS.set i (Ba w)).length=LS.length:=by simp
  rw[<-hl]
  refine .PO g (by rw[hl];exact hc) (λj L hj=>?_) ha
  by_cases e:i=j
  ·subst e
   rw[List.getElem?_set_self hi]at hj
   rw[T.BP];exact hj
  ·rw[List.getElem?_set_ne e]at hj
   rw[T.Ak _ _ e];exact ht j L hj
theorem Sk.app{bs m:Nat}{c:V}{P:KV}{Z:LV}(h:Sk H z A v LS)(hn:∀id,v.Ec=some id->id<n)(hz:0<z)(hok:jZ c=true)(hc:(Ba c).length=z)(hb:(LS.length+1)*bs<=140737488355328)
 (hk:∀v' H',(∀B:Nat->Prop,B (n+1)->Sk H' z B v' (LS++[Ba c]))->(∀id,id<n->v.Ec≠some id->T.get H' id=T.get H id)->v'.Ec=some (n+1)->P v' H' (n+2)):
 Bh (Af z 1 Z [(0,.c c)] E0) H n λw H n=>Rt z bs v w G H n P:=by
 refine WU (G:=G) (vs:=[c]) rfl hz (λv hv=>by simp at hv;subst hv;exact⟨hok,hc⟩) λH6 f6 _ hel=>?_
 have fin:∀{v':V} {H7:Heap},Gr G H7 0 z v' (LS++[Ba c])->(∀id,v'.Ec=some id->id=n+1)->v'.Ec=some (n+1)/\∀B:Nat->Prop,B (n+1)->Sk H7 z B v' (LS++[Ba c]):=by
  intro v' H7 hgr hlo
  generalize hX:LS++[Ba c]=X at hgr
  cases hgr with
  |nil=>simp at hX
  |PO hg hc ht hid=>
   have e:=hlo _ rfl
   subst e
   exact⟨rfl,λB hB=>.PO hg hc ht hB⟩
 cases h with
 |nil=>
  refine ADw (m:=0) .nil (by omega) (λ_ h=>by cases h) hel.2 hb ?_ (λh=>by cases h)
  intro v' H7 hgr hsame hlo
  obtain⟨q1,q2⟩:=fin (v':=v') hgr hlo
  exact hk v' H7 q2 (λid h1 h2=>(hsame id (by omega) h2).trans (f6.same id h1)) q1
 |emp hg ha=>
  rename_i id t
  have hid:=hn id rfl
  refine AA5 (t:=t) hz hel.2 (by simpa using hb) ?_
  intro v' H7 hgr hsame hlo
  obtain⟨q1,q2⟩:=fin (v':=v') hgr hlo
  exact hk v' H7 q2 (λid h1 h2=>(hsame id (by omega)).trans (f6.same id h1)) q1
 |PO hg hc' ht ha=>
  rename_i id c' t
  have hid:=hn id rfl
  have hgr:Gr G H6 0 z (.PO id 0 LS.length z) LS:=.PO ((f6.same id hid).trans hg) hc' ht (Nat.zero_le _)
  refine ADw (m:=0) hgr (by omega) (λj h=>by cases h;omega) hel.2 hb ?_ (λh=>by cases h)
  intro v' H7 hgr hsame hlo
  obtain⟨q1,q2⟩:=fin (v':=v') hgr hlo
  exact hk v' H7 q2 (λid h1 h2=>(hsame id (by omega) h2).trans (f6.same id h1)) q1
end
theorem Ty.sV{a b:Ty}:a.is b=true↔a=b:=by
 cases a with
 |mk n r=>
 cases b with
 |mk m s=>
 simp only[Ty.is,Bool.and_eq_true,decide_eq_true_eq,beq_iff_eq,Ty.mk.injEq]
 constructor
 ·rintro⟨⟨h1,h2⟩,h3⟩;exact⟨Prod.ext h1 h2,h3⟩
 ·rintro⟨rfl,rfl⟩;exact⟨⟨rfl,rfl⟩,rfl⟩
theorem Ty.AAy(a:Ty):a.is a=true:=Ty.sV.2 rfl
def ATv:Ty:=⟨(0,0),false⟩
def Du:Ty:=⟨(3,7630441),false⟩
def CJ:Ty:=⟨(4,1819242338),false⟩
def Jl:Ty:=⟨(4,1819047278),false⟩
def Ty.cls(t:Ty):Bool:=isClass t.nm.1 t.nm.2 t.arr
def Ty.obj(t:Ty):Bool:=t.arr||(t.cls||t.is Jl)
def AE2(fs:Tab)(a b:St):Bool:=AAE b (above fs a).1
def fitsT(fs:Tab)(a b:Ty):Bool:=bif a.is b then true else bif a.is Jl then b.obj else a.cls&&(b.cls&&AE2 fs a.nm b.nm)
def Whole(fs:Tab):Prop:=∀s c,Hf fs s=some c->(above fs s).2=true
inductive Chain(fs:Tab):St->List St->Prop
 |nil:Chain fs (0,0) []
 |cons {s:St} {c:Fc} {l:List St} (h0:s≠(0,0)) (hl:Hf fs s=some c) (t:Chain fs c.sup l):Chain fs s (s::l)
section
variable{fs:Tab}(hw:Whole fs)
include hw
end
def Upper(fs:Tab):Prop:=∀s c,Hf fs s=some c->upper s.1 s.2=true
section
variable{fs:Tab}(hw:Whole fs)
include hw
variable(hu:Upper fs)
include hu
end
structure Sta where
 loc:List Ty
 stk:List Ty
structure Cx where
 fs:Tab
 pool:Pool
 max:Int
 ret:Ty
 code:List Ins
def Cx.cl(c:Cx)(i:Int):Ty:=⟨c.pool.names.getD i.toNat (0,0),false⟩
def Cx.ty(c:Cx)(i:Int):Ty:=c.pool.types.getD i.toNat ATv
def AMW(t:Ty):Ty:=⟨t.nm,false⟩
inductive Le2(R:Ty->Ty->Prop):List Ty->List Ty->Prop
 |nil:Le2 R [] []
 |cons {a b:Ty} {l m:List Ty} (h:R a b) (t:Le2 R l m):Le2 R (a::l) (b::m)
def AZm(fs:Tab)(a b:Ty):Prop:=fitsT fs a b=true
def AaM(fs:Tab)(a b:Ty):Prop:=b=ATv∨fitsT fs a b=true
def Sta.le(fs:Tab)(s t:Sta):Prop:=Le2 (AaM fs) s.loc t.loc/\Le2 (AZm fs) s.stk t.stk
section
variable{fs:Tab}(hw:Whole fs)
include hw
end
theorem wZ{G:AX}{H:Heap}{n:Nat}{k:KV}(hk:∀H' n',Kp H n H' n'->k Jl.v H' n'):Runs F G VO [] H n k:=by
 refine BH (s:=ar0 (Yw lfp G)) dJ (by obtain⟨h,o⟩:=AEG BI G;rw[dJ]at h;cases h;exact o) ?_
 show Yw lfp G (Runs F G) H n k
 delta Yw
 simp only[go_sem,Nat.reduceAdd,show Dv [.str 0 0,.bool false] [(0,1,.c (.str 4 1819047278))]=some (.agg [.str 4 1819047278,.bool false])from rfl]
 exact hk _ _ (((Kp.refl H n).new (m:=n+1) _ (Nat.le_refl _) (by omega)).new _ (Nat.le_refl _) (Nat.le_refl _))
theorem Oj{G:AX}{H:Heap}{n:Nat}{k:KV}(hk:∀H' n',Kp H n H' n'->k Du.v H' n'):Runs F G BZ [] H n k:=by
 refine BH (s:=ar0 (wQ lfp G)) zx (by obtain⟨h,o⟩:=AKj BI G;rw[zx]at h;cases h;exact o) ?_
 show wQ lfp G (Runs F G) H n k
 delta wQ
 simp only[go_sem,Nat.reduceAdd,show Dv [.str 0 0,.bool false] [(0,1,.c (.str 3 7630441))]=some (.agg [.str 3 7630441,.bool false])from rfl]
 exact hk _ _ (((Kp.refl H n).new (m:=n+1) _ (Nat.le_refl _) (by omega)).new _ (Nat.le_refl _) (Nat.le_refl _))
theorem UC{G:AX}{H:Heap}{n:Nat}{k:KV}(hk:∀H' n',Kp H n H' n'->k CJ.v H' n'):Runs F G ES [] H n k:=by
 refine BH (s:=ar0 (nI lfp G)) uD (by obtain⟨h,o⟩:=AJc BI G;rw[uD]at h;cases h;exact o) ?_
 show nI lfp G (Runs F G) H n k
 delta nI
 simp only[go_sem,Nat.reduceAdd,show Dv [.str 0 0,.bool false] [(0,1,.c (.str 4 1819242338))]=some (.agg [.str 4 1819242338,.bool false])from rfl]
 exact hk _ _ (((Kp.refl H n).new (m:=n+1) _ (Nat.le_refl _) (by omega)).new _ (Nat.le_refl _) (Nat.le_refl _))
theorem DT{G:AX}{H:Heap}{i:Nat}{t:Ty}(h:T.get H i=some (one t.cells)):Ag 2 (.ptr i 0) G H=some t.v:=Bf h (by omega) rfl
theorem Ee(i o:Nat):AU 0 (.ptr i o)=some (.ptr i o):=by simp only[go_sem];rfl
theorem AVn{G:AX}{t:Ty}{H:Heap}{n:Nat}{k:KV}(hk:∀H' n',Kp H n H' n'->k (AMW t).v H' n'):Runs F G qH [t.v] H n k:=by
 refine BH (s:=mO (Vp lfp G)) Yi (by obtain⟨h,o⟩:=AB1 BI G;rw[Yi]at h;cases h;exact o) ?_
 show Vp lfp G (Runs F G) t.v H n k
 delta Vp
 refine Dq λH1 f1 g1=>?_
 refine Az rfl λH2 f2 g2=>?_
 have g1':=f2.get g1 (by omega)
 simp only[go_sem,Nat.reduceAdd,AV (off:=0) g1' (v:=t.nm.v) rfl,show Dv [.str 0 0,.bool false] [(0,1,.c t.nm.v)]=some (.agg (AMW t).cells)from rfl]
 rw[TF (m:=2) g2 (by omega) rfl rfl,D9 (m:=2) (T.BP ..) (by omega) rfl]
 exact hk _ _ ((f1.trans f2).new _ (by omega) (Nat.le_refl _))
theorem AJP{G:AX}{t:Ty}(hl:t.nm.ok){H:Heap}{n:Nat}{k:KV}(hk:∀H' n',Kp H n H' n'->k (.bool t.cls) H' n'):Runs F G Gv [t.v] H n k:=AHZ hl hk
theorem Ld(t:Ty):Aw t.v t.v=true:=by
 show band (band (Nat.beq t.nm.1 t.nm.1) (Nat.beq t.nm.2 t.nm.2)) (band (AEe (.bool t.arr) t.arr) true)=true
 obtain⟨⟨l,c⟩,r⟩:=t
 cases r<;>simp[AEe,Bg]<;>rfl
theorem ARp:Jl.nm.ok:=by intro h;cases h
theorem AFA{G:AX}{t:Ty}(hl:t.nm.ok){H:Heap}{n:Nat}{k:KV}(hk:∀H' n',Kp H n H' n'->k (.bool t.obj) H' n'):Runs F G Sz [t.v] H n k:=by
 refine BH (s:=mO (SS lfp G)) WG (by obtain⟨h,o⟩:=AAH BI G;rw[WG]at h;cases h;exact o) ?_
 show SS lfp G (Runs F G) t.v H n k
 delta SS
 refine Dq λH1 f1 g1=>?_
 unfold Ty.obj at hk
 simp only[go_sem,Nat.reduceAdd,AV (off:=1) g1 (v:=.bool t.arr) rfl]
 cases h1:t.arr with
 |true=>
  rw[h1]at hk
  simp only[go_sem]
  exact hk _ _ f1
 |false=>
  rw[h1]at hk
  simp only[go_sem,DT g1]
  refine AJP hl λH2 n2 f2=>?_
  have f3:=f1.trans f2
  have g2:=f2.get g1 (by omega)
  cases h2:t.cls with
  |true=>
   rw[h2]at hk
   simp only[go_sem]
   exact hk _ _ f3
  |false=>
   rw[h2]at hk
   simp only[go_sem,DT g2]
   refine wZ λH4 n4 f4=>?_
   have f5:=f3.trans f4
   have g4:=f4.get g2 (by have:=f2.le;omega)
   refine ARa (DT g4) (Ld t) ?_
   simp only[go_sem,iE]
   exact hk _ _ f5
theorem ASz{G:AX}{H:Heap}{n n0 t a b:Nat}{fs:Tab}(h:TabAt G H n0 t a b fs)(hn:n0<=n)(hfs:fs.length<=1000){x y:St}{k:KV}
 (hk:∀H' n',Kb b H n H' n'->k (.bool (AE2 fs x y)) H' n'):Runs F G dI [.ptr t 0,x.v,y.v] H n k:=by
 refine BH (s:=ar3 (QV lfp G)) U6 (by obtain⟨h,o⟩:=xX BI G;rw[U6]at h;cases h;exact o) ?_
 show QV lfp G (Runs F G) (.ptr t 0) x.v y.v H n k
 delta QV
 have h:=h.kb (f:=⟨hn,λ_ _ _=>rfl,λh=>h⟩)
 refine ABi h hfs λH2 n2 v f2 ho hlen=>?_
 simp only[go_sem]
 refine zl (ho.el (by omega)) (by omega) ?_
 exact hk _ _ f2
theorem AKx{G:AX}{H:Heap}{n n0 t a b:Nat}{fs:Tab}(h:TabAt G H n0 t a b fs)(hn:n0<=n)(hfs:fs.length<=1000){x y:Ty}(hx:x.nm.ok)(hy:y.nm.ok){k:KV}
 (hk:∀H' n',Kb b H n H' n'->k (.bool (fitsT fs x y)) H' n'):Runs F G Ky [.ptr t 0,x.v,y.v] H n k:=by
 refine BH (s:=ar3 (Sj lfp G)) V8 (by obtain⟨h,o⟩:=zF BI G;rw[V8]at h;cases h;exact o) ?_
 show Sj lfp G (Runs F G) (.ptr t 0) x.v y.v H n k
 delta Sj
 have h:=h.kb (f:=⟨hn,λ_ _ _=>rfl,λh=>h⟩)
 have hbn:=h.bn
 unfold fitsT at hk
 refine Dq λH1 f1 g1=>?_
 refine Dq λH2 f2 g2=>?_
 have f3:=(f1.trans f2).kb (b:=b) hbn
 have g1:=f2.get g1 (by omega)
 simp only[go_sem,DT g1,DT g2,iE]
 cases h1:x.is y with
 |true=>
  rw[h1]at hk
  simp only[go_sem]
  exact hk _ _ f3
 |false=>
  rw[h1]at hk
  simp only[go_sem,DT g1]
  refine wZ λH4 n4 f4=>?_
  have f5:=f3.trans (f4.kb (by omega))
  have g1:=f4.get g1 (by omega)
  have g2:=f4.get g2 (by omega)
  have hn4:=f4.le
  rw[DT g1,AQ,Ld,qM]
  simp only[go_sem,iE]
  cases h2:x.is Jl with
  |true=>
   rw[h2]at hk
   simp only[go_sem,DT g2]
   refine AFA hy λH6 n6 f6=>?_
   exact hk _ _ (f5.trans (f6.kb (by omega)))
  |false=>
   rw[h2]at hk
   simp only[go_sem,DT g1]
   refine AJP hx λH6 n6 f6=>?_
   have f7:=f5.trans (f6.kb (by omega))
   have g1:=f6.get g1 (by omega)
   have g2:=f6.get g2 (by omega)
   have hn6:=f6.le
   cases h3:x.cls with
   |false=>
    rw[h3]at hk
    simp only[go_sem]
    exact hk _ _ f7
   |true=>
    rw[h3]at hk
    simp only[go_sem,DT g2]
    refine AJP hy λH8 n8 f8=>?_
    have f9:=f7.trans (f8.kb (by omega))
    have g1:=f8.get g1 (by omega)
    have g2:=f8.get g2 (by omega)
    have hn8:=f8.le
    cases h4:y.cls with
    |false=>
     rw[h4]at hk
     simp only[go_sem]
     exact hk _ _ f9
    |true=>
     rw[h4]at hk
     simp only[go_sem,Nat.reduceAdd,AV (off:=0) g1 (v:=x.nm.v) rfl,AV (off:=0) g2 (v:=y.nm.v) rfl]
     refine ASz (h.kb f9) (Nat.le_refl _) hfs λH10 n10 f10=>?_
     exact hk _ _ (f9.trans f10)
structure Kw(b m:Nat)(H:Heap)(n:Nat)(H':Heap)(n':Nat):Prop where
 le:n<=n'
 kb:Kb b H m H' m
structure Ab5(H:Heap)(m n q:Nat)(s:Sta):Prop where
 mk'::
 mq:m<=q
 qn:q<n
 is:∃vl vs,T.get H q=some (one [vl,vs])/\Sk H 2 (λid=>m<=id/\id<n/\id≠q) vl (tys s.loc)/\Sk H 2 (λid=>m<=id/\id<n/\id≠q) vs (tys s.stk.reverse)/\(∀id,vl.Ec=some id->vs.Ec≠some id)
 ol:∀t∈s.loc,t.nm.ok
 os:∀t∈s.stk,t.nm.ok
 bl:s.loc.length<=100000
 bs:s.stk.length<=100000
theorem AEq{G:AX}{H:Heap}{n id z bs:Nat}{t:T LV}{w:V}{k:KV}(hg:T.get H id=some (.arr z 0 t))(hw:elems w G H z=some [])
 (hk:∀H',(∀j,T.get H' j=T.get H j)->k (.sl id 0 0 0 z) H' n):Rt z bs (.sl id 0 0 0 z) w G H n k:=by
 unfold Rt
 rw[hw,dS]
 have e0:AIT (.sl id 0 0 0 z) G z bs [] H n k=Bool.rec (motive:=λ_=>Prop) (Ej (DN H id z 0 0) λOS=>Ny z bs OS [] H n k) (Ej (T.get H id) λb=>yU id 0 0 0 z (0+([]:DZ).length) [] H n k b) (Nat.ble (0+([]:DZ).length) 0):=by
  show ER (Nat.beq z z) (FT (Nat.add 0 (len ([]:DZ))) λneed=>Bool.rec (motive:=λ_=>Prop) (Ej (DN H id z 0 0) λOS=>Ny z bs OS [] H n k) (Ej (T.get H id) λb=>yU id 0 0 0 z need [] H n k b) (Nat.ble need 0))=_
  rw[Ea,qM,CS,len_eq];rfl
 rw[e0]
 show Ej (T.get H id) (λb=>yU id 0 0 0 z (0+0) [] H n k b)
 rw[hg,dS]
 show ER (band (Nat.beq z z) (Nat.ble (Nat.add 0 (0+0)) 0)) (k (.sl id 0 (0+0) 0 z) (T.set H id (.arr z 0 t)) n)
 rw[Ea,show Nat.ble (Nat.add 0 (0+0)) 0=true by rw[Nat.ble_eq];exact Nat.le_refl _]
 refine hk _ λj=>?_
 rw[T.TQ];split
 ·rename_i e;subst e;exact hg.symm
 ·rfl
structure Ckv where
 kb:Nat
 i:Nat
 t:Nat
 a:Nat
 b:Nat
 fm:Nat
 vn:V
 fs:Tab
 nm:St
 sup:St
 vf:V
 vm:V
 v0:V
 v1:V
 v2:V
 v3:V
 v4:V
 vb:V
 pool:Pool
 ws:List V
 nl:Nat
 mx:Int
 vc:V
 code:List Ins
 mn:St
 st:Bool
 vp:V
 ps:List Ty
 ret:Ty
def Ckv.cells(K:Ckv)(at' td:V):LV:=[.ptr K.i 0,K.nm.v,K.sup.v,K.vf,K.vm,K.v0,K.v1,K.v2,K.v3,K.v4,K.vb,.int .i64 (.ofNat K.nl) 0,.int .i64 K.mx 0,K.vc,K.mn.v,.bool K.st,K.vp,K.ret.nm.v,.bool K.ret.arr,at',td]
structure Ckv.At(K:Ckv)(G:AX)(H:Heap)(m:Nat)(at' td:V):Prop where
 box:T.get H K.kb=some (one (K.cells at' td))
 km:K.kb<m
 kb:K.kb≠K.b
 ki:K.kb≠K.i
 img:AQu G H m K.i K.t K.a K.b K.fm K.vn K.fs
 small:K.fs.length<=1000
 pool:AOh G H m K.pool K.v0 K.v1 K.v2 K.v3 K.v4 K.ws
 code:AQa G H m K.vc K.code
 ps:YT G H m K.vp K.ps
 rok:K.ret.nm.ok
 nok:K.nm.ok
 mx:K.mx<=1000
 nl:K.nl<=401
 cl:K.code.length<=16384
def yR:St:=(2,15677)
def xw:St:=(2,15649)
def ADW:St:=(1,60)
def ADb:St:=(2,15676)
def G8(s:St):List Dh->Option Ty
 |[]=>none
 |f::l=>bif decide (f.nm=s)then some f.ty else G8 s l
structure Kx where
 tb:Tab
 cls:St
 st:Bool
 ret:Ty
def yE(tb:Tab):List Ty->List Ty->Bool
 |[],[]=>true
 |a::l,p::ps=>fitsT tb a p&&yE tb l ps
 |_,_=>false
def aC(b:Bool)(t:Ty)(w:St):Option (Ty×St):=bif b then some (t,w)else none
def ZL(x:Kx)(c:Ty)(nm:St)(st:Bool)(args:List Ty):Option (Ty×St):=
 bif Cb x.tb c then
  match QF x.tb c.nm nm st with
  |some (o,s)=>aC (yE x.tb args s.ps) s.ret o
  |none=>none
 else none
def aN(x:Kx)(Γ:List Dh)(kind:Nat)(nm:St)(ty:Ty)(ks:List Ty):Option (Ty×St):=
 match kind,ks with
 |1,[]=>some (Du,(0,0))
 |2,[]=>some (CJ,(0,0))
 |3,[]=>some (CJ,(0,0))
 |4,[]=>some (Jl,(0,0))
 |5,[]=>aC (!x.st) ⟨x.cls,false⟩ (0,0)
 |6,[]=>(G8 nm Γ).map λt=>(t,(0,0))
 |7,[c]=>bif c.cls&&Cb x.tb c then(Yj x.tb c.nm nm).map λp=>(p.2,p.1)else none
 |8,c::gs=>bif c.cls then ZL x c nm false gs else none
 |9,gs=>ZL x ty nm true gs
 |10,[]=>aC (Cb x.tb ty) ty (0,0)
 |11,[k]=>aC (k.is Du&&Cb x.tb ty) ⟨ty.nm,true⟩ (0,0)
 |12,[a,i]=>aC (a.arr&&i.is Du) (AMW a) (0,0)
 |13,[a]=>aC a.arr Du (0,0)
 |14,[a]=>aC (a.is Du) Du (0,0)
 |15,[a]=>aC (a.is CJ) CJ (0,0)
 |16,[a,b]=>
  bif decide (nm=yR)||decide (nm=xw)then aC (a.is b||(a.obj&&b.obj)) CJ (0,0)
  else aC (a.is Du&&b.is Du) (bif decide (nm=ADW)||decide (nm=ADb)then CJ else Du) (0,0)
 |17,[a,b]=>aC (a.is CJ&&b.is CJ) CJ (0,0)
 |18,[a,b]=>aC (a.is CJ&&b.is CJ) CJ (0,0)
 |19,[a]=>aC ((a.cls||a.is Jl)&&Cb x.tb ty) ty (0,0)
 |20,[a]=>aC ((a.cls||a.is Jl)&&Cb x.tb ty) CJ (0,0)
 |_,_=>none
def okS(s:St):Bool:= !(decide (s.1=0))||decide (s.2=0)
def mbr(kind:Nat):Bool:=decide (kind=7)||(decide (kind=8)||decide (kind=9))
def gdE(kind:Nat)(ty:Ty)(own:St):Bool:=okS ty.nm&&(mbr kind||decide (own=(0,0)))
mutual
def ckE(x:Kx)(Γ:List Dh):Te->Option Te
 |.mk kind num nm ty _ own kids=>bif gdE kind ty own then(ckL x Γ kids).bind λks=>(aN x Γ kind nm ty (ks.map Te.of)).map λp=>.mk kind num nm ty p.1 p.2 ks else none
def ckL(x:Kx)(Γ:List Dh):List Te->Option (List Te)
 |[]=>some []
 |e::l=>(ckE x Γ e).bind λe'=>(ckL x Γ l).map λl'=>e'::l'
end
abbrev Gs:=List Dh×Nat
def ADU(v:Dh)(g:Gs):Option Gs:=bif (G8 v.nm g.1).isNone&&decide (g.2<200)then some (g.1++[v],g.2+1)else none
def AIF(x:Kx)(does:Nat)(nm:St)(ty:Ty)(es:List Ty)(g:Gs):Option Gs:=
 match does,es with
 |1,[a]=>bif fitsT x.tb a ty then ADU ⟨nm,ty⟩ g else none
 |2,[a,b]=>bif fitsT x.tb b a then some g else none
 |3,[_]=>some g
 |4,[a]=>bif a.is CJ then some g else none
 |5,[a]=>bif a.is CJ then some g else none
 |6,[a]=>bif fitsT x.tb a x.ret then some g else none
 |7,[a]=>bif a.is Du then some g else none
 |_,_=>none
def szB(l:List Tt):Bool:=decide (l.length<=1000)
mutual
def ckS(x:Kx):Tt->Gs->Option (Tt×Gs)
 |.mk does nm ty es th el,g=>
  bif decide (does=1)&& !Cb x.tb ty then none else
  (ckL x g.1 es).bind λes'=>(AIF x does nm ty (es'.map Te.of) g).bind λg1=>
   bif decide (does=4)||decide (does=5)then bif szB th&&szB el then(mG x th g1).bind λp=>(mG x el (g1.1,p.2)).map λq=>(.mk does nm ty es' p.1 q.1,(g1.1,q.2))else none
   else bif th.isEmpty&&el.isEmpty then some (.mk does nm ty es' th el,g1)else none
def mG(x:Kx):List Tt->Gs->Option (List Tt×Nat)
 |[],g=>some ([],g.2)
 |s::l,g=>(ckS x s g).bind λp=>(mG x l p.2).map λq=>(p.1::q.1,q.2)
end
def ABr:List Dh->Gs->Option Gs
 |[],g=>some g
 |v::l,g=>(ADU v g).bind (ABr l)
def ckM(tb:Tab)(cls:St)(m:Tm):Option Tm:=
 bif szB m.body then(ABr m.ps ([],0)).bind λg=>(mG ⟨tb,cls,m.st,m.ret⟩ m.body g).map λq=>{m with body:=q.1}else none
def ABV(tb:Tab)(cls:St):List Tm->Option (List Tm)
 |[]=>some []
 |m::l=>(ckM tb cls m).bind λm'=>(ABV tb cls l).map λl'=>m'::l'
def ckC(tb:Tab)(c:Tc):Option Tc:=(ABV tb c.nm c.ms).map λms=>{c with ms:=ms}
theorem AIA{x:Kx}{Γ:List Dh}{kind num:Nat}{nm:St}{ty of:Ty}{own:St}{kids:List Te}{e':Te}(h:ckE x Γ (.mk kind num nm ty of own kids)=some e'):
 ∃ks p,ckL x Γ kids=some ks/\aN x Γ kind nm ty (ks.map Te.of)=some p/\e'=.mk kind num nm ty p.1 p.2 ks/\gdE kind ty own=true:=by
 rw[ckE]at h
 cases hg:gdE kind ty own with
 |false=>rw[hg]at h;cases h
 |true=>
  rw[hg]at h
  obtain⟨ks,h1,h⟩:=Option.bind_eq_some_iff.1 (show((ckL x Γ kids).bind λks=>(aN x Γ kind nm ty (ks.map Te.of)).map λp=>Te.mk kind num nm ty p.1 p.2 ks)=some e' from h)
  obtain⟨p,h2,rfl⟩:=Option.map_eq_some_iff.1 h
  exact⟨ks,p,h1,h2,rfl,rfl⟩
theorem AOW{x:Kx}{Γ:List Dh}{kind num:Nat}{nm:St}{ty of:Ty}{own:St}{kids ks:List Te}{p:Ty×St}(h0:gdE kind ty own=true)(h1:ckL x Γ kids=some ks)(h2:aN x Γ kind nm ty (ks.map Te.of)=some p):
 ckE x Γ (.mk kind num nm ty of own kids)=some (.mk kind num nm ty p.1 p.2 ks):=by
 rw[ckE,h0,h1]
 show((aN x Γ kind nm ty (ks.map Te.of)).map λp=>Te.mk kind num nm ty p.1 p.2 ks)=_
 rw[h2];rfl
theorem OT{b:Bool}{t:Ty}{w:St}{p:Ty×St}(h:aC b t w=some p):b=true/\p=(t,w):=by
 cases b
 ·cases h
 ·cases h;exact⟨rfl,rfl⟩
theorem AP2{x:Kx}{Γ:List Dh}{nm:St}{ty:Ty}{p:Ty×St}(kind:Nat)(ks:List Ty)(h:aN x Γ kind nm ty ks=some p):mbr kind=true∨p.2=(0,0):=by
 have ok:∀{b:Bool} {t:Ty},aC b t (0,0)=some p->p.2=(0,0):=λh=>by rw[(OT h).2]
 match kind,h with
 |0,h=>cases h
 |1,h=>rcases ks with _|⟨a,_|⟨b,_|⟨c,l⟩⟩⟩<;>first|(cases h;done)|exact .inr (ok h)|(cases h;exact .inr rfl)
 |2,h=>rcases ks with _|⟨a,_|⟨b,_|⟨c,l⟩⟩⟩<;>first|(cases h;done)|exact .inr (ok h)|(cases h;exact .inr rfl)
 |3,h=>rcases ks with _|⟨a,_|⟨b,_|⟨c,l⟩⟩⟩<;>first|(cases h;done)|exact .inr (ok h)|(cases h;exact .inr rfl)
 |4,h=>rcases ks with _|⟨a,_|⟨b,_|⟨c,l⟩⟩⟩<;>first|(cases h;done)|exact .inr (ok h)|(cases h;exact .inr rfl)
 |5,h=>rcases ks with _|⟨a,_|⟨b,_|⟨c,l⟩⟩⟩<;>first|(cases h;done)|exact .inr (ok h)|(cases h;exact .inr rfl)
 |10,h=>rcases ks with _|⟨a,_|⟨b,_|⟨c,l⟩⟩⟩<;>first|(cases h;done)|exact .inr (ok h)|(cases h;exact .inr rfl)
 |11,h=>rcases ks with _|⟨a,_|⟨b,_|⟨c,l⟩⟩⟩<;>first|(cases h;done)|exact .inr (ok h)|(cases h;exact .inr rfl)
 |12,h=>rcases ks with _|⟨a,_|⟨b,_|⟨c,l⟩⟩⟩<;>first|(cases h;done)|exact .inr (ok h)|(cases h;exact .inr rfl)
 |13,h=>rcases ks with _|⟨a,_|⟨b,_|⟨c,l⟩⟩⟩<;>first|(cases h;done)|exact .inr (ok h)|(cases h;exact .inr rfl)
 |14,h=>rcases ks with _|⟨a,_|⟨b,_|⟨c,l⟩⟩⟩<;>first|(cases h;done)|exact .inr (ok h)|(cases h;exact .inr rfl)
 |15,h=>rcases ks with _|⟨a,_|⟨b,_|⟨c,l⟩⟩⟩<;>first|(cases h;done)|exact .inr (ok h)|(cases h;exact .inr rfl)
 |17,h=>rcases ks with _|⟨a,_|⟨b,_|⟨c,l⟩⟩⟩<;>first|(cases h;done)|exact .inr (ok h)|(cases h;exact .inr rfl)
 |18,h=>rcases ks with _|⟨a,_|⟨b,_|⟨c,l⟩⟩⟩<;>first|(cases h;done)|exact .inr (ok h)|(cases h;exact .inr rfl)
 |19,h=>rcases ks with _|⟨a,_|⟨b,_|⟨c,l⟩⟩⟩<;>first|(cases h;done)|exact .inr (ok h)|(cases h;exact .inr rfl)
 |20,h=>rcases ks with _|⟨a,_|⟨b,_|⟨c,l⟩⟩⟩<;>first|(cases h;done)|exact .inr (ok h)|(cases h;exact .inr rfl)
 |6,h=>
  rcases ks with _|⟨a,l⟩
  ·obtain⟨t,_,rfl⟩:=Option.map_eq_some_iff.1 (show(G8 nm Γ).map (λt=>(t,((0,0):St)))=some p from h);exact .inr rfl
  ·cases h
 |7,h=>exact .inl rfl
 |8,h=>exact .inl rfl
 |9,h=>exact .inl rfl
 |16,h=>
  rcases ks with _|⟨a,_|⟨b,_|⟨c,l⟩⟩⟩<;>try (cases h;done)
  have h:(bif decide (nm=yR)||decide (nm=xw)then aC (a.is b||(a.obj&&b.obj)) CJ (0,0)else aC (a.is Du&&b.is Du) (bif decide (nm=ADW)||decide (nm=ADb)then CJ else Du) (0,0))=some p:=h
  cases hb:decide (nm=yR)||decide (nm=xw)with
  |true=>rw[hb]at h;exact .inr (ok h)
  |false=>rw[hb]at h;exact .inr (ok h)
 |k+21,h=>cases h
theorem tY{x:Kx}{Γ:List Dh}{e:Te}{l l':List Te}(h:ckL x Γ (e::l)=some l'):∃e' t,ckE x Γ e=some e'/\ckL x Γ l=some t/\l'=e'::t:=by
 rw[ckL]at h
 obtain⟨e',h1,h⟩:=Option.bind_eq_some_iff.1 h
 obtain⟨t,h2,rfl⟩:=Option.map_eq_some_iff.1 h
 exact⟨e',t,h1,h2,rfl⟩
theorem AA3{x:Kx}{Γ:List Dh}:∀{l l':List Te},ckL x Γ l=some l'->l'.length=l.length
 |[],l',h=>by rw[ckL]at h;cases h;rfl
 |e::l,l',h=>by
  obtain⟨e',t,_,h2,rfl⟩:=tY h
  simp[AA3 h2]
theorem ALm{x:Kx}{Γ:List Dh}:∀{l l':List Te} {i:Nat} {e:Te},ckL x Γ l=some l'->l[i]? =some e->∃e',l'[i]? =some e'/\ckE x Γ e=some e'
 |[],l',i,e,h,he=>by simp at he
 |a::l,l',i,e,h,he=>by
  obtain⟨e',t,h1,h2,rfl⟩:=tY h
  cases i with
  |zero=>cases he;exact⟨e',rfl,h1⟩
  |succ i=>exact ALm (i:=i) h2 he
def Ox:Ty:=⟨(0,0),false⟩
def nA:St:=(1,65)
def nB:St:=(1,66)
def n_x:St:=(1,120)
def ACO:St:=(4,1954047342)
def ANm:St:=(2,29560)
def QK:St:=(4,1734437990)
def dM:St:=(3,7628135)
def AEC:St:=(4,1718379891)
def vI:St:=(3,7173491)
def AVS:St:=(4,1852399981)
def AT5:St:=(1,43)
def ATd:St:=(1,45)
def ATr:St:=(1,42)
def ATc:St:=(1,47)
def ATp:St:=(1,37)
def tA:Ty:=⟨nA,false⟩
def tB:Ty:=⟨nB,false⟩
def tIs:Ty:=⟨Du.nm,true⟩
def Qn:Es:=⟨dM,false,[Du],Du⟩
def iC:Es:=⟨AEC,false,[],tA⟩
def RD:Es:=⟨vI,true,[Du,tA],Du⟩
def wL:Es:=⟨AVS,true,[Du,Du],Du⟩
def RG:Fc:=⟨nA,(0,0),[⟨ACO,tA⟩,⟨n_x,Du⟩,⟨ANm,tIs⟩],[Qn,wL,iC,RD]⟩
def Xx(g s:Bool):Fc:=⟨nB,nA,[⟨QK,CJ⟩],(bif g then[Qn]else[])++(bif s then[RD]else[])⟩
theorem AVk{g s st:Bool}{f:St}{q m:Es}(hq:WW st f (Xx g s).ms=some q)(hf:WW st f RG.ms=some m):q=m:=by
 have key:(f=dM/\st=false/\q=Qn)∨(f=vI/\st=true/\q=RD):=by
  have hgt:O9 f [Qn]=some Qn/\f=dM∨O9 f [Qn]=none:=by
   by_cases e:dM=f
   ·subst e;exact .inl ⟨rfl,rfl⟩
   ·right
    show(bif decide (dM.1=f.1/\dM.2=f.2)then _ else none)=none
    rw[decide_eq_false λe'=>e (Prod.ext e'.1 e'.2)];rfl
  have hsm:O9 f [RD]=some RD/\f=vI∨O9 f [RD]=none:=by
   by_cases e:vI=f
   ·subst e;exact .inl ⟨rfl,rfl⟩
   ·right
    show(bif decide (vI.1=f.1/\vI.2=f.2)then _ else none)=none
    rw[decide_eq_false λe'=>e (Prod.ext e'.1 e'.2)];rfl
  have one:O9 f (Xx g s).ms=some Qn/\f=dM∨O9 f (Xx g s).ms=some RD/\f=vI∨O9 f (Xx g s).ms=none:=by
   cases g<;>cases s
   ·exact .inr (.inr rfl)
   ·rcases hsm with h|h
    ·exact .inr (.inl h)
    ·exact .inr (.inr h)
   ·rcases hgt with h|h
    ·exact .inl h
    ·exact .inr (.inr h)
   ·by_cases e:dM=f
    ·subst e;exact .inl ⟨rfl,rfl⟩
    ·have:O9 f (Xx true true).ms=O9 f [RD]:=by
      show(bif decide (dM.1=f.1/\dM.2=f.2)then _ else O9 f [RD])=_
      rw[decide_eq_false λe'=>e (Prod.ext e'.1 e'.2)];rfl
     rw[this]
     rcases hsm with h|h
     ·exact .inr (.inl h)
     ·exact .inr (.inr h)
  unfold WW at hq
  rcases one with⟨h1,h2⟩|⟨h1,h2⟩|h1
  ·rw[h1]at hq
   cases st with
   |false=>cases hq;exact .inl ⟨h2,rfl,rfl⟩
   |true=>cases hq
  ·rw[h1]at hq
   cases st with
   |false=>cases hq
   |true=>cases hq;exact .inr ⟨h2,rfl,rfl⟩
  ·rw[h1]at hq;cases hq
 rcases key with⟨rfl,rfl,rfl⟩|⟨rfl,rfl,rfl⟩
 ·exact Option.some.inj (show some Qn=some m from hf)
 ·exact Option.some.inj (show some RD=some m from hf)
theorem wU{tb:Tab}{t:Ty}(h1:AJh t.nm=true)(h2:upper t.nm.1 t.nm.2=false):Cb tb t=true:=by unfold Cb;rw[h1,h2];rfl
structure Yk(tb:Tab):Prop where
 a:Hf tb nA=some RG
 b:∃g s,Hf tb nB=some (Xx g s)
 two:2<=tb.length
theorem AFH{m:Nat}{tb:Tab}{out:List St}{s:St}{c:Fc}(h0:¬(s.1=0/\s.2=0))(hc:Hf tb s=some c)(ho:AAE s out=false):Tv (m+1) tb out s=Tv m tb (out++[s]) c.sup:=by
 rw[Tv,decide_eq_false h0]
 show(match Hf tb s with|none=>(out,false)|some c=>bif AAE s out then(out,false)else Tv m tb (out++[s]) c.sup)=_
 rw[hc]
 show(bif AAE s out then(out,false)else Tv m tb (out++[s]) c.sup)=_
 rw[ho];rfl
theorem ABn{m:Nat}{tb:Tab}{out:List St}:Tv (m+1) tb out (0,0)=(out,true):=rfl
section
variable{tb:Tab}(h:Yk tb)
include h
theorem Yk.upA:above tb nA=([nA],true):=by
 have h2:=h.two
 obtain⟨m,hm⟩:∃m,tb.length=m+1:=⟨tb.length-1,by omega⟩
 unfold above
 rw[hm,AFH (by decide) h.a rfl]
 exact ABn
theorem Yk.upB:above tb nB=([nB,nA],true):=by
 have h2:=h.two
 obtain⟨g,s,hb⟩:=h.b
 obtain⟨m,hm⟩:∃m,tb.length=m+2:=⟨tb.length-2,by omega⟩
 unfold above
 rw[hm,AFH (by decide) hb rfl,show(Xx g s).sup=nA from rfl,AFH (by decide) h.a (by decide)]
 exact ABn
theorem Yk.kA:Cb tb tA=true:=by unfold Cb;rw[show tA.nm=nA from rfl,h.a];rfl
theorem Yk.kB:Cb tb tB=true:=by obtain⟨g,s,hb⟩:=h.b;unfold Cb;rw[show tB.nm=nB from rfl,hb];rfl
theorem Yk.AZW{f:St}{t:Ty}(hf:Zo f RG.fs=some t):Yj tb nA f=some (nA,t):=by
 unfold Yj
 rw[h.upA]
 show(match Zo f ((Hf tb nA).getD Fh).fs with|some t=>some (nA,t)|none=>_)=_
 rw[h.a]
 show(match Zo f RG.fs with|some t=>some (nA,t)|none=>_)=_
 rw[hf]
theorem Yk.AZ6{f:St}{t:Ty}(hf:Zo f RG.fs=some t)(hn:f≠QK):Yj tb nB f=some (nA,t):=by
 obtain⟨g,s,hb⟩:=h.b
 unfold Yj
 rw[h.upB]
 show(match Zo f ((Hf tb nB).getD Fh).fs with|some t=>some (nB,t)|none=>qQ tb f [nA])=_
 rw[hb]
 have:Zo f (Xx g s).fs=none:=by
  show(bif decide (QK.1=f.1/\QK.2=f.2)then _ else none)=none
  rw[decide_eq_false λe=>hn (Prod.ext e.1.symm e.2.symm)];rfl
 show(match Zo f (Xx g s).fs with|some t=>some (nB,t)|none=>qQ tb f [nA])=_
 rw[this]
 show(match Zo f ((Hf tb nA).getD Fh).fs with|some t=>some (nA,t)|none=>_)=_
 rw[h.a]
 show(match Zo f RG.fs with|some t=>some (nA,t)|none=>_)=_
 rw[hf]
theorem Yk.flag:Yj tb nB QK=some (nB,CJ):=by
 obtain⟨g,s,hb⟩:=h.b
 unfold Yj
 rw[h.upB]
 show(match Zo QK ((Hf tb nB).getD Fh).fs with|some t=>some (nB,t)|none=>qQ tb QK [nA])=_
 rw[hb];rfl
theorem Yk.AXg{f:St}{st:Bool}{m:Es}(hf:WW st f RG.ms=some m):QF tb nA f st=some (nA,m):=by
 unfold QF
 rw[h.upA]
 show(match WW st f ((Hf tb nA).getD Fh).ms with|some m=>some (nA,m)|none=>_)=_
 rw[h.a]
 show(match WW st f RG.ms with|some m=>some (nA,m)|none=>_)=_
 rw[hf]
theorem Yk.AZz{f:St}{st:Bool}{m:Es}(hf:WW st f RG.ms=some m):∃o,QF tb nB f st=some (o,m):=by
 obtain⟨g,s,hb⟩:=h.b
 unfold QF
 rw[h.upB]
 have hA:OA tb f st [nA]=some (nA,m):=by
  show(match WW st f ((Hf tb nA).getD Fh).ms with|some m=>some (nA,m)|none=>_)=_
  rw[h.a]
  show(match WW st f RG.ms with|some m=>some (nA,m)|none=>_)=_
  rw[hf]
 show ∃o,(match WW st f ((Hf tb nB).getD Fh).ms with|some m=>some (nB,m)|none=>OA tb f st [nA])=_
 rw[hb]
 show ∃o,(match WW st f (Xx g s).ms with|some m=>some (nB,m)|none=>OA tb f st [nA])=_
 cases hq:WW st f (Xx g s).ms with
 |none=>exact⟨nA,hA⟩
 |some q=>
  refine⟨nB,?_⟩
  rw[AVk hq hf]
theorem Yk.AX0:fitsT tb tB tA=true:=by
 have hb:AE2 tb nB nA=true:=by unfold AE2;rw[h.upB];rfl
 show(bif tB.is tA then true else bif tB.is Jl then tA.obj else tB.cls&&(tA.cls&&AE2 tb nB nA))=true
 rw[hb];rfl
omit h in
theorem AXf{t:Ty}(ht:t=tA∨t=tB):fitsT tb Jl t=true:=by rcases ht with rfl|rfl<;>rfl
omit h in
theorem AVc(t:Ty):fitsT tb t t=true:=by unfold fitsT;rw[Ty.AAy];rfl
end
structure Okx(inn:St)(x:Kx):Prop where
 tb:Yk x.tb
 inn:inn≠(0,0)->x.st=false/\x.cls=inn
def Gd(inn:St)(Γ:List Dh)(e:Te)(t:Ty):Prop:=∀x,Okx inn x->∃e',ckE x Γ e=some e'/\e'.of=t
def GdL(inn:St)(Γ:List Dh)(es:List Te)(ts:List Ty):Prop:=∀x,Okx inn x->∃es',ckL x Γ es=some es'/\es'.map Te.of=ts
section
variable{inn:St}{Γ:List Dh}
theorem GdL.nil:GdL inn Γ [] []:=λ_ _=>⟨[],by rw[ckL],rfl⟩
theorem GdL.cons{e:Te}{t:Ty}{es:List Te}{ts:List Ty}(h:Gd inn Γ e t)(hs:GdL inn Γ es ts):GdL inn Γ (e::es) (t::ts):=λx hx=>by
 obtain⟨e',h1,h2⟩:=h x hx
 obtain⟨es',h3,h4⟩:=hs x hx
 refine⟨e'::es',?_,by rw[List.map_cons,h2,h4]⟩
 rw[ckL,h1]
 show((ckL x Γ es).map λl'=>e'::l')=_
 rw[h3];rfl
theorem Gd.mk{kind num:Nat}{nm:St}{ty of:Ty}{own:St}{kids:List Te}{ts:List Ty}{t:Ty}(h0:gdE kind ty own=true)(hk:GdL inn Γ kids ts)(ht:∀x,Okx inn x->∃o,aN x Γ kind nm ty ts=some (t,o)):Gd inn Γ (.mk kind num nm ty of own kids) t:=λx hx=>by
 obtain⟨ks,h1,h2⟩:=hk x hx
 obtain⟨o,h3⟩:=ht x hx
 exact⟨.mk kind num nm ty t o ks,AOW h0 h1 (by rw[h2];exact h3),rfl⟩
theorem GdL.one{a:Te}{t:Ty}(h:Gd inn Γ a t):GdL inn Γ [a] [t]:=.cons h .nil
theorem GdL.two{a b:Te}{t u:Ty}(h:Gd inn Γ a t)(h2:Gd inn Γ b u):GdL inn Γ [a,b] [t,u]:=.cons h (.cons h2 .nil)
variable{n:Nat}{nm:St}{ty of:Ty}{a b:Te}
theorem Gd.num:Gd inn Γ (.mk 1 n nm Ox of (0,0) []) Du:=.mk rfl .nil λ_ _=>⟨_,rfl⟩
theorem Gd.tru:Gd inn Γ (.mk 2 n nm Ox of (0,0) []) CJ:=.mk rfl .nil λ_ _=>⟨_,rfl⟩
theorem Gd.fls:Gd inn Γ (.mk 3 n nm Ox of (0,0) []) CJ:=.mk rfl .nil λ_ _=>⟨_,rfl⟩
theorem Gd.nul:Gd inn Γ (.mk 4 n nm Ox of (0,0) []) Jl:=.mk rfl .nil λ_ _=>⟨_,rfl⟩
theorem Gd.this(h:inn≠(0,0)):Gd inn Γ (.mk 5 n nm Ox of (0,0) []) ⟨inn,false⟩:=.mk rfl .nil λx hx=>by
 obtain⟨h1,h2⟩:=hx.inn h
 refine⟨(0,0),?_⟩
 show aC (!x.st) ⟨x.cls,false⟩ (0,0)=_
 rw[h1,h2];rfl
theorem Gd.loc{t:Ty}(h:G8 nm Γ=some t):Gd inn Γ (.mk 6 n nm Ox of (0,0) []) t:=.mk rfl .nil λx hx=>by
 refine⟨(0,0),?_⟩
 show(G8 nm Γ).map _=_
 rw[h];rfl
theorem Gd.get{c t:Ty}(ha:Gd inn Γ a c)(hc:c=tA∨c=tB)(hf:Zo nm RG.fs=some t)(hn:nm≠QK):Gd inn Γ (.mk 7 n nm Ox of (0,0) [a]) t:=.mk rfl (.one ha) λx hx=>by
 rcases hc with rfl|rfl
 ·refine⟨nA,?_⟩
  show(bif tA.cls&&Cb x.tb tA then(Yj x.tb nA nm).map λp=>(p.2,p.1)else none)=_
  rw[hx.tb.kA,hx.tb.AZW hf];rfl
 ·refine⟨nA,?_⟩
  show(bif tB.cls&&Cb x.tb tB then(Yj x.tb nB nm).map λp=>(p.2,p.1)else none)=_
  rw[hx.tb.kB,hx.tb.AZ6 hf hn];rfl
theorem Gd.flag(ha:Gd inn Γ a tB):Gd inn Γ (.mk 7 n QK Ox of (0,0) [a]) CJ:=.mk rfl (.one ha) λx hx=>by
 refine⟨nB,?_⟩
 show(bif tB.cls&&Cb x.tb tB then(Yj x.tb nB QK).map λp=>(p.2,p.1)else none)=_
 rw[hx.tb.kB,hx.tb.flag];rfl
theorem AIJ{x:Kx}(hx:Okx inn x){c:Ty}(hc:c=tA∨c=tB){st:Bool}{s:Es}{gs:List Ty}(hs:WW st nm RG.ms=some s)(hf:yE x.tb gs s.ps=true):∃o,ZL x c nm st gs=some (s.ret,o):=by
 unfold ZL
 rcases hc with rfl|rfl
 ·rw[hx.tb.kA]
  refine⟨nA,?_⟩
  show(match QF x.tb nA nm st with|some (o,s)=>aC (yE x.tb gs s.ps) s.ret o|none=>none)=_
  rw[hx.tb.AXg hs]
  show aC (yE x.tb gs s.ps) s.ret nA=_
  rw[hf];rfl
 ·rw[hx.tb.kB]
  obtain⟨o,ho⟩:=hx.tb.AZz hs
  refine⟨o,?_⟩
  show(match QF x.tb nB nm st with|some (o,s)=>aC (yE x.tb gs s.ps) s.ret o|none=>none)=_
  rw[ho]
  show aC (yE x.tb gs s.ps) s.ret o=_
  rw[hf];rfl
theorem Gd.AXD{c:Ty}(ha:Gd inn Γ a c)(hc:c=tA∨c=tB)(hb:Gd inn Γ b Du):Gd inn Γ (.mk 8 n dM Ox of (0,0) [a,b]) Du:=.mk rfl (.two ha hb) λx hx=>by
 obtain⟨o,h⟩:=AIJ (nm:=dM) hx hc (st:=false) (s:=Qn) rfl (gs:=[Du]) (by show(fitsT x.tb Du Du&&true)=true;rw[AVc];rfl)
 refine⟨o,?_⟩
 show(bif c.cls then ZL x c dM false [Du]else none)=_
 rw[show c.cls=true by rcases hc with rfl|rfl<;>rfl,h];rfl
theorem Gd.AYN{c:Ty}(ha:Gd inn Γ a c)(hc:c=tA∨c=tB):Gd inn Γ (.mk 8 n AEC Ox of (0,0) [a]) tA:=.mk rfl (.one ha) λx hx=>by
 obtain⟨o,h⟩:=AIJ (nm:=AEC) hx hc (st:=false) (s:=iC) rfl (gs:=[]) rfl
 refine⟨o,?_⟩
 show(bif c.cls then ZL x c AEC false []else none)=_
 rw[show c.cls=true by rcases hc with rfl|rfl<;>rfl,h];rfl
inductive Rq:Ty->Ty->Prop where
 |same (t:Ty):Rq t t
 |ba:Rq tA tB
 |na:Rq tA Jl
 |nb:Rq tB Jl
theorem Rq.fits{tb:Tab}(h:Yk tb){t u:Ty}(r:Rq t u):fitsT tb u t=true:=by
 cases r with
 |same=>exact AVc _
 |ba=>exact h.AX0
 |na=>exact AXf (.inl rfl)
 |nb=>exact AXf (.inr rfl)
theorem Gd.AZ2{u:Ty}(ht:ty=tA∨ty=tB)(ha:Gd inn Γ a Du)(hb:Gd inn Γ b u)(hu:Rq tA u):Gd inn Γ (.mk 9 n vI ty of (0,0) [a,b]) Du:=.mk (by rcases ht with rfl|rfl<;>rfl) (.two ha hb) λx hx=>by
 obtain⟨o,h⟩:=AIJ (nm:=vI) hx ht (st:=true) (s:=RD) rfl (gs:=[Du,u]) (by show(fitsT x.tb Du Du&&(fitsT x.tb u tA&&true))=true;rw[AVc,hu.fits hx.tb];rfl)
 exact⟨o,h⟩
theorem Gd.new(ht:ty=tA∨ty=tB):Gd inn Γ (.mk 10 n nm ty of (0,0) []) ty:=.mk (by rcases ht with rfl|rfl<;>rfl) .nil λx hx=>by
 refine⟨(0,0),?_⟩
 show aC (Cb x.tb ty) ty (0,0)=_
 rcases ht with rfl|rfl
 ·rw[hx.tb.kA];rfl
 ·rw[hx.tb.kB];rfl
theorem Gd.arr(ha:Gd inn Γ a Du):Gd inn Γ (.mk 11 n nm Du of (0,0) [a]) tIs:=.mk rfl (.one ha) λx hx=>⟨(0,0),rfl⟩
theorem Gd.elm(ha:Gd inn Γ a tIs)(hb:Gd inn Γ b Du):Gd inn Γ (.mk 12 n nm Ox of (0,0) [a,b]) Du:=.mk rfl (.two ha hb) λx hx=>⟨(0,0),rfl⟩
theorem Gd.len(ha:Gd inn Γ a tIs):Gd inn Γ (.mk 13 n nm Ox of (0,0) [a]) Du:=.mk rfl (.one ha) λx hx=>⟨(0,0),rfl⟩
theorem Gd.neg(ha:Gd inn Γ a Du):Gd inn Γ (.mk 14 n nm Ox of (0,0) [a]) Du:=.mk rfl (.one ha) λx hx=>⟨(0,0),rfl⟩
theorem Gd.not(ha:Gd inn Γ a CJ):Gd inn Γ (.mk 15 n nm Ox of (0,0) [a]) CJ:=.mk rfl (.one ha) λx hx=>⟨(0,0),rfl⟩
theorem Gd.and(ha:Gd inn Γ a CJ)(hb:Gd inn Γ b CJ):Gd inn Γ (.mk 17 n nm Ox of (0,0) [a,b]) CJ:=.mk rfl (.two ha hb) λx hx=>⟨(0,0),rfl⟩
theorem Gd.or(ha:Gd inn Γ a CJ)(hb:Gd inn Γ b CJ):Gd inn Γ (.mk 18 n nm Ox of (0,0) [a,b]) CJ:=.mk rfl (.two ha hb) λx hx=>⟨(0,0),rfl⟩
theorem Gd.ari(hn:nm∈[AT5,ATd,ATr,ATc,ATp])(ha:Gd inn Γ a Du)(hb:Gd inn Γ b Du):Gd inn Γ (.mk 16 n nm Ox of (0,0) [a,b]) Du:=.mk rfl (.two ha hb) λx hx=>by
 refine⟨(0,0),?_⟩
 simp only[List.mem_cons,List.not_mem_nil,or_false]at hn
 rcases hn with rfl|rfl|rfl|rfl|rfl<;>rfl
theorem Gd.cmp(hn:nm∈[ADW,ADb,yR,xw])(ha:Gd inn Γ a Du)(hb:Gd inn Γ b Du):Gd inn Γ (.mk 16 n nm Ox of (0,0) [a,b]) CJ:=.mk rfl (.two ha hb) λx hx=>by
 refine⟨(0,0),?_⟩
 simp only[List.mem_cons,List.not_mem_nil,or_false]at hn
 rcases hn with rfl|rfl|rfl|rfl<;>rfl
theorem Rq.obj{t u:Ty}(r:Rq t u)(ht:t.obj=true):u.obj=true:=by
 cases r with
 |same=>exact ht
 |ba=>rfl
 |na=>rfl
 |nb=>rfl
theorem Gd.same{t u:Ty}(hn:nm∈[yR,xw])(ha:Gd inn Γ a t)(hb:Gd inn Γ b u)(h1:t.obj=true)(h2:u.obj=true):Gd inn Γ (.mk 16 n nm Ox of (0,0) [a,b]) CJ:=.mk rfl (.two ha hb) λx hx=>by
 refine⟨(0,0),?_⟩
 simp only[List.mem_cons,List.not_mem_nil,or_false]at hn
 have:aN x Γ 16 nm Ox [t,u]=aC (t.is u||(t.obj&&u.obj)) CJ (0,0):=by rcases hn with rfl|rfl<;>rfl
 rw[this,h1,h2,Bool.and_self,Bool.or_true];rfl
theorem Gd.asx{t:Ty}(hty:ty=tA∨ty=tB)(ha:Gd inn Γ a t)(ht:(t.cls||t.is Jl)=true):Gd inn Γ (.mk 19 n nm ty of (0,0) [a]) ty:=.mk (by rcases hty with rfl|rfl<;>rfl) (.one ha) λx hx=>by
 refine⟨(0,0),?_⟩
 show aC ((t.cls||t.is Jl)&&Cb x.tb ty) ty (0,0)=_
 rw[ht]
 rcases hty with rfl|rfl
 ·rw[hx.tb.kA];rfl
 ·rw[hx.tb.kB];rfl
theorem Gd.isx{t:Ty}(hty:ty=tA∨ty=tB)(ha:Gd inn Γ a t)(ht:(t.cls||t.is Jl)=true):Gd inn Γ (.mk 20 n nm ty of (0,0) [a]) CJ:=.mk (by rcases hty with rfl|rfl<;>rfl) (.one ha) λx hx=>by
 refine⟨(0,0),?_⟩
 show aC ((t.cls||t.is Jl)&&Cb x.tb ty) CJ (0,0)=_
 rw[ht]
 rcases hty with rfl|rfl
 ·rw[hx.tb.kA];rfl
 ·rw[hx.tb.kB];rfl
end
def Lh(t:Ty):Prop:=t=Du∨t=CJ∨t=tA∨t=tB∨t=tIs
theorem Yk.AWw{tb:Tab}(h:Yk tb){t:Ty}(ht:Lh t):Cb tb t=true:=by
 rcases ht with rfl|rfl|rfl|rfl|rfl
 ·exact wU (by decide) (by decide)
 ·exact wU (by decide) (by decide)
 ·exact h.kA
 ·exact h.kB
 ·exact wU (by decide) (by decide)
def GdS(inn:St)(ret:Ty)(Γ Γ':List Dh)(k:Nat)(s:Tt):Prop:=∀x,Okx inn x->x.ret=ret->∀n,n+k<=200->∃s' n',ckS x s (Γ,n)=some (s',(Γ',n'))/\n'<=n+k
def GdB(inn:St)(ret:Ty)(Γ:List Dh)(k:Nat)(l:List Tt):Prop:=∀x,Okx inn x->x.ret=ret->∀n,n+k<=200->∃l' n',mG x l (Γ,n)=some (l',n')/\n'<=n+k
def GdQ(inn:St)(ret:Ty)(Γ Γ':List Dh)(k:Nat)(l:List Tt):Prop:=∀x,Okx inn x->x.ret=ret->∀n,n+k<=200->∃l' n',(∀r,mG x (l++r) (Γ,n)=(mG x r (Γ',n')).map λq=>(l'++q.1,q.2))/\n'<=n+k
section
variable{inn:St}{ret:Ty}{Γ Γ':List Dh}{nm:St}{ty:Ty}
theorem AEi{x:Kx}{does:Nat}{es es':List Te}{g:Gs}{n:Nat}(hk:decide (does=1)=true->Cb x.tb ty=true)(he:ckL x Γ es=some es')(hs:AIF x does nm ty (es'.map Te.of) (Γ,n)=some g)(hd:does≠4/\does≠5):
 ckS x (.mk does nm ty es [] []) (Γ,n)=some (.mk does nm ty es' [] [],g):=by
 rw[ckS]
 have:(decide (does=1)&& !Cb x.tb ty)=false:=by
  cases h:decide (does=1)with
  |false=>rfl
  |true=>rw[hk h];rfl
 rw[this,he]
 show((AIF x does nm ty (es'.map Te.of) (Γ,n)).bind _)=_
 rw[hs]
 show(bif decide (does=4)||decide (does=5)then _ else _)=_
 rw[decide_eq_false hd.1,decide_eq_false hd.2];rfl
theorem GdS.lt{a:Te}{u:Ty}(ht:Lh ty)(ha:Gd inn Γ a u)(hu:Rq ty u)(hn:G8 nm Γ=none):GdS inn ret Γ (Γ++[⟨nm,ty⟩]) 1 (.mk 1 nm ty [a] [] []):=λx hx _ n hk=>by
 obtain⟨es',h1,h2⟩:=GdL.one ha x hx
 refine⟨_,_,AEi (λ_=>hx.tb.AWw ht) h1 (g:=(Γ++[⟨nm,ty⟩],n+1)) ?_ (by decide),Nat.le_refl _⟩
 rw[h2]
 show(bif fitsT x.tb u ty then ADU ⟨nm,ty⟩ (Γ,n)else none)=_
 rw[hu.fits hx.tb]
 show(bif (G8 nm Γ).isNone&&decide (n<200)then _ else none)=_
 rw[hn,decide_eq_true (show n<200 by omega)];rfl
theorem GdS.put{a b:Te}{t u:Ty}(ha:Gd inn Γ a t)(hb:Gd inn Γ b u)(hu:Rq t u):GdS inn ret Γ Γ 0 (.mk 2 nm ty [a,b] [] []):=λx hx _ n hk=>by
 obtain⟨es',h1,h2⟩:=GdL.two ha hb x hx
 refine⟨_,_,AEi (λh=>by cases h) h1 (g:=(Γ,n)) ?_ (by decide),Nat.le_refl _⟩
 rw[h2]
 show(bif fitsT x.tb u t then some (Γ,n)else none)=_
 rw[hu.fits hx.tb];rfl
theorem GdS.ask{a:Te}{t:Ty}(ha:Gd inn Γ a t):GdS inn ret Γ Γ 0 (.mk 3 nm ty [a] [] []):=λx hx _ n hk=>by
 obtain⟨es',h1,h2⟩:=GdL.one ha x hx
 refine⟨_,_,AEi (λh=>by cases h) h1 (g:=(Γ,n)) ?_ (by decide),Nat.le_refl _⟩
 rw[h2];rfl
theorem GdS.rtn{a:Te}{u:Ty}(ha:Gd inn Γ a u)(hu:Rq ret u):GdS inn ret Γ Γ 0 (.mk 6 nm ty [a] [] []):=λx hx hr n hk=>by
 obtain⟨es',h1,h2⟩:=GdL.one ha x hx
 refine⟨_,_,AEi (λh=>by cases h) h1 (g:=(Γ,n)) ?_ (by decide),Nat.le_refl _⟩
 rw[h2]
 show(bif fitsT x.tb u x.ret then some (Γ,n)else none)=_
 rw[hr,hu.fits hx.tb];rfl
theorem GdS.prt{a:Te}(ha:Gd inn Γ a Du):GdS inn ret Γ Γ 0 (.mk 7 nm ty [a] [] []):=λx hx _ n hk=>by
 obtain⟨es',h1,h2⟩:=GdL.one ha x hx
 refine⟨_,_,AEi (λh=>by cases h) h1 (g:=(Γ,n)) ?_ (by decide),Nat.le_refl _⟩
 rw[h2];rfl
theorem GdS.cond{does:Nat}{a:Te}{th el:List Tt}{k1 k2:Nat}(hd:does=4∨does=5)(ha:Gd inn Γ a CJ)(h1:GdB inn ret Γ k1 th)(h2:GdB inn ret Γ k2 el)(z1:th.length<=1000)(z2:el.length<=1000):GdS inn ret Γ Γ (k1+k2) (.mk does nm ty [a] th el):=λx hx hr n hk=>by
 obtain⟨es',e1,e2⟩:=GdL.one ha x hx
 obtain⟨l1,n1,b1,b2⟩:=h1 x hx hr n (by omega)
 obtain⟨l2,n2,b3,b4⟩:=h2 x hx hr n1 (by omega)
 refine⟨.mk does nm ty es' l1 l2,n2,?_,by omega⟩
 rw[ckS]
 have hs:AIF x does nm ty (es'.map Te.of) (Γ,n)=some (Γ,n):=by rw[e2];rcases hd with rfl|rfl<;>rfl
 rw[show(decide (does=1)&& !Cb x.tb ty)=false by rcases hd with rfl|rfl<;>rfl,e1]
 show((AIF x does nm ty (es'.map Te.of) (Γ,n)).bind _)=_
 rw[hs]
 show(bif decide (does=4)||decide (does=5)then bif szB th&&szB el then(mG x th (Γ,n)).bind λp=>(mG x el (Γ,p.2)).map λq=>(Tt.mk does nm ty es' p.1 q.1,(Γ,q.2))else none else _)=_
 rw[show(decide (does=4)||decide (does=5))=true by rcases hd with rfl|rfl<;>rfl,b1,show(szB th&&szB el)=true by unfold szB;rw[decide_eq_true z1,decide_eq_true z2];rfl]
 show((mG x el (Γ,n1)).map _)=_
 rw[b3];rfl
theorem GdQ.nil:GdQ inn ret Γ Γ 0 []:=λx _ _ n _=>⟨[],n,λr=>by
 show mG x r (Γ,n)=_
 cases mG x r (Γ,n)<;>rfl,Nat.le_refl _⟩
theorem GdQ.snoc{Γ'':List Dh}{l:List Tt}{s:Tt}{k1 k2:Nat}(h:GdQ inn ret Γ Γ' k1 l)(hs:GdS inn ret Γ' Γ'' k2 s):GdQ inn ret Γ Γ'' (k1+k2) (l++[s]):=λx hx hr n hk=>by
 obtain⟨l',n1,h1,h2⟩:=h x hx hr n (by omega)
 obtain⟨s',n2,h3,h4⟩:=hs x hx hr n1 (by omega)
 refine⟨l'++[s'],n2,λr=>?_,by omega⟩
 rw[List.append_assoc,h1]
 show(mG x (s::r) (Γ',n1)).map _=_
 rw[mG,h3]
 show((mG x r (Γ'',n2)).map λq=>(s'::q.1,q.2)).map _=_
 cases mG x r (Γ'',n2)with
 |none=>rfl
 |some q=>show some (l'++s'::q.1,q.2)=some (l'++[s']++q.1,q.2);rw[List.append_assoc];rfl
theorem GdQ.blk{l:List Tt}{k:Nat}(h:GdQ inn ret Γ Γ' k l):GdB inn ret Γ k l:=λx hx hr n hk=>by
 obtain⟨l',n1,h1,h2⟩:=h x hx hr n hk
 have:=h1 []
 rw[List.append_nil,mG]at this
 exact⟨_,n1,this,h2⟩
theorem GdB.nil{k:Nat}:GdB inn ret Γ k []:=λx _ _ n _=>⟨[],n,by rw[mG],Nat.le_add_right _ _⟩
theorem GdS.le{s:Tt}{k k':Nat}(h:GdS inn ret Γ Γ' k s)(hk:k<=k'):GdS inn ret Γ Γ' k' s:=λx hx hr n hn=>by
 obtain⟨l',n',h1,h2⟩:=h x hx hr n (by omega)
 exact⟨l',n',h1,by omega⟩
end
def GdM(cls:St)(m:Tm):Prop:=∀tb,Yk tb->∃m',ckM tb cls m=some m'
theorem AJb:∀(ps Γ:List Dh) (n:Nat),(∀p∈ps,G8 p.nm Γ=none)->(ps.map Dh.nm).Nodup->n+ps.length<=200->ABr ps (Γ,n)=some (Γ++ps,n+ps.length)
 |[],Γ,n,_,_,_=>by rw[List.append_nil];rfl
 |p::ps,Γ,n,h,hd,hn=>by
  rw[List.length_cons]at hn
  have h1:ADU p (Γ,n)=some (Γ++[p],n+1):=by
   unfold ADU
   rw[h p (List.mem_cons_self ..),decide_eq_true (show n<200 by omega)];rfl
  show(ADU p (Γ,n)).bind (ABr ps)=_
  rw[h1]
  show ABr ps (Γ++[p],n+1)=_
  rw[List.map_cons,List.nodup_cons]at hd
  rw[AJb ps (Γ++[p]) (n+1) ?_ hd.2 (by omega)]
  ·rw[List.append_assoc,List.length_cons]
   show some (Γ++(p::ps),n+1+ps.length)=_
   rw[show n+1+ps.length=n+(ps.length+1)by omega]
  ·intro q hq
   have hne:p.nm≠q.nm:=λe=>hd.1 (by rw[e];exact List.mem_map_of_mem hq)
   have hl:∀l:List Dh,G8 q.nm l=none->G8 q.nm (l++[p])=none:=by
    intro l
    induction l with
    |nil=>
     intro _
     show(bif decide (p.nm=q.nm)then _ else _)=none
     rw[decide_eq_false hne];rfl
    |cons a l ih=>
     intro ha
     have ha:(bif decide (a.nm=q.nm)then some a.ty else G8 q.nm l)=none:=ha
     show(bif decide (a.nm=q.nm)then some a.ty else G8 q.nm (l++[p]))=none
     cases hd:decide (a.nm=q.nm)with
     |true=>rw[hd]at ha;cases ha
     |false=>rw[hd]at ha;exact ih ha
   exact hl Γ (h q (List.mem_cons_of_mem _ hq))
theorem GdM.mk{cls nm:St}{st:Bool}{ps:List Dh}{ret:Ty}{body:List Tt}{k:Nat}{inn:St}(hd:(ps.map Dh.nm).Nodup)(hn:ps.length+k<=200)(hi:inn≠(0,0)->st=false/\cls=inn)(hb:GdB inn ret ps k body)(hz:body.length<=1000):GdM cls ⟨nm,st,ps,ret,body⟩:=λtb htb=>by
 obtain⟨l',n',h1,h2⟩:=hb ⟨tb,cls,st,ret⟩ ⟨htb,hi⟩ rfl ps.length hn
 unfold ckM
 rw[show szB body=true from decide_eq_true hz]
 show ∃m',((ABr ps ([],0)).bind λg=>(mG ⟨tb,cls,st,ret⟩ body g).map λq=>({nm:=nm,st:=st,ps:=ps,ret:=ret,body:=q.1}:Tm))=some m'
 rw[AJb ps [] 0 (λ_ _=>rfl) hd (by omega)]
 show ∃m',((mG ⟨tb,cls,st,ret⟩ body ([]++ps,0+ps.length)).map _)=some m'
 rw[List.nil_append,Nat.zero_add,h1]
 exact⟨_,rfl⟩
theorem AEa{tb:Tab}{cls:St}(h:Yk tb):∀{ms:List Tm},(∀m∈ms,GdM cls m)->∃ms',ABV tb cls ms=some ms'
 |[],_=>⟨[],rfl⟩
 |m::ms,hm=>by
  obtain⟨m',h1⟩:=hm m (List.mem_cons_self ..) tb h
  obtain⟨ms',h2⟩:=AEa h λx hx=>hm x (List.mem_cons_of_mem _ hx)
  refine⟨m'::ms',?_⟩
  unfold ABV
  rw[h1]
  show((ABV tb cls ms).map _)=_
  rw[h2];rfl
def nmP(i:Nat):St:=(2,112+256*(97+i))
def nmV(k:Nat):St:=(3,118+256*(97+k/26%26)+65536*(97+k%26))
theorem ATF{j k:Nat}(hj:j<676)(hk:k<676)(h:nmV j=nmV k):j=k:=by
 have h:118+256*(97+j/26%26)+65536*(97+j%26)=118+256*(97+k/26%26)+65536*(97+k%26):=congrArg Prod.snd h
 omega
theorem AXE(i k:Nat):nmP i≠nmV k:=λh=>by
 have:(2:Nat)=3:=congrArg Prod.fst h
 omega
theorem ARY{i j:Nat}(h:nmP i=nmP j):i=j:=by
 have h:112+256*(97+i)=112+256*(97+j):=congrArg Prod.snd h
 omega
theorem AFW{s:St}:∀{Γ:List Dh},(∀f∈Γ,f.nm≠s)->G8 s Γ=none
 |[],_=>rfl
 |f::l,h=>by
  show(bif decide (f.nm=s)then some f.ty else G8 s l)=none
  rw[decide_eq_false (h f (List.mem_cons_self ..))]
  exact AFW λg hg=>h g (List.mem_cons_of_mem _ hg)
theorem ACi{f:Dh}:∀{Γ:List Dh},(Γ.map Dh.nm).Nodup->f∈Γ->G8 f.nm Γ=some f.ty
 |[],_,h=>by cases h
 |g::l,hd,h=>by
  rw[List.map_cons,List.nodup_cons]at hd
  show(bif decide (g.nm=f.nm)then some g.ty else G8 f.nm l)=_
  rcases List.mem_cons.1 h with rfl|h
  ·rw[decide_eq_true rfl];rfl
  ·rw[decide_eq_false λe=>hd.1 (by rw[e];exact List.mem_map_of_mem h)]
   exact ACi hd.2 h
structure Gam(Γ:List Dh)(m:Nat):Prop where
 nm:∀f∈Γ,(∃i,f.nm=nmP i)∨∃j,j<=m/\f.nm=nmV j
 nd:(Γ.map Dh.nm).Nodup
 ty:∀f∈Γ,Lh f.ty
theorem Gam.fresh{Γ:List Dh}{m:Nat}(h:Gam Γ m)(hm:m+1<676):∀f∈Γ,f.nm≠nmV (m+1):=λf hf e=>by
 rcases h.nm f hf with⟨i,hi⟩|⟨j,hj,hi⟩
 ·exact AXE _ _ (hi.symm.trans e)
 ·have:=ATF (by omega) hm (hi.symm.trans e);omega
theorem Gam.add{Γ:List Dh}{m:Nat}{t:Ty}(h:Gam Γ m)(hm:m+1<676)(ht:Lh t):Gam (Γ++[⟨nmV (m+1),t⟩]) (m+1)where
 nm f hf:=by
  rcases List.mem_append.1 hf with hf|hf
  ·rcases h.nm f hf with h|⟨j,hj,hi⟩
   ·exact .inl h
   ·exact .inr ⟨j,by omega,hi⟩
  ·rw[List.mem_singleton.1 hf];exact .inr ⟨m+1,Nat.le_refl _,rfl⟩
 nd:=by
  rw[List.map_append,List.nodup_append]
  refine⟨h.nd,by simp,λa ha b hb e=>?_⟩
  obtain⟨f,hf,rfl⟩:=List.mem_map.1 ha
  simp only[List.map_cons,List.map_nil,List.mem_singleton]at hb
  exact h.fresh hm f hf (e.trans hb)
 ty f hf:=by
  rcases List.mem_append.1 hf with hf|hf
  ·exact h.ty f hf
  ·rw[List.mem_singleton.1 hf];exact ht
end Go.RL
