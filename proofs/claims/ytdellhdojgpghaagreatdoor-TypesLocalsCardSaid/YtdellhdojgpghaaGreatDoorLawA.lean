/- Part of a proof; nothing is assumed. -/
import Derived.Test.YtdellhdojgpghaaGreatDoorConI
set_option linter.unusedVariables false
set_option linter.unusedSimpArgs false
namespace Go.RL
open Go.Bj
set_option maxRecDepth 100000
section
variable{G:AV}{K:Kq}{M:Km}
theorem AHu(o:Ry G K){does:Nat}{nm:St}{ty:Ty}{es:List Te}{th el:List Tt}{H:Heap}{n:Nat}{A:Nat->Prop}{l:LV}{vv:V}{all:Nat}{Γ:List ER}{k:KV}(h:XC G H n K M vv all Γ)(hs:oZ G H A l (.mk does nm ty es th el))(hA:∀id,A id->id<K.kb/\id≠K.b)
 (hkn1:does=1->DR K.tb ty=true) {es':List Te} (hL:ckL (K.x M) Γ es=some es') (hlen:es'.length<=2)
 (hk:∀H4 n4 line col v4 vt vl,Sb G H n H4 n4 K M vv all Γ A does line col nm ty v4 vt vl es' th el->DX lfp G (Runs F G) k (.ptr K.kb 0) (.ptr n 0) (.ptr (n+1) 0) H4 n4):Runs F G JD [.ptr K.kb 0,.agg l] H n k:=by
 refine go2 (Vz Aq G) ?_
 delta Qo
 have hll:=AAq hL
 have hkn:=h.kn
 have hbn:=h.bn o
 cases hs with
 |mk _ _ _ line col he hte hkt hat htt hle hkl hal htl=>
 rename_i ve vt vl ct cl
 have okv:∀{v:V} {z:Nat} {LS:CJ},El G H v z LS->Wi v=true/\BA v=[v]:=λ{v z LS} hev=>by
  cases v<;>first|exact⟨rfl,rfl⟩|(cases hev.2;done)|(cases hev.1;done)
 have hth:Oc G H A vt th:=⟨ct,hte,hkt,(okv hte).1,(okv hte).2,hat,htt⟩
 have hel:Oc G H A vl el:=⟨cl,hle,hkl,(okv hle).1,(okv hle).2,hal,htl⟩
 refine Ei λH1 f1 g1'=>?_
 refine Ar rfl λH2 f2 g2=>?_
 have f02:=f1.trans f2
 have g1':=f2.get g1' (by omega)
 have h2:=h.kp o f02
 rw[Bz,AU,AY,AU,DK,AU]
 refine AB (AX (off:=0+17) h2.g (v:=.int .i64 (.ofNat 0) 0) rfl) (AB (ADX ..) ?_)
 show Ac (.bool false) true _ _
 rw[Ak,DK,AU]
 refine AB (AX (off:=0) g1' (v:=.int .i64 (.ofNat does) 0) rfl) (AB (Dy ..) ?_)
 have hes:Ob G H2 A ve es:=he.mono (λ_ h=>h) λid hid=>f02.same id (by have:=hA id hid;omega)
 have rest:∀H3 n3,Kb K.b H2 (n+1+1) H3 n3->AP (AQ 6 (.ptr n 0)) (λv29=>AP (Aa v29 G H3) λv30=>Runs F G D5 [v30] H3 n3 λv31 H n'=>AP (AQ 6 (.ptr n 0)) λv32=>Bd 1 v32 v31 H n' λv33 H n'=>AP (AQ 6 (.ptr n 0)) λv127=>AP (Aa v127 G H) λv128=>AP (lenV v128) λv129=>
  lfp (V×V×V×V×V×V×Heap×Nat) (Hr lfp G (Runs F G) k) (.ptr K.kb 0,.ptr n 0,.ptr (n+1) 0,v128,v129,.int .i64 (.ofNat 0) 0,H,n')):=by
  intro H3 n3 f3
  have hn3:=f3.le
  have f03:Kb K.b H n H3 n3:=(f02.kb hbn).trans f3
  refine ATW (m:=n) o (h.kb o (f03.low (Nat.le_refl _))) (Nat.le_refl _) (by omega) hA (f3.get g1' (by omega) (by omega)) (hes.mono (λ_ h=>h) λid hid=>by have:=hA id hid;exact f3.same id (by omega) this.2) (by omega) hL λH4 n4 v4 f4 g4 hes4=>?_
  have hn4:=f4.le
  exact hk H4 n4 line col v4 vt vl ⟨h,hA,⟨by omega,λid h1 h2 h3=>(f4.same id (by omega) h2 h3).trans (f03.same id h1 h2),λhs=>f4.seen (f03.seen hs)⟩,by omega,g4,(f4.same (n+1) (by omega) (by omega) (by omega)).trans (f3.get g2 (by omega) (by omega)),hes4.mono (λid hid=>⟨by have:=hid.1;omega,hid.2⟩) (λ_ _=>rfl),hth,hel⟩
 cases hd:decide (does=1)with
 |false=>
  repeat (first|with_reducible refine AJQ ?_|with_reducible refine ASv ?_|with_reducible refine Aas ?_|with_reducible refine xP ?_)
  rw[Ak]
  exact rest H2 _ (Kb.refl ..)
 |true=>
  have hkt1:=hkn1 (of_decide_eq_true hd)
  have hty:=ACU hkt1
  refine xW rfl (xW rfl (xW (Bz ..) (xW (DK ..) (xW (AX (off:=0) h2.g (v:=.ptr K.t 0) rfl) (xW (AY ..) ?_)))))
  refine xW (a:=ty.v) (Dz (off:=0+4) (m:=2) g1' (by omega) (by show 0+4+2<=9;omega)) (AQO ?_)
  refine Ld (G:=G) (vs:=[ty.v]) rfl (by omega) (λv hv=>by simp at hv;subst hv;exact⟨rfl,rfl⟩) λH3 f3 _ hel3=>?_
  have g13:=f3.get g1' (by omega)
  have qp:∀{H':Heap},T.get H' n=some (one (ttC does line col nm ty ve vt vl))->Ah 2 (.ptr n (0+1)) G H'=some (Y4 line col):=λg=>Dz (off:=0+1) (m:=2) g (by omega) (by show 0+1+2<=9;omega)
  refine xW (AY ..) (xW (qp g13) (AQO ?_))
  have h3:=h2.kp o f3
  refine kK (xs:=[ty]) (h3.up o) ⟨hel3,λid hid=>by cases hid;omega,by unfold big;exact(by decide:1<9223372036854775808),λt ht=>by rw[List.mem_singleton.1 ht];exact hty⟩ λH4 n4 f4=>?_
  have hn4:=f4.le
  rw[show[ty].all (DR K.tb)=true by have:DR K.tb ty=true:=hkt1;simp[this]]
  refine Aco (qp (f4.get g13 (by omega) (by omega))) (Jf ..) (AQO ?_)
  have h4:=h3.kb o f4
  refine O9 (K:=K) h4.g h4.kn λH5 f5=>?_
  refine xW (Du ..) (AL4 ?_)
  show Ac (.bool false) true _ _
  rw[Ak]
  exact rest H5 _ ((f3.kb (by omega)).trans (f4.trans (f5.kb (by omega))))
theorem ANd(o:Ry G K){does:Nat}{nm:St}{ty:Ty}{es:List Te}{th el:List Tt}(ht:qj G K M th)(hl:qj G K M el):AKP G K M (.mk does nm ty es th el):=by
 intro H n A l vv all Γ g' s' k h hs hA hck hk
 obtain⟨hkn1,es',g1,hL,hst,hr⟩:=AOK hck
 have hlen:es'.length<=2:=by
  have h2:(es'.map Te.of).length<=2:=by
   rcases ABf hst with⟨_,a,e,_⟩|⟨_,⟨_,a,b,e,_⟩|⟨_,a,e⟩|⟨_,e⟩|⟨_,a,e,_⟩|⟨_,e⟩⟩<;>rw[e]<;>simp
  rwa [List.length_map]at h2
 exact AHu o h hs hA hkn1 hL hlen λH4 n4 line col v4 vt vl sb=>ARu (r:=(s',g')) o sb (AEa o h.ok hL) hkn1 hst hr ht hl hk
theorem ASM{x:Kx}{s:Tt}{l b':List Tt}{g:Gs}{a:Nat}(h:uU x (s::l) g=some (b',a)):∃s' g1 l',ckS x s g=some (s',g1)/\uU x l g1=some (l',a)/\b'=s'::l':=by
 rw[uU]at h
 obtain⟨p,h1,h⟩:=Option.bind_eq_some_iff.1 h
 obtain⟨q,h2,h3⟩:=Option.map_eq_some_iff.1 h
 cases h3
 exact⟨p.1,p.2,q.1,h1,h2,rfl⟩
theorem AUy{x:Kx}:∀{s s':Tt} {g g':Gs},ckS x s g=some (s',g')->∃Δ,g'.1=g.1++Δ
 |.mk does nm ty es th el,s',g,g',h=>by
  obtain⟨_,es',g1,_,hst,hr⟩:=AOK h
  have h1:∃Δ,g1.1=g.1++Δ:=by
   rcases ABf hst with⟨_,a,_,_,_,_,rfl⟩|⟨rfl,_⟩
   ·exact⟨_,rfl⟩
   ·exact⟨[],(List.append_nil _).symm⟩
  rcases hr with⟨_,_,p,q,_,_,e⟩|⟨_,e⟩
  ·cases e;exact h1
  ·cases e;exact h1
theorem TK(o:Ry G K):∀{b:List Tt},(∀s∈b,AKP G K M s)->qj G K M b:=by
 intro b hS hlen0 H n A v vv all Γ b' all' k h hs hA hck hk
 refine go2 (Om Aq G) ?_
 delta LP
 have hkn:=h.kn
 have hbn:=h.bn o
 have hn0:=o.n0
 have hb0:=o.ba
 have qv:∀{H':Heap} {vv':V} {a':Nat},T.get H' K.kb=some (one (K.cells M vv' a'))->Aa (.ptr K.kb (0+1)) G H'=some vv':=λg=>AX (off:=0+1) g rfl
 rw[Bz,AU,AY,AU,DK,AU]
 refine AB (qv h.g) ?_
 have hlen:=(h.sk.el (G:=G) (by omega)).len
 rw[List.length_map]at hlen
 refine AB hlen ?_
 obtain⟨cs,e1,-,-,-,e5,hts⟩:=hs
 have hcl:=hts.len
 have hlb:=e1.len
 rw[hcl]at hlb
 refine AB hlb ?_
 refine CG (N:=b.length) (J:=λj q=>∃H' n' vo vv' a' Γ' ds b1,q=(.ptr K.kb 0,.int .i64 (.ofNat Γ.length) 0,vo,v,.int .i64 (.ofNat b.length) 0,.int .i64 (.ofNat j) 0,H',n')/\Ks K vv H n H' n'/\XC G H' n' K M vv' a' Γ'/\Sd n vv vv'/\(∃Δ,Γ'=Γ++Δ)/\
  Sk H' 9 (λid=>n<=id/\id<n'/\vv'.Dl≠some id) vo ds/\Oh G H' (λid=>A id∨(Rv n n' vv' id/\vo.Dl≠some id)) ds b1/\(∃b2,uU (K.x M) (b.drop j) (Γ',a')=some (b2,all')/\b'=b1++b2)/\b1.length=j) ?_ ?_
  ⟨H,n,.Af,vv,all,Γ,[],[],rfl,Ks.refl ..,h,Sd.refl ..,⟨[],(List.append_nil _).symm⟩,.nil,.nil,⟨b',hck,rfl⟩,rfl⟩
 ·rintro I j q hlt ⟨H3,n3,vo,vv3,a3,Γ3,ds,b1,rfl,f3,h3,sd3,⟨Δ,hΔ⟩,sk3,ts3,⟨b2,hb2,hbb⟩,hjl⟩ ih
  show Bh lfp G (Runs F G) k I (.ptr K.kb 0) (.int .i64 (.ofNat Γ.length) 0) vo v (.int .i64 (.ofNat b.length) 0) (.int .i64 (.ofNat j) 0) H3 n3
  delta Bh
  have hn3:=f3.le
  have qJ:∀id,vv.Dl=some id->K.kb<id/\id<n:=λid hid=>h.sk.own hid
  have hA3:∀id,A id->T.get H3 id=T.get H id:=λid hid=>by
   have:=hA id hid
   exact f3.same id (by omega) this.2 (by omega) λe=>by have:=qJ id e;omega
  have hts3:=Oh.mono (H':=H3) (λ_ h=>h) hA3 hts
  obtain⟨l,hl,htt⟩:=hts3.at (List.getElem?_eq_getElem hlt)
  obtain⟨p,hpp,hld⟩:=(e1.same (H':=H3) λid hid=>hA3 id (e5 id hid)).at hl
  have hS1:=hS _ (List.getElem_mem hlt)
  rw[List.drop_eq_getElem_cons hlt]at hb2
  obtain⟨s',g1,l',hs1,hb3,rfl⟩:=ASM hb2
  generalize b[j]=s at htt hS1 hs1
  rw[FM,AU,decide_eq_true hlt,A8]
  refine AB hpp (AB (EM hld) ?_)
  refine Ar rfl λH4 f4 g4=>?_
  refine Bf g4 rfl htt.len (by omega) λH5 g5 s5=>?_
  have f35:Kp H3 n3 H5 (n3+1):=⟨f4.le,λid hid=>(s5 id (by omega)).trans (f4.same id hid)⟩
  refine AB (Aw (m:=9) g5 (by omega) htt.len) ?_
  have h5:=h3.kp o f35
  refine hS1 H5 (n3+1) A l vv3 a3 Γ3 g1 s' _ h5 (htt.mono (λ_ h=>h) λid hid=>f35.same id (by have:=hA id hid;omega)) hA hs1 ?_
  intro H6 n6 l6 vv6 f6 h6 sd6 ht6
  have hn6:=f6.le
  have AJg:∀id,vv3.Dl=some id->K.kb<id/\id<n3:=λid hid=>h3.sk.own hid
  have vlo6:∀id,vv6.Dl=some id->vv3.Dl=some id∨n3+1<=id:=λid hid=>by
   rcases sd6 with s|s
   ·exact .inl (s.symm.trans hid)
   ·exact .inr (s id hid)
  have f36:∀id,id<n3->id≠K.b->id≠K.kb->vv3.Dl≠some id->T.get H6 id=T.get H3 id:=λid h1 h2 h3 h4=>(f6.same id (by omega) h2 h3 h4).trans (f35.same id h1)
  have sk6:Sk H6 9 (λid=>n<=id/\id<n3/\vv6.Dl≠some id) vo ds:=sk3.mono (λid hid=>⟨hid.1,hid.2.1,λe=>by
   rcases vlo6 id e with e|e
   ·exact hid.2.2 e
   ·omega⟩) λid hid=>f36 id hid.2.1 (by omega) (by omega) hid.2.2
  have hdl:=ts3.len
  refine sk6.app (bs:=136) (c:=.agg l6) (m:=0) (λid hid=>by have:=sk6.own hid;omega) (by omega) rfl ht6.len (by rw[hdl];omega) λvo' H7 hs7 same7 hsid=>?_
  have von:∀id,id<n∨n3<=id->vo.Dl≠some id:=λid h e=>by have:=sk6.own e;omega
  have vo'n:∀id,id<n6+1->vo'.Dl≠some id:=λid h e=>by rw[hsid]at e;have:=Option.some.inj e;omega
  have v6n:∀id,vv6.Dl=some id->id<n6:=λid hid=>(h6.sk.own hid).2
  have v6o:∀id,vv6.Dl=some id->vo.Dl≠some id:=λid hid e=>(sk6.own e).2.2 hid
  rw[GV (by omega),AU]
  have h7:XC G H7 (n6+2) K M vv6 g1.2 g1.1:=⟨(same7 _ (by have:=h6.kn;omega) (von _ (.inl (by omega)))).trans h6.g,h6.tab.kb ⟨Nat.le_refl _,λid h1 _=>same7 id (by omega) (von _ (.inl (by omega))),λx=>x.same (same7 _ (by omega) (von _ (.inl (by omega))))⟩,by have:=h6.kn;omega,
   h6.sk.aJ (λid hid=>by have:=h6.sk.own hid;omega) λid hid=>same7 id (v6n id hid) (v6o id hid),h6.la,h6.al,h6.ok,h6.ret⟩
  have sd36:Sd n vv vv6:=sd3.trans sd6 (by omega)
  have f7:Ks K vv H n H7 (n6+2):=⟨by omega,λid h1 h2 h3 h4=>(same7 id (by omega) (von _ (.inl h1))).trans ((f36 id (by omega) h2 h3 λe=>by
   rcases sd3 with s|s
   ·exact h4 (s.symm.trans e)
   ·have:=s id e;omega).trans (f3.same id h1 h2 h3 h4)),λhs=>(f6.seen ((f3.seen hs).same (f35.same _ (by omega)))).same (same7 _ (by omega) (von _ (.inl (by omega))))⟩
  obtain⟨Δ',hΔ'⟩:=AUy hs1
  refine ih _ ⟨H7,n6+2,vo',vv6,g1.2,g1.1,ds++[l6],b1++[s'],rfl,f7,h7,sd36,⟨Δ++Δ',by rw[hΔ',hΔ,List.append_assoc]⟩,hs7 _ ⟨by omega,by omega,λe=>by have:=v6n _ e;omega⟩,?_,⟨l',hb3,by rw[hbb,List.append_assoc];rfl⟩,by rw[List.length_append,hjl];rfl⟩
  refine(Oh.mono (λid hid=>?_) (λid hid=>?_) ts3).app (.cons (ht6.mono (λid hid=>?_) λid hid=>?_) .nil)
  ·rcases hid with hid|hid
   ·exact .inl hid
   ·refine .inr ⟨⟨hid.1.1,by have:=hid.1.2.1;omega,λe=>?_⟩,vo'n id (by have:=hid.1.2.1;omega)⟩
    rcases vlo6 id e with e|e
    ·exact hid.1.2.2 e
    ·have:=hid.1.2.1;omega
  ·rcases hid with hid|hid
   ·have:=hA id hid
    exact(same7 id (by omega) (von _ (.inl (by omega)))).trans (f36 id (by omega) this.2 (by omega) λe=>by have:=AJg id e;omega)
   ·exact(same7 id (by have:=hid.1.2.1;omega) hid.2).trans (f36 id hid.1.2.1 (by have:=hid.1.1;omega) (by have:=hid.1.1;omega) hid.1.2.2)
  ·rcases hid with hid|hid
   ·exact .inl hid
   ·exact .inr ⟨⟨by have:=hid.1;omega,by have:=hid.2.1;omega,hid.2.2⟩,vo'n id (by have:=hid.2.1;omega)⟩
  ·rcases hid with hid|hid
   ·have:=hA id hid
    exact same7 id (by omega) (von _ (.inl (by omega)))
   ·exact same7 id hid.2.1 (von _ (.inr (by have:=hid.1;omega)))
 ·rintro I q ⟨H3,n3,vo,vv3,a3,Γ3,ds,b1,rfl,f3,h3,sd3,⟨Δ,hΔ⟩,sk3,ts3,⟨b2,hb2,hbb⟩,hjl⟩
  show Bh lfp G (Runs F G) k I (.ptr K.kb 0) (.int .i64 (.ofNat Γ.length) 0) vo v (.int .i64 (.ofNat b.length) 0) (.int .i64 (.ofNat b.length) 0) H3 n3
  delta Bh
  rw[FM,AU,decide_eq_false (Nat.lt_irrefl _),Ak]
  delta Fq
  rw[List.drop_eq_nil_of_le (Nat.le_refl _),uU]at hb2
  cases hb2
  rw[List.append_nil]at hbb
  subst hbb
  subst hΔ
  obtain⟨vv',hv',hsid',hsk'⟩:=h3.sk.cut (i:=Γ.length) (q:=.i64) (by simp)
  rw[Bz,AU,AY,AU,DK,AU]
  refine AB (qv h3.g) (AB hv' ?_)
  rw[AU,AY,AU,DK,AU]
  have hn3:=f3.le
  refine UE (off:=0+1) (m:=1) (v:=vv') h3.g hsk'.ok.1 (by rw[hsk'.ok.2.1];rfl) (by omega) (by show 0+1+1<=20;omega) λH4 g4 s4=>?_
  rw[hsk'.ok.2.1]at g4
  have htk:(List.map Yy (Γ++Δ)).take Γ.length=Γ.map Yy:=by rw[List.map_append,List.take_left' (by simp)]
  rw[htk]at hsk'
  have hla:=h3.la
  rw[List.length_append]at hla
  refine hk H4 n3 vo vv' ⟨hn3,λid h1 h2 h3' h4=>(s4 id h3').trans (f3.same id h1 h2 h3' h4),λhs=>(f3.seen hs).same (s4 _ (by omega))⟩
   ⟨g4,h3.tab.kb ⟨Nat.le_refl _,λid h1 _=>s4 id (by omega),λx=>x.same (s4 _ (by omega))⟩,h3.kn,hsk'.aJ (λid hid=>hsk'.own hid) (λid hid=>s4 id (by have:=(hsk'.own hid).1;omega)),by omega,h3.al,h.ok,h.ret⟩ ?_
   ⟨ds,(sk3.mono (B:=λ_=>True) (λ_ _=>trivial) λid hid=>s4 id (by omega)).el (by omega),sk3.ks,sk3.ok.1,sk3.ok.2.1,λid hid=>?_,Oh.mono (λid hid=>?_) (λid hid=>?_) ts3⟩
  ·rw[Sd,hsid'];exact sd3
  ·have:=sk3.own hid
   exact .inr ⟨this.1,this.2.1,by rw[hsid'];exact this.2.2⟩
  ·rcases hid with hid|hid
   ·exact .inl hid
   ·exact .inr ⟨hid.1.1,hid.1.2.1,by rw[hsid'];exact hid.1.2.2⟩
  ·rcases hid with hid|hid
   ·exact s4 id (by have:=hA id hid;omega)
   ·exact s4 id (by have:=hid.1.1;omega)
mutual
theorem AId(o:Ry G K):∀s,AKP G K M s
 |.mk _ _ _ _ th el=>ANd o (TK o (AAm o th)) (TK o (AAm o el))
theorem AAm(o:Ry G K):∀b:List Tt,∀s∈b,AKP G K M s
 |[]=>λs h=>by cases h
 |a::l=>by
  have ha:=AId o a
  have hl:=AAm o l
  intro s h
  rcases List.mem_cons.1 h with rfl|h
  ·exact ha
  ·exact hl s h
end
theorem AUs(o:Ry G K)(b:List Tt):qj G K M b:=TK o (AAm o b)
end
def Kq.bad(K:Kq)(M:Km)(vv:V)(all p q:Nat):LV:=[.ptr K.t 0,vv,.int .i64 (.ofNat all) 0,.int .i64 (.ofNat K.cl) 0,.int .i64 (.ofNat K.cc) 0,K.cls.v,K.sup.v,K.vf,K.vm,
 .int .i64 (.ofNat M.ml) 0,.int .i64 (.ofNat M.mc) 0,M.nm.v,.bool M.st,M.vp,M.ret.nm.v,.bool M.ret.arr,M.vb,.int .i64 (.ofNat 4) 0,.int .i64 (.ofNat p) 0,.int .i64 (.ofNat q) 0]
structure Kx1(K:Kq)(H:Heap)(n:Nat)(H':Heap)(n':Nat):Prop where
 le:n<=n'
 same:∀id,id<n->id≠K.kb->T.get H' id=T.get H id
theorem Kx1.kp{K:Kq}{H H1 H':Heap}{n n1 n':Nat}(a:Kp H n H1 n1)(f:Kx1 K H1 n1 H' n'):Kx1 K H n H' n':=
 ⟨Nat.le_trans a.le f.le,λid h hk=>(f.same id (Nat.lt_of_lt_of_le h a.le) hk).trans (a.same id h)⟩
section
variable{G:AV}{H:Heap}{n:Nat}{K:Kq}{M:Km}{vv:V}{all:Nat}{Γ:List ER}{k:KV}
theorem AXP{p q:Nat}(g:T.get H K.kb=some (one (K.cells M vv all)))(hn:K.kb<n)(hk:∀H',T.get H' K.kb=some (one (K.bad M vv all p q))->Kx1 K H n H' (n+1)->k (.EI []) H' (n+1)):
 Runs F G Xn [.ptr K.kb 0,.int .i64 (.ofNat 4) 0,Y4 p q] H n k:=by
 refine go3 (mO Aq G) ?_
 delta Xd
 refine Ei λH1 f1 g1=>?_
 have g':=f1.get g hn
 rw[Bz,AU,AY,AU,AY,AU]
 refine AB (AX (off:=0+17+0) g' (v:=.int .i64 (.ofNat 0) 0) rfl) (AB (Dy ..) ?_)
 rw[decide_eq_true rfl,A8]
 refine AB (Aw (m:=2) g1 (by omega) rfl) ?_
 refine AB (v:=.agg [.int .i64 (.ofNat 4) 0,.int .i64 (.ofNat p) 0,.int .i64 (.ofNat q) 0]) rfl ?_
 rw[AU,AY,AU]
 refine UE (off:=0+17) (m:=3) (v:=.agg [.int .i64 (.ofNat 4) 0,.int .i64 (.ofNat p) 0,.int .i64 (.ofNat q) 0]) g' rfl rfl (by omega) (by show 0+17+3<=20;omega) λH2 g2 s2=>?_
 exact hk H2 g2 ⟨f1.le,λid h1 h2=>(s2 id h2).trans (f1.same id h1)⟩
theorem ARr{p q:Nat}(g:T.get H K.kb=some (one (K.cells M vv all)))(hn:K.kb<n)(hk:∀H' n',T.get H' K.kb=some (one (K.bad M vv all p q))->Kx1 K H n H' n'->k (.bool false) H' n'):
 Runs F G Ai [.ptr K.kb 0,.bool false,.int .i64 (.ofNat 4) 0,Y4 p q] H n k:=by
 refine go4 (Vp Aq G) ?_
 delta Qh
 refine Ei λH1 f1 g1=>?_
 rw[Du,AU]
 show Ac (.bool true) true _ _
 rw[A8]
 refine AB (Aw (m:=2) g1 (by omega) rfl) ?_
 refine AXP (p:=p) (q:=q) (f1.get g hn) (by omega) λH2 g2 f2=>?_
 delta Gm
 rw[Bz,AU,AY,AU,DK,AU]
 refine AB (AX (off:=0+17) g2 (v:=.int .i64 (.ofNat 4) 0) rfl) (AB (Dy ..) ?_)
 exact hk H2 _ g2 (f2.kp f1)
structure FAt(G:AV)(H:Heap)(n:Nat)(K:Kq)(M:Km)(vv:V)(Γ:List ER):Prop where
 g:∃all p q,T.get H K.kb=some (one (K.bad M vv all p q))
 kn:K.kb<n
 sk:Sk H 3 (λid=>K.kb<id/\id<n) vv (Γ.map Yy)
theorem FAt.kp{H':Heap}{n':Nat}(h:FAt G H n K M vv Γ)(f:Kp H n H' n'):FAt G H' n' K M vv Γ:=by
 obtain⟨⟨a,p,q,g⟩,h2,h3⟩:=h
 exact⟨⟨a,p,q,f.get g h2⟩,Nat.lt_of_lt_of_le h2 f.le,h3.mono (λid hid=>⟨hid.1,Nat.lt_of_lt_of_le hid.2 f.le⟩) λid hid=>f.same id hid.2⟩
theorem XC.bad{H':Heap}{n' p q a:Nat}(h:XC G H n K M vv all Γ)(g:T.get H' K.kb=some (one (K.bad M vv a p q)))(f:Kx1 K H n H' n'):FAt G H' n' K M vv Γ:=
 ⟨⟨a,p,q,g⟩,Nat.lt_of_lt_of_le h.kn f.le,h.sk.mono (λid hid=>⟨hid.1,Nat.lt_of_lt_of_le hid.2 f.le⟩) λid hid=>f.same id hid.2 (by omega)⟩
theorem AR9{x:ER}{p0 p1:Nat}(o:Ry G K)(h:XC G H n K M vv 200 Γ)(hn:JF x.nm Γ=none)
 (hk:∀H' n',Kx1 K H n H' n'->FAt G H' n' K M vv Γ->k (.EI []) H' n'):Runs F G Nu [.ptr K.kb 0,.agg (Yy x),Y4 p0 p1] H n k:=by
 refine go3 (Xp Aq G) ?_
 delta Ru
 have hkn:=h.kn
 have hbn:=h.bn o
 have hn0:=o.n0
 have hb0:=o.ba
 refine Ei λH1 f1 g1=>?_
 refine Ei λH2 f2 g2=>?_
 rw[Bz,AU,AY,AU,DK,AU]
 refine AB (AX (off:=0) (f2.get g1 (by omega)) (v:=x.nm.v) rfl) ?_
 refine Ar rfl λH3 f3 g3=>?_
 have f13:=(f1.trans f2).trans f3
 have h3:=h.kp o f13
 refine ANk (s:=x.nm) o h3 λH4 n4 f4=>?_
 have h4:=h3.kp o f4
 have hn4:=f4.le
 rw[hn,ZF,AU,ZN,AU]
 have g4:=f4.get g3 (by omega)
 refine Bf (L:=tyN.cells) g4 rfl rfl (by omega) λH5 g5 s5=>?_
 have f15:Kp H n H5 n4:=⟨by omega,λid hid=>(s5 id (by omega)).trans ((f13.trans f4).same id hid)⟩
 have g25:T.get H5 (n+1)=some (one [.int .i64 (.ofNat p0) 0,.int .i64 (.ofNat p1) 0]):=(s5 (n+1) (by omega)).trans (f4.get (f3.get g2 (by omega)) (by omega))
 rw[Du,AU]
 refine AB (Aw (m:=2) g25 (by omega) rfl) ?_
 refine O9 (K:=K) (f15.get h.g hkn) (by omega) λH6 f6=>?_
 have f16:=f15.trans f6
 have h6:=h.kp o f16
 have g26:=f6.get g25 (by omega)
 rw[Du,AU]
 show BX (.bool false) false _ _
 refine o9 rfl (o9 rfl (o9 (Bz ..) (o9 (AY ..) (o9 (AY ..) ?_))))
 refine o9 (AX (off:=0+1+1) h6.g (v:=.int .i64 (.ofNat 200) 0) rfl) (o9 (FM ..) ?_)
 rw[show decide (200<200)=false by decide]
 refine o9 (Aw (m:=2) g26 (by omega) rfl) (APw ?_)
 refine ARr (K:=K) (p:=p0) (q:=p1) h6.g (by omega) λH7 n7 g7 f7=>?_
 refine o9 (Du ..) (xP ?_)
 show Ac (.bool true) true _ _
 rw[A8]
 exact hk H7 n7 (f7.kp f16) (h.bad g7 (f7.kp f16))
theorem AP3{l:LV}(hl:l.length=9)(h:FAt G H n K M vv Γ)(hk:∀H' n',Kp H n H' n'->k (.agg l) H' n'):Runs F G JD [.ptr K.kb 0,.agg l] H n k:=by
 refine go2 (Vz Aq G) ?_
 delta Qo
 obtain⟨⟨a,p,q,g⟩,hkn,-⟩:=h
 refine Ei λH1 f1 g1'=>?_
 refine Ar rfl λH2 f2 g2=>?_
 have f02:=f1.trans f2
 have g1':=f2.get g1' (by omega)
 rw[Bz,AU,AY,AU,DK,AU]
 refine AB (AX (off:=0+17) (f02.get g hkn) (v:=.int .i64 (.ofNat 4) 0) rfl) (AB (ADX ..) ?_)
 show Ac (.bool true) true _ _
 rw[A8]
 refine AB (Aw (m:=9) g1' (by omega) hl) ?_
 refine Bf g2 rfl hl (by omega) λH3 g3 s3=>?_
 rw[BU (m:=9) g3 (by omega) hl]
 simp only[go_sem]
 exact hk H3 _ ⟨f02.le,λid hid=>(s3 id (by omega)).trans (f02.same id hid)⟩
end
def ALH(G:AV)(K:Kq)(M:Km)(H:Heap)(n:Nat)(vv:V)(Γ:List ER)(Q:V->Prop)(k:KV):Prop:=
 ∀H' n' w vv',Ks K vv H n H' n'->FAt G H' n' K M vv' Γ->Sd n vv vv'->Q w->k w H' n'
def is9(w:V):Prop:=∃l,w=.agg l/\l.length=9
def isO(w:V):Prop:=Wi w=true/\BA w=[w]
def AU1(G:AV)(K:Kq)(M:Km)(Γ:List ER)(s:Tt):Prop:=∀(H:Heap) (n:Nat) (A:Nat->Prop) (l:LV) (vv:V) (k:KV),XC G H n K M vv 200 Γ->oZ G H A l s->(∀id,A id->id<K.kb/\id≠K.b)->
 ALH G K M H n vv Γ is9 k->Runs F G JD [.ptr K.kb 0,.agg l] H n k
theorem FAt.mv{G:AV}{H H':Heap}{n n':Nat}{K:Kq}{M:Km}{vv:V}{Γ:List ER}(h:FAt G H n K M vv Γ)(hn:n<=n')(hs:∀id,id<n->(id=K.kb∨vv.Dl=some id)->T.get H' id=T.get H id):FAt G H' n' K M vv Γ:=by
 obtain⟨⟨a,p,q,g⟩,h2,h3⟩:=h
 exact⟨⟨a,p,q,(hs _ h2 (.inl rfl)).trans g⟩,by omega,h3.aJ (λid hid=>by have:=h3.own hid;exact⟨this.1,by omega⟩) λid hid=>hs id (h3.own hid).2 (.inr hid)⟩
section
variable{G:AV}{K:Kq}{M:Km}{Γ:List ER}
theorem AHU{H:Heap}{n:Nat}{vv vo:V}{Δ:List ER}{k:KV}(o:Ry G K)(h:FAt G H n K M vv (Γ++Δ))(hk:∀H' vv',(∀id,id≠K.kb->T.get H' id=T.get H id)->FAt G H' n K M vv' Γ->vv'.Dl=vv.Dl->k vo H' n):
 Fq lfp G (Runs F G) k (.ptr K.kb 0) (.int .i64 (.ofNat Γ.length) 0) vo H n:=by
 delta Fq
 obtain⟨⟨a,p,q,g⟩,h2,h3⟩:=h
 obtain⟨vv',hv',hsid',hsk'⟩:=h3.cut (i:=Γ.length) (q:=.i64) (by simp)
 rw[Bz,AU,AY,AU,DK,AU]
 refine AB (AX (off:=0+1) g (v:=vv) rfl) (AB hv' ?_)
 rw[AU,AY,AU,DK,AU]
 refine UE (off:=0+1) (m:=1) (v:=vv') g hsk'.ok.1 (by rw[hsk'.ok.2.1];rfl) (by omega) (by show 0+1+1<=20;omega) λH4 g4 s4=>?_
 rw[hsk'.ok.2.1]at g4
 have htk:(List.map Yy (Γ++Δ)).take Γ.length=Γ.map Yy:=by rw[List.map_append,List.take_left' (by simp)]
 rw[htk]at hsk'
 exact hk H4 vv' s4 ⟨⟨a,p,q,g4⟩,h2,hsk'.aJ (λid hid=>hsk'.own hid) (λid hid=>s4 id (by have:=(hsk'.own hid).1;omega))⟩ hsid'
theorem ANj{H:Heap}{n:Nat}{vv v:V}{A:Nat->Prop}{k:KV}(o:Ry G K)(h:FAt G H n K M vv Γ)(hs:Oc G H A v [])(hk:∀H' vv',(∀id,id≠K.kb->T.get H' id=T.get H id)->FAt G H' n K M vv' Γ->vv'.Dl=vv.Dl->k .Af H' n):
 Runs F G C9 [.ptr K.kb 0,v] H n k:=by
 refine go2 (Om Aq G) ?_
 delta LP
 have h':=h
 obtain⟨⟨a,p,q,g⟩,h2,h3⟩:=h'
 rw[Bz,AU,AY,AU,DK,AU]
 refine AB (AX (off:=0+1) g (v:=vv) rfl) ?_
 have hlen:=(h3.el (G:=G) (by omega)).len
 rw[List.length_map]at hlen
 refine AB hlen ?_
 obtain⟨cs,e1,-,-,-,-,hts⟩:=hs
 have hlb:=e1.len
 rw[hts.len]at hlb
 refine AB hlb ?_
 refine CG (N:=0) (J:=λj s=>s=(.ptr K.kb 0,.int .i64 (.ofNat Γ.length) 0,.Af,v,.int .i64 (.ofNat 0) 0,.int .i64 (.ofNat 0) 0,H,n)) (λI j q hlt _ _=>absurd hlt (by omega)) ?_ rfl
 rintro I s rfl
 show Bh lfp G (Runs F G) k I (.ptr K.kb 0) (.int .i64 (.ofNat Γ.length) 0) .Af v (.int .i64 (.ofNat 0) 0) (.int .i64 (.ofNat 0) 0) H n
 delta Bh
 rw[FM,AU,decide_eq_false (Nat.lt_irrefl _),Ak]
 exact AHU (Δ:=[]) o (by rw[List.append_nil];exact h) hk
theorem ACI(o:Ry G K){b:List Tt}(hlen0:b.length<=1000){j a0:Nat}(hj:j<b.length)(ha:a0+j=200)(hS:∀s∈b,AKP G K M s)
 (hpre:∀i s,i<j->b[i]? =some s->∃s',ckS (K.x M) s (Γ,a0+i)=some (s',(Γ,a0+(i+1)))) (hbad:∀s,b[j]? =some s->AU1 G K M Γ s)
 {H:Heap} {n:Nat} {A:Nat->Prop} {v vv:V} {k:KV} (h:XC G H n K M vv a0 Γ) (hs:Oc G H A v b) (hA:∀id,A id->id<K.kb/\id≠K.b) (hk:ALH G K M H n vv Γ isO k):Runs F G C9 [.ptr K.kb 0,v] H n k:=by
 refine go2 (Om Aq G) ?_
 delta LP
 have hkn:=h.kn
 have hbn:=h.bn o
 have hn0:=o.n0
 have hb0:=o.ba
 rw[Bz,AU,AY,AU,DK,AU]
 refine AB (AX (off:=0+1) h.g (v:=vv) rfl) ?_
 have hlen:=(h.sk.el (G:=G) (by omega)).len
 rw[List.length_map]at hlen
 refine AB hlen ?_
 obtain⟨cs,e1,-,-,-,e5,hts⟩:=hs
 have hlb:=e1.len
 rw[hts.len]at hlb
 refine AB hlb ?_
 refine CG (N:=b.length) (J:=λi q=>∃H' n' vo vv' ds,q=(.ptr K.kb 0,.int .i64 (.ofNat Γ.length) 0,vo,v,.int .i64 (.ofNat b.length) 0,.int .i64 (.ofNat i) 0,H',n')/\Ks K vv H n H' n'/\Sd n vv vv'/\
  Sk H' 9 (λid=>n<=id/\id<n'/\vv'.Dl≠some id) vo ds/\ds.length=i/\(i<=j->XC G H' n' K M vv' (a0+i) Γ)/\(j<i->FAt G H' n' K M vv' Γ)) ?_ ?_
  ⟨H,n,.Af,vv,[],rfl,Ks.refl ..,Sd.refl ..,.nil,rfl,λ_=>h,λh=>absurd h (by omega)⟩
 ·rintro I i q hlt ⟨H3,n3,vo,vv3,ds,rfl,f3,sd3,sk3,hdl,hok3,hbd3⟩ ih
  show Bh lfp G (Runs F G) k I (.ptr K.kb 0) (.int .i64 (.ofNat Γ.length) 0) vo v (.int .i64 (.ofNat b.length) 0) (.int .i64 (.ofNat i) 0) H3 n3
  delta Bh
  have hn3:=f3.le
  have qJ:∀id,vv.Dl=some id->K.kb<id/\id<n:=λid hid=>h.sk.own hid
  have AJg:∀id,vv3.Dl=some id->K.kb<id/\id<n3:=λid hid=>by
   rcases Nat.lt_or_ge j i with q|q
   ·exact(hbd3 q).sk.own hid
   ·exact(hok3 q).sk.own hid
  have hA3:∀id,A id->T.get H3 id=T.get H id:=λid hid=>by
   have:=hA id hid
   exact f3.same id (by omega) this.2 (by omega) λe=>by have:=qJ id e;omega
  have hts3:=Oh.mono (H':=H3) (λ_ h=>h) hA3 hts
  have hbi:=List.getElem?_eq_getElem hlt
  obtain⟨l,hl,htt⟩:=hts3.at hbi
  obtain⟨p,hpp,hld⟩:=(e1.same (H':=H3) λid hid=>hA3 id (e5 id hid)).at hl
  have hS1:=hS _ (List.getElem_mem hlt)
  generalize b[i]=s at htt hS1 hbi
  rw[FM,AU,decide_eq_true hlt,A8]
  refine AB hpp (AB (EM hld) ?_)
  refine Ar rfl λH4 f4 g4=>?_
  refine Bf g4 rfl htt.len (by omega) λH5 g5 s5=>?_
  have f35:Kp H3 n3 H5 (n3+1):=⟨f4.le,λid hid=>(s5 id (by omega)).trans (f4.same id hid)⟩
  refine AB (Aw (m:=9) g5 (by omega) htt.len) ?_
  have htt5:=htt.mono (H':=H5) (λ_ h=>h) λid hid=>f35.same id (by have:=hA id hid;omega)
  have tail:∀H6 n6 w vv6,Ks K vv3 H5 (n3+1) H6 n6->Sd (n3+1) vv3 vv6->is9 w->(∀id,vv6.Dl=some id->K.kb<id/\id<n6)->(i+1<=j->XC G H6 n6 K M vv6 (a0+(i+1)) Γ)->(j<i+1->FAt G H6 n6 K M vv6 Γ)->
   CB (Aj 9 1 ttZ [(0,.c w)] E0) H6 n6 λv25 H n=>Oq 9 136 vo v25 G H n λv26 H n=>AP (B2.ev .add (.int .i64 (.ofNat i) 0) (.int .i64 (.ofNat 1) 0)) λv27=>I (.ptr K.kb 0,.int .i64 (.ofNat Γ.length) 0,v26,v,.int .i64 (.ofNat b.length) 0,v27,H,n):=by
   rintro H6 n6 _ vv6 f6 sd6 ⟨l6,rfl,hl6⟩ v6k hok6 hbd6
   have hn6:=f6.le
   have vlo6:∀id,vv6.Dl=some id->vv3.Dl=some id∨n3+1<=id:=λid hid=>by
    rcases sd6 with s|s
    ·exact .inl (s.symm.trans hid)
    ·exact .inr (s id hid)
   have f36:∀id,id<n3->id≠K.b->id≠K.kb->vv3.Dl≠some id->T.get H6 id=T.get H3 id:=λid h1 h2 h3 h4=>(f6.same id (by omega) h2 h3 h4).trans (f35.same id h1)
   have sk6:Sk H6 9 (λid=>n<=id/\id<n3/\vv6.Dl≠some id) vo ds:=sk3.mono (λid hid=>⟨hid.1,hid.2.1,λe=>by
    rcases vlo6 id e with e|e
    ·exact hid.2.2 e
    ·omega⟩) λid hid=>f36 id hid.2.1 (by omega) (by omega) hid.2.2
   refine sk6.app (bs:=136) (c:=.agg l6) (m:=0) (λid hid=>by have:=sk6.own hid;omega) (by omega) rfl hl6 (by rw[hdl];omega) λvo' H7 hs7 same7 hsid=>?_
   have von:∀id,id<n∨n3<=id->vo.Dl≠some id:=λid h e=>by have:=sk6.own e;omega
   have v6n:∀id,vv6.Dl=some id->id<n6:=λid hid=>(v6k id hid).2
   have v6o:∀id,vv6.Dl=some id->vo.Dl≠some id:=λid hid e=>(sk6.own e).2.2 hid
   rw[GV (by omega),AU]
   have sd36:Sd n vv vv6:=sd3.trans sd6 (by omega)
   have f7:Ks K vv H n H7 (n6+2):=⟨by omega,λid h1 h2 h3 h4=>(same7 id (by omega) (von _ (.inl h1))).trans ((f36 id (by omega) h2 h3 λe=>by
    rcases sd3 with s|s
    ·exact h4 (s.symm.trans e)
    ·have:=s id e;omega).trans (f3.same id h1 h2 h3 h4)),λhs=>(f6.seen ((f3.seen hs).same (f35.same _ (by omega)))).same (same7 _ (by omega) (von _ (.inl (by omega))))⟩
   refine ih _ ⟨H7,n6+2,vo',vv6,ds++[l6],rfl,f7,sd36,hs7 _ ⟨by omega,by omega,λe=>by have:=v6n _ e;omega⟩,by rw[List.length_append,hdl];rfl,λhq=>?_,λhq=>?_⟩
   ·have h6:=hok6 hq
    exact⟨(same7 _ (by have:=h6.kn;omega) (von _ (.inl (by omega)))).trans h6.g,h6.tab.kb ⟨Nat.le_refl _,λid h1 _=>same7 id (by omega) (von _ (.inl (by omega))),λx=>x.same (same7 _ (by omega) (von _ (.inl (by omega))))⟩,by have:=h6.kn;omega,
     h6.sk.aJ (λid hid=>by have:=h6.sk.own hid;omega) λid hid=>same7 id (v6n id hid) (v6o id hid),h6.la,h6.al,h6.ok,h6.ret⟩
   ·refine(hbd6 hq).mv (by omega) λid hid hor=>?_
    rcases hor with rfl|e
    ·exact same7 _ hid (von _ (.inl (by omega)))
    ·exact same7 id hid (v6o id e)
  rcases Nat.lt_trichotomy i j with hij|rfl|hij
  ·have h5:=(hok3 (by omega)).kp o f35
   obtain⟨s',hck⟩:=hpre i s hij hbi
   refine hS1 H5 (n3+1) A l vv3 _ Γ _ s' _ h5 htt5 hA hck λH6 n6 l6 vv6 f6 h6 sd6 ht6=>?_
   exact tail H6 n6 _ vv6 f6 sd6 ⟨l6,rfl,ht6.len⟩ (λid hid=>h6.sk.own hid) (λ_=>h6) (λhq=>absurd hq (by omega))
  ·have h5:=(hok3 (Nat.le_refl _)).kp o f35
   rw[ha]at h5
   refine hbad s hbi H5 (n3+1) A l vv3 _ h5 htt5 hA λH6 n6 w vv6 f6 h6 sd6 hw=>?_
   exact tail H6 n6 w vv6 f6 sd6 hw (λid hid=>h6.sk.own hid) (λhq=>absurd hq (by omega)) (λ_=>h6)
  ·have h5:=(hbd3 hij).kp f35
   refine AP3 htt.len h5 λH6 n6 f6=>?_
   exact tail H6 n6 _ vv3 ((f6.kb (b:=K.b) (by omega)).ks vv3) (Sd.refl ..) ⟨l,rfl,htt.len⟩ (λid hid=>(h5.kp f6).sk.own hid) (λhq=>absurd hq (by omega)) (λ_=>h5.kp f6)
 ·rintro I q ⟨H3,n3,vo,vv3,ds,rfl,f3,sd3,sk3,hdl,hok3,hbd3⟩
  show Bh lfp G (Runs F G) k I (.ptr K.kb 0) (.int .i64 (.ofNat Γ.length) 0) vo v (.int .i64 (.ofNat b.length) 0) (.int .i64 (.ofNat b.length) 0) H3 n3
  delta Bh
  rw[FM,AU,decide_eq_false (Nat.lt_irrefl _),Ak]
  refine AHU (Δ:=[]) o (by rw[List.append_nil];exact hbd3 hj) λH4 vv4 s4 h4 e4=>?_
  refine hk H4 n3 vo vv4 ⟨f3.le,λid h1 h2 h3' h4'=>(s4 id h3').trans (f3.same id h1 h2 h3' h4'),λhs=>(f3.seen hs).same (s4 _ (by omega))⟩ h4 (by rw[Sd,e4];exact sd3) ⟨sk3.ok.1,sk3.ok.2.1⟩
end
section
variable{G:AV}{K:Kq}{M:Km}{Γ:List ER}
theorem APL{H:Heap}{n c:Nat}{l:LV}{k:KV}(gc:T.get H c=some (one l))(hl:l.length=9)(g2:T.get H (c+1)=some (one ttZ))(hk:∀H',(∀id,id≠c+1->T.get H' id=T.get H id)->k (.agg l) H' n):
 BR lfp G (Runs F G) k (.ptr c 0) (.ptr (c+1) 0) H n:=by
 delta BR
 refine AB (Aw (m:=9) gc (by omega) hl) ?_
 refine Bf g2 rfl hl (by omega) λH3 g3 s3=>?_
 rw[BU (m:=9) g3 (by omega) hl]
 simp only[go_sem]
 exact hk H3 s3
def AXw(G:AV)(K:Kq)(M:Km)(Γ:List ER)(b:List Tt):Prop:=∀(H:Heap) (n:Nat) (A:Nat->Prop) (v vv:V) (k:KV),XC G H n K M vv 200 Γ->Oc G H A v b->(∀id,A id->id<K.kb/\id≠K.b)->
 ALH G K M H n vv Γ isO k->Runs F G C9 [.ptr K.kb 0,v] H n k
theorem AYJ{H H0:Heap}{n n0 q:Nat}{vv:V}{A:Nat->Prop}{does line col:Nat}{nm:St}{ty:Ty}{v' vt vl:V}{th:List Tt}{a:Te}{k:KV}(o:Ry G K)(h:Sb G H0 n0 H n K M vv 200 Γ A does line col nm ty v' vt vl [a] th [])(ha:a.of=Df)(ht:AXw G K M Γ th)
 (hk:ALH G K M H0 n0 vv Γ is9 k) {v6:V}:Bv lfp G (Runs F G) k (.ptr K.kb 0) (.ptr n0 0) (.ptr (n0+1) 0) (.ptr q 0) v6 (.bool true) H n:=by
 delta Bv
 rw[A8]
 have hkn:=h.ka.kn
 have hbn:=h.ka.bn o
 have hle:=h.le
 have hn0:=o.n0
 have hb0:=o.ba
 have qJ:∀id,vv.Dl=some id->K.kb<id/\id<n0:=λid hid=>h.ka.sk.own hid
 rw[AY,AU]
 have qv:∀{H':Heap} {vt vl:V},T.get H' n0=some (one (ttC does line col nm ty v' vt vl))->Aa (.ptr n0 (0+6)) G H'=some v':=λg=>AX (off:=0+6) g rfl
 refine AB (qv h.g) ?_
 have hvs:BH v' v'=true:=by
  obtain⟨cs,e1,e2,-⟩:=h.es
  have:=e2.1
  cases v'<;>first|exact this|(cases e1.2;done)|(cases e1.1;done)
 refine jw λH1 n1 f1=>?_
 have h1:=h.kp o f1
 refine AB (qv h1.g) (CX hvs ?_)
 obtain⟨cs,e1,-,-,-,e5,hts⟩:=h1.es
 refine vZ (K:=K) (A:=Rg (n0+2) n1) (h1.kk o).g (h1.kk o).kn e1 e5 hts (λid hid=>hid.2) (λe hmem=>by rw[List.mem_singleton]at hmem;rw[hmem];exact ha) (by show 1<=1000000;omega) λH2 n2 f2=>?_
 have h2:=h1.kp o f2
 rw[AY,AU]
 refine AB (AX (off:=0+7) h2.g (v:=vt) rfl) ?_
 have hA2:∀id,A id->T.get H2 id=T.get H0 id:=λid hid=>by have:=h2.hA id hid;exact h2.f.same id (by omega) this.2 (by omega)
 refine ht H2 n2 A vt vv _ (h2.kk o) (h2.th.mono (λ_ h=>h) hA2) h2.hA λH3 n3 v3 vv3 f3 ka3 sd3 ok3=>?_
 have hn2:=h2.le
 have hn3:=f3.le
 have AJg:∀id,vv3.Dl=some id->id<n0∨n2<=id:=λid hid=>by
  rcases sd3 with s|s
  ·exact .inl (qJ id (s.symm.trans hid)).2
  ·exact .inr (s id hid)
 have ABY:∀id,id<n2->id≠K.b->id≠K.kb->(id<n0->vv.Dl≠some id)->T.get H3 id=T.get H2 id:=λid h1 h2 h3 h4=>f3.same id h1 h2 h3 λe=>by have:=qJ id e;exact h4 this.2 e
 have g3:=(ABY n0 (by omega) (by omega) (by omega) (by omega)).trans h2.g
 rw[AU]
 refine UE (off:=0+7) (m:=1) (v:=v3) g3 ok3.1 (by rw[ok3.2];rfl) (by omega) (by show 0+7+1<=9;omega) λH4 g4 s4=>?_
 rw[ok3.2]at g4
 have ka4:FAt G H4 n3 K M vv3 Γ:=ka3.mv (Nat.le_refl _) λid hid hor=>s4 id (by rcases hor with rfl|e;omega;have:=AJg _ e;omega)
 have hA3:∀id,A id->T.get H4 id=T.get H0 id:=λid hid=>by
  have:=h2.hA id hid
  exact(s4 id (by omega)).trans ((ABY id (by omega) this.2 (by omega) λ_ e=>by have:=qJ id e;omega).trans (hA2 id hid))
 rw[AY,AU]
 refine AB (AX (off:=0+8) g4 (v:=vl) rfl) ?_
 refine ANj o ka4 (h2.el.mono (λ_ h=>h) hA3) λH5 vv5 s5 ka5 e5'=>?_
 have g5:=(s5 n0 (by omega)).trans g4
 rw[AU]
 refine UE (off:=0+8) (m:=1) (v:=.Af) g5 rfl rfl (by omega) (by show 0+8+1<=9;omega) λH6 g6 s6=>?_
 have mid:∀id,n0<id->id<n2->T.get H6 id=T.get H2 id:=λid h1 h2=>
  (s6 id (by omega)).trans ((s5 id (by omega)).trans ((s4 id (by omega)).trans (ABY id h2 (by omega) (by omega) (by omega))))
 have g26:=(mid (n0+1) (by omega) (by omega)).trans h2.g2
 refine APL g6 rfl g26 λH7 s7=>?_
 refine hk H7 n3 _ vv5 ⟨by omega,λid h1 h2' h3 h4=>?_,λhs=>?_⟩ (ka5.mv (Nat.le_refl _) λid hid hor=>?_) ?_ ⟨_,rfl,rfl⟩
 ·exact(s7 id (by omega)).trans ((s6 id (by omega)).trans ((s5 id h3).trans ((s4 id (by omega)).trans ((ABY id (by omega) h2' h3 λ_=>h4).trans (h2.f.same id h1 h2' (by omega))))))
 ·exact((((f3.seen (h2.f.seen hs)).same (s4 _ (by omega))).same (s5 _ (by omega))).same (s6 _ (by omega))).same (s7 _ (by omega))
 ·rcases hor with rfl|e
  ·exact(s7 _ (by omega)).trans (s6 _ (by omega))
  ·rw[e5']at e
   have:=AJg _ e
   exact(s7 id (by omega)).trans (s6 id (by omega))
 ·rw[Sd,e5']
  rcases sd3 with s|s
  ·exact .inl s
  ·exact .inr λid hid=>by have:=s id hid;omega
theorem AUS{H H0:Heap}{n n0:Nat}{vv:V}{k:KV}{A:Nat->Prop}{does:Nat}{nm:St}{ty:Ty}{line col:Nat}{v' vt vl:V}{e0:Te}{th:List Tt}(o:Ry G K)
 (h:Sb G H0 n0 H n K M vv 200 Γ A does line col nm ty v' vt vl [e0] th []) (hok0:e0.of.nm.ok)
 (hd:(does=1/\DR K.tb ty=true/\fitsT K.tb e0.of ty=true/\JF nm Γ=none)∨(does=4/\e0.of=Df/\AXw G K M Γ th))
 (hk:ALH G K M H0 n0 vv Γ is9 k):DX lfp G (Runs F G) k (.ptr K.kb 0) (.ptr n0 0) (.ptr (n0+1) 0) H n:=by
 delta DX
 have hbn:=h.ka.bn o
 have hkn:=h.ka.kn
 have hle:=h.le
 have hn0:=o.n0
 have hk0:=h.kk o
 rw[Bz,AU,AY,AU,DK,AU]
 refine AB (AX (off:=0+17) hk0.g (v:=.int .i64 (.ofNat 0) 0) rfl) (AB (ADX ..) ?_)
 show Ac (.bool false) true _ _
 rw[Ak,AY,AU]
 have qv:∀{H':Heap},T.get H' n0=some (one (ttC does line col nm ty v' vt vl))->Aa (.ptr n0 (0+6)) G H'=some v':=λg=>AX (off:=0+6) g rfl
 have qd:∀{H':Heap},T.get H' n0=some (one (ttC does line col nm ty v' vt vl))->Aa (.ptr n0 0) G H'=some (.int .i64 (.ofNat does) 0):=λg=>AX (off:=0) g rfl
 refine AB (qv h.g) ?_
 obtain⟨cs,e1,e2,e3,e4,e5,hts⟩:=h.es
 cases hts with
 |cons het htr=>
 rename_i l ls
 obtain⟨pl,pc,hq⟩:=AW5 (q:=n) het
 obtain⟨p,q1,q8,q9,kd⟩:=kW o.sub (i:=0) (l:=l) e1 rfl het.len
 refine AB kd.ip (AB (kd.ld H e1).1 ?_)
 refine Ar rfl λH1 f1 g1'=>?_
 refine Bf g1' rfl het.len (by omega) λH2 g2 s2=>?_
 have f2:Kp H n H2 (n+1):=⟨f1.le,λid hid=>(s2 id (by omega)).trans (f1.same id hid)⟩
 have h2:=h.kp o f2
 have hk2:=h2.kk o
 have qb:=hq g2
 have qq:∀{H':Heap} {n':Nat},Kb K.b H2 (n+1) H' n'->Qb H' n e0.of pl pc:=λf=>hq (f.get g2 (by omega) (by omega))
 rw[DK,AU]
 refine AB (qd h2.g) (AB (Dy ..) ?_)
 have qt:Aa (.ptr K.kb 0) G H2=some (.ptr K.t 0):=AX (off:=0) hk2.g rfl
 rcases hd with⟨rfl,hkt,hf,hln⟩|⟨rfl,hof,hbb⟩
 ·rw[show decide (1=1)=true from rfl,A8,AU,DK,AU]
  have hty:=ACU hkt
  refine AB qt ?_
  rw[AY,AU]
  refine AB qb.of ?_
  rw[AY,AU]
  refine AB (v:=ty.v) (Dz (off:=0+4) (m:=2) h2.g (by omega) (by show 0+4+2<=9;omega)) ?_
  rw[AY,AU]
  refine AB qb.ps ?_
  refine AB6 o hk2 hok0 hty hf (λH' n' f=>(qq f).ps) λH3 n3 f3=>?_
  have h3:=h2.kb o f3
  rw[A8,AY,AU]
  refine AB (AX (off:=0+3) h3.g (v:=nm.v) rfl) ?_
  rw[AY,AU]
  refine AB (v:=ty.v) (Dz (off:=0+4) (m:=2) h3.g (by omega) (by show 0+4+2<=9;omega)) ?_
  refine AB (v:=.agg (Yy ⟨nm,ty⟩)) rfl ?_
  rw[AU]
  refine AB (v:=Y4 line col) (Dz (off:=0+1) (m:=2) h3.g (by omega) (by show 0+1+2<=9;omega)) ?_
  refine AR9 (x:=⟨nm,ty⟩) o (h3.kk o) hln λH4 n4 f4 ka4=>?_
  have hle3:=h3.le
  have hle4:=f4.le
  refine APL ((f4.same n0 (by omega) (by omega)).trans h3.g) rfl ((f4.same (n0+1) (by omega) (by omega)).trans h3.g2) λH5 s5=>?_
  have qJ:∀id,vv.Dl=some id->K.kb<id/\id<n0:=λid hid=>h.ka.sk.own hid
  refine hk H5 n4 _ vv ⟨by omega,λid h1 h2' h3' h4'=>(s5 id (by omega)).trans ((f4.same id (by omega) h3').trans (h3.f.same id h1 h2' (by omega))),λhs=>((h3.f.seen hs).same (f4.same _ (by omega) (by have:=o.ba;omega))).same (s5 _ (by omega))⟩
   (ka4.mv (Nat.le_refl _) λid hid hor=>s5 id (by rcases hor with rfl|e;omega;have:=qJ _ e;omega)) (Sd.refl ..) ⟨_,rfl,rfl⟩
 ·rw[show decide (4=1)=false from rfl,Ak]
  refine AB (Dy ..) ?_
  rw[show decide (4=2)=false from rfl,Ak]
  refine AB (Dy ..) ?_
  rw[show decide (4=4)=true from rfl,A8]
  exact AYJ o h2 hof hbb hk
theorem AKp(o:Ry G K){does:Nat}{nm:St}{ty:Ty}{es:List Te}{th:List Tt}{e0:Te}(hok:∀f∈Γ,f.ty.nm.ok)(hL:ckL (K.x M) Γ es=some [e0])(hkn1:does=1->DR K.tb ty=true)
 (hd:(does=1/\DR K.tb ty=true/\fitsT K.tb e0.of ty=true/\JF nm Γ=none)∨(does=4/\e0.of=Df/\AXw G K M Γ th)):AU1 G K M Γ (.mk does nm ty es th []):=by
 intro H n A l vv k h hs hA hk
 refine AHu o h hs hA hkn1 hL (by show 1<=2;omega) λH4 n4 line col v4 vt vl sb=>?_
 exact AUS o sb (AEa o hok hL e0 (List.mem_cons_self ..)) hd hk
end
theorem ARI{v:ER}{g g1:Gs}(h:AMN v g=some g1):JF v.nm g.1=none/\g.2<200/\g1=(g.1++[v],g.2+1):=by
 unfold AMN at h
 cases hb:(JF v.nm g.1).isNone&&decide (g.2<200)with
 |false=>rw[hb]at h;cases h
 |true=>
  rw[hb]at h
  rw[Bool.and_eq_true]at hb
  exact⟨Option.isNone_iff_eq_none.1 hb.1,of_decide_eq_true hb.2,(Option.some.inj h).symm⟩
theorem AUz{tb:Tab}{cls:St}{m m':Tm}(h:ckM tb cls m=some m'):m.body.length<=1000/\∃g q,AEt m.ps ([],0)=some g/\uU ⟨tb,cls,m.st,m.ret⟩ m.body g=some q/\m'={m with body:=q.1}:=by
 unfold ckM at h
 cases hz:szB m.body with
 |false=>rw[hz]at h;cases h
 |true=>
  rw[hz]at h
  obtain⟨g,h1,h⟩:=Option.bind_eq_some_iff.1 h
  obtain⟨q,h2,h3⟩:=Option.map_eq_some_iff.1 h
  exact⟨of_decide_eq_true hz,g,q,h1,h2,h3.symm⟩
def AIE(H:Heap)(K:Kq):Prop:=∃M vv all,T.get H K.kb=some (one (K.cells M vv all))
structure Kn(K:Kq)(H:Heap)(n:Nat)(H':Heap)(n':Nat):Prop where
 le:n<=n'
 same:∀id,id<n->id≠K.b->id≠K.kb->T.get H' id=T.get H id
 seen:Lj H K.b->Lj H' K.b
section
variable{G:AV}{H:Heap}{n:Nat}{K:Kq}{k:KV}{A:Nat->Prop}{l:LV}{m m':Tm}
theorem ADS(o:Ry G K)(hb:AIE H K)(ht:TabAt G H K.n0 K.t K.a K.b K.tb)(hkn:K.kb<n){line col:Nat}{nm:St}{st:Bool}{ty:Ty}{ps:List ER}{vp vb:V}(hp:lF G H A vp ps)(hA:∀id,A id->id<K.kb/\id≠K.b)(hret:ty.nm.ok)(hpn:∀f∈ps,f.ty.nm.ok)(hpl:ps.length<=1000){gs:Gs}(hadd:AEt ps ([],0)=some gs)
 (hk:∀H5 n5 vv M,M.st=st->M.ret=ty->n+2<=n5->Kn K H n H5 n5->XC G H5 n5 K M vv gs.2 gs.1->(∀id,vv.Dl=some id->n+2<=id)->T.get H5 n=some (one (tmC line col nm st vp ty vb))->T.get H5 (n+1)=some (one tmZ)->
  FH lfp G (Runs F G) k (.ptr K.kb 0) (.ptr n 0) (.ptr (n+1) 0) H5 n5):Runs F G Jw [.ptr K.kb 0,.agg (tmC line col nm st vp ty vb)] H n k:=by
 refine go2 (iV Aq G) ?_
 delta VL
 have hn0:=o.n0
 have hb0:=o.ba
 obtain⟨M0,vv0,all0,gk⟩:=hb
 refine Ei λH1 f1 g1=>?_
 refine Ar rfl λH2 f2 g2=>?_
 have f02:=f1.trans f2
 have g1:=f2.get g1 (by omega)
 refine AB (Aw (m:=8) g1 (by omega) rfl) ?_
 refine AB (v:=.agg [.Af,.int .i64 (.ofNat 0) 0]) rfl ?_
 rw[Bz,AU,AY,AU]
 refine UE (off:=0+9) (m:=8) (v:=.agg (tmC line col nm st vp ty vb)) (f02.get gk hkn) rfl rfl (by omega) (by show 0+9+8<=20;omega) λH3 g3 s3=>?_
 rw[AU,AY,AU]
 refine UE (off:=0+1) (m:=2) (v:=.agg [.Af,.int .i64 (.ofNat 0) 0]) g3 rfl rfl (by omega) (by show 0+1+2<=20;omega) λH4 g4 s4=>?_
 have s24:∀id,id≠K.kb->T.get H4 id=T.get H2 id:=λid h=>(s4 id h).trans (s3 id h)
 have g4:T.get H4 K.kb=some (one (K.cells ⟨line,col,nm,st,vp,ty,vb⟩ .Af 0)):=g4
 generalize hM:(⟨line,col,nm,st,vp,ty,vb⟩:Km)=M at g4
 have ASN:M.st=st:=by rw[<-hM]
 have AHt:M.ret=ty:=by rw[<-hM]
 have ht4:TabAt G H4 K.n0 K.t K.a K.b K.tb:=ht.kb ⟨Nat.le_refl _,λid h1 _=>(s24 id (by omega)).trans (f02.same id (by omega)),λhs=>hs.same ((s24 _ (by omega)).trans (f02.same _ (by omega)))⟩
 have ka4:XC G H4 (n+1+1) K M .Af 0 []:=⟨g4,ht4,by omega,.nil,Nat.le_refl _,Nat.zero_le _,λf hf=>(by cases hf),by rw[AHt];exact hret⟩
 have g14:T.get H4 n=_:=(s24 n (by omega)).trans g1
 have g24:T.get H4 (n+1)=some (one tmZ):=(s24 (n+1) (by omega)).trans g2
 rw[AY,AU]
 refine AB (AX (off:=0+4) g14 (v:=vp) rfl) ?_
 have hA4:∀id,A id->T.get H4 id=T.get H id:=λid hid=>by have:=hA id hid;exact(s24 id (by omega)).trans (f02.same id (by omega))
 have hp4:=hp.mono (H':=H4) (λ_ h=>h) hA4
 have hlen:=hp4.1.len
 rw[List.length_map]at hlen
 refine AB hlen ?_
 refine CG (N:=ps.length) (J:=λj q=>∃H' n' vv a Γ,q=(.ptr K.kb 0,.ptr n 0,.ptr (n+1) 0,vp,.int .i64 (.ofNat ps.length) 0,.int .i64 (.ofNat j) 0,H',n')/\Ks K .Af H4 (n+1+1) H' n'/\XC G H' n' K M vv a Γ/\Sd (n+2) .Af vv/\AEt (ps.drop j) (Γ,a)=some gs) ?_ ?_
  ⟨H4,n+1+1,.Af,0,[],rfl,Ks.refl ..,ka4,Sd.refl ..,hadd⟩
 ·rintro I j q' hlt ⟨H5,n5,vv,a,Γ,rfl,f5,ka5,sd5,hadd5⟩ ih
  show FK lfp G (Runs F G) k I (.ptr K.kb 0) (.ptr n 0) (.ptr (n+1) 0) vp (.int .i64 (.ofNat ps.length) 0) (.int .i64 (.ofNat j) 0) H5 n5
  delta FK
  have hn5:=f5.le
  have qJ:∀id,vv.Dl=some id->n+2<=id:=λid hid=>by
   rcases sd5 with s|s
   ·rw[s]at hid;cases hid
   ·exact s id hid
  have hp5:=hp4.1.same (H':=H5) λid hid=>by
   have:=hA id (hp4.2.2.2.2 id hid)
   exact f5.same id (by omega) this.2 (by omega) (by simp[V.Dl])
  obtain⟨p,hpp,hld⟩:=hp5.at (i:=j) (c:=Yy ps[j]) (by simp[hlt])
  have hok:=hpn _ (List.getElem_mem hlt)
  rw[List.drop_eq_getElem_cons hlt]at hadd5
  generalize ps[j]=x at hld hok hadd5
  obtain⟨ga,h1,h2⟩:=Option.bind_eq_some_iff.1 (show(AMN x (Γ,a)).bind (AEt (ps.drop (j+1)))=some gs from hadd5)
  obtain⟨e1,e2,rfl⟩:=ARI h1
  rw[FM,AU,decide_eq_true hlt,A8]
  refine AB hpp (AB (EM hld) ?_)
  refine Ar rfl λH6 f6 g6=>?_
  refine Bf g6 rfl rfl (by omega) λH7 g7 s7=>?_
  have f57:Kp H5 n5 H7 (n5+1):=⟨f6.le,λid hid=>(s7 id (by omega)).trans (f6.same id hid)⟩
  refine AB (Aw (m:=3) g7 (by omega) rfl) ?_
  have g17:T.get H7 n=_:=(f57.same n (by omega)).trans ((f5.same n (by omega) (by omega) (by omega) (by simp[V.Dl])).trans g14)
  rw[DK,AU]
  refine AB (v:=Y4 line col) (Dz (off:=0) (m:=2) g17 (by omega) (by show 0+2<=8;omega)) ?_
  refine AWe (x:=x) o (ka5.kp o f57) hok e1 e2 λH8 n8 vv8 f8 ka8 sd8=>?_
  rw[GV (by omega),AU]
  have f58:Ks K vv H5 n5 H8 n8:=((f57.kb (b:=K.b) (by omega)).ks vv).trans f8 (Sd.refl ..)
  exact ih _ ⟨H8,n8,vv8,a+1,Γ++[x],rfl,f5.trans f58 sd5,ka8,sd5.trans (show Sd (n5+1) vv vv8 from sd8) (by omega),h2⟩
 ·rintro I q' ⟨H5,n5,vv,a,Γ,rfl,f5,ka5,sd5,hadd5⟩
  show FK lfp G (Runs F G) k I (.ptr K.kb 0) (.ptr n 0) (.ptr (n+1) 0) vp (.int .i64 (.ofNat ps.length) 0) (.int .i64 (.ofNat ps.length) 0) H5 n5
  delta FK
  rw[FM,AU,decide_eq_false (Nat.lt_irrefl _),Ak]
  rw[List.drop_eq_nil_of_le (Nat.le_refl _)]at hadd5
  obtain rfl:(Γ,a)=gs:=Option.some.inj hadd5
  have hn5:=f5.le
  have nn:∀id:Nat,V.Af.Dl≠some id:=λid h=>by cases h
  have yI:∀id,id<n+2->id≠K.b->id≠K.kb->T.get H5 id=T.get H4 id:=λid h1 h2 h3=>f5.same id h1 h2 h3 (nn id)
  refine hk H5 n5 vv M ASN AHt (by omega) ⟨by omega,λid h1 h2 h3=>(yI id (by omega) h2 h3).trans ((s24 id h3).trans (f02.same id h1)),λhs=>f5.seen (hs.same ((s24 _ (by omega)).trans (f02.same _ (by omega))))⟩ ka5 (λid hid=>?_)
   ((yI n (by omega) (by omega) (by omega)).trans g14) ((yI (n+1) (by omega) (by omega) (by omega)).trans g24)
  rcases sd5 with s|s
  ·rw[s]at hid;cases hid
  ·exact s id hid
theorem AQF(o:Ry G K)(hb:AIE H K)(ht:TabAt G H K.n0 K.t K.a K.b K.tb)(hkn:K.kb<n)(hm:ABs G H A l m)(hA:∀id,A id->id<K.kb/\id≠K.b)(hmo:AT9 m)(hck:ckM K.tb K.cls m=some m')
 (hk:∀H' n' l',Kn K H n H' n'->AIE H' K->ABs G H' (λid=>A id∨(n<=id/\id<n')) l' m'->k (.agg l') H' n'):Runs F G Jw [.ptr K.kb 0,.agg l] H n k:=by
 obtain⟨hz,gs,q,hadd,hbl,rfl⟩:=AUz hck
 cases hm with
 |mk line col hp hbd=>
 rename_i nm st ty ps bd vp vb
 have hadd:AEt ps ([],0)=some gs:=hadd
 have hbl:uU ⟨K.tb,K.cls,st,ty⟩ bd gs=some q:=hbl
 have hz:bd.length<=1000:=hz
 have hn0:=o.n0
 have hb0:=o.ba
 refine ADS o hb ht hkn hp hA hmo.ret hmo.ps hmo.ln hadd λH5 n5 vv M ASN AHt hn5 f5 ka5 qJ g15 g25=>?_
 delta FH
 rw[AY,AU]
 refine AB (AX (off:=0+7) g15 (v:=vb) rfl) ?_
 have hA5:∀id,A id->T.get H5 id=T.get H id:=λid hid=>by have:=hA id hid;exact f5.same id (by omega) this.2 (by omega)
 refine AUs (M:=M) o bd hz H5 n5 A vb vv gs.2 gs.1 q.1 q.2 _ ka5 (hbd.mono (λ_ h=>h) hA5) hA (by rw[show K.x M=⟨K.tb,K.cls,st,ty⟩by unfold Kq.x;rw[ASN,AHt]];exact hbl) λH6 n6 v6 vv6 f6 ka6 sd6 hb6=>?_
 have hn6:=f6.le
 have ADR:∀id,id<n+2->id≠K.b->id≠K.kb->T.get H6 id=T.get H5 id:=λid h1 h2 h3=>f6.same id (by omega) h2 h3 λe=>by have:=qJ id e;omega
 have g16:=(ADR n (by omega) (by omega) (by omega)).trans g15
 have ok6:=KS.ok hb6
 rw[AU]
 refine UE (off:=0+7) (m:=1) (v:=v6) g16 ok6.1 (by rw[ok6.2];rfl) (by omega) (by show 0+7+1<=8;omega) λH7 g7 s7=>?_
 rw[ok6.2]at g7
 refine AB (Aw (m:=8) g7 (by omega) rfl) ?_
 have g27:T.get H7 (n+1)=some (one tmZ):=(s7 (n+1) (by omega)).trans ((ADR (n+1) (by omega) (by omega) (by omega)).trans g25)
 refine Bf g27 rfl rfl (by omega) λH8 g8 s8=>?_
 rw[BU (m:=8) g8 (by omega) rfl]
 simp only[go_sem]
 have hA8:∀id,A id->T.get H8 id=T.get H id:=λid hid=>by have:=hA id hid;exact(s8 id (by omega)).trans ((s7 id (by omega)).trans ((ADR id (by omega) this.2 (by omega)).trans (hA5 id hid)))
 refine hk H8 n6 (tmC line col nm st vp ty v6) ⟨by omega,λid h1 h2 h3=>?_,λhs=>?_⟩ ⟨M,vv6,q.2,(s8 _ (by omega)).trans ((s7 _ (by omega)).trans ka6.g)⟩ (.mk line col (hp.mono (λ_ h=>.inl h) hA8) (hb6.mono (λid hid=>?_) λid hid=>?_))
 ·exact(s8 id (by omega)).trans ((s7 id (by omega)).trans ((ADR id (by omega) h2 h3).trans (f5.same id h1 h2 h3)))
 ·exact((f6.seen (f5.seen hs)).same (s7 _ (by omega))).same (s8 _ (by omega))
 ·rcases hid with hid|hid
  ·exact .inl hid
  ·exact .inr ⟨by have:=hid.1;omega,hid.2.1⟩
 ·rcases hid with hid|hid
  ·have:=hA id hid;exact(s8 id (by omega)).trans (s7 id (by omega))
  ·have:=hid.1;exact(s8 id (by omega)).trans (s7 id (by omega))
end
section
variable{G:AV}{H:Heap}{n:Nat}{K:Kq}{k:KV}{A:Nat->Prop}
def AaC(H:Heap)(K:Kq):Prop:=∃M vv all p q,T.get H K.kb=some (one (K.bad M vv all p q))
theorem AN0(o:Ry G K)(hb:AIE H K)(ht:TabAt G H K.n0 K.t K.a K.b K.tb)(hkn:K.kb<n){line col:Nat}{nm:St}{st:Bool}{ty:Ty}{ps:List ER}{bd:List Tt}{vp vb:V}(hp:lF G H A vp ps)(hbd:Oc G H A vb bd)(hA:∀id,A id->id<K.kb/\id≠K.b)(hmo:AT9 ⟨nm,st,ps,ty,bd⟩)
 {gs:Gs} (hadd:AEt ps ([],0)=some gs)
 (hbb:∀M H n v vv k,M.st=st->M.ret=ty->XC G H n K M vv gs.2 gs.1->Oc G H A v bd->ALH G K M H n vv gs.1 isO k->Runs F G C9 [.ptr K.kb 0,v] H n k)
 (hk:∀H' n' l',Kn K H n H' n'->AaC H' K->l'.length=8->k (.agg l') H' n'):Runs F G Jw [.ptr K.kb 0,.agg (tmC line col nm st vp ty vb)] H n k:=by
 have hn0:=o.n0
 have hb0:=o.ba
 refine ADS o hb ht hkn hp hA hmo.ret hmo.ps hmo.ln hadd λH5 n5 vv M ASN AHt hn5 f5 ka5 qJ g15 g25=>?_
 delta FH
 rw[AY,AU]
 refine AB (AX (off:=0+7) g15 (v:=vb) rfl) ?_
 have hA5:∀id,A id->T.get H5 id=T.get H id:=λid hid=>by have:=hA id hid;exact f5.same id (by omega) this.2 (by omega)
 refine hbb M H5 n5 vb vv _ ASN AHt ka5 (hbd.mono (λ_ h=>h) hA5) λH6 n6 v6 vv6 f6 ka6 sd6 ok6=>?_
 have hn6:=f6.le
 have ADR:∀id,id<n+2->id≠K.b->id≠K.kb->T.get H6 id=T.get H5 id:=λid h1 h2 h3=>f6.same id (by omega) h2 h3 λe=>by have:=qJ id e;omega
 have g16:=(ADR n (by omega) (by omega) (by omega)).trans g15
 rw[AU]
 refine UE (off:=0+7) (m:=1) (v:=v6) g16 ok6.1 (by rw[ok6.2];rfl) (by omega) (by show 0+7+1<=8;omega) λH7 g7 s7=>?_
 rw[ok6.2]at g7
 refine AB (Aw (m:=8) g7 (by omega) rfl) ?_
 have g27:T.get H7 (n+1)=some (one tmZ):=(s7 (n+1) (by omega)).trans ((ADR (n+1) (by omega) (by omega) (by omega)).trans g25)
 refine Bf g27 rfl rfl (by omega) λH8 g8 s8=>?_
 rw[BU (m:=8) g8 (by omega) rfl]
 simp only[go_sem]
 obtain⟨⟨a,p,q,g6⟩,-,-⟩:=ka6
 refine hk H8 n6 _ ⟨by omega,λid h1 h2 h3=>?_,λhs=>?_⟩ ⟨M,vv6,a,p,q,(s8 _ (by omega)).trans ((s7 _ (by omega)).trans g6)⟩ rfl
 ·exact(s8 id (by omega)).trans ((s7 id (by omega)).trans ((ADR id (by omega) h2 h3).trans (f5.same id h1 h2 h3)))
 ·exact((f6.seen (f5.seen hs)).same (s7 _ (by omega))).same (s8 _ (by omega))
end
end Go.RL
