/- Part of a proof; nothing is assumed. -/
import Derived.Test.YtcjkfmaoahojeaaGreatDoorConC
import Derived.Test.YtcjkfmaoahojeaaGreatDoorLawA
set_option linter.unusedVariables false
set_option linter.unusedSimpArgs false
namespace Go.PQ
open Go.Eng
set_option maxRecDepth 100000
def maxL:List Nat->Nat
 |[]=>0
 |a::l=>max a (maxL l)
def Yw(l:List Nat)(i:Nat):Nat:=match l[i]? with|some x=>x|none=>0
def AAY(l:List Nat):Nat:=maxL (l.map (· +1))
def AUZ(k:Nat)(ks:List Nat):Nat:=
 match k with
 |7=>Yw ks 0
 |8=>max (Yw ks 0) (AAY (ks.drop 1))
 |9=>AAY ks
 |10=>1
 |11=>Yw ks 0+1
 |12=>max (Yw ks 0) (Yw ks 1+1)
 |13=>Yw ks 0
 |14=>Yw ks 0+2
 |15=>Yw ks 0+2
 |16=>max (Yw ks 0) (Yw ks 1)+1
 |17=>max (Yw ks 0) (Yw ks 1)+1
 |18=>max (Yw ks 0) (Yw ks 1)+1
 |19=>Yw ks 0+1
 |20=>Yw ks 0+1
 |_=>0
mutual
def dE:Ex->Nat
 |.mk k _ _ _ _ ks=>AUZ k (dL ks)
def dL:List Ex->List Nat
 |[]=>[]
 |e::l=>dE e::dL l
end
theorem APm:∀l:List Ex,dL l=l.map dE
 |[]=>by unfold dL;rfl
 |a::l=>by unfold dL;rw[APm l];rfl
theorem Hg(k n:Nat)(nm ty:Bs)(ar:Bool)(ks:List Ex):dE (.mk k n nm ty ar ks)=AUZ k (ks.map dE):=by unfold dE;rw[APm]
def AU1(k:Nat)(ks:List Nat):Nat:=match k with|7=>Yw ks 0+1|8=>Yw ks 0+1|12=>Yw ks 0+1|13=>Yw ks 0+1|_=>0
mutual
def cE:Ex->Nat
 |.mk k _ _ _ _ ks=>AU1 k (cL ks)
def cL:List Ex->List Nat
 |[]=>[]
 |e::l=>cE e::cL l
end
theorem ARR:∀l:List Ex,cL l=l.map cE
 |[]=>by unfold cL;rfl
 |a::l=>by unfold cL;rw[ARR l];rfl
theorem Wl(k n:Nat)(nm ty:Bs)(ar:Bool)(ks:List Ex):cE (.mk k n nm ty ar ks)=AU1 k (ks.map cE):=by unfold cE;rw[ARR]
theorem F7(k n:Nat)(nm ty:Bs)(ar:Bool)(ks:List Ex):nE (.mk k n nm ty ar ks)=1+nL ks:=by unfold nE;rfl
theorem fF(a:Ex)(l:List Ex):nL (a::l)=nE a+nL l:=by rw[nL]
theorem qO:nL []=0:=by rw[nL]
theorem AbB{e:Ex}(h:Wr e):cE e<=nE e:=by
 induction h with
 |get h ha ih=>rw[Wl,F7,fF];show cE _+1<=_;omega
 |call h ha hk hn ih=>rw[Wl,F7,fF];show cE _+1<=_;omega
 |elm ha hb ih=>rw[Wl,F7,fF];show cE _+1<=_;omega
 |len ha ih=>rw[Wl,F7,fF];show cE _+1<=_;omega
 |_=>rw[Wl];exact Nat.zero_le _
def oT(v:Tok)(w:Bs):Bool:=(decide (v.kind=1)||decide (v.kind=5))&&decide (v.text=w)
theorem V4{v:Tok}{w:Bs}{q:List Tok}{d:Nat}:Vp w ⟨v,q,d,0⟩=oT v w:=by show(decide (0=0)&&oT v w)=oT v w;rfl
theorem AGI{l w:Bs}:oT (M l) w=decide (l=w):=rfl
theorem Aac{l w:Bs}:oT (W l) w=decide (l=w):=rfl
def Bad(d:Nat){α:Type}(x:Option (α×S)):Prop:=∃e t r,x=some (e,⟨t,r,d,3⟩)
def UH{α:Type}(e:α)(d D:Nat)(v:Tok)(q:List Tok)(x:Option (α×S)):Prop:=(d+D<=100->x=some (e,⟨v,q,d,0⟩))/\(100<d+D->Bad d x)
def Stp(v:Tok):Prop:=(∀w∈opsL,oT v w=false)/\(∀w∈AJa,oT v w=false)/\oT v BG=false
theorem Stp.op{v:Tok}(h:Stp v){q:List Tok}{d:Nat}:Yy ⟨v,q,d,0⟩:=λw hw=>V4.trans (h.1 w hw)
theorem Stp.tl{v:Tok}(h:Stp v){q:List Tok}{d:Nat}:AG6 ⟨v,q,d,0⟩:=λw hw=>V4.trans (h.2.1 w hw)
theorem Uu{t:Tok}{r:List Tok}{d:Nat}:(⟨t,r,d,3⟩:S).e≠0:=show(3:Nat)≠0 by decide
theorem ADZ{t:Tok}{r:List Tok}{d:Nat}:Yy ⟨t,r,d,3⟩:=λ_ _=>Ob Uu
theorem AHO{t:Tok}{r:List Tok}{d:Nat}:AG6 ⟨t,r,d,3⟩:=λ_ _=>Ob Uu
def E1(rec:PM Ex)(e:Ex):Prop:=∀d v q,d<=100->Stp v->UH e d (dE e+1) v q (rec (S.of (tokE e++v::q) d))
def ACd(k:Nat)(nm ty:Bs)(ks:List (List Tok)):List Tok:=
 match k with
 |10=>[W Ih,U ty]
 |14=>M Dv::QS ks 0
 |15=>M Iq::QS ks 0
 |16=>QS ks 0++M nm::QS ks 1
 |17=>QS ks 0++M NP::QS ks 1
 |18=>QS ks 0++M YQ::QS ks 1
 |19=>QS ks 0++[W SX,U ty]
 |20=>QS ks 0++[W QU,U ty]
 |_=>[]
def nX:Ex->List Tok
 |.mk k _ nm ty _ ks=>ACd k nm ty (ks.map tokE)
def brE(e:Ex):Bool:=decide (e.kind=10)||decide (14<=e.kind)
def I1(rec:PM Ex)(e:Ex):Prop:=brE e=true->∀d q,d<=100->UH e d (dE e) (M BH) q (rec (S.of (nX e++M BH::q) d))
theorem ASU{e:Ex}(h:Wr e)(hb:brE e=true):tokE e=M BG::(nX e++[M BH]):=by
 cases h<;>first|(exfalso;revert hb;exact(λh=>Bool.noConfusion h))|skip
 all_goals rw[Ar]
 all_goals simp[aN,nX,ACd,QS]
def ATp:List Bs:=[Vm,RG,Qh,WH,Ih,BG]
def HdK(l:List Tok):Prop:=∃t r,l=t::r/\∀w,w∉ATp->oT t w=false
theorem HdK.app{l:List Tok}(h:HdK l)(r:List Tok):HdK (l++r):=by obtain⟨t,q,rfl,h⟩:=h;exact⟨t,q++r,rfl,h⟩
theorem hdK{e:Ex}(h:Wr e):HdK (tokE e):=by
 have wd:∀{l:Bs} {r:List Tok},l∈ATp->HdK (W l::r):=λ{l r} hl=>⟨_,_,rfl,λw hw=>by rw[Aac];exact decide_eq_false λe=>hw (e▸hl)⟩
 have mk:∀{r:List Tok},HdK (M BG::r):=λ{r}=>⟨_,_,rfl,λw hw=>by rw[AGI];exact decide_eq_false λe=>hw (e▸by decide)⟩
 have no:∀{t:Tok} {r:List Tok},t.kind≠1->t.kind≠5->HdK (t::r):=λ{t r} h1 h5=>⟨_,_,rfl,λw _=>by simp[oT,h1,h5]⟩
 induction h with
 |num h=>rw[Ar];exact no (by simp[N]) (by simp[N])
 |tru=>rw[Ar];exact wd (by decide)
 |fls=>rw[Ar];exact wd (by decide)
 |nul=>rw[Ar];exact wd (by decide)
 |ths=>rw[Ar];exact wd (by decide)
 |loc h=>rw[Ar];exact no (by simp[L]) (by simp[L])
 |get h ha ih=>rw[Ar];exact ih.app _
 |call h ha hk hn ih=>rw[Ar];exact ih.app _
 |stat h hu hk hn=>rw[Ar];exact no (by simp[U]) (by simp[U])
 |new hu=>rw[Ar];exact mk
 |arr hu ha ih=>rw[Ar];exact wd (by decide)
 |elm ha hb ih=>rw[Ar];exact ih.app _
 |len ha ih=>rw[Ar];exact ih.app _
 |neg ha ih=>rw[Ar];exact mk
 |not ha ih=>rw[Ar];exact mk
 |bin ho ha hb=>rw[Ar];exact mk
 |and ha hb=>rw[Ar];exact mk
 |or ha hb=>rw[Ar];exact mk
 |asx hu ha=>rw[Ar];exact mk
 |isx hu ha=>rw[Ar];exact mk
def PP(rec:PM Ex)(f g:Nat)(s:S):Option (Ex×S):=(WA rec f s).bind λp=>Oz rec g p.1 p.2
theorem vX{rec:PM Ex}{f g:Nat}{s s':S}{e:Ex}(h:WA rec f s=some (e,s')):PP rec f g s=Oz rec g e s':=by unfold PP;rw[h];rfl
theorem ALZ{rec:PM Ex}{f g:Nat}{s:S}{d:Nat}(h:Bad d (WA rec f s)):Bad d (PP rec f (g+1) s):=by
 obtain⟨e,t,r,h⟩:=h
 exact⟨e,t,r,by rw[vX h];exact ig AHO⟩
def wV(rec:PM Ex)(e:Ex)(f g d D:Nat)(v:Tok)(q:List Tok)(s:S):Prop:=(d+D<=100->PP rec f (g+cE e) s=Oz rec g e ⟨v,q,d,0⟩)/\(100<d+D->Bad d (PP rec f (g+cE e+1) s))
section
variable{rec:PM Ex}{f d:Nat}{u:Tok}{r:List Tok}
def AI4(b:Bool)(ks:List Ex):List Tok:=match ks with|[]=>[]|a::l=>(bif b then[M Ce]else[])++(tokE a++(l.map tokE).flatMap λb=>M Ce::b)
theorem ANr(ks:List Ex):AI4 false ks=J8 (ks.map tokE):=by cases ks<;>rfl
theorem AQw(a:Ex)(l:List Ex)(b:Bool):AI4 b (a::l)=(bif b then[M Ce]else[])++(tokE a++AI4 true l):=by
 cases l with
 |nil=>simp[AI4]
 |cons c l=>simp[AI4]
theorem AQd{out:List Ex}{v:Tok}{q:List Tok}:VF rec (f+1) out ⟨M BH,v::q,d,0⟩=some (out,⟨v,q,d,0⟩):=rfl
theorem AN2{out:List Ex}{s:S}(h:s.e≠0):VF rec (f+1) out s=some (out,s):=by
 show(bif s.ok then _ else some (out,s))=_
 rw[AES h];rfl
theorem AIu{out:List Ex}{t:Tok}{q:List Tok}(h:oT t BH=false):VF rec (f+1) out ⟨t,q,d,0⟩=(bif decide (0<out.length)then CJ [Ce] ⟨t,q,d,0⟩else some ⟨t,q,d,0⟩).bind λs1=>(rec s1).bind λq=>VF rec f (out++[q.1]) (GZ (out.length+1) q.2):=by
 show((C9 BH ⟨t,q,d,0⟩).bind λp=>bif p.1 then some (out,p.2)else(bif decide (0<out.length)then CJ [Ce] p.2 else some p.2).bind λs1=>(rec s1).bind λq=>VF rec f (out++[q.1]) (GZ (out.length+1) q.2))=_
 rw[Xt (V4.trans h)];rfl
theorem AC9{n:Nat}{s:S}(h:n<=200):GZ n s=s:=by unfold GZ;rw[decide_eq_false (by omega)];rfl
theorem AJG{n:Nat}{s:S}(h:s.e≠0):GZ n s=s:=by unfold GZ;rw[zx h,Bool.cond_self]
theorem zN{l:Bs}(h:(opsL++(AJa++[BG])).all (λw=> !decide (l=w))=true):Stp (M l):=by
 have h:∀w∈opsL++(AJa++[BG]),oT (M l) w=false:=λw hw=>by
  rw[AGI]
  simpa using List.all_eq_true.1 h w hw
 exact⟨λw hw=>h w (List.mem_append_left _ hw),λw hw=>h w (List.mem_append_right _ (List.mem_append_left _ hw)),h _ (List.mem_append_right _ (List.mem_append_right _ List.mem_cons_self))⟩
theorem APo:∀(ks:List Ex) (out:List Ex) (d:Nat) (v:Tok) (q:List Tok) (f:Nat),(∀x∈ks,Wr x/\E1 rec x)->d<=100->out.length+ks.length<=200->ks.length+2<=f->
 UH (out++ks) d (AAY (ks.map dE)) v q (VF rec f out (S.of (AI4 (decide (0<out.length)) ks++M BH::v::q) d))
 |[],out,d,v,q,f,_,hd,_,hf=>by
  obtain⟨f,rfl⟩:∃g,f=g+1:=⟨f-1,by omega⟩
  rw[List.append_nil]
  exact⟨λ_=>AQd,λh=>by simp[AAY,maxL]at h;omega⟩
 |a::ks,out,d,v,q,f,hx,hd,hn,hf=>by
  obtain⟨f,rfl⟩:∃g,f=g+1:=⟨f-1,by omega⟩
  have hn:out.length+(ks.length+1)<=200:=by simpa using hn
  have hf:ks.length+2<=f:=by
   have:ks.length+1+2<=f+1:=by simpa using hf
   omega
  obtain⟨wa,ea⟩:=hx a List.mem_cons_self
  rw[AQw]
  have hl:(out++[a]).length=out.length+1:=by simp
  have ih:=APo ks (out++[a]) d v q f (λx hx'=>hx x (List.mem_cons_of_mem _ hx')) hd (by rw[hl];omega) hf
  rw[hl,decide_eq_true (show 0<out.length+1 by omega),List.append_assoc,List.singleton_append]at ih
  have hD:AAY ((a::ks).map dE)=max (dE a+1) (AAY (ks.map dE)):=rfl
  rw[hD]
  obtain⟨v',q',hv',hs'⟩:∃v' q',AI4 true ks++M BH::v::q=v'::q'/\Stp v':=by
   cases ks with
   |nil=>exact⟨_,_,rfl,zN (by decide)⟩
   |cons b ks=>rw[AQw];exact⟨_,_,rfl,zN (by decide)⟩
  rw[hv']at ih
  have e1:=ea d v' q' hd hs'
  obtain⟨t,l,ht,hh⟩:=hdK wa
  have hstart:VF rec (f+1) out (S.of (((bif decide (0<out.length)then[M Ce]else[])++(tokE a++AI4 true ks))++M BH::v::q) d)=(rec (S.of (tokE a++v'::q') d)).bind λq=>VF rec f (out++[q.1]) (GZ (out.length+1) q.2):=by
   rw[List.append_assoc,List.append_assoc,hv',ht]
   cases hz:decide (0<out.length)with
   |false=>
    show VF rec (f+1) out ⟨t,l++v'::q',d,0⟩=_
    rw[AIu (hh BH (by decide)),hz];rfl
   |true=>
    show VF rec (f+1) out ⟨M Ce,t::(l++v'::q'),d,0⟩=_
    rw[AIu (by rw[AGI];decide),hz]
    show((CJ [Ce] ⟨M Ce,t::(l++v'::q'),d,0⟩).bind _)=_
    rw[TB];rfl
  rw[hstart]
  have hm:GZ (out.length+1) ⟨v',q',d,0⟩=⟨v',q',d,0⟩:=AC9 (by omega)
  constructor
  ·intro h
   rw[e1.1 (by omega)]
   show VF rec f (out++[a]) (GZ (out.length+1) ⟨v',q',d,0⟩)=_
   rw[hm];exact ih.1 (by omega)
  ·intro h
   by_cases hda:d+(dE a+1)<=100
   ·rw[e1.1 hda]
    show Bad d (VF rec f (out++[a]) (GZ (out.length+1) ⟨v',q',d,0⟩))
    rw[hm];exact ih.2 (by omega)
   ·obtain⟨e',t',r',h'⟩:=e1.2 (by omega)
    rw[h']
    obtain⟨f',rfl⟩:∃g,f=g+1:=⟨f-1,by omega⟩
    exact⟨_,t',r',by
     show VF rec (f'+1) (out++[e']) (GZ (out.length+1) ⟨t',r',d,3⟩)=_
     rw[AJG Uu];exact AN2 Uu⟩
theorem AMp{ks:List Ex}{v:Tok}{q:List Tok}(hx:∀x∈ks,Wr x/\E1 rec x)(hd:d<=100)(hn:ks.length<=200)(hf:ks.length+2<=f):
 UH ks d (AAY (ks.map dE)) v q (dU rec f (S.of (M BG::(J8 (ks.map tokE)++M BH::v::q)) d)):=by
 have h:=APo (rec:=rec) ks [] d v q f hx hd (by simpa using hn) hf
 rw[show decide (0<([]:List Ex).length)=false from rfl,ANr]at h
 obtain⟨t,l,hl⟩:∃t l,J8 (ks.map tokE)++M BH::v::q=t::l:=by
  cases hj:J8 (ks.map tokE)with
  |nil=>exact⟨_,_,rfl⟩
  |cons a b=>exact⟨_,_,rfl⟩
 rw[hl]at h⊢
 have:dU rec f (S.of (M BG::t::l) d)=VF rec f [] (S.of (t::l) d):=by
  show((CJ [BG] ⟨M BG,t::l,d,0⟩).bind λs1=>VF rec f [] s1)=_
  rw[TB];rfl
 rw[this];exact h
theorem AI2{I:List Tok}{q:List Tok}(hI:I≠[])(h:Bad d (rec (S.of (I++q) d))):Bad d (WA rec f (S.of (M BG::(I++q)) d)):=by
 obtain⟨e,t,r,h⟩:=h
 cases I with
 |nil=>exact absurd rfl hI
 |cons a I=>
  refine⟨e,t,r,?_⟩
  show((rec ⟨a,I++q,d,0⟩).bind λx=>(CJ [BH] x.2).bind λs1=>some (x.1,s1))=_
  rw[show rec ⟨a,I++q,d,0⟩=_ from h]
  show((CJ [BH] ⟨t,r,d,3⟩).bind λs1=>some (e,s1))=_
  rw[YK Uu];rfl
theorem AR3{e:Ex}(h:Wr e)(hb:brE e=true):nX e≠[]:=by
 cases h<;>first|(exfalso;revert hb;exact(λh=>Bool.noConfusion h))|skip
 all_goals simp[nX,ACd,QS]
theorem AJQ{e:Ex}{g:Nat}{v:Tok}{q:List Tok}(he:Wr e)(hb:brE e=true)(h:I1 rec e)(hd:d<=100):wV rec e f g d (dE e) v q (S.of (tokE e++v::q) d):=by
 have hI:=h hb d (v::q) hd
 have hne:=AR3 he hb
 rw[ASU he hb,show(M BG::(nX e++[M BH]))++v::q=M BG::(nX e++M BH::v::q)by simp]
 have hc:cE e=0:=by
  cases he<;>first|(exfalso;revert hb;exact(λh=>Bool.noConfusion h))|(rw[Wl];rfl)
 rw[wV,hc]
 refine⟨λh1=>?_,λh1=>ALZ (AI2 hne (hI.2 h1))⟩
 cases ht:nX e with
 |nil=>exact absurd ht hne
 |cons a I=>
  rw[ht]at hI
  exact vX (ARj (u:=a) (r:=I++M BH::v::q) (hI.1 h1))
theorem uT{g:Nat}{e:Ex}{t:Tok}{q:List Tok}:Oz rec (g+1) e ⟨M DI,t::q,d,0⟩=(ZY rec g e ⟨t,q,d,0⟩).bind λq=>Oz rec g q.1 q.2:=rfl
theorem AH9{g:Nat}{e:Ex}{t:Tok}{q:List Tok}:Oz rec (g+1) e ⟨M GL,t::q,d,0⟩=(rec ⟨t,q,d,0⟩).bind λq=>(CJ [F8] q.2).bind λs1=>Oz rec g (.mk 12 0 [] [] false [e,q.1]) s1:=rfl
theorem ATk{g:Nat}{e:Ex}{v:Tok}{q:List Tok}:ZY rec g e ⟨W Hr,v::q,d,0⟩=some (.mk 13 0 [] [] false [e],⟨v,q,d,0⟩):=rfl
theorem AEX{g:Nat}{e:Ex}{l:Bs}{v:Tok}{q:List Tok}:ZY rec g e ⟨L l,v::q,d,0⟩=bif oT v BG then(dU rec g ⟨v,q,d,0⟩).bind λa=>some (.mk 8 0 l [] false (e::a.1),a.2)else some (.mk 7 0 l [] false [e],⟨v,q,d,0⟩):=by
 have h0:ZY rec g e ⟨L l,v::q,d,0⟩=bif Kw [BG] ⟨v,q,d,0⟩then(dU rec g ⟨v,q,d,0⟩).bind λa=>some (.mk 8 0 l [] false (e::a.1),a.2)else some (.mk 7 0 l [] false [e],⟨v,q,d,0⟩):=rfl
 rw[h0,show Kw [BG] (⟨v,q,d,0⟩:S)=oT v BG from(Bool.or_false _).trans V4]
end
theorem AQW{e:Ex}(he:Wr e):∀{rec:PM Ex} {f:Nat},(∀x,Wr x->nE x<nE e->E1 rec x)->(∀x,Wr x->nE x<=nE e->I1 rec x)->nE e+2<=f->∀(d:Nat) (v:Tok) (q:List Tok) (g:Nat),oT v BG=false->d<=100->nE e+2<=g->wV rec e f g d (dE e) v q (S.of (tokE e++v::q) d):=by
 induction he with
 |num h=>intro rec f hE hI hf d v q g hv hd hg;rw[Ar,Hg,wV,Wl];exact⟨λ_=>vX APA,λh=>absurd (show 100<d+0 from h) (by omega)⟩
 |tru=>intro rec f hE hI hf d v q g hv hd hg;rw[Ar,Hg,wV,Wl];exact⟨λ_=>vX ANM,λh=>absurd (show 100<d+0 from h) (by omega)⟩
 |fls=>intro rec f hE hI hf d v q g hv hd hg;rw[Ar,Hg,wV,Wl];exact⟨λ_=>vX AKb,λh=>absurd (show 100<d+0 from h) (by omega)⟩
 |nul=>intro rec f hE hI hf d v q g hv hd hg;rw[Ar,Hg,wV,Wl];exact⟨λ_=>vX ANT,λh=>absurd (show 100<d+0 from h) (by omega)⟩
 |ths=>intro rec f hE hI hf d v q g hv hd hg;rw[Ar,Hg,wV,Wl];exact⟨λ_=>vX AN8,λh=>absurd (show 100<d+0 from h) (by omega)⟩
 |loc h=>intro rec f hE hI hf d v q g hv hd hg;rw[Ar,Hg,wV,Wl];exact⟨λ_=>vX ALG,λh=>absurd (show 100<d+0 from h) (by omega)⟩
 | @get l a h ha ih=>
  intro rec f hE hI hf d v q g hv hd hg
  have hn:=F7 7 0 l [] false [a]
  rw[fF,qO]at hn
  have ih:=ih (λx w hx=>hE x w (by omega)) (λx w hx=>hI x w (by omega)) (by omega:_<=f) d (M DI) (L l::v::q)
  rw[Ar,Hg,wV,Wl,show aN 7 0 l [] ([a].map tokE)++v::q=tokE a++M DI::L l::v::q by simp[aN,QS]]
  show(d+dE a<=100->PP rec f (g+(cE a+1)) _=_)/\(100<d+dE a->Bad d (PP rec f (g+(cE a+1)+1) _))
  constructor
  ·intro hok
   have:=(ih (g+1) rfl hd (by omega)).1 hok
   rw[show g+(cE a+1)=g+1+cE a by omega,this,uT,AEX,hv];rfl
  ·intro hb
   have:=(ih (g+1) rfl hd (by omega)).2 hb
   rw[show g+(cE a+1)+1=g+1+cE a+1 by omega];exact this
 | @call l a ks h ha hk hn ih ihk=>
  intro rec f hE hI hf d v q g hv hd hg
  have hn':=F7 8 0 l [] false (a::ks)
  rw[fF]at hn'
  have hlen:=AEZ ks
  have ih:=ih (λx w hx=>hE x w (by omega)) (λx w hx=>hI x w (by omega)) (by omega:_<=f) d (M DI) (L l::M BG::(J8 (ks.map tokE)++M BH::v::q))
  have hargs:∀g',ks.length+2<=g'->UH ks d (AAY (ks.map dE)) v q (dU rec g' (S.of (M BG::(J8 (ks.map tokE)++M BH::v::q)) d)):=λg' hg'=>
   AMp (λx hx=>⟨hk x hx,hE x (hk x hx) (by have:=AEt hx;have:=XO a;omega)⟩) hd hn hg'
  rw[Ar,Hg,wV,Wl,show aN 8 0 l [] ((a::ks).map tokE)++v::q=tokE a++M DI::L l::M BG::(J8 (ks.map tokE)++M BH::v::q)by simp[aN,QS]]
  show(d+max (dE a) (AAY (ks.map dE))<=100->PP rec f (g+(cE a+1)) _=_)/\(100<d+max (dE a) (AAY (ks.map dE))->Bad d (PP rec f (g+(cE a+1)+1) _))
  constructor
  ·intro hok
   have:=(ih (g+1) rfl hd (by omega)).1 (by omega)
   rw[show g+(cE a+1)=g+1+cE a by omega,this,uT,AEX]
   show((dU rec g (S.of (M BG::(J8 (ks.map tokE)++M BH::v::q)) d)).bind λb=>some (Ex.mk 8 0 l [] false (a::b.1),b.2)).bind _=_
   rw[(hargs g (by omega)).1 (by omega)];rfl
  ·intro hb
   rw[show g+(cE a+1)+1=g+2+cE a by omega]
   by_cases hda:d+dE a<=100
   ·rw[(ih (g+2) rfl hd (by omega)).1 hda,uT,AEX]
    obtain⟨b,t,r,hx⟩:=(hargs (g+1) (by omega)).2 (by omega)
    refine⟨.mk 8 0 l [] false (a::b),t,r,?_⟩
    show((dU rec (g+1) (S.of (M BG::(J8 (ks.map tokE)++M BH::v::q)) d)).bind λb=>some (Ex.mk 8 0 l [] false (a::b.1),b.2)).bind (λq=>Oz rec (g+1) q.1 q.2)=_
    rw[hx]
    show Oz rec (g+1) (Ex.mk 8 0 l [] false (a::b)) ⟨t,r,d,3⟩=_
    exact ig AHO
   ·rw[show g+2+cE a=g+1+cE a+1 by omega];exact(ih (g+1) rfl hd (by omega)).2 (by omega)
 | @stat l u ks h hu hk hn ihk=>
  intro rec f hE hI hf d v q g hv hd hg
  have hn':=F7 9 0 l u false ks
  have hlen:=AEZ ks
  have hargs:=AMp (rec:=rec) (f:=f) (d:=d) (ks:=ks) (v:=v) (q:=q) (λx hx=>⟨hk x hx,hE x (hk x hx) (by have:=AEt hx;omega)⟩) hd hn (by omega)
  rw[Ar,Hg,wV,Wl,show aN 9 0 l u (ks.map tokE)++v::q=U u::M DI::L l::M BG::(J8 (ks.map tokE)++M BH::v::q)by simp[aN]]
  have hp:WA rec f (S.of (U u::M DI::L l::M BG::(J8 (ks.map tokE)++M BH::v::q)) d)=(dU rec f (S.of (M BG::(J8 (ks.map tokE)++M BH::v::q)) d)).bind λa=>some (.mk 9 0 l u false a.1,a.2):=rfl
  constructor
  ·intro hok
   refine vX ?_
   rw[hp,hargs.1 hok];rfl
  ·intro hb
   refine ALZ ?_
   obtain⟨b,t,r,hx⟩:=hargs.2 hb
   exact⟨_,t,r,by rw[hp,hx];rfl⟩
 |new hu=>intro rec f hE hI hf d v q g hv hd hg;exact AJQ (.new hu) rfl (hI _ (.new hu) (Nat.le_refl _)) hd
 | @arr u a hu ha ih=>
  intro rec f hE hI hf d v q g hv hd hg
  have hn:=F7 11 0 [] u false [a]
  rw[fF,qO]at hn
  have e1:=hE a ha (by omega) d (M F8) (v::q) hd (zN (by decide))
  rw[Ar,Hg,wV,Wl,show aN 11 0 [] u ([a].map tokE)++v::q=W Ih::U0 u::M GL::(tokE a++M F8::v::q)by simp[aN,QS]]
  obtain⟨t,l,ht,_⟩:=hdK ha
  have hp:WA rec f (S.of (W Ih::U0 u::M GL::(tokE a++M F8::v::q)) d)=(rec (S.of (tokE a++M F8::v::q) d)).bind λx=>(CJ [F8] x.2).bind λs1=>some (.mk 11 0 [] u false [x.1],s1):=by
   rw[ht]
   unfold U0
   cases huu:WO u with
   |true=>rfl
   |false=>
    simp only[aQ,huu,Bool.or_false,Bool.or_eq_true,decide_eq_true_eq]at hu
    rcases hu with rfl|rfl<;>rfl
  show(d+(dE a+1)<=100->_)/\(100<d+(dE a+1)->_)
  constructor
  ·intro hok
   refine vX ?_
   rw[hp,e1.1 hok]
   show((CJ [F8] ⟨M F8,v::q,d,0⟩).bind λs1=>some (Ex.mk 11 0 [] u false [a],s1))=_
   rw[TB];rfl
  ·intro hb
   refine ALZ ?_
   obtain⟨b,t',r',hx⟩:=e1.2 hb
   refine⟨.mk 11 0 [] u false [b],t',r',?_⟩
   rw[hp,hx]
   show((CJ [F8] ⟨t',r',d,3⟩).bind λs1=>some (Ex.mk 11 0 [] u false [b],s1))=_
   rw[YK Uu];rfl
 | @elm a b ha hb' iha ihb=>
  intro rec f hE hI hf d v q g hv hd hg
  have hn:=F7 12 0 [] [] false [a,b]
  rw[fF,fF,qO]at hn
  have hpa:=XO a
  have hpb:=XO b
  have ih:=iha (λx w hx=>hE x w (by omega)) (λx w hx=>hI x w (by omega)) (by omega:_<=f) d (M GL) (tokE b++M F8::v::q)
  have e1:=hE b hb' (by omega) d (M F8) (v::q) hd (zN (by decide))
  rw[Ar,Hg,wV,Wl,show aN 12 0 [] [] ([a,b].map tokE)++v::q=tokE a++M GL::(tokE b++M F8::v::q)by simp[aN,QS]]
  obtain⟨t,l,ht,_⟩:=hdK hb'
  rw[ht]at ih e1⊢
  show(d+max (dE a) (dE b+1)<=100->PP rec f (g+(cE a+1)) _=_)/\(100<d+max (dE a) (dE b+1)->Bad d (PP rec f (g+(cE a+1)+1) _))
  have e1:UH b d (dE b+1) (M F8) (v::q) (rec ⟨t,l++M F8::v::q,d,0⟩):=e1
  constructor
  ·intro hok
   have:=(ih (g+1) rfl hd (by omega)).1 (by omega)
   rw[show g+(cE a+1)=g+1+cE a by omega,this,List.cons_append,AH9,e1.1 (by omega)]
   show(CJ [F8] ⟨M F8,v::q,d,0⟩).bind _=_
   rw[TB];rfl
  ·intro hb
   rw[show g+(cE a+1)+1=g+2+cE a by omega]
   by_cases hda:d+dE a<=100
   ·rw[(ih (g+2) rfl hd (by omega)).1 hda,List.cons_append,AH9]
    obtain⟨x,t',r',hx⟩:=e1.2 (by omega)
    refine⟨.mk 12 0 [] [] false [a,x],t',r',?_⟩
    rw[hx]
    show((CJ [F8] ⟨t',r',d,3⟩).bind λs1=>Oz rec (g+1) (Ex.mk 12 0 [] [] false [a,x]) s1)=_
    rw[YK Uu]
    show Oz rec (g+1) (Ex.mk 12 0 [] [] false [a,x]) ⟨t',r',d,3⟩=_
    exact ig AHO
   ·rw[show g+2+cE a=g+1+cE a+1 by omega];exact(ih (g+1) rfl hd (by omega)).2 (by omega)
 | @len a ha ih=>
  intro rec f hE hI hf d v q g hv hd hg
  have hn:=F7 13 0 [] [] false [a]
  rw[fF,qO]at hn
  have ih:=ih (λx w hx=>hE x w (by omega)) (λx w hx=>hI x w (by omega)) (by omega:_<=f) d (M DI) (W Hr::v::q)
  rw[Ar,Hg,wV,Wl,show aN 13 0 [] [] ([a].map tokE)++v::q=tokE a++M DI::W Hr::v::q by simp[aN,QS]]
  show(d+dE a<=100->PP rec f (g+(cE a+1)) _=_)/\(100<d+dE a->Bad d (PP rec f (g+(cE a+1)+1) _))
  constructor
  ·intro hok
   have:=(ih (g+1) rfl hd (by omega)).1 hok
   rw[show g+(cE a+1)=g+1+cE a by omega,this,uT,ATk];rfl
  ·intro hb
   have:=(ih (g+1) rfl hd (by omega)).2 hb
   rw[show g+(cE a+1)+1=g+1+cE a+1 by omega];exact this
 |neg ha ih=>intro rec f hE hI hf d v q g hv hd hg;exact AJQ (.neg ha) rfl (hI _ (.neg ha) (Nat.le_refl _)) hd
 |not ha ih=>intro rec f hE hI hf d v q g hv hd hg;exact AJQ (.not ha) rfl (hI _ (.not ha) (Nat.le_refl _)) hd
 |bin ho ha hb=>intro rec f hE hI hf d v q g hv hd hg;exact AJQ (.bin ho ha hb) rfl (hI _ (.bin ho ha hb) (Nat.le_refl _)) hd
 |and ha hb=>intro rec f hE hI hf d v q g hv hd hg;exact AJQ (.and ha hb) rfl (hI _ (.and ha hb) (Nat.le_refl _)) hd
 |or ha hb=>intro rec f hE hI hf d v q g hv hd hg;exact AJQ (.or ha hb) rfl (hI _ (.or ha hb) (Nat.le_refl _)) hd
 |asx hu ha=>intro rec f hE hI hf d v q g hv hd hg;exact AJQ (.asx hu ha) rfl (hI _ (.asx hu ha) (Nat.le_refl _)) hd
 |isx hu ha=>intro rec f hE hI hf d v q g hv hd hg;exact AJQ (.isx hu ha) rfl (hI _ (.isx hu ha) (Nat.le_refl _)) hd
def mulL:List Bs:=[XZ,Sv,qF]
def AIU:List Bs:=[Zt,Dv]
def cmpL:List Bs:=[Yk,nJ,V9,nD]
def top(un:PM Ex)(f:Nat):PM Ex:=either 18 YQ (either 17 NP (compared un f) f) f
section
variable{un:PM Ex}{f:Nat}{s s1 s2:S}{a b:Ex}
theorem Nv{ws:List Bs}(h:un s=some (a,s1))(hn:Kw ws s1=false):signs ws un (f+1) s=some (a,s1):=by
 unfold signs;rw[h]
 show(bif Kw ws s1 then _ else some (a,s1))=_
 rw[hn];rfl
theorem AJb{ws:List Bs}{o:Bs}{u:Tok}{q:List Tok}{d:Nat}(h:un s=some (a,⟨M o,u::q,d,0⟩))(ho:Kw ws ⟨M o,u::q,d,0⟩=true)(hb:un ⟨u,q,d,0⟩=some (b,s2))(hn:Kw ws s2=false):
 signs ws un (f+2) s=some (.mk 16 0 o [] false [a,b],s2):=by
 unfold signs;rw[h]
 show(bif Kw ws ⟨M o,u::q,d,0⟩then(N7 ⟨M o,u::q,d,0⟩).bind λs1=>(un s1).bind λp=>wZ ws un (f+1) (.mk 16 0 o [] false [a,p.1]) p.2 else _)=_
 rw[ho,ADI (by simp[M])]
 show(un ⟨u,q,d,0⟩).bind _=_
 rw[hb]
 show(bif Kw ws s2 then _ else some (Ex.mk 16 0 o [] false [a,b],s2))=_
 rw[hn];rfl
theorem AHx(h:sumP un (f+1) s=some (a,s1))(hn:Kw cmpL s1=false):compared un (f+1) s=some (a,s1):=by
 unfold compared;rw[h]
 show(bif Kw cmpL s1 then _ else some (a,s1))=_
 rw[hn];rfl
theorem AWL{o:Bs}{u:Tok}{q:List Tok}{d:Nat}(h:sumP un (f+1) s=some (a,⟨M o,u::q,d,0⟩))(ho:Kw cmpL ⟨M o,u::q,d,0⟩=true)(hb:sumP un (f+1) ⟨u,q,d,0⟩=some (b,s2)):
 compared un (f+1) s=some (.mk 16 0 o [] false [a,b],s2):=by
 unfold compared;rw[h]
 show(bif Kw cmpL ⟨M o,u::q,d,0⟩then(N7 ⟨M o,u::q,d,0⟩).bind λs1=>(sumP un (f+1) s1).bind λp=>some (Ex.mk 16 0 o [] false [a,p.1],p.2)else _)=_
 rw[ho,ADI (by simp[M])]
 show(sumP un (f+1) ⟨u,q,d,0⟩).bind _=_
 rw[hb];rfl
theorem AC2{k:Nat}{w:Bs}{nx:PM Ex}(h:nx s=some (a,s1))(hn:Kw [w] s1=false):either k w nx (f+1) s=some (a,s1):=by
 unfold either;rw[h]
 show(bif Kw [w] s1 then _ else some (a,s1))=_
 rw[hn];rfl
theorem AUQ{k:Nat}{w:Bs}{nx:PM Ex}{o:Bs}{u:Tok}{q:List Tok}{d:Nat}(h:nx s=some (a,⟨M o,u::q,d,0⟩))(ho:Kw [w] ⟨M o,u::q,d,0⟩=true)(hb:nx ⟨u,q,d,0⟩=some (b,s2))(hn:Kw [w] s2=false):
 either k w nx (f+2) s=some (.mk k 0 [] [] false [a,b],s2):=by
 unfold either;rw[h]
 show(bif Kw [w] ⟨M o,u::q,d,0⟩then(N7 ⟨M o,u::q,d,0⟩).bind λs1=>(nx s1).bind λp=>lK k w nx (f+1) (.mk k 0 [] [] false [a,p.1]) p.2 else _)=_
 rw[ho,ADI (by simp[M])]
 show(nx ⟨u,q,d,0⟩).bind _=_
 rw[hb]
 show(bif Kw [w] s2 then _ else some (Ex.mk k 0 [] [] false [a,b],s2))=_
 rw[hn];rfl
theorem Yy.is{s:S}(h:Yy s){ws:List Bs}(hs:ws.all (λw=>decide (w∈opsL))=true):Kw ws s=false:=h.of ws λw hw=>by simpa using List.all_eq_true.1 hs w hw
theorem up4(h:either 17 NP (compared un (f+1)) (f+1) s=some (a,s1))(hn:Yy s1):top un (f+1) s=some (a,s1):=AC2 h (hn.is (by decide))
theorem up3(h:compared un (f+1) s=some (a,s1))(hn:Yy s1):top un (f+1) s=some (a,s1):=up4 (AC2 h (hn.is (by decide))) hn
theorem up2(h:sumP un (f+1) s=some (a,s1))(hn:Yy s1):top un (f+1) s=some (a,s1):=up3 (AHx h (hn.is (by decide))) hn
theorem up1(h:signs mulL un (f+1) s=some (a,s1))(hn:Yy s1):top un (f+1) s=some (a,s1):=up2 (Nv (ws:=AIU) h (hn.is (by decide))) hn
theorem up0(h:un s=some (a,s1))(hn:Yy s1):top un (f+1) s=some (a,s1):=up1 (Nv h (hn.is (by decide))) hn
theorem ATu{o:Bs}{u:Tok}{q:List Tok}{d:Nat}(ho:o∈AFB)(h:un s=some (a,⟨M o,u::q,d,0⟩))(hb:un ⟨u,q,d,0⟩=some (b,s2))(hn:Yy s2):top un (f+2) s=some (.mk 16 0 o [] false [a,b],s2):=by
 have mul:Kw mulL ⟨M o,u::q,d,0⟩=true->top un (f+2) s=some (.mk 16 0 o [] false [a,b],s2):=λho=>up1 (AJb h ho hb (hn.is (by decide))) hn
 have add:Kw mulL ⟨M o,u::q,d,0⟩=false->Kw AIU ⟨M o,u::q,d,0⟩=true->top un (f+2) s=some (.mk 16 0 o [] false [a,b],s2):=λh1 ho=>
  up2 (AJb (ws:=AIU) (un:=signs mulL un (f+2)) (Nv h h1) ho (Nv hb (hn.is (by decide))) (hn.is (by decide))) hn
 have cmp:Kw mulL ⟨M o,u::q,d,0⟩=false->Kw AIU ⟨M o,u::q,d,0⟩=false->Kw cmpL ⟨M o,u::q,d,0⟩=true->top un (f+2) s=some (.mk 16 0 o [] false [a,b],s2):=λh1 h2 ho=>
  up3 (AWL (Nv (ws:=AIU) (un:=signs mulL un (f+2)) (Nv h h1) h2) ho (Nv (ws:=AIU) (un:=signs mulL un (f+2)) (Nv hb (hn.is (by decide))) (hn.is (by decide)))) hn
 simp only[AFB,List.mem_cons,List.not_mem_nil,or_false]at ho
 rcases ho with rfl|rfl|rfl|rfl|rfl|rfl|rfl|rfl|rfl
 ·exact add rfl rfl
 ·exact add rfl rfl
 ·exact mul rfl
 ·exact mul rfl
 ·exact mul rfl
 ·exact cmp rfl rfl rfl
 ·exact cmp rfl rfl rfl
 ·exact cmp rfl rfl rfl
 ·exact cmp rfl rfl rfl
theorem cmp0(h:un s=some (a,s1))(h1:Kw mulL s1=false)(h2:Kw AIU s1=false)(h3:Kw cmpL s1=false):compared un (f+1) s=some (a,s1):=AHx (Nv (ws:=AIU) (Nv (ws:=mulL) h h1) h2) h3
theorem ATG{u:Tok}{q:List Tok}{d:Nat}(h:un s=some (a,⟨M NP,u::q,d,0⟩))(hb:un ⟨u,q,d,0⟩=some (b,s2))(hn:Yy s2):top un (f+2) s=some (.mk 17 0 [] [] false [a,b],s2):=
 up4 (AUQ (cmp0 h rfl rfl rfl) rfl (cmp0 hb (hn.is (by decide)) (hn.is (by decide)) (hn.is (by decide))) (hn.is (by decide))) hn
theorem AWJ{u:Tok}{q:List Tok}{d:Nat}(h:un s=some (a,⟨M YQ,u::q,d,0⟩))(hb:un ⟨u,q,d,0⟩=some (b,s2))(hn:Yy s2):top un (f+2) s=some (.mk 18 0 [] [] false [a,b],s2):=
 AUQ (AC2 (cmp0 h rfl rfl rfl) rfl) rfl (AC2 (cmp0 hb (hn.is (by decide)) (hn.is (by decide)) (hn.is (by decide))) (hn.is (by decide))) (hn.is (by decide))
end
structure Known(rec:PM Ex)(n:Nat):Prop where
 e:∀x,Wr x->nE x<n->E1 rec x
 i:∀x,Wr x->nE x<=n->I1 rec x
theorem AOj{rec:PM Ex}{e:Ex}{f d:Nat}{v:Tok}{q:List Tok}(he:Wr e)(hk:Known rec (nE e))(hf:2*nE e+4<=f)(hv:oT v BG=false)(h1:oT v GL=false)(h2:oT v DI=false)(hd:d<=100):
 UH e d (dE e) v q (XH rec f (S.of (tokE e++v::q) d)):=by
 have hc:=AbB he
 have hp:∀s,XH rec f s=PP rec f f s:=λ_=>rfl
 rw[hp]
 constructor
 ·intro h
  have:=(AQW he hk.e hk.i (by omega:nE e+2<=f) d v q (f-cE e) hv hd (by omega)).1 h
  rw[show f-cE e+cE e=f by omega]at this
  obtain⟨g,hg⟩:∃g,f-cE e=g+1:=⟨f-cE e-1,by omega⟩
  rw[this,hg]
  refine ig λw hw=>?_
  simp only[AJa,List.mem_cons,List.not_mem_nil,or_false]at hw
  rcases hw with rfl|rfl
  ·exact V4.trans h1
  ·exact V4.trans h2
 ·intro h
  have:=(AQW he hk.e hk.i (by omega:nE e+2<=f) d v q (f-cE e-1) hv hd (by omega)).2 h
  rw[show f-cE e-1+cE e+1=f by omega]at this
  exact this
theorem AJK{rec:PM Ex}{f d:Nat}{t:Tok}{r:List Tok}(h1:oT t Dv=false)(h2:oT t Iq=false):unary rec (f+1) ⟨t,r,d,0⟩=(XH rec f ⟨t,r,d,0⟩).bind λp=>asL f p.1 p.2:=by
 show(bif Kw [Dv] _ then _ else bif Kw [Iq] _ then _ else _)=_
 rw[ji (ws:=[Dv]) λw hw=>by rw[List.mem_singleton.1 hw];exact V4.trans h1,ji (ws:=[Iq]) λw hw=>by rw[List.mem_singleton.1 hw];exact V4.trans h2];rfl
theorem zL{f:Nat}{e:Ex}{s:S}(h:Kw [SX,QU] s=false):asL (f+1) e s=some (e,s):=by
 show(bif Kw [SX,QU] s then _ else some (e,s))=_
 rw[h];rfl
theorem AVd{ws:List Bs}{v:Tok}{q:List Tok}{d:Nat}(h:∀w∈ws,oT v w=false):Kw ws ⟨v,q,d,0⟩=false:=ji λw hw=>V4.trans (h w hw)
theorem AKR{rec:PM Ex}{e:Ex}{f d:Nat}{v:Tok}{q:List Tok}(he:Wr e)(hk:Known rec (nE e))(hf:2*nE e+6<=f)(hv:∀w∈[BG,GL,DI,SX,QU],oT v w=false)(hd:d<=100):
 UH e d (dE e) v q (unary rec f (S.of (tokE e++v::q) d)):=by
 obtain⟨f,rfl⟩:∃g,f=g+2:=⟨f-2,by omega⟩
 have h:=AOj (f:=f+1) (v:=v) (q:=q) he hk (by omega) (hv _ (by decide)) (hv _ (by decide)) (hv _ (by decide)) hd
 obtain⟨t,l,ht,hh⟩:=hdK he
 rw[ht]at h⊢
 have hu:unary rec (f+2) (S.of (t::l++v::q) d)=(XH rec (f+1) (S.of (t::l++v::q) d)).bind λp=>asL (f+1) p.1 p.2:=AJK (hh _ (by decide)) (hh _ (by decide))
 rw[hu]
 constructor
 ·intro hok
  rw[h.1 hok]
  exact zL (AVd λw hw=>hv w (by revert w;decide))
 ·intro hb
  obtain⟨e',t',r',hx⟩:=h.2 hb
  exact⟨e',t',r',by rw[hx];exact zL (ALW Uu)⟩
theorem AZw{rec:PM Ex}{a:Ex}{f d k:Nat}{u w:Bs}{v:Tok}{q:List Tok}(hw:(w=SX/\k=19)∨(w=QU/\k=20))(he:Wr a)(hk:Known rec (nE a))(hf:2*nE a+8<=f)(hv:∀w∈[SX,QU],oT v w=false)(hd:d<=100):
 UH (.mk k 0 [] u false [a]) d (dE a) v q (unary rec f (S.of (tokE a++W w::U u::v::q) d)):=by
 obtain⟨f,rfl⟩:∃g,f=g+3:=⟨f-3,by omega⟩
 have h:=AOj (f:=f+2) (v:=W w) (q:=U u::v::q) he hk (by omega) (by rcases hw with⟨rfl,_⟩|⟨rfl,_⟩<;>rfl) (by rcases hw with⟨rfl,_⟩|⟨rfl,_⟩<;>rfl) (by rcases hw with⟨rfl,_⟩|⟨rfl,_⟩<;>rfl) hd
 obtain⟨t,l,ht,hh⟩:=hdK he
 rw[ht]at h⊢
 have hu:unary rec (f+3) (S.of (t::l++W w::U u::v::q) d)=(XH rec (f+2) (S.of (t::l++W w::U u::v::q) d)).bind λp=>asL (f+2) p.1 p.2:=AJK (hh _ (by decide)) (hh _ (by decide))
 rw[hu]
 constructor
 ·intro hok
  rw[h.1 hok]
  have:asL (f+2) a ⟨W w,U u::v::q,d,0⟩=asL (f+1) (.mk k 0 [] u false [a]) ⟨v,q,d,0⟩:=by
   rcases hw with⟨rfl,rfl⟩|⟨rfl,rfl⟩<;>rfl
  show asL (f+2) a ⟨W w,U u::v::q,d,0⟩=_
  rw[this]
  exact zL (AVd hv)
 ·intro hb
  obtain⟨e',t',r',hx⟩:=h.2 hb
  exact⟨e',t',r',by rw[hx];exact zL (ALW Uu)⟩
theorem AV5{rec:PM Ex}{f d:Nat}{t:Tok}{r:List Tok}:unary rec (f+2) ⟨t,r,d,3⟩=some (.mk 0 0 [] [] false [],⟨t,r,d,3⟩):=cO (Ob Uu) (Ob Uu) (lW (ADe Uu) AHO) ADZ
theorem AUb{rec:PM Ex}{a:Ex}{f d k:Nat}{m:Bs}{v:Tok}{q:List Tok}(hm:(m=Dv/\k=14)∨(m=Iq/\k=15))(he:Wr a)(hk:Known rec (nE a))(hf:2*nE a+8<=f)(hv:∀w∈[BG,GL,DI,SX,QU],oT v w=false)(hd:d<=100):
 UH (.mk k 0 [] [] false [a]) d (dE a+1) v q (unary rec f (S.of (M m::(tokE a++v::q)) d)):=by
 obtain⟨f,rfl⟩:∃g,f=g+3:=⟨f-3,by omega⟩
 obtain⟨t,l,ht,hh⟩:=hdK he
 have h:=λd hd=>AKR (f:=f+2) (d:=d) (v:=v) (q:=q) he hk (by omega) hv hd
 rw[ht]at h⊢
 have hu:unary rec (f+3) (S.of (M m::(t::l++v::q)) d)=(UJ ⟨M m,t::(l++v::q),d,0⟩).bind λs1=>(N7 s1).bind λs2=>(unary rec (f+2) s2).bind λp=>(lX p.2).bind λs'=>some (Ex.mk k 0 [] [] false [p.1],s'):=by
  rcases hm with⟨rfl,rfl⟩|⟨rfl,rfl⟩<;>rfl
 rw[hu]
 by_cases AI6:d=100
 ·subst AI6
  refine⟨λh=>by omega,λ_=>?_⟩
  rw[AEs]
  refine⟨.mk k 0 [] [] false [.mk 0 0 [] [] false []],t,l++v::q,?_⟩
  show(unary rec (f+2) ⟨t,l++v::q,101,3⟩).bind (λp=>(lX p.2).bind λs'=>some (Ex.mk k 0 [] [] false [p.1],s'))=_
  rw[AV5]
  show(lX ⟨t,l++v::q,100+1,3⟩).bind (λs'=>some (Ex.mk k 0 [] [] false [.mk 0 0 [] [] false []],s'))=_
  rw[ABV (by decide)];rfl
 ·have h:=h (d+1) (by omega)
  rw[AGq (by omega)]
  have hn:∀{α:Type} (k:S->Option α),(some (⟨M m,t::(l++v::q),d+1,0⟩:S)).bind (λs1=>(N7 s1).bind k)=k (S.of (t::l++v::q) (d+1)):=λ_=>rfl
  rw[hn]
  constructor
  ·intro hok
   rw[h.1 (by omega)]
   show(lX ⟨v,q,d+1,0⟩).bind _=_
   rw[AQz (by omega)];rfl
  ·intro hb
   obtain⟨e',t',r',hx⟩:=h.2 (by omega)
   refine⟨.mk k 0 [] [] false [e'],t',r',?_⟩
   rw[hx]
   show(lX ⟨t',r',d+1,3⟩).bind _=_
   rw[ABV (by omega)];rfl
theorem kZ{e:Ex}{f D:Nat}{v:Tok}{q l:List Tok}(hl:l≠[])(h:∀d,d<=100->UH e d D v q (top (unary (expr (f+3)) (f+3)) (f+3) (S.of l d)))(d:Nat)(hd:d<=100):UH e d (D+1) v q (expr (f+4) (S.of l d)):=by
 cases l with
 |nil=>exact absurd rfl hl
 |cons t r=>
 by_cases AI6:d=100
 ·subst AI6
  exact⟨λh=>by omega,λ_=>⟨_,_,_,AQL⟩⟩
 ·have h:=h (d+1) (by omega)
  have he:expr (f+4) (S.of (t::r) d)=(UJ ⟨t,r,d,0⟩).bind λs1=>(top (unary (expr (f+3)) (f+3)) (f+3) s1).bind λp=>(lX p.2).bind λs'=>some (p.1,s'):=rfl
  rw[he,AGq (by omega)]
  have hn:∀{α:Type} (k:S->Option α),(some (⟨t,r,d+1,0⟩:S)).bind k=k (S.of (t::r) (d+1)):=λ_=>rfl
  rw[hn]
  constructor
  ·intro hok
   rw[h.1 (by omega)]
   show(lX ⟨v,q,d+1,0⟩).bind _=_
   rw[AQz (by omega)];rfl
  ·intro hb
   obtain⟨e',t',r',hx⟩:=h.2 (by omega)
   refine⟨e',t',r',?_⟩
   rw[hx]
   show(lX ⟨t',r',d+1,3⟩).bind _=_
   rw[ABV (by omega)];rfl
theorem AIF:∀w∈[BG,GL,DI,SX,QU],oT (M BH) w=false:=by intro w hw;rw[AGI];revert w;decide
theorem AOP{un:PM Ex}{a b r:Ex}{f d:Nat}{o:Bs}{q:List Tok}(hb:Wr b)
 (hgo:∀{s:S} {u:Tok} {q:List Tok} {b':Ex} {s2:S},un s=some (a,⟨M o,u::q,d,0⟩)->un ⟨u,q,d,0⟩=some (b',s2)->Yy s2->∃r',top un (f+2) s=some (r',s2)/\(b'=b->r'=r))
 (h1:UH a d (dE a) (M o) (tokE b++M BH::q) (un (S.of (tokE a++M o::(tokE b++M BH::q)) d))) (h2:UH b d (dE b) (M BH) q (un (S.of (tokE b++M BH::q) d))):
 UH r d (max (dE a) (dE b)) (M BH) q (top un (f+2) (S.of (tokE a++M o::(tokE b++M BH::q)) d)):=by
 have hs:Stp (M BH):=zN (by decide)
 obtain⟨t,l,ht,_⟩:=hdK hb
 rw[ht]at h1 h2⊢
 constructor
 ·intro hok
  obtain⟨r',e1,e2⟩:=hgo (h1.1 (by omega)) (h2.1 (by omega)) hs.op
  rw[e1,e2 rfl]
 ·intro hbad
  by_cases hda:d+dE a<=100
  ·obtain⟨b',t',r',hx⟩:=h2.2 (by omega)
   obtain⟨z,e1,_⟩:=hgo (h1.1 hda) hx ADZ
   exact⟨z,t',r',e1⟩
  ·obtain⟨a',t',r',hx⟩:=h1.2 (by omega)
   exact⟨a',t',r',up0 (f:=f+1) hx ADZ⟩
def ASE(N:Nat):Prop:=∀(e:Ex),Wr e->nE e<=N->∀F,2*nE e+19<=F->I1 (expr F) e
def ARp(N:Nat):Prop:=∀(e:Ex),Wr e->nE e<=N->∀F,2*nE e+20<=F->E1 (expr F) e
theorem Aau{N:Nat}(bI:ASE N)(bE:ARp N):ASE (N+1):=by
 intro e he h F hF hbr d q hd
 have kn:∀F m,m<nE e->2*nE e+18<=F->Known (expr F) m:=λF m hm hF=>
  ⟨λx w hx=>bE x w (by omega) F (by omega),λx w hx=>bI x w (by omega) F (by omega)⟩
 obtain⟨f,rfl⟩:∃g,F=g+4:=⟨F-4,by omega⟩
 have un:∀{a:Ex} {v:Tok} {q:List Tok} {d:Nat},Wr a->nE a<nE e->(∀w∈[BG,GL,DI,SX,QU],oT v w=false)->d<=100->UH a d (dE a) v q (unary (expr (f+3)) (f+3) (S.of (tokE a++v::q) d)):=
  λwa hn hv hd=>AKR wa (kn _ _ hn (by omega)) (by omega) hv hd
 have one:∀{a:Ex},nL [a]=nE a:=λ{a}=>by rw[fF,qO];rfl
 have two:∀{a b:Ex},nL [a,b]=nE a+nE b:=λ{a b}=>by rw[fF,fF,qO];rfl
 have lift:∀{x:Ex} {D d:Nat} {q:List Tok} {s:S},UH x d D (M BH) q (unary (expr (f+3)) (f+3) s)->UH x d D (M BH) q (top (unary (expr (f+3)) (f+3)) (f+3) s):=λh=>
  ⟨λhok=>up0 (f:=f+2) (h.1 hok) (zN (by decide)).op,λhb=>by
   obtain⟨e',t',r',hx⟩:=h.2 hb
   exact⟨e',t',r',up0 (f:=f+2) hx ADZ⟩⟩
 have opn:∀{o:Bs},o∈AFB->∀w∈[BG,GL,DI,SX,QU],oT (M o) w=false:=by
  intro o ho w hw
  rw[AGI]
  simp only[AFB,List.mem_cons,List.not_mem_nil,or_false]at ho
  rcases ho with rfl|rfl|rfl|rfl|rfl|rfl|rfl|rfl|rfl<;>revert w<;>decide
 cases he with
 | @new u hu=>
  rw[Hg]
  refine kZ (D:=0) (l:=[W Ih,U u]++M BH::q) (by simp) (λd hd=>lift ⟨λ_=>?_,λh=>absurd h (by omega)⟩) d hd
  refine cO (f:=f+1) rfl rfl (lW ?_ (zN (by decide)).tl) (zN (by decide)).op
  have hc:xH ⟨u,false⟩=true:=by
   obtain⟨c,t,rfl,hc⟩:=(zJ hu).hd
   exact hc
  show(some (Ex.mk 10 0 [] u false [],bif xH ⟨u,false⟩then(⟨M BH,q,d,0⟩:S)else Gy 21 ⟨M BH,q,d,0⟩))=_
  rw[hc];rfl
 | @neg a ha=>
  rw[F7,one]at kn un
  rw[Hg]
  show UH _ d (dE a+1+1) _ _ _
  refine kZ (l:=M Dv::tokE a++M BH::q) (by simp) (λd hd=>lift ?_) d hd
  exact AUb (.inl ⟨rfl,rfl⟩) ha (kn _ _ (by omega) (by rw[F7,one]at hF;omega)) (by rw[F7,one]at hF;omega) AIF hd
 | @not a ha=>
  rw[F7,one]at kn un
  rw[Hg]
  show UH _ d (dE a+1+1) _ _ _
  refine kZ (l:=M Iq::tokE a++M BH::q) (by simp) (λd hd=>lift ?_) d hd
  exact AUb (.inr ⟨rfl,rfl⟩) ha (kn _ _ (by omega) (by rw[F7,one]at hF;omega)) (by rw[F7,one]at hF;omega) AIF hd
 | @asx u a hu ha=>
  rw[F7,one]at kn un
  rw[Hg,show nX (.mk 19 0 [] u false [a])++M BH::q=tokE a++W SX::U u::M BH::q by simp[nX,ACd,QS]]
  show UH _ d (dE a+1) _ _ _
  refine kZ (by simp) (λd hd=>lift ?_) d hd
  exact AZw (.inl ⟨rfl,rfl⟩) ha (kn _ _ (by omega) (by rw[F7,one]at hF;omega)) (by rw[F7,one]at hF;omega) (λw hw=>by rw[AGI];revert w;decide) hd
 | @isx u a hu ha=>
  rw[F7,one]at kn un
  rw[Hg,show nX (.mk 20 0 [] u false [a])++M BH::q=tokE a++W QU::U u::M BH::q by simp[nX,ACd,QS]]
  show UH _ d (dE a+1) _ _ _
  refine kZ (by simp) (λd hd=>lift ?_) d hd
  exact AZw (.inr ⟨rfl,rfl⟩) ha (kn _ _ (by omega) (by rw[F7,one]at hF;omega)) (by rw[F7,one]at hF;omega) (λw hw=>by rw[AGI];revert w;decide) hd
 | @bin o a b ho ha hb=>
  rw[F7,two]at kn un
  have hpa:=XO a
  have hpb:=XO b
  rw[Hg,show nX (.mk 16 0 o [] false [a,b])++M BH::q=tokE a++M o::(tokE b++M BH::q)by simp[nX,ACd,QS]]
  show UH _ d (max (dE a) (dE b)+1) _ _ _
  refine kZ (by simp) (λd hd=>AOP (f:=f+1) hb (λh1 h2 hn=>⟨_,ATu ho h1 h2 hn,λe=>by rw[e]⟩) (un ha (by omega) (opn ho) hd) (un hb (by omega) AIF hd)) d hd
 | @and a b ha hb=>
  rw[F7,two]at kn un
  have hpa:=XO a
  have hpb:=XO b
  rw[Hg,show nX (.mk 17 0 [] [] false [a,b])++M BH::q=tokE a++M NP::(tokE b++M BH::q)by simp[nX,ACd,QS]]
  show UH _ d (max (dE a) (dE b)+1) _ _ _
  refine kZ (by simp) (λd hd=>AOP (f:=f+1) hb (λh1 h2 hn=>⟨_,ATG h1 h2 hn,λe=>by rw[e]⟩) (un ha (by omega) (λw hw=>by rw[AGI];revert w;decide) hd) (un hb (by omega) AIF hd)) d hd
 | @or a b ha hb=>
  rw[F7,two]at kn un
  have hpa:=XO a
  have hpb:=XO b
  rw[Hg,show nX (.mk 18 0 [] [] false [a,b])++M BH::q=tokE a++M YQ::(tokE b++M BH::q)by simp[nX,ACd,QS]]
  show UH _ d (max (dE a) (dE b)+1) _ _ _
  refine kZ (by simp) (λd hd=>AOP (f:=f+1) hb (λh1 h2 hn=>⟨_,AWJ h1 h2 hn,λe=>by rw[e]⟩) (un ha (by omega) (λw hw=>by rw[AGI];revert w;decide) hd) (un hb (by omega) AIF hd)) d hd
 |_=>exact Bool.noConfusion hbr
theorem AbC{N:Nat}(bI:ASE (N+1))(bE:ARp N):ARp (N+1):=by
 intro e he h F hF d v q hd hv
 obtain⟨f,rfl⟩:∃g,F=g+4:=⟨F-4,by omega⟩
 refine kZ (l:=tokE e++v::q) (by simp) (λd hd=>?_) d hd
 have kk:Known (expr (f+3)) (nE e):=⟨λx w hx=>bE x w (by omega) _ (by omega),λx w hx=>bI x w (by omega) _ (by omega)⟩
 have h:=AKR (f:=f+3) (v:=v) (q:=q) he kk (by omega) (λw hw=>by
  simp only[List.mem_cons,List.not_mem_nil,or_false]at hw
  rcases hw with rfl|rfl|rfl|rfl|rfl
  ·exact hv.2.2
  ·exact hv.2.1 _ (by decide)
  ·exact hv.2.1 _ (by decide)
  ·exact hv.1 _ (by decide)
  ·exact hv.1 _ (by decide)) hd
 exact⟨λhok=>up0 (f:=f+2) (h.1 hok) hv.op,λhb=>by
  obtain⟨e',t',r',hx⟩:=h.2 hb
  exact⟨e',t',r',up0 (f:=f+2) hx ADZ⟩⟩
theorem big:∀N,ASE N/\ARp N
 |0=>⟨λe _ h=>absurd (XO e) (by omega),λe _ h=>absurd (XO e) (by omega)⟩
 |N+1=>by
  have h:=big N
  have hi:=Aau h.1 h.2
  exact⟨hi,AbC hi h.2⟩
theorem pq{e:Ex}{f d:Nat}{v:Tok}{q:List Tok}(he:Wr e)(hf:2*nE e+20<=f)(hv:Stp v)(hd:d<=100):UH e d (dE e+1) v q (expr f (S.of (tokE e++v::q) d)):=(big (nE e)).2 e he (Nat.le_refl _) f hf d v q hd hv
def AG9(k:Nat)(es th el:List Nat):Nat:=
 match k with
 |2=>max (Yw es 0+1) (Yw es 1+1)
 |4=>max (Yw es 0+1) (max (maxL th+1) (bif el.isEmpty then 0 else maxL el+1))+1
 |5=>max (Yw es 0+1) (maxL th+1)
 |_=>Yw es 0+1
mutual
def dS:St->Nat
 |.mk k _ _ es th el=>AG9 k (es.map dE) (dSs th) (dSs el)
def dSs:List St->List Nat
 |[]=>[]
 |s::l=>dS s::dSs l
end
theorem AGl:∀l:List St,dSs l=l.map dS
 |[]=>by unfold dSs;rfl
 |a::l=>by unfold dSs;rw[AGl l];rfl
theorem ZM(k:Nat)(nm:Bs)(ty:Ty)(es:List Ex)(th el:List St):dS (.mk k nm ty es th el)=AG9 k (es.map dE) (th.map dS) (el.map dS):=by unfold dS;rw[AGl,AGl]
mutual
def nS:St->Nat
 |.mk _ _ _ es th el=>1+(nL es+(nSs th+nSs el))
def nSs:List St->Nat
 |[]=>0
 |s::l=>nS s+nSs l
end
theorem ZG(k:Nat)(nm:Bs)(ty:Ty)(es:List Ex)(th el:List St):nS (.mk k nm ty es th el)=1+(nL es+(nSs th+nSs el)):=by unfold nS;rfl
theorem APv(a:St)(l:List St):nSs (a::l)=nS a+nSs l:=by rw[nSs]
theorem ACU:nSs []=0:=by rw[nSs]
theorem AQV(s:St):1<=nS s:=by cases s;rw[ZG];omega
theorem bM:∀l:List St,l.length<=nSs l
 |[]=>by simp
 |a::l=>by have:=bM l;have:=AQV a;rw[APv];simp;omega
theorem Ul:∀{l:List St} {s:St},s∈l->nS s<=nSs l
 |a::l,s,h=>by
  rw[APv]
  rcases List.mem_cons.1 h with rfl|h
  ·omega
  ·have:=Ul h;omega
theorem UH.bind{α β:Type}{a:α}{b:β}{d D1 D2:Nat}{v v':Tok}{q q':List Tok}{x:Option (α×S)}{k:α×S->Option (β×S)}(h1:UH a d D1 v q x)(h2:UH b d D2 v' q' (k (a,⟨v,q,d,0⟩)))(hb:∀a t r,Bad d (k (a,⟨t,r,d,3⟩))):
 UH b d (max D1 D2) v' q' (x.bind k):=by
 constructor
 ·intro h
  rw[h1.1 (by omega)];exact h2.1 (by omega)
 ·intro h
  by_cases h0:d+D1<=100
  ·rw[h1.1 h0];exact h2.2 (by omega)
  ·obtain⟨a',t,r,e⟩:=h1.2 (by omega)
   rw[e];exact hb a' t r
theorem UH.ok{α:Type}{a:α}{d:Nat}{v:Tok}{q:List Tok}(hd:d<=100):UH a d 0 v q (some (a,(⟨v,q,d,0⟩:S))):=⟨λ_=>rfl,λh=>absurd h (by omega)⟩
theorem UH.at{α:Type}{a:α}{d D D':Nat}{v:Tok}{q:List Tok}{x:Option (α×S)}(h:UH a d D v q x)(e:D'=D):UH a d D' v q x:=by rw[e];exact h
theorem UH.deep{α:Type}{b:α}{d D:Nat}{t v:Tok}{r q:List Tok}{k:S->Option (α×S)}(h:d<100->UH b (d+1) D v q (k ⟨t,r,d+1,0⟩))(hb:Bad 101 (k ⟨t,r,101,3⟩))(hd:d<=100):
 UH b d (D+1) v q ((UJ ⟨t,r,d,0⟩).bind λs1=>(k s1).bind λp=>(lX p.2).bind λs'=>some (p.1,s')):=by
 by_cases AI6:d=100
 ·subst AI6
  refine⟨λh=>by omega,λ_=>?_⟩
  obtain⟨e,t',r',hx⟩:=hb
  refine⟨e,t',r',?_⟩
  rw[AEs]
  show((k ⟨t,r,101,3⟩).bind λp=>(lX p.2).bind λs'=>some (p.1,s'))=_
  rw[hx]
  show((lX ⟨t',r',100+1,3⟩).bind λs'=>some (e,s'))=_
  rw[ABV (by decide)];rfl
 ·have h:=h (by omega)
  rw[AGq (by omega)]
  constructor
  ·intro hok
   show((k ⟨t,r,d+1,0⟩).bind λp=>(lX p.2).bind λs'=>some (p.1,s'))=_
   rw[h.1 (by omega)]
   show((lX ⟨v,q,d+1,0⟩).bind λs'=>some (b,s'))=_
   rw[AQz (by omega)];rfl
  ·intro hbad
   obtain⟨e,t',r',hx⟩:=h.2 (by omega)
   refine⟨e,t',r',?_⟩
   show((k ⟨t,r,d+1,0⟩).bind λp=>(lX p.2).bind λs'=>some (p.1,s'))=_
   rw[hx]
   show((lX ⟨t',r',d+1,3⟩).bind λs'=>some (e,s'))=_
   rw[ABV (by omega)];rfl
def HdS(l:List Tok):Prop:=∃t r,l=t::r/\oT t m_rc=false/\oT t EL=false
theorem AYr{s:St}(h:WrS s):HdS (Eh s):=by
 have ex:∀{e:Ex} {r:List Tok},Wr e->HdS (tokE e++r):=λ{e r} he=>by
  obtain⟨t,q,ht,hh⟩:=hdK he
  exact⟨t,q++r,by rw[ht];rfl,hh _ (by decide),hh _ (by decide)⟩
 cases h with
 |lt hl ht he=>rw[EU];exact⟨_,_,rfl,rfl,rfl⟩
 |put ha hk hb=>rw[EU];exact ex ha
 |ask ha hk=>rw[EU];exact ex ha
 |ite hc ht he=>rw[EU];exact⟨_,_,rfl,rfl,rfl⟩
 |loop hc ht=>rw[EU];exact⟨_,_,rfl,rfl,rfl⟩
 |ret ha=>rw[EU];exact⟨_,_,rfl,rfl,rfl⟩
 |prt ha=>rw[EU];exact⟨_,_,rfl,rfl,rfl⟩
def SP(s:St):Prop:=∀(f d:Nat) (v:Tok) (q:List Tok),2*nS s+40<=f->nS s<1000000->d<=100->oT v EL=false->UH s d (dS s) v q (sc f false (S.of (Eh s++v::q) d))
theorem AMl{F:Nat}:∀(ls out:List St) (f d:Nat) (v:Tok) (q:List Tok),(∀x∈ls,WrS x/\SP x/\2*nS x+40<=F/\nS x<1000000)->d<=100->out.length+ls.length<1000000->ls.length+2<=f->
 UH (out++ls) d (maxL (ls.map dS)) v q (Ri (sc F false) f out (S.of ((ls.map Eh).flatten++M m_rc::v::q) d))
 |[],out,f,d,v,q,_,hd,_,hf=>by
  obtain⟨f,rfl⟩:∃g,f=g+1:=⟨f-1,by omega⟩
  rw[List.append_nil]
  exact⟨λ_=>AO8,λh=>by simp[maxL]at h;omega⟩
 |a::ls,out,f,d,v,q,hx,hd,hn,hf=>by
  obtain⟨f,rfl⟩:∃g,f=g+1:=⟨f-1,by omega⟩
  have hn:out.length+(ls.length+1)<1000000:=by simpa using hn
  have hf:ls.length+2<=f:=by
   have:ls.length+1+2<=f+1:=by simpa using hf
   omega
  obtain⟨wa,sa,hF,h6⟩:=hx a List.mem_cons_self
  have ih:=AMl ls (out++[a]) f d v q (λx hx'=>hx x (List.mem_cons_of_mem _ hx')) hd (by simp;omega) hf
  rw[List.append_assoc,List.singleton_append]at ih
  simp only[List.map_cons,List.flatten_cons,List.append_assoc]
  obtain⟨v',q',hv',he',hr'⟩:∃v' q',(ls.map Eh).flatten++M m_rc::v::q=v'::q'/\oT v' EL=false/\True:=by
   cases ls with
   |nil=>exact⟨_,_,rfl,rfl,trivial⟩
   |cons b ls=>
    obtain⟨t,r,ht,h1,h2⟩:=AYr (hx b (by simp)).1
    exact⟨t,r++((ls.map Eh).flatten++M m_rc::v::q),by simp[ht],h2,trivial⟩
  rw[hv']at ih⊢
  have e1:=sa F d v' q' hF h6 hd he'
  obtain⟨t,l,ht,h1,h2⟩:=AYr wa
  rw[ht]at e1⊢
  have hgo:Ri (sc F false) (f+1) out (S.of (t::l++v'::q') d)=(sc F false (S.of (t::l++v'::q') d)).bind λp=>Ri (sc F false) f (out++[p.1]) p.2:=by
   show((C9 m_rc ⟨t,l++v'::q',d,0⟩).bind λp=>bif p.1 then some (out,p.2)else(sc F false p.2).bind λq=>bif decide (out.length<1000000)then Ri (sc F false) f (out++[q.1]) q.2 else none)=_
   rw[Xt (V4.trans h1),decide_eq_true (show out.length<1000000 by omega)];rfl
  rw[hgo]
  refine e1.bind ih λa' t r=>?_
  obtain⟨f',rfl⟩:∃g,f=g+1:=⟨f-1,by omega⟩
  exact⟨_,t,r,AA6 Uu⟩
theorem AAC{F f:Nat}{ls:List St}{d:Nat}{v:Tok}{q:List Tok}(hx:∀x∈ls,WrS x/\SP x/\2*nS x+40<=F/\nS x<1000000)(hd:d<=100)(hn:ls.length<1000000)(hf:ls.length+2<=f):
 UH ls d (maxL (ls.map dS)+1) v q (Gv (sc F false) f (S.of (MB (ls.map Eh)++v::q) d)):=by
 obtain⟨t,r,ht⟩:∃t r,(ls.map Eh).flatten++M m_rc::v::q=t::r:=by
  cases h:(ls.map Eh).flatten with
  |nil=>exact⟨_,_,rfl⟩
  |cons a l=>exact⟨_,_,rfl⟩
 have e:MB (ls.map Eh)++v::q=M OC::t::r:=by unfold MB;rw[<-ht];simp
 rw[e]
 have hB:∀s,Gv (sc F false) f s=(UJ s).bind λs1=>((CJ [OC] s1).bind λs2=>Ri (sc F false) f [] s2).bind λp=>(lX p.2).bind λs'=>some (p.1,s'):=λs=>by
  unfold Gv;congr 1;funext s1;rw[Option.bind_assoc]
 rw[hB]
 refine UH.deep (k:=λs1=>(CJ [OC] s1).bind λs2=>Ri (sc F false) f [] s2) (λhlt=>?_) ?_ hd
 ·show UH ls (d+1) _ v q ((CJ [OC] ⟨M OC,t::r,d+1,0⟩).bind λs2=>Ri (sc F false) f [] s2)
  rw[TB]
  have:=AMl ls [] f (d+1) v q hx (by omega) (by simpa using hn) hf
  rw[ht]at this
  exact this
 ·refine⟨[],M OC,t::r,?_⟩
  show((CJ [OC] ⟨M OC,t::r,101,3⟩).bind λs2=>Ri (sc F false) f [] s2)=_
  rw[YK Uu]
  obtain⟨f,rfl⟩:∃g,f=g+1:=⟨f-1,by omega⟩
  exact AA6 Uu
theorem AM2{l:Bs}{v:Tok}{q:List Tok}{d:Nat}(h:aQ l=true):ACX ⟨U0 l,v::q,d,0⟩=some (⟨l,false⟩,⟨v,q,d,0⟩):=by
 unfold U0
 cases hu:WO l with
 |true=>rfl
 |false=>
  simp only[aQ,hu,Bool.or_false,Bool.or_eq_true,decide_eq_true_eq]at h
  rcases h with rfl|rfl<;>rfl
theorem AHm{t:Ty}{v:Tok}{q:List Tok}{d:Nat}(h:aQ t.nm=true)(hv:oT v GL=false):fQ (S.of (tyK t++v::q) d)=some (t,⟨v,q,d,0⟩):=by
 obtain⟨nm,ar⟩:=t
 cases ar with
 |false=>
  show((ACX ⟨U0 nm,v::q,d,0⟩).bind λp=>(C9 GL p.2).bind λq=>bif q.1 then(CJ [F8] q.2).bind λs=>some (Ty.mk p.1.nm true,s)else some (p.1,q.2))=_
  rw[AM2 h]
  show((C9 GL ⟨v,q,d,0⟩).bind λq=>bif q.1 then(CJ [F8] q.2).bind λs=>some (Ty.mk nm true,s)else some (Ty.mk nm false,q.2))=_
  rw[Xt (V4.trans hv)];rfl
 |true=>
  show((ACX ⟨U0 nm,M GL::M F8::v::q,d,0⟩).bind λp=>(C9 GL p.2).bind λq=>bif q.1 then(CJ [F8] q.2).bind λs=>some (Ty.mk p.1.nm true,s)else some (p.1,q.2))=_
  rw[AM2 h];rfl
theorem AEi{α:Type}{a:α}{g:α->St}{d D:Nat}{v:Tok}{q:List Tok}{x:Option (α×S)}(hd:d<=100)(h:UH a d D (M Aw) (v::q) x):UH (g a) d D v q (x.bind λp=>endP (g p.1) p.2):=
 (h.bind (k:=λp=>endP (g p.1) p.2) (b:=g a) (D2:=0) (v':=v) (q':=q) ⟨λ_=>AWM,λh=>absurd h (by omega)⟩ λa' t r=>⟨_,t,r,ARv Uu⟩).at (by omega)
theorem sS{m:Bs}(h:m=Aw∨m=EG∨m=OC):Stp (M m):=by rcases h with rfl|rfl|rfl<;>exact zN (by decide)
def bodyC(st ch:PM St)(f:Nat):PM St:=λs1=>(CJ [Jr] s1).bind λs2=>(expr f s2).bind λc=>(Gv st f c.2).bind λt=>
 (C9 EL t.2).bind λp=>(bif p.1 then(bif Kw [Jr] p.2 then(ch p.2).bind λx=>some ([x.1],x.2)else Gv st f p.2)else some ([],p.2)).bind λx=>some (.mk 4 [] JY [c.1] t.1 x.1,x.2)
theorem ANZ(st ch:PM St)(f:Nat)(s:S):zQ st ch f s=(UJ s).bind λs1=>(bodyC st ch f s1).bind λp=>(lX p.2).bind λs'=>some (p.1,s'):=by
 unfold zQ bodyC
 simp only[Option.bind_assoc,Option.bind_some]
theorem AI1{st ch:PM St}{f d:Nat}{t:Tok}{r:List Tok}(h:∀w,w∉ATp->oT t w=false):Z7 st ch f ⟨t,r,d,0⟩=(o7 f ⟨t,r,d,0⟩).bind λx=>endP x.1 x.2:=by
 have no:∀w,w∉ATp->C9 w ⟨t,r,d,0⟩=some (false,⟨t,r,d,0⟩):=λw hw=>Xt (V4.trans (h w hw))
 unfold Z7
 rw[no O0 (by decide)]
 show(bif Kw [Jr] ⟨t,r,d,0⟩then _ else _)=_
 rw[AVd (ws:=[Jr]) λw hw=>by rw[List.mem_singleton.1 hw];exact h _ (by decide)]
 show((C9 Fe ⟨t,r,d,0⟩).bind _)=_
 rw[no Fe (by decide)]
 show((C9 Eo ⟨t,r,d,0⟩).bind _)=_
 rw[no Eo (by decide)]
 show((C9 Fp ⟨t,r,d,0⟩).bind _)=_
 rw[no Fp (by decide)];rfl
theorem AOl{st ch:PM St}{f d:Nat}{t:Tok}{r:List Tok}(hd:d<1000000:=by omega):bodyC st ch (f+4) ⟨t,r,d,3⟩=some (.mk 4 [] JY [.mk 0 0 [] [] false []] [] [],⟨t,r,d,3⟩):=by
 unfold bodyC
 rw[YK Uu]
 show((expr (f+4) ⟨t,r,d,3⟩).bind λc=>(Gv st (f+4) c.2).bind λt=>(C9 EL t.2).bind λp=>(bif p.1 then(bif Kw [Jr] p.2 then(ch p.2).bind λx=>some ([x.1],x.2)else Gv st (f+4) p.2)else some ([],p.2)).bind λx=>some (St.mk 4 [] JY [c.1] t.1 x.1,x.2))=_
 rw[APE Uu hd]
 show((Gv st (f+4) ⟨t,r,d,3⟩).bind λt=>(C9 EL t.2).bind λp=>(bif p.1 then(bif Kw [Jr] p.2 then(ch p.2).bind λx=>some ([x.1],x.2)else Gv st (f+4) p.2)else some ([],p.2)).bind λx=>some (St.mk 4 [] JY [.mk 0 0 [] [] false []] t.1 x.1,x.2))=_
 rw[yI Uu hd]
 show((C9 EL ⟨t,r,d,3⟩).bind λp=>(bif p.1 then(bif Kw [Jr] p.2 then(ch p.2).bind λx=>some ([x.1],x.2)else Gv st (f+4) p.2)else some ([],p.2)).bind λx=>some (St.mk 4 [] JY [.mk 0 0 [] [] false []] [] x.1,x.2))=_
 rw[zD Uu];rfl
theorem AZE{l:Bs}{ty:Ty}{e:Ex}(hl:kK l=true)(ht:aQ ty.nm=true)(he:Wr e):SP (.mk 1 l ty [e] [] []):=by
 intro f d v q hf h6 hd hv
 obtain⟨f,rfl⟩:∃g,f=g+1:=⟨f-1,by omega⟩
 rw[ZG,fF]at hf
 rw[EU,ZM,AKy]
 obtain⟨u,r,hu⟩:∃u r,tyK ty++L l::M EG::(tokE e++M Aw::v::q)=u::r:=⟨U0 ty.nm,_,rfl⟩
 have e1:Tn 1 l ty [e] ([].map Eh) ([].map Eh)++v::q=W O0::u::r:=by rw[<-hu];simp[Tn,exK]
 rw[e1]
 show UH _ d (dE e+1) v q (Z7 _ _ f ⟨W O0,u::r,d,0⟩)
 rw[AQn,show(⟨u,r,d,0⟩:S)=S.of (tyK ty++L l::M EG::(tokE e++M Aw::v::q)) d by rw[hu];rfl,AHm ht rfl]
 obtain⟨t,x,hx,_⟩:=hdK he
 have hg:((some (ty,(⟨L l,M EG::(tokE e++M Aw::v::q),d,0⟩:S))).bind λt=>(Jp 3 t.2).bind λn=>(CJ [EG] n.2).bind λs1=>(expr f s1).bind λx=>endP (.mk 1 n.1 t.1 [x.1] [] []) x.2)=(expr f (S.of (tokE e++M Aw::v::q) d)).bind λx=>endP (.mk 1 l ty [x.1] [] []) x.2:=by
  rw[hx];rfl
 rw[hg]
 exact AEi (g:=λx=>.mk 1 l ty [x] [] []) hd (pq he (by omega) (sS (.inl rfl)) hd)
def plK(f:Nat)(p:Ex×S):Option (St×S):=bif Kw [EG] p.2 then
 (CJ [EG] (bif decide (p.1.kind=6)||(decide (p.1.kind=7)||decide (p.1.kind=12))then p.2 else Gy 21 p.2)).bind λs1=>(expr f s1).bind λq=>some (.mk 2 [] JY [p.1,q.1] [] [],q.2)
 else some (.mk 3 [] JY [p.1] [] [],bif decide (p.1.kind=8)||decide (p.1.kind=9)then p.2 else Gy 21 p.2)
theorem AMw(f:Nat)(s:S):o7 f s=(expr f s).bind (plK f):=rfl
theorem ASC{f d:Nat}{a:Ex}{u:Tok}{r:List Tok}(hk:a.kind=6∨a.kind=7∨a.kind=12):plK f (a,⟨M EG,u::r,d,0⟩)=(expr f ⟨u,r,d,0⟩).bind λq=>some (.mk 2 [] JY [a,q.1] [] [],q.2):=by
 have hkk:(decide (a.kind=6)||(decide (a.kind=7)||decide (a.kind=12)))=true:=by rcases hk with h|h|h<;>simp[h]
 unfold plK
 show(bif true then(CJ [EG] (bif decide (a.kind=6)||(decide (a.kind=7)||decide (a.kind=12))then(⟨M EG,u::r,d,0⟩:S)else Gy 21 ⟨M EG,u::r,d,0⟩)).bind λs1=>(expr f s1).bind λq=>some (St.mk 2 [] JY [a,q.1] [] [],q.2)else _)=_
 rw[hkk]
 show((CJ [EG] ⟨M EG,u::r,d,0⟩).bind λs1=>(expr f s1).bind λq=>some (St.mk 2 [] JY [a,q.1] [] [],q.2))=_
 rw[TB];rfl
theorem ATY{f:Nat}{a:Ex}{s:S}(hk:a.kind=8∨a.kind=9)(h:Kw [EG] s=false):plK f (a,s)=some (.mk 3 [] JY [a] [] [],s):=by
 have hkk:(decide (a.kind=8)||decide (a.kind=9))=true:=by rcases hk with h|h<;>simp[h]
 unfold plK
 rw[h]
 show some (St.mk 3 [] JY [a] [] [],bif decide (a.kind=8)||decide (a.kind=9)then s else Gy 21 s)=_
 rw[hkk];rfl
theorem AMJ{f d:Nat}{a:Ex}{t:Tok}{r:List Tok}:plK f (a,⟨t,r,d,3⟩)=some (.mk 3 [] JY [a] [] [],⟨t,r,d,3⟩):=by
 unfold plK
 rw[ALW Uu]
 show some (St.mk 3 [] JY [a] [] [],bif decide (a.kind=8)||decide (a.kind=9)then(⟨t,r,d,3⟩:S)else Gy 21 ⟨t,r,d,3⟩)=_
 rw[zx Uu,Bool.cond_self]
theorem AWd{a b:Ex}(ha:Wr a)(hk:a.kind=6∨a.kind=7∨a.kind=12)(hb:Wr b):SP (.mk 2 [] JY [a,b] [] []):=by
 intro f d v q hf h6 hd hv
 obtain⟨f,rfl⟩:∃g,f=g+1:=⟨f-1,by omega⟩
 rw[ZG,fF,fF]at hf
 rw[EU,ZM,AKy,show Tn 2 [] JY [a,b] ([].map Eh) ([].map Eh)++v::q=tokE a++M EG::(tokE b++M Aw::v::q)by simp[Tn,exK],show AG9 2 ([a,b].map dE) ([].map dS) ([].map dS)=max (dE a+1) (dE b+1)from rfl]
 have e1:=pq (f:=f) (v:=M EG) (q:=tokE b++M Aw::v::q) ha (by omega) (sS (.inr (.inl rfl))) hd
 have e2:=pq (f:=f) (v:=M Aw) (q:=v::q) hb (by omega) (sS (.inl rfl)) hd
 obtain⟨t,l,ht,hh⟩:=hdK ha
 obtain⟨t2,l2,ht2,_⟩:=hdK hb
 have hs:S.of (tokE a++M EG::(tokE b++M Aw::v::q)) d=⟨t,l++M EG::(tokE b++M Aw::v::q),d,0⟩:=by rw[ht];rfl
 rw[hs]at e1⊢
 rw[AI1 hh]
 refine AEi (g:=λx=>x) hd ?_
 rw[AMw]
 refine e1.bind ?_ λa' t r=>⟨_,t,r,AMJ⟩
 have hb2:tokE b++M Aw::v::q=t2::(l2++M Aw::v::q):=by rw[ht2];rfl
 rw[hb2]at e2⊢
 rw[ASC hk]
 have e2:UH b d (dE b+1) (M Aw) (v::q) (expr f ⟨t2,l2++M Aw::v::q,d,0⟩):=e2
 exact(e2.bind (k:=λq=>some (St.mk 2 [] JY [a,q.1] [] [],q.2)) (D2:=0) (UH.ok hd) λa' t r=>⟨_,t,r,rfl⟩).at (by omega)
theorem AVh{a:Ex}(ha:Wr a)(hk:a.kind=8∨a.kind=9):SP (.mk 3 [] JY [a] [] []):=by
 intro f d v q hf h6 hd hv
 obtain⟨f,rfl⟩:∃g,f=g+1:=⟨f-1,by omega⟩
 rw[ZG,fF]at hf
 rw[EU,ZM,AKy,show Tn 3 [] JY [a] ([].map Eh) ([].map Eh)++v::q=tokE a++M Aw::v::q by simp[Tn,exK],show AG9 3 ([a].map dE) ([].map dS) ([].map dS)=dE a+1 from rfl]
 have e1:=pq (f:=f) (v:=M Aw) (q:=v::q) ha (by omega) (sS (.inl rfl)) hd
 obtain⟨t,l,ht,hh⟩:=hdK ha
 have hs:S.of (tokE a++M Aw::v::q) d=⟨t,l++M Aw::v::q,d,0⟩:=by rw[ht];rfl
 rw[hs]at e1⊢
 rw[AI1 hh]
 refine AEi (g:=λx=>x) hd ?_
 rw[AMw]
 refine(e1.bind (D2:=0) (b:=St.mk 3 [] JY [a] [] []) (v':=M Aw) (q':=v::q) ?_ λa' t r=>⟨_,t,r,AMJ⟩).at (by omega)
 rw[ATY hk rfl]
 exact UH.ok hd
theorem AW8{c:Ex}{th el:List St}(hc:Wr c)(ht:∀x∈th,WrS x)(he:∀x∈el,WrS x)(iht:∀x∈th,SP x)(ihe:∀x∈el,SP x):SP (.mk 4 [] JY [c] th el):=by
 intro f d v q hf h6 hd hv
 obtain⟨f,rfl⟩:∃g,f=g+2:=⟨f-2,by omega⟩
 rw[ZG,fF,qO]at hf h6
 have lt:=bM th
 have le:=bM el
 have hth:∀x∈th,WrS x/\SP x/\2*nS x+40<=f/\nS x<1000000:=λx hx=>⟨ht x hx,iht x hx,by have:=Ul hx;omega,by have:=Ul hx;omega⟩
 have hel:∀x∈el,WrS x/\SP x/\2*nS x+40<=f/\nS x<1000000:=λx hx=>⟨he x hx,ihe x hx,by have:=Ul hx;omega,by have:=Ul hx;omega⟩
 rw[EU,ZM,AKy]
 have e0:Tn 4 [] JY [c] (th.map Eh) (el.map Eh)++v::q=W Jr::(tokE c++(MB (th.map Eh)++((bif (el.map Eh).isEmpty then[]else W EL::MB (el.map Eh))++v::q))):=by simp[Tn,exK]
 rw[e0]
 obtain⟨t,l,hx,_⟩:=hdK hc
 rw[hx]
 show UH _ d (max (dE c+1) (max (maxL (th.map dS)+1) (bif (el.map dS).isEmpty then 0 else maxL (el.map dS)+1))+1) v q (Z7 (sc (f+1) false) (sc (f+1) true) (f+1) ⟨W Jr,t::(l++(MB (th.map Eh)++((bif (el.map Eh).isEmpty then[]else W EL::MB (el.map Eh))++v::q))),d,0⟩)
 rw[ATI,AaY,ANZ]
 refine UH.deep (λhlt=>?_) ?_ hd
 ·have e1:=pq (f:=f) (v:=M OC) (q:=((th.map Eh).flatten++[M m_rc])++((bif (el.map Eh).isEmpty then[]else W EL::MB (el.map Eh))++v::q)) hc (by omega) (sS (.inr (.inr rfl))) (show d+1<=100 by omega)
  rw[hx]at e1
  unfold bodyC
  show UH _ (d+1) _ v q ((CJ [Jr] ⟨W Jr,t::(l++(MB (th.map Eh)++((bif (el.map Eh).isEmpty then[]else W EL::MB (el.map Eh))++v::q))),d+1,0⟩).bind _)
  rw[AFV]
  refine e1.bind (k:=λc=>(Gv (sc f false) f c.2).bind λt=>(C9 EL t.2).bind λp=>(bif p.1 then(bif Kw [Jr] p.2 then(sc f true p.2).bind λx=>some ([x.1],x.2)else Gv (sc f false) f p.2)else some ([],p.2)).bind λx=>some (St.mk 4 [] JY [c.1] t.1 x.1,x.2)) ?_ ?_
  ·obtain⟨v1,q1,hv1⟩:∃v1 q1,(bif (el.map Eh).isEmpty then[]else W EL::MB (el.map Eh))++v::q=v1::q1:=by
    cases el with
    |nil=>exact⟨_,_,rfl⟩
    |cons a el=>exact⟨_,_,rfl⟩
   have e2:=AAC (F:=f) (f:=f) (v:=v1) (q:=q1) hth (show d+1<=100 by omega) (by omega) (by omega)
   rw[<-hv1]at e2
   refine e2.bind (k:=λt=>(C9 EL t.2).bind λp=>(bif p.1 then(bif Kw [Jr] p.2 then(sc f true p.2).bind λx=>some ([x.1],x.2)else Gv (sc f false) f p.2)else some ([],p.2)).bind λx=>some (St.mk 4 [] JY [c] t.1 x.1,x.2)) ?_ ?_
   ·cases el with
    |nil=>
     have:v1=v/\q1=q:=by
      have h:=hv1
      simp at h
      exact⟨h.1.symm,h.2.symm⟩
     obtain⟨rfl,rfl⟩:=this
     show UH _ (d+1) 0 v1 q1 ((C9 EL ⟨v1,q1,d+1,0⟩).bind _)
     rw[Xt (V4.trans hv)]
     exact UH.ok (by omega)
    |cons a el=>
     have:v1=W EL/\q1=MB ((a::el).map Eh)++v::q:=by
      have h:=hv1
      simp at h
      exact⟨h.1.symm,by simpa using h.2.symm⟩
     obtain⟨rfl,rfl⟩:=this
     have e3:=AAC (F:=f) (f:=f) (v:=v) (q:=q) hel (show d+1<=100 by omega) (by omega) (by omega)
     obtain⟨w,x,hw⟩:∃w x,MB ((a::el).map Eh)++v::q=M OC::w::x:=by
      unfold MB
      cases hz:((a::el).map Eh).flatten with
      |nil=>exact⟨_,_,rfl⟩
      |cons y z=>exact⟨_,_,rfl⟩
     rw[hw]at e3⊢
     show UH _ (d+1) (maxL ((a::el).map dS)+1) v q ((C9 EL ⟨W EL,M OC::w::x,d+1,0⟩).bind _)
     rw[AA0]
     exact(e3.bind (k:=λy=>some (St.mk 4 [] JY [c] th y.1,y.2)) (D2:=0) (UH.ok (by omega)) λa' t r=>⟨_,t,r,rfl⟩).at (by omega)
   ·intro a' t r
    show Bad (d+1) ((C9 EL ⟨t,r,d+1,3⟩).bind _)
    rw[zD Uu]
    exact⟨_,t,r,rfl⟩
  ·intro a' t r
   obtain⟨f,rfl⟩:∃g,f=g+1:=⟨f-1,by omega⟩
   show Bad (d+1) ((Gv (sc (f+1) false) (f+1) ⟨t,r,d+1,3⟩).bind _)
   rw[yI Uu (show d+1<1000000 by omega)]
   simp only[Option.bind_some]
   rw[zD Uu]
   exact⟨_,t,r,rfl⟩
 ·obtain⟨f,rfl⟩:∃g,f=g+4:=⟨f-4,by omega⟩
  exact⟨_,_,_,AOl⟩
theorem ATc{c:Ex}{th:List St}(hc:Wr c)(ht:∀x∈th,WrS x)(iht:∀x∈th,SP x):SP (.mk 5 [] JY [c] th []):=by
 intro f d v q hf h6 hd hv
 obtain⟨f,rfl⟩:∃g,f=g+1:=⟨f-1,by omega⟩
 rw[ZG,fF,qO]at hf h6
 have lt:=bM th
 have hth:∀x∈th,WrS x/\SP x/\2*nS x+40<=f/\nS x<1000000:=λx hx=>⟨ht x hx,iht x hx,by have:=Ul hx;omega,by have:=Ul hx;omega⟩
 rw[EU,ZM,AKy,show Tn 5 [] JY [c] (th.map Eh) ([].map Eh)++v::q=W Fe::(tokE c++(MB (th.map Eh)++v::q))by simp[Tn,exK]]
 obtain⟨t,l,hx,_⟩:=hdK hc
 have e1:=pq (f:=f) (v:=M OC) (q:=((th.map Eh).flatten++[M m_rc])++v::q) hc (by omega) (sS (.inr (.inr rfl))) hd
 rw[hx]at e1⊢
 show UH _ d (max (dE c+1) (maxL (th.map dS)+1)) v q (Z7 (sc f false) (sc f true) f ⟨W Fe,t::(l++(MB (th.map Eh)++v::q)),d,0⟩)
 rw[AKI]
 refine e1.bind (k:=λc=>(Gv (sc f false) f c.2).bind λt=>some (St.mk 5 [] JY [c.1] t.1 [],t.2)) ?_ ?_
 ·have e2:=AAC (F:=f) (f:=f) (v:=v) (q:=q) hth hd (by omega) (by omega)
  exact(e2.bind (k:=λt=>some (St.mk 5 [] JY [c] t.1 [],t.2)) (D2:=0) (UH.ok hd) λa' t r=>⟨_,t,r,rfl⟩).at (by omega)
 ·intro a' t r
  obtain⟨f,rfl⟩:∃g,f=g+1:=⟨f-1,by omega⟩
  show Bad d ((Gv (sc (f+1) false) (f+1) ⟨t,r,d,3⟩).bind _)
  rw[yI Uu (show d<1000000 by omega)]
  exact⟨_,t,r,rfl⟩
theorem AVO{a:Ex}(ha:Wr a):SP (.mk 6 [] JY [a] [] []):=by
 intro f d v q hf h6 hd hv
 obtain⟨f,rfl⟩:∃g,f=g+1:=⟨f-1,by omega⟩
 rw[ZG,fF]at hf
 rw[EU,ZM,AKy,show Tn 6 [] JY [a] ([].map Eh) ([].map Eh)++v::q=W Eo::(tokE a++M Aw::v::q)by simp[Tn,exK]]
 obtain⟨t,l,ht,hh⟩:=hdK ha
 have e1:=pq (f:=f) (v:=M Aw) (q:=v::q) ha (by omega) (sS (.inl rfl)) hd
 rw[ht]at e1⊢
 show UH _ d (dE a+1) v q (Z7 _ _ f ⟨W Eo,t::(l++M Aw::v::q),d,0⟩)
 rw[AQ6]
 exact AEi (g:=λx=>.mk 6 [] JY [x] [] []) hd e1
theorem AXL{a:Ex}(ha:Wr a):SP (.mk 7 [] JY [a] [] []):=by
 intro f d v q hf h6 hd hv
 obtain⟨f,rfl⟩:∃g,f=g+1:=⟨f-1,by omega⟩
 rw[ZG,fF]at hf
 rw[EU,ZM,AKy,show Tn 7 [] JY [a] ([].map Eh) ([].map Eh)++v::q=W Fp::(tokE a++M Aw::v::q)by simp[Tn,exK]]
 obtain⟨t,l,ht,hh⟩:=hdK ha
 have e1:=pq (f:=f) (v:=M Aw) (q:=v::q) ha (by omega) (sS (.inl rfl)) hd
 rw[ht]at e1⊢
 show UH _ d (dE a+1) v q (Z7 _ _ f ⟨W Fp,t::(l++M Aw::v::q),d,0⟩)
 rw[AKj]
 exact AEi (g:=λx=>.mk 7 [] JY [x] [] []) hd e1
theorem AZW{s:St}(h:WrS s):SP s:=by
 induction h with
 |lt hl ht he=>exact AZE hl ht he
 |put ha hk hb=>exact AWd ha hk hb
 |ask ha hk=>exact AVh ha hk
 |ite hc ht he iht ihe=>exact AW8 hc ht he iht ihe
 |loop hc ht iht=>exact ATc hc ht iht
 |ret ha=>exact AVO ha
 |prt ha=>exact AXL ha
def dM(m:Me):Nat:=maxL (m.body.map dS)+1
def dC(c:Cl):Nat:=maxL (c.ms.map dM)
def nM(m:Me):Nat:=1+m.ps.length+nSs m.body
def nMs:List Me->Nat
 |[]=>0
 |m::l=>nM m+nMs l
def nC(c:Cl):Nat:=c.fs.length+nMs c.ms
theorem AGL:∀l:List Me,l.length<=nMs l
 |[]=>by simp[nMs]
 |a::l=>by have:=AGL l;unfold nMs nM;simp;omega
theorem ADP:∀{l:List Me} {m:Me},m∈l->nM m<=nMs l
 |a::l,s,h=>by
  unfold nMs
  rcases List.mem_cons.1 h with rfl|h
  ·omega
  ·have:=ADP h;omega
theorem AQI{g d:Nat}{out:List Va}{t:Tok}{r:List Tok}(h:oT t BH=false):JW (g+1) out ⟨t,r,d,0⟩=(bif decide (0<out.length)then CJ [Ce] ⟨t,r,d,0⟩else some ⟨t,r,d,0⟩).bind λs1=>(fQ s1).bind λt=>(Jp 3 t.2).bind λn=>JW g (out++[⟨n.1,t.1⟩]) (GZ (out.length+1) n.2):=by
 show((C9 BH ⟨t,r,d,0⟩).bind λp=>bif p.1 then some (out,p.2)else(bif decide (0<out.length)then CJ [Ce] p.2 else some p.2).bind λs1=>(fQ s1).bind λt=>(Jp 3 t.2).bind λn=>JW g (out++[⟨n.1,t.1⟩]) (GZ (out.length+1) n.2))=_
 rw[Xt (V4.trans h)];rfl
def ACc(b:Bool)(ps:List Va):List Tok:=match ps with|[]=>[]|a::l=>(bif b then[M Ce]else[])++(aX a++(l.map aX).flatMap λb=>M Ce::b)
theorem ALc(ks:List Va):ACc false ks=J8 (ks.map aX):=by cases ks<;>rfl
theorem AMf(a:Va)(l:List Va)(b:Bool):ACc b (a::l)=(bif b then[M Ce]else[])++(aX a++ACc true l):=by
 cases l with
 |nil=>simp[ACc]
 |cons c l=>simp[ACc]
theorem ASA{l:Bs}{w:Bs}(h:aQ l=true)(h1:w≠vM)(h2:w≠fJ):oT (U0 l) w=false:=by
 unfold U0
 cases hu:WO l with
 |true=>simp[oT,U]
 |false=>
  simp only[aQ,hu,Bool.or_false,Bool.or_eq_true,decide_eq_true_eq]at h
  rcases h with rfl|rfl
  ·exact decide_eq_false λe=>h1 e.symm
  ·exact decide_eq_false λe=>h2 e.symm
theorem AIa:∀(ps out:List Va) (g d:Nat) (v:Tok) (q:List Tok),(∀p∈ps,WrV p)->out.length+ps.length<=200->ps.length+1<=g->JW g out (S.of (ACc (decide (0<out.length)) ps++M BH::v::q) d)=some (out++ps,⟨v,q,d,0⟩)
 |[],out,g,d,v,q,_,_,hg=>by
  obtain⟨g,rfl⟩:∃f,g=f+1:=⟨g-1,by omega⟩
  rw[List.append_nil];rfl
 |a::ps,out,g,d,v,q,hp,hn,hg=>by
  obtain⟨g,rfl⟩:∃f,g=f+1:=⟨g-1,by omega⟩
  have hn:out.length+(ps.length+1)<=200:=by simpa using hn
  have hg:ps.length+1<=g:=by
   have:ps.length+1+1<=g+1:=by simpa using hg
   omega
  have ih:=AIa ps (out++[a]) g d v q (λp hx=>hp p (List.mem_cons_of_mem _ hx)) (by simp;omega) hg
  have wa:=hp a List.mem_cons_self
  have hl:(out++[a]).length=out.length+1:=by simp
  rw[hl,decide_eq_true (show 0<out.length+1 by omega),List.append_assoc,List.singleton_append]at ih
  obtain⟨v',q',hv'⟩:∃v' q',ACc true ps++M BH::v::q=v'::q':=by
   cases ps with
   |nil=>exact⟨_,_,rfl⟩
   |cons b ps=>rw[AMf];exact⟨_,_,rfl⟩
  rw[hv']at ih
  have hty:tyK a.ty++L a.nm::v'::q'=U0 a.ty.nm::((bif a.ty.arr then[M GL,M F8]else[])++L a.nm::v'::q'):=rfl
  have e0:((bif decide (0<out.length)then[M Ce]else[])++(aX a++ACc true ps))++M BH::v::q=(bif decide (0<out.length)then[M Ce]else[])++(tyK a.ty++L a.nm::v'::q'):=by
   rw[List.append_assoc,List.append_assoc,hv'];simp[aX]
  rw[AMf,e0]
  have hgo:JW (g+1) out (S.of ((bif decide (0<out.length)then[M Ce]else[])++(tyK a.ty++L a.nm::v'::q')) d)=(fQ (S.of (tyK a.ty++L a.nm::v'::q') d)).bind λt=>(Jp 3 t.2).bind λn=>JW g (out++[⟨n.1,t.1⟩]) (GZ (out.length+1) n.2):=by
   cases hz:decide (0<out.length)with
   |false=>
    rw[hty]
    show JW (g+1) out ⟨U0 a.ty.nm,_,d,0⟩=_
    rw[AQI (ASA wa.ty (by decide) (by decide)),hz];rfl
   |true=>
    rw[hty]
    show JW (g+1) out ⟨M Ce,U0 a.ty.nm::_,d,0⟩=_
    rw[AQI rfl,hz]
    show((CJ [Ce] ⟨M Ce,U0 a.ty.nm::_,d,0⟩).bind λs1=>(fQ s1).bind λt=>(Jp 3 t.2).bind λn=>JW g (out++[⟨n.1,t.1⟩]) (GZ (out.length+1) n.2))=_
    rw[TB];rfl
  rw[hgo,AHm wa.ty rfl]
  show JW g (out++[a]) (GZ (out.length+1) ⟨v',q',d,0⟩)=_
  rw[AC9 (by omega)];exact ih
theorem AQq{f:Nat}{m:Me}{v:Tok}{q:List Tok}(hm:WrM m)(hf:2*nM m+60<=f)(h6:nM m<1000000):UH m 0 (dM m) v q (ZV f (S.of (Qm m++v::q) 0)):=by
 have hlen:=bM m.body
 unfold nM at hf h6
 have e1:∀s,ZV f s=(C9 F9 s).bind λp=>(CJ [E5] p.2).bind λs1=>(fQ s1).bind λt=>(Jp 3 t.2).bind λn=>(CJ [BG] n.2).bind λs2=>(JW f [] s2).bind λps=>(Gv (sc f false) f ps.2).bind λb=>some (⟨n.1,p.1,ps.1,t.1,b.1⟩,b.2):=λ_=>rfl
 have e2:∀st:Bool,((CJ [E5] (S.of (W E5::(tyK m.ret++L m.nm::M BG::(J8 (m.ps.map aX)++M BH::(MB (m.body.map Eh)++v::q)))) 0)).bind λs1=>(fQ s1).bind λt=>(Jp 3 t.2).bind λn=>(CJ [BG] n.2).bind λs2=>(JW f [] s2).bind λps=>(Gv (sc f false) f ps.2).bind λb=>some ((⟨n.1,st,ps.1,t.1,b.1⟩:Me),b.2))
  =(Gv (sc f false) f (S.of (MB (m.body.map Eh)++v::q) 0)).bind λb=>some (⟨m.nm,st,m.ps,m.ret,b.1⟩,b.2):=by
  intro st
  have w:CJ [E5] (S.of (W E5::(tyK m.ret++L m.nm::M BG::(J8 (m.ps.map aX)++M BH::(MB (m.body.map Eh)++v::q)))) 0)=some (S.of (tyK m.ret++L m.nm::M BG::(J8 (m.ps.map aX)++M BH::(MB (m.body.map Eh)++v::q))) 0):=AFV (u:=U0 m.ret.nm)
  rw[w]
  simp only[Option.bind_some]
  rw[AHm hm.ret rfl]
  have pa:=AIa m.ps [] f 0 (M OC) ((m.body.map Eh).flatten++[M m_rc]++v::q) hm.ps (by simpa using hm.pn) (by omega)
  rw[show decide (0<([]:List Va).length)=false from rfl,ALc]at pa
  obtain⟨u,r,hu⟩:∃u r,J8 (m.ps.map aX)++M BH::(MB (m.body.map Eh)++v::q)=u::r:=by
   cases h:J8 (m.ps.map aX)with
   |nil=>exact⟨_,_,rfl⟩
   |cons a l=>exact⟨_,_,rfl⟩
  have pa:JW f [] (S.of (J8 (m.ps.map aX)++M BH::(MB (m.body.map Eh)++v::q)) 0)=some ([]++m.ps,S.of (MB (m.body.map Eh)++v::q) 0):=pa
  rw[hu]at pa⊢
  show((JW f [] ⟨u,r,0,0⟩).bind λps=>(Gv (sc f false) f ps.2).bind λb=>some ((⟨m.nm,st,ps.1,m.ret,b.1⟩:Me),b.2))=_
  rw[show JW f [] ⟨u,r,0,0⟩=_ from pa];rfl
 have e3:ZV f (S.of (Qm m++v::q) 0)=(Gv (sc f false) f (S.of (MB (m.body.map Eh)++v::q) 0)).bind λb=>some (⟨m.nm,m.st,m.ps,m.ret,b.1⟩,b.2):=by
  rw[e1]
  unfold Qm
  simp only[List.append_assoc,List.cons_append]
  cases hs:m.st with
  |false=>
   have:C9 F9 (S.of (([]:List Tok)++W E5::(tyK m.ret++L m.nm::M BG::(J8 (m.ps.map aX)++M BH::(MB (m.body.map Eh)++v::q)))) 0)=some (false,S.of (W E5::(tyK m.ret++L m.nm::M BG::(J8 (m.ps.map aX)++M BH::(MB (m.body.map Eh)++v::q)))) 0):=Xt rfl
   rw[cond_false,this];exact e2 false
  |true=>
   have:C9 F9 (S.of ([W F9]++W E5::(tyK m.ret++L m.nm::M BG::(J8 (m.ps.map aX)++M BH::(MB (m.body.map Eh)++v::q)))) 0)=some (true,S.of (W E5::(tyK m.ret++L m.nm::M BG::(J8 (m.ps.map aX)++M BH::(MB (m.body.map Eh)++v::q)))) 0):=AA0
   rw[cond_true,this];exact e2 true
 rw[e3]
 have hx:∀x∈m.body,WrS x/\SP x/\2*nS x+40<=f/\nS x<1000000:=λx hx=>⟨hm.body x hx,AZW (hm.body x hx),by have:=Ul hx;omega,by have:=Ul hx;omega⟩
 have hb:=AAC (F:=f) (f:=f) (v:=v) (q:=q) (d:=0) hx (by omega) (by omega) (by omega)
 exact(hb.bind (k:=λb=>some ((⟨m.nm,m.st,m.ps,m.ret,b.1⟩:Me),b.2)) (b:=m) (D2:=0) (UH.ok (by omega)) λa t r=>⟨_,t,r,rfl⟩).at (by show maxL _+1=_;omega)
theorem AIQ{f:Nat}{ms:List Me}:∀(fl fs:List Va) (g:Nat) (t:Tok) (r:List Tok),(∀p∈fl,WrV p)->fs.length+fl.length<=200->Hl f (g+fl.length) fs ms (S.of ((fl.map Xf).flatten++t::r) 0)=Hl f g (fs++fl) ms ⟨t,r,0,0⟩
 |[],fs,g,t,r,_,_=>by rw[List.append_nil];rfl
 |a::fl,fs,g,t,r,hp,hn=>by
  have hn:fs.length+(fl.length+1)<=200:=by simpa using hn
  have wa:=hp a List.mem_cons_self
  have ih:=AIQ (f:=f) (ms:=ms) fl (fs++[a]) g t r (λp hx=>hp p (List.mem_cons_of_mem _ hx)) (by simp;omega)
  rw[List.append_assoc,List.singleton_append]at ih
  obtain⟨v,q,hv⟩:∃v q,(fl.map Xf).flatten++t::r=v::q:=by
   cases fl with
   |nil=>exact⟨_,_,rfl⟩
   |cons b fl=>exact⟨_,_,rfl⟩
  have e0:((a::fl).map Xf).flatten++t::r=W PY::(tyK a.ty++L a.nm::M Aw::v::q):=by
   simp only[List.map_cons,List.flatten_cons,List.append_assoc,hv];simp[Xf]
  rw[hv]at ih
  rw[e0]
  have e1:Hl f (g+(a::fl).length) fs ms (S.of (W PY::(tyK a.ty++L a.nm::M Aw::v::q)) 0)=(fQ (S.of (tyK a.ty++L a.nm::M Aw::v::q) 0)).bind λt=>(Jp 3 t.2).bind λn=>(CJ [Aw] (GZ (fs.length+1) n.2)).bind λs1=>Hl f (g+fl.length) (fs++[⟨n.1,t.1⟩]) ms s1:=rfl
  rw[e1,AHm wa.ty rfl]
  show((CJ [Aw] (GZ (fs.length+1) ⟨M Aw,v::q,0,0⟩)).bind λs1=>Hl f (g+fl.length) (fs++[a]) ms s1)=_
  rw[AC9 (by omega),TB];exact ih
theorem AFr{f:Nat}{fs:List Va}:∀(ml ms:List Me) (g:Nat) (v:Tok) (q:List Tok),(∀m∈ml,WrM m/\2*nM m+60<=f/\nM m<1000000)->ms.length+ml.length<=200->ml.length+2<=g->UH (fs,ms++ml) 0 (maxL (ml.map dM)) v q (Hl f g fs ms (S.of ((ml.map Qm).flatten++M m_rc::v::q) 0))
 |[],ms,g,v,q,_,_,hg=>by
  obtain⟨g,rfl⟩:∃x,g=x+1:=⟨g-1,by omega⟩
  rw[List.append_nil];exact UH.ok (by omega)
 |a::ml,ms,g,v,q,hp,hn,hg=>by
  obtain⟨g,rfl⟩:∃x,g=x+1:=⟨g-1,by omega⟩
  have hn:ms.length+(ml.length+1)<=200:=by simpa using hn
  have hg:ml.length+2<=g:=by
   have:ml.length+1+2<=g+1:=by simpa using hg
   omega
  obtain⟨wa,hf,h6⟩:=hp a List.mem_cons_self
  have ih:=AFr (f:=f) (fs:=fs) ml (ms++[a]) g v q (λp hx=>hp p (List.mem_cons_of_mem _ hx)) (by simp;omega) hg
  rw[List.append_assoc,List.singleton_append]at ih
  obtain⟨v',q',hv⟩:∃v' q',(ml.map Qm).flatten++M m_rc::v::q=v'::q':=by
   cases ml with
   |nil=>exact⟨_,_,rfl⟩
   |cons b ml=>simp only[List.map_cons,List.flatten_cons];unfold Qm;cases b.st<;>exact⟨_,_,rfl⟩
  have e0:((a::ml).map Qm).flatten++M m_rc::v::q=Qm a++v'::q':=by
   simp only[List.map_cons,List.flatten_cons,List.append_assoc,hv]
  rw[hv]at ih
  rw[e0]
  have e1:Hl f (g+1) fs ms (S.of (Qm a++v'::q') 0)=(ZV f (S.of (Qm a++v'::q') 0)).bind λm=>Hl f g fs (ms++[m.1]) (GZ (ms.length+1) m.2):=by
   unfold Qm
   cases a.st<;>rfl
  rw[e1]
  refine(AQq wa hf h6).bind (k:=λm=>Hl f g fs (ms++[m.1]) (GZ (ms.length+1) m.2)) ?_ λa' t r=>?_
  ·show UH _ 0 _ v q (Hl f g fs (ms++[a]) (GZ (ms.length+1) ⟨v',q',0,0⟩))
   rw[AC9 (by omega)];exact ih
  ·obtain⟨g,rfl⟩:∃x,g=x+1:=⟨g-1,by omega⟩
   refine⟨(fs,ms++[a']),t,r,?_⟩
   show Hl f (g+1) fs (ms++[a']) (GZ (ms.length+1) ⟨t,r,0,3⟩)=_
   rw[AJG Uu];exact ANf Uu
theorem ATH{f:Nat}{c:Cl}(hc:WrC c)(hf:2*nC c+100<=f)(h6:nC c<1000000):∃c' e,AHE f (Rh c++[Qi])=some (c',e)/\(e=0->c'=c)/\(e=0/\dC c<=100∨e=3/\100<dC c):=by
 have hfl:c.fs.length<=200:=hc.fn
 have hml:=AGL c.ms
 unfold nC at hf h6
 obtain⟨g,rfl⟩:∃g,f=g+c.fs.length:=⟨f-c.fs.length,by omega⟩
 have hmeth:=AFr (f:=g+c.fs.length) (fs:=c.fs) c.ms [] g Qi [] (λm hm=>⟨hc.ms m hm,by have:=ADP hm;omega,by have:=ADP hm;omega⟩) (by simpa using hc.mn) (by omega)
 obtain⟨t,r,ht⟩:∃t r,(c.ms.map Qm).flatten++[M m_rc,Qi]=t::r:=by
  cases h:(c.ms.map Qm).flatten with
  |nil=>exact⟨_,_,rfl⟩
  |cons a l=>exact⟨_,_,rfl⟩
 have hfi:=AIQ (f:=g+c.fs.length) (ms:=[]) c.fs [] g t r hc.fs (by simpa using hc.fn)
 rw[<-ht,List.nil_append]at hfi
 rw[ht]at hmeth
 have hx:Hl (g+c.fs.length) (g+c.fs.length) [] [] (S.of ((c.fs.map Xf).flatten++((c.ms.map Qm).flatten++[M m_rc,Qi])) 0)=Hl (g+c.fs.length) g c.fs [] (S.of (t::r) 0):=hfi
 obtain⟨u,y,hu⟩:∃u y,(c.fs.map Xf).flatten++((c.ms.map Qm).flatten++[M m_rc,Qi])=u::y:=by
  rw[ht]
  cases h:(c.fs.map Xf).flatten with
  |nil=>exact⟨_,_,rfl⟩
  |cons a l=>exact⟨_,_,rfl⟩
 have AWq:AHE (g+c.fs.length) (Rh c++[Qi])=((Hl (g+c.fs.length) (g+c.fs.length) [] [] (S.of (u::y) 0)).bind λx=>some (Cl.mk c.nm c.sup x.1.1 x.1.2,AP0 x.2)).bind λp=>some (p.1,p.2.e):=by
  have e0:Rh c++[Qi]=W OE::U c.nm::((bif c.sup.isEmpty then[]else[W Fv,U c.sup])++M OC::u::y):=by
   rw[<-hu];unfold Rh;simp
  rw[e0]
  cases hs:c.sup with
  |nil=>rfl
  |cons a l=>rfl
 rw[AWq,<-hu,hx]
 have hD:dC c=maxL (c.ms.map dM):=rfl
 by_cases hd:dC c<=100
 ·rw[hmeth.1 (by omega)]
  exact⟨_,_,rfl,λ_=>rfl,.inl ⟨rfl,hd⟩⟩
 ·obtain⟨x,t',r',e⟩:=hmeth.2 (by omega)
  rw[e]
  exact⟨_,_,rfl,λh=>absurd (show(AP0 ⟨t',r',0,3⟩).e=0 from h) (by rw[AMV Uu];exact Uu),.inr ⟨by show(AP0 ⟨t',r',0,3⟩).e=3;rw[AMV Uu],by omega⟩⟩
theorem AQ2:∀f x,yw f x<=f+1
 |0,x=>by unfold yw;omega
 |f+1,x=>by
  unfold yw
  have:=AQ2 f (x/10)
  split<;>omega
theorem ATN(x:Nat):(Yo x).length<=21:=by unfold Yo;rw[Vl];exact AQ2 20 x
theorem AC5{b:Nat}:∀{l:List Nat},(∀x∈l,x<=b)->maxL l<=b
 |[],_=>Nat.zero_le _
 |a::l,h=>by
  show max a (maxL l)<=b
  have h1:=h a (List.mem_cons_self ..)
  have h2:=AC5 (l:=l) λx hx=>h x (List.mem_cons_of_mem _ hx)
  omega
def GP(d:Nat):Nat:=3*5^(d+1)
theorem aU(d:Nat):GP (d+1)=5*GP d:=by unfold GP;rw[Nat.pow_succ];omega
theorem Ua:∀d,15<=GP d
 |0=>by decide
 |d+1=>by have:=Ua d;rw[aU];omega
structure GB(d:Nat)(e:Ex):Prop where
 wr:Wr e
 dp:dE e<=2*d
 ln:(textE e).length<=GP d
theorem ATl{a b:Nat}(h:a<=b):GP a<=GP b:=by
 induction b with
 |zero=>rw[Nat.le_zero.1 h];exact Nat.le_refl _
 |succ b ih=>
  rcases Nat.lt_or_ge a (b+1)with h1|h1
  ·have:=ih (by omega);rw[aU];omega
  ·rw[show a=b+1 by omega];exact Nat.le_refl _
theorem GB.mono{a b:Nat}{e:Ex}(h:GB a e)(hab:a<=b):GB b e:=⟨h.wr,by have:=h.dp;omega,Nat.le_trans h.ln (ATl hab)⟩
theorem AJt{P:Nat}:∀{ls:List Bs},(∀b∈ls,b.length<=P)->(Hf ls).length<=ls.length*(P+2)
 |[],_=>Nat.zero_le _
 |a::l,h=>by
  have h1:=h a (List.mem_cons_self ..)
  have h2:∀l:List Bs,(∀b∈l,b.length<=P)->(l.flatMap λb=>Ce++([32]++b)).length<=l.length*(P+2):=by
   intro l
   induction l with
   |nil=>intro _;exact Nat.zero_le _
   |cons c l ih=>
    intro h
    have h3:=ih λx hx=>h x (List.mem_cons_of_mem _ hx)
    have h4:=h c (List.mem_cons_self ..)
    have h5:Ce.length=1:=rfl
    simp only[List.flatMap_cons,List.length_append,List.length_cons,List.length_nil]
    rw[Nat.add_mul];omega
  have h3:=h2 l λx hx=>h x (List.mem_cons_of_mem _ hx)
  unfold Hf
  rw[List.length_append,List.length_cons,Nat.add_mul];omega
theorem AQ8{d:Nat}{ks:List Ex}(hk:∀x∈ks,GB d x)(hn:ks.length<=3):(Hf (ks.map textE)).length<=3*GP d+6:=by
 have h:=AJt (P:=GP d) (ls:=ks.map textE) (λb hb=>by obtain⟨x,hx,rfl⟩:=List.mem_map.1 hb;exact(hk x hx).ln)
 rw[List.length_map]at h
 have:ks.length*(GP d+2)<=3*(GP d+2):=Nat.mul_le_mul_right _ hn
 omega
theorem AUp{d:Nat}{ks:List Ex}(hk:∀x∈ks,GB d x):AAY (ks.map dE)<=2*d+1:=by
 unfold AAY
 refine AC5 λx hx=>?_
 rw[List.map_map]at hx
 obtain⟨e,he,rfl⟩:=List.mem_map.1 hx
 show dE e+1<=_
 have:=(hk e he).dp;omega
theorem Hy:BG.length=1/\BH.length=1/\GL.length=1/\F8.length=1/\DI.length=1/\Dv.length=1/\Iq.length=1/\NP.length=2/\YQ.length=2/\Ih.length=3/\SX.length=2/\QU.length=2/\Hr.length=6/\([32]:Bs).length=1:=⟨rfl,rfl,rfl,rfl,rfl,rfl,rfl,rfl,rfl,rfl,rfl,rfl,rfl,rfl⟩
section
variable{d:Nat}{l u o:Bs}{a b:Ex}{ks:List Ex}
theorem AQt:GB 0 (.mk 1 7 [] [] false []):=⟨.num (by omega),by rw[Hg];decide,by rw[Ad];decide⟩
theorem AP2:GB 0 (.mk 1 3 [] [] false []):=⟨.num (by omega),by rw[Hg];decide,by rw[Ad];decide⟩
theorem AVg{n:Nat}(h:n<=16777215):GB (d+1) (.mk 1 n [] [] false []):=⟨.num (by omega),by rw[Hg];exact Nat.zero_le _,by
 rw[Ad,aU]
 have:=Ua d
 have h1:=ATN n
 show(Yo n).length<=_
 omega⟩
theorem AWI:GB (d+1) (.mk 2 0 [] [] false []):=⟨.tru,by
 rw[Hg]
 exact Nat.zero_le _,by
 rw[Ad,aU]
 have h0:=Ua d
 have hm:=Hy
 show Vm.length<=_;rw[show Vm.length=4 from rfl];omega⟩
theorem AWY:GB (d+1) (.mk 3 0 [] [] false []):=⟨.fls,by
 rw[Hg]
 exact Nat.zero_le _,by
 rw[Ad,aU]
 have h0:=Ua d
 have hm:=Hy
 show RG.length<=_;rw[show RG.length=5 from rfl];omega⟩
theorem AWn:GB (d+1) (.mk 4 0 [] [] false []):=⟨.nul,by
 rw[Hg]
 exact Nat.zero_le _,by
 rw[Ad,aU]
 have h0:=Ua d
 have hm:=Hy
 show Qh.length<=_;rw[show Qh.length=4 from rfl];omega⟩
theorem AX0:GB (d+1) (.mk 5 0 [] [] false []):=⟨.ths,by
 rw[Hg]
 exact Nat.zero_le _,by
 rw[Ad,aU]
 have h0:=Ua d
 have hm:=Hy
 show WH.length<=_;rw[show WH.length=4 from rfl];omega⟩
theorem AQm(h:kK l=true)(hl:l.length=2):GB (d+1) (.mk 6 0 l [] false []):=⟨.loc h,by
 rw[Hg]
 exact Nat.zero_le _,by
 rw[Ad,aU]
 have h0:=Ua d
 have hm:=Hy
 show l.length<=_;omega⟩
theorem AVY(h:kK l=true)(hl:l.length=2)(ha:GB d a):GB (d+1) (.mk 7 0 l [] false [a]):=⟨.get h ha.wr,by
 rw[Hg]
 have:=ha.dp
 show dE a<=_;omega,by
 rw[Ad,aU]
 have h0:=Ua d
 have hm:=Hy
 have h1:=ha.ln
 show(textE a++(DI++l)).length<=_
 simp only[List.length_append]
 omega⟩
theorem ATb(h:kK l=true)(hl:l.length=2)(ha:GB d a)(hk:∀x∈ks,GB d x)(hn:ks.length<=3):GB (d+1) (.mk 8 0 l [] false (a::ks)):=⟨.call h ha.wr (λx hx=>(hk x hx).wr) (by omega),by
 rw[Hg]
 have:=ha.dp
 have h2:=AUp hk
 show max (dE a) (AAY (ks.map dE))<=_;omega,by
 rw[Ad,aU]
 have h0:=Ua d
 have hm:=Hy
 have h1:=ha.ln
 have h2:=AQ8 hk hn
 show(textE a++(DI++(l++(BG++(Hf (ks.map textE)++BH))))).length<=_
 simp only[List.length_append]
 omega⟩
theorem AMB(h:kK l=true)(hl:l.length=2)(hu:WO u=true)(hul:u.length=2)(hk:∀x∈ks,GB d x)(hn:ks.length<=3):GB (d+1) (.mk 9 0 l u false ks):=⟨.stat h hu (λx hx=>(hk x hx).wr) (by omega),by
 rw[Hg]
 have h2:=AUp hk
 show AAY (ks.map dE)<=_;omega,by
 rw[Ad,aU]
 have h0:=Ua d
 have hm:=Hy
 have h2:=AQ8 hk hn
 show(u++(DI++(l++(BG++(Hf (ks.map textE)++BH))))).length<=_
 simp only[List.length_append]
 omega⟩
theorem AVH(hu:WO u=true)(hul:u.length=2):GB (d+1) (.mk 10 0 [] u false []):=⟨.new hu,by
 rw[Hg]
 show 1<=_;omega,by
 rw[Ad,aU]
 have h0:=Ua d
 have hm:=Hy
 show(BG++(Ih++([32]++(u++BH)))).length<=_
 simp only[List.length_append]
 omega⟩
theorem AXp(hu:aQ u=true)(hul:u.length<=4)(ha:GB d a):GB (d+1) (.mk 11 0 [] u false [a]):=⟨.arr hu ha.wr,by
 rw[Hg]
 have:=ha.dp
 show dE a+1<=_;omega,by
 rw[Ad,aU]
 have h0:=Ua d
 have hm:=Hy
 have h1:=ha.ln
 show(Ih++([32]++(u++(GL++(textE a++F8))))).length<=_
 simp only[List.length_append]
 omega⟩
theorem AVX(ha:GB d a)(hb:GB d b):GB (d+1) (.mk 12 0 [] [] false [a,b]):=⟨.elm ha.wr hb.wr,by
 rw[Hg]
 have:=ha.dp
 have:=hb.dp
 show max (dE a) (dE b+1)<=_;omega,by
 rw[Ad,aU]
 have h0:=Ua d
 have hm:=Hy
 have h1:=ha.ln
 have h2:=hb.ln
 show(textE a++(GL++(textE b++F8))).length<=_
 simp only[List.length_append]
 omega⟩
theorem AXd(ha:GB d a):GB (d+1) (.mk 13 0 [] [] false [a]):=⟨.len ha.wr,by
 rw[Hg]
 have:=ha.dp
 show dE a<=_;omega,by
 rw[Ad,aU]
 have h0:=Ua d
 have hm:=Hy
 have h1:=ha.ln
 show(textE a++(DI++Hr)).length<=_
 simp only[List.length_append]
 omega⟩
theorem AVE(ha:GB d a):GB (d+1) (.mk 14 0 [] [] false [a]):=⟨.neg ha.wr,by
 rw[Hg]
 have:=ha.dp
 show dE a+2<=_;omega,by
 rw[Ad,aU]
 have h0:=Ua d
 have hm:=Hy
 have h1:=ha.ln
 show(BG++(Dv++(textE a++BH))).length<=_
 simp only[List.length_append]
 omega⟩
theorem AWH(ha:GB d a):GB (d+1) (.mk 15 0 [] [] false [a]):=⟨.not ha.wr,by
 rw[Hg]
 have:=ha.dp
 show dE a+2<=_;omega,by
 rw[Ad,aU]
 have h0:=Ua d
 have hm:=Hy
 have h1:=ha.ln
 show(BG++(Iq++(textE a++BH))).length<=_
 simp only[List.length_append]
 omega⟩
theorem AXS(ho:o∈AFB)(hol:o.length<=2)(ha:GB d a)(hb:GB d b):GB (d+1) (.mk 16 0 o [] false [a,b]):=⟨.bin ho ha.wr hb.wr,by
 rw[Hg]
 have:=ha.dp
 have:=hb.dp
 show max (dE a) (dE b)+1<=_;omega,by
 rw[Ad,aU]
 have h0:=Ua d
 have hm:=Hy
 have h1:=ha.ln
 have h2:=hb.ln
 show(BG++(textE a++([32]++(o++([32]++(textE b++BH)))))).length<=_
 simp only[List.length_append]
 omega⟩
theorem AVc(ha:GB d a)(hb:GB d b):GB (d+1) (.mk 17 0 [] [] false [a,b]):=⟨.and ha.wr hb.wr,by
 rw[Hg]
 have:=ha.dp
 have:=hb.dp
 show max (dE a) (dE b)+1<=_;omega,by
 rw[Ad,aU]
 have h0:=Ua d
 have hm:=Hy
 have h1:=ha.ln
 have h2:=hb.ln
 show(BG++(textE a++([32]++(NP++([32]++(textE b++BH)))))).length<=_
 simp only[List.length_append]
 omega⟩
theorem AYs(ha:GB d a)(hb:GB d b):GB (d+1) (.mk 18 0 [] [] false [a,b]):=⟨.or ha.wr hb.wr,by
 rw[Hg]
 have:=ha.dp
 have:=hb.dp
 show max (dE a) (dE b)+1<=_;omega,by
 rw[Ad,aU]
 have h0:=Ua d
 have hm:=Hy
 have h1:=ha.ln
 have h2:=hb.ln
 show(BG++(textE a++([32]++(YQ++([32]++(textE b++BH)))))).length<=_
 simp only[List.length_append]
 omega⟩
theorem AWk(hu:WO u=true)(hul:u.length=2)(ha:GB d a):GB (d+1) (.mk 19 0 [] u false [a]):=⟨.asx hu ha.wr,by
 rw[Hg]
 have:=ha.dp
 show dE a+1<=_;omega,by
 rw[Ad,aU]
 have h0:=Ua d
 have hm:=Hy
 have h1:=ha.ln
 show(BG++(textE a++([32]++(SX++([32]++(u++BH)))))).length<=_
 simp only[List.length_append]
 omega⟩
theorem AVK(hu:WO u=true)(hul:u.length=2)(ha:GB d a):GB (d+1) (.mk 20 0 [] u false [a]):=⟨.isx hu ha.wr,by
 rw[Hg]
 have:=ha.dp
 show dE a+1<=_;omega,by
 rw[Ad,aU]
 have h0:=Ua d
 have hm:=Hy
 have h1:=ha.ln
 show(BG++(textE a++([32]++(QU++([32]++(u++BH)))))).length<=_
 simp only[List.length_append]
 omega⟩
end
def bigS:Nat:=4611686018427387904
def xeC(kd l c nu:Int)(nm ty:Bs)(ar:Bool)(v:V)(t2:Bs)(a2:Bool)(n3:Bs):LV:=[.int .i64 kd 0,.int .i64 l 0,.int .i64 c 0,.int .i64 nu 0,sB nm,sB ty,.bool ar,v,sB t2,.bool a2,sB n3]
inductive XE(G:AV):LV->Prop where
 |mk {kd l c nu:Int} {nm ty:Bs} {ar:Bool} {v:V} {t2:Bs} {a2:Bool} {n3:Bs} {LS:D5} (hn:nm.length<=bigS) (ht:ty.length<=bigS) (hel:∀H,El G H v 11 LS) (hl:LS.length<9223372036854775808) (hk:∀L∈LS,XE G L):XE G (xeC kd l c nu nm ty ar v t2 a2 n3)
theorem XE.len{G:AV}{L:LV}(h:XE G L):L.length=11:=by cases h;rfl
theorem eqI{kd:Int}{i:Nat}{P:V->Prop}(h1:kd=.ofNat i->P (.bool true))(h2:kd≠.ofNat i->P (.bool false)):AP (EZ (.one .int) false (.int .i64 kd 0) (.int .i64 (.ofNat i) 0)) P:=by
 rw[AU6,Au]
 by_cases h:kd=.ofNat i
 ·rw[decide_eq_true h];exact h1 h
 ·rw[decide_eq_false h];exact h2 h
structure Rt(H0:Heap)(n0 d:Nat)(L:LV)(H:Heap)(n:Nat)(out:LV):Prop where
 f:Kp H0 n0 H n
 lt:n0+4<=n
 ge:T.get H n0=some (one L)
 gd:T.get H (n0+1)=some (one [.int .i64 (.ofNat d) 0])
 gr:T.get H (n0+2)=some (one exZ)
 go:T.get H (n0+3)=some (one out)
theorem Rt.fr{H0 H H':Heap}{n0 d n n':Nat}{L out:LV}(x:Rt H0 n0 d L H n out)(hn:n<=n')(hs:∀id,id<n0+4->T.get H' id=T.get H id):Rt H0 n0 d L H' n' out:=by
 have h1:=x.f.le
 have h2:=x.lt
 exact⟨⟨by omega,λid hid=>(hs id (by omega)).trans (x.f.same id hid)⟩,by omega,(hs _ (by omega)).trans x.ge,(hs _ (by omega)).trans x.gd,(hs _ (by omega)).trans x.gr,(hs _ (by omega)).trans x.go⟩
theorem Rt.kp{H0 H H':Heap}{n0 d n n':Nat}{L out:LV}(x:Rt H0 n0 d L H n out)(f:Kp H n H' n'):Rt H0 n0 d L H' n' out:=x.fr f.le λid hid=>f.same id (by have:=x.lt;omega)
theorem Ru{H0 H:Heap}{n0 d n o m:Nat}{L out:LV}{v:V}{P:KV}(x:Rt H0 n0 d L H n out)(hv:kD v=true)(hl:(CZ v).length=m)(hm:0<m)(ho:o+m<=out.length)
 (hk:∀H',Rt H0 n0 d L H' n (out.take o++(CZ v++out.drop (o+m)))->(∀j,j≠n0+3->T.get H' j=T.get H j)->P .undef H' n):AP (AU o (.ptr (n0+3) 0)) λp=>CP m p v H n P:=by
 refine AB (v:=.ptr (n0+3) o) (by rw[AZ,Nat.zero_add]) ?_
 refine Ej x.go hv hl hm ho λH' g s=>hk H' ?_ s
 exact⟨⟨x.f.le,λid hid=>(s id (by omega)).trans (x.f.same id hid)⟩,x.lt,(s _ (by omega)).trans x.ge,(s _ (by omega)).trans x.gd,(s _ (by omega)).trans x.gr,g⟩
def RtK(G:AV)(H0:Heap)(n0 d:Nat)(k:KV):Prop:=∀H' n' c e,Kp H0 n0 H' n'->GB d e->EO G H' (Rg n0 n') c e->k (.agg c) H' n'
def ANu(G:AV)(d:Nat):Prop:=∀(H:Heap) (n:Nat) (k:KV) (i b1 b2:Nat) (L:LV),XE G L->T.get H b1=some (one L)->T.get H b2=some (one [.int .i64 (.ofNat d) 0])->b1<n->b2<n->RtK G H n d k->Runs F G BI [.int .i64 (.ofNat i) 0,.ptr b1 0,.ptr b2 0] H n k
section
variable{G:AV}{H0 H:Heap}{n0 d n:Nat}{L:LV}{k:KV}
theorem AEK{c:LV}{e:Ex}(x:Rt H0 n0 d L H n c)(hx:EO G H (λid=>n0+3<id/\id<n) c e)(hg:GB (d+1) e)(hk:RtK G H0 n0 (d+1) k):BJ lfp G (Runs F G) k (.ptr (n0+2) 0) (.ptr (n0+3) 0) H n:=by
 show BJ lfp G (Runs F G) k (.ptr (n0+2) 0) (.ptr (n0+3) 0) H n
 delta BJ
 refine AB (Ai (m:=11) x.go (by omega) hx.len) ?_
 refine CG x.gr rfl hx.len (by omega) λH1 g1 s1=>?_
 rw[DX (m:=11) g1 (by omega) hx.len]
 simp only[go_sem]
 exact hk _ _ c e ⟨x.f.le,λid hid=>(s1 id (by omega)).trans (x.f.same id hid)⟩ hg (hx.mono (λid h=>⟨by have:=h.1;omega,h.2⟩) λid h=>s1 id (by have:=h.1;omega))
theorem jf{m nu:Nat}{nm ty:Bs}{ar:Bool}(x:Rt H0 n0 d L H n (Ti m nu nm ty ar 0 0 .Ae))(hg:GB (d+1) (.mk m nu nm ty ar []))(hk:RtK G H0 n0 (d+1) k):BJ lfp G (Runs F G) k (.ptr (n0+2) 0) (.ptr (n0+3) 0) H n:=
 AEK x (.mk m nu nm ty ar 0 0 yO dB (λid h=>by cases h) .nil) hg hk
theorem AKz{m:Nat}{nm ty:Bs}{ar:Bool}{Z:LV}(x:Rt H0 n0 d L H n (Ti m 0 nm ty ar 0 0 .Ae))(hL:XE G L)(hkid:ANu G d)(hgb:∀e,GB d e->GB (d+1) (.mk m 0 nm ty ar [e]))(hk:RtK G H0 n0 (d+1) k):
 FW (.fn BI [] [.ptr n0 0,.ptr (n0+1) 0]) [.int .i64 (.ofNat 0) 0] (Runs F G) H n λv H n=>DY (Aj 11 1 Z [(0,.c v)] E0) H n λw H n=>AP (AU 7 (.ptr (n0+3) 0)) λp=>CP 1 p w H n λ_ H n=>BJ lfp G (Runs F G) k (.ptr (n0+2) 0) (.ptr (n0+3) 0) H n:=by
 have hlt:=x.lt
 show Runs F G BI [.int .i64 (.ofNat 0) 0,.ptr n0 0,.ptr (n0+1) 0] H n _
 refine hkid H n _ 0 n0 (n0+1) L hL x.ge x.gd (by omega) (by omega) λH1 n1 c e f1 hg hx=>?_
 have hn1:=f1.le
 refine J9 (G:=G) (vs:=[.agg c]) rfl (by omega) (λv hv=>by simp at hv;subst hv;exact⟨rfl,hx.len⟩) λH2 f2 _ hel=>?_
 refine Ru (o:=7) (m:=1) ((x.kp f1).kp f2) rfl rfl (by omega) (by show 7+1<=11;omega) λH3 x3 s3=>?_
 have x3:Rt H0 n0 d L H3 (n1+1) (Ti m 0 nm ty ar 0 0 (.sl n1 0 1 1 11)):=x3
 refine AEK x3 (.mk m 0 nm ty ar 0 0 (cs:=[c]) (hel.same λid hid=>s3 id (by cases Em hid;omega)) (Wy (by omega)) (λid hid=>by cases Em hid;exact⟨by omega,by omega⟩) (.cons (hx.mono (λid h=>⟨by have:=h.1;omega,by have:=h.2;omega⟩) λid h=>?_) .nil)) (hgb e hg) hk
 exact(s3 id (by have:=h.1;omega)).trans (f2.same id h.2)
theorem AS2{m:Nat}{nm ty:Bs}{ar:Bool}{Z:LV}(x:Rt H0 n0 d L H n (Ti m 0 nm ty ar 0 0 .Ae))(hL:XE G L)(hkid:ANu G d)(hgb:∀e e',GB d e->GB d e'->GB (d+1) (.mk m 0 nm ty ar [e,e']))(hk:RtK G H0 n0 (d+1) k):
 FW (.fn BI [] [.ptr n0 0,.ptr (n0+1) 0]) [.int .i64 (.ofNat 0) 0] (Runs F G) H n λv H n=>FW (.fn BI [] [.ptr n0 0,.ptr (n0+1) 0]) [.int .i64 (.ofNat 1) 0] (Runs F G) H n λv' H n=>DY (Aj 11 2 Z [(0,.c v),(1,.c v')] E0) H n λw H n=>AP (AU 7 (.ptr (n0+3) 0)) λp=>CP 1 p w H n λ_ H n=>BJ lfp G (Runs F G) k (.ptr (n0+2) 0) (.ptr (n0+3) 0) H n:=by
 have hlt:=x.lt
 show Runs F G BI [.int .i64 (.ofNat 0) 0,.ptr n0 0,.ptr (n0+1) 0] H n _
 refine hkid H n _ 0 n0 (n0+1) L hL x.ge x.gd (by omega) (by omega) λH1 n1 c e f1 hg hx=>?_
 have hn1:=f1.le
 have x1:=x.kp f1
 show Runs F G BI [.int .i64 (.ofNat 1) 0,.ptr n0 0,.ptr (n0+1) 0] H1 n1 _
 refine hkid H1 n1 _ 1 n0 (n0+1) L hL x1.ge x1.gd (by omega) (by omega) λH2 n2 c' e' f2 hg' hx'=>?_
 have hn2:=f2.le
 refine J9 (G:=G) (vs:=[.agg c,.agg c']) rfl (by omega) (λv hv=>by simp at hv;rcases hv with rfl|rfl;exact⟨rfl,hx.len⟩;exact⟨rfl,hx'.len⟩) λH3 f3 _ hel=>?_
 refine Ru (o:=7) (m:=1) ((x1.kp f2).kp f3) rfl rfl (by omega) (by show 7+1<=11;omega) λH4 x4 s4=>?_
 have x4:Rt H0 n0 d L H4 (n2+1) (Ti m 0 nm ty ar 0 0 (.sl n2 0 2 2 11)):=x4
 refine AEK x4 (.mk m 0 nm ty ar 0 0 (cs:=[c,c']) (hel.same λid hid=>s4 id (by cases Em hid;omega)) (Wy (by omega)) (λid hid=>by cases Em hid;exact⟨by omega,by omega⟩) (.cons (hx.mono (λid h=>⟨by have:=h.1;omega,by have:=h.2;omega⟩) λid h=>?_) (.cons (hx'.mono (λid h=>⟨by have:=h.1;omega,by have:=h.2;omega⟩) λid h=>?_) .nil))) (hgb e e' hg hg') hk
 ·exact(s4 id (by have:=h.1;omega)).trans ((f3.same id (by have:=h.2;omega)).trans (f2.same id h.2))
 ·exact(s4 id (by have:=h.1;omega)).trans (f3.same id h.2)
theorem AWl{N:Nat}{w:V}{LS:D5}{es:List Ex}{nm ty:Bs}(x:Rt H0 n0 d L H n (Ti 8 0 nm ty false 0 0 w))(hL:XE G L)(hkid:ANu G d)(how:Ow G H (n0+4) n 11 w LS)(hcs:O4 G H (λid=>n0+4<=id/\id<n/\w.Qa≠some id) LS es)(hes:es.length<=1)
 (hgb:∀ks,(∀e∈ks,GB d e)->ks.length<=3->GB (d+1) (.mk 8 0 nm ty false (es++ks))) (hk:RtK G H0 n0 (d+1) k):
 lfp (V×V×V×V×V×Heap×Nat) (Pg lfp G (Runs F G) k) (.ptr (n0+2) 0,.fn BI [] [.ptr n0 0,.ptr (n0+1) 0],.int .i64 (.ofNat N) 0,.ptr (n0+3) 0,.int .i64 (.ofNat 0) 0,H,n):=by
 have hu:aj (.ofNat N) 3<=3:=(TP _ (m:=3) (by omega)).2
 have ha:=AB6 (.ofNat N) (m:=3) (by omega)
 generalize aj (.ofNat N) 3=M at hu ha
 refine EP (N:=M) (J:=λj q=>∃H' n' w LS ks,q=(.ptr (n0+2) 0,.fn BI [] [.ptr n0 0,.ptr (n0+1) 0],.int .i64 (.ofNat N) 0,.ptr (n0+3) 0,.int .i64 (.ofNat j) 0,H',n')/\Rt H0 n0 d L H' n' (Ti 8 0 nm ty false 0 0 w)/\Ow G H' (n0+4) n' 11 w LS/\
  O4 G H' (λid=>n0+4<=id/\id<n'/\w.Qa≠some id) LS (es++ks)/\(∀e∈ks,GB d e)/\ks.length=j) ?_ ?_ ⟨H,n,w,LS,[],rfl,x,how,by rw[List.append_nil];exact hcs,λ_ h=>(by cases h),rfl⟩
 ·rintro I j q hlt ⟨H1,n1,w,LS,ks,rfl,x,how,hcs,hks,hj⟩ ih
  show JA lfp G (Runs F G) k I (.ptr (n0+2) 0) (.fn BI [] [.ptr n0 0,.ptr (n0+1) 0]) (.int .i64 (.ofNat N) 0) (.ptr (n0+3) 0) (.int .i64 (.ofNat j) 0) H1 n1
  delta JA
  have hlt4:=x.lt
  refine AB ha ?_
  rw[ES,Au,decide_eq_true hlt,Ah]
  refine AB (AZ ..) (AB (v:=w) (AQ x.go rfl) ?_)
  refine AB (Ef (by omega)) ?_
  show Runs F G BI [.int .i64 (.ofNat (j+1)) 0,.ptr n0 0,.ptr (n0+1) 0] H1 n1 _
  refine hkid H1 n1 _ _ n0 (n0+1) L hL x.ge x.gd (by omega) (by omega) λH2 n2 c e f2 hg hx=>?_
  have hn2:=f2.le
  have x2:=x.kp f2
  have how2:=how.kp f2
  refine AB (v:=w) (AQ x2.go rfl) (Cc (how2.vs (by omega)) ?_)
  have hlen:LS.length=(es++ks).length:=hcs.len
  rw[List.length_append]at hlen
  refine AEL how2 (by omega) (by omega) hx.len rfl (by omega) λw' H3 how3 s3 hid3=>?_
  have x3:Rt H0 n0 d L H3 (n2+2) (Ti 8 0 nm ty false 0 0 w):=x2.fr (by omega) λid hid=>s3 id (by omega) λh=>by have:=how2.at h;omega
  refine Ru (o:=7) (m:=1) x3 how3.ok.2.1 (by rw[how3.ok.2.2];rfl) (by omega) (by show 7+1<=11;omega) λH4 x4 s4=>?_
  rw[how3.ok.2.2]at x4
  have x4:Rt H0 n0 d L H4 (n2+2) (Ti 8 0 nm ty false 0 0 w'):=x4
  have how4:Ow G H4 (n0+4) (n2+2) 11 w' (LS++[c]):=how3.frame (Nat.le_refl _) λid hid=>s4 id (by have:=hid3 id hid;omega)
  refine AB (Ef (by omega)) ?_
  refine ih _ ⟨H4,n2+2,w',LS++[c],ks++[e],rfl,x4,how4,?_,λy hy=>?_,by rw[List.length_append,hj];rfl⟩
  ·rw[<-List.append_assoc]
   refine O4.app (hcs.mono (λid h=>⟨h.1,by have:=h.2.1;omega,λh'=>by have:=hid3 id h';have:=h.2.1;omega⟩) λid h=>?_) (.cons (hx.mono (λid h=>⟨by have:=h.1;omega,by have:=h.2;omega,λh'=>by have:=hid3 id h';have:=h.2;omega⟩) λid h=>?_) .nil)
   ·exact(s4 id (by have:=h.1;omega)).trans ((s3 id (by have:=h.2.1;omega) h.2.2).trans (f2.same id h.2.1))
   ·exact(s4 id (by have:=h.1;omega)).trans (s3 id h.2 λh'=>by have:=how.at h';have:=h.1;omega)
  ·rcases List.mem_append.1 hy with hy|hy
   ·exact hks y hy
   ·simp at hy;subst hy;exact hg
 ·rintro I q ⟨H1,n1,w,LS,ks,rfl,x,how,hcs,hks,hj⟩
  show JA lfp G (Runs F G) k I (.ptr (n0+2) 0) (.fn BI [] [.ptr n0 0,.ptr (n0+1) 0]) (.int .i64 (.ofNat N) 0) (.ptr (n0+3) 0) (.int .i64 (.ofNat M) 0) H1 n1
  delta JA
  refine AB ha ?_
  rw[ES,Au,decide_eq_false (Nat.lt_irrefl _),Aq]
  exact AEK x (.mk 8 0 nm ty false 0 0 (how.el (by omega)) how.ok.1 (λid hid=>by have:=how.at hid;exact⟨by omega,by omega⟩) (hcs.mono (λid h=>⟨by have:=h.1;omega,h.2.1⟩) λ_ _=>rfl)) (hgb ks hks (by omega)) hk
theorem AWa{N:Nat}{w:V}{LS:D5}{es:List Ex}{nm ty:Bs}(x:Rt H0 n0 d L H n (Ti 9 0 nm ty false 0 0 w))(hL:XE G L)(hkid:ANu G d)(how:Ow G H (n0+4) n 11 w LS)(hcs:O4 G H (λid=>n0+4<=id/\id<n/\w.Qa≠some id) LS es)(hes:es.length<=1)
 (hgb:∀ks,(∀e∈ks,GB d e)->ks.length<=3->GB (d+1) (.mk 9 0 nm ty false (es++ks))) (hk:RtK G H0 n0 (d+1) k):
 lfp (V×V×V×V×V×Heap×Nat) (Pj lfp G (Runs F G) k) (.ptr (n0+2) 0,.fn BI [] [.ptr n0 0,.ptr (n0+1) 0],.int .i64 (.ofNat N) 0,.ptr (n0+3) 0,.int .i64 (.ofNat 0) 0,H,n):=by
 have hu:aj (.ofNat N) 3<=3:=(TP _ (m:=3) (by omega)).2
 have ha:=AB6 (.ofNat N) (m:=3) (by omega)
 generalize aj (.ofNat N) 3=M at hu ha
 refine EP (N:=M) (J:=λj q=>∃H' n' w LS ks,q=(.ptr (n0+2) 0,.fn BI [] [.ptr n0 0,.ptr (n0+1) 0],.int .i64 (.ofNat N) 0,.ptr (n0+3) 0,.int .i64 (.ofNat j) 0,H',n')/\Rt H0 n0 d L H' n' (Ti 9 0 nm ty false 0 0 w)/\Ow G H' (n0+4) n' 11 w LS/\
  O4 G H' (λid=>n0+4<=id/\id<n'/\w.Qa≠some id) LS (es++ks)/\(∀e∈ks,GB d e)/\ks.length=j) ?_ ?_ ⟨H,n,w,LS,[],rfl,x,how,by rw[List.append_nil];exact hcs,λ_ h=>(by cases h),rfl⟩
 ·rintro I j q hlt ⟨H1,n1,w,LS,ks,rfl,x,how,hcs,hks,hj⟩ ih
  show I9 lfp G (Runs F G) k I (.ptr (n0+2) 0) (.fn BI [] [.ptr n0 0,.ptr (n0+1) 0]) (.int .i64 (.ofNat N) 0) (.ptr (n0+3) 0) (.int .i64 (.ofNat j) 0) H1 n1
  delta I9
  have hlt4:=x.lt
  refine AB ha ?_
  rw[ES,Au,decide_eq_true hlt,Ah]
  refine AB (AZ ..) (AB (v:=w) (AQ x.go rfl) ?_)
  show Runs F G BI [.int .i64 (.ofNat j) 0,.ptr n0 0,.ptr (n0+1) 0] H1 n1 _
  refine hkid H1 n1 _ _ n0 (n0+1) L hL x.ge x.gd (by omega) (by omega) λH2 n2 c e f2 hg hx=>?_
  have hn2:=f2.le
  have x2:=x.kp f2
  have how2:=how.kp f2
  refine AB (v:=w) (AQ x2.go rfl) (Cc (how2.vs (by omega)) ?_)
  have hlen:LS.length=(es++ks).length:=hcs.len
  rw[List.length_append]at hlen
  refine AEL how2 (by omega) (by omega) hx.len rfl (by omega) λw' H3 how3 s3 hid3=>?_
  have x3:Rt H0 n0 d L H3 (n2+2) (Ti 9 0 nm ty false 0 0 w):=x2.fr (by omega) λid hid=>s3 id (by omega) λh=>by have:=how2.at h;omega
  refine Ru (o:=7) (m:=1) x3 how3.ok.2.1 (by rw[how3.ok.2.2];rfl) (by omega) (by show 7+1<=11;omega) λH4 x4 s4=>?_
  rw[how3.ok.2.2]at x4
  have x4:Rt H0 n0 d L H4 (n2+2) (Ti 9 0 nm ty false 0 0 w'):=x4
  have how4:Ow G H4 (n0+4) (n2+2) 11 w' (LS++[c]):=how3.frame (Nat.le_refl _) λid hid=>s4 id (by have:=hid3 id hid;omega)
  refine AB (Ef (by omega)) ?_
  refine ih _ ⟨H4,n2+2,w',LS++[c],ks++[e],rfl,x4,how4,?_,λy hy=>?_,by rw[List.length_append,hj];rfl⟩
  ·rw[<-List.append_assoc]
   refine O4.app (hcs.mono (λid h=>⟨h.1,by have:=h.2.1;omega,λh'=>by have:=hid3 id h';have:=h.2.1;omega⟩) λid h=>?_) (.cons (hx.mono (λid h=>⟨by have:=h.1;omega,by have:=h.2;omega,λh'=>by have:=hid3 id h';have:=h.2;omega⟩) λid h=>?_) .nil)
   ·exact(s4 id (by have:=h.1;omega)).trans ((s3 id (by have:=h.2.1;omega) h.2.2).trans (f2.same id h.2.1))
   ·exact(s4 id (by have:=h.1;omega)).trans (s3 id h.2 λh'=>by have:=how.at h';have:=h.1;omega)
  ·rcases List.mem_append.1 hy with hy|hy
   ·exact hks y hy
   ·simp at hy;subst hy;exact hg
 ·rintro I q ⟨H1,n1,w,LS,ks,rfl,x,how,hcs,hks,hj⟩
  show I9 lfp G (Runs F G) k I (.ptr (n0+2) 0) (.fn BI [] [.ptr n0 0,.ptr (n0+1) 0]) (.int .i64 (.ofNat N) 0) (.ptr (n0+3) 0) (.int .i64 (.ofNat M) 0) H1 n1
  delta I9
  refine AB ha ?_
  rw[ES,Au,decide_eq_false (Nat.lt_irrefl _),Aq]
  exact AEK x (.mk 9 0 nm ty false 0 0 (how.el (by omega)) how.ok.1 (λid hid=>by have:=how.at hid;exact⟨by omega,by omega⟩) (hcs.mono (λid h=>⟨by have:=h.1;omega,h.2.1⟩) λ_ _=>rfl)) (hgb ks hks (by omega)) hk
theorem AMW{d:Nat}{L:LV}(hL:XE G L)(hkid:ANu G d)(hk:RtK G H n (d+1) k):Runs F G MI [.agg L,.int .i64 (.ofNat d) 0] H n k:=by
 have hL0:=hL
 cases hL with
 | @mk kd l c nu nm ty ar v t2 a2 n3 LS hn ht hel hl hkids=>
 unfold bigS at hn ht
 refine Am (s:=QD (Q9 lfp G)) U7 (by obtain⟨h,o⟩:=xG Ap G;rw[U7]at h;cases h;exact o) ?_
 show Q9 lfp G (Runs F G) (.agg (xeC kd l c nu nm ty ar v t2 a2 n3)) (.int .i64 (.ofNat d) 0) H n k
 delta Q9
 refine Dk λH1 f1 g1=>?_
 refine AJm rfl λH2 f2 g2=>?_
 refine Az rfl λH3 f3 g3=>?_
 have g1:=(f3.get (f2.get g1 (by omega)) (by omega))
 have g2:=f3.get g2 (by omega)
 have hu:aj nu 7<=7:=(TP _ (m:=7) (by omega)).2
 refine AB (AZ ..) (AB (v:=sB nm) (AQ g1 rfl) (AB (O8 nm) (AB (AZ ..) (AB (v:=.int .i64 nu 0) (AQ g1 rfl) (AB (AB6 nu (m:=7) (by omega)) (AB (Ef (by omega)) ?_))))))
 generalize nm.length+aj nu 7=N
 refine AB (AZ ..) (AB (v:=.int .i64 kd 0) (AQ g1 rfl) (AB (v:=.agg [.int .i64 kd 0,.int .i64 (.ofNat 0) 0,.int .i64 (.ofNat 0) 0,.int .i64 (.ofNat 0) 0,.str 0 0,.str 0 0,.bool false,.Ae,.str 0 0,.bool false,.str 0 0]) rfl ?_))
 refine Az rfl λH4 f4 g4=>?_
 refine CG g4 rfl rfl (by omega) λH5 g5 s5=>?_
 have f4:Kp H3 (n+1+1+1) H5 (n+1+1+1+1):=⟨f4.le,λid hid=>(s5 id (by omega)).trans (f4.same id hid)⟩
 have x:∀m,kd=.ofNat m->Rt H n d (xeC kd l c nu nm ty ar v t2 a2 n3) H5 (n+4) (Ti m 0 [] [] false 0 0 .Ae):=λm hm=>⟨(f1.trans (f2.trans (f3.trans f4))),by omega,f4.get g1 (by omega),f4.get g2 (by omega),f4.get g3 (by omega),by subst hm;exact g5⟩
 have x0:Rt H n d (xeC kd l c nu nm ty ar v t2 a2 n3) H5 (n+4) [.int .i64 kd 0,.int .i64 (.ofNat 0) 0,.int .i64 (.ofNat 0) 0,.int .i64 (.ofNat 0) 0,.str 0 0,.str 0 0,.bool false,.Ae,.str 0 0,.bool false,.str 0 0]:=⟨(f1.trans (f2.trans (f3.trans f4))),by omega,f4.get g1 (by omega),f4.get g2 (by omega),f4.get g3 (by omega),g5⟩
 refine AB (AZ ..) (AB (v:=.int .i64 kd 0) (AQ x0.ge rfl) ?_)
 clear f1 f2 f3 f4 g1 g2 g3 g4 g5 s5
 refine eqI (λhm=>?_) (λh2=>?_)
 ·rw[Ah];delta Dx;rw[Ah];exact jf (x _ hm) AWI hk
 rw[Aq]
 refine eqI (λhm=>?_) (λh3=>?_)
 ·rw[Ah];delta Dx;rw[Ah];exact jf (x _ hm) AWY hk
 rw[Aq]
 refine eqI (λhm=>?_) (λh4=>?_)
 ·rw[Ah];delta Dx;rw[Ah];exact jf (x _ hm) AWn hk
 rw[Aq]
 refine eqI (λhm=>?_) (λh5=>?_)
 ·delta Dx;rw[Ah];exact jf (x _ hm) AX0 hk
 delta Dx
 rw[Aq]
 refine eqI (λhm=>?_) (λh6=>?_)
 ·rw[Ah]
  have x:=x _ hm
  refine AAW λH6 u f6 hu6 hl6=>?_
  refine Ru (o:=4) (m:=1) (x.kp f6) rfl rfl (by omega) (by show 4+1<=11;omega) λH7 x7 s7=>?_
  have x7:Rt H n d (xeC kd l c nu nm ty ar v t2 a2 n3) H7 (n+4+1) (Ti 6 0 u [] false 0 0 .Ae):=x7
  exact jf x7 (AQm hu6 hl6) hk
 rw[Aq]
 refine eqI (λhm=>?_) (λh7=>?_)
 ·rw[Ah]
  have x:=x _ hm
  refine AAW λH6 u f6 hu6 hl6=>?_
  refine Ru (o:=4) (m:=1) (x.kp f6) rfl rfl (by omega) (by show 4+1<=11;omega) λH7 x7 s7=>?_
  have x7:Rt H n d (xeC kd l c nu nm ty ar v t2 a2 n3) H7 (n+4+1) (Ti 7 0 u [] false 0 0 .Ae):=x7
  exact AKz x7 hL0 hkid (λe he=>AVY hu6 hl6 he) hk
 rw[Aq]
 refine eqI (λhm=>?_) (λh8=>?_)
 ·rw[Ah]
  have x:=x _ hm
  refine AAW λH6 u f6 hu6 hl6=>?_
  refine Ru (o:=4) (m:=1) (x.kp f6) rfl rfl (by omega) (by show 4+1<=11;omega) λH7 x7 s7=>?_
  have x7:Rt H n d (xeC kd l c nu nm ty ar v t2 a2 n3) H7 (n+4+1) (Ti 8 0 u [] false 0 0 .Ae):=x7
  show Runs F G BI [.int .i64 (.ofNat 0) 0,.ptr n 0,.ptr (n+1) 0] H7 (n+4+1) _
  refine hkid H7 _ _ 0 n (n+1) _ hL0 x7.ge x7.gd (by omega) (by omega) λH8 n8 c8 e8 f8 hg8 hx8=>?_
  have hn8:=f8.le
  refine J9 (G:=G) (vs:=[.agg c8]) rfl (by omega) (λv hv=>by simp at hv;subst hv;exact⟨rfl,hx8.len⟩) λH9 f9 hat hel9=>?_
  refine Ru (o:=7) (m:=1) ((x7.kp f8).kp f9) rfl rfl (by omega) (by show 7+1<=11;omega) λH10 x10 s10=>?_
  have x10:Rt H n d (xeC kd l c nu nm ty ar v t2 a2 n3) H10 (n8+1) (Ti 8 0 u [] false 0 0 (.sl n8 0 1 1 11)):=x10
  obtain⟨t,ht⟩:=hat
  refine AWl (LS:=[c8]) (es:=[e8]) x10 hL0 hkid (.inr ⟨n8,t,rfl,(s10 _ (by omega)).trans ht,by omega,by omega,hel9.same λid hid=>s10 id (by cases Em hid;omega)⟩) (.cons (hx8.mono (λid h=>⟨by have:=h.1;omega,by have:=h.2;omega,λh'=>by cases Em h';have:=h.2;omega⟩) λid h=>(s10 id (by have:=h.1;omega)).trans (f9.same id h.2)) .nil) (Nat.le_refl _) (λks hks hln=>ATb hu6 hl6 hg8 hks hln) hk
 rw[Aq]
 refine eqI (λhm=>?_) (λh9=>?_)
 ·rw[Ah]
  have x:=x _ hm
  refine AAW λH6 u f6 hu6 hl6=>?_
  refine Ru (o:=4) (m:=1) (x.kp f6) rfl rfl (by omega) (by show 4+1<=11;omega) λH7 x7 s7=>?_
  refine ADd λH8 u2 f8 hu8 hl8=>?_
  refine AP4 λH9 f9=>?_
  refine Ru (o:=5) (m:=2) ((x7.kp f8).kp f9) rfl rfl (by omega) (by show 5+2<=11;omega) λH10 x10 s10=>?_
  have x10:Rt H n d (xeC kd l c nu nm ty ar v t2 a2 n3) H10 (n+4+1+1+1) (Ti 9 0 u u2 false 0 0 .Ae):=x10
  exact AWa (LS:=[]) (es:=[]) x10 hL0 hkid (.inl Xp) .nil (Nat.zero_le _) (λks hks hln=>AMB hu6 hl6 hu8 hl8 hks hln) hk
 rw[Aq]
 refine eqI (λhm=>?_) (λh10=>?_)
 ·rw[Ah]
  have x:=x _ hm
  refine ADd λH8 u2 f8 hu8 hl8=>?_
  refine AP4 λH9 f9=>?_
  refine Ru (o:=5) (m:=2) ((x.kp f8).kp f9) rfl rfl (by omega) (by show 5+2<=11;omega) λH10 x10 s10=>?_
  have x10:Rt H n d (xeC kd l c nu nm ty ar v t2 a2 n3) H10 (n+4+1+1) (Ti 10 0 [] u2 false 0 0 .Ae):=x10
  exact jf x10 (AVH hu8 hl8) hk
 rw[Aq]
 refine eqI (λhm=>?_) (λh11=>?_)
 ·rw[Ah]
  have x:=x _ hm
  refine AB (AZ ..) (AB (v:=.agg [sB ty,.bool ar]) (ML x.ge (by omega) (by show 5+2<=11;omega)) ?_)
  refine ALn (by omega) λH6 n6 u f6 hu6 hl6=>?_
  refine AT4 λH7 f7=>?_
  refine Ru (o:=5) (m:=2) ((x.kp f6).kp f7) rfl rfl (by omega) (by show 5+2<=11;omega) λH8 x8 s8=>?_
  have x8:Rt H n d (xeC kd l c nu nm ty ar v t2 a2 n3) H8 (n6+2) (Ti 11 0 [] u false 0 0 .Ae):=x8
  exact AKz x8 hL0 hkid (λe he=>AXp hu6 hl6 he) hk
 rw[Aq]
 refine eqI (λhm=>?_) (λh12=>?_)
 ·rw[Ah]
  have x:=x _ hm
  delta Eb
  rw[Ah]
  exact AS2 x hL0 hkid (λe e' he he'=>AVX he he') hk
 rw[Aq]
 refine eqI (λhm=>?_) (λh17=>?_)
 ·rw[Ah]
  have x:=x _ hm
  delta Eb
  rw[Ah]
  exact AS2 x hL0 hkid (λe e' he he'=>AVc he he') hk
 rw[Aq]
 refine eqI (λhm=>?_) (λh18=>?_)
 ·have x:=x _ hm
  delta Eb
  rw[Ah]
  exact AS2 x hL0 hkid (λe e' he he'=>AYs he he') hk
 delta Eb
 rw[Aq]
 refine eqI (λhm=>?_) (λh13=>?_)
 ·rw[Ah]
  have x:=x _ hm
  delta Ec
  rw[Ah]
  exact AKz x hL0 hkid (λe he=>AXd he) hk
 rw[Aq]
 refine eqI (λhm=>?_) (λh14=>?_)
 ·rw[Ah]
  have x:=x _ hm
  delta Ec
  rw[Ah]
  exact AKz x hL0 hkid (λe he=>AVE he) hk
 rw[Aq]
 refine eqI (λhm=>?_) (λh15=>?_)
 ·have x:=x _ hm
  delta Ec
  rw[Ah]
  exact AKz x hL0 hkid (λe he=>AWH he) hk
 delta Ec
 rw[Aq]
 refine eqI (λhm=>?_) (λh16=>?_)
 ·rw[Ah]
  have x:=x _ hm
  refine dW (G:=G) (ws:=[Zt,Dv,XZ,Sv,qF,Yk,nJ,V9,nD]) rfl λH6 f6 hw=>?_
  refine AB (ART N (by omega)) ?_
  have h9:N%9<9:=Nat.mod_lt _ (by decide)
  generalize N%9=i at h9
  have hw2:∃o,o∈AFB/\o.length<=2/\∃p,BO 1 (.sl (n+4) 0 9 9 1) (.int .i64 (.ofNat i) 0)=some p/\AX p G H6=some (sB o):=by
   have h:∃o,[Zt,Dv,XZ,Sv,qF,Yk,nJ,V9,nD][i]? =some o/\o∈AFB/\o.length<=2:=by
    match i,h9 with
    |0,_=>exact⟨_,rfl,by decide,by decide⟩
    |1,_=>exact⟨_,rfl,by decide,by decide⟩
    |2,_=>exact⟨_,rfl,by decide,by decide⟩
    |3,_=>exact⟨_,rfl,by decide,by decide⟩
    |4,_=>exact⟨_,rfl,by decide,by decide⟩
    |5,_=>exact⟨_,rfl,by decide,by decide⟩
    |6,_=>exact⟨_,rfl,by decide,by decide⟩
    |7,_=>exact⟨_,rfl,by decide,by decide⟩
    |8,_=>exact⟨_,rfl,by decide,by decide⟩
   obtain⟨o,ho,h1,h2⟩:=h
   obtain⟨p,h3,h4⟩:=hw.at (i:=i) (c:=[sB o]) (by unfold wsC;rw[List.getElem?_map,ho];rfl)
   exact⟨o,h1,h2,p,h3,aI h4⟩
  obtain⟨o,ho,hol,p,hp,hq⟩:=hw2
  refine AB hp (AB hq ?_)
  refine Ru (o:=4) (m:=1) (x.kp f6) rfl rfl (by omega) (by show 4+1<=11;omega) λH7 x7 s7=>?_
  have x7:Rt H n d (xeC kd l c nu nm ty ar v t2 a2 n3) H7 (n+4+1) (Ti 16 0 o [] false 0 0 .Ae):=x7
  exact AS2 x7 hL0 hkid (λe e' he he'=>AXS ho hol he he') hk
 rw[Aq]
 refine eqI (λhm=>?_) (λh19=>?_)
 ·rw[Ah]
  have x:=x _ hm
  delta Fq
  rw[Ah]
  refine ADd λH8 u2 f8 hu8 hl8=>?_
  refine AP4 λH9 f9=>?_
  refine Ru (o:=5) (m:=2) ((x.kp f8).kp f9) rfl rfl (by omega) (by show 5+2<=11;omega) λH10 x10 s10=>?_
  have x10:Rt H n d (xeC kd l c nu nm ty ar v t2 a2 n3) H10 (n+4+1+1) (Ti 19 0 [] u2 false 0 0 .Ae):=x10
  exact AKz x10 hL0 hkid (λe he=>AWk hu8 hl8 he) hk
 rw[Aq]
 refine eqI (λhm=>?_) (λh20=>?_)
 ·have x:=x _ hm
  delta Fq
  rw[Ah]
  refine ADd λH8 u2 f8 hu8 hl8=>?_
  refine AP4 λH9 f9=>?_
  refine Ru (o:=5) (m:=2) ((x.kp f8).kp f9) rfl rfl (by omega) (by show 5+2<=11;omega) λH10 x10 s10=>?_
  have x10:Rt H n d (xeC kd l c nu nm ty ar v t2 a2 n3) H10 (n+4+1+1) (Ti 20 0 [] u2 false 0 0 .Ae):=x10
  exact AKz x10 hL0 hkid (λe he=>AVK hu8 hl8 he) hk
 delta Fq
 rw[Aq]
 refine Ru (o:=0) (m:=1) x0 rfl rfl (by omega) (by show 0+1<=11;omega) λH6 x6 s6=>?_
 have x6:Rt H n d (xeC kd l c nu nm ty ar v t2 a2 n3) H6 (n+4) (Ti 1 0 [] [] false 0 0 .Ae):=x6
 have hu2:aj nu 16777215<=16777215:=(TP _ (m:=16777215) (by omega)).2
 refine AB (AZ ..) (AB (v:=.int .i64 nu 0) (AQ x6.ge rfl) (AB (AB6 nu (m:=16777215) (by omega)) ?_))
 refine Ru (o:=3) (m:=1) x6 rfl rfl (by omega) (by show 3+1<=11;omega) λH7 x7 s7=>?_
 have x7:Rt H n d (xeC kd l c nu nm ty ar v t2 a2 n3) H7 (n+4) (Ti 1 (aj nu 16777215) [] [] false 0 0 .Ae):=x7
 exact jf x7 (AVg hu2) hk
theorem ABG{b:Nat}(gb:T.get H b=some (one exZ))(hb:n<=b)(hbn:b<n0)(f:∀id,id<n->T.get H id=T.get H0 id)(hk:RtK G H0 n d k):
 AP (Bh exZ [(0,1,.c (.int .i64 (.ofNat 1) 0)),(3,1,.c (.int .i64 (.ofNat 7) 0))]) λv9=>CP 11 (.ptr b 0) v9 H n0 λ_ H n=>IV (D6 [.cn (.ptr b 0) 11] G H) λl=>k (GN l) H n:=by
 refine AB (v:=.agg (Ti 1 7 [] [] false 0 0 .Ae)) rfl ?_
 refine CG gb rfl rfl (by omega) λH1 g1 s1=>?_
 rw[DX (m:=11) g1 (by omega) rfl]
 simp only[go_sem]
 exact hk _ _ _ _ ⟨by omega,λid hid=>(s1 id (by omega)).trans (f id hid)⟩ (AQt.mono (Nat.zero_le _)) (.mk 1 7 [] [] false 0 0 yO dB (λid h=>by cases h) .nil)
theorem AYk:∀d,d<1000->ANu G d:=by
 intro d
 induction d with
 |zero=>
  intro _ H n k i b1 b2 L hL h1 h2 hb1 hb2 hk
  refine Am (s:=ar3 (GI lfp G)) Jq (by obtain⟨h,o⟩:=YG Ap G;rw[Jq]at h;cases h;exact o) ?_
  show GI lfp G (Runs F G) (.int .i64 (.ofNat i) 0) (.ptr b1 0) (.ptr b2 0) H n k
  delta GI
  refine Az rfl λH1 f1 g1=>?_
  have h1:=f1.get h1 hb1
  have h2:=f1.get h2 hb2
  cases hL with
  | @mk kd l c nu nm ty ar v t2 a2 n3 LS hn ht hel hl hkids=>
  refine AB (AZ ..) (AB (v:=v) (AQ h1 rfl) (AB (hel H1).len (AB (Xx ..) ?_)))
  cases hz:decide (LS.length=0)with
  |true=>
   simp only[go_sem]
   exact ABG g1 (Nat.le_refl _) (by omega) (λid hid=>f1.same id hid) hk
  |false=>
   have q:AX (.ptr b2 0) G H1=some (.int .i64 (.ofNat 0) 0):=AQ h2 rfl
   simp only[go_sem,q,vO,Nat.le_refl,decide_true]
   exact ABG g1 (Nat.le_refl _) (by omega) (λid hid=>f1.same id hid) hk
 |succ d ih=>
  intro hd H n k i b1 b2 L hL h1 h2 hb1 hb2 hk
  refine Am (s:=ar3 (GI lfp G)) Jq (by obtain⟨h,o⟩:=YG Ap G;rw[Jq]at h;cases h;exact o) ?_
  show GI lfp G (Runs F G) (.int .i64 (.ofNat i) 0) (.ptr b1 0) (.ptr b2 0) H n k
  delta GI
  refine Az rfl λH1 f1 g1=>?_
  have h1:=f1.get h1 hb1
  have h2:=f1.get h2 hb2
  cases hL with
  | @mk kd l c nu nm ty ar v t2 a2 n3 LS hn ht hel hl hkids=>
  refine AB (AZ ..) (AB (v:=v) (AQ h1 rfl) (AB (hel H1).len (AB (Xx ..) ?_)))
  cases hz:decide (LS.length=0)with
  |true=>
   simp only[go_sem]
   exact ABG g1 (Nat.le_refl _) (by omega) (λid hid=>f1.same id hid) hk
  |false=>
   have hz:=of_decide_eq_false hz
   have q:AX (.ptr b2 0) G H1=some (.int .i64 (.ofNat (d+1)) 0):=AQ h2 rfl
   simp only[go_sem,q,vO,decide_eq_false (show ¬d+1<=0 by omega)]
   have hi:i%LS.length<LS.length:=Nat.mod_lt _ (by omega)
   obtain⟨p,hp,hld⟩:=(hel H1).at (List.getElem?_eq_getElem hi)
   have q7:AX (.ptr b1 7) G H1=some v:=AQ h1 rfl
   refine AB (by first|exact q7|exact(by rw[Nat.zero_add];exact q7)) ?_
   refine AB (by first|exact q7|exact(by rw[Nat.zero_add];exact q7)) (AB (hel H1).len (AB (ART i (by omega)) (AB hp (AB (Jl hld) ?_))))
   refine AB (vS (by omega) (by omega)) ?_
   show Runs F G MI [.agg LS[i%LS.length],.int .i64 (.ofNat d) 0] H1 (n+1) _
   refine AMW (hkids _ (List.getElem_mem hi)) (ih (by omega)) λH2 n2 c2 e2 f2 hg hx=>?_
   have g2:=f2.get g1 (by omega)
   refine CG g2 rfl hx.len (by omega) λH3 g3 s3=>?_
   rw[DX (m:=11) g3 (by omega) hx.len]
   simp only[go_sem]
   have hn2:=f2.le
   exact hk _ _ _ _ ⟨by omega,λid hid=>(s3 id (by omega)).trans ((f2.same id (by omega)).trans (f1.same id hid))⟩ hg (hx.mono (λid h=>⟨by have:=h.1;omega,h.2⟩) λid h=>s3 id (by have:=h.1;omega))
theorem ATP{L:LV}(hL:XE G L)(hk:RtK G H n 5 k):Runs F G MI [.agg L,.int .i64 (.ofNat 4) 0] H n k:=AMW hL (AYk 4 (by omega)) hk
end
def SQ:Nat->Nat
 |0=>100000
 |m+1=>20*SQ m+100000
theorem AAN:∀m,100000<=SQ m
 |0=>Nat.le_refl _
 |m+1=>by unfold SQ;omega
structure GS(m:Nat)(s:St):Prop where
 wr:WrS s
 dp:dS s<=12+2*m
 ln:∀t,t+m<=5->(textS t s).length<=SQ m
theorem gp5:GP 5=46875:=by decide
theorem AMi{α:Type}{f:α->Bs}{P:Nat}:∀{l:List α},(∀x∈l,(f x).length<=P)->(l.map f).flatten.length<=l.length*P
 |[],_=>Nat.zero_le _
 |a::l,h=>by
  have h1:=h a (List.mem_cons_self ..)
  have h2:=AMi (l:=l) λx hx=>h x (List.mem_cons_of_mem _ hx)
  simp only[List.map_cons,List.flatten_cons,List.length_append,List.length_cons]
  rw[Nat.add_mul];omega
theorem ADA{α:Type}{f:α->Bs}{P:Nat}{l:List α}(h:∀x∈l,(f x).length<=P)(hn:l.length<=10):(l.map f).flatten.length<=10*P:=Nat.le_trans (AMi h) (Nat.mul_le_mul_right _ hn)
theorem AJ5{t m:Nat}{th:List St}(h:∀s∈th,GS m s)(hn:th.length<=10)(ht:t+1+m<=5):(HY t (th.map (textS (t+1)))).length<=10*SQ m+3+t:=by
 unfold HY
 have h1:=ADA (f:=textS (t+1)) (P:=SQ m) (λs hs=>(h s hs).ln _ ht) hn
 have h2:OC.length=1/\m_rc.length=1/\([10]:Bs).length=1:=⟨rfl,rfl,rfl⟩
 have h3:=JB t
 simp only[List.length_append];omega
theorem maxS{m:Nat}{th:List St}(h:∀s∈th,GS m s):maxL (th.map dS)<=12+2*m:=AC5 λx hx=>by
 obtain⟨s,hs,rfl⟩:=List.mem_map.1 hx
 exact(h s hs).dp
theorem UL:O0.length=3/\Jr.length=2/\EL.length=4/\Fe.length=5/\Eo.length=6/\Fp.length=5/\EG.length=1/\Aw.length=1/\([10]:Bs).length=1/\([32]:Bs).length=1:=⟨rfl,rfl,rfl,rfl,rfl,rfl,rfl,rfl,rfl,rfl⟩
theorem AGO{t:Ty}{n:Nat}(h:t.nm.length<=n):(nG t).length<=n+2:=by
 unfold nG
 cases t.arr with
 |true=>show(t.nm++(GL++F8)).length<=_;rw[List.length_append,show(GL++F8).length=2 from rfl];omega
 |false=>show t.nm.length<=_;omega
section
variable{m:Nat}{l:Bs}{ty:Ty}{a b:Ex}{th el:List St}
theorem AZJ(hl:kK l=true)(hl2:l.length=2)(ht:aQ ty.nm=true)(ht2:ty.nm.length<=4)(ha:GB 5 a):GS m (.mk 1 l ty [a] [] []):=⟨.lt hl ht ha.wr,by
 rw[ZM]
 have:=ha.dp
 show dE a+1<=_;omega,λt htt=>by
 rw[DT]
 have h0:=AAN m
 have hp:=gp5
 have hw:=UL
 have htd:=JB t
 have h1:=ha.ln
 have h2:=AGO ht2
 show(tabs t++(O0++([32]++(nG ty++([32]++(l++([32]++(EG++([32]++(textE a++(Aw++[10]))))))))))).length<=_
 simp only[List.length_append]
 omega⟩
theorem AQ1(hk:a.kind=6∨a.kind=7∨a.kind=12)(ha:GB 5 a)(hb:GB 5 b):GS m (.mk 2 [] JY [a,b] [] []):=⟨.put ha.wr hk hb.wr,by
 rw[ZM]
 have:=ha.dp
 have:=hb.dp
 show max (dE a+1) (dE b+1)<=_;omega,λt htt=>by
 rw[DT]
 have h0:=AAN m
 have hp:=gp5
 have hw:=UL
 have htd:=JB t
 have h1:=ha.ln
 have h2:=hb.ln
 show(tabs t++(textE a++([32]++(EG++([32]++(textE b++(Aw++[10]))))))).length<=_
 simp only[List.length_append]
 omega⟩
theorem AOq(hk:a.kind=8∨a.kind=9)(ha:GB 5 a):GS m (.mk 3 [] JY [a] [] []):=⟨.ask ha.wr hk,by
 rw[ZM]
 have:=ha.dp
 show dE a+1<=_;omega,λt htt=>by
 rw[DT]
 have h0:=AAN m
 have hp:=gp5
 have hw:=UL
 have htd:=JB t
 have h1:=ha.ln
 show(tabs t++(textE a++(Aw++[10]))).length<=_
 simp only[List.length_append]
 omega⟩
theorem AV2(ha:GB 5 a):GS m (.mk 6 [] JY [a] [] []):=⟨.ret ha.wr,by
 rw[ZM]
 have:=ha.dp
 show dE a+1<=_;omega,λt htt=>by
 rw[DT]
 have h0:=AAN m
 have hp:=gp5
 have hw:=UL
 have htd:=JB t
 have h1:=ha.ln
 show(tabs t++(Eo++([32]++(textE a++(Aw++[10]))))).length<=_
 simp only[List.length_append]
 omega⟩
theorem AXY(ha:GB 5 a):GS m (.mk 7 [] JY [a] [] []):=⟨.prt ha.wr,by
 rw[ZM]
 have:=ha.dp
 show dE a+1<=_;omega,λt htt=>by
 rw[DT]
 have h0:=AAN m
 have hp:=gp5
 have hw:=UL
 have htd:=JB t
 have h1:=ha.ln
 show(tabs t++(Fp++([32]++(textE a++(Aw++[10]))))).length<=_
 simp only[List.length_append]
 omega⟩
theorem AX2(ha:GB 5 a):GS m (.mk 4 [] JY [a] [] []):=⟨.ite ha.wr (λx h=>by cases h) (λx h=>by cases h),by
 rw[ZM]
 have:=ha.dp
 show max (dE a+1) (max (0+1) 0)+1<=_;omega,λt htt=>by
 rw[DT]
 have h0:=AAN m
 have hp:=gp5
 have hw:=UL
 have htd:=JB t
 have h1:=ha.ln
 have h3:(HY t []).length=3+t:=by unfold HY;simp only[List.length_append,List.flatten_nil,List.length_nil];have:OC.length=1/\m_rc.length=1:=⟨rfl,rfl⟩;omega
 have h4:([]:Bs).length=0:=rfl
 show(tabs t++(Jr++([32]++(textE a++([32]++(HY t []++([]++[10]))))))).length<=_
 simp only[List.length_append]
 omega⟩
theorem AVa(ha:GB 5 a):GS m (.mk 5 [] JY [a] [] []):=⟨.loop ha.wr (λx h=>by cases h),by
 rw[ZM]
 have:=ha.dp
 show max (dE a+1) (0+1)<=_;omega,λt htt=>by
 rw[DT]
 have h0:=AAN m
 have hp:=gp5
 have hw:=UL
 have htd:=JB t
 have h1:=ha.ln
 have h3:(HY t []).length=3+t:=by unfold HY;simp only[List.length_append,List.flatten_nil,List.length_nil];have:OC.length=1/\m_rc.length=1:=⟨rfl,rfl⟩;omega
 show(tabs t++(Fe++([32]++(textE a++([32]++(HY t []++[10])))))).length<=_
 simp only[List.length_append]
 omega⟩
theorem AYm(ha:GB 5 a)(ht:∀s∈th,GS m s)(htn:th.length<=10):GS (m+1) (.mk 5 [] JY [a] th []):=⟨.loop ha.wr λs hs=>(ht s hs).wr,by
 rw[ZM]
 have:=ha.dp
 have:=maxS ht
 show max (dE a+1) (maxL (th.map dS)+1)<=_;omega,λt htt=>by
 rw[DT]
 have h0:=AAN m
 have hp:=gp5
 have hw:=UL
 have htd:=JB t
 have h1:=ha.ln
 have h3:=AJ5 ht htn (t:=t) (by omega)
 show(tabs t++(Fe++([32]++(textE a++([32]++(HY t (th.map (textS (t+1)))++[10])))))).length<=_
 simp only[List.length_append]
 unfold SQ
 omega⟩
theorem AZr(ha:GB 5 a)(ht:∀s∈th,GS m s)(htn:th.length<=10)(he:∀s∈el,GS m s)(hen:el.length<=10):GS (m+1) (.mk 4 [] JY [a] th el):=⟨.ite ha.wr (λs hs=>(ht s hs).wr) λs hs=>(he s hs).wr,by
 rw[ZM]
 have:=ha.dp
 have:=maxS ht
 have h5:=maxS he
 have h6:(bif (el.map dS).isEmpty then 0 else maxL (el.map dS)+1)<=13+2*m:=by cases(el.map dS).isEmpty<;>simp only[cond_true,cond_false]<;>omega
 show max (dE a+1) (max (maxL (th.map dS)+1) (bif (el.map dS).isEmpty then 0 else maxL (el.map dS)+1))+1<=_;omega,λt htt=>by
 rw[DT]
 have h0:=AAN m
 have hp:=gp5
 have hw:=UL
 have htd:=JB t
 have h1:=ha.ln
 have h3:=AJ5 ht htn (t:=t) (by omega)
 have h4:=AJ5 he hen (t:=t) (by omega)
 have h5:(bif (el.map (textS (t+1))).isEmpty then([]:Bs)else[32]++(EL++([32]++HY t (el.map (textS (t+1)))))).length<=10*SQ m+9+t:=by
  cases(el.map (textS (t+1))).isEmpty with
  |true=>exact Nat.zero_le _
  |false=>show([32]++(EL++([32]++HY t (el.map (textS (t+1)))))).length<=_;simp only[List.length_append];omega
 show(tabs t++(Jr++([32]++(textE a++([32]++(HY t (th.map (textS (t+1)))++((bif (el.map (textS (t+1))).isEmpty then[]else[32]++(EL++([32]++HY t (el.map (textS (t+1))))))++[10]))))))).length<=_
 simp only[List.length_append]
 unfold SQ
 omega⟩
end
end Go.PQ
