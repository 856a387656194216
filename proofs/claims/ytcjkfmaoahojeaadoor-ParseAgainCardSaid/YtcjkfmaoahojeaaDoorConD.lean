/- Part of a proof; nothing is assumed. -/
import Derived.Test.YtcjkfmaoahojeaaDoorConC
set_option linter.unusedVariables false
set_option linter.unusedSimpArgs false
namespace Go.PQ
open Go.Eng
set_option maxRecDepth 100000
def maxL:List Nat->Nat
 |[]=>0
 |a::l=>max a (maxL l)
def Wp(l:List Nat)(i:Nat):Nat:=match l[i]? with|some x=>x|none=>0
def ACD(l:List Nat):Nat:=maxL (l.map (· +1))
def ARX(k:Nat)(ks:List Nat):Nat:=
 match k with
 |7=>Wp ks 0
 |8=>max (Wp ks 0) (ACD (ks.drop 1))
 |9=>ACD ks
 |10=>1
 |11=>Wp ks 0+1
 |12=>max (Wp ks 0) (Wp ks 1+1)
 |13=>Wp ks 0
 |14=>Wp ks 0+2
 |15=>Wp ks 0+2
 |16=>max (Wp ks 0) (Wp ks 1)+1
 |17=>max (Wp ks 0) (Wp ks 1)+1
 |18=>max (Wp ks 0) (Wp ks 1)+1
 |19=>Wp ks 0+1
 |20=>Wp ks 0+1
 |_=>0
mutual
def dE:Ex->Nat
 |.mk k _ _ _ _ ks=>ARX k (dL ks)
def dL:List Ex->List Nat
 |[]=>[]
 |e::l=>dE e::dL l
end
theorem ANU:∀l:List Ex,dL l=l.map dE
 |[]=>by unfold dL;rfl
 |a::l=>by unfold dL;rw[ANU l];rfl
theorem Sv(k n:Nat)(nm ty:Bs)(ar:Bool)(ks:List Ex):dE (.mk k n nm ty ar ks)=ARX k (ks.map dE):=by unfold dE;rw[ANU]
def ARW(k:Nat)(ks:List Nat):Nat:=match k with|7=>Wp ks 0+1|8=>Wp ks 0+1|12=>Wp ks 0+1|13=>Wp ks 0+1|_=>0
mutual
def cE:Ex->Nat
 |.mk k _ _ _ _ ks=>ARW k (cL ks)
def cL:List Ex->List Nat
 |[]=>[]
 |e::l=>cE e::cL l
end
theorem AMB:∀l:List Ex,cL l=l.map cE
 |[]=>by unfold cL;rfl
 |a::l=>by unfold cL;rw[AMB l];rfl
theorem Ux(k n:Nat)(nm ty:Bs)(ar:Bool)(ks:List Ex):cE (.mk k n nm ty ar ks)=ARW k (ks.map cE):=by unfold cE;rw[AMB]
theorem FP(k n:Nat)(nm ty:Bs)(ar:Bool)(ks:List Ex):nE (.mk k n nm ty ar ks)=1+nL ks:=by unfold nE;rfl
theorem ZJ(a:Ex)(l:List Ex):nL (a::l)=nE a+nL l:=by rw[nL]
theorem lI:nL []=0:=by rw[nL]
theorem AW8{e:Ex}(h:Wr e):cE e<=nE e:=by
 induction h with
 |get h ha ih=>rw[Ux,FP,ZJ];show cE _+1<=_;omega
 |call h ha hk hn ih=>rw[Ux,FP,ZJ];show cE _+1<=_;omega
 |elm ha hb ih=>rw[Ux,FP,ZJ];show cE _+1<=_;omega
 |len ha ih=>rw[Ux,FP,ZJ];show cE _+1<=_;omega
 |_=>rw[Ux];exact Nat.zero_le _
def oT(v:Tok)(w:Bs):Bool:=(decide (v.kind=1)||decide (v.kind=5))&&decide (v.text=w)
theorem UR{v:Tok}{w:Bs}{q:List Tok}{d:Nat}:Qy w ⟨v,q,d,0⟩=oT v w:=by show(decide (0=0)&&oT v w)=oT v w;rfl
theorem ADF{l w:Bs}:oT (M l) w=decide (l=w):=rfl
theorem AXT{l w:Bs}:oT (W l) w=decide (l=w):=rfl
def Bad(d:Nat){α:Type}(x:Option (α×S)):Prop:=∃e t r,x=some (e,⟨t,r,d,3⟩)
def RV{α:Type}(e:α)(d D:Nat)(v:Tok)(q:List Tok)(x:Option (α×S)):Prop:=(d+D<=100->x=some (e,⟨v,q,d,0⟩))/\(100<d+D->Bad d x)
def Stp(v:Tok):Prop:=(∀w∈opsL,oT v w=false)/\(∀w∈AF2,oT v w=false)/\oT v Au=false
theorem Stp.op{v:Tok}(h:Stp v){q:List Tok}{d:Nat}:WY ⟨v,q,d,0⟩:=λw hw=>UR.trans (h.1 w hw)
theorem Stp.tl{v:Tok}(h:Stp v){q:List Tok}{d:Nat}:ADk ⟨v,q,d,0⟩:=λw hw=>UR.trans (h.2.1 w hw)
theorem Sl{t:Tok}{r:List Tok}{d:Nat}:(⟨t,r,d,3⟩:S).e≠0:=show(3:Nat)≠0 by decide
theorem AAo{t:Tok}{r:List Tok}{d:Nat}:WY ⟨t,r,d,3⟩:=λ_ _=>NI Sl
theorem ADf{t:Tok}{r:List Tok}{d:Nat}:ADk ⟨t,r,d,3⟩:=λ_ _=>NI Sl
def E1(rec:PM Ex)(e:Ex):Prop:=∀d v q,d<=100->Stp v->RV e d (dE e+1) v q (rec (S.of (tokE e++v::q) d))
def yL(k:Nat)(nm ty:Bs)(ks:List (List Tok)):List Tok:=
 match k with
 |10=>[W Ib,U ty]
 |14=>M Dq::OX ks 0
 |15=>M IV::OX ks 0
 |16=>OX ks 0++M nm::OX ks 1
 |17=>OX ks 0++M L9::OX ks 1
 |18=>OX ks 0++M W9::OX ks 1
 |19=>OX ks 0++[W RP,U ty]
 |20=>OX ks 0++[W OC,U ty]
 |_=>[]
def iE:Ex->List Tok
 |.mk k _ nm ty _ ks=>yL k nm ty (ks.map tokE)
def brE(e:Ex):Bool:=decide (e.kind=10)||decide (14<=e.kind)
def I1(rec:PM Ex)(e:Ex):Prop:=brE e=true->∀d q,d<=100->RV e d (dE e) (M BD) q (rec (S.of (iE e++M BD::q) d))
theorem AOy{e:Ex}(h:Wr e)(hb:brE e=true):tokE e=M Au::(iE e++[M BD]):=by
 cases h<;>first|(exfalso;revert hb;exact(λh=>Bool.noConfusion h))|skip
 all_goals rw[Bl]
 all_goals simp[YK,iE,yL,OX]
def APR:List Bs:=[Wv,Rk,Qp,XB,Ib,Au]
def HdK(l:List Tok):Prop:=∃t r,l=t::r/\∀w,w∉APR->oT t w=false
theorem HdK.app{l:List Tok}(h:HdK l)(r:List Tok):HdK (l++r):=by obtain⟨t,q,rfl,h⟩:=h;exact⟨t,q++r,rfl,h⟩
theorem hdK{e:Ex}(h:Wr e):HdK (tokE e):=by
 have wd:∀{l:Bs} {r:List Tok},l∈APR->HdK (W l::r):=λ{l r} hl=>⟨_,_,rfl,λw hw=>by rw[AXT];exact decide_eq_false λe=>hw (e▸hl)⟩
 have mk:∀{r:List Tok},HdK (M Au::r):=λ{r}=>⟨_,_,rfl,λw hw=>by rw[ADF];exact decide_eq_false λe=>hw (e▸by decide)⟩
 have no:∀{t:Tok} {r:List Tok},t.kind≠1->t.kind≠5->HdK (t::r):=λ{t r} h1 h5=>⟨_,_,rfl,λw _=>by simp[oT,h1,h5]⟩
 induction h with
 |num h=>rw[Bl];exact no (by simp[N]) (by simp[N])
 |tru=>rw[Bl];exact wd (by decide)
 |fls=>rw[Bl];exact wd (by decide)
 |nul=>rw[Bl];exact wd (by decide)
 |ths=>rw[Bl];exact wd (by decide)
 |loc h=>rw[Bl];exact no (by simp[L]) (by simp[L])
 |get h ha ih=>rw[Bl];exact ih.app _
 |call h ha hk hn ih=>rw[Bl];exact ih.app _
 |stat h hu hk hn=>rw[Bl];exact no (by simp[U]) (by simp[U])
 |new hu=>rw[Bl];exact mk
 |arr hu ha ih=>rw[Bl];exact wd (by decide)
 |elm ha hb ih=>rw[Bl];exact ih.app _
 |len ha ih=>rw[Bl];exact ih.app _
 |neg ha ih=>rw[Bl];exact mk
 |not ha ih=>rw[Bl];exact mk
 |bin ho ha hb=>rw[Bl];exact mk
 |and ha hb=>rw[Bl];exact mk
 |or ha hb=>rw[Bl];exact mk
 |asx hu ha=>rw[Bl];exact mk
 |isx hu ha=>rw[Bl];exact mk
def PP(rec:PM Ex)(f g:Nat)(s:S):Option (Ex×S):=(Qc rec f s).bind λp=>Jo rec g p.1 p.2
theorem oI{rec:PM Ex}{f g:Nat}{s s':S}{e:Ex}(h:Qc rec f s=some (e,s')):PP rec f g s=Jo rec g e s':=by unfold PP;rw[h];rfl
theorem AHb{rec:PM Ex}{f g:Nat}{s:S}{d:Nat}(h:Bad d (Qc rec f s)):Bad d (PP rec f (g+1) s):=by
 obtain⟨e,t,r,h⟩:=h
 exact⟨e,t,r,by rw[oI h];exact aH ADf⟩
def ou(rec:PM Ex)(e:Ex)(f g d D:Nat)(v:Tok)(q:List Tok)(s:S):Prop:=(d+D<=100->PP rec f (g+cE e) s=Jo rec g e ⟨v,q,d,0⟩)/\(100<d+D->Bad d (PP rec f (g+cE e+1) s))
section
variable{rec:PM Ex}{f d:Nat}{u:Tok}{r:List Tok}
def AE4(b:Bool)(ks:List Ex):List Tok:=match ks with|[]=>[]|a::l=>(bif b then[M CY]else[])++(tokE a++(l.map tokE).flatMap λb=>M CY::b)
theorem AKO(ks:List Ex):AE4 false ks=La (ks.map tokE):=by cases ks<;>rfl
theorem AM7(a:Ex)(l:List Ex)(b:Bool):AE4 b (a::l)=(bif b then[M CY]else[])++(tokE a++AE4 true l):=by
 cases l with
 |nil=>simp[AE4]
 |cons c l=>simp[AE4]
theorem AL3{out:List Ex}{v:Tok}{q:List Tok}:MB rec (f+1) out ⟨M BD,v::q,d,0⟩=some (out,⟨v,q,d,0⟩):=rfl
theorem AKP{out:List Ex}{s:S}(h:s.e≠0):MB rec (f+1) out s=some (out,s):=by
 show(bif s.ok then _ else some (out,s))=_
 rw[U4 h];rfl
theorem AFy{out:List Ex}{t:Tok}{q:List Tok}(h:oT t BD=false):MB rec (f+1) out ⟨t,q,d,0⟩=(bif decide (0<out.length)then BM [CY] ⟨t,q,d,0⟩else some ⟨t,q,d,0⟩).bind λs1=>(rec s1).bind λq=>MB rec f (out++[q.1]) (D9 (out.length+1) q.2):=by
 show((BZ BD ⟨t,q,d,0⟩).bind λp=>bif p.1 then some (out,p.2)else(bif decide (0<out.length)then BM [CY] p.2 else some p.2).bind λs1=>(rec s1).bind λq=>MB rec f (out++[q.1]) (D9 (out.length+1) q.2))=_
 rw[Rw (UR.trans h)];rfl
theorem AAH{n:Nat}{s:S}(h:n<=200):D9 n s=s:=by unfold D9;rw[decide_eq_false (by omega)];rfl
theorem AF0{n:Nat}{s:S}(h:s.e≠0):D9 n s=s:=by unfold D9;rw[PS h,Bool.cond_self]
theorem ru{l:Bs}(h:(opsL++(AF2++[Au])).all (λw=> !decide (l=w))=true):Stp (M l):=by
 have h:∀w∈opsL++(AF2++[Au]),oT (M l) w=false:=λw hw=>by
  rw[ADF]
  simpa using List.all_eq_true.1 h w hw
 exact⟨λw hw=>h w (List.mem_append_left _ hw),λw hw=>h w (List.mem_append_right _ (List.mem_append_left _ hw)),h _ (List.mem_append_right _ (List.mem_append_right _ List.mem_cons_self))⟩
theorem AM4:∀(ks:List Ex) (out:List Ex) (d:Nat) (v:Tok) (q:List Tok) (f:Nat),(∀x∈ks,Wr x/\E1 rec x)->d<=100->out.length+ks.length<=200->ks.length+2<=f->
 RV (out++ks) d (ACD (ks.map dE)) v q (MB rec f out (S.of (AE4 (decide (0<out.length)) ks++M BD::v::q) d))
 |[],out,d,v,q,f,_,hd,_,hf=>by
  obtain⟨f,rfl⟩:∃g,f=g+1:=⟨f-1,by omega⟩
  rw[List.append_nil]
  exact⟨λ_=>AL3,λh=>by simp[ACD,maxL]at h;omega⟩
 |a::ks,out,d,v,q,f,hx,hd,hn,hf=>by
  obtain⟨f,rfl⟩:∃g,f=g+1:=⟨f-1,by omega⟩
  have hn:out.length+(ks.length+1)<=200:=by simpa using hn
  have hf:ks.length+2<=f:=by
   have:ks.length+1+2<=f+1:=by simpa using hf
   omega
  obtain⟨wa,ea⟩:=hx a List.mem_cons_self
  rw[AM7]
  have hl:(out++[a]).length=out.length+1:=by simp
  have ih:=AM4 ks (out++[a]) d v q f (λx hx'=>hx x (List.mem_cons_of_mem _ hx')) hd (by rw[hl];omega) hf
  rw[hl,decide_eq_true (show 0<out.length+1 by omega),List.append_assoc,List.singleton_append]at ih
  have hD:ACD ((a::ks).map dE)=max (dE a+1) (ACD (ks.map dE)):=rfl
  rw[hD]
  obtain⟨v',q',hv',hs'⟩:∃v' q',AE4 true ks++M BD::v::q=v'::q'/\Stp v':=by
   cases ks with
   |nil=>exact⟨_,_,rfl,ru (by decide)⟩
   |cons b ks=>rw[AM7];exact⟨_,_,rfl,ru (by decide)⟩
  rw[hv']at ih
  have e1:=ea d v' q' hd hs'
  obtain⟨t,l,ht,hh⟩:=hdK wa
  have hstart:MB rec (f+1) out (S.of (((bif decide (0<out.length)then[M CY]else[])++(tokE a++AE4 true ks))++M BD::v::q) d)=(rec (S.of (tokE a++v'::q') d)).bind λq=>MB rec f (out++[q.1]) (D9 (out.length+1) q.2):=by
   rw[List.append_assoc,List.append_assoc,hv',ht]
   cases hz:decide (0<out.length)with
   |false=>
    show MB rec (f+1) out ⟨t,l++v'::q',d,0⟩=_
    rw[AFy (hh BD (by decide)),hz];rfl
   |true=>
    show MB rec (f+1) out ⟨M CY,t::(l++v'::q'),d,0⟩=_
    rw[AFy (by rw[ADF];decide),hz]
    show((BM [CY] ⟨M CY,t::(l++v'::q'),d,0⟩).bind _)=_
    rw[QY];rfl
  rw[hstart]
  have hm:D9 (out.length+1) ⟨v',q',d,0⟩=⟨v',q',d,0⟩:=AAH (by omega)
  constructor
  ·intro h
   rw[e1.1 (by omega)]
   show MB rec f (out++[a]) (D9 (out.length+1) ⟨v',q',d,0⟩)=_
   rw[hm];exact ih.1 (by omega)
  ·intro h
   by_cases hda:d+(dE a+1)<=100
   ·rw[e1.1 hda]
    show Bad d (MB rec f (out++[a]) (D9 (out.length+1) ⟨v',q',d,0⟩))
    rw[hm];exact ih.2 (by omega)
   ·obtain⟨e',t',r',h'⟩:=e1.2 (by omega)
    rw[h']
    obtain⟨f',rfl⟩:∃g,f=g+1:=⟨f-1,by omega⟩
    exact⟨_,t',r',by
     show MB rec (f'+1) (out++[e']) (D9 (out.length+1) ⟨t',r',d,3⟩)=_
     rw[AF0 Sl];exact AKP Sl⟩
theorem AJf{ks:List Ex}{v:Tok}{q:List Tok}(hx:∀x∈ks,Wr x/\E1 rec x)(hd:d<=100)(hn:ks.length<=200)(hf:ks.length+2<=f):
 RV ks d (ACD (ks.map dE)) v q (XF rec f (S.of (M Au::(La (ks.map tokE)++M BD::v::q)) d)):=by
 have h:=AM4 (rec:=rec) ks [] d v q f hx hd (by simpa using hn) hf
 rw[show decide (0<([]:List Ex).length)=false from rfl,AKO]at h
 obtain⟨t,l,hl⟩:∃t l,La (ks.map tokE)++M BD::v::q=t::l:=by
  cases hj:La (ks.map tokE)with
  |nil=>exact⟨_,_,rfl⟩
  |cons a b=>exact⟨_,_,rfl⟩
 rw[hl]at h⊢
 have:XF rec f (S.of (M Au::t::l) d)=MB rec f [] (S.of (t::l) d):=by
  show((BM [Au] ⟨M Au,t::l,d,0⟩).bind λs1=>MB rec f [] s1)=_
  rw[QY];rfl
 rw[this];exact h
theorem AGL{I:List Tok}{q:List Tok}(hI:I≠[])(h:Bad d (rec (S.of (I++q) d))):Bad d (Qc rec f (S.of (M Au::(I++q)) d)):=by
 obtain⟨e,t,r,h⟩:=h
 cases I with
 |nil=>exact absurd rfl hI
 |cons a I=>
  refine⟨e,t,r,?_⟩
  show((rec ⟨a,I++q,d,0⟩).bind λx=>(BM [BD] x.2).bind λs1=>some (x.1,s1))=_
  rw[show rec ⟨a,I++q,d,0⟩=_ from h]
  show((BM [BD] ⟨t,r,d,3⟩).bind λs1=>some (e,s1))=_
  rw[UM Sl];rfl
theorem AQY{e:Ex}(h:Wr e)(hb:brE e=true):iE e≠[]:=by
 cases h<;>first|(exfalso;revert hb;exact(λh=>Bool.noConfusion h))|skip
 all_goals simp[iE,yL,OX]
theorem AFU{e:Ex}{g:Nat}{v:Tok}{q:List Tok}(he:Wr e)(hb:brE e=true)(h:I1 rec e)(hd:d<=100):ou rec e f g d (dE e) v q (S.of (tokE e++v::q) d):=by
 have hI:=h hb d (v::q) hd
 have hne:=AQY he hb
 rw[AOy he hb,show(M Au::(iE e++[M BD]))++v::q=M Au::(iE e++M BD::v::q)by simp]
 have hc:cE e=0:=by
  cases he<;>first|(exfalso;revert hb;exact(λh=>Bool.noConfusion h))|(rw[Ux];rfl)
 rw[ou,hc]
 refine⟨λh1=>?_,λh1=>AHb (AGL hne (hI.2 h1))⟩
 cases ht:iE e with
 |nil=>exact absurd ht hne
 |cons a I=>
  rw[ht]at hI
  exact oI (AO6 (u:=a) (r:=I++M BD::v::q) (hI.1 h1))
theorem mW{g:Nat}{e:Ex}{t:Tok}{q:List Tok}:Jo rec (g+1) e ⟨M DJ,t::q,d,0⟩=(TQ rec g e ⟨t,q,d,0⟩).bind λq=>Jo rec g q.1 q.2:=rfl
theorem AFi{g:Nat}{e:Ex}{t:Tok}{q:List Tok}:Jo rec (g+1) e ⟨M Fe,t::q,d,0⟩=(rec ⟨t,q,d,0⟩).bind λq=>(BM [FV] q.2).bind λs1=>Jo rec g (.mk 12 0 [] [] false [e,q.1]) s1:=rfl
theorem AQ2{g:Nat}{e:Ex}{v:Tok}{q:List Tok}:TQ rec g e ⟨W G7,v::q,d,0⟩=some (.mk 13 0 [] [] false [e],⟨v,q,d,0⟩):=rfl
theorem ABR{g:Nat}{e:Ex}{l:Bs}{v:Tok}{q:List Tok}:TQ rec g e ⟨L l,v::q,d,0⟩=bif oT v Au then(XF rec g ⟨v,q,d,0⟩).bind λa=>some (.mk 8 0 l [] false (e::a.1),a.2)else some (.mk 7 0 l [] false [e],⟨v,q,d,0⟩):=by
 have h0:TQ rec g e ⟨L l,v::q,d,0⟩=bif Hq [Au] ⟨v,q,d,0⟩then(XF rec g ⟨v,q,d,0⟩).bind λa=>some (.mk 8 0 l [] false (e::a.1),a.2)else some (.mk 7 0 l [] false [e],⟨v,q,d,0⟩):=rfl
 rw[h0,show Hq [Au] (⟨v,q,d,0⟩:S)=oT v Au from(Bool.or_false _).trans UR]
end
theorem ANH{e:Ex}(he:Wr e):∀{rec:PM Ex} {f:Nat},(∀x,Wr x->nE x<nE e->E1 rec x)->(∀x,Wr x->nE x<=nE e->I1 rec x)->nE e+2<=f->∀(d:Nat) (v:Tok) (q:List Tok) (g:Nat),oT v Au=false->d<=100->nE e+2<=g->ou rec e f g d (dE e) v q (S.of (tokE e++v::q) d):=by
 induction he with
 |num h=>intro rec f hE hI hf d v q g hv hd hg;rw[Bl,Sv,ou,Ux];exact⟨λ_=>oI ANn,λh=>absurd (show 100<d+0 from h) (by omega)⟩
 |tru=>intro rec f hE hI hf d v q g hv hd hg;rw[Bl,Sv,ou,Ux];exact⟨λ_=>oI AJy,λh=>absurd (show 100<d+0 from h) (by omega)⟩
 |fls=>intro rec f hE hI hf d v q g hv hd hg;rw[Bl,Sv,ou,Ux];exact⟨λ_=>oI AID,λh=>absurd (show 100<d+0 from h) (by omega)⟩
 |nul=>intro rec f hE hI hf d v q g hv hd hg;rw[Bl,Sv,ou,Ux];exact⟨λ_=>oI AJq,λh=>absurd (show 100<d+0 from h) (by omega)⟩
 |ths=>intro rec f hE hI hf d v q g hv hd hg;rw[Bl,Sv,ou,Ux];exact⟨λ_=>oI AJ5,λh=>absurd (show 100<d+0 from h) (by omega)⟩
 |loc h=>intro rec f hE hI hf d v q g hv hd hg;rw[Bl,Sv,ou,Ux];exact⟨λ_=>oI AH7,λh=>absurd (show 100<d+0 from h) (by omega)⟩
 | @get l a h ha ih=>
  intro rec f hE hI hf d v q g hv hd hg
  have hn:=FP 7 0 l [] false [a]
  rw[ZJ,lI]at hn
  have ih:=ih (λx w hx=>hE x w (by omega)) (λx w hx=>hI x w (by omega)) (by omega:_<=f) d (M DJ) (L l::v::q)
  rw[Bl,Sv,ou,Ux,show YK 7 0 l [] ([a].map tokE)++v::q=tokE a++M DJ::L l::v::q by simp[YK,OX]]
  show(d+dE a<=100->PP rec f (g+(cE a+1)) _=_)/\(100<d+dE a->Bad d (PP rec f (g+(cE a+1)+1) _))
  constructor
  ·intro hok
   have:=(ih (g+1) rfl hd (by omega)).1 hok
   rw[show g+(cE a+1)=g+1+cE a by omega,this,mW,ABR,hv];rfl
  ·intro hb
   have:=(ih (g+1) rfl hd (by omega)).2 hb
   rw[show g+(cE a+1)+1=g+1+cE a+1 by omega];exact this
 | @call l a ks h ha hk hn ih ihk=>
  intro rec f hE hI hf d v q g hv hd hg
  have hn':=FP 8 0 l [] false (a::ks)
  rw[ZJ]at hn'
  have hlen:=AAz ks
  have ih:=ih (λx w hx=>hE x w (by omega)) (λx w hx=>hI x w (by omega)) (by omega:_<=f) d (M DJ) (L l::M Au::(La (ks.map tokE)++M BD::v::q))
  have hargs:∀g',ks.length+2<=g'->RV ks d (ACD (ks.map dE)) v q (XF rec g' (S.of (M Au::(La (ks.map tokE)++M BD::v::q)) d)):=λg' hg'=>
   AJf (λx hx=>⟨hk x hx,hE x (hk x hx) (by have:=ABX hx;have:=U7 a;omega)⟩) hd hn hg'
  rw[Bl,Sv,ou,Ux,show YK 8 0 l [] ((a::ks).map tokE)++v::q=tokE a++M DJ::L l::M Au::(La (ks.map tokE)++M BD::v::q)by simp[YK,OX]]
  show(d+max (dE a) (ACD (ks.map dE))<=100->PP rec f (g+(cE a+1)) _=_)/\(100<d+max (dE a) (ACD (ks.map dE))->Bad d (PP rec f (g+(cE a+1)+1) _))
  constructor
  ·intro hok
   have:=(ih (g+1) rfl hd (by omega)).1 (by omega)
   rw[show g+(cE a+1)=g+1+cE a by omega,this,mW,ABR]
   show((XF rec g (S.of (M Au::(La (ks.map tokE)++M BD::v::q)) d)).bind λb=>some (Ex.mk 8 0 l [] false (a::b.1),b.2)).bind _=_
   rw[(hargs g (by omega)).1 (by omega)];rfl
  ·intro hb
   rw[show g+(cE a+1)+1=g+2+cE a by omega]
   by_cases hda:d+dE a<=100
   ·rw[(ih (g+2) rfl hd (by omega)).1 hda,mW,ABR]
    obtain⟨b,t,r,hx⟩:=(hargs (g+1) (by omega)).2 (by omega)
    refine⟨.mk 8 0 l [] false (a::b),t,r,?_⟩
    show((XF rec (g+1) (S.of (M Au::(La (ks.map tokE)++M BD::v::q)) d)).bind λb=>some (Ex.mk 8 0 l [] false (a::b.1),b.2)).bind (λq=>Jo rec (g+1) q.1 q.2)=_
    rw[hx]
    show Jo rec (g+1) (Ex.mk 8 0 l [] false (a::b)) ⟨t,r,d,3⟩=_
    exact aH ADf
   ·rw[show g+2+cE a=g+1+cE a+1 by omega];exact(ih (g+1) rfl hd (by omega)).2 (by omega)
 | @stat l u ks h hu hk hn ihk=>
  intro rec f hE hI hf d v q g hv hd hg
  have hn':=FP 9 0 l u false ks
  have hlen:=AAz ks
  have hargs:=AJf (rec:=rec) (f:=f) (d:=d) (ks:=ks) (v:=v) (q:=q) (λx hx=>⟨hk x hx,hE x (hk x hx) (by have:=ABX hx;omega)⟩) hd hn (by omega)
  rw[Bl,Sv,ou,Ux,show YK 9 0 l u (ks.map tokE)++v::q=U u::M DJ::L l::M Au::(La (ks.map tokE)++M BD::v::q)by simp[YK]]
  have hp:Qc rec f (S.of (U u::M DJ::L l::M Au::(La (ks.map tokE)++M BD::v::q)) d)=(XF rec f (S.of (M Au::(La (ks.map tokE)++M BD::v::q)) d)).bind λa=>some (.mk 9 0 l u false a.1,a.2):=rfl
  constructor
  ·intro hok
   refine oI ?_
   rw[hp,hargs.1 hok];rfl
  ·intro hb
   refine AHb ?_
   obtain⟨b,t,r,hx⟩:=hargs.2 hb
   exact⟨_,t,r,by rw[hp,hx];rfl⟩
 |new hu=>intro rec f hE hI hf d v q g hv hd hg;exact AFU (.new hu) rfl (hI _ (.new hu) (Nat.le_refl _)) hd
 | @arr u a hu ha ih=>
  intro rec f hE hI hf d v q g hv hd hg
  have hn:=FP 11 0 [] u false [a]
  rw[ZJ,lI]at hn
  have e1:=hE a ha (by omega) d (M FV) (v::q) hd (ru (by decide))
  rw[Bl,Sv,ou,Ux,show YK 11 0 [] u ([a].map tokE)++v::q=W Ib::U9 u::M Fe::(tokE a++M FV::v::q)by simp[YK,OX]]
  obtain⟨t,l,ht,_⟩:=hdK ha
  have hp:Qc rec f (S.of (W Ib::U9 u::M Fe::(tokE a++M FV::v::q)) d)=(rec (S.of (tokE a++M FV::v::q) d)).bind λx=>(BM [FV] x.2).bind λs1=>some (.mk 11 0 [] u false [x.1],s1):=by
   rw[ht]
   unfold U9
   cases huu:ZV u with
   |true=>rfl
   |false=>
    simp only[jZ,huu,Bool.or_false,Bool.or_eq_true,decide_eq_true_eq]at hu
    rcases hu with rfl|rfl<;>rfl
  show(d+(dE a+1)<=100->_)/\(100<d+(dE a+1)->_)
  constructor
  ·intro hok
   refine oI ?_
   rw[hp,e1.1 hok]
   show((BM [FV] ⟨M FV,v::q,d,0⟩).bind λs1=>some (Ex.mk 11 0 [] u false [a],s1))=_
   rw[QY];rfl
  ·intro hb
   refine AHb ?_
   obtain⟨b,t',r',hx⟩:=e1.2 hb
   refine⟨.mk 11 0 [] u false [b],t',r',?_⟩
   rw[hp,hx]
   show((BM [FV] ⟨t',r',d,3⟩).bind λs1=>some (Ex.mk 11 0 [] u false [b],s1))=_
   rw[UM Sl];rfl
 | @elm a b ha hb' iha ihb=>
  intro rec f hE hI hf d v q g hv hd hg
  have hn:=FP 12 0 [] [] false [a,b]
  rw[ZJ,ZJ,lI]at hn
  have hpa:=U7 a
  have hpb:=U7 b
  have ih:=iha (λx w hx=>hE x w (by omega)) (λx w hx=>hI x w (by omega)) (by omega:_<=f) d (M Fe) (tokE b++M FV::v::q)
  have e1:=hE b hb' (by omega) d (M FV) (v::q) hd (ru (by decide))
  rw[Bl,Sv,ou,Ux,show YK 12 0 [] [] ([a,b].map tokE)++v::q=tokE a++M Fe::(tokE b++M FV::v::q)by simp[YK,OX]]
  obtain⟨t,l,ht,_⟩:=hdK hb'
  rw[ht]at ih e1⊢
  show(d+max (dE a) (dE b+1)<=100->PP rec f (g+(cE a+1)) _=_)/\(100<d+max (dE a) (dE b+1)->Bad d (PP rec f (g+(cE a+1)+1) _))
  have e1:RV b d (dE b+1) (M FV) (v::q) (rec ⟨t,l++M FV::v::q,d,0⟩):=e1
  constructor
  ·intro hok
   have:=(ih (g+1) rfl hd (by omega)).1 (by omega)
   rw[show g+(cE a+1)=g+1+cE a by omega,this,List.cons_append,AFi,e1.1 (by omega)]
   show(BM [FV] ⟨M FV,v::q,d,0⟩).bind _=_
   rw[QY];rfl
  ·intro hb
   rw[show g+(cE a+1)+1=g+2+cE a by omega]
   by_cases hda:d+dE a<=100
   ·rw[(ih (g+2) rfl hd (by omega)).1 hda,List.cons_append,AFi]
    obtain⟨x,t',r',hx⟩:=e1.2 (by omega)
    refine⟨.mk 12 0 [] [] false [a,x],t',r',?_⟩
    rw[hx]
    show((BM [FV] ⟨t',r',d,3⟩).bind λs1=>Jo rec (g+1) (Ex.mk 12 0 [] [] false [a,x]) s1)=_
    rw[UM Sl]
    show Jo rec (g+1) (Ex.mk 12 0 [] [] false [a,x]) ⟨t',r',d,3⟩=_
    exact aH ADf
   ·rw[show g+2+cE a=g+1+cE a+1 by omega];exact(ih (g+1) rfl hd (by omega)).2 (by omega)
 | @len a ha ih=>
  intro rec f hE hI hf d v q g hv hd hg
  have hn:=FP 13 0 [] [] false [a]
  rw[ZJ,lI]at hn
  have ih:=ih (λx w hx=>hE x w (by omega)) (λx w hx=>hI x w (by omega)) (by omega:_<=f) d (M DJ) (W G7::v::q)
  rw[Bl,Sv,ou,Ux,show YK 13 0 [] [] ([a].map tokE)++v::q=tokE a++M DJ::W G7::v::q by simp[YK,OX]]
  show(d+dE a<=100->PP rec f (g+(cE a+1)) _=_)/\(100<d+dE a->Bad d (PP rec f (g+(cE a+1)+1) _))
  constructor
  ·intro hok
   have:=(ih (g+1) rfl hd (by omega)).1 hok
   rw[show g+(cE a+1)=g+1+cE a by omega,this,mW,AQ2];rfl
  ·intro hb
   have:=(ih (g+1) rfl hd (by omega)).2 hb
   rw[show g+(cE a+1)+1=g+1+cE a+1 by omega];exact this
 |neg ha ih=>intro rec f hE hI hf d v q g hv hd hg;exact AFU (.neg ha) rfl (hI _ (.neg ha) (Nat.le_refl _)) hd
 |not ha ih=>intro rec f hE hI hf d v q g hv hd hg;exact AFU (.not ha) rfl (hI _ (.not ha) (Nat.le_refl _)) hd
 |bin ho ha hb=>intro rec f hE hI hf d v q g hv hd hg;exact AFU (.bin ho ha hb) rfl (hI _ (.bin ho ha hb) (Nat.le_refl _)) hd
 |and ha hb=>intro rec f hE hI hf d v q g hv hd hg;exact AFU (.and ha hb) rfl (hI _ (.and ha hb) (Nat.le_refl _)) hd
 |or ha hb=>intro rec f hE hI hf d v q g hv hd hg;exact AFU (.or ha hb) rfl (hI _ (.or ha hb) (Nat.le_refl _)) hd
 |asx hu ha=>intro rec f hE hI hf d v q g hv hd hg;exact AFU (.asx hu ha) rfl (hI _ (.asx hu ha) (Nat.le_refl _)) hd
 |isx hu ha=>intro rec f hE hI hf d v q g hv hd hg;exact AFU (.isx hu ha) rfl (hI _ (.isx hu ha) (Nat.le_refl _)) hd
def mulL:List Bs:=[X8,Tq,tu]
def AFz:List Bs:=[cO,Dq]
def cmpL:List Bs:=[WX,gB,UW,fM]
def top(un:PM Ex)(f:Nat):PM Ex:=either 18 W9 (either 17 L9 (compared un f) f) f
section
variable{un:PM Ex}{f:Nat}{s s1 s2:S}{a b:Ex}
theorem Lr{ws:List Bs}(h:un s=some (a,s1))(hn:Hq ws s1=false):signs ws un (f+1) s=some (a,s1):=by
 unfold signs;rw[h]
 show(bif Hq ws s1 then _ else some (a,s1))=_
 rw[hn];rfl
theorem AGj{ws:List Bs}{o:Bs}{u:Tok}{q:List Tok}{d:Nat}(h:un s=some (a,⟨M o,u::q,d,0⟩))(ho:Hq ws ⟨M o,u::q,d,0⟩=true)(hb:un ⟨u,q,d,0⟩=some (b,s2))(hn:Hq ws s2=false):
 signs ws un (f+2) s=some (.mk 16 0 o [] false [a,b],s2):=by
 unfold signs;rw[h]
 show(bif Hq ws ⟨M o,u::q,d,0⟩then(Hu ⟨M o,u::q,d,0⟩).bind λs1=>(un s1).bind λp=>Xz ws un (f+1) (.mk 16 0 o [] false [a,p.1]) p.2 else _)=_
 rw[ho,tY (by simp[M])]
 show(un ⟨u,q,d,0⟩).bind _=_
 rw[hb]
 show(bif Hq ws s2 then _ else some (Ex.mk 16 0 o [] false [a,b],s2))=_
 rw[hn];rfl
theorem AGr(h:sumP un (f+1) s=some (a,s1))(hn:Hq cmpL s1=false):compared un (f+1) s=some (a,s1):=by
 unfold compared;rw[h]
 show(bif Hq cmpL s1 then _ else some (a,s1))=_
 rw[hn];rfl
theorem ATz{o:Bs}{u:Tok}{q:List Tok}{d:Nat}(h:sumP un (f+1) s=some (a,⟨M o,u::q,d,0⟩))(ho:Hq cmpL ⟨M o,u::q,d,0⟩=true)(hb:sumP un (f+1) ⟨u,q,d,0⟩=some (b,s2)):
 compared un (f+1) s=some (.mk 16 0 o [] false [a,b],s2):=by
 unfold compared;rw[h]
 show(bif Hq cmpL ⟨M o,u::q,d,0⟩then(Hu ⟨M o,u::q,d,0⟩).bind λs1=>(sumP un (f+1) s1).bind λp=>some (Ex.mk 16 0 o [] false [a,p.1],p.2)else _)=_
 rw[ho,tY (by simp[M])]
 show(sumP un (f+1) ⟨u,q,d,0⟩).bind _=_
 rw[hb];rfl
theorem AAU{k:Nat}{w:Bs}{nx:PM Ex}(h:nx s=some (a,s1))(hn:Hq [w] s1=false):either k w nx (f+1) s=some (a,s1):=by
 unfold either;rw[h]
 show(bif Hq [w] s1 then _ else some (a,s1))=_
 rw[hn];rfl
theorem ARZ{k:Nat}{w:Bs}{nx:PM Ex}{o:Bs}{u:Tok}{q:List Tok}{d:Nat}(h:nx s=some (a,⟨M o,u::q,d,0⟩))(ho:Hq [w] ⟨M o,u::q,d,0⟩=true)(hb:nx ⟨u,q,d,0⟩=some (b,s2))(hn:Hq [w] s2=false):
 either k w nx (f+2) s=some (.mk k 0 [] [] false [a,b],s2):=by
 unfold either;rw[h]
 show(bif Hq [w] ⟨M o,u::q,d,0⟩then(Hu ⟨M o,u::q,d,0⟩).bind λs1=>(nx s1).bind λp=>UK k w nx (f+1) (.mk k 0 [] [] false [a,p.1]) p.2 else _)=_
 rw[ho,tY (by simp[M])]
 show(nx ⟨u,q,d,0⟩).bind _=_
 rw[hb]
 show(bif Hq [w] s2 then _ else some (Ex.mk k 0 [] [] false [a,b],s2))=_
 rw[hn];rfl
theorem WY.is{s:S}(h:WY s){ws:List Bs}(hs:ws.all (λw=>decide (w∈opsL))=true):Hq ws s=false:=h.of ws λw hw=>by simpa using List.all_eq_true.1 hs w hw
theorem up4(h:either 17 L9 (compared un (f+1)) (f+1) s=some (a,s1))(hn:WY s1):top un (f+1) s=some (a,s1):=AAU h (hn.is (by decide))
theorem up3(h:compared un (f+1) s=some (a,s1))(hn:WY s1):top un (f+1) s=some (a,s1):=up4 (AAU h (hn.is (by decide))) hn
theorem up2(h:sumP un (f+1) s=some (a,s1))(hn:WY s1):top un (f+1) s=some (a,s1):=up3 (AGr h (hn.is (by decide))) hn
theorem up1(h:signs mulL un (f+1) s=some (a,s1))(hn:WY s1):top un (f+1) s=some (a,s1):=up2 (Lr (ws:=AFz) h (hn.is (by decide))) hn
theorem up0(h:un s=some (a,s1))(hn:WY s1):top un (f+1) s=some (a,s1):=up1 (Lr h (hn.is (by decide))) hn
theorem APe{o:Bs}{u:Tok}{q:List Tok}{d:Nat}(ho:o∈AEi)(h:un s=some (a,⟨M o,u::q,d,0⟩))(hb:un ⟨u,q,d,0⟩=some (b,s2))(hn:WY s2):top un (f+2) s=some (.mk 16 0 o [] false [a,b],s2):=by
 have mul:Hq mulL ⟨M o,u::q,d,0⟩=true->top un (f+2) s=some (.mk 16 0 o [] false [a,b],s2):=λho=>up1 (AGj h ho hb (hn.is (by decide))) hn
 have add:Hq mulL ⟨M o,u::q,d,0⟩=false->Hq AFz ⟨M o,u::q,d,0⟩=true->top un (f+2) s=some (.mk 16 0 o [] false [a,b],s2):=λh1 ho=>
  up2 (AGj (ws:=AFz) (un:=signs mulL un (f+2)) (Lr h h1) ho (Lr hb (hn.is (by decide))) (hn.is (by decide))) hn
 have cmp:Hq mulL ⟨M o,u::q,d,0⟩=false->Hq AFz ⟨M o,u::q,d,0⟩=false->Hq cmpL ⟨M o,u::q,d,0⟩=true->top un (f+2) s=some (.mk 16 0 o [] false [a,b],s2):=λh1 h2 ho=>
  up3 (ATz (Lr (ws:=AFz) (un:=signs mulL un (f+2)) (Lr h h1) h2) ho (Lr (ws:=AFz) (un:=signs mulL un (f+2)) (Lr hb (hn.is (by decide))) (hn.is (by decide)))) hn
 simp only[AEi,List.mem_cons,List.not_mem_nil,or_false]at ho
 rcases ho with rfl|rfl|rfl|rfl|rfl|rfl|rfl|rfl|rfl
 ·exact add rfl rfl
 ·exact add rfl rfl
 ·exact mul rfl
 ·exact mul rfl
 ·exact mul rfl
 ·exact cmp rfl rfl rfl
 ·exact cmp rfl rfl rfl
 ·exact cmp rfl rfl rfl
 ·exact cmp rfl rfl rfl
theorem cmp0(h:un s=some (a,s1))(h1:Hq mulL s1=false)(h2:Hq AFz s1=false)(h3:Hq cmpL s1=false):compared un (f+1) s=some (a,s1):=AGr (Lr (ws:=AFz) (Lr (ws:=mulL) h h1) h2) h3
theorem APb{u:Tok}{q:List Tok}{d:Nat}(h:un s=some (a,⟨M L9,u::q,d,0⟩))(hb:un ⟨u,q,d,0⟩=some (b,s2))(hn:WY s2):top un (f+2) s=some (.mk 17 0 [] [] false [a,b],s2):=
 up4 (ARZ (cmp0 h rfl rfl rfl) rfl (cmp0 hb (hn.is (by decide)) (hn.is (by decide)) (hn.is (by decide))) (hn.is (by decide))) hn
theorem ASv{u:Tok}{q:List Tok}{d:Nat}(h:un s=some (a,⟨M W9,u::q,d,0⟩))(hb:un ⟨u,q,d,0⟩=some (b,s2))(hn:WY s2):top un (f+2) s=some (.mk 18 0 [] [] false [a,b],s2):=
 ARZ (AAU (cmp0 h rfl rfl rfl) rfl) rfl (AAU (cmp0 hb (hn.is (by decide)) (hn.is (by decide)) (hn.is (by decide))) (hn.is (by decide))) (hn.is (by decide))
end
structure Known(rec:PM Ex)(n:Nat):Prop where
 e:∀x,Wr x->nE x<n->E1 rec x
 i:∀x,Wr x->nE x<=n->I1 rec x
theorem ANx{rec:PM Ex}{e:Ex}{f d:Nat}{v:Tok}{q:List Tok}(he:Wr e)(hk:Known rec (nE e))(hf:2*nE e+4<=f)(hv:oT v Au=false)(h1:oT v Fe=false)(h2:oT v DJ=false)(hd:d<=100):
 RV e d (dE e) v q (SV rec f (S.of (tokE e++v::q) d)):=by
 have hc:=AW8 he
 have hp:∀s,SV rec f s=PP rec f f s:=λ_=>rfl
 rw[hp]
 constructor
 ·intro h
  have:=(ANH he hk.e hk.i (by omega:nE e+2<=f) d v q (f-cE e) hv hd (by omega)).1 h
  rw[show f-cE e+cE e=f by omega]at this
  obtain⟨g,hg⟩:∃g,f-cE e=g+1:=⟨f-cE e-1,by omega⟩
  rw[this,hg]
  refine aH λw hw=>?_
  simp only[AF2,List.mem_cons,List.not_mem_nil,or_false]at hw
  rcases hw with rfl|rfl
  ·exact UR.trans h1
  ·exact UR.trans h2
 ·intro h
  have:=(ANH he hk.e hk.i (by omega:nE e+2<=f) d v q (f-cE e-1) hv hd (by omega)).2 h
  rw[show f-cE e-1+cE e+1=f by omega]at this
  exact this
theorem AFR{rec:PM Ex}{f d:Nat}{t:Tok}{r:List Tok}(h1:oT t Dq=false)(h2:oT t IV=false):unary rec (f+1) ⟨t,r,d,0⟩=(SV rec f ⟨t,r,d,0⟩).bind λp=>asL f p.1 p.2:=by
 show(bif Hq [Dq] _ then _ else bif Hq [IV] _ then _ else _)=_
 rw[dW (ws:=[Dq]) λw hw=>by rw[List.mem_singleton.1 hw];exact UR.trans h1,dW (ws:=[IV]) λw hw=>by rw[List.mem_singleton.1 hw];exact UR.trans h2];rfl
theorem uT{f:Nat}{e:Ex}{s:S}(h:Hq [RP,OC] s=false):asL (f+1) e s=some (e,s):=by
 show(bif Hq [RP,OC] s then _ else some (e,s))=_
 rw[h];rfl
theorem ASN{ws:List Bs}{v:Tok}{q:List Tok}{d:Nat}(h:∀w∈ws,oT v w=false):Hq ws ⟨v,q,d,0⟩=false:=dW λw hw=>UR.trans (h w hw)
theorem AHF{rec:PM Ex}{e:Ex}{f d:Nat}{v:Tok}{q:List Tok}(he:Wr e)(hk:Known rec (nE e))(hf:2*nE e+6<=f)(hv:∀w∈[Au,Fe,DJ,RP,OC],oT v w=false)(hd:d<=100):
 RV e d (dE e) v q (unary rec f (S.of (tokE e++v::q) d)):=by
 obtain⟨f,rfl⟩:∃g,f=g+2:=⟨f-2,by omega⟩
 have h:=ANx (f:=f+1) (v:=v) (q:=q) he hk (by omega) (hv _ (by decide)) (hv _ (by decide)) (hv _ (by decide)) hd
 obtain⟨t,l,ht,hh⟩:=hdK he
 rw[ht]at h⊢
 have hu:unary rec (f+2) (S.of (t::l++v::q) d)=(SV rec (f+1) (S.of (t::l++v::q) d)).bind λp=>asL (f+1) p.1 p.2:=AFR (hh _ (by decide)) (hh _ (by decide))
 rw[hu]
 constructor
 ·intro hok
  rw[h.1 hok]
  exact uT (ASN λw hw=>hv w (by revert w;decide))
 ·intro hb
  obtain⟨e',t',r',hx⟩:=h.2 hb
  exact⟨e',t',r',by rw[hx];exact uT (Td Sl)⟩
theorem AV3{rec:PM Ex}{a:Ex}{f d k:Nat}{u w:Bs}{v:Tok}{q:List Tok}(hw:(w=RP/\k=19)∨(w=OC/\k=20))(he:Wr a)(hk:Known rec (nE a))(hf:2*nE a+8<=f)(hv:∀w∈[RP,OC],oT v w=false)(hd:d<=100):
 RV (.mk k 0 [] u false [a]) d (dE a) v q (unary rec f (S.of (tokE a++W w::U u::v::q) d)):=by
 obtain⟨f,rfl⟩:∃g,f=g+3:=⟨f-3,by omega⟩
 have h:=ANx (f:=f+2) (v:=W w) (q:=U u::v::q) he hk (by omega) (by rcases hw with⟨rfl,_⟩|⟨rfl,_⟩<;>rfl) (by rcases hw with⟨rfl,_⟩|⟨rfl,_⟩<;>rfl) (by rcases hw with⟨rfl,_⟩|⟨rfl,_⟩<;>rfl) hd
 obtain⟨t,l,ht,hh⟩:=hdK he
 rw[ht]at h⊢
 have hu:unary rec (f+3) (S.of (t::l++W w::U u::v::q) d)=(SV rec (f+2) (S.of (t::l++W w::U u::v::q) d)).bind λp=>asL (f+2) p.1 p.2:=AFR (hh _ (by decide)) (hh _ (by decide))
 rw[hu]
 constructor
 ·intro hok
  rw[h.1 hok]
  have:asL (f+2) a ⟨W w,U u::v::q,d,0⟩=asL (f+1) (.mk k 0 [] u false [a]) ⟨v,q,d,0⟩:=by
   rcases hw with⟨rfl,rfl⟩|⟨rfl,rfl⟩<;>rfl
  show asL (f+2) a ⟨W w,U u::v::q,d,0⟩=_
  rw[this]
  exact uT (ASN hv)
 ·intro hb
  obtain⟨e',t',r',hx⟩:=h.2 hb
  exact⟨e',t',r',by rw[hx];exact uT (Td Sl)⟩
theorem AUK{rec:PM Ex}{f d:Nat}{t:Tok}{r:List Tok}:unary rec (f+2) ⟨t,r,d,3⟩=some (.mk 0 0 [] [] false [],⟨t,r,d,3⟩):=Yq (NI Sl) (NI Sl) (dI (sV Sl) ADf) AAo
theorem ARe{rec:PM Ex}{a:Ex}{f d k:Nat}{m:Bs}{v:Tok}{q:List Tok}(hm:(m=Dq/\k=14)∨(m=IV/\k=15))(he:Wr a)(hk:Known rec (nE a))(hf:2*nE a+8<=f)(hv:∀w∈[Au,Fe,DJ,RP,OC],oT v w=false)(hd:d<=100):
 RV (.mk k 0 [] [] false [a]) d (dE a+1) v q (unary rec f (S.of (M m::(tokE a++v::q)) d)):=by
 obtain⟨f,rfl⟩:∃g,f=g+3:=⟨f-3,by omega⟩
 obtain⟨t,l,ht,hh⟩:=hdK he
 have h:=λd hd=>AHF (f:=f+2) (d:=d) (v:=v) (q:=q) he hk (by omega) hv hd
 rw[ht]at h⊢
 have hu:unary rec (f+3) (S.of (M m::(t::l++v::q)) d)=(LD ⟨M m,t::(l++v::q),d,0⟩).bind λs1=>(Hu s1).bind λs2=>(unary rec (f+2) s2).bind λp=>(VB p.2).bind λs'=>some (Ex.mk k 0 [] [] false [p.1],s'):=by
  rcases hm with⟨rfl,rfl⟩|⟨rfl,rfl⟩<;>rfl
 rw[hu]
 by_cases ACE:d=100
 ·subst ACE
  refine⟨λh=>by omega,λ_=>?_⟩
  rw[vF]
  refine⟨.mk k 0 [] [] false [.mk 0 0 [] [] false []],t,l++v::q,?_⟩
  show(unary rec (f+2) ⟨t,l++v::q,101,3⟩).bind (λp=>(VB p.2).bind λs'=>some (Ex.mk k 0 [] [] false [p.1],s'))=_
  rw[AUK]
  show(VB ⟨t,l++v::q,100+1,3⟩).bind (λs'=>some (Ex.mk k 0 [] [] false [.mk 0 0 [] [] false []],s'))=_
  rw[vV (by decide)];rfl
 ·have h:=h (d+1) (by omega)
  rw[AAA (by omega)]
  have hn:∀{α:Type} (k:S->Option α),(some (⟨M m,t::(l++v::q),d+1,0⟩:S)).bind (λs1=>(Hu s1).bind k)=k (S.of (t::l++v::q) (d+1)):=λ_=>rfl
  rw[hn]
  constructor
  ·intro hok
   rw[h.1 (by omega)]
   show(VB ⟨v,q,d+1,0⟩).bind _=_
   rw[ANk (by omega)];rfl
  ·intro hb
   obtain⟨e',t',r',hx⟩:=h.2 (by omega)
   refine⟨.mk k 0 [] [] false [e'],t',r',?_⟩
   rw[hx]
   show(VB ⟨t',r',d+1,3⟩).bind _=_
   rw[vV (by omega)];rfl
theorem fE{e:Ex}{f D:Nat}{v:Tok}{q l:List Tok}(hl:l≠[])(h:∀d,d<=100->RV e d D v q (top (unary (expr (f+3)) (f+3)) (f+3) (S.of l d)))(d:Nat)(hd:d<=100):RV e d (D+1) v q (expr (f+4) (S.of l d)):=by
 cases l with
 |nil=>exact absurd rfl hl
 |cons t r=>
 by_cases ACE:d=100
 ·subst ACE
  exact⟨λh=>by omega,λ_=>⟨_,_,_,AOE⟩⟩
 ·have h:=h (d+1) (by omega)
  have he:expr (f+4) (S.of (t::r) d)=(LD ⟨t,r,d,0⟩).bind λs1=>(top (unary (expr (f+3)) (f+3)) (f+3) s1).bind λp=>(VB p.2).bind λs'=>some (p.1,s'):=rfl
  rw[he,AAA (by omega)]
  have hn:∀{α:Type} (k:S->Option α),(some (⟨t,r,d+1,0⟩:S)).bind k=k (S.of (t::r) (d+1)):=λ_=>rfl
  rw[hn]
  constructor
  ·intro hok
   rw[h.1 (by omega)]
   show(VB ⟨v,q,d+1,0⟩).bind _=_
   rw[ANk (by omega)];rfl
  ·intro hb
   obtain⟨e',t',r',hx⟩:=h.2 (by omega)
   refine⟨e',t',r',?_⟩
   rw[hx]
   show(VB ⟨t',r',d+1,3⟩).bind _=_
   rw[vV (by omega)];rfl
theorem AFT:∀w∈[Au,Fe,DJ,RP,OC],oT (M BD) w=false:=by intro w hw;rw[ADF];revert w;decide
theorem ALT{un:PM Ex}{a b r:Ex}{f d:Nat}{o:Bs}{q:List Tok}(hb:Wr b)
 (hgo:∀{s:S} {u:Tok} {q:List Tok} {b':Ex} {s2:S},un s=some (a,⟨M o,u::q,d,0⟩)->un ⟨u,q,d,0⟩=some (b',s2)->WY s2->∃r',top un (f+2) s=some (r',s2)/\(b'=b->r'=r))
 (h1:RV a d (dE a) (M o) (tokE b++M BD::q) (un (S.of (tokE a++M o::(tokE b++M BD::q)) d))) (h2:RV b d (dE b) (M BD) q (un (S.of (tokE b++M BD::q) d))):
 RV r d (max (dE a) (dE b)) (M BD) q (top un (f+2) (S.of (tokE a++M o::(tokE b++M BD::q)) d)):=by
 have hs:Stp (M BD):=ru (by decide)
 obtain⟨t,l,ht,_⟩:=hdK hb
 rw[ht]at h1 h2⊢
 constructor
 ·intro hok
  obtain⟨r',e1,e2⟩:=hgo (h1.1 (by omega)) (h2.1 (by omega)) hs.op
  rw[e1,e2 rfl]
 ·intro hbad
  by_cases hda:d+dE a<=100
  ·obtain⟨b',t',r',hx⟩:=h2.2 (by omega)
   obtain⟨z,e1,_⟩:=hgo (h1.1 hda) hx AAo
   exact⟨z,t',r',e1⟩
  ·obtain⟨a',t',r',hx⟩:=h1.2 (by omega)
   exact⟨a',t',r',up0 (f:=f+1) hx AAo⟩
def AQb(N:Nat):Prop:=∀(e:Ex),Wr e->nE e<=N->∀F,2*nE e+19<=F->I1 (expr F) e
def AO2(N:Nat):Prop:=∀(e:Ex),Wr e->nE e<=N->∀F,2*nE e+20<=F->E1 (expr F) e
theorem AXf{N:Nat}(bI:AQb N)(bE:AO2 N):AQb (N+1):=by
 intro e he h F hF hbr d q hd
 have kn:∀F m,m<nE e->2*nE e+18<=F->Known (expr F) m:=λF m hm hF=>
  ⟨λx w hx=>bE x w (by omega) F (by omega),λx w hx=>bI x w (by omega) F (by omega)⟩
 obtain⟨f,rfl⟩:∃g,F=g+4:=⟨F-4,by omega⟩
 have un:∀{a:Ex} {v:Tok} {q:List Tok} {d:Nat},Wr a->nE a<nE e->(∀w∈[Au,Fe,DJ,RP,OC],oT v w=false)->d<=100->RV a d (dE a) v q (unary (expr (f+3)) (f+3) (S.of (tokE a++v::q) d)):=
  λwa hn hv hd=>AHF wa (kn _ _ hn (by omega)) (by omega) hv hd
 have one:∀{a:Ex},nL [a]=nE a:=λ{a}=>by rw[ZJ,lI];rfl
 have two:∀{a b:Ex},nL [a,b]=nE a+nE b:=λ{a b}=>by rw[ZJ,ZJ,lI];rfl
 have lift:∀{x:Ex} {D d:Nat} {q:List Tok} {s:S},RV x d D (M BD) q (unary (expr (f+3)) (f+3) s)->RV x d D (M BD) q (top (unary (expr (f+3)) (f+3)) (f+3) s):=λh=>
  ⟨λhok=>up0 (f:=f+2) (h.1 hok) (ru (by decide)).op,λhb=>by
   obtain⟨e',t',r',hx⟩:=h.2 hb
   exact⟨e',t',r',up0 (f:=f+2) hx AAo⟩⟩
 have opn:∀{o:Bs},o∈AEi->∀w∈[Au,Fe,DJ,RP,OC],oT (M o) w=false:=by
  intro o ho w hw
  rw[ADF]
  simp only[AEi,List.mem_cons,List.not_mem_nil,or_false]at ho
  rcases ho with rfl|rfl|rfl|rfl|rfl|rfl|rfl|rfl|rfl<;>revert w<;>decide
 cases he with
 | @new u hu=>
  rw[Sv]
  refine fE (D:=0) (l:=[W Ib,U u]++M BD::q) (by simp) (λd hd=>lift ⟨λ_=>?_,λh=>absurd h (by omega)⟩) d hd
  refine Yq (f:=f+1) rfl rfl (dI ?_ (ru (by decide)).tl) (ru (by decide)).op
  have hc:ZT ⟨u,false⟩=true:=by
   obtain⟨c,t,rfl,hc⟩:=(uq hu).hd
   exact hc
  show(some (Ex.mk 10 0 [] u false [],bif ZT ⟨u,false⟩then(⟨M BD,q,d,0⟩:S)else EJ 21 ⟨M BD,q,d,0⟩))=_
  rw[hc];rfl
 | @neg a ha=>
  rw[FP,one]at kn un
  rw[Sv]
  show RV _ d (dE a+1+1) _ _ _
  refine fE (l:=M Dq::tokE a++M BD::q) (by simp) (λd hd=>lift ?_) d hd
  exact ARe (.inl ⟨rfl,rfl⟩) ha (kn _ _ (by omega) (by rw[FP,one]at hF;omega)) (by rw[FP,one]at hF;omega) AFT hd
 | @not a ha=>
  rw[FP,one]at kn un
  rw[Sv]
  show RV _ d (dE a+1+1) _ _ _
  refine fE (l:=M IV::tokE a++M BD::q) (by simp) (λd hd=>lift ?_) d hd
  exact ARe (.inr ⟨rfl,rfl⟩) ha (kn _ _ (by omega) (by rw[FP,one]at hF;omega)) (by rw[FP,one]at hF;omega) AFT hd
 | @asx u a hu ha=>
  rw[FP,one]at kn un
  rw[Sv,show iE (.mk 19 0 [] u false [a])++M BD::q=tokE a++W RP::U u::M BD::q by simp[iE,yL,OX]]
  show RV _ d (dE a+1) _ _ _
  refine fE (by simp) (λd hd=>lift ?_) d hd
  exact AV3 (.inl ⟨rfl,rfl⟩) ha (kn _ _ (by omega) (by rw[FP,one]at hF;omega)) (by rw[FP,one]at hF;omega) (λw hw=>by rw[ADF];revert w;decide) hd
 | @isx u a hu ha=>
  rw[FP,one]at kn un
  rw[Sv,show iE (.mk 20 0 [] u false [a])++M BD::q=tokE a++W OC::U u::M BD::q by simp[iE,yL,OX]]
  show RV _ d (dE a+1) _ _ _
  refine fE (by simp) (λd hd=>lift ?_) d hd
  exact AV3 (.inr ⟨rfl,rfl⟩) ha (kn _ _ (by omega) (by rw[FP,one]at hF;omega)) (by rw[FP,one]at hF;omega) (λw hw=>by rw[ADF];revert w;decide) hd
 | @bin o a b ho ha hb=>
  rw[FP,two]at kn un
  have hpa:=U7 a
  have hpb:=U7 b
  rw[Sv,show iE (.mk 16 0 o [] false [a,b])++M BD::q=tokE a++M o::(tokE b++M BD::q)by simp[iE,yL,OX]]
  show RV _ d (max (dE a) (dE b)+1) _ _ _
  refine fE (by simp) (λd hd=>ALT (f:=f+1) hb (λh1 h2 hn=>⟨_,APe ho h1 h2 hn,λe=>by rw[e]⟩) (un ha (by omega) (opn ho) hd) (un hb (by omega) AFT hd)) d hd
 | @and a b ha hb=>
  rw[FP,two]at kn un
  have hpa:=U7 a
  have hpb:=U7 b
  rw[Sv,show iE (.mk 17 0 [] [] false [a,b])++M BD::q=tokE a++M L9::(tokE b++M BD::q)by simp[iE,yL,OX]]
  show RV _ d (max (dE a) (dE b)+1) _ _ _
  refine fE (by simp) (λd hd=>ALT (f:=f+1) hb (λh1 h2 hn=>⟨_,APb h1 h2 hn,λe=>by rw[e]⟩) (un ha (by omega) (λw hw=>by rw[ADF];revert w;decide) hd) (un hb (by omega) AFT hd)) d hd
 | @or a b ha hb=>
  rw[FP,two]at kn un
  have hpa:=U7 a
  have hpb:=U7 b
  rw[Sv,show iE (.mk 18 0 [] [] false [a,b])++M BD::q=tokE a++M W9::(tokE b++M BD::q)by simp[iE,yL,OX]]
  show RV _ d (max (dE a) (dE b)+1) _ _ _
  refine fE (by simp) (λd hd=>ALT (f:=f+1) hb (λh1 h2 hn=>⟨_,ASv h1 h2 hn,λe=>by rw[e]⟩) (un ha (by omega) (λw hw=>by rw[ADF];revert w;decide) hd) (un hb (by omega) AFT hd)) d hd
 |_=>exact Bool.noConfusion hbr
theorem AXK{N:Nat}(bI:AQb (N+1))(bE:AO2 N):AO2 (N+1):=by
 intro e he h F hF d v q hd hv
 obtain⟨f,rfl⟩:∃g,F=g+4:=⟨F-4,by omega⟩
 refine fE (l:=tokE e++v::q) (by simp) (λd hd=>?_) d hd
 have kk:Known (expr (f+3)) (nE e):=⟨λx w hx=>bE x w (by omega) _ (by omega),λx w hx=>bI x w (by omega) _ (by omega)⟩
 have h:=AHF (f:=f+3) (v:=v) (q:=q) he kk (by omega) (λw hw=>by
  simp only[List.mem_cons,List.not_mem_nil,or_false]at hw
  rcases hw with rfl|rfl|rfl|rfl|rfl
  ·exact hv.2.2
  ·exact hv.2.1 _ (by decide)
  ·exact hv.2.1 _ (by decide)
  ·exact hv.1 _ (by decide)
  ·exact hv.1 _ (by decide)) hd
 exact⟨λhok=>up0 (f:=f+2) (h.1 hok) hv.op,λhb=>by
  obtain⟨e',t',r',hx⟩:=h.2 hb
  exact⟨e',t',r',up0 (f:=f+2) hx AAo⟩⟩
theorem big:∀N,AQb N/\AO2 N
 |0=>⟨λe _ h=>absurd (U7 e) (by omega),λe _ h=>absurd (U7 e) (by omega)⟩
 |N+1=>by
  have h:=big N
  have hi:=AXf h.1 h.2
  exact⟨hi,AXK hi h.2⟩
theorem mM{e:Ex}{f d:Nat}{v:Tok}{q:List Tok}(he:Wr e)(hf:2*nE e+20<=f)(hv:Stp v)(hd:d<=100):RV e d (dE e+1) v q (expr f (S.of (tokE e++v::q) d)):=(big (nE e)).2 e he (Nat.le_refl _) f hf d v q hd hv
def ADQ(k:Nat)(es th el:List Nat):Nat:=
 match k with
 |2=>max (Wp es 0+1) (Wp es 1+1)
 |4=>max (Wp es 0+1) (max (maxL th+1) (bif el.isEmpty then 0 else maxL el+1))+1
 |5=>max (Wp es 0+1) (maxL th+1)
 |_=>Wp es 0+1
mutual
def dS:St->Nat
 |.mk k _ _ es th el=>ADQ k (es.map dE) (dSs th) (dSs el)
def dSs:List St->List Nat
 |[]=>[]
 |s::l=>dS s::dSs l
end
theorem AEl:∀l:List St,dSs l=l.map dS
 |[]=>by unfold dSs;rfl
 |a::l=>by unfold dSs;rw[AEl l];rfl
theorem AAn(k:Nat)(nm:Bs)(ty:Ty)(es:List Ex)(th el:List St):dS (.mk k nm ty es th el)=ADQ k (es.map dE) (th.map dS) (el.map dS):=by unfold dS;rw[AEl,AEl]
mutual
def nS:St->Nat
 |.mk _ _ _ es th el=>1+(nL es+(nSs th+nSs el))
def nSs:List St->Nat
 |[]=>0
 |s::l=>nS s+nSs l
end
theorem XP(k:Nat)(nm:Bs)(ty:Ty)(es:List Ex)(th el:List St):nS (.mk k nm ty es th el)=1+(nL es+(nSs th+nSs el)):=by unfold nS;rfl
theorem ALt(a:St)(l:List St):nSs (a::l)=nS a+nSs l:=by rw[nSs]
theorem yj:nSs []=0:=by rw[nSs]
theorem AMq(s:St):1<=nS s:=by cases s;rw[XP];omega
theorem Y8:∀l:List St,l.length<=nSs l
 |[]=>by simp
 |a::l=>by have:=Y8 l;have:=AMq a;rw[ALt];simp;omega
theorem Ro:∀{l:List St} {s:St},s∈l->nS s<=nSs l
 |a::l,s,h=>by
  rw[ALt]
  rcases List.mem_cons.1 h with rfl|h
  ·omega
  ·have:=Ro h;omega
theorem RV.bind{α β:Type}{a:α}{b:β}{d D1 D2:Nat}{v v':Tok}{q q':List Tok}{x:Option (α×S)}{k:α×S->Option (β×S)}(h1:RV a d D1 v q x)(h2:RV b d D2 v' q' (k (a,⟨v,q,d,0⟩)))(hb:∀a t r,Bad d (k (a,⟨t,r,d,3⟩))):
 RV b d (max D1 D2) v' q' (x.bind k):=by
 constructor
 ·intro h
  rw[h1.1 (by omega)];exact h2.1 (by omega)
 ·intro h
  by_cases h0:d+D1<=100
  ·rw[h1.1 h0];exact h2.2 (by omega)
  ·obtain⟨a',t,r,e⟩:=h1.2 (by omega)
   rw[e];exact hb a' t r
theorem RV.ok{α:Type}{a:α}{d:Nat}{v:Tok}{q:List Tok}(hd:d<=100):RV a d 0 v q (some (a,(⟨v,q,d,0⟩:S))):=⟨λ_=>rfl,λh=>absurd h (by omega)⟩
theorem RV.at{α:Type}{a:α}{d D D':Nat}{v:Tok}{q:List Tok}{x:Option (α×S)}(h:RV a d D v q x)(e:D'=D):RV a d D' v q x:=by rw[e];exact h
theorem RV.deep{α:Type}{b:α}{d D:Nat}{t v:Tok}{r q:List Tok}{k:S->Option (α×S)}(h:d<100->RV b (d+1) D v q (k ⟨t,r,d+1,0⟩))(hb:Bad 101 (k ⟨t,r,101,3⟩))(hd:d<=100):
 RV b d (D+1) v q ((LD ⟨t,r,d,0⟩).bind λs1=>(k s1).bind λp=>(VB p.2).bind λs'=>some (p.1,s')):=by
 by_cases ACE:d=100
 ·subst ACE
  refine⟨λh=>by omega,λ_=>?_⟩
  obtain⟨e,t',r',hx⟩:=hb
  refine⟨e,t',r',?_⟩
  rw[vF]
  show((k ⟨t,r,101,3⟩).bind λp=>(VB p.2).bind λs'=>some (p.1,s'))=_
  rw[hx]
  show((VB ⟨t',r',100+1,3⟩).bind λs'=>some (e,s'))=_
  rw[vV (by decide)];rfl
 ·have h:=h (by omega)
  rw[AAA (by omega)]
  constructor
  ·intro hok
   show((k ⟨t,r,d+1,0⟩).bind λp=>(VB p.2).bind λs'=>some (p.1,s'))=_
   rw[h.1 (by omega)]
   show((VB ⟨v,q,d+1,0⟩).bind λs'=>some (b,s'))=_
   rw[ANk (by omega)];rfl
  ·intro hbad
   obtain⟨e,t',r',hx⟩:=h.2 (by omega)
   refine⟨e,t',r',?_⟩
   show((k ⟨t,r,d+1,0⟩).bind λp=>(VB p.2).bind λs'=>some (p.1,s'))=_
   rw[hx]
   show((VB ⟨t',r',d+1,3⟩).bind λs'=>some (e,s'))=_
   rw[vV (by omega)];rfl
def HdS(l:List Tok):Prop:=∃t r,l=t::r/\oT t m_rc=false/\oT t EU=false
theorem AWB{s:St}(h:rD s):HdS (FH s):=by
 have ex:∀{e:Ex} {r:List Tok},Wr e->HdS (tokE e++r):=λ{e r} he=>by
  obtain⟨t,q,ht,hh⟩:=hdK he
  exact⟨t,q++r,by rw[ht];rfl,hh _ (by decide),hh _ (by decide)⟩
 cases h with
 |lt hl ht he=>rw[Ik];exact⟨_,_,rfl,rfl,rfl⟩
 |put ha hk hb=>rw[Ik];exact ex ha
 |ask ha hk=>rw[Ik];exact ex ha
 |ite hc ht he=>rw[Ik];exact⟨_,_,rfl,rfl,rfl⟩
 |loop hc ht=>rw[Ik];exact⟨_,_,rfl,rfl,rfl⟩
 |ret ha=>rw[Ik];exact⟨_,_,rfl,rfl,rfl⟩
 |prt ha=>rw[Ik];exact⟨_,_,rfl,rfl,rfl⟩
def SP(s:St):Prop:=∀(f d:Nat) (v:Tok) (q:List Tok),2*nS s+40<=f->nS s<1000000->d<=100->oT v EU=false->RV s d (dS s) v q (sc f false (S.of (FH s++v::q) d))
theorem AJV{F:Nat}:∀(ls out:List St) (f d:Nat) (v:Tok) (q:List Tok),(∀x∈ls,rD x/\SP x/\2*nS x+40<=F/\nS x<1000000)->d<=100->out.length+ls.length<1000000->ls.length+2<=f->
 RV (out++ls) d (maxL (ls.map dS)) v q (KQ (sc F false) f out (S.of ((ls.map FH).flatten++M m_rc::v::q) d))
 |[],out,f,d,v,q,_,hd,_,hf=>by
  obtain⟨f,rfl⟩:∃g,f=g+1:=⟨f-1,by omega⟩
  rw[List.append_nil]
  exact⟨λ_=>AL7,λh=>by simp[maxL]at h;omega⟩
 |a::ls,out,f,d,v,q,hx,hd,hn,hf=>by
  obtain⟨f,rfl⟩:∃g,f=g+1:=⟨f-1,by omega⟩
  have hn:out.length+(ls.length+1)<1000000:=by simpa using hn
  have hf:ls.length+2<=f:=by
   have:ls.length+1+2<=f+1:=by simpa using hf
   omega
  obtain⟨wa,sa,hF,h6⟩:=hx a List.mem_cons_self
  have ih:=AJV ls (out++[a]) f d v q (λx hx'=>hx x (List.mem_cons_of_mem _ hx')) hd (by simp;omega) hf
  rw[List.append_assoc,List.singleton_append]at ih
  simp only[List.map_cons,List.flatten_cons,List.append_assoc]
  obtain⟨v',q',hv',he',hr'⟩:∃v' q',(ls.map FH).flatten++M m_rc::v::q=v'::q'/\oT v' EU=false/\True:=by
   cases ls with
   |nil=>exact⟨_,_,rfl,rfl,trivial⟩
   |cons b ls=>
    obtain⟨t,r,ht,h1,h2⟩:=AWB (hx b (by simp)).1
    exact⟨t,r++((ls.map FH).flatten++M m_rc::v::q),by simp[ht],h2,trivial⟩
  rw[hv']at ih⊢
  have e1:=sa F d v' q' hF h6 hd he'
  obtain⟨t,l,ht,h1,h2⟩:=AWB wa
  rw[ht]at e1⊢
  have hgo:KQ (sc F false) (f+1) out (S.of (t::l++v'::q') d)=(sc F false (S.of (t::l++v'::q') d)).bind λp=>KQ (sc F false) f (out++[p.1]) p.2:=by
   show((BZ m_rc ⟨t,l++v'::q',d,0⟩).bind λp=>bif p.1 then some (out,p.2)else(sc F false p.2).bind λq=>bif decide (out.length<1000000)then KQ (sc F false) f (out++[q.1]) q.2 else none)=_
   rw[Rw (UR.trans h1),decide_eq_true (show out.length<1000000 by omega)];rfl
  rw[hgo]
  refine e1.bind ih λa' t r=>?_
  obtain⟨f',rfl⟩:∃g,f=g+1:=⟨f-1,by omega⟩
  exact⟨_,t,r,xP Sl⟩
theorem sJ{F f:Nat}{ls:List St}{d:Nat}{v:Tok}{q:List Tok}(hx:∀x∈ls,rD x/\SP x/\2*nS x+40<=F/\nS x<1000000)(hd:d<=100)(hn:ls.length<1000000)(hf:ls.length+2<=f):
 RV ls d (maxL (ls.map dS)+1) v q (EW (sc F false) f (S.of (Oh (ls.map FH)++v::q) d)):=by
 obtain⟨t,r,ht⟩:∃t r,(ls.map FH).flatten++M m_rc::v::q=t::r:=by
  cases h:(ls.map FH).flatten with
  |nil=>exact⟨_,_,rfl⟩
  |cons a l=>exact⟨_,_,rfl⟩
 have e:Oh (ls.map FH)++v::q=M MG::t::r:=by unfold Oh;rw[<-ht];simp
 rw[e]
 have hB:∀s,EW (sc F false) f s=(LD s).bind λs1=>((BM [MG] s1).bind λs2=>KQ (sc F false) f [] s2).bind λp=>(VB p.2).bind λs'=>some (p.1,s'):=λs=>by
  unfold EW;congr 1;funext s1;rw[Option.bind_assoc]
 rw[hB]
 refine RV.deep (k:=λs1=>(BM [MG] s1).bind λs2=>KQ (sc F false) f [] s2) (λhlt=>?_) ?_ hd
 ·show RV ls (d+1) _ v q ((BM [MG] ⟨M MG,t::r,d+1,0⟩).bind λs2=>KQ (sc F false) f [] s2)
  rw[QY]
  have:=AJV ls [] f (d+1) v q hx (by omega) (by simpa using hn) hf
  rw[ht]at this
  exact this
 ·refine⟨[],M MG,t::r,?_⟩
  show((BM [MG] ⟨M MG,t::r,101,3⟩).bind λs2=>KQ (sc F false) f [] s2)=_
  rw[UM Sl]
  obtain⟨f,rfl⟩:∃g,f=g+1:=⟨f-1,by omega⟩
  exact xP Sl
theorem AJP{l:Bs}{v:Tok}{q:List Tok}{d:Nat}(h:jZ l=true):Yu ⟨U9 l,v::q,d,0⟩=some (⟨l,false⟩,⟨v,q,d,0⟩):=by
 unfold U9
 cases hu:ZV l with
 |true=>rfl
 |false=>
  simp only[jZ,hu,Bool.or_false,Bool.or_eq_true,decide_eq_true_eq]at h
  rcases h with rfl|rfl<;>rfl
theorem ADS{t:Ty}{v:Tok}{q:List Tok}{d:Nat}(h:jZ t.nm=true)(hv:oT v Fe=false):UZ (S.of (zy t++v::q) d)=some (t,⟨v,q,d,0⟩):=by
 obtain⟨nm,ar⟩:=t
 cases ar with
 |false=>
  show((Yu ⟨U9 nm,v::q,d,0⟩).bind λp=>(BZ Fe p.2).bind λq=>bif q.1 then(BM [FV] q.2).bind λs=>some (Ty.mk p.1.nm true,s)else some (p.1,q.2))=_
  rw[AJP h]
  show((BZ Fe ⟨v,q,d,0⟩).bind λq=>bif q.1 then(BM [FV] q.2).bind λs=>some (Ty.mk nm true,s)else some (Ty.mk nm false,q.2))=_
  rw[Rw (UR.trans hv)];rfl
 |true=>
  show((Yu ⟨U9 nm,M Fe::M FV::v::q,d,0⟩).bind λp=>(BZ Fe p.2).bind λq=>bif q.1 then(BM [FV] q.2).bind λs=>some (Ty.mk p.1.nm true,s)else some (p.1,q.2))=_
  rw[AJP h];rfl
theorem APH{s:S}(h:s.e≠0):UZ s=some (⟨[],false⟩,s):=by
 show((Yu s).bind λp=>(BZ Fe p.2).bind λq=>bif q.1 then(BM [FV] q.2).bind λs=>some (Ty.mk p.1.nm true,s)else some (p.1,q.2))=_
 have:Yu s=some (⟨[],false⟩,s):=by
  show((BZ Yw s).bind λp=>bif p.1 then some (Ty.mk Yw false,p.2)else(BZ Qq p.2).bind λp=>bif p.1 then some (Ty.mk Qq false,p.2)else(Eo 2 p.2).bind λp=>some (Ty.mk p.1 false,p.2))=_
  rw[WL h]
  show((BZ Qq s).bind λp=>bif p.1 then some (Ty.mk Qq false,p.2)else(Eo 2 p.2).bind λp=>some (Ty.mk p.1 false,p.2))=_
  rw[WL h]
  show((Eo 2 s).bind λp=>some (Ty.mk p.1 false,p.2))=_
  rw[AF4 h];rfl
 rw[this]
 show((BZ Fe s).bind λq=>bif q.1 then(BM [FV] q.2).bind λs=>some (Ty.mk [] true,s)else some (Ty.mk [] false,q.2))=_
 rw[WL h];rfl
theorem AA5{α:Type}{a:α}{g:α->St}{d D:Nat}{v:Tok}{q:List Tok}{x:Option (α×S)}(hd:d<=100)(h:RV a d D (M Aq) (v::q) x):RV (g a) d D v q (x.bind λp=>endP (g p.1) p.2):=
 (h.bind (k:=λp=>endP (g p.1) p.2) (b:=g a) (D2:=0) (v':=v) (q':=q) ⟨λ_=>ASA,λh=>absurd h (by omega)⟩ λa' t r=>⟨_,t,r,AJO Sl⟩).at (by omega)
theorem jg{m:Bs}(h:m=Aq∨m=Di∨m=MG):Stp (M m):=by rcases h with rfl|rfl|rfl<;>exact ru (by decide)
def bodyC(st ch:PM St)(f:Nat):PM St:=λs1=>(BM [IL] s1).bind λs2=>(expr f s2).bind λc=>(EW st f c.2).bind λt=>
 (BZ EU t.2).bind λp=>(bif p.1 then(bif Hq [IL] p.2 then(ch p.2).bind λx=>some ([x.1],x.2)else EW st f p.2)else some ([],p.2)).bind λx=>some (.mk 4 [] JE [c.1] t.1 x.1,x.2)
theorem ACb(st ch:PM St)(f:Nat)(s:S):Yn st ch f s=(LD s).bind λs1=>(bodyC st ch f s1).bind λp=>(VB p.2).bind λs'=>some (p.1,s'):=by
 unfold Yn bodyC
 simp only[Option.bind_assoc,Option.bind_some]
theorem AFL{st ch:PM St}{f d:Nat}{t:Tok}{r:List Tok}(h:∀w,w∉APR->oT t w=false):TT st ch f ⟨t,r,d,0⟩=(Wu f ⟨t,r,d,0⟩).bind λx=>endP x.1 x.2:=by
 have no:∀w,w∉APR->BZ w ⟨t,r,d,0⟩=some (false,⟨t,r,d,0⟩):=λw hw=>Rw (UR.trans (h w hw))
 unfold TT
 rw[no NM (by decide)]
 show(bif Hq [IL] ⟨t,r,d,0⟩then _ else _)=_
 rw[ASN (ws:=[IL]) λw hw=>by rw[List.mem_singleton.1 hw];exact h _ (by decide)]
 show((BZ FK ⟨t,r,d,0⟩).bind _)=_
 rw[no FK (by decide)]
 show((BZ EZ ⟨t,r,d,0⟩).bind _)=_
 rw[no EZ (by decide)]
 show((BZ FM ⟨t,r,d,0⟩).bind _)=_
 rw[no FM (by decide)];rfl
theorem AM5{st ch:PM St}{f d:Nat}{t:Tok}{r:List Tok}(hd:d<1000000:=by omega):bodyC st ch (f+4) ⟨t,r,d,3⟩=some (.mk 4 [] JE [.mk 0 0 [] [] false []] [] [],⟨t,r,d,3⟩):=by
 unfold bodyC
 rw[UM Sl]
 show((expr (f+4) ⟨t,r,d,3⟩).bind λc=>(EW st (f+4) c.2).bind λt=>(BZ EU t.2).bind λp=>(bif p.1 then(bif Hq [IL] p.2 then(ch p.2).bind λx=>some ([x.1],x.2)else EW st (f+4) p.2)else some ([],p.2)).bind λx=>some (St.mk 4 [] JE [c.1] t.1 x.1,x.2))=_
 rw[tJ Sl hd]
 show((EW st (f+4) ⟨t,r,d,3⟩).bind λt=>(BZ EU t.2).bind λp=>(bif p.1 then(bif Hq [IL] p.2 then(ch p.2).bind λx=>some ([x.1],x.2)else EW st (f+4) p.2)else some ([],p.2)).bind λx=>some (St.mk 4 [] JE [.mk 0 0 [] [] false []] t.1 x.1,x.2))=_
 rw[qA Sl hd]
 show((BZ EU ⟨t,r,d,3⟩).bind λp=>(bif p.1 then(bif Hq [IL] p.2 then(ch p.2).bind λx=>some ([x.1],x.2)else EW st (f+4) p.2)else some ([],p.2)).bind λx=>some (St.mk 4 [] JE [.mk 0 0 [] [] false []] [] x.1,x.2))=_
 rw[WL Sl];rfl
theorem AVy{l:Bs}{ty:Ty}{e:Ex}(hl:qN l=true)(ht:jZ ty.nm=true)(he:Wr e):SP (.mk 1 l ty [e] [] []):=by
 intro f d v q hf h6 hd hv
 obtain⟨f,rfl⟩:∃g,f=g+1:=⟨f-1,by omega⟩
 rw[XP,ZJ]at hf
 rw[Ik,AAn,AHS]
 obtain⟨u,r,hu⟩:∃u r,zy ty++L l::M Di::(tokE e++M Aq::v::q)=u::r:=⟨U9 ty.nm,_,rfl⟩
 have e1:Qu 1 l ty [e] ([].map FH) ([].map FH)++v::q=W NM::u::r:=by rw[<-hu];simp[Qu,exK]
 rw[e1]
 show RV _ d (dE e+1) v q (TT _ _ f ⟨W NM,u::r,d,0⟩)
 rw[AMf,show(⟨u,r,d,0⟩:S)=S.of (zy ty++L l::M Di::(tokE e++M Aq::v::q)) d by rw[hu];rfl,ADS ht rfl]
 obtain⟨t,x,hx,_⟩:=hdK he
 have hg:((some (ty,(⟨L l,M Di::(tokE e++M Aq::v::q),d,0⟩:S))).bind λt=>(Eo 3 t.2).bind λn=>(BM [Di] n.2).bind λs1=>(expr f s1).bind λx=>endP (.mk 1 n.1 t.1 [x.1] [] []) x.2)=(expr f (S.of (tokE e++M Aq::v::q) d)).bind λx=>endP (.mk 1 l ty [x.1] [] []) x.2:=by
  rw[hx];rfl
 rw[hg]
 exact AA5 (g:=λx=>.mk 1 l ty [x] [] []) hd (mM he (by omega) (jg (.inl rfl)) hd)
def plK(f:Nat)(p:Ex×S):Option (St×S):=bif Hq [Di] p.2 then
 (BM [Di] (bif decide (p.1.kind=6)||(decide (p.1.kind=7)||decide (p.1.kind=12))then p.2 else EJ 21 p.2)).bind λs1=>(expr f s1).bind λq=>some (.mk 2 [] JE [p.1,q.1] [] [],q.2)
 else some (.mk 3 [] JE [p.1] [] [],bif decide (p.1.kind=8)||decide (p.1.kind=9)then p.2 else EJ 21 p.2)
theorem AIw(f:Nat)(s:S):Wu f s=(expr f s).bind (plK f):=rfl
theorem APV{f d:Nat}{a:Ex}{u:Tok}{r:List Tok}(hk:a.kind=6∨a.kind=7∨a.kind=12):plK f (a,⟨M Di,u::r,d,0⟩)=(expr f ⟨u,r,d,0⟩).bind λq=>some (.mk 2 [] JE [a,q.1] [] [],q.2):=by
 have hkk:(decide (a.kind=6)||(decide (a.kind=7)||decide (a.kind=12)))=true:=by rcases hk with h|h|h<;>simp[h]
 unfold plK
 show(bif true then(BM [Di] (bif decide (a.kind=6)||(decide (a.kind=7)||decide (a.kind=12))then(⟨M Di,u::r,d,0⟩:S)else EJ 21 ⟨M Di,u::r,d,0⟩)).bind λs1=>(expr f s1).bind λq=>some (St.mk 2 [] JE [a,q.1] [] [],q.2)else _)=_
 rw[hkk]
 show((BM [Di] ⟨M Di,u::r,d,0⟩).bind λs1=>(expr f s1).bind λq=>some (St.mk 2 [] JE [a,q.1] [] [],q.2))=_
 rw[QY];rfl
theorem APg{f:Nat}{a:Ex}{s:S}(hk:a.kind=8∨a.kind=9)(h:Hq [Di] s=false):plK f (a,s)=some (.mk 3 [] JE [a] [] [],s):=by
 have hkk:(decide (a.kind=8)||decide (a.kind=9))=true:=by rcases hk with h|h<;>simp[h]
 unfold plK
 rw[h]
 show some (St.mk 3 [] JE [a] [] [],bif decide (a.kind=8)||decide (a.kind=9)then s else EJ 21 s)=_
 rw[hkk];rfl
theorem AIx{f d:Nat}{a:Ex}{t:Tok}{r:List Tok}:plK f (a,⟨t,r,d,3⟩)=some (.mk 3 [] JE [a] [] [],⟨t,r,d,3⟩):=by
 unfold plK
 rw[Td Sl]
 show some (St.mk 3 [] JE [a] [] [],bif decide (a.kind=8)||decide (a.kind=9)then(⟨t,r,d,3⟩:S)else EJ 21 ⟨t,r,d,3⟩)=_
 rw[PS Sl,Bool.cond_self]
theorem ATe{a b:Ex}(ha:Wr a)(hk:a.kind=6∨a.kind=7∨a.kind=12)(hb:Wr b):SP (.mk 2 [] JE [a,b] [] []):=by
 intro f d v q hf h6 hd hv
 obtain⟨f,rfl⟩:∃g,f=g+1:=⟨f-1,by omega⟩
 rw[XP,ZJ,ZJ]at hf
 rw[Ik,AAn,AHS,show Qu 2 [] JE [a,b] ([].map FH) ([].map FH)++v::q=tokE a++M Di::(tokE b++M Aq::v::q)by simp[Qu,exK],show ADQ 2 ([a,b].map dE) ([].map dS) ([].map dS)=max (dE a+1) (dE b+1)from rfl]
 have e1:=mM (f:=f) (v:=M Di) (q:=tokE b++M Aq::v::q) ha (by omega) (jg (.inr (.inl rfl))) hd
 have e2:=mM (f:=f) (v:=M Aq) (q:=v::q) hb (by omega) (jg (.inl rfl)) hd
 obtain⟨t,l,ht,hh⟩:=hdK ha
 obtain⟨t2,l2,ht2,_⟩:=hdK hb
 have hs:S.of (tokE a++M Di::(tokE b++M Aq::v::q)) d=⟨t,l++M Di::(tokE b++M Aq::v::q),d,0⟩:=by rw[ht];rfl
 rw[hs]at e1⊢
 rw[AFL hh]
 refine AA5 (g:=λx=>x) hd ?_
 rw[AIw]
 refine e1.bind ?_ λa' t r=>⟨_,t,r,AIx⟩
 have hb2:tokE b++M Aq::v::q=t2::(l2++M Aq::v::q):=by rw[ht2];rfl
 rw[hb2]at e2⊢
 rw[APV hk]
 have e2:RV b d (dE b+1) (M Aq) (v::q) (expr f ⟨t2,l2++M Aq::v::q,d,0⟩):=e2
 exact(e2.bind (k:=λq=>some (St.mk 2 [] JE [a,q.1] [] [],q.2)) (D2:=0) (RV.ok hd) λa' t r=>⟨_,t,r,rfl⟩).at (by omega)
theorem ATR{a:Ex}(ha:Wr a)(hk:a.kind=8∨a.kind=9):SP (.mk 3 [] JE [a] [] []):=by
 intro f d v q hf h6 hd hv
 obtain⟨f,rfl⟩:∃g,f=g+1:=⟨f-1,by omega⟩
 rw[XP,ZJ]at hf
 rw[Ik,AAn,AHS,show Qu 3 [] JE [a] ([].map FH) ([].map FH)++v::q=tokE a++M Aq::v::q by simp[Qu,exK],show ADQ 3 ([a].map dE) ([].map dS) ([].map dS)=dE a+1 from rfl]
 have e1:=mM (f:=f) (v:=M Aq) (q:=v::q) ha (by omega) (jg (.inl rfl)) hd
 obtain⟨t,l,ht,hh⟩:=hdK ha
 have hs:S.of (tokE a++M Aq::v::q) d=⟨t,l++M Aq::v::q,d,0⟩:=by rw[ht];rfl
 rw[hs]at e1⊢
 rw[AFL hh]
 refine AA5 (g:=λx=>x) hd ?_
 rw[AIw]
 refine(e1.bind (D2:=0) (b:=St.mk 3 [] JE [a] [] []) (v':=M Aq) (q':=v::q) ?_ λa' t r=>⟨_,t,r,AIx⟩).at (by omega)
 rw[APg hk rfl]
 exact RV.ok hd
theorem AT8{c:Ex}{th el:List St}(hc:Wr c)(ht:∀x∈th,rD x)(he:∀x∈el,rD x)(iht:∀x∈th,SP x)(ihe:∀x∈el,SP x):SP (.mk 4 [] JE [c] th el):=by
 intro f d v q hf h6 hd hv
 obtain⟨f,rfl⟩:∃g,f=g+2:=⟨f-2,by omega⟩
 rw[XP,ZJ,lI]at hf h6
 have lt:=Y8 th
 have le:=Y8 el
 have hth:∀x∈th,rD x/\SP x/\2*nS x+40<=f/\nS x<1000000:=λx hx=>⟨ht x hx,iht x hx,by have:=Ro hx;omega,by have:=Ro hx;omega⟩
 have hel:∀x∈el,rD x/\SP x/\2*nS x+40<=f/\nS x<1000000:=λx hx=>⟨he x hx,ihe x hx,by have:=Ro hx;omega,by have:=Ro hx;omega⟩
 rw[Ik,AAn,AHS]
 have e0:Qu 4 [] JE [c] (th.map FH) (el.map FH)++v::q=W IL::(tokE c++(Oh (th.map FH)++((bif (el.map FH).isEmpty then[]else W EU::Oh (el.map FH))++v::q))):=by simp[Qu,exK]
 rw[e0]
 obtain⟨t,l,hx,_⟩:=hdK hc
 rw[hx]
 show RV _ d (max (dE c+1) (max (maxL (th.map dS)+1) (bif (el.map dS).isEmpty then 0 else maxL (el.map dS)+1))+1) v q (TT (sc (f+1) false) (sc (f+1) true) (f+1) ⟨W IL,t::(l++(Oh (th.map FH)++((bif (el.map FH).isEmpty then[]else W EU::Oh (el.map FH))++v::q))),d,0⟩)
 rw[AQ4,AWr,ACb]
 refine RV.deep (λhlt=>?_) ?_ hd
 ·have e1:=mM (f:=f) (v:=M MG) (q:=((th.map FH).flatten++[M m_rc])++((bif (el.map FH).isEmpty then[]else W EU::Oh (el.map FH))++v::q)) hc (by omega) (jg (.inr (.inr rfl))) (show d+1<=100 by omega)
  rw[hx]at e1
  unfold bodyC
  show RV _ (d+1) _ v q ((BM [IL] ⟨W IL,t::(l++(Oh (th.map FH)++((bif (el.map FH).isEmpty then[]else W EU::Oh (el.map FH))++v::q))),d+1,0⟩).bind _)
  rw[ADA]
  refine e1.bind (k:=λc=>(EW (sc f false) f c.2).bind λt=>(BZ EU t.2).bind λp=>(bif p.1 then(bif Hq [IL] p.2 then(sc f true p.2).bind λx=>some ([x.1],x.2)else EW (sc f false) f p.2)else some ([],p.2)).bind λx=>some (St.mk 4 [] JE [c.1] t.1 x.1,x.2)) ?_ ?_
  ·obtain⟨v1,q1,hv1⟩:∃v1 q1,(bif (el.map FH).isEmpty then[]else W EU::Oh (el.map FH))++v::q=v1::q1:=by
    cases el with
    |nil=>exact⟨_,_,rfl⟩
    |cons a el=>exact⟨_,_,rfl⟩
   have e2:=sJ (F:=f) (f:=f) (v:=v1) (q:=q1) hth (show d+1<=100 by omega) (by omega) (by omega)
   rw[<-hv1]at e2
   refine e2.bind (k:=λt=>(BZ EU t.2).bind λp=>(bif p.1 then(bif Hq [IL] p.2 then(sc f true p.2).bind λx=>some ([x.1],x.2)else EW (sc f false) f p.2)else some ([],p.2)).bind λx=>some (St.mk 4 [] JE [c] t.1 x.1,x.2)) ?_ ?_
   ·cases el with
    |nil=>
     have:v1=v/\q1=q:=by
      have h:=hv1
      simp at h
      exact⟨h.1.symm,h.2.symm⟩
     obtain⟨rfl,rfl⟩:=this
     show RV _ (d+1) 0 v1 q1 ((BZ EU ⟨v1,q1,d+1,0⟩).bind _)
     rw[Rw (UR.trans hv)]
     exact RV.ok (by omega)
    |cons a el=>
     have:v1=W EU/\q1=Oh ((a::el).map FH)++v::q:=by
      have h:=hv1
      simp at h
      exact⟨h.1.symm,by simpa using h.2.symm⟩
     obtain⟨rfl,rfl⟩:=this
     have e3:=sJ (F:=f) (f:=f) (v:=v) (q:=q) hel (show d+1<=100 by omega) (by omega) (by omega)
     obtain⟨w,x,hw⟩:∃w x,Oh ((a::el).map FH)++v::q=M MG::w::x:=by
      unfold Oh
      cases hz:((a::el).map FH).flatten with
      |nil=>exact⟨_,_,rfl⟩
      |cons y z=>exact⟨_,_,rfl⟩
     rw[hw]at e3⊢
     show RV _ (d+1) (maxL ((a::el).map dS)+1) v q ((BZ EU ⟨W EU,M MG::w::x,d+1,0⟩).bind _)
     rw[xI]
     exact(e3.bind (k:=λy=>some (St.mk 4 [] JE [c] th y.1,y.2)) (D2:=0) (RV.ok (by omega)) λa' t r=>⟨_,t,r,rfl⟩).at (by omega)
   ·intro a' t r
    show Bad (d+1) ((BZ EU ⟨t,r,d+1,3⟩).bind _)
    rw[WL Sl]
    exact⟨_,t,r,rfl⟩
  ·intro a' t r
   obtain⟨f,rfl⟩:∃g,f=g+1:=⟨f-1,by omega⟩
   show Bad (d+1) ((EW (sc (f+1) false) (f+1) ⟨t,r,d+1,3⟩).bind _)
   rw[qA Sl (show d+1<1000000 by omega)]
   simp only[Option.bind_some]
   rw[WL Sl]
   exact⟨_,t,r,rfl⟩
 ·obtain⟨f,rfl⟩:∃g,f=g+4:=⟨f-4,by omega⟩
  exact⟨_,_,_,AM5⟩
theorem AOi{c:Ex}{th:List St}(hc:Wr c)(ht:∀x∈th,rD x)(iht:∀x∈th,SP x):SP (.mk 5 [] JE [c] th []):=by
 intro f d v q hf h6 hd hv
 obtain⟨f,rfl⟩:∃g,f=g+1:=⟨f-1,by omega⟩
 rw[XP,ZJ,lI]at hf h6
 have lt:=Y8 th
 have hth:∀x∈th,rD x/\SP x/\2*nS x+40<=f/\nS x<1000000:=λx hx=>⟨ht x hx,iht x hx,by have:=Ro hx;omega,by have:=Ro hx;omega⟩
 rw[Ik,AAn,AHS,show Qu 5 [] JE [c] (th.map FH) ([].map FH)++v::q=W FK::(tokE c++(Oh (th.map FH)++v::q))by simp[Qu,exK]]
 obtain⟨t,l,hx,_⟩:=hdK hc
 have e1:=mM (f:=f) (v:=M MG) (q:=((th.map FH).flatten++[M m_rc])++v::q) hc (by omega) (jg (.inr (.inr rfl))) hd
 rw[hx]at e1⊢
 show RV _ d (max (dE c+1) (maxL (th.map dS)+1)) v q (TT (sc f false) (sc f true) f ⟨W FK,t::(l++(Oh (th.map FH)++v::q)),d,0⟩)
 rw[AIT]
 refine e1.bind (k:=λc=>(EW (sc f false) f c.2).bind λt=>some (St.mk 5 [] JE [c.1] t.1 [],t.2)) ?_ ?_
 ·have e2:=sJ (F:=f) (f:=f) (v:=v) (q:=q) hth hd (by omega) (by omega)
  exact(e2.bind (k:=λt=>some (St.mk 5 [] JE [c] t.1 [],t.2)) (D2:=0) (RV.ok hd) λa' t r=>⟨_,t,r,rfl⟩).at (by omega)
 ·intro a' t r
  obtain⟨f,rfl⟩:∃g,f=g+1:=⟨f-1,by omega⟩
  show Bad d ((EW (sc (f+1) false) (f+1) ⟨t,r,d,3⟩).bind _)
  rw[qA Sl (show d<1000000 by omega)]
  exact⟨_,t,r,rfl⟩
theorem ATj{a:Ex}(ha:Wr a):SP (.mk 6 [] JE [a] [] []):=by
 intro f d v q hf h6 hd hv
 obtain⟨f,rfl⟩:∃g,f=g+1:=⟨f-1,by omega⟩
 rw[XP,ZJ]at hf
 rw[Ik,AAn,AHS,show Qu 6 [] JE [a] ([].map FH) ([].map FH)++v::q=W EZ::(tokE a++M Aq::v::q)by simp[Qu,exK]]
 obtain⟨t,l,ht,hh⟩:=hdK ha
 have e1:=mM (f:=f) (v:=M Aq) (q:=v::q) ha (by omega) (jg (.inl rfl)) hd
 rw[ht]at e1⊢
 show RV _ d (dE a+1) v q (TT _ _ f ⟨W EZ,t::(l++M Aq::v::q),d,0⟩)
 rw[ALI]
 exact AA5 (g:=λx=>.mk 6 [] JE [x] [] []) hd e1
theorem AS3{a:Ex}(ha:Wr a):SP (.mk 7 [] JE [a] [] []):=by
 intro f d v q hf h6 hd hv
 obtain⟨f,rfl⟩:∃g,f=g+1:=⟨f-1,by omega⟩
 rw[XP,ZJ]at hf
 rw[Ik,AAn,AHS,show Qu 7 [] JE [a] ([].map FH) ([].map FH)++v::q=W FM::(tokE a++M Aq::v::q)by simp[Qu,exK]]
 obtain⟨t,l,ht,hh⟩:=hdK ha
 have e1:=mM (f:=f) (v:=M Aq) (q:=v::q) ha (by omega) (jg (.inl rfl)) hd
 rw[ht]at e1⊢
 show RV _ d (dE a+1) v q (TT _ _ f ⟨W FM,t::(l++M Aq::v::q),d,0⟩)
 rw[AHU]
 exact AA5 (g:=λx=>.mk 7 [] JE [x] [] []) hd e1
theorem AWI{s:St}(h:rD s):SP s:=by
 induction h with
 |lt hl ht he=>exact AVy hl ht he
 |put ha hk hb=>exact ATe ha hk hb
 |ask ha hk=>exact ATR ha hk
 |ite hc ht he iht ihe=>exact AT8 hc ht he iht ihe
 |loop hc ht iht=>exact AOi hc ht iht
 |ret ha=>exact ATj ha
 |prt ha=>exact AS3 ha
def dM(m:Me):Nat:=maxL (m.body.map dS)+1
def dC(c:Cl):Nat:=maxL (c.ms.map dM)
def nM(m:Me):Nat:=1+m.ps.length+nSs m.body
def nMs:List Me->Nat
 |[]=>0
 |m::l=>nM m+nMs l
def nC(c:Cl):Nat:=c.fs.length+nMs c.ms
theorem AEV:∀l:List Me,l.length<=nMs l
 |[]=>by simp[nMs]
 |a::l=>by have:=AEV l;unfold nMs nM;simp;omega
theorem AAT:∀{l:List Me} {m:Me},m∈l->nM m<=nMs l
 |a::l,s,h=>by
  unfold nMs
  rcases List.mem_cons.1 h with rfl|h
  ·omega
  ·have:=AAT h;omega
theorem ALi{g d:Nat}{out:List Va}{t:Tok}{r:List Tok}(h:oT t BD=false):ET (g+1) out ⟨t,r,d,0⟩=(bif decide (0<out.length)then BM [CY] ⟨t,r,d,0⟩else some ⟨t,r,d,0⟩).bind λs1=>(UZ s1).bind λt=>(Eo 3 t.2).bind λn=>ET g (out++[⟨n.1,t.1⟩]) (D9 (out.length+1) n.2):=by
 show((BZ BD ⟨t,r,d,0⟩).bind λp=>bif p.1 then some (out,p.2)else(bif decide (0<out.length)then BM [CY] p.2 else some p.2).bind λs1=>(UZ s1).bind λt=>(Eo 3 t.2).bind λn=>ET g (out++[⟨n.1,t.1⟩]) (D9 (out.length+1) n.2))=_
 rw[Rw (UR.trans h)];rfl
def y7(b:Bool)(ps:List Va):List Tok:=match ps with|[]=>[]|a::l=>(bif b then[M CY]else[])++(aZ a++(l.map aZ).flatMap λb=>M CY::b)
theorem AHi(ks:List Va):y7 false ks=La (ks.map aZ):=by cases ks<;>rfl
theorem AJX(a:Va)(l:List Va)(b:Bool):y7 b (a::l)=(bif b then[M CY]else[])++(aZ a++y7 true l):=by
 cases l with
 |nil=>simp[y7]
 |cons c l=>simp[y7]
theorem AQs{l:Bs}{w:Bs}(h:jZ l=true)(h1:w≠Yw)(h2:w≠Qq):oT (U9 l) w=false:=by
 unfold U9
 cases hu:ZV l with
 |true=>simp[oT,U]
 |false=>
  simp only[jZ,hu,Bool.or_false,Bool.or_eq_true,decide_eq_true_eq]at h
  rcases h with rfl|rfl
  ·exact decide_eq_false λe=>h1 e.symm
  ·exact decide_eq_false λe=>h2 e.symm
theorem AGG:∀(ps out:List Va) (g d:Nat) (v:Tok) (q:List Tok),(∀p∈ps,WrV p)->out.length+ps.length<=200->ps.length+1<=g->ET g out (S.of (y7 (decide (0<out.length)) ps++M BD::v::q) d)=some (out++ps,⟨v,q,d,0⟩)
 |[],out,g,d,v,q,_,_,hg=>by
  obtain⟨g,rfl⟩:∃f,g=f+1:=⟨g-1,by omega⟩
  rw[List.append_nil];rfl
 |a::ps,out,g,d,v,q,hp,hn,hg=>by
  obtain⟨g,rfl⟩:∃f,g=f+1:=⟨g-1,by omega⟩
  have hn:out.length+(ps.length+1)<=200:=by simpa using hn
  have hg:ps.length+1<=g:=by
   have:ps.length+1+1<=g+1:=by simpa using hg
   omega
  have ih:=AGG ps (out++[a]) g d v q (λp hx=>hp p (List.mem_cons_of_mem _ hx)) (by simp;omega) hg
  have wa:=hp a List.mem_cons_self
  have hl:(out++[a]).length=out.length+1:=by simp
  rw[hl,decide_eq_true (show 0<out.length+1 by omega),List.append_assoc,List.singleton_append]at ih
  obtain⟨v',q',hv'⟩:∃v' q',y7 true ps++M BD::v::q=v'::q':=by
   cases ps with
   |nil=>exact⟨_,_,rfl⟩
   |cons b ps=>rw[AJX];exact⟨_,_,rfl⟩
  rw[hv']at ih
  have hty:zy a.ty++L a.nm::v'::q'=U9 a.ty.nm::((bif a.ty.arr then[M Fe,M FV]else[])++L a.nm::v'::q'):=rfl
  have e0:((bif decide (0<out.length)then[M CY]else[])++(aZ a++y7 true ps))++M BD::v::q=(bif decide (0<out.length)then[M CY]else[])++(zy a.ty++L a.nm::v'::q'):=by
   rw[List.append_assoc,List.append_assoc,hv'];simp[aZ]
  rw[AJX,e0]
  have hgo:ET (g+1) out (S.of ((bif decide (0<out.length)then[M CY]else[])++(zy a.ty++L a.nm::v'::q')) d)=(UZ (S.of (zy a.ty++L a.nm::v'::q') d)).bind λt=>(Eo 3 t.2).bind λn=>ET g (out++[⟨n.1,t.1⟩]) (D9 (out.length+1) n.2):=by
   cases hz:decide (0<out.length)with
   |false=>
    rw[hty]
    show ET (g+1) out ⟨U9 a.ty.nm,_,d,0⟩=_
    rw[ALi (AQs wa.ty (by decide) (by decide)),hz];rfl
   |true=>
    rw[hty]
    show ET (g+1) out ⟨M CY,U9 a.ty.nm::_,d,0⟩=_
    rw[ALi rfl,hz]
    show((BM [CY] ⟨M CY,U9 a.ty.nm::_,d,0⟩).bind λs1=>(UZ s1).bind λt=>(Eo 3 t.2).bind λn=>ET g (out++[⟨n.1,t.1⟩]) (D9 (out.length+1) n.2))=_
    rw[QY];rfl
  rw[hgo,ADS wa.ty rfl]
  show ET g (out++[a]) (D9 (out.length+1) ⟨v',q',d,0⟩)=_
  rw[AAH (by omega)];exact ih
theorem AMt{f:Nat}{m:Me}{v:Tok}{q:List Tok}(hm:WrM m)(hf:2*nM m+60<=f)(h6:nM m<1000000):RV m 0 (dM m) v q (Rh f (S.of (Tz m++v::q) 0)):=by
 have hlen:=Y8 m.body
 unfold nM at hf h6
 have e1:∀s,Rh f s=(BZ FB s).bind λp=>(BM [D8] p.2).bind λs1=>(UZ s1).bind λt=>(Eo 3 t.2).bind λn=>(BM [Au] n.2).bind λs2=>(ET f [] s2).bind λps=>(EW (sc f false) f ps.2).bind λb=>some (⟨n.1,p.1,ps.1,t.1,b.1⟩,b.2):=λ_=>rfl
 have e2:∀st:Bool,((BM [D8] (S.of (W D8::(zy m.ret++L m.nm::M Au::(La (m.ps.map aZ)++M BD::(Oh (m.body.map FH)++v::q)))) 0)).bind λs1=>(UZ s1).bind λt=>(Eo 3 t.2).bind λn=>(BM [Au] n.2).bind λs2=>(ET f [] s2).bind λps=>(EW (sc f false) f ps.2).bind λb=>some ((⟨n.1,st,ps.1,t.1,b.1⟩:Me),b.2))
  =(EW (sc f false) f (S.of (Oh (m.body.map FH)++v::q) 0)).bind λb=>some (⟨m.nm,st,m.ps,m.ret,b.1⟩,b.2):=by
  intro st
  have w:BM [D8] (S.of (W D8::(zy m.ret++L m.nm::M Au::(La (m.ps.map aZ)++M BD::(Oh (m.body.map FH)++v::q)))) 0)=some (S.of (zy m.ret++L m.nm::M Au::(La (m.ps.map aZ)++M BD::(Oh (m.body.map FH)++v::q))) 0):=ADA (u:=U9 m.ret.nm)
  rw[w]
  simp only[Option.bind_some]
  rw[ADS hm.ret rfl]
  have pa:=AGG m.ps [] f 0 (M MG) ((m.body.map FH).flatten++[M m_rc]++v::q) hm.ps (by simpa using hm.pn) (by omega)
  rw[show decide (0<([]:List Va).length)=false from rfl,AHi]at pa
  obtain⟨u,r,hu⟩:∃u r,La (m.ps.map aZ)++M BD::(Oh (m.body.map FH)++v::q)=u::r:=by
   cases h:La (m.ps.map aZ)with
   |nil=>exact⟨_,_,rfl⟩
   |cons a l=>exact⟨_,_,rfl⟩
  have pa:ET f [] (S.of (La (m.ps.map aZ)++M BD::(Oh (m.body.map FH)++v::q)) 0)=some ([]++m.ps,S.of (Oh (m.body.map FH)++v::q) 0):=pa
  rw[hu]at pa⊢
  show((ET f [] ⟨u,r,0,0⟩).bind λps=>(EW (sc f false) f ps.2).bind λb=>some ((⟨m.nm,st,ps.1,m.ret,b.1⟩:Me),b.2))=_
  rw[show ET f [] ⟨u,r,0,0⟩=_ from pa];rfl
 have e3:Rh f (S.of (Tz m++v::q) 0)=(EW (sc f false) f (S.of (Oh (m.body.map FH)++v::q) 0)).bind λb=>some (⟨m.nm,m.st,m.ps,m.ret,b.1⟩,b.2):=by
  rw[e1]
  unfold Tz
  simp only[List.append_assoc,List.cons_append]
  cases hs:m.st with
  |false=>
   have:BZ FB (S.of (([]:List Tok)++W D8::(zy m.ret++L m.nm::M Au::(La (m.ps.map aZ)++M BD::(Oh (m.body.map FH)++v::q)))) 0)=some (false,S.of (W D8::(zy m.ret++L m.nm::M Au::(La (m.ps.map aZ)++M BD::(Oh (m.body.map FH)++v::q)))) 0):=Rw rfl
   rw[cond_false,this];exact e2 false
  |true=>
   have:BZ FB (S.of ([W FB]++W D8::(zy m.ret++L m.nm::M Au::(La (m.ps.map aZ)++M BD::(Oh (m.body.map FH)++v::q)))) 0)=some (true,S.of (W D8::(zy m.ret++L m.nm::M Au::(La (m.ps.map aZ)++M BD::(Oh (m.body.map FH)++v::q)))) 0):=xI
   rw[cond_true,this];exact e2 true
 rw[e3]
 have hx:∀x∈m.body,rD x/\SP x/\2*nS x+40<=f/\nS x<1000000:=λx hx=>⟨hm.body x hx,AWI (hm.body x hx),by have:=Ro hx;omega,by have:=Ro hx;omega⟩
 have hb:=sJ (F:=f) (f:=f) (v:=v) (q:=q) (d:=0) hx (by omega) (by omega) (by omega)
 exact(hb.bind (k:=λb=>some ((⟨m.nm,m.st,m.ps,m.ret,b.1⟩:Me),b.2)) (b:=m) (D2:=0) (RV.ok (by omega)) λa t r=>⟨_,t,r,rfl⟩).at (by show maxL _+1=_;omega)
theorem AGC{f:Nat}{ms:List Me}:∀(fl fs:List Va) (g:Nat) (t:Tok) (r:List Tok),(∀p∈fl,WrV p)->fs.length+fl.length<=200->EL f (g+fl.length) fs ms (S.of ((fl.map X9).flatten++t::r) 0)=EL f g (fs++fl) ms ⟨t,r,0,0⟩
 |[],fs,g,t,r,_,_=>by rw[List.append_nil];rfl
 |a::fl,fs,g,t,r,hp,hn=>by
  have hn:fs.length+(fl.length+1)<=200:=by simpa using hn
  have wa:=hp a List.mem_cons_self
  have ih:=AGC (f:=f) (ms:=ms) fl (fs++[a]) g t r (λp hx=>hp p (List.mem_cons_of_mem _ hx)) (by simp;omega)
  rw[List.append_assoc,List.singleton_append]at ih
  obtain⟨v,q,hv⟩:∃v q,(fl.map X9).flatten++t::r=v::q:=by
   cases fl with
   |nil=>exact⟨_,_,rfl⟩
   |cons b fl=>exact⟨_,_,rfl⟩
  have e0:((a::fl).map X9).flatten++t::r=W MN::(zy a.ty++L a.nm::M Aq::v::q):=by
   simp only[List.map_cons,List.flatten_cons,List.append_assoc,hv];simp[X9]
  rw[hv]at ih
  rw[e0]
  have e1:EL f (g+(a::fl).length) fs ms (S.of (W MN::(zy a.ty++L a.nm::M Aq::v::q)) 0)=(UZ (S.of (zy a.ty++L a.nm::M Aq::v::q) 0)).bind λt=>(Eo 3 t.2).bind λn=>(BM [Aq] (D9 (fs.length+1) n.2)).bind λs1=>EL f (g+fl.length) (fs++[⟨n.1,t.1⟩]) ms s1:=rfl
  rw[e1,ADS wa.ty rfl]
  show((BM [Aq] (D9 (fs.length+1) ⟨M Aq,v::q,0,0⟩)).bind λs1=>EL f (g+fl.length) (fs++[a]) ms s1)=_
  rw[AAH (by omega),QY];exact ih
theorem AC7{f:Nat}{fs:List Va}:∀(ml ms:List Me) (g:Nat) (v:Tok) (q:List Tok),(∀m∈ml,WrM m/\2*nM m+60<=f/\nM m<1000000)->ms.length+ml.length<=200->ml.length+2<=g->RV (fs,ms++ml) 0 (maxL (ml.map dM)) v q (EL f g fs ms (S.of ((ml.map Tz).flatten++M m_rc::v::q) 0))
 |[],ms,g,v,q,_,_,hg=>by
  obtain⟨g,rfl⟩:∃x,g=x+1:=⟨g-1,by omega⟩
  rw[List.append_nil];exact RV.ok (by omega)
 |a::ml,ms,g,v,q,hp,hn,hg=>by
  obtain⟨g,rfl⟩:∃x,g=x+1:=⟨g-1,by omega⟩
  have hn:ms.length+(ml.length+1)<=200:=by simpa using hn
  have hg:ml.length+2<=g:=by
   have:ml.length+1+2<=g+1:=by simpa using hg
   omega
  obtain⟨wa,hf,h6⟩:=hp a List.mem_cons_self
  have ih:=AC7 (f:=f) (fs:=fs) ml (ms++[a]) g v q (λp hx=>hp p (List.mem_cons_of_mem _ hx)) (by simp;omega) hg
  rw[List.append_assoc,List.singleton_append]at ih
  obtain⟨v',q',hv⟩:∃v' q',(ml.map Tz).flatten++M m_rc::v::q=v'::q':=by
   cases ml with
   |nil=>exact⟨_,_,rfl⟩
   |cons b ml=>simp only[List.map_cons,List.flatten_cons];unfold Tz;cases b.st<;>exact⟨_,_,rfl⟩
  have e0:((a::ml).map Tz).flatten++M m_rc::v::q=Tz a++v'::q':=by
   simp only[List.map_cons,List.flatten_cons,List.append_assoc,hv]
  rw[hv]at ih
  rw[e0]
  have e1:EL f (g+1) fs ms (S.of (Tz a++v'::q') 0)=(Rh f (S.of (Tz a++v'::q') 0)).bind λm=>EL f g fs (ms++[m.1]) (D9 (ms.length+1) m.2):=by
   unfold Tz
   cases a.st<;>rfl
  rw[e1]
  refine(AMt wa hf h6).bind (k:=λm=>EL f g fs (ms++[m.1]) (D9 (ms.length+1) m.2)) ?_ λa' t r=>?_
  ·show RV _ 0 _ v q (EL f g fs (ms++[a]) (D9 (ms.length+1) ⟨v',q',0,0⟩))
   rw[AAH (by omega)];exact ih
  ·obtain⟨g,rfl⟩:∃x,g=x+1:=⟨g-1,by omega⟩
   refine⟨(fs,ms++[a']),t,r,?_⟩
   show EL f (g+1) fs (ms++[a']) (D9 (ms.length+1) ⟨t,r,0,3⟩)=_
   rw[AF0 Sl];exact AKi Sl
theorem AOl{f:Nat}{c:Cl}(hc:WrC c)(hf:2*nC c+100<=f)(h6:nC c<1000000):∃c' e,vS f (l7 c++[TN])=some (c',e)/\(e=0->c'=c)/\(e=0/\dC c<=100∨e=3/\100<dC c):=by
 have hfl:c.fs.length<=200:=hc.fn
 have hml:=AEV c.ms
 unfold nC at hf h6
 obtain⟨g,rfl⟩:∃g,f=g+c.fs.length:=⟨f-c.fs.length,by omega⟩
 have hmeth:=AC7 (f:=g+c.fs.length) (fs:=c.fs) c.ms [] g TN [] (λm hm=>⟨hc.ms m hm,by have:=AAT hm;omega,by have:=AAT hm;omega⟩) (by simpa using hc.mn) (by omega)
 obtain⟨t,r,ht⟩:∃t r,(c.ms.map Tz).flatten++[M m_rc,TN]=t::r:=by
  cases h:(c.ms.map Tz).flatten with
  |nil=>exact⟨_,_,rfl⟩
  |cons a l=>exact⟨_,_,rfl⟩
 have hfi:=AGC (f:=g+c.fs.length) (ms:=[]) c.fs [] g t r hc.fs (by simpa using hc.fn)
 rw[<-ht,List.nil_append]at hfi
 rw[ht]at hmeth
 have hx:EL (g+c.fs.length) (g+c.fs.length) [] [] (S.of ((c.fs.map X9).flatten++((c.ms.map Tz).flatten++[M m_rc,TN])) 0)=EL (g+c.fs.length) g c.fs [] (S.of (t::r) 0):=hfi
 obtain⟨u,y,hu⟩:∃u y,(c.fs.map X9).flatten++((c.ms.map Tz).flatten++[M m_rc,TN])=u::y:=by
  rw[ht]
  cases h:(c.fs.map X9).flatten with
  |nil=>exact⟨_,_,rfl⟩
  |cons a l=>exact⟨_,_,rfl⟩
 have ATd:vS (g+c.fs.length) (l7 c++[TN])=((EL (g+c.fs.length) (g+c.fs.length) [] [] (S.of (u::y) 0)).bind λx=>some (Cl.mk c.nm c.sup x.1.1 x.1.2,AMY x.2)).bind λp=>some (p.1,p.2.e):=by
  have e0:l7 c++[TN]=W J9::U c.nm::((bif c.sup.isEmpty then[]else[W Hl,U c.sup])++M MG::u::y):=by
   rw[<-hu];unfold l7;simp
  rw[e0]
  cases hs:c.sup with
  |nil=>rfl
  |cons a l=>rfl
 rw[ATd,<-hu,hx]
 have hD:dC c=maxL (c.ms.map dM):=rfl
 by_cases hd:dC c<=100
 ·rw[hmeth.1 (by omega)]
  exact⟨_,_,rfl,λ_=>rfl,.inl ⟨rfl,hd⟩⟩
 ·obtain⟨x,t',r',e⟩:=hmeth.2 (by omega)
  rw[e]
  exact⟨_,_,rfl,λh=>absurd (show(AMY ⟨t',r',0,3⟩).e=0 from h) (by rw[AJj Sl];exact Sl),.inr ⟨by show(AMY ⟨t',r',0,3⟩).e=3;rw[AJj Sl],by omega⟩⟩
structure ATQ(t:Tok):Prop where
 low:t.kind=3->qN t.text=true
 upp:t.kind=2->ZV t.text=true
 num:t.kind=4->t.num<=288230376151711744
def AL1:List Tok->Prop
 |[]=>False
 |t::r=>ATQ t/\(t.kind=0∨AL1 r)
def AD0:List Tok->Nat
 |[]=>0
 |t::r=>t.text.length+110+AD0 r
abbrev S.c(s:S):Nat:=s.r.length
def S.p(s:S):Nat:=AD0 (s.t::s.r)
structure Wn(d:Nat)(s:S):Prop where
 e:s.e=0
 dp:s.deep=d
 ts:AL1 (s.t::s.r)
 le:d<=100
structure Fz(d:Nat)(s:S):Prop where
 e:s.e=3∨s.e=4∨s.e=21
 dp:s.deep=d
 le:d<=1000
theorem Fz.ne{d:Nat}{s:S}(h:Fz d s):s.e≠0:=by have:=h.e;omega
theorem Fz.lt{d:Nat}{s:S}(h:Fz d s):s.deep<1000000:=by have:=h.dp;have:=h.le;omega
def Tr{α:Type}(x:Option (α×S))(d:Nat)(Q:α->Nat->Nat->Prop):Prop:=∃o s',x=some (o,s')/\(Wn d s'/\Q o s'.c s'.p∨Fz d s')
def Bd{α:Type}(x:Option (α×S))(d:Nat):Prop:=∃o s',x=some (o,s')/\Fz d s'
section
variable{α β:Type}{d:Nat}{s:S}{Q:α->Nat->Nat->Prop}
theorem Bd.tr{x:Option (α×S)}(h:Bd x d):Tr x d Q:=by obtain⟨o,s',e,h⟩:=h;exact⟨o,s',e,.inr h⟩
theorem Cb{o:α}(h:Fz d s):Bd (some (o,s)) d:=⟨o,s,rfl,h⟩
theorem ES{o:α}(h:Wn d s)(hq:Q o s.c s.p):Tr (some (o,s)) d Q:=⟨o,s,rfl,.inl ⟨h,hq⟩⟩
theorem Tr.mono{x:Option (α×S)}{Q':α->Nat->Nat->Prop}(h:Tr x d Q)(hq:∀o c p,Q o c p->Q' o c p):Tr x d Q':=by
 obtain⟨o,s',e,h⟩:=h
 exact⟨o,s',e,h.imp (λh=>⟨h.1,hq _ _ _ h.2⟩) id⟩
theorem Tr.bind{x:Option (β×S)}{R:β->Nat->Nat->Prop}{k:β×S->Option (α×S)}(h:Tr x d R)(hb:∀o s',Fz d s'->Bd (k (o,s')) d)(hk:∀o s',Wn d s'->R o s'.c s'.p->Tr (k (o,s')) d Q):Tr (x.bind k) d Q:=by
 obtain⟨o,s',rfl,h|h⟩:=h
 ·exact hk _ _ h.1 h.2
 ·exact(hb _ _ h).tr
theorem Bd.bind{x:Option (β×S)}{k:β×S->Option (α×S)}(h:Bd x d)(hk:∀o s',Fz d s'->Bd (k (o,s')) d):Bd (x.bind k) d:=by
 obtain⟨o,s',rfl,h⟩:=h
 exact hk _ _ h
theorem QV{w:Bs}{k:Bool×S->Option (α×S)}(h:Fz d s)(hk:Bd (k (false,s)) d):Bd ((BZ w s).bind k) d:=by rw[WL h.ne];exact hk
theorem MS{ws:List Bs}{k:S->Option (α×S)}(h:Fz d s)(hk:Bd (k s) d):Bd ((BM ws s).bind k) d:=by rw[UM h.ne];exact hk
theorem Yv{n:Nat}{k:Bs×S->Option (α×S)}(h:Fz d s)(hk:Bd (k ([],s)) d):Bd ((Eo n s).bind k) d:=by rw[AF4 h.ne];exact hk
theorem AMM{k:Ty×S->Option (α×S)}(h:Fz d s)(hk:Bd (k (⟨[],false⟩,s)) d):Bd ((UZ s).bind k) d:=by rw[APH h.ne];exact hk
theorem VZ{e:Nat}(h:Wn d s)(he:e=3∨e=4∨e=21):Fz d (EJ e s):=by
 have h1:=h.e;have h2:=h.dp;have h3:=h.le
 unfold EJ S.ok
 rw[h1]
 exact⟨he,h2,by omega⟩
theorem xC(h:Wn d s)(hk:s.t.kind≠0):∃s',Hu s=some s'/\Wn d s'/\s'.c+1<=s.c/\s'.p+s.t.text.length+110=s.p:=by
 obtain⟨t,r,d',e⟩:=s
 have h1:=h.e;have h2:=h.dp;have h3:=h.ts
 simp only at h1 h2 hk
 subst h1;subst h2
 unfold AL1 at h3
 cases r with
 |nil=>rcases h3.2 with h|h;exact absurd h hk;exact h.elim
 |cons u r=>
  refine⟨⟨u,r,d',0⟩,tY hk,⟨rfl,rfl,h3.2.resolve_left hk,h.le⟩,?_,?_⟩
  ·show r.length+1<=(u::r).length
   simp
  ·show AD0 (u::r)+t.text.length+110=AD0 (t::u::r)
   simp only[AD0];omega
theorem AJa{w:Bs}(h:Qy w s=true):s.t.kind≠0/\s.t.text=w:=by
 simp only[Qy,Bool.and_eq_true,Bool.or_eq_true,decide_eq_true_eq]at h
 exact⟨by omega,h.2.2⟩
theorem GX(w:Bs){k:Bool×S->Option (α×S)}(h:Wn d s)(hy:∀s',Wn d s'->s'.c+1<=s.c->s'.p+w.length+110=s.p->Tr (k (true,s')) d Q)(hn:Tr (k (false,s)) d Q):Tr ((BZ w s).bind k) d Q:=by
 cases ho:Qy w s with
 |false=>rw[Rw ho];exact hn
 |true=>
  obtain⟨h1,h2⟩:=AJa ho
  obtain⟨s',e,ha,hc,hp⟩:=xC h h1
  unfold BZ
  rw[ho,e]
  exact hy s' ha hc (by rw[<-h2];exact hp)
theorem KF(w:Bs){k:S->Option (α×S)}(h:Wn d s)(hb:∀s',Fz d s'->Bd (k s') d)(hy:∀s',Wn d s'->s'.c+1<=s.c->s'.p+w.length+110=s.p->Tr (k s') d Q):Tr ((BM [w] s).bind k) d Q:=by
 cases ho:Qy w s with
 |false=>
  have:BM [w] s=some (EJ 21 s):=by unfold BM;rw[Rw ho];rfl
  rw[this]
  exact(hb _ (VZ h (.inr (.inr rfl)))).tr
 |true=>
  obtain⟨h1,h2⟩:=AJa ho
  obtain⟨s',e,ha,hc,hp⟩:=xC h h1
  have:BM [w] s=some s':=ABJ (by unfold BZ;rw[ho,e];rfl)
  rw[this]
  exact hy s' ha hc (by rw[<-h2];exact hp)
theorem Vh{n:Nat}{k:Bs×S->Option (α×S)}(h:Wn d s)(hn:n≠0)(hb:∀s',Fz d s'->Bd (k ([],s')) d)(hy:∀l s',Wn d s'->(n=2->ZV l=true)->(n=3->qN l=true)->s'.c+1<=s.c->s'.p+l.length+110=s.p->Tr (k (l,s')) d Q):Tr ((Eo n s).bind k) d Q:=by
 unfold Eo
 have ho:s.ok=true:=by unfold S.ok;rw[h.e];rfl
 rw[ho]
 cases hk:decide (s.t.kind=n)with
 |false=>exact(hb _ (VZ h (.inr (.inr rfl)))).tr
 |true=>
  have hk:=of_decide_eq_true hk
  obtain⟨s',e,ha,hc,hp⟩:=xC h (by omega)
  rw[e]
  have:=h.ts.1
  exact hy _ s' ha (λh2=>this.upp (by omega)) (λh3=>this.low (by omega)) hc hp
theorem AIl{ws:List Bs}{x:Option (α×S)}{k:S->Option (α×S)}(h:Wn d s)(hy:∀s',Wn d s'->s.t.text∈ws->s'.c+1<=s.c->s'.p+s.t.text.length+110=s.p->Tr (k s') d Q)(hn:Tr x d Q):Tr (bif Hq ws s then(Hu s).bind k else x) d Q:=by
 cases ho:Hq ws s with
 |false=>exact hn
 |true=>
  unfold Hq at ho
  obtain⟨w,hw,ho⟩:=List.any_eq_true.1 ho
  obtain⟨h1,h2⟩:=AJa ho
  obtain⟨s',e,ha,hc,hp⟩:=xC h h1
  rw[e]
  exact hy s' ha (by rw[h2];exact hw) hc hp
theorem AAR{n:Nat}{k:S->Option (α×S)}(h:Wn d s)(hb:∀s',Fz d s'->Bd (k s') d)(hy:n<=200->Tr (k s) d Q):Tr (k (D9 n s)) d Q:=by
 unfold D9
 cases hn:decide (200<n)with
 |true=>exact(hb _ (VZ h (.inr (.inl rfl)))).tr
 |false=>have:=of_decide_eq_false hn;exact hy (by omega)
theorem ASG{d:Nat}{s:S}(h:s.deep=d+1)(hd:d<1000000):VB s=some {s with deep:=d}:=by
 unfold VB;rw[h];simp only[hd,decide_true,cond_true]
theorem zk{x:S->Option (β×S)}{g:β->α}{R:β->Nat->Nat->Prop}(h:Wn d s)(hb:∀s',Fz (d+1) s'->s'.t=s.t->s'.r=s.r->Bd (x s') (d+1))(hy:∀s',Wn (d+1) s'->s'.t=s.t->s'.r=s.r->Tr (x s') (d+1) R)(hq:∀o c p,R o c p->Q (g o) c p):
 Tr ((LD s).bind λs1=>(x s1).bind λp=>(VB p.2).bind λs'=>some (g p.1,s')) d Q:=by
 obtain⟨t,r,d',e⟩:=s
 have h1:=h.e;have h2:=h.dp;have h3:=h.ts;have h4:=h.le
 simp only at h1 h2
 subst h1;subst h2
 have out:∀{o:β} {s1:S},Fz (d'+1) s1->Tr ((VB s1).bind λs'=>some (g o,s')) d' Q:=λ{o s1} h=>by
  rw[ASG h.dp (by omega)]
  exact⟨_,_,rfl,.inr ⟨h.e,rfl,by omega⟩⟩
 by_cases ACE:d'=100
 ·subst ACE
  rw[vF]
  obtain⟨o,s1,e,hf⟩:=hb ⟨t,r,101,3⟩ ⟨.inl rfl,rfl,by omega⟩ rfl rfl
  show Tr ((x ⟨t,r,101,3⟩).bind λp=>(VB p.2).bind λs'=>some (g p.1,s')) 100 Q
  rw[e]
  exact out hf
 ·rw[AAA (by omega)]
  obtain⟨o,s1,e,hf⟩:=hy ⟨t,r,d'+1,0⟩ ⟨rfl,rfl,h3,by omega⟩ rfl rfl
  show Tr ((x ⟨t,r,d'+1,0⟩).bind λp=>(VB p.2).bind λs'=>some (g p.1,s')) d' Q
  rw[e]
  rcases hf with⟨ha,hr⟩|hf
  ·show Tr ((VB s1).bind λs'=>some (g o,s')) d' Q
   rw[ASG ha.dp (by omega)]
   exact⟨_,_,rfl,.inl ⟨⟨ha.e,rfl,ha.ts,h.le⟩,hq _ _ _ hr⟩⟩
  ·exact out hf
theorem AId{x:S->Option (β×S)}{g:β->α}(h:Fz d s)(hd:d<1000)(hb:∀s',Fz (d+1) s'->Bd (x s') (d+1)):
 Bd ((LD s).bind λs1=>(x s1).bind λp=>(VB p.2).bind λs'=>some (g p.1,s')) d:=by
 rw[ABZ h.ne h.lt]
 obtain⟨o,s1,e,hf⟩:=hb {s with deep:=s.deep+1} ⟨h.e,by rw[<-h.dp],by omega⟩
 show Bd ((x {s with deep:=s.deep+1}).bind λp=>(VB p.2).bind λs'=>some (g p.1,s')) d
 rw[e]
 show Bd ((VB s1).bind λs'=>some (g o,s')) d
 rw[ASG hf.dp (by omega)]
 exact⟨_,_,rfl,⟨hf.e,rfl,by omega⟩⟩
end
abbrev lE(e:Ex):Nat:=(textE e).length
abbrev lJ(l:List Ex):Nat:=(GZ (l.map textE)).length
theorem PE:Au.length=1/\BD.length=1/\Fe.length=1/\FV.length=1/\DJ.length=1/\Dq.length=1/\IV.length=1/\L9.length=2/\W9.length=2/\CY.length=1/\Ib.length=3/\RP.length=2/\OC.length=2/\G7.length=6:=⟨rfl,rfl,rfl,rfl,rfl,rfl,rfl,rfl,rfl,rfl,rfl,rfl,rfl,rfl⟩
theorem ATp(l:Bs)(a:Ex):lE (.mk 7 0 l [] false [a])=lE a+(l.length+1):=by
 have:=PE;unfold lE;rw[Ad];show(textE a++(DJ++l)).length=_;simp only[List.length_append];omega
theorem AP8(l:Bs)(a:Ex)(ks:List Ex):lE (.mk 8 0 l [] false (a::ks))=lE a+(l.length+(lJ ks+3)):=by
 have:=PE;unfold lE lJ;rw[Ad];show(textE a++(DJ++(l++(Au++(GZ (ks.map textE)++BD))))).length=_;simp only[List.length_append];omega
theorem AQJ(l u:Bs)(ks:List Ex):lE (.mk 9 0 l u false ks)=u.length+(l.length+(lJ ks+3)):=by
 have:=PE;unfold lE lJ;rw[Ad];show(u++(DJ++(l++(Au++(GZ (ks.map textE)++BD))))).length=_;simp only[List.length_append];omega
theorem ASe(u:Bs):lE (.mk 10 0 [] u false [])=u.length+6:=by
 have:=PE;unfold lE;rw[Ad];show(Au++(Ib++([32]++(u++BD)))).length=_;simp only[List.length_append,List.length_cons,List.length_nil];omega
theorem AT1(u:Bs)(a:Ex):lE (.mk 11 0 [] u false [a])=u.length+(lE a+6):=by
 have:=PE;unfold lE;rw[Ad];show(Ib++([32]++(u++(Fe++(textE a++FV))))).length=_;simp only[List.length_append,List.length_cons,List.length_nil];omega
theorem ASc(a b:Ex):lE (.mk 12 0 [] [] false [a,b])=lE a+(lE b+2):=by
 have:=PE;unfold lE;rw[Ad];show(textE a++(Fe++(textE b++FV))).length=_;simp only[List.length_append];omega
theorem AR0(a:Ex):lE (.mk 13 0 [] [] false [a])=lE a+7:=by
 have:=PE;unfold lE;rw[Ad];show(textE a++(DJ++G7)).length=_;simp only[List.length_append];omega
theorem ATU(a:Ex):lE (.mk 14 0 [] [] false [a])=lE a+3:=by
 have:=PE;unfold lE;rw[Ad];show(Au++(Dq++(textE a++BD))).length=_;simp only[List.length_append];omega
theorem ATG(a:Ex):lE (.mk 15 0 [] [] false [a])=lE a+3:=by
 have:=PE;unfold lE;rw[Ad];show(Au++(IV++(textE a++BD))).length=_;simp only[List.length_append];omega
theorem ALo(o:Bs)(a b:Ex):lE (.mk 16 0 o [] false [a,b])=lE a+(lE b+(o.length+4)):=by
 have:=PE;unfold lE;rw[Ad];show(Au++(textE a++([32]++(o++([32]++(textE b++BD)))))).length=_;simp only[List.length_append,List.length_cons,List.length_nil];omega
theorem AS0(a b:Ex):lE (.mk 17 0 [] [] false [a,b])=lE a+(lE b+6):=by
 have:=PE;unfold lE;rw[Ad];show(Au++(textE a++([32]++(L9++([32]++(textE b++BD)))))).length=_;simp only[List.length_append,List.length_cons,List.length_nil];omega
theorem AVC(a b:Ex):lE (.mk 18 0 [] [] false [a,b])=lE a+(lE b+6):=by
 have:=PE;unfold lE;rw[Ad];show(Au++(textE a++([32]++(W9++([32]++(textE b++BD)))))).length=_;simp only[List.length_append,List.length_cons,List.length_nil];omega
theorem AWN(u:Bs)(a:Ex):lE (.mk 19 0 [] u false [a])=lE a+(u.length+6):=by
 have:=PE;unfold lE;rw[Ad];show(Au++(textE a++([32]++(RP++([32]++(u++BD)))))).length=_;simp only[List.length_append,List.length_cons,List.length_nil];omega
theorem AVb(u:Bs)(a:Ex):lE (.mk 20 0 [] u false [a])=lE a+(u.length+6):=by
 have:=PE;unfold lE;rw[Ad];show(Au++(textE a++([32]++(OC++([32]++(u++BD)))))).length=_;simp only[List.length_append,List.length_cons,List.length_nil];omega
theorem AC5:∀(l:List Bs) (b:Bs),(GZ (l++[b])).length=(GZ l).length+b.length+(bif l.isEmpty then 0 else 2)
 |[],b=>by simp[GZ]
 |a::l,b=>by simp[GZ,CY];omega
theorem APs(l:List Ex)(e:Ex):lJ (l++[e])=lJ l+lE e+(bif l.isEmpty then 0 else 2):=by
 unfold lJ;rw[List.map_append,List.map_cons,List.map_nil,AC5];cases l<;>rfl
theorem ANo:∀f x,xW f x<=f+1
 |0,x=>by unfold xW;omega
 |f+1,x=>by have:=ANo f (x/10);unfold xW;split<;>omega
def QE(c p:Nat)(o:Ex)(c' p':Nat):Prop:=Wr o/\c'+1<=c/\p'+lE o<=p
def QL(c p:Nat)(e o:Ex)(c' p':Nat):Prop:=Wr o/\c'<=c/\p'+lE o<=p+lE e
def QA(c p:Nat)(l o:List Ex)(c' p':Nat):Prop:=(∀x∈o,Wr x)/\o.length<=200/\c'<=c/\p'+lJ o<=p+lJ l
structure Sp(nx:PM Ex)(N:Nat):Prop where
 tr:∀d s,Wn d s->s.c<N->Tr (nx s) d (QE s.c s.p)
 bd:∀d s,Fz d s->d<900->Bd (nx s) d
section
variable{d:Nat}{s:S}
theorem qL{k:Nat}{w:Bs}{nx:PM Ex}{f:Nat}{e:Ex}(h:Fz d s)(hf:1<=f):Bd (UK k w nx f e s) d:=by
 obtain⟨f,rfl⟩:∃g,f=g+1:=⟨f-1,by omega⟩
 unfold UK
 rw[Td h.ne];exact Cb h
theorem wL{ws:List Bs}{nx:PM Ex}{f:Nat}{e:Ex}(h:Fz d s)(hf:1<=f):Bd (Xz ws nx f e s) d:=by
 obtain⟨f,rfl⟩:∃g,f=g+1:=⟨f-1,by omega⟩
 unfold Xz
 rw[Td h.ne];exact Cb h
theorem AIX{f:Nat}{e:Ex}(h:Fz d s)(hf:1<=f):Bd (asL f e s) d:=by
 obtain⟨f,rfl⟩:∃g,f=g+1:=⟨f-1,by omega⟩
 unfold asL
 rw[Td h.ne];exact Cb h
theorem jO{rec:PM Ex}{f:Nat}{l:List Ex}(h:Fz d s)(hf:1<=f):Bd (MB rec f l s) d:=by
 obtain⟨f,rfl⟩:∃g,f=g+1:=⟨f-1,by omega⟩
 unfold MB
 rw[U4 h.ne];exact Cb h
theorem aW{rec:PM Ex}{f:Nat}{e:Ex}(h:Fz d s)(hf:1<=f):Bd (Jo rec f e s) d:=by
 obtain⟨f,rfl⟩:∃g,f=g+1:=⟨f-1,by omega⟩
 unfold Jo
 exact QV h (QV h (Cb h))
theorem AFC{rec:PM Ex}{f:Nat}(h:Fz d s)(hf:1<=f):Bd (XF rec f s) d:=MS h (jO h hf)
theorem ANq{rec:PM Ex}{f:Nat}(h:Fz d s):Bd (Qc rec f s) d:=by rw[sV h.ne];exact Cb h
theorem AKZ{rec:PM Ex}{f:Nat}(h:Fz d s)(hf:1<=f):Bd (SV rec f s) d:=(ANq h).bind λ_ _ h=>aW h hf
theorem AFa{rec:PM Ex}{f:Nat}(h:Fz d s)(hf:2<=f):Bd (unary rec f s) d:=by
 obtain⟨f,rfl⟩:∃g,f=g+1:=⟨f-1,by omega⟩
 unfold unary
 rw[Td h.ne,Td h.ne]
 exact(AKZ h (by omega)).bind λ_ _ h=>AIX h (by omega)
theorem AHe{k:Nat}{w:Bs}{nx:PM Ex}{N:Nat}(hn:Sp nx N)(hN:N<1000)(hk:∀a b,Wr a->Wr b->Wr (.mk k 0 [] [] false [a,b])/\lE (.mk k 0 [] [] false [a,b])=lE a+(lE b+6)):
 ∀(f:Nat) (e:Ex) (d:Nat) (s:S),Wn d s->s.c<N->s.c+1<=f->Wr e->Tr (UK k w nx f e s) d (QL s.c s.p e):=by
 intro f
 induction f with
 |zero=>intro e d s h hc hf;omega
 |succ f ih=>
  intro e d s h hc hf he
  have hle:=h.le
  unfold UK
  refine AIl h (λs1 h1 _ hc1 hp1=>?_) (ES h ⟨he,Nat.le_refl _,Nat.le_refl _⟩)
  refine(hn.tr d s1 h1 (by omega)).bind (λo s2 h2=>qL h2 (by omega)) λo s2 h2 hq=>?_
  obtain⟨ho,hc2,hp2⟩:=hq
  obtain⟨hw,hl⟩:=hk e o he ho
  exact(ih _ d s2 h2 (by omega) (by omega) hw).mono λo' c p hq=>⟨hq.1,by have:=hq.2.1;omega,by have:=hq.2.2;omega⟩
theorem AC3{k:Nat}{w:Bs}{nx:PM Ex}{N f:Nat}(hn:Sp nx N)(hN:N<1000)(hf:N+1<=f)(hk:∀a b,Wr a->Wr b->Wr (.mk k 0 [] [] false [a,b])/\lE (.mk k 0 [] [] false [a,b])=lE a+(lE b+6)):Sp (either k w nx f) N where
 tr d s h hc:=by
  refine(hn.tr d s h hc).bind (λo s2 h2=>qL h2 (by omega)) λo s2 h2 hq=>?_
  obtain⟨ho,hc2,hp2⟩:=hq
  exact(AHe hn hN hk f o d s2 h2 (by omega) (by omega) ho).mono λo' c p hq=>⟨hq.1,by have:=hq.2.1;omega,by have:=hq.2.2;omega⟩
 bd d s h hd:=(hn.bd d s h hd).bind λo s2 h2=>qL h2 (by omega)
theorem AKH{ws:List Bs}{nx:PM Ex}{N:Nat}(hn:Sp nx N)(hw:∀w∈ws,w∈AEi):
 ∀(f:Nat) (e:Ex) (d:Nat) (s:S),Wn d s->s.c<N->s.c+1<=f->Wr e->Tr (Xz ws nx f e s) d (QL s.c s.p e):=by
 intro f
 induction f with
 |zero=>intro e d s h hc hf;omega
 |succ f ih=>
  intro e d s h hc hf he
  unfold Xz
  refine AIl h (λs1 h1 ht hc1 hp1=>?_) (ES h ⟨he,Nat.le_refl _,Nat.le_refl _⟩)
  refine(hn.tr d s1 h1 (by omega)).bind (λo s2 h2=>wL h2 (by omega)) λo s2 h2 hq=>?_
  obtain⟨ho,hc2,hp2⟩:=hq
  have hl:=ALo s.t.text e o
  exact(ih _ d s2 h2 (by omega) (by omega) (.bin (hw _ ht) he ho)).mono λo' c p hq=>⟨hq.1,by have:=hq.2.1;omega,by have:=hq.2.2;omega⟩
theorem AGE{ws:List Bs}{nx:PM Ex}{N f:Nat}(hn:Sp nx N)(hf:N+1<=f)(hw:∀w∈ws,w∈AEi):Sp (signs ws nx f) N where
 tr d s h hc:=by
  refine(hn.tr d s h hc).bind (λo s2 h2=>wL h2 (by omega)) λo s2 h2 hq=>?_
  obtain⟨ho,hc2,hp2⟩:=hq
  exact(AKH hn hw f o d s2 h2 (by omega) (by omega) ho).mono λo' c p hq=>⟨hq.1,by have:=hq.2.1;omega,by have:=hq.2.2;omega⟩
 bd d s h hd:=(hn.bd d s h hd).bind λo s2 h2=>wL h2 (by omega)
theorem AGa{un:PM Ex}{N f:Nat}(hn:Sp un N)(hf:N+1<=f):Sp (compared un f) N:=by
 have hs:Sp (sumP un f) N:=AGE (AGE hn hf (by decide)) hf (by decide)
 constructor
 ·intro d s h hc
  have hle:=h.le
  refine(hs.tr d s h hc).bind (λo s2 h2=>?_) λo s2 h2 hq=>?_
  ·show Bd (bif Hq [WX,gB,UW,fM] s2 then _ else _) d
   rw[Td h2.ne];exact Cb h2
  ·obtain⟨ho,hc2,hp2⟩:=hq
   refine AIl h2 (λs3 h3 ht hc3 hp3=>?_) (ES h2 ⟨ho,hc2,hp2⟩)
   refine(hs.tr d s3 h3 (by(try dsimp only at*);omega)).bind (λo s4 h4=>Cb h4) λo' s4 h4 hq=>?_
   obtain⟨ho',hc4,hp4⟩:=hq
   have hl:=ALo s2.t.text o o'
   refine ES h4 ⟨.bin ?_ ho ho',by(try dsimp only at*);omega,?_⟩
   ·revert ht;generalize s2.t.text=w;intro ht
    simp only[List.mem_cons,List.not_mem_nil,or_false]at ht
    rcases ht with rfl|rfl|rfl|rfl<;>decide
   ·show s4.p+lE _<=_;(try dsimp only at*);omega
 ·intro d s h hd
  refine(hs.bd d s h hd).bind λo s2 h2=>?_
  show Bd (bif Hq [WX,gB,UW,fM] s2 then _ else _) d
  rw[Td h2.ne];exact Cb h2
theorem ATr:∀(f:Nat) (e:Ex) (d:Nat) (s:S),Wn d s->s.c+1<=f->Wr e->Tr (asL f e s) d (QL s.c s.p e):=by
 intro f
 induction f with
 |zero=>intro e d s h hf;omega
 |succ f ih=>
  intro e d s h hf he
  unfold asL
  refine AIl h (λs1 h1 ht hc1 hp1=>?_) (ES h ⟨he,Nat.le_refl _,Nat.le_refl _⟩)
  refine Vh h1 (by decide) (λs2 h2=>AIX h2 (by omega)) λl s2 h2 hu _ hc2 hp2=>?_
  have ho:Wr (.mk (bif decide (s.t.text=OC)then 20 else 19) 0 [] l false [e])/\lE (.mk (bif decide (s.t.text=OC)then 20 else 19) 0 [] l false [e])=lE e+(l.length+6):=by
   cases decide (s.t.text=OC)with
   |true=>exact⟨.isx (hu rfl) he,AVb l e⟩
   |false=>exact⟨.asx (hu rfl) he,AWN l e⟩
  exact(ih _ d s2 h2 (by omega) ho.1).mono λo' c p hq=>⟨hq.1,by have:=hq.2.1;omega,by have:=hq.2.2;have:=ho.2;omega⟩
theorem AMQ{rec:PM Ex}{N:Nat}(hr:Sp rec N):
 ∀(f:Nat) (l:List Ex) (d:Nat) (s:S),Wn d s->s.c<N->s.c+2<=f->(∀x∈l,Wr x)->l.length<=200->Tr (MB rec f l s) d (QA s.c s.p l):=by
 intro f
 induction f with
 |zero=>intro l d s h hc hf;omega
 |succ f ih=>
  intro l d s h hc hf hl hn
  have hle:=h.le
  have ho:s.ok=true:=by unfold S.ok;rw[h.e];rfl
  unfold MB
  rw[ho]
  refine GX BD h (λs1 h1 hc1 hp1=>ES h1 ⟨hl,hn,by(try dsimp only at*);omega,by(try dsimp only at*);omega⟩) ?_
  have one:∀s1,Wn d s1->s1.c<=s.c->s1.p+(bif l.isEmpty then 0 else 2)<=s.p->Tr ((rec s1).bind λq=>MB rec f (l++[q.1]) (D9 (l.length+1) q.2)) d (QA s.c s.p l):=by
   intro s1 h1 hc1 hp1
   refine(hr.tr d s1 h1 (by omega)).bind (λo s2 h2=>?_) λo s2 h2 hq=>?_
   ·show Bd (MB rec f _ (D9 _ s2)) d
    unfold D9
    rw[PS h2.ne,Bool.cond_self]
    exact jO h2 (by omega)
   obtain⟨hw,hc2,hp2⟩:=hq
   refine AAR (k:=MB rec f (l++[o])) h2 (λs3 h3=>jO h3 (by omega)) λh200=>?_
   have hj:=APs l o
   refine(ih (l++[o]) d s2 h2 (by omega) (by omega) ?_ ?_).mono λo' c p hq=>⟨hq.1,hq.2.1,by have:=hq.2.2.1;omega,by have:=hq.2.2.2;omega⟩
   ·intro x hx
    rcases List.mem_append.1 hx with hx|hx
    ·exact hl x hx
    ·rw[List.mem_singleton.1 hx];exact hw
   ·rw[List.length_append];exact h200
  cases l with
  |nil=>exact one s h (Nat.le_refl _) (Nat.le_refl _)
  |cons a l=>
   refine KF CY h (λs1 h1=>?_) λs1 h1 hc1 hp1=>one s1 h1 (by(try dsimp only at*);omega) (by show s1.p+2<=_;(try dsimp only at*);omega)
   refine(hr.bd d s1 h1 (by omega)).bind λo s2 h2=>?_
   show Bd (MB rec f _ (D9 _ s2)) d
   unfold D9
   rw[PS h2.ne,Bool.cond_self]
   exact jO h2 (by omega)
theorem AFd{rec:PM Ex}{N f:Nat}(hr:Sp rec N)(hf:s.c+1<=f)(h:Wn d s)(hc:s.c<=N):Tr (XF rec f s) d λo c p=>(∀x∈o,Wr x)/\o.length<=200/\c<=s.c/\p+lJ o+111<=s.p:=by
 have:=PE
 refine KF Au h (λs1 h1=>jO h1 (by omega)) λs1 h1 hc1 hp1=>?_
 refine(AMQ hr f [] d s1 h1 (by omega) (by omega) (λx hx=>by cases hx) (by decide)).mono λo c p hq=>⟨hq.1,hq.2.1,by have:=hq.2.2.1;omega,?_⟩
 have h0:lJ []=0:=rfl
 have:=hq.2.2.2
 omega
theorem AIS{rec:PM Ex}{N f:Nat}(hr:Sp rec N)(hf:s.c+1<=f){e:Ex}(h:Wn d s)(hc:s.c<=N)(he:Wr e):Tr (TQ rec f e s) d λo c p=>Wr o/\c<=s.c/\p+lE o<=s.p+lE e+20:=by
 have:=PE
 unfold TQ
 refine GX G7 h (λs1 h1 hc1 hp1=>?_) ?_
 ·have hl:=AR0 e
  exact ES h1 ⟨.len he,by(try dsimp only at*);omega,by(try dsimp only at*);omega⟩
 ·refine Vh h (by decide) (λs1 h1=>?_) λl s1 h1 _ hlow hc1 hp1=>?_
  ·show Bd (bif Hq [Au] s1 then _ else _) d
   rw[Td h1.ne];exact Cb h1
  ·show Tr (bif Hq [Au] s1 then _ else _) d _
   cases Hq [Au] s1 with
   |false=>
    have hl:=ATp l e
    exact ES h1 ⟨.get (hlow rfl) he,by(try dsimp only at*);omega,by(try dsimp only at*);omega⟩
   |true=>
    refine(AFd hr (by(try dsimp only at*);omega) h1 (by(try dsimp only at*);omega)).bind (λo s2 h2=>Cb h2) λo s2 h2 hq=>?_
    obtain⟨hw,hn,hc2,hp2⟩:=hq
    have hl:=AP8 l e o
    exact ES h2 ⟨.call (hlow rfl) he hw hn,by(try dsimp only at*);omega,by(try dsimp only at*);omega⟩
theorem AKc{rec:PM Ex}{N:Nat}(hr:Sp rec N):
 ∀(f:Nat) (e:Ex) (d:Nat) (s:S),Wn d s->s.c<=N->s.c+1<=f->Wr e->Tr (Jo rec f e s) d (QL s.c s.p e):=by
 have:=PE
 intro f
 induction f with
 |zero=>intro e d s h hc hf;omega
 |succ f ih=>
  intro e d s h hc hf he
  unfold Jo
  refine GX Fe h (λs1 h1 hc1 hp1=>?_) (GX DJ h (λs1 h1 hc1 hp1=>?_) (ES h ⟨he,Nat.le_refl _,Nat.le_refl _⟩))
  ·refine(hr.tr d s1 h1 (by omega)).bind (λo s2 h2=>MS h2 (aW h2 (by omega))) λo s2 h2 hq=>?_
   obtain⟨ho,hc2,hp2⟩:=hq
   refine KF FV h2 (λs3 h3=>aW h3 (by omega)) λs3 h3 hc3 hp3=>?_
   have hl:=ASc e o
   exact(ih _ d s3 h3 (by(try dsimp only at*);omega) (by(try dsimp only at*);omega) (.elm he ho)).mono λo' c p hq=>⟨hq.1,by have:=hq.2.1;(try dsimp only at*);omega,by have:=hq.2.2;(try dsimp only at*);omega⟩
  ·refine(AIS hr (by(try dsimp only at*);omega) h1 (by(try dsimp only at*);omega) he).bind (λo s2 h2=>aW h2 (by(try dsimp only at*);omega)) λo s2 h2 hq=>?_
   obtain⟨ho,hc2,hp2⟩:=hq
   exact(ih _ d s2 h2 (by(try dsimp only at*);omega) (by(try dsimp only at*);omega) ho).mono λo' c p hq=>⟨hq.1,by have:=hq.2.1;(try dsimp only at*);omega,by have:=hq.2.2;(try dsimp only at*);omega⟩
theorem AEC{α:Type}{n:Nat}{x:Option (α×S)}{k:S->Option (α×S)}{Q:α->Nat->Nat->Prop}(h:Wn d s)(hn0:n≠0)(hy:∀s',Wn d s'->s.t.kind=n->s'.c+1<=s.c->s'.p+s.t.text.length+110=s.p->Tr (k s') d Q)(hn:Tr x d Q):Tr (bif decide (s.t.kind=n)then(Hu s).bind k else x) d Q:=by
 cases hk:decide (s.t.kind=n)with
 |false=>exact hn
 |true=>
  have hk:=of_decide_eq_true hk
  obtain⟨s',e,ha,hc,hp⟩:=xC h (by omega)
  rw[e]
  exact hy s' ha hk hc hp
theorem AIf{α:Type}{k:Ty×S->Option (α×S)}{Q:α->Nat->Nat->Prop}(h:Wn d s)(hb:∀s',Fz d s'->Bd (k (⟨[],false⟩,s')) d)(hy:∀t s',Wn d s'->t.arr=false->jZ t.nm=true->(ZT t=true->ZV t.nm=true)->s'.c+1<=s.c->s'.p+t.nm.length+110=s.p->Tr (k (t,s')) d Q):Tr ((Yu s).bind k) d Q:=by
 have e:(Yu s).bind k=(BZ Yw s).bind λp=>bif p.1 then k (⟨Yw,false⟩,p.2)else(BZ Qq p.2).bind λp=>bif p.1 then k (⟨Qq,false⟩,p.2)else(Eo 2 p.2).bind λp=>k (⟨p.1,false⟩,p.2):=by
  unfold Yu
  simp only[Option.bind_assoc]
  congr 1;funext p
  cases p.1 with
  |true=>rfl
  |false=>
   simp only[cond_false,Option.bind_assoc]
   congr 1;funext q
   cases q.1 with
   |true=>rfl
   |false=>simp only[cond_false,Option.bind_assoc];rfl
 rw[e]
 refine GX Yw h (λs1 h1 hc1 hp1=>hy _ s1 h1 rfl (by decide) (λh=>by revert h;decide) hc1 hp1) ?_
 refine GX Qq h (λs1 h1 hc1 hp1=>hy _ s1 h1 rfl (by decide) (λh=>by revert h;decide) hc1 hp1) ?_
 exact Vh h (by decide) hb λl s1 h1 hu _ hc1 hp1=>hy ⟨l,false⟩ s1 h1 rfl (by unfold jZ;rw[hu rfl];simp) (λ_=>hu rfl) hc1 hp1
theorem ALg{rec:PM Ex}{N f:Nat}(hr:Sp rec N)(hf:s.c+1<=f)(h:Wn d s)(hc:s.c<=N):Tr (Qc rec f s) d (QE s.c s.p):=by
 have:=PE
 have hle:=h.le
 have ho:s.ok=true:=by unfold S.ok;rw[h.e];rfl
 unfold Qc
 rw[ho]
 show Tr (bif decide (s.t.kind=4)then _ else _) d _
 refine AEC h (by decide) (λs1 h1 hk hc1 hp1=>?_) ?_
 ·refine ES h1 ⟨.num (h.ts.1.num hk),hc1,?_⟩
  have hl:lE (.mk 1 s.t.num [] [] false [])=(YE s.t.num).length:=by unfold lE;rw[Ad];rfl
  have:(YE s.t.num).length<=21:=by unfold YE;rw[Tj];exact ANo 20 _
  omega
 refine AEC h (by decide) (λs1 h1 hk hc1 hp1=>?_) ?_
 ·have hl:lE (.mk 6 0 s.t.text [] false [])=s.t.text.length:=by unfold lE;rw[Ad];rfl
  exact ES h1 ⟨.loc (h.ts.1.low hk),hc1,by omega⟩
 refine AEC h (by decide) (λs1 h1 hk hc1 hp1=>?_) ?_
 ·refine KF DJ h1 (λs2 h2=>Yv h2 ((AFC h2 (by omega)).bind λ_ _ h3=>Cb h3)) λs2 h2 hc2 hp2=>?_
  refine Vh h2 (by decide) (λs3 h3=>(AFC h3 (by omega)).bind λ_ _ h4=>Cb h4) λl s3 h3 _ hlow hc3 hp3=>?_
  refine(AFd hr (by omega) h3 (by omega)).bind (λo s4 h4=>Cb h4) λo s4 h4 hq=>?_
  obtain⟨hw,hn,hc4,hp4⟩:=hq
  have hl:=AQJ l s.t.text o
  exact ES h4 ⟨.stat (hlow rfl) (h.ts.1.upp hk) hw hn,by(try dsimp only at*);omega,by(try dsimp only at*);omega⟩
 have wl:Wv.length=4/\Rk.length=5/\Qp.length=4/\XB.length=4:=⟨rfl,rfl,rfl,rfl⟩
 have l2:lE (.mk 2 0 [] [] false [])=4:=by unfold lE;rw[Ad];rfl
 have l3:lE (.mk 3 0 [] [] false [])=5:=by unfold lE;rw[Ad];rfl
 have l4:lE (.mk 4 0 [] [] false [])=4:=by unfold lE;rw[Ad];rfl
 have l5:lE (.mk 5 0 [] [] false [])=4:=by unfold lE;rw[Ad];rfl
 refine GX Wv h (λs1 h1 hc1 hp1=>ES h1 ⟨.tru,hc1,by(try dsimp only at*);omega⟩) ?_
 refine GX Rk h (λs1 h1 hc1 hp1=>ES h1 ⟨.fls,hc1,by(try dsimp only at*);omega⟩) ?_
 refine GX Qp h (λs1 h1 hc1 hp1=>ES h1 ⟨.nul,hc1,by(try dsimp only at*);omega⟩) ?_
 refine GX XB h (λs1 h1 hc1 hp1=>ES h1 ⟨.ths,hc1,by(try dsimp only at*);omega⟩) ?_
 refine GX Ib h (λs1 h1 hc1 hp1=>?_) ?_
 ·refine AIf h1 (λs2 h2=>?_) λt s2 h2 ha hb hcl hc2 hp2=>?_
  ·refine QV h2 ?_
   show Bd (some (_,bif _ then s2 else EJ 21 s2)) d
   rw[PS h2.ne,Bool.cond_self]
   exact Cb h2
  ·obtain⟨nm,ar⟩:=t
   simp only at ha;subst ha
   refine GX Fe h2 (λs3 h3 hc3 hp3=>?_) ?_
   ·refine(hr.tr d s3 h3 (by(try dsimp only at*);omega)).bind (λo s4 h4=>MS h4 (Cb h4)) λo s4 h4 hq=>?_
    obtain⟨hw,hc4,hp4⟩:=hq
    refine KF FV h4 (λs5 h5=>Cb h5) λs5 h5 hc5 hp5=>?_
    have hl:=AT1 nm o
    exact ES h5 ⟨.arr hb hw,by(try dsimp only at*);omega,by(try dsimp only at*);omega⟩
   ·show Tr (some (Ex.mk 10 0 [] nm false [],bif ZT ⟨nm,false⟩then s2 else EJ 21 s2)) d _
    cases hcy:ZT ⟨nm,false⟩with
    |false=>exact(Cb (VZ h2 (.inr (.inr rfl)))).tr
    |true=>
     have hl:=ASe nm
     show Tr (some (Ex.mk 10 0 [] nm false [],s2)) d _
     exact ES h2 ⟨.new (hcl hcy),by(try dsimp only at*);omega,by(try dsimp only at*);omega⟩
 refine GX Au h (λs1 h1 hc1 hp1=>?_) (Cb (VZ h (.inr (.inr rfl)))).tr
 refine(hr.tr d s1 h1 (by(try dsimp only at*);omega)).bind (λo s4 h4=>MS h4 (Cb h4)) λo s4 h4 hq=>?_
 obtain⟨hw,hc4,hp4⟩:=hq
 exact KF BD h4 (λs5 h5=>Cb h5) λs5 h5 hc5 hp5=>ES h5 ⟨hw,by(try dsimp only at*);omega,by(try dsimp only at*);omega⟩
theorem AKJ{rec:PM Ex}{N f:Nat}(hr:Sp rec N)(hf:s.c+1<=f)(h:Wn d s)(hc:s.c<=N):Tr (SV rec f s) d (QE s.c s.p):=by
 refine(ALg hr hf h hc).bind (λo s2 h2=>aW h2 (by omega)) λo s2 h2 hq=>?_
 obtain⟨hw,hc2,hp2⟩:=hq
 exact(AKc hr f o d s2 h2 (by omega) (by omega) hw).mono λo' c p hq=>⟨hq.1,by have:=hq.2.1;omega,by have:=hq.2.2;omega⟩
theorem AIv{s s' s1:S}(ht:s'.t=s.t)(hr:s'.r=s.r)(h:Hu s=some s1):Hu s'=some {s' with t:=s1.t,r:=s1.r}:=by
 obtain⟨t,r,d,e⟩:=s
 obtain⟨t',r',d',e'⟩:=s'
 simp only at ht hr
 subst ht;subst hr
 unfold Hu at h⊢
 simp only at h⊢
 cases hk:decide (t'.kind=0)with
 |true=>rw[hk]at h;cases h;rfl
 |false=>
  rw[hk]at h
  cases r' with
  |nil=>cases h
  |cons u r=>cases h;rfl
theorem ALs{rec:PM Ex}{N:Nat}(hr:Sp rec N)(hN:N<800):
 ∀(f d:Nat) (s:S),Wn d s->s.c<=N->s.c+3<=f->Tr (unary rec f s) d (QE s.c s.p):=by
 have:=PE
 intro f
 induction f with
 |zero=>intro d s h hc hf;omega
 |succ f ih=>
  intro d s h hc hf
  have one:∀(k:Nat) (m:Bs) (x:Option (Ex×S)),(∀a,Wr a->Wr (.mk k 0 [] [] false [a])/\lE (.mk k 0 [] [] false [a])=lE a+3)->Tr x d (QE s.c s.p)->
   Tr (bif Hq [m] s then(LD s).bind λs1=>(Hu s1).bind λs2=>(unary rec f s2).bind λp=>(VB p.2).bind λs'=>some (Ex.mk k 0 [] [] false [p.1],s')else x) d (QE s.c s.p):=by
   intro k m x hk hx
   cases ho:Hq [m] s with
   |false=>exact hx
   |true=>
    unfold Hq at ho
    obtain⟨w,_,ho⟩:=List.any_eq_true.1 ho
    obtain⟨hk0,_⟩:=AJa ho
    obtain⟨s1,e1,h1,hc1,hp1⟩:=xC h hk0
    have e:((LD s).bind λs1=>(Hu s1).bind λs2=>(unary rec f s2).bind λp=>(VB p.2).bind λs'=>some (Ex.mk k 0 [] [] false [p.1],s'))=(LD s).bind λs1=>((Hu s1).bind λs2=>unary rec f s2).bind λp=>(VB p.2).bind λs'=>some (Ex.mk k 0 [] [] false [p.1],s'):=by
     simp only[Option.bind_assoc]
    show Tr ((LD s).bind λs1=>(Hu s1).bind λs2=>(unary rec f s2).bind λp=>(VB p.2).bind λs'=>some (Ex.mk k 0 [] [] false [p.1],s')) d _
    rw[e]
    refine zk (g:=λo=>Ex.mk k 0 [] [] false [o]) (R:=QE s1.c s1.p) h (λs' hz ht hr'=>?_) (λs' ha ht hr'=>?_) λo c p hq=>⟨(hk o hq.1).1,by have:=hq.2.1;omega,by have:=hq.2.2;have:=(hk o hq.1).2;omega⟩
    ·rw[AIv ht hr' e1]
     exact AFa ⟨hz.e,hz.dp,hz.le⟩ (by omega)
    ·rw[AIv ht hr' e1]
     exact ih (d+1) {s' with t:=s1.t,r:=s1.r} ⟨ha.e,ha.dp,h1.ts,ha.le⟩ (by show s1.c<=N;omega) (by show s1.c+3<=f;omega)
  unfold unary
  refine one 14 Dq _ (λa ha=>⟨.neg ha,ATU a⟩) (one 15 IV _ (λa ha=>⟨.not ha,ATG a⟩) ?_)
  refine(AKJ hr (by omega) h hc).bind (λo s2 h2=>AIX h2 (by omega)) λo s2 h2 hq=>?_
  obtain⟨hw,hc2,hp2⟩:=hq
  exact(ATr f o d s2 h2 (by omega) hw).mono λo' c p hq=>⟨hq.1,by have:=hq.2.1;omega,by have:=hq.2.2;omega⟩
end
theorem AON{rec:PM Ex}{N f:Nat}(hr:Sp rec N)(hN:N<800)(hf:N+3<=f):Sp (unary rec f) (N+1):=
 ⟨λd s h hc=>ALs hr hN f d s h (by omega) (by omega),λd s h _=>AFa h (by omega)⟩
theorem ADW:∀(N f:Nat),N<800->2*N+8<=f->Sp (expr f) N:=by
 have bd:∀f,4<=f->∀d s,Fz d s->d<900->Bd (expr f s) d:=λf hf d s h hd=>by
  obtain⟨f,rfl⟩:∃g,f=g+4:=⟨f-4,by omega⟩
  rw[tJ h.ne h.lt];exact Cb h
 intro N
 induction N with
 |zero=>intro f _ hf;exact⟨λd s h hc=>by omega,bd f (by omega)⟩
 |succ N ih=>
  intro f hN hf
  refine⟨λd s h hc=>?_,bd f (by omega)⟩
  obtain⟨f,rfl⟩:∃g,f=g+1:=⟨f-1,by omega⟩
  have hr:=ih f (by omega) (by omega)
  have hs:Sp (either 18 W9 (either 17 L9 (compared (unary (expr f) f) f) f) f) (N+1):=
   AC3 (AC3 (AGa (AON hr (by omega) (by omega)) (by omega)) (by omega) (by omega) λa b ha hb=>⟨.and ha hb,AS0 a b⟩) (by omega) (by omega) λa b ha hb=>⟨.or ha hb,AVC a b⟩
  unfold expr AC4
  refine zk (g:=λo=>o) (R:=QE s.c s.p) h (λs' hz _ _=>?_) (λs' ha ht hr'=>?_) λo c p hq=>hq
  ·exact hs.bd _ _ hz (by have:=h.le;omega)
  ·have hcc:s'.c=s.c:=by unfold S.c;rw[hr']
   have hpp:s'.p=s.p:=by unfold S.p;rw[hr',ht]
   have:=hs.tr _ _ ha (by omega)
   rw[hcc,hpp]at this
   exact this
end Go.PQ
