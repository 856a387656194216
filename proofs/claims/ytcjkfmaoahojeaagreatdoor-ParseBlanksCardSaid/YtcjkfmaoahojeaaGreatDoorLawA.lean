/- Part of a proof; nothing is assumed. -/
import Derived.Test.YtcjkfmaoahojeaaGreatDoorConA
import Derived.Test.YtcjkfmaoahojeaaGreatDoorConB
import Derived.Test.YtcjkfmaoahojeaaGreatDoorWalk
set_option linter.unusedVariables false
set_option linter.unusedSimpArgs false
namespace Go.PQ
open Go.Eng
set_option maxRecDepth 100000
def AGe:Bs->Bs->Bool
 |[],_=>true
 |_::_,[]=>false
 |a::p,c::l=>decide (a=c)&&AGe p l
theorem AM3:∀p l:Bs,pre p l=AGe p l
 |[],l=>by simp[pre,AGe]
 |a::p,[]=>by simp[pre,AGe]
 |a::p,c::l=>by
  rw[show AGe (a::p) (c::l)=(decide (a=c)&&AGe p l)from rfl,<-AM3 p l,Bool.eq_iff_iff]
  simp only[pre,List.length_cons,List.take_succ_cons,Bool.and_eq_true,decide_eq_true_eq,List.cons.injEq]
  constructor
  ·rintro⟨h,e,h2⟩;exact⟨e.symm,by omega,h2⟩
  ·rintro⟨e,h,h2⟩;exact⟨by omega,e.symm,h2⟩
def dw(m:Bs)(c:UInt8):Bool:= !((decide (m=EG)||(decide (m=Iq)||decide (m=V9)))&&decide (c=61))&& !(decide (m=Sv)&&decide (c=47))
def Stop(p:UInt8->Bool)(r:Bs):Prop:=∀c l,r=c::l->p c=false
def AP5(m r:Bs):Prop:=FM.find? (λx=>pre x (m++r))=some m/\pre [47,47] (m++r)=false
theorem AML{m r:Bs}(hm:m∈FM)(h:Stop (λc=> !dw m c) r):AP5 m r:=by
 unfold AP5
 simp only[AM3]
 unfold FM at hm
 cases r with
 |nil=>
  simp only[List.append_nil]
  clear h
  revert m
  decide
 |cons c r=>
  have h:dw m c=true:=by have:=h c r rfl;simpa using this
  simp only[List.mem_cons,List.not_mem_nil,or_false]at hm
  rcases hm with rfl|rfl|rfl|rfl|rfl|rfl|rfl|rfl|rfl|rfl|rfl|rfl|rfl|rfl|rfl|rfl|rfl|rfl|rfl|rfl|rfl|rfl<;>simp[FM,List.find?,AGe,dw,Yk,nJ,nD,NP,YQ,Zt,Dv,XZ,Sv,qF,V9,EG,Iq,BG,BH,GL,F8,OC,m_rc,Aw,Ce,DI]at h⊢ <;>simp[Ne.symm h]
structure AGk(p:UInt8->Bool)(l:Bs):Prop where
 hd:∃c t,l=c::t/\p c=true
 all:∀x∈l,inner x=true
 len:l.length<=40
inductive Wf:Tok->Prop
 |word {l:Bs} (h:l∈Tt):Wf ⟨1,l,0⟩
 |upper {l:Bs} (h:AGk great l):Wf ⟨2,l,0⟩
 |lower {l:Bs} (h:AGk small l) (hw:l∉Tt):Wf ⟨3,l,0⟩
 |num {l:Bs} {n:Nat} (h0:l≠[]) (h:∀x∈l,digit x=true) (hn:iP 0 l=some n):Wf ⟨4,l,n⟩
 |mark {l:Bs} (h:l∈FM):Wf ⟨5,l,0⟩
def OL(t:Tok)(c:UInt8):Bool:=bif decide (t.kind=5)then dw t.text c else bif decide (t.kind=4)then !digit c else !inner c
def Sep(t:Tok)(r:Bs):Prop:=Stop (λc=> !OL t c) r
theorem Ud{p:UInt8->Bool}:∀{l r:Bs},(∀x∈l,p x=true)->Stop p r->(l++r).takeWhile p=l
 |[],r,_,h=>by
  cases r with
  |nil=>rfl
  |cons c r=>have:=h c r rfl;simp[this]
 |c::l,r,ha,h=>by
  have hc:=ha c (List.mem_cons_self ..)
  rw[List.cons_append,List.takeWhile_cons,hc]
  simp only[if_true]
  rw[Ud (λx hx=>ha x (List.mem_cons_of_mem _ hx)) h]
theorem ADX:∀l∈Tt,AGk small l:=by
 have h:(Tt.all λl=>(match l with|[]=>false|c::_=>small c)&&l.all inner&&decide (l.length<=40))=true:=by decide
 intro l hl
 have:=List.all_eq_true.1 h l hl
 simp only[Bool.and_eq_true,decide_eq_true_eq]at this
 obtain⟨⟨h1,h2⟩,h3⟩:=this
 refine⟨?_,List.all_eq_true.1 h2,h3⟩
 cases l with
 |nil=>cases h1
 |cons c t=>exact⟨c,t,rfl,h1⟩
theorem lu{c:UInt8}(h:small c=true):great c=false:=by
 simp only[small,great,Bool.and_eq_true,decide_eq_true_eq,Bool.and_eq_false_iff,decide_eq_false_iff_not]at*;omega
theorem AFn{c:UInt8}(h:digit c=true):great c=false/\small c=false:=by
 simp only[small,great,digit,Bool.and_eq_true,decide_eq_true_eq,Bool.and_eq_false_iff,decide_eq_false_iff_not]at*;omega
theorem Yq{c:UInt8}(h:inner c=true):blank c=false/\c≠47:=by
 have e:(47:UInt8).toNat=47:=rfl
 refine⟨?_,λhc=>?_⟩
 ·simp only[inner,small,great,digit,blank,Bool.or_eq_true,Bool.and_eq_true,decide_eq_true_eq,Bool.or_eq_false_iff,decide_eq_false_iff_not]at*;omega
 ·subst hc;simp only[inner,small,great,digit,e,Bool.or_eq_true,Bool.and_eq_true,decide_eq_true_eq]at h;omega
theorem dV{c:UInt8}(h:digit c=true):inner c=true:=by simp[inner,h]
theorem AIf{c:UInt8}(h:great c=true):inner c=true:=by simp[inner,h]
theorem ACA{c:UInt8}(h:small c=true):inner c=true:=by simp[inner,h]
theorem ADa:∀m∈FM,∃c t,m=c::t/\inner c=false/\blank c=false:=by
 have h:(FM.all λl=>(match l with|[]=>false|c::_=> !inner c&& !blank c))=true:=by decide
 intro l hl
 have:=List.all_eq_true.1 h l hl
 cases l with
 |nil=>cases this
 |cons c t=>exact⟨c,t,rfl,by simpa using this⟩
theorem AAT(c:UInt8)(l:Bs):JI (c::l)=(bif great c then eG ⟨2,(c::l).takeWhile inner,0⟩else
 bif small c then eG ⟨bif decide ((c::l).takeWhile inner∈Tt)then 1 else 3,(c::l).takeWhile inner,0⟩else
 bif digit c then(match iP 0 ((c::l).takeWhile digit)with|none=>(22,Qi)|some n=>(0,⟨4,(c::l).takeWhile digit,n⟩))else
 match FM.find? (λm=>pre m (c::l))with|none=>(20,Qi)|some m=>(0,⟨5,m,0⟩)):=rfl
theorem AKt{t:Tok}(h:t.text.length<=40):eG t=(0,t):=by
 unfold eG;rw[decide_eq_false (by omega)];rfl
theorem AS9{t:Tok}{r:Bs}(hw:Wf t)(hs:Sep t r):JI (t.text++r)=(0,t):=by
 cases hw with
 |word h=>
  rename_i l
  have hn:=ADX l h
  obtain⟨c,q,rfl,hc⟩:=hn.hd
  have hsep:Stop inner r:=λa b e=>by have:=hs a b e;simpa[OL]using this
  have tw:=Ud hn.all hsep
  show JI (c::(q++r))=_
  rw[AAT,lu hc,hc,show(c::(q++r))=(c::q)++r from rfl,tw,decide_eq_true h]
  exact AKt hn.len
 |upper hn=>
  rename_i l
  obtain⟨c,q,rfl,hc⟩:=hn.hd
  have hsep:Stop inner r:=λa b e=>by have:=hs a b e;simpa[OL]using this
  have tw:=Ud hn.all hsep
  show JI (c::(q++r))=_
  rw[AAT,hc,show(c::(q++r))=(c::q)++r from rfl,tw]
  exact AKt hn.len
 |lower hn hw=>
  rename_i l
  obtain⟨c,q,rfl,hc⟩:=hn.hd
  have hsep:Stop inner r:=λa b e=>by have:=hs a b e;simpa[OL]using this
  have tw:=Ud hn.all hsep
  show JI (c::(q++r))=_
  rw[AAT,lu hc,hc,show(c::(q++r))=(c::q)++r from rfl,tw,decide_eq_false hw]
  exact AKt hn.len
 |num h0 h hn=>
  rename_i l n
  cases l with
  |nil=>exact absurd rfl h0
  |cons c q=>
   have hc:=h c (List.mem_cons_self ..)
   have hsep:Stop digit r:=λa b e=>by have:=hs a b e;simpa[OL]using this
   have tw:=Ud h hsep
   show JI (c::(q++r))=_
   rw[AAT,(AFn hc).1,(AFn hc).2,hc,show(c::(q++r))=(c::q)++r from rfl,tw,hn]
   rfl
 |mark h=>
  rename_i l
  have hsep:Stop (λc=> !dw l c) r:=λa b e=>by have:=hs a b e;simpa[OL]using this
  have hm:=(AML h hsep).1
  obtain⟨c,q,rfl,hc,_⟩:=ADa l h
  simp only[inner,Bool.or_eq_false_iff]at hc
  show JI (c::(q++r))=_
  rw[AAT,hc.1,hc.2.1,hc.2.2.1,show(c::(q++r))=(c::q)++r from rfl,hm]
  rfl
theorem AGZ(c:UInt8)(t:Bs):Dc false (c::t)=bif blank c then Dc false t else bif pre [47,47] (c::t)then Dc true t else c::t:=rfl
theorem ASy{t:Tok}{r:Bs}(hw:Wf t)(hs:Sep t r):Dc false (t.text++r)=t.text++r:=by
 have key:∀{c:UInt8} {q:Bs},t.text=c::q->inner c=true->Dc false (t.text++r)=t.text++r:=by
  intro c q e hc
  rw[e,List.cons_append,AGZ,(Yq hc).1,AM3]
  rw[show AGe [47,47] (c::(q++r))=(decide (47=c)&&AGe [47] (q++r))from rfl,decide_eq_false (λh=>(Yq hc).2 h.symm)]
  rfl
 cases hw with
 |word h=>obtain⟨c,q,e,hc⟩:=(ADX _ h).hd;exact key e (ACA hc)
 |upper hn=>obtain⟨c,q,e,hc⟩:=hn.hd;exact key e (AIf hc)
 |lower hn hw=>obtain⟨c,q,e,hc⟩:=hn.hd;exact key e (ACA hc)
 |num h0 h hn=>
  rename_i l n
  cases l with
  |nil=>exact absurd rfl h0
  |cons c q=>exact key (c:=c) (q:=q) rfl (dV (h c (List.mem_cons_self ..)))
 |mark h=>
  rename_i l
  have hsep:Stop (λc=> !dw l c) r:=λa b e=>by have:=hs a b e;simpa[OL]using this
  have hm:=(AML h hsep).2
  obtain⟨c,q,rfl,hc,hb⟩:=ADa l h
  show Dc false (c::(q++r))=_
  rw[AGZ,hb,show(c::(q++r))=(c::q)++r from rfl,hm]
  rfl
def Gap(g:Bs):Prop:=∀r,Dc false (g++r)=Dc false r
theorem AM4:Gap []:=λ_=>rfl
theorem AMv{a b:Bs}(ha:Gap a)(hb:Gap b):Gap (a++b):=λr=>by rw[List.append_assoc,ha,hb]
theorem jC{c:UInt8}(h:blank c=true):Gap [c]:=λr=>by rw[List.singleton_append,AGZ,h];rfl
theorem yF:∀{l:Bs},(∀c∈l,blank c=true)->Gap l
 |[],_=>AM4
 |c::_,h=>AMv (a:=[c]) (jC (h c (List.mem_cons_self ..))) (yF λx hx=>h x (List.mem_cons_of_mem _ hx))
theorem AIS:∀(t r:Bs),(∀c∈t,c≠10)->Dc true (t++10::r)=Dc false r
 |[],r,_=>by show(bif decide ((10:UInt8).toNat=10)then Dc false r else Dc true r)=_;rfl
 |c::t,r,h=>by
  have hc:c.toNat≠10:=λe=>h c (List.mem_cons_self ..) (UInt8.toNat_inj.1 e)
  show(bif decide (c.toNat=10)then Dc false (t++10::r)else Dc true (t++10::r))=_
  rw[decide_eq_false hc]
  exact AIS t r λx hx=>h x (List.mem_cons_of_mem _ hx)
theorem ASS{t:Bs}(h:∀c∈t,c≠10):Gap (47::47::(t++[10])):=λr=>by
 rw[show(47::47::(t++[10]))++r=47::((47::t)++10::r)by simp,AGZ,AM3]
 exact AIS (47::t) r λc hc=>by
  cases hc with
  |head=>decide
  |tail _ hc=>exact h c hc
def Dp(s:Bs)(ts:List Tok):Prop:=∀f,s.length<f->zW f s=(0,ts)
theorem AHQ(f:Nat)(r:Bs):zW (f+1) r=bif decide ((JI (Dc false r)).1=0)then
 bif decide ((JI (Dc false r)).2.kind=0)then(0,[(JI (Dc false r)).2])
 else((zW f ((Dc false r).drop (JI (Dc false r)).2.text.length)).1,(JI (Dc false r)).2::(zW f ((Dc false r).drop (JI (Dc false r)).2.text.length)).2)
 else((JI (Dc false r)).1,[]):=rfl
theorem AMG{g:Bs}(hg:Gap g):Dp g [Qi]:=λf h=>by
 cases f with
 |zero=>omega
 |succ f=>
  have e:Dc false g=[]:=by have:=hg [];rw[List.append_nil]at this;exact this
  rw[AHQ,e];rfl
theorem Wf.kd{t:Tok}(h:Wf t):t.kind≠0:=by cases h<;>simp
theorem Wf.ne{t:Tok}(h:Wf t):0<t.text.length:=by
 cases h with
 |word h=>obtain⟨c,q,e,hc⟩:=(ADX _ h).hd;rw[e];simp
 |upper hn=>obtain⟨c,q,e,hc⟩:=hn.hd;rw[e];simp
 |lower hn hw=>obtain⟨c,q,e,hc⟩:=hn.hd;rw[e];simp
 |num h0 h hn=>rename_i l n;cases l with
  |nil=>exact absurd rfl h0
  |cons c q=>simp
 |mark h=>obtain⟨c,q,e,hc⟩:=ADa _ h;rw[e];simp
theorem AL1{g:Bs}{t:Tok}{r:Bs}{ts:List Tok}(hg:Gap g)(hw:Wf t)(hs:Sep t r)(h:Dp r ts):Dp (g++(t.text++r)) (t::ts):=λf hf=>by
 have hl:=hw.ne
 simp only[List.length_append]at hf
 cases f with
 |zero=>omega
 |succ f=>
  rw[AHQ,hg,ASy hw hs,AS9 hw hs]
  show(bif true then bif decide (t.kind=0)then(0,[t])else((zW f ((t.text++r).drop t.text.length)).1,t::(zW f ((t.text++r).drop t.text.length)).2)else(0,[]))=_
  rw[decide_eq_false hw.kd,List.drop_left,h f (by omega)]
  rfl
theorem AMm{s:Bs}{ts:List Tok}(h:Dp s ts)(hs:s.length<=65536):zV s=(0,ts):=by
 unfold zV;rw[decide_eq_false (by omega)];exact h _ (by omega)
def free(c:UInt8):Bool:= !inner c&& !decide (c=61)&& !decide (c=47)
theorem yB{t:Tok}{c:UInt8}(h:free c=true):OL t c=true:=by
 simp only[free,Bool.and_eq_true,Bool.not_eq_true',decide_eq_false_iff_not]at h
 have hd:digit c=false:=by cases hd:digit c with
  |false=>rfl
  |true=>rw[dV hd]at h;simp at h
 unfold OL dw
 rw[h.1.1,hd,decide_eq_false h.1.2,decide_eq_false h.2]
 cases decide (t.kind=5)<;>cases decide (t.kind=4)<;>simp
theorem AJo{t:Tok}{c:UInt8}(ht:t.kind=5)(h:inner c=true):OL t c=true:=by
 have h1:c≠61:=λe=>by subst e;revert h;decide
 have h2:=(Yq h).2
 unfold OL dw
 rw[ht,decide_eq_false h1,decide_eq_false h2];simp
theorem AJd{t:Tok}{c:UInt8}(ht:t.kind≠5)(h:inner c=false):OL t c=true:=by
 have hd:digit c=false:=by cases hd:digit c with
  |false=>rfl
  |true=>rw[dV hd]at h;cases h
 unfold OL
 rw[decide_eq_false ht,h,hd];cases decide (t.kind=4)<;>rfl
def AK4(t:Tok):Bs->Bool
 |[]=>true
 |c::_=>OL t c
theorem AQk{t:Tok}{r:Bs}(h:AK4 t r=true):Sep t r:=λc l e=>by subst e;simpa[AK4]using h
def W(l:Bs):Tok:=⟨1,l,0⟩
def U(l:Bs):Tok:=⟨2,l,0⟩
def L(l:Bs):Tok:=⟨3,l,0⟩
def N(l:Bs)(n:Nat):Tok:=⟨4,l,n⟩
def M(l:Bs):Tok:=⟨5,l,0⟩
section
variable{t u:Tok}{r:List Tok}{d:Nat}
theorem AON{w:Bs}{l:Bs}:Vp w ⟨M l,r,d,0⟩=decide (l=w):=rfl
theorem ARB{w:Bs}{l:Bs}:Vp w ⟨W l,r,d,0⟩=decide (l=w):=rfl
theorem Ob{w:Bs}{s:S}(h:s.e≠0):Vp w s=false:=by simp[Vp,S.ok,h]
theorem ADI(h:t.kind≠0):N7 ⟨t,u::r,d,0⟩=some ⟨u,r,d,0⟩:=by simp[N7,h]
theorem AIN{w:Bs}(h:Vp w ⟨t,u::r,d,0⟩=true)(hk:t.kind≠0):C9 w ⟨t,u::r,d,0⟩=some (true,⟨u,r,d,0⟩):=by unfold C9;rw[h,ADI hk];rfl
theorem Xt{w:Bs}{s:S}(h:Vp w s=false):C9 w s=some (false,s):=by unfold C9;rw[h];rfl
theorem ANA{l:Bs}:C9 l ⟨M l,u::r,d,0⟩=some (true,⟨u,r,d,0⟩):=AIN (by rw[AON];simp) (by simp[M])
theorem AA0{l:Bs}:C9 l ⟨W l,u::r,d,0⟩=some (true,⟨u,r,d,0⟩):=AIN (by rw[ARB];simp) (by simp[W])
theorem AH5{w:Bs}{s:S}{s':S}(h:C9 w s=some (true,s')):CJ [w] s=some s':=by unfold CJ;rw[h];rfl
theorem TB{l:Bs}:CJ [l] ⟨M l,u::r,d,0⟩=some ⟨u,r,d,0⟩:=AH5 ANA
theorem AFV{l:Bs}:CJ [l] ⟨W l,u::r,d,0⟩=some ⟨u,r,d,0⟩:=AH5 AA0
theorem ji{ws:List Bs}{s:S}(h:∀w∈ws,Vp w s=false):Kw ws s=false:=by
 unfold Kw;rw[Bool.eq_false_iff];intro hc
 obtain⟨w,hw,h2⟩:=List.any_eq_true.1 hc
 rw[h w hw]at h2;cases h2
theorem AGq(h:d<100):UJ ⟨t,r,d,0⟩=some ⟨t,r,d+1,0⟩:=by
 unfold UJ;simp only
 rw[decide_eq_true (show d<1000000 by omega),decide_eq_false (show ¬100<d+1 by omega)];rfl
theorem AQz(h:d<1000000):lX ⟨t,r,d+1,0⟩=some ⟨t,r,d,0⟩:=by
 unfold lX;simp only[h,decide_true,cond_true]
end
def opsL:List Bs:=[YQ,NP,Yk,nJ,V9,nD,Zt,Dv,XZ,Sv,qF,SX,QU]
def AJa:List Bs:=[GL,DI]
def Yy(s:S):Prop:=∀w∈opsL,Vp w s=false
def AG6(s:S):Prop:=∀w∈AJa,Vp w s=false
theorem Yy.of{s:S}(h:Yy s)(ws:List Bs)(hs:∀w∈ws,w∈opsL):Kw ws s=false:=ji λw hw=>h w (hs w hw)
theorem AV4{f:Nat}{e:Ex}{s:S}(h:Yy s):asL (f+1) e s=some (e,s):=by
 show(bif Kw [SX,QU] s then _ else some (e,s))=_
 rw[h.of _ (by decide)];rfl
theorem AFR{ws:List Bs}{nx:PM Ex}{f:Nat}{e:Ex}{s:S}(h:Yy s)(hs:∀w∈ws,w∈opsL):wZ ws nx (f+1) e s=some (e,s):=by
 show(bif Kw ws s then _ else some (e,s))=_
 rw[h.of _ hs];rfl
theorem AEa{k:Nat}{w:Bs}{nx:PM Ex}{f:Nat}{e:Ex}{s:S}(h:Yy s)(hs:w∈opsL):lK k w nx (f+1) e s=some (e,s):=by
 show(bif Kw [w] s then _ else some (e,s))=_
 rw[h.of _ (λx hx=>by rw[List.mem_singleton.1 hx];exact hs)];rfl
theorem ANn{un:PM Ex}{f:Nat}{s s':S}{e:Ex}(h:un s=some (e,s'))(hn:Yy s'):signs [XZ,Sv,qF] un (f+1) s=some (e,s'):=by
 unfold signs;rw[h];exact AFR hn (by decide)
theorem AOv{un:PM Ex}{f:Nat}{s s':S}{e:Ex}(h:un s=some (e,s'))(hn:Yy s'):sumP un (f+1) s=some (e,s'):=by
 unfold sumP;rw[signs,ANn h hn];exact AFR hn (by decide)
theorem ARO{un:PM Ex}{f:Nat}{s s':S}{e:Ex}(h:un s=some (e,s'))(hn:Yy s'):compared un (f+1) s=some (e,s'):=by
 unfold compared;rw[AOv h hn]
 show(bif Kw [Yk,nJ,V9,nD] s' then _ else some (e,s'))=_
 rw[hn.of _ (by decide)];rfl
theorem AQE{un:PM Ex}{f:Nat}{s s':S}{e:Ex}(h:un s=some (e,s'))(hn:Yy s'):either 17 NP (compared un (f+1)) (f+1) s=some (e,s'):=by
 unfold either;rw[ARO h hn];exact AEa hn (by decide)
theorem AUC{un:PM Ex}{f:Nat}{s s':S}{e:Ex}(h:un s=some (e,s'))(hn:Yy s'):either 18 YQ (either 17 NP (compared un (f+1)) (f+1)) (f+1) s=some (e,s'):=by
 unfold either;rw[<-either,AQE h hn];exact AEa hn (by decide)
theorem AFZ{f:Nat}{s s1 s2 s3:S}{e:Ex}(hd:UJ s=some s1)(h:unary (expr (f+1)) (f+1) s1=some (e,s2))(hn:Yy s2)(hu:lX s2=some s3):expr (f+2) s=some (e,s3):=by
 show AIM (expr (f+1)) (f+1) s=_
 unfold AIM;rw[hd]
 show((either 18 YQ (either 17 NP (compared (unary (expr (f+1)) (f+1)) (f+1)) (f+1)) (f+1) s1).bind λp=>(lX p.2).bind λs'=>some (p.1,s'))=_
 rw[AUC h hn]
 show((lX s2).bind λs'=>some (e,s'))=_
 rw[hu];rfl
theorem cO{rec:PM Ex}{f:Nat}{s s':S}{e:Ex}(h1:Vp Dv s=false)(h2:Vp Iq s=false)(h:XH rec (f+1) s=some (e,s'))(hn:Yy s'):unary rec (f+2) s=some (e,s'):=by
 show(bif Kw [Dv] s then _ else bif Kw [Iq] s then _ else(XH rec (f+1) s).bind λp=>asL (f+1) p.1 p.2)=_
 rw[ji (ws:=[Dv]) λw hw=>by rw[List.mem_singleton.1 hw];exact h1,ji (ws:=[Iq]) λw hw=>by rw[List.mem_singleton.1 hw];exact h2,h]
 exact AV4 hn
theorem ig{rec:PM Ex}{f:Nat}{e:Ex}{s:S}(h:AG6 s):Oz rec (f+1) e s=some (e,s):=by
 show((C9 GL s).bind λp=>bif p.1 then _ else(C9 DI p.2).bind λp=>bif p.1 then _ else some (e,p.2))=_
 rw[Xt (h GL (by decide))]
 show((C9 DI s).bind λp=>bif p.1 then _ else some (e,p.2))=_
 rw[Xt (h DI (by decide))];rfl
theorem lW{rec:PM Ex}{f:Nat}{s s':S}{e:Ex}(h:WA rec (f+1) s=some (e,s'))(hn:AG6 s'):XH rec (f+1) s=some (e,s'):=by
 unfold XH;rw[h];exact ig hn
section
variable{rec:PM Ex}{f d:Nat}{u:Tok}{r:List Tok}
theorem APA{l:Bs}{n:Nat}:WA rec f ⟨N l n,u::r,d,0⟩=some (.mk 1 n [] [] false [],⟨u,r,d,0⟩):=rfl
theorem ALG{l:Bs}:WA rec f ⟨L l,u::r,d,0⟩=some (.mk 6 0 l [] false [],⟨u,r,d,0⟩):=rfl
theorem ANM:WA rec f ⟨W Vm,u::r,d,0⟩=some (.mk 2 0 [] [] false [],⟨u,r,d,0⟩):=rfl
theorem AKb:WA rec f ⟨W RG,u::r,d,0⟩=some (.mk 3 0 [] [] false [],⟨u,r,d,0⟩):=rfl
theorem ANT:WA rec f ⟨W Qh,u::r,d,0⟩=some (.mk 4 0 [] [] false [],⟨u,r,d,0⟩):=rfl
theorem AN8:WA rec f ⟨W WH,u::r,d,0⟩=some (.mk 5 0 [] [] false [],⟨u,r,d,0⟩):=rfl
theorem ARj{e:Ex}{v:Tok}{q:List Tok}{d':Nat}(h:rec ⟨u,r,d,0⟩=some (e,⟨M BH,v::q,d',0⟩)):WA rec f ⟨M BG,u::r,d,0⟩=some (e,⟨v,q,d',0⟩):=by
 show((rec ⟨u,r,d,0⟩).bind λx=>(CJ [BH] x.2).bind λs1=>some (x.1,s1))=_
 rw[h]
 show((CJ [BH] ⟨M BH,v::q,d',0⟩).bind λs1=>some (e,s1))=_
 rw[TB];rfl
theorem ADe{s:S}(h:s.e≠0):WA rec f s=some (.mk 0 0 [] [] false [],s):=by
 unfold WA;rw[show s.ok=false by simp[S.ok,h]];rfl
end
section
variable{s:S}(h:s.e≠0)
include h
theorem AES:s.ok=false:=by simp[S.ok,h]
theorem zx{e:Nat}:Gy e s=s:=by unfold Gy;rw[AES h];rfl
theorem ALW{ws:List Bs}:Kw ws s=false:=ji λ_ _=>Ob h
theorem zD{w:Bs}:C9 w s=some (false,s):=Xt (Ob h)
theorem YK:∀{ws:List Bs},CJ ws s=some s
 |[]=>rfl
 |w::ws=>by
  show((C9 w s).bind λp=>CJ ws (bif p.1 then p.2 else Gy 21 p.2))=_
  rw[zD h]
  show CJ ws (Gy 21 s)=_
  rw[zx h,YK]
theorem AH4(hd:s.deep<1000000):UJ s=some {s with deep:=s.deep+1}:=by
 unfold UJ;rw[decide_eq_true hd,zx (s:={s with deep:=s.deep+1}) h,Bool.cond_self];rfl
theorem APE{f:Nat}(hd:s.deep<1000000):expr (f+4) s=some (.mk 0 0 [] [] false [],s):=by
 refine AFZ (f:=f+2) (s1:={s with deep:=s.deep+1}) (s2:={s with deep:=s.deep+1}) (AH4 h hd) ?_ (λw _=>Ob h) ?_
 ·exact cO (Ob h) (Ob h) (lW (ADe h) λw _=>Ob h) λw _=>Ob h
 ·unfold lX;simp only[hd,decide_true,cond_true]
theorem ARv{st:St}:endP st s=some (st,s):=by unfold endP;rw[YK h];rfl
end
def S.of(l:List Tok)(d:Nat):S:=match l with|[]=>⟨Qi,[],d,0⟩|t::r=>⟨t,r,d,0⟩
theorem AEs{t:Tok}{r:List Tok}:UJ ⟨t,r,100,0⟩=some ⟨t,r,101,3⟩:=rfl
theorem ABV{t:Tok}{r:List Tok}{d e:Nat}(h:d<1000000):lX ⟨t,r,d+1,e⟩=some ⟨t,r,d,e⟩:=by
 unfold lX;simp only[h,decide_true,cond_true]
theorem AQL{t:Tok}{r:List Tok}{f:Nat}:expr (f+4) ⟨t,r,100,0⟩=some (.mk 0 0 [] [] false [],⟨t,r,100,3⟩):=by
 have h:(⟨t,r,101,3⟩:S).e≠0:=show(3:Nat)≠0 by decide
 refine AFZ (f:=f+2) (s1:=⟨t,r,101,3⟩) (s2:=⟨t,r,101,3⟩) AEs ?_ (λw _=>Ob h) (ABV (by decide))
 exact cO (Ob h) (Ob h) (lW (ADe h) λw _=>Ob h) λw _=>Ob h
section
variable{st ch:PM St}{f d:Nat}{u:Tok}{r:List Tok}
theorem AQ6:Z7 st ch f ⟨W Eo,u::r,d,0⟩=(expr f ⟨u,r,d,0⟩).bind λx=>endP (.mk 6 [] JY [x.1] [] []) x.2:=rfl
theorem AKj:Z7 st ch f ⟨W Fp,u::r,d,0⟩=(expr f ⟨u,r,d,0⟩).bind λx=>endP (.mk 7 [] JY [x.1] [] []) x.2:=rfl
theorem AKI:Z7 st ch f ⟨W Fe,u::r,d,0⟩=(expr f ⟨u,r,d,0⟩).bind λc=>(Gv st f c.2).bind λt=>some (.mk 5 [] JY [c.1] t.1 [],t.2):=rfl
theorem AQn:Z7 st ch f ⟨W O0,u::r,d,0⟩=(fQ ⟨u,r,d,0⟩).bind λt=>(Jp 3 t.2).bind λn=>(CJ [EG] n.2).bind λs1=>(expr f s1).bind λx=>endP (.mk 1 n.1 t.1 [x.1] [] []) x.2:=rfl
theorem ATI:Z7 st ch f ⟨W Jr,u::r,d,0⟩=ch ⟨W Jr,u::r,d,0⟩:=rfl
theorem AKy:sc (f+1) false=Z7 (sc f false) (sc f true) f:=rfl
theorem AaY:sc (f+1) true=zQ (sc f false) (sc f true) f:=rfl
theorem AWM{a:St}:endP a ⟨M Aw,u::r,d,0⟩=some (a,⟨u,r,d,0⟩):=rfl
theorem AO8{out:List St}:Ri st (f+1) out ⟨M m_rc,u::r,d,0⟩=some (out,⟨u,r,d,0⟩):=rfl
theorem AA6{out:List St}{s:S}(h:s.e≠0):Ri st (f+1) out s=some (out,s):=by
 show(bif s.ok then _ else some (out,s))=_
 rw[AES h];rfl
theorem yI{s:S}(h:s.e≠0)(hd:s.deep<1000000):Gv st (f+1) s=some ([],s):=by
 unfold Gv
 rw[AH4 h hd]
 show((CJ [OC] {s with deep:=s.deep+1}).bind λs2=>(Ri st (f+1) [] s2).bind λp=>(lX p.2).bind λs'=>some (p.1,s'))=_
 rw[YK (s:={s with deep:=s.deep+1}) h]
 show((Ri st (f+1) [] {s with deep:=s.deep+1}).bind λp=>(lX p.2).bind λs'=>some (p.1,s'))=_
 rw[AA6 (s:={s with deep:=s.deep+1}) h]
 show((lX {s with deep:=s.deep+1}).bind λs'=>some ([],s'))=_
 unfold lX;simp only[hd,decide_true,cond_true];rfl
end
theorem ANf{f g:Nat}{fs:List Va}{ms:List Me}{s:S}(h:s.e≠0):Hl f (g+1) fs ms s=some ((fs,ms),s):=by
 show(bif s.ok then _ else some ((fs,ms),s))=_
 rw[AES h];rfl
def AP0(s:S):S:=bif s.ok&& !decide (s.t.kind=0)then Gy 21 s else s
theorem AMV{s:S}(h:s.e≠0):AP0 s=s:=by unfold AP0;rw[AES h];rfl
theorem Et{g s:Bs}{ts:List Tok}(hg:Gap g)(h:Dp s ts):Dp (g++s) ts:=λf hf=>by
 rw[List.length_append]at hf
 have:=h f (by omega)
 cases f with
 |zero=>omega
 |succ f=>rw[AHQ,hg,<-AHQ];exact this
theorem ALu{t:Tok}{r:Bs}{ts:List Tok}(hw:Wf t)(hs:AK4 t r=true)(h:Dp r ts):Dp (t.text++r) (t::ts):=AL1 AM4 hw (AQk hs) h
theorem Vu:Gap [32]:=jC (by decide)
def safe(m:Bs):Bool:=decide (m∈FM)&& !(decide (m=EG)||(decide (m=Iq)||decide (m=V9)))&& !decide (m=Sv)
theorem IQ{m:Bs}{r:Bs}{ts:List Tok}(hm:safe m=true)(h:Dp r ts):Dp (m++r) (M m::ts):=by
 simp only[safe,Bool.and_eq_true,decide_eq_true_eq,Bool.not_eq_true']at hm
 refine ALu (t:=M m) (.mark hm.1.1) ?_ h
 cases r with
 |nil=>rfl
 |cons c r=>
  show OL (M m) c=true
  show dw m c=true
  unfold dw
  rw[hm.1.2,hm.2];rfl
theorem UW{t:Tok}{r:Bs}{ts:List Tok}(hw:Wf t)(h:Dp r ts):Dp (t.text++([32]++r)) (t::ts):=ALu hw (yB (by decide)) (Et Vu h)
theorem Dn{l:Bs}(h:decide (l∈Tt)=true):Wf (W l):=.word (of_decide_eq_true h)
def nameB(p:UInt8->Bool)(l:Bs):Bool:=(match l with|[]=>false|c::_=>p c)&&l.all inner&&decide (l.length<=40)
theorem zJ{p:UInt8->Bool}{l:Bs}(h:nameB p l=true):AGk p l:=by
 simp only[nameB,Bool.and_eq_true,decide_eq_true_eq]at h
 refine⟨?_,List.all_eq_true.1 h.1.2,h.2⟩
 cases l with
 |nil=>exact absurd h.1.1 (by simp)
 |cons c t=>exact⟨c,t,rfl,h.1.1⟩
theorem zC{l:Bs}(h:nameB great l=true):Wf (U l):=.upper (zJ h)
theorem AB1{l:Bs}(h:(nameB small l&& !decide (l∈Tt))=true):Wf (L l):=by
 simp only[Bool.and_eq_true,Bool.not_eq_true']at h
 exact .lower (zJ h.1) (of_decide_eq_false h.2)
def AVB:Bs:=[99,108,97,115,115,32,65,32,123,32,109,101,116,104,111,100,32,105,110,116,32,109,40,41,32,123,32,114,101,116,117,114,110,32]
def AVC:Bs:=[59,32,125,32,125]
def AYO(s:Bs):Bs:=AVB++s++AVC
theorem Aah:V.str 34 961357696037381675649956981681352240005675623347818639615620599312194765693480035=sB AVB:=rfl
theorem AYM:V.str 5 537415983163=sB AVC:=rfl
theorem ABr{G:AV}(hS:ADk G){H:Heap}{v:V}{z o i:Nat}{LS:D5}{c:LV}{x:V}(h:El G H v z LS)(hi:LS[i]? =some c)(hc:c.length=z)(ho:c[o]? =some x):
 ∃p q,BO z v (.int .i64 (.ofNat i) 0)=some p/\AU o p=some q/\AX q G H=some x:=by
 obtain⟨p,h1,h2⟩:=h.at hi
 obtain⟨q,h3,h4⟩:=AOe hS h2 hc ho
 exact⟨p,q,h1,h3,h4⟩
section
variable{G:AV}{H:Heap}{n:Nat}{s:Bs}{k:KV}
theorem AXx{f:Nat}{cn sup mn snm:Bs}{fs:List Va}{ps:List Va}{sb:Bool}{rt sty:Ty}{d:Nat}{x:Ex}{th el:List St}(hG:X4 G)(hS:ADk G)(hs:s.length<=65000)
 (hm:kE f (AYO s)=some (some ⟨cn,sup,fs,[⟨mn,sb,ps,rt,[.mk d snm sty [x] th el]⟩]⟩,0)) (hk:∀H' n' c,Kp H n H' n'->EO G H' (Rg n n') c x->k (.J4 [.agg c,.agg (aV 0 0 0)]) H' n'):Runs F G lY [sB s] H n k:=by
 refine Am (s:=Ho (Us lfp G)) XB (by obtain⟨h,o⟩:=ABY Ap G;rw[XB]at h;cases h;exact o) ?_
 show Us lfp G (Runs F G) (sB s) H n k
 delta Us
 refine Az rfl λH1 f1 g1=>?_
 refine Az rfl λH2 f2 g2=>?_
 have g1:=f2.get g1 (by omega)
 have f2:=f1.trans f2
 rw[Aah,AYM]
 refine AB (BX (by show 34+_<_;omega)) (AB (BX (by rw[List.length_append];show 34+_+5<_;omega)) ?_)
 refine AGc hG hm λH3 n3 c ft f3 hc hf=>?_
 have g1:=f3.get g1 (by omega)
 have g2:=f3.get g2 (by omega)
 have hn3:=f3.le
 have f3:=f2.trans f3
 have hc:XF G H3 (Rg (n+1+1) n3) c _:=hc.1
 obtain⟨line,col,rfl,hf1,hf2⟩:=hf
 obtain⟨rfl,rfl⟩:=hf2 rfl
 rw[wG,Au,wz,Au]
 refine Az rfl λH4 f4 g4=>?_
 refine Az rfl λH5 f5 g5=>?_
 have g4:=f5.get g4 (by omega)
 have f45:=f4.trans f5
 have g1:=f45.get g1 (by omega)
 have g2:=f45.get g2 (by omega)
 have f5:=f3.trans f45
 refine CG g4 rfl hc.len (by omega) λH6 g4 t6=>?_
 have g1:=(t6 n (by omega)).trans g1
 have g2:=(t6 (n+1) (by omega)).trans g2
 have g5:=(t6 (n3+1) (by omega)).trans g5
 refine CG (L:=aV 0 0 0) g5 rfl rfl (by omega) λH7 g5 t7=>?_
 have g1:=(t7 n (by omega)).trans g1
 have g2:=(t7 (n+1) (by omega)).trans g2
 have g4:=(t7 n3 (by omega)).trans g4
 have f7:Kp H n H7 (n3+1+1):=⟨by omega,λid hid=>(t7 id (by omega)).trans ((t6 id (by omega)).trans (f5.same id hid))⟩
 have hc:XF G H7 (Rg (n+1+1) n3) c _:=hc.mono (λid h=>h) λid h=>(t7 id (by have:=h.2;omega)).trans ((t6 id (by have:=h.2;omega)).trans (f45.same id h.2))
 refine AB (v:=.ptr (n3+1) 0) (by rw[AZ]) (AB (AQ (off:=0) g5 (v:=.int .i64 (.ofNat 0) 0) rfl) ?_)
 rw[YX,Au,decide_eq_true rfl,Bool.not_true]
 cases hc with
 |mk line col hfs hms=>
  obtain⟨cs,e1,_,_,_,_,m1⟩:=hms
  cases m1 with
  |cons m1 m2=>
  cases m2 with
  |nil=>
  cases m1 with
  |mk l1 c1 hps hbd=>
  obtain⟨cs2,e2,_,_,_,_,m2⟩:=hbd
  cases m2 with
  |cons m2 m3=>
  cases m3 with
  |nil=>
  cases m2 with
  |mk _ _ _ l2 c2 hes ht _ _ _ hl _ _ _=>
  obtain⟨cs3,e3,_,_,_,_,m3⟩:=hes
  cases m3 with
  |cons m3 m4=>
  cases m4 with
  |nil=>
  have q5:AX (.ptr n3 5) G H7=some _:=AQ g4 rfl
  obtain⟨p1,q1,a1,b1,d1⟩:=ABr hS e1 (i:=0) (o:=7) rfl rfl rfl
  obtain⟨p2,q2,a2,b2,d2⟩:=ABr hS e2 (i:=0) (o:=6) rfl rfl rfl
  obtain⟨p3,a3,b3⟩:=e3.at (i:=0) rfl
  have b3:=Jl b3
  simp only[go_sem,Nat.reduceAdd,Nat.zero_add,q5,e1.len,e2.len,e3.len,a1,b1,d1,a2,b2,d2,a3,b3,YX,List.length_cons,List.length_nil,decide_true,Bool.not_true]
  refine AB (Ai (m:=3) g5 (by omega) rfl) ?_
  refine CG g1 rfl m3.len (by omega) λH8 g1 t8=>?_
  have g2:=(t8 (n+1) (by omega)).trans g2
  have g5:=(t8 (n3+1) (by omega)).trans g5
  refine AB (Ai (m:=3) g5 (by omega) rfl) (Cc (ALM ..) ?_)
  refine CG (L:=aV 0 0 0) g2 rfl rfl (by omega) λH9 g2 t9=>?_
  have g1:=(t9 n (by omega)).trans g1
  rw[DX (m:=11) g1 (by omega) m3.len,DX (m:=3) g2 (by omega) rfl]
  simp only[go_sem]
  exact hk _ _ _ ⟨by omega,λid hid=>(t9 id (by omega)).trans ((t8 id (by omega)).trans (f7.same id hid))⟩
   (m3.mono (λid h=>⟨by have:=h.1;omega,by have:=h.2;omega⟩) λid h=>(t9 id (by have:=h.1;omega)).trans (t8 id (by have:=h.1;omega)))
def hdS:Bs:=[120,32,43,32,49,32,42,32,50]
def hdE:Ex:=.mk 16 0 Zt [] false [.mk 6 0 [120] [] false [],.mk 16 0 XZ [] false [.mk 1 1 [] [] false [],.mk 1 2 [] [] false []]]
theorem ARF:kE 20 (AYO hdS)=some (some ⟨[65],[],[],[⟨[109],false,[],⟨vM,false⟩,[.mk 6 [] JY [hdE] [] []]⟩]⟩,0):=by kernel_rfl
theorem AVk(hG:X4 G)(hS:ADk G)(hk:∀H' n',Kp H n H' n'->k (.bool true) H' n'):Runs F G jA [] H n k:=by
 refine Am (s:=ar0 (TF lfp G)) Vd (by obtain⟨h,o⟩:=AAb Ap G;rw[Vd]at h;cases h;exact o) ?_
 show TF lfp G (Runs F G) H n k
 delta TF
 rw[show V.str 9 924654904039078305912=sB hdS from rfl]
 refine AXx hG hS (by decide) ARF λH1 n1 c f1 hx=>?_
 rw[wG,Au,wz,Au]
 refine Az rfl λH2 f2 g2=>?_
 refine Az rfl λH3 f3 g3=>?_
 have g2:=f3.get g2 (by omega)
 have f3:=f2.trans f3
 refine CG g2 rfl hx.len (by omega) λH4 g2 t4=>?_
 have g3:=(t4 (n1+1) (by omega)).trans g3
 refine CG (L:=aV 0 0 0) g3 rfl rfl (by omega) λH5 g3 t5=>?_
 have g2:=(t5 n1 (by omega)).trans g2
 have f5:Kp H1 n1 H5 (n1+1+1):=⟨by omega,λid hid=>(t5 id (by omega)).trans ((t4 id (by omega)).trans (f3.same id hid))⟩
 have hx:EO G H5 (Rg n n1) c hdE:=hx.mono (λid h=>h) λid h=>f5.same id h.2
 have f5:=f1.trans f5
 refine AB (Ai (m:=3) g3 (by omega) rfl) (AB AKq ?_)
 rw[show EZ (.agg [.int,.int,.int]) false (.agg (aV 0 0 0)) (.agg (aV 0 0 0))=some (.bool true)from rfl,Au]
 cases hx with
 |mk _ _ _ _ _ l1 c1 he hv ha hc=>
 cases hc with
 |cons h1 hc=>
 cases hc with
 |cons h2 hc=>
 cases hc with
 |nil=>
 cases h1 with
 |mk _ _ _ _ _ l2 c2 he2 _ _ _=>
 cases h2 with
 |mk _ _ _ _ _ l3 c3 he3 _ _ _=>
 have q0:AX (.ptr n1 0) G H5=some _:=AQ g2 rfl
 have q4:AX (.ptr n1 4) G H5=some _:=AQ g2 rfl
 have q7:AX (.ptr n1 7) G H5=some _:=AQ g2 rfl
 obtain⟨p1,q1,a1,b1,d1⟩:=ABr hS he (i:=0) (o:=0) rfl rfl rfl
 obtain⟨p2,q2,a2,b2,d2⟩:=ABr hS he (i:=1) (o:=4) rfl rfl rfl
 simp only[go_sem,Nat.reduceAdd,Nat.zero_add,q0,q4,q7,he.len,a1,b1,d1,a2,b2,d2,Xx,AH6,List.length_cons,List.length_nil,decide_true,show V.str 1 43=sB Zt from rfl,show V.str 1 42=sB XZ from rfl]
 exact hk _ _ f5
end
def smB:Bs:=(List.range 100).flatMap λk=>[UInt8.ofNat (48+k/10),UInt8.ofNat (48+k%10)]
theorem AWQ:smB.length=200:=by decide
theorem AXv:((List.range 100).all λk=>decide (smB[2*k]? =some (UInt8.ofNat (48+k/10)))&&decide (smB[2*k+1]? =some (UInt8.ofNat (48+k%10))))=true:=by decide
theorem sm_at{k:Nat}(h:k<100):smB[2*k]? =some (UInt8.ofNat (48+k/10))/\smB[2*k+1]? =some (UInt8.ofNat (48+k%10)):=by
 have:=List.all_eq_true.1 AXv k (List.mem_range.2 h)
 simpa using this
theorem AHS{l:Bs}{i:Nat}{q:IntKind}{c:UInt8}(h:l[i]? =some c):Kz (sB l) (.int q (.ofNat i) 0)=some (.int .u8 (.ofNat c.toNat) 0):=by
 obtain⟨h1,h2⟩:=List.getElem?_eq_some_iff.1 h
 rw[AWy h1,h2]
theorem d8{k:Nat}(h:k<10):(UInt8.ofNat (48+k)).toNat=48+k:=by
 rw[UInt8.toNat_ofNat'];omega
theorem sm_hi{k:Nat}{q:IntKind}(h:k<100):Kz (sB smB) (.int q (.ofNat (k*2)) 0)=some (.int .u8 (.ofNat (48+k/10)) 0):=by
 rw[Nat.mul_comm,AHS (sm_at h).1,d8 (by omega)]
theorem sm_lo{k:Nat}{q:IntKind}(h:k<100):Kz (sB smB) (.int q (.ofNat (k*2+1)) 0)=some (.int .u8 (.ofNat (48+k%10)) 0):=by
 rw[Nat.mul_comm,AHS (sm_at h).2,d8 (Nat.mod_lt _ (by decide))]
theorem smN:V.str 200 9938655150514779720929161263213647789093395803754561035662628441001274968862597953692946393464194303251501229616933063375291039650253924995779037586872666250072396106842829501851083234932712366962979930255066872747696324303968523733872590022915936937156789320557469720923390131174387415513794469201054844961267015441141542819553679203788501627738430154234325528792480477051962324423099068299719245009424585859096469223093538032153047611602695245052081125123941502624659711709950000=sB smB:=by kernel_rfl
theorem take2{α:Type}{l:List α}{i:Nat}{a b:α}(h1:l[i]? =some a)(h2:l[i+1]? =some b):(l.drop i).take 2=[a,b]:=by
 obtain⟨p1,q1⟩:=List.getElem?_eq_some_iff.1 h1
 obtain⟨p2,q2⟩:=List.getElem?_eq_some_iff.1 h2
 rw[List.drop_eq_getElem_cons p1,q1,List.drop_eq_getElem_cons p2,q2];rfl
section
variable{G:AV}{H:Heap}{n:Nat}{k:KV}
theorem AWf:V.str 36 237927390410950444456928663707796224754864904193074819559483181009558347043374296609072=sB [48,49,50,51,52,53,54,55,56,57,97,98,99,100,101,102,103,104,105,106,107,108,109,110,111,112,113,114,115,116,117,118,119,120,121,122]:=rfl
theorem AZv{x:Nat}(h:x<10):Yo x=[UInt8.ofNat (48+x)]:=by
 unfold Yo;rw[show yw 20 x=1 by unfold yw;rw[if_pos h]]
 show[]++[UInt8.ofNat (48+x%10)]=_
 rw[Nat.mod_eq_of_lt h];rfl
theorem AZy{x:Nat}(h:10<=x)(h2:x<100):Yo x=[UInt8.ofNat (48+x/10),UInt8.ofNat (48+x%10)]:=by
 unfold Yo
 rw[show yw 20 x=2 by unfold yw;rw[if_neg (by omega)];unfold yw;rw[if_pos (by omega)]]
 show([]++[UInt8.ofNat (48+x/10%10)])++[UInt8.ofNat (48+x%10)]=_
 rw[Nat.mod_eq_of_lt (show x/10<10 by omega)];rfl
theorem AT1{x:Nat}(h:x<100)(hk:k (sB (Yo x)) H n):Runs F G Uc [.int .i64 (.ofNat x) 0] H n k:=by
 refine Am (s:=Ho (JV lfp G)) Lu (by obtain⟨h,o⟩:=aT Ap G;rw[Lu]at h;cases h;exact o) ?_
 show JV lfp G (Runs F G) (.int .i64 (.ofNat x) 0) H n k
 delta JV
 rw[ES,Au]
 cases hd:decide (x<10)with
 |true=>
  have hd:=of_decide_eq_true hd
  rw[Ah,AWf]
  refine AB (Ef (by omega)) (AB (AQl (by omega) (by show x+1<=36;omega)) ?_)
  rw[AZv hd]at hk
  match x,hd with
  |0,_=>exact hk
  |1,_=>exact hk
  |2,_=>exact hk
  |3,_=>exact hk
  |4,_=>exact hk
  |5,_=>exact hk
  |6,_=>exact hk
  |7,_=>exact hk
  |8,_=>exact hk
  |9,_=>exact hk
 |false=>
  have hd:=of_decide_eq_false hd
  rw[Aq]
  refine AB (AMT (by omega)) (AB (AMT (by omega)) (AB (Ef (by omega)) ?_))
  rw[smN]
  refine AB (AQl (by omega) (by rw[AWQ];omega)) ?_
  rw[show x*2+2-x*2=2 by omega,Nat.mul_comm,take2 (sm_at h).1 (sm_at h).2,<-AZy (by omega) h]
  exact hk
def len8:Bs:=(List.range 256).map λk=>UInt8.ofNat (if k=0 then 0 else Nat.log2 k+1)
theorem AYf:V.str 256 1013866857139168856493015739252390649739422828853819106890363778118420553376247557433637691341895324351018602695588957474325319502760499485336098898398377509666851054660423406800006203933793007272033180812049178612605246075062580585469430410618860250057463399279570354286669047577758927328864388992123306212451509403152394148136105363817402562688186708175358218852349079190158732807302672745370040257219644697201681238697346923541678507645485296520536209706771857694240900605172937619415410180424934769249448772944216470541052485265558808433676546390051204254346932932316488017972311616136051587427851453983453479168=sB len8:=by kernel_rfl
theorem AQv:((List.range 256).all λk=>decide (len8[k]? =some (UInt8.ofNat (if k=0 then 0 else Nat.log2 k+1))))=true:=by decide
def Za(x:Nat):Nat:=if x=0 then 0 else Nat.log2 x+1
theorem AGg{x s:Nat}(h:2^s<=x):Za x=s+Za (x/2^s):=by
 have h0:0<2^s:=Nat.pow_pos (by decide)
 have h1:1<=x/2^s:=by rw[Nat.le_div_iff_mul_le h0];omega
 have hx:x≠0:=by omega
 unfold Za
 rw[if_neg hx,if_neg (by omega)]
 have e1:x.log2=s+(x/2^s).log2:=by
  have l1:2^(x/2^s).log2<=x/2^s:=Nat.log2_self_le (by omega)
  have l2:x/2^s<2^((x/2^s).log2+1):=Nat.lt_log2_self
  rw[Nat.log2_eq_iff hx]
  constructor
  ·rw[Nat.pow_add,Nat.mul_comm];exact(Nat.le_div_iff_mul_le h0).1 l1
  ·rw[show s+(x/2^s).log2+1=((x/2^s).log2+1)+s by omega,Nat.pow_add];exact(Nat.div_lt_iff_lt_mul h0).1 l2
 omega
theorem ASk{y:Nat}{q:IntKind}(h:y<256):Kz (sB len8) (.int q (.ofNat y) 0)=some (.int .u8 (.ofNat (Za y)) 0):=by
 have:=List.all_eq_true.1 AQv y (List.mem_range.2 h)
 have h2:len8[y]? =some (UInt8.ofNat (Za y)):=of_decide_eq_true this
 rw[AHS h2]
 have h3:Za y<=8:=by
  unfold Za;split
  ·omega
  ·have:y.log2<8:=(Nat.log2_lt (by omega)).2 (by omega)
   omega
 rw[UInt8.toNat_ofNat',Nat.mod_eq_of_lt (by omega)]
theorem ALy{x s:Nat}(h:x<2^s):Za x<=s:=by
 unfold Za;split
 ·omega
 ·rename_i h0;have:=(Nat.log2_lt h0).2 h;omega
theorem ASu{x:Nat}(h:x<9223372036854775808)(hk:k (.int .i64 (.ofNat (Za x)) 0) H n):Runs F G dK [.int .u64 (.ofNat x) 0] H n k:=by
 refine Am (s:=Ho (Qy lfp G)) U2 (by obtain⟨h,o⟩:=yD Ap G;rw[U2]at h;cases h;exact o) ?_
 show Qy lfp G (Runs F G) (.int .u64 (.ofNat x) 0) H n k
 delta Qy
 have j3:∀{y a:Nat},y<256->a<=100->a+Za y=Za x->Jb lfp G (Runs F G) k (.int .u64 (.ofNat y) 0) (.int .i64 (.ofNat a) 0) H n:=by
  intro y a hy ha he
  delta Jb
  have h3:Za y<=8:=ALy (s:=8) hy
  rw[AYf]
  refine AB (cvq (q:=.u8) hy) (AB (ASk hy) (AB (AQi (by omega)) (AB (Ef (by omega)) ?_)))
  rw[he];exact hk
 have j2:∀{y a:Nat},y<65536->a<=80->a+Za y=Za x->Jh lfp G (Runs F G) k (.int .u64 (.ofNat y) 0) (.int .i64 (.ofNat a) 0) H n:=by
  intro y a hy ha he
  delta Jh
  rw[mO,Au]
  cases hd:decide (256<=y)with
  |true=>
   have hd:=of_decide_eq_true hd
   rw[Ah]
   refine AB (ASg (q:=.u64) (by decide)) (AB (Ef (by omega)) ?_)
   have hdv:y/2^8<256:=by rw[Nat.div_lt_iff_lt_mul (by decide)];exact hy
   exact j3 hdv (by omega) (by rw[AGg (s:=8) hd]at he;omega)
  |false=>rw[Aq];exact j3 (by have:=of_decide_eq_false hd;omega) (by omega) he
 have j1:∀{y a:Nat},y<4294967296->a<=50->a+Za y=Za x->Jf lfp G (Runs F G) k (.int .u64 (.ofNat y) 0) (.int .i64 (.ofNat a) 0) H n:=by
  intro y a hy ha he
  delta Jf
  rw[mO,Au]
  cases hd:decide (65536<=y)with
  |true=>
   have hd:=of_decide_eq_true hd
   rw[Ah]
   refine AB (ASg (q:=.u64) (by decide)) (AB (Ef (by omega)) ?_)
   have hdv:y/2^16<65536:=by rw[Nat.div_lt_iff_lt_mul (by decide)];exact hy
   exact j2 hdv (by omega) (by rw[AGg (s:=16) hd]at he;omega)
  |false=>rw[Aq];exact j2 (by have:=of_decide_eq_false hd;omega) (by omega) he
 rw[mO,Au]
 cases hd:decide (4294967296<=x)with
 |true=>
  have hd:=of_decide_eq_true hd
  rw[Ah]
  refine AB (ASg (q:=.u64) (by decide)) ?_
  have hdv:x/2^32<4294967296:=by rw[Nat.div_lt_iff_lt_mul (by decide)];omega
  exact j1 hdv (by omega) (by rw[AGg (s:=32) hd])
 |false=>rw[Aq];exact j1 (by have:=of_decide_eq_false hd;omega) (by omega) (by omega)
end
def kM(G:AV):Prop:=∀i,i<20->G Xh i 1=some [.int .u64 (.ofNat (10^i)) 0]
theorem AbS{b i m:Nat}{q:IntKind}(h:i<m):AHh m 1 (.Xa b 0) (.int q (.ofNat i) 0)=some (.Xa b i):=by
 show BP (Nat.blt i m) (AU (Nat.mul i 1) (.Xa b 0))=_
 rw[show Nat.blt i m=true by rw[Nat.blt_eq];exact h,show Nat.mul i 1=i from Nat.mul_one i]
 show AU i (.Xa b 0)=_
 rw[AHR,Nat.zero_add]
theorem AZN{G:AV}{H:Heap}{b i:Nat}{v:V}(h:G b i 1=some [v]):AX (.Xa b i) G H=some v:=aI h
theorem AZH:∀L,1<=L->L<64->L*78913/2^18<20/\2^L<=10^(L*78913/2^18+1)/\(L*78913/2^18=0∨10^(L*78913/2^18-1)<=2^(L-1)):=by
 have h:((List.range 64).all λL=>decide (L=0)||(decide (L*78913/2^18<20)&&(decide (2^L<=10^(L*78913/2^18+1))&&(decide (L*78913/2^18=0)||decide (10^(L*78913/2^18-1)<=2^(L-1))))))=true:=by decide
 intro L h1 h2
 have:=List.all_eq_true.1 h L (List.mem_range.2 h2)
 simp only[Bool.or_eq_true,Bool.and_eq_true,decide_eq_true_eq]at this
 rcases this with h|h
 ·omega
 ·exact⟨h.1,h.2.1,h.2.2⟩
section
variable{G:AV}{H:Heap}{n:Nat}{k:KV}
theorem ATe{L:Nat}(h:L<=63)(hk:k (.int .i64 (.ofNat (L*78913/2^18)) 0) H n):Runs F G QJ [.int .i64 (.ofNat L) 0] H n k:=by
 refine Am (s:=Ho (G9 lfp G)) Jd (by obtain⟨h,o⟩:=YO Ap G;rw[Jd]at h;cases h;exact o) ?_
 show G9 lfp G (Runs F G) (.int .i64 (.ofNat L) 0) H n k
 delta G9
 exact AB (AMT (by omega)) (AB (ASg (q:=.i64) (by decide)) hk)
theorem ATD{b:Bool}(hk:k (.int .i64 (.ofNat (if b then 1 else 0)) 0) H n):Runs F G QB [.bool b] H n k:=by
 refine Am (s:=Ho (G8 lfp G)) Jo (by obtain⟨h,o⟩:=X9 Ap G;rw[Jo]at h;cases h;exact o) ?_
 show G8 lfp G (Runs F G) (.bool b) H n k
 delta G8
 cases b
 ·rw[Aq];exact hk
 ·rw[Ah];exact hk
theorem AJk{x:Nat}(hG:kM G)(h1:1<=x)(h:x<9223372036854775808)(hk:k (.int .i64 (.ofNat (yw 20 x)) 0) H n):Runs F G QG [.int .u64 (.ofNat x) 0] H n k:=by
 refine Am (s:=Ho (G6 lfp G)) Jj (by obtain⟨h,o⟩:=YZ Ap G;rw[Jj]at h;cases h;exact o) ?_
 show G6 lfp G (Runs F G) (.int .u64 (.ofNat x) 0) H n k
 delta G6
 refine ASu h ?_
 have hL:Za x=x.log2+1:=by unfold Za;rw[if_neg (by omega)]
 have hb1:1<=Za x:=by omega
 have hb2:Za x<=63:=ALy (s:=63) h
 have hlo:2^(Za x-1)<=x:=by rw[hL];exact Nat.log2_self_le (by omega)
 have hhi:x<2^Za x:=by rw[hL];exact Nat.lt_log2_self
 generalize Za x=L at hb1 hb2 hlo hhi
 clear hL
 obtain⟨t1,t2,t3⟩:=AZH L hb1 (by omega)
 refine ATe hb2 ?_
 generalize L*78913/2^18=t at t1 t2 t3
 refine AB (AbS t1) (AB (AZN (hG t t1)) ?_)
 rw[mO,Au]
 refine ATD ?_
 have hd:∀d,1<=d->x<10^d->(d=1∨10^(d-1)<=x)->d=yw 20 x:=λd h1 h2 h3=>(AAL 20 x d (by omega) h1).2 ⟨h2,h3⟩
 cases hc:decide (10^t<=x)with
 |true=>
  have hc:=of_decide_eq_true hc
  refine AB (Ef (by show t+1<_;omega)) ?_
  show k (.int .i64 (.ofNat (t+1)) 0) H n
  rw[hd (t+1) (by omega) (by omega) (.inr hc)]
  exact hk
 |false=>
  have hc:=of_decide_eq_false hc
  refine AB (Ef (by show t+0<_;omega)) ?_
  have ht:t≠0:=λe=>by subst e;simp at hc;omega
  have t3:10^(t-1)<=2^(L-1):=by rcases t3 with h|h;exact absurd h ht;exact h
  show k (.int .i64 (.ofNat t) 0) H n
  rw[hd t (by omega) (by omega) (.inr (by omega))]
  exact hk
end
theorem AK7(a b:Bs):CK.eq .str (sB a) (sB b)=some (decide (a=b)):=by
 show some (band (Nat.beq a.length b.length) (Nat.beq (enc a) (enc b)))=_
 rw[show band (Nat.beq a.length b.length) (Nat.beq (enc a) (enc b))=decide (a=b)by rw[CU,Bool.eq_iff_iff,decide_eq_true_iff,<-APG];simp]
theorem APz(a b:Bool):CK.eq .bool (.bool a) (.bool b)=some (decide (a=b)):=by cases a<;>cases b<;>rfl
theorem AQY(a c:Bs)(b d:Bool):EZ (.agg [.str,.bool]) false (.agg [sB a,.bool b]) (.agg [sB c,.bool d])=some (.bool (decide (a=c)&&decide (b=d))):=by
 have h:(EK.agg [.str,.bool]).eq (.agg [sB a,.bool b]) (.agg [sB c,.bool d])=some (decide (a=c)&&decide (b=d)):=
  show ACx [.str,.bool] [sB a,.bool b] [sB c,.bool d]=_ from TK.2 ⟨_,_,AK7 _ _,TK.2 ⟨_,true,APz _ _,rfl,rfl⟩,by simp⟩
 show ofB (iY ((EK.agg [.str,.bool]).eq (.agg [sB a,.bool b]) (.agg [sB c,.bool d])) λb=>some b)=_
 rw[h];cases(decide (a=c)&&decide (b=d))<;>rfl
mutual
def AAA:Ex->Ex->Bool
 |.mk k n nm ty ar ks,.mk k' n' nm' ty' ar' ks'=>decide (k=k')&&(decide (n=n')&&(decide (nm=nm')&&((decide (ty=ty')&&decide (ar=ar'))&&bC ks ks')))
def bC:List Ex->List Ex->Bool
 |[],[]=>true
 |a::l,b::m=>AAA a b&&bC l m
 |[],_::_=>false
 |_::_,[]=>false
end
mutual
theorem AKF:∀e:Ex,AAA e e=true
 |.mk k n nm ty ar ks=>by unfold AAA;simp[vZ ks]
theorem vZ:∀l:List Ex,bC l l=true
 |[]=>by unfold bC;rfl
 |a::l=>by unfold bC;simp[AKF a,vZ l]
end
mutual
def nE:Ex->Nat
 |.mk _ _ _ _ _ ks=>1+nL ks
def nL:List Ex->Nat
 |[]=>0
 |a::l=>nE a+nL l
end
theorem XO(e:Ex):1<=nE e:=by cases e;unfold nE;omega
theorem AEt:∀{l:List Ex} {e:Ex},e∈l->nE e<=nL l
 |a::l,e,h=>by
  unfold nL
  rcases List.mem_cons.1 h with rfl|h
  ·omega
  ·have:=AEt h;omega
theorem AEZ:∀l:List Ex,l.length<=nL l
 |[]=>by simp
 |a::l=>by have:=AEZ l;have:=XO a;unfold nL;simp;omega
theorem AF8:∀l m:List Ex,l.length≠m.length->bC l m=false
 |[],[],h=>absurd rfl h
 |[],_::_,_=>by unfold bC;rfl
 |_::_,[],_=>by unfold bC;rfl
 |a::l,b::m,h=>by unfold bC;rw[AF8 l m (by simpa using h),Bool.and_false]
def AUt(G:AV)(e1:Ex):Prop:=∀(e2:Ex) (H:Heap) (n:Nat) (c1 c2:LV) (A B:Nat->Prop) (k:KV),EO G H A c1 e1->EO G H B c2 e2->(∀id,A id->id<n)->(∀id,B id->id<n)->(∀H' n',Kp H n H' n'->k (.bool (AAA e1 e2)) H' n')->Runs F G MG [.agg c1,.agg c2] H n k
theorem O4.at{G:AV}{H:Heap}{A:Nat->Prop}:∀{cs:D5} {es:List Ex} {i:Nat} {e:Ex},O4 G H A cs es->es[i]? =some e->∃c,cs[i]? =some c/\EO G H A c e
 |_,_,i,e,.nil,h=>by simp at h
 |_,_,0,e,.cons h t,hi=>by simp at hi;subst hi;exact⟨_,rfl,h⟩
 |_,_,i+1,e,.cons h t,hi=>by
  obtain⟨c,h1,h2⟩:=t.at (show _=some e from by simpa using hi)
  exact⟨c,by simpa using h1,h2⟩
section
variable{G:AV}{H:Heap}{n:Nat}{k:KV}
theorem ALs{l m:List Ex}{v w:V}{cs ds:D5}{A B:Nat->Prop}(hv:El G H v 11 cs)(hw:El G H w 11 ds)(hva:∀id,v.Qa=some id->id<n)(hwa:∀id,w.Qa=some id->id<n)(hc:O4 G H A cs l)(hd:O4 G H B ds m)(hA:∀id,A id->id<n)(hB:∀id,B id->id<n)
 (hs:∀e∈l,AUt G e) (hlen:l.length<4611686018427387904) (hk:∀H' n',Kp H n H' n'->k (.bool (bC l m)) H' n'):Runs F G Dy [v,w,.fn MG [] []] H n k:=by
 refine Am (s:=ar3 (CY lfp G)) Dq (by obtain⟨h,o⟩:=Jv Ap G;rw[Dq]at h;cases h;exact o) ?_
 show CY lfp G (Runs F G) v w (.fn MG [] []) H n k
 delta CY
 refine AB hv.len (AB hw.len ?_)
 rw[YX,Au,hc.len,hd.len]
 cases hl:decide (l.length=m.length)with
 |false=>
  rw[AF8 l m (of_decide_eq_false hl)]at hk
  rw[Bool.not_false,Ah]
  exact hk _ _ (Kp.refl ..)
 |true=>
  have hl:=of_decide_eq_true hl
  rw[Bool.not_true,Aq]
  refine AB hv.len ?_
  rw[hc.len]
  obtain⟨R,hR⟩:∃R,bC l m=R:=⟨_,rfl⟩
  rw[hR]at hk
  refine EP (N:=l.length) (J:=λj q=>∃H' n',q=(w,.fn MG [] [],v,.int .i64 (.ofNat l.length) 0,.int .i64 (.ofNat j) 0,H',n')/\Kp H n H' n'/\bC (l.drop j) (m.drop j)=R) ?_ ?_ ⟨H,n,rfl,Kp.refl ..,hR⟩
  ·rintro I j q hlt ⟨H1,n1,rfl,f1,hR⟩ ih
   show BZ lfp G (Runs F G) k I w (.fn MG [] []) v (.int .i64 (.ofNat l.length) 0) (.int .i64 (.ofNat j) 0) H1 n1
   delta BZ
   have hltm:j<m.length:=by omega
   rw[List.drop_eq_getElem_cons hlt,List.drop_eq_getElem_cons hltm]at hR
   unfold bC at hR
   have hv1:=hv.kp hva f1
   have hw1:=hw.kp hwa f1
   have hc1:O4 G H1 A cs l:=hc.mono (λ_ h=>h) λid h=>f1.same id (hA id h)
   have hd1:O4 G H1 B ds m:=hd.mono (λ_ h=>h) λid h=>f1.same id (hB id h)
   obtain⟨c,hc2,hx⟩:=hc1.at (List.getElem?_eq_getElem hlt)
   obtain⟨d,hd2,hy⟩:=hd1.at (List.getElem?_eq_getElem hltm)
   have hse:=hs _ (List.getElem_mem hlt)
   generalize l[j]=e1 at hR hx hse
   generalize m[j]=e2 at hR hy
   have hn1:=f1.le
   obtain⟨p,hp,hld⟩:=hv1.at hc2
   obtain⟨p2,hp2,hld2⟩:=hw1.at hd2
   rw[ES,Au,decide_eq_true hlt,Ah]
   refine AB hp (AB (Jl hld) ?_)
   refine Az rfl λH2 f2 g2=>?_
   refine CG g2 rfl hx.len (by omega) λH3 g2 t3=>?_
   have f3:Kp H1 n1 H3 (n1+1):=⟨f2.le,λid hid=>(t3 id (by omega)).trans (f2.same id hid)⟩
   obtain⟨p3,hp3,hld3⟩:=(hw1.kp (λid h=>Nat.lt_of_lt_of_le (hwa id h) hn1) f3).at hd2
   refine AB hp3 (AB (Jl hld3) ?_)
   refine Az rfl λH4 f4 g4=>?_
   have g2:=f4.get g2 (by omega)
   refine CG g4 rfl hy.len (by omega) λH5 g4 t5=>?_
   have g2:=(t5 n1 (by omega)).trans g2
   have f5:Kp H3 (n1+1) H5 (n1+1+1):=⟨f4.le,λid hid=>(t5 id (by omega)).trans (f4.same id hid)⟩
   have f5:=f3.trans f5
   refine AB (Ai (m:=11) g2 (by omega) hx.len) (AB (Ai (m:=11) g4 (by omega) hy.len) ?_)
   have fin:=f1.trans f5
   have hx:EO G H5 A c e1:=hx.mono (λ_ h=>h) λid h=>f5.same id (by have:=hA id h;omega)
   have hy:EO G H5 B d e2:=hy.mono (λ_ h=>h) λid h=>f5.same id (by have:=hB id h;omega)
   refine hse e2 H5 _ c d A B _ hx hy (λid h=>by have:=hA id h;omega) (λid h=>by have:=hB id h;omega) λH6 n6 f6=>?_
   rw[MF,Au]
   cases hb:AAA e1 e2 with
   |false=>
    rw[hb,Bool.false_and]at hR
    rw[Bool.not_false,Ah,hR]
    exact hk _ _ (fin.trans f6)
   |true=>
    rw[hb,Bool.true_and]at hR
    rw[Bool.not_true,Aq]
    refine AB (Ef (by omega)) ?_
    exact ih _ ⟨_,_,rfl,fin.trans f6,hR⟩
  ·rintro I q ⟨H1,n1,rfl,f1,hR⟩
   show BZ lfp G (Runs F G) k I w (.fn MG [] []) v (.int .i64 (.ofNat l.length) 0) (.int .i64 (.ofNat l.length) 0) H1 n1
   delta BZ
   rw[ES,Au,decide_eq_false (Nat.lt_irrefl _),Aq]
   delta Dh
   rw[List.drop_eq_nil_of_le (Nat.le_refl _),List.drop_eq_nil_of_le (by omega)]at hR
   unfold bC at hR
   rw[hR]
   exact hk _ _ f1
theorem O4.size{A:Nat->Prop}{cs:D5}{es:List Ex}(_:O4 G H A cs es):es.length<=nL es:=AEZ es
theorem AXB:∀(N:Nat),N<4611686018427387904->∀(e1:Ex),nE e1<=N->AUt G e1:=by
 intro N
 induction N with
 |zero=>intro _ e1 h;have:=XO e1;omega
 |succ N ih=>
  intro hbig e1 hN e2 H n c1 c2 A B k h1 h2 hA hB hk
  refine Am (s:=QD (Uk lfp G)) XI (by obtain⟨h,o⟩:=ABc Ap G;rw[XI]at h;cases h;exact o) ?_
  show Uk lfp G (Runs F G) (.agg c1) (.agg c2) H n k
  delta Uk
  refine Dk λH1 f1 g1=>?_
  refine Dk λH2 f2 g2=>?_
  have g1:=f2.get g1 (by omega)
  have f2:=f1.trans f2
  have h1:EO G H2 A c1 e1:=h1.mono (λ_ h=>h) λid h=>f2.same id (hA id h)
  have h2:EO G H2 B c2 e2:=h2.mono (λ_ h=>h) λid h=>f2.same id (hB id h)
  cases h1 with
  |mk kd nu nm ty ar l1 k1 he1 hv1 ha1 hc1=>
  cases h2 with
  |mk kd2 nu2 nm2 ty2 QD l2 k2 he2 hv2 ha2 hc2=>
  unfold AAA at hk
  have q0:AX (.ptr n 0) G H2=some _:=AQ g1 rfl
  have r0:AX (.ptr (n+1) 0) G H2=some _:=AQ g2 rfl
  have q3:AX (.ptr n 3) G H2=some _:=AQ g1 rfl
  have r3:AX (.ptr (n+1) 3) G H2=some _:=AQ g2 rfl
  have q4:AX (.ptr n 4) G H2=some _:=AQ g1 rfl
  have r4:AX (.ptr (n+1) 4) G H2=some _:=AQ g2 rfl
  have q7:AX (.ptr n 7) G H2=some _:=AQ g1 rfl
  have r7:AX (.ptr (n+1) 7) G H2=some _:=AQ g2 rfl
  have q5:BF 2 (.ptr n 5) G H2=some (.agg [sB ty,.bool ar]):=OZ g1 (by omega) (by show 5+2<=11;omega)
  have r5:BF 2 (.ptr (n+1) 5) G H2=some (.agg [sB ty2,.bool QD]):=OZ g2 (by omega) (by show 5+2<=11;omega)
  simp only[go_sem,Nat.reduceAdd,q0,r0,Xx]
  have bad:AAA (.mk kd nu nm ty ar _) (.mk kd2 nu2 nm2 ty2 QD _)=false->k (.bool false) H2 (n+1+1):=λh=>by
   unfold AAA at h;rw[h]at hk;exact hk _ _ f2
  unfold AAA at bad
  cases d1:decide (kd=kd2)with
  |false=>
   repeat (first|with_reducible refine AE1 ?_|with_reducible refine AL6 ?_|with_reducible refine AFA ?_)
   exact bad (by rw[d1];rfl)
  |true=>
   rw[d1,Bool.true_and]at bad hk
   simp only[go_sem,Nat.reduceAdd,q3,r3,Xx]
   cases d2:decide (nu=nu2)with
   |false=>
    repeat (first|with_reducible refine AE1 ?_|with_reducible refine AL6 ?_|with_reducible refine AFA ?_)
    exact bad (by rw[d2];rfl)
   |true=>
    rw[d2,Bool.true_and]at bad hk
    simp only[go_sem,Nat.reduceAdd,q4,r4,AH6]
    cases d3:decide (nm=nm2)with
    |false=>
     repeat (first|with_reducible refine AE1 ?_|with_reducible refine AL6 ?_|with_reducible refine AFA ?_)
     exact bad (by rw[d3];rfl)
    |true=>
     rw[d3,Bool.true_and]at bad hk
     simp only[go_sem,Nat.reduceAdd,q5,r5,AQY]
     cases d4:(decide (ty=ty2)&&decide (ar=QD))with
     |false=>
      repeat (first|with_reducible refine AE1 ?_|with_reducible refine AL6 ?_|with_reducible refine AFA ?_)
      exact bad (by rw[d4];rfl)
     |true=>
      rw[d4,Bool.true_and]at hk
      simp only[go_sem,Nat.reduceAdd,q7,r7]
      refine ALs he1 he2 (λid h=>by have:=hA id (ha1 id h);omega) (λid h=>by have:=hB id (ha2 id h);omega) hc1 hc2 (λid h=>by have:=hA id h;omega) (λid h=>by have:=hB id h;omega) (λe he=>ih (by omega) e ?_) ?_ λH3 n3 f3=>?_
      ·have:=AEt he;unfold nE at hN;omega
      ·have:=hc1.size;unfold nE at hN;omega
      ·exact hk _ _ (f2.trans f3)
end
def Buf(H:Heap)(id len x i:Nat):Prop:=∃t,T.get H id=some (.arr 1 24 t)/\(∀p,p<24->∃L,T.get t p=some L)/\∀p,i<=p->p<len->T.get t (1+p)=some [.int .u8 (.ofNat (48+x/10^(len-1-p)%10)) 0]
section
variable{G:AV}{H:Heap}{n id len x:Nat}{k:KV}
theorem AGG{i j d:Nat}{P:KV}(hj:j=i+1)(hi:i<len)(hl:len<=23)(hb:Buf H id len x j)(hd:d=x/10^(len-j)%10)(h:∀H',Buf H' id len x i->(∀a,a≠id->T.get H' a=T.get H a)->P .undef H' n):
 AP (BO 1 (.sl id 1 len 23 1) (.int .i64 (.ofNat i) 0)) λv=>CP 1 v (.int .u8 (.ofNat (48+d)) 0) H n P:=by
 subst hj
 obtain⟨t,h1,h2,h3⟩:=hb
 refine AB (AOw hi) ?_
 obtain⟨L,hL⟩:=h2 (1+i) (by omega)
 refine AUs h1 (by omega) (by omega) hL rfl rfl λH' g s=>?_
 refine h H' ⟨_,g,λp hp=>?_,λp hp hp2=>?_⟩ s
 ·by_cases e:1+i=p
  ·subst e;exact⟨_,T.DJ ..⟩
  ·rw[T.BA _ _ e];exact h2 p hp
 ·by_cases e:i=p
  ·subst e
   rw[T.DJ,hd,show len-(i+1)=len-1-i by omega];rfl
  ·rw[T.BA _ _ (by omega)];exact h3 p (by omega) hp2
theorem aJ{i j o kk:Nat}{P:KV}(ho:j+2=i-o)(hoi:o+2<=i)(hi:i<=len)(hl:len<=23)(hk:kk<100)(hb:Buf H id len x (j+2))(h1:kk%10=x/10^(len-(j+2))%10)(h2:kk/10=x/10^(len-(j+1))%10)
 (h:∀H',Buf H' id len x j->(∀a,a≠id->T.get H' a=T.get H a)->P .undef H' n):
 AP (B2.ev .sub (.int .i64 (.ofNat i) 0) (.int .i64 (.ofNat (o+1)) 0)) λp1=>AP (B2.ev .sub (.int .i64 (.ofNat i) 0) (.int .i64 (.ofNat (o+2)) 0)) λp2=>AP (B2.ev .add (.int .u32 (.ofNat (kk*2)) 0) (.int .u32 (.ofNat 1) 0)) λv68=>
 AP (Kz (sB smB) v68) λc1=>AP (Kz (sB smB) (.int .u32 (.ofNat (kk*2)) 0)) λc2=>AP (BO 1 (.sl id 1 len 23 1) p1) λq1=>CP 1 q1 c1 H n λ_ H n=>AP (BO 1 (.sl id 1 len 23 1) p2) λq2=>CP 1 q2 c2 H n P:=by
 refine AB (vS (by omega) (by omega)) (AB (vS (by omega) (by omega)) (AB (ATv (q:=.u32) (by show kk*2+1<4294967296;omega)) (AB (sm_lo hk) (AB (sm_hi hk) ?_))))
 rw[show i-(o+1)=j+1 by omega,show i-(o+2)=j by omega]
 refine AGG (j:=j+2) rfl (by omega) hl hb h1 λH1 b1 s1=>?_
 exact AGG (j:=j+1) rfl (by omega) hl b1 h2 λH2 b2 s2=>h H2 b2 λa ha=>(s2 a ha).trans (s1 a ha)
theorem ANv(e:Nat):0<10^e:=Nat.pow_pos (by decide)
theorem div_pow(x e c:Nat):x/10^(e+c)=x/10^e/10^c:=by rw[Nat.pow_add,Nat.div_div_eq_div_mul]
structure Left(len x i u:Nat):Prop where
 hi:i<=len
 eq:u=x/10^(len-i)
 lt:u<10^i
theorem Left.dig{len x i u:Nat}(h:Left len x i u)(c:Nat)(hc:c<=i):x/10^(len-(i-c))%10=u/10^c%10:=by
 rw[show len-(i-c)=len-i+c by have:=h.hi;omega,div_pow,<-h.eq]
theorem Left.next{len x i u:Nat}(h:Left len x i u)(c:Nat)(hc:c<=i):Left len x (i-c) (u/10^c):=by
 refine⟨by have:=h.hi;omega,by rw[show len-(i-c)=len-i+c by have:=h.hi;omega,div_pow,<-h.eq],?_⟩
 rw[Nat.div_lt_iff_lt_mul (ANv c),<-Nat.pow_add,show i-c+c=i by omega];exact h.lt
theorem AYl{i u:Nat}(hl:len<=23)(hw:Left len x i u)(h1:i<=1)(hb:Buf H id len x i)(hk:∀H',Buf H' id len x 0->(∀a,a≠id->T.get H' a=T.get H a)->k (.J4 []) H' n):
 EH lfp G (Runs F G) k (.sl id 1 len 23 1) (.int .i64 (.ofNat i) 0) (.int .u32 (.ofNat u) 0) H n:=by
 delta EH
 rw[Ls,Au]
 cases hd:decide (0<i)with
 |false=>
  obtain rfl:i=0:=by have:=of_decide_eq_false hd;omega
  rw[Aq]
  exact hk H hb λ_ _=>rfl
 |true=>
  obtain rfl:i=1:=by have:=of_decide_eq_true hd;omega
  rw[Ah]
  have hu:u<10:=by have:=hw.lt;omega
  refine AB (ATv (q:=.u32) (by show 48+u<4294967296;omega)) (AB (cvq (q:=.u8) (by show 48+u<256;omega)) ?_)
  have:=hw.hi
  refine AGG (j:=1) rfl (by omega) hl hb ?_ hk
  rw[<-hw.eq,Nat.mod_eq_of_lt hu]
theorem AYJ{i u:Nat}(hl:len<=23)(hw:Left len x i u)(h1:i<=3)(hb:Buf H id len x i)(hk:∀H',Buf H' id len x 0->(∀a,a≠id->T.get H' a=T.get H a)->k (.J4 []) H' n):
 EI lfp G (Runs F G) k (.sl id 1 len 23 1) (.int .i64 (.ofNat i) 0) (.int .u32 (.ofNat u) 0) H n:=by
 delta EI
 rw[mO,Au]
 cases hd:decide (2<=i)with
 |false=>rw[Aq];exact AYl hl hw (by have:=of_decide_eq_false hd;omega) hb hk
 |true=>
  have hd:=of_decide_eq_true hd
  have hu:u<1000:=Nat.lt_of_lt_of_le hw.lt (Nat.pow_le_pow_right (by decide) h1)
  obtain⟨j,rfl⟩:∃j,i=j+2:=⟨i-2,by omega⟩
  rw[Ah,smN]
  have hj:=hw.hi
  refine AB (AK3 (q:=.u32) u (by decide)) (AB (AKk (q:=.u32) (by show u%100*2<4294967296;omega)) (AB (AKE (q:=.u32) (by show u<4294967296;omega) (by decide)) ?_))
  refine aJ (o:=0) (by omega) (by omega) hj hl (Nat.mod_lt _ (by decide)) hb ?_ ?_ λH1 b1 s1=>?_
  ·have:=hw.dig 0 (by omega);simp at this;rw[this];omega
  ·have:=hw.dig 1 (by omega);simp at this;rw[this];omega
  ·refine AB (vS (by omega) (by omega)) ?_
   exact AYl hl (by have:=hw.next 2 (by omega);simpa using this) (by omega) b1 λH2 b2 s2=>hk H2 b2 λa ha=>(s2 a ha).trans (s1 a ha)
theorem Aa2{i u:Nat}(hl:len<=23)(hw:Left len x i u)(h1:i<=7)(hb:Buf H id len x i)(hk:∀H',Buf H' id len x 0->(∀a,a≠id->T.get H' a=T.get H a)->k (.J4 []) H' n):
 Ew lfp G (Runs F G) k (.sl id 1 len 23 1) (.int .u64 (.ofNat u) 0) (.int .i64 (.ofNat i) 0) H n:=by
 delta Ew
 have hu:u<10000000:=Nat.lt_of_lt_of_le hw.lt (Nat.pow_le_pow_right (by decide) h1)
 refine AB (cvq (q:=.u32) (by show u<4294967296;omega)) ?_
 rw[mO,Au]
 cases hd:decide (4<=i)with
 |false=>rw[Aq];exact AYJ hl hw (by have:=of_decide_eq_false hd;omega) hb hk
 |true=>
  have hd:=of_decide_eq_true hd
  obtain⟨j,rfl⟩:∃j,i=j+4:=⟨i-4,by omega⟩
  rw[Ah,smN]
  have hj:=hw.hi
  refine AB (AK3 (q:=.u32) u (by decide)) (AB (AKE (q:=.u32) (by show u<4294967296;omega) (by decide)) (AB (AKE (q:=.u32) (by show u%10000<4294967296;omega) (by decide)) (AB (AKk (q:=.u32) (by show u%10000/100*2<4294967296;omega)) (AB (AK3 (q:=.u32) _ (by decide)) (AB (AKk (q:=.u32) (by show u%10000%100*2<4294967296;omega)) ?_)))))
  have d0:=hw.dig 0 (by omega);have d1:=hw.dig 1 (by omega);have d2:=hw.dig 2 (by omega);have d3:=hw.dig 3 (by omega)
  simp at d0 d1 d2 d3
  refine aJ (o:=0) (j:=j+2) (by omega) (by omega) hj hl (Nat.mod_lt _ (by decide)) hb (by rw[d0];omega) (by rw[d1];omega) λH1 b1 s1=>?_
  refine aJ (o:=2) (by omega) (by omega) hj hl (show u%10000/100<100 by omega) b1 (by rw[d2];omega) (by rw[d3];omega) λH2 b2 s2=>?_
  refine AB (vS (by omega) (by omega)) ?_
  exact AYJ hl (by have:=hw.next 4 (by omega);simpa using this) (by omega) b2 λH3 b3 s3=>hk H3 b3 λa ha=>(s3 a ha).trans ((s2 a ha).trans (s1 a ha))
theorem AQ5(hl:len<=23)(hx:x<10^len)(hx2:x<9223372036854775808)(hb:Buf H id len x len)(hk:∀H',Buf H' id len x 0->(∀a,a≠id->T.get H' a=T.get H a)->k (.J4 []) H' n):
 Runs F G OB [.sl id 1 len 23 1,.int .u64 (.ofNat x) 0] H n k:=by
 refine Am (s:=QD (Fb lfp G)) Ia (by obtain⟨h,o⟩:=WG Ap G;rw[Ia]at h;cases h;exact o) ?_
 show Fb lfp G (Runs F G) (.sl id 1 len 23 1) (.int .u64 (.ofNat x) 0) H n k
 delta Fb
 rw[show lenV (.sl id 1 len 23 1)=some (.int .i64 (.ofNat len) 0)from rfl,Au]
 refine O3 (J:=λm q=>∃H' i u,m=i/\q=(.sl id 1 len 23 1,.int .u64 (.ofNat u) 0,.int .i64 (.ofNat i) 0,H',n)/\Left len x i u/\u<9223372036854775808/\Buf H' id len x i/\∀a,a≠id->T.get H' a=T.get H a) ?_ (m:=len)
  ⟨H,len,x,rfl,rfl,⟨Nat.le_refl _,by rw[Nat.sub_self];simp,hx⟩,hx2,hb,λ_ _=>rfl⟩
 rintro I m q ⟨H1,i,u,rfl,rfl,hw,hu,hb,hs⟩ ih
 show Gu lfp G (Runs F G) k I (.sl id 1 len 23 1) (.int .u64 (.ofNat u) 0) (.int .i64 (.ofNat m) 0) H1 n
 delta Gu
 rw[mO,Au]
 cases hd:decide (8<=m)with
 |false=>rw[Aq];exact Aa2 hl hw (by have:=of_decide_eq_false hd;omega) hb λH2 b2 s2=>hk H2 b2 λa ha=>(s2 a ha).trans (hs a ha)
 |true=>
  have hd:=of_decide_eq_true hd
  obtain⟨j,rfl⟩:∃j,m=j+8:=⟨m-8,by omega⟩
  rw[Ah,smN]
  have hj:=hw.hi
  refine AB (AK3 (q:=.u64) u (by decide)) (AB (cvq (q:=.u32) (by show u%100000000<4294967296;omega)) (AB (AKE (q:=.u64) (by show u<18446744073709551616;omega) (by decide)) ?_))
  generalize hv:u%100000000=v
  have hv8:v<100000000:=by omega
  refine AB (AKE (q:=.u32) (by show v<4294967296;omega) (by decide)) (AB (AK3 (q:=.u32) v (by decide)) (AB (AKE (q:=.u32) (by show v%10000<4294967296;omega) (by decide)) (AB (AKk (q:=.u32) (by show v%10000/100*2<4294967296;omega)) (AB (AK3 (q:=.u32) _ (by decide)) (AB (AKk (q:=.u32) (by show v%10000%100*2<4294967296;omega))
   (AB (AKE (q:=.u32) (by show v/10000<4294967296;omega) (by decide)) (AB (AKk (q:=.u32) (by show v/10000/100*2<4294967296;omega)) (AB (AK3 (q:=.u32) _ (by decide)) (AB (AKk (q:=.u32) (by show v/10000%100*2<4294967296;omega)) ?_)))))))))
  have d0:=hw.dig 0 (by omega);have d1:=hw.dig 1 (by omega);have d2:=hw.dig 2 (by omega);have d3:=hw.dig 3 (by omega)
  have d4:=hw.dig 4 (by omega);have d5:=hw.dig 5 (by omega);have d6:=hw.dig 6 (by omega);have d7:=hw.dig 7 (by omega)
  simp at d0 d1 d2 d3 d4 d5 d6 d7
  refine aJ (o:=0) (j:=j+6) (by omega) (by omega) hj hl (Nat.mod_lt _ (by decide)) hb (by rw[d0];omega) (by rw[d1];omega) λH2 b2 s2=>?_
  refine aJ (o:=2) (j:=j+4) (by omega) (by omega) hj hl (show v%10000/100<100 by omega) b2 (by rw[d2];omega) (by rw[d3];omega) λH3 b3 s3=>?_
  refine aJ (o:=4) (j:=j+2) (by omega) (by omega) hj hl (Nat.mod_lt _ (by decide)) b3 (by rw[d4];omega) (by rw[d5];omega) λH4 b4 s4=>?_
  refine aJ (o:=6) (by omega) (by omega) hj hl (show v/10000/100<100 by omega) b4 (by rw[d6];omega) (by rw[d7];omega) λH5 b5 s5=>?_
  refine AB (vS (by omega) (by omega)) ?_
  refine ih j _ (by omega) ⟨H5,j,u/100000000,rfl,by rw[show j+8-8=j by omega],by have:=hw.next 8 (by omega);simpa using this,by omega,b5,λa ha=>(s5 a ha).trans ((s4 a ha).trans ((s3 a ha).trans ((s2 a ha).trans (hs a ha))))⟩
end
theorem AYv{G:AV}{H:Heap}{id o m c z:Nat}{LS:D5}(h:DK H id z m o=some LS):El G H (.sl id o m c z) z LS:=by
 refine⟨rfl,?_⟩
 show(Bool.rec (motive:=λ_=>Option D5) none (DK H id z m o) (Nat.beq z z):Option D5)=some LS
 rw[Es];exact h
theorem AXX{G:AV}{H:Heap}{id len x:Nat}(hb:Buf H id len x 0)(hl:len<=23):El G H (.sl id 1 len 23 1) 1 (PE (uV len x)):=by
 obtain⟨t,h1,h2,h3⟩:=hb
 refine AYv (iI _ _ _ (by rw[show(PE (uV len x)).length=(uV len x).length from List.length_map ..,Vl]) λi c hc=>?_)
 have hi:i<len:=by have:=(List.getElem?_eq_some_iff.1 hc).1;rw[show(PE (uV len x)).length=(uV len x).length from List.length_map ..,Vl]at this;exact this
 rw[zf h1 (by omega) (by omega),h3 i (by omega) hi]
 have hd:=AMt len x i hi
 rw[PE,List.getElem?_map,hd]at hc
 cases hc
 show _=some [V.int .u8 (.ofNat (UInt8.ofNat (48+x/10^(len-1-i)%10)).toNat) 0]
 rw[d8 (Nat.mod_lt _ (by decide))]
section
variable{G:AV}{H:Heap}{n:Nat}{k:KV}
theorem ANW{L:LV}{es:D5}{P:KV}(he:es.length=24)(hl:∀v∈es,v.length=1)(h:∀H',Kp H n H' (n+1)->Buf H' n 0 0 0->P (.ptr n 0) H' (n+1)):DY (BD 1 es E0) H n P:=by
 show Ea (len es) (λm=>Ea n λn=>P (.ptr n 0) (T.set H n (.arr 1 m (GH es 0 .e))) (Nat.succ n))
 rw[CO,CO,len_eq,he]
 refine h _ ((Kp.refl H n).new _ (Nat.le_refl _) (by omega)) ⟨_,T.DJ ..,λp hp=>?_,λp _ hp=>by omega⟩
 rw[FY,if_pos ⟨Nat.zero_le _,by omega⟩]
 exact⟨_,List.getElem?_eq_getElem (by omega)⟩
theorem AZD{x:Nat}(hG:kM G)(h:x<9223372036854775808)(hk:∀H' n',Kp H n H' n'->k (sB (Yo x)) H' n'):Runs F G QI [.int .i64 (.ofNat x) 0,.int .i64 (.ofNat 10) 0] H n k:=by
 refine Am (s:=QD (He lfp G)) Ja (by obtain⟨h,o⟩:=YS Ap G;rw[Ja]at h;cases h;exact o) ?_
 show He lfp G (Runs F G) (.int .i64 (.ofNat x) 0) (.int .i64 (.ofNat 10) 0) H n k
 delta He
 rw[Xx,Au,decide_eq_true rfl,Ah,vO,Au,decide_eq_true (Nat.zero_le x)]
 simp only[go_sem,ES]
 cases hd:decide (x<100)with
 |true=>rw[Ah];exact AT1 (of_decide_eq_true hd) (hk _ _ (Kp.refl ..))
 |false=>
  have hd:=of_decide_eq_false hd
  rw[Aq]
  refine ANW (L:=[]) rfl (by simp) λH1 f1 b1=>?_
  refine AB (cvq (q:=.u64) (by show x<18446744073709551616;omega)) ?_
  rw[decide_eq_false (by omega),Aq]
  delta FZ
  refine AJk hG (by omega) h ?_
  have hn:=(AAL 20 x (yw 20 x) (by omega) (bF ..)).1 rfl
  have h19:yw 20 x<=19:=by
   have h3:=(AAL 20 x (yw 20 x) (by omega) (bF ..)).1 rfl
   rcases h3.2 with h4|h4
   ·omega
   ·by_cases h5:yw 20 x<=19
    ·exact h5
    ·exfalso
     have:10^19<=10^(yw 20 x-1):=Nat.pow_le_pow_right (by decide) (by omega)
     omega
  have hdec:Yo x=uV (yw 20 x) x:=rfl
  have hp1:=bF 20 x
  generalize yw 20 x=len at hn h19 hdec hp1
  have hb:Buf H1 n len x len:=by
   obtain⟨t,a1,a2,_⟩:=b1
   exact⟨t,a1,a2,λp h1 h2=>by omega⟩
  refine AB (Ef (by omega)) (AB (AMh (by omega) (by omega)) ?_)
  rw[show 1+len-1=len by omega]
  refine AQ5 (by omega) hn.1 h hb λH2 b2 s2=>?_
  rw[ES,Au,decide_eq_false (by omega),Aq]
  refine AB (Ef (by omega)) (AB (AMh (by omega) (by omega)) ?_)
  rw[show 1+len-1=len by omega]
  refine AB (ALD (AXX b2 (by omega))) ?_
  rw[<-hdec]
  exact hk _ _ ⟨by omega,λid hid=>(s2 id (by omega)).trans (f1.same id hid)⟩
end
theorem AJl:∀(l:Bs) (a:Nat) (c:UInt8),iP a (l++[c])=(iP a l).bind λm=>iP m [c]
 |[],a,c=>rfl
 |d::l,a,c=>by
  show(bif decide (288230376151711744<a*10+(d.toNat-48))then none else iP (a*10+(d.toNat-48)) (l++[c]))=(bif decide (288230376151711744<a*10+(d.toNat-48))then none else iP (a*10+(d.toNat-48)) l).bind _
  cases decide (288230376151711744<a*10+(d.toNat-48))with
  |true=>rfl
  |false=>exact AJl l _ c
theorem AFj:∀(l x:Nat),x<10^l->x<=288230376151711744->iP 0 (uV l x)=some x
 |0,x,h,_=>by have:x=0:=by simpa using h
              subst this;rfl
 |l+1,x,h,h2=>by
  have hdiv:x/10<10^l:=by rw[Nat.div_lt_iff_lt_mul (by decide),<-Nat.pow_succ];exact h
  unfold uV
  rw[AJl,AFj l (x/10) hdiv (by omega)]
  show(bif decide (288230376151711744<x/10*10+((UInt8.ofNat (48+x%10)).toNat-48))then none else some (x/10*10+((UInt8.ofNat (48+x%10)).toNat-48)))=_
  rw[d8 (Nat.mod_lt _ (by decide)),show x/10*10+(48+x%10-48)=x by omega,decide_eq_false (by omega)];rfl
theorem AIH{x:Nat}(h:x<=288230376151711744):iP 0 (Yo x)=some x:=AFj _ _ ((AAL 20 x (yw 20 x) (by omega) (bF ..)).1 rfl).1 h
theorem jX:∀(l x:Nat),∀c∈uV l x,digit c=true
 |0,_,c,h=>by cases h
 |l+1,x,c,h=>by
  unfold uV at h
  rcases List.mem_append.1 h with h|h
  ·exact jX l _ c h
  ·rw[List.mem_singleton.1 h];unfold digit;rw[d8 (Nat.mod_lt _ (by decide))];simp;omega
theorem AKG(x:Nat):Yo x≠[]:=λh=>by
 have:=congrArg List.length h
 unfold Yo at this;rw[Vl]at this
 have:=bF 20 x
 simp at*;omega
end Go.PQ
