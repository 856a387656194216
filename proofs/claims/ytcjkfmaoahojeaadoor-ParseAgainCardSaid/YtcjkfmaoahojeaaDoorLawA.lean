/- Part of a proof; nothing is assumed. -/
import Derived.Test.YtcjkfmaoahojeaaDoorConA
import Derived.Test.YtcjkfmaoahojeaaDoorConB
import Derived.Test.YtcjkfmaoahojeaaDoorWalk
set_option linter.unusedVariables false
set_option linter.unusedSimpArgs false
namespace Go.PQ
open Go.Eng
set_option maxRecDepth 100000
def AEB:Bs->Bs->Bool
 |[],_=>true
 |_::_,[]=>false
 |a::p,c::l=>decide (a=c)&&AEB p l
theorem AMU:∀p l:Bs,pre p l=AEB p l
 |[],l=>by simp[pre,AEB]
 |a::p,[]=>by simp[pre,AEB]
 |a::p,c::l=>by
  rw[show AEB (a::p) (c::l)=(decide (a=c)&&AEB p l)from rfl,<-AMU p l,Bool.eq_iff_iff]
  simp only[pre,List.length_cons,List.take_succ_cons,Bool.and_eq_true,decide_eq_true_eq,List.cons.injEq]
  constructor
  ·rintro⟨h,e,h2⟩;exact⟨e.symm,by omega,h2⟩
  ·rintro⟨e,h,h2⟩;exact⟨by omega,e.symm,h2⟩
def Ze(m:Bs)(c:UInt8):Bool:= !((decide (m=Di)||(decide (m=IV)||decide (m=UW)))&&decide (c=61))&& !(decide (m=Tq)&&decide (c=47))
def Stop(p:UInt8->Bool)(r:Bs):Prop:=∀c l,r=c::l->p c=false
def ALr(m r:Bs):Prop:=EX.find? (λx=>pre x (m++r))=some m/\pre [47,47] (m++r)=false
theorem AJd{m r:Bs}(hm:m∈EX)(h:Stop (λc=> !Ze m c) r):ALr m r:=by
 unfold ALr
 simp only[AMU]
 unfold EX at hm
 cases r with
 |nil=>
  simp only[List.append_nil]
  clear h
  revert m
  decide
 |cons c r=>
  have h:Ze m c=true:=by have:=h c r rfl;simpa using this
  simp only[List.mem_cons,List.not_mem_nil,or_false]at hm
  rcases hm with rfl|rfl|rfl|rfl|rfl|rfl|rfl|rfl|rfl|rfl|rfl|rfl|rfl|rfl|rfl|rfl|rfl|rfl|rfl|rfl|rfl|rfl<;>simp[EX,List.find?,AEB,Ze,WX,gB,fM,L9,W9,cO,Dq,X8,Tq,tu,UW,Di,IV,Au,BD,Fe,FV,MG,m_rc,Aq,CY,DJ]at h⊢ <;>simp[Ne.symm h]
structure ADn(p:UInt8->Bool)(l:Bs):Prop where
 hd:∃c t,l=c::t/\p c=true
 all:∀x∈l,inner x=true
 len:l.length<=40
inductive Wf:Tok->Prop
 |word {l:Bs} (h:l∈Nv):Wf ⟨1,l,0⟩
 |upper {l:Bs} (h:ADn great l):Wf ⟨2,l,0⟩
 |lower {l:Bs} (h:ADn small l) (hw:l∉Nv):Wf ⟨3,l,0⟩
 |num {l:Bs} {n:Nat} (h0:l≠[]) (h:∀x∈l,digit x=true) (hn:WT 0 l=some n):Wf ⟨4,l,n⟩
 |mark {l:Bs} (h:l∈EX):Wf ⟨5,l,0⟩
def MO(t:Tok)(c:UInt8):Bool:=bif decide (t.kind=5)then Ze t.text c else bif decide (t.kind=4)then !digit c else !inner c
def Sep(t:Tok)(r:Bs):Prop:=Stop (λc=> !MO t c) r
theorem Q8{p:UInt8->Bool}:∀{l r:Bs},(∀x∈l,p x=true)->Stop p r->(l++r).takeWhile p=l
 |[],r,_,h=>by
  cases r with
  |nil=>rfl
  |cons c r=>have:=h c r rfl;simp[this]
 |c::l,r,ha,h=>by
  have hc:=ha c (List.mem_cons_self ..)
  rw[List.cons_append,List.takeWhile_cons,hc]
  simp only[if_true]
  rw[Q8 (λx hx=>ha x (List.mem_cons_of_mem _ hx)) h]
theorem AAe:∀l∈Nv,ADn small l:=by
 have h:(Nv.all λl=>(match l with|[]=>false|c::_=>small c)&&l.all inner&&decide (l.length<=40))=true:=by decide
 intro l hl
 have:=List.all_eq_true.1 h l hl
 simp only[Bool.and_eq_true,decide_eq_true_eq]at this
 obtain⟨⟨h1,h2⟩,h3⟩:=this
 refine⟨?_,List.all_eq_true.1 h2,h3⟩
 cases l with
 |nil=>cases h1
 |cons c t=>exact⟨c,t,rfl,h1⟩
theorem gQ{c:UInt8}(h:small c=true):great c=false:=by
 simp only[small,great,Bool.and_eq_true,decide_eq_true_eq,Bool.and_eq_false_iff,decide_eq_false_iff_not]at*;omega
theorem ACy{c:UInt8}(h:digit c=true):great c=false/\small c=false:=by
 simp only[small,great,digit,Bool.and_eq_true,decide_eq_true_eq,Bool.and_eq_false_iff,decide_eq_false_iff_not]at*;omega
theorem WW{c:UInt8}(h:inner c=true):blank c=false/\c≠47:=by
 have e:(47:UInt8).toNat=47:=rfl
 refine⟨?_,λhc=>?_⟩
 ·simp only[inner,small,great,digit,blank,Bool.or_eq_true,Bool.and_eq_true,decide_eq_true_eq,Bool.or_eq_false_iff,decide_eq_false_iff_not]at*;omega
 ·subst hc;simp only[inner,small,great,digit,e,Bool.or_eq_true,Bool.and_eq_true,decide_eq_true_eq]at h;omega
theorem Yj{c:UInt8}(h:digit c=true):inner c=true:=by simp[inner,h]
theorem AGe{c:UInt8}(h:great c=true):inner c=true:=by simp[inner,h]
theorem yc{c:UInt8}(h:small c=true):inner c=true:=by simp[inner,h]
theorem AA4:∀m∈EX,∃c t,m=c::t/\inner c=false/\blank c=false:=by
 have h:(EX.all λl=>(match l with|[]=>false|c::_=> !inner c&& !blank c))=true:=by decide
 intro l hl
 have:=List.all_eq_true.1 h l hl
 cases l with
 |nil=>cases this
 |cons c t=>exact⟨c,t,rfl,by simpa using this⟩
theorem sH(c:UInt8)(l:Bs):Gz (c::l)=(bif great c then XC ⟨2,(c::l).takeWhile inner,0⟩else
 bif small c then XC ⟨bif decide ((c::l).takeWhile inner∈Nv)then 1 else 3,(c::l).takeWhile inner,0⟩else
 bif digit c then(match WT 0 ((c::l).takeWhile digit)with|none=>(22,TN)|some n=>(0,⟨4,(c::l).takeWhile digit,n⟩))else
 match EX.find? (λm=>pre m (c::l))with|none=>(20,TN)|some m=>(0,⟨5,m,0⟩)):=rfl
theorem AHM{t:Tok}(h:t.text.length<=40):XC t=(0,t):=by
 unfold XC;rw[decide_eq_false (by omega)];rfl
theorem AOc{t:Tok}{r:Bs}(hw:Wf t)(hs:Sep t r):Gz (t.text++r)=(0,t):=by
 cases hw with
 |word h=>
  rename_i l
  have hn:=AAe l h
  obtain⟨c,q,rfl,hc⟩:=hn.hd
  have hsep:Stop inner r:=λa b e=>by have:=hs a b e;simpa[MO]using this
  have tw:=Q8 hn.all hsep
  show Gz (c::(q++r))=_
  rw[sH,gQ hc,hc,show(c::(q++r))=(c::q)++r from rfl,tw,decide_eq_true h]
  exact AHM hn.len
 |upper hn=>
  rename_i l
  obtain⟨c,q,rfl,hc⟩:=hn.hd
  have hsep:Stop inner r:=λa b e=>by have:=hs a b e;simpa[MO]using this
  have tw:=Q8 hn.all hsep
  show Gz (c::(q++r))=_
  rw[sH,hc,show(c::(q++r))=(c::q)++r from rfl,tw]
  exact AHM hn.len
 |lower hn hw=>
  rename_i l
  obtain⟨c,q,rfl,hc⟩:=hn.hd
  have hsep:Stop inner r:=λa b e=>by have:=hs a b e;simpa[MO]using this
  have tw:=Q8 hn.all hsep
  show Gz (c::(q++r))=_
  rw[sH,gQ hc,hc,show(c::(q++r))=(c::q)++r from rfl,tw,decide_eq_false hw]
  exact AHM hn.len
 |num h0 h hn=>
  rename_i l n
  cases l with
  |nil=>exact absurd rfl h0
  |cons c q=>
   have hc:=h c (List.mem_cons_self ..)
   have hsep:Stop digit r:=λa b e=>by have:=hs a b e;simpa[MO]using this
   have tw:=Q8 h hsep
   show Gz (c::(q++r))=_
   rw[sH,(ACy hc).1,(ACy hc).2,hc,show(c::(q++r))=(c::q)++r from rfl,tw,hn]
   rfl
 |mark h=>
  rename_i l
  have hsep:Stop (λc=> !Ze l c) r:=λa b e=>by have:=hs a b e;simpa[MO]using this
  have hm:=(AJd h hsep).1
  obtain⟨c,q,rfl,hc,_⟩:=AA4 l h
  simp only[inner,Bool.or_eq_false_iff]at hc
  show Gz (c::(q++r))=_
  rw[sH,hc.1,hc.2.1,hc.2.2.1,show(c::(q++r))=(c::q)++r from rfl,hm]
  rfl
theorem AD9(c:UInt8)(t:Bs):DV false (c::t)=bif blank c then DV false t else bif pre [47,47] (c::t)then DV true t else c::t:=rfl
theorem AQG{t:Tok}{r:Bs}(hw:Wf t)(hs:Sep t r):DV false (t.text++r)=t.text++r:=by
 have key:∀{c:UInt8} {q:Bs},t.text=c::q->inner c=true->DV false (t.text++r)=t.text++r:=by
  intro c q e hc
  rw[e,List.cons_append,AD9,(WW hc).1,AMU]
  rw[show AEB [47,47] (c::(q++r))=(decide (47=c)&&AEB [47] (q++r))from rfl,decide_eq_false (λh=>(WW hc).2 h.symm)]
  rfl
 cases hw with
 |word h=>obtain⟨c,q,e,hc⟩:=(AAe _ h).hd;exact key e (yc hc)
 |upper hn=>obtain⟨c,q,e,hc⟩:=hn.hd;exact key e (AGe hc)
 |lower hn hw=>obtain⟨c,q,e,hc⟩:=hn.hd;exact key e (yc hc)
 |num h0 h hn=>
  rename_i l n
  cases l with
  |nil=>exact absurd rfl h0
  |cons c q=>exact key (c:=c) (q:=q) rfl (Yj (h c (List.mem_cons_self ..)))
 |mark h=>
  rename_i l
  have hsep:Stop (λc=> !Ze l c) r:=λa b e=>by have:=hs a b e;simpa[MO]using this
  have hm:=(AJd h hsep).2
  obtain⟨c,q,rfl,hc,hb⟩:=AA4 l h
  show DV false (c::(q++r))=_
  rw[AD9,hb,show(c::(q++r))=(c::q)++r from rfl,hm]
  rfl
def Gap(g:Bs):Prop:=∀r,DV false (g++r)=DV false r
theorem AJK:Gap []:=λ_=>rfl
theorem AOk{a b:Bs}(ha:Gap a)(hb:Gap b):Gap (a++b):=λr=>by rw[List.append_assoc,ha,hb]
theorem wE{c:UInt8}(h:blank c=true):Gap [c]:=λr=>by rw[List.singleton_append,AD9,h];rfl
theorem AAg:∀{l:Bs},(∀c∈l,blank c=true)->Gap l
 |[],_=>AJK
 |c::_,h=>AOk (a:=[c]) (wE (h c (List.mem_cons_self ..))) (AAg λx hx=>h x (List.mem_cons_of_mem _ hx))
def Dj(s:Bs)(ts:List Tok):Prop:=∀f,s.length<f->WB f s=(0,ts)
theorem ABn(f:Nat)(r:Bs):WB (f+1) r=bif decide ((Gz (DV false r)).1=0)then
 bif decide ((Gz (DV false r)).2.kind=0)then(0,[(Gz (DV false r)).2])
 else((WB f ((DV false r).drop (Gz (DV false r)).2.text.length)).1,(Gz (DV false r)).2::(WB f ((DV false r).drop (Gz (DV false r)).2.text.length)).2)
 else((Gz (DV false r)).1,[]):=rfl
theorem AQA{g:Bs}(hg:Gap g):Dj g [TN]:=λf h=>by
 cases f with
 |zero=>omega
 |succ f=>
  have e:DV false g=[]:=by have:=hg [];rw[List.append_nil]at this;exact this
  rw[ABn,e];rfl
theorem Wf.kd{t:Tok}(h:Wf t):t.kind≠0:=by cases h<;>simp
theorem Wf.ne{t:Tok}(h:Wf t):0<t.text.length:=by
 cases h with
 |word h=>obtain⟨c,q,e,hc⟩:=(AAe _ h).hd;rw[e];simp
 |upper hn=>obtain⟨c,q,e,hc⟩:=hn.hd;rw[e];simp
 |lower hn hw=>obtain⟨c,q,e,hc⟩:=hn.hd;rw[e];simp
 |num h0 h hn=>rename_i l n;cases l with
  |nil=>exact absurd rfl h0
  |cons c q=>simp
 |mark h=>obtain⟨c,q,e,hc⟩:=AA4 _ h;rw[e];simp
theorem AQu{g:Bs}{t:Tok}{r:Bs}{ts:List Tok}(hg:Gap g)(hw:Wf t)(hs:Sep t r)(h:Dj r ts):Dj (g++(t.text++r)) (t::ts):=λf hf=>by
 have hl:=hw.ne
 simp only[List.length_append]at hf
 cases f with
 |zero=>omega
 |succ f=>
  rw[ABn,hg,AQG hw hs,AOc hw hs]
  show(bif true then bif decide (t.kind=0)then(0,[t])else((WB f ((t.text++r).drop t.text.length)).1,t::(WB f ((t.text++r).drop t.text.length)).2)else(0,[]))=_
  rw[decide_eq_false hw.kd,List.drop_left,h f (by omega)]
  rfl
theorem AQg{s:Bs}{ts:List Tok}(h:Dj s ts)(hs:s.length<=65536):zN s=(0,ts):=by
 unfold zN;rw[decide_eq_false (by omega)];exact h _ (by omega)
def free(c:UInt8):Bool:= !inner c&& !decide (c=61)&& !decide (c=47)
theorem AHc{t:Tok}{c:UInt8}(h:free c=true):MO t c=true:=by
 simp only[free,Bool.and_eq_true,Bool.not_eq_true',decide_eq_false_iff_not]at h
 have hd:digit c=false:=by cases hd:digit c with
  |false=>rfl
  |true=>rw[Yj hd]at h;simp at h
 unfold MO Ze
 rw[h.1.1,hd,decide_eq_false h.1.2,decide_eq_false h.2]
 cases decide (t.kind=5)<;>cases decide (t.kind=4)<;>simp
theorem AF7{t:Tok}{c:UInt8}(ht:t.kind=5)(h:inner c=true):MO t c=true:=by
 have h1:c≠61:=λe=>by subst e;revert h;decide
 have h2:=(WW h).2
 unfold MO Ze
 rw[ht,decide_eq_false h1,decide_eq_false h2];simp
theorem AGR{t:Tok}{c:UInt8}(ht:t.kind≠5)(h:inner c=false):MO t c=true:=by
 have hd:digit c=false:=by cases hd:digit c with
  |false=>rfl
  |true=>rw[Yj hd]at h;cases h
 unfold MO
 rw[decide_eq_false ht,h,hd];cases decide (t.kind=4)<;>rfl
def ALc(t:Tok):Bs->Bool
 |[]=>true
 |c::_=>MO t c
theorem ATI{t:Tok}{r:Bs}(h:ALc t r=true):Sep t r:=λc l e=>by subst e;simpa[ALc]using h
def W(l:Bs):Tok:=⟨1,l,0⟩
def U(l:Bs):Tok:=⟨2,l,0⟩
def L(l:Bs):Tok:=⟨3,l,0⟩
def N(l:Bs)(n:Nat):Tok:=⟨4,l,n⟩
def M(l:Bs):Tok:=⟨5,l,0⟩
section
variable{t u:Tok}{r:List Tok}{d:Nat}
theorem ALd{w:Bs}{l:Bs}:Qy w ⟨M l,r,d,0⟩=decide (l=w):=rfl
theorem AN3{w:Bs}{l:Bs}:Qy w ⟨W l,r,d,0⟩=decide (l=w):=rfl
theorem NI{w:Bs}{s:S}(h:s.e≠0):Qy w s=false:=by simp[Qy,S.ok,h]
theorem tY(h:t.kind≠0):Hu ⟨t,u::r,d,0⟩=some ⟨u,r,d,0⟩:=by simp[Hu,h]
theorem AGn{w:Bs}(h:Qy w ⟨t,u::r,d,0⟩=true)(hk:t.kind≠0):BZ w ⟨t,u::r,d,0⟩=some (true,⟨u,r,d,0⟩):=by unfold BZ;rw[h,tY hk];rfl
theorem Rw{w:Bs}{s:S}(h:Qy w s=false):BZ w s=some (false,s):=by unfold BZ;rw[h];rfl
theorem AKl{l:Bs}:BZ l ⟨M l,u::r,d,0⟩=some (true,⟨u,r,d,0⟩):=AGn (by rw[ALd];simp) (by simp[M])
theorem xI{l:Bs}:BZ l ⟨W l,u::r,d,0⟩=some (true,⟨u,r,d,0⟩):=AGn (by rw[AN3];simp) (by simp[W])
theorem ABJ{w:Bs}{s:S}{s':S}(h:BZ w s=some (true,s')):BM [w] s=some s':=by unfold BM;rw[h];rfl
theorem QY{l:Bs}:BM [l] ⟨M l,u::r,d,0⟩=some ⟨u,r,d,0⟩:=ABJ AKl
theorem ADA{l:Bs}:BM [l] ⟨W l,u::r,d,0⟩=some ⟨u,r,d,0⟩:=ABJ xI
theorem dW{ws:List Bs}{s:S}(h:∀w∈ws,Qy w s=false):Hq ws s=false:=by
 unfold Hq;rw[Bool.eq_false_iff];intro hc
 obtain⟨w,hw,h2⟩:=List.any_eq_true.1 hc
 rw[h w hw]at h2;cases h2
theorem AAA(h:d<100):LD ⟨t,r,d,0⟩=some ⟨t,r,d+1,0⟩:=by
 unfold LD;simp only
 rw[decide_eq_true (show d<1000000 by omega),decide_eq_false (show ¬100<d+1 by omega)];rfl
theorem ANk(h:d<1000000):VB ⟨t,r,d+1,0⟩=some ⟨t,r,d,0⟩:=by
 unfold VB;simp only[h,decide_true,cond_true]
end
def opsL:List Bs:=[W9,L9,WX,gB,UW,fM,cO,Dq,X8,Tq,tu,RP,OC]
def AF2:List Bs:=[Fe,DJ]
def WY(s:S):Prop:=∀w∈opsL,Qy w s=false
def ADk(s:S):Prop:=∀w∈AF2,Qy w s=false
theorem WY.of{s:S}(h:WY s)(ws:List Bs)(hs:∀w∈ws,w∈opsL):Hq ws s=false:=dW λw hw=>h w (hs w hw)
theorem ATg{f:Nat}{e:Ex}{s:S}(h:WY s):asL (f+1) e s=some (e,s):=by
 show(bif Hq [RP,OC] s then _ else some (e,s))=_
 rw[h.of _ (by decide)];rfl
theorem ACn{ws:List Bs}{nx:PM Ex}{f:Nat}{e:Ex}{s:S}(h:WY s)(hs:∀w∈ws,w∈opsL):Xz ws nx (f+1) e s=some (e,s):=by
 show(bif Hq ws s then _ else some (e,s))=_
 rw[h.of _ hs];rfl
theorem ABp{k:Nat}{w:Bs}{nx:PM Ex}{f:Nat}{e:Ex}{s:S}(h:WY s)(hs:w∈opsL):UK k w nx (f+1) e s=some (e,s):=by
 show(bif Hq [w] s then _ else some (e,s))=_
 rw[h.of _ (λx hx=>by rw[List.mem_singleton.1 hx];exact hs)];rfl
theorem AKn{un:PM Ex}{f:Nat}{s s':S}{e:Ex}(h:un s=some (e,s'))(hn:WY s'):signs [X8,Tq,tu] un (f+1) s=some (e,s'):=by
 unfold signs;rw[h];exact ACn hn (by decide)
theorem AL0{un:PM Ex}{f:Nat}{s s':S}{e:Ex}(h:un s=some (e,s'))(hn:WY s'):sumP un (f+1) s=some (e,s'):=by
 unfold sumP;rw[signs,AKn h hn];exact ACn hn (by decide)
theorem AOI{un:PM Ex}{f:Nat}{s s':S}{e:Ex}(h:un s=some (e,s'))(hn:WY s'):compared un (f+1) s=some (e,s'):=by
 unfold compared;rw[AL0 h hn]
 show(bif Hq [WX,gB,UW,fM] s' then _ else some (e,s'))=_
 rw[hn.of _ (by decide)];rfl
theorem AMK{un:PM Ex}{f:Nat}{s s':S}{e:Ex}(h:un s=some (e,s'))(hn:WY s'):either 17 L9 (compared un (f+1)) (f+1) s=some (e,s'):=by
 unfold either;rw[AOI h hn];exact ABp hn (by decide)
theorem AP3{un:PM Ex}{f:Nat}{s s':S}{e:Ex}(h:un s=some (e,s'))(hn:WY s'):either 18 W9 (either 17 L9 (compared un (f+1)) (f+1)) (f+1) s=some (e,s'):=by
 unfold either;rw[<-either,AMK h hn];exact ABp hn (by decide)
theorem ACU{f:Nat}{s s1 s2 s3:S}{e:Ex}(hd:LD s=some s1)(h:unary (expr (f+1)) (f+1) s1=some (e,s2))(hn:WY s2)(hu:VB s2=some s3):expr (f+2) s=some (e,s3):=by
 show AC4 (expr (f+1)) (f+1) s=_
 unfold AC4;rw[hd]
 show((either 18 W9 (either 17 L9 (compared (unary (expr (f+1)) (f+1)) (f+1)) (f+1)) (f+1) s1).bind λp=>(VB p.2).bind λs'=>some (p.1,s'))=_
 rw[AP3 h hn]
 show((VB s2).bind λs'=>some (e,s'))=_
 rw[hu];rfl
theorem Yq{rec:PM Ex}{f:Nat}{s s':S}{e:Ex}(h1:Qy Dq s=false)(h2:Qy IV s=false)(h:SV rec (f+1) s=some (e,s'))(hn:WY s'):unary rec (f+2) s=some (e,s'):=by
 show(bif Hq [Dq] s then _ else bif Hq [IV] s then _ else(SV rec (f+1) s).bind λp=>asL (f+1) p.1 p.2)=_
 rw[dW (ws:=[Dq]) λw hw=>by rw[List.mem_singleton.1 hw];exact h1,dW (ws:=[IV]) λw hw=>by rw[List.mem_singleton.1 hw];exact h2,h]
 exact ATg hn
theorem aH{rec:PM Ex}{f:Nat}{e:Ex}{s:S}(h:ADk s):Jo rec (f+1) e s=some (e,s):=by
 show((BZ Fe s).bind λp=>bif p.1 then _ else(BZ DJ p.2).bind λp=>bif p.1 then _ else some (e,p.2))=_
 rw[Rw (h Fe (by decide))]
 show((BZ DJ s).bind λp=>bif p.1 then _ else some (e,p.2))=_
 rw[Rw (h DJ (by decide))];rfl
theorem dI{rec:PM Ex}{f:Nat}{s s':S}{e:Ex}(h:Qc rec (f+1) s=some (e,s'))(hn:ADk s'):SV rec (f+1) s=some (e,s'):=by
 unfold SV;rw[h];exact aH hn
section
variable{rec:PM Ex}{f d:Nat}{u:Tok}{r:List Tok}
theorem ANn{l:Bs}{n:Nat}:Qc rec f ⟨N l n,u::r,d,0⟩=some (.mk 1 n [] [] false [],⟨u,r,d,0⟩):=rfl
theorem AH7{l:Bs}:Qc rec f ⟨L l,u::r,d,0⟩=some (.mk 6 0 l [] false [],⟨u,r,d,0⟩):=rfl
theorem AJy:Qc rec f ⟨W Wv,u::r,d,0⟩=some (.mk 2 0 [] [] false [],⟨u,r,d,0⟩):=rfl
theorem AID:Qc rec f ⟨W Rk,u::r,d,0⟩=some (.mk 3 0 [] [] false [],⟨u,r,d,0⟩):=rfl
theorem AJq:Qc rec f ⟨W Qp,u::r,d,0⟩=some (.mk 4 0 [] [] false [],⟨u,r,d,0⟩):=rfl
theorem AJ5:Qc rec f ⟨W XB,u::r,d,0⟩=some (.mk 5 0 [] [] false [],⟨u,r,d,0⟩):=rfl
theorem AO6{e:Ex}{v:Tok}{q:List Tok}{d':Nat}(h:rec ⟨u,r,d,0⟩=some (e,⟨M BD,v::q,d',0⟩)):Qc rec f ⟨M Au,u::r,d,0⟩=some (e,⟨v,q,d',0⟩):=by
 show((rec ⟨u,r,d,0⟩).bind λx=>(BM [BD] x.2).bind λs1=>some (x.1,s1))=_
 rw[h]
 show((BM [BD] ⟨M BD,v::q,d',0⟩).bind λs1=>some (e,s1))=_
 rw[QY];rfl
theorem sV{s:S}(h:s.e≠0):Qc rec f s=some (.mk 0 0 [] [] false [],s):=by
 unfold Qc;rw[show s.ok=false by simp[S.ok,h]];rfl
end
section
variable{s:S}(h:s.e≠0)
include h
theorem U4:s.ok=false:=by simp[S.ok,h]
theorem PS{e:Nat}:EJ e s=s:=by unfold EJ;rw[U4 h];rfl
theorem Td{ws:List Bs}:Hq ws s=false:=dW λ_ _=>NI h
theorem WL{w:Bs}:BZ w s=some (false,s):=Rw (NI h)
theorem UM:∀{ws:List Bs},BM ws s=some s
 |[]=>rfl
 |w::ws=>by
  show((BZ w s).bind λp=>BM ws (bif p.1 then p.2 else EJ 21 p.2))=_
  rw[WL h]
  show BM ws (EJ 21 s)=_
  rw[PS h,UM]
theorem AF4{k:Nat}:Eo k s=some ([],s):=by unfold Eo;rw[U4 h,PS h];rfl
theorem ABZ(hd:s.deep<1000000):LD s=some {s with deep:=s.deep+1}:=by
 unfold LD;rw[decide_eq_true hd,PS (s:={s with deep:=s.deep+1}) h,Bool.cond_self];rfl
theorem tJ{f:Nat}(hd:s.deep<1000000):expr (f+4) s=some (.mk 0 0 [] [] false [],s):=by
 refine ACU (f:=f+2) (s1:={s with deep:=s.deep+1}) (s2:={s with deep:=s.deep+1}) (ABZ h hd) ?_ (λw _=>NI h) ?_
 ·exact Yq (NI h) (NI h) (dI (sV h) λw _=>NI h) λw _=>NI h
 ·unfold VB;simp only[hd,decide_true,cond_true]
theorem AJO{st:St}:endP st s=some (st,s):=by unfold endP;rw[UM h];rfl
end
def S.of(l:List Tok)(d:Nat):S:=match l with|[]=>⟨TN,[],d,0⟩|t::r=>⟨t,r,d,0⟩
theorem vF{t:Tok}{r:List Tok}:LD ⟨t,r,100,0⟩=some ⟨t,r,101,3⟩:=rfl
theorem vV{t:Tok}{r:List Tok}{d e:Nat}(h:d<1000000):VB ⟨t,r,d+1,e⟩=some ⟨t,r,d,e⟩:=by
 unfold VB;simp only[h,decide_true,cond_true]
theorem AOE{t:Tok}{r:List Tok}{f:Nat}:expr (f+4) ⟨t,r,100,0⟩=some (.mk 0 0 [] [] false [],⟨t,r,100,3⟩):=by
 have h:(⟨t,r,101,3⟩:S).e≠0:=show(3:Nat)≠0 by decide
 refine ACU (f:=f+2) (s1:=⟨t,r,101,3⟩) (s2:=⟨t,r,101,3⟩) vF ?_ (λw _=>NI h) (vV (by decide))
 exact Yq (NI h) (NI h) (dI (sV h) λw _=>NI h) λw _=>NI h
section
variable{st ch:PM St}{f d:Nat}{u:Tok}{r:List Tok}
theorem ALI:TT st ch f ⟨W EZ,u::r,d,0⟩=(expr f ⟨u,r,d,0⟩).bind λx=>endP (.mk 6 [] JE [x.1] [] []) x.2:=rfl
theorem AHU:TT st ch f ⟨W FM,u::r,d,0⟩=(expr f ⟨u,r,d,0⟩).bind λx=>endP (.mk 7 [] JE [x.1] [] []) x.2:=rfl
theorem AIT:TT st ch f ⟨W FK,u::r,d,0⟩=(expr f ⟨u,r,d,0⟩).bind λc=>(EW st f c.2).bind λt=>some (.mk 5 [] JE [c.1] t.1 [],t.2):=rfl
theorem AMf:TT st ch f ⟨W NM,u::r,d,0⟩=(UZ ⟨u,r,d,0⟩).bind λt=>(Eo 3 t.2).bind λn=>(BM [Di] n.2).bind λs1=>(expr f s1).bind λx=>endP (.mk 1 n.1 t.1 [x.1] [] []) x.2:=rfl
theorem AQ4:TT st ch f ⟨W IL,u::r,d,0⟩=ch ⟨W IL,u::r,d,0⟩:=rfl
theorem AHS:sc (f+1) false=TT (sc f false) (sc f true) f:=rfl
theorem AWr:sc (f+1) true=Yn (sc f false) (sc f true) f:=rfl
theorem ASA{a:St}:endP a ⟨M Aq,u::r,d,0⟩=some (a,⟨u,r,d,0⟩):=rfl
theorem AL7{out:List St}:KQ st (f+1) out ⟨M m_rc,u::r,d,0⟩=some (out,⟨u,r,d,0⟩):=rfl
theorem xP{out:List St}{s:S}(h:s.e≠0):KQ st (f+1) out s=some (out,s):=by
 show(bif s.ok then _ else some (out,s))=_
 rw[U4 h];rfl
theorem qA{s:S}(h:s.e≠0)(hd:s.deep<1000000):EW st (f+1) s=some ([],s):=by
 unfold EW
 rw[ABZ h hd]
 show((BM [MG] {s with deep:=s.deep+1}).bind λs2=>(KQ st (f+1) [] s2).bind λp=>(VB p.2).bind λs'=>some (p.1,s'))=_
 rw[UM (s:={s with deep:=s.deep+1}) h]
 show((KQ st (f+1) [] {s with deep:=s.deep+1}).bind λp=>(VB p.2).bind λs'=>some (p.1,s'))=_
 rw[xP (s:={s with deep:=s.deep+1}) h]
 show((VB {s with deep:=s.deep+1}).bind λs'=>some ([],s'))=_
 unfold VB;simp only[hd,decide_true,cond_true];rfl
end
theorem AKi{f g:Nat}{fs:List Va}{ms:List Me}{s:S}(h:s.e≠0):EL f (g+1) fs ms s=some ((fs,ms),s):=by
 show(bif s.ok then _ else some ((fs,ms),s))=_
 rw[U4 h];rfl
def AMY(s:S):S:=bif s.ok&& !decide (s.t.kind=0)then EJ 21 s else s
theorem AJj{s:S}(h:s.e≠0):AMY s=s:=by unfold AMY;rw[U4 h];rfl
theorem Eb{g s:Bs}{ts:List Tok}(hg:Gap g)(h:Dj s ts):Dj (g++s) ts:=λf hf=>by
 rw[List.length_append]at hf
 have:=h f (by omega)
 cases f with
 |zero=>omega
 |succ f=>rw[ABn,hg,<-ABn];exact this
theorem AIy{t:Tok}{r:Bs}{ts:List Tok}(hw:Wf t)(hs:ALc t r=true)(h:Dj r ts):Dj (t.text++r) (t::ts):=AQu AJK hw (ATI hs) h
theorem U8:Gap [32]:=wE (by decide)
def safe(m:Bs):Bool:=decide (m∈EX)&& !(decide (m=Di)||(decide (m=IV)||decide (m=UW)))&& !decide (m=Tq)
theorem Gt{m:Bs}{r:Bs}{ts:List Tok}(hm:safe m=true)(h:Dj r ts):Dj (m++r) (M m::ts):=by
 simp only[safe,Bool.and_eq_true,decide_eq_true_eq,Bool.not_eq_true']at hm
 refine AIy (t:=M m) (.mark hm.1.1) ?_ h
 cases r with
 |nil=>rfl
 |cons c r=>
  show MO (M m) c=true
  show Ze m c=true
  unfold Ze
  rw[hm.1.2,hm.2];rfl
theorem RD{t:Tok}{r:Bs}{ts:List Tok}(hw:Wf t)(h:Dj r ts):Dj (t.text++([32]++r)) (t::ts):=AIy hw (AHc (by decide)) (Eb U8 h)
theorem IJ{l:Bs}(h:decide (l∈Nv)=true):Wf (W l):=.word (of_decide_eq_true h)
def nameB(p:UInt8->Bool)(l:Bs):Bool:=(match l with|[]=>false|c::_=>p c)&&l.all inner&&decide (l.length<=40)
theorem uq{p:UInt8->Bool}{l:Bs}(h:nameB p l=true):ADn p l:=by
 simp only[nameB,Bool.and_eq_true,decide_eq_true_eq]at h
 refine⟨?_,List.all_eq_true.1 h.1.2,h.2⟩
 cases l with
 |nil=>exact absurd h.1.1 (by simp)
 |cons c t=>exact⟨c,t,rfl,h.1.1⟩
theorem AGA{l:Bs}(h:nameB great l=true):Wf (U l):=.upper (uq h)
theorem AMn{l:Bs}(h:(nameB small l&& !decide (l∈Nv))=true):Wf (L l):=by
 simp only[Bool.and_eq_true,Bool.not_eq_true']at h
 exact .lower (uq h.1) (of_decide_eq_false h.2)
def ARi:Bs:=[99,108,97,115,115,32,65,32,123,32,109,101,116,104,111,100,32,105,110,116,32,109,40,41,32,123,32,114,101,116,117,114,110,32]
def ARu:Bs:=[59,32,125,32,125]
def AVW(s:Bs):Bs:=ARi++s++ARu
theorem AWw:V.str 34 961357696037381675649956981681352240005675623347818639615620599312194765693480035=sB ARi:=rfl
theorem AWF:V.str 5 537415983163=sB ARu:=rfl
theorem ADL{G:AY}(hS:AHG G){H:Heap}{v:V}{z o i:Nat}{LS:EY}{c:LV}{x:V}(h:El G H v z LS)(hi:LS[i]? =some c)(hc:c.length=z)(ho:c[o]? =some x):
 ∃p q,Bj z v (.int .i64 (.ofNat i) 0)=some p/\AU o p=some q/\AZ q G H=some x:=by
 obtain⟨p,h1,h2⟩:=h.at hi
 obtain⟨q,h3,h4⟩:=AMv hS h2 hc ho
 exact⟨p,q,h1,h3,h4⟩
section
variable{G:AY}{H:Heap}{n:Nat}{s:Bs}{k:KV}
theorem AUM{f:Nat}{cn sup mn snm:Bs}{fs:List Va}{ps:List Va}{sb:Bool}{rt sty:Ty}{d:Nat}{x:Ex}{th el:List St}(hG:Xx G)(hS:AHG G)(hs:s.length<=65000)
 (hm:bD f (AVW s)=some (some ⟨cn,sup,fs,[⟨mn,sb,ps,rt,[.mk d snm sty [x] th el]⟩]⟩,0)) (hk:∀H' n' c,Kp H n H' n'->ER G H' (Rg n n') c x->k (.JL [.agg c,.agg (YX 0 0 0)]) H' n'):Runs F G gV [sB s] H n k:=by
 refine Am (s:=IQ (Rx lfp G)) U6 (by obtain⟨h,o⟩:=xZ Ap G;rw[U6]at h;cases h;exact o) ?_
 show Rx lfp G (Runs F G) (sB s) H n k
 delta Rx
 refine BG rfl λH1 f1 g1=>?_
 refine BG rfl λH2 f2 g2=>?_
 have g1:=f2.get g1 (by omega)
 have f2:=f1.trans f2
 rw[AWw,AWF]
 refine AB (BO (by show 34+_<_;omega)) (AB (BO (by rw[List.length_append];show 34+_+5<_;omega)) ?_)
 refine zZ hG hm λH3 n3 c ft f3 hc hf=>?_
 have g1:=f3.get g1 (by omega)
 have g2:=f3.get g2 (by omega)
 have hn3:=f3.le
 have f3:=f2.trans f3
 have hc:YS G H3 (Rg (n+1+1) n3) c _:=hc.1
 obtain⟨line,col,rfl,hf1,hf2⟩:=hf
 obtain⟨rfl,rfl⟩:=hf2 rfl
 rw[qZ,BA,qo,BA]
 refine BG rfl λH4 f4 g4=>?_
 refine BG rfl λH5 f5 g5=>?_
 have g4:=f5.get g4 (by omega)
 have f45:=f4.trans f5
 have g1:=f45.get g1 (by omega)
 have g2:=f45.get g2 (by omega)
 have f5:=f3.trans f45
 refine DI g4 rfl hc.len (by omega) λH6 g4 t6=>?_
 have g1:=(t6 n (by omega)).trans g1
 have g2:=(t6 (n+1) (by omega)).trans g2
 have g5:=(t6 (n3+1) (by omega)).trans g5
 refine DI (L:=YX 0 0 0) g5 rfl rfl (by omega) λH7 g5 t7=>?_
 have g1:=(t7 n (by omega)).trans g1
 have g2:=(t7 (n+1) (by omega)).trans g2
 have g4:=(t7 n3 (by omega)).trans g4
 have f7:Kp H n H7 (n3+1+1):=⟨by omega,λid hid=>(t7 id (by omega)).trans ((t6 id (by omega)).trans (f5.same id hid))⟩
 have hc:YS G H7 (Rg (n+1+1) n3) c _:=hc.mono (λid h=>h) λid h=>(t7 id (by have:=h.2;omega)).trans ((t6 id (by have:=h.2;omega)).trans (f45.same id h.2))
 refine AB (v:=.ptr (n3+1) 0) (by rw[Aa]) (AB (AQ (off:=0) g5 (v:=.int .i64 (.ofNat 0) 0) rfl) ?_)
 rw[aY,BA,decide_eq_true rfl,Bool.not_true]
 cases hc with
 |mk line col hfs hms=>
  obtain⟨cs,e1,_,_,_,_,m1⟩:=hms
  cases m1 with
  |cons m1 m2=>
  cases m2 with
  |nil=>
  cases m1 with
  |mk l1 c1 hps hbd=>
  obtain⟨cs2,e2,_,_,_,_,m2⟩:=hbd
  cases m2 with
  |cons m2 m3=>
  cases m3 with
  |nil=>
  cases m2 with
  |mk _ _ _ l2 c2 hes ht _ _ _ hl _ _ _=>
  obtain⟨cs3,e3,_,_,_,_,m3⟩:=hes
  cases m3 with
  |cons m3 m4=>
  cases m4 with
  |nil=>
  have q5:AZ (.ptr n3 5) G H7=some _:=AQ g4 rfl
  obtain⟨p1,q1,a1,b1,d1⟩:=ADL hS e1 (i:=0) (o:=7) rfl rfl rfl
  obtain⟨p2,q2,a2,b2,d2⟩:=ADL hS e2 (i:=0) (o:=6) rfl rfl rfl
  obtain⟨p3,a3,b3⟩:=e3.at (i:=0) rfl
  have b3:=Qs b3
  simp only[go_sem,Nat.reduceAdd,Nat.zero_add,q5,e1.len,e2.len,e3.len,a1,b1,d1,a2,b2,d2,a3,b3,aY,List.length_cons,List.length_nil,decide_true,Bool.not_true]
  refine AB (Ah (m:=3) g5 (by omega) rfl) ?_
  refine DI g1 rfl m3.len (by omega) λH8 g1 t8=>?_
  have g2:=(t8 (n+1) (by omega)).trans g2
  have g5:=(t8 (n3+1) (by omega)).trans g5
  refine AB (Ah (m:=3) g5 (by omega) rfl) (Dv (AHg ..) ?_)
  refine DI (L:=YX 0 0 0) g2 rfl rfl (by omega) λH9 g2 t9=>?_
  have g1:=(t9 n (by omega)).trans g1
  rw[ED (m:=11) g1 (by omega) m3.len,ED (m:=3) g2 (by omega) rfl]
  simp only[go_sem]
  exact hk _ _ _ ⟨by omega,λid hid=>(t9 id (by omega)).trans ((t8 id (by omega)).trans (f7.same id hid))⟩
   (m3.mono (λid h=>⟨by have:=h.1;omega,by have:=h.2;omega⟩) λid h=>(t9 id (by have:=h.1;omega)).trans (t8 id (by have:=h.1;omega)))
def hdS:Bs:=[120,32,43,32,49,32,42,32,50]
def hdE:Ex:=.mk 16 0 cO [] false [.mk 6 0 [120] [] false [],.mk 16 0 X8 [] false [.mk 1 1 [] [] false [],.mk 1 2 [] [] false []]]
theorem ALw:bD 20 (AVW hdS)=some (some ⟨[65],[],[],[⟨[109],false,[],⟨Yw,false⟩,[.mk 6 [] JE [hdE] [] []]⟩]⟩,0):=by kernel_rfl
theorem ATo(hG:Xx G)(hS:AHG G)(hk:∀H' n',Kp H n H' n'->k (.bool true) H' n'):Runs F G aJ [] H n k:=by
 refine Am (s:=ar0 (QN lfp G)) Tn (by obtain⟨h,o⟩:=rF Ap G;rw[Tn]at h;cases h;exact o) ?_
 show QN lfp G (Runs F G) H n k
 delta QN
 rw[show V.str 9 924654904039078305912=sB hdS from rfl]
 refine AUM hG hS (by decide) ALw λH1 n1 c f1 hx=>?_
 rw[qZ,BA,qo,BA]
 refine BG rfl λH2 f2 g2=>?_
 refine BG rfl λH3 f3 g3=>?_
 have g2:=f3.get g2 (by omega)
 have f3:=f2.trans f3
 refine DI g2 rfl hx.len (by omega) λH4 g2 t4=>?_
 have g3:=(t4 (n1+1) (by omega)).trans g3
 refine DI (L:=YX 0 0 0) g3 rfl rfl (by omega) λH5 g3 t5=>?_
 have g2:=(t5 n1 (by omega)).trans g2
 have f5:Kp H1 n1 H5 (n1+1+1):=⟨by omega,λid hid=>(t5 id (by omega)).trans ((t4 id (by omega)).trans (f3.same id hid))⟩
 have hx:ER G H5 (Rg n n1) c hdE:=hx.mono (λid h=>h) λid h=>f5.same id h.2
 have f5:=f1.trans f5
 refine AB (Ah (m:=3) g3 (by omega) rfl) (AB AHm ?_)
 rw[show Ez (.agg [.int,.int,.int]) false (.agg (YX 0 0 0)) (.agg (YX 0 0 0))=some (.bool true)from rfl,BA]
 cases hx with
 |mk _ _ _ _ _ l1 c1 he hv ha hc=>
 cases hc with
 |cons h1 hc=>
 cases hc with
 |cons h2 hc=>
 cases hc with
 |nil=>
 cases h1 with
 |mk _ _ _ _ _ l2 c2 he2 _ _ _=>
 cases h2 with
 |mk _ _ _ _ _ l3 c3 he3 _ _ _=>
 have q0:AZ (.ptr n1 0) G H5=some _:=AQ g2 rfl
 have q4:AZ (.ptr n1 4) G H5=some _:=AQ g2 rfl
 have q7:AZ (.ptr n1 7) G H5=some _:=AQ g2 rfl
 obtain⟨p1,q1,a1,b1,d1⟩:=ADL hS he (i:=0) (o:=0) rfl rfl rfl
 obtain⟨p2,q2,a2,b2,d2⟩:=ADL hS he (i:=1) (o:=4) rfl rfl rfl
 simp only[go_sem,Nat.reduceAdd,Nat.zero_add,q0,q4,q7,he.len,a1,b1,d1,a2,b2,d2,VN,AFM,List.length_cons,List.length_nil,decide_true,show V.str 1 43=sB cO from rfl,show V.str 1 42=sB X8 from rfl]
 exact hk _ _ f5
end
def smB:Bs:=(List.range 100).flatMap λk=>[UInt8.ofNat (48+k/10),UInt8.ofNat (48+k%10)]
theorem ASJ:smB.length=200:=by decide
theorem ASZ:((List.range 100).all λk=>decide (smB[2*k]? =some (UInt8.ofNat (48+k/10)))&&decide (smB[2*k+1]? =some (UInt8.ofNat (48+k%10))))=true:=by decide
theorem sm_at{k:Nat}(h:k<100):smB[2*k]? =some (UInt8.ofNat (48+k/10))/\smB[2*k+1]? =some (UInt8.ofNat (48+k%10)):=by
 have:=List.all_eq_true.1 ASZ k (List.mem_range.2 h)
 simpa using this
theorem AEb{l:Bs}{i:Nat}{q:IntKind}{c:UInt8}(h:l[i]? =some c):KP (sB l) (.int q (.ofNat i) 0)=some (.int .u8 (.ofNat c.toNat) 0):=by
 obtain⟨h1,h2⟩:=List.getElem?_eq_some_iff.1 h
 rw[ATP h1,h2]
theorem d8{k:Nat}(h:k<10):(UInt8.ofNat (48+k)).toNat=48+k:=by
 rw[UInt8.toNat_ofNat'];omega
theorem sm_hi{k:Nat}{q:IntKind}(h:k<100):KP (sB smB) (.int q (.ofNat (k*2)) 0)=some (.int .u8 (.ofNat (48+k/10)) 0):=by
 rw[Nat.mul_comm,AEb (sm_at h).1,d8 (by omega)]
theorem sm_lo{k:Nat}{q:IntKind}(h:k<100):KP (sB smB) (.int q (.ofNat (k*2+1)) 0)=some (.int .u8 (.ofNat (48+k%10)) 0):=by
 rw[Nat.mul_comm,AEb (sm_at h).2,d8 (Nat.mod_lt _ (by decide))]
theorem smN:V.str 200 9938655150514779720929161263213647789093395803754561035662628441001274968862597953692946393464194303251501229616933063375291039650253924995779037586872666250072396106842829501851083234932712366962979930255066872747696324303968523733872590022915936937156789320557469720923390131174387415513794469201054844961267015441141542819553679203788501627738430154234325528792480477051962324423099068299719245009424585859096469223093538032153047611602695245052081125123941502624659711709950000=sB smB:=by kernel_rfl
theorem take2{α:Type}{l:List α}{i:Nat}{a b:α}(h1:l[i]? =some a)(h2:l[i+1]? =some b):(l.drop i).take 2=[a,b]:=by
 obtain⟨p1,q1⟩:=List.getElem?_eq_some_iff.1 h1
 obtain⟨p2,q2⟩:=List.getElem?_eq_some_iff.1 h2
 rw[List.drop_eq_getElem_cons p1,q1,List.drop_eq_getElem_cons p2,q2];rfl
section
variable{G:AY}{H:Heap}{n:Nat}{k:KV}
theorem ARw:V.str 36 237927390410950444456928663707796224754864904193074819559483181009558347043374296609072=sB [48,49,50,51,52,53,54,55,56,57,97,98,99,100,101,102,103,104,105,106,107,108,109,110,111,112,113,114,115,116,117,118,119,120,121,122]:=rfl
theorem AVG{x:Nat}(h:x<10):YE x=[UInt8.ofNat (48+x)]:=by
 unfold YE;rw[show xW 20 x=1 by unfold xW;rw[if_pos h]]
 show[]++[UInt8.ofNat (48+x%10)]=_
 rw[Nat.mod_eq_of_lt h];rfl
theorem AUq{x:Nat}(h:10<=x)(h2:x<100):YE x=[UInt8.ofNat (48+x/10),UInt8.ofNat (48+x%10)]:=by
 unfold YE
 rw[show xW 20 x=2 by unfold xW;rw[if_neg (by omega)];unfold xW;rw[if_pos (by omega)]]
 show([]++[UInt8.ofNat (48+x/10%10)])++[UInt8.ofNat (48+x%10)]=_
 rw[Nat.mod_eq_of_lt (show x/10<10 by omega)];rfl
theorem APM{x:Nat}(h:x<100)(hk:k (sB (YE x)) H n):Runs F G RX [.int .i64 (.ofNat x) 0] H n k:=by
 refine Am (s:=IQ (Ii lfp G)) KR (by obtain⟨h,o⟩:=YZ Ap G;rw[KR]at h;cases h;exact o) ?_
 show Ii lfp G (Runs F G) (.int .i64 (.ofNat x) 0) H n k
 delta Ii
 rw[Ht,BA]
 cases hd:decide (x<10)with
 |true=>
  have hd:=of_decide_eq_true hd
  rw[Bq,ARw]
  refine AB (Iz (by omega)) (AB (AMk (by omega) (by show x+1<=36;omega)) ?_)
  rw[AVG hd]at hk
  match x,hd with
  |0,_=>exact hk
  |1,_=>exact hk
  |2,_=>exact hk
  |3,_=>exact hk
  |4,_=>exact hk
  |5,_=>exact hk
  |6,_=>exact hk
  |7,_=>exact hk
  |8,_=>exact hk
  |9,_=>exact hk
 |false=>
  have hd:=of_decide_eq_false hd
  rw[Bg]
  refine AB (AJc (by omega)) (AB (AJc (by omega)) (AB (Iz (by omega)) ?_))
  rw[smN]
  refine AB (AMk (by omega) (by rw[ASJ];omega)) ?_
  rw[show x*2+2-x*2=2 by omega,Nat.mul_comm,take2 (sm_at h).1 (sm_at h).2,<-AUq (by omega) h]
  exact hk
def len8:Bs:=(List.range 256).map λk=>UInt8.ofNat (if k=0 then 0 else Nat.log2 k+1)
theorem AV0:V.str 256 1013866857139168856493015739252390649739422828853819106890363778118420553376247557433637691341895324351018602695588957474325319502760499485336098898398377509666851054660423406800006203933793007272033180812049178612605246075062580585469430410618860250057463399279570354286669047577758927328864388992123306212451509403152394148136105363817402562688186708175358218852349079190158732807302672745370040257219644697201681238697346923541678507645485296520536209706771857694240900605172937619415410180424934769249448772944216470541052485265558808433676546390051204254346932932316488017972311616136051587427851453983453479168=sB len8:=by kernel_rfl
theorem AM1:((List.range 256).all λk=>decide (len8[k]? =some (UInt8.ofNat (if k=0 then 0 else Nat.log2 k+1))))=true:=by decide
def Xr(x:Nat):Nat:=if x=0 then 0 else Nat.log2 x+1
theorem ADu{x s:Nat}(h:2^s<=x):Xr x=s+Xr (x/2^s):=by
 have h0:0<2^s:=Nat.pow_pos (by decide)
 have h1:1<=x/2^s:=by rw[Nat.le_div_iff_mul_le h0];omega
 have hx:x≠0:=by omega
 unfold Xr
 rw[if_neg hx,if_neg (by omega)]
 have e1:x.log2=s+(x/2^s).log2:=by
  have l1:2^(x/2^s).log2<=x/2^s:=Nat.log2_self_le (by omega)
  have l2:x/2^s<2^((x/2^s).log2+1):=Nat.lt_log2_self
  rw[Nat.log2_eq_iff hx]
  constructor
  ·rw[Nat.pow_add,Nat.mul_comm];exact(Nat.le_div_iff_mul_le h0).1 l1
  ·rw[show s+(x/2^s).log2+1=((x/2^s).log2+1)+s by omega,Nat.pow_add];exact(Nat.div_lt_iff_lt_mul h0).1 l2
 omega
theorem AQj{y:Nat}{q:IntKind}(h:y<256):KP (sB len8) (.int q (.ofNat y) 0)=some (.int .u8 (.ofNat (Xr y)) 0):=by
 have:=List.all_eq_true.1 AM1 y (List.mem_range.2 h)
 have h2:len8[y]? =some (UInt8.ofNat (Xr y)):=of_decide_eq_true this
 rw[AEb h2]
 have h3:Xr y<=8:=by
  unfold Xr;split
  ·omega
  ·have:y.log2<8:=(Nat.log2_lt (by omega)).2 (by omega)
   omega
 rw[UInt8.toNat_ofNat',Nat.mod_eq_of_lt (by omega)]
theorem AJE{x s:Nat}(h:x<2^s):Xr x<=s:=by
 unfold Xr;split
 ·omega
 ·rename_i h0;have:=(Nat.log2_lt h0).2 h;omega
theorem APP{x:Nat}(h:x<9223372036854775808)(hk:k (.int .i64 (.ofNat (Xr x)) 0) H n):Runs F G ZB [.int .u64 (.ofNat x) 0] H n k:=by
 refine Am (s:=IQ (Ov lfp G)) SN (by obtain⟨h,o⟩:=qH Ap G;rw[SN]at h;cases h;exact o) ?_
 show Ov lfp G (Runs F G) (.int .u64 (.ofNat x) 0) H n k
 delta Ov
 have j3:∀{y a:Nat},y<256->a<=100->a+Xr y=Xr x->JB lfp G (Runs F G) k (.int .u64 (.ofNat y) 0) (.int .i64 (.ofNat a) 0) H n:=by
  intro y a hy ha he
  delta JB
  have h3:Xr y<=8:=AJE (s:=8) hy
  rw[AV0]
  refine AB (cvq (q:=.u8) hy) (AB (AQj hy) (AB (ARf (by omega)) (AB (Iz (by omega)) ?_)))
  rw[he];exact hk
 have j2:∀{y a:Nat},y<65536->a<=80->a+Xr y=Xr x->I7 lfp G (Runs F G) k (.int .u64 (.ofNat y) 0) (.int .i64 (.ofNat a) 0) H n:=by
  intro y a hy ha he
  delta I7
  rw[Ym,BA]
  cases hd:decide (256<=y)with
  |true=>
   have hd:=of_decide_eq_true hd
   rw[Bq]
   refine AB (AQt (q:=.u64) (by decide)) (AB (Iz (by omega)) ?_)
   have hdv:y/2^8<256:=by rw[Nat.div_lt_iff_lt_mul (by decide)];exact hy
   exact j3 hdv (by omega) (by rw[ADu (s:=8) hd]at he;omega)
  |false=>rw[Bg];exact j3 (by have:=of_decide_eq_false hd;omega) (by omega) he
 have j1:∀{y a:Nat},y<4294967296->a<=50->a+Xr y=Xr x->I5 lfp G (Runs F G) k (.int .u64 (.ofNat y) 0) (.int .i64 (.ofNat a) 0) H n:=by
  intro y a hy ha he
  delta I5
  rw[Ym,BA]
  cases hd:decide (65536<=y)with
  |true=>
   have hd:=of_decide_eq_true hd
   rw[Bq]
   refine AB (AQt (q:=.u64) (by decide)) (AB (Iz (by omega)) ?_)
   have hdv:y/2^16<65536:=by rw[Nat.div_lt_iff_lt_mul (by decide)];exact hy
   exact j2 hdv (by omega) (by rw[ADu (s:=16) hd]at he;omega)
  |false=>rw[Bg];exact j2 (by have:=of_decide_eq_false hd;omega) (by omega) he
 rw[Ym,BA]
 cases hd:decide (4294967296<=x)with
 |true=>
  have hd:=of_decide_eq_true hd
  rw[Bq]
  refine AB (AQt (q:=.u64) (by decide)) ?_
  have hdv:x/2^32<4294967296:=by rw[Nat.div_lt_iff_lt_mul (by decide)];omega
  exact j1 hdv (by omega) (by rw[ADu (s:=32) hd])
 |false=>rw[Bg];exact j1 (by have:=of_decide_eq_false hd;omega) (by omega) (by omega)
end
def dZ(G:AY):Prop:=∀i,i<20->G VL i 1=some [.int .u64 (.ofNat (10^i)) 0]
theorem AWz{b i m:Nat}{q:IntKind}(h:i<m):ADX m 1 (.VG b 0) (.int q (.ofNat i) 0)=some (.VG b i):=by
 show BJ (Nat.blt i m) (AU (Nat.mul i 1) (.VG b 0))=_
 rw[show Nat.blt i m=true by rw[Nat.blt_eq];exact h,show Nat.mul i 1=i from Nat.mul_one i]
 show AU i (.VG b 0)=_
 rw[AEx,Nat.zero_add]
theorem AU6{G:AY}{H:Heap}{b i:Nat}{v:V}(h:G b i 1=some [v]):AZ (.VG b i) G H=some v:=vg h
theorem AUo:∀L,1<=L->L<64->L*78913/2^18<20/\2^L<=10^(L*78913/2^18+1)/\(L*78913/2^18=0∨10^(L*78913/2^18-1)<=2^(L-1)):=by
 have h:((List.range 64).all λL=>decide (L=0)||(decide (L*78913/2^18<20)&&(decide (2^L<=10^(L*78913/2^18+1))&&(decide (L*78913/2^18=0)||decide (10^(L*78913/2^18-1)<=2^(L-1))))))=true:=by decide
 intro L h1 h2
 have:=List.all_eq_true.1 h L (List.mem_range.2 h2)
 simp only[Bool.or_eq_true,Bool.and_eq_true,decide_eq_true_eq]at this
 rcases this with h|h
 ·omega
 ·exact⟨h.1,h.2.1,h.2.2⟩
section
variable{G:AY}{H:Heap}{n:Nat}{k:KV}
theorem AQL{L:Nat}(h:L<=63)(hk:k (.int .i64 (.ofNat (L*78913/2^18)) 0) H n):Runs F G OM [.int .i64 (.ofNat L) 0] H n k:=by
 refine Am (s:=IQ (GU lfp G)) Iy (by obtain⟨h,o⟩:=Vq Ap G;rw[Iy]at h;cases h;exact o) ?_
 show GU lfp G (Runs F G) (.int .i64 (.ofNat L) 0) H n k
 delta GU
 exact AB (AJc (by omega)) (AB (AQt (q:=.i64) (by decide)) hk)
theorem AQM{b:Bool}(hk:k (.int .i64 (.ofNat (if b then 1 else 0)) 0) H n):Runs F G OU [.bool b] H n k:=by
 refine Am (s:=IQ (GK lfp G)) I8 (by obtain⟨h,o⟩:=Vs Ap G;rw[I8]at h;cases h;exact o) ?_
 show GK lfp G (Runs F G) (.bool b) H n k
 delta GK
 cases b
 ·rw[Bg];exact hk
 ·rw[Bq];exact hk
theorem AGq{x:Nat}(hG:dZ G)(h1:1<=x)(h:x<9223372036854775808)(hk:k (.int .i64 (.ofNat (xW 20 x)) 0) H n):Runs F G OE [.int .u64 (.ofNat x) 0] H n k:=by
 refine Am (s:=IQ (GN lfp G)) JD (by obtain⟨h,o⟩:=Vo Ap G;rw[JD]at h;cases h;exact o) ?_
 show GN lfp G (Runs F G) (.int .u64 (.ofNat x) 0) H n k
 delta GN
 refine APP h ?_
 have hL:Xr x=x.log2+1:=by unfold Xr;rw[if_neg (by omega)]
 have hb1:1<=Xr x:=by omega
 have hb2:Xr x<=63:=AJE (s:=63) h
 have hlo:2^(Xr x-1)<=x:=by rw[hL];exact Nat.log2_self_le (by omega)
 have hhi:x<2^Xr x:=by rw[hL];exact Nat.lt_log2_self
 generalize Xr x=L at hb1 hb2 hlo hhi
 clear hL
 obtain⟨t1,t2,t3⟩:=AUo L hb1 (by omega)
 refine AQL hb2 ?_
 generalize L*78913/2^18=t at t1 t2 t3
 refine AB (AWz t1) (AB (AU6 (hG t t1)) ?_)
 rw[Ym,BA]
 refine AQM ?_
 have hd:∀d,1<=d->x<10^d->(d=1∨10^(d-1)<=x)->d=xW 20 x:=λd h1 h2 h3=>(uU 20 x d (by omega) h1).2 ⟨h2,h3⟩
 cases hc:decide (10^t<=x)with
 |true=>
  have hc:=of_decide_eq_true hc
  refine AB (Iz (by show t+1<_;omega)) ?_
  show k (.int .i64 (.ofNat (t+1)) 0) H n
  rw[hd (t+1) (by omega) (by omega) (.inr hc)]
  exact hk
 |false=>
  have hc:=of_decide_eq_false hc
  refine AB (Iz (by show t+0<_;omega)) ?_
  have ht:t≠0:=λe=>by subst e;simp at hc;omega
  have t3:10^(t-1)<=2^(L-1):=by rcases t3 with h|h;exact absurd h ht;exact h
  show k (.int .i64 (.ofNat t) 0) H n
  rw[hd t (by omega) (by omega) (.inr (by omega))]
  exact hk
end
theorem AGt(a b:Bs):CK.eq .str (sB a) (sB b)=some (decide (a=b)):=by
 show some (band (Nat.beq a.length b.length) (Nat.beq (enc a) (enc b)))=_
 rw[show band (Nat.beq a.length b.length) (Nat.beq (enc a) (enc b))=decide (a=b)by rw[CJ,Bool.eq_iff_iff,decide_eq_true_iff,<-ANw];simp]
theorem ALQ(a b:Bool):CK.eq .bool (.bool a) (.bool b)=some (decide (a=b)):=by cases a<;>cases b<;>rfl
theorem ALV(a c:Bs)(b d:Bool):Ez (.agg [.str,.bool]) false (.agg [sB a,.bool b]) (.agg [sB c,.bool d])=some (.bool (decide (a=c)&&decide (b=d))):=by
 have h:(EK.agg [.str,.bool]).eq (.agg [sB a,.bool b]) (.agg [sB c,.bool d])=some (decide (a=c)&&decide (b=d)):=
  show zJ [.str,.bool] [sB a,.bool b] [sB c,.bool d]=_ from QK.2 ⟨_,_,AGt _ _,QK.2 ⟨_,true,ALQ _ _,rfl,rfl⟩,by simp⟩
 show ofB (Zp ((EK.agg [.str,.bool]).eq (.agg [sB a,.bool b]) (.agg [sB c,.bool d])) λb=>some b)=_
 rw[h];cases(decide (a=c)&&decide (b=d))<;>rfl
mutual
def uh:Ex->Ex->Bool
 |.mk k n nm ty ar ks,.mk k' n' nm' ty' ar' ks'=>decide (k=k')&&(decide (n=n')&&(decide (nm=nm')&&((decide (ty=ty')&&decide (ar=ar'))&&Y2 ks ks')))
def Y2:List Ex->List Ex->Bool
 |[],[]=>true
 |a::l,b::m=>uh a b&&Y2 l m
 |[],_::_=>false
 |_::_,[]=>false
end
mutual
theorem AHX:∀e:Ex,uh e e=true
 |.mk k n nm ty ar ks=>by unfold uh;simp[ql ks]
theorem ql:∀l:List Ex,Y2 l l=true
 |[]=>by unfold Y2;rfl
 |a::l=>by unfold Y2;simp[AHX a,ql l]
end
mutual
def nE:Ex->Nat
 |.mk _ _ _ _ _ ks=>1+nL ks
def nL:List Ex->Nat
 |[]=>0
 |a::l=>nE a+nL l
end
theorem U7(e:Ex):1<=nE e:=by cases e;unfold nE;omega
theorem ABX:∀{l:List Ex} {e:Ex},e∈l->nE e<=nL l
 |a::l,e,h=>by
  unfold nL
  rcases List.mem_cons.1 h with rfl|h
  ·omega
  ·have:=ABX h;omega
theorem AAz:∀l:List Ex,l.length<=nL l
 |[]=>by simp
 |a::l=>by have:=AAz l;have:=U7 a;unfold nL;simp;omega
theorem ACR:∀l m:List Ex,l.length≠m.length->Y2 l m=false
 |[],[],h=>absurd rfl h
 |[],_::_,_=>by unfold Y2;rfl
 |_::_,[],_=>by unfold Y2;rfl
 |a::l,b::m,h=>by unfold Y2;rw[ACR l m (by simpa using h),Bool.and_false]
def ARY(G:AY)(e1:Ex):Prop:=∀(e2:Ex) (H:Heap) (n:Nat) (c1 c2:LV) (A B:Nat->Prop) (k:KV),ER G H A c1 e1->ER G H B c2 e2->(∀id,A id->id<n)->(∀id,B id->id<n)->(∀H' n',Kp H n H' n'->k (.bool (uh e1 e2)) H' n')->Runs F G KY [.agg c1,.agg c2] H n k
theorem QW.at{G:AY}{H:Heap}{A:Nat->Prop}:∀{cs:EY} {es:List Ex} {i:Nat} {e:Ex},QW G H A cs es->es[i]? =some e->∃c,cs[i]? =some c/\ER G H A c e
 |_,_,i,e,.nil,h=>by simp at h
 |_,_,0,e,.cons h t,hi=>by simp at hi;subst hi;exact⟨_,rfl,h⟩
 |_,_,i+1,e,.cons h t,hi=>by
  obtain⟨c,h1,h2⟩:=t.at (show _=some e from by simpa using hi)
  exact⟨c,by simpa using h1,h2⟩
section
variable{G:AY}{H:Heap}{n:Nat}{k:KV}
theorem AIk{l m:List Ex}{v w:V}{cs ds:EY}{A B:Nat->Prop}(hv:El G H v 11 cs)(hw:El G H w 11 ds)(hva:∀id,v.Ry=some id->id<n)(hwa:∀id,w.Ry=some id->id<n)(hc:QW G H A cs l)(hd:QW G H B ds m)(hA:∀id,A id->id<n)(hB:∀id,B id->id<n)
 (hs:∀e∈l,ARY G e) (hlen:l.length<4611686018427387904) (hk:∀H' n',Kp H n H' n'->k (.bool (Y2 l m)) H' n'):Runs F G Dh [v,w,.fn KY [] []] H n k:=by
 refine Am (s:=ar3 (CP lfp G)) DY (by obtain⟨h,o⟩:=JF Ap G;rw[DY]at h;cases h;exact o) ?_
 show CP lfp G (Runs F G) v w (.fn KY [] []) H n k
 delta CP
 refine AB hv.len (AB hw.len ?_)
 rw[aY,BA,hc.len,hd.len]
 cases hl:decide (l.length=m.length)with
 |false=>
  rw[ACR l m (of_decide_eq_false hl)]at hk
  rw[Bool.not_false,Bq]
  exact hk _ _ (Kp.refl ..)
 |true=>
  have hl:=of_decide_eq_true hl
  rw[Bool.not_true,Bg]
  refine AB hv.len ?_
  rw[hc.len]
  obtain⟨R,hR⟩:∃R,Y2 l m=R:=⟨_,rfl⟩
  rw[hR]at hk
  refine IZ (N:=l.length) (J:=λj q=>∃H' n',q=(w,.fn KY [] [],v,.int .i64 (.ofNat l.length) 0,.int .i64 (.ofNat j) 0,H',n')/\Kp H n H' n'/\Y2 (l.drop j) (m.drop j)=R) ?_ ?_ ⟨H,n,rfl,Kp.refl ..,hR⟩
  ·rintro I j q hlt ⟨H1,n1,rfl,f1,hR⟩ ih
   show BK lfp G (Runs F G) k I w (.fn KY [] []) v (.int .i64 (.ofNat l.length) 0) (.int .i64 (.ofNat j) 0) H1 n1
   delta BK
   have hltm:j<m.length:=by omega
   rw[List.drop_eq_getElem_cons hlt,List.drop_eq_getElem_cons hltm]at hR
   unfold Y2 at hR
   have hv1:=hv.kp hva f1
   have hw1:=hw.kp hwa f1
   have hc1:QW G H1 A cs l:=hc.mono (λ_ h=>h) λid h=>f1.same id (hA id h)
   have hd1:QW G H1 B ds m:=hd.mono (λ_ h=>h) λid h=>f1.same id (hB id h)
   obtain⟨c,hc2,hx⟩:=hc1.at (List.getElem?_eq_getElem hlt)
   obtain⟨d,hd2,hy⟩:=hd1.at (List.getElem?_eq_getElem hltm)
   have hse:=hs _ (List.getElem_mem hlt)
   generalize l[j]=e1 at hR hx hse
   generalize m[j]=e2 at hR hy
   have hn1:=f1.le
   obtain⟨p,hp,hld⟩:=hv1.at hc2
   obtain⟨p2,hp2,hld2⟩:=hw1.at hd2
   rw[Ht,BA,decide_eq_true hlt,Bq]
   refine AB hp (AB (Qs hld) ?_)
   refine BG rfl λH2 f2 g2=>?_
   refine DI g2 rfl hx.len (by omega) λH3 g2 t3=>?_
   have f3:Kp H1 n1 H3 (n1+1):=⟨f2.le,λid hid=>(t3 id (by omega)).trans (f2.same id hid)⟩
   obtain⟨p3,hp3,hld3⟩:=(hw1.kp (λid h=>Nat.lt_of_lt_of_le (hwa id h) hn1) f3).at hd2
   refine AB hp3 (AB (Qs hld3) ?_)
   refine BG rfl λH4 f4 g4=>?_
   have g2:=f4.get g2 (by omega)
   refine DI g4 rfl hy.len (by omega) λH5 g4 t5=>?_
   have g2:=(t5 n1 (by omega)).trans g2
   have f5:Kp H3 (n1+1) H5 (n1+1+1):=⟨f4.le,λid hid=>(t5 id (by omega)).trans (f4.same id hid)⟩
   have f5:=f3.trans f5
   refine AB (Ah (m:=11) g2 (by omega) hx.len) (AB (Ah (m:=11) g4 (by omega) hy.len) ?_)
   have fin:=f1.trans f5
   have hx:ER G H5 A c e1:=hx.mono (λ_ h=>h) λid h=>f5.same id (by have:=hA id h;omega)
   have hy:ER G H5 B d e2:=hy.mono (λ_ h=>h) λid h=>f5.same id (by have:=hB id h;omega)
   refine hse e2 H5 _ c d A B _ hx hy (λid h=>by have:=hA id h;omega) (λid h=>by have:=hB id h;omega) λH6 n6 f6=>?_
   rw[Qv,BA]
   cases hb:uh e1 e2 with
   |false=>
    rw[hb,Bool.false_and]at hR
    rw[Bool.not_false,Bq,hR]
    exact hk _ _ (fin.trans f6)
   |true=>
    rw[hb,Bool.true_and]at hR
    rw[Bool.not_true,Bg]
    refine AB (Iz (by omega)) ?_
    exact ih _ ⟨_,_,rfl,fin.trans f6,hR⟩
  ·rintro I q ⟨H1,n1,rfl,f1,hR⟩
   show BK lfp G (Runs F G) k I w (.fn KY [] []) v (.int .i64 (.ofNat l.length) 0) (.int .i64 (.ofNat l.length) 0) H1 n1
   delta BK
   rw[Ht,BA,decide_eq_false (Nat.lt_irrefl _),Bg]
   delta DN
   rw[List.drop_eq_nil_of_le (Nat.le_refl _),List.drop_eq_nil_of_le (by omega)]at hR
   unfold Y2 at hR
   rw[hR]
   exact hk _ _ f1
theorem QW.size{A:Nat->Prop}{cs:EY}{es:List Ex}(_:QW G H A cs es):es.length<=nL es:=AAz es
theorem ASP:∀(N:Nat),N<4611686018427387904->∀(e1:Ex),nE e1<=N->ARY G e1:=by
 intro N
 induction N with
 |zero=>intro _ e1 h;have:=U7 e1;omega
 |succ N ih=>
  intro hbig e1 hN e2 H n c1 c2 A B k h1 h2 hA hB hk
  refine Am (s:=RG (Rq lfp G)) VE (by obtain⟨h,o⟩:=vW Ap G;rw[VE]at h;cases h;exact o) ?_
  show Rq lfp G (Runs F G) (.agg c1) (.agg c2) H n k
  delta Rq
  refine D5 λH1 f1 g1=>?_
  refine D5 λH2 f2 g2=>?_
  have g1:=f2.get g1 (by omega)
  have f2:=f1.trans f2
  have h1:ER G H2 A c1 e1:=h1.mono (λ_ h=>h) λid h=>f2.same id (hA id h)
  have h2:ER G H2 B c2 e2:=h2.mono (λ_ h=>h) λid h=>f2.same id (hB id h)
  cases h1 with
  |mk kd nu nm ty ar l1 k1 he1 hv1 ha1 hc1=>
  cases h2 with
  |mk kd2 nu2 nm2 ty2 RG l2 k2 he2 hv2 ha2 hc2=>
  unfold uh at hk
  have q0:AZ (.ptr n 0) G H2=some _:=AQ g1 rfl
  have r0:AZ (.ptr (n+1) 0) G H2=some _:=AQ g2 rfl
  have q3:AZ (.ptr n 3) G H2=some _:=AQ g1 rfl
  have r3:AZ (.ptr (n+1) 3) G H2=some _:=AQ g2 rfl
  have q4:AZ (.ptr n 4) G H2=some _:=AQ g1 rfl
  have r4:AZ (.ptr (n+1) 4) G H2=some _:=AQ g2 rfl
  have q7:AZ (.ptr n 7) G H2=some _:=AQ g1 rfl
  have r7:AZ (.ptr (n+1) 7) G H2=some _:=AQ g2 rfl
  have q5:A8 2 (.ptr n 5) G H2=some (.agg [sB ty,.bool ar]):=MI g1 (by omega) (by show 5+2<=11;omega)
  have r5:A8 2 (.ptr (n+1) 5) G H2=some (.agg [sB ty2,.bool RG]):=MI g2 (by omega) (by show 5+2<=11;omega)
  simp only[go_sem,Nat.reduceAdd,q0,r0,VN]
  have bad:uh (.mk kd nu nm ty ar _) (.mk kd2 nu2 nm2 ty2 RG _)=false->k (.bool false) H2 (n+1+1):=λh=>by
   unfold uh at h;rw[h]at hk;exact hk _ _ f2
  unfold uh at bad
  cases d1:decide (kd=kd2)with
  |false=>
   repeat (first|with_reducible refine ABz ?_|with_reducible refine AI2 ?_|with_reducible refine AB0 ?_)
   exact bad (by rw[d1];rfl)
  |true=>
   rw[d1,Bool.true_and]at bad hk
   simp only[go_sem,Nat.reduceAdd,q3,r3,VN]
   cases d2:decide (nu=nu2)with
   |false=>
    repeat (first|with_reducible refine ABz ?_|with_reducible refine AI2 ?_|with_reducible refine AB0 ?_)
    exact bad (by rw[d2];rfl)
   |true=>
    rw[d2,Bool.true_and]at bad hk
    simp only[go_sem,Nat.reduceAdd,q4,r4,AFM]
    cases d3:decide (nm=nm2)with
    |false=>
     repeat (first|with_reducible refine ABz ?_|with_reducible refine AI2 ?_|with_reducible refine AB0 ?_)
     exact bad (by rw[d3];rfl)
    |true=>
     rw[d3,Bool.true_and]at bad hk
     simp only[go_sem,Nat.reduceAdd,q5,r5,ALV]
     cases d4:(decide (ty=ty2)&&decide (ar=RG))with
     |false=>
      repeat (first|with_reducible refine ABz ?_|with_reducible refine AI2 ?_|with_reducible refine AB0 ?_)
      exact bad (by rw[d4];rfl)
     |true=>
      rw[d4,Bool.true_and]at hk
      simp only[go_sem,Nat.reduceAdd,q7,r7]
      refine AIk he1 he2 (λid h=>by have:=hA id (ha1 id h);omega) (λid h=>by have:=hB id (ha2 id h);omega) hc1 hc2 (λid h=>by have:=hA id h;omega) (λid h=>by have:=hB id h;omega) (λe he=>ih (by omega) e ?_) ?_ λH3 n3 f3=>?_
      ·have:=ABX he;unfold nE at hN;omega
      ·have:=hc1.size;unfold nE at hN;omega
      ·exact hk _ _ (f2.trans f3)
end
def Buf(H:Heap)(id len x i:Nat):Prop:=∃t,T.get H id=some (.arr 1 24 t)/\(∀p,p<24->∃L,T.get t p=some L)/\∀p,i<=p->p<len->T.get t (1+p)=some [.int .u8 (.ofNat (48+x/10^(len-1-p)%10)) 0]
section
variable{G:AY}{H:Heap}{n id len x:Nat}{k:KV}
theorem AEy{i j d:Nat}{P:KV}(hj:j=i+1)(hi:i<len)(hl:len<=23)(hb:Buf H id len x j)(hd:d=x/10^(len-j)%10)(h:∀H',Buf H' id len x i->(∀a,a≠id->T.get H' a=T.get H a)->P .undef H' n):
 AP (Bj 1 (.sl id 1 len 23 1) (.int .i64 (.ofNat i) 0)) λv=>Df 1 v (.int .u8 (.ofNat (48+d)) 0) H n P:=by
 subst hj
 obtain⟨t,h1,h2,h3⟩:=hb
 refine AB (AVI hi) ?_
 obtain⟨L,hL⟩:=h2 (1+i) (by omega)
 refine AVw h1 (by omega) (by omega) hL rfl rfl λH' g s=>?_
 refine h H' ⟨_,g,λp hp=>?_,λp hp hp2=>?_⟩ s
 ·by_cases e:1+i=p
  ·subst e;exact⟨_,T.Cm ..⟩
  ·rw[T.Ak _ _ e];exact h2 p hp
 ·by_cases e:i=p
  ·subst e
   rw[T.Cm,hd,show len-(i+1)=len-1-i by omega];rfl
  ·rw[T.Ak _ _ (by omega)];exact h3 p (by omega) hp2
theorem YJ{i j o kk:Nat}{P:KV}(ho:j+2=i-o)(hoi:o+2<=i)(hi:i<=len)(hl:len<=23)(hk:kk<100)(hb:Buf H id len x (j+2))(h1:kk%10=x/10^(len-(j+2))%10)(h2:kk/10=x/10^(len-(j+1))%10)
 (h:∀H',Buf H' id len x j->(∀a,a≠id->T.get H' a=T.get H a)->P .undef H' n):
 AP (B2.ev .sub (.int .i64 (.ofNat i) 0) (.int .i64 (.ofNat (o+1)) 0)) λp1=>AP (B2.ev .sub (.int .i64 (.ofNat i) 0) (.int .i64 (.ofNat (o+2)) 0)) λp2=>AP (B2.ev .add (.int .u32 (.ofNat (kk*2)) 0) (.int .u32 (.ofNat 1) 0)) λv68=>
 AP (KP (sB smB) v68) λc1=>AP (KP (sB smB) (.int .u32 (.ofNat (kk*2)) 0)) λc2=>AP (Bj 1 (.sl id 1 len 23 1) p1) λq1=>Df 1 q1 c1 H n λ_ H n=>AP (Bj 1 (.sl id 1 len 23 1) p2) λq2=>Df 1 q2 c2 H n P:=by
 refine AB (ACa (by omega) (by omega)) (AB (ACa (by omega) (by omega)) (AB (AVn (q:=.u32) (by show kk*2+1<4294967296;omega)) (AB (sm_lo hk) (AB (sm_hi hk) ?_))))
 rw[show i-(o+1)=j+1 by omega,show i-(o+2)=j by omega]
 refine AEy (j:=j+2) rfl (by omega) hl hb h1 λH1 b1 s1=>?_
 exact AEy (j:=j+1) rfl (by omega) hl b1 h2 λH2 b2 s2=>h H2 b2 λa ha=>(s2 a ha).trans (s1 a ha)
theorem AKh(e:Nat):0<10^e:=Nat.pow_pos (by decide)
theorem div_pow(x e c:Nat):x/10^(e+c)=x/10^e/10^c:=by rw[Nat.pow_add,Nat.div_div_eq_div_mul]
structure Left(len x i u:Nat):Prop where
 hi:i<=len
 eq:u=x/10^(len-i)
 lt:u<10^i
theorem Left.dig{len x i u:Nat}(h:Left len x i u)(c:Nat)(hc:c<=i):x/10^(len-(i-c))%10=u/10^c%10:=by
 rw[show len-(i-c)=len-i+c by have:=h.hi;omega,div_pow,<-h.eq]
theorem Left.next{len x i u:Nat}(h:Left len x i u)(c:Nat)(hc:c<=i):Left len x (i-c) (u/10^c):=by
 refine⟨by have:=h.hi;omega,by rw[show len-(i-c)=len-i+c by have:=h.hi;omega,div_pow,<-h.eq],?_⟩
 rw[Nat.div_lt_iff_lt_mul (AKh c),<-Nat.pow_add,show i-c+c=i by omega];exact h.lt
theorem AVJ{i u:Nat}(hl:len<=23)(hw:Left len x i u)(h1:i<=1)(hb:Buf H id len x i)(hk:∀H',Buf H' id len x 0->(∀a,a≠id->T.get H' a=T.get H a)->k (.JL []) H' n):
 Dy lfp G (Runs F G) k (.sl id 1 len 23 1) (.int .i64 (.ofNat i) 0) (.int .u32 (.ofNat u) 0) H n:=by
 delta Dy
 rw[kN,BA]
 cases hd:decide (0<i)with
 |false=>
  obtain rfl:i=0:=by have:=of_decide_eq_false hd;omega
  rw[Bg]
  exact hk H hb λ_ _=>rfl
 |true=>
  obtain rfl:i=1:=by have:=of_decide_eq_true hd;omega
  rw[Bq]
  have hu:u<10:=by have:=hw.lt;omega
  refine AB (AVn (q:=.u32) (by show 48+u<4294967296;omega)) (AB (cvq (q:=.u8) (by show 48+u<256;omega)) ?_)
  have:=hw.hi
  refine AEy (j:=1) rfl (by omega) hl hb ?_ hk
  rw[<-hw.eq,Nat.mod_eq_of_lt hu]
theorem AWJ{i u:Nat}(hl:len<=23)(hw:Left len x i u)(h1:i<=3)(hb:Buf H id len x i)(hk:∀H',Buf H' id len x 0->(∀a,a≠id->T.get H' a=T.get H a)->k (.JL []) H' n):
 Dx lfp G (Runs F G) k (.sl id 1 len 23 1) (.int .i64 (.ofNat i) 0) (.int .u32 (.ofNat u) 0) H n:=by
 delta Dx
 rw[Ym,BA]
 cases hd:decide (2<=i)with
 |false=>rw[Bg];exact AVJ hl hw (by have:=of_decide_eq_false hd;omega) hb hk
 |true=>
  have hd:=of_decide_eq_true hd
  have hu:u<1000:=Nat.lt_of_lt_of_le hw.lt (Nat.pow_le_pow_right (by decide) h1)
  obtain⟨j,rfl⟩:∃j,i=j+2:=⟨i-2,by omega⟩
  rw[Bq,smN]
  have hj:=hw.hi
  refine AB (AG7 (q:=.u32) u (by decide)) (AB (AIA (q:=.u32) (by show u%100*2<4294967296;omega)) (AB (AHN (q:=.u32) (by show u<4294967296;omega) (by decide)) ?_))
  refine YJ (o:=0) (by omega) (by omega) hj hl (Nat.mod_lt _ (by decide)) hb ?_ ?_ λH1 b1 s1=>?_
  ·have:=hw.dig 0 (by omega);simp at this;rw[this];omega
  ·have:=hw.dig 1 (by omega);simp at this;rw[this];omega
  ·refine AB (ACa (by omega) (by omega)) ?_
   exact AVJ hl (by have:=hw.next 2 (by omega);simpa using this) (by omega) b1 λH2 b2 s2=>hk H2 b2 λa ha=>(s2 a ha).trans (s1 a ha)
theorem AXS{i u:Nat}(hl:len<=23)(hw:Left len x i u)(h1:i<=7)(hb:Buf H id len x i)(hk:∀H',Buf H' id len x 0->(∀a,a≠id->T.get H' a=T.get H a)->k (.JL []) H' n):
 Ee lfp G (Runs F G) k (.sl id 1 len 23 1) (.int .u64 (.ofNat u) 0) (.int .i64 (.ofNat i) 0) H n:=by
 delta Ee
 have hu:u<10000000:=Nat.lt_of_lt_of_le hw.lt (Nat.pow_le_pow_right (by decide) h1)
 refine AB (cvq (q:=.u32) (by show u<4294967296;omega)) ?_
 rw[Ym,BA]
 cases hd:decide (4<=i)with
 |false=>rw[Bg];exact AWJ hl hw (by have:=of_decide_eq_false hd;omega) hb hk
 |true=>
  have hd:=of_decide_eq_true hd
  obtain⟨j,rfl⟩:∃j,i=j+4:=⟨i-4,by omega⟩
  rw[Bq,smN]
  have hj:=hw.hi
  refine AB (AG7 (q:=.u32) u (by decide)) (AB (AHN (q:=.u32) (by show u<4294967296;omega) (by decide)) (AB (AHN (q:=.u32) (by show u%10000<4294967296;omega) (by decide)) (AB (AIA (q:=.u32) (by show u%10000/100*2<4294967296;omega)) (AB (AG7 (q:=.u32) _ (by decide)) (AB (AIA (q:=.u32) (by show u%10000%100*2<4294967296;omega)) ?_)))))
  have d0:=hw.dig 0 (by omega);have d1:=hw.dig 1 (by omega);have d2:=hw.dig 2 (by omega);have d3:=hw.dig 3 (by omega)
  simp at d0 d1 d2 d3
  refine YJ (o:=0) (j:=j+2) (by omega) (by omega) hj hl (Nat.mod_lt _ (by decide)) hb (by rw[d0];omega) (by rw[d1];omega) λH1 b1 s1=>?_
  refine YJ (o:=2) (by omega) (by omega) hj hl (show u%10000/100<100 by omega) b1 (by rw[d2];omega) (by rw[d3];omega) λH2 b2 s2=>?_
  refine AB (ACa (by omega) (by omega)) ?_
  exact AWJ hl (by have:=hw.next 4 (by omega);simpa using this) (by omega) b2 λH3 b3 s3=>hk H3 b3 λa ha=>(s3 a ha).trans ((s2 a ha).trans (s1 a ha))
theorem AMi(hl:len<=23)(hx:x<10^len)(hx2:x<9223372036854775808)(hb:Buf H id len x len)(hk:∀H',Buf H' id len x 0->(∀a,a≠id->T.get H' a=T.get H a)->k (.JL []) H' n):
 Runs F G MC [.sl id 1 len 23 1,.int .u64 (.ofNat x) 0] H n k:=by
 refine Am (s:=RG (E5 lfp G)) G5 (by obtain⟨h,o⟩:=UO Ap G;rw[G5]at h;cases h;exact o) ?_
 show E5 lfp G (Runs F G) (.sl id 1 len 23 1) (.int .u64 (.ofNat x) 0) H n k
 delta E5
 rw[show lenV (.sl id 1 len 23 1)=some (.int .i64 (.ofNat len) 0)from rfl,BA]
 refine NW (J:=λm q=>∃H' i u,m=i/\q=(.sl id 1 len 23 1,.int .u64 (.ofNat u) 0,.int .i64 (.ofNat i) 0,H',n)/\Left len x i u/\u<9223372036854775808/\Buf H' id len x i/\∀a,a≠id->T.get H' a=T.get H a) ?_ (m:=len)
  ⟨H,len,x,rfl,rfl,⟨Nat.le_refl _,by rw[Nat.sub_self];simp,hx⟩,hx2,hb,λ_ _=>rfl⟩
 rintro I m q ⟨H1,i,u,rfl,rfl,hw,hu,hb,hs⟩ ih
 show F6 lfp G (Runs F G) k I (.sl id 1 len 23 1) (.int .u64 (.ofNat u) 0) (.int .i64 (.ofNat m) 0) H1 n
 delta F6
 rw[Ym,BA]
 cases hd:decide (8<=m)with
 |false=>rw[Bg];exact AXS hl hw (by have:=of_decide_eq_false hd;omega) hb λH2 b2 s2=>hk H2 b2 λa ha=>(s2 a ha).trans (hs a ha)
 |true=>
  have hd:=of_decide_eq_true hd
  obtain⟨j,rfl⟩:∃j,m=j+8:=⟨m-8,by omega⟩
  rw[Bq,smN]
  have hj:=hw.hi
  refine AB (AG7 (q:=.u64) u (by decide)) (AB (cvq (q:=.u32) (by show u%100000000<4294967296;omega)) (AB (AHN (q:=.u64) (by show u<18446744073709551616;omega) (by decide)) ?_))
  generalize hv:u%100000000=v
  have hv8:v<100000000:=by omega
  refine AB (AHN (q:=.u32) (by show v<4294967296;omega) (by decide)) (AB (AG7 (q:=.u32) v (by decide)) (AB (AHN (q:=.u32) (by show v%10000<4294967296;omega) (by decide)) (AB (AIA (q:=.u32) (by show v%10000/100*2<4294967296;omega)) (AB (AG7 (q:=.u32) _ (by decide)) (AB (AIA (q:=.u32) (by show v%10000%100*2<4294967296;omega))
   (AB (AHN (q:=.u32) (by show v/10000<4294967296;omega) (by decide)) (AB (AIA (q:=.u32) (by show v/10000/100*2<4294967296;omega)) (AB (AG7 (q:=.u32) _ (by decide)) (AB (AIA (q:=.u32) (by show v/10000%100*2<4294967296;omega)) ?_)))))))))
  have d0:=hw.dig 0 (by omega);have d1:=hw.dig 1 (by omega);have d2:=hw.dig 2 (by omega);have d3:=hw.dig 3 (by omega)
  have d4:=hw.dig 4 (by omega);have d5:=hw.dig 5 (by omega);have d6:=hw.dig 6 (by omega);have d7:=hw.dig 7 (by omega)
  simp at d0 d1 d2 d3 d4 d5 d6 d7
  refine YJ (o:=0) (j:=j+6) (by omega) (by omega) hj hl (Nat.mod_lt _ (by decide)) hb (by rw[d0];omega) (by rw[d1];omega) λH2 b2 s2=>?_
  refine YJ (o:=2) (j:=j+4) (by omega) (by omega) hj hl (show v%10000/100<100 by omega) b2 (by rw[d2];omega) (by rw[d3];omega) λH3 b3 s3=>?_
  refine YJ (o:=4) (j:=j+2) (by omega) (by omega) hj hl (Nat.mod_lt _ (by decide)) b3 (by rw[d4];omega) (by rw[d5];omega) λH4 b4 s4=>?_
  refine YJ (o:=6) (by omega) (by omega) hj hl (show v/10000/100<100 by omega) b4 (by rw[d6];omega) (by rw[d7];omega) λH5 b5 s5=>?_
  refine AB (ACa (by omega) (by omega)) ?_
  refine ih j _ (by omega) ⟨H5,j,u/100000000,rfl,by rw[show j+8-8=j by omega],by have:=hw.next 8 (by omega);simpa using this,by omega,b5,λa ha=>(s5 a ha).trans ((s4 a ha).trans ((s3 a ha).trans ((s2 a ha).trans (hs a ha))))⟩
end
theorem AV6{G:AY}{H:Heap}{id o m c z:Nat}{LS:EY}(h:DX H id z m o=some LS):El G H (.sl id o m c z) z LS:=by
 refine⟨rfl,?_⟩
 show(Bool.rec (motive:=λ_=>Option EY) none (DX H id z m o) (Nat.beq z z):Option EY)=some LS
 rw[Fp];exact h
theorem ASk{G:AY}{H:Heap}{id len x:Nat}(hb:Buf H id len x 0)(hl:len<=23):El G H (.sl id 1 len 23 1) 1 (PW (nX len x)):=by
 obtain⟨t,h1,h2,h3⟩:=hb
 refine AV6 (nG _ _ _ (by rw[show(PW (nX len x)).length=(nX len x).length from List.length_map ..,Tj]) λi c hc=>?_)
 have hi:i<len:=by have:=(List.getElem?_eq_some_iff.1 hc).1;rw[show(PW (nX len x)).length=(nX len x).length from List.length_map ..,Tj]at this;exact this
 rw[ADO h1 (by omega) (by omega),h3 i (by omega) hi]
 have hd:=AIq len x i hi
 rw[PW,List.getElem?_map,hd]at hc
 cases hc
 show _=some [V.int .u8 (.ofNat (UInt8.ofNat (48+x/10^(len-1-i)%10)).toNat) 0]
 rw[d8 (Nat.mod_lt _ (by decide))]
section
variable{G:AY}{H:Heap}{n:Nat}{k:KV}
theorem AJ1{L:LV}{es:EY}{P:KV}(he:es.length=24)(hl:∀v∈es,v.length=1)(h:∀H',Kp H n H' (n+1)->Buf H' n 0 0 0->P (.ptr n 0) H' (n+1)):EH (BH 1 es E0) H n P:=by
 show Ed (len es) (λm=>Ed n λn=>P (.ptr n 0) (T.set H n (.arr 1 m (F5 es 0 .e))) (Nat.succ n))
 rw[CU,CU,len_eq,he]
 refine h _ ((Kp.refl H n).new _ (Nat.le_refl _) (by omega)) ⟨_,T.Cm ..,λp hp=>?_,λp _ hp=>by omega⟩
 rw[Fh,if_pos ⟨Nat.zero_le _,by omega⟩]
 exact⟨_,List.getElem?_eq_getElem (by omega)⟩
theorem AVS{x:Nat}(hG:dZ G)(h:x<9223372036854775808)(hk:∀H' n',Kp H n H' n'->k (sB (YE x)) H' n'):Runs F G OW [.int .i64 (.ofNat x) 0,.int .i64 (.ofNat 10) 0] H n k:=by
 refine Am (s:=RG (GV lfp G)) I9 (by obtain⟨h,o⟩:=V8 Ap G;rw[I9]at h;cases h;exact o) ?_
 show GV lfp G (Runs F G) (.int .i64 (.ofNat x) 0) (.int .i64 (.ofNat 10) 0) H n k
 delta GV
 rw[VN,BA,decide_eq_true rfl,Bq,zG,BA,decide_eq_true (Nat.zero_le x)]
 simp only[go_sem,Ht]
 cases hd:decide (x<100)with
 |true=>rw[Bq];exact APM (of_decide_eq_true hd) (hk _ _ (Kp.refl ..))
 |false=>
  have hd:=of_decide_eq_false hd
  rw[Bg]
  refine AJ1 (L:=[]) rfl (by simp) λH1 f1 b1=>?_
  refine AB (cvq (q:=.u64) (by show x<18446744073709551616;omega)) ?_
  rw[decide_eq_false (by omega),Bg]
  delta E8
  refine AGq hG (by omega) h ?_
  have hn:=(uU 20 x (xW 20 x) (by omega) (cu ..)).1 rfl
  have h19:xW 20 x<=19:=by
   have h3:=(uU 20 x (xW 20 x) (by omega) (cu ..)).1 rfl
   rcases h3.2 with h4|h4
   ·omega
   ·by_cases h5:xW 20 x<=19
    ·exact h5
    ·exfalso
     have:10^19<=10^(xW 20 x-1):=Nat.pow_le_pow_right (by decide) (by omega)
     omega
  have hdec:YE x=nX (xW 20 x) x:=rfl
  have hp1:=cu 20 x
  generalize xW 20 x=len at hn h19 hdec hp1
  have hb:Buf H1 n len x len:=by
   obtain⟨t,a1,a2,_⟩:=b1
   exact⟨t,a1,a2,λp h1 h2=>by omega⟩
  refine AB (Iz (by omega)) (AB (AJN (by omega) (by omega)) ?_)
  rw[show 1+len-1=len by omega]
  refine AMi (by omega) hn.1 h hb λH2 b2 s2=>?_
  rw[Ht,BA,decide_eq_false (by omega),Bg]
  refine AB (Iz (by omega)) (AB (AJN (by omega) (by omega)) ?_)
  rw[show 1+len-1=len by omega]
  refine AB (AUc (ASk b2 (by omega))) ?_
  rw[<-hdec]
  exact hk _ _ ⟨by omega,λid hid=>(s2 id (by omega)).trans (f1.same id hid)⟩
end
theorem AF6:∀(l:Bs) (a:Nat) (c:UInt8),WT a (l++[c])=(WT a l).bind λm=>WT m [c]
 |[],a,c=>rfl
 |d::l,a,c=>by
  show(bif decide (288230376151711744<a*10+(d.toNat-48))then none else WT (a*10+(d.toNat-48)) (l++[c]))=(bif decide (288230376151711744<a*10+(d.toNat-48))then none else WT (a*10+(d.toNat-48)) l).bind _
  cases decide (288230376151711744<a*10+(d.toNat-48))with
  |true=>rfl
  |false=>exact AF6 l _ c
theorem ACw:∀(l x:Nat),x<10^l->x<=288230376151711744->WT 0 (nX l x)=some x
 |0,x,h,_=>by have:x=0:=by simpa using h
              subst this;rfl
 |l+1,x,h,h2=>by
  have hdiv:x/10<10^l:=by rw[Nat.div_lt_iff_lt_mul (by decide),<-Nat.pow_succ];exact h
  unfold nX
  rw[AF6,ACw l (x/10) hdiv (by omega)]
  show(bif decide (288230376151711744<x/10*10+((UInt8.ofNat (48+x%10)).toNat-48))then none else some (x/10*10+((UInt8.ofNat (48+x%10)).toNat-48)))=_
  rw[d8 (Nat.mod_lt _ (by decide)),show x/10*10+(48+x%10-48)=x by omega,decide_eq_false (by omega)];rfl
theorem ANO{x:Nat}(h:x<=288230376151711744):WT 0 (YE x)=some x:=ACw _ _ ((uU 20 x (xW 20 x) (by omega) (cu ..)).1 rfl).1 h
theorem pX:∀(l x:Nat),∀c∈nX l x,digit c=true
 |0,_,c,h=>by cases h
 |l+1,x,c,h=>by
  unfold nX at h
  rcases List.mem_append.1 h with h|h
  ·exact pX l _ c h
  ·rw[List.mem_singleton.1 h];unfold digit;rw[d8 (Nat.mod_lt _ (by decide))];simp;omega
theorem ALM(x:Nat):YE x≠[]:=λh=>by
 have:=congrArg List.length h
 unfold YE at this;rw[Tj]at this
 have:=cu 20 x
 simp at*;omega
end Go.PQ
