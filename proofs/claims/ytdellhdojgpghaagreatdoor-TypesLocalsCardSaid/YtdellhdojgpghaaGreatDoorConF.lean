/- Part of a proof; nothing is assumed. -/
import Derived.Test.YtdellhdojgpghaaGreatDoorConB
import Derived.Test.YtdellhdojgpghaaGreatDoorConE
import Derived.Test.YtdellhdojgpghaaGreatDoorConC
import Derived.Test.YtdellhdojgpghaaGreatDoorWalk
set_option linter.unusedVariables false
set_option linter.unusedSimpArgs false
namespace Go.RL
open Go.Bj
set_option maxRecDepth 100000
def nmN(l:PQ.Bs):St:=(l.length,enc l)
def tyP(t:PQ.Ty):Ty:=⟨nmN t.nm,t.arr⟩
abbrev t0:Ty:=⟨(0,0),false⟩
mutual
def exN:PQ.Ex->Te
 |.mk k n nm ty arr kids=>.mk k n (nmN nm) ⟨nmN ty,arr⟩ t0 (0,0) (ATM kids)
def ATM:List PQ.Ex->List Te
 |[]=>[]
 |e::es=>exN e::ATM es
end
mutual
def stN:PQ.St->Tt
 |.mk does nm ty es th el=>.mk does (nmN nm) (tyP ty) (ATM es) (AII th) (AII el)
def AII:List PQ.St->List Tt
 |[]=>[]
 |s::ss=>stN s::AII ss
end
def vaN(v:PQ.Va):ER:=⟨nmN v.nm,tyP v.ty⟩
def meN(m:PQ.Me):Tm:=⟨nmN m.nm,m.st,m.ps.map vaN,tyP m.ret,AII m.body⟩
def clN(c:PQ.Cl):Tc:=⟨nmN c.nm,nmN c.sup,c.fs.map vaN,c.ms.map meN⟩
theorem ksN{v:V}(h:PQ.KS v):KS v:=⟨h.1,h.2.1,λb o m c e hv=>absurd hv (h.2.2 b o m c e)⟩
section
variable{G:AV}{H:Heap}{A:Nat->Prop}
mutual
theorem AZx:∀{c:LV} {e:PQ.Ex},PQ.Fa G H A c e->jE G H A c (exN e)
 |_,_,.mk kind num nm ty arr line col he hv ha hc=>.mk kind num (nmN nm) ⟨nmN ty,arr⟩ t0 (0,0) line col he (ksN hv) ha (AS8 hc)
theorem AS8:∀{cs:CJ} {es:List PQ.Ex},PQ.Zg G H A cs es->G9 G H A cs (ATM es)
 |_,_,.nil=>.nil
 |_,_,.cons h t=>.cons (AZx h) (AS8 t)
end
theorem AbN{v:V}{es:List PQ.Ex}(h:PQ.Ob G H A v es):Ob G H A v (ATM es):=by
 obtain⟨cs,h1,h2,h3,h4,h5,h6⟩:=h
 exact⟨cs,h1,ksN h2,h3,h4,h5,AS8 h6⟩
mutual
theorem Aap:∀{c:LV} {s:PQ.St},PQ.Z8 G H A c s->oZ G H A c (stN s)
 |_,_,.mk does nm ty line col he ht kt a1 st hl kl a2 sl=>.mk does (nmN nm) (tyP ty) line col (AbN he) ht (ksN kt) a1 (APN st) hl (ksN kl) a2 (APN sl)
theorem APN:∀{cs:CJ} {ss:List PQ.St},PQ.aA G H A cs ss->Oh G H A cs (AII ss)
 |_,_,.nil=>.nil
 |_,_,.cons h t=>.cons (Aap h) (APN t)
end
theorem AaS{v:V}{ss:List PQ.St}(h:PQ.Oc G H A v ss):Oc G H A v (AII ss):=by
 obtain⟨cs,h1,h2,h3,h4,h5,h6⟩:=h
 exact⟨cs,h1,ksN h2,h3,h4,h5,APN h6⟩
theorem AWZ{v:V}{xs:List PQ.Va}(h:PQ.lF G H A v xs):lF G H A v (xs.map vaN):=by
 obtain⟨h1,h2,h3,h4,h5⟩:=h
 refine⟨?_,ksN h2,h3,h4,h5⟩
 rw[List.map_map]
 exact h1
theorem AbV{c:LV}{m:PQ.Me}(h:PQ.AFq G H A c m):ABs G H A c (meN m):=by
 cases h with
 | @mk line col nm st ty ps bd vp vb hp hb=>exact ABs.mk (nm:=nmN nm) (st:=st) (ty:=tyP ty) line col (AWZ hp) (AaS hb)
theorem AWs:∀{cs:CJ} {ms:List PQ.Me},PQ.zV G H A cs ms->PW G H A cs (ms.map meN)
 |_,_,.nil=>.nil
 |_,_,.cons h t=>.cons (AbV h) (AWs t)
theorem Aaa{c:LV}{x:PQ.Cl}(h:PQ.AD9 G H A c x):jC G H A c (clN x):=by
 cases h with
 | @mk line col nm sup fs ms vf vm hf hm=>
  obtain⟨cs,h1,h2,h3,h4,h5,h6⟩:=hm
  exact jC.mk (nm:=nmN nm) (sup:=nmN sup) line col (AWZ hf) ⟨cs,h1,ksN h2,h3,h4,h5,AWs h6⟩
end
end Go.RL
namespace Go.PQ
open Go.Bj
set_option maxRecDepth 100000
def AJY:Bs->Bs->Bool
 |[],_=>true
 |_::_,[]=>false
 |a::p,c::l=>decide (a=c)&&AJY p l
theorem ARX:∀p l:Bs,pre p l=AJY p l
 |[],l=>by simp[pre,AJY]
 |a::p,[]=>by simp[pre,AJY]
 |a::p,c::l=>by
  rw[show AJY (a::p) (c::l)=(decide (a=c)&&AJY p l)from rfl,<-ARX p l,Bool.eq_iff_iff]
  simp only[pre,List.length_cons,List.take_succ_cons,Bool.and_eq_true,decide_eq_true_eq,List.cons.injEq]
  constructor
  ·rintro⟨h,e,h2⟩;exact⟨e.symm,by omega,h2⟩
  ·rintro⟨e,h,h2⟩;exact⟨by omega,e.symm,h2⟩
def jW(m:Bs)(c:UInt8):Bool:= !((decide (m=PV)||(decide (m=XH)||decide (m=dh)))&&decide (c=61))&& !(decide (m=Yq)&&decide (c=47))
def Stop(p:UInt8->Bool)(r:Bs):Prop:=∀c l,r=c::l->p c=false
def ARC(m r:Bs):Prop:=Eu.find? (λx=>pre x (m++r))=some m/\pre [47,47] (m++r)=false
theorem AOW{m r:Bs}(hm:m∈Eu)(h:Stop (λc=> !jW m c) r):ARC m r:=by
 unfold ARC
 simp only[ARX]
 unfold Eu at hm
 cases r with
 |nil=>
  simp only[List.append_nil]
  clear h
  revert m
  decide
 |cons c r=>
  have h:jW m c=true:=by have:=h c r rfl;simpa using this
  simp only[List.mem_cons,List.not_mem_nil,or_false]at hm
  rcases hm with rfl|rfl|rfl|rfl|rfl|rfl|rfl|rfl|rfl|rfl|rfl|rfl|rfl|rfl|rfl|rfl|rfl|rfl|rfl|rfl|rfl|rfl<;>simp[Eu,List.find?,AJY,jW,pz,ADK,ADM,AAy,ANl,AGJ,Kz,zq,Yq,AE5,dh,PV,XH,VZ,Ov,zF,ACm,Rz,m_rc,Gz,LX,ug]at h⊢ <;>simp[Ne.symm h]
structure AJu(p:UInt8->Bool)(l:Bs):Prop where
 hd:∃c t,l=c::t/\p c=true
 all:∀x∈l,inner x=true
 len:l.length<=40
inductive Wf:Tok->Prop
 |word {l:Bs} (h:l∈Rt):Wf ⟨1,l,0⟩
 |upper {l:Bs} (h:AJu great l):Wf ⟨2,l,0⟩
 |lower {l:Bs} (h:AJu small l) (hw:l∉Rt):Wf ⟨3,l,0⟩
 |num {l:Bs} {n:Nat} (h0:l≠[]) (h:∀x∈l,digit x=true) (hn:ACC 0 l=some n):Wf ⟨4,l,n⟩
 |mark {l:Bs} (h:l∈Eu):Wf ⟨5,l,0⟩
def VI(t:Tok)(c:UInt8):Bool:=bif decide (t.kind=5)then jW t.text c else bif decide (t.kind=4)then !digit c else !inner c
def Sep(t:Tok)(r:Bs):Prop:=Stop (λc=> !VI t c) r
theorem Sj{p:UInt8->Bool}:∀{l r:Bs},(∀x∈l,p x=true)->Stop p r->(l++r).takeWhile p=l
 |[],r,_,h=>by
  cases r with
  |nil=>rfl
  |cons c r=>have:=h c r rfl;simp[this]
 |c::l,r,ha,h=>by
  have hc:=ha c (List.mem_cons_self ..)
  rw[List.cons_append,List.takeWhile_cons,hc]
  simp only[if_true]
  rw[Sj (λx hx=>ha x (List.mem_cons_of_mem _ hx)) h]
theorem AEq:∀l∈Rt,AJu small l:=by
 have h:(Rt.all λl=>(match l with|[]=>false|c::_=>small c)&&l.all inner&&decide (l.length<=40))=true:=by decide
 intro l hl
 have:=List.all_eq_true.1 h l hl
 simp only[Bool.and_eq_true,decide_eq_true_eq]at this
 obtain⟨⟨h1,h2⟩,h3⟩:=this
 refine⟨?_,List.all_eq_true.1 h2,h3⟩
 cases l with
 |nil=>cases h1
 |cons c t=>exact⟨c,t,rfl,h1⟩
theorem lS{c:UInt8}(h:small c=true):great c=false:=by
 simp only[small,great,Bool.and_eq_true,decide_eq_true_eq,Bool.and_eq_false_iff,decide_eq_false_iff_not]at*;omega
theorem AH4{c:UInt8}(h:digit c=true):great c=false/\small c=false:=by
 simp only[small,great,digit,Bool.and_eq_true,decide_eq_true_eq,Bool.and_eq_false_iff,decide_eq_false_iff_not]at*;omega
theorem lJ{c:UInt8}(h:inner c=true):blank c=false/\c≠47:=by
 have e:(47:UInt8).toNat=47:=rfl
 refine⟨?_,λhc=>?_⟩
 ·simp only[inner,small,great,digit,blank,Bool.or_eq_true,Bool.and_eq_true,decide_eq_true_eq,Bool.or_eq_false_iff,decide_eq_false_iff_not]at*;omega
 ·subst hc;simp only[inner,small,great,digit,e,Bool.or_eq_true,Bool.and_eq_true,decide_eq_true_eq]at h;omega
theorem ADj{c:UInt8}(h:digit c=true):inner c=true:=by simp[inner,h]
theorem ALQ{c:UInt8}(h:great c=true):inner c=true:=by simp[inner,h]
theorem ADi{c:UInt8}(h:small c=true):inner c=true:=by simp[inner,h]
theorem AEu:∀m∈Eu,∃c t,m=c::t/\inner c=false/\blank c=false:=by
 have h:(Eu.all λl=>(match l with|[]=>false|c::_=> !inner c&& !blank c))=true:=by decide
 intro l hl
 have:=List.all_eq_true.1 h l hl
 cases l with
 |nil=>cases this
 |cons c t=>exact⟨c,t,rfl,by simpa using this⟩
theorem AAh(c:UInt8)(l:Bs):Iq (c::l)=(bif great c then dS ⟨2,(c::l).takeWhile inner,0⟩else
 bif small c then dS ⟨bif decide ((c::l).takeWhile inner∈Rt)then 1 else 3,(c::l).takeWhile inner,0⟩else
 bif digit c then(match ACC 0 ((c::l).takeWhile digit)with|none=>(22,Q7)|some n=>(0,⟨4,(c::l).takeWhile digit,n⟩))else
 match Eu.find? (λm=>pre m (c::l))with|none=>(20,Q7)|some m=>(0,⟨5,m,0⟩)):=rfl
theorem ANP{t:Tok}(h:t.text.length<=40):dS t=(0,t):=by
 unfold dS;rw[decide_eq_false (by omega)];rfl
theorem AV4{t:Tok}{r:Bs}(hw:Wf t)(hs:Sep t r):Iq (t.text++r)=(0,t):=by
 cases hw with
 |word h=>
  rename_i l
  have hn:=AEq l h
  obtain⟨c,q,rfl,hc⟩:=hn.hd
  have hsep:Stop inner r:=λa b e=>by have:=hs a b e;simpa[VI]using this
  have tw:=Sj hn.all hsep
  show Iq (c::(q++r))=_
  rw[AAh,lS hc,hc,show(c::(q++r))=(c::q)++r from rfl,tw,decide_eq_true h]
  exact ANP hn.len
 |upper hn=>
  rename_i l
  obtain⟨c,q,rfl,hc⟩:=hn.hd
  have hsep:Stop inner r:=λa b e=>by have:=hs a b e;simpa[VI]using this
  have tw:=Sj hn.all hsep
  show Iq (c::(q++r))=_
  rw[AAh,hc,show(c::(q++r))=(c::q)++r from rfl,tw]
  exact ANP hn.len
 |lower hn hw=>
  rename_i l
  obtain⟨c,q,rfl,hc⟩:=hn.hd
  have hsep:Stop inner r:=λa b e=>by have:=hs a b e;simpa[VI]using this
  have tw:=Sj hn.all hsep
  show Iq (c::(q++r))=_
  rw[AAh,lS hc,hc,show(c::(q++r))=(c::q)++r from rfl,tw,decide_eq_false hw]
  exact ANP hn.len
 |num h0 h hn=>
  rename_i l n
  cases l with
  |nil=>exact absurd rfl h0
  |cons c q=>
   have hc:=h c (List.mem_cons_self ..)
   have hsep:Stop digit r:=λa b e=>by have:=hs a b e;simpa[VI]using this
   have tw:=Sj h hsep
   show Iq (c::(q++r))=_
   rw[AAh,(AH4 hc).1,(AH4 hc).2,hc,show(c::(q++r))=(c::q)++r from rfl,tw,hn]
   rfl
 |mark h=>
  rename_i l
  have hsep:Stop (λc=> !jW l c) r:=λa b e=>by have:=hs a b e;simpa[VI]using this
  have hm:=(AOW h hsep).1
  obtain⟨c,q,rfl,hc,_⟩:=AEu l h
  simp only[inner,Bool.or_eq_false_iff]at hc
  show Iq (c::(q++r))=_
  rw[AAh,hc.1,hc.2.1,hc.2.2.1,show(c::(q++r))=(c::q)++r from rfl,hm]
  rfl
theorem ANw(c:UInt8)(t:Bs):DJ false (c::t)=bif blank c then DJ false t else bif pre [47,47] (c::t)then DJ true t else c::t:=rfl
theorem AUv{t:Tok}{r:Bs}(hw:Wf t)(hs:Sep t r):DJ false (t.text++r)=t.text++r:=by
 have key:∀{c:UInt8} {q:Bs},t.text=c::q->inner c=true->DJ false (t.text++r)=t.text++r:=by
  intro c q e hc
  rw[e,List.cons_append,ANw,(lJ hc).1,ARX]
  rw[show AJY [47,47] (c::(q++r))=(decide (47=c)&&AJY [47] (q++r))from rfl,decide_eq_false (λh=>(lJ hc).2 h.symm)]
  rfl
 cases hw with
 |word h=>obtain⟨c,q,e,hc⟩:=(AEq _ h).hd;exact key e (ADi hc)
 |upper hn=>obtain⟨c,q,e,hc⟩:=hn.hd;exact key e (ALQ hc)
 |lower hn hw=>obtain⟨c,q,e,hc⟩:=hn.hd;exact key e (ADi hc)
 |num h0 h hn=>
  rename_i l n
  cases l with
  |nil=>exact absurd rfl h0
  |cons c q=>exact key (c:=c) (q:=q) rfl (ADj (h c (List.mem_cons_self ..)))
 |mark h=>
  rename_i l
  have hsep:Stop (λc=> !jW l c) r:=λa b e=>by have:=hs a b e;simpa[VI]using this
  have hm:=(AOW h hsep).2
  obtain⟨c,q,rfl,hc,hb⟩:=AEu l h
  show DJ false (c::(q++r))=_
  rw[ANw,hb,show(c::(q++r))=(c::q)++r from rfl,hm]
  rfl
def Gap(g:Bs):Prop:=∀r,DJ false (g++r)=DJ false r
theorem AOQ:Gap []:=λ_=>rfl
theorem AP0{c:UInt8}(h:blank c=true):Gap [c]:=λr=>by rw[List.singleton_append,ANw,h];rfl
def NZ(s:Bs)(ts:List Tok):Prop:=∀f,s.length<f->AA5 f s=(0,ts)
theorem AIA(f:Nat)(r:Bs):AA5 (f+1) r=bif decide ((Iq (DJ false r)).1=0)then
 bif decide ((Iq (DJ false r)).2.kind=0)then(0,[(Iq (DJ false r)).2])
 else((AA5 f ((DJ false r).drop (Iq (DJ false r)).2.text.length)).1,(Iq (DJ false r)).2::(AA5 f ((DJ false r).drop (Iq (DJ false r)).2.text.length)).2)
 else((Iq (DJ false r)).1,[]):=rfl
theorem AVO{g:Bs}(hg:Gap g):NZ g [Q7]:=λf h=>by
 cases f with
 |zero=>omega
 |succ f=>
  have e:DJ false g=[]:=by have:=hg [];rw[List.append_nil]at this;exact this
  rw[AIA,e];rfl
theorem Wf.kd{t:Tok}(h:Wf t):t.kind≠0:=by cases h<;>simp
theorem Wf.ne{t:Tok}(h:Wf t):0<t.text.length:=by
 cases h with
 |word h=>obtain⟨c,q,e,hc⟩:=(AEq _ h).hd;rw[e];simp
 |upper hn=>obtain⟨c,q,e,hc⟩:=hn.hd;rw[e];simp
 |lower hn hw=>obtain⟨c,q,e,hc⟩:=hn.hd;rw[e];simp
 |num h0 h hn=>rename_i l n;cases l with
  |nil=>exact absurd rfl h0
  |cons c q=>simp
 |mark h=>obtain⟨c,q,e,hc⟩:=AEu _ h;rw[e];simp
theorem AT3{g:Bs}{t:Tok}{r:Bs}{ts:List Tok}(hg:Gap g)(hw:Wf t)(hs:Sep t r)(h:NZ r ts):NZ (g++(t.text++r)) (t::ts):=λf hf=>by
 have hl:=hw.ne
 simp only[List.length_append]at hf
 cases f with
 |zero=>omega
 |succ f=>
  rw[AIA,hg,AUv hw hs,AV4 hw hs]
  show(bif true then bif decide (t.kind=0)then(0,[t])else((AA5 f ((t.text++r).drop t.text.length)).1,t::(AA5 f ((t.text++r).drop t.text.length)).2)else(0,[]))=_
  rw[decide_eq_false hw.kd,List.drop_left,h f (by omega)]
  rfl
theorem AUJ{s:Bs}{ts:List Tok}(h:NZ s ts)(hs:s.length<=65536):AGz s=(0,ts):=by
 unfold AGz;rw[decide_eq_false (by omega)];exact h _ (by omega)
def free(c:UInt8):Bool:= !inner c&& !decide (c=61)&& !decide (c=47)
theorem AM6{t:Tok}{c:UInt8}(h:free c=true):VI t c=true:=by
 simp only[free,Bool.and_eq_true,Bool.not_eq_true',decide_eq_false_iff_not]at h
 have hd:digit c=false:=by cases hd:digit c with
  |false=>rfl
  |true=>rw[ADj hd]at h;simp at h
 unfold VI jW
 rw[h.1.1,hd,decide_eq_false h.1.2,decide_eq_false h.2]
 cases decide (t.kind=5)<;>cases decide (t.kind=4)<;>simp
def ARA(t:Tok):Bs->Bool
 |[]=>true
 |c::_=>VI t c
theorem AXy{t:Tok}{r:Bs}(h:ARA t r=true):Sep t r:=λc l e=>by subst e;simpa[ARA]using h
def W(l:Bs):Tok:=⟨1,l,0⟩
def U(l:Bs):Tok:=⟨2,l,0⟩
def L(l:Bs):Tok:=⟨3,l,0⟩
def N(l:Bs)(n:Nat):Tok:=⟨4,l,n⟩
def M(l:Bs):Tok:=⟨5,l,0⟩
section
variable{t u:Tok}{r:List Tok}{d:Nat}
theorem VA{w:Bs}{l:Bs}:QX w ⟨M l,r,d,0⟩=decide (l=w):=rfl
theorem TA{w:Bs}{l:Bs}:QX w ⟨W l,r,d,0⟩=decide (l=w):=rfl
theorem ASW{w:Bs}(h1:t.kind≠1)(h5:t.kind≠5):QX w ⟨t,r,d,0⟩=false:=by simp[QX,h1,h5]
theorem AOU(h:t.kind≠0):Qj ⟨t,u::r,d,0⟩=some ⟨u,r,d,0⟩:=by simp[Qj,h]
theorem ALW{w:Bs}(h:QX w ⟨t,u::r,d,0⟩=true)(hk:t.kind≠0):Dk w ⟨t,u::r,d,0⟩=some (true,⟨u,r,d,0⟩):=by unfold Dk;rw[h,AOU hk];rfl
theorem jX{w:Bs}{s:S}(h:QX w s=false):Dk w s=some (false,s):=by unfold Dk;rw[h];rfl
theorem AHb{l:Bs}:Dk l ⟨M l,u::r,d,0⟩=some (true,⟨u,r,d,0⟩):=ALW (by rw[VA];simp) (by simp[M])
theorem AQb{l:Bs}:Dk l ⟨W l,u::r,d,0⟩=some (true,⟨u,r,d,0⟩):=ALW (by rw[TA];simp) (by simp[W])
theorem AKV{w:Bs}{s:S}{s':S}(h:Dk w s=some (true,s')):D7 [w] s=some s':=by unfold D7;rw[h];rfl
theorem gI{l:Bs}:D7 [l] ⟨M l,u::r,d,0⟩=some ⟨u,r,d,0⟩:=AKV AHb
theorem AHi{l:Bs}:D7 [l] ⟨W l,u::r,d,0⟩=some ⟨u,r,d,0⟩:=AKV AQb
theorem AIU{ws:List Bs}{s:S}(h:∀w∈ws,QX w s=false):WZ ws s=false:=by
 unfold WZ;rw[Bool.eq_false_iff];intro hc
 obtain⟨w,hw,h2⟩:=List.any_eq_true.1 hc
 rw[h w hw]at h2;cases h2
theorem AUb{k:Nat}{l:Bs}{n:Nat}(hk:k≠0):Jh k ⟨⟨k,l,n⟩,u::r,d,0⟩=some (l,⟨u,r,d,0⟩):=by
 unfold Jh;rw[AOU (t:=⟨k,l,n⟩) hk];simp[S.ok]
theorem ANR{l:Bs}:Jh 3 ⟨L l,u::r,d,0⟩=some (l,⟨u,r,d,0⟩):=AUb (by decide)
theorem AA2(h:d<100):aY ⟨t,r,d,0⟩=some ⟨t,r,d+1,0⟩:=by
 unfold aY;simp only
 rw[decide_eq_true (show d<1000000 by omega),decide_eq_false (show ¬100<d+1 by omega)];rfl
theorem AHq(h:d<1000000):upS ⟨t,r,d+1,0⟩=some ⟨t,r,d,0⟩:=by
 unfold upS;simp only[h,decide_true,cond_true]
end
def opsL:List Bs:=[ANl,AAy,pz,ADK,dh,ADM,AGJ,Kz,zq,Yq,AE5,AKW,ADw]
def Aat:List Bs:=[zF,ug]
def ABS(s:S):Prop:=∀w∈opsL,QX w s=false
def AJb(s:S):Prop:=∀w∈Aat,QX w s=false
theorem ABS.of{s:S}(h:ABS s)(ws:List Bs)(hs:∀w∈ws,w∈opsL):WZ ws s=false:=AIU λw hw=>h w (hs w hw)
theorem AXk{f:Nat}{e:Ex}{s:S}(h:ABS s):asL (f+1) e s=some (e,s):=by
 show(bif WZ [AKW,ADw] s then _ else some (e,s))=_
 rw[h.of _ (by decide)];rfl
theorem AH3{ws:List Bs}{nx:PM Ex}{f:Nat}{e:Ex}{s:S}(h:ABS s)(hs:∀w∈ws,w∈opsL):ACi ws nx (f+1) e s=some (e,s):=by
 show(bif WZ ws s then _ else some (e,s))=_
 rw[h.of _ hs];rfl
theorem AFh{k:Nat}{w:Bs}{nx:PM Ex}{f:Nat}{e:Ex}{s:S}(h:ABS s)(hs:w∈opsL):vX k w nx (f+1) e s=some (e,s):=by
 show(bif WZ [w] s then _ else some (e,s))=_
 rw[h.of _ (λx hx=>by rw[List.mem_singleton.1 hx];exact hs)];rfl
theorem AQA{un:PM Ex}{f:Nat}{s s':S}{e:Ex}(h:un s=some (e,s'))(hn:ABS s'):signs [zq,Yq,AE5] un (f+1) s=some (e,s'):=by
 unfold signs;rw[h];exact AH3 hn (by decide)
theorem AQt{un:PM Ex}{f:Nat}{s s':S}{e:Ex}(h:un s=some (e,s'))(hn:ABS s'):sumP un (f+1) s=some (e,s'):=by
 unfold sumP;rw[signs,AQA h hn];exact AH3 hn (by decide)
theorem AR3{un:PM Ex}{f:Nat}{s s':S}{e:Ex}(h:un s=some (e,s'))(hn:ABS s'):compared un (f+1) s=some (e,s'):=by
 unfold compared;rw[AQt h hn]
 show(bif WZ [pz,ADK,dh,ADM] s' then _ else some (e,s'))=_
 rw[hn.of _ (by decide)];rfl
theorem ASR{un:PM Ex}{f:Nat}{s s':S}{e:Ex}(h:un s=some (e,s'))(hn:ABS s'):either 17 AAy (compared un (f+1)) (f+1) s=some (e,s'):=by
 unfold either;rw[AR3 h hn];exact AFh hn (by decide)
theorem AU4{un:PM Ex}{f:Nat}{s s':S}{e:Ex}(h:un s=some (e,s'))(hn:ABS s'):either 18 ANl (either 17 AAy (compared un (f+1)) (f+1)) (f+1) s=some (e,s'):=by
 unfold either;rw[<-either,ASR h hn];exact AFh hn (by decide)
theorem AB7{f:Nat}{s s1 s2 s3:S}{e:Ex}(hd:aY s=some s1)(h:unary (expr (f+1)) (f+1) s1=some (e,s2))(hn:ABS s2)(hu:upS s2=some s3):expr (f+2) s=some (e,s3):=by
 show ALf (expr (f+1)) (f+1) s=_
 unfold ALf;rw[hd]
 show((either 18 ANl (either 17 AAy (compared (unary (expr (f+1)) (f+1)) (f+1)) (f+1)) (f+1) s1).bind λp=>(upS p.2).bind λs'=>some (p.1,s'))=_
 rw[AU4 h hn]
 show((upS s2).bind λs'=>some (e,s'))=_
 rw[hu];rfl
theorem pq{rec:PM Ex}{f:Nat}{s s':S}{e:Ex}(h1:QX Kz s=false)(h2:QX XH s=false)(h:pY rec (f+1) s=some (e,s'))(hn:ABS s'):unary rec (f+2) s=some (e,s'):=by
 show(bif WZ [Kz] s then _ else bif WZ [XH] s then _ else(pY rec (f+1) s).bind λp=>asL (f+1) p.1 p.2)=_
 rw[AIU (ws:=[Kz]) λw hw=>by rw[List.mem_singleton.1 hw];exact h1,AIU (ws:=[XH]) λw hw=>by rw[List.mem_singleton.1 hw];exact h2,h]
 exact AXk hn
theorem AP8{rec:PM Ex}{f:Nat}{e:Ex}{s:S}(h:AJb s):jT rec (f+1) e s=some (e,s):=by
 show((Dk zF s).bind λp=>bif p.1 then _ else(Dk ug p.2).bind λp=>bif p.1 then _ else some (e,p.2))=_
 rw[jX (h zF (by decide))]
 show((Dk ug s).bind λp=>bif p.1 then _ else some (e,p.2))=_
 rw[jX (h ug (by decide))];rfl
theorem yj{rec:PM Ex}{f:Nat}{s s':S}{e:Ex}(h:AEi rec (f+1) s=some (e,s'))(hn:AJb s'):pY rec (f+1) s=some (e,s'):=by
 unfold pY;rw[h];exact AP8 hn
section
variable{rec:PM Ex}{f d:Nat}{u:Tok}{r:List Tok}
theorem ARz{l:Bs}{n:Nat}:AEi rec f ⟨N l n,u::r,d,0⟩=some (.mk 1 n [] [] false [],⟨u,r,d,0⟩):=rfl
theorem APn:AEi rec f ⟨W Zm,u::r,d,0⟩=some (.mk 2 0 [] [] false [],⟨u,r,d,0⟩):=rfl
theorem AV0{e:Ex}{v:Tok}{q:List Tok}{d':Nat}(h:rec ⟨u,r,d,0⟩=some (e,⟨M Ov,v::q,d',0⟩)):AEi rec f ⟨M VZ,u::r,d,0⟩=some (e,⟨v,q,d',0⟩):=by
 show((rec ⟨u,r,d,0⟩).bind λx=>(D7 [Ov] x.2).bind λs1=>some (x.1,s1))=_
 rw[h]
 show((D7 [Ov] ⟨M Ov,v::q,d',0⟩).bind λs1=>some (e,s1))=_
 rw[gI];rfl
end
section
variable{s:S}(h:s.e≠0)
include h
theorem AYe:s.ok=false:=by simp[S.ok,h]
end
def TM(n:Nat)(l:List Tok):List Tok:=(List.replicate n l).flatten
theorem zI(n:Nat)(l:List Tok):TM (n+1) l=l++TM n l:=by simp[TM,List.replicate_succ]
theorem AYx(n:Nat)(l:List Tok):TM (n+1) l=TM n l++l:=by
 induction n with
 |zero=>simp[TM]
 |succ n ih=>rw[zI (n+1),ih,<-List.append_assoc,<-zI,ih]
def S.of(l:List Tok)(d:Nat):S:=match l with|[]=>⟨Q7,[],d,0⟩|t::r=>⟨t,r,d,0⟩
theorem AaP{l:Bs}{m:Nat}{f:Nat}{v:Tok}{q:List Tok}(hv:∀d,ABS ⟨v,q,d,0⟩)(hv2:∀d,AJb ⟨v,q,d,0⟩):
 ∀(n d:Nat),d+n<100->expr (f+n+4) (S.of (TM n [M VZ]++N l m::(TM n [M Ov]++v::q)) d)=some (.mk 1 m [] [] false [],⟨v,q,d,0⟩):=by
 intro n
 suffices hh:∀(n d:Nat) (v:Tok) (q:List Tok),(∀d,ABS ⟨v,q,d,0⟩)->(∀d,AJb ⟨v,q,d,0⟩)->d+n<100->expr (f+n+4) (S.of (TM n [M VZ]++N l m::(TM n [M Ov]++v::q)) d)=some (.mk 1 m [] [] false [],⟨v,q,d,0⟩)from
  λd hd=>hh n d v q hv hv2 hd
 clear hv hv2 v q n
 intro n
 induction n with
 |zero=>
  intro d v q h1 h2 hd
  exact AB7 (f:=f+2) (AA2 (by omega)) (pq (ASW (show(4:Nat)≠1 by decide) (show(4:Nat)≠5 by decide)) (ASW (show(4:Nat)≠1 by decide) (show(4:Nat)≠5 by decide)) (yj ARz (h2 _)) (h1 _)) (h1 _) (AHq (by omega))
 |succ n ih=>
  intro d v q h1 h2 hd
  have e1:=ih (d+1) (M Ov) (v::q) (λd w hw=>by rw[VA];revert w;decide) (λd w hw=>by rw[VA];revert w;decide) (by omega)
  have e2:TM (n+1) [M VZ]++N l m::(TM (n+1) [M Ov]++v::q)=M VZ::(TM n [M VZ]++N l m::(TM n [M Ov]++M Ov::v::q)):=by
   rw[zI,AYx];simp
  rw[e2]
  generalize hx:TM n [M VZ]++N l m::(TM n [M Ov]++M Ov::v::q)=x at e1
  cases x with
  |nil=>simp at hx
  |cons t x=>
   refine AB7 (f:=f+n+3) (s1:=⟨M VZ,t::x,d+1,0⟩) (AA2 (by omega)) ?_ (h1 (d+1)) (AHq (by omega))
   exact pq rfl rfl (yj (AV0 e1) (h2 _)) (h1 _)
section
variable{st ch:PM St}{f d:Nat}{u:Tok}{r:List Tok}
theorem ARt:AFy st ch f ⟨W Pg,u::r,d,0⟩=(expr f ⟨u,r,d,0⟩).bind λx=>endP (.mk 6 [] fK [x.1] [] []) x.2:=rfl
theorem AQz:AFy st ch f ⟨W aH,u::r,d,0⟩=(wV ⟨u,r,d,0⟩).bind λt=>(Jh 3 t.2).bind λn=>(D7 [PV] n.2).bind λs1=>(expr f s1).bind λx=>endP (.mk 1 n.1 t.1 [x.1] [] []) x.2:=rfl
theorem AVi:AFy st ch f ⟨W dX,u::r,d,0⟩=ch ⟨W dX,u::r,d,0⟩:=rfl
theorem AZF:sc (f+1) false=AFy (sc f false) (sc f true) f:=rfl
theorem Adf:sc (f+1) true=AEB (sc f false) (sc f true) f:=rfl
theorem ARl{a:St}:endP a ⟨M Gz,u::r,d,0⟩=some (a,⟨u,r,d,0⟩):=rfl
theorem AKe{out:List St}:J3 st (f+1) out ⟨M m_rc,u::r,d,0⟩=some (out,⟨u,r,d,0⟩):=rfl
theorem ACI{out:List St}{s:S}(h:s.e≠0):J3 st (f+1) out s=some (out,s):=by
 show(bif s.ok then _ else some (out,s))=_
 rw[AYe h];rfl
theorem TK{out:List St}{t:Tok}{q:List Tok}{a:St}{s':S}(h0:QX m_rc ⟨t,q,d,0⟩=false)(hl:out.length<1000000)(h:st ⟨t,q,d,0⟩=some (a,s')):J3 st (f+1) out ⟨t,q,d,0⟩=J3 st f (out++[a]) s':=by
 show((Dk m_rc ⟨t,q,d,0⟩).bind λp=>bif p.1 then some (out,p.2)else(st p.2).bind λq=>bif decide (out.length<1000000)then J3 st f (out++[q.1]) q.2 else none)=_
 rw[jX h0]
 show((st ⟨t,q,d,0⟩).bind λq=>bif decide (out.length<1000000)then J3 st f (out++[q.1]) q.2 else none)=_
 rw[h]
 show(bif decide (out.length<1000000)then J3 st f (out++[a]) s' else none)=_
 rw[decide_eq_true hl];rfl
theorem AHj{b:List St}{s' s'':S}(hd:d<100)(h:J3 st f [] ⟨u,r,d+1,0⟩=some (b,s'))(hu:upS s'=some s''):Zx st f ⟨M Rz,u::r,d,0⟩=some (b,s''):=by
 show((aY ⟨M Rz,u::r,d,0⟩).bind λs1=>(D7 [Rz] s1).bind λs2=>(J3 st f [] s2).bind λp=>(upS p.2).bind λs'=>some (p.1,s'))=_
 rw[AA2 hd]
 show((D7 [Rz] ⟨M Rz,u::r,d+1,0⟩).bind λs2=>(J3 st f [] s2).bind λp=>(upS p.2).bind λs'=>some (p.1,s'))=_
 rw[gI]
 show((J3 st f [] ⟨u,r,d+1,0⟩).bind λp=>(upS p.2).bind λs'=>some (p.1,s'))=_
 rw[h]
 show((upS s').bind λs'=>some (b,s'))=_
 rw[hu];rfl
end
theorem ANA{f d:Nat}{l:Bs}{m:Nat}{q:List Tok}(hd:d<100):expr (f+4) ⟨N l m,M Gz::q,d,0⟩=some (.mk 1 m [] [] false [],⟨M Gz,q,d,0⟩):=
 AaP (v:=M Gz) (λd w hw=>by rw[VA];revert w;decide) (λd w hw=>by rw[VA];revert w;decide) 0 d (by omega)
theorem AJG{u:Tok}{r:List Tok}{d:Nat}(h:QX zF ⟨u,r,d,0⟩=false):wV ⟨W G5,u::r,d,0⟩=some (⟨G5,false⟩,⟨u,r,d,0⟩):=by
 show((Dk zF ⟨u,r,d,0⟩).bind λq=>bif q.1 then(D7 [ACm] q.2).bind λs=>some (Ty.mk G5 true,s)else some (Ty.mk G5 false,q.2))=_
 rw[jX h];rfl
theorem ANO{f g:Nat}{fs:List Va}{ms:List Me}{u:Tok}{r:List Tok}{m:Me}{s':S}(h:Yn f ⟨W Il,u::r,0,0⟩=some (m,s')):
 NU f (g+1) fs ms ⟨W Il,u::r,0,0⟩=NU f g fs (ms++[m]) (Ls (ms.length+1) s'):=by
 show((Yn f ⟨W Il,u::r,0,0⟩).bind λm=>NU f g fs (ms++[m.1]) (Ls (ms.length+1) m.2))=_
 rw[h];rfl
def Aa5(s:S):S:=bif s.ok&& !decide (s.t.kind=0)then Jt 21 s else s
theorem ATK{f:Nat}{l:Bs}{u:Tok}{r:List Tok}{x:List Va×List Me}{s:S}(h:NU f f [] [] ⟨u,r,0,0⟩=some (x,s)):
 AJB f (W kV::U l::M Rz::u::r)=some (⟨l,[],x.1,x.2⟩,(Aa5 s).e):=by
 show(((NU f f [] [] ⟨u,r,0,0⟩).bind λx=>some (Cl.mk l [] x.1.1 x.1.2,Aa5 x.2)).bind λp=>some (p.1,p.2.e))=_
 rw[h];rfl
def Xr:List Tok:=[W Il,W G5,L [109],M VZ,M Ov,M Rz,M m_rc]
theorem U2{g s:Bs}{ts:List Tok}(hg:Gap g)(h:NZ s ts):NZ (g++s) ts:=λf hf=>by
 rw[List.length_append]at hf
 have:=h f (by omega)
 cases f with
 |zero=>omega
 |succ f=>rw[AIA,hg,<-AIA];exact this
theorem AHg{t:Tok}{r:Bs}{ts:List Tok}(hw:Wf t)(hs:ARA t r=true)(h:NZ r ts):NZ (t.text++r) (t::ts):=AT3 AOQ hw (AXy hs) h
theorem ZK:Gap [32]:=AP0 (by decide)
def safe(m:Bs):Bool:=decide (m∈Eu)&& !(decide (m=PV)||(decide (m=XH)||decide (m=dh)))&& !decide (m=Yq)
theorem sU{m:Bs}{r:Bs}{ts:List Tok}(hm:safe m=true)(h:NZ r ts):NZ (m++r) (M m::ts):=by
 simp only[safe,Bool.and_eq_true,decide_eq_true_eq,Bool.not_eq_true']at hm
 refine AHg (t:=M m) (.mark hm.1.1) ?_ h
 cases r with
 |nil=>rfl
 |cons c r=>
  show VI (M m) c=true
  show jW m c=true
  unfold jW
  rw[hm.1.2,hm.2];rfl
theorem lY{t:Tok}{r:Bs}{ts:List Tok}(hw:Wf t)(h:NZ r ts):NZ (t.text++([32]++r)) (t::ts):=AHg hw (AM6 (by decide)) (U2 ZK h)
def pW(n:Nat)(s:Bs):Bs:=(List.replicate n s).flatten
theorem AJ1(n:Nat)(s:Bs):pW (n+1) s=s++pW n s:=by simp[pW,List.replicate_succ]
theorem AXJ(n:Nat)(s:Bs):pW (n+1) s=pW n s++s:=by
 induction n with
 |zero=>simp[pW]
 |succ n ih=>rw[AJ1 (n+1),ih,<-List.append_assoc,<-AJ1,ih]
theorem AFE(n:Nat)(s:Bs):(pW n s).length=n*s.length:=by
 induction n with
 |zero=>simp[pW]
 |succ n ih=>rw[AJ1,List.length_append,ih,Nat.succ_mul];omega
theorem AOD{s:Bs}{l:List Tok}(h:∀r ts,NZ r ts->NZ (s++r) (l++ts)){r:Bs}{ts:List Tok}(hr:NZ r ts):∀n,NZ (pW n s++r) (TM n l++ts)
 |0=>hr
 |n+1=>by rw[AJ1,zI,List.append_assoc,List.append_assoc];exact h _ _ (AOD h hr n)
theorem Y1{l:Bs}(h:decide (l∈Rt)=true):Wf (W l):=.word (of_decide_eq_true h)
def nameB(p:UInt8->Bool)(l:Bs):Bool:=(match l with|[]=>false|c::_=>p c)&&l.all inner&&decide (l.length<=40)
theorem AL5{p:UInt8->Bool}{l:Bs}(h:nameB p l=true):AJu p l:=by
 simp only[nameB,Bool.and_eq_true,decide_eq_true_eq]at h
 refine⟨?_,List.all_eq_true.1 h.1.2,h.2⟩
 cases l with
 |nil=>exact absurd h.1.1 (by simp)
 |cons c t=>exact⟨c,t,rfl,h.1.1⟩
theorem Ade{l:Bs}(h:nameB great l=true):Wf (U l):=.upper (AL5 h)
theorem AXe{l:Bs}(h:(nameB small l&& !decide (l∈Rt))=true):Wf (L l):=by
 simp only[Bool.and_eq_true,Bool.not_eq_true']at h
 exact .lower (AL5 h.1) (of_decide_eq_false h.2)
def tlB:Bs:=[32,125,32,125]
theorem AQ2:NZ tlB [M m_rc,M m_rc,Q7]:=U2 ZK (sU (m:=m_rc) (r:=[32]++m_rc) (by decide) (U2 ZK (sU (m:=m_rc) (r:=[]) (by decide) (AVO AOQ))))
theorem Adc:Wf (N [49] 1):=.num (by simp) (by decide) rfl
def w_q:Bs:=[113]
def pN(i:Nat):Bs:=[112,UInt8.ofNat (97+i/16),UInt8.ofNat (97+i%16)]
def pV(i:Nat):Va:=⟨pN i,⟨G5,false⟩⟩
def pVs:Nat->Nat->List Va
 |_,0=>[]
 |i,k+1=>pV i::pVs (i+1) k
def pT(i:Nat):List Tok:=(bif decide (0<i)then[M LX]else[])++[W G5,L (pN i)]
def pTs:Nat->Nat->List Tok
 |_,0=>[]
 |i,k+1=>pT i++pTs (i+1) k
def ifT:List Tok:=[W dX,W Zm,M Rz,W aH,W G5,L w_q,M PV,N [49] 1,M Gz,M m_rc]
def ifS:St:=.mk 4 [] fK [.mk 2 0 [] [] false []] [.mk 1 w_q ⟨G5,false⟩ [.mk 1 1 [] [] false []] [] []] []
def zO:List Tok:=[W Pg,N [48] 0,M Gz]
def AU2:St:=.mk 6 [] fK [.mk 1 0 [] [] false []] [] []
theorem AWv:∀(k i g:Nat) (out:List Va) (v:Tok) (q:List Tok),out.length=i->i+k<=200->N8 (g+k+1) out (S.of (pTs i k++M Ov::v::q) 0)=some (out++pVs i k,⟨v,q,0,0⟩)
 |0,i,g,out,v,q,_,_=>by
  show N8 (g+1) out ⟨M Ov,v::q,0,0⟩=_
  unfold N8
  rw[AHb]
  simp[S.ok,pVs]
 |k+1,i,g,out,v,q,hi,h=>by
  have hm:Ls (out.length+1)=λs=>s:=by funext s;unfold Ls;rw[show decide (200<out.length+1)=false by simp;omega];rfl
  have key:∀(u:Tok) (r:List Tok),S.of (pTs (i+1) k++M Ov::v::q) 0=⟨u,r,0,0⟩->QX zF ⟨u,r,0,0⟩=false->True:=λ_ _ _ _=>trivial
  obtain⟨u,r,hu⟩:∃u r,pTs (i+1) k++M Ov::v::q=u::r:=by
   cases h:pTs (i+1) k++M Ov::v::q with
   |nil=>simp at h
   |cons u r=>exact⟨u,r,rfl⟩
  have ih:=AWv k (i+1) g (out++[pV i]) v q (by simp[hi]) (by omega)
  rw[hu]at ih
  show N8 (g+k+1+1) out (S.of (pT i++pTs (i+1) k++M Ov::v::q) 0)=_
  rw[List.append_assoc,hu]
  have body:∀s1:S,s1=⟨W G5,L (pN i)::u::r,0,0⟩->((wV s1).bind λt=>(Jh 3 t.2).bind λn=>N8 (g+k+1) (out++[⟨n.1,t.1⟩]) (Ls (out.length+1) n.2))=some (out++pVs i (k+1),⟨v,q,0,0⟩):=by
   rintro _ rfl
   rw[AJG rfl]
   show((Jh 3 ⟨L (pN i),u::r,0,0⟩).bind λn=>_)=_
   rw[ANR]
   show N8 (g+k+1) (out++[pV i]) (Ls (out.length+1) ⟨u,r,0,0⟩)=_
   rw[hm]
   show N8 (g+k+1) (out++[pV i]) (S.of (u::r) 0)=_
   rw[ih,List.append_assoc];rfl
  have go:∀s0:S,S.ok s0=true->QX Ov s0=false->((bif decide (0<out.length)then D7 [LX] s0 else some s0).bind λs1=>(wV s1).bind λt=>(Jh 3 t.2).bind λn=>N8 (g+k+1) (out++[⟨n.1,t.1⟩]) (Ls (out.length+1) n.2))=some (out++pVs i (k+1),⟨v,q,0,0⟩)->
   N8 (g+k+1+1) out s0=some (out++pVs i (k+1),⟨v,q,0,0⟩):=λs0 h1 h2 h3=>by
   rw[N8,h1,jX h2]
   exact h3
  by_cases h0:0<i
  ·unfold pT
   rw[show decide (0<i)=true by simpa using h0]
   refine go ⟨M LX,W G5::L (pN i)::u::r,0,0⟩ rfl (by rw[VA];decide) ?_
   rw[show decide (0<out.length)=true by simpa[hi]using h0]
   show((D7 [LX] ⟨M LX,W G5::L (pN i)::u::r,0,0⟩).bind λs1=>_)=_
   rw[gI]
   exact body _ rfl
  ·have e0:decide (0<i)=false:=by simpa using h0
   unfold pT
   rw[e0]
   refine go ⟨W G5,L (pN i)::u::r,0,0⟩ rfl (by rw[TA];decide) ?_
   rw[show decide (0<out.length)=false by rw[hi];exact e0]
   exact body _ rfl
theorem AXa{f d:Nat}{u:Tok}{r:List Tok}(h:QX zC ⟨u,r,d,0⟩=false)(hd:d<90):sc (f+12) false (S.of (ifT++u::r) d)=some (ifS,⟨u,r,d,0⟩):=by
 rw[AZF]
 show AFy (sc (f+11) false) (sc (f+11) true) (f+11) ⟨W dX,W Zm::M Rz::W aH::W G5::L w_q::M PV::N [49] 1::M Gz::M m_rc::u::r,d,0⟩=_
 rw[AVi,Adf]
 unfold AEB
 rw[AA2 (by omega)]
 show((D7 [dX] ⟨W dX,W Zm::M Rz::W aH::W G5::L w_q::M PV::N [49] 1::M Gz::M m_rc::u::r,d+1,0⟩).bind λs2=>_)=_
 rw[AHi]
 have e1:∀q,expr (f+10) ⟨W Zm,M Rz::q,d+1,0⟩=some (.mk 2 0 [] [] false [],⟨M Rz,q,d+1,0⟩):=λq=>
  AB7 (f:=f+8) (AA2 (by omega)) (pq (f:=f+7) rfl rfl (yj APn (λw hw=>by rw[VA];revert w;decide)) (λw hw=>by rw[VA];revert w;decide)) (λw hw=>by rw[VA];revert w;decide) (AHq (by omega))
 show((expr (f+10) ⟨W Zm,M Rz::W aH::W G5::L w_q::M PV::N [49] 1::M Gz::M m_rc::u::r,d+1,0⟩).bind λc=>_)=_
 rw[e1]
 have e2:∀q,expr (f+8) ⟨N [49] 1,M Gz::q,d+2,0⟩=some (.mk 1 1 [] [] false [],⟨M Gz,q,d+2,0⟩):=λq=>ANA (f:=f+4) (by omega)
 have st:∀(x:Tok) (q:List Tok),sc (f+10) false ⟨W aH,W G5::L w_q::M PV::N [49] 1::M Gz::x::q,d+2,0⟩=some (.mk 1 w_q ⟨G5,false⟩ [.mk 1 1 [] [] false []] [] [],⟨x,q,d+2,0⟩):=λx q=>by
  rw[show f+10=f+9+1 from rfl,AZF,AQz,AJG rfl,Option.bind_some]
  dsimp only
  rw[ANR,Option.bind_some]
  dsimp only
  rw[gI,Option.bind_some,show f+9=(f+5)+4 from rfl,ANA (by omega),Option.bind_some]
  exact ARl
 have bl:Zx (sc (f+10) false) (f+10) ⟨M Rz,[W aH,W G5,L w_q,M PV,N [49] 1,M Gz,M m_rc]++u::r,d+1,0⟩=some ([.mk 1 w_q ⟨G5,false⟩ [.mk 1 1 [] [] false []] [] []],⟨u,r,d+1,0⟩):=by
  refine AHj (by omega) ?_ (AHq (by omega))
  show J3 (sc (f+10) false) (f+10) [] ⟨W aH,W G5::L w_q::M PV::N [49] 1::M Gz::M m_rc::u::r,d+2,0⟩=_
  rw[show J3 (sc (f+10) false) (f+10)=J3 (sc (f+10) false) (f+9+1)from rfl,TK (by rw[TA];decide) (by decide) (st (M m_rc) (u::r))]
  rw[show J3 (sc (f+10) false) (f+9)=J3 (sc (f+10) false) (f+8+1)from rfl,AKe];rfl
 show((Zx (sc (f+10) false) (f+10) ⟨M Rz,[W aH,W G5,L w_q,M PV,N [49] 1,M Gz,M m_rc]++u::r,d+1,0⟩).bind λt=>_)=_
 rw[bl]
 show((Dk zC ⟨u,r,d+1,0⟩).bind λp=>_)=_
 rw[jX (by simpa[QX,S.ok]using h)]
 show((upS ⟨u,r,d+1,0⟩).bind λs'=>_)=_
 rw[AHq (by omega)];rfl
theorem AW7:∀(n f g:Nat) (out:List St) (v:Tok) (q:List Tok),out.length+n<100000->
 J3 (sc (f+12) false) (g+n+3) out (S.of (TM n ifT++(zO++M m_rc::v::q)) 1)=some (out++List.replicate n ifS++[AU2],⟨v,q,1,0⟩)
 |0,f,g,out,v,q,hl=>by
  show J3 (sc (f+12) false) (g+2+1) out ⟨W Pg,N [48] 0::M Gz::M m_rc::v::q,1,0⟩=_
  rw[TK (s':=⟨M m_rc,v::q,1,0⟩) (a:=AU2) (by rw[TA];decide) (by omega) (by
   rw[show f+12=f+11+1 from rfl,AZF,ARt,show f+11=f+7+4 from rfl,ANA (by omega)]
   exact ARl),show g+2=g+1+1 from rfl,AKe]
  simp
 |n+1,f,g,out,v,q,hl=>by
  obtain⟨u,r,hu⟩:∃u r,TM n ifT++(zO++M m_rc::v::q)=u::r/\QX m_rc ⟨u,r,1,0⟩=false/\QX zC ⟨u,r,1,0⟩=false:=by
   cases n with
   |zero=>exact⟨W Pg,N [48] 0::M Gz::M m_rc::v::q,rfl,by rw[TA];decide,by rw[TA];decide⟩
   |succ n=>exact⟨W dX,(ifT.tail++TM n ifT)++(zO++M m_rc::v::q),by rw[zI];rfl,by rw[TA];decide,by rw[TA];decide⟩
  rw[zI,List.append_assoc,hu.1]
  show J3 (sc (f+12) false) (g+n+3+1) out ⟨W dX,_,1,0⟩=_
  rw[TK (s':=⟨u,r,1,0⟩) (a:=ifS) (by rw[TA];decide) (by omega) (AXa hu.2.2 (by omega))]
  have:=AW7 n f g (out++[ifS]) v q (by simp;omega)
  rw[hu.1]at this
  rw[show(⟨u,r,1,0⟩:S)=S.of (u::r) 1 from rfl,this]
  simp[List.replicate_succ]
def AH2(n:Nat):List St:=List.replicate n ifS++[AU2]
def AY0(n p:Nat):Cl:=⟨[65],[],[],[⟨[109],false,pVs 0 p,⟨G5,false⟩,AH2 n⟩]⟩
def AYj(n p:Nat):List Tok:=[W kV,U [65],M Rz,W Il,W G5,L [109],M VZ]++(pTs 0 p++M Ov::M Rz::(TM n ifT++(zO++[M m_rc,M m_rc,Q7])))
theorem AQT{n p:Nat}(hn:n<1000)(hp:p<=200):AJB 2000 (AYj n p)=some (AY0 n p,0):=by
 have hm:Yn 2000 ⟨W Il,[W G5,L [109],M VZ]++(pTs 0 p++M Ov::M Rz::(TM n ifT++(zO++[M m_rc,M m_rc,Q7]))),0,0⟩=some (⟨[109],false,pVs 0 p,⟨G5,false⟩,AH2 n⟩,⟨M m_rc,[Q7],0,0⟩):=by
  unfold Yn
  rw[jX (by rw[TA];decide)]
  rw[Option.bind_some]
  dsimp only
  rw[show([W G5,L [109],M VZ]++(pTs 0 p++M Ov::M Rz::(TM n ifT++(zO++[M m_rc,M m_rc,Q7]))))=W G5::L [109]::M VZ::(pTs 0 p++M Ov::M Rz::(TM n ifT++(zO++[M m_rc,M m_rc,Q7])))from rfl]
  rw[AHi,Option.bind_some]
  rw[AJG rfl,Option.bind_some]
  dsimp only
  rw[ANR,Option.bind_some]
  dsimp only
  obtain⟨u,r,hu⟩:∃u r,pTs 0 p++M Ov::M Rz::(TM n ifT++(zO++[M m_rc,M m_rc,Q7]))=u::r:=by
   cases h:pTs 0 p++M Ov::M Rz::(TM n ifT++(zO++[M m_rc,M m_rc,Q7]))with
   |nil=>simp at h
   |cons u r=>exact⟨u,r,rfl⟩
  have hpar:=AWv p 0 (1999-p) [] (M Rz) (TM n ifT++(zO++[M m_rc,M m_rc,Q7])) rfl (by omega)
  rw[hu,show 1999-p+p+1=2000 by omega]at hpar
  rw[hu,gI,Option.bind_some]
  rw[show(⟨u,r,0,0⟩:S)=S.of (u::r) 0 from rfl,hpar,Option.bind_some]
  dsimp only
  obtain⟨u2,r2,hu2⟩:∃(u:Tok) (r:List Tok),TM n ifT++(zO++[M m_rc,M m_rc,Q7])=u::r:=by
   cases n with
   |zero=>exact⟨W Pg,N [48] 0::M Gz::[M m_rc,M m_rc,Q7],rfl⟩
   |succ n=>exact⟨W dX,(ifT.tail++TM n ifT)++(zO++[M m_rc,M m_rc,Q7]),by rw[zI];rfl⟩
  have hb:=AW7 n 1988 (1997-n) [] (M m_rc) [Q7] (by simp;omega)
  rw[hu2,show 1997-n+n+3=2000 by omega]at hb
  rw[hu2,AHj (by omega) hb (AHq (by omega))]
  rfl
 refine(ATK (f:=2000) (l:=[65]) (u:=W Il) (s:=⟨Q7,[],0,0⟩) (x:=([],[⟨[109],false,pVs 0 p,⟨G5,false⟩,AH2 n⟩])) ?_).trans rfl
 exact(ANO (f:=2000) (g:=1999) (fs:=[]) (ms:=[]) (s':=⟨M m_rc,[Q7],0,0⟩) hm).trans rfl
def p1B(i:Nat):Bs:=[105,110,116,32,112]++[UInt8.ofNat (97+i/16),UInt8.ofNat (97+i%16)]
def cmB(i:Nat):Bs:=bif decide (0<i)then[44,32]else[]
def psB:Nat->Nat->Bs
 |_,0=>[]
 |i,k+1=>cmB i++(p1B i++psB (i+1) k)
def ifB:Bs:=[105,102,32,116,114,117,101,32,123,32,108,101,116,32,105,110,116,32,113,32,61,32,49,59,32,125,32]
def ALg:Bs:=[99,108,97,115,115,32,65,32,123,32,109,101,116,104,111,100,32,105,110,116,32,109,40]
def AHC:Bs:=[41,32,123,32]
def ADY:Bs:=[32,114,101,116,117,114,110,32,48,59,32,125,32,125]
def APb(n p:Nat):Bs:=ALg++(psB 0 p++(AHC++(pW n ifB++ADY)))
theorem AbF:∀i,i<32->(nameB small (pN i)&& !decide (pN i∈Rt))=true:=by decide
theorem ASS:∀(k i:Nat) {r:Bs} {ts:List Tok},i+k<=32->NZ (41::r) ts->NZ (psB i k++41::r) (pTs i k++ts)
 |0,_,_,_,_,h=>h
 |k+1,i,r,ts,hi,h=>by
  have ih:=ASS k (i+1) (by omega) h
  have hs:ARA (L (pN i)) (psB (i+1) k++41::r)=true:=by
   cases k with
   |zero=>rfl
   |succ k=>
    show ARA (L (pN i)) ((cmB (i+1)++(p1B (i+1)++psB (i+2) k))++41::r)=true
    unfold cmB
    rw[show decide (0<i+1)=true by simp];rfl
  have h2:NZ (pN i++(psB (i+1) k++41::r)) (L (pN i)::(pTs (i+1) k++ts)):=AHg (t:=L (pN i)) (AXe (AbF i (by omega))) hs ih
  have h3:NZ (p1B i++(psB (i+1) k++41::r)) (W G5::L (pN i)::(pTs (i+1) k++ts)):=lY (t:=W G5) (Y1 (by decide)) h2
  show NZ ((cmB i++(p1B i++psB (i+1) k))++41::r) ((pT i++pTs (i+1) k)++ts)
  rw[List.append_assoc,List.append_assoc,List.append_assoc]
  unfold cmB pT
  cases decide (0<i)with
  |false=>exact h3
  |true=>exact sU (m:=LX) (by decide) (U2 ZK h3)
theorem AXg{r:Bs}{ts:List Tok}(h:NZ r ts):NZ (ifB++r) (ifT++ts):=
 lY (t:=W dX) (Y1 (by decide)) <| lY (t:=W Zm) (Y1 (by decide)) <| sU (m:=Rz) (by decide) <| U2 ZK <|
 lY (t:=W aH) (Y1 (by decide)) <| lY (t:=W G5) (Y1 (by decide)) <| lY (t:=L w_q) (AXe (by decide)) <| lY (t:=M PV) (.mark (by decide)) <|
 AHg (t:=N [49] 1) Adc rfl <| sU (m:=Gz) (by decide) <| U2 ZK <| sU (m:=m_rc) (by decide) <| U2 ZK h
theorem AdX:Wf (N [48] 0):=.num (by simp) (by decide) rfl
theorem AUB:NZ ADY (zO++[M m_rc,M m_rc,Q7]):=
 U2 ZK <| lY (t:=W Pg) (Y1 (by decide)) <| AHg (t:=N [48] 0) AdX rfl <| sU (m:=Gz) (by decide) AQ2
theorem AT5{n p:Nat}(hp:p<=32):NZ (APb n p) (AYj n p):=by
 have h1:NZ (pW n ifB++ADY) (TM n ifT++(zO++[M m_rc,M m_rc,Q7])):=AOD (λ_ _ h=>AXg h) AUB n
 have h2:NZ (AHC++(pW n ifB++ADY)) (M Ov::M Rz::(TM n ifT++(zO++[M m_rc,M m_rc,Q7]))):=
  sU (m:=Ov) (by decide) <| U2 ZK <| sU (m:=Rz) (by decide) <| U2 ZK h1
 have h3:=ASS p 0 (by omega) h2
 exact lY (t:=W kV) (Y1 (by decide)) <| lY (t:=U [65]) (Ade (by decide)) <| sU (m:=Rz) (by decide) <| U2 ZK <|
  lY (t:=W Il) (Y1 (by decide)) <| lY (t:=W G5) (Y1 (by decide)) <| AHg (t:=L [109]) (AXe (by decide)) rfl <| sU (m:=VZ) (by decide) h3
theorem AEM:∀(k i:Nat),(psB i k).length<=9*k
 |0,_=>by simp[psB]
 |k+1,i=>by
  have:=AEM k (i+1)
  show(cmB i++(p1B i++psB (i+1) k)).length<=_
  have h1:(cmB i).length<=2:=by unfold cmB;cases decide (0<i)<;>simp
  have h2:(p1B i).length=7:=rfl
  rw[List.length_append,List.length_append];omega
theorem AU7{n p:Nat}(hn:n<=1000)(hp:p<=32):(APb n p).length<=65536:=by
 unfold APb
 have h1:=AEM p 0
 have h2:=AFE n ifB
 have h3:ifB.length=27:=rfl
 rw[h3]at h2
 simp only[List.length_append]
 have e1:ALg.length=23:=rfl
 have e2:AHC.length=4:=rfl
 have e3:ADY.length=14:=rfl
 omega
end Go.PQ
namespace Go.RL
open Go.Bj
set_option maxRecDepth 100000
abbrev nQ:St:=(1,113)
def AMB(of:Ty):Te:=.mk 2 0 (0,0) t0 of (0,0) []
def AQL(n:Nat)(of:Ty):Te:=.mk 1 n (0,0) t0 of (0,0) []
def ALY(of:Ty):Tt:=.mk 1 nQ DZ [AQL 1 of] [] []
def ifN(b i:Ty):Tt:=.mk 4 (0,0) t0 [AMB b] [ALY i] []
def wC(of:Ty):Tt:=.mk 6 (0,0) t0 [AQL 0 of] [] []
theorem AUF(n:Nat):AII (PQ.AH2 n)=List.replicate n (ifN t0 t0)++[wC t0]:=by
 unfold PQ.AH2
 induction n with
 |zero=>rfl
 |succ n ih=>
  rw[List.replicate_succ,List.replicate_succ]
  show stN PQ.ifS::AII (List.replicate n PQ.ifS++[PQ.AU2])=_
  rw[ih];rfl
section
variable{x:Kx}{Γ:List ER}
theorem APQ:ckE x Γ (AMB t0)=some (AMB Df):=by rw[AMB,ckE,ckL];rfl
theorem AMQ(n:Nat):ckE x Γ (AQL n t0)=some (AQL n DZ):=by rw[AQL,ckE,ckL];rfl
theorem AYF(hk:DR x.tb DZ=true)(hf:fitsT x.tb DZ DZ=true)(hq:JF nQ Γ=none){a:Nat}(ha:a<200):ckS x (ALY t0) (Γ,a)=some (ALY DZ,(Γ++[⟨nQ,DZ⟩],a+1)):=by
 rw[ALY,ckS,hk,ckL,AMQ,ckL]
 show((AGl x 1 nQ DZ [DZ] (Γ,a)).bind λg1=>_)=_
 have e:AGl x 1 nQ DZ [DZ] (Γ,a)=some (Γ++[⟨nQ,DZ⟩],a+1):=by
  show(bif fitsT x.tb DZ DZ then AMN ⟨nQ,DZ⟩ (Γ,a)else none)=_
  rw[hf]
  show(bif (JF nQ Γ).isNone&&decide (a<200)then some (Γ++[⟨nQ,DZ⟩],a+1)else none)=_
  rw[hq,show decide (a<200)=true by simpa using ha];rfl
 rw[e];rfl
theorem AW9(hk:DR x.tb DZ=true)(hf:fitsT x.tb DZ DZ=true)(hq:JF nQ Γ=none){a:Nat}(ha:a<200):ckS x (ifN t0 t0) (Γ,a)=some (ifN Df DZ,(Γ,a+1)):=by
 rw[ifN,ckS,ckL,APQ,ckL]
 show((AGl x 4 (0,0) t0 [Df] (Γ,a)).bind λg1=>_)=_
 have e:AGl x 4 (0,0) t0 [Df] (Γ,a)=some (Γ,a):=rfl
 rw[e]
 show((uU x [ALY t0] (Γ,a)).bind λp=>_)=_
 have b:uU x [ALY t0] (Γ,a)=some ([ALY DZ],a+1):=by
  rw[uU,AYF hk hf hq ha]
  show((uU x [] (Γ++[⟨nQ,DZ⟩],a+1)).map λq=>_)=_
  rw[uU];rfl
 rw[b]
 show((uU x [] (Γ,a+1)).map λq=>_)=_
 rw[uU];rfl
theorem AXd(hf:fitsT x.tb DZ x.ret=true){a:Nat}:ckS x (wC t0) (Γ,a)=some (wC DZ,(Γ,a)):=by
 rw[wC,ckS,ckL,AMQ,ckL]
 show((AGl x 6 (0,0) t0 [DZ] (Γ,a)).bind λg1=>_)=_
 have e:AGl x 6 (0,0) t0 [DZ] (Γ,a)=some (Γ,a):=by
  show(bif fitsT x.tb DZ x.ret then some (Γ,a)else none)=_
  rw[hf];rfl
 rw[e];rfl
theorem APE(hk:DR x.tb DZ=true)(hf:fitsT x.tb DZ DZ=true)(hr:fitsT x.tb DZ x.ret=true)(hq:JF nQ Γ=none):∀(n a:Nat),a+n<=200->
 uU x (List.replicate n (ifN t0 t0)++[wC t0]) (Γ,a)=some (List.replicate n (ifN Df DZ)++[wC DZ],a+n)
 |0,a,_=>by
  show uU x [wC t0] (Γ,a)=_
  rw[uU,AXd hr]
  show((uU x [] (Γ,a)).map λq=>_)=_
  rw[uU];rfl
 |n+1,a,h=>by
  rw[List.replicate_succ,List.cons_append,uU,AW9 hk hf hq (by omega)]
  show((uU x (List.replicate n (ifN t0 t0)++[wC t0]) (Γ,a+1)).map λq=>_)=_
  rw[APE hk hf hr hq n (a+1) (by omega)]
  show some (_,a+1+n)=_
  rw[show a+1+n=a+(n+1)by omega,List.replicate_succ];rfl
end
def tyN:Ty:=⟨(0,0),false⟩
def nA:St:=(1,65)
def nB:St:=(1,66)
def n_x:St:=(1,120)
def AYB:St:=(4,1954047342)
def AcG:St:=(2,29560)
def AYo:St:=(4,1734437990)
def AZ0:St:=(3,7628135)
def AZJ:St:=(4,1718379891)
def AZ2:St:=(3,7173491)
def AXM:St:=(4,1852399981)
def tA:Ty:=⟨nA,false⟩
def tIs:Ty:=⟨DZ.nm,true⟩
def Aax:FN:=⟨AZ0,false,[DZ],DZ⟩
def AaF:FN:=⟨AZJ,false,[],tA⟩
def AbY:FN:=⟨AZ2,true,[DZ,tA],DZ⟩
def Aak:FN:=⟨AXM,true,[DZ,DZ],DZ⟩
def Abq:Fc:=⟨nA,(0,0),[⟨AYB,tA⟩,⟨n_x,DZ⟩,⟨AcG,tIs⟩],[Aax,Aak,AaF,AbY]⟩
def AZm(g s:Bool):Fc:=⟨nB,nA,[⟨AYo,Df⟩],(bif g then[Aax]else[])++(bif s then[AbY]else[])⟩
structure AbZ(tb:Tab):Prop where
 a:JV tb nA=some Abq
 b:∃g s,JV tb nB=some (AZm g s)
 two:2<=tb.length
section
variable{tb:Tab}(h:AbZ tb)
include h
end
structure Okx(inn:St)(x:Kx):Prop where
 tb:AbZ x.tb
 inn:inn≠(0,0)->x.st=false/\x.cls=inn
def Gd(inn:St)(Γ:List ER)(e:Te)(t:Ty):Prop:=∀x,Okx inn x->∃e',ckE x Γ e=some e'/\e'.of=t
section
variable{inn:St}{Γ:List ER}
variable{n:Nat}{nm:St}{ty of:Ty}{a b:Te}
end
section
variable{inn:St}{ret:Ty}{Γ Γ':List ER}{nm:St}{ty:Ty}
end
end Go.RL
namespace Go.RL
open Go.Bj
set_option maxRecDepth 100000
structure Mg where
 vp:V
 at':Nat
 vv:V
 names:Nat
 inn:St
def Mg.cells(s:Mg):LV:=[s.vp,.int .i64 (.ofNat s.at') 0,s.vv,.int .i64 (.ofNat s.names) 0,s.inn.v]
def Mg.to(s:Mg)(a:Nat):Mg:={s with at':=a}
theorem UE{H:Heap}{n m b off:Nat}{L0:LV}{v:V}{P:KV}(g:T.get H b=some (one L0))(hv:Wi v=true)(hn:(BA v).length=m)(hm:0<m)(hl:off+m<=L0.length)
 (h:∀H',T.get H' b=some (one (L0.take off++(BA v++L0.drop (off+m))))->(∀j,j≠b->T.get H' j=T.get H j)->P .undef H' n):Bd m (.ptr b off) v H n P:=by
 rw[AJt g hv hn hm hl];exact h _ (T.Au ..) λj hj=>T.Ad _ _ (Ne.symm hj)
theorem Bz(i o:Nat):Ae (.ptr i o)=some (.ptr i o):=rfl
section
variable{G:AV}{H:Heap}{n gp:Nat}{s:Mg}{k:KV}
abbrev teZ:LV:=[.int .i64 (.ofNat 0) 0,.int .i64 (.ofNat 0) 0,.int .i64 (.ofNat 0) 0,.int .i64 (.ofNat 0) 0,.str 0 0,.str 0 0,.bool false,.Af,.str 0 0,.bool false,.str 0 0]
end
theorem FM(a b:Nat):B2.ev .lss (.int .i64 (.ofNat a) 0) (.int .i64 (.ofNat b) 0)=some (.bool (decide (a<b))):=AF5 ..
theorem AaM{e:Option V}{a:V}{P:Prop}(hp:P):AJw (.bool true) false e a P:=hp
theorem Aas{e:Option V}{a:V}{P:Prop}(hp:P):AJw (.bool false) true e a P:=hp
section
variable{G:AV}{H:Heap}{n gp:Nat}{s:Mg}{Γ:List ER}{k:KV}
end
def Rg(a b:Nat):Nat->Prop:=λid=>a<=id/\id<b
def cst:Nat->Nat
 |0=>10
 |d+1=>10+3*cst d
section
variable{G:AV}{H:Heap}{n a:Nat}{P:KV}{Z:LV}
end
section
variable{G:AV}{H:Heap}{n gp:Nat}{s:Mg}{Γ:List ER}{k:KV}
end
theorem AbD(d:Nat)(hd:d<1000):B2.ev .sub (.int .i64 (.ofNat (d+1)) 0) (.int .i64 (.ofNat 1) 0)=some (.int .i64 (.ofNat d) 0):=AX7 (a:=d+1) (b:=1) (by omega) (by omega)
section
variable{G:AV}{H:Heap}{n gp d b:Nat}{s:Mg}{Γ:List ER}{k:KV}
end
section
variable{G:AV}{H:Heap}{n gp d:Nat}{s:Mg}{Γ:List ER}{k:KV}
end
def ws4:List St:=[AGE,AEe,ACF,ACA]
section
variable{G:AV}{H:Heap}{n gp d b:Nat}{s:Mg}{Γ:List ER}{k:KV}
end
section
variable{G:AV}{H:Heap}{n gp d:Nat}{s:Mg}{Γ:List ER}{k:KV}
end
section
variable{G:AV}{H:Heap}{n gp d b c:Nat}{s:Mg}{Γ:List ER}{k:KV}
end
section
variable{G:AV}{H H0:Heap}{n gp d b a0:Nat}{s:Mg}{Γ:List ER}{k:KV}{t:Ty}
end
theorem AX1{b:Bool}{e:Option V}{P:V->Prop}(h:P (.EI [])):BX (.EI []) b e P:=h
section
variable{G:AV}{H:Heap}{n gp d:Nat}{s:Mg}{Γ:List ER}{k:KV}{t:Ty}
end
section
variable{G:AV}{H H0:Heap}{n gp d b a0:Nat}{s:Mg}{Γ:List ER}{k:KV}{t:Ty}
end
theorem ATB{b:Bool}{t:KV->Prop}{H:Heap}{n:Nat}{Q:KV}(h:Q (.EI []) H n):Le (.EI []) b t H n Q:=h
section
variable{G:AV}{gp:Nat}
end
section
variable{G:AV}{H:Heap}{n gp:Nat}{s:Mg}{Γ:List ER}{k:KV}
abbrev ttZ:LV:=[.int .i64 (.ofNat 0) 0,.int .i64 (.ofNat 0) 0,.int .i64 (.ofNat 0) 0,.str 0 0,.str 0 0,.bool false,.Af,.Af,.Af]
end
def Mg.st(s:Mg)(a nm:Nat)(vv:V):Mg:={s with at':=a,names:=nm,vv:=vv}
def Sd(n:Nat)(v v':V):Prop:=v'.Dl=v.Dl∨∀id,v'.Dl=some id->n<=id
theorem Sd.refl(n:Nat)(v:V):Sd n v v:=.inl rfl
theorem Sd.trans{n n':Nat}{v v' v'':V}(h:Sd n v v')(h':Sd n' v' v'')(hn:n<=n'):Sd n v v'':=by
 rcases h' with h'|h'
 ·rcases h with h|h
  ·exact .inl (h'.trans h)
  ·exact .inr λid hid=>h id (h'.symm.trans hid)
 ·exact .inr λid hid=>Nat.le_trans hn (h' id hid)
def Rv(a b:Nat)(v:V):Nat->Prop:=λid=>a<=id/\id<b/\v.Dl≠some id
theorem Sk.ks{H:Heap}{z:Nat}{A:Nat->Prop}{v:V}{LS:CJ}(h:Sk H z A v LS):KS v:=by
 cases h with
 |nil=>exact vK
 |emp=>exact aT (Nat.le_refl _)
 |G6=>exact AFX ..
structure Bs(H:Heap)(n b gp:Nat)(t:Ty):Prop where
 b1:T.get H b=some (one t.cells)
 b2:T.get H (b+1)=some (one ttZ)
 le:b+2<=n
 g:gp<b
section
variable{G:AV}{H H0:Heap}{n gp b:Nat}{s:Mg}{Γ:List ER}{k:KV}{t:Ty}
end
theorem AVh{x:Nat}(h:x<256):Go.Bj.byteOf (.int .u8 (.ofNat x) 0)=some x:=by
 show Bool.rec (motive:=λ_=>Option Nat) none (some x) (band true (band (Nat.blt x 256) true))=_
 rw[show Nat.blt x 256=true by rw[Nat.blt_eq];exact h];rfl
def AO4:List Nat->Nat
 |[]=>0
 |x::l=>x+256*AO4 l
theorem APT:∀xs:List Nat,(∀x∈xs,x<256)->yM (xs.map λx=>[V.int .u8 (.ofNat x) 0])=some (AO4 xs)
 |[],_=>rfl
 |x::xs,h=>by
  show Bl (Go.Bj.byteOf (.int .u8 (.ofNat x) 0)) (λm=>Bl (yM (xs.map λx=>[V.int .u8 (.ofNat x) 0])) λc=>some (m+256*c))=_
  rw[AVh (h x (List.mem_cons_self ..)),QJ,APT xs λy hy=>h y (List.mem_cons_of_mem _ hy)];rfl
theorem AaD{G:AV}{H:Heap}{id m:Nat}{xs:List Nat}(h:El G H (.sl id 0 m m 1) 1 (xs.map λx=>[V.int .u8 (.ofNat x) 0]))(hx:∀x∈xs,x<256):AYu (.sl id 0 m m 1) G H=some (.str xs.length (AO4 xs)):=by
 show Bl (elems (.sl id 0 m m 1) G H 1) (λl=>Bl (yM l) λc=>f3 (len l) c 0 λn c _=>.str n c)=_
 rw[h.2,QJ,APT xs hx,QJ]
 show CW (len _) (λa=>CW (AO4 xs) λb=>CW 0 λ_=>some (.str a b))=_
 rw[BP,BP,BP,len_eq,List.length_map]
section
variable{G:AV}{H H0:Heap}{n gp b:Nat}{s:Mg}{Γ:List ER}{k:KV}{t:Ty}
end
theorem KS.ok{G:AV}{H:Heap}{A:Nat->Prop}{v:V}{sts:List Tt}(h:Oc G H A v sts):Wi v=true/\BA v=[v]:=by
 obtain⟨cs,_,_,h1,h2,_⟩:=h;exact⟨h1,h2⟩
section
variable{G:AV}{H:Heap}{n gp b:Nat}{s:Mg}{Γ:List ER}{k:KV}{t:Ty}
end
section
variable{G:AV}{H H0:Heap}{n gp b:Nat}{s:Mg}{Γ:List ER}{k:KV}{t:Ty}
end
section
variable{G:AV}{H H0:Heap}{n gp b:Nat}{s:Mg}{Γ:List ER}{k:KV}{t:Ty}
end
section
variable{G:AV}{H H0:Heap}{n gp b:Nat}{s:Mg}{Γ:List ER}{k:KV}{t:Ty}
end
section
variable{G:AV}{H H0:Heap}{n gp b:Nat}{s:Mg}{Γ:List ER}{k:KV}{t:Ty}
end
section
variable{G:AV}{gp:Nat}
end
theorem Sk.cut{H:Heap}{z:Nat}{A:Nat->Prop}{v:V}{LS:CJ}{i:Nat}{q:IntKind}(h:Sk H z A v LS)(hi:i<=LS.length):∃v',ADx z v E0 none (some (.c (.int q (.ofNat i) 0))) none=some v'/\v'.Dl=v.Dl/\Sk H z A v' (LS.take i):=by
 cases h with
 |nil=>
  obtain rfl:i=0:=by simpa using hi
  exact⟨.Af,rfl,rfl,.nil⟩
 |emp hg ha=>
  rename_i id t
  obtain rfl:i=0:=by simpa using hi
  refine⟨.sl id 0 0 0 z,?_,rfl,.emp hg ha⟩
  show BF (Nat.beq z z) (BF (band (Nat.ble 0 0) (Nat.ble 0 0)) (f3 0 (0-0) (0-0) λo d e=>.sl id o d e z))=_
  rw[CQ];rfl
 |G6 hg hc ht ha=>
  rename_i id c t
  have hl:(LS.take i).length=i:=by rw[List.length_take];omega
  refine⟨.G6 id 0 i z,?_,rfl,?_⟩
  ·show BF (Nat.beq z z) (BF (band (Nat.ble 0 i) (Nat.ble i LS.length)) (f3 0 (i-0) 0 λo d _=>.G6 id o d z))=_
   rw[CQ,show Nat.ble 0 i=true by rw[Nat.ble_eq];omega,show Nat.ble i LS.length=true by rw[Nat.ble_eq];omega]
   show CW 0 (λa=>CW (i-0) λb=>CW 0 λ_=>some (.G6 id a b z))=_
   rw[BP,BP,BP,Nat.sub_zero]
  ·have:=Sk.G6 (z:=z) (LS:=LS.take i) hg (by rw[hl];omega) (λj L hj=>ht j L (by rw[List.getElem?_take]at hj;split at hj;exact hj;cases hj)) ha
   rw[hl]at this;exact this
theorem AOw{z:Nat}{Z:LV}{H:Heap}{n:Nat}{P:KV}(hz:0<z)(h:∀H',Kp H n H' (n+1)->(∃t,T.get H' n=some (.arr z 0 t))->P (.sl n 0 0 0 z) H' (n+1)):CB (Aj z 0 Z [] E0) H n P:=
 Ld (G:=λ_ _ _=>none) (vs:=[]) rfl hz (λv hv=>by cases hv) λH' f g _=>h H' f g
section
variable{G:AV}{gp:Nat}
end
theorem take_snoc{α:Type}{l:List α}{j:Nat}{a:α}(h:l[j]? =some a):l.take (j+1)=l.take j++[a]:=by
 rw[List.take_add_one,h];rfl
abbrev tmZ:LV:=[.int .i64 (.ofNat 0) 0,.int .i64 (.ofNat 0) 0,.str 0 0,.bool false,.Af,.str 0 0,.bool false,.Af]
section
variable{G:AV}{H0:Heap}{gp b:Nat}{s:Mg}{k:KV}{cls nm:St}{st:Bool}{ret:Ty}{ts:List Ty}
end
section
variable{G:AV}{H0:Heap}{gp b:Nat}{s:Mg}{k:KV}{cls nm:St}{st:Bool}{ret:Ty}{ts:List Ty}
end
structure Cl(G:AV)(H:Heap)(n gp c:Nat)(D:Nat->Prop)(nm sup:St)(fs:List ER)(ms:List Tm):Prop where
 lt:∀id,D id->gp<id/\id<n
 dc:D c
 ex:∃vf vm cs,T.get H c=some (one (tcC 0 0 nm sup vf vm))/\lF G H (λid=>D id/\id≠c/\vm.Dl≠some id) vf fs/\Sk H 8 (λid=>D id/\id≠c) vm cs/\PW G H (λid=>D id/\id≠c/\vm.Dl≠some id) cs ms
def Mg.z(vp:V)(a nms:Nat)(i:St):Mg:=⟨vp,a,.Af,nms,i⟩
section
variable{G:AV}
end
section
variable{G:AV}{H:Heap}{n gp c:Nat}{D:Nat->Prop}{cls cnm sup:St}{fs:List ER}{ms:List Tm}{vp:V}{a nms:Nat}{i:St}
end
abbrev tcZ:LV:=[.int .i64 (.ofNat 0) 0,.int .i64 (.ofNat 0) 0,.str 0 0,.str 0 0,.Af,.Af]
section
variable{G:AV}{vp:V}{k:KV}
end
end Go.RL
