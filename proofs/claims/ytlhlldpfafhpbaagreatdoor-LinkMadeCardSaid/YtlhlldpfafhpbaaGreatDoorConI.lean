/- Part of a proof; nothing is assumed. -/
import Derived.Test.YtlhlldpfafhpbaaGreatDoorConH
set_option linter.unusedVariables false
set_option linter.unusedSimpArgs false
noncomputable section
namespace Go.RL
open Go.BN
set_option maxRecDepth 100000
structure Gn where
 p:Pool
 code:List Ins
 stk:Nat
 loc:Nat
 hi:Nat
 vars:List BU
 slots:List Nat
abbrev aAD:=Option Gn
def xe{α:Type}(q:α->Bool):List α->Nat->aAG
 |[],_=>none
 |x::l,i=>bif q x then some i else xe q l (i+1)
def nY{α:Type}(q:α->Bool)(l:List α)(x:α):Nat×List α:=match xe q l 0 with
 |some i=>(i,l)
 |none=>(l.length,l++[x])
def stA(a b:St):Bool:=decide (a.1=b.1/\a.2=b.2)
def cR(a b:PF):Bool:=stA a.f.nm b.f.nm&&(a.f.ty.is b.f.ty&&stA a.own b.own)
def bV(a b:PM):Bool:=stA a.own b.own&&Bk.same a.m b.m
def BA(c:Nat)(a:Nat)(up dn:Nat)(g:Gn):aAD:=
 bif decide (dn<=g.hi+up/\g.code.length<20000)then some {g with code:=g.code++[⟨c,a⟩],hi:=g.hi+up-dn,stk:=max g.stk (g.hi+up-dn)}else none
def TJ(l:List Ins)(i a:Nat):List Ins:=l.set i ⟨(l.getD i ⟨0,0⟩).code,a⟩
def DP(i:Nat)(g:Gn):Gn:={g with code:=TJ g.code i g.code.length}
def bE(v:BU)(g:Gn):aAD:=bif decide (g.vars.length<1000/\g.loc<20000)then some {g with vars:=g.vars++[v],slots:=g.slots++[g.loc],loc:=g.loc+1}else none
def Uz(s:St):aAm->aAw->Nat
 |v::l,i::r=>bif stA v.nm s then i else Uz s l r
 |_,_=>0
def rU(g:Gn):Bool:=decide (g.p.nums.length<20000/\g.p.names.length<20000/\g.p.types.length<20000/\g.p.fields.length<20000/\g.p.BS.length<20000)
def SW(p:Pool)(n:Nat):Prop:=p.nums.length<=n/\p.names.length<=n/\p.types.length<=n/\p.fields.length<=n/\p.BS.length<=n
def WL(x:Int)(g:Gn):Nat×Gn:=let r:=nY (λy=>decide (y=x)) g.p.nums x;(r.1,{g with p:={g.p with nums:=r.2}})
def VT(x:St)(g:Gn):Nat×Gn:=let r:=nY (λy=>stA x y) g.p.names x;(r.1,{g with p:={g.p with names:=r.2}})
def M8(x:Ty)(g:Gn):Nat×Gn:=let r:=nY (λy=>x.is y) g.p.types x;(r.1,{g with p:={g.p with types:=r.2}})
def HU(x:PF)(g:Gn):Nat×Gn:=let r:=nY (λy=>cR x y) g.p.fields x;(r.1,{g with p:={g.p with fields:=r.2}})
def Ih(x:PM)(g:Gn):Nat×Gn:=let r:=nY (λy=>bV x y) g.p.BS x;(r.1,{g with p:={g.p with BS:=r.2}})
def yF(nm:St):Nat:=bif stA nm ABJ then 5 else bif stA nm ABp then 6 else bif stA nm ABD then 7 else bif stA nm ABR then 8 else bif stA nm AA3 then 9 else bif stA nm eh then 10 else bif stA nm di then 11 else 5
def AEm(nm:St)(a:Ty)(g:Gn):aAD:=
 bif stA nm T3||stA nm Qx then(BA (bif a.obj then 13 else 12) 0 0 1 g).bind λg=>bif stA nm Qx then BA 15 0 0 0 g else some g
 else BA (yF nm) 0 0 1 g
def fY(tb:Tab)(kind num:Nat)(nm:St)(ty of:Ty)(own:St)(ks:aAv)(g:Gn):aAD:=
 bif rU g then
 match kind,ks with
 |1,_=>let r:=WL num g;BA 1 r.1 1 0 r.2
 |2,_=>BA 32 1 1 0 g
 |3,_=>BA 32 0 1 0 g
 |4,_=>BA 2 0 1 0 g
 |5,_=>BA 3 0 1 0 g
 |6,_=>BA 3 (Uz nm g.vars g.slots) 1 0 g
 |7,_=>let r:=HU ⟨⟨nm,of⟩,own⟩ g;BA 16 r.1 0 0 r.2
 |8,_=>match Cq tb own nm false with
  |some (_,s)=>let r:=Ih ⟨s,own⟩ g;BA 25 r.1 0 s.ps.length r.2
  |none=>none
 |9,_=>match Cq tb own nm true with
  |some (_,s)=>let r:=Ih ⟨s,own⟩ g;BA 26 r.1 1 s.ps.length r.2
  |none=>none
 |10,_=>let r:=VT ty.nm g;BA 18 r.1 1 0 r.2
 |11,_=>let r:=M8 of g;BA 19 r.1 0 0 r.2
 |12,a::_=>let r:=M8 a g;BA 20 r.1 0 1 r.2
 |13,_=>BA 22 0 0 0 g
 |14,_=>BA 14 0 0 0 g
 |15,_=>BA 15 0 0 0 g
 |16,a::_=>AEm nm a g
 |19,_=>let r:=VT ty.nm g;BA 23 r.1 0 0 r.2
 |20,_=>let r:=VT ty.nm g;BA 24 r.1 0 0 r.2
 |_,_=>none
 else none
mutual
def B9(tb:Tab):Te->Gn->aAD
 |.mk 17 _ _ _ _ _ (a::b::_),g=>(B9 tb a g).bind λg=>(BA 28 0 0 1 g).bind λg1=>(B9 tb b g1).bind λg2=>(BA 27 0 0 1 g2).bind λg3=>(BA 32 0 1 0 (DP g.code.length g3)).bind λg4=>some (DP g2.code.length g4)
 |.mk 18 _ _ _ _ _ (a::b::_),g=>(B9 tb a g).bind λg=>(BA 28 0 0 1 g).bind λg1=>(BA 32 1 1 0 g1).bind λg2=>(BA 27 0 0 1 g2).bind λg3=>(B9 tb b (DP g.code.length g3)).bind λg4=>some (DP g2.code.length g4)
 |.mk kind num nm ty of own kids,g=>(Pq tb kids g).bind (fY tb kind num nm ty of own (kids.map Te.of))
def Pq(tb:Tab):aAq->Gn->aAD
 |[],g=>some g
 |e::l,g=>(B9 tb e g).bind (Pq tb l)
end
def gx(tb:Tab)(kind:Nat)(nm:St)(of:Ty)(own:St)(kids:aAq)(w:Te)(g:Gn):aAD:=
 bif decide (kind=6)then(B9 tb w g).bind λg=>BA 4 (Uz nm g.vars g.slots) 0 1 g
 else(Pq tb kids g).bind λg=>(B9 tb w g).bind λg=>
  bif rU g then
   bif decide (kind=7)then let r:=HU ⟨⟨nm,of⟩,own⟩ g;BA 17 r.1 0 2 r.2
   else match kids with
    |a::_=>let r:=M8 a.of g;BA 21 r.1 0 3 r.2
    |[]=>none
  else none
def EB(n:Nat)(g:Gn):Gn:={g with vars:=g.vars.take n,slots:=g.slots.take n}
mutual
def vX(tb:Tab):Tt->Gn->aAD
 |.mk 2 _ _ (.mk kind _ nm _ of own kids::w::_) _ _,g=>gx tb kind nm of own kids w g
 |.mk 1 nm ty (e::_) _ _,g=>(B9 tb e g).bind λg=>(bE ⟨nm,ty⟩ g).bind λg1=>BA 4 g.loc 0 1 g1
 |.mk 3 _ _ (e::_) _ _,g=>(B9 tb e g).bind (BA 31 0 0 1)
 |.mk 7 _ _ (e::_) _ _,g=>(B9 tb e g).bind (BA 30 0 0 1)
 |.mk 6 _ _ (e::_) _ _,g=>(B9 tb e g).bind (BA 29 0 0 1)
 |.mk 5 _ _ (e::_) th _,g0=>(B9 tb e g0).bind λg=>(BA 28 0 0 1 g).bind λg1=>(FN tb th g1).bind λg2=>(BA 27 g0.code.length 0 0 (EB g1.vars.length g2)).bind λg3=>some (DP g.code.length g3)
 |.mk 4 _ _ (e::_) th el,g0=>(B9 tb e g0).bind λg=>(BA 28 0 0 1 g).bind λg1=>(FN tb th g1).bind λg2=>(BA 27 0 0 0 (EB g1.vars.length g2)).bind λg3=>(FN tb el (DP g.code.length g3)).bind λg4=>some (DP g2.code.length (EB g3.vars.length g4))
 |_,_=>none
def FN(tb:Tab):aAt->Gn->aAD
 |[],g=>some g
 |s::l,g=>(vX tb s g).bind (FN tb l)
end
def AEg(ret:Ty)(g:Gn):aAD:=
 bif rU g then((bif ret.is BY then let r:=WL 0 g;BA 1 r.1 1 0 r.2 else bif ret.is A3 then BA 32 0 1 0 g else BA 2 0 1 0 g)).bind (BA 29 0 0 1)else none
def dE:aAm->Gn->aAD
 |[],g=>some g
 |v::l,g=>(bE v g).bind (dE l)
def U8(tb:Tab)(m:Tm)(p:Pool):Option (Bd×Pool):=
 (dE m.ps ⟨p,[],0,bif m.st then 0 else 1,0,[],[]⟩).bind λg=>(FN tb m.body g).bind λg1=>(AEg m.ret (EB g.vars.length g1)).map λg2=>(⟨g2.loc,g2.stk,g2.code⟩,g2.p)
def V4(tb:Tab):aAz->Pool->Option (List Bd×Pool)
 |[],p=>some ([],p)
 |m::ms,p=>(U8 tb m p).bind λq=>(V4 tb ms q.2).map λr=>(q.1::r.1,r.2)
def MV(p:Pool)(x:Ins):Int:=
 if x.code=1∨x.code=2∨x.code=3∨x.code=18∨x.code=32 then 1
 else if x.code=4∨(5<=x.code/\x.code<=13)∨x.code=20∨(28<=x.code/\x.code<=31)then-1
 else if x.code=17 then-2 else if x.code=21 then-3
 else if x.code=25 then-(((p.BS[x.arg.toNat]?).elim 0 λm=>m.m.ps.length:Nat):Int)
 else if x.code=26 then 1-(((p.BS[x.arg.toNat]?).elim 0 λm=>m.m.ps.length:Nat):Int)else 0
def ABS(P:Pool)(L:Nat)(x:Ins):Prop:=x.code=27∨x.code=28∨Nz (UM P ⟨L,0,[]⟩) x=true
structure Uy(p P:Pool):Prop where
 n:p.nums<+:P.nums
 c:p.names<+:P.names
 t:p.types<+:P.types
 f:p.fields<+:P.fields
 m:p.BS<+:P.BS
abbrev Uy.refl(p:Pool):Uy p p:=⟨rz _,rz _,rz _,rz _,rz _⟩
variable{p:Pool}
abbrev Uy.trans{q r:Pool}(h:Uy p q)(k:Uy q r):Uy p r:=⟨h.n.trans k.n,h.c.trans k.c,h.t.trans k.t,h.f.trans k.f,h.m.trans k.m⟩
structure Seg(P:Pool)(L S:Nat)(code:List Ins)(H:Nat->Nat)(a b:Nat):Prop where
 at':∀i,a<=i->i<b->∃x,code[i]? =some x/\ABS P L x/\(0:Int)<=H i+MV P x/\(H i:Int)+MV P x<=S/\
  ((x.code=27∨x.code=28)->∃t:Nat,x.arg=t/\a<=t/\t<=b/\(H t:Int)=H i+MV P x)/\(x.code≠27->x.code≠29->(H (i+1):Int)=H i+MV P x)
structure Gx(n:Nat)(g g':Gn):Prop where
 pf:Uy g.p g'.p
 sz:g'.p.nums.length<=g.p.nums.length+n/\g'.p.names.length<=g.p.names.length+n/\g'.p.types.length<=g.p.types.length+n/\g'.p.fields.length<=g.p.fields.length+n/\g'.p.BS.length<=g.p.BS.length+n
 cl:g.code.length<=g'.code.length/\g'.code.length<=g.code.length+n
 pre:∀i,i<g.code.length->g'.code[i]? =g.code[i]?
 st:g.stk<=g'.stk/\g'.stk<=max g.stk (g.hi+n)
 lc:g.loc<=g'.loc/\g'.loc<=g.loc+n
 hi:g'.hi<=g.hi+n
 hs:g.hi<=g.stk->g'.hi<=g'.stk
 seg:∀P L S,Uy g'.p P->g'.loc<=L->g'.stk<=S->∃H:Nat->Nat,H g.code.length=g.hi/\H g'.code.length=g'.hi/\Seg P L S g'.code H g.code.length g'.code.length
abbrev Gx.refl(g:Gn):Gx 0 g g:=
 ⟨.refl _,a6,a6,λ_ _=>rfl,a6,a6,a6,λh=>h,λP L S _ _ _=>⟨λ_=>g.hi,rfl,rfl,⟨λi d f=>a6⟩⟩⟩
variable{n:Nat}{m:Nat}{g:Gn}{g':Gn}
abbrev Gx.le(h:Gx n g g')(d:n<=m):Gx m g g':=
 ⟨h.pf,hN h.sz,hN h.cl,h.pre,hN h.st,hN h.lc,hN h.hi,h.hs,h.seg⟩
abbrev glue{d f:Nat->Nat}{b:Nat}(e:d b=f b):∃H:Nat->Nat,(∀i,i<=b->H i=d i)/\∀i,b<=i->H i=f i:=
 ⟨λi=>if i<=b then d i else f i,λi h=>hD h,λi h=>by
  show(if i<=b then d i else f i)=_;by_cases q:i<=b
  .obtain rfl:i=b:=a6;rw[hD q,e]
  .rw[g_ q]⟩
abbrev Gx.trans{p J:Gn}(x:Gx n g p)(y:Gx m p J):Gx (n+m) g J:=by
 have N:=x.cl;have O:=y.cl;have x2:=x.st;have y2:=y.st;have x3:=x.lc;have y3:=y.lc;have x4:=x.hi;have y4:=y.hi;have x5:=x.sz;have y5:=y.sz;refine⟨x.pf.trans y.pf,a6,a6,λi d=>(y.pre i a6).trans (x.pre i d),a6,a6,a6,λh=>y.hs (x.hs h),λP L S K Q R=>?_⟩;have⟨H1,T,U,V⟩:=x.seg P L S (y.pf.trans K) a6 a6;have⟨H2,W,X,Y⟩:=y.seg P L S K Q R;have⟨H,f,k⟩:=glue (U.trans W.symm);refine⟨H,(f _ N.1).trans T,(k _ O.1).trans X,⟨λi Z h2=>?_⟩⟩;by_cases d:i<p.code.length
 .obtain⟨q,u,v,w,A,B,C⟩:=V.at' i Z d;rw[f i a6];refine⟨q,(y.pre i d).trans u,v,w,A,λe=>?_,λD E=>?_⟩
  .obtain⟨t,F,M,G,I⟩:=B e;exact⟨t,F,M,a6,by rw[f t G];exact I⟩
  .rw[f _ a6];exact C D E
 .obtain⟨q,u,v,w,A,B,C⟩:=Y.at' i a6 h2;rw[k i a6];refine⟨q,u,v,w,A,λe=>?_,λD E=>?_⟩
  .obtain⟨t,F,M,G,I⟩:=B e;exact⟨t,F,a6,G,by rw[k t a6];exact I⟩
  .rw[k (i+1) a6];exact C D E
variable{k:Nat}
abbrev Gx.back(h:Gx n g g'):Gx n g (EB k g'):=⟨h.pf,h.sz,h.cl,h.pre,h.st,h.lc,h.hi,h.hs,h.seg⟩
abbrev Gx.back'(h:Gx n (EB k g) g'):Gx n g g':=⟨h.pf,h.sz,h.cl,h.pre,h.st,h.lc,h.hi,h.hs,h.seg⟩
variable{c:Nat}{a:Nat}{up:Nat}{dn:Nat}
abbrev Jl(h:BA c a up dn g=some g'):dn<=g.hi+up/\g.code.length<20000/\g'={g with code:=g.code++[⟨c,a⟩],hi:=g.hi+up-dn,stk:=max g.stk (g.hi+up-dn)}:=by
 unfold BA at h;cases d:decide (dn<=g.hi+up/\g.code.length<20000)with
 |false=>rw[d]at h;cases h
 |true=>rw[d]at h;cases h;exact⟨(kh d).1,(kh d).2,rfl⟩
abbrev bu(d:dn<=g.hi+up)(f:g.code.length<20000):BA c a up dn g=some {g with code:=g.code++[⟨c,a⟩],hi:=g.hi+up-dn,stk:=max g.stk (g.hi+up-dn)}:=by unfold BA;rw[ui ⟨d,f⟩];rfl
abbrev rJ{d:Type}(l:List d)(x:d):(l++[x])[l.length]? =some x:=o6
variable{i:Nat}
abbrev Xn{d:Type}{l:List d}{x:d}(h:i<l.length):(l++[x])[i]? =l[i]? :=by simp[qi h]
abbrev AQ2{d:Gn}(h:BA c a up dn d=some g')(q:c≠27/\c≠28)(y:up<=1)
 (e:d.code=g.code/\d.hi=g.hi/\d.stk=g.stk/\g.loc<=d.loc/\d.loc<=g.loc+1) (A:Uy g.p d.p)
 (B:d.p.nums.length<=g.p.nums.length+1/\d.p.names.length<=g.p.names.length+1/\d.p.types.length<=g.p.types.length+1/\d.p.fields.length<=g.p.fields.length+1/\d.p.BS.length<=g.p.BS.length+1)
 (k:∀P L,Uy d.p P->d.loc<=L->ABS P L ⟨c,a⟩/\MV P ⟨c,a⟩=(up:Int)-dn):Gx 1 g g':=by
 obtain⟨G,I,rfl⟩:=Jl h;have⟨m,J,K,M⟩:=e;have C:(d.code++[(⟨c,a⟩:Ins)]).length=g.code.length+1:=by rw[uk,m];rfl
 refine⟨A,B,by show _<=(d.code++[_]).length/\(d.code++[_]).length<=_;omega,λi D=>?_,by show _<=max _ _/\max _ _<=_;omega,by show _<=d.loc/\d.loc<=_;omega,by show _-_<=_;omega,λ_=>by show _-_<=max _ _;omega,λP L S E F u=>?_⟩
 .show(d.code++[_])[i]? =_;rw[m];exact Xn D
 .obtain⟨q1,q2⟩:=k P L E F;have u:max d.stk (d.hi+up-dn)<=S:=u;obtain⟨H,v⟩:∃H:Nat->Nat,H=λi=>if i<=g.code.length then g.hi else d.hi+up-dn:=⟨_,rfl⟩
  have f:H g.code.length=g.hi:=by rw[v];exact hD o_
  have w:H (g.code.length+1)=d.hi+up-dn:=by rw[v];exact g_ a6
  refine⟨H,f,?_,⟨λi N x=>?_⟩⟩
  .show H (d.code++[_]).length=_;rw[C];exact w
  .have x:i<(d.code++[(⟨c,a⟩:Ins)]).length:=x;obtain rfl:i=g.code.length:=a6;refine⟨⟨c,a⟩,?_,q1,?_,?_,λe=>?_,λ_ _=>?_⟩
   .show(d.code++[_])[_]? =_;rw[m];exact rJ _ _
   .rw[f,q2];omega
   .rw[f,q2];omega
   .exfalso;rcases e with e|e
    .exact q.1 (by have:(c:Int)=27:=e;omega)
    .exact q.2 (by have:(c:Int)=28:=e;omega)
   .rw[f,w,q2];omega
abbrev iQ(l:List Ins)(i a:Nat):(TJ l i a).length=l.length:=H_
variable{l:List Ins}
abbrev RO{j:Nat}(h:j≠i):(TJ l i a)[j]? =l[j]? :=D_ (λe=>h e.symm)
variable{x:Ins}
abbrev ACl(h:l[i]? =some x):(TJ l i a)[i]? =some ⟨x.code,a⟩:=by have⟨d,e⟩:=us.1 h;unfold TJ;rw[e9 d,W2,h];rfl
abbrev AFC(P:Pool)(a:Int):MV P ⟨28,a⟩= -1:=by simp[MV]
abbrev AKK(P:Pool)(a:Int):MV P ⟨27,a⟩=0:=by simp[MV]
variable{nb:Nat}{nc:Nat}{g3:Gn}
abbrev AM8{R d g4:Gn}(U:BA 28 0 0 1 g=some R)(B:Gx nb R d)(J:BA 27 0 0 k d=some g3)(C:Gx nc (DP g.code.length g3) g4)(h3:d.hi=R.hi+k)(h4:g4.hi=d.hi)(hs:g.hi<=g.stk):
 Gx (nb+nc+2) g (DP d.code.length g4):=by
 obtain⟨u1,u2,rfl⟩:=Jl U;obtain⟨j1,j2,rfl⟩:=Jl J;generalize hA:g.code.length=a at*;generalize hB:d.code.length=b at*;have T:(g.code++[(⟨28,0⟩:Ins)]).length=a+1:=by rw[uk,hA];rfl
 have V:(TJ (d.code++[(⟨27,0⟩:Ins)]) a (d.code++[(⟨27,0⟩:Ins)]).length).length=b+1:=by rw[iQ,uk,hB];rfl
 have b1:=B.cl;have b2:=B.st;have b3:=B.lc;have b4:=B.hi;have m:=C.cl;have u:=C.st;have v:=C.lc;have w:=C.hi;replace b1:a+1<=d.code.length/\d.code.length<=a+1+nb:=by rw[<-T];exact b1
 replace m:b+1<=g4.code.length/\g4.code.length<=b+1+nc:=by rw[<-V];exact m
 replace b2:max g.stk (g.hi+0-1)<=d.stk/\d.stk<=max (max g.stk (g.hi+0-1)) (g.hi+0-1+nb):=b2;replace u:max d.stk (d.hi+0-k)<=g4.stk/\g4.stk<=max (max d.stk (d.hi+0-k)) (d.hi+0-k+nc):=u;replace b3:g.loc<=d.loc/\d.loc<=g.loc+nb:=b3;replace v:d.loc<=g4.loc/\g4.loc<=d.loc+nc:=v;replace b4:d.hi<=g.hi+0-1+nb:=b4;replace w:g4.hi<=d.hi+0-k+nc:=w;replace h3:d.hi=g.hi+0-1+k:=h3;have d8:d.hi<=d.stk:=B.hs (by show g.hi+0-1<=max _ _;omega);have W:(TJ g4.code b g4.code.length).length=g4.code.length:=iQ ..;have f:∀i,i<b+1->g4.code[i]? =(TJ (d.code++[(⟨27,0⟩:Ins)]) a (d.code++[(⟨27,0⟩:Ins)]).length)[i]? :=λi F=>C.pre i (W4 F V.symm);have p2:∀i,i<a+1->d.code[i]? =(g.code++[(⟨28,0⟩:Ins)])[i]? :=λi F=>B.pre i (W4 F T.symm);have X:g4.code[a]? =some ⟨28,(b+1:Nat)⟩:=by
  rw[f a a6];have:(d.code++[(⟨27,0⟩:Ins)])[a]? =some ⟨28,0⟩:=by rw[Xn a6,p2 a a6,<-hA];exact rJ _ _
  rw[ACl this,uk,hB];rfl
 have z9:g4.code[b]? =some ⟨27,0⟩:=by rw[f b a6,RO a6,<-hB];exact rJ _ _
 have Y:∀i,a<i->i<b->g4.code[i]? =d.code[i]? :=λi Z h2=>by rw[f i a6,RO a6,Xn a6]
 have low:∀i,i<a->g4.code[i]? =g.code[i]? :=λi Z=>by rw[f i a6,RO a6,Xn a6,p2 i a6,Xn a6]
 refine⟨B.pf.trans C.pf,?_,by show _<=(TJ _ _ _).length/\(TJ _ _ _).length<=_;omega,λi F=>?_,?_,by show _<=g4.loc/\g4.loc<=_;omega,by show g4.hi<=_;omega,λ_=>by show g4.hi<=g4.stk;omega,λP L S hP hL hS=>?_⟩
 .have b5:d.p.nums.length<=g.p.nums.length+nb/\d.p.names.length<=g.p.names.length+nb/\d.p.types.length<=g.p.types.length+nb/\d.p.fields.length<=g.p.fields.length+nb/\d.p.BS.length<=g.p.BS.length+nb:=B.sz;have G:g4.p.nums.length<=d.p.nums.length+nc/\g4.p.names.length<=d.p.names.length+nc/\g4.p.types.length<=d.p.types.length+nc/\g4.p.fields.length<=d.p.fields.length+nc/\g4.p.BS.length<=d.p.BS.length+nc:=C.sz;show g4.p.nums.length<=_/\g4.p.names.length<=_/\g4.p.types.length<=_/\g4.p.fields.length<=_/\g4.p.BS.length<=_;omega
 .show(TJ g4.code b _)[i]? =_;rw[RO a6];exact low i a6
 .show _<=g4.stk/\g4.stk<=_;omega
 .have hS:g4.stk<=S:=hS;have hL:g4.loc<=L:=hL;have⟨I,d0,y1,d5⟩:=B.seg P L S (C.pf.trans hP) a6 a6;have⟨K,d6,y2,d7⟩:=C.seg P L S hP hL hS;have x1:I (g.code++[(⟨28,0⟩:Ins)]).length=g.hi+0-1:=d0;have x2:K (TJ (d.code++[(⟨27,0⟩:Ins)]) a (d.code++[(⟨27,0⟩:Ins)]).length).length=d.hi+0-k:=d6;have s1:Seg P L S d.code I (g.code++[(⟨28,0⟩:Ins)]).length d.code.length:=d5;have s2:Seg P L S g4.code K (TJ (d.code++[(⟨27,0⟩:Ins)]) a (d.code++[(⟨27,0⟩:Ins)]).length).length g4.code.length:=d7;rw[T]at x1 s1;rw[V]at x2 s2;rw[hB]at y1 s1;obtain⟨H,hH⟩:∃H:Nat->Nat,H=λi=>if i<=a then g.hi else if i<=b then I i else K i:=⟨_,rfl⟩
  have D:H a=g.hi:=by rw[hH];exact hD o_
  have y:∀i,a<i->i<=b->H i=I i:=λi Z h2=>by rw[hH];show(if _ then _ else _)=_;rw[g_ a6,hD h2]
  have A:∀i,b<i->H i=K i:=λi Z=>by rw[hH];show(if _ then _ else _)=_;rw[g_ a6,g_ a6]
  refine⟨H,by rw[hA];exact D,?_,⟨λi M N=>?_⟩⟩
  .show H (TJ g4.code b _).length=g4.hi;rw[W,A _ a6];exact y2
  .have N:i<(TJ g4.code b g4.code.length).length:=N;have hE:(DP b g4).code.length=g4.code.length:=W;rw[hE,hA];rw[hA]at M;show ∃x,(TJ g4.code b g4.code.length)[i]? =some x/\_;by_cases O:i=a
   .rw[O];refine⟨_,(RO a6).trans X,.inr (.inl rfl),?_,?_,λ_=>⟨b+1,rfl,a6,a6,?_⟩,λ_ _=>?_⟩
    .rw[D,AFC];omega
    .rw[D,AFC];omega
    .rw[D,AFC,A _ a6,x2];omega
    .rw[D,AFC,y _ a6 a6,x1];omega
   by_cases Q:i<b
   .obtain⟨q,m,u,v,w,G,c6⟩:=s1.at' i (_5 M λe=>O e.symm) Q;rw[y i (_5 M λe=>O e.symm) (aAf Q)];refine⟨q,(RO a6).trans ((Y i (_5 M λe=>O e.symm) Q).trans m),u,v,w,λe=>?_,λe1 e2=>?_⟩
    .obtain⟨t,d1,d2,d3,d4⟩:=G e;exact⟨t,d1,a6,a6,by rw[y t a6 d3];exact d4⟩
    .rw[y _ a6 a6];exact c6 e1 e2
   by_cases ec:i=b
   .rw[ec];refine⟨_,ACl z9,.inl rfl,?_,?_,λ_=>⟨g4.code.length,rfl,a6,a6,?_⟩,λh=>absurd rfl h⟩
    .rw[AKK];omega
    .rw[AKK,y _ a6 o_,y1];omega
    .rw[AKK,A _ a6,y2,y _ a6 o_,y1];omega
   .have E:b<i:=_5 (I'.1 Q) λe=>ec e.symm;have⟨q,m,u,v,w,G,c6⟩:=s2.at' i E (by rw[W]at N;exact N);rw[A i E];refine⟨q,(RO ec).trans m,u,v,w,λe=>?_,λe1 e2=>?_⟩
    .obtain⟨t,d1,d2,d3,d4⟩:=G e;exact⟨t,d1,a6,d3,by rw[A t a6];exact d4⟩
    .rw[A _ a6];exact c6 e1 e2
abbrev ARu{na:Nat}{k N d:Gn}(A:Gx na k g)(U:BA 28 0 0 1 g=some N)(B:Gx nb N d)(J:BA 27 k.code.length 0 0 d=some g3)(h0:d.hi=k.hi)(O:d.hi=N.hi)(hs:k.hi<=k.stk):
 Gx (na+nb+2) k (DP g.code.length g3):=by
 obtain⟨u1,u2,rfl⟩:=Jl U;obtain⟨j1,j2,rfl⟩:=Jl J;generalize h0l:k.code.length=z at*;generalize hA:g.code.length=a at*;generalize hB:d.code.length=b at*;have Q:(g.code++[(⟨28,0⟩:Ins)]).length=a+1:=by rw[uk,hA];rfl
 have v:(TJ (d.code++[(⟨27,z⟩:Ins)]) a (d.code++[(⟨27,z⟩:Ins)]).length).length=b+1:=by rw[iQ,uk,hB];rfl
 have R:=A.cl;have a2:=A.st;have a3:=A.lc;have a4:=A.hi;rw[h0l,hA]at R;have b1:a+1<=d.code.length/\d.code.length<=a+1+nb:=by rw[<-Q];exact B.cl
 rw[hB]at b1;have b2:max g.stk (g.hi+0-1)<=d.stk/\d.stk<=max (max g.stk (g.hi+0-1)) (g.hi+0-1+nb):=B.st;have b3:g.loc<=d.loc/\d.loc<=g.loc+nb:=B.lc;have b4:d.hi<=g.hi+0-1+nb:=B.hi;replace O:d.hi=g.hi+0-1:=O;have d7:=A.hs hs;have d8:d.hi<=d.stk:=a6;have p2:∀i,i<a+1->d.code[i]? =(g.code++[(⟨28,0⟩:Ins)])[i]? :=λi y=>B.pre i (W4 y Q.symm);have T:(d.code++[(⟨27,z⟩:Ins)])[a]? =some ⟨28,0⟩:=by rw[Xn a6,p2 a a6,<-hA];exact rJ _ _
 have z9:(d.code++[(⟨27,z⟩:Ins)])[b]? =some ⟨27,z⟩:=by rw[<-hB];exact rJ _ _
 have m:∀i,i<b->(d.code++[(⟨27,z⟩:Ins)])[i]? =d.code[i]? :=λi h=>Xn a6;have low:∀i,i<a->d.code[i]? =g.code[i]? :=λi h=>by rw[p2 i a6,Xn a6]
 refine⟨A.pf.trans B.pf,?_,by rw[h0l];exact⟨w_ (by omega:z<=b+1) (aAe v.symm),w_ (aAe v) a6⟩,λi y=>?_,?_,by show _<=d.loc/\d.loc<=_;omega,by show d.hi+0-0<=_;omega,λ_=>by show d.hi+0-0<=max _ _;omega,λP L S K hL hS=>?_⟩
 .have a5:=A.sz;have b5:d.p.nums.length<=g.p.nums.length+nb/\d.p.names.length<=g.p.names.length+nb/\d.p.types.length<=g.p.types.length+nb/\d.p.fields.length<=g.p.fields.length+nb/\d.p.BS.length<=g.p.BS.length+nb:=B.sz;show d.p.nums.length<=_/\d.p.names.length<=_/\d.p.types.length<=_/\d.p.fields.length<=_/\d.p.BS.length<=_;omega
 .show(TJ _ a _)[i]? =_;rw[h0l]at y;have C:i<a:=a6;exact(RO (Nat.ne_of_lt C)).trans ((m i a6).trans ((low i C).trans (A.pre i (by rw[h0l];exact y))))
 .show _<=max d.stk (d.hi+0-0)/\max d.stk (d.hi+0-0)<=_;omega
 .have hS:max d.stk (d.hi+0-0)<=S:=hS;have hL:d.loc<=L:=hL;have K:Uy d.p P:=K;have⟨H1,V,D,W⟩:=A.seg P L S (B.pf.trans K) a6 a6;have⟨M,X,y2,Y⟩:=B.seg P L S K a6 a6;have x2:M (g.code++[(⟨28,0⟩:Ins)]).length=g.hi+0-1:=X;have Z:Seg P L S d.code M (g.code++[(⟨28,0⟩:Ins)]).length d.code.length:=Y;rw[Q]at x2 Z;rw[h0l]at V W;rw[hA]at D W;rw[hB]at y2 Z;obtain⟨H,hH⟩:∃H:Nat->Nat,H=λi=>if i<=a then H1 i else if i<=b then M i else d.hi:=⟨_,rfl⟩
  have f:∀i,i<=a->H i=H1 i:=λi h=>by rw[hH];exact hD h
  have E:∀i,a<i->i<=b->H i=M i:=λi O h2=>by rw[hH];show(if _ then _ else _)=_;rw[g_ a6,hD h2]
  have k3:H (b+1)=d.hi:=by rw[hH];show(if _ then _ else _)=_;rw[g_ a6,g_ a6]
  have hE:(DP a {d with code:=d.code++[(⟨27,z⟩:Ins)],hi:=d.hi+0-0,stk:=max d.stk (d.hi+0-0)}).code.length=b+1:=v;refine⟨H,by rw[h0l,f _ R.1];exact V,?_,?_⟩
  .exact(congrArg H v).trans (k3.trans rfl)
  .refine⟨λi i1 i2=>?_⟩;have i2:i<(TJ (d.code++[(⟨27,z⟩:Ins)]) a (d.code++[(⟨27,z⟩:Ins)]).length).length:=i2;rw[v]at i2;rw[h0l]at i1⊢;show ∃x,(TJ (d.code++[(⟨27,z⟩:Ins)]) a (d.code++[(⟨27,z⟩:Ins)]).length)[i]? =some x/\ABS P L x/\(0:Int)<=H i+MV P x/\(H i:Int)+MV P x<=S/\
    ((x.code=27∨x.code=28)->∃t:Nat,x.arg=t/\z<=t/\t<=(TJ (d.code++[(⟨27,z⟩:Ins)]) a (d.code++[(⟨27,z⟩:Ins)]).length).length/\(H t:Int)=H i+MV P x)/\(x.code≠27->x.code≠29->(H (i+1):Int)=H i+MV P x)
   rw[v];have d0:(d.code++[(⟨27,z⟩:Ins)]).length=b+1:=by rw[uk,hB];rfl
   by_cases w:i<a
   .obtain⟨q,c1,c2,c3,c4,c5,c6⟩:=W.at' i i1 w;rw[f i (aAf w),RO (Nat.ne_of_lt w),m i a6,low i w];refine⟨q,c1,c2,c3,c4,λe=>?_,λu F=>?_⟩
    .obtain⟨t,d1,d2,d3,d4⟩:=c5 e;exact⟨t,d1,d2,a6,by rw[f t d3];exact d4⟩
    .rw[f (i+1) w];exact c6 u F
   by_cases F:i=a
   .rw[F,ACl T,d0];refine⟨_,rfl,.inr (.inl rfl),?_,?_,λ_=>⟨b+1,rfl,a6,ea _,?_⟩,λ_ _=>?_⟩
    .rw[f a o_,D,AFC];omega
    .rw[f a o_,D,AFC];omega
    .rw[f a o_,D,AFC,k3];omega
    .rw[f a o_,D,AFC,E _ (_p _) b1.1,x2];omega
   by_cases e3:i<b
   .have G:a<i:=_5 (I'.1 w) λe=>F e.symm;have⟨q,c1,c2,c3,c4,c5,c6⟩:=Z.at' i G e3;rw[E i G (aAf e3),RO F,m i e3];refine⟨q,c1,c2,c3,c4,λe=>?_,λu d5=>?_⟩
    .obtain⟨t,d1,d2,d3,d4⟩:=c5 e;exact⟨t,d1,a6,a6,by rw[E t a6 d3];exact d4⟩
    .rw[E _ a6 a6];exact c6 u d5
   .have d6:i=b:=a6;rw[d6,RO a6,z9];have I:H b=d.hi:=by rw[E b a6 o_];exact y2
    refine⟨_,rfl,.inl rfl,?_,?_,λ_=>⟨z,rfl,ea _,a6,?_⟩,λh=>absurd rfl h⟩
    .rw[AKK];omega
    .rw[AKK,I];omega
    .rw[AKK,I,f z R.1,V];omega
abbrev AED{f:Type}(q:f->Bool):∀(l:List f) (j i:Nat),xe q l j=some i->∃k y,i=j+k/\l[k]? =some y/\q y=true
 |[],_,_,h=>by cases h
 |x::l,j,i,h=>by
  unfold xe at h;cases d:q x with
  |true=>rw[d]at h;cases h;exact⟨0,x,rfl,rfl,d⟩
  |false=>
   rw[d]at h;have⟨k,y,p,g,m⟩:=AED q l (j+1) i h;exact⟨k+1,y,a6,by simpa using g,m⟩
structure ATQ{α:Type}(q:α->Bool)(l:List α)(r:Nat×List α):Prop where
 pf:l<+:r.2
 len:r.2.length<=l.length+1
 at':∃y,r.2[r.1]? =some y/\q y=true
abbrev ZE{d:Type}{q:d->Bool}(l:List d){x:d}(g:q x=true):ATQ q l (nY q l x):=by
 unfold nY;cases h:xe q l 0 with
 |some i=>
  have⟨k,y,f,m,p⟩:=AED q l 0 i h;rw[t_]at f;subst f;exact⟨rz _,_a _,y,m,p⟩
 |none=>exact⟨List.prefix_append _ _,o6,x,o6,g⟩
abbrev ATQ.lt{d:Type}{q:d->Bool}{l:List d}{r:Nat×List d}(h:ATQ q l r):r.1<r.2.length:=by have⟨y,f,_⟩:=h.at';exact(us.1 f).1
abbrev qG(a:St):stA a a=true:=ui ⟨rfl,rfl⟩
abbrev yc:∀l:aAv,Ze l l=true
 |[]=>rfl
 |t::l=>by unfold Ze;rw[Ty.VF,yc l];rfl
abbrev AK7(a:PF):cR a a=true:=by unfold cR;rw[qG,qG,Ty.VF];rfl
abbrev AMw(a:PM):bV a a=true:=by unfold bV Bk.same;rw[qG,Ty.VF,yc,ui ⟨rfl,rfl⟩];simp
abbrev AQW{a b:PM}(h:bV a b=true):b.m.ps.length=a.m.ps.length:=by unfold bV Bk.same at h;simp only[ez]at h;exact(te h.2.2.2.2).symm
abbrev Mh{g:Nat->Int}{q:Nat}(d:known c=true)(f:Vb c=q)(i:q≠0)(k:(a:Int)<g q):Nz g ⟨c,a⟩=true:=by unfold Nz;rw[d,f,eg i,ui (show(0:Int)<=((a:Nat):Int)by omega),ui k];rfl
def Rm(n:Nat)(g:Gn):Prop:=g.code.length+n<16400/\g.p.nums.length+n<16400/\g.p.names.length+n<16400/\g.p.types.length+n<16400/\g.p.fields.length+n<16400/\g.p.BS.length+n<16400
abbrev Gx.rm(h:Gx n g g')(r:Rm (n+m) g):Rm m g':=by have d:=h.sz;have f:=h.cl;unfold Rm at*;omega
abbrev Rm.le(h:Rm n g)(d:m<=n):Rm m g:=by unfold Rm at*;omega
abbrev Rm.sm(h:Rm n g):rU g=true:=by unfold Rm at h;exact ui a6
structure Lk(Γ:List BU)(th:Bool)(g:Gn):Prop where
 v:g.vars=Γ
 l:g.slots.length=g.vars.length
 lt:∀i∈g.slots,i<g.loc
 th:th=true->1<=g.loc
variable{s:St}{t:Ty}
abbrev yj:∀{vs:aAm} {sl:aAw},sl.length=vs.length->(∀i∈sl,i<n)->Cg s vs=some t->Uz s vs sl<n
 |[],_,_,_,h=>by cases h
 |_::_,[],h,_,_=>by cases h
 |v::vs,i::sl,d,hi,h=>by
  unfold Uz;have e:stA v.nm s=decide (v.nm=s):=by
   unfold stA;by_cases e:v.nm=s
   .rw[ui e,e];exact ui ⟨rfl,rfl⟩
   .rw[eg e];exact eg λq=>e (L_ q.1 q.2)
  rw[e];have h:(bif decide (v.nm=s)then some v.ty else Cg s vs)=some t:=h;cases f:decide (v.nm=s)with
  |true=>exact hi i (u_ ..)
  |false=>
   rw[f]at h;exact yj (by simpa using d) (λj g=>hi j (c_ _ g)) h
def AQm(tb:Tab)(Γ:aAm)(th:Bool)(kind:Nat)(nm own:St)(k:Nat):Prop:=
 match kind with
 |1=>k=0|2=>k=0|3=>k=0|4=>k=0
 |5=>k=0/\th=true
 |6=>k=0/\∃t,Cg nm Γ=some t
 |7=>k=1
 |8=>∃o s,Cq tb own nm false=some (o,s)/\k=s.ps.length+1
 |9=>∃o s,Cq tb own nm true=some (o,s)/\k=s.ps.length
 |10=>k=0|11=>k=1|12=>k=2|13=>k=1|14=>k=1|15=>k=1|16=>k=2|17=>k=2|18=>k=2|19=>k=1|20=>k=1
 |_=>False
structure Ex(n up dn:Nat)(g g':Gn):Prop where
 x:Gx n g g'
 hi:g'.hi+dn=g.hi+up
 v:g'.vars=g.vars
 s:g'.slots=g.slots
 l:g'.loc=g.loc
variable{Γ:List BU}{th:Bool}
abbrev Ex.lk{Γ:aAm}(h:Ex n up dn g g')(k:Lk Γ th g):Lk Γ th g':=⟨h.v.trans k.v,by rw[h.s,h.v];exact k.l,by rw[h.s,h.l];exact k.lt,by rw[h.l];exact k.th⟩
abbrev Ex.put{d:Gn}(q:c≠27/\c≠28)(f:up<=1)(D:dn<=g.hi+up)(u:Rm 1 g)
 (e:d.code=g.code/\d.hi=g.hi/\d.stk=g.stk/\d.loc=g.loc/\d.vars=g.vars/\d.slots=g.slots) (v:Uy g.p d.p)
 (w:d.p.nums.length<=g.p.nums.length+1/\d.p.names.length<=g.p.names.length+1/\d.p.types.length<=g.p.types.length+1/\d.p.fields.length<=g.p.fields.length+1/\d.p.BS.length<=g.p.BS.length+1)
 (i:∀P L,Uy d.p P->d.loc<=L->ABS P L ⟨c,a⟩/\MV P ⟨c,a⟩=(up:Int)-dn):∃g',BA c a up dn d=some g'/\Ex 1 up dn g g':=by have⟨k,x,y,A,B,C⟩:=e;have m:=bu (c:=c) (a:=a) (up:=up) (dn:=dn) (g:=d) a6 (by rw[k];unfold Rm at u;omega);exact⟨_,m,AQ2 m q f ⟨k,x,y,a6,a6⟩ v w i,by show d.hi+up-dn+dn=_;omega,B,C,A⟩
abbrev Ex.bv(i:c≠27/\c≠28)(d:up<=1)(k:dn<=g.hi+up)(m:Rm 1 g)
 (f:∀P L,g.loc<=L->ABS P L ⟨c,a⟩/\MV P ⟨c,a⟩=(up:Int)-dn):∃g',BA c a up dn g=some g'/\Ex 1 up dn g g':=
 Ex.put i d k m ⟨rfl,rfl,rfl,rfl,rfl,rfl⟩ (.refl _) a6 λP L _ h=>f P L h
abbrev Ex.nums{x:Int}(i:c≠27/\c≠28)(d:up<=1)(k:dn<=g.hi+up)(m:Rm 1 g)(u:known c=true)(v:Vb c=110)(w:∀(P:Pool) (a:Nat),MV P ⟨c,a⟩=(up:Int)-dn):
 ∃g',BA c (WL x g).1 up dn (WL x g).2=some g'/\Ex 1 up dn g g':=by have s:=ZE (q:=λy=>decide (y=x)) g.p.nums (ui rfl);refine Ex.put i d k m ⟨rfl,rfl,rfl,rfl,rfl,rfl⟩ ⟨s.pf,rz _,rz _,rz _,rz _⟩ ⟨s.len,_a _,_a _,_a _,_a _⟩ λP L f _=>⟨.inr (.inr (Mh u v a_ ?_)),w P _⟩;have:=s.lt;have:=f.n.length_le;show _<(P.nums.length:Int);exact U'.2 (b_ s.lt f.n.length_le)
abbrev Ex.names{x:St}(f:c≠27/\c≠28)(d:up<=1)(i:dn<=g.hi+up)(k:Rm 1 g)(m:known c=true)(u:Vb c=99)(v:∀(P:Pool) (a:Nat),MV P ⟨c,a⟩=(up:Int)-dn):
 ∃g',BA c (VT x g).1 up dn (VT x g).2=some g'/\Ex 1 up dn g g':=by have s:=ZE (q:=λy=>stA x y) g.p.names (qG x);refine Ex.put f d i k ⟨rfl,rfl,rfl,rfl,rfl,rfl⟩ ⟨rz _,s.pf,rz _,rz _,rz _⟩ ⟨_a _,s.len,_a _,_a _,_a _⟩ λP L w _=>⟨.inr (.inr (Mh m u a_ ?_)),v P _⟩;show _<(P.names.length:Int);exact U'.2 (b_ s.lt w.c.length_le)
abbrev Ex.types{x:Ty}(f:c≠27/\c≠28)(d:up<=1)(i:dn<=g.hi+up)(k:Rm 1 g)(m:known c=true)(u:Vb c=116)(v:∀(P:Pool) (a:Nat),MV P ⟨c,a⟩=(up:Int)-dn):
 ∃g',BA c (M8 x g).1 up dn (M8 x g).2=some g'/\Ex 1 up dn g g':=by have s:=ZE (q:=λy=>x.is y) g.p.types (Ty.VF x);refine Ex.put f d i k ⟨rfl,rfl,rfl,rfl,rfl,rfl⟩ ⟨rz _,rz _,s.pf,rz _,rz _⟩ ⟨_a _,_a _,s.len,_a _,_a _⟩ λP L w _=>⟨.inr (.inr (Mh m u a_ ?_)),v P _⟩;show _<(P.types.length:Int);exact U'.2 (b_ s.lt w.t.length_le)
abbrev Ex.fields{x:PF}(i:c≠27/\c≠28)(d:up<=1)(k:dn<=g.hi+up)(m:Rm 1 g)(u:known c=true)(v:Vb c=102)(w:∀(P:Pool) (a:Nat),MV P ⟨c,a⟩=(up:Int)-dn):
 ∃g',BA c (HU x g).1 up dn (HU x g).2=some g'/\Ex 1 up dn g g':=by have s:=ZE (q:=λy=>cR x y) g.p.fields (AK7 x);refine Ex.put i d k m ⟨rfl,rfl,rfl,rfl,rfl,rfl⟩ ⟨rz _,rz _,rz _,s.pf,rz _⟩ ⟨_a _,_a _,_a _,s.len,_a _⟩ λP L A _=>⟨.inr (.inr (Mh u v a_ ?_)),w P _⟩;show _<(P.fields.length:Int);exact U'.2 (b_ s.lt A.f.length_le)
abbrev Ex.BS{x:PM}(k:c≠27/\c≠28)(d:up<=1)(u:x.m.ps.length<=g.hi+up)(f:Rm 1 g)(v:known c=true)(w:Vb c=109)(A:∀(P:Pool) (a:Nat) (y:PM),P.BS[a]? =some y->MV P ⟨c,a⟩=(up:Int)-(y.m.ps.length:Nat)):
 ∃g',BA c (Ih x g).1 up x.m.ps.length (Ih x g).2=some g'/\Ex 1 up x.m.ps.length g g':=by
 have s:=ZE (q:=λy=>bV x y) g.p.BS (AMw x);refine Ex.put k d u f ⟨rfl,rfl,rfl,rfl,rfl,rfl⟩ ⟨rz _,rz _,rz _,rz _,s.pf⟩ ⟨_a _,_a _,_a _,_a _,s.len⟩ λP L i _=>⟨.inr (.inr (Mh v w a_ ?_)),?_⟩
 .show _<(P.BS.length:Int);exact U'.2 (b_ s.lt i.m.length_le)
 .obtain⟨y,B,C⟩:=s.at';have D:P.BS[(Ih x g).1]? =some y:=by have⟨r,f⟩:=i.m;rw[<-f];exact(qi s.lt).trans B
  rw[A P _ y D,AQW C]
variable{u:Nat}{d:Nat}{f:Nat}
abbrev Ex.sh(h:Ex n u d g g')(e:f+d=u+i):Ex n f i g g':=⟨h.x,hN h.hi,h.v,h.s,h.l⟩
abbrev Ex.le(h:Ex n u d g g')(e:n<=m):Ex m u d g g':=⟨h.x.le e,h.hi,h.v,h.s,h.l⟩
abbrev Ex.trans{p q:Gn}(h:Ex n u d g p)(k:Ex m f i p q):Ex (n+m) (u+f) (d+i) g q:=
 ⟨h.x.trans k.x,tw h.hi k.hi,k.v.trans h.v,k.s.trans h.s,k.l.trans h.l⟩
variable{tb:Tab}{nm:St}{ty:Ty}{of:Ty}{ks:List Ty}
abbrev ATu{Γ:aAm}{kind num:Nat}{own:St}{ks:aAv}(i:AQm tb Γ th kind nm own ks.length)(A:kind≠17/\kind≠18)(F:Lk Γ th g)(G:Rm 2 g)(hh:ks.length<=g.hi):
 ∃g',fY tb kind num nm ty of own ks g=some g'/\Ex (pZ kind) 1 ks.length g g':=by
 unfold fY;rw[G.sm];have w:=G.le (m:=1) a6;have p:∀{f:aAD} {n u d:Nat},(∃g',f=some g'/\Ex n u d g g')->1+d=u+ks.length->n<=pZ kind->∃g',f=some g'/\Ex (pZ kind) 1 ks.length g g':=λ⟨g',B,D⟩ I J=>⟨g',B,(D.sh I).le J⟩;show ∃g',(match kind,ks with
  |1,_=>_|2,_=>_|3,_=>_|4,_=>_|5,_=>_|6,_=>_|7,_=>_|8,_=>_|9,_=>_|10,_=>_|11,_=>_|12,a::_=>_|13,_=>_|14,_=>_|15,_=>_|16,a::_=>_|19,_=>_|20,_=>_|_,_=>none)=some g'/\_
 match kind,i,A with
 |1,i,_=>exact p (Ex.nums (c:=1) (up:=1) (dn:=0) a_ a6 a6 w rfl rfl λP a=>by simp[MV]) (by have:ks.length=0:=i;omega) a_
 |2,i,_=>exact p (Ex.bv (c:=32) (a:=1) (up:=1) (dn:=0) a_ a6 a6 w λP L _=>⟨.inr (.inr rfl),by simp[MV]⟩) (by have:ks.length=0:=i;omega) a_
 |3,i,_=>exact p (Ex.bv (c:=32) (a:=0) (up:=1) (dn:=0) a_ a6 a6 w λP L _=>⟨.inr (.inr rfl),by simp[MV]⟩) (by have:ks.length=0:=i;omega) a_
 |4,i,_=>exact p (Ex.bv (c:=2) (a:=0) (up:=1) (dn:=0) a_ a6 a6 w λP L _=>⟨.inr (.inr rfl),by simp[MV]⟩) (by have:ks.length=0:=i;omega) a_
 |5,i,_=>
  have⟨i,H⟩:=(show ks.length=0/\th=true from i);have:=F.th H;exact p (Ex.bv (c:=3) (a:=0) (up:=1) (dn:=0) a_ a6 a6 w λP L K=>⟨.inr (.inr (Mh rfl (q:=108) rfl a_ (by show((0:Nat):Int)<(L:Int);omega))),by simp[MV]⟩) a6 a_
 |6,i,_=>
  have⟨i,t,H⟩:=(show ks.length=0/\∃t,Cg nm Γ=some t from i);have:=yj (n:=g.loc) F.l F.lt (by rw[F.v];exact H);exact p (Ex.bv (c:=3) (up:=1) (dn:=0) a_ a6 a6 w λP L K=>⟨.inr (.inr (Mh rfl (q:=108) rfl a_ (by show((Uz nm g.vars g.slots:Nat):Int)<(L:Int);omega))),by simp[MV]⟩) a6 a_
 |7,i,_=>exact p (Ex.fields (c:=16) (up:=0) (dn:=0) a_ a6 a6 w rfl rfl λP a=>by simp[MV]) (by have:ks.length=1:=i;omega) a_
 |8,i,_=>
  have⟨o,s,B,D⟩:=(show ∃o s,Cq tb own nm false=some (o,s)/\ks.length=s.ps.length+1 from i);show ∃g',(match Cq tb own nm false with|some (_,s)=>_|none=>none)=some g'/\_;rw[B];exact p (Ex.BS (c:=25) (up:=0) (x:=⟨s,own⟩) a_ a6 (by show s.ps.length<=_;omega) w rfl rfl λP a y h=>by simp[MV,h]) (by show 1+s.ps.length=_;omega) a_
 |9,i,_=>
  have⟨o,s,B,D⟩:=(show ∃o s,Cq tb own nm true=some (o,s)/\ks.length=s.ps.length from i);show ∃g',(match Cq tb own nm true with|some (_,s)=>_|none=>none)=some g'/\_;rw[B];exact p (Ex.BS (c:=26) (up:=1) (x:=⟨s,own⟩) a_ a6 (by show s.ps.length<=_;omega) w rfl rfl λP a y h=>by simp[MV,h]) (by show 1+s.ps.length=_;omega) a_
 |10,i,_=>exact p (Ex.names (c:=18) (up:=1) (dn:=0) a_ a6 a6 w rfl rfl λP a=>by simp[MV]) (by have:ks.length=0:=i;omega) a_
 |11,i,_=>exact p (Ex.types (c:=19) (up:=0) (dn:=0) a_ a6 a6 w rfl rfl λP a=>by simp[MV]) (by have:ks.length=1:=i;omega) a_
 |12,i,_=>
  have i:ks.length=2:=i;match ks,i with
  |a::l,i=>exact p (Ex.types (c:=20) (up:=0) (dn:=1) a_ a6 a6 w rfl rfl λP a=>by simp[MV]) a6 a_
 |13,i,_=>exact p (Ex.bv (c:=22) (a:=0) (up:=0) (dn:=0) a_ a6 a6 w λP L _=>⟨.inr (.inr rfl),by simp[MV]⟩) (by have:ks.length=1:=i;omega) a_
 |14,i,_=>exact p (Ex.bv (c:=14) (a:=0) (up:=0) (dn:=0) a_ a6 a6 w λP L _=>⟨.inr (.inr rfl),by simp[MV]⟩) (by have:ks.length=1:=i;omega) a_
 |15,i,_=>exact p (Ex.bv (c:=15) (a:=0) (up:=0) (dn:=0) a_ a6 a6 w λP L _=>⟨.inr (.inr rfl),by simp[MV]⟩) (by have:ks.length=1:=i;omega) a_
 |16,i,_=>
  have i:ks.length=2:=i;match ks,i,hh with
  |a::l,i,hh=>
   show ∃g',AEm nm a g=some g'/\_;unfold AEm;cases R:(stA nm T3||stA nm Qx)with
   |true=>
    have one:∃g',BA (bif a.obj then 13 else 12) 0 0 1 g=some g'/\Ex 1 0 1 g g':=by
     cases a.obj
     .exact Ex.bv (c:=12) (a:=0) (up:=0) (dn:=1) a_ a6 a6 w λP L _=>⟨.inr (.inr rfl),by simp[MV]⟩
     .exact Ex.bv (c:=13) (a:=0) (up:=0) (dn:=1) a_ a6 a6 w λP L _=>⟨.inr (.inr rfl),by simp[MV]⟩
    have⟨C,B,E⟩:=one;show ∃g',((BA (bif a.obj then 13 else 12) 0 0 1 g).bind _)=some g'/\_;rw[B];show ∃g',(bif stA nm Qx then BA 15 0 0 0 C else some C)=some g'/\_;cases stA nm Qx with
    |true=>
     have⟨M,D,N⟩:=Ex.bv (c:=15) (a:=0) (up:=0) (dn:=0) (g:=C) a_ a6 a6 (E.x.rm (n:=1) G) λP L _=>⟨.inr (.inr rfl),by simp[MV]⟩;exact⟨M,D,((E.trans N).sh a6).le a_⟩
    |false=>exact⟨C,rfl,(E.sh a6).le a_⟩
   |false=>
    have O:∀c,c=5∨c=6∨c=7∨c=8∨c=9∨c=10∨c=11->∃g',BA c 0 0 1 g=some g'/\Ex 1 0 1 g g':=λc Q=>by
     rcases Q with rfl|rfl|rfl|rfl|rfl|rfl|rfl<;>
      exact Ex.bv (a:=0) (up:=0) (dn:=1) a_ a6 a6 w λP L _=>⟨.inr (.inr rfl),by simp[MV]⟩
    have⟨C,B,E⟩:=O (yF nm) (by
     unfold yF;cases stA nm ABJ<;>cases stA nm ABp<;>cases stA nm ABD<;>cases stA nm ABR<;>cases stA nm AA3<;>cases stA nm eh<;>cases stA nm di<;>simp)
    exact⟨C,B,(E.sh a6).le a_⟩
 |17,_,A=>exact absurd rfl A.1
 |18,_,A=>exact absurd rfl A.2
 |19,i,_=>exact p (Ex.names (c:=23) (up:=0) (dn:=0) a_ a6 a6 w rfl rfl λP a=>by simp[MV]) (by have:ks.length=1:=i;omega) a_
 |20,i,_=>exact p (Ex.names (c:=24) (up:=0) (dn:=0) a_ a6 a6 w rfl rfl λP a=>by simp[MV]) (by have:ks.length=1:=i;omega) a_
 |0,i,_=>exact i.elim
 |k+21,i,_=>exact(show False from i).elim
mutual
def V6(tb:Tab)(Γ:aAm)(th:Bool):Te->Prop
 |.mk kind _ nm _ _ own es=>AQm tb Γ th kind nm own es.length/\UJ tb Γ th es
def UJ(tb:Tab)(Γ:aAm)(th:Bool):aAq->Prop
 |[]=>True
 |e::l=>V6 tb Γ th e/\UJ tb Γ th l
end
def j5(tb:Tab)(Γ:aAm)(th:Bool)(e:Te):Prop:=∀g,Lk Γ th g->Rm (e.cz+2) g->g.hi<=g.stk->∃g',B9 tb e g=some g'/\Ex e.cz 1 0 g g'
section
variable{tb:Tab}{Γ:List BU}{th:Bool}
abbrev yr:∀{es:aAq},(∀e∈es,j5 tb Γ th e)->∀g,Lk Γ th g->Rm (OG es+2) g->g.hi<=g.stk->∃g',Pq tb es g=some g'/\Ex (OG es) es.length 0 g g'
 |[],_,g,_,_,_=>⟨g,rfl,.refl g,rfl,rfl,rfl,rfl⟩
 |e::l,h,g,f,i,k=>by
  have⟨p,q,d⟩:=h e (u_ ..) g f (i.le (by simp only[OG];omega)) k;have⟨m,u,v⟩:=yr (λe w=>h e (c_ _ w)) p (d.lk f) (d.x.rm (i.le (by simp only[OG];omega))) (d.x.hs k);refine⟨m,?_,?_⟩
  .show(B9 tb e g).bind (Pq tb l)=some m;rw[q];exact u
  .exact((d.trans v).sh (by rw[j'];omega)).le (by simp only[OG];omega)
abbrev Rm.put(h:BA c a up dn g=some g')(r:Rm (n+1) g):Rm n g':=by obtain⟨_,_,rfl⟩:=Jl h;unfold Rm at*;simp only[uk,j',_X];omega
abbrev Rm.here(r:Rm n g):Rm n (DP i g):=by unfold Rm DP at*;simp only[iQ];exact r
abbrev Lk.put(h:BA c a up dn g=some g')(k:Lk Γ th g):Lk Γ th g':=by obtain⟨_,_,rfl⟩:=Jl h;exact⟨k.v,k.l,k.lt,k.th⟩
abbrev Lk.here(k:Lk Γ th g):Lk Γ th (DP i g):=⟨k.v,k.l,k.lt,k.th⟩
abbrev ANo{fb fc:Gn->aAD}(y:Lk Γ th g)(A:Rm (nb+nc+4) g)(D:g.hi<=g.stk)(hh:1<=g.hi)
 (E:∀g,Lk Γ th g->Rm (nb+2) g->g.hi<=g.stk->∃g',fb g=some g'/\Ex nb 1 0 g g') (F:∀g,Lk Γ th g->Rm (nc+2) g->g.hi<=g.stk->∃g',fc g=some g'/\Ex nc 1 0 g g'):
 ∃g',((BA 28 0 0 1 g).bind λi=>(fb i).bind λd=>(BA 27 0 0 1 d).bind λf=>(fc (DP g.code.length f)).bind λg4=>some (DP d.code.length g4))=some g'/\Ex (nb+nc+2) 0 0 g g':=by
 have u:=bu (c:=28) (a:=0) (up:=0) (dn:=1) (g:=g) a6 (by unfold Rm at A;omega);generalize hg1:({g with code:=g.code++[⟨28,0⟩],hi:=g.hi+0-1,stk:=max g.stk (g.hi+0-1)}:Gn)=i at u;have q:i.hi=g.hi-1/\i.stk=max g.stk (g.hi-1)/\i.vars=g.vars/\i.slots=g.slots/\i.loc=g.loc:=by subst hg1;exact⟨rfl,rfl,rfl,rfl,rfl⟩
 have B:=Rm.put (n:=nb+nc+3) u A;have⟨d,G,k⟩:=E i (y.put u) (B.le a6) a6;have H:=k.hi;have C:=k.x.rm (m:=nc+3) (B.le a6);have j:=bu (c:=27) (a:=0) (up:=0) (dn:=1) (g:=d) a6 (by unfold Rm at C;omega);generalize hg3:({d with code:=d.code++[⟨27,0⟩],hi:=d.hi+0-1,stk:=max d.stk (d.hi+0-1)}:Gn)=f at j;have w:f.hi=d.hi-1/\f.stk=max d.stk (d.hi-1)/\f.vars=d.vars/\f.slots=d.slots/\f.loc=d.loc:=by subst hg3;exact⟨rfl,rfl,rfl,rfl,rfl⟩
 have I:=k.lk (y.put u);have J:=k.x.hs a6;have⟨g4,K,p⟩:=F (DP g.code.length f) (I.put j).here (Rm.here (Rm.put j C)) (by show f.hi<=f.stk;omega);have L:g4.hi+0=f.hi+1:=p.hi;refine⟨DP d.code.length g4,?_,AM8 u k.x j p.x a6 a6 D,by show g4.hi+0=_;omega,p.v.trans (w.2.2.1.trans (k.v.trans q.2.2.1)),p.s.trans (w.2.2.2.1.trans (k.s.trans q.2.2.2.1)),p.l.trans (w.2.2.2.2.trans (k.l.trans q.2.2.2.2))⟩;rw[u];show((fb i).bind _)=_;rw[G];show((BA 27 0 0 1 d).bind _)=_;rw[j];show((fc (DP g.code.length f)).bind _)=_;rw[K];rfl
end
variable{es:List Te}
section
variable{tb:Tab}{Γ:List BU}{th:Bool}
abbrev AHu{kind num:Nat}{own:St}{es:aAq}(y:AQm tb Γ th kind nm own es.length)(h:∀e∈es,j5 tb Γ th e):j5 tb Γ th (.mk kind num nm ty of own es):=by
 intro g p f q;have A:(Te.mk kind num nm ty of own es).cz=OG es+pZ kind:=by simp only[Te.cz]
 rw[A]at f⊢;by_cases i:kind=17
 .subst i;have B:es.length=2:=y;match es,B,h with
  |[a,b],_,h=>
   obtain⟨G,u,d⟩:=h a o6 g p (f.le (by simp only[OG];omega)) q;have H:=d.hi;have w:pZ 17=3:=rfl;rw[w]at f⊢;simp only[OG]at f⊢;obtain⟨v,C,D⟩:=ANo (nb:=b.cz) (nc:=1) (fb:=B9 tb b) (fc:=BA 32 0 1 0) (d.lk p) (d.x.rm (f.le a6)) (d.x.hs q) a6 (λg E k F=>h b o6 g E k F)
    λg _ k _=>Ex.bv (c:=32) (a:=0) (up:=1) (dn:=0) a_ a6 a6 (k.le a6) λP L _=>⟨.inr (.inr rfl),by simp[MV]⟩
   refine⟨v,?_,((d.trans D).sh a6).le a6⟩;show(B9 tb a g).bind _=some v;rw[u];exact C
 by_cases m:kind=18
 .subst m;have B:es.length=2:=y;match es,B,h with
  |[a,b],_,h=>
   obtain⟨G,u,d⟩:=h a o6 g p (f.le (by simp only[OG];omega)) q;have H:=d.hi;have w:pZ 18=3:=rfl;rw[w]at f⊢;simp only[OG]at f⊢;obtain⟨v,C,D⟩:=ANo (nb:=1) (nc:=b.cz) (fb:=BA 32 1 1 0) (fc:=B9 tb b) (d.lk p) (d.x.rm (f.le a6)) (d.x.hs q) a6
    (λg _ k _=>Ex.bv (c:=32) (a:=1) (up:=1) (dn:=0) a_ a6 a6 (k.le a6) λP L _=>⟨.inr (.inr rfl),by simp[MV]⟩) λg E k F=>h b o6 g E k F
   refine⟨v,?_,((d.trans D).sh a6).le a6⟩;show(B9 tb a g).bind _=some v;rw[u];exact C
 have w:1<=pZ kind:=by unfold pZ;split<;>(try split)<;>(try split)<;>omega
 obtain⟨G,u,d⟩:=yr h g p (f.le a6) q;have H:=d.hi;obtain⟨J,K,I⟩:=ATu (num:=num) (ty:=ty) (of:=of) (ks:=es.map Te.of) (by rw[uc];exact y) ⟨i,m⟩ (d.lk p) (d.x.rm (f.le a6)) (by rw[uc];omega);rw[uc]at I;refine⟨J,?_,(d.trans I).sh a6⟩;rw[B9]
 .rw[u];exact K
 .intro a b l e;exact absurd e i
 .intro a b l e;exact absurd e m
mutual
theorem yn:∀{e:Te},V6 tb Γ th e->j5 tb Γ th e
 |.mk _ _ _ _ _ _ es,h=>AHu h.1 (ACe (es:=es) h.2)
theorem ACe:∀{es:aAq},UJ tb Γ th es->∀e∈es,j5 tb Γ th e
 |[],_,_,he=>by cases he
 |x::l,h,e,he=>(qk.1 he).elim (λq=>q▸yn (e:=x) h.1) λq=>ACe (es:=l) h.2 e q
end
end
def ACq(Γ:aAm):Tt->aAm
 |.mk 1 nm ty _ _ _=>Γ++[⟨nm,ty⟩]
 |_=>Γ
def qL(tb:Tab)(Γ:aAm)(th:Bool):aAq->Prop
 |[.mk 6 _ nm _ _ _ ks,w]=>(∃t,Cg nm Γ=some t)/\V6 tb Γ th w/\ks.length=0
 |[.mk 7 _ _ _ _ _ ks,w]=>ks.length=1/\UJ tb Γ th ks/\V6 tb Γ th w
 |[.mk 12 _ _ _ _ _ ks,w]=>ks.length=2/\UJ tb Γ th ks/\V6 tb Γ th w
 |_=>False
def ltD(d:Nat):Nat:=if d=1 then 1 else 0
mutual
def Tt.be:Tt->Nat
 |.mk d _ _ _ th el=>Q0 th+Q0 el+ltD d
def Q0:aAt->Nat
 |[]=>0
 |x::l=>x.be+Q0 l
end
mutual
def gy(tb:Tab)(th:Bool)(Γ:aAm):Tt->Prop
 |.mk does _ _ es t e=>OG es<=900/\((does=2/\qL tb Γ th es/\t=[]/\e=[])∨((does=1∨does=3∨does=6∨does=7)/\es.length=1/\UJ tb Γ th es/\t=[]/\e=[])∨((does=4∨does=5)/\es.length=1/\UJ tb Γ th es/\Rz tb th Γ t/\Rz tb th Γ e))
def Rz(tb:Tab)(th:Bool)(Γ:aAm):aAt->Prop
 |[]=>True
 |s::l=>gy tb th Γ s/\Rz tb th (ACq Γ s) l
end
def Sok(tb:Tab)(Γ:aAm)(th:Bool)(s:Tt):Prop:=∀g,Lk Γ th g->Rm (s.cz+2) g->g.hi<=g.stk->g.vars.length+s.be<1000->g.loc+s.be<20000->
 ∃g',vX tb s g=some g'/\Gx s.cz g g'/\g'.hi=g.hi/\Lk (ACq Γ s) th g'/\g'.vars.length<=g.vars.length+s.be/\g'.stk<=max g.stk (g.hi+910)/\g'.loc<=g.loc+s.be
def nX(tb:Tab)(Γ:aAm)(th:Bool)(l:aAt):Prop:=∀g,Lk Γ th g->Rm (F2 l+2) g->g.hi<=g.stk->g.vars.length+Q0 l<1000->g.loc+Q0 l<20000->
 ∃g' ex,FN tb l g=some g'/\Gx (F2 l) g g'/\g'.hi=g.hi/\Lk (Γ++ex) th g'/\g'.stk<=max g.stk (g.hi+910)/\g'.loc<=g.loc+Q0 l
abbrev Lk.back{Γ ex:aAm}(h:Lk (Γ++ex) th g):Lk Γ th (EB Γ.length g):=by
 have d:=h.v;have f:=h.l;refine⟨?_,?_,λi k=>h.lt i (_k k),h.th⟩
 .show g.vars.take _=Γ;rw[d,R1 rfl]
 .show(g.slots.take _).length=(g.vars.take _).length;rw[xx,xx,f]
variable{e:Te}{w:Te}
section
variable{tb:Tab}{Γ:List BU}{th:Bool}
abbrev AGW(m:V6 tb Γ th e)(i:Lk Γ th g)(k:Rm (n+2) g)(C:n=e.cz+1)(p:g.hi<=g.stk)(q:c=29∨c=30∨c=31):
 ∃g',((B9 tb e g).bind (BA c 0 0 1))=some g'/\Gx n g g'/\g'.hi=g.hi/\Lk Γ th g'/\g'.vars=g.vars/\g'.loc=g.loc:=by
 have⟨d,u,f⟩:=yn m g i (k.le a6) p;have hi:=f.hi;have w:Rm 1 d:=f.x.rm (k.le a6);have two:∃g',BA c 0 0 1 d=some g'/\Ex 1 0 1 d g':=by
  rcases q with rfl|rfl|rfl<;>
   exact Ex.bv (a:=0) (up:=0) (dn:=1) a_ a6 a6 w λP L _=>⟨.inr (.inr rfl),by simp[MV]⟩
 have⟨y,A,B⟩:=two;have x:=f.trans B;exact⟨y,by rw[u];exact A,x.x.le a6,hN x.hi,x.lk i,x.v,x.l⟩
abbrev ADm(d:V6 tb Γ th e)(f:Lk Γ th g)(i:Rm n g)(k:e.cz+2<=n)(m:g.hi<=g.stk):∃g',B9 tb e g=some g'/\Ex e.cz 1 0 g g':=yn d g f (i.le k) m
abbrev AR9(y:V6 tb Γ th e)(m:Lk Γ th g)(p:Rm (n+2) g)(F:n=e.cz+1)(A:g.hi<=g.stk)(G:g.vars.length+1<1000)(H:g.loc+1<20000):
 ∃g',((B9 tb e g).bind λg=>(bE ⟨nm,ty⟩ g).bind λd=>BA 4 g.loc 0 1 d)=some g'/\Gx n g g'/\g'.hi=g.hi/\Lk (Γ++[⟨nm,ty⟩]) th g'/\g'.vars.length=g.vars.length+1/\g'.loc=g.loc+1:=by
 have⟨d,B,f⟩:=ADm y m p a6 A;have hi:=f.hi;have C:Rm 1 d:=f.x.rm (p.le a6);have k:=f.lk m;have D:bE ⟨nm,ty⟩ d=some {d with vars:=d.vars++[⟨nm,ty⟩],slots:=d.slots++[d.loc],loc:=d.loc+1}:=by unfold bE;rw[ui (by rw[f.v,f.l];omega)];rfl
 have u:=bu (c:=4) (a:=d.loc) (up:=0) (dn:=1) (g:={d with vars:=d.vars++[⟨nm,ty⟩],slots:=d.slots++[d.loc],loc:=d.loc+1}) (by show 1<=d.hi+0;omega) (by show d.code.length<20000;unfold Rm at C;omega);have E:=AQ2 (g:=d) u a_ a6 ⟨rfl,rfl,rfl,by show d.loc<=d.loc+1;omega,by show d.loc+1<=_;omega⟩ (.refl _) ⟨_a _,_a _,_a _,_a _,_a _⟩ λP L _ w=>⟨.inr (.inr (Mh rfl (q:=108) rfl a_ (by
  have w:d.loc+1<=L:=w;show((d.loc:Nat):Int)<(L:Int);omega))),by simp[MV]⟩
 refine⟨_,?_,(f.x.trans E).le a6,by show d.hi+0-1=_;omega,⟨by show d.vars++_=_;rw[k.v],?_,λi hi=>?_,λh=>by show 1<=d.loc+1;omega⟩,?_,by show d.loc+1=_;rw[f.l]⟩
 .rw[B];show((bE ⟨nm,ty⟩ d).bind _)=_;rw[D];exact u
 .show(d.slots++_).length=(d.vars++_).length;rw[uk,uk,k.l];rfl
 .rcases q_.1 (show i∈d.slots++[d.loc]from hi)with q|q
  .have:=k.lt i q;show i<d.loc+1;omega
  .have:=ff.1 q;show i<d.loc+1;omega
 .show(d.vars++_).length=_;rw[uk,f.v];rfl
abbrev ANx{kind:Nat}{num:Nat}{own:St}{ks:aAq}(h:qL tb Γ th [.mk kind num nm ty of own ks,w])(E:Lk Γ th g)(A:Rm (n+2) g)(W:n=OG ks+w.cz+1)(G:g.hi<=g.stk):
 ∃g',gx tb kind nm of own ks w g=some g'/\Ex n 0 0 g g':=by
 unfold gx;by_cases B:kind=6
 .subst B;have⟨⟨t,R⟩,S,_⟩:=(show(∃t,Cg nm Γ=some t)/\V6 tb Γ th w/\ks.length=0 from h);have⟨d,u,i⟩:=ADm S E A a6 G;have Q:=i.hi;have H:=i.lk E;have T:=yj (n:=d.loc) H.l H.lt (by rw[H.v];exact R);have⟨f,y,k⟩:=Ex.bv (c:=4) (a:=Uz nm d.vars d.slots) (up:=0) (dn:=1) (g:=d) a_ a6 a6 (i.x.rm (A.le a6)) λP L X=>⟨.inr (.inr (Mh rfl (q:=108) rfl a_ (by show((Uz nm d.vars d.slots:Nat):Int)<(L:Int);omega))),by simp[MV]⟩;refine⟨f,?_,((i.trans k).sh a6).le a6⟩;show((B9 tb w g).bind λg=>BA 4 (Uz nm g.vars g.slots) 0 1 g)=_;rw[u];exact y
 rw[eg B];have p:∀m,ks.length=m->UJ tb Γ th ks->V6 tb Γ th w->∃d f,Pq tb ks g=some d/\B9 tb w d=some f/\Ex (OG ks+w.cz) (m+1) 0 g f/\Rm 1 f:=λm Y U V=>by have⟨d,u,i⟩:=yr (ACe U) g E (A.le a6) G;have⟨f,y,k⟩:=ADm (n:=w.cz+2) V (i.lk E) (i.x.rm (A.le a6)) o_ (i.x.hs G);have x:=i.trans k;exact⟨d,f,u,y,x.sh a6,x.x.rm (A.le a6)⟩
 by_cases F:kind=7
 .subst F;have⟨C,I,J⟩:=(show ks.length=1/\UJ tb Γ th ks/\V6 tb Γ th w from h);have⟨d,f,u,y,k,D⟩:=p 1 C I J;have Q:=k.hi;have⟨K,M,N⟩:=Ex.fields (c:=17) (up:=0) (dn:=2) (x:=⟨⟨nm,of⟩,own⟩) (g:=f) a_ a6 a6 D rfl rfl λP a=>by simp[MV]
  refine⟨K,?_,((k.trans N).sh a6).le a6⟩;show((Pq tb ks g).bind _)=_;rw[u];show((B9 tb w d).bind _)=_;rw[y];show(bif rU f then _ else none)=_;rw[D.sm];exact M
 .have O:kind=12:=by
   match kind,h,B,F with
   |12,_,_,_=>rfl
   |6,_,B,_=>exact absurd rfl B
   |7,_,_,F=>exact absurd rfl F
  subst O;have⟨C,I,J⟩:=(show ks.length=2/\UJ tb Γ th ks/\V6 tb Γ th w from h);have⟨d,f,u,y,k,D⟩:=p 2 C I J;have Q:=k.hi;match ks,C with
  |a::l,C=>
   have⟨K,M,N⟩:=Ex.types (c:=21) (up:=0) (dn:=3) (x:=a.of) (g:=f) a_ a6 a6 D rfl rfl λP a=>by simp[MV]
   refine⟨K,?_,((k.trans N).sh a6).le a6⟩;show((Pq tb (a::l) g).bind _)=_;rw[u];show((B9 tb w d).bind _)=_;rw[y];show(bif rU f then _ else none)=_;rw[D.sm];exact M
end
variable{el:List Tt}
section
variable{tb:Tab}{Γ:List BU}{th:Bool}
abbrev Gx.yB(h:Gx n g g')(r:Rm k g)(e:n+m<=k):Rm m g':=h.rm (r.le e)
abbrev AJX{d:Gn}(u:V6 tb Γ th e)(k:Lk Γ th d)(m:Rm n d)(A:e.cz+3<=n)(p:d.hi<=d.stk):
 ∃g f,B9 tb e d=some g/\BA 28 0 0 1 g=some f/\Ex e.cz 1 0 d g/\Lk Γ th f/\f.hi=d.hi/\Rm (n-e.cz-1) f/\f.hi<=f.stk/\f.vars=d.vars/\f.loc=d.loc/\f.stk<=max d.stk (d.hi+e.cz+1):=by have⟨g,w,x⟩:=ADm u k m a6 p;have hi:=x.hi;have q:Rm (n-e.cz-1+1) g:=x.x.yB m a6;have i:=bu (c:=28) (a:=0) (up:=0) (dn:=1) (g:=g) a6 (by unfold Rm at q;omega);have y:=x.x.hs p;exact⟨g,_,w,i,x,(x.lk k).put i,by show g.hi+0-1=_;omega,Rm.put i q,by show g.hi+0-1<=max _ _;omega,x.v,x.l,by have:=x.x.st;show max g.stk (g.hi+0-1)<=_;omega⟩
abbrev ANI{t:aAt}{d:Gn}(y:V6 tb Γ th e)(A:nX tb Γ th t)(B:Lk Γ th d)(C:Rm (n+2) d)(S:n=e.cz+F2 t+2)(m:d.hi<=d.stk)(T:d.vars.length+Q0 t<1000)(U:d.loc+Q0 t<20000)(V:e.cz<=900):
 ∃g',((B9 tb e d).bind λg=>(BA 28 0 0 1 g).bind λi=>(FN tb t i).bind λf=>(BA 27 d.code.length 0 0 (EB i.vars.length f)).bind λD=>some (DP g.code.length D))=some g'/\Gx n d g'/\g'.hi=d.hi/\Lk Γ th g'/\g'.stk<=max d.stk (d.hi+910)/\g'.loc<=d.loc+Q0 t:=by
 have⟨g,i,E,u,x,p,F,q,G,H,I,J⟩:=AJX y B C a6 m;have⟨f,ex,K,w,L,M,N,O⟩:=A i p (q.le a6) G (by rw[H];omega) (by rw[I];omega);have P:Rm 2 f:=w.yB q a6;have Q:i.vars.length=Γ.length:=by rw[p.v]
 have k:=bu (c:=27) (a:=d.code.length) (up:=0) (dn:=0) (g:=EB i.vars.length f) a6 (by show f.code.length<_;unfold Rm at P;omega);have R:Lk Γ th (EB i.vars.length f):=by rw[Q];exact M.back
 refine⟨_,?_,(ARu x.x u w.back k ?_ ?_ m).le a6,?_,(R.put k).here,by show max f.stk (f.hi+0-0)<=_;omega,by show f.loc<=_;omega⟩;all_goals first|(show f.hi=_;omega)|(show f.hi+0-0=_;omega)|skip
 rw[E];show((BA 28 0 0 1 g).bind _)=_;rw[u];show((FN tb t i).bind _)=_;rw[K];show((BA 27 d.code.length 0 0 (EB i.vars.length f)).bind _)=_;rw[k];rfl
abbrev AVu{t el:aAt}{k:Gn}(J:V6 tb Γ th e)(K:nX tb Γ th t)(y:nX tb Γ th el)(E:Lk Γ th k)(L:Rm (n+2) k)(hn:n=e.cz+F2 t+F2 el+2)(F:k.hi<=k.stk)(M:k.vars.length+(Q0 t+Q0 el)<1000)(h2:k.loc+(Q0 t+Q0 el)<20000)(h9:e.cz<=900):
 ∃g',((B9 tb e k).bind λg=>(BA 28 0 0 1 g).bind λi=>(FN tb t i).bind λd=>(BA 27 0 0 0 (EB i.vars.length d)).bind λf=>(FN tb el (DP g.code.length f)).bind λg4=>some (DP d.code.length (EB f.vars.length g4)))=some g'/\Gx n k g'/\g'.hi=k.hi/\Lk Γ th g'/\g'.stk<=max k.stk (k.hi+910)/\g'.loc<=k.loc+(Q0 t+Q0 el):=by
 have⟨g,i,N,u,x,G,O,H,P,Q,R,S⟩:=AJX J E L a6 F;have⟨d,ex,T,A,U,V,W,X⟩:=K i G (H.le a6) P (by rw[Q];omega) (by rw[R];omega);have I:Rm (F2 el+3) d:=A.yB H a6;have Y:i.vars.length=Γ.length:=by rw[G.v]
 have m:=bu (c:=27) (a:=0) (up:=0) (dn:=0) (g:=EB i.vars.length d) a6 (by show d.code.length<_;unfold Rm at I;omega);have Z:Lk Γ th (EB i.vars.length d):=by rw[Y];exact V.back
 generalize hg3:({EB i.vars.length d with code:=(EB i.vars.length d).code++[⟨27,0⟩],hi:=(EB i.vars.length d).hi+0-0,stk:=max (EB i.vars.length d).stk ((EB i.vars.length d).hi+0-0)}:Gn)=f at m;have k3:f.hi=d.hi/\f.stk=max d.stk d.hi/\f.loc=d.loc:=by subst hg3;exact⟨rfl,rfl,rfl⟩
 have B:=(Z.put m);have C:f.vars.length=Γ.length:=by rw[B.v]
 have d0:=A.lc;have⟨g4,d1,e4,x4,p,l4,q,w⟩:=y (DP g.code.length f) B.here (Rm.here (Rm.put m (n:=F2 el+2) (show Rm (F2 el+2+1) d from I))) (by show f.hi<=f.stk;omega) (by show f.vars.length+_<_;rw[B.v];rw[E.v]at M;omega) (by show f.loc+_<_;omega);have p:g4.hi=f.hi:=p;have q:g4.stk<=max f.stk (f.hi+910):=q;have w:g4.loc<=f.loc+Q0 el:=w;have D:Lk Γ th (EB f.vars.length g4):=by rw[C];exact l4.back
 refine⟨DP d.code.length (EB f.vars.length g4),?_,(x.x.trans (AM8 (g4:=EB f.vars.length g4) u A.back m x4.back (by show d.hi=_;omega) (by show g4.hi=d.hi;omega) (x.x.hs F))).le a6,by show g4.hi=_;omega,D.here,by show g4.stk<=_;omega,by show g4.loc<=_;omega⟩;rw[N];show((BA 28 0 0 1 g).bind _)=_;rw[u];show((FN tb t i).bind _)=_;rw[T];show((BA 27 0 0 0 (EB i.vars.length d)).bind _)=_;rw[m];show((FN tb el (DP g.code.length f)).bind _)=_;rw[e4];rfl
end
section
variable{tb:Tab}{th:Bool}
abbrev AJ6{es:aAq}{t el:aAt}{Γ:aAm}(h:gy tb th Γ (.mk d nm ty es t el))(M:Rz tb th Γ t->nX tb Γ th t)(O:Rz tb th Γ el->nX tb Γ th el):Sok tb Γ th (.mk d nm ty es t el):=by
 intro g u f B C D;have H:(Tt.mk d nm ty es t el).cz=OG es+F2 t+F2 el+bF d:=by simp only[Tt.cz]
 rw[H]at f⊢;have I:(Tt.mk d nm ty es t el).be=Q0 t+Q0 el+ltD d:=by simp only[Tt.be]
 rw[I]at C D⊢;have⟨J,h⟩:=(show OG es<=900/\_ from h);rcases(show(d=2/\qL tb Γ th es/\t=[]/\el=[])∨((d=1∨d=3∨d=6∨d=7)/\es.length=1/\UJ tb Γ th es/\t=[]/\el=[])∨((d=4∨d=5)/\es.length=1/\UJ tb Γ th es/\Rz tb th Γ t/\Rz tb th Γ el)from h)with⟨rfl,E,rfl,rfl⟩|⟨K,L,A,rfl,rfl⟩|⟨K,L,A,N,P⟩
 .match es,E with
  |[.mk kind num Q R of own ks,w],E=>
   have A:1<=pZ kind:=by unfold pZ;split<;>(try split)<;>(try split)<;>omega
   simp only[OG,Te.cz]at f J⊢;have⟨i,k,x⟩:=ANx (n:=OG ks+w.cz+1) E u (f.le a6) rfl B;have m:=x.hi;have y:=x.x.st;exact⟨i,k,x.x.le (by simp only[F2];omega),a6,x.lk u,by rw[x.v];omega,a6,by rw[x.l];omega⟩
  |[.mk _ _ _ _ _ _ _],E=>exact absurd E (by simp[qL])
  |.mk _ _ _ _ _ _ _::_::_::_,E=>exact absurd E (by simp[qL])
 .match es,L with
  |[e],_=>
   simp only[OG]at f J⊢;rcases K with rfl|rfl|rfl|rfl
   .have p:bF 1=1:=rfl;have q:ltD 1=1:=rfl;rw[p]at f⊢;rw[q]at C D⊢;have⟨i,k,x,m,l,v,F⟩:=AR9 (n:=e.cz+1) (nm:=nm) (ty:=ty) A.1 u (f.le a6) rfl B a6 a6;have y:=x.st;exact⟨i,k,x.le (by simp only[F2];omega),m,l,a6,a6,a6⟩
   .have p:bF 3=1:=rfl;have q:ltD 3=0:=rfl;rw[p]at f⊢;rw[q]at C D⊢;have⟨i,k,x,m,l,v,F⟩:=AGW (n:=e.cz+1) (c:=31) A.1 u (f.le a6) rfl B a6;have y:=x.st;exact⟨i,k,x.le (by simp only[F2];omega),m,l,by rw[v];omega,a6,a6⟩
   .have p:bF 6=1:=rfl;have q:ltD 6=0:=rfl;rw[p]at f⊢;rw[q]at C D⊢;have⟨i,k,x,m,l,v,F⟩:=AGW (n:=e.cz+1) (c:=29) A.1 u (f.le a6) rfl B a6;have y:=x.st;exact⟨i,k,x.le (by simp only[F2];omega),m,l,by rw[v];omega,a6,a6⟩
   .have p:bF 7=1:=rfl;have q:ltD 7=0:=rfl;rw[p]at f⊢;rw[q]at C D⊢;have⟨i,k,x,m,l,v,F⟩:=AGW (n:=e.cz+1) (c:=30) A.1 u (f.le a6) rfl B a6;have y:=x.st;exact⟨i,k,x.le (by simp only[F2];omega),m,l,by rw[v];omega,a6,a6⟩
 .match es,L with
  |[e],_=>
   simp only[OG]at f J⊢;have G:∀{i:Gn},Lk Γ th i->i.vars.length=g.vars.length:=λl=>by rw[l.v,u.v]
   rcases K with rfl|rfl
   .have p:bF 4=2:=rfl;have q:ltD 4=0:=rfl;rw[p]at f⊢;rw[q]at C D⊢;have⟨i,k,x,m,l,st,F⟩:=AVu (n:=e.cz+F2 t+F2 el+2) A.1 (M N) (O P) u (f.le a6) rfl B a6 a6 a6;exact⟨i,k,x.le a6,m,l,by rw[G l];omega,st,a6⟩
   .have p:bF 5=2:=rfl;have q:ltD 5=0:=rfl;rw[p]at f⊢;rw[q]at C D⊢;have⟨i,k,x,m,l,st,F⟩:=ANI (n:=e.cz+F2 t+2) A.1 (M N) u (f.le a6) rfl B a6 a6 a6;exact⟨i,k,x.le a6,m,l,by rw[G l];omega,st,a6⟩
abbrev ALi(Γ:aAm)(s:Tt):∃ex,ACq Γ s=Γ++ex:=by
 unfold ACq;split
 .exact⟨_,rfl⟩
 .exact⟨[],(qs _).symm⟩
mutual
theorem AQS:∀{s:Tt} {Γ:aAm},gy tb th Γ s->Sok tb Γ th s
 |.mk _ _ _ _ t el,_,h=>AJ6 h (λw=>rk (l:=t) w) λw=>rk (l:=el) w
theorem rk:∀{l:aAt} {Γ:aAm},Rz tb th Γ l->nX tb Γ th l
 |[],Γ,_=>λg hl _ _ _ _=>⟨g,[],rfl,.refl g,rfl,by rw[qs];exact hl,a6,a6⟩
 |s::l,Γ,h=>λg hl hr hs h1 h2=>by simp only[F2]at hr⊢;simp only[Q0]at h1 h2⊢;obtain⟨g1,e1,x1,hi1,l1,v1,st1,lc1⟩:=AQS (s:=s) h.1 g hl (hr.le a6) hs a6 a6;have hlc:=x1.lc;obtain⟨g2,ex,e2,x2,hi2,l2,st2,lc2⟩:=rk (l:=l) h.2 g1 l1 (x1.yB hr a6) (x1.hs hs) a6 a6;obtain⟨ex1,ho⟩:=ALi Γ s;rw[ho,y_]at l2;refine⟨g2,_,?_,x1.trans x2,hi2.trans hi1,l2,a6,a6⟩;show((vX tb s g).bind (FN tb l))=_;rw[e1];exact e2
end
end
abbrev AE1:∀{ps:aAm} {g:Gn},g.slots.length=g.vars.length->(∀i∈g.slots,i<g.loc)->g.vars.length+ps.length<1000->g.loc+ps.length<20000->
 ∃sl,dE ps g=some {g with vars:=g.vars++ps,slots:=sl,loc:=g.loc+ps.length}/\sl.length=(g.vars++ps).length/\∀i∈sl,i<g.loc+ps.length
 |[],g,d,f,_,_=>⟨g.slots,by rw[qs];rfl,by rw[qs];exact d,f⟩
 |v::ps,g,d,f,m,p=>by
  rw[j']at m p;have u:bE v g=some {g with vars:=g.vars++[v],slots:=g.slots++[g.loc],loc:=g.loc+1}:=by unfold bE;rw[ui a6];rfl
  have⟨sl,e,w,x⟩:=AE1 (ps:=ps) (g:={g with vars:=g.vars++[v],slots:=g.slots++[g.loc],loc:=g.loc+1}) (by simp[d]) (λi k=>by
   rcases q_.1 (show i∈g.slots++[g.loc]from k)with q|q
   .have:=f i q;show i<g.loc+1;omega
   .have:=ff.1 q;show i<g.loc+1;omega) (by simp;omega) (by show g.loc+1+_<_;omega)
  refine⟨sl,?_,by rw[w];simp,λi k=>by have:=x i k;rw[j'];show i<_;have:i<g.loc+1+ps.length:=this;omega⟩;show((bE v g).bind (dE ps))=_;rw[u];show dE ps _=_;rw[e];simp only[y_,A_,j'];congr 2;omega
abbrev AP1{ret:Ty}(p:Rm 3 g)(B:g.hi<=g.stk):∃g',AEg ret g=some g'/\Ex 2 0 0 g g'/\∃c0 a0:Int,(c0=1∨c0=32∨c0=2)/\g'.code=g.code++[⟨c0,a0⟩,⟨29,0⟩]:=by
 have q:∀{f:aAD} {c:Nat} {a:Int},(c=1∨c=32∨c=2)->(∃d,f=some d/\Ex 1 1 0 g d/\d.code=g.code++[⟨c,a⟩])->
  ∃g',f.bind (BA 29 0 0 1)=some g'/\Ex 2 0 0 g g'/\∃c0 a0:Int,(c0=1∨c0=32∨c0=2)/\g'.code=g.code++[⟨c0,a0⟩,⟨29,0⟩]:=by rintro f c a C ⟨d,i,k,u⟩;have D:=k.hi;have⟨y,w,A⟩:=Ex.bv (c:=29) (a:=0) (up:=0) (dn:=1) (g:=d) a_ a6 a6 (k.x.rm (n:=1) (p.le a6)) λP L _=>⟨.inr (.inr rfl),by simp[MV]⟩;refine⟨y,by rw[i];exact w,((k.trans A).sh a6).le a6,c,a,a6,?_⟩;obtain⟨_,_,rfl⟩:=Jl w;show d.code++[_]=_;rw[u,y_];rfl
 have v:=p.le (m:=1) a6;unfold AEg;rw[p.sm];show ∃g',((bif ret.is BY then BA 1 (WL 0 g).1 1 0 (WL 0 g).2 else bif ret.is A3 then BA 32 0 1 0 g else BA 2 0 1 0 g).bind (BA 29 0 0 1))=some g'/\_;cases ret.is BY with
 |true=>
  refine q (c:=1) (a:=(WL 0 g).1) (.inl rfl) ?_;have⟨d,i,k⟩:=Ex.nums (c:=1) (up:=1) (dn:=0) (x:=0) (g:=g) a_ a6 a6 v rfl rfl λP a=>by simp[MV]
  refine⟨d,i,k,?_⟩;obtain⟨_,_,rfl⟩:=Jl i;rfl
 |false=>
  cases ret.is A3 with
  |true=>
   refine q (c:=32) (a:=0) (.inr (.inl rfl)) ?_;have⟨d,i,k⟩:=Ex.bv (c:=32) (a:=0) (up:=1) (dn:=0) (g:=g) a_ a6 a6 v λP L _=>⟨.inr (.inr rfl),by simp[MV]⟩;refine⟨d,i,k,?_⟩;obtain⟨_,_,rfl⟩:=Jl i;rfl
  |false=>
   refine q (c:=2) (a:=0) (.inr (.inr rfl)) ?_;have⟨d,i,k⟩:=Ex.bv (c:=2) (a:=0) (up:=1) (dn:=0) (g:=g) a_ a6 a6 v λP L _=>⟨.inr (.inr rfl),by simp[MV]⟩;refine⟨d,i,k,?_⟩;obtain⟨_,_,rfl⟩:=Jl i;rfl
structure vg(P:Pool)(b:Bd)(H:Nat->Nat):Prop where
 z:H 0=0
 ne:0<b.code.length
 at':∀i x,b.code[i]? =some x->Nz (UM P b) x=true/\(0:Int)<=H i+MV P x/\(H i:Int)+MV P x<=b.stack/\
  ((x.code=27∨x.code=28)->∃t:Nat,x.arg=t/\t<b.code.length/\(H t:Int)=H i+MV P x)/\(x.code≠27->x.code≠29->i+1<b.code.length/\(H (i+1):Int)=H i+MV P x)
abbrev AG7{g:Nat->Int}{t:Nat}(d:x.code=27∨x.code=28)(f:x.arg=t)(i:(t:Int)<g 106):Nz g x=true:=by
 have⟨c,a⟩:=x;have f:a=t:=f;subst f;rcases d with d|d
 .have d:c=27:=d;subst d;exact Mh (c:=27) rfl rfl a_ i
 .have d:c=28:=d;subst d;exact Mh (c:=28) rfl rfl a_ i
variable{P:Pool}{b:Bd}
abbrev AKX{L:Nat}(g:b.locals=L)(h:Nz (UM P ⟨L,0,[]⟩) x=true):Nz (UM P b) x=true:=by
 unfold Nz at h⊢;rw[ez]at h⊢;refine⟨h.1,?_⟩;have d:=h.2;cases f:decide (Vb x.code=0)with
 |true=>rw[f]at d;exact d
 |false=>
  rw[f]at d;have d:(decide (0<=x.arg)&&decide (x.arg<UM P ⟨L,0,[]⟩ (Vb x.code)))=true:=d;show(decide (0<=x.arg)&&decide (x.arg<UM P b (Vb x.code)))=true;rw[ez]at d⊢;refine⟨d.1,ui (Int.lt_of_lt_of_le (kh d.2) ?_)⟩;unfold UM;rw[g];generalize Vb x.code=q;cases decide (q=110)<;>cases decide (q=99)<;>cases decide (q=116)<;>cases decide (q=102)<;>cases decide (q=109)<;>cases decide (q=108)<;>cases decide (q=106)<;>first|exact Int.le_refl _|exact Int.natCast_nonneg _
abbrev AGP{m:Tm}(hw:Rz tb (!m.st) m.ps m.body)(hz:F2 m.body<=4028)(d0:m.ps.length+Q0 m.body<=200)(W:SW p n)(hn:n<=12300):
 ∃b p',U8 tb m p=some (b,p')/\Uy p p'/\SW p' (n+4030)/\((least (Ip m):Nat):Int)<=b.locals/\b.locals<=401/\0<=b.stack/\b.stack<=1000/\b.code.length<=16384/\∀P,Uy p' P->∃H,vg P b H:=by
 have⟨X,e,l1,l2⟩:=AE1 (ps:=m.ps) (g:=⟨p,[],0,bif m.st then 0 else 1,0,[],[]⟩) rfl (λ_ h=>by cases h) (by show 0+_<_;omega) (by show(bif m.st then 0 else 1)+_<_;cases m.st<;>simp only[_K,_j]<;>omega);generalize hg:({p:=p,code:=[],stk:=0,loc:=(bif m.st then 0 else 1)+m.ps.length,hi:=0,vars:=[]++m.ps,slots:=X}:Gn)=g at e;have e':dE m.ps ⟨p,[],0,bif m.st then 0 else 1,0,[],[]⟩=some g:=by rw[e,<-hg]
 have q:g.p=p/\g.code=[]/\g.stk=0/\g.loc=(bif m.st then 0 else 1)+m.ps.length/\g.hi=0/\g.vars=m.ps/\g.slots=X:=by subst hg;exact⟨rfl,rfl,rfl,rfl,rfl,rfl,rfl⟩
 have⟨q1,q2,q3,q4,q5,q6,q7⟩:=q;have d5:g.loc<=1+m.ps.length/\least (Ip m)<=g.loc:=by rw[q4];unfold least Ip;show _/\(bif m.st then(m.ps.map BU.ty).length else(m.ps.map BU.ty).length+1)<=_;rw[uc];cases m.st<;>simp only[_K,_j]<;>omega
 have hl:Lk m.ps (!m.st) g:=⟨q6,by rw[q7,q6];exact l1,by rw[q7,q4];exact l2,λh=>by rw[q4];cases J:m.st with|true=>rw[J]at h;cases h|false=>show 1<=1+_;omega⟩;have Z:Rm (F2 m.body+3) g:=by unfold Rm;unfold SW at W;rw[q1,q2];simp only[_X];omega
 have⟨f,ex,e1,w,d6,d7,d8,d9⟩:=rk (l:=m.body) hw g hl (Z.le a6) a6 (by rw[q6];omega) a6;have K:=w.hs a6;have⟨d,e2,x2,F,a0,L,u⟩:=AP1 (ret:=m.ret) (g:=EB g.vars.length f) (show Rm 3 f from w.yB Z a6) K;have B:=x2.x.back';have M:=w.cl;have f0:=w.lc;have N:=w.sz;have xs:=B.st;have xz:=B.sz;have f1:d.loc=f.loc:=x2.l;have u:d.code=f.code++[⟨F,a0⟩,⟨29,0⟩]:=u;have C:d.code.length=f.code.length+2:=by rw[u,uk];rfl
 rw[q2]at M;have O:([]:List Ins).length=0:=rfl;refine⟨⟨d.loc,d.stk,d.code⟩,d.p,?_,?_,?_,?_,?_,?_,?_,?_,λP hP=>?_⟩
 .unfold U8;rw[e'];show((FN tb m.body g).bind _)=_;rw[e1];show((AEg m.ret (EB g.vars.length f)).map _)=_;rw[e2];rfl
 .rw[<-q1];exact w.pf.trans B.pf
 .unfold SW at W⊢;rw[q1]at N;omega
 .show _<=((d.loc:Nat):Int);omega
 .show((d.loc:Nat):Int)<=401;omega
 .show(0:Int)<=((d.stk:Nat):Int);omega
 .show((d.stk:Nat):Int)<=1000;omega
 .show d.code.length<=16384;omega
 .obtain⟨H1,a1,b1,s1⟩:=w.seg P d.loc d.stk (B.pf.trans hP) a6 a6;have⟨H2,a2,b2,s2⟩:=B.seg P d.loc d.stk hP o_ o_;rw[q2,O]at a1 s1;have⟨H,D,k2⟩:=glue (b1.trans a2.symm);refine⟨H,(D 0 (j_ _)).trans (a1.trans q5),by show 0<d.code.length;omega,λi x k=>?_⟩;have k:d.code[i]? =some x:=k;have Y:=(us.1 k).1;show Nz (UM P _) x=true/\(0:Int)<=H i+MV P x/\(H i:Int)+MV P x<=((d.stk:Nat):Int)/\((x.code=27∨x.code=28)->∃t:Nat,x.arg=t/\t<d.code.length/\(H t:Int)=H i+MV P x)/\(x.code≠27->x.code≠29->i+1<d.code.length/\(H (i+1):Int)=H i+MV P x);have ok:ABS P d.loc x->((x.code=27∨x.code=28)->∃t:Nat,x.arg=t/\t<d.code.length/\(H t:Int)=H i+MV P x)->Nz (UM P ⟨d.loc,d.stk,d.code⟩) x=true:=λv h2=>by
   by_cases A:x.code=27∨x.code=28
   .obtain⟨t,t1,t2,_⟩:=h2 A;exact AG7 A t1 (show(t:Int)<(d.code.length:Int)by omega)
   .rcases v with h|h|h
    .exact absurd (.inl h) A
    .exact absurd (.inr h) A
    .exact AKX (b:=⟨d.loc,d.stk,d.code⟩) rfl h
  by_cases v:i<f.code.length
  .obtain⟨y,G,Q,R,S,c5,T⟩:=s1.at' i (j_ _) v;have:x=y:=by have:=B.pre i v;rw[k,G]at this;exact e_ this
   subst this;rw[D i a6];have A:(x.code=27∨x.code=28)->∃t:Nat,x.arg=t/\t<d.code.length/\(H t:Int)=H1 i+MV P x:=λe=>by have⟨t,d1,d2,d3,d4⟩:=c5 e;exact⟨t,d1,a6,by rw[D t d3];exact d4⟩
   refine⟨ok Q (by rw[D i a6];exact A),R,S,A,λU I=>⟨a6,by rw[D (i+1) a6];exact T U I⟩⟩
  .obtain⟨y,G,Q,R,S,c5,T⟩:=s2.at' i (I'.1 v) Y;have:x=y:=by rw[k]at G;exact e_ G
   subst this;rw[k2 i (I'.1 v)];have E:(x=⟨F,a0⟩/\i=f.code.length)∨x=⟨29,0⟩:=by
    rw[u,i_ a6]at k;rcases(show i-f.code.length=0∨i-f.code.length=1 by omega)with e|e
    .rw[e]at k;cases k;exact .inl ⟨rfl,Nat.le_antisymm (Nat.le_of_sub_eq_zero e) (I'.1 v)⟩
    .rw[e]at k;cases k;exact .inr rfl
   have nj:¬(x.code=27∨x.code=28):=by
    rcases E with⟨rfl,_⟩|rfl
    .show ¬(F=27∨F=28);rcases L with h|h|h<;>rw[h]<;>decide
    .show ¬((29:Int)=27∨(29:Int)=28);decide
   refine⟨ok Q λe=>absurd e nj,R,S,λe=>absurd e nj,λU I=>?_⟩;rcases E with⟨_,V⟩|rfl
   .exact⟨by rw[V,C];exact _p _,by rw[k2 (i+1) (Nat.le_succ_of_le (I'.1 v))];exact T U I⟩
   .exact absurd rfl I
abbrev fz:LV:=[iN 0,iN 0,iN 0]
abbrev tF{P Q:Prop}(h:Q):AS (.bool false) P Q:=h
structure One(tb:Tab)(c:Tc):Prop where
 ok:ASc c
 l1:DU tb c.nm=some (Ar c)
 h1:Cj tb c.nm=0
 c1:∃c',Yy tb c=some c'
section
variable{G:AQ}{H:Heap}{n:Nat}{k:KV}
abbrev AP4(hG:RN G){v:V}{ls:Bh}{cs:List Tc}{P:Nat->Prop}(W:El G H v 6 ls)(X:∀id,v.CD=some id->id<n)(d6:Vs G H P ls cs)(C:∀id,P id->id<n)(hF:io (Ef (cs.map Ar)))
 (Y:∀(i:Nat) (c:Tc),cs[i]? =some c->∃l,ls[i]? =some l/\WP G H P l c/\One (Ef (cs.map Ar)) c) (f5:cs.length<=100)
 (hk:∀u E w A,Kp H n u E->Sk u 6 (λid=>n<=id/\id<E) w A->A.length=cs.length->(∀(i:Nat) (c:Tc),cs[i]? =some c->∃d x,A[i]? =some d/\WP G u (λid=>P id∨(n<=id/\id<E)) d x/\Yy (Ef (cs.map Ar)) c=some x)->k (.CV [w,.bool true]) u E):
 Runs F G Xz [v] H n k:=by
 refine go1 (nx Ae G) ?_;delta Xd;have f9:=d6.len;refine AQP W X d6 C (λc M=>by have⟨i,hi⟩:=_m.1 M;have⟨l,_,_,h⟩:=Y i c hi;exact h.ok) f5 λH1 Z t a b f1 i1 d0=>?_
 generalize hT:Ef (cs.map Ar)=tb at hF Y hk d0;have i2:=f1.le;have g0:=d0.bn;refine AYs a6 λH2 f2 g2=>?_;have⟨t2,g2⟩:=g2;have R:=(W.same (H':=H2) λid f=>(f1.trans f2).same id (X id f)).len;rw[f9]at R;refine AB R ?_;refine BL (N:=cs.length) (J:=λj q=>∃u E w A,q=(.ptr t 0,w,v,iN cs.length,iN j,u,E)/\Kb b H1 Z u E/\Z<=E/\Sk u 6 (λid=>Z<=id/\id<E) w A/\A.length=j/\
  (∀(i:Nat) (c:Tc),i<j->cs[i]? =some c->∃d x,A[i]? =some d/\WP G u (λid=>P id∨(Z<=id/\id<E/\w.CD≠some id)) d x/\Yy tb c=some x)) ?_ ?_
  ⟨H2,Z+1,_,[],rfl,f2.kb g0,a6,.emp g2 ⟨a6,a6⟩,rfl,λi c h=>a6⟩
 .rintro I j q d7 ⟨S,K,w,A,rfl,f3,g1,d1,O,d2⟩ ih;show Fx lfp G (Runs F G) k I (.ptr t 0) w v (iN cs.length) (iN j) S K;delta Fx;have U:∀id,id<n->T.get S id=T.get H id:=λid f=>(f3.same id a6 a6).trans (f1.same id f);have D:=eb d7;have⟨l,hl,M,ho⟩:=Y j _ D;generalize cs[j]=c at D M ho;have d8:=W.same (H':=S) λid f=>U id (X id f);have⟨p,hp,g3⟩:=d8.at hl;rw[D9,AJ,ui d7,Ah];refine AB hp (AB (BZ g3) ?_);refine Ao rfl λH4 f4 g4=>?_;refine BX g4 rfl M.len a6 λH5 g5 s5=>?_;have d3:Kp S K H5 (K+1):=⟨f4.le,λid f=>(s5 id a6).trans (f4.same id f)⟩;refine AB (As (m:=6) g5 a6 M.len) ?_;have⟨x,hx⟩:=ho.c1;have g6:=M.mono (H':=H5) (B:=P) (λ_ h=>h) λid f=>(d3.same id (hN (C id f))).trans (U id (C id f));have uU:=(d0.kb f3).kb (d3.kb (b:=b) a6);refine ADH hG uU hF g6 (λid f=>hN (C id f)) ho.ok ho.l1 ho.h1 hx λH6 Q l' f6 q6=>?_;have i3:=f6.le;rw[OC,AJ,N4,AJ];refine Ao rfl λH7 f7 g7=>?_;refine Ao rfl λH8 f8 g8=>?_;have g7:=f8.get g7 a6;refine BX g7 rfl q6.len a6 λH9 g9 s9=>?_;refine BX (L:=fz) ((s9 (Q+1) a6).trans g8) rfl rfl a6 λHa ga sa=>?_;have g9:T.get Ha Q=_:=(sa Q a6).trans g9;have d9:Kp H6 Q Ha (Q+1+1):=⟨a6,λid f=>(sa id a6).trans ((s9 id a6).trans ((f8.same id a6).trans (f7.same id f)))⟩;rw[AP,AJ];refine AB (AK (off:=0+0) ga (v:=.int .i64 (.ofNat 0) 0) rfl) (AB (zN ..) ?_);show AS (.bool false) _ _;refine tF ?_;refine AB (As (m:=6) g9 a6 q6.len) ?_;have eX:Kb b S K Ha (Q+1+1):=((d3.kb (b:=b) a6).trans f6).trans (d9.kb a6);have d4:Sk Ha 6 (λid=>Z<=id/\id<K) w A:=d1.mono (λ_ h=>h) λid h=>eX.same id h.2 a6;refine d4.app (bs:=96) (c:=.agg l') (m:=0) (λid f=>hN (d4.own f)) a6 rfl q6.len a6 λw' Hb i0 g f0=>?_;rw[CA a6,AJ];have w'ne:∀id,id<Q+1+1->w'.CD≠some id:=λid h e=>by rw[f0]at e;have:=e_ e;omega
  have wo:∀id,w.CD=some id->Z<=id/\id<K:=λid e=>d4.own e;refine ih _ ⟨Hb,Q+1+1+2,w',A++[l'],rfl,⟨a6,λid h1 h2=>(g id a6 λe=>hN (wo _ e)).trans ((eX.same id a6 h2).trans (f3.same id h1 h2)),λhs=>(eX.seen (f3.seen hs)).same (g _ a6 λe=>hN (wo _ e))⟩,a6,i0 _ ⟨a6,a6⟩,by rw[uk,O];rfl,λi c2 hi d5=>?_⟩;by_cases e:i=j
  .subst e;rw[D]at d5;cases d5;refine⟨l',x,by rw[i_ a6,O];simp,?_,hx⟩;refine(q6.mono (H':=Ha) (B:=λid=>P id∨(K+1<=id/\id<Q)) (λ_ h=>h) λid f=>d9.same id (by rcases f with h|h;have:=C id h;omega;exact h.2)).mono (λid f=>?_) λid f=>g id (by rcases f with h|h;have:=C id h;omega;omega) λe=>by have:=wo _ e;rcases f with h|h;have:=C id h;omega;omega
   rcases f with h|h
   .exact .inl h
   .exact .inr ⟨a6,a6,w'ne id a6⟩
  .obtain⟨d,y,h1,h2,h3⟩:=d2 i c2 a6 d5;refine⟨d,y,by rw[qi (hN ((us.1 h1).1))];exact h1,h2.mono (λid f=>?_) (λid f=>?_),h3⟩
   .rcases f with h|h
    .exact .inl h
    .exact .inr ⟨h.1,a6,w'ne id a6⟩
   .rcases f with h|h
    .exact(g id (hN (C id h)) λe=>tw (wo _ e) (C id h)).trans (eX.same id (hN (C id h)) (hN (C id h)))
    .exact(g id a6 h.2.2).trans (eX.same id h.2.1 a6)
 .rintro I q ⟨S,K,w,A,rfl,f3,g1,d1,O,d2⟩;show Fx lfp G (Runs F G) k I (.ptr t 0) w v (iN cs.length) (iN cs.length) S K;delta Fx;rw[D9,AJ,eg (m_ _),AZ];delta NI;refine hk S K w A ⟨a6,λid f=>(f3.same id a6 a6).trans (f1.same id f)⟩ (d1.mono (λid h=>⟨a6,h.2⟩) λ_ _=>rfl) O λi c M=>?_;have⟨d,x,h1,h2,h3⟩:=d2 i c (us.1 M).1 M;exact⟨d,x,h1,h2.mono (λid f=>by rcases f with h|h;exact .inl h;exact .inr ⟨a6,h.2.1⟩) λ_ _=>rfl,h3⟩
end
variable{A:Tc}{B:Tc}
abbrev APe(w:zZ A B):io (Ef ([A,B].map Ar))/\One (Ef ([A,B].map Ar)) A/\One (Ef ([A,B].map Ar)) B:=by have⟨d,f,g,i⟩:=AA9 w;exact⟨f,⟨w.oa,by rw[w.na];exact g,by rw[w.na];exact d.AX2,(d.ck w).1⟩,⟨w.ob,by rw[w.nb];exact i,by rw[w.nb];exact d.AYi,(d.ck w).2⟩⟩
theorem uC:∀(m:Nat) (fs:Tab) (out:List St) (s:St),∃r,(HH m fs out s).1=out++r/\∀u∈r,¬(u.1=0/\u.2=0)
 |0,_,out,_=>⟨[],by simp[HH],by simp⟩
 |m+1,fs,out,s=>by
  unfold HH
  cases f:decide (s.1=0/\s.2=0)with
  |true=>exact⟨[],by simp,by simp⟩
  |false=>
   simp only[cond_false]
   cases DU fs s with
   |none=>exact⟨[],by simp,by simp⟩
   |some c=>
    show ∃r,(bif iP s out then(out,false)else HH m fs (out++[s]) c.sup).1=out++r/\_
    cases iP s out with
    |true=>exact⟨[],by simp,by simp⟩
    |false=>
     obtain⟨r,h,g⟩:=uC m fs (out++[s]) c.sup
     refine⟨s::r,by simp only[cond_false];rw[h];simp,λu d=>?_⟩
     rcases List.mem_cons.1 d with rfl|d
     ·exact of_decide_eq_false f
     ·exact g u d
variable{fs:Tab}{st:Bool}{o:St}{q:Bk}
theorem ABQ{fs:Tab}{s:St}{st:Bool}{o:St}{q:Bk}:∀{l:List St},FP fs s st l=some (o,q)->o∈l/\Ht st s ((DU fs o).getD Cf).ms=some q
 |[],h=>by cases h
 |c::cs,h=>by
  unfold FP at h
  cases d:Ht st s ((DU fs c).getD Cf).ms with
  |some m=>rw[d]at h;cases h;exact⟨List.mem_cons_self ..,d⟩
  |none=>rw[d]at h;obtain⟨f,g⟩:=ABQ h;exact⟨List.mem_cons_of_mem _ f,g⟩
theorem AE8{fs:Tab}{s:St}{o:St}{t:Ty}:∀{l:List St},Xe fs s l=some (o,t)->QM s ((DU fs o).getD Cf).fs=some t
 |[],h=>by cases h
 |c::cs,h=>by
  unfold Xe at h
  cases d:QM s ((DU fs c).getD Cf).fs with
  |some m=>rw[d]at h;cases h;exact d
  |none=>rw[d]at h;exact AE8 h
abbrev ALy{c:St}(h:QU fs c s=some (o,t)):∃f,DU fs o=some f/\QM s f.fs=some t:=by
 have d:=AE8 h;cases g:DU fs o with
 |none=>rw[g]at d;cases d
 |some f=>rw[g]at d;exact⟨f,rfl,d⟩
abbrev AAt{c:St}(h:Cq fs c s st=some (o,q)):Cq fs o s st=some (o,q)/\∃f,DU fs o=some f/\Ht st s f.ms=some q:=by
 have⟨i,d⟩:=ABQ h;have⟨r,k,p⟩:=uC (fs.length+1) fs [] c;have u:¬(o.1=0/\o.2=0):=p o (by unfold above at i;rw[k]at i;simpa using i);cases g:DU fs o with
 |none=>rw[g]at d;cases d
 |some f=>
  rw[g]at d;refine⟨?_,f,rfl,d⟩;unfold Cq above HH;rw[eg u,g];have⟨r,k,_⟩:=uC fs.length fs [o] f.sup;show FP fs s st (HH fs.length fs [o] f.sup).1=_;rw[k];show(match Ht st s ((DU fs o).getD Cf).ms with|some m=>some (o,m)|none=>FP fs s st r)=_;rw[g];show(match Ht st s f.ms with|some m=>some (o,m)|none=>FP fs s st r)=_;have d:Ht st s f.ms=some q:=d;rw[d]
abbrev ABc:∀{gs ps:aAv},dq tb gs ps=true->gs.length=ps.length
 |[],[],_=>rfl
 |a::l,p::ps,h=>by unfold dq at h;rw[ez]at h;rw[j',j',ABc h.2]
 |[],_::_,h=>by cases h
 |_::_,[],h=>by cases h
variable{gs:List Ty}
abbrev yy{x:Kx}{c:Ty}{gs:aAv}{p:Ty×St}(h:Pr x c nm st gs=some p):∃s,Cq x.tb p.2 nm st=some (p.2,s)/\gs.length=s.ps.length/\p.1=s.ret/\∃f,DU x.tb p.2=some f/\Ht st nm f.ms=some s:=by
 unfold Pr at h;cases g:BD x.tb c with
 |false=>rw[g]at h;cases h
 |true=>
  rw[g]at h;cases d:Cq x.tb c.nm nm st with
  |none=>rw[d]at h;cases h
  |some q=>
   have⟨o,s⟩:=q;rw[d]at h;obtain⟨i,rfl⟩:=EH (show RT (dq x.tb gs s.ps) s.ret o=some p from h);have⟨k,m⟩:=AAt d;exact⟨s,k,ABc i,rfl,m⟩
section
variable{x:Kx}{Γ:List BU}
abbrev APz{p:Ty×St}(kind:Nat)(ks:aAv)(h:T9 x Γ kind nm ty ks=some p):AQm x.tb Γ (!x.st) kind nm p.2 ks.length:=by
 match kind,h with
 |0,h=>cases h
 |1,h=>rcases ks with _|⟨a,l⟩<;>first|(cases h;done)|rfl
 |2,h=>rcases ks with _|⟨a,l⟩<;>first|(cases h;done)|rfl
 |3,h=>rcases ks with _|⟨a,l⟩<;>first|(cases h;done)|rfl
 |4,h=>rcases ks with _|⟨a,l⟩<;>first|(cases h;done)|rfl
 |5,h=>
  rcases ks with _|⟨a,l⟩
  .exact⟨rfl,(EH h).1⟩
  .cases h
 |6,h=>
  rcases ks with _|⟨a,l⟩
  .obtain⟨t,d,_⟩:=d_.1 (show(Cg nm Γ).map (λt=>(t,((0,0):St)))=some p from h);exact⟨rfl,t,d⟩
  .cases h
 |7,h=>rcases ks with _|⟨a,_|⟨b,l⟩⟩<;>first|(cases h;done)|rfl
 |8,h=>
  rcases ks with _|⟨a,l⟩
  .cases h
  .have h:(bif a.cls then Pr x a nm false l else none)=some p:=h;cases g:a.cls with
   |false=>rw[g]at h;cases h
   |true=>
    rw[g]at h;have⟨s,d,f,_,_⟩:=yy h;exact⟨p.2,s,d,by rw[j',f]⟩
 |9,h=>
  have⟨s,d,f,_,_⟩:=yy (show Pr x ty nm true ks=some p from h);exact⟨p.2,s,d,f⟩
 |10,h=>rcases ks with _|⟨a,l⟩<;>first|(cases h;done)|rfl
 |11,h=>rcases ks with _|⟨a,_|⟨b,l⟩⟩<;>first|(cases h;done)|rfl
 |12,h=>rcases ks with _|⟨a,_|⟨b,_|⟨c,l⟩⟩⟩<;>first|(cases h;done)|rfl
 |13,h=>rcases ks with _|⟨a,_|⟨b,l⟩⟩<;>first|(cases h;done)|rfl
 |14,h=>rcases ks with _|⟨a,_|⟨b,l⟩⟩<;>first|(cases h;done)|rfl
 |15,h=>rcases ks with _|⟨a,_|⟨b,l⟩⟩<;>first|(cases h;done)|rfl
 |16,h=>rcases ks with _|⟨a,_|⟨b,_|⟨c,l⟩⟩⟩<;>first|(cases h;done)|rfl
 |17,h=>rcases ks with _|⟨a,_|⟨b,_|⟨c,l⟩⟩⟩<;>first|(cases h;done)|rfl
 |18,h=>rcases ks with _|⟨a,_|⟨b,_|⟨c,l⟩⟩⟩<;>first|(cases h;done)|rfl
 |19,h=>rcases ks with _|⟨a,_|⟨b,l⟩⟩<;>first|(cases h;done)|rfl
 |20,h=>rcases ks with _|⟨a,_|⟨b,l⟩⟩<;>first|(cases h;done)|rfl
 |k+21,h=>cases h
mutual
theorem ATD:∀{e e':Te},Yx x Γ e=some e'->V6 x.tb Γ (!x.st) e'/\e'.cz=e.cz
 |.mk kind num nm ty of own kids,e',h=>by obtain⟨ks,p,h1,h2,rfl,_⟩:=uI h;obtain⟨w1,w2⟩:=AHt h1;have:=APz kind _ h2;rw[uc]at this;exact⟨⟨this,w1⟩,by simp only[Te.cz,w2]⟩
theorem AHt:∀{l l':aAq},jj x Γ l=some l'->UJ x.tb Γ (!x.st) l'/\OG l'=OG l
 |[],l',h=>by rw[jj]at h;cases h;exact⟨trivial,rfl⟩
 |a::l,l',h=>by obtain⟨a',t,h1,h2,rfl⟩:=Vg h;obtain⟨w1,w2⟩:=ATD h1;obtain⟨w3,w4⟩:=AHt h2;exact⟨⟨w1,w3⟩,by simp only[OG,w2,w4]⟩
end
abbrev AQQ{l d:aAq}(h:jj x Γ l=some d):ALw d=ALw l:=by
 cases l with
 |nil=>rw[jj]at h;cases h;rfl
 |cons a l=>
  obtain⟨i,t,g,k,rfl⟩:=Vg h;cases a with
  |mk kind num m q of own f=>
   obtain⟨ks,p,_,_,rfl,_⟩:=uI g;rfl
end
variable{v:BU}
abbrev ABL{g g':Gs}(h:ql v g=some g'):g'=(g.1++[v],g.2+1)/\g.2<200:=by
 unfold ql at h;cases d:(Cg v.nm g.1).isNone&&decide (g.2<200)with
 |false=>rw[d]at h;cases h
 |true=>
  rw[d]at h;cases h;rw[ez]at d;exact⟨rfl,kh d.2⟩
abbrev AMo{x:Kx}{es:aAq}{th el:aAt}{g:Gs}{r:Tt×Gs}(h:Tq x (.mk d nm ty es th el) g=some r):∃f i,jj x g.1 es=some f/\yb x d nm ty (f.map Te.of) g=some i/\sY d es=true/\
 ((d=4∨d=5)/\(∃p q,Xr x th i=some p/\Xr x el (i.1,p.2)=some q/\r=(.mk d nm ty f p.1 q.1,(i.1,q.2)))∨¬(d=4∨d=5)/\th=[]/\el=[]/\r=(.mk d nm ty f [] [],i)):=by
 have⟨_,f,i,u,v,w⟩:=AYp h;refine⟨f,i,u,v,AGu h,?_⟩;rcases w with⟨k,_,m⟩|⟨k,m⟩
 .exact .inl ⟨k,m⟩
 .obtain⟨rfl,rfl⟩:=ALk h k;exact .inr ⟨k,rfl,rfl,m⟩
abbrev ADp{es:aAq}{th el:aAt}{Γ:aAm}(h:d≠1):ACq Γ (.mk d nm ty es th el)=Γ:=by
 unfold ACq;split
 .rename_i e;cases e;exact absurd rfl h
 .rfl
section
variable{x:Kx}
abbrev ze{ks:aAv}{g i:Gs}{es:aAq}{th el:aAt}(h:yb x f nm ty ks g=some i):i.1=ACq g.1 (.mk f nm ty es th el)/\i.2=g.2+ltD f/\(g.2<=200->i.2<=200):=by
 have same:∀(d:Nat) (b:Bool),d≠1->(bif b then some g else none)=some i->i.1=ACq g.1 (.mk d nm ty es th el)/\i.2=g.2+ltD d/\(g.2<=200->i.2<=200):=λd b k h=>by
  cases b with
  |false=>cases h
  |true=>cases h;exact⟨(ADp k).symm,by unfold ltD;rw[g_ k];rfl,λh=>h⟩
 match f,ks,h with
 |1,[a],h=>
  have h:(bif fitsT x.tb a ty then ql ⟨nm,ty⟩ g else none)=some i:=h;cases m:fitsT x.tb a ty with
  |false=>rw[m]at h;cases h
  |true=>
   rw[m]at h;obtain⟨rfl,p⟩:=ABL h;exact⟨rfl,rfl,λ_=>p⟩
 |2,[a,b],h=>exact same 2 _ a_ h
 |3,[_],h=>exact same 3 true a_ h
 |4,[a],h=>exact same 4 _ a_ h
 |5,[a],h=>exact same 5 _ a_ h
 |6,[a],h=>exact same 6 _ a_ h
 |7,[a],h=>exact same 7 _ a_ h
abbrev ANZ{ks:aAv}{g f:Gs}(h:yb x d nm ty ks g=some f):(d=2/\ks.length=2)∨((d=1∨d=3∨d=4∨d=5∨d=6∨d=7)/\ks.length=1):=by
 match d,ks,h with
 |1,[a],h=>exact .inr ⟨a_,rfl⟩
 |2,[a,b],h=>exact .inl ⟨rfl,rfl⟩
 |3,[_],h=>exact .inr ⟨a_,rfl⟩
 |4,[a],h=>exact .inr ⟨a_,rfl⟩
 |5,[a],h=>exact .inr ⟨a_,rfl⟩
 |6,[a],h=>exact .inr ⟨a_,rfl⟩
 |7,[a],h=>exact .inr ⟨a_,rfl⟩
abbrev ATB{Γ:aAm}{es:aAq}(m:es.length=2)(d:ALw es=true)(f:UJ tb Γ th es):qL tb Γ th es:=by
 match es,m,d,f with
 |[.mk k _ p _ _ own ks,w],_,d,f=>
  obtain⟨⟨g,i⟩,f,_⟩:=f;have d:(decide (k=6)||(decide (k=7)||decide (k=12)))=true:=d;have d:k=6∨k=7∨k=12:=by simpa using d
  rcases d with rfl|rfl|rfl
  .obtain⟨q,t,u⟩:=(show ks.length=0/\∃t,Cg p Γ=some t from g);exact⟨⟨t,u⟩,f,q⟩
  .exact⟨g,i,f⟩
  .exact⟨g,i,f⟩
mutual
theorem ASw:∀{s s':Tt} {g g':Gs},Tq x s g=some (s',g')->gy x.tb (!x.st) g.1 s'/\s'.cz=s.cz/\g'.1=ACq g.1 s'/\g'.2=g.2+s'.be/\(g.2<=200->g'.2<=200)
 |.mk does nm ty es th el,s',g,g',h=>by
  obtain⟨es',g1,h1,h2,h3,h4⟩:=AMo h;obtain⟨w1,w2⟩:=AHt h1;have hp:=AQQ h1;have hn:=ANZ h2;rw[uc]at hn;unfold sY at h3;rw[ez]at h3;have hz:OG es'<=900:=by rw[w2];exact kh h3.2
  rcases h4 with⟨hd,p,q,c1,c2,hr⟩|⟨hd,rfl,rfl,hr⟩
  .cases hr;obtain⟨b1,b2,b3,b4⟩:=ADo (l:=th) c1;obtain⟨d1,d2,d3,d4⟩:=ADo (l:=el) c2;obtain⟨o1,o2,o3⟩:=ze (es:=es') (th:=p.1) (el:=q.1) h2;have o1':=o1;rw[ADp a6]at o1';have o2:g1.2=g.2:=by rw[o2];unfold ltD;rw[g_ a6];rfl
   rw[o1']at b1 d1;have hle:es'.length=1:=by rcases hn with h|h;omega;exact h.2
   refine⟨⟨hz,.inr (.inr ⟨hd,hle,w1,b1,d1⟩)⟩,by simp only[Tt.cz,w2,b2,d2],o1,?_,λhg=>d4 (b4 (by rw[o2];exact hg))⟩;show q.2=g.2+(Tt.mk does nm ty es' p.1 q.1).be;simp only[Tt.be];have d3:q.2=p.2+Q0 q.1:=d3;have:ltD does=0:=by unfold ltD;rw[g_ a6]
   omega
  .cases hr;obtain⟨o1,o2,o3⟩:=ze (es:=es') (th:=[]) (el:=[]) h2;refine⟨⟨hz,?_⟩,by simp only[Tt.cz,w2],o1,?_,o3⟩
   .rcases hn with⟨rfl,hn⟩|⟨hn1,hn⟩
    .exact .inl ⟨rfl,ATB hn (by rw[hp];have:=h3.1;simpa using this) w1,rfl,rfl⟩
    .exact .inr (.inl ⟨a6,hn,w1,rfl,rfl⟩)
   .simp only[Tt.be,Q0];omega
theorem ADo:∀{l:aAt} {q:aAt×Nat} {g:Gs},Xr x l g=some q->Rz x.tb (!x.st) g.1 q.1/\F2 q.1=F2 l/\q.2=g.2+Q0 q.1/\(g.2<=200->q.2<=200)
 |[],q,g,h=>by rw[Xr]at h;cases h;exact⟨trivial,rfl,rfl,λh=>h⟩
 |s::l,q,g,h=>by obtain⟨l',n'⟩:=q;obtain⟨s',g1,t,h1,h2,rfl⟩:=yf h;obtain⟨w1,w2,w3,w4,w5⟩:=ASw h1;obtain⟨v1,v2,v3,v4⟩:=ADo (l:=l) h2;rw[w3]at v1;refine⟨⟨w1,v1⟩,by simp only[F2,w2,v2],?_,λh=>v4 (w5 h)⟩;have v3:n'=g1.2+Q0 t:=v3;show n'=g.2+Q0 (s'::t);simp only[Q0];omega
end
end
abbrev ACv:∀{ps:aAm} {g g':Gs},qu ps g=some g'->g'.1=g.1++ps/\g'.2=g.2+ps.length/\(g.2<=200->g'.2<=200)
 |[],g,g',h=>by cases h;exact⟨(qs _).symm,rfl,λh=>h⟩
 |v::ps,g,g',h=>by have⟨q,d,f⟩:=ee.1 (show(ql v g).bind (qu ps)=some g' from h);obtain⟨rfl,i⟩:=ABL d;have⟨k,m,p⟩:=ACv f;exact⟨by rw[k];simp,by rw[m,j'];show g.2+1+_=_;omega,λ_=>p i⟩
structure MwR(tb:Tab)(m m':Tm):Prop where
 nm:m'.nm=m.nm
 st:m'.st=m.st
 ps:m'.ps=m.ps
 ret:m'.ret=m.ret
 wf:Rz tb (!m.st) m.ps m'.body
 cz:F2 m'.body=F2 m.body
 lt:m.ps.length+Q0 m'.body<=200
abbrev AGx{cls:St}{m d:Tm}(h:YZ tb cls m=some d):MwR tb m d:=by
 unfold YZ at h;cases i:szB m.body with
 |false=>rw[i]at h;cases h
 |true=>
  rw[i]at h;have⟨g,u,h⟩:=ee.1 (show((qu m.ps ([],0)).bind λg=>(Xr ⟨tb,cls,m.st,m.ret⟩ m.body g).map λq=>({m with body:=q.1}:Tm))=some d from h);obtain⟨q,v,rfl⟩:=d_.1 h;have⟨f,k,w⟩:=ACv u;have⟨p,x,A,y⟩:=ADo v;have f:g.1=m.ps:=f.trans (_W _);rw[f]at p;have k:g.2=0+m.ps.length:=k;have:=y (w (by show 0<=200;omega));exact⟨rfl,rfl,rfl,rfl,p,x,by show m.ps.length+Q0 q.1<=200;omega⟩
def rL(tb:Tab)(s:St):Prop:=Ia s=true/\BD tb ⟨s,false⟩=true
def sJ(tb:Tab)(p:PF):Prop:=(xh p=true/\p.f.nm.ok)/\AKp tb p=true
def bO(tb:Tab)(p:PM):Prop:=(gH p=true/\p.m.nm.ok)/\(ARQ tb p).isSome=true
structure aj(tb:Tab):Prop where
 cn:∀c f,DU tb c=some f->Ia c=true
 fs:∀c f,DU tb c=some f->∀d∈f.fs,sJ tb ⟨⟨d.nm,d.ty⟩,c⟩/\BD tb d.ty=true
 ms:∀c f,DU tb c=some f->∀m∈f.ms,bO tb ⟨m,c⟩/\BD tb m.ret=true
abbrev Jv(h:BD tb t=true):Eo t.nm=true:=by unfold BD at h;rw[ez]at h;exact h.1
def Ue(tb:Tab)(t:Ty):Prop:=(t.arr=true->BD tb t=true)/\t.nm.ok
abbrev aJ(h:BD tb t=true):Ue tb t:=⟨λ_=>h,ii (Jv h)⟩
def iz(tb:Tab)(kind:Nat)(nm:St)(ty of:Ty)(own:St)(ks:aAv):Prop:=
 match kind with
 |7=>sJ tb ⟨⟨nm,of⟩,own⟩
 |8=>∀o s,Cq tb own nm false=some (o,s)->bO tb ⟨s,own⟩
 |9=>∀o s,Cq tb own nm true=some (o,s)->bO tb ⟨s,own⟩
 |10=>rL tb ty.nm
 |11=>BD tb of=true
 |12=>∀a l,ks=a::l->BD tb a=true
 |16=>∀a l,ks=a::l->a.nm.ok
 |19=>rL tb ty.nm
 |20=>rL tb ty.nm
 |_=>True
mutual
def lq(tb:Tab):Te->Prop
 |.mk kind _ nm ty of own es=>iz tb kind nm ty of own (es.map Te.of)/\xp tb es
def xp(tb:Tab):aAq->Prop
 |[]=>True
 |e::l=>lq tb e/\xp tb l
end
mutual
def AQf(tb:Tab):Tt->Prop
 |.mk _ _ _ es th el=>xp tb es/\ue tb th/\ue tb el
def ue(tb:Tab):aAt->Prop
 |[]=>True
 |s::l=>AQf tb s/\ue tb l
end
abbrev si(d:Eo s=true)(f:upper s.1 s.2=true):Ia s=true:=by unfold Ia;rw[f];have d:(decide (s.1=3/\s.2=7630441)||(decide (s.1=4/\s.2=1819242338)||(upper s.1 s.2&&decide (s.1<=40))))=true:=d;simp only[Bool.or_eq_true,ez,_v]at d;simp only[_',_v];omega
abbrev AAw:∀{fs:aAm},QM s fs=some t->∃d∈fs,d.nm=s/\d.ty=t
 |[],h=>by cases h
 |f::l,h=>by
  have h:(bif decide (f.nm.1=s.1/\f.nm.2=s.2)then some f.ty else QM s l)=some t:=h;cases g:decide (f.nm.1=s.1/\f.nm.2=s.2)with
  |true=>rw[g]at h;cases h;exact⟨f,u_ ..,L_ (kh g).1 (kh g).2,rfl⟩
  |false=>rw[g]at h;have⟨d,i,k⟩:=AAw h;exact⟨d,c_ _ i,k⟩
abbrev zJ{m:Bk}:∀{ms:aAF},HP s ms=some m->m∈ms
 |[],h=>by cases h
 |f::l,h=>by
  have h:(bif decide (f.nm.1=s.1/\f.nm.2=s.2)then some f else HP s l)=some m:=h;cases d:decide (f.nm.1=s.1/\f.nm.2=s.2)with
  |true=>rw[d]at h;cases h;exact u_ ..
  |false=>rw[d]at h;exact c_ _ (zJ h)
abbrev AJn{m:Bk}{ms:aAF}(h:Ht st s ms=some m):m∈ms:=by
 unfold Ht at h;cases d:HP s ms with
 |none=>rw[d]at h;cases h
 |some q=>
  rw[d]at h;have h:(bif q.st==st then some q else none)=some m:=h;cases f:q.st==st with
  |false=>rw[f]at h;cases h
  |true=>rw[f]at h;cases h;exact zJ d
abbrev aj.meth(h:aj tb){c:St}{s:Bk}(d:Cq tb c nm st=some (o,s)):bO tb ⟨s,o⟩/\BD tb s.ret=true:=by have⟨_,f,g,i⟩:=AAt d;exact h.ms o f g s (AJn i)
abbrev AI9{p:PF}(h:xh p=true):Eo p.f.ty.nm=true:=by unfold xh at h;simp only[ez]at h;exact h.2.2.2
section
variable{x:Kx}{Γ:List BU}
abbrev AFV(f:aj x.tb){c:Ty}{gs:aAv}{p:Ty×St}(h:Pr x c nm st gs=some p):(∀o s,Cq x.tb p.2 nm st=some (o,s)->bO x.tb ⟨s,p.2⟩)/\Ue x.tb p.1:=by have⟨s,d,_,i,_⟩:=yy h;refine⟨λo k g=>?_,aJ (by rw[i];exact(f.meth d).2)⟩;rw[d]at g;cases g;exact(f.meth d).1
abbrev AF0:∀{Γ:aAm},Cg s Γ=some t->∃f∈Γ,f.ty=t
 |[],h=>by cases h
 |f::l,h=>by
  have h:(bif decide (f.nm=s)then some f.ty else Cg s l)=some t:=h;cases g:decide (f.nm=s)with
  |true=>rw[g]at h;cases h;exact⟨f,u_ ..,rfl⟩
  |false=>rw[g]at h;have⟨d,i,k⟩:=AF0 h;exact⟨d,c_ _ i,k⟩
abbrev xR:Ue tb BY:=⟨(λh=>by cases h),a_⟩
abbrev Tp:Ue tb A3:=⟨(λh=>by cases h),a_⟩
abbrev AQF(w:aj x.tb)(v:x.cls.ok)(y:∀f∈Γ,Ue x.tb f.ty){p:Ty×St}(kind:Nat)(ks:aAv)(i:∀t∈ks,Ue x.tb t)(m:(kind=10∨kind=19∨kind=20)->upper ty.nm.1 ty.nm.2=true)(h:T9 x Γ kind nm ty ks=some p):
 iz x.tb kind nm ty p.1 p.2 ks/\Ue x.tb p.1:=by
 have ok:∀{b:Bool} {t:Ty},Ue x.tb t->RT b t (0,0)=some p->Ue x.tb p.1:=λA h=>by rw[(EH h).2];exact A
 match kind,h,m with
 |0,h,_=>cases h
 |1,h,_=>rcases ks with _|⟨a,l⟩<;>first|(cases h;done)|(cases h;exact⟨trivial,xR⟩)
 |2,h,_=>rcases ks with _|⟨a,l⟩<;>first|(cases h;done)|(cases h;exact⟨trivial,Tp⟩)
 |3,h,_=>rcases ks with _|⟨a,l⟩<;>first|(cases h;done)|(cases h;exact⟨trivial,Tp⟩)
 |4,h,_=>rcases ks with _|⟨a,l⟩<;>first|(cases h;done)|(cases h;exact⟨trivial,(λh=>by cases h),a_⟩)
 |5,h,_=>rcases ks with _|⟨a,l⟩<;>first|(cases h;done)|exact⟨trivial,ok ⟨(λh=>by cases h),v⟩ h⟩
 |6,h,_=>
  rcases ks with _|⟨a,l⟩
  .obtain⟨t,g,rfl⟩:=d_.1 (show(Cg nm Γ).map (λt=>(t,((0,0):St)))=some p from h);obtain⟨f,B,rfl⟩:=AF0 g;exact⟨trivial,y f B⟩
  .cases h
 |7,h,_=>
  rcases ks with _|⟨a,_|⟨b,l⟩⟩
  .cases h
  .have h:(bif a.cls&&BD x.tb a then(QU x.tb a.nm nm).map λp=>(p.2,p.1)else none)=some p:=h;cases u:a.cls&&BD x.tb a with
   |false=>rw[u]at h;cases h
   |true=>
    rw[u]at h;obtain⟨q,g,rfl⟩:=d_.1 h;have⟨o,t⟩:=q;have⟨f,C,D⟩:=ALy g;obtain⟨d,E,rfl,rfl⟩:=AAw D;have:=w.fs o f C d E;exact⟨this.1,aJ this.2⟩
  .cases h
 |8,h,_=>
  rcases ks with _|⟨a,l⟩
  .cases h
  .have h:(bif a.cls then Pr x a nm false l else none)=some p:=h;cases v:a.cls with
   |false=>rw[v]at h;cases h
   |true=>rw[v]at h;exact AFV w h
 |9,h,_=>exact AFV w (show Pr x ty nm true ks=some p from h)
 |10,h,m=>
  rcases ks with _|⟨a,l⟩
  .obtain⟨g,rfl⟩:=EH (show RT (BD x.tb ty) ty (0,0)=some p from h);exact⟨⟨si (Jv g) (m (.inl rfl)),g⟩,aJ g⟩
  .cases h
 |11,h,_=>
  rcases ks with _|⟨a,_|⟨b,l⟩⟩
  .cases h
  .obtain⟨g,rfl⟩:=EH (show RT (a.is BY&&BD x.tb ty) ⟨ty.nm,true⟩ (0,0)=some p from h);rw[ez]at g;exact⟨g.2,aJ (t:=⟨ty.nm,true⟩) g.2⟩
  .cases h
 |12,h,_=>
  rcases ks with _|⟨a,_|⟨b,_|⟨c,l⟩⟩⟩
  .cases h
  .cases h
  .obtain⟨g,rfl⟩:=EH (show RT (a.arr&&b.is BY) (AFd a) (0,0)=some p from h);rw[ez]at g;exact⟨λF G e=>by cases e;exact(i a (u_ ..)).1 g.1,(λh=>by cases h),(i a (u_ ..)).2⟩
  .cases h
 |13,h,_=>rcases ks with _|⟨a,_|⟨b,l⟩⟩<;>first|(cases h;done)|exact⟨trivial,ok xR h⟩
 |14,h,_=>rcases ks with _|⟨a,_|⟨b,l⟩⟩<;>first|(cases h;done)|exact⟨trivial,ok xR h⟩
 |15,h,_=>rcases ks with _|⟨a,_|⟨b,l⟩⟩<;>first|(cases h;done)|exact⟨trivial,ok Tp h⟩
 |16,h,_=>
  rcases ks with _|⟨a,_|⟨b,_|⟨c,l⟩⟩⟩<;>try (cases h;done)
  have h:(bif decide (nm=T3)||decide (nm=Qx)then RT (a.is b||(a.obj&&b.obj)) A3 (0,0)else RT (a.is BY&&b.is BY) (bif decide (nm=eh)||decide (nm=di)then A3 else BY) (0,0))=some p:=h;refine⟨λF G e=>by cases e;exact(i a (u_ ..)).2,?_⟩;cases u:decide (nm=T3)||decide (nm=Qx)with
  |true=>rw[u]at h;exact ok Tp h
  |false=>
   rw[u]at h;refine ok ?_ h;cases decide (nm=eh)||decide (nm=di)
   .exact xR
   .exact Tp
 |17,h,_=>rcases ks with _|⟨a,_|⟨b,_|⟨c,l⟩⟩⟩<;>first|(cases h;done)|exact⟨trivial,ok Tp h⟩
 |18,h,_=>rcases ks with _|⟨a,_|⟨b,_|⟨c,l⟩⟩⟩<;>first|(cases h;done)|exact⟨trivial,ok Tp h⟩
 |19,h,m=>
  rcases ks with _|⟨a,_|⟨b,l⟩⟩
  .cases h
  .obtain⟨g,rfl⟩:=EH (show RT ((a.cls||a.is Ec)&&BD x.tb ty) ty (0,0)=some p from h);rw[ez]at g;exact⟨⟨si (Jv g.2) (m (.inr (.inl rfl))),g.2⟩,aJ g.2⟩
  .cases h
 |20,h,m=>
  rcases ks with _|⟨a,_|⟨b,l⟩⟩
  .cases h
  .obtain⟨g,rfl⟩:=EH (show RT ((a.cls||a.is Ec)&&BD x.tb ty) A3 (0,0)=some p from h);rw[ez]at g;exact⟨⟨si (Jv g.2) (m (.inr (.inr rfl))),g.2⟩,Tp⟩
  .cases h
 |k+21,h,_=>cases h
abbrev AT1{kind:Nat}{own:St}(h:fW kind ty own=true)(d:kind=10∨kind=19∨kind=20):upper ty.nm.1 ty.nm.2=true:=by unfold fW at h;rw[ez,ez]at h;have h:=h.1.2;rw[show(decide (kind=10)||(decide (kind=19)||decide (kind=20)))=true by simpa using d]at h;exact h
mutual
theorem ASN(hT:aj x.tb)(hc:x.cls.ok)(hΓ:∀f∈Γ,Ue x.tb f.ty):∀{e e':Te},Yx x Γ e=some e'->lq x.tb e'/\Ue x.tb e'.of
 |.mk kind num nm ty of own kids,e',h=>by obtain⟨ks,p,h1,h2,rfl,h0⟩:=uI h;obtain⟨w1,w2⟩:=AHh hT hc hΓ h1;obtain⟨q1,q2⟩:=AQF hT hc hΓ kind _ (λt ht=>by obtain⟨e,he,rfl⟩:=_c.1 ht;exact w2 e he) (AT1 h0) h2;exact⟨⟨q1,w1⟩,q2⟩
theorem AHh(hT:aj x.tb)(hc:x.cls.ok)(hΓ:∀f∈Γ,Ue x.tb f.ty):∀{l l':aAq},jj x Γ l=some l'->xp x.tb l'/\∀e∈l',Ue x.tb e.of
 |[],l',h=>by rw[jj]at h;cases h;exact⟨trivial,λ_ h=>by cases h⟩
 |a::l,l',h=>by obtain⟨a',t,h1,h2,rfl⟩:=Vg h;obtain⟨w1,w2⟩:=ASN hT hc hΓ h1;obtain⟨w3,w4⟩:=AHh hT hc hΓ h2;exact⟨⟨w1,w3⟩,λe he=>(qk.1 he).elim (λq=>q▸w2) (w4 e)⟩
end
end
section
variable{x:Kx}
mutual
theorem AS2(hT:aj x.tb)(hc:x.cls.ok):∀{s s':Tt} {g g':Gs},(∀f∈g.1,Ue x.tb f.ty)->Tq x s g=some (s',g')->AQf x.tb s'/\∀f∈g'.1,Ue x.tb f.ty
 |.mk does nm ty es th el,s',g,g',hΓ,h=>by
  obtain⟨hkn,_⟩:=AYp h;obtain⟨es',g1,h1,h2,h3,h4⟩:=AMo h;obtain⟨w1,w2⟩:=AHh hT hc hΓ h1;have hg1:∀f∈g1.1,Ue x.tb f.ty:=by
   obtain⟨o1,_⟩:=ze (es:=es') (th:=[]) (el:=[]) h2;rw[o1];by_cases hd:does=1
   .subst hd;intro f hf;rcases q_.1 (show f∈g.1++[⟨nm,ty⟩]from hf)with hf|hf
    .exact hΓ f hf
    .rw[ff.1 hf];exact aJ (hkn rfl)
   .rw[ADp hd];exact hΓ
  rcases h4 with⟨hd,p,q,c1,c2,hr⟩|⟨hd,rfl,rfl,hr⟩
  .cases hr;exact⟨⟨w1,ADV hT hc (l:=th) hg1 c1,ADV hT hc (l:=el) (g:=(g1.1,p.2)) hg1 c2⟩,hg1⟩
  .cases hr;exact⟨⟨w1,trivial,trivial⟩,hg1⟩
theorem ADV(hT:aj x.tb)(hc:x.cls.ok):∀{l:aAt} {q:aAt×Nat} {g:Gs},(∀f∈g.1,Ue x.tb f.ty)->Xr x l g=some q->ue x.tb q.1
 |[],q,g,_,h=>by rw[Xr]at h;cases h;exact trivial
 |s::l,q,g,hΓ,h=>by obtain⟨l',n'⟩:=q;obtain⟨s',g1,t,h1,h2,rfl⟩:=yf h;obtain⟨w1,w2⟩:=AS2 hT hc hΓ h1;exact⟨w1,ADV hT hc (l:=l) w2 h2⟩
end
end
abbrev ASB{cls:St}{m d:Tm}(u:aj tb)(v:cls.ok)(i:∀f∈m.ps,Ue tb f.ty)(h:YZ tb cls m=some d):ue tb d.body:=by
 unfold YZ at h;cases p:szB m.body with
 |false=>rw[p]at h;cases h
 |true=>
  rw[p]at h;have⟨g,w,h⟩:=ee.1 (show((qu m.ps ([],0)).bind λg=>(Xr ⟨tb,cls,m.st,m.ret⟩ m.body g).map λq=>({m with body:=q.1}:Tm))=some d from h);obtain⟨q,y,rfl⟩:=d_.1 h;have⟨k,A,B⟩:=ACv w;have k:g.1=m.ps:=k.trans (_W _);exact ADV (x:=⟨tb,cls,m.st,m.ret⟩) u v (by rw[k];exact i) y
structure pR(tb:Tab)(p:Pool):Prop where
 c:∀c∈p.names,rL tb c
 t:∀t∈p.types,BD tb t=true
 f:∀f∈p.fields,sJ tb f
 m:∀m∈p.BS,bO tb m
abbrev ALu{d:Type}{q:d->Bool}{l:List d}{x y:d}(h:y∈(nY q l x).2):y∈l∨y=x:=by
 unfold nY at h;cases f:xe q l 0 with
 |some i=>rw[f]at h;exact .inl h
 |none=>
  rw[f]at h;rcases q_.1 (show y∈l++[x]from h)with h|h
  .exact .inl h
  .exact .inr (ff.1 h)
abbrev ru{d:Type}{Q:d->Prop}{q:d->Bool}{l:List d}{x:d}(h:∀y∈l,Q y)(f:Q x):∀y∈(nY q l x).2,Q y:=λy g=>(ALu g).elim (h y) λe=>e▸f
abbrev ASC(h:BA c a up dn g=some g'):g'.p=g.p:=by obtain⟨_,_,rfl⟩:=Jl h;rfl
structure ARz(tb:Tab)(R:Gn->Gn->Prop):Prop where
 rf:∀g,R g g
 tr:∀{a b c:Gn},R a b->R b c->R a c
 pt:∀{c a up dn:Nat} {g g':Gn},BA c a up dn g=some g'->R g g'
 hr:∀(i:Nat) (g:Gn),R g (DP i g)
 nu:∀(x:Int) (g:Gn),R g (WL x g).2
 na:∀{x:St} (g:Gn),rL tb x->R g (VT x g).2
 ty:∀{x:Ty} (g:Gn),BD tb x=true->R g (M8 x g).2
 fi:∀{x:PF} (g:Gn),sJ tb x->R g (HU x g).2
 me:∀{x:PM} (g:Gn),bO tb x->R g (Ih x g).2
 ad:∀{v:BU} {g g':Gn},bE v g=some g'->R g g'
 bk:∀{g g':Gn},R g g'->R g (EB g.vars.length g')
section
variable{tb:Tab}{R:Gn->Gn->Prop}(hR:ARz tb R)
include hR
abbrev AMF{a:Ty}(h:AEm nm a g=some g'):R g g':=by
 unfold AEm at h;cases d:(stA nm T3||stA nm Qx)with
 |false=>rw[d]at h;exact hR.pt h
 |true=>
  rw[d]at h;have⟨k,i,h⟩:=ee.1 (show((BA (bif a.obj then 13 else 12) 0 0 1 g).bind λg=>bif stA nm Qx then BA 15 0 0 0 g else some g)=some g' from h);refine hR.tr (hR.pt i) ?_;cases f:stA nm Qx with
  |true=>rw[f]at h;exact hR.pt h
  |false=>rw[f]at h;cases h;exact hR.rf _
abbrev APm{kind num:Nat}{own:St}{ks:aAv}(d:iz tb kind nm ty of own ks)(h:fY tb kind num nm ty of own ks g=some g'):R g g':=by
 unfold fY at h;cases i:rU g with
 |false=>rw[i]at h;cases h
 |true=>
  rw[i]at h;match kind,d,h with
  |0,_,h=>cases h
  |1,_,h=>exact hR.tr (hR.nu num g) (hR.pt h)
  |2,_,h=>exact hR.pt h
  |3,_,h=>exact hR.pt h
  |4,_,h=>exact hR.pt h
  |5,_,h=>exact hR.pt h
  |6,_,h=>exact hR.pt h
  |7,d,h=>exact hR.tr (hR.fi g d) (hR.pt h)
  |8,d,h=>
   have h:(match Cq tb own nm false with|some (_,s)=>BA 25 (Ih ⟨s,own⟩ g).1 0 s.ps.length (Ih ⟨s,own⟩ g).2|none=>none)=some g':=h;cases f:Cq tb own nm false with
   |none=>rw[f]at h;cases h
   |some q=>
    have⟨o,s⟩:=q;rw[f]at h;exact hR.tr (hR.me g ((show ∀o s,Cq tb own nm false=some (o,s)->bO tb ⟨s,own⟩from d) o s f)) (hR.pt h)
  |9,d,h=>
   have h:(match Cq tb own nm true with|some (_,s)=>BA 26 (Ih ⟨s,own⟩ g).1 1 s.ps.length (Ih ⟨s,own⟩ g).2|none=>none)=some g':=h;cases f:Cq tb own nm true with
   |none=>rw[f]at h;cases h
   |some q=>
    have⟨o,s⟩:=q;rw[f]at h;exact hR.tr (hR.me g ((show ∀o s,Cq tb own nm true=some (o,s)->bO tb ⟨s,own⟩from d) o s f)) (hR.pt h)
  |10,d,h=>exact hR.tr (hR.na g d) (hR.pt h)
  |11,d,h=>exact hR.tr (hR.ty g d) (hR.pt h)
  |12,d,h=>
   match ks,d,h with
   |[],_,h=>cases h
   |a::l,d,h=>exact hR.tr (hR.ty g ((show ∀m p,a::l=m::p->BD tb m=true from d) a l rfl)) (hR.pt h)
  |13,_,h=>exact hR.pt h
  |14,_,h=>exact hR.pt h
  |15,_,h=>exact hR.pt h
  |16,_,h=>
   match ks,h with
   |[],h=>cases h
   |a::l,h=>exact AMF hR h
  |17,_,h=>cases h
  |18,_,h=>cases h
  |19,d,h=>exact hR.tr (hR.na g d) (hR.pt h)
  |20,d,h=>exact hR.tr (hR.na g d) (hR.pt h)
  |k+21,_,h=>cases h
omit hR in
def Ep(tb:Tab)(R:Gn->Gn->Prop)(e:Te):Prop:=∀g g',B9 tb e g=some g'->R g g'
abbrev jb:∀{es:aAq},(∀e∈es,Ep tb R e)->∀{g g':Gn},Pq tb es g=some g'->R g g'
 |[],_,g,g',h=>by cases h;exact hR.rf _
 |e::l,hi,g,g',h=>by have⟨d,f,i⟩:=ee.1 (show((B9 tb e g).bind (Pq tb l))=some g' from h);exact hR.tr (hi e (u_ ..) g d f) (jb (λe k=>hi e (c_ _ k)) i)
abbrev AEK{fb fc:Gn->aAD}(p:∀g g',fb g=some g'->R g g')(q:∀g g',fc g=some g'->R g g')
 (h:((BA 28 0 0 1 g).bind λi=>(fb i).bind λf=>(BA 27 0 0 d f).bind λk=>(fc (DP g.code.length k)).bind λm=>some (DP f.code.length m))=some g'):R g g':=by have⟨i,u,h⟩:=ee.1 h;have⟨f,v,h⟩:=ee.1 h;have⟨k,w,h⟩:=ee.1 h;have⟨m,x,h⟩:=ee.1 h;cases h;exact hR.tr (hR.pt u) (hR.tr (p _ _ v) (hR.tr (hR.pt w) (hR.tr (hR.hr _ _) (hR.tr (q _ _ x) (hR.hr _ _)))))
abbrev ALs{kind num:Nat}{own:St}{es:aAq}(A:iz tb kind nm ty of own (es.map Te.of))(hi:∀e∈es,Ep tb R e):Ep tb R (.mk kind num nm ty of own es):=by
 intro g f h;have q:(Pq tb es g).bind (fY tb kind num nm ty of own (es.map Te.of))=some f->R g f:=λh=>by have⟨d,i,B⟩:=ee.1 h;exact hR.tr (jb hR hi i) (APm hR A B)
 by_cases k:kind=17/\2<=es.length
 .obtain⟨rfl,u⟩:=k;match es,u,hi,h with
  |a::b::l,_,hi,h=>
   have⟨d,i,h⟩:=ee.1 (show((B9 tb a g).bind λg=>(BA 28 0 0 1 g).bind λd=>(B9 tb b d).bind λm=>(BA 27 0 0 1 m).bind λv=>(BA 32 0 1 0 (DP g.code.length v)).bind λw=>some (DP m.code.length w))=some f from h);exact hR.tr (hi a o6 g d i) (AEK hR (fb:=B9 tb b) (fc:=BA 32 0 1 0) (hi b o6) (λg f=>hR.pt) h)
 by_cases p:kind=18/\2<=es.length
 .obtain⟨rfl,u⟩:=p;match es,u,hi,h with
  |a::b::l,_,hi,h=>
   have⟨d,i,h⟩:=ee.1 (show((B9 tb a g).bind λg=>(BA 28 0 0 1 g).bind λd=>(BA 32 1 1 0 d).bind λm=>(BA 27 0 0 1 m).bind λv=>(B9 tb b (DP g.code.length v)).bind λw=>some (DP m.code.length w))=some f from h);exact hR.tr (hi a o6 g d i) (AEK hR (fb:=BA 32 1 1 0) (fc:=B9 tb b) (λg f=>hR.pt) (hi b o6) h)
 rw[B9]at h
 .exact q h
 .intro a b l x y;exact k ⟨x,by rw[y];simp⟩
 .intro a b l x y;exact p ⟨x,by rw[y];simp⟩
omit hR
mutual
theorem PV(hR:ARz tb R):∀{e:Te},lq tb e->Ep tb R e
 |.mk _ _ _ _ _ _ es,h=>ALs hR h.1 (rS hR (es:=es) h.2)
theorem rS(hR:ARz tb R):∀{es:aAq},xp tb es->∀e∈es,Ep tb R e
 |[],_,_,he=>by cases he
 |x::l,h,e,he=>(qk.1 he).elim (λq=>q▸PV hR (e:=x) h.1) λq=>rS hR (es:=l) h.2 e q
end
include hR
abbrev tY{kind num:Nat}{own:St}{ks:aAq}(d:lq tb (.mk kind num nm ty of own ks))(k:Ep tb R w)(v:kind=6∨kind=7∨kind=12)(h:gx tb kind nm of own ks w g=some g'):R g g':=by
 unfold gx at h;rcases v with rfl|rfl|rfl
 .obtain⟨q,f,h⟩:=ee.1 (show((B9 tb w g).bind λg=>BA 4 (Uz nm g.vars g.slots) 0 1 g)=some g' from h);exact hR.tr (k _ _ f) (hR.pt h)
 .obtain⟨q,f,h⟩:=ee.1 (show((Pq tb ks g).bind λg=>(B9 tb w g).bind λg=>bif rU g then BA 17 (HU ⟨⟨nm,of⟩,own⟩ g).1 0 2 (HU ⟨⟨nm,of⟩,own⟩ g).2 else none)=some g' from h);have⟨m,p,h⟩:=ee.1 h;cases i:rU m with
  |false=>rw[i]at h;cases h
  |true=>rw[i]at h;exact hR.tr (jb hR (rS hR d.2) f) (hR.tr (k _ _ p) (hR.tr (hR.fi _ d.1) (hR.pt h)))
 .obtain⟨q,f,h⟩:=ee.1 (show((Pq tb ks g).bind λg=>(B9 tb w g).bind λg=>bif rU g then(match ks with|a::_=>BA 21 (M8 a.of g).1 0 3 (M8 a.of g).2|[]=>none)else none)=some g' from h);have⟨m,p,h⟩:=ee.1 h;cases i:rU m with
  |false=>rw[i]at h;cases h
  |true=>
   rw[i]at h;have x:=hR.tr (jb hR (rS hR d.2) f) (k _ _ p);match ks,d,h with
   |[],_,h=>cases h
   |a::l,d,h=>exact hR.tr x (hR.tr (hR.ty _ ((show ∀u y,a.of::l.map Te.of=u::y->BD tb u=true from d.1) a.of _ rfl)) (hR.pt h))
omit hR in
def Bp(tb:Tab)(R:Gn->Gn->Prop)(l:aAt):Prop:=∀g g',FN tb l g=some g'->R g g'
abbrev AMC{es:aAq}{t el:aAt}{Γ:aAm}(A:gy tb th Γ (.mk d nm ty es t el))(f:xp tb es)(G:Bp tb R t)(H:Bp tb R el)(h:vX tb (.mk d nm ty es t el) g=some g'):R g g':=by
 have⟨_,A⟩:=(show OG es<=900/\_ from A);rcases(show(d=2/\qL tb Γ th es/\t=[]/\el=[])∨((d=1∨d=3∨d=6∨d=7)/\es.length=1/\UJ tb Γ th es/\t=[]/\el=[])∨((d=4∨d=5)/\es.length=1/\UJ tb Γ th es/\Rz tb th Γ t/\Rz tb th Γ el)from A)with⟨rfl,B,_,_⟩|⟨C,D,_,_,_⟩|⟨C,D,_,_,_⟩
 .match es,B,f,h with
  |[.mk 6 num u v of own ks,w],_,f,h=>exact tY hR f.1 (PV hR f.2.1) (.inl rfl) h
  |[.mk 7 num u v of own ks,w],_,f,h=>exact tY hR f.1 (PV hR f.2.1) (.inr (.inl rfl)) h
  |[.mk 12 num u v of own ks,w],_,f,h=>exact tY hR f.1 (PV hR f.2.1) (.inr (.inr rfl)) h
 .match es,D,f,h with
  |[e],_,f,h=>
   have m:=PV hR f.1;rcases C with rfl|rfl|rfl|rfl
   .obtain⟨i,k,h⟩:=ee.1 (show((B9 tb e g).bind λg=>(bE ⟨nm,ty⟩ g).bind λi=>BA 4 g.loc 0 1 i)=some g' from h);have⟨p,x,h⟩:=ee.1 h;exact hR.tr (m _ _ k) (hR.tr (hR.ad x) (hR.pt h))
   .obtain⟨i,k,h⟩:=ee.1 (show((B9 tb e g).bind (BA 31 0 0 1))=some g' from h);exact hR.tr (m _ _ k) (hR.pt h)
   .obtain⟨i,k,h⟩:=ee.1 (show((B9 tb e g).bind (BA 29 0 0 1))=some g' from h);exact hR.tr (m _ _ k) (hR.pt h)
   .obtain⟨i,k,h⟩:=ee.1 (show((B9 tb e g).bind (BA 30 0 0 1))=some g' from h);exact hR.tr (m _ _ k) (hR.pt h)
 .match es,D,f,h with
  |[e],_,f,h=>
   have m:=PV hR f.1;rcases C with rfl|rfl
   .obtain⟨i,k,h⟩:=ee.1 (show((B9 tb e g).bind λg=>(BA 28 0 0 1 g).bind λi=>(FN tb t i).bind λp=>(BA 27 0 0 0 (EB i.vars.length p)).bind λq=>(FN tb el (DP g.code.length q)).bind λy=>some (DP p.code.length (EB q.vars.length y)))=some g' from h);have⟨p,x,h⟩:=ee.1 h;have⟨q,E,h⟩:=ee.1 h;have⟨y,F,h⟩:=ee.1 h;have⟨J,I,h⟩:=ee.1 h;cases h;exact hR.tr (m _ _ k) (hR.tr (hR.pt x) (hR.tr (hR.bk (G _ _ E)) (hR.tr (hR.pt F) (hR.tr (hR.hr _ _) (hR.tr (hR.bk (g:=DP i.code.length y) (H _ _ I)) (hR.hr _ _))))))
   .obtain⟨i,k,h⟩:=ee.1 (show((B9 tb e g).bind λg'=>(BA 28 0 0 1 g').bind λi=>(FN tb t i).bind λp=>(BA 27 g.code.length 0 0 (EB i.vars.length p)).bind λq=>some (DP g'.code.length q))=some g' from h);have⟨p,x,h⟩:=ee.1 h;have⟨q,E,h⟩:=ee.1 h;have⟨y,F,h⟩:=ee.1 h;cases h;exact hR.tr (m _ _ k) (hR.tr (hR.pt x) (hR.tr (hR.bk (G _ _ E)) (hR.tr (hR.pt F) (hR.hr _ _))))
mutual
theorem AKd{th:Bool}:∀{s:Tt} {Γ:aAm},gy tb th Γ s->AQf tb s->∀{g g':Gn},vX tb s g=some g'->R g g'
 |.mk does _ _ es t el,Γ,hw,h=>AMC hR hw h.1 (by
  rcases hw.2 with⟨_,_,e,_⟩|⟨_,_,_,e,_⟩|⟨_,_,_,w,_⟩
  .rw[e];exact λg g' h=>by cases h;exact hR.rf _
  .rw[e];exact λg g' h=>by cases h;exact hR.rf _
  .exact M5 (l:=t) w h.2.1) (by
  rcases hw.2 with⟨_,_,_,e⟩|⟨_,_,_,_,e⟩|⟨_,_,_,_,w⟩
  .rw[e];exact λg g' h=>by cases h;exact hR.rf _
  .rw[e];exact λg g' h=>by cases h;exact hR.rf _
  .exact M5 (l:=el) w h.2.2)
theorem M5{th:Bool}:∀{l:aAt} {Γ:aAm},Rz tb th Γ l->ue tb l->Bp tb R l
 |[],_,_,_=>λg g' h=>by cases h;exact hR.rf _
 |s::l,_,hw,ho=>λg g' h=>by obtain⟨g1,h1,h2⟩:=ee.1 (show((vX tb s g).bind (FN tb l))=some g' from h);exact hR.tr (AKd (s:=s) hw.1 ho.1 h1) (M5 (l:=l) hw.2 ho.2 g1 g' h2)
end
abbrev AAh:∀{ps:aAm} {g g':Gn},dE ps g=some g'->R g g'
 |[],g,g',h=>by cases h;exact hR.rf _
 |v::ps,g,g',h=>by have⟨i,d,f⟩:=ee.1 (show((bE v g).bind (dE ps))=some g' from h);exact hR.tr (hR.ad d) (AAh f)
abbrev ALJ{ret:Ty}(h:AEg ret g=some g'):R g g':=by
 unfold AEg at h;cases f:rU g with
 |false=>rw[f]at h;cases h
 |true=>
  rw[f]at h;have⟨p,d,m⟩:=ee.1 (show((bif ret.is BY then BA 1 (WL 0 g).1 1 0 (WL 0 g).2 else bif ret.is A3 then BA 32 0 1 0 g else BA 2 0 1 0 g).bind (BA 29 0 0 1))=some g' from h);refine hR.tr ?_ (hR.pt m);cases i:ret.is BY with
  |true=>rw[i]at d;exact hR.tr (hR.nu 0 g) (hR.pt d)
  |false=>
   rw[i]at d;cases k:ret.is A3 with
   |true=>rw[k]at d;exact hR.pt d
   |false=>rw[k]at d;exact hR.pt d
end
abbrev AKw(h:bE v g=some g'):g'.p=g.p/\g'.code=g.code/\g'.vars.length=g.vars.length+1:=by
 unfold bE at h;cases d:decide (g.vars.length<1000/\g.loc<20000)with
 |false=>rw[d]at h;cases h
 |true=>rw[d]at h;cases h;exact⟨rfl,rfl,o6⟩
def RpR(tb:Tab)(g g':Gn):Prop:=pR tb g.p->pR tb g'.p
abbrev AHz:ARz tb (RpR tb)where
 rf _ h:=h;tr a b h:=b (a h);pt h hp:=by rw[ASC h];exact hp
 hr _ _ h:=h;nu _ _ hp:=⟨hp.c,hp.t,hp.f,hp.m⟩;na _ hx hp:=⟨ru (Q:=rL tb) hp.c hx,hp.t,hp.f,hp.m⟩;ty _ hx hp:=⟨hp.c,ru (Q:=λt:Ty=>BD tb t=true) hp.t hx,hp.f,hp.m⟩;fi _ hx hp:=⟨hp.c,hp.t,ru (Q:=sJ tb) hp.f hx,hp.m⟩;me _ hx hp:=⟨hp.c,hp.t,hp.f,ru (Q:=bO tb) hp.m hx⟩;ad h hp:=by rw[(AKw h).1];exact hp
 bk h hp:=h hp
def w7(g g':Gn):Prop:=g.code.length<=g'.code.length/\g.vars.length<=g'.vars.length
abbrev jH:ARz tb w7 where
 rf _:=⟨ea _,ea _⟩;tr a b:=⟨w_ a.1 b.1,w_ a.2 b.2⟩;pt h:=by obtain⟨_,_,rfl⟩:=Jl h;exact⟨by show _<=(_++[_]).length;simp,ea _⟩
 hr _ _:=⟨by show _<=(TJ _ _ _).length;rw[iQ];exact ea _,ea _⟩;nu _ _:=⟨ea _,ea _⟩;na _ _:=⟨ea _,ea _⟩;ty _ _:=⟨ea _,ea _⟩;fi _ _:=⟨ea _,ea _⟩;me _ _:=⟨ea _,ea _⟩;ad h:=by have⟨_,d,f⟩:=AKw h;unfold w7;rw[d];omega
 bk h:=⟨h.1,by show _<=(List.take _ _).length;rw[xx];have:=h.2;omega⟩
abbrev AG4{m:Tm}{p':Pool}(f:Rz tb (!m.st) m.ps m.body)(i:ue tb m.body)(k:pR tb p)(h:U8 tb m p=some (b,p')):pR tb p':=by unfold U8 at h;have⟨g,q,h⟩:=ee.1 h;have⟨d,u,h⟩:=ee.1 h;have⟨w,v,h⟩:=d_.1 h;cases h;exact ALJ AHz (g:=EB g.vars.length d) v (M5 AHz f i g d u (AAh AHz q k))
abbrev AAo{d:Type}{lt:d->d->Bool}:∀(j:Nat) (xs:List d),(sink lt j xs).Perm xs
 |0,_=>.refl _
 |j+1,xs=>by
  by_cases f:j+1<xs.length
  .cases g:lt xs[j+1] xs[j]with
   |false=>rw[VO f g]
   |true=>
    rw[jo f g];exact(AAo j _).trans (List.set_set_perm f (show j<xs.length by omega))
  .have:sink lt (j+1) xs=xs:=by show(match xs[j+1]?,xs[j]? with|some a,some b=>bif lt a b then sink lt j ((xs.set (j+1) b).set j a)else xs|_,_=>xs)=xs;rw[z_ a6]
   rw[this]
abbrev vd{d:Type}{lt:d->d->Bool}:∀(r:Nat) (xs:List d) (i:Nat),(Wc lt xs i r).Perm xs
 |0,_,_=>.refl _
 |r+1,xs,i=>(vd r (sink lt i xs) (i+1)).trans (AAo i xs)
abbrev AHl{d:Type}{lt:d->d->Bool}(xs:List d):(GI lt xs).Perm xs:=vd _ _ _
def zg:Pool:=⟨[],[],[],[],[]⟩
def wC(c:Tc):aAz:=GI (eZ Tm.nm) c.ms
def ANy(tb:Tab)(c:Tc):Option Fl:=(V4 tb (wC c) zg).map λq=>⟨Ar c,q.2,q.1⟩
abbrev AIE(c:Tc):(wC c).map Ip=(Ar c).ms:=sV (lt:=eZ Tm.nm) (lt':=eZ Bk.nm) (f:=Ip) (λ_ _=>rfl) c.ms
structure RgM(tb:Tab)(m:Tm):Prop where
 wf:Rz tb (!m.st) m.ps m.body
 cz:F2 m.body<=4028
 lt:m.ps.length+Q0 m.body<=200
 ok:ue tb m.body
abbrev vg.ok{H:Nat->Nat}{m:Bk}(h:vg P b H)(k:((least m:Nat):Int)<=b.locals)(p:b.locals<=401)(q:0<=b.stack)(u:b.stack<=1000)(v:b.code.length<=16384):cj P m b=true:=by unfold cj;have d:=h.ne;simp only[ez,_l,_o];refine⟨a6,a6,a6,a6,a6,a6,?_⟩;rw[_A];intro x f;have⟨i,g⟩:=_m.1 f;exact(h.at' i x g).1
abbrev vh:∀{ms:aAz} {p:Pool} {n:Nat},(∀m∈ms,RgM tb m)->SW p n->n+4030*ms.length<=16330->pR tb p->
 ∃bs p',V4 tb ms p=some (bs,p')/\Uy p p'/\SW p' (n+4030*ms.length)/\pR tb p'/\bs.length=ms.length/\∀P,Uy p' P->Ob P (ms.map Ip) bs=true/\∀b∈bs,∃H,vg P b H
 |[],p,n,_,f,_,g=>⟨[],p,rfl,.refl p,f,g,rfl,λ_ _=>⟨rfl,λ_ h=>by cases h⟩⟩
 |m::ms,p,n,k,f,x,g=>by
  rw[j']at x;have d:=k m (u_ ..);have⟨b,y,q,A,B,C,D,E,F,G,I⟩:=AGP d.wf d.cz d.lt f a6;have J:=AG4 d.wf d.ok g q;have⟨bs,K,L,u,M,N,O,i⟩:=vh (ms:=ms) (λm h=>k m (c_ _ h)) B a6 J;refine⟨b::bs,K,?_,A.trans u,?_,N,by rw[j',j',O],λP v=>?_⟩
  .show((U8 tb m p).bind _)=_;rw[q];show((V4 tb ms y).map _)=_;rw[L];rfl
  .rw[j',show n+4030*(ms.length+1)=n+4030+4030*ms.length by omega];exact M
  .obtain⟨Q,R⟩:=i P v;have⟨H,w⟩:=I P (u.trans v);refine⟨?_,λc S=>(qk.1 S).elim (λe=>e▸⟨H,w⟩) (R c)⟩;show(cj P (Ip m) b&&Ob P (ms.map Ip) bs)=true;rw[w.ok C D E F G,Q];rfl
abbrev pR.rest(h:pR tb p):ZF p=true:=by unfold ZF;simp only[ez,_A];exact⟨λc d=>(h.c c d).1,λt g=>Jv (h.t t g),λf i=>(h.f f i).1.1,λm k=>(h.m m k).1.1⟩
abbrev SW.pool(h:SW p 16384)(d:pR tb p):sS p=true:=by unfold sS;rw[d.rest,Bool.and_true,_A];unfold SW at h;intro a f;simp only[cnts,qk,_3,aAj]at f;simp only[_l,_o];omega
structure cO(tb:Tab)(c:Tc):Prop where
 ms:∀m∈c.ms,RgM tb m
 ln:c.ms.length<=4
 face:NO (Ar c)=true
structure fT(tb:Tab)(c:Tc)(f:Fl):Prop where
 is:ANy tb c=some f
 ok:bq f=true
 face:f.face=Ar c
 cf:∀b∈f.bodies,∃H,vg f.pool b H
 pr:pR tb f.pool
abbrev ABa{c:Tc}(h:cO tb c):∃f,fT tb c f:=by have w:=h.ln;have i:(wC c).length=c.ms.length:=VN _;have⟨d,p,e,_,s,r,k,g⟩:=vh (tb:=tb) (ms:=wC c) (p:=zg) (n:=0) (λm q=>h.ms m (Pa q)) (by unfold SW;decide) a6 ⟨(λ_ h=>by cases h),(λ_ h=>by cases h),(λ_ h=>by cases h),(λ_ h=>by cases h)⟩;have⟨u,v⟩:=g p (.refl p);refine⟨⟨Ar c,p,d⟩,by unfold ANy;rw[e];rfl,?_,rfl,v,r⟩;unfold bq;show(NO (Ar c)&&(sS p&&(decide (d.length=(Ar c).ms.length)&&Ob p (Ar c).ms d)))=true;rw[h.face,SW.pool (by unfold SW at s⊢;omega) r,<-AIE,u,ui (by rw[k,uc])];rfl
abbrev faA:NO IK=true:=o5
abbrev AXx:NO (JJ false false)=true:=o5
abbrev AYB:NO (JJ false true)=true:=o5
abbrev AYQ:NO (JJ true false)=true:=o5
abbrev AYS:NO (JJ true true)=true:=o5
abbrev faB(g s:Bool):NO (JJ g s)=true:=by
 cases g<;>cases s
 .exact AXx
 .exact AYB
 .exact AYQ
 .exact AYS
abbrev AD3{g s:Bool}{m:Bk}(h:m∈(JJ g s).ms):m=Hp∨m=IB:=by cases g<;>cases s<;>simp[JJ]at h<;>simp[h]
def dB(tb:Tab)(c:St)(d:BU):Bool:=(xh ⟨⟨d.nm,d.ty⟩,c⟩&&decide d.nm.ok)&&AKp tb ⟨⟨d.nm,d.ty⟩,c⟩&&BD tb d.ty
def mB(tb:Tab)(c:St)(m:Bk):Bool:=(gH ⟨m,c⟩&&decide m.nm.ok)&&(ARQ tb ⟨m,c⟩).isSome&&BD tb m.ret
def rj(tb:Tab):Bool:=tb.all λe=>Ia e.1&&(e.2.fs.all (dB tb e.1)&&e.2.ms.all (mB tb e.1))
abbrev ARi{f:Type}{v:f}:∀{ps:List (St×f)},DU ps s=some v->(s,v)∈ps
 |[],h=>by cases h
 |p::ps,h=>by
  unfold DU at h;have⟨e,g,i⟩:=d_.1 h;have d:=List.find?_some g;have k:=ae g;have d:e.1=s:=by simpa using d
  rw[<-d,<-i];exact k
abbrev ATy(h:rj tb=true):aj tb:=by
 unfold rj at h;have key:∀c f,DU tb c=some f->Ia c=true/\(∀d∈f.fs,dB tb c d=true)/\∀m∈f.ms,mB tb c m=true:=λc f g=>by have:=_A.1 h _ (ARi g);simpa only[ez,_A]using this
 refine⟨λc f g=>(key c f g).1,λc f g d i=>?_,λc f g m k=>?_⟩
 .have:=(key c f g).2.1 d i;simp only[dB,ez,_v]at this;exact this
 .have:=(key c f g).2.2 m k;simp only[mB,ez,_v]at this;exact this
abbrev AYh:rj (Ef [IK,JJ false false])=true:=o5
abbrev AYH:rj (Ef [IK,JJ false true])=true:=o5
abbrev AY9:rj (Ef [IK,JJ true false])=true:=o5
abbrev AYd:rj (Ef [IK,JJ true true])=true:=o5
abbrev ASv(h:zZ A B):∃g s,Ar B=JJ g s/\[A,B].map Ar=[IK,JJ g s]:=by have⟨g,s,d⟩:=h.fb;exact⟨g,s,d,by rw[<-h.fa,<-d];rfl⟩
abbrev AQV(h:zZ A B):aj (Ef ([A,B].map Ar)):=by
 have⟨g,s,_,e⟩:=ASv h;rw[e];refine ATy ?_;cases g<;>cases s
 .exact AYh
 .exact AYH
 .exact AY9
 .exact AYd
abbrev AAB{cls:St}:∀{ms d:aAz},lE tb cls ms=some d->d.map Ip=ms.map Ip/\d.length=ms.length/\∀f∈d,∃m∈ms,YZ tb cls m=some f
 |[],d,h=>by cases h;exact⟨rfl,rfl,λ_ h=>by cases h⟩
 |m::l,d,h=>by
  have⟨f,i,h⟩:=ee.1 (show((YZ tb cls m).bind λf=>(lE tb cls l).map λk=>f::k)=some d from h);obtain⟨k,p,rfl⟩:=d_.1 h;have⟨q,u,v⟩:=AAB p;have w:=AGx i;refine⟨?_,by rw[j',j',u],λx g=>?_⟩
  .rw[rl,rl,q];unfold Ip;rw[w.nm,w.st,w.ps,w.ret]
  .rcases qk.1 g with rfl|g
   .exact⟨m,u_ ..,i⟩
   .obtain⟨y,A,B⟩:=v x g;exact⟨y,c_ _ A,B⟩
abbrev ANA{c g:Tc}(A:aj tb)(B:∀m∈c.ms,bf c.nm m)(p:NO (Ar c)=true)(C:∀m∈(Ar c).ms,m.ps.length<=200/\∀t∈m.ps,t.arr=false/\t.nm.ok)(D:c.nm.ok)(I:c.ms.length<=4)(h:Yy tb c=some g):
 cO tb g/\Ar g=Ar c/\g.nm=c.nm:=by
 obtain⟨d,E,rfl⟩:=d_.1 (show((lE tb c.nm c.ms).map λq=>({c with ms:=q}:Tc))=some g from h);have⟨F,J,G⟩:=AAB E;have i:Ar {c with ms:=d}=Ar c:=by unfold Ar;show(⟨c.nm,c.sup,GI (eZ BU.nm) c.fs,GI (eZ Bk.nm) (d.map Ip)⟩:Fc)=_;rw[F]
 refine⟨⟨λH u=>?_,by show d.length<=4;omega,by rw[i];exact p⟩,i,rfl⟩;have⟨m,x,k⟩:=G H u;have w:=AGx k;have v:Ip m∈(Ar c).ms:=(AHl _).mem_iff.2 (_2 x);refine⟨by rw[w.st,w.ps];exact w.wf,by rw[w.cz];exact(B m x).2,by rw[w.ps];exact w.lt,ASB A D (λf p=>?_) k⟩;have:=(C _ v).2 f.ty (_2 p);exact⟨(λy=>by rw[this.1]at y;cases y),this.2⟩
abbrev AI0{i k:Tc}(w:zZ A B)(q:A.ms.length<=4)(u:B.ms.length<=4)(v:Yy (Ef ([A,B].map Ar)) A=some i)(x:Yy (Ef ([A,B].map Ar)) B=some k):
 (cO (Ef ([A,B].map Ar)) i/\Ar i=Ar A/\i.nm=A.nm)/\(cO (Ef ([A,B].map Ar)) k/\Ar k=Ar B/\k.nm=B.nm):=by
 have p:=AQV w;have⟨g,s,d⟩:=w.fb;refine⟨ANA p (by rw[w.na];exact w.ga) (by rw[w.fa];exact faA) ?_ w.oa.nm q v,ANA p (by rw[w.nb];exact w.gb) (by rw[d];exact faB g s) ?_ w.ob.nm u x⟩
 .rw[w.fa];intro m f;have f:m=Hp∨m=Xo∨m=TO∨m=IB:=by simpa[IK]using f
  rcases f with rfl|rfl|rfl|rfl<;>decide
 .rw[d];intro m f;rcases AD3 f with rfl|rfl<;>decide
end Go.RL
