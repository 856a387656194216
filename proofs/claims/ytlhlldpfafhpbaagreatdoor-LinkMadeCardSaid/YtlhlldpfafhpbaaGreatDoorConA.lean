/- Part of a proof; nothing is assumed. -/
import Derived.Test.YtlhlldpfafhpbaaGreatDoorPlainR
import Derived.Test.YtlhlldpfafhpbaaGreatDoorWalk
set_option linter.unusedVariables false
set_option linter.unusedSimpArgs false
noncomputable section
namespace Go.RL
open Go.BN
set_option maxRecDepth 100000
abbrev xK(b:Bool)(x y:V):BI (.bool b) x y=some (bif b then x else y):=by cases b<;>rfl
abbrev Bw(b:Bool):F0 (.bool b)=some (.bool (!b)):=AWx b
def upper(l c:Nat):Bool:=decide (0<l)&&(decide (65<=c%256)&&decide (c%256<=90))
def isClass(l c:Nat)(arr:Bool):Bool:= !arr&&upper l c
variable{G:AQ}{l:Nat}{c:Nat}{H:Heap}{n:Nat}{k:KV}
abbrev U0(d:∀H' n',Kp H n H' n'->k (.agg [.str l c,.bool false]) H' n'):Runs F G CN [.str l c] H n k:=by refine go1 (AJ5 Ae G) ?_;delta AFQ;simp only[go_sem,Nat.reduceAdd,show BT [.str 0 0,.bool false] [(0,1,.c (.str l c))]=some (.agg [.str l c,.bool false])from rfl];exact d _ _ (((Kp.refl H n).new (m:=n+1) _ o_ a6).new _ o_ o_)
abbrev ATh(a b l c:Nat):BM (.one .str) true (.str a b) (.str l c)=some (.bool (!decide (a=l/\b=c))):=by
 show Ux (K8 (some (band (Nat.beq a l) (Nat.beq b c))) λb=>some (Lf b))=_;have:band (Nat.beq a l) (Nat.beq b c)=decide (a=l/\b=c):=by rw[A6,zc];simp
 rw[this];cases decide (a=l/\b=c)<;>rfl
abbrev AVA(h:0<l):ANr (.str l c) (iN 0)=some (.int .u8 (.ofNat (c%256)) 0):=by
 show Az (Nat.blt 0 l) (CC (AM5 c 0) λb=>some (.int .u8 (.ofNat b) 0))=_;have:Nat.blt 0 l=true:=by rw[xi];exact h
 rw[this,BF];show some (V.int .u8 (.ofNat (c/1%256)) 0)=_;rw[Nat.div_one]
abbrev AWu(q:IntKind)(a b:Nat):B2.ev .geq (.int q (.ofNat a) 0) (.int q (.ofNat b) 0)=some (.bool (decide (b<=a))):=by show Az (band (keq q q) true) (R9 (dh (.ofNat b) (.ofNat a)))=_;rw[NA,iI,show band (keq q q) true=true by simp[Hm],show decide (Int.ofNat b<=Int.ofNat a)=decide (b<=a)by rw[_s];show(b:Int)<=a↔_;omega];rfl
abbrev AJL(q:IntKind)(a b:Nat):B2.ev .leq (.int q (.ofNat a) 0) (.int q (.ofNat b) 0)=some (.bool (decide (a<=b))):=by show Az (band (keq q q) true) (R9 (dh (.ofNat a) (.ofNat b)))=_;rw[NA,iI,show band (keq q q) true=true by simp[Hm],show decide (Int.ofNat a<=Int.ofNat b)=decide (a<=b)by rw[_s];show(a:Int)<=b↔_;omega];rfl
abbrev jn{arr:Bool}(m:l=0->c=0)(d:∀H' n',Kp H n H' n'->k (.bool (isClass l c arr)) H' n'):Runs F G CX [.agg [.str l c,.bool arr]] H n k:=by
 refine go1 (qB Ae G) ?_;delta ZM;simp only[go_sem,Nat.reduceAdd,Bw];cases arr with
 |true=>
  simp only[go_sem,Nat.reduceAdd,k_];exact d _ _ ((Kp.refl H n).new _ o_ a6)
 |false=>
  simp only[go_sem,Nat.reduceAdd,l_,ATh];by_cases g:l=0/\c=0
  .simp only[g,and_self,_b,k_,go_sem];have:isClass l c false=false:=by simp[isClass,upper,g]
   rw[this]at d;exact d _ _ ((Kp.refl H n).new _ o_ a6)
  .have f:0<l:=by rcases _F l with h|h;exact absurd ⟨h,m h⟩ g;exact h
   simp only[g,v_,l_,go_sem,AVA f,AWu,AJL];have e:isClass l c false=(decide (65<=c%256)&&decide (c%256<=90)):=by simp[isClass,upper,f]
   rw[e]at d;cases i:decide (65<=c%256)with
   |false=>
    simp only[go_sem];rw[i]at d;exact d _ _ ((Kp.refl H n).new _ o_ a6)
   |true=>
    simp only[go_sem,AVA f,AJL];rw[i]at d;exact d _ _ ((Kp.refl H n).new _ o_ a6)
abbrev ARJ(l c:Nat):jG (.str l c)=some (iN l):=rfl
def mS(l c:Nat):Bool:=decide (l=3/\c=7630441)||(decide (l=4/\c=1819242338)||(upper l c&&decide (l<=40)))
abbrev tT{arr:Bool}(u:l=0->c=0)(d:∀H' n',Kp H n H' n'->k (.bool (mS l c)) H' n'):Runs F G NJ [.agg [.str l c,.bool arr]] H n k:=by
 refine go1 (ADW Ae G) ?_;delta vS;unfold mS at d;have f:Kp H n (T.set H n (one [.str l c,.bool arr])) (n+1):=(Kp.refl H n).new _ o_ a6;simp only[go_sem,cK];cases i:decide (l=3/\c=7630441)with
 |true=>
  simp only[go_sem];rw[i]at d;exact d _ _ f
 |false=>
  rw[i]at d;simp only[go_sem,cK];cases m:decide (l=4/\c=1819242338)with
  |true=>
   simp only[go_sem];rw[m]at d;exact d _ _ f
  |false=>
   rw[m]at d;simp only[go_sem];refine U0 λy A g=>?_;refine jn u λw B f3=>?_;have p:=f.trans (g.trans f3);have e:isClass l c false=upper l c:=by simp[isClass]
   rw[e];cases q:upper l c with
   |false=>
    simp only[go_sem];rw[q]at d;exact d _ _ p
   |true=>
    rw[q]at d;have x:T.get w n=some (one [.str l c,.bool arr]):=by rw[f3.same n (hN g.le),g.same n a6,T.B4]
    simp only[go_sem,AK (off:=0) x (v:=.str l c) rfl,ARJ,AJL];exact d _ _ p
abbrev ADY(f:l=0->c=0)(d:∀H' n',Kp H n H' n'->k (.bool (upper l c&&decide (l<=40))) H' n'):Runs F G S6 [.str l c] H n k:=by
 refine go1 (yi Ae G) ?_;delta mQ;refine U0 λm p g=>?_;refine jn f λq u f3=>?_;have e:isClass l c false=upper l c:=by simp[isClass]
 rw[e];cases i:upper l c<;>simp only[go_sem,ARJ,AJL]<;>rw[i]at d<;>exact d _ _ (g.trans f3)
abbrev St:=Nat×Nat
def St.v(s:St):V:=.str s.1 s.2
def strs(xs:List St):Bh:=xs.map λs=>[St.v s]
theorem Mo(xs:List St):(strs xs).length=xs.length:=List.length_map ..
variable{i:Nat}
theorem jk{xs:List St}{i:Nat}(h:i<xs.length):(strs xs)[i]? =some [St.v xs[i]]:=by simp[strs,h]
def pn(s:St):List St->Nat->Int
 |[],_=>.negSucc 0
 |x::xs,i=>bif decide (s.1=x.1/\s.2=x.2)then .ofNat i else pn s xs (i+1)
def iP(s:St)(xs:List St):Bool:=xs.any λx=>decide (s.1=x.1/\s.2=x.2)
theorem AFA(s:St):∀(xs:List St) (i:Nat),decide ((0:Int)<=pn s xs i)=iP s xs
 |[],_=>rfl
 |x::xs,i=>by
  unfold pn
  show _=(decide (s.1=x.1/\s.2=x.2)||iP s xs)
  cases h:decide (s.1=x.1/\s.2=x.2)with
  |true=>simp
  |false=>simpa using AFA s xs (i+1)
variable{m:Nat}
abbrev Bf:B2.ev .lss (iN i) (iN m)=some (.bool (decide (i<m))):=by rw[AV4];congr 2;rw[_s];show(i:Int)<m↔_;omega
variable{s:St}
theorem AI8{G:AQ}{v:V}{xs:List St}{s:St}{H:Heap}{n:Nat}{k:KV}(h:El G H v 1 (strs xs))(x:xs.length<9223372036854775808)(f:k (.int .i64 (pn s xs 0) 0) H n):
 Runs F G GP [v,s.v] H n k:=by
 refine go2 (TY Ae G) ?_
 delta K0
 rw[h.len,AJ,Mo]
 refine ET (J:=λm st=>∃i,m=xs.length-i/\i<=xs.length/\st=(v,s.v,iN xs.length,iN i,H,n)/\k (.int .i64 (pn s (xs.drop i) i) 0) H n) ?_ (m:=xs.length) ⟨0,rfl,Nat.zero_le _,rfl,f⟩
 rintro I m st ⟨i,rfl,y,rfl,f⟩ u
 show Eu lfp G (Runs F G) k I v s.v (iN xs.length) (iN i) H n
 delta Eu
 by_cases d:i<xs.length
 ·obtain⟨p,w,g⟩:=h.at (jk d)
  rw[List.drop_eq_getElem_cons d]at f
  unfold pn at f
  simp only[go_sem,Bf,d,decide_true,w,OE g,St.v,cK]
  cases q:decide (s.1=xs[i].1/\s.2=xs[i].2)with
  |true=>simp only[go_sem];rw[q]at f;exact f
  |false=>
   simp only[go_sem,CA (show i+1<9223372036854775808 by omega)]
   rw[q]at f
   exact u _ _ (by omega) ⟨i+1,rfl,d,rfl,f⟩
 ·simp only[go_sem,Bf,d,decide_false]
  delta Ev
  rw[List.drop_eq_nil_of_le (by omega)]at f
  exact f
abbrev ARI(a:Int):B2.ev .geq (.int .i64 a 0) (iN 0)=some (.bool (decide (0<=a))):=by show Az (band (keq .i64 .i64) true) (R9 (dh (.ofNat 0) a))=_;rw[NA,iI];rfl
theorem nl{G:AQ}{v:V}{xs:List St}{s:St}{H:Heap}{n:Nat}{k:KV}(h:El G H v 1 (strs xs))(d:xs.length<9223372036854775808)(f:k (.bool (iP s xs)) H n):
 Runs F G DG [v,s.v] H n k:=by
 refine go2 (RK Ae G) ?_
 delta Iq
 refine AI8 h d ?_
 simp only[go_sem,ARI,AFA]
 exact f
structure Ty where
 nm:St
 arr:Bool
abbrev aAv:=List Ty
def Ty.cells(t:Ty):LV:=[t.nm.v,.bool t.arr]
def Ty.v(t:Ty):V:=.agg t.cells
def Ty.is(a b:Ty):Bool:=decide (a.nm.1=b.nm.1/\a.nm.2=b.nm.2)&&(a.arr==b.arr)
def tys(xs:aAv):Bh:=xs.map Ty.cells
abbrev pw(xs:aAv):(tys xs).length=xs.length:=uc ..
variable{xs:List Ty}
abbrev tu{xs:aAv}(h:i<xs.length):(tys xs)[i]? =some xs[i].cells:=by simp[tys,h]
abbrev ADv(a b:St):CK.eq .str a.v b.v=some (decide (a.1=b.1/\a.2=b.2)):=by show some (band (Nat.beq a.1 b.1) (Nat.beq a.2 b.2))=_;rw[show band (Nat.beq a.1 b.1) (Nat.beq a.2 b.2)=decide (a.1=b.1/\a.2=b.2)by rw[A6,zc];simp]
abbrev AMZ(a b:Bool):CK.eq .bool (.bool a) (.bool b)=some (a==b):=by cases a<;>cases b<;>rfl
abbrev ANK(a b:Ty):(EK.agg [.str,.bool]).eq a.v b.v=some (a.is b):=
 show kQ CK.eq [.str,.bool] a.cells b.cells=_ from HA.2 ⟨_,_,ADv _ _,HA.2 ⟨_,true,AMZ _ _,rfl,rfl⟩,by simp[Ty.is]⟩
abbrev UX(a b:Ty):BM (.agg [.str,.bool]) false a.v b.v=some (.bool (a.is b)):=by show Ux (K8 ((EK.agg [.str,.bool]).eq a.v b.v) λb=>some b)=_;rw[ANK];cases a.is b<;>rfl
abbrev AXC(a b:Ty):BM (.agg [.str,.bool]) true a.v b.v=some (.bool (!a.is b)):=by show Ux (K8 ((EK.agg [.str,.bool]).eq a.v b.v) λb=>some (Lf b))=_;rw[ANK];cases a.is b<;>rfl
def Ze:aAv->aAv->Bool
 |[],[]=>true
 |a::l,b::r=>a.is b&&Ze l r
 |_,_=>false
abbrev te:∀{l r:aAv},Ze l r=true->l.length=r.length
 |[],[],_=>rfl
 |a::l,b::r,h=>by simp[Ze]at h;simp[te h.2]
 |[],_::_,h=>by cases h
 |_::_,[],h=>by cases h
abbrev AUx:BM (.one .int) true (iN i) (iN m)=some (.bool (!decide (i=m))):=by rw[AML,show(Int.ofNat i==Int.ofNat m)=decide (i=m)by rw[zc];simp;omega]
variable{w:V}
abbrev ALV{v:V}{xs ys:aAv}(h:El G H v 2 (tys xs))(A:El G H w 2 (tys ys))(E:xs.length<9223372036854775808)(d:k (.bool (Ze xs ys)) H n):
 Runs F G Hs [v,w] H n k:=by
 refine go2 (QA Ae G) ?_;delta Hw;simp only[go_sem,h.len,A.len,pw,AUx];by_cases u:xs.length=ys.length
 .simp only[u,_b,k_,go_sem];refine ET (J:=λm st=>∃i,m=ys.length-i/\i<=ys.length/\st=(v,w,iN ys.length,iN i,H,n)/\k (.bool (Ze (xs.drop i) (ys.drop i))) H n) ?_ (m:=ys.length) ⟨0,rfl,j_ _,rfl,d⟩;rintro I m st ⟨i,rfl,K,rfl,d⟩ C;show Dn lfp G (Runs F G) k I v w (iN ys.length) (iN i) H n;delta Dn;by_cases f:i<ys.length
  .have g:i<xs.length:=a6;have⟨p,D,x⟩:=h.at (tu g);have⟨L,y,q⟩:=A.at (tu f);rw[uv f,uv g]at d;unfold Ze at d;have e:=AXC xs[i] ys[i];unfold Ty.v at e;simp only[go_sem,Bf,f,_b,D,y,BZ x,BZ q,e];cases B:xs[i].is ys[i]with
   |false=>rw[B]at d;simp only[l_,go_sem];exact d
   |true=>
    simp only[k_,go_sem,CA (show i+1<9223372036854775808 by omega)];rw[B]at d;exact C _ _ a6 ⟨i+1,rfl,f,rfl,d⟩
  .simp only[go_sem,Bf,f,v_];delta Dq;rw[sw a6,sw a6]at d;exact d
 .have:Ze xs ys=false:=by cases h:Ze xs ys;rfl;exact absurd (te h) u
  rw[this]at d;simp only[u,v_,l_,go_sem];exact d
def Lo(v:V)(n:Nat):Prop:=∀id,v.CD=some id->id<n
variable{H':Heap}{z:Nat}{n':Nat}
abbrev _root_.Go.BN.El.kp{v:V}{LS:Bh}(h:El G H v z LS)(i:Lo v n)(f:Kp H n H' n'):El G H' v z LS:=h.same λg d=>f.same g (i g d)
abbrev Lo.mono{v:V}(h:Lo v n)(f:n<=n'):Lo v n':=λg d=>b_ (h g d) f
def findF(g:Ty->Bool):aAv->Nat->Int
 |[],_=>.negSucc 0
 |x::xs,i=>bif g x then .ofNat i else findF g xs (i+1)
abbrev ADx(g:Ty->Bool):∀(xs:aAv) (i:Nat),decide ((0:Int)<=findF g xs i)=xs.any g
 |[],_=>rfl
 |x::xs,i=>by
  unfold findF;show _=(g x||xs.any g);cases h:g x with
  |true=>simp
  |false=>simpa using ADx g xs (i+1)
abbrev AEC{v:V}{xs:aAv}{p:Nat}{g:Ty->Bool}(h:El G H v 2 (tys xs))(y:Lo v n)(K:xs.length<9223372036854775808)
 (C:∀t∈xs,∀{H n} {k:KV},(∀H' n',Kp H n H' n'->k (.bool (g t)) H' n')->Runs F G p [t.v] H n k)
 (u:∀H' n',Kp H n H' n'->k (.int .i64 (findF g xs 0) 0) H' n'):
 Runs F G Dd [v,.fn p [] []] H n k:=by
 refine go2 (F9 Ae G) ?_;delta Dg AQL;rw[h.len,AJ,pw];refine ET (J:=λm st=>∃i w x,m=xs.length-i/\i<=xs.length/\st=(v,.fn p [] [],iN xs.length,iN i,w,x)/\Kp H n w x/\(∀H' n',Kp H n H' n'->k (.int .i64 (findF g (xs.drop i) i) 0) H' n')) ?_ (m:=xs.length) ⟨0,H,n,rfl,j_ _,rfl,Kp.refl _ _,u⟩;rintro I m st ⟨i,w,x,rfl,L,rfl,f,u⟩ D;show AC9 2 lfp G (Runs F G) k I v (.fn p [] []) (iN xs.length) (iN i) w x;delta AC9;by_cases d:i<xs.length
 .obtain⟨q,E,A⟩:=(h.kp y f).at (tu d);rw[uv d]at u;unfold findF at u;simp only[go_sem,Bf,d,_b,E,BZ A];show Runs F G p [xs[i].v] w x _;refine C _ (f_ d) λM N f3=>?_;cases B:g xs[i]with
  |true=>simp only[go_sem];rw[B]at u;exact u _ _ (f.trans f3)
  |false=>
   simp only[go_sem,CA (show i+1<9223372036854775808 by omega)];rw[B]at u;exact D _ _ a6 ⟨i+1,_,_,rfl,d,rfl,f.trans f3,u⟩
 .simp only[go_sem,Bf,d,v_];delta qS;rw[sw a6]at u;exact u _ _ f
abbrev yL{v:V}{xs:aAv}{p:Nat}{g:Ty->Bool}(h:El G H v 2 (tys xs))(d:Lo v n)(i:xs.length<9223372036854775808)
 (m:∀t∈xs,∀{H n} {k:KV},(∀H' n',Kp H n H' n'->k (.bool (g t)) H' n')->Runs F G p [t.v] H n k)
 (q:∀H' n',Kp H n H' n'->k (.bool (xs.any g)) H' n'):
 Runs F G C9 [v,.fn p [] []] H n k:=by refine go2 (Ly Ae G) ?_;delta FT;refine AEC h d i m λH' n' f=>?_;simp only[go_sem,ARI,ADx];exact q _ _ f
def St.ok(s:St):Prop:=s.1=0->s.2=0
def Eo(s:St):Bool:=mS s.1 s.2
abbrev ACj{t:Ty}(d:t.nm.ok)(g:∀H' n',Kp H n H' n'->k (.bool (!Eo t.nm)) H' n'):Runs F G N2 [t.v] H n k:=by refine go1 (fo Ae G) ?_;delta Uc;simp only[Ty.v,Ty.cells,St.v,go_sem];refine tT d λi p f=>?_;simp only[Bw,go_sem];exact g _ _ (((Kp.refl H n).new (m:=n+1) _ o_ a6).trans f)
abbrev AJ9{v:V}{xs:aAv}(h:El G H v 2 (tys xs))(d:Lo v n)(g:xs.length<9223372036854775808)(i:∀t∈xs,t.nm.ok)
 (f:∀H' n',Kp H n H' n'->k (.bool (xs.any λt=> !Eo t.nm)) H' n'):Runs F G C9 [v,.fn N2 [] []] H n k:=
 yL (p:=N2) h d g (λt m {_ _ _} f=>ACj (i t m) f) f
abbrev big:Nat:=9223372036854775808
structure BU where
 nm:St
 ty:Ty
abbrev aAm:=List BU
def BU.cells(f:BU):LV:=[f.nm.v,f.ty.nm.v,.bool f.ty.arr]
structure Bk where
 nm:St
 st:Bool
 ps:List Ty
 ret:Ty
abbrev aAF:=List Bk
def Bk.cells(m:Bk)(v:V):LV:=[m.nm.v,.bool m.st,v,m.ret.nm.v,.bool m.ret.arr]
structure Ji(G:AQ)(H:Heap)(n:Nat)(v:V)(xs:List Ty):Prop where
 el:El G H v 2 (tys xs)
 lo:Lo v n
 lt:xs.length<big
 ok:∀t∈xs,t.nm.ok
structure O3(G:AQ)(H:Heap)(n:Nat)(v:V)(fs:List BU):Prop where
 el:El G H v 3 (fs.map BU.cells)
 lo:Lo v n
 lt:fs.length<big
 ok:∀f∈fs,f.nm.ok/\f.ty.nm.ok
structure IW(G:AQ)(H:Heap)(n:Nat)(v:V)(ms:List Bk)(ws:List V):Prop where
 el:El G H v 5 (List.zipWith Bk.cells ms ws)
 lo:Lo v n
 lt:ms.length<big
 len:ws.length=ms.length
 at':∀(i:Nat) (m:Bk) (w:V),ms[i]? =some m->ws[i]? =some w->Ji G H n w m.ps
 ok:∀m∈ms,m.nm.ok/\m.ret.nm.ok
variable{ws:List V}
section
variable{G:AQ}{H H':Heap}{n n':Nat}{v:V}
abbrev Ji.kp{xs:aAv}(h:Ji G H n v xs)(f:Kp H n H' n'):Ji G H' n' v xs:=⟨h.el.kp h.lo f,h.lo.mono f.le,h.lt,h.ok⟩
abbrev O3.kp{xs:aAm}(h:O3 G H n v xs)(f:Kp H n H' n'):O3 G H' n' v xs:=⟨h.el.kp h.lo f,h.lo.mono f.le,h.lt,h.ok⟩
abbrev IW.kp{xs:aAF}{ws:aAo}(h:IW G H n v xs ws)(f:Kp H n H' n'):IW G H' n' v xs ws:=
 ⟨h.el.kp h.lo f,h.lo.mono f.le,h.lt,h.len,λi m w a b=>(h.at' i m w a b).kp f,h.ok⟩
abbrev O3.len{xs:aAm}(h:O3 G H n v xs):lenV v=some (iN xs.length):=by rw[h.el.len,uc]
abbrev Ji.len{xs:aAv}(h:Ji G H n v xs):lenV v=some (iN xs.length):=by rw[h.el.len,pw]
abbrev IW.len'{xs:aAF}{ws:aAo}(h:IW G H n v xs ws):lenV v=some (iN xs.length):=by rw[h.el.len,_x,h.len,_4]
abbrev O3.at{xs:aAm}(h:O3 G H n v xs)(hi:i<xs.length):∃p,Ai 3 v (iN i)=some p/\lG p G H 3=some xs[i].cells:=
 h.el.at (by simp[hi])
abbrev IW.at{xs:aAF}{ws:aAo}(h:IW G H n v xs ws)(hi:i<xs.length):
 ∃p w,Ai 5 v (iN i)=some p/\lG p G H 5=some (xs[i].cells w)/\Ji G H n w xs[i].ps:=by
 have d:i<ws.length:=by rw[h.len];exact hi
 have⟨p,f,g⟩:=h.el.at (i:=i) (c:=xs[i].cells ws[i]) (by rw[_U];simp[hi,d]);exact⟨p,ws[i],f,g,h.at' i _ _ (eb hi) (eb d)⟩
end
def zO(a b:St):Bool:=Lf (slt b.1 b.2 a.1 a.2)
abbrev AQy(a b:St):B2.ev .leq a.v b.v=some (.bool (zO a b)):=by show R9 (Lf (slt b.1 b.2 a.1 a.2))=_;rw[NA];rfl
abbrev V5(q:IntKind)(a b:Nat):B2.ev .gtr (.int q (.ofNat a) 0) (.int q (.ofNat b) 0)=some (.bool (decide (b<a))):=by show Az (band (keq q q) true) (R9 (UG (.ofNat b) (.ofNat a)))=_;rw[NA,Sm,show band (keq q q) true=true by simp[Hm],show decide (Int.ofNat b<Int.ofNat a)=decide (b<a)by rw[_s];show(b:Int)<a↔_;omega];rfl
abbrev AAA(s:St):jG s.v=some (iN s.1):=rfl
def oX:St->aAm->Bool
 |_,[]=>true
 |a,f::fs=> !(zO f.nm a)&&(!(decide (40<f.nm.1))&&(Eo f.ty.nm&&oX f.nm fs))
def Oo:St->aAF->Bool
 |_,[]=>true
 |a,m::ms=> !(zO m.nm a)&&(!(decide (40<m.nm.1))&&(Eo m.ret.nm&&(!(decide (200<m.ps.length))&&(!(m.ps.any λt=> !Eo t.nm)&&Oo m.nm ms))))
variable{ms:List Bk}{a:St}
abbrev AF4{v:V}{ms:aAF}{ws:aAo}(h:IW G H n v ms ws)
 (d:∀H' n',Kp H n H' n'->k (.bool (Oo a ms)) H' n'):
 lfp (V×V×V×V×Heap×Nat) (Kh lfp G (Runs F G) k) (a.v,v,iN ms.length,iN 0,H,n):=by
 refine ET (J:=λm st=>∃i a y g,m=ms.length-i/\i<=ms.length/\st=(St.v a,v,iN ms.length,iN i,y,g)/\Kp H n y g/\(∀H' n',Kp H n H' n'->k (.bool (Oo a (ms.drop i))) H' n')) ?_ (m:=ms.length) ⟨0,a,H,n,rfl,j_ _,rfl,Kp.refl _ _,d⟩;rintro I m st ⟨i,a,y,g,rfl,Z,rfl,f,d⟩ S;show Lq lfp G (Runs F G) k I a.v v (iN ms.length) (iN i) y g;delta Lq;by_cases p:i<ms.length
 .obtain⟨q,w,U,A,x⟩:=(h.kp f).at p;have B:=h.ok _ (f_ p);rw[uv p]at d;unfold Oo at d;generalize ms[i]=m at B A x d;have C:=h.lt;unfold Bk.cells at A;simp only[go_sem,Nat.reduceAdd,Bf,p,_b,U,BZ A];have D:Kp H n (T.set (T.set y g (one [.str 0 0,.bool false,.AT,.str 0 0,.bool false])) g (one [m.nm.v,.bool m.st,w,m.ret.nm.v,.bool m.ret.arr])) (g+1):=
   (f.new (m:=g+1) _ f.le a6).new _ f.le o_
  have x:=x.kp (n':=g+1) (H':=(T.set (T.set y g (one [.str 0 0,.bool false,.AT,.str 0 0,.bool false])) g (one [m.nm.v,.bool m.st,w,m.ret.nm.v,.bool m.ret.arr]))) (((Kp.refl y g).new (m:=g+1) _ o_ a6).new _ o_ o_);have u:=T.B4 (T.set y g (one [.str 0 0,.bool false,.AT,.str 0 0,.bool false])) g (one [m.nm.v,.bool m.st,w,m.ret.nm.v,.bool m.ret.arr]);generalize T.set (T.set y g (one [.str 0 0,.bool false,.AT,.str 0 0,.bool false])) g (one [m.nm.v,.bool m.st,w,m.ret.nm.v,.bool m.ret.arr])=H3 at D x u⊢;simp only[go_sem,Nat.reduceAdd,AK (off:=0) u (v:=m.nm.v) rfl,AQy,AAA,V5];cases L:zO m.nm a with
  |true=>
   simp only[go_sem,AK (off:=0) u (v:=m.nm.v) rfl,AAA,V5];rw[L]at d;exact d _ _ D
  |false=>
   simp only[go_sem,AK (off:=0) u (v:=m.nm.v) rfl,AAA,V5];rw[L]at d;cases M:decide (40<m.nm.1)with
   |true=>
    simp only[go_sem];rw[M]at d;exact d _ _ D
   |false=>
    rw[M]at d;have W:AX 2 (.ptr g 3) G H3=some (.agg [m.ret.nm.v,.bool m.ret.arr]):=BV u a6 (by show 5<=5;omega);simp only[go_sem,Nat.reduceAdd,W];refine tT B.2 λX n4 E=>?_;simp only[Bw,go_sem];have K:=D.trans E;have x:=x.kp E;have u:T.get X g=_:=(E.same g a6).trans u;show _;cases N:mS m.ret.nm.1 m.ret.nm.2 with
    |false=>
     simp only[l_,go_sem];rw[show Eo m.ret.nm=false from N]at d;exact d _ _ K
    |true=>
     rw[show Eo m.ret.nm=true from N]at d;simp only[k_,go_sem,AK (off:=2) u (v:=w) rfl,x.len,V5];cases O:decide (200<m.ps.length)with
     |true=>
      simp only[go_sem];rw[O]at d;exact d _ _ K
     |false=>
      rw[O]at d;simp only[go_sem,AK (off:=2) u (v:=w) rfl];refine AJ9 x.el x.lo x.lt x.ok λY n6 P=>?_;have u:T.get Y g=_:=(P.same g (hN E.le)).trans u;have Q:=K.trans P;cases R:m.ps.any λt=> !Eo t.nm with
      |true=>
       simp only[go_sem];rw[R]at d;exact d _ _ Q
      |false=>
       rw[R]at d;simp only[go_sem,AK (off:=0) u (v:=m.nm.v) rfl,CA (show i+1<9223372036854775808 by unfold big at C;omega)];exact S _ _ a6 ⟨i+1,m.nm,_,_,rfl,p,rfl,Q,d⟩
 .simp only[go_sem,Bf,p,v_];delta LZ;rw[sw a6]at d;exact d _ _ f
variable{O:V}{b:Nat}
abbrev AHM{v nm:V}{fs:aAm}{ms:aAF}{ws:aAo}(h:O3 G H n v fs)(y:IW G H n w ms ws)
 (P:b<n) (E:T.get H b=some (one [nm,O,v,w]))
 (d:∀H' n',Kp H n H' n'->k (.bool (oX a fs&&Oo (0,0) ms)) H' n'):
 lfp (V×V×V×V×V×Heap×Nat) (G5 lfp G (Runs F G) k) (.ptr b 0,a.v,v,iN fs.length,iN 0,H,n):=by
 refine ET (J:=λm st=>∃i a x g,m=fs.length-i/\i<=fs.length/\st=(.ptr b 0,St.v a,v,iN fs.length,iN i,x,g)/\Kp H n x g/\(∀H' n',Kp H n H' n'->k (.bool (oX a (fs.drop i)&&Oo (0,0) ms)) H' n')) ?_ (m:=fs.length) ⟨0,a,H,n,rfl,j_ _,rfl,Kp.refl _ _,d⟩;rintro I m st ⟨i,a,x,g,rfl,X,rfl,f,d⟩ Q;show GB lfp G (Runs F G) k I (.ptr b 0) a.v v (iN fs.length) (iN i) x g;delta GB;by_cases p:i<fs.length
 .obtain⟨q,R,A⟩:=(h.kp f).at p;have B:=h.ok _ (f_ p);rw[uv p]at d;unfold oX at d;generalize fs[i]=m at B A d;have C:=h.lt;unfold BU.cells at A;simp only[go_sem,Nat.reduceAdd,Bf,p,_b,R,BZ A];have D:Kp H n (T.set (T.set x g (one [.str 0 0,.str 0 0,.bool false])) g (one [m.nm.v,m.ty.nm.v,.bool m.ty.arr])) (g+1):=
   (f.new (m:=g+1) _ f.le a6).new _ f.le o_
  have u:=T.B4 (T.set x g (one [.str 0 0,.str 0 0,.bool false])) g (one [m.nm.v,m.ty.nm.v,.bool m.ty.arr]);generalize T.set (T.set x g (one [.str 0 0,.str 0 0,.bool false])) g (one [m.nm.v,m.ty.nm.v,.bool m.ty.arr])=H3 at D u⊢;simp only[go_sem,Nat.reduceAdd,AK (off:=0) u (v:=m.nm.v) rfl,AQy,AAA,V5];cases K:zO m.nm a with
  |true=>
   simp only[go_sem,AK (off:=0) u (v:=m.nm.v) rfl,AAA,V5];rw[K]at d;exact d _ _ D
  |false=>
   simp only[go_sem,AK (off:=0) u (v:=m.nm.v) rfl,AAA,V5];rw[K]at d;cases y:decide (40<m.nm.1)with
   |true=>
    simp only[go_sem];rw[y]at d;exact d _ _ D
   |false=>
    rw[y]at d;have S:AX 2 (.ptr g 1) G H3=some (.agg [m.ty.nm.v,.bool m.ty.arr]):=BV u a6 (by show 3<=3;omega);simp only[go_sem,Nat.reduceAdd,S];refine tT B.2 λU Y L=>?_;simp only[Bw,go_sem];have M:=D.trans L;have u:T.get U g=_:=(L.same g a6).trans u;show _;cases N:mS m.ty.nm.1 m.ty.nm.2 with
    |false=>
     simp only[l_,go_sem];rw[show Eo m.ty.nm=false from N]at d;exact d _ _ M
    |true=>
     rw[show Eo m.ty.nm=true from N]at d;simp only[k_,go_sem,AK (off:=0) u (v:=m.nm.v) rfl,CA (show i+1<9223372036854775808 by unfold big at C;omega)];exact Q _ _ a6 ⟨i+1,m.nm,_,_,rfl,p,rfl,M,d⟩
 .simp only[go_sem,Bf,p,v_];delta Lx;rw[sw a6]at d;have u:T.get x b=_:=(f.same b P).trans E;have y:=y.kp f;simp only[go_sem,Nat.reduceAdd,AK (off:=3) u (v:=w) rfl,y.len'];exact AF4 (a:=(0,0)) y λH' n' W=>d _ _ (f.trans W)
structure Fc where
 nm:St
 sup:St
 fs:List BU
 ms:List Bk
abbrev b9:=List Fc
structure Vk(G:AQ)(H:Heap)(n:Nat)(L:LV)(c:Fc)(v w:V)(ws:List V):Prop where
 is:L=[c.nm.v,c.sup.v,v,w]
 fs:O3 G H n v c.fs
 ms:IW G H n w c.ms ws
 ok:c.nm.ok/\c.sup.ok
variable{L:LV}
abbrev Vk.kp{c:Fc}{v:V}{ws:aAo}(h:Vk G H n L c v w ws)(f:Kp H n H' n'):Vk G H' n' L c v w ws:=⟨h.is,h.fs.kp f,h.ms.kp f,h.ok⟩
def ox(s:St):Bool:=upper s.1 s.2
def NO(c:Fc):Bool:=
 ox c.nm&&((decide (c.sup.1=0/\c.sup.2=0)||ox c.sup)&&(!(decide (200<c.fs.length))&&(!(decide (200<c.ms.length))&&(!(decide (40<c.nm.1))&&(!(decide (40<c.sup.1))&&(oX (0,0) c.fs&&Oo (0,0) c.ms))))))
abbrev neS(a b:St):BM (.one .str) true a.v b.v=some (.bool (!decide (a.1=b.1/\a.2=b.2))):=ATh ..
abbrev AFR(s:St):isClass s.1 s.2 false=ox s:=by simp[isClass,ox]
abbrev vA{c:Fc}{v:V}{ws:aAo}(h:Vk G H n L c v w ws)
 (d:∀H' n',Kp H n H' n'->k (.bool (NO c)) H' n'):Runs F G Qj [.agg L] H n k:=by
 refine go1 (oF Ae G) ?_;obtain⟨rfl,y,I,hn,hs⟩:=h;delta Xg;unfold NO at d;simp only[go_sem];have N:Kp H n (T.set H n (one [c.nm.v,c.sup.v,v,w])) (n+1):=(Kp.refl H n).new _ o_ a6;have i:=T.B4 H n (one [c.nm.v,c.sup.v,v,w]);generalize T.set H n (one [c.nm.v,c.sup.v,v,w])=H1 at N i⊢;refine U0 λH2 n2 A=>?_;refine jn hn λg u f3=>?_;rw[AFR,Bw];have f:=N.trans (A.trans f3);have i:T.get g n=_:=(f3.same n (hN A.le)).trans ((A.same n a6).trans i);have x:n<u:=tw A.le f3.le;clear N A f3;have tail:∀g u,Kp H n g u->n<u->T.get g n=some (one [c.nm.v,c.sup.v,v,w])->
  (∀H' n',Kp H n H' n'->k (.bool (!(decide (200<c.fs.length))&&(!(decide (200<c.ms.length))&&(!(decide (40<c.nm.1))&&(!(decide (40<c.sup.1))&&(oX (0,0) c.fs&&Oo (0,0) c.ms)))))) H' n')->
  (AD (AG 2 (.ptr n 0)) λO=>
  AD (AM O G g) λP=>
  AD (lenV P) λQ=>
  AD (B2.ev .gtr Q (iN 200)) λm=>
  Ax m false (AG 3 (.ptr n 0)) λR=>
  Ax m false (AM R G g) λS=>
  Ax m false (lenV S) λU=>
  Ax m false (B2.ev .gtr U (iN 200)) λW=>
  AD (BI m (.bool true) W) λp=>
  Ax p false (AG 0 (.ptr n 0)) λX=>
  Ax p false (AM X G g) λY=>
  Ax p false (jG Y) λZ=>
  Ax p false (B2.ev .gtr Z (iN 40)) λd0=>
  AD (BI p (.bool true) d0) λq=>
  Ax q false (AG 1 (.ptr n 0)) λd1=>
  Ax q false (AM d1 G g) λd2=>
  Ax q false (jG d2) λd3=>
  Ax q false (B2.ev .gtr d3 (iN 40)) λd4=>
  AD (BI q (.bool true) d4) λd5=>
  AS d5 (k (.bool false) g u) (AD (AG 2 (.ptr n 0)) λd6=>
  AD (AM d6 G g) λB=>
  AD (lenV B) λd7=>
  lfp (V×V×V×V×V×Heap×Nat) (G5 lfp G (Runs F G) k) (.ptr n 0,(.str 0 0),B,d7,(iN 0),g,u))):=by
  intro g u f x i d;have y:=y.kp f;have I:=I.kp f;have e0:AM (.ptr n 0) G g=some c.nm.v:=AK i rfl;have J:AM (.ptr n 1) G g=some c.sup.v:=AK i rfl;have e2:AM (.ptr n 2) G g=some v:=AK i rfl;have e3:AM (.ptr n 3) G g=some w:=AK i rfl;simp only[go_sem,Nat.reduceAdd,e2,y.len,V5];cases C:decide (200<c.fs.length)with
  |true=>rw[C]at d;simp only[go_sem];exact d _ _ f
  |false=>
   rw[C]at d;simp only[go_sem,Nat.reduceAdd,e3,I.len',V5];cases D:decide (200<c.ms.length)with
   |true=>rw[D]at d;simp only[go_sem];exact d _ _ f
   |false=>
    rw[D]at d;simp only[go_sem,Nat.reduceAdd,e0,AAA,V5];cases E:decide (40<c.nm.1)with
    |true=>rw[E]at d;simp only[go_sem];exact d _ _ f
    |false=>
     rw[E]at d;simp only[go_sem,Nat.reduceAdd,J,AAA,V5];cases h4:decide (40<c.sup.1)with
     |true=>rw[h4]at d;simp only[go_sem];exact d _ _ f
     |false=>
      rw[h4]at d;simp only[go_sem,Nat.reduceAdd,e2,y.len];exact AHM (a:=(0,0)) y I x i λH' n' K=>d _ _ (f.trans K)
 cases C:ox c.nm with
 |false=>
  rw[C]at d;simp only[l_,go_sem];exact d _ _ f
 |true=>
  rw[C]at d;have J:AM (.ptr n 1) G g=some c.sup.v:=AK i rfl;have e:=neS c.sup (0,0);unfold St.v at e;simp only[k_,go_sem,Nat.reduceAdd,J];rw[show BM (.one .str) true c.sup.v (.str 0 0)=_ from neS c.sup (0,0)];cases D:decide (c.sup.1=0/\c.sup.2=0)with
  |true=>
   rw[D]at d;simp only[k_,go_sem];exact tail _ _ f x i d
  |false=>
   rw[D]at d;simp only[l_,go_sem,Nat.reduceAdd,J];refine U0 λH4 n4 M=>?_;refine jn hs λH5 n5 f5=>?_;rw[AFR,Bw];have K:=f.trans (M.trans f5);have i:T.get H5 n=_:=(f5.same n (hN M.le)).trans ((M.same n a6).trans i);cases E:ox c.sup with
   |false=>
    rw[E]at d;simp only[l_,go_sem];exact d _ _ K
   |true=>
    rw[E]at d;simp only[k_,go_sem];exact tail _ _ K (tw M.le f5.le) i d
abbrev ANC{e:Nat}{t:T LV}(q:0<e)(hi:i<c)(u:T.get t i=some L)(v:L.length=e):VV e c t (i*e) e=some L:=by
 unfold VV;have d:i*e/e=i:=V_ _ q;have f:i*e%e=0:=aAa ..;have w:Nat.blt (Nat.div (i*e) e) c=true:=by rw[xi];show i*e/e<c;omega
 rw[w];show BB (T.get t (Nat.div (i*e) e)) (Wl e (i*e) e)=_;rw[show Nat.div (i*e) e=i from d,u,Kl];have g:=AHg (H:=T.set .e 0 (one L)) (id:=0) (L:=L) (off:=0) (m:=e) (T.B4 ..) q a6;unfold ZB at g;rw[T.B4]at g;have k:VV L.length 1 (T.set .e 0 L) 0 e=some ((L.drop 0).take e):=g;unfold VV at k;rw[show Nat.blt (Nat.div 0 L.length) 1=true by rw[xi];show 0/L.length<1;simp]at k;have p:BB (T.get (T.set T.e 0 L) (Nat.div 0 L.length)) (Wl L.length 0 e)=some ((L.drop 0).take e):=k;rw[show Nat.div 0 L.length=0 from Nat.zero_div _,T.B4,Kl]at p;rw[_S,_d a6,v]at p;have:Wl e (i*e) e L=Wl e 0 e L:=by unfold Wl;rw[show Nat.mod (i*e) e=0 from f,show Nat.mod 0 e=0 from Nat.zero_mod _]
 rw[this];exact p
variable{Z:LV}{P:KV}
abbrev AHQ(d:L.length=z):
 Au (AY z 1 Z [(0,.c (.agg L))] E0) H n P=P (.sl n 0 1 1 z) (T.set H n (.arr z 1 (T.set (T.set .e 0 Z) 0 L))) (n+1):=by subst d;show B7 (band (band true (band true (Nat.beq (len L) L.length))) true) (CS n λn=>P (.sl n 0 1 1 L.length) (T.set H n (.arr L.length 1 (T.set (T.set .e 0 Z) 0 L))) (Nat.succ n))=_;rw[len_eq,A8];have f:band (band true (band true (Nat.beq L.length L.length))) true=true:=o6;rw[f];rfl
abbrev xS(d:0<z)(f:L.length=z)(h:T.get H n=some (.arr z 1 (T.set (T.set .e 0 Z) 0 L))):El G H (.sl n 0 1 1 z) z [L]:=by
 refine⟨rfl,?_⟩;show(Bool.rec (motive:=λ_=>aAs) none (BB (ZB H n (0*z) z) λL=>BB (some []) λg=>some (L::g)) (Nat.beq z z):aAs)=_;have i:ZB H n (0*z) z=some L:=by unfold ZB;rw[h];exact ANC d a6 (by rw[T.B4]) f
 rw[i,show Nat.beq z z=true by simp];rfl
variable{d:V}{e:V}
abbrev AR6{Z a b c:V}(h:∀v∈[a,b,c,d,e],Rb v=true/\At v=[v]):
 Au (AY 1 5 [Z] [(0,.c a),(1,.c b),(2,.c c),(3,.c d),(4,.c e)] E0) H n P=
 P (.sl n 0 5 5 1) (T.set H n (.arr 1 5 (T.set (T.set (T.set (T.set (T.set (qe [Z] 5 .e) 0 [a]) 1 [b]) 2 [c]) 3 [d]) 4 [e]))) (n+1):=by
 obtain⟨f,g,i,k,m,-⟩:(Rb a=true/\At a=[a])/\(Rb b=true/\At b=[b])/\(Rb c=true/\At c=[c])/\(Rb d=true/\At d=[d])/\(Rb e=true/\At e=[e])/\True:=by simpa using h
 show B7 (band (band (Rb a) (band (Nat.blt 0 5) (Nat.beq (len (At a)) 1))) (band (band (Rb b) (band (Nat.blt 1 5) (Nat.beq (len (At b)) 1))) (band (band (Rb c) (band (Nat.blt 2 5) (Nat.beq (len (At c)) 1))) (band (band (Rb d) (band (Nat.blt 3 5) (Nat.beq (len (At d)) 1))) (band (band (Rb e) (band (Nat.blt 4 5) (Nat.beq (len (At e)) 1))) true)))))
  (CS n λn=>P (.sl n 0 5 5 1) (T.set H n (.arr 1 5 (T.set (T.set (T.set (T.set (T.set (qe [Z] 5 .e) 0 (At a)) 1 (At b)) 2 (At c)) 3 (At d)) 4 (At e)))) (Nat.succ n))=_
 rw[f.1,f.2,g.1,g.2,i.1,i.2,k.1,k.2,m.1,m.2,A8];rfl
abbrev APA{Z a b c:V}(h:T.get H n=some (.arr 1 5 (T.set (T.set (T.set (T.set (T.set (qe [Z] 5 .e) 0 [a]) 1 [b]) 2 [c]) 3 [d]) 4 [e]))):
 El G H (.sl n 0 5 5 1) 1 [[a],[b],[c],[d],[e]]:=by
 refine⟨rfl,?_⟩;show BB (ZB H n (0*1) 1) (λL=>BB (BB (ZB H n (1*1) 1) λL=>BB (BB (ZB H n (2*1) 1) λL=>BB (BB (ZB H n (3*1) 1) λL=>BB (BB (ZB H n (4*1) 1) λL=>BB (some []) λf=>some (L::f)) λf=>some (L::f)) λf=>some (L::f)) λf=>some (L::f)) λf=>some (L::f))=_;have g:∀i v,i<5->T.get (T.set (T.set (T.set (T.set (T.set (qe [Z] 5 .e) 0 [a]) 1 [b]) 2 [c]) 3 [d]) 4 [e]) i=some [v]->ZB H n (i*1) 1=some [v]:=by intro i v k m;unfold ZB;rw[h];exact ANC a6 k m rfl
 rw[g 0 a a6 rfl,g 1 b a6 rfl,g 2 c a6 rfl,g 3 d a6 rfl,g 4 e a6 rfl];rfl
def ABV(m:Bk):Bool:=Oo (0,0) [m]
abbrev AH4(m:Bk):NO ⟨(1,65),(0,0),[],[m]⟩=ABV m:=by simp[NO,ABV,ox,upper,oX]
abbrev AWe{m:Bk}(y:Ji G H n w m.ps)(A:m.nm.ok/\m.ret.nm.ok)
 (B:∀H' n',Kp H n H' n'->k (.bool (ABV m)) H' n'):Runs F G vZ [.agg (m.cells w)] H n k:=by
 refine go1 (ACh Ae G) ?_;delta un;have p:Kp H n (T.set H n (one (m.cells w))) (n+1):=(Kp.refl H n).new _ o_ a6;have C:AX 5 (.ptr n 0) G (T.set H n (one (m.cells w)))=some (.agg (m.cells w)):=AFn rfl a6;simp only[go_sem,Nat.reduceAdd,C,AHQ (z:=5) (L:=m.cells w) rfl];generalize T.set H n (one (m.cells w))=H1 at p⊢;have d:=p.new (m:=n+1+1) (.arr 5 1 (T.set (T.set .e 0 [.str 0 0,.bool false,.AT,.str 0 0,.bool false]) 0 (m.cells w))) (id:=n+1) a6 a6;have u:=T.B4 H1 (n+1) (.arr 5 1 (T.set (T.set .e 0 [.str 0 0,.bool false,.AT,.str 0 0,.bool false]) 0 (m.cells w)));generalize T.set H1 (n+1) (.arr 5 1 (T.set (T.set .e 0 [.str 0 0,.bool false,.AT,.str 0 0,.bool false]) 0 (m.cells w)))=H2 at d u⊢;rw[show BT [.str 0 0,.str 0 0,.AT,.AT] [(0,1,.c (.str 1 65)),(3,1,.c (.sl (n+1) 0 1 1 5))]=some (.agg [.str 1 65,.str 0 0,.AT,.sl (n+1) 0 1 1 5])from rfl,AJ];refine vA (c:=⟨(1,65),(0,0),[],[m]⟩) (v:=.AT) (w:=.sl (n+1) 0 1 1 5) (ws:=[w]) ⟨rfl,⟨⟨rfl,rfl⟩,(λq h=>by cases h),(by show 0<big;decide),(λf h=>by cases h)⟩,⟨xS a6 rfl u,(λq h=>by cases h;omega),(by show 1<big;decide),rfl,?_,?_⟩,?_⟩ λH' n' f=>?_
 .intro i D E g x;cases i with
  |zero=>simp at g x;subst g x;exact y.kp d
  |succ i=>simp at g
 .intro D h;simp at h;subst h;exact A
 .exact⟨(λh=>by cases h),(λh=>rfl)⟩
 .rw[AH4];exact B _ _ (d.trans f)
structure PF where
 f:BU
 own:St
structure PM where
 m:Bk
 own:St
def PF.cells(p:PF):LV:=[p.f.nm.v,p.f.ty.nm.v,.bool p.f.ty.arr,p.own.v]
def PM.cells(p:PM)(w:V):LV:=[p.m.nm.v,.bool p.m.st,w,p.m.ret.nm.v,.bool p.m.ret.arr,p.own.v]
structure Pool where
 nums:List Int
 names:List St
 types:List Ty
 fields:List PF
 BS:List PM
structure Kr(G:AQ)(H:Heap)(n:Nat)(p:Pool)(v0 v1 v2 v3 v4:V)(ws:List V):Prop where
 e0:El G H v0 1 (p.nums.map λa=>[.int .i64 a 0])
 l0:Lo v0 n
 b0:p.nums.length<big
 e1:El G H v1 1 (strs p.names)
 l1:Lo v1 n
 b1:p.names.length<big
 o1:∀s∈p.names,s.ok
 t2:Ji G H n v2 p.types
 e3:El G H v3 4 (p.fields.map PF.cells)
 l3:Lo v3 n
 b3:p.fields.length<big
 o3:∀f∈p.fields,f.f.nm.ok/\f.f.ty.nm.ok/\f.own.ok
 e4:El G H v4 6 (List.zipWith PM.cells p.BS ws)
 l4:Lo v4 n
 b4:p.BS.length<big
 AEJ:ws.length=p.BS.length
 at4:∀(i:Nat) (m:PM) (w:V),p.BS[i]? =some m->ws[i]? =some w->Ji G H n w m.m.ps
 o4:∀m∈p.BS,m.m.nm.ok/\m.m.ret.nm.ok/\m.own.ok
variable{p:Pool}{v0:V}{v1:V}{v2:V}{v3:V}{v4:V}
theorem Kr.kp{ws:aAo}(h:Kr G H n p v0 v1 v2 v3 v4 ws)(f:Kp H n H' n'):Kr G H' n' p v0 v1 v2 v3 v4 ws:=
 ⟨h.e0.kp h.l0 f,h.l0.mono f.le,h.b0,h.e1.kp h.l1 f,h.l1.mono f.le,h.b1,h.o1,h.t2.kp f,h.e3.kp h.l3 f,h.l3.mono f.le,h.b3,h.o3,h.e4.kp h.l4 f,h.l4.mono f.le,h.b4,h.AEJ,
  λi m w a b=>(h.at4 i m w a b).kp f,h.o4⟩
def Ia(s:St):Bool:=upper s.1 s.2&&decide (s.1<=40)
def gH(p:PM):Bool:=Ia p.own&&ABV p.m
def xh(p:PF):Bool:=Ia p.own&&(!decide (p.f.nm.1=0/\p.f.nm.2=0)&&(!decide (40<p.f.nm.1)&&Eo p.f.ty.nm))
abbrev AEZ{ws:aAo}(h:Kr G H n p v0 v1 v2 v3 v4 ws)
 (u:∀H' n',Kp H n H' n'->k (.bool (p.BS.all gH)) H' n'):
 lfp (V×V×V×Heap×Nat) (Ja lfp G (Runs F G) k) (v4,iN p.BS.length,iN 0,H,n):=by
 refine ET (J:=λm st=>∃i A g,m=p.BS.length-i/\i<=p.BS.length/\st=(v4,iN p.BS.length,iN i,A,g)/\Kp H n A g/\(∀H' n',Kp H n H' n'->k (.bool ((p.BS.drop i).all gH)) H' n')) ?_ (m:=p.BS.length) ⟨0,H,n,rfl,j_ _,rfl,Kp.refl _ _,u⟩;rintro I m st ⟨i,A,g,rfl,X,rfl,f,u⟩ R;show KK lfp G (Runs F G) k I v4 (iN p.BS.length) (iN i) A g;delta KK;by_cases d:i<p.BS.length
 .have L:i<ws.length:=by rw[h.AEJ];exact d
  have M:=h.kp f;have⟨q,S,x⟩:=M.e4.at (i:=i) (c:=p.BS[i].cells ws[i]) (by rw[_U];simp[d,L]);have B:=M.at4 i _ _ (eb d) (eb L);have y:=h.o4 _ (f_ d);have C:=h.b4;rw[uv d,_9]at u;generalize p.BS[i]=m at y x B u;generalize ws[i]=w at x B;unfold PM.cells at x;simp only[go_sem,Nat.reduceAdd,Bf,d,_b,S,BZ x];have D:Kp A g (T.set (T.set A g (one [.str 0 0,.bool false,.AT,.str 0 0,.bool false,.str 0 0])) g (one [m.m.nm.v,.bool m.m.st,w,m.m.ret.nm.v,.bool m.m.ret.arr,m.own.v])) (g+1):=
   ((Kp.refl _ _).new (m:=g+1) _ o_ a6).new _ o_ o_
  have E:=T.B4 (T.set A g (one [.str 0 0,.bool false,.AT,.str 0 0,.bool false,.str 0 0])) g (one [m.m.nm.v,.bool m.m.st,w,m.m.ret.nm.v,.bool m.m.ret.arr,m.own.v]);generalize T.set (T.set A g (one [.str 0 0,.bool false,.AT,.str 0 0,.bool false,.str 0 0])) g (one [m.m.nm.v,.bool m.m.st,w,m.m.ret.nm.v,.bool m.m.ret.arr,m.own.v])=H3 at D E⊢;refine ADY y.2.2 λN Y K=>?_;rw[Bw,show(upper m.own.1 m.own.2&&decide (m.own.1<=40))=Ia m.own from rfl];have E:T.get N g=_:=(K.same g a6).trans E;unfold gH at u;cases O:Ia m.own with
  |false=>
   rw[O]at u;simp only[l_,go_sem];exact u _ _ (f.trans (D.trans K))
  |true=>
   rw[O]at u;have U:AX 5 (.ptr g 0) G N=some (.agg (m.m.cells w)):=BV E a6 (by show 5<=6;omega);simp only[k_,go_sem,Nat.reduceAdd,U];refine AWe (B.kp (D.trans K)) ⟨y.1,y.2.1⟩ λZ n5 W=>?_;have P:=f.trans ((D.trans K).trans W);simp only[Bw,go_sem];cases Q:ABV m.m with
   |false=>
    rw[Q]at u;simp only[l_,go_sem];exact u _ _ P
   |true=>
    rw[Q]at u;simp only[k_,go_sem,CA (show i+1<9223372036854775808 by unfold big at C;omega)];exact R _ _ a6 ⟨i+1,_,_,rfl,d,rfl,P,u⟩
 .simp only[go_sem,Bf,d,v_];delta LO;rw[sw a6]at u;exact u _ _ f
abbrev eqS(a b:St):BM (.one .str) false a.v b.v=some (.bool (decide (a.1=b.1/\a.2=b.2))):=cK ..
abbrev ADI{ws:aAo}(h:Kr G H n p v0 v1 v2 v3 v4 ws)(W:b<n)(D:T.get H b=some (one [v0,v1,v2,v3,v4]))
 (d:∀H' n',Kp H n H' n'->k (.bool (p.fields.all xh&&p.BS.all gH)) H' n'):
 lfp (V×V×V×V×Heap×Nat) (JU lfp G (Runs F G) k) (.ptr b 0,v3,iN p.fields.length,iN 0,H,n):=by
 refine ET (J:=λm st=>∃i w g,m=p.fields.length-i/\i<=p.fields.length/\st=(.ptr b 0,v3,iN p.fields.length,iN i,w,g)/\Kp H n w g/\(∀H' n',Kp H n H' n'->k (.bool ((p.fields.drop i).all xh&&p.BS.all gH)) H' n')) ?_ (m:=p.fields.length) ⟨0,H,n,rfl,j_ _,rfl,Kp.refl _ _,d⟩;rintro I m st ⟨i,w,g,rfl,hi,rfl,f,d⟩ X;show J5 lfp G (Runs F G) k I (.ptr b 0) v3 (iN p.fields.length) (iN i) w g;delta J5;have L:=h.kp f;by_cases u:i<p.fields.length
 .obtain⟨q,Y,x⟩:=L.e3.at (i:=i) (c:=p.fields[i].cells) (by simp[u]);have y:=h.o3 _ (f_ u);have B:=h.b3;rw[uv u,_9]at d;generalize p.fields[i]=m at y x d;unfold PF.cells at x;simp only[go_sem,Nat.reduceAdd,Bf,u,_b,Y,BZ x];have M:Kp w g (T.set (T.set w g (one [.str 0 0,.str 0 0,.bool false,.str 0 0])) g (one [m.f.nm.v,m.f.ty.nm.v,.bool m.f.ty.arr,m.own.v])) (g+1):=
   ((Kp.refl _ _).new (m:=g+1) _ o_ a6).new _ o_ o_
  have A:=T.B4 (T.set w g (one [.str 0 0,.str 0 0,.bool false,.str 0 0])) g (one [m.f.nm.v,m.f.ty.nm.v,.bool m.f.ty.arr,m.own.v]);generalize T.set (T.set w g (one [.str 0 0,.str 0 0,.bool false,.str 0 0])) g (one [m.f.nm.v,m.f.ty.nm.v,.bool m.f.ty.arr,m.own.v])=H3 at M A⊢;refine ADY y.2.2 λE n4 N=>?_;rw[Bw,show(upper m.own.1 m.own.2&&decide (m.own.1<=40))=Ia m.own from rfl];have A:T.get E g=_:=(N.same g a6).trans A;have O:AM (.ptr g 0) G E=some m.f.nm.v:=AK A rfl;have C:=f.trans (M.trans N);unfold xh at d;cases P:Ia m.own with
  |false=>
   rw[P]at d;simp only[l_,go_sem];exact d _ _ C
  |true=>
   rw[P]at d;simp only[k_,go_sem,Nat.reduceAdd,O];rw[show BM (.one .str) false m.f.nm.v (.str 0 0)=_ from eqS m.f.nm (0,0)];cases Q:decide (m.f.nm.1=0/\m.f.nm.2=0)with
   |true=>
    rw[Q]at d;simp only[go_sem];exact d _ _ C
   |false=>
    rw[Q]at d;simp only[go_sem,Nat.reduceAdd,O,AAA,V5];cases R:decide (40<m.f.nm.1)with
    |true=>
     rw[R]at d;simp only[go_sem];exact d _ _ C
    |false=>
     rw[R]at d;have K:AX 2 (.ptr g 1) G E=some (.agg [m.f.ty.nm.v,.bool m.f.ty.arr]):=BV A a6 (by show 3<=4;omega);simp only[go_sem,Nat.reduceAdd,K];refine tT y.2.1 λH5 n5 Z=>?_;have S:=C.trans Z;simp only[Bw,go_sem];show _;cases U:mS m.f.ty.nm.1 m.f.ty.nm.2 with
     |false=>
      rw[show Eo m.f.ty.nm=false from U]at d;simp only[l_,go_sem];exact d _ _ S
     |true=>
      rw[show Eo m.f.ty.nm=true from U]at d;simp only[k_,go_sem,CA (show i+1<9223372036854775808 by unfold big at B;omega)];exact X _ _ a6 ⟨i+1,_,_,rfl,u,rfl,S,d⟩
 .simp only[go_sem,Bf,u,v_];delta LQ;rw[sw a6]at d;have A:T.get w b=_:=(f.same b W).trans D;have K:lenV v4=some (iN p.BS.length):=by rw[h.e4.len,_x,h.AEJ,_4]
  simp only[go_sem,Nat.reduceAdd,AK (off:=4) A (v:=v4) rfl,K];exact AEZ L λH' n' f'=>d _ _ (f.trans f')
abbrev AD9{ws:aAo}(h:Kr G H n p v0 v1 v2 v3 v4 ws)(C:b<n)(B:T.get H b=some (one [v0,v1,v2,v3,v4]))
 (g:∀H' n',Kp H n H' n'->k (.bool ((p.types.all λt=>Eo t.nm)&&(p.fields.all xh&&p.BS.all gH))) H' n'):
 lfp (V×V×V×V×Heap×Nat) (JT lfp G (Runs F G) k) (.ptr b 0,v2,iN p.types.length,iN 0,H,n):=by
 refine ET (J:=λm st=>∃i w u,m=p.types.length-i/\i<=p.types.length/\st=(.ptr b 0,v2,iN p.types.length,iN i,w,u)/\Kp H n w u/\(∀H' n',Kp H n H' n'->k (.bool (((p.types.drop i).all λt=>Eo t.nm)&&(p.fields.all xh&&p.BS.all gH))) H' n')) ?_ (m:=p.types.length) ⟨0,H,n,rfl,j_ _,rfl,Kp.refl _ _,g⟩;rintro I m st ⟨i,w,u,rfl,S,rfl,f,g⟩ M;show KH lfp G (Runs F G) k I (.ptr b 0) v2 (iN p.types.length) (iN i) w u;delta KH;have D:=h.kp f;by_cases d:i<p.types.length
 .obtain⟨q,N,x⟩:=D.t2.el.at (tu d);have y:=h.t2.ok _ (f_ d);have A:=h.t2.lt;rw[uv d,_9]at g;generalize p.types[i]=m at y x g;unfold Ty.cells at x;simp only[go_sem,Nat.reduceAdd,Bf,d,_b,N,BZ x];have O:Kp w u (T.set (T.set w u (one [.str 0 0,.bool false])) u (one [m.nm.v,.bool m.arr])) (u+1):=
   ((Kp.refl _ _).new (m:=u+1) _ o_ a6).new _ o_ o_
  refine tT y λU W P=>?_;have E:=f.trans (O.trans P);simp only[Bw,go_sem];show _;cases K:mS m.nm.1 m.nm.2 with
  |false=>
   rw[show Eo m.nm=false from K]at g;simp only[l_,go_sem];exact g _ _ E
  |true=>
   rw[show Eo m.nm=true from K]at g;simp only[k_,go_sem,CA (show i+1<9223372036854775808 by unfold big at A;omega)];exact M _ _ a6 ⟨i+1,_,_,rfl,d,rfl,E,g⟩
 .simp only[go_sem,Bf,d,v_];delta LG;rw[sw a6]at g;have L:T.get w b=_:=(f.same b C).trans B;have Q:lenV v3=some (iN p.fields.length):=by rw[h.e3.len,uc]
  simp only[go_sem,Nat.reduceAdd,AK (off:=3) L (v:=v3) rfl,Q];exact ADI D (b_ C f.le) L λH' n' R=>g _ _ (f.trans R)
def ZF(p:Pool):Bool:=p.names.all Ia&&((p.types.all λt=>Eo t.nm)&&(p.fields.all xh&&p.BS.all gH))
abbrev AEv{ws:aAo}(h:Kr G H n p v0 v1 v2 v3 v4 ws)(D:b<n)(B:T.get H b=some (one [v0,v1,v2,v3,v4]))
 (g:∀H' n',Kp H n H' n'->k (.bool (ZF p)) H' n'):
 lfp (V×V×V×V×Heap×Nat) (JS lfp G (Runs F G) k) (.ptr b 0,v1,iN p.names.length,iN 0,H,n):=by
 refine ET (J:=λm st=>∃i u A,m=p.names.length-i/\i<=p.names.length/\st=(.ptr b 0,v1,iN p.names.length,iN i,u,A)/\Kp H n u A/\(∀H' n',Kp H n H' n'->k (.bool ((p.names.drop i).all Ia&&((p.types.all λt=>Eo t.nm)&&(p.fields.all xh&&p.BS.all gH)))) H' n')) ?_ (m:=p.names.length) ⟨0,H,n,rfl,j_ _,rfl,Kp.refl _ _,g⟩;rintro I m st ⟨i,u,A,rfl,Q,rfl,f,g⟩ M;show J6 lfp G (Runs F G) k I (.ptr b 0) v1 (iN p.names.length) (iN i) u A;delta J6;have C:=h.kp f;by_cases d:i<p.names.length
 .obtain⟨q,N,w⟩:=C.e1.at (jk d);have x:=h.o1 _ (f_ d);have y:=h.b1;rw[uv d,_9]at g;generalize p.names[i]=m at x w g;simp only[go_sem,Nat.reduceAdd,Bf,d,_b,N,OE w];refine ADY x λR S O=>?_;rw[Bw,show(upper m.1 m.2&&decide (m.1<=40))=Ia m from rfl];have E:=f.trans O;cases K:Ia m with
  |false=>
   rw[K]at g;simp only[l_,go_sem];exact g _ _ E
  |true=>
   rw[K]at g;simp only[k_,go_sem,CA (show i+1<9223372036854775808 by unfold big at y;omega)];exact M _ _ a6 ⟨i+1,_,_,rfl,d,rfl,E,g⟩
 .simp only[go_sem,Bf,d,v_];delta LN;rw[sw a6]at g;have L:T.get u b=_:=(f.same b D).trans B;simp only[go_sem,Nat.reduceAdd,AK (off:=2) L (v:=v2) rfl,C.t2.len];exact AD9 C (b_ D f.le) L λH' n' P=>g _ _ (f.trans P)
def cnts(p:Pool):aAw:=[p.nums.length,p.names.length,p.types.length,p.fields.length,p.BS.length]
abbrev AGv{v:V}{ws:aAo}(h:Kr G H n p v0 v1 v2 v3 v4 ws)(x:b<n)(g:T.get H b=some (one [v0,v1,v2,v3,v4]))
 {xs:aAw} (y:El G H v 1 (xs.map λ(a:Nat)=>[V.int .i64 (.ofNat a) 0])) (A:xs.length<big)
 (f:∀H' n',Kp H n H' n'->k (.bool ((xs.all λa=> !decide (16384<a))&&ZF p)) H' n'):
 lfp (V×V×V×V×Heap×Nat) (JL lfp G (Runs F G) k) (.ptr b 0,v,iN xs.length,iN 0,H,n):=by
 refine ET (J:=λm st=>∃i,m=xs.length-i/\i<=xs.length/\st=(.ptr b 0,v,iN xs.length,iN i,H,n)/\(∀H' n',Kp H n H' n'->k (.bool (((xs.drop i).all λa=> !decide (16384<a))&&ZF p)) H' n')) ?_ (m:=xs.length) ⟨0,rfl,j_ _,rfl,f⟩;rintro I m st ⟨i,rfl,E,rfl,f⟩ B;show KO lfp G (Runs F G) k I (.ptr b 0) v (iN xs.length) (iN i) H n;delta KO;by_cases d:i<xs.length
 .obtain⟨q,C,u⟩:=y.at (i:=i) (c:=[V.int .i64 (.ofNat xs[i]) 0]) (by simp[d]);rw[uv d,_9]at f;generalize xs[i]=m at u f;simp only[go_sem,Nat.reduceAdd,Bf,d,_b,C,OE u,V5];cases w:decide (16384<m)with
  |true=>
   rw[w]at f;simp only[go_sem];exact f _ _ (Kp.refl _ _)
  |false=>
   rw[w]at f;simp only[go_sem,CA (show i+1<9223372036854775808 by unfold big at A;omega)];exact B _ _ a6 ⟨i+1,rfl,d,rfl,f⟩
 .simp only[go_sem,Bf,d,v_];delta Lp;rw[sw a6]at f;have D:lenV v1=some (iN p.names.length):=by rw[h.e1.len,Mo]
  simp only[go_sem,Nat.reduceAdd,AK (off:=1) g (v:=v1) rfl,D];exact AEv h x g f
def sS(p:Pool):Bool:=(cnts p).all (λa=> !decide (16384<a))&&ZF p
abbrev AET{ws:aAo}(h:Kr G H n p v0 v1 v2 v3 v4 ws)
 (w:∀H' n',Kp H n H' n'->k (.bool (sS p)) H' n'):Runs F G Vj [.agg [v0,v1,v2,v3,v4]] H n k:=by
 refine go1 (lT Ae G) ?_;delta WZ;have x:lenV v0=some (iN p.nums.length):=by rw[h.e0.len,uc]
 have y:lenV v1=some (iN p.names.length):=by rw[h.e1.len,Mo]
 have A:lenV v3=some (iN p.fields.length):=by rw[h.e3.len,uc]
 have C:lenV v4=some (iN p.BS.length):=by rw[h.e4.len,_x,h.AEJ,_4]
 simp only[go_sem,Nat.reduceAdd,x,y,h.t2.len,A,C];rw[AR6 (by intro v q;simp at q;rcases q with rfl|rfl|rfl|rfl|rfl<;>exact⟨rfl,rfl⟩)];have u:Kp H n (T.set H n (one [v0,v1,v2,v3,v4])) (n+1):=(Kp.refl H n).new _ o_ a6;have d:=T.B4 H n (one [v0,v1,v2,v3,v4]);generalize T.set H n (one [v0,v1,v2,v3,v4])=H1 at u d⊢;generalize hB:(LF.arr 1 5 (T.set (T.set (T.set (T.set (T.set (qe [V.int .i64 (.ofNat 0) 0] 5 .e) 0 [V.int .i64 (.ofNat p.nums.length) 0]) 1 [V.int .i64 (.ofNat p.names.length) 0]) 2 [V.int .i64 (.ofNat p.types.length) 0]) 3 [V.int .i64 (.ofNat p.fields.length) 0]) 4 [V.int .i64 (.ofNat p.BS.length) 0]))=B;have i:=u.new (m:=n+1+1) B (id:=n+1) a6 a6;have g:=T.B4 H1 (n+1) B;have d:T.get (T.set H1 (n+1) B) n=_:=(T.Ac _ _ a6).trans d;generalize T.set H1 (n+1) B=H2 at i d g⊢;subst hB;have D:=APA (G:=G) g;have E:lenV (.sl (n+1) 0 5 5 1)=some (iN 5):=rfl;simp only[go_sem,Nat.reduceAdd,E];exact AGv (xs:=cnts p) (h.kp i) a6 d D (by show 5<big;decide) λH' n' f=>w _ _ (i.trans f)
def AIC:aAw:=[0,110,0,108,108,0,0,0,0,0,0,0,0,0,0,0,102,102,99,116,116,116,0,99,99,109,109,106,106,0,0,0,98]
def dZ(G:AQ):Prop:=∀c,c<33->G 0 (c*2+1) 1=some [V.int .i32 (.ofNat (AIC.getD c 0)) 0]
def known(c:Int):Bool:=decide (1<=c)&&decide (c<=32)
def Vb(c:Int):Nat:=bif known c then AIC.getD c.toNat 0 else 0
abbrev AQs(q:IntKind)(a b:Int):B2.ev .geq (.int q a 0) (.int q b 0)=some (.bool (decide (b<=a))):=by show Az (band (keq q q) true) (R9 (dh b a))=_;rw[NA,iI,show band (keq q q) true=true by simp[Hm]];rfl
abbrev ANj(q:IntKind)(a b:Int):B2.ev .gtr (.int q a 0) (.int q b 0)=some (.bool (decide (b<a))):=by show Az (band (keq q q) true) (R9 (UG b a))=_;rw[NA,Sm,show band (keq q q) true=true by simp[Hm]];rfl
abbrev ACn(q:IntKind)(a b:Int):B2.ev .lss (.int q a 0) (.int q b 0)=some (.bool (decide (a<b))):=by show Az (band (keq q q) true) (R9 (UG a b))=_;rw[NA,Sm,show band (keq q q) true=true by simp[Hm]];rfl
abbrev AIA{c:Int}(d:k (.bool (known c)) H n):Runs F G T2 [.int .i64 c 0] H n k:=by
 refine go1 (tW Ae G) ?_;delta dF;unfold known at d;simp only[go_sem,AQs,ALt];rw[show decide (Int.ofNat 1<=c)=decide (1<=c)from rfl];cases h:decide (1<=c)with
 |false=>rw[h]at d;simp only[go_sem];exact d
 |true=>rw[h]at d;simp only[go_sem,ALt];exact d
abbrev AHI(g:dZ G){c:Int}(d:k (.int .i32 (.ofNat (Vb c)) 0) H n):Runs F G fy [.int .i64 c 0] H n k:=by
 refine go1 (wU Ae G) ?_;delta ic;refine AIA ?_;unfold Vb at d;cases h:known c with
 |false=>rw[h]at d;simp only[Bw,l_,go_sem];exact d
 |true=>
  rw[h]at d;simp only[Bw,k_,go_sem];obtain⟨m,rfl⟩:∃m:Nat,c=.ofNat m:=⟨c.toNat,by simp[known]at h;show c=((c.toNat:Nat):Int);omega⟩;have f:m<33:=by simp[known]at h;omega
  have i:AI3 33 2 (.gptr 0 0) (iN m)=some (.gptr 0 (m*2)):=by show Az (Nat.blt m 33) (AG (Nat.mul m 2) (.gptr 0 0))=_;rw[show Nat.blt m 33=true by rw[xi];exact f,show Az true (AG (Nat.mul m 2) (.gptr 0 0))=AG (Nat.mul m 2) (.gptr 0 0)from rfl,AB5,t_];rfl
  have p:AM (.gptr 0 (m*2+1)) G H=some (.int .i32 (.ofNat (AIC.getD m 0)) 0):=OE (g m f);simp only[go_sem,i,p];exact d
structure Ins where
 code:Int
 arg:Int
def Ins.cells(i:Ins):LV:=[.int .i64 i.code 0,.int .i64 i.arg 0]
structure Bd where
 locals:Int
 stack:Int
 code:List Ins
def AHY(G:AQ)(H0:Heap)(n0:Nat)(v:V)(g:Nat->Int):Prop:=
 ∃f a c,v=.fn f a c/\∀(q:Nat) {H:Heap} {n:Nat} {k:KV},Kp H0 n0 H n->k (.int .i64 (g q) 0) H n->Runs F G f (cat a (cat [.int .i32 (.ofNat q) 0] c)) H n k
def Nz(g:Nat->Int)(i:Ins):Bool:=
 known i.code&&bif decide (Vb i.code=0)then decide (i.arg=0)else(decide (0<=i.arg)&&decide (i.arg<g (Vb i.code)))
abbrev sr(q:IntKind)(a:Int):Ak (.int q a 0) (.int q a 0)=true:=by show Eh (.int q a 0) (.int q a 0)=true;simp[Eh,ABG,A6,Hm,PD,V.el]
abbrev ASq(q:IntKind)(a:Int)(P:Prop):qf (.bool true) true (some (.int q a 0)) (.int q a 0) P=P:=by show B7 (Ak (.int q a 0) (.int q a 0)) P=P;rw[sr];rfl
abbrev u0(x y:Nat):BM (.one .int) false (.int .i32 (.ofNat x) 0) (.int .i32 (.ofNat y) 0)=some (.bool (decide (x=y))):=by show Ux (K8 (some (ieq (.ofNat x) (.ofNat y))) λb=>some b)=_;rw[PD,show(Int.ofNat x==Int.ofNat y)=decide (x=y)by rw[zc];simp;omega];cases decide (x=y)<;>rfl
abbrev AXp(x:Int):BM (.one .int) false (.int .i64 x 0) (iN 0)=some (.bool (decide (x=0))):=by rw[eq_i,show(x==Int.ofNat 0)=decide (x=0)by rw[zc];simp]
abbrev ACc(x:dZ G){i:Ins}{v:V}{g:Nat->Int}(y:AHY G H n v g)
 (d:∀H' n',Kp H n H' n'->k (.bool (Nz g i)) H' n'):Runs F G aC [.agg i.cells,v] H n k:=by
 refine go2 (pL Ae G) ?_;delta aA;unfold Nz at d;unfold Ins.cells;have m:Kp H n (T.set H n (one [V.int .i64 i.code 0,.int .i64 i.arg 0])) (n+1):=(Kp.refl H n).new _ o_ a6;have q:=T.B4 H n (one [V.int .i64 i.code 0,.int .i64 i.arg 0]);simp only[go_sem];generalize T.set H n (one [V.int .i64 i.code 0,.int .i64 i.arg 0])=H1 at m q⊢;have A:AM (.ptr n 0) G H1=some (.int .i64 i.code 0):=AK q rfl;have p:AM (.ptr n 1) G H1=some (.int .i64 i.arg 0):=AK q rfl;refine AIA ?_;simp only[Bw];cases h:known i.code with
 |false=>
  rw[h]at d;simp only[l_,go_sem];exact d _ _ m
 |true=>
  rw[h]at d;simp only[k_,go_sem,Nat.reduceAdd,A];refine AHI x ?_;simp only[go_sem,u0];cases u:decide (Vb i.code=0)with
  |true=>
   rw[u]at d;simp only[go_sem,Nat.reduceAdd,p,AXp];exact d _ _ m
  |false=>
   rw[u]at d;simp only[go_sem,Nat.reduceAdd,p,AQs];rw[show decide (Int.ofNat 0<=i.arg)=decide (0<=i.arg)from rfl];cases w:decide (0<=i.arg)with
   |false=>
    rw[w]at d;simp only[go_sem];exact d _ _ m
   |true=>
    rw[w]at d;obtain⟨f,a,c,rfl,B⟩:=y;simp only[go_sem,Nat.reduceAdd,p];show Runs F G f (cat a (cat [_] c)) H1 (n+1) _;refine B _ m ?_;simp only[go_sem,p,ASq,ACn];exact d _ _ m
structure Fl where
 face:Fc
 pool:Pool
 bodies:List Bd
abbrev kE:=List Fl
def UM(p:Pool)(b:Bd)(q:Nat):Int:=
 bif decide (q=110)then p.nums.length else bif decide (q=99)then p.names.length else bif decide (q=116)then p.types.length else bif decide (q=102)then p.fields.length else
 bif decide (q=109)then p.BS.length else bif decide (q=108)then b.locals else bif decide (q=106)then b.code.length else 2
variable{c0:V}{vb:V}{vc:V}{j:Nat}
abbrev AO1{b:Bd}{D E I:V}{ws:aAo}(hi:i<n)(J:j<n)(h:Kr G H n p v0 v1 v2 v3 v4 ws)
 (K:El G H vc 2 (b.code.map Ins.cells))
 (m:T.get H i=some (one [c0,D,E,I,v0,v1,v2,v3,v4,vb])) (u:T.get H j=some (one [V.int .i64 b.locals 0,.int .i64 b.stack 0,vc])):
 AHY G H n (.fn N6 [] [.ptr i 0,.ptr j 0]) (UM p b):=by
 refine⟨_,_,_,rfl,λq {g L k} f d=>?_⟩;have m:T.get g i=_:=(f.same i hi).trans m;have u:T.get g j=_:=(f.same j J).trans u;show Runs F G N6 [.int .i32 (.ofNat q) 0,.ptr i 0,.ptr j 0] g L k;refine xN (gC Ae G) ?_;delta UV;have M:lenV v0=some (iN p.nums.length):=by rw[h.e0.len,uc]
 have N:lenV v1=some (iN p.names.length):=by rw[h.e1.len,Mo]
 have O:lenV v3=some (iN p.fields.length):=by rw[h.e3.len,uc]
 have P:lenV v4=some (iN p.BS.length):=by rw[h.e4.len,_x,h.AEJ,_4]
 have Q:lenV vc=some (iN b.code.length):=by rw[K.len,uc]
 have R:AM (.ptr i 4) G g=some v0:=AK m rfl;have S:AM (.ptr i 5) G g=some v1:=AK m rfl;have U:AM (.ptr i 6) G g=some v2:=AK m rfl;have W:AM (.ptr i 7) G g=some v3:=AK m rfl;have X:AM (.ptr i 8) G g=some v4:=AK m rfl;have Y:AM (.ptr j 0) G g=some (.int .i64 b.locals 0):=AK u rfl;have Z:AM (.ptr j 2) G g=some vc:=AK u rfl;unfold UM at d;simp only[go_sem,u0];cases v:decide (q=110)with
 |true=>rw[v]at d;simp only[go_sem,Nat.reduceAdd,R,M];exact d
 |false=>
  rw[v]at d;simp only[go_sem,u0];cases w:decide (q=99)with
  |true=>rw[w]at d;simp only[go_sem,Nat.reduceAdd,S,N];exact d
  |false=>
   rw[w]at d;simp only[go_sem,u0];cases x:decide (q=116)with
   |true=>rw[x]at d;simp only[go_sem,Nat.reduceAdd,U,h.t2.len];exact d
   |false=>
    rw[x]at d;simp only[go_sem,u0];cases y:decide (q=102)with
    |true=>rw[y]at d;simp only[go_sem,Nat.reduceAdd,W,O];exact d
    |false=>
     rw[y]at d;simp only[go_sem,u0];cases A:decide (q=109)with
     |true=>rw[A]at d;simp only[go_sem,Nat.reduceAdd,X,P];exact d
     |false=>
      rw[A]at d;simp only[go_sem,u0];cases B:decide (q=108)with
      |true=>rw[B]at d;simp only[go_sem,Nat.reduceAdd,Y];exact d
      |false=>
       rw[B]at d;simp only[go_sem,u0];cases C:decide (q=106)with
       |true=>rw[C]at d;simp only[go_sem,Nat.reduceAdd,Z,Q];exact d
       |false=>rw[C]at d;simp only[go_sem];exact d
abbrev AHZ{b:Bd}{f g i:V}{ws:aAo}(h:Kr G H n p v0 v1 v2 v3 v4 ws)
 (q:El G H vc 2 (b.code.map Ins.cells)) (u:Lo vc n)
 (w:∀H' n' v,Kp H n H' n'->AHY G H' n' v (UM p b)->k v H' n'):
 Runs F G YC [.agg [c0,f,g,i,v0,v1,v2,v3,v4,vb],.agg [V.int .i64 b.locals 0,.int .i64 b.stack 0,vc]] H n k:=by refine go2 (oo Ae G) ?_;delta XV;simp only[go_sem];have d:=((Kp.refl H n).new (m:=n+1) (id:=n) (one [c0,f,g,i,v0,v1,v2,v3,v4,vb]) o_ a6).new (m:=n+1+1) (id:=n+1) (one [V.int .i64 b.locals 0,.int .i64 b.stack 0,vc]) a6 a6;exact w _ _ _ d (AO1 a6 a6 (h.kp d) (q.kp u d) (by rw[T.Ac _ _ a6,T.B4]) (T.B4 ..))
def Bd.cells(b:Bd)(w:V):LV:=[.int .i64 b.locals 0,.int .i64 b.stack 0,w]
structure Yr(G:AQ)(H:Heap)(n:Nat)(v:V)(is:List Ins):Prop where
 el:El G H v 2 (is.map Ins.cells)
 lo:Lo v n
 lt:is.length<big
abbrev Yr.kp{v:V}{is:List Ins}(h:Yr G H n v is)(f:Kp H n H' n'):Yr G H' n' v is:=⟨h.el.kp h.lo f,h.lo.mono f.le,h.lt⟩
structure OY(G:AQ)(H:Heap)(n:Nat)(v:V)(bs:List Bd)(ws:List V):Prop where
 el:El G H v 3 (List.zipWith Bd.cells bs ws)
 lo:Lo v n
 lt:bs.length<big
 len:ws.length=bs.length
 at':∀(i:Nat) (b:Bd) (w:V),bs[i]? =some b->ws[i]? =some w->Yr G H n w b.code
variable{bs:List Bd}
abbrev OY.kp{v:V}{ws:aAo}(h:OY G H n v bs ws)(f:Kp H n H' n'):OY G H' n' v bs ws:=
 ⟨h.el.kp h.lo f,h.lo.mono f.le,h.lt,h.len,λi b w x y=>(h.at' i b w x y).kp f⟩
abbrev AKH(i:Ins):Ak (.agg i.cells) (.agg i.cells)=true:=by show oY [V.int .i64 i.code 0,.int .i64 i.arg 0] [V.int .i64 i.code 0,.int .i64 i.arg 0]=true;show band (Eh _ _) (band (Eh _ _) true)=true;simp[Eh,ABG,A6,Hm,PD,V.el]
variable{S:V}
abbrev AGm(hG:dZ G){b:Bd}{Q R x y A:V}{ws:aAo}{w:(V×V×V×V×Heap×Nat)->Prop}
 (hi:i<n) (hj:j<n) (h:Kr G H n p v0 v1 v2 v3 v4 ws) (K:Yr G H n vc b.code)
 (gi:T.get H i=some (one [c0,Q,R,S,v0,v1,v2,v3,v4,vb])) (gj:T.get H j=some (one (b.cells vc)))
 (d:b.code.all (Nz (UM p b))=false->∀H' n',Kp H n H' n'->k (.bool false) H' n')
 (g:b.code.all (Nz (UM p b))=true->∀H' n',Kp H n H' n'->DW lfp G (Runs F G) k w (.ptr i 0) x y A H' n'):
 lfp (V×V×V×V×V×V×V×V×Heap×Nat) (Jm lfp G (Runs F G) k w) (.ptr i 0,.ptr j 0,x,y,A,vc,iN b.code.length,iN 0,H,n):=by
 refine ET (J:=λm st=>∃e C u,m=b.code.length-e/\e<=b.code.length/\st=(.ptr i 0,.ptr j 0,x,y,A,vc,iN b.code.length,iN e,C,u)/\Kp H n C u/\
  ((b.code.drop e).all (Nz (UM p b))=false->∀H' n',Kp H n H' n'->k (.bool false) H' n')/\
  ((b.code.drop e).all (Nz (UM p b))=true->∀H' n',Kp H n H' n'->DW lfp G (Runs F G) k w (.ptr i 0) x y A H' n')) ?_ (m:=b.code.length) ⟨0,H,n,rfl,j_ _,rfl,Kp.refl _ _,d,g⟩
 rintro I m st ⟨e,C,u,rfl,he,rfl,f,d,g⟩ ih;show KJ lfp G (Runs F G) k w I (.ptr i 0) (.ptr j 0) x y A vc (iN b.code.length) (iN e) C u;delta KJ;by_cases B:e<b.code.length
 .have L:=K.kp f;have⟨q,hp,D⟩:=L.el.at (i:=e) (c:=b.code[e].cells) (by simp[B]);have E:=K.lt;rw[uv B,_9]at d g;generalize b.code[e]=s at D d g;have U:=AKH s;unfold Ins.cells at D U;simp only[go_sem,Nat.reduceAdd,Bf,B,_b,hp,BZ D];have W:Kp C u (T.set (T.set C u (one [iN 0,iN 0])) u (one [.int .i64 s.code 0,.int .i64 s.arg 0])) (u+1):=
   ((Kp.refl _ _).new (m:=u+1) _ o_ a6).new _ o_ o_
  have M:=T.B4 (T.set C u (one [iN 0,iN 0])) u (one [V.int .i64 s.code 0,.int .i64 s.arg 0]);generalize T.set (T.set C u (one [iN 0,iN 0])) u (one [V.int .i64 s.code 0,.int .i64 s.arg 0])=H3 at W M⊢;have f3:=f.trans W;have N:T.get H3 i=_:=(f3.same i hi).trans gi;have O:T.get H3 j=_:=(f3.same j hj).trans gj;have e1:AX 2 (.ptr u 0) G H3=some (.agg [.int .i64 s.code 0,.int .i64 s.arg 0]):=As M a6 rfl;have e2:AX 10 (.ptr i 0) G H3=some (.agg [c0,Q,R,S,v0,v1,v2,v3,v4,vb]):=As N a6 rfl;have e3:AX 3 (.ptr j 0) G H3=some (.agg (b.cells vc)):=As O a6 rfl;simp only[go_sem,Nat.reduceAdd,e1,e2,e3];refine AHZ (h.kp f3) (K.kp f3).el (K.kp f3).lo λX n4 v Y hv=>?_;have P:T.get X u=_:=(Y.same u a6).trans M;have e4:AX 2 (.ptr u 0) G X=some (.agg [.int .i64 s.code 0,.int .i64 s.arg 0]):=As P a6 rfl;simp only[go_sem,e4,U];refine ACc (i:=s) hG hv λH5 n5 f5=>?_;have Z:=f3.trans (Y.trans f5);simp only[Bw,go_sem];cases h2:Nz (UM p b) s with
  |false=>
   rw[h2]at d;simp only[l_,go_sem];exact d rfl _ _ Z
  |true=>
   rw[h2]at d g;simp only[k_,go_sem,CA (show e+1<9223372036854775808 by unfold big at E;omega)];exact ih _ _ a6 ⟨e+1,_,_,rfl,B,rfl,Z,d,g⟩
 .simp only[go_sem,Bf,B,v_];rw[sw a6]at g;exact g rfl _ _ f
def least(m:Bk):Nat:=bif m.st then m.ps.length else m.ps.length+1
def cj(p:Pool)(m:Bk)(b:Bd):Bool:=
 !decide (b.locals<least m)&&(!decide ((401:Int)<b.locals)&&(!decide (b.stack<0)&&(!decide ((1000:Int)<b.stack)&&(!decide (b.code.length<1)&&(!decide (16384<b.code.length)&&b.code.all (Nz (UM p b)))))))
def Ob(p:Pool):aAF->List Bd->Bool
 |m::ms,b::bs=>cj p m b&&Ob p ms bs
 |_,_=>true
abbrev AG3(M:dZ G){m:Bk}{b:Bd}{N P q u v:V}{ws:aAo}{g:(V×V×V×V×Heap×Nat)->Prop}
 (hi:i<n) (Q:j<n) (h:Kr G H n p v0 v1 v2 v3 v4 ws) (A:Yr G H n vc b.code)
 (R:T.get H i=some (one [c0,N,O,P,v0,v1,v2,v3,v4,vb])) (w:T.get H j=some (one (b.cells vc)))
 (d:cj p m b=false->∀H' n',Kp H n H' n'->k (.bool false) H' n')
 (f:cj p m b=true->∀H' n',Kp H n H' n'->DW lfp G (Runs F G) k g (.ptr i 0) q u v H' n'):
 DZ lfp G (Runs F G) k g (.ptr i 0) (.ptr j 0) (iN (least m)) q u v H n:=by
 delta DZ;unfold cj at d f;unfold Bd.cells at w;have B:AM (.ptr j 0) G H=some (.int .i64 b.locals 0):=AK w rfl;have C:AM (.ptr j 1) G H=some (.int .i64 b.stack 0):=AK w rfl;have x:AM (.ptr j 2) G H=some vc:=AK w rfl;have y:lenV vc=some (iN b.code.length):=by rw[A.el.len,uc]
 simp only[go_sem,Nat.reduceAdd,B,ACn];rw[show decide (b.locals<Int.ofNat (least m))=decide (b.locals<least m)from rfl];cases D:decide (b.locals<least m)with
 |true=>rw[D]at d;simp only[go_sem];exact d rfl _ _ (Kp.refl _ _)
 |false=>
  rw[D]at d f;simp only[go_sem,Nat.reduceAdd,B,ANj];rw[show decide (Int.ofNat 401<b.locals)=decide ((401:Int)<b.locals)from rfl];cases E:decide ((401:Int)<b.locals)with
  |true=>rw[E]at d;simp only[go_sem];exact d rfl _ _ (Kp.refl _ _)
  |false=>
   rw[E]at d f;simp only[go_sem,Nat.reduceAdd,C,ACn];rw[show decide (b.stack<Int.ofNat 0)=decide (b.stack<0)from rfl];cases I:decide (b.stack<0)with
   |true=>rw[I]at d;simp only[go_sem];exact d rfl _ _ (Kp.refl _ _)
   |false=>
    rw[I]at d f;simp only[go_sem,Nat.reduceAdd,C,ANj];rw[show decide (Int.ofNat 1000<b.stack)=decide ((1000:Int)<b.stack)from rfl];cases J:decide ((1000:Int)<b.stack)with
    |true=>rw[J]at d;simp only[go_sem];exact d rfl _ _ (Kp.refl _ _)
    |false=>
     rw[J]at d f;simp only[go_sem,Nat.reduceAdd,x,y,Bf];cases K:decide (b.code.length<1)with
     |true=>rw[K]at d;simp only[go_sem];exact d rfl _ _ (Kp.refl _ _)
     |false=>
      rw[K]at d f;simp only[go_sem,Nat.reduceAdd,x,y,V5];cases L:decide (16384<b.code.length)with
      |true=>rw[L]at d;simp only[go_sem];exact d rfl _ _ (Kp.refl _ _)
      |false=>
       rw[L]at d f;simp only[go_sem,Nat.reduceAdd,x,y];exact AGm M hi Q h A R w d f
abbrev ADG(hG:dZ G){c:Fc}{vf:V}{U ws C:aAo}
 (hi:i<n) (hm:IW G H n S c.ms U) (h:Kr G H n p v0 v1 v2 v3 v4 ws) (W:OY G H n vb bs C) (d3:bs.length=c.ms.length) (ag:∀m∈c.ms,m.ps.length<=200)
 (gi:T.get H i=some (one [c.nm.v,c.sup.v,vf,S,v0,v1,v2,v3,v4,vb]))
 (x:∀H' n',Kp H n H' n'->k (.bool (Ob p c.ms bs)) H' n'):
 lfp (V×V×V×V×Heap×Nat) (JN lfp G (Runs F G) k) (.ptr i 0,vb,iN bs.length,iN 0,H,n):=by
 refine ET (J:=λm st=>∃e E d,m=bs.length-e/\e<=bs.length/\st=(.ptr i 0,vb,iN bs.length,iN e,E,d)/\Kp H n E d/\
  (∀H' n',Kp H n H' n'->k (.bool (Ob p (c.ms.drop e) (bs.drop e))) H' n')) ?_ (m:=bs.length) ⟨0,H,n,rfl,j_ _,rfl,Kp.refl _ _,x⟩
 rintro I m st ⟨e,E,d,rfl,he,rfl,f,x⟩ ih;show KG lfp G (Runs F G) k I (.ptr i 0) vb (iN bs.length) (iN e) E d;delta KG;by_cases g:e<bs.length
 .have y:e<c.ms.length:=a6;have hw:e<C.length:=by rw[W.len];exact g
  have K:=W.kp f;have⟨q,hp,D⟩:=K.el.at (i:=e) (c:=bs[e].cells C[e]) (by rw[_U];simp[g,hw]);have u:=K.at' e _ _ (eb g) (eb hw);have L:=W.lt;rw[uv g,uv y]at x;unfold Ob at x;generalize bs[e]=b at D u x;generalize C[e]=w at D u;unfold Bd.cells at D;simp only[go_sem,Nat.reduceAdd,Bf,g,_b,hp,BZ D];have X:Kp E d (T.set (T.set E d (one [iN 0,iN 0,.AT])) d (one [.int .i64 b.locals 0,.int .i64 b.stack 0,w])) (d+1):=
   ((Kp.refl _ _).new (m:=d+1) _ o_ a6).new _ o_ o_
  have gj:=T.B4 (T.set E d (one [iN 0,iN 0,.AT])) d (one [V.int .i64 b.locals 0,.int .i64 b.stack 0,w]);generalize T.set (T.set E d (one [iN 0,iN 0,.AT])) d (one [V.int .i64 b.locals 0,.int .i64 b.stack 0,w])=H3 at X gj⊢;have f3:=f.trans X;have Y:T.get H3 i=_:=(f3.same i hi).trans gi;have⟨q2,w2,Z,A,M⟩:=(hm.kp f3).at y;have N:=ag _ (f_ y);generalize c.ms[e]=mt at A M x N;unfold Bk.cells at A;have e3:AM (.ptr i 3) G H3=some S:=AK Y rfl;simp only[go_sem,Nat.reduceAdd,e3,Z,BZ A,M.len];have Q:Kp H3 (d+1) (T.set (T.set H3 (d+1) (one [.str 0 0,.bool false,.AT,.str 0 0,.bool false])) (d+1) (one [mt.nm.v,.bool mt.st,w2,mt.ret.nm.v,.bool mt.ret.arr])) (d+1+1):=
   ((Kp.refl _ _).new (m:=d+1+1) _ o_ a6).new _ o_ o_
  generalize T.set (T.set H3 (d+1) (one [.str 0 0,.bool false,.AT,.str 0 0,.bool false])) (d+1) (one [mt.nm.v,.bool mt.st,w2,mt.ret.nm.v,.bool mt.ret.arr])=H4 at Q⊢;have R:=f3.trans Q;have d0:T.get H4 i=_:=(R.same i hi).trans gi;have d1:T.get H4 d=_:=(Q.same d a6).trans gj;have B:DZ lfp G (Runs F G) k I (.ptr i 0) (.ptr d 0) (iN (least mt)) vb (iN bs.length) (iN e) H4 (d+1+1):=by
   refine AG3 hG (p:=p) (m:=mt) (b:=b) (hN f.le) a6 (h.kp R) (u.kp (X.trans Q)) d0 d1 ?_ ?_
   .intro O H' n' f';rw[O]at x;exact x _ _ (R.trans f')
   .intro d2 H' n' f';rw[d2]at x;delta DW;simp only[go_sem,CA (show e+1<9223372036854775808 by unfold big at L;omega)];exact ih _ _ a6 ⟨e+1,_,_,rfl,g,rfl,R.trans f',x⟩
  simp only[Bw];unfold least at B;cases P:mt.st with
  |true=>rw[P]at B;simp only[k_,go_sem];exact B
  |false=>rw[P]at B;simp only[l_,go_sem,CA (show mt.ps.length+1<9223372036854775808 by omega)];exact B
 .simp only[go_sem,Bf,g,v_];delta KU;rw[sw a6,sw a6]at x;exact x _ _ f
abbrev vU:∀{a:St} {ms:aAF},Oo a ms=true->∀m∈ms,m.ps.length<=200
 |_,[],_=>λm f=>by cases f
 |a,m::ms,h=>by
  simp[Oo]at h;intro g d;rcases qk.1 d with rfl|d
  .omega
  .exact vU h.2.2.2.2.2 g d
abbrev AHn{c:Fc}(h:NO c=true):∀m∈c.ms,m.ps.length<=200:=by simp[NO]at h;exact vU h.2.2.2.2.2.2.2
structure tg(G:AQ)(H:Heap)(n:Nat)(L:LV)(f:Fl)(vf vm v0 v1 v2 v3 v4 vb:V)(mws ws bws:List V):Prop where
 is:L=[f.face.nm.v,f.face.sup.v,vf,vm,v0,v1,v2,v3,v4,vb]
 face:Vk G H n [f.face.nm.v,f.face.sup.v,vf,vm] f.face vf vm mws
 pool:Kr G H n f.pool v0 v1 v2 v3 v4 ws
 bodies:OY G H n vb f.bodies bws
def bq(f:Fl):Bool:=NO f.face&&(sS f.pool&&(decide (f.bodies.length=f.face.ms.length)&&Ob f.pool f.face.ms f.bodies))
abbrev AFj(O:dZ G){f:Fl}{p i:V}{u ws w:aAo}(h:tg G H n L f p i v0 v1 v2 v3 v4 vb u ws w)
 (d:∀H' n',Kp H n H' n'->k (.bool (bq f)) H' n'):Runs F G V8 [.agg L] H n k:=by
 refine go1 (kP Ae G) ?_;obtain⟨rfl,x,I,y⟩:=h;delta VS;unfold bq at d;simp only[go_sem];have A:Kp H n (T.set H n (one [f.face.nm.v,f.face.sup.v,p,i,v0,v1,v2,v3,v4,vb])) (n+1):=(Kp.refl H n).new _ o_ a6;have g:=T.B4 H n (one [f.face.nm.v,f.face.sup.v,p,i,v0,v1,v2,v3,v4,vb]);generalize T.set H n (one [f.face.nm.v,f.face.sup.v,p,i,v0,v1,v2,v3,v4,vb])=H1 at A g⊢;have P:AX 4 (.ptr n 0) G H1=some (.agg [f.face.nm.v,f.face.sup.v,p,i]):=BV g a6 (by show 4<=10;omega);simp only[go_sem,P];refine vA (x.kp A) λJ W q=>?_;have g:T.get J n=_:=(q.same n a6).trans g;have f3:=A.trans q;simp only[Bw];cases B:NO f.face with
 |false=>rw[B]at d;simp only[l_,go_sem];exact d _ _ f3
 |true=>
  rw[B]at d;have Q:AX 5 (.ptr n 4) G J=some (.agg [v0,v1,v2,v3,v4]):=BV g a6 (by show 9<=10;omega);simp only[k_,go_sem,Nat.reduceAdd,Q];refine AET (I.kp f3) λC X D=>?_;have g:T.get C n=_:=(D.same n (hN q.le)).trans g;have m:=f3.trans D;simp only[Bw,go_sem];cases K:sS f.pool with
  |false=>rw[K]at d;simp only[l_,go_sem];exact d _ _ m
  |true=>
   rw[K]at d;have M:AM (.ptr n 9) G C=some vb:=AK g rfl;have R:AM (.ptr n 3) G C=some i:=AK g rfl;have N:lenV vb=some (iN f.bodies.length):=by rw[y.el.len,_x,y.len,_4]
   have S:lenV i=some (iN f.face.ms.length):=x.ms.len';simp only[k_,go_sem,Nat.reduceAdd,M,R,N,S,AUx];cases E:decide (f.bodies.length=f.face.ms.length)with
   |false=>rw[E]at d;simp only[l_,go_sem];exact d _ _ m
   |true=>
    rw[E]at d;simp only[k_,go_sem,Nat.reduceAdd,M,N];exact ADG O (c:=f.face) (tw q.le D.le) (x.ms.kp m) (I.kp m) (y.kp m) (kh E) (AHn B) g λH' n' U=>d _ _ (m.trans U)
end Go.RL
