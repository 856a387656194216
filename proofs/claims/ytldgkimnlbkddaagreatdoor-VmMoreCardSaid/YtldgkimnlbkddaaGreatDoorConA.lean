/- Part of a proof; nothing is assumed. -/
import Derived.Test.YtldgkimnlbkddaaGreatDoorPlainR
import Derived.Test.YtldgkimnlbkddaaGreatDoorWalk
set_option linter.unusedVariables false
set_option linter.unusedSimpArgs false
noncomputable section
namespace Go.RL
open Go.Bf
set_option maxRecDepth 100000
theorem BZ(b:Bool):FK (.bool b)=some (.bool (!b)):=Afc b
def upper(l c:Nat):Bool:=decide (0<l)&&(decide (65<=c%256)&&decide (c%256<=90))
def isClass(l c:Nat)(arr:Bool):Bool:= !arr&&upper l c
theorem AFA{G:AY}{l c:Nat}{H:Heap}{n:Nat}{k:KV}(d:∀H' n',Kp H n H' n'->k (.agg [.str l c,.bool false]) H' n'):Runs F G Kr [.str l c] H n k:=by
 refine go1 (AVJ BF G) ?_
 delta ARR
 simp only[go_sem,Nat.reduceAdd,show BH [.str 0 0,.bool false] [(0,1,.c (.str l c))]=some (.agg [.str l c,.bool false])from rfl]
 exact d _ _ (((Kp.refl H n).new (m:=n+1) _ (Nat.le_refl _) (by omega)).new _ (Nat.le_refl _) (Nat.le_refl _))
theorem AaD(a b l c:Nat):CU (.one .str) true (.str a b) (.str l c)=some (.bool (!decide (a=l/\b=c))):=by
 show ofB (Ld (some (band (Nat.beq a l) (Nat.beq b c))) λb=>some (Qq b))=_
 have:band (Nat.beq a l) (Nat.beq b c)=decide (a=l/\b=c):=by rw[BK,Bool.eq_iff_iff];simp
 rw[this];cases decide (a=l/\b=c)<;>rfl
theorem Ae8{l c:Nat}(h:0<l):AX1 (.str l c) (.int .i64 (.ofNat 0) 0)=some (.int .u8 (.ofNat (c%256)) 0):=by
 show BI (Nat.blt 0 l) (Dx (AYf c 0) λb=>some (.int .u8 (.ofNat b) 0))=_
 have:Nat.blt 0 l=true:=by rw[Nat.blt_eq];exact h
 rw[this,Bv]
 show some (V.int .u8 (.ofNat (c/1%256)) 0)=_
 rw[Nat.div_one]
theorem AfW(q:IntKind)(a b:Nat):B2.ev .geq (.int q (.ofNat a) 0) (.int q (.ofNat b) 0)=some (.bool (decide (b<=a))):=by
 show BI (band (keq q q) true) (mkB (ile (.ofNat b) (.ofNat a)))=_
 rw[TR,AD8,show band (keq q q) true=true by simp[OJ],show decide (Int.ofNat b<=Int.ofNat a)=decide (b<=a)by rw[decide_eq_decide];show(b:Int)<=a↔_;omega];rfl
theorem ATl(q:IntKind)(a b:Nat):B2.ev .leq (.int q (.ofNat a) 0) (.int q (.ofNat b) 0)=some (.bool (decide (a<=b))):=by
 show BI (band (keq q q) true) (mkB (ile (.ofNat a) (.ofNat b)))=_
 rw[TR,AD8,show band (keq q q) true=true by simp[OJ],show decide (Int.ofNat a<=Int.ofNat b)=decide (a<=b)by rw[decide_eq_decide];show(a:Int)<=b↔_;omega];rfl
theorem AA6{G:AY}{l c:Nat}{arr:Bool}(m:l=0->c=0){H:Heap}{n:Nat}{k:KV}(d:∀H' n',Kp H n H' n'->k (.bool (isClass l c arr)) H' n'):Runs F G CX [.agg [.str l c,.bool arr]] H n k:=by
 refine go1 (AFG BF G) ?_
 delta qB
 simp only[go_sem,Nat.reduceAdd,BZ]
 cases arr with
 |true=>
  simp only[go_sem,Nat.reduceAdd,Bool.not_true]
  exact d _ _ ((Kp.refl H n).new _ (Nat.le_refl _) (by omega))
 |false=>
  simp only[go_sem,Nat.reduceAdd,Bool.not_false,AaD]
  by_cases g:l=0/\c=0
  ·simp only[g,and_self,decide_true,Bool.not_true,go_sem]
   have:isClass l c false=false:=by simp[isClass,upper,g]
   rw[this]at d
   exact d _ _ ((Kp.refl H n).new _ (Nat.le_refl _) (by omega))
  ·have f:0<l:=by rcases Nat.eq_zero_or_pos l with h|h;exact absurd ⟨h,m h⟩ g;exact h
   simp only[g,decide_false,Bool.not_false,go_sem,Ae8 f,AfW,ATl]
   have e:isClass l c false=(decide (65<=c%256)&&decide (c%256<=90)):=by simp[isClass,upper,f]
   rw[e]at d
   cases i:decide (65<=c%256)with
   |false=>
    simp only[go_sem]
    rw[i]at d
    exact d _ _ ((Kp.refl H n).new _ (Nat.le_refl _) (by omega))
   |true=>
    simp only[go_sem,Ae8 f,ATl]
    rw[i]at d
    exact d _ _ ((Kp.refl H n).new _ (Nat.le_refl _) (by omega))
theorem Abl(l c:Nat):Qh (.str l c)=some (.int .i64 (.ofNat l) 0):=rfl
def AGW(l c:Nat):Bool:=decide (l=3/\c=7630441)||(decide (l=4/\c=1819242338)||(upper l c&&decide (l<=40)))
theorem AHW{G:AY}{l c:Nat}{arr:Bool}(u:l=0->c=0){H:Heap}{n:Nat}{k:KV}(d:∀H' n',Kp H n H' n'->k (.bool (AGW l c)) H' n'):Runs F G RG [.agg [.str l c,.bool arr]] H n k:=by
 refine go1 (AN7 BF G) ?_
 delta AId
 unfold AGW at d
 have f:Kp H n (T.set H n (one [.str l c,.bool arr])) (n+1):=(Kp.refl H n).new _ (Nat.le_refl _) (by omega)
 simp only[go_sem,AKu]
 cases i:decide (l=3/\c=7630441)with
 |true=>
  simp only[go_sem]
  rw[i]at d
  exact d _ _ f
 |false=>
  rw[i]at d
  simp only[go_sem,AKu]
  cases m:decide (l=4/\c=1819242338)with
  |true=>
   simp only[go_sem]
   rw[m]at d
   exact d _ _ f
  |false=>
   rw[m]at d
   simp only[go_sem]
   refine AFA λy A g=>?_
   refine AA6 u λw B f3=>?_
   have p:=f.trans (g.trans f3)
   have e:isClass l c false=upper l c:=by simp[isClass]
   rw[e]
   cases q:upper l c with
   |false=>
    simp only[go_sem]
    rw[q]at d
    exact d _ _ p
   |true=>
    rw[q]at d
    have x:T.get w n=some (one [.str l c,.bool arr]):=by rw[f3.same n (by have:=g.le;omega),g.same n (by omega),T.Ag]
    simp only[go_sem,AU (off:=0) x (v:=.str l c) rfl,Abl,ATl]
    exact d _ _ p
theorem AOB{G:AY}{l c:Nat}(f:l=0->c=0){H:Heap}{n:Nat}{k:KV}(d:∀H' n',Kp H n H' n'->k (.bool (upper l c&&decide (l<=40))) H' n'):Runs F G YW [.str l c] H n k:=by
 refine go1 (AKm BF G) ?_
 delta ACv
 refine AFA λm p g=>?_
 refine AA6 f λq u f3=>?_
 have e:isClass l c false=upper l c:=by simp[isClass]
 rw[e]
 cases i:upper l c<;>simp only[go_sem,Abl,ATl]<;>rw[i]at d<;>exact d _ _ (g.trans f3)
abbrev St:=Nat×Nat
def St.v(s:St):V:=.str s.1 s.2
def strs(xs:List St):EL:=xs.map λs=>[St.v s]
theorem JH(xs:List St):(strs xs).length=xs.length:=List.length_map ..
theorem Sz{xs:List St}{i:Nat}(h:i<xs.length):(strs xs)[i]? =some [St.v xs[i]]:=by simp[strs,h]
def AM6(s:St):List St->Nat->Int
 |[],_=>.negSucc 0
 |x::xs,i=>bif decide (s.1=x.1/\s.2=x.2)then .ofNat i else AM6 s xs (i+1)
def tN(s:St)(xs:List St):Bool:=xs.any λx=>decide (s.1=x.1/\s.2=x.2)
theorem AQK(s:St):∀(xs:List St) (i:Nat),decide ((0:Int)<=AM6 s xs i)=tN s xs
 |[],_=>rfl
 |x::xs,i=>by
  unfold AM6
  show _=(decide (s.1=x.1/\s.2=x.2)||tN s xs)
  cases h:decide (s.1=x.1/\s.2=x.2)with
  |true=>simp
  |false=>simpa using AQK s xs (i+1)
theorem BR{i m:Nat}:B2.ev .lss (.int .i64 (.ofNat i) 0) (.int .i64 (.ofNat m) 0)=some (.bool (decide (i<m))):=by
 rw[APy];congr 2;rw[decide_eq_decide];show(i:Int)<m↔_;omega
theorem Aaj{G:AY}{v:V}{xs:List St}{s:St}{H:Heap}{n:Nat}{k:KV}(h:El G H v 1 (strs xs))(x:xs.length<9223372036854775808)(f:k (.int .i64 (AM6 s xs 0) 0) H n):
 Runs F G PS [v,s.v] H n k:=by
 refine go2 (Yt BF G) ?_
 delta PO
 rw[h.len,AP,JH]
 refine IY (J:=λm st=>∃i,m=xs.length-i/\i<=xs.length/\st=(v,s.v,.int .i64 (.ofNat xs.length) 0,.int .i64 (.ofNat i) 0,H,n)/\k (.int .i64 (AM6 s (xs.drop i) i) 0) H n) ?_ (m:=xs.length) ⟨0,rfl,Nat.zero_le _,rfl,f⟩
 rintro I m st ⟨i,rfl,y,rfl,f⟩ u
 show G6 lfp G (Runs F G) k I v s.v (.int .i64 (.ofNat xs.length) 0) (.int .i64 (.ofNat i) 0) H n
 delta G6
 by_cases d:i<xs.length
 ·obtain⟨p,w,g⟩:=h.at (Sz d)
  rw[List.drop_eq_getElem_cons d]at f
  unfold AM6 at f
  simp only[go_sem,BR,d,decide_true,w,Jv g,St.v,AKu]
  cases q:decide (s.1=xs[i].1/\s.2=xs[i].2)with
  |true=>simp only[go_sem];rw[q]at f;exact f
  |false=>
   simp only[go_sem,DI (show i+1<9223372036854775808 by omega)]
   rw[q]at f
   exact u _ _ (by omega) ⟨i+1,rfl,d,rfl,f⟩
 ·simp only[go_sem,BR,d,decide_false]
  delta Gy
  rw[List.drop_eq_nil_of_le (by omega)]at f
  exact f
theorem AUF(a:Int):B2.ev .geq (.int .i64 a 0) (.int .i64 (.ofNat 0) 0)=some (.bool (decide (0<=a))):=by
 show BI (band (keq .i64 .i64) true) (mkB (ile (.ofNat 0) a))=_
 rw[TR,AD8];rfl
theorem AEd{G:AY}{v:V}{xs:List St}{s:St}{H:Heap}{n:Nat}{k:KV}(h:El G H v 1 (strs xs))(d:xs.length<9223372036854775808)(f:k (.bool (tN s xs)) H n):
 Runs F G EY [v,s.v] H n k:=by
 refine go2 (XE BF G) ?_
 delta Lj
 refine Aaj h d ?_
 simp only[go_sem,AUF,AQK]
 exact f
structure Ty where
 nm:St
 arr:Bool
def Ty.cells(t:Ty):LV:=[t.nm.v,.bool t.arr]
def Ty.v(t:Ty):V:=.agg t.cells
def Ty.is(a b:Ty):Bool:=decide (a.nm.1=b.nm.1/\a.nm.2=b.nm.2)&&(a.arr==b.arr)
def tys(xs:List Ty):EL:=xs.map Ty.cells
theorem EP(xs:List Ty):(tys xs).length=xs.length:=List.length_map ..
theorem Tj{xs:List Ty}{i:Nat}(h:i<xs.length):(tys xs)[i]? =some xs[i].cells:=by simp[tys,h]
theorem AeS(a b:St):CK.eq .str a.v b.v=some (decide (a.1=b.1/\a.2=b.2)):=by
 show some (band (Nat.beq a.1 b.1) (Nat.beq a.2 b.2))=_
 rw[show band (Nat.beq a.1 b.1) (Nat.beq a.2 b.2)=decide (a.1=b.1/\a.2=b.2)by rw[BK,Bool.eq_iff_iff];simp]
theorem AeX(a b:Bool):CK.eq .bool (.bool a) (.bool b)=some (a==b):=by cases a<;>cases b<;>rfl
theorem AWU(a b:Ty):(EK.agg [.str,.bool]).eq a.v b.v=some (a.is b):=
 show AC8 CK.eq [.str,.bool] a.cells b.cells=_ from VL.2 ⟨_,_,AeS _ _,VL.2 ⟨_,true,AeX _ _,rfl,rfl⟩,by simp[Ty.is]⟩
theorem vH(a b:Ty):CU (.agg [.str,.bool]) false a.v b.v=some (.bool (a.is b)):=by
 show ofB (Ld ((EK.agg [.str,.bool]).eq a.v b.v) λb=>some b)=_
 rw[AWU];cases a.is b<;>rfl
theorem ALZ(a b:Ty):CU (.agg [.str,.bool]) true a.v b.v=some (.bool (!a.is b)):=by
 show ofB (Ld ((EK.agg [.str,.bool]).eq a.v b.v) λb=>some (Qq b))=_
 rw[AWU];cases a.is b<;>rfl
def oW:List Ty->List Ty->Bool
 |[],[]=>true
 |a::l,b::r=>a.is b&&oW l r
 |_,_=>false
theorem AMp:∀{l r:List Ty},oW l r=true->l.length=r.length
 |[],[],_=>rfl
 |a::l,b::r,h=>by simp[oW]at h;simp[AMp h.2]
 |[],_::_,h=>by cases h
 |_::_,[],h=>by cases h
theorem AeP{i m:Nat}:CU (.one .int) true (.int .i64 (.ofNat i) 0) (.int .i64 (.ofNat m) 0)=some (.bool (!decide (i=m))):=by
 rw[AYQ,show(Int.ofNat i==Int.ofNat m)=decide (i=m)by rw[Bool.eq_iff_iff];simp;omega]
theorem AYW{G:AY}{v w:V}{xs ys:List Ty}{H:Heap}{n:Nat}{k:KV}(h:El G H v 2 (tys xs))(A:El G H w 2 (tys ys))(E:xs.length<9223372036854775808)(d:k (.bool (oW xs ys)) H n):
 Runs F G KQ [v,w] H n k:=by
 refine go2 (Vp BF G) ?_
 delta KY
 simp only[go_sem,h.len,A.len,EP,AeP]
 by_cases u:xs.length=ys.length
 ·simp only[u,decide_true,Bool.not_true,go_sem]
  refine IY (J:=λm st=>∃i,m=ys.length-i/\i<=ys.length/\st=(v,w,.int .i64 (.ofNat ys.length) 0,.int .i64 (.ofNat i) 0,H,n)/\k (.bool (oW (xs.drop i) (ys.drop i))) H n) ?_ (m:=ys.length) ⟨0,rfl,Nat.zero_le _,rfl,d⟩
  rintro I m st ⟨i,rfl,K,rfl,d⟩ C
  show FI lfp G (Runs F G) k I v w (.int .i64 (.ofNat ys.length) 0) (.int .i64 (.ofNat i) 0) H n
  delta FI
  by_cases f:i<ys.length
  ·have g:i<xs.length:=by omega
   obtain⟨p,D,x⟩:=h.at (Tj g)
   obtain⟨L,y,q⟩:=A.at (Tj f)
   rw[List.drop_eq_getElem_cons f,List.drop_eq_getElem_cons g]at d
   unfold oW at d
   have e:=ALZ xs[i] ys[i]
   unfold Ty.v at e
   simp only[go_sem,BR,f,decide_true,D,y,Bj x,Bj q,e]
   cases B:xs[i].is ys[i]with
   |false=>rw[B]at d;simp only[Bool.not_false,go_sem];exact d
   |true=>
    simp only[Bool.not_true,go_sem,DI (show i+1<9223372036854775808 by omega)]
    rw[B]at d
    exact C _ _ (by omega) ⟨i+1,rfl,f,rfl,d⟩
  ·simp only[go_sem,BR,f,decide_false]
   delta FQ
   rw[List.drop_eq_nil_of_le (by omega),List.drop_eq_nil_of_le (by omega)]at d
   exact d
 ·have:oW xs ys=false:=by cases h:oW xs ys;rfl;exact absurd (AMp h) u
  rw[this]at d
  simp only[u,decide_false,Bool.not_false,go_sem]
  exact d
def Lo(v:V)(n:Nat):Prop:=∀id,v.XZ=some id->id<n
theorem _root_.Go.Bf.El.kp{G:AY}{H H':Heap}{v:V}{z n n':Nat}{LS:EL}(h:El G H v z LS)(i:Lo v n)(f:Kp H n H' n'):El G H' v z LS:=h.same λg d=>f.same g (i g d)
theorem Lo.mono{v:V}{n n':Nat}(h:Lo v n)(f:n<=n'):Lo v n':=λg d=>Nat.lt_of_lt_of_le (h g d) f
def findF(g:Ty->Bool):List Ty->Nat->Int
 |[],_=>.negSucc 0
 |x::xs,i=>bif g x then .ofNat i else findF g xs (i+1)
theorem APk(g:Ty->Bool):∀(xs:List Ty) (i:Nat),decide ((0:Int)<=findF g xs i)=xs.any g
 |[],_=>rfl
 |x::xs,i=>by
  unfold findF
  show _=(g x||xs.any g)
  cases h:g x with
  |true=>simp
  |false=>simpa using APk g xs (i+1)
theorem AQp{G:AY}{v:V}{xs:List Ty}{p:Nat}{g:Ty->Bool}{H:Heap}{n:Nat}{k:KV}(h:El G H v 2 (tys xs))(y:Lo v n)(K:xs.length<9223372036854775808)
 (C:∀t∈xs,∀{H n} {k:KV},(∀H' n',Kp H n H' n'->k (.bool (g t)) H' n')->Runs F G p [t.v] H n k)
 (u:∀H' n',Kp H n H' n'->k (.int .i64 (findF g xs 0) 0) H' n'):
 Runs F G Ez [v,.fn p [] []] H n k:=by
 refine go2 (Il BF G) ?_
 delta FB
 rw[h.len,AP,EP]
 refine IY (J:=λm st=>∃i w x,m=xs.length-i/\i<=xs.length/\st=(v,.fn p [] [],.int .i64 (.ofNat xs.length) 0,.int .i64 (.ofNat i) 0,w,x)/\Kp H n w x/\(∀H' n',Kp H n H' n'->k (.int .i64 (findF g (xs.drop i) i) 0) H' n')) ?_ (m:=xs.length) ⟨0,H,n,rfl,Nat.zero_le _,rfl,Kp.refl _ _,u⟩
 rintro I m st ⟨i,w,x,rfl,L,rfl,f,u⟩ D
 show BM lfp G (Runs F G) k I v (.fn p [] []) (.int .i64 (.ofNat xs.length) 0) (.int .i64 (.ofNat i) 0) w x
 delta BM
 by_cases d:i<xs.length
 ·obtain⟨q,E,A⟩:=(h.kp y f).at (Tj d)
  rw[List.drop_eq_getElem_cons d]at u
  unfold findF at u
  simp only[go_sem,BR,d,decide_true,E,Bj A]
  show Runs F G p [xs[i].v] w x _
  refine C _ (List.getElem_mem d) λM N f3=>?_
  cases B:g xs[i]with
  |true=>simp only[go_sem];rw[B]at u;exact u _ _ (f.trans f3)
  |false=>
   simp only[go_sem,DI (show i+1<9223372036854775808 by omega)]
   rw[B]at u
   exact D _ _ (by omega) ⟨i+1,_,_,rfl,d,rfl,f.trans f3,u⟩
 ·simp only[go_sem,BR,d,decide_false]
  delta DK
  rw[List.drop_eq_nil_of_le (by omega)]at u
  exact u _ _ f
theorem ALY{G:AY}{v:V}{xs:List Ty}{p:Nat}{g:Ty->Bool}{H:Heap}{n:Nat}{k:KV}(h:El G H v 2 (tys xs))(d:Lo v n)(i:xs.length<9223372036854775808)
 (m:∀t∈xs,∀{H n} {k:KV},(∀H' n',Kp H n H' n'->k (.bool (g t)) H' n')->Runs F G p [t.v] H n k)
 (q:∀H' n',Kp H n H' n'->k (.bool (xs.any g)) H' n'):
 Runs F G CB [v,.fn p [] []] H n k:=by
 refine go2 (IG BF G) ?_
 delta ES
 refine AQp h d i m λH' n' f=>?_
 simp only[go_sem,AUF,APk]
 exact q _ _ f
def St.ok(s:St):Prop:=s.1=0->s.2=0
def UG(s:St):Bool:=AGW s.1 s.2
theorem AOt{G:AY}{t:Ty}(d:t.nm.ok){H:Heap}{n:Nat}{k:KV}(g:∀H' n',Kp H n H' n'->k (.bool (!UG t.nm)) H' n'):Runs F G TJ [t.v] H n k:=by
 refine go1 (AAX BF G) ?_
 delta aW
 simp only[Ty.v,Ty.cells,St.v,go_sem]
 refine AHW d λi p f=>?_
 simp only[BZ,go_sem]
 exact g _ _ (((Kp.refl H n).new (m:=n+1) _ (Nat.le_refl _) (by omega)).trans f)
theorem AVh{G:AY}{v:V}{xs:List Ty}{H:Heap}{n:Nat}{k:KV}(h:El G H v 2 (tys xs))(d:Lo v n)(g:xs.length<9223372036854775808)(i:∀t∈xs,t.nm.ok)
 (f:∀H' n',Kp H n H' n'->k (.bool (xs.any λt=> !UG t.nm)) H' n'):Runs F G CB [v,.fn TJ [] []] H n k:=
 ALY (p:=TJ) h d g (λt m {_ _ _} f=>AOt (i t m) f) f
abbrev big:Nat:=9223372036854775808
structure Fld where
 nm:St
 ty:Ty
def Fld.cells(f:Fld):LV:=[f.nm.v,f.ty.nm.v,.bool f.ty.arr]
structure Cb where
 nm:St
 st:Bool
 ps:List Ty
 ret:Ty
def Cb.cells(m:Cb)(v:V):LV:=[m.nm.v,.bool m.st,v,m.ret.nm.v,.bool m.ret.arr]
structure GY(G:AY)(H:Heap)(n:Nat)(v:V)(xs:List Ty):Prop where
 el:El G H v 2 (tys xs)
 lo:Lo v n
 lt:xs.length<big
 ok:∀t∈xs,t.nm.ok
structure VD(G:AY)(H:Heap)(n:Nat)(v:V)(fs:List Fld):Prop where
 el:El G H v 3 (fs.map Fld.cells)
 lo:Lo v n
 lt:fs.length<big
 ok:∀f∈fs,f.nm.ok/\f.ty.nm.ok
structure J5(G:AY)(H:Heap)(n:Nat)(v:V)(ms:List Cb)(ws:List V):Prop where
 el:El G H v 5 (List.zipWith Cb.cells ms ws)
 lo:Lo v n
 lt:ms.length<big
 len:ws.length=ms.length
 at':∀(i:Nat) (m:Cb) (w:V),ms[i]? =some m->ws[i]? =some w->GY G H n w m.ps
 ok:∀m∈ms,m.nm.ok/\m.ret.nm.ok
section
variable{G:AY}{H H':Heap}{n n':Nat}{v:V}
theorem GY.kp{xs:List Ty}(h:GY G H n v xs)(f:Kp H n H' n'):GY G H' n' v xs:=⟨h.el.kp h.lo f,h.lo.mono f.le,h.lt,h.ok⟩
theorem VD.kp{xs:List Fld}(h:VD G H n v xs)(f:Kp H n H' n'):VD G H' n' v xs:=⟨h.el.kp h.lo f,h.lo.mono f.le,h.lt,h.ok⟩
theorem J5.kp{xs:List Cb}{ws:List V}(h:J5 G H n v xs ws)(f:Kp H n H' n'):J5 G H' n' v xs ws:=
 ⟨h.el.kp h.lo f,h.lo.mono f.le,h.lt,h.len,λi m w a b=>(h.at' i m w a b).kp f,h.ok⟩
theorem VD.len{xs:List Fld}(h:VD G H n v xs):lenV v=some (.int .i64 (.ofNat xs.length) 0):=by rw[h.el.len,List.length_map]
theorem GY.len{xs:List Ty}(h:GY G H n v xs):lenV v=some (.int .i64 (.ofNat xs.length) 0):=by rw[h.el.len,EP]
theorem J5.len'{xs:List Cb}{ws:List V}(h:J5 G H n v xs ws):lenV v=some (.int .i64 (.ofNat xs.length) 0):=by
 rw[h.el.len,List.length_zipWith,h.len,Nat.min_self]
theorem VD.at{xs:List Fld}(h:VD G H n v xs){i:Nat}(hi:i<xs.length):∃p,Ai 3 v (.int .i64 (.ofNat i) 0)=some p/\ldP p G H 3=some xs[i].cells:=
 h.el.at (by simp[hi])
theorem J5.at{xs:List Cb}{ws:List V}(h:J5 G H n v xs ws){i:Nat}(hi:i<xs.length):
 ∃p w,Ai 5 v (.int .i64 (.ofNat i) 0)=some p/\ldP p G H 5=some (xs[i].cells w)/\GY G H n w xs[i].ps:=by
 have d:i<ws.length:=by rw[h.len];exact hi
 obtain⟨p,f,g⟩:=h.el.at (i:=i) (c:=xs[i].cells ws[i]) (by rw[List.getElem?_zipWith];simp[hi,d])
 exact⟨p,ws[i],f,g,h.at' i _ _ (List.getElem?_eq_getElem hi) (List.getElem?_eq_getElem d)⟩
end
def leS(a b:St):Bool:=Qq (slt b.1 b.2 a.1 a.2)
theorem Abr(a b:St):B2.ev .leq a.v b.v=some (.bool (leS a b)):=by
 show mkB (Qq (slt b.1 b.2 a.1 a.2))=_
 rw[TR];rfl
theorem IL(q:IntKind)(a b:Nat):B2.ev .gtr (.int q (.ofNat a) 0) (.int q (.ofNat b) 0)=some (.bool (decide (b<a))):=by
 show BI (band (keq q q) true) (mkB (ilt (.ofNat b) (.ofNat a)))=_
 rw[TR,ZX,show band (keq q q) true=true by simp[OJ],show decide (Int.ofNat b<Int.ofNat a)=decide (b<a)by rw[decide_eq_decide];show(b:Int)<a↔_;omega];rfl
theorem iT(s:St):Qh s.v=some (.int .i64 (.ofNat s.1) 0):=rfl
def AEZ:St->List Fld->Bool
 |_,[]=>true
 |a,f::fs=> !(leS f.nm a)&&(!(decide (40<f.nm.1))&&(UG f.ty.nm&&AEZ f.nm fs))
def MB:St->List Cb->Bool
 |_,[]=>true
 |a,m::ms=> !(leS m.nm a)&&(!(decide (40<m.nm.1))&&(UG m.ret.nm&&(!(decide (200<m.ps.length))&&(!(m.ps.any λt=> !UG t.nm)&&MB m.nm ms))))
theorem ARX{G:AY}{v:V}{x:List Cb}{ws:List V}{H:Heap}{n:Nat}{k:KV}(h:J5 G H n v x ws){a:St}
 (d:∀H' n',Kp H n H' n'->k (.bool (MB a x)) H' n'):
 lfp (V×V×V×V×Heap×Nat) (OU lfp G (Runs F G) k) (a.v,v,.int .i64 (.ofNat x.length) 0,.int .i64 (.ofNat 0) 0,H,n):=by
 refine IY (J:=λm st=>∃i a A g,m=x.length-i/\i<=x.length/\st=(St.v a,v,.int .i64 (.ofNat x.length) 0,.int .i64 (.ofNat i) 0,A,g)/\Kp H n A g/\(∀H' n',Kp H n H' n'->k (.bool (MB a (x.drop i))) H' n')) ?_ (m:=x.length) ⟨0,a,H,n,rfl,Nat.zero_le _,rfl,Kp.refl _ _,d⟩
 rintro I m st ⟨i,a,A,g,rfl,hi,rfl,f,d⟩ U
 show QX lfp G (Runs F G) k I a.v v (.int .i64 (.ofNat x.length) 0) (.int .i64 (.ofNat i) 0) A g
 delta QX
 by_cases p:i<x.length
 ·obtain⟨q,w,W,B,y⟩:=(h.kp f).at p
  have C:=h.ok _ (List.getElem_mem p)
  rw[List.drop_eq_getElem_cons p]at d
  unfold MB at d
  generalize x[i]=m at C B y d
  have D:=h.lt
  unfold Cb.cells at B
  simp only[go_sem,Nat.reduceAdd,BR,p,decide_true,W,Bj B]
  have E:Kp H n (T.set (T.set A g (one [.str 0 0,.bool false,.Ad,.str 0 0,.bool false])) g (one [m.nm.v,.bool m.st,w,m.ret.nm.v,.bool m.ret.arr])) (g+1):=
   (f.new (m:=g+1) _ f.le (by omega)).new _ f.le (Nat.le_refl _)
  have y:=y.kp (n':=g+1) (H':=(T.set (T.set A g (one [.str 0 0,.bool false,.Ad,.str 0 0,.bool false])) g (one [m.nm.v,.bool m.st,w,m.ret.nm.v,.bool m.ret.arr]))) (((Kp.refl A g).new (m:=g+1) _ (Nat.le_refl _) (by omega)).new _ (Nat.le_refl _) (Nat.le_refl _))
  have u:=T.Ag (T.set A g (one [.str 0 0,.bool false,.Ad,.str 0 0,.bool false])) g (one [m.nm.v,.bool m.st,w,m.ret.nm.v,.bool m.ret.arr])
  generalize T.set (T.set A g (one [.str 0 0,.bool false,.Ad,.str 0 0,.bool false])) g (one [m.nm.v,.bool m.st,w,m.ret.nm.v,.bool m.ret.arr])=H3 at E y u⊢
  simp only[go_sem,Nat.reduceAdd,AU (off:=0) u (v:=m.nm.v) rfl,Abr,iT,IL]
  cases M:leS m.nm a with
  |true=>
   simp only[go_sem,AU (off:=0) u (v:=m.nm.v) rfl,iT,IL]
   rw[M]at d
   exact d _ _ E
  |false=>
   simp only[go_sem,AU (off:=0) u (v:=m.nm.v) rfl,iT,IL]
   rw[M]at d
   cases N:decide (40<m.nm.1)with
   |true=>
    simp only[go_sem]
    rw[N]at d
    exact d _ _ E
   |false=>
    rw[N]at d
    have X:Aj 2 (.ptr g 3) G H3=some (.agg [m.ret.nm.v,.bool m.ret.arr]):=GH u (by omega) (by show 5<=5;omega)
    simp only[go_sem,Nat.reduceAdd,X]
    refine AHW C.2 λY n4 K=>?_
    simp only[BZ,go_sem]
    have L:=E.trans K
    have y:=y.kp K
    have u:T.get Y g=_:=(K.same g (by omega)).trans u
    show _
    cases O:AGW m.ret.nm.1 m.ret.nm.2 with
    |false=>
     simp only[Bool.not_false,go_sem]
     rw[show UG m.ret.nm=false from O]at d
     exact d _ _ L
    |true=>
     rw[show UG m.ret.nm=true from O]at d
     simp only[Bool.not_true,go_sem,AU (off:=2) u (v:=w) rfl,y.len,IL]
     cases P:decide (200<m.ps.length)with
     |true=>
      simp only[go_sem]
      rw[P]at d
      exact d _ _ L
     |false=>
      rw[P]at d
      simp only[go_sem,AU (off:=2) u (v:=w) rfl]
      refine AVh y.el y.lo y.lt y.ok λZ n6 Q=>?_
      have u:T.get Z g=_:=(Q.same g (by have:=K.le;omega)).trans u
      have R:=L.trans Q
      cases S:m.ps.any λt=> !UG t.nm with
      |true=>
       simp only[go_sem]
       rw[S]at d
       exact d _ _ R
      |false=>
       rw[S]at d
       simp only[go_sem,AU (off:=0) u (v:=m.nm.v) rfl,DI (show i+1<9223372036854775808 by unfold big at D;omega)]
       exact U _ _ (by omega) ⟨i+1,m.nm,_,_,rfl,p,rfl,R,d⟩
 ·simp only[go_sem,BR,p,decide_false]
  delta P5
  rw[List.drop_eq_nil_of_le (by omega)]at d
  exact d _ _ f
theorem ARy{G:AY}{v w nm P:V}{fs:List Fld}{E:List Cb}{ws:List V}{H:Heap}{n b:Nat}{k:KV}(h:VD G H n v fs)(y:J5 G H n w E ws){a:St}
 (Q:b<n) (K:T.get H b=some (one [nm,P,v,w]))
 (d:∀H' n',Kp H n H' n'->k (.bool (AEZ a fs&&MB (0,0) E)) H' n'):
 lfp (V×V×V×V×V×Heap×Nat) (Jb lfp G (Runs F G) k) (.ptr b 0,a.v,v,.int .i64 (.ofNat fs.length) 0,.int .i64 (.ofNat 0) 0,H,n):=by
 refine IY (J:=λm st=>∃i a x g,m=fs.length-i/\i<=fs.length/\st=(.ptr b 0,St.v a,v,.int .i64 (.ofNat fs.length) 0,.int .i64 (.ofNat i) 0,x,g)/\Kp H n x g/\(∀H' n',Kp H n H' n'->k (.bool (AEZ a (fs.drop i)&&MB (0,0) E)) H' n')) ?_ (m:=fs.length) ⟨0,a,H,n,rfl,Nat.zero_le _,rfl,Kp.refl _ _,d⟩
 rintro I m st ⟨i,a,x,g,rfl,Y,rfl,f,d⟩ R
 show QK lfp G (Runs F G) k I (.ptr b 0) a.v v (.int .i64 (.ofNat fs.length) 0) (.int .i64 (.ofNat i) 0) x g
 delta QK
 by_cases p:i<fs.length
 ·obtain⟨q,S,A⟩:=(h.kp f).at p
  have B:=h.ok _ (List.getElem_mem p)
  rw[List.drop_eq_getElem_cons p]at d
  unfold AEZ at d
  generalize fs[i]=m at B A d
  have C:=h.lt
  unfold Fld.cells at A
  simp only[go_sem,Nat.reduceAdd,BR,p,decide_true,S,Bj A]
  have D:Kp H n (T.set (T.set x g (one [.str 0 0,.str 0 0,.bool false])) g (one [m.nm.v,m.ty.nm.v,.bool m.ty.arr])) (g+1):=
   (f.new (m:=g+1) _ f.le (by omega)).new _ f.le (Nat.le_refl _)
  have u:=T.Ag (T.set x g (one [.str 0 0,.str 0 0,.bool false])) g (one [m.nm.v,m.ty.nm.v,.bool m.ty.arr])
  generalize T.set (T.set x g (one [.str 0 0,.str 0 0,.bool false])) g (one [m.nm.v,m.ty.nm.v,.bool m.ty.arr])=H3 at D u⊢
  simp only[go_sem,Nat.reduceAdd,AU (off:=0) u (v:=m.nm.v) rfl,Abr,iT,IL]
  cases L:leS m.nm a with
  |true=>
   simp only[go_sem,AU (off:=0) u (v:=m.nm.v) rfl,iT,IL]
   rw[L]at d
   exact d _ _ D
  |false=>
   simp only[go_sem,AU (off:=0) u (v:=m.nm.v) rfl,iT,IL]
   rw[L]at d
   cases y:decide (40<m.nm.1)with
   |true=>
    simp only[go_sem]
    rw[y]at d
    exact d _ _ D
   |false=>
    rw[y]at d
    have U:Aj 2 (.ptr g 1) G H3=some (.agg [m.ty.nm.v,.bool m.ty.arr]):=GH u (by omega) (by show 3<=3;omega)
    simp only[go_sem,Nat.reduceAdd,U]
    refine AHW B.2 λW Z M=>?_
    simp only[BZ,go_sem]
    have N:=D.trans M
    have u:T.get W g=_:=(M.same g (by omega)).trans u
    show _
    cases O:AGW m.ty.nm.1 m.ty.nm.2 with
    |false=>
     simp only[Bool.not_false,go_sem]
     rw[show UG m.ty.nm=false from O]at d
     exact d _ _ N
    |true=>
     rw[show UG m.ty.nm=true from O]at d
     simp only[Bool.not_true,go_sem,AU (off:=0) u (v:=m.nm.v) rfl,DI (show i+1<9223372036854775808 by unfold big at C;omega)]
     exact R _ _ (by omega) ⟨i+1,m.nm,_,_,rfl,p,rfl,N,d⟩
 ·simp only[go_sem,BR,p,decide_false]
  delta QI
  rw[List.drop_eq_nil_of_le (by omega)]at d
  have u:T.get x b=_:=(f.same b Q).trans K
  have y:=y.kp f
  simp only[go_sem,Nat.reduceAdd,AU (off:=3) u (v:=w) rfl,y.len']
  exact ARX (a:=(0,0)) y λH' n' X=>d _ _ (f.trans X)
structure Fc where
 nm:St
 sup:St
 fs:List Fld
 ms:List Cb
structure ZO(G:AY)(H:Heap)(n:Nat)(L:LV)(c:Fc)(v w:V)(ws:List V):Prop where
 is:L=[c.nm.v,c.sup.v,v,w]
 fs:VD G H n v c.fs
 ms:J5 G H n w c.ms ws
 ok:c.nm.ok/\c.sup.ok
theorem ZO.kp{G:AY}{H H':Heap}{n n':Nat}{L:LV}{c:Fc}{v w:V}{ws:List V}(h:ZO G H n L c v w ws)(f:Kp H n H' n'):ZO G H' n' L c v w ws:=⟨h.is,h.fs.kp f,h.ms.kp f,h.ok⟩
def zy(s:St):Bool:=upper s.1 s.2
def U3(c:Fc):Bool:=
 zy c.nm&&((decide (c.sup.1=0/\c.sup.2=0)||zy c.sup)&&(!(decide (200<c.fs.length))&&(!(decide (200<c.ms.length))&&(!(decide (40<c.nm.1))&&(!(decide (40<c.sup.1))&&(AEZ (0,0) c.fs&&MB (0,0) c.ms))))))
theorem neS(a b:St):CU (.one .str) true a.v b.v=some (.bool (!decide (a.1=b.1/\a.2=b.2))):=AaD ..
theorem ART(s:St):isClass s.1 s.2 false=zy s:=by simp[isClass,zy]
theorem AH0{G:AY}{L:LV}{c:Fc}{v w:V}{ws:List V}{H:Heap}{n:Nat}{k:KV}(h:ZO G H n L c v w ws)
 (d:∀H' n',Kp H n H' n'->k (.bool (U3 c)) H' n'):Runs F G Wq [.agg L] H n k:=by
 refine go1 (AC7 BF G) ?_
 obtain⟨rfl,A,J,hn,hs⟩:=h
 delta iW
 unfold U3 at d
 simp only[go_sem]
 have O:Kp H n (T.set H n (one [c.nm.v,c.sup.v,v,w])) (n+1):=(Kp.refl H n).new _ (Nat.le_refl _) (by omega)
 have i:=T.Ag H n (one [c.nm.v,c.sup.v,v,w])
 generalize T.set H n (one [c.nm.v,c.sup.v,v,w])=H1 at O i⊢
 refine AFA λH2 n2 B=>?_
 refine AA6 hn λg x f3=>?_
 rw[ART,BZ]
 have f:=O.trans (B.trans f3)
 have i:T.get g n=_:=(f3.same n (by have:=B.le;omega)).trans ((B.same n (by omega)).trans i)
 have y:n<x:=by have:=B.le;have:=f3.le;omega
 clear O B f3
 have u:∀g x,Kp H n g x->n<x->T.get g n=some (one [c.nm.v,c.sup.v,v,w])->
  (∀H' n',Kp H n H' n'->k (.bool (!(decide (200<c.fs.length))&&(!(decide (200<c.ms.length))&&(!(decide (40<c.nm.1))&&(!(decide (40<c.sup.1))&&(AEZ (0,0) c.fs&&MB (0,0) c.ms)))))) H' n')->
  (AL (AQ 2 (.ptr n 0)) λP=>
  AL (AX P G g) λQ=>
  AL (lenV Q) λR=>
  AL (B2.ev .gtr R (.int .i64 (.ofNat 200) 0)) λm=>
  Ak m false (AQ 3 (.ptr n 0)) λS=>
  Ak m false (AX S G g) λU=>
  Ak m false (lenV U) λW=>
  Ak m false (B2.ev .gtr W (.int .i64 (.ofNat 200) 0)) λX=>
  AL (Aw m (.bool true) X) λp=>
  Ak p false (AQ 0 (.ptr n 0)) λY=>
  Ak p false (AX Y G g) λZ=>
  Ak p false (Qh Z) λd0=>
  Ak p false (B2.ev .gtr d0 (.int .i64 (.ofNat 40) 0)) λd1=>
  AL (Aw p (.bool true) d1) λq=>
  Ak q false (AQ 1 (.ptr n 0)) λd2=>
  Ak q false (AX d2 G g) λd3=>
  Ak q false (Qh d3) λd4=>
  Ak q false (B2.ev .gtr d4 (.int .i64 (.ofNat 40) 0)) λd5=>
  AL (Aw q (.bool true) d5) λd6=>
  AZ d6 true (k (.bool false) g x) (AL (AQ 2 (.ptr n 0)) λd7=>
  AL (AX d7 G g) λC=>
  AL (lenV C) λd8=>
  lfp (V×V×V×V×V×Heap×Nat) (Jb lfp G (Runs F G) k) (.ptr n 0,(.str 0 0),C,d8,(.int .i64 (.ofNat 0) 0),g,x))):=by
  intro g x f y i d
  have A:=A.kp f
  have J:=J.kp f
  have e0:AX (.ptr n 0) G g=some c.nm.v:=AU i rfl
  have K:AX (.ptr n 1) G g=some c.sup.v:=AU i rfl
  have e2:AX (.ptr n 2) G g=some v:=AU i rfl
  have e3:AX (.ptr n 3) G g=some w:=AU i rfl
  simp only[go_sem,Nat.reduceAdd,e2,A.len,IL]
  cases D:decide (200<c.fs.length)with
  |true=>rw[D]at d;simp only[go_sem];exact d _ _ f
  |false=>
   rw[D]at d
   simp only[go_sem,Nat.reduceAdd,e3,J.len',IL]
   cases E:decide (200<c.ms.length)with
   |true=>rw[E]at d;simp only[go_sem];exact d _ _ f
   |false=>
    rw[E]at d
    simp only[go_sem,Nat.reduceAdd,e0,iT,IL]
    cases I:decide (40<c.nm.1)with
    |true=>rw[I]at d;simp only[go_sem];exact d _ _ f
    |false=>
     rw[I]at d
     simp only[go_sem,Nat.reduceAdd,K,iT,IL]
     cases h4:decide (40<c.sup.1)with
     |true=>rw[h4]at d;simp only[go_sem];exact d _ _ f
     |false=>
      rw[h4]at d
      simp only[go_sem,Nat.reduceAdd,e2,A.len]
      exact ARy (a:=(0,0)) A J y i λH' n' M=>d _ _ (f.trans M)
 cases D:zy c.nm with
 |false=>
  rw[D]at d
  simp only[Bool.not_false,go_sem]
  exact d _ _ f
 |true=>
  rw[D]at d
  have K:AX (.ptr n 1) G g=some c.sup.v:=AU i rfl
  have e:=neS c.sup (0,0)
  unfold St.v at e
  simp only[Bool.not_true,go_sem,Nat.reduceAdd,K]
  rw[show CU (.one .str) true c.sup.v (.str 0 0)=_ from neS c.sup (0,0)]
  cases E:decide (c.sup.1=0/\c.sup.2=0)with
  |true=>
   rw[E]at d
   simp only[Bool.not_true,go_sem]
   exact u _ _ f y i d
  |false=>
   rw[E]at d
   simp only[Bool.not_false,go_sem,Nat.reduceAdd,K]
   refine AFA λH4 n4 N=>?_
   refine AA6 hs λH5 n5 f5=>?_
   rw[ART,BZ]
   have M:=f.trans (N.trans f5)
   have i:T.get H5 n=_:=(f5.same n (by have:=N.le;omega)).trans ((N.same n (by omega)).trans i)
   cases I:zy c.sup with
   |false=>
    rw[I]at d
    simp only[Bool.not_false,go_sem]
    exact d _ _ M
   |true=>
    rw[I]at d
    simp only[Bool.not_true,go_sem]
    exact u _ _ M (by have:=N.le;have:=f5.le;omega) i d
theorem AWF{e c:Nat}{t:T LV}{i:Nat}{L:LV}(q:0<e)(hi:i<c)(u:T.get t i=some L)(v:L.length=e):ldB e c t (i*e) e=some L:=by
 unfold ldB
 have d:i*e/e=i:=Nat.mul_div_cancel _ q
 have f:i*e%e=0:=Nat.mul_mod_left ..
 have w:Nat.blt (Nat.div (i*e) e) c=true:=by rw[Nat.blt_eq];show i*e/e<c;omega
 rw[w]
 show BO (T.get t (Nat.div (i*e) e)) (ldC e (i*e) e)=_
 rw[show Nat.div (i*e) e=i from d,u,Ud]
 have g:=ATI (H:=T.set .e 0 (one L)) (id:=0) (L:=L) (off:=0) (m:=e) (T.Ag ..) q (by omega)
 unfold mY at g
 rw[T.Ag]at g
 have k:ldB L.length 1 (T.set .e 0 L) 0 e=some ((L.drop 0).take e):=g
 unfold ldB at k
 rw[show Nat.blt (Nat.div 0 L.length) 1=true by rw[Nat.blt_eq];show 0/L.length<1;simp]at k
 have p:BO (T.get (T.set T.e 0 L) (Nat.div 0 L.length)) (ldC L.length 0 e)=some ((L.drop 0).take e):=k
 rw[show Nat.div 0 L.length=0 from Nat.zero_div _,T.Ag,Ud]at p
 rw[List.drop_zero,List.take_of_length_le (by omega),v]at p
 have:ldC e (i*e) e L=ldC e 0 e L:=by
  unfold ldC
  rw[show Nat.mod (i*e) e=0 from f,show Nat.mod 0 e=0 from Nat.zero_mod _]
 rw[this];exact p
theorem AGm{z:Nat}{Z L:LV}{H:Heap}{n:Nat}{P:KV}(d:L.length=z):
 Bc (Ar z 1 Z [(0,.c (.agg L))] E0) H n P=P (.sl n 0 1 1 z) (T.set H n (.arr z 1 (T.set (T.set .e 0 Z) 0 L))) (n+1):=by
 subst d
 show Ji (band (band true (band true (Nat.beq (len L) L.length))) true) (DT n λn=>P (.sl n 0 1 1 L.length) (T.set H n (.arr L.length 1 (T.set (T.set .e 0 Z) 0 L))) (Nat.succ n))=_
 rw[len_eq,BL]
 have f:band (band true (band true (Nat.beq L.length L.length))) true=true:=by simp
 rw[f];rfl
theorem rJ{G:AY}{H:Heap}{n z:Nat}{Z L:LV}(d:0<z)(f:L.length=z)(h:T.get H n=some (.arr z 1 (T.set (T.set .e 0 Z) 0 L))):El G H (.sl n 0 1 1 z) z [L]:=by
 refine⟨rfl,?_⟩
 show(Bool.rec (motive:=λ_=>Option EL) none (BO (mY H n (0*z) z) λL=>BO (some []) λg=>some (L::g)) (Nat.beq z z):Option EL)=_
 have i:mY H n (0*z) z=some L:=by
  unfold mY;rw[h]
  exact AWF d (by omega) (by rw[T.Ag]) f
 rw[i,show Nat.beq z z=true by simp]
 rfl
theorem AcZ{Z a b c d e:V}{H:Heap}{n:Nat}{P:KV}(h:∀v∈[a,b,c,d,e],Zp v=true/\A8 v=[v]):
 Bc (Ar 1 5 [Z] [(0,.c a),(1,.c b),(2,.c c),(3,.c d),(4,.c e)] E0) H n P=
 P (.sl n 0 5 5 1) (T.set H n (.arr 1 5 (T.set (T.set (T.set (T.set (T.set (AGU [Z] 5 .e) 0 [a]) 1 [b]) 2 [c]) 3 [d]) 4 [e]))) (n+1):=by
 obtain⟨f,g,i,hd,k,-⟩:(Zp a=true/\A8 a=[a])/\(Zp b=true/\A8 b=[b])/\(Zp c=true/\A8 c=[c])/\(Zp d=true/\A8 d=[d])/\(Zp e=true/\A8 e=[e])/\True:=by simpa using h
 show Ji (band (band (Zp a) (band (Nat.blt 0 5) (Nat.beq (len (A8 a)) 1))) (band (band (Zp b) (band (Nat.blt 1 5) (Nat.beq (len (A8 b)) 1))) (band (band (Zp c) (band (Nat.blt 2 5) (Nat.beq (len (A8 c)) 1))) (band (band (Zp d) (band (Nat.blt 3 5) (Nat.beq (len (A8 d)) 1))) (band (band (Zp e) (band (Nat.blt 4 5) (Nat.beq (len (A8 e)) 1))) true)))))
  (DT n λn=>P (.sl n 0 5 5 1) (T.set H n (.arr 1 5 (T.set (T.set (T.set (T.set (T.set (AGU [Z] 5 .e) 0 (A8 a)) 1 (A8 b)) 2 (A8 c)) 3 (A8 d)) 4 (A8 e)))) (Nat.succ n))=_
 rw[f.1,f.2,g.1,g.2,i.1,i.2,hd.1,hd.2,k.1,k.2,BL]
 rfl
theorem AZY{G:AY}{H:Heap}{n:Nat}{Z a b c d e:V}(h:T.get H n=some (.arr 1 5 (T.set (T.set (T.set (T.set (T.set (AGU [Z] 5 .e) 0 [a]) 1 [b]) 2 [c]) 3 [d]) 4 [e]))):
 El G H (.sl n 0 5 5 1) 1 [[a],[b],[c],[d],[e]]:=by
 refine⟨rfl,?_⟩
 show BO (mY H n (0*1) 1) (λL=>BO (BO (mY H n (1*1) 1) λL=>BO (BO (mY H n (2*1) 1) λL=>BO (BO (mY H n (3*1) 1) λL=>BO (BO (mY H n (4*1) 1) λL=>BO (some []) λf=>some (L::f)) λf=>some (L::f)) λf=>some (L::f)) λf=>some (L::f)) λf=>some (L::f))=_
 have g:∀i v,i<5->T.get (T.set (T.set (T.set (T.set (T.set (AGU [Z] 5 .e) 0 [a]) 1 [b]) 2 [c]) 3 [d]) 4 [e]) i=some [v]->mY H n (i*1) 1=some [v]:=by
  intro i v k m
  unfold mY;rw[h]
  exact AWF (by omega) k m rfl
 rw[g 0 a (by omega) rfl,g 1 b (by omega) rfl,g 2 c (by omega) rfl,g 3 d (by omega) rfl,g 4 e (by omega) rfl]
 rfl
def APZ(m:Cb):Bool:=MB (0,0) [m]
theorem ASg(m:Cb):U3 ⟨(1,65),(0,0),[],[m]⟩=APZ m:=by
 simp[U3,APZ,zy,upper,AEZ]
theorem AeY{G:AY}{m:Cb}{w:V}{H:Heap}{n:Nat}{k:KV}(y:GY G H n w m.ps)(A:m.nm.ok/\m.ret.nm.ok)
 (B:∀H' n',Kp H n H' n'->k (.bool (APZ m)) H' n'):Runs F G AIB [.agg (m.cells w)] H n k:=by
 refine go1 (AOl BF G) ?_
 delta AHr
 have p:Kp H n (T.set H n (one (m.cells w))) (n+1):=(Kp.refl H n).new _ (Nat.le_refl _) (by omega)
 have C:Aj 5 (.ptr n 0) G (T.set H n (one (m.cells w)))=some (.agg (m.cells w)):=AKc rfl (by omega)
 simp only[go_sem,Nat.reduceAdd,C,AGm (z:=5) (L:=m.cells w) rfl]
 generalize T.set H n (one (m.cells w))=H1 at p⊢
 have d:=p.new (m:=n+1+1) (.arr 5 1 (T.set (T.set .e 0 [.str 0 0,.bool false,.Ad,.str 0 0,.bool false]) 0 (m.cells w))) (id:=n+1) (by omega) (by omega)
 have u:=T.Ag H1 (n+1) (.arr 5 1 (T.set (T.set .e 0 [.str 0 0,.bool false,.Ad,.str 0 0,.bool false]) 0 (m.cells w)))
 generalize T.set H1 (n+1) (.arr 5 1 (T.set (T.set .e 0 [.str 0 0,.bool false,.Ad,.str 0 0,.bool false]) 0 (m.cells w)))=H2 at d u⊢
 rw[show BH [.str 0 0,.str 0 0,.Ad,.Ad] [(0,1,.c (.str 1 65)),(3,1,.c (.sl (n+1) 0 1 1 5))]=some (.agg [.str 1 65,.str 0 0,.Ad,.sl (n+1) 0 1 1 5])from rfl,AP]
 refine AH0 (c:=⟨(1,65),(0,0),[],[m]⟩) (v:=.Ad) (w:=.sl (n+1) 0 1 1 5) (ws:=[w]) ⟨rfl,⟨⟨rfl,rfl⟩,(λq h=>by cases h),(by show 0<big;decide),(λf h=>by cases h)⟩,⟨rJ (by omega) rfl u,(λq h=>by cases h;omega),(by show 1<big;decide),rfl,?_,?_⟩,?_⟩ λH' n' f=>?_
 ·intro i D E g x
  cases i with
  |zero=>simp at g x;subst g x;exact y.kp d
  |succ i=>simp at g
 ·intro D h;simp at h;subst h;exact A
 ·exact⟨(λh=>by cases h),(λh=>rfl)⟩
 ·rw[ASg]
  exact B _ _ (d.trans f)
structure PF where
 f:Fld
 own:St
structure PM where
 m:Cb
 own:St
def PF.cells(p:PF):LV:=[p.f.nm.v,p.f.ty.nm.v,.bool p.f.ty.arr,p.own.v]
def PM.cells(p:PM)(w:V):LV:=[p.m.nm.v,.bool p.m.st,w,p.m.ret.nm.v,.bool p.m.ret.arr,p.own.v]
structure Pool where
 nums:List Int
 names:List St
 types:List Ty
 fields:List PF
 Bg:List PM
structure Fh(G:AY)(H:Heap)(n:Nat)(p:Pool)(v0 v1 v2 v3 v4:V)(ws:List V):Prop where
 e0:El G H v0 1 (p.nums.map λa=>[.int .i64 a 0])
 l0:Lo v0 n
 b0:p.nums.length<big
 e1:El G H v1 1 (strs p.names)
 l1:Lo v1 n
 b1:p.names.length<big
 o1:∀s∈p.names,s.ok
 t2:GY G H n v2 p.types
 e3:El G H v3 4 (p.fields.map PF.cells)
 l3:Lo v3 n
 b3:p.fields.length<big
 o3:∀f∈p.fields,f.f.nm.ok/\f.f.ty.nm.ok/\f.own.ok
 e4:El G H v4 6 (List.zipWith PM.cells p.Bg ws)
 l4:Lo v4 n
 b4:p.Bg.length<big
 AHO:ws.length=p.Bg.length
 at4:∀(i:Nat) (m:PM) (w:V),p.Bg[i]? =some m->ws[i]? =some w->GY G H n w m.m.ps
 o4:∀m∈p.Bg,m.m.nm.ok/\m.m.ret.nm.ok/\m.own.ok
theorem Fh.kp{G:AY}{H H':Heap}{n n':Nat}{p:Pool}{d g k q u:V}{ws:List V}(h:Fh G H n p d g k q u ws)(f:Kp H n H' n'):Fh G H' n' p d g k q u ws:=
 ⟨h.e0.kp h.l0 f,h.l0.mono f.le,h.b0,h.e1.kp h.l1 f,h.l1.mono f.le,h.b1,h.o1,h.t2.kp f,h.e3.kp h.l3 f,h.l3.mono f.le,h.b3,h.o3,h.e4.kp h.l4 f,h.l4.mono f.le,h.b4,h.AHO,
  λi m w a b=>(h.at4 i m w a b).kp f,h.o4⟩
def dh(s:St):Bool:=upper s.1 s.2&&decide (s.1<=40)
def ANs(p:PM):Bool:=dh p.own&&APZ p.m
def AR2(p:PF):Bool:=dh p.own&&(!decide (p.f.nm.1=0/\p.f.nm.2=0)&&(!decide (40<p.f.nm.1)&&UG p.f.ty.nm))
theorem AQW{G:AY}{p:Pool}{S U W X D:V}{ws:List V}{H:Heap}{n:Nat}{k:KV}(h:Fh G H n p S U W X D ws)
 (u:∀H' n',Kp H n H' n'->k (.bool (p.Bg.all ANs)) H' n'):
 lfp (V×V×V×Heap×Nat) (MW lfp G (Runs F G) k) (D,.int .i64 (.ofNat p.Bg.length) 0,.int .i64 (.ofNat 0) 0,H,n):=by
 refine IY (J:=λm st=>∃i A g,m=p.Bg.length-i/\i<=p.Bg.length/\st=(D,.int .i64 (.ofNat p.Bg.length) 0,.int .i64 (.ofNat i) 0,A,g)/\Kp H n A g/\(∀H' n',Kp H n H' n'->k (.bool ((p.Bg.drop i).all ANs)) H' n')) ?_ (m:=p.Bg.length) ⟨0,H,n,rfl,Nat.zero_le _,rfl,Kp.refl _ _,u⟩
 rintro I m st ⟨i,A,g,rfl,hi,rfl,f,u⟩ Y
 show Oz lfp G (Runs F G) k I D (.int .i64 (.ofNat p.Bg.length) 0) (.int .i64 (.ofNat i) 0) A g
 delta Oz
 by_cases d:i<p.Bg.length
 ·have M:i<ws.length:=by rw[h.AHO];exact d
  have N:=h.kp f
  obtain⟨q,Z,x⟩:=N.e4.at (i:=i) (c:=p.Bg[i].cells ws[i]) (by rw[List.getElem?_zipWith];simp[d,M])
  have B:=N.at4 i _ _ (List.getElem?_eq_getElem d) (List.getElem?_eq_getElem M)
  have y:=h.o4 _ (List.getElem_mem d)
  have C:=h.b4
  rw[List.drop_eq_getElem_cons d,List.all_cons]at u
  generalize p.Bg[i]=m at y x B u
  generalize ws[i]=w at x B
  unfold PM.cells at x
  simp only[go_sem,Nat.reduceAdd,BR,d,decide_true,Z,Bj x]
  have E:Kp A g (T.set (T.set A g (one [.str 0 0,.bool false,.Ad,.str 0 0,.bool false,.str 0 0])) g (one [m.m.nm.v,.bool m.m.st,w,m.m.ret.nm.v,.bool m.m.ret.arr,m.own.v])) (g+1):=
   ((Kp.refl _ _).new (m:=g+1) _ (Nat.le_refl _) (by omega)).new _ (Nat.le_refl _) (Nat.le_refl _)
  have K:=T.Ag (T.set A g (one [.str 0 0,.bool false,.Ad,.str 0 0,.bool false,.str 0 0])) g (one [m.m.nm.v,.bool m.m.st,w,m.m.ret.nm.v,.bool m.m.ret.arr,m.own.v])
  generalize T.set (T.set A g (one [.str 0 0,.bool false,.Ad,.str 0 0,.bool false,.str 0 0])) g (one [m.m.nm.v,.bool m.m.st,w,m.m.ret.nm.v,.bool m.m.ret.arr,m.own.v])=H3 at E K⊢
  refine AOB y.2.2 λO n4 L=>?_
  rw[BZ,show(upper m.own.1 m.own.2&&decide (m.own.1<=40))=dh m.own from rfl]
  have K:T.get O g=_:=(L.same g (by omega)).trans K
  unfold ANs at u
  cases P:dh m.own with
  |false=>
   rw[P]at u
   simp only[Bool.not_false,go_sem]
   exact u _ _ (f.trans (E.trans L))
  |true=>
   rw[P]at u
   have hl:Aj 5 (.ptr g 0) G O=some (.agg (m.m.cells w)):=GH K (by omega) (by show 5<=6;omega)
   simp only[Bool.not_true,go_sem,Nat.reduceAdd,hl]
   refine AeY (B.kp (E.trans L)) ⟨y.1,y.2.1⟩ λH5 n5 f5=>?_
   have Q:=f.trans ((E.trans L).trans f5)
   simp only[BZ,go_sem]
   cases R:APZ m.m with
   |false=>
    rw[R]at u
    simp only[Bool.not_false,go_sem]
    exact u _ _ Q
   |true=>
    rw[R]at u
    simp only[Bool.not_true,go_sem,DI (show i+1<9223372036854775808 by unfold big at C;omega)]
    exact Y _ _ (by omega) ⟨i+1,_,_,rfl,d,rfl,Q,u⟩
 ·simp only[go_sem,BR,d,decide_false]
  delta QJ
  rw[List.drop_eq_nil_of_le (by omega)]at u
  exact u _ _ f
theorem eqS(a b:St):CU (.one .str) false a.v b.v=some (.bool (decide (a.1=b.1/\a.2=b.2))):=AKu ..
theorem APA{G:AY}{p:Pool}{N O P B D:V}{ws:List V}{H:Heap}{n b:Nat}{k:KV}(h:Fh G H n p N O P B D ws)(hb:b<n)(K:T.get H b=some (one [N,O,P,B,D]))
 (d:∀H' n',Kp H n H' n'->k (.bool (p.fields.all AR2&&p.Bg.all ANs)) H' n'):
 lfp (V×V×V×V×Heap×Nat) (NP lfp G (Runs F G) k) (.ptr b 0,B,.int .i64 (.ofNat p.fields.length) 0,.int .i64 (.ofNat 0) 0,H,n):=by
 refine IY (J:=λm st=>∃i w g,m=p.fields.length-i/\i<=p.fields.length/\st=(.ptr b 0,B,.int .i64 (.ofNat p.fields.length) 0,.int .i64 (.ofNat i) 0,w,g)/\Kp H n w g/\(∀H' n',Kp H n H' n'->k (.bool ((p.fields.drop i).all AR2&&p.Bg.all ANs)) H' n')) ?_ (m:=p.fields.length) ⟨0,H,n,rfl,Nat.zero_le _,rfl,Kp.refl _ _,d⟩
 rintro I m st ⟨i,w,g,rfl,hi,rfl,f,d⟩ ih
 show Ol lfp G (Runs F G) k I (.ptr b 0) B (.int .i64 (.ofNat p.fields.length) 0) (.int .i64 (.ofNat i) 0) w g
 delta Ol
 have Q:=h.kp f
 by_cases u:i<p.fields.length
 ·obtain⟨q,hp,x⟩:=Q.e3.at (i:=i) (c:=p.fields[i].cells) (by simp[u])
  have y:=h.o3 _ (List.getElem_mem u)
  have C:=h.b3
  rw[List.drop_eq_getElem_cons u,List.all_cons]at d
  generalize p.fields[i]=m at y x d
  unfold PF.cells at x
  simp only[go_sem,Nat.reduceAdd,BR,u,decide_true,hp,Bj x]
  have R:Kp w g (T.set (T.set w g (one [.str 0 0,.str 0 0,.bool false,.str 0 0])) g (one [m.f.nm.v,m.f.ty.nm.v,.bool m.f.ty.arr,m.own.v])) (g+1):=
   ((Kp.refl _ _).new (m:=g+1) _ (Nat.le_refl _) (by omega)).new _ (Nat.le_refl _) (Nat.le_refl _)
  have A:=T.Ag (T.set w g (one [.str 0 0,.str 0 0,.bool false,.str 0 0])) g (one [m.f.nm.v,m.f.ty.nm.v,.bool m.f.ty.arr,m.own.v])
  generalize T.set (T.set w g (one [.str 0 0,.str 0 0,.bool false,.str 0 0])) g (one [m.f.nm.v,m.f.ty.nm.v,.bool m.f.ty.arr,m.own.v])=H3 at R A⊢
  refine AOB y.2.2 λL n4 S=>?_
  rw[BZ,show(upper m.own.1 m.own.2&&decide (m.own.1<=40))=dh m.own from rfl]
  have A:T.get L g=_:=(S.same g (by omega)).trans A
  have U:AX (.ptr g 0) G L=some m.f.nm.v:=AU A rfl
  have E:=f.trans (R.trans S)
  unfold AR2 at d
  cases W:dh m.own with
  |false=>
   rw[W]at d
   simp only[Bool.not_false,go_sem]
   exact d _ _ E
  |true=>
   rw[W]at d
   simp only[Bool.not_true,go_sem,Nat.reduceAdd,U]
   rw[show CU (.one .str) false m.f.nm.v (.str 0 0)=_ from eqS m.f.nm (0,0)]
   cases X:decide (m.f.nm.1=0/\m.f.nm.2=0)with
   |true=>
    rw[X]at d
    simp only[go_sem]
    exact d _ _ E
   |false=>
    rw[X]at d
    simp only[go_sem,Nat.reduceAdd,U,iT,IL]
    cases Y:decide (40<m.f.nm.1)with
    |true=>
     rw[Y]at d
     simp only[go_sem]
     exact d _ _ E
    |false=>
     rw[Y]at d
     have M:Aj 2 (.ptr g 1) G L=some (.agg [m.f.ty.nm.v,.bool m.f.ty.arr]):=GH A (by omega) (by show 3<=4;omega)
     simp only[go_sem,Nat.reduceAdd,M]
     refine AHW y.2.1 λH5 n5 f5=>?_
     have Z:=E.trans f5
     simp only[BZ,go_sem]
     show _
     cases h4:AGW m.f.ty.nm.1 m.f.ty.nm.2 with
     |false=>
      rw[show UG m.f.ty.nm=false from h4]at d
      simp only[Bool.not_false,go_sem]
      exact d _ _ Z
     |true=>
      rw[show UG m.f.ty.nm=true from h4]at d
      simp only[Bool.not_true,go_sem,DI (show i+1<9223372036854775808 by unfold big at C;omega)]
      exact ih _ _ (by omega) ⟨i+1,_,_,rfl,u,rfl,Z,d⟩
 ·simp only[go_sem,BR,u,decide_false]
  delta QM
  rw[List.drop_eq_nil_of_le (by omega)]at d
  have A:T.get w b=_:=(f.same b hb).trans K
  have M:lenV D=some (.int .i64 (.ofNat p.Bg.length) 0):=by rw[h.e4.len,List.length_zipWith,h.AHO,Nat.min_self]
  simp only[go_sem,Nat.reduceAdd,AU (off:=4) A (v:=D) rfl,M]
  exact AQW Q λH' n' f'=>d _ _ (f.trans f')
theorem AQg{G:AY}{p:Pool}{E K y C L:V}{ws:List V}{H:Heap}{n b:Nat}{k:KV}(h:Fh G H n p E K y C L ws)(M:b<n)(D:T.get H b=some (one [E,K,y,C,L]))
 (g:∀H' n',Kp H n H' n'->k (.bool ((p.types.all λt=>UG t.nm)&&(p.fields.all AR2&&p.Bg.all ANs))) H' n'):
 lfp (V×V×V×V×Heap×Nat) (NM lfp G (Runs F G) k) (.ptr b 0,y,.int .i64 (.ofNat p.types.length) 0,.int .i64 (.ofNat 0) 0,H,n):=by
 refine IY (J:=λm st=>∃i w u,m=p.types.length-i/\i<=p.types.length/\st=(.ptr b 0,y,.int .i64 (.ofNat p.types.length) 0,.int .i64 (.ofNat i) 0,w,u)/\Kp H n w u/\(∀H' n',Kp H n H' n'->k (.bool (((p.types.drop i).all λt=>UG t.nm)&&(p.fields.all AR2&&p.Bg.all ANs))) H' n')) ?_ (m:=p.types.length) ⟨0,H,n,rfl,Nat.zero_le _,rfl,Kp.refl _ _,g⟩
 rintro I m st ⟨i,w,u,rfl,Z,rfl,f,g⟩ R
 show OL lfp G (Runs F G) k I (.ptr b 0) y (.int .i64 (.ofNat p.types.length) 0) (.int .i64 (.ofNat i) 0) w u
 delta OL
 have N:=h.kp f
 by_cases d:i<p.types.length
 ·obtain⟨q,S,x⟩:=N.t2.el.at (Tj d)
  have A:=h.t2.ok _ (List.getElem_mem d)
  have B:=h.t2.lt
  rw[List.drop_eq_getElem_cons d,List.all_cons]at g
  generalize p.types[i]=m at A x g
  unfold Ty.cells at x
  simp only[go_sem,Nat.reduceAdd,BR,d,decide_true,S,Bj x]
  have U:Kp w u (T.set (T.set w u (one [.str 0 0,.bool false])) u (one [m.nm.v,.bool m.arr])) (u+1):=
   ((Kp.refl _ _).new (m:=u+1) _ (Nat.le_refl _) (by omega)).new _ (Nat.le_refl _) (Nat.le_refl _)
  refine AHW A λH5 n5 W=>?_
  have O:=f.trans (U.trans W)
  simp only[BZ,go_sem]
  show _
  cases P:AGW m.nm.1 m.nm.2 with
  |false=>
   rw[show UG m.nm=false from P]at g
   simp only[Bool.not_false,go_sem]
   exact g _ _ O
  |true=>
   rw[show UG m.nm=true from P]at g
   simp only[Bool.not_true,go_sem,DI (show i+1<9223372036854775808 by unfold big at B;omega)]
   exact R _ _ (by omega) ⟨i+1,_,_,rfl,d,rfl,O,g⟩
 ·simp only[go_sem,BR,d,decide_false]
  delta PZ
  rw[List.drop_eq_nil_of_le (by omega)]at g
  have Q:T.get w b=_:=(f.same b M).trans D
  have X:lenV C=some (.int .i64 (.ofNat p.fields.length) 0):=by rw[h.e3.len,List.length_map]
  simp only[go_sem,Nat.reduceAdd,AU (off:=3) Q (v:=C) rfl,X]
  exact APA N (Nat.lt_of_lt_of_le M f.le) Q λH' n' Y=>g _ _ (f.trans Y)
def zZ(p:Pool):Bool:=p.names.all dh&&((p.types.all λt=>UG t.nm)&&(p.fields.all AR2&&p.Bg.all ANs))
theorem ARe{G:AY}{p:Pool}{K u C L M:V}{ws:List V}{H:Heap}{n b:Nat}{k:KV}(h:Fh G H n p K u C L M ws)(N:b<n)(D:T.get H b=some (one [K,u,C,L,M]))
 (g:∀H' n',Kp H n H' n'->k (.bool (zZ p)) H' n'):
 lfp (V×V×V×V×Heap×Nat) (NC lfp G (Runs F G) k) (.ptr b 0,u,.int .i64 (.ofNat p.names.length) 0,.int .i64 (.ofNat 0) 0,H,n):=by
 refine IY (J:=λm st=>∃i w B,m=p.names.length-i/\i<=p.names.length/\st=(.ptr b 0,u,.int .i64 (.ofNat p.names.length) 0,.int .i64 (.ofNat i) 0,w,B)/\Kp H n w B/\(∀H' n',Kp H n H' n'->k (.bool ((p.names.drop i).all dh&&((p.types.all λt=>UG t.nm)&&(p.fields.all AR2&&p.Bg.all ANs)))) H' n')) ?_ (m:=p.names.length) ⟨0,H,n,rfl,Nat.zero_le _,rfl,Kp.refl _ _,g⟩
 rintro I m st ⟨i,w,B,rfl,X,rfl,f,g⟩ R
 show Oq lfp G (Runs F G) k I (.ptr b 0) u (.int .i64 (.ofNat p.names.length) 0) (.int .i64 (.ofNat i) 0) w B
 delta Oq
 have E:=h.kp f
 by_cases d:i<p.names.length
 ·obtain⟨q,S,x⟩:=E.e1.at (Sz d)
  have y:=h.o1 _ (List.getElem_mem d)
  have A:=h.b1
  rw[List.drop_eq_getElem_cons d,List.all_cons]at g
  generalize p.names[i]=m at y x g
  simp only[go_sem,Nat.reduceAdd,BR,d,decide_true,S,Jv x]
  refine AOB y λY Z U=>?_
  rw[BZ,show(upper m.1 m.2&&decide (m.1<=40))=dh m from rfl]
  have O:=f.trans U
  cases P:dh m with
  |false=>
   rw[P]at g
   simp only[Bool.not_false,go_sem]
   exact g _ _ O
  |true=>
   rw[P]at g
   simp only[Bool.not_true,go_sem,DI (show i+1<9223372036854775808 by unfold big at A;omega)]
   exact R _ _ (by omega) ⟨i+1,_,_,rfl,d,rfl,O,g⟩
 ·simp only[go_sem,BR,d,decide_false]
  delta QG
  rw[List.drop_eq_nil_of_le (by omega)]at g
  have Q:T.get w b=_:=(f.same b N).trans D
  simp only[go_sem,Nat.reduceAdd,AU (off:=2) Q (v:=C) rfl,E.t2.len]
  exact AQg E (Nat.lt_of_lt_of_le N f.le) Q λH' n' W=>g _ _ (f.trans W)
def cnts(p:Pool):List Nat:=[p.nums.length,p.names.length,p.types.length,p.fields.length,p.Bg.length]
theorem ASZ{G:AY}{p:Pool}{v x w y A B:V}{ws:List V}{H:Heap}{n b:Nat}{k:KV}(h:Fh G H n p x w y A B ws)(D:b<n)(g:T.get H b=some (one [x,w,y,A,B]))
 {xs:List Nat} (E:El G H v 1 (xs.map λ(a:Nat)=>[V.int .i64 (.ofNat a) 0])) (K:xs.length<big)
 (f:∀H' n',Kp H n H' n'->k (.bool ((xs.all λa=> !decide (16384<a))&&zZ p)) H' n'):
 lfp (V×V×V×V×Heap×Nat) (NG lfp G (Runs F G) k) (.ptr b 0,v,.int .i64 (.ofNat xs.length) 0,.int .i64 (.ofNat 0) 0,H,n):=by
 refine IY (J:=λm st=>∃i,m=xs.length-i/\i<=xs.length/\st=(.ptr b 0,v,.int .i64 (.ofNat xs.length) 0,.int .i64 (.ofNat i) 0,H,n)/\(∀H' n',Kp H n H' n'->k (.bool (((xs.drop i).all λa=> !decide (16384<a))&&zZ p)) H' n')) ?_ (m:=xs.length) ⟨0,rfl,Nat.zero_le _,rfl,f⟩
 rintro I m st ⟨i,rfl,O,rfl,f⟩ L
 show OV lfp G (Runs F G) k I (.ptr b 0) v (.int .i64 (.ofNat xs.length) 0) (.int .i64 (.ofNat i) 0) H n
 delta OV
 by_cases d:i<xs.length
 ·obtain⟨q,M,u⟩:=E.at (i:=i) (c:=[V.int .i64 (.ofNat xs[i]) 0]) (by simp[d])
  rw[List.drop_eq_getElem_cons d,List.all_cons]at f
  generalize xs[i]=m at u f
  simp only[go_sem,Nat.reduceAdd,BR,d,decide_true,M,Jv u,IL]
  cases C:decide (16384<m)with
  |true=>
   rw[C]at f
   simp only[go_sem]
   exact f _ _ (Kp.refl _ _)
  |false=>
   rw[C]at f
   simp only[go_sem,DI (show i+1<9223372036854775808 by unfold big at K;omega)]
   exact L _ _ (by omega) ⟨i+1,rfl,d,rfl,f⟩
 ·simp only[go_sem,BR,d,decide_false]
  delta QH
  rw[List.drop_eq_nil_of_le (by omega)]at f
  have N:lenV w=some (.int .i64 (.ofNat p.names.length) 0):=by rw[h.e1.len,JH]
  simp only[go_sem,Nat.reduceAdd,AU (off:=1) g (v:=w) rfl,N]
  exact ARe h D g f
def AON(p:Pool):Bool:=(cnts p).all (λa=> !decide (16384<a))&&zZ p
theorem APz{G:AY}{p:Pool}{d g u i q:V}{ws:List V}{H:Heap}{n:Nat}{k:KV}(h:Fh G H n p d g u i q ws)
 (D:∀H' n',Kp H n H' n'->k (.bool (AON p)) H' n'):Runs F G cZ [.agg [d,g,u,i,q]] H n k:=by
 refine go1 (ABL BF G) ?_
 delta fA
 have E:lenV d=some (.int .i64 (.ofNat p.nums.length) 0):=by rw[h.e0.len,List.length_map]
 have I:lenV g=some (.int .i64 (.ofNat p.names.length) 0):=by rw[h.e1.len,JH]
 have J:lenV i=some (.int .i64 (.ofNat p.fields.length) 0):=by rw[h.e3.len,List.length_map]
 have K:lenV q=some (.int .i64 (.ofNat p.Bg.length) 0):=by rw[h.e4.len,List.length_zipWith,h.AHO,Nat.min_self]
 simp only[go_sem,Nat.reduceAdd,E,I,h.t2.len,J,K]
 rw[AcZ (by intro v A;simp at A;rcases A with rfl|rfl|rfl|rfl|rfl<;>exact⟨rfl,rfl⟩)]
 have C:Kp H n (T.set H n (one [d,g,u,i,q])) (n+1):=(Kp.refl H n).new _ (Nat.le_refl _) (by omega)
 have w:=T.Ag H n (one [d,g,u,i,q])
 generalize T.set H n (one [d,g,u,i,q])=H1 at C w⊢
 generalize hB:(Nu.arr 1 5 (T.set (T.set (T.set (T.set (T.set (AGU [V.int .i64 (.ofNat 0) 0] 5 .e) 0 [V.int .i64 (.ofNat p.nums.length) 0]) 1 [V.int .i64 (.ofNat p.names.length) 0]) 2 [V.int .i64 (.ofNat p.types.length) 0]) 3 [V.int .i64 (.ofNat p.fields.length) 0]) 4 [V.int .i64 (.ofNat p.Bg.length) 0]))=B
 have y:=C.new (m:=n+1+1) B (id:=n+1) (by omega) (by omega)
 have x:=T.Ag H1 (n+1) B
 have w:T.get (T.set H1 (n+1) B) n=_:=(T.Ac _ _ (by omega)).trans w
 generalize T.set H1 (n+1) B=H2 at y w x⊢
 subst hB
 have L:=AZY (G:=G) x
 have M:lenV (.sl (n+1) 0 5 5 1)=some (.int .i64 (.ofNat 5) 0):=rfl
 simp only[go_sem,Nat.reduceAdd,M]
 exact ASZ (xs:=cnts p) (h.kp y) (by omega) w L (by show 5<big;decide) λH' n' f=>D _ _ (y.trans f)
def APg:List Nat:=[0,110,0,108,108,0,0,0,0,0,0,0,0,0,0,0,102,102,99,116,116,116,0,99,99,109,109,106,106,0,0,0,98]
def zX(G:AY):Prop:=∀c,c<33->G 0 (c*2+1) 1=some [V.int .i32 (.ofNat (APg.getD c 0)) 0]
def known(c:Int):Bool:=decide (1<=c)&&decide (c<=32)
def AIP(c:Int):Nat:=bif known c then APg.getD c.toNat 0 else 0
theorem AQO(q:IntKind)(a b:Int):B2.ev .geq (.int q a 0) (.int q b 0)=some (.bool (decide (b<=a))):=by
 show BI (band (keq q q) true) (mkB (ile b a))=_
 rw[TR,AD8,show band (keq q q) true=true by simp[OJ]];rfl
theorem AT3(q:IntKind)(a b:Int):B2.ev .gtr (.int q a 0) (.int q b 0)=some (.bool (decide (b<a))):=by
 show BI (band (keq q q) true) (mkB (ilt b a))=_
 rw[TR,ZX,show band (keq q q) true=true by simp[OJ]];rfl
theorem Adc(q:IntKind)(a b:Int):B2.ev .lss (.int q a 0) (.int q b 0)=some (.bool (decide (a<b))):=by
 show BI (band (keq q q) true) (mkB (ilt a b))=_
 rw[TR,ZX,show band (keq q q) true=true by simp[OJ]];rfl
theorem ATb{G:AY}{c:Int}{H:Heap}{n:Nat}{k:KV}(d:k (.bool (known c)) H n):Runs F G ZM [.int .i64 c 0] H n k:=by
 refine go1 (AHh BF G) ?_
 delta vI
 unfold known at d
 simp only[go_sem,AQO,AMq]
 rw[show decide (Int.ofNat 1<=c)=decide (1<=c)from rfl]
 cases h:decide (1<=c)with
 |false=>rw[h]at d;simp only[go_sem];exact d
 |true=>rw[h]at d;simp only[go_sem,AMq];exact d
theorem ATV{G:AY}(g:zX G){c:Int}{H:Heap}{n:Nat}{k:KV}(d:k (.int .i32 (.ofNat (AIP c)) 0) H n):Runs F G AAo [.int .i64 c 0] H n k:=by
 refine go1 (AIz BF G) ?_
 delta AAy
 refine ATb ?_
 unfold AIP at d
 cases h:known c with
 |false=>rw[h]at d;simp only[BZ,Bool.not_false,go_sem];exact d
 |true=>
  rw[h]at d
  simp only[BZ,Bool.not_true,go_sem]
  obtain⟨m,rfl⟩:∃m:Nat,c=.ofNat m:=⟨c.toNat,by simp[known]at h;show c=((c.toNat:Nat):Int);omega⟩
  have f:m<33:=by simp[known]at h;omega
  have i:AT8 33 2 (.gptr 0 0) (.int .i64 (.ofNat m) 0)=some (.gptr 0 (m*2)):=by
   show BI (Nat.blt m 33) (AQ (Nat.mul m 2) (.gptr 0 0))=_
   rw[show Nat.blt m 33=true by rw[Nat.blt_eq];exact f,show BI true (AQ (Nat.mul m 2) (.gptr 0 0))=AQ (Nat.mul m 2) (.gptr 0 0)from rfl,AOD,Nat.zero_add]
   rfl
  have p:AX (.gptr 0 (m*2+1)) G H=some (.int .i32 (.ofNat (APg.getD m 0)) 0):=Jv (g m f)
  simp only[go_sem,i,p]
  exact d
structure Ins where
 code:Int
 arg:Int
def Ins.cells(i:Ins):LV:=[.int .i64 i.code 0,.int .i64 i.arg 0]
structure Bd where
 locals:Int
 stack:Int
 code:List Ins
def ASb(G:AY)(H0:Heap)(n0:Nat)(v:V)(g:Nat->Int):Prop:=
 ∃f a c,v=.fn f a c/\∀(q:Nat) {H:Heap} {n:Nat} {k:KV},Kp H0 n0 H n->k (.int .i64 (g q) 0) H n->Runs F G f (cat a (cat [.int .i32 (.ofNat q) 0] c)) H n k
def Xm(g:Nat->Int)(i:Ins):Bool:=
 known i.code&&bif decide (AIP i.code=0)then decide (i.arg=0)else(decide (0<=i.arg)&&decide (i.arg<g (AIP i.code)))
theorem ABG(q:IntKind)(a:Int):Es (.int q a 0) (.int q a 0)=true:=by
 show Rj (.int q a 0) (.int q a 0)=true
 simp[Rj,AQ3,BK,OJ,U4]
theorem Acf(q:IntKind)(a:Int)(P:Prop):ACX (.bool true) true (some (.int q a 0)) (.int q a 0) P=P:=by
 show Ji (Es (.int q a 0) (.int q a 0)) P=P
 rw[ABG];rfl
theorem AIU(x y:Nat):CU (.one .int) false (.int .i32 (.ofNat x) 0) (.int .i32 (.ofNat y) 0)=some (.bool (decide (x=y))):=by
 show ofB (Ld (some (ieq (.ofNat x) (.ofNat y))) λb=>some b)=_
 rw[U4,show(Int.ofNat x==Int.ofNat y)=decide (x=y)by rw[Bool.eq_iff_iff];simp;omega];cases decide (x=y)<;>rfl
theorem AhH(x:Int):CU (.one .int) false (.int .i64 x 0) (.int .i64 (.ofNat 0) 0)=some (.bool (decide (x=0))):=by
 rw[eq_i,show(x==Int.ofNat 0)=decide (x=0)by rw[Bool.eq_iff_iff];simp]
theorem AOU{G:AY}(x:zX G){i:Ins}{v:V}{g:Nat->Int}{H:Heap}{n:Nat}{k:KV}(y:ASb G H n v g)
 (d:∀H' n',Kp H n H' n'->k (.bool (Xm g i)) H' n'):Runs F G o9 [.agg i.cells,v] H n k:=by
 refine go2 (AFM BF G) ?_
 delta og
 unfold Xm at d
 unfold Ins.cells
 have m:Kp H n (T.set H n (one [V.int .i64 i.code 0,.int .i64 i.arg 0])) (n+1):=(Kp.refl H n).new _ (Nat.le_refl _) (by omega)
 have q:=T.Ag H n (one [V.int .i64 i.code 0,.int .i64 i.arg 0])
 simp only[go_sem]
 generalize T.set H n (one [V.int .i64 i.code 0,.int .i64 i.arg 0])=H1 at m q⊢
 have A:AX (.ptr n 0) G H1=some (.int .i64 i.code 0):=AU q rfl
 have p:AX (.ptr n 1) G H1=some (.int .i64 i.arg 0):=AU q rfl
 refine ATb ?_
 simp only[BZ]
 cases h:known i.code with
 |false=>
  rw[h]at d
  simp only[Bool.not_false,go_sem]
  exact d _ _ m
 |true=>
  rw[h]at d
  simp only[Bool.not_true,go_sem,Nat.reduceAdd,A]
  refine ATV x ?_
  simp only[go_sem,AIU]
  cases u:decide (AIP i.code=0)with
  |true=>
   rw[u]at d
   simp only[go_sem,Nat.reduceAdd,p,AhH]
   exact d _ _ m
  |false=>
   rw[u]at d
   simp only[go_sem,Nat.reduceAdd,p,AQO]
   rw[show decide (Int.ofNat 0<=i.arg)=decide (0<=i.arg)from rfl]
   cases w:decide (0<=i.arg)with
   |false=>
    rw[w]at d
    simp only[go_sem]
    exact d _ _ m
   |true=>
    rw[w]at d
    obtain⟨f,a,c,rfl,B⟩:=y
    simp only[go_sem,Nat.reduceAdd,p]
    show Runs F G f (cat a (cat [_] c)) H1 (n+1) _
    refine B _ m ?_
    simp only[go_sem,p,Acf,Adc]
    exact d _ _ m
structure Fl where
 face:Fc
 pool:Pool
 bodies:List Bd
def mny(p:Pool)(b:Bd)(q:Nat):Int:=
 bif decide (q=110)then p.nums.length else bif decide (q=99)then p.names.length else bif decide (q=116)then p.types.length else bif decide (q=102)then p.fields.length else
 bif decide (q=109)then p.Bg.length else bif decide (q=108)then b.locals else bif decide (q=106)then b.code.length else 2
theorem Aay{G:AY}{p:Pool}{b:Bd}{c0 M N O u v B w x P y:V}{ws:List V}{H:Heap}{n i j:Nat}(hi:i<n)(Q:j<n)(h:Fh G H n p u v B w x ws)
 (R:El G H y 2 (b.code.map Ins.cells))
 (m:T.get H i=some (one [c0,M,N,O,u,v,B,w,x,P])) (A:T.get H j=some (one [V.int .i64 b.locals 0,.int .i64 b.stack 0,y])):
 ASb G H n (.fn TN [] [.ptr i 0,.ptr j 0]) (mny p b):=by
 refine⟨_,_,_,rfl,λq {g S k} f d=>?_⟩
 have m:T.get g i=_:=(f.same i hi).trans m
 have A:T.get g j=_:=(f.same j Q).trans A
 show Runs F G TN [.int .i32 (.ofNat q) 0,.ptr i 0,.ptr j 0] g S k
 refine go3 (AAs BF G) ?_
 delta Zt
 have U:lenV u=some (.int .i64 (.ofNat p.nums.length) 0):=by rw[h.e0.len,List.length_map]
 have W:lenV v=some (.int .i64 (.ofNat p.names.length) 0):=by rw[h.e1.len,JH]
 have X:lenV w=some (.int .i64 (.ofNat p.fields.length) 0):=by rw[h.e3.len,List.length_map]
 have Y:lenV x=some (.int .i64 (.ofNat p.Bg.length) 0):=by rw[h.e4.len,List.length_zipWith,h.AHO,Nat.min_self]
 have Z:lenV y=some (.int .i64 (.ofNat b.code.length) 0):=by rw[R.len,List.length_map]
 have e4:AX (.ptr i 4) G g=some u:=AU m rfl
 have e5:AX (.ptr i 5) G g=some v:=AU m rfl
 have e6:AX (.ptr i 6) G g=some B:=AU m rfl
 have e7:AX (.ptr i 7) G g=some w:=AU m rfl
 have e8:AX (.ptr i 8) G g=some x:=AU m rfl
 have f0:AX (.ptr j 0) G g=some (.int .i64 b.locals 0):=AU A rfl
 have f2:AX (.ptr j 2) G g=some y:=AU A rfl
 unfold mny at d
 simp only[go_sem,AIU]
 cases C:decide (q=110)with
 |true=>rw[C]at d;simp only[go_sem,Nat.reduceAdd,e4,U];exact d
 |false=>
  rw[C]at d;simp only[go_sem,AIU]
  cases D:decide (q=99)with
  |true=>rw[D]at d;simp only[go_sem,Nat.reduceAdd,e5,W];exact d
  |false=>
   rw[D]at d;simp only[go_sem,AIU]
   cases E:decide (q=116)with
   |true=>rw[E]at d;simp only[go_sem,Nat.reduceAdd,e6,h.t2.len];exact d
   |false=>
    rw[E]at d;simp only[go_sem,AIU]
    cases I:decide (q=102)with
    |true=>rw[I]at d;simp only[go_sem,Nat.reduceAdd,e7,X];exact d
    |false=>
     rw[I]at d;simp only[go_sem,AIU]
     cases J:decide (q=109)with
     |true=>rw[J]at d;simp only[go_sem,Nat.reduceAdd,e8,Y];exact d
     |false=>
      rw[J]at d;simp only[go_sem,AIU]
      cases K:decide (q=108)with
      |true=>rw[K]at d;simp only[go_sem,Nat.reduceAdd,f0];exact d
      |false=>
       rw[K]at d;simp only[go_sem,AIU]
       cases L:decide (q=106)with
       |true=>rw[L]at d;simp only[go_sem,Nat.reduceAdd,f2,Z];exact d
       |false=>rw[L]at d;simp only[go_sem];exact d
theorem ASi{G:AY}{p:Pool}{b:Bd}{c0 x y A f g i q u B d:V}{ws:List V}{H:Heap}{n:Nat}{k:KV}(h:Fh G H n p f g i q u ws)
 (C:El G H d 2 (b.code.map Ins.cells)) (D:Lo d n)
 (E:∀H' n' v,Kp H n H' n'->ASb G H' n' v (mny p b)->k v H' n'):
 Runs F G jV [.agg [c0,x,y,A,f,g,i,q,u,B],.agg [V.int .i64 b.locals 0,.int .i64 b.stack 0,d]] H n k:=by
 refine go2 (ADR BF G) ?_
 delta jI
 simp only[go_sem]
 have w:=((Kp.refl H n).new (m:=n+1) (id:=n) (one [c0,x,y,A,f,g,i,q,u,B]) (Nat.le_refl _) (by omega)).new (m:=n+1+1) (id:=n+1) (one [V.int .i64 b.locals 0,.int .i64 b.stack 0,d]) (by omega) (by omega)
 exact E _ _ _ w (Aay (by omega) (by omega) (h.kp w) (C.kp D w) (by rw[T.Ac _ _ (by omega),T.Ag]) (T.Ag ..))
def Bd.cells(b:Bd)(w:V):LV:=[.int .i64 b.locals 0,.int .i64 b.stack 0,w]
structure O1(G:AY)(H:Heap)(n:Nat)(v:V)(is:List Ins):Prop where
 el:El G H v 2 (is.map Ins.cells)
 lo:Lo v n
 lt:is.length<big
theorem O1.kp{G:AY}{H H':Heap}{n n':Nat}{v:V}{is:List Ins}(h:O1 G H n v is)(f:Kp H n H' n'):O1 G H' n' v is:=⟨h.el.kp h.lo f,h.lo.mono f.le,h.lt⟩
structure Jk(G:AY)(H:Heap)(n:Nat)(v:V)(bs:List Bd)(ws:List V):Prop where
 el:El G H v 3 (List.zipWith Bd.cells bs ws)
 lo:Lo v n
 lt:bs.length<big
 len:ws.length=bs.length
 at':∀(i:Nat) (b:Bd) (w:V),bs[i]? =some b->ws[i]? =some w->O1 G H n w b.code
theorem Jk.kp{G:AY}{H H':Heap}{n n':Nat}{v:V}{d:List Bd}{ws:List V}(h:Jk G H n v d ws)(f:Kp H n H' n'):Jk G H' n' v d ws:=
 ⟨h.el.kp h.lo f,h.lo.mono f.le,h.lt,h.len,λi b w x y=>(h.at' i b w x y).kp f⟩
theorem AU4(i:Ins):Es (.agg i.cells) (.agg i.cells)=true:=by
 show ALE [V.int .i64 i.code 0,.int .i64 i.arg 0] [V.int .i64 i.code 0,.int .i64 i.arg 0]=true
 show band (Rj _ _) (band (Rj _ _) true)=true
 simp[Rj,AQ3,BK,OJ,U4]
theorem AR1{G:AY}(hG:zX G){p:Pool}{b:Bd}{c0 Y Z c3 M N O P Q vb E x y A:V}{ws:List V}{H:Heap}{n i j:Nat}{k:KV}{w:(V×V×V×V×Heap×Nat)->Prop}
 (hi:i<n) (hj:j<n) (h:Fh G H n p M N O P Q ws) (L:O1 G H n E b.code)
 (gi:T.get H i=some (one [c0,Y,Z,c3,M,N,O,P,Q,vb])) (gj:T.get H j=some (one (b.cells E)))
 (d:b.code.all (Xm (mny p b))=false->∀H' n',Kp H n H' n'->k (.bool false) H' n')
 (g:b.code.all (Xm (mny p b))=true->∀H' n',Kp H n H' n'->Eh lfp G (Runs F G) k w (.ptr i 0) x y A H' n'):
 lfp (V×V×V×V×V×V×V×V×Heap×Nat) (NW lfp G (Runs F G) k w) (.ptr i 0,.ptr j 0,x,y,A,E,.int .i64 (.ofNat b.code.length) 0,.int .i64 (.ofNat 0) 0,H,n):=by
 refine IY (J:=λm st=>∃e C u,m=b.code.length-e/\e<=b.code.length/\st=(.ptr i 0,.ptr j 0,x,y,A,E,.int .i64 (.ofNat b.code.length) 0,.int .i64 (.ofNat e) 0,C,u)/\Kp H n C u/\
  ((b.code.drop e).all (Xm (mny p b))=false->∀H' n',Kp H n H' n'->k (.bool false) H' n')/\
  ((b.code.drop e).all (Xm (mny p b))=true->∀H' n',Kp H n H' n'->Eh lfp G (Runs F G) k w (.ptr i 0) x y A H' n')) ?_ (m:=b.code.length) ⟨0,H,n,rfl,Nat.zero_le _,rfl,Kp.refl _ _,d,g⟩
 rintro I m st ⟨e,C,u,rfl,he,rfl,f,d,g⟩ ih
 show OT lfp G (Runs F G) k w I (.ptr i 0) (.ptr j 0) x y A E (.int .i64 (.ofNat b.code.length) 0) (.int .i64 (.ofNat e) 0) C u
 delta OT
 by_cases B:e<b.code.length
 ·have R:=L.kp f
  obtain⟨q,hp,D⟩:=R.el.at (i:=e) (c:=b.code[e].cells) (by simp[B])
  have K:=L.lt
  rw[List.drop_eq_getElem_cons B,List.all_cons]at d g
  generalize b.code[e]=s at D d g
  have hs:=AU4 s
  unfold Ins.cells at D hs
  simp only[go_sem,Nat.reduceAdd,BR,B,decide_true,hp,Bj D]
  have f2:Kp C u (T.set (T.set C u (one [.int .i64 (.ofNat 0) 0,.int .i64 (.ofNat 0) 0])) u (one [.int .i64 s.code 0,.int .i64 s.arg 0])) (u+1):=
   ((Kp.refl _ _).new (m:=u+1) _ (Nat.le_refl _) (by omega)).new _ (Nat.le_refl _) (Nat.le_refl _)
  have S:=T.Ag (T.set C u (one [.int .i64 (.ofNat 0) 0,.int .i64 (.ofNat 0) 0])) u (one [V.int .i64 s.code 0,.int .i64 s.arg 0])
  generalize T.set (T.set C u (one [.int .i64 (.ofNat 0) 0,.int .i64 (.ofNat 0) 0])) u (one [V.int .i64 s.code 0,.int .i64 s.arg 0])=H3 at f2 S⊢
  have f3:=f.trans f2
  have U:T.get H3 i=_:=(f3.same i hi).trans gi
  have W:T.get H3 j=_:=(f3.same j hj).trans gj
  have e1:Aj 2 (.ptr u 0) G H3=some (.agg [.int .i64 s.code 0,.int .i64 s.arg 0]):=CG S (by omega) rfl
  have e2:Aj 10 (.ptr i 0) G H3=some (.agg [c0,Y,Z,c3,M,N,O,P,Q,vb]):=CG U (by omega) rfl
  have e3:Aj 3 (.ptr j 0) G H3=some (.agg (b.cells E)):=CG W (by omega) rfl
  simp only[go_sem,Nat.reduceAdd,e1,e2,e3]
  refine ASi (h.kp f3) (L.kp f3).el (L.kp f3).lo λH4 n4 v f4 hv=>?_
  have X:T.get H4 u=_:=(f4.same u (by omega)).trans S
  have e4:Aj 2 (.ptr u 0) G H4=some (.agg [.int .i64 s.code 0,.int .i64 s.arg 0]):=CG X (by omega) rfl
  simp only[go_sem,e4,hs]
  refine AOU (i:=s) hG hv λH5 n5 f5=>?_
  have f6:=f3.trans (f4.trans f5)
  simp only[BZ,go_sem]
  cases h2:Xm (mny p b) s with
  |false=>
   rw[h2]at d
   simp only[Bool.not_false,go_sem]
   exact d rfl _ _ f6
  |true=>
   rw[h2]at d g
   simp only[Bool.not_true,go_sem,DI (show e+1<9223372036854775808 by unfold big at K;omega)]
   exact ih _ _ (by omega) ⟨e+1,_,_,rfl,B,rfl,f6,d,g⟩
 ·simp only[go_sem,BR,B,decide_false]
  rw[List.drop_eq_nil_of_le (by omega)]at g
  exact g rfl _ _ f
def least(m:Cb):Nat:=bif m.st then m.ps.length else m.ps.length+1
def ADr(p:Pool)(m:Cb)(b:Bd):Bool:=
 !decide (b.locals<least m)&&(!decide ((401:Int)<b.locals)&&(!decide (b.stack<0)&&(!decide ((1000:Int)<b.stack)&&(!decide (b.code.length<1)&&(!decide (16384<b.code.length)&&b.code.all (Xm (mny p b)))))))
def Yl(p:Pool):List Cb->List Bd->Bool
 |m::ms,b::bs=>ADr p m b&&Yl p ms bs
 |_,_=>true
theorem ASy{G:AY}(S:zX G){p:Pool}{m:Cb}{b:Bd}{c0 U W X B C D E I Y x q u v:V}{ws:List V}{H:Heap}{n i j:Nat}{k:KV}{g:(V×V×V×V×Heap×Nat)->Prop}
 (hi:i<n) (Z:j<n) (h:Fh G H n p B C D E I ws) (J:O1 G H n x b.code)
 (gi:T.get H i=some (one [c0,U,W,X,B,C,D,E,I,Y])) (w:T.get H j=some (one (b.cells x)))
 (d:ADr p m b=false->∀H' n',Kp H n H' n'->k (.bool false) H' n')
 (f:ADr p m b=true->∀H' n',Kp H n H' n'->Eh lfp G (Runs F G) k g (.ptr i 0) q u v H' n'):
 Ej lfp G (Runs F G) k g (.ptr i 0) (.ptr j 0) (.int .i64 (.ofNat (least m)) 0) q u v H n:=by
 delta Ej
 unfold ADr at d f
 unfold Bd.cells at w
 have K:AX (.ptr j 0) G H=some (.int .i64 b.locals 0):=AU w rfl
 have L:AX (.ptr j 1) G H=some (.int .i64 b.stack 0):=AU w rfl
 have y:AX (.ptr j 2) G H=some x:=AU w rfl
 have A:lenV x=some (.int .i64 (.ofNat b.code.length) 0):=by rw[J.el.len,List.length_map]
 simp only[go_sem,Nat.reduceAdd,K,Adc]
 rw[show decide (b.locals<Int.ofNat (least m))=decide (b.locals<least m)from rfl]
 cases M:decide (b.locals<least m)with
 |true=>rw[M]at d;simp only[go_sem];exact d rfl _ _ (Kp.refl _ _)
 |false=>
  rw[M]at d f;simp only[go_sem,Nat.reduceAdd,K,AT3]
  rw[show decide (Int.ofNat 401<b.locals)=decide ((401:Int)<b.locals)from rfl]
  cases N:decide ((401:Int)<b.locals)with
  |true=>rw[N]at d;simp only[go_sem];exact d rfl _ _ (Kp.refl _ _)
  |false=>
   rw[N]at d f;simp only[go_sem,Nat.reduceAdd,L,Adc]
   rw[show decide (b.stack<Int.ofNat 0)=decide (b.stack<0)from rfl]
   cases O:decide (b.stack<0)with
   |true=>rw[O]at d;simp only[go_sem];exact d rfl _ _ (Kp.refl _ _)
   |false=>
    rw[O]at d f;simp only[go_sem,Nat.reduceAdd,L,AT3]
    rw[show decide (Int.ofNat 1000<b.stack)=decide ((1000:Int)<b.stack)from rfl]
    cases P:decide ((1000:Int)<b.stack)with
    |true=>rw[P]at d;simp only[go_sem];exact d rfl _ _ (Kp.refl _ _)
    |false=>
     rw[P]at d f;simp only[go_sem,Nat.reduceAdd,y,A,BR]
     cases Q:decide (b.code.length<1)with
     |true=>rw[Q]at d;simp only[go_sem];exact d rfl _ _ (Kp.refl _ _)
     |false=>
      rw[Q]at d f;simp only[go_sem,Nat.reduceAdd,y,A,IL]
      cases R:decide (16384<b.code.length)with
      |true=>rw[R]at d;simp only[go_sem];exact d rfl _ _ (Kp.refl _ _)
      |false=>
       rw[R]at d f;simp only[go_sem,Nat.reduceAdd,y,A]
       exact AR1 S hi Z h J gi w d f
theorem AO8{G:AY}(hG:zX G){p:Pool}{c:Fc}{x:List Bd}{vf W v0 v1 v2 v3 v4 L:V}{X ws D:List V}{H:Heap}{n i:Nat}{k:KV}
 (hi:i<n) (hm:J5 G H n W c.ms X) (h:Fh G H n p v0 v1 v2 v3 v4 ws) (Y:Jk G H n L x D) (d5:x.length=c.ms.length) (Z:∀m∈c.ms,m.ps.length<=200)
 (gi:T.get H i=some (one [c.nm.v,c.sup.v,vf,W,v0,v1,v2,v3,v4,L]))
 (y:∀H' n',Kp H n H' n'->k (.bool (Yl p c.ms x)) H' n'):
 lfp (V×V×V×V×Heap×Nat) (NY lfp G (Runs F G) k) (.ptr i 0,L,.int .i64 (.ofNat x.length) 0,.int .i64 (.ofNat 0) 0,H,n):=by
 refine IY (J:=λm st=>∃e K d,m=x.length-e/\e<=x.length/\st=(.ptr i 0,L,.int .i64 (.ofNat x.length) 0,.int .i64 (.ofNat e) 0,K,d)/\Kp H n K d/\
  (∀H' n',Kp H n H' n'->k (.bool (Yl p (c.ms.drop e) (x.drop e))) H' n')) ?_ (m:=x.length) ⟨0,H,n,rfl,Nat.zero_le _,rfl,Kp.refl _ _,y⟩
 rintro I m st ⟨e,K,d,rfl,he,rfl,f,y⟩ ih
 show N7 lfp G (Runs F G) k I (.ptr i 0) L (.int .i64 (.ofNat x.length) 0) (.int .i64 (.ofNat e) 0) K d
 delta N7
 by_cases g:e<x.length
 ·have A:e<c.ms.length:=by omega
  have hw:e<D.length:=by rw[Y.len];exact g
  have M:=Y.kp f
  obtain⟨q,hp,E⟩:=M.el.at (i:=e) (c:=x[e].cells D[e]) (by rw[List.getElem?_zipWith];simp[g,hw])
  have u:=M.at' e _ _ (List.getElem?_eq_getElem g) (List.getElem?_eq_getElem hw)
  have N:=Y.lt
  rw[List.drop_eq_getElem_cons g,List.drop_eq_getElem_cons A]at y
  unfold Yl at y
  generalize x[e]=b at E u y
  generalize D[e]=w at E u
  unfold Bd.cells at E
  simp only[go_sem,Nat.reduceAdd,BR,g,decide_true,hp,Bj E]
  have f2:Kp K d (T.set (T.set K d (one [.int .i64 (.ofNat 0) 0,.int .i64 (.ofNat 0) 0,.Ad])) d (one [.int .i64 b.locals 0,.int .i64 b.stack 0,w])) (d+1):=
   ((Kp.refl _ _).new (m:=d+1) _ (Nat.le_refl _) (by omega)).new _ (Nat.le_refl _) (Nat.le_refl _)
  have gj:=T.Ag (T.set K d (one [.int .i64 (.ofNat 0) 0,.int .i64 (.ofNat 0) 0,.Ad])) d (one [V.int .i64 b.locals 0,.int .i64 b.stack 0,w])
  generalize T.set (T.set K d (one [.int .i64 (.ofNat 0) 0,.int .i64 (.ofNat 0) 0,.Ad])) d (one [V.int .i64 b.locals 0,.int .i64 b.stack 0,w])=H3 at f2 gj⊢
  have f3:=f.trans f2
  have d0:T.get H3 i=_:=(f3.same i hi).trans gi
  obtain⟨q2,w2,d1,B,O⟩:=(hm.kp f3).at A
  have P:=Z _ (List.getElem_mem A)
  generalize c.ms[e]=mt at B O y P
  unfold Cb.cells at B
  have e3:AX (.ptr i 3) G H3=some W:=AU d0 rfl
  simp only[go_sem,Nat.reduceAdd,e3,d1,Bj B,O.len]
  have S:Kp H3 (d+1) (T.set (T.set H3 (d+1) (one [.str 0 0,.bool false,.Ad,.str 0 0,.bool false])) (d+1) (one [mt.nm.v,.bool mt.st,w2,mt.ret.nm.v,.bool mt.ret.arr])) (d+1+1):=
   ((Kp.refl _ _).new (m:=d+1+1) _ (Nat.le_refl _) (by omega)).new _ (Nat.le_refl _) (Nat.le_refl _)
  generalize T.set (T.set H3 (d+1) (one [.str 0 0,.bool false,.Ad,.str 0 0,.bool false])) (d+1) (one [mt.nm.v,.bool mt.st,w2,mt.ret.nm.v,.bool mt.ret.arr])=H4 at S⊢
  have U:=f3.trans S
  have d2:T.get H4 i=_:=(U.same i hi).trans gi
  have d3:T.get H4 d=_:=(S.same d (by omega)).trans gj
  have C:Ej lfp G (Runs F G) k I (.ptr i 0) (.ptr d 0) (.int .i64 (.ofNat (least mt)) 0) L (.int .i64 (.ofNat x.length) 0) (.int .i64 (.ofNat e) 0) H4 (d+1+1):=by
   refine ASy hG (p:=p) (m:=mt) (b:=b) (by have:=f.le;omega) (by omega) (h.kp U) (u.kp (f2.trans S)) d2 d3 ?_ ?_
   ·intro Q H' n' f'
    rw[Q]at y
    exact y _ _ (U.trans f')
   ·intro d4 H' n' f'
    rw[d4]at y
    delta Eh
    simp only[go_sem,DI (show e+1<9223372036854775808 by unfold big at N;omega)]
    exact ih _ _ (by omega) ⟨e+1,_,_,rfl,g,rfl,U.trans f',y⟩
  simp only[BZ]
  unfold least at C
  cases R:mt.st with
  |true=>rw[R]at C;simp only[Bool.not_true,go_sem];exact C
  |false=>rw[R]at C;simp only[Bool.not_false,go_sem,DI (show mt.ps.length+1<9223372036854775808 by omega)];exact C
 ·simp only[go_sem,BR,g,decide_false]
  delta Oi
  rw[List.drop_eq_nil_of_le (by omega),List.drop_eq_nil_of_le (by omega)]at y
  exact y _ _ f
theorem AHv:∀{a:St} {f:List Cb},MB a f=true->∀m∈f,m.ps.length<=200
 |_,[],_=>λm g=>by cases g
 |a,m::f,h=>by
  simp[MB]at h
  intro i d
  rcases List.mem_cons.1 d with rfl|d
  ·omega
  ·exact AHv h.2.2.2.2.2 i d
theorem AC5{c:Fc}(h:U3 c=true):∀m∈c.ms,m.ps.length<=200:=by
 simp[U3]at h
 exact AHv h.2.2.2.2.2.2.2
structure lN(G:AY)(H:Heap)(n:Nat)(L:LV)(f:Fl)(vf vm v0 v1 v2 v3 v4 vb:V)(mws ws bws:List V):Prop where
 is:L=[f.face.nm.v,f.face.sup.v,vf,vm,v0,v1,v2,v3,v4,vb]
 face:ZO G H n [f.face.nm.v,f.face.sup.v,vf,vm] f.face vf vm mws
 pool:Fh G H n f.pool v0 v1 v2 v3 v4 ws
 bodies:Jk G H n vb f.bodies bws
def P9(f:Fl):Bool:=U3 f.face&&(AON f.pool&&(decide (f.bodies.length=f.face.ms.length)&&Yl f.pool f.face.ms f.bodies))
theorem AQP{G:AY}(W:zX G){L:LV}{f:Fl}{q i u w x y A m:V}{C ws D:List V}{H:Heap}{n:Nat}{k:KV}(h:lN G H n L f q i u w x y A m C ws D)
 (d:∀H' n',Kp H n H' n'->k (.bool (P9 f)) H' n'):Runs F G eP [.agg L] H n k:=by
 refine go1 (ABP BF G) ?_
 obtain⟨rfl,E,P,I⟩:=h
 delta dK
 unfold P9 at d
 simp only[go_sem]
 have J:Kp H n (T.set H n (one [f.face.nm.v,f.face.sup.v,q,i,u,w,x,y,A,m])) (n+1):=(Kp.refl H n).new _ (Nat.le_refl _) (by omega)
 have g:=T.Ag H n (one [f.face.nm.v,f.face.sup.v,q,i,u,w,x,y,A,m])
 generalize T.set H n (one [f.face.nm.v,f.face.sup.v,q,i,u,w,x,y,A,m])=H1 at J g⊢
 have X:Aj 4 (.ptr n 0) G H1=some (.agg [f.face.nm.v,f.face.sup.v,q,i]):=GH g (by omega) (by show 4<=10;omega)
 simp only[go_sem,X]
 refine AH0 (E.kp J) λQ n2 B=>?_
 have g:T.get Q n=_:=(B.same n (by omega)).trans g
 have f3:=J.trans B
 simp only[BZ]
 cases K:U3 f.face with
 |false=>rw[K]at d;simp only[Bool.not_false,go_sem];exact d _ _ f3
 |true=>
  rw[K]at d
  have Y:Aj 5 (.ptr n 4) G Q=some (.agg [u,w,x,y,A]):=GH g (by omega) (by show 9<=10;omega)
  simp only[Bool.not_true,go_sem,Nat.reduceAdd,Y]
  refine APz (P.kp f3) λM n4 N=>?_
  have g:T.get M n=_:=(N.same n (by have:=B.le;omega)).trans g
  have p:=f3.trans N
  simp only[BZ,go_sem]
  cases R:AON f.pool with
  |false=>rw[R]at d;simp only[Bool.not_false,go_sem];exact d _ _ p
  |true=>
   rw[R]at d
   have S:AX (.ptr n 9) G M=some m:=AU g rfl
   have Z:AX (.ptr n 3) G M=some i:=AU g rfl
   have U:lenV m=some (.int .i64 (.ofNat f.bodies.length) 0):=by rw[I.el.len,List.length_zipWith,I.len,Nat.min_self]
   have lm:lenV i=some (.int .i64 (.ofNat f.face.ms.length) 0):=E.ms.len'
   simp only[Bool.not_true,go_sem,Nat.reduceAdd,S,Z,U,lm,AeP]
   cases O:decide (f.bodies.length=f.face.ms.length)with
   |false=>rw[O]at d;simp only[Bool.not_false,go_sem];exact d _ _ p
   |true=>
    rw[O]at d
    simp only[Bool.not_true,go_sem,Nat.reduceAdd,S,U]
    exact AO8 W (c:=f.face) (by have:=B.le;have:=N.le;omega) (E.ms.kp p) (P.kp p) (I.kp p) (of_decide_eq_true O) (AC5 K) g λH' n' f'=>d _ _ (p.trans f')
structure Ke(G:AY)(H:Heap)(n:Nat)(H':Heap)(n':Nat):Prop where
 le:n<=n'
 el:∀v z LS,Lo v n->El G H v z LS->El G H' v z LS
section
variable{G:AY}{H H' H'':Heap}{n n' n'':Nat}{v:V}
theorem _root_.Go.Bf.Kp.ke(f:Kp H n H' n'):Ke G H n H' n':=⟨f.le,λ_ _ _ d h=>h.kp d f⟩
theorem Ke.low{m:Nat}(f:Ke G H n H' n')(d:m<=n):Ke G H m H' m:=⟨Nat.le_refl _,λv z g i h=>f.el v z g (i.mono d) h⟩
theorem _root_.Go.Bf.El.ke{z:Nat}{LS:EL}(h:El G H v z LS)(d:Lo v n)(f:Ke G H n H' n'):El G H' v z LS:=f.el v z LS d h
theorem GY.ke{xs:List Ty}(h:GY G H n v xs)(f:Ke G H n H' n'):GY G H' n' v xs:=⟨h.el.ke h.lo f,h.lo.mono f.le,h.lt,h.ok⟩
theorem VD.ke{xs:List Fld}(h:VD G H n v xs)(f:Ke G H n H' n'):VD G H' n' v xs:=⟨h.el.ke h.lo f,h.lo.mono f.le,h.lt,h.ok⟩
theorem J5.ke{xs:List Cb}{ws:List V}(h:J5 G H n v xs ws)(f:Ke G H n H' n'):J5 G H' n' v xs ws:=
 ⟨h.el.ke h.lo f,h.lo.mono f.le,h.lt,h.len,λi m w a b=>(h.at' i m w a b).ke f,h.ok⟩
theorem ZO.ke{L:LV}{c:Fc}{v w:V}{ws:List V}(h:ZO G H n L c v w ws)(f:Ke G H n H' n'):ZO G H' n' L c v w ws:=⟨h.is,h.fs.ke f,h.ms.ke f,h.ok⟩
theorem Fh.ke{p:Pool}{d g k q u:V}{ws:List V}(h:Fh G H n p d g k q u ws)(f:Ke G H n H' n'):Fh G H' n' p d g k q u ws:=
 ⟨h.e0.ke h.l0 f,h.l0.mono f.le,h.b0,h.e1.ke h.l1 f,h.l1.mono f.le,h.b1,h.o1,h.t2.ke f,h.e3.ke h.l3 f,h.l3.mono f.le,h.b3,h.o3,h.e4.ke h.l4 f,h.l4.mono f.le,h.b4,h.AHO,
  λi m w a b=>(h.at4 i m w a b).ke f,h.o4⟩
theorem O1.ke{is:List Ins}(h:O1 G H n v is)(f:Ke G H n H' n'):O1 G H' n' v is:=⟨h.el.ke h.lo f,h.lo.mono f.le,h.lt⟩
theorem Jk.ke{d:List Bd}{ws:List V}(h:Jk G H n v d ws)(f:Ke G H n H' n'):Jk G H' n' v d ws:=
 ⟨h.el.ke h.lo f,h.lo.mono f.le,h.lt,h.len,λi b w x y=>(h.at' i b w x y).ke f⟩
theorem lN.ke{L:LV}{f:Fl}{i k m p q u v w:V}{d ws g:List V}(h:lN G H n L f i k m p q u v w d ws g)(e:Ke G H n H' n'):lN G H' n' L f i k m p q u v w d ws g:=
 ⟨h.is,h.face.ke e,h.pool.ke e,h.bodies.ke e⟩
def WB(G:AY)(H:Heap)(n:Nat)(v:V)(c:Fc):Prop:=∃vf vm ws,ZO G H n [c.nm.v,c.sup.v,vf,vm] c vf vm ws/\v=.agg [c.nm.v,c.sup.v,vf,vm]
theorem WB.ke{c:Fc}(h:WB G H n v c)(f:Ke G H n H' n'):WB G H' n' v c:=by
 obtain⟨d,g,i,h,k⟩:=h;exact⟨d,g,i,h.ke f,k⟩
def X7(G:AY)(H:Heap)(n:Nat)(v:V)(f:Fl):Prop:=∃L vf vm v0 v1 v2 v3 v4 vb mws ws bws,lN G H n L f vf vm v0 v1 v2 v3 v4 vb mws ws bws/\v=.agg L
theorem X7.ke{f:Fl}(h:X7 G H n v f)(e:Ke G H n H' n'):X7 G H' n' v f:=by
 obtain⟨L,i,k,m,p,q,u,w,x,d,y,g,h,A⟩:=h;exact⟨L,i,k,m,p,q,u,w,x,d,y,g,h.ke e,A⟩
def Js(H:Heap)(b:Nat):Prop:=∃ps,AAd H b ps
structure Kb(b:Nat)(H:Heap)(n:Nat)(H':Heap)(n':Nat):Prop where
 le:n<=n'
 same:∀id,id<n->id≠b->T.get H' id=T.get H id
 seen:Js H b->Js H' b
theorem Kb.refl(b:Nat)(H:Heap)(n:Nat):Kb b H n H n:=⟨Nat.le_refl _,λ_ _ _=>rfl,λh=>h⟩
theorem Kb.trans{b:Nat}(x:Kb b H n H' n')(y:Kb b H' n' H'' n''):Kb b H n H'' n'':=
 ⟨Nat.le_trans x.le y.le,λd h f=>(y.same d (Nat.lt_of_lt_of_le h x.le) f).trans (x.same d h f),λh=>y.seen (x.seen h)⟩
theorem Kb.trans'{b m:Nat}(x:Kb b H n H' n')(y:∀id,id<n->T.get H'' id=T.get H' id)(f:n'<=m)(g:b<n):Kb b H n H'' m:=
 ⟨Nat.le_trans x.le f,λid h d=>(y id h).trans (x.same id h d),λh=>by
  obtain⟨i,k,p,q,u⟩:=x.seen h;exact⟨i,k,p,(y b g).trans q,u⟩⟩
theorem Kb.low{b m:Nat}(f:Kb b H n H' n')(d:m<=n):Kb b H m H' m:=⟨Nat.le_refl _,λg h i=>f.same g (Nat.lt_of_lt_of_le h d) i,f.seen⟩
theorem Kb.AcG{b m:Nat}(f:Kb b H n H' n')(d:m<=n):Kb b H m H' n':=⟨Nat.le_trans d f.le,λg h i=>f.same g (Nat.lt_of_lt_of_le h d) i,f.seen⟩
theorem Js.same{b:Nat}(h:Js H b)(e:T.get H' b=T.get H b):Js H' b:=by
 obtain⟨d,f,g,i,k⟩:=h;exact⟨d,f,g,e.trans i,k⟩
theorem _root_.Go.Bf.Kp.kb{b:Nat}(f:Kp H n H' n')(d:b<n):Kb b H n H' n':=⟨f.le,λg h _=>f.same g h,λh=>h.same (f.same b d)⟩
theorem Kb.get{b id:Nat}{B:Nu}(f:Kb b H n H' n')(h:T.get H id=some B)(hi:id<n)(d:id≠b):T.get H' id=some B:=(f.same id hi d).trans h
theorem Js.ld{b o z:Nat}(h:Js H b):mY H b o z=none:=by
 obtain⟨f,g,i,d,-⟩:=h;unfold mY;rw[d];rfl
theorem Js.elems{b z:Nat}(h:Js H b){m o:Nat}{LS:EL}(f:CQ H b z m o=some LS):m=0:=by
 cases m with
 |zero=>rfl
 |succ m=>
  have d:BO (mY H b (Nat.mul o z) z) (λL=>BO (CQ H b z m (Nat.succ o)) λLS=>some (L::LS))=some LS:=f
  rw[h.ld]at d;cases d
theorem Kb.ke{b:Nat}(f:Kb b H n H' n')(hs:Js H b):Ke G H n H' n':=⟨f.le,λv z p y h=>by
 by_cases w:v.XZ=some b
 ·obtain⟨A,x⟩:=h
  refine⟨A,?_⟩
  cases v<;>try (cases w;done)
  ·rename_i k g m c e
   have i:k=b:=Option.some.inj w
   subst i
   have d:(Bool.rec (motive:=λ_=>Option EL) none (CQ H k z m g) (Nat.beq e z):Option EL)=some p:=x
   show(Bool.rec (motive:=λ_=>Option EL) none (CQ H' k z m g) (Nat.beq e z):Option EL)=some p
   cases q:Nat.beq e z with
   |false=>rw[q]at d;cases d
   |true=>
    rw[q]at d
    have u:CQ H k z m g=some p:=d
    have:=hs.elems u
    subst this;exact u
  ·rename_i k g m e
   have i:k=b:=Option.some.inj w
   subst i
   have d:(Bool.rec (motive:=λ_=>Option EL) none (CQ H k z m g) (Nat.beq e z):Option EL)=some p:=x
   show(Bool.rec (motive:=λ_=>Option EL) none (CQ H' k z m g) (Nat.beq e z):Option EL)=some p
   cases q:Nat.beq e z with
   |false=>rw[q]at d;cases d
   |true=>
    rw[q]at d
    have u:CQ H k z m g=some p:=d
    have:=hs.elems u
    subst this;exact u
 ·exact h.same λk i=>f.same k (y k i) (by intro e;subst e;exact w i)⟩
end
abbrev Tab:=List (St×Fc)
def keyed{α β:Type}(ps:List (St×α))(fs:List (St×β)):Prop:=ps.map (·.1)=fs.map (·.1)
theorem qH{α k:Type}:∀{ps:List (St×α)} {fs:List (St×k)} (_:keyed ps fs) (s:St),(CY ps s).isSome=(CY fs s).isSome
 |[],[],_,s=>rfl
 |p::ps,f::fs,h,s=>by
  simp only[keyed,List.map_cons,List.cons.injEq]at h
  have i:=qH (ps:=ps) (fs:=fs) h.2 s
  by_cases d:p.1=s
  ·have g:f.1=s:=h.1▸d
   simp[CY,d,g]
  ·have g:¬f.1=s:=h.1▸d
   simp only[CY,List.find?_cons,d,g,decide_false]at i⊢
   exact i
 |[],_::_,h,_=>by simp[keyed]at h
 |_::_,[],h,_=>by simp[keyed]at h
theorem AHi{α g:Type}(s:St)(a:α)(b:g):∀{ps:List (St×α)} {fs:List (St×g)} (_:keyed ps fs),keyed (XD s a ps) (XD s b fs)
 |[],[],_=>rfl
 |p::ps,f::fs,h=>by
  simp only[keyed,List.map_cons,List.cons.injEq]at h
  unfold XD
  by_cases hp:p.1=s
  ·have d:f.1=s:=h.1▸hp
   rw[if_pos hp,if_pos d];simp[keyed,h.2]
  ·have d:¬f.1=s:=h.1▸hp
   rw[if_neg hp,if_neg d]
   have:=AHi s a b (ps:=ps) (fs:=fs) h.2
   simp only[keyed,List.map_cons,List.cons.injEq]at this⊢
   exact⟨h.1,this⟩
 |[],_::_,h=>by simp[keyed]at h
 |_::_,[],h=>by simp[keyed]at h
structure AA3(G:AY)(H:Heap)(n:Nat)(a:Nat)(fs:Tab):Prop where
 is:∃ps,AAd H a ps/\keyed ps fs/\∀s v c,CY ps s=some v->CY fs s=some c->WB G H n v c
structure TabAt(G:AY)(H:Heap)(n t a b:Nat)(fs:Tab):Prop where
 tn:t<n
 an:a<n
 bn:b<n
 tb:t≠b
 ab:a≠b
 at':T.get H t=some (one [.map a,.map b])
 faces:AA3 G H n a fs
 seen:Js H b
theorem rY{H H':Heap}{a:Nat}{ps:List (St×V)}(h:AAd H a ps)(e:T.get H' a=T.get H a):AAd H' a ps:=by
 obtain⟨d,f,g,i⟩:=h;exact⟨d,f,e.trans g,i⟩
theorem TabAt.kb{G:AY}{H H':Heap}{n n' t a b:Nat}{fs:Tab}(h:TabAt G H n t a b fs)(f:Kb b H n H' n'):TabAt G H' n' t a b fs:=by
 obtain⟨d,g,i,k⟩:=h.faces.is
 exact⟨Nat.lt_of_lt_of_le h.tn f.le,Nat.lt_of_lt_of_le h.an f.le,Nat.lt_of_lt_of_le h.bn f.le,h.tb,h.ab,f.get h.at' h.tn h.tb,
  ⟨d,rY g (f.same a h.an h.ab),i,λs v c x y=>(k s v c x y).ke (f.ke h.seen)⟩,f.seen h.seen⟩
theorem run_set{f:Nat}{args:List V}{G:AY}{H:Heap}{n m:Nat}{b:Nu}{k:KV}(h:∀H',Kp H n H' (n+1)->T.get H' n=some b->Runs F G f args H' m k):Runs F G f args (T.set H n b) m k:=
 h _ ((Kp.refl H n).new _ (Nat.le_refl _) (by omega)) (T.Ag ..)
theorem AUj(i o:Nat):CU (.one .ptr) false (.ptr i o) .Bo=some (.bool false):=rfl
abbrev CJ:Fc:=⟨(0,0),(0,0),[],[]⟩
theorem APM{G:AY}{H:Heap}{z:Nat}:El G H .Ad z []:=⟨rfl,rfl⟩
theorem AD7{n:Nat}:Lo .Ad n:=λ_ h=>by cases h
theorem Aau{G:AY}{H:Heap}{n:Nat}:WB G H n (.agg [.str 0 0,.str 0 0,.Ad,.Ad]) CJ:=
 ⟨.Ad,.Ad,[],⟨rfl,⟨APM,AD7,by decide,λ_ h=>by cases h⟩,⟨APM,AD7,by decide,rfl,λi m w h=>by simp at h,λ_ h=>by cases h⟩,λ_=>rfl,λ_=>rfl⟩,rfl⟩
theorem zk(L:LV):BH L []=some (.agg L):=rfl
theorem sU{G:AY}{H:Heap}{n n0 t a b:Nat}{fs:Tab}(h:TabAt G H n0 t a b fs)(p:n0<=n){s:St}{k:KV}
 (M:∀H' n' v,Kb b H n H' n'->WB G H' n0 v ((CY fs s).getD CJ)->k (.Dl [v,.bool (CY fs s).isSome]) H' n'):Runs F G Dw [.ptr t 0,s.v] H n k:=by
 refine go2 (ADj BF G) ?_
 delta kJ
 have f:b<n:=Nat.lt_of_lt_of_le h.bn p
 refine Di rfl λN E O=>?_
 have I:=h.kb ((E.kb f).low p)
 simp only[go_sem,AUj,Nat.reduceAdd,AU (off:=1) I.at' (v:=.map b) rfl]
 obtain⟨X,u⟩:=I.seen
 refine APO u s _ λg w y=>?_
 have J:Kb b N (n+1) g (n+1):=⟨Nat.le_refl _,λP _ Q=>y P Q,λ_=>⟨_,w⟩⟩
 have f3:=(E.kb f).trans J
 have K:TabAt G g n0 t a b fs:=h.kb (f3.low p)
 have R:=J.get O (by omega) (by omega)
 obtain⟨L,S,i,U⟩:=K.faces.is
 simp only[go_sem,Nat.reduceAdd,AU (off:=0) K.at' (v:=.map a) rfl]
 rw[show s.v=.str s.1 s.2 from rfl,AK9 S]
 have d:=qH i s
 have fin:∃v,AbR (.agg [.str 0 0,.str 0 0,.Ad,.Ad]) (CY L s)=.Dl [v,.bool (CY fs s).isSome]/\WB G g n0 v ((CY fs s).getD CJ):=by
  cases A:CY L s with
  |none=>
   rw[A]at d
   cases q:CY fs s with
   |none=>exact⟨_,rfl,Aau⟩
   |some x=>rw[q]at d;cases d
  |some v=>
   rw[A]at d
   cases q:CY fs s with
   |none=>rw[q]at d;cases d
   |some x=>exact⟨v,rfl,U _ _ _ A q⟩
 obtain⟨v,e,B⟩:=fin
 obtain⟨C,D,V,B,rfl⟩:=B
 rw[e]
 simp only[go_sem,Nat.reduceAdd]
 rw[FU (m:=4) ((T.Ac _ _ (by omega)).trans ((T.Ac _ _ (by omega)).trans R)) (by omega) rfl rfl,EN (m:=4) (T.Ag ..) (by omega) rfl]
 simp only[go_sem]
 have e:Kp g n (T.set (T.set (T.set g (n+1) (one [.str 0 0,.str 0 0,.Ad,.Ad])) (n+1) (one [((CY fs s).getD CJ).nm.v,((CY fs s).getD CJ).sup.v,C,D])) n (one [((CY fs s).getD CJ).nm.v,((CY fs s).getD CJ).sup.v,C,D])) (n+1+1):=
  ((((Kp.refl g n).new (m:=n+1+1) _ (by omega) (by omega)).set _ (by omega)).set _ (Nat.le_refl _))
 have W:Kb b H n g n:=⟨Nat.le_refl _,f3.same,f3.seen⟩
 exact M _ _ _ (W.trans (e.kb f)) ⟨C,D,V,B.ke ((e.ke).low p),rfl⟩
def G7:Nat->Tab->List St->St->List St×Bool
 |0,_,out,_=>(out,false)
 |m+1,fs,out,s=>bif decide (s.1=0/\s.2=0)then(out,true)else
  match CY fs s with
  |none=>(out,false)
  |some c=>bif tN s out then(out,false)else G7 m fs (out++[s]) c.sup
def above(fs:Tab)(s:St):List St×Bool:=G7 (fs.length+1) fs [] s
theorem ND{s:St}{xs:List St}:tN s xs=true↔s∈xs:=by
 unfold tN
 rw[List.any_eq_true]
 constructor
 ·rintro⟨x,d,h⟩
  have:=of_decide_eq_true h
  have e:s=x:=Prod.ext this.1 this.2
  exact e▸d
 ·intro h;exact⟨s,h,by simp⟩
theorem Aaf{α:Type}{ps:List (St×α)}{s:St}{v:α}(h:CY ps s=some v):s∈ps.map (·.1):=by
 unfold CY at h
 cases d:ps.find? λp=>decide (p.1=s)with
 |none=>rw[d]at h;cases h
 |some p=>
  have f:=List.mem_of_find?_eq_some d
  have g:=List.find?_some d
  exact List.mem_map.2 ⟨p,f,of_decide_eq_true g⟩
theorem APd:∀{xs ys:List St} (_:xs.Nodup) (_:∀x∈xs,x∈ys),xs.length<=ys.length
 |[],_,_,_=>Nat.zero_le _
 |x::xs,ys,d,h=>by
  rw[List.nodup_cons]at d
  have i:=h x (List.mem_cons_self ..)
  have:=APd (xs:=xs) (ys:=ys.erase x) d.2 λz k=>by
   have f:=h z (List.mem_cons_of_mem _ k)
   have g:z≠x:=by intro e;subst e;exact d.1 k
   exact(List.mem_erase_of_ne g).2 f
  rw[List.length_erase_of_mem i]at this
  have m:0<ys.length:=List.length_pos_of_mem i
  simp only[List.length_cons];omega
structure Own(G:AY)(H:Heap)(m n:Nat)(z:Nat)(v:V)(LS:EL):Prop where
 gr:Gr G H m z v LS
 lo:Lo v n
theorem Own.el{G:AY}{H:Heap}{m n z:Nat}{v:V}{LS:EL}(h:Own G H m n z v LS)(d:0<z):El G H v z LS:=h.gr.el d
theorem Own.kb{G:AY}{H H':Heap}{m n n' b z:Nat}{v:V}{LS:EL}(h:Own G H m n z v LS)(f:Kb b H n H' n')(i:b<m):Own G H' m n' z v LS:=
 ⟨h.gr.mono λg d=>f.same g (h.lo g d) (by have:=(h.gr.lo d).1;omega),h.lo.mono f.le⟩
theorem Own.kp{G:AY}{H H':Heap}{m n n' z:Nat}{v:V}{LS:EL}(h:Own G H m n z v LS)(f:Kp H n H' n'):Own G H' m n' z v LS:=
 ⟨h.gr.mono λg d=>f.same g (h.lo g d),h.lo.mono f.le⟩
theorem AaZ{Z w:V}{H:Heap}{n:Nat}{P:KV}(d:Zp w=true)(f:A8 w=[w]):
 Bc (Ar 1 1 [Z] [(0,.c w)] E0) H n P=P (.sl n 0 1 1 1) (T.set H n (.arr 1 1 (T.set (T.set .e 0 [Z]) 0 [w]))) (n+1):=by
 show Ji (band (band (Zp w) (band true (Nat.beq (len (A8 w)) 1))) true) (DT n λn=>P (.sl n 0 1 1 1) (T.set H n (.arr 1 1 (T.set (T.set .e 0 [Z]) 0 (A8 w)))) (Nat.succ n))=_
 rw[d,f,BL];rfl
theorem AXK{G:AY}{Z w:V}{H:Heap}{n:Nat}{P:KV}(d:Zp w=true)(f:A8 w=[w])(h:∀H',Kp H n H' (n+1)->elems (.sl n 0 1 1 1) G H' 1=some [[w]]->P (.sl n 0 1 1 1) H' (n+1)):
 Bc (Ar 1 1 [Z] [(0,.c w)] E0) H n P:=by
 rw[AaZ d f]
 exact h _ ((Kp.refl H n).new _ (Nat.le_refl _) (by omega)) (rJ (z:=1) (by omega) rfl (T.Ag ..)).2
theorem Aa0(s:St):Es s.v s.v=true:=by
 show band (Nat.beq s.1 s.1) (Nat.beq s.2 s.2)=true
 simp
theorem tu{G:AY}{H:Heap}{n t a b:Nat}{fs:Tab}(h:TabAt G H n t a b fs)(d0:fs.length<=1000){s:St}{k:KV}
 (g:∀H' n' v,Kb b H n H' n'->Own G H' n n' 1 v (strs (above fs s).1)->(above fs s).1.length<=1001->k (.Dl [v,.bool (above fs s).2]) H' n'):Runs F G Eb [.ptr t 0,s.v] H n k:=by
 refine go2 (ACP BF G) ?_
 delta dQ
 have B:=h.bn
 refine IY (J:=λm st=>∃d s v C D,m+d.length=fs.length+1/\st=(.ptr t 0,St.v s,v,C,D)/\Kb b H n C D/\Own G C n D 1 v (strs d)/\d.Nodup/\(∀x∈d,x∈fs.map (·.1))/\
  (∀H' n' v,Kb b H n H' n'->Own G H' n n' 1 v (strs (G7 m fs d s).1)->(G7 m fs d s).1.length<=1001->k (.Dl [v,.bool (G7 m fs d s).2]) H' n')) ?_ (m:=fs.length+1)
  ⟨[],s,.Ad,H,n,rfl,rfl,Kb.refl _ _ _,⟨.nil,AD7⟩,List.nodup_nil,λ_ h=>absurd h List.not_mem_nil,g⟩
 rintro I m st ⟨d,s,v,C,D,hm,rfl,f,P,E,i,g⟩ ih
 show QO lfp G (Runs F G) k I (.ptr t 0) s.v v C D
 delta QO
 have Q:=APd E i
 rw[List.length_map]at Q
 obtain⟨m,rfl⟩:∃m',m=m'+1:=⟨m-1,by omega⟩
 unfold G7 at g
 simp only[go_sem,St.v,AaD]
 cases X:decide (s.1=0/\s.2=0)with
 |true=>
  rw[X]at g
  simp only[Bool.not_true,go_sem]
  delta Pq
  exact g _ _ _ f P (by show d.length<=1001;omega)
 |false=>
  rw[X]at g
  simp only[Bool.not_false,go_sem]
  refine sU (s:=s) (h.kb f) (Nat.le_refl _) λY q w f3 Z=>?_
  have M:=f.trans f3
  have K:=P.kb f3 B
  obtain⟨vf,vm,ws,Z,rfl⟩:=Z
  simp only[go_sem,Nat.reduceAdd,BZ]
  rw[T.set_set]
  cases R:CY fs s with
  |none=>
   rw[R]at g
   simp only[Option.isSome_none,Bool.not_false,go_sem]
   have L:Kp Y q (T.set Y q (one [((none:Option Fc).getD CJ).nm.v,((none:Option Fc).getD CJ).sup.v,vf,vm])) (q+1):=(Kp.refl _ _).new _ (Nat.le_refl _) (by omega)
   exact g _ _ _ (M.trans (L.kb (by have:=M.le;omega))) (K.kp L) (by show d.length<=1001;omega)
  |some c=>
   rw[R]at g
   simp only[Option.isSome_some,Bool.not_true,go_sem,Option.getD_some]
   have d1:=M.le
   refine run_set λH4 L g5=>?_
   have f6:=M.trans (L.kb (b:=b) (by omega))
   have u:=K.kp L
   refine AEd (s:=s) (xs:=d) (u.el (by omega)) (by omega) ?_
   cases N:tN s d with
   |true=>
    simp only[N,cond_true]at g
    simp only[go_sem]
    exact g _ _ _ f6 u (by show d.length<=1001;omega)
   |false=>
    simp only[N,cond_false]at g
    have S:¬s∈d:=λh=>by rw[ND.2 h]at N;cases N
    simp only[go_sem]
    refine AXK (G:=G) rfl rfl λH5 O g7=>?_
    have e1:AX (.ptr q 1) G H5=some c.sup.v:=AU (O.get g5 (by omega)) rfl
    rw[e1,AP]
    have A:=u.kp O
    refine A.gr.app (by omega) A.lo g7 ?_ ?_ ?_
    ·rw[JH];simp;omega
    ·intro v' U hg hs V
     have f8:Kb b H n U (q+1+1+1):=(f6.trans (O.kb (by omega))).trans' (λid d2=>hs id (by omega) (λW=>by have:=(A.gr.lo W).1;omega)) (by omega) B
     have e2:AX (.ptr q 1) G U=some c.sup.v:=AU ((hs q (by omega) (λW=>by have:=P.lo _ W;have:=f3.le;omega)).trans (O.get g5 (by omega))) rfl
     simp only[go_sem,e2,Aa0]
     refine ih _ _ (Nat.lt_succ_self m) ⟨d++[s],c.sup,v',U,_,by simp;omega,rfl,f8,⟨?_,V⟩,?_,?_,g⟩
     ·rw[strs,List.map_append];exact hg
     ·rw[List.nodup_append];refine⟨E,by simp,?_⟩;intro x p y hy;simp at hy;subst hy;intro e;subst e;exact S p
     ·intro x p
      rcases List.mem_append.1 p with p|p
      ·exact i x p
      ·simp at p;subst p;exact Aaf R
    ·intro h;cases h
abbrev tyZ:Ty:=⟨(0,0),false⟩
abbrev ZW:Cb:=⟨(0,0),false,[],tyZ⟩
def AFp(s:St):List Fld->Option Ty
 |[]=>none
 |f::fs=>bif decide (f.nm.1=s.1/\f.nm.2=s.2)then some f.ty else AFp s fs
def Ju(s:St):List Cb->Option Cb
 |[]=>none
 |m::ms=>bif decide (m.nm.1=s.1/\m.nm.2=s.2)then some m else Ju s ms
def ACO(G:AY)(H:Heap)(n:Nat)(v:V)(m:Cb):Prop:=∃w,v=.agg (m.cells w)/\GY G H n w m.ps
theorem ACO.ke{G:AY}{H H':Heap}{n n':Nat}{v:V}{m:Cb}(h:ACO G H n v m)(f:Ke G H n H' n'):ACO G H' n' v m:=by
 obtain⟨w,e,h⟩:=h;exact⟨w,e,h.ke f⟩
theorem AXE{G:AY}{H:Heap}{n:Nat}:ACO G H n (.agg (ZW.cells .Ad)) ZW:=⟨.Ad,rfl,APM,AD7,by decide,λ_ h=>by cases h⟩
theorem AP9{G:AY}{H:Heap}{n:Nat}{v:V}{c:Fc}(h:WB G H n v c){s:St}{k:KV}
 (d:∀H' n',Kp H n H' n'->k (.Dl [((AFp s c.fs).getD tyZ).v,.bool (AFp s c.fs).isSome]) H' n'):Runs F G kN [v,s.v] H n k:=by
 refine go2 (AEL BF G) ?_
 obtain⟨w,Q,R,h,rfl⟩:=h
 delta kC
 refine FT λS E K=>?_
 refine Di rfl λL B M=>?_
 simp only[go_sem,Nat.reduceAdd,AU (off:=2) (B.get K (by omega)) (v:=w) rfl,h.fs.len]
 have p:=h.fs.lt
 refine BN (N:=c.fs.length) (J:=λi st=>∃H' n',st=(s.v,.ptr (n+1) 0,w,.int .i64 (.ofNat c.fs.length) 0,.int .i64 (.ofNat i) 0,H',n')/\Kp H n H' n'/\n+1<n'/\T.get H' (n+1)=some (one [.str 0 0,.bool false])/\
  (∀H' n',Kp H n H' n'->k (.Dl [((AFp s (c.fs.drop i)).getD tyZ).v,.bool (AFp s (c.fs.drop i)).isSome]) H' n')) ?_ ?_ ⟨L,_,rfl,E.trans B,Nat.lt_succ_self _,M,d⟩
 ·rintro I i st f ⟨y,u,rfl,f3,A,x,d⟩ O
  show Ig lfp G (Runs F G) k I s.v (.ptr (n+1) 0) w (.int .i64 (.ofNat c.fs.length) 0) (.int .i64 (.ofNat i) 0) y u
  delta Ig
  obtain⟨q,P,g⟩:=(h.fs.kp f3).at f
  rw[List.drop_eq_getElem_cons f]at d
  unfold AFp at d
  generalize c.fs[i]=m at g d
  unfold Fld.cells at g
  simp only[go_sem,BR,f,decide_true,P,Bj g,Nat.reduceAdd,show CU (.one .str) false m.nm.v s.v=_ from AKu ..]
  rw[T.set_set]
  have C:=f3.new (m:=u+1) (id:=u) (one [m.nm.v,m.ty.nm.v,.bool m.ty.arr]) f3.le (by omega)
  cases D:decide (m.nm.1=s.1/\m.nm.2=s.2)with
  |true=>
   simp only[D,cond_true]at d
   simp only[go_sem,Nat.reduceAdd]
   rw[GH (m:=2) (off:=1) (T.Ag ..) (by omega) (by show 3<=3;omega),AP]
   show Bz 2 (.ptr (n+1) 0) (.agg [m.ty.nm.v,.bool m.ty.arr]) _ _ _
   rw[FU (m:=2) ((T.Ac _ _ (by omega)).trans x) (by omega) rfl rfl,EN (m:=2) (T.Ag ..) (by omega) rfl]
   simp only[go_sem]
   exact d _ _ (C.set _ (by omega))
  |false=>
   simp only[D,cond_false]at d
   simp only[go_sem,DI (show i+1<9223372036854775808 by unfold big at p;omega)]
   exact O _ ⟨_,_,rfl,C,by omega,(T.Ac _ _ (by omega)).trans x,d⟩
 ·rintro I st ⟨y,u,rfl,f3,A,x,d⟩
  show Ig lfp G (Runs F G) k I s.v (.ptr (n+1) 0) w (.int .i64 (.ofNat c.fs.length) 0) (.int .i64 (.ofNat c.fs.length) 0) y u
  delta Ig
  rw[List.drop_eq_nil_of_le (Nat.le_refl _)]at d
  simp only[go_sem,BR,Nat.lt_irrefl,decide_false]
  delta Q7
  simp only[zk,AP]
  rw[FU (m:=2) x (by omega) rfl rfl,EN (m:=2) (T.Ag ..) (by omega) rfl]
  simp only[go_sem]
  exact d _ _ (f3.set _ (by omega))
theorem AGM{G:AY}{H:Heap}{n n0:Nat}{v:V}{c:Fc}(h:WB G H n0 v c)(M:n0<=n){s:St}{k:KV}
 (d:∀H' n' w,Kp H n H' n'->ACO G H' n0 w ((Ju s c.ms).getD ZW)->k (.Dl [w,.bool (Ju s c.ms).isSome]) H' n'):Runs F G Ug [v,s.v] H n k:=by
 refine go2 (ABd BF G) ?_
 obtain⟨Y,x,Z,h,rfl⟩:=h
 delta dP
 refine FT λH1 O P=>?_
 refine Di rfl λQ C R=>?_
 simp only[go_sem,Nat.reduceAdd,AU (off:=3) (C.get P (by omega)) (v:=x) rfl,h.ms.len']
 have u:=h.ms.lt
 refine BN (N:=c.ms.length) (J:=λi st=>∃H' n',st=(s.v,.ptr (n+1) 0,x,.int .i64 (.ofNat c.ms.length) 0,.int .i64 (.ofNat i) 0,H',n')/\Kp H n H' n'/\n+1<n'/\T.get H' (n+1)=some (one (ZW.cells .Ad))/\
  (∀H' n' w,Kp H n H' n'->ACO G H' n0 w ((Ju s (c.ms.drop i)).getD ZW)->k (.Dl [w,.bool (Ju s (c.ms.drop i)).isSome]) H' n')) ?_ ?_ ⟨Q,_,rfl,O.trans C,Nat.lt_succ_self _,R,d⟩
 ·rintro I i st f ⟨A,p,rfl,f3,B,y,d⟩ S
  show Hz lfp G (Runs F G) k I s.v (.ptr (n+1) 0) x (.int .i64 (.ofNat c.ms.length) 0) (.int .i64 (.ofNat i) 0) A p
  delta Hz
  obtain⟨q,w,U,g,D⟩:=(h.ms.ke ((f3.ke).low M)).at f
  rw[List.drop_eq_getElem_cons f]at d
  unfold Ju at d
  generalize c.ms[i]=m at g d D
  unfold Cb.cells at g
  simp only[go_sem,BR,f,decide_true,U,Bj g,Nat.reduceAdd,show CU (.one .str) false m.nm.v s.v=_ from AKu ..]
  rw[T.set_set]
  have E:=f3.new (m:=p+1) (id:=p) (one [m.nm.v,.bool m.st,w,m.ret.nm.v,.bool m.ret.arr]) f3.le (by omega)
  cases L:decide (m.nm.1=s.1/\m.nm.2=s.2)with
  |true=>
   simp only[L,cond_true]at d
   simp only[go_sem,Nat.reduceAdd]
   rw[FU (m:=5) ((T.Ac _ _ (by omega)).trans y) (by omega) rfl rfl,EN (m:=5) (T.Ag ..) (by omega) rfl]
   simp only[go_sem]
   have W:=E.set (one [m.nm.v,.bool m.st,w,m.ret.nm.v,.bool m.ret.arr]) (id:=n+1) (by omega)
   refine d _ _ _ W ⟨w,rfl,D.ke ?_⟩
   refine(Kp.ke (n:=n0) (n':=p+1) ⟨by omega,λK X=>?_⟩).low (Nat.le_refl _)
   rw[T.Ac _ _ (by omega),T.Ac _ _ (by omega)]
  |false=>
   simp only[L,cond_false]at d
   simp only[go_sem,DI (show i+1<9223372036854775808 by unfold big at u;omega)]
   exact S _ ⟨_,_,rfl,E,by omega,(T.Ac _ _ (by omega)).trans y,d⟩
 ·rintro I st ⟨A,p,rfl,f3,B,y,d⟩
  show Hz lfp G (Runs F G) k I s.v (.ptr (n+1) 0) x (.int .i64 (.ofNat c.ms.length) 0) (.int .i64 (.ofNat c.ms.length) 0) A p
  delta Hz
  rw[List.drop_eq_nil_of_le (Nat.le_refl _)]at d
  simp only[go_sem,BR,Nat.lt_irrefl,decide_false]
  delta QB
  simp only[zk,AP]
  rw[FU (m:=5) y (by omega) rfl rfl,EN (m:=5) (T.Ag ..) (by omega) rfl]
  simp only[go_sem]
  exact d _ _ _ (f3.set _ (by omega)) AXE
def Cb.same(a b:Cb):Bool:=decide (a.nm.1=b.nm.1/\a.nm.2=b.nm.2)&&((a.st==b.st)&&(a.ret.is b.ret&&oW a.ps b.ps))
theorem Afb(a b:Bool):CU (.one .bool) false (.bool a) (.bool b)=some (.bool (a==b)):=by cases a<;>cases b<;>rfl
theorem ANH{G:AY}{H:Heap}{n:Nat}{v w:V}{a b:Cb}(h:ACO G H n v a)(i:ACO G H n w b){k:KV}
 (d:∀H' n',Kp H n H' n'->k (.bool (a.same b)) H' n'):Runs F G ZT [v,w] H n k:=by
 refine go2 (AG9 BF G) ?_
 obtain⟨x,rfl,h⟩:=h
 obtain⟨y,rfl,i⟩:=i
 delta vP
 unfold Cb.same at d
 refine FT λE B f=>?_
 refine FT λm p g=>?_
 have f:=p.get f (by omega)
 have f3:=B.trans p
 unfold Cb.cells at f g
 simp only[go_sem,Nat.reduceAdd,AU (off:=0) f rfl,AU (off:=0) g rfl,show CU (.one .str) false a.nm.v b.nm.v=_ from AKu ..]
 cases q:decide (a.nm.1=b.nm.1/\a.nm.2=b.nm.2)with
 |false=>rw[q]at d;simp only[go_sem];exact d _ _ f3
 |true=>
  rw[q]at d
  simp only[go_sem,Nat.reduceAdd,AU (off:=1) f rfl,AU (off:=1) g rfl,Afb]
  cases u:a.st==b.st with
  |false=>rw[u]at d;simp only[go_sem];exact d _ _ f3
  |true=>
   rw[u]at d
   have C:Aj 2 (.ptr n 3) G m=some a.ret.v:=GH f (by omega) (by show 5<=5;omega)
   have D:Aj 2 (.ptr (n+1) 3) G m=some b.ret.v:=GH g (by omega) (by show 5<=5;omega)
   have e:CU (.agg [.str,.bool]) false a.ret.v b.ret.v=_:=vH a.ret b.ret
   simp only[go_sem,Nat.reduceAdd,C,D,e]
   cases A:a.ret.is b.ret with
   |false=>rw[A]at d;simp only[go_sem];exact d _ _ f3
   |true=>
    rw[A]at d
    simp only[go_sem,Nat.reduceAdd,AU (off:=2) f (v:=x) rfl,AU (off:=2) g (v:=y) rfl]
    refine AYW (h.el.kp h.lo f3) (i.el.kp i.lo f3) h.lt ?_
    exact d _ _ f3
def Um(fs:Tab)(t:Ty):Bool:=UG t.nm&&(!upper t.nm.1 t.nm.2||(CY fs t.nm).isSome)
theorem tX{G:AY}{H:Heap}{n t a b:Nat}{fs:Tab}(h:TabAt G H n t a b fs){v:V}{xs:List Ty}(E:GY G H n v xs){k:KV}
 (d:∀H' n',Kb b H n H' n'->k (.bool (xs.all (Um fs))) H' n'):Runs F G Jj [.ptr t 0,v] H n k:=by
 refine go2 (ABW BF G) ?_
 delta gU
 have d1:=h.bn
 have A:=E.lt
 rw[E.len,AP]
 refine BN (N:=xs.length) (J:=λi st=>∃H' n',st=(.ptr t 0,v,.int .i64 (.ofNat xs.length) 0,.int .i64 (.ofNat i) 0,H',n')/\Kb b H n H' n'/\
  (∀H' n',Kb b H n H' n'->k (.bool ((xs.drop i).all (Um fs))) H' n')) ?_ ?_ ⟨H,n,rfl,Kb.refl _ _ _,d⟩
 ·rintro I i st g ⟨L,M,rfl,f3,d⟩ ih
  show Hw lfp G (Runs F G) k I (.ptr t 0) v (.int .i64 (.ofNat xs.length) 0) (.int .i64 (.ofNat i) 0) L M
  delta Hw
  have O:=h.kb f3
  have P:=E.ke (f3.ke h.seen)
  obtain⟨q,hp,p⟩:=P.el.at (Tj g)
  have u:=E.ok _ (List.getElem_mem g)
  rw[List.drop_eq_getElem_cons g,List.all_cons]at d
  generalize xs[i]=m at u p d
  unfold Ty.cells at p
  unfold Um at d
  have d2:=f3.le
  simp only[go_sem,BR,g,decide_true,hp,Bj p,Nat.reduceAdd]
  rw[T.set_set]
  refine run_set λH4 f4 g4=>?_
  have f5:=f3.trans (f4.kb (b:=b) (by omega))
  refine AHW u λH6 n6 Q=>?_
  have X:=f5.trans (Q.kb (b:=b) (by omega))
  have Y:=Q.get g4 (by omega)
  have d3:=Q.le
  simp only[BZ,go_sem]
  cases K:UG m.nm with
  |false=>
   rw[show AGW m.nm.1 m.nm.2=false from K]
   simp only[K,Bool.false_and]at d
   simp only[Bool.not_false,go_sem]
   exact d _ _ X
  |true=>
   rw[show AGW m.nm.1 m.nm.2=true from K]
   simp only[K,Bool.true_and]at d
   simp only[Bool.not_true,go_sem,Nat.reduceAdd,AU (off:=0) Y (v:=m.nm.v) rfl]
   refine AFA λH8 n8 R=>?_
   refine AA6 u λH9 n9 S=>?_
   have x:=X.trans ((R.trans S).kb (b:=b) (by omega))
   have g9:=(R.trans S).get Y (by omega)
   have d4:=(R.trans S).le
   rw[show isClass m.nm.1 m.nm.2 false=upper m.nm.1 m.nm.2 by simp[isClass]]
   have Z:∀H' n',Kb b H n H' n'->(∀H' n',Kb b H n H' n'->k (.bool ((xs.drop (i+1)).all (Um fs))) H' n')->Hl lfp G (Runs F G) k I (.ptr t 0) v (.int .i64 (.ofNat xs.length) 0) (.int .i64 (.ofNat i) 0) H' n':=by
    intro H' n' f d
    delta Hl
    simp only[go_sem,DI (show i+1<9223372036854775808 by unfold big at A;omega)]
    exact ih _ ⟨_,_,rfl,f,d⟩
   cases h2:upper m.nm.1 m.nm.2 with
   |false=>
    simp only[h2,Bool.not_false,Bool.true_or,Bool.true_and]at d
    simp only[go_sem]
    exact Z _ _ x d
   |true=>
    simp only[h2,Bool.not_true,Bool.false_or]at d
    simp only[go_sem,Nat.reduceAdd,AU (off:=0) g9 (v:=m.nm.v) rfl]
    refine sU (s:=m.nm) (h.kb x) (Nat.le_refl _) λB y w U hw=>?_
    obtain⟨vf,vm,ws,hw,rfl⟩:=hw
    have C:=x.trans U
    have d0:=C.le
    simp only[go_sem,Nat.reduceAdd,BZ]
    rw[T.set_set]
    have W:Kp B y (T.set B y (one [((CY fs m.nm).getD CJ).nm.v,((CY fs m.nm).getD CJ).sup.v,vf,vm])) (y+1):=(Kp.refl _ _).new _ (Nat.le_refl _) (by omega)
    have D:=C.trans (W.kb (b:=b) (by omega))
    cases O:(CY fs m.nm).isSome with
    |false=>
     simp only[O,Bool.false_and]at d
     simp only[Bool.not_false,go_sem]
     exact d _ _ D
    |true=>
     simp only[O,Bool.true_and]at d
     simp only[Bool.not_true,go_sem]
     exact Z _ _ D d
 ·rintro I st ⟨L,M,rfl,f3,d⟩
  show Hw lfp G (Runs F G) k I (.ptr t 0) v (.int .i64 (.ofNat xs.length) 0) (.int .i64 (.ofNat xs.length) 0) L M
  delta Hw
  rw[List.drop_eq_nil_of_le (Nat.le_refl _)]at d
  simp only[go_sem,BR,Nat.lt_irrefl,decide_false]
  delta QU
  exact d _ _ f3
def AGN(fs:Tab)(s:St):List St->Option (St×Ty)
 |[]=>none
 |c::cs=>match AFp s ((CY fs c).getD CJ).fs with
  |some t=>some (c,t)
  |none=>AGN fs s cs
def dn(fs:Tab)(c s:St):Option (St×Ty):=AGN fs s (above fs c).1
theorem AO4{G:AY}{H:Heap}{n t a b:Nat}{fs:Tab}(h:TabAt G H n t a b fs)(O:fs.length<=1000){c s:St}{k:KV}
 (d:∀H' n',Kb b H n H' n'->k (.Dl [((dn fs c s).getD ((0,0),tyZ)).1.v,((dn fs c s).getD ((0,0),tyZ)).2.v,.bool (dn fs c s).isSome]) H' n'):Runs F G OE [.ptr t 0,c.v,s.v] H n k:=by
 refine go3 (ABq BF G) ?_
 delta fP
 have f:=h.bn
 unfold dn at d
 refine Di rfl λH1 K g1=>?_
 have K:=K.kb (b:=b) f
 refine tu (h.kb K) O λH2 n2 v P g u=>?_
 generalize(above fs c).1=cs at g d u
 have f3:=K.trans P
 have g2:=P.get g1 (by omega) (by omega)
 have d0:=P.le
 simp only[go_sem,(g.el (by omega)).len,JH]
 refine BN (N:=cs.length) (J:=λi st=>∃H' n',st=(.ptr t 0,s.v,.ptr n 0,v,.int .i64 (.ofNat cs.length) 0,.int .i64 (.ofNat i) 0,H',n')/\Kb b H n H' n'/\n<n'/\Own G H' (n+1) n' 1 v (strs cs)/\T.get H' n=some (one [.str 0 0,.bool false])/\
  (∀H' n',Kb b H n H' n'->k (.Dl [((AGN fs s (cs.drop i)).getD ((0,0),tyZ)).1.v,((AGN fs s (cs.drop i)).getD ((0,0),tyZ)).2.v,.bool (AGN fs s (cs.drop i)).isSome]) H' n')) ?_ ?_ ⟨H2,n2,rfl,f3,by omega,g,g2,d⟩
 ·rintro I i st p ⟨Q,L,rfl,f3,x,g,R,d⟩ ih
  show II lfp G (Runs F G) k I (.ptr t 0) s.v (.ptr n 0) v (.int .i64 (.ofNat cs.length) 0) (.int .i64 (.ofNat i) 0) Q L
  delta II
  obtain⟨q,hp,y⟩:=(g.el (by omega)).at (Sz p)
  rw[List.drop_eq_getElem_cons p]at d
  unfold AGN at d
  generalize cs[i]=m at y d
  simp only[go_sem,BR,p,decide_true,hp,Jv y]
  refine sU (s:=m) (h.kb f3) (Nat.le_refl _) λH4 n4 w M S=>?_
  obtain⟨U,V,ws,S,rfl⟩:=S
  have f5:=f3.trans M
  have d1:=M.le
  simp only[go_sem,Nat.reduceAdd]
  rw[T.set_set]
  refine run_set λH6 W g6=>?_
  have A:=W.kb (b:=b) (by omega)
  have f7:=f5.trans A
  refine AP9 (s:=s) (n:=n4+1) (v:=.agg [((CY fs m).getD CJ).nm.v,((CY fs m).getD CJ).sup.v,U,V]) (c:=(CY fs m).getD CJ) ⟨U,V,ws,S.ke ⟨by omega,λv z LS hl he=>(W.ke).el v z LS (hl.mono M.le) he⟩,rfl⟩ λH8 X Y=>?_
  have B:=Y.kb (b:=b) (by omega)
  have Z:=f7.trans B
  have d2:=Y.le
  have C:=M.trans (A.trans B)
  have g:=g.kb C (by omega)
  have D:=C.get R x (by omega)
  unfold Ty.v Ty.cells
  simp only[go_sem,Nat.reduceAdd]
  rw[T.set_set]
  cases h1:AFp s ((CY fs m).getD CJ).fs with
  |some ty=>
   rw[h1]at d
   simp only[Option.isSome_some,go_sem,Option.getD_some]
   rw[FU (m:=2) ((T.Ac _ _ (by omega)).trans D) (by omega) rfl rfl]
   rw[EN (m:=2) (T.Ag ..) (by omega) rfl]
   simp only[go_sem]
   refine d _ _ (Z.trans' (m:=X+1) (λid E=>?_) (by omega) f)
   rw[T.Ac _ _ (by omega),T.Ac _ _ (by omega)]
  |none=>
   rw[h1]at d
   simp only[Option.isSome_none,go_sem,Option.getD_none]
   simp only[go_sem,DI (show i+1<9223372036854775808 by omega)]
   refine ih _ ⟨_,_,rfl,Z.trans' (m:=X+1) (λid E=>?_) (by omega) f,by omega,g.kp ((Kp.refl _ _).new _ (Nat.le_refl _) (by omega)),(T.Ac _ _ (by omega)).trans D,d⟩
   rw[T.Ac _ _ (by omega)]
 ·rintro I st ⟨Q,L,rfl,f3,x,g,R,d⟩
  show II lfp G (Runs F G) k I (.ptr t 0) s.v (.ptr n 0) v (.int .i64 (.ofNat cs.length) 0) (.int .i64 (.ofNat cs.length) 0) Q L
  delta II
  rw[List.drop_eq_nil_of_le (Nat.le_refl _)]at d
  simp only[go_sem,BR,Nat.lt_irrefl,decide_false]
  delta QL
  simp only[zk,AP]
  rw[FU (m:=2) R (by omega) rfl rfl,ANh,EN (m:=2) (T.Ag ..) (by omega) rfl]
  simp only[go_sem]
  refine d _ _ (f3.trans' (m:=L) (λid E=>?_) (by omega) f)
  rw[T.Ac _ _ (by omega)]
def ATu(st:Bool)(s:St)(ms:List Cb):Option Cb:=match Ju s ms with
 |some m=>bif m.st==st then some m else none
 |none=>none
def kX(fs:Tab)(s:St)(st:Bool):List St->Option (St×Cb)
 |[]=>none
 |c::cs=>match ATu st s ((CY fs c).getD CJ).ms with
  |some m=>some (c,m)
  |none=>kX fs s st cs
def AAu(fs:Tab)(c s:St)(st:Bool):Option (St×Cb):=kX fs s st (above fs c).1
theorem APf{G:AY}{H:Heap}{n t a b:Nat}{fs:Tab}(h:TabAt G H n t a b fs)(X:fs.length<=1000){c s:St}{st:Bool}{k:KV}
 (d:∀H' n' w,Kb b H n H' n'->ACO G H' n w ((AAu fs c s st).getD ((0,0),ZW)).2->k (.Dl [((AAu fs c s st).getD ((0,0),ZW)).1.v,w,.bool (AAu fs c s st).isSome]) H' n'):
 Runs F G Td [.ptr t 0,c.v,s.v,.bool st] H n k:=by
 refine go4 (y9 BF G) ?_
 delta Z8
 have p:=h.bn
 unfold AAu at d
 refine Di rfl λH1 V g1=>?_
 have V:=V.kb (b:=b) p
 refine tu (h.kb V) X λH2 n2 v Y u D=>?_
 generalize(above fs c).1=cs at u d D
 have f3:=V.trans Y
 have g2:=Y.get g1 (by omega) (by omega)
 have d0:=Y.le
 simp only[go_sem,(u.el (by omega)).len,JH]
 refine BN (N:=cs.length) (J:=λi q=>∃H' n',q=(.ptr t 0,s.v,.bool st,.ptr n 0,v,.int .i64 (.ofNat cs.length) 0,.int .i64 (.ofNat i) 0,H',n')/\Kb b H n H' n'/\n<n'/\Own G H' (n+1) n' 1 v (strs cs)/\T.get H' n=some (one (ZW.cells .Ad))/\
  (∀H' n' w,Kb b H n H' n'->ACO G H' n w ((kX fs s st (cs.drop i)).getD ((0,0),ZW)).2->k (.Dl [((kX fs s st (cs.drop i)).getD ((0,0),ZW)).1.v,w,.bool (kX fs s st (cs.drop i)).isSome]) H' n')) ?_ ?_ ⟨H2,n2,rfl,f3,by omega,u,g2,d⟩
 ·rintro I i q A ⟨Z,W,rfl,f3,E,u,g3,d⟩ ih
  show Gm lfp G (Runs F G) k I (.ptr t 0) s.v (.bool st) (.ptr n 0) v (.int .i64 (.ofNat cs.length) 0) (.int .i64 (.ofNat i) 0) Z W
  delta Gm
  obtain⟨q,hp,K⟩:=(u.el (by omega)).at (Sz A)
  rw[List.drop_eq_getElem_cons A]at d
  unfold kX at d
  generalize cs[i]=m at K d
  simp only[go_sem,BR,A,decide_true,hp,Jv K]
  refine sU (s:=m) (n0:=n) (h.kb (f3.low (Nat.le_refl _))) (by omega) λH4 n4 w f4 L=>?_
  obtain⟨vf,vm,ws,L,rfl⟩:=L
  have f5:=f3.trans f4
  have d1:=f4.le
  simp only[go_sem,Nat.reduceAdd]
  rw[T.set_set]
  refine run_set λH6 f6 g6=>?_
  have M:=f6.kb (b:=b) (by omega)
  have f7:=f5.trans M
  refine AGM (s:=s) (n:=n4+1) (n0:=n) (v:=.agg [((CY fs m).getD CJ).nm.v,((CY fs m).getD CJ).sup.v,vf,vm]) (c:=(CY fs m).getD CJ) ⟨vf,vm,ws,L.ke ((f6.ke).low (by omega)),rfl⟩ (by omega) λO y w f8 L=>?_
  have P:=f8.kb (b:=b) (by omega)
  have f9:=f7.trans P
  have d2:=f8.le
  have Q:=f4.trans (M.trans P)
  have u:=u.kb Q (by omega)
  have R:=Q.get g3 E (by omega)
  obtain⟨x,rfl,hx⟩:=L
  unfold ATu at d
  have f:T.get (T.set O y (one (((Ju s ((CY fs m).getD CJ).ms).getD ZW).cells x))) y=_:=T.Ag ..
  have g:T.get (T.set O y (one (((Ju s ((CY fs m).getD CJ).ms).getD ZW).cells x))) n=_:=(T.Ac _ _ (by omega)).trans R
  unfold Cb.cells at f g⊢
  simp only[go_sem,Nat.reduceAdd]
  rw[T.set_set]
  have B:(∀H' n' w,Kb b H n H' n'->ACO G H' n w ((kX fs s st (cs.drop (i+1))).getD ((0,0),ZW)).2->k (.Dl [((kX fs s st (cs.drop (i+1))).getD ((0,0),ZW)).1.v,w,.bool (kX fs s st (cs.drop (i+1))).isSome]) H' n')->
   I (.ptr t 0,s.v,.bool st,.ptr n 0,v,.int .i64 (.ofNat cs.length) 0,.int .i64 (.ofNat (i+1)) 0,T.set O y (one (((Ju s ((CY fs m).getD CJ).ms).getD ZW).cells x)),y+1):=λd=>by
   refine ih _ ⟨_,_,rfl,f9.trans' (m:=y+1) (λC S=>T.Ac _ _ (by omega)) (by omega) p,by omega,u.kp ((Kp.refl _ _).new _ (Nat.le_refl _) (by omega)),(T.Ac _ _ (by omega)).trans R,d⟩
  unfold Cb.cells at B
  cases h1:Ju s ((CY fs m).getD CJ).ms with
  |none=>
   rw[h1]at d f g B
   simp only[Option.isSome_none,go_sem,Option.getD_none,DI (show i+1<9223372036854775808 by omega)]
   exact B d
  |some o=>
   rw[h1]at d f g B hx
   simp only[Option.getD_some]at f g B hx
   simp only[Option.isSome_some,go_sem,Option.getD_some,Nat.reduceAdd,AU (off:=1) f rfl,Afb]
   cases h2:o.st==st with
   |false=>
    simp only[h2,cond_false]at d
    simp only[go_sem,DI (show i+1<9223372036854775808 by omega)]
    exact B d
   |true=>
    simp only[h2,cond_true]at d
    simp only[go_sem]
    rw[FU (m:=5) g (by omega) rfl rfl]
    rw[EN (m:=5) (T.Ag ..) (by omega) rfl]
    simp only[go_sem]
    have U:∀C,C<n->T.get (T.set (T.set O y (one [o.nm.v,.bool o.st,x,o.ret.nm.v,.bool o.ret.arr])) n (one [o.nm.v,.bool o.st,x,o.ret.nm.v,.bool o.ret.arr])) C=T.get O C:=λC S=>by
     rw[T.Ac _ _ (by omega),T.Ac _ _ (by omega)]
    exact d _ _ _ (f9.trans' (m:=y+1) U (by omega) p) ⟨x,rfl,hx.ke ((Kp.ke (n:=n) (n':=n) ⟨Nat.le_refl _,U⟩))⟩
 ·rintro I q ⟨Z,W,rfl,f3,E,u,g3,d⟩
  show Gm lfp G (Runs F G) k I (.ptr t 0) s.v (.bool st) (.ptr n 0) v (.int .i64 (.ofNat cs.length) 0) (.int .i64 (.ofNat cs.length) 0) Z W
  delta Gm
  rw[List.drop_eq_nil_of_le (Nat.le_refl _)]at d
  simp only[go_sem,BR,Nat.lt_irrefl,decide_false]
  delta OB
  simp only[zk,AP]
  rw[FU (m:=5) g3 (by omega) rfl rfl,ANh,EN (m:=5) (T.Ag ..) (by omega) rfl]
  simp only[go_sem]
  refine d _ _ _ (f3.trans' (m:=W) (λC S=>?_) (by omega) p) AXE
  rw[T.Ac _ _ (by omega)]
def twin(a:Option St):List St->Bool
 |[]=>false
 |x::xs=>(match a with|some y=>decide (y.1=x.1/\y.2=x.2)|none=>false)||twin (some x) xs
abbrev ARH(fs:List Fld):List St:=fs.map λf=>f.nm
abbrev ALx(fs:List Cb):List St:=fs.map λf=>f.nm
def twice(c:Fc):Bool:=twin none (ARH c.fs)||twin none (ALx c.ms)
theorem AfK(a b:St):CU (.one .str) false a.v b.v=some (.bool (decide (a.1=b.1/\a.2=b.2))):=AKu ..
theorem Ae7(i:Nat):B2.ev .gtr (.int .i64 (.ofNat i) 0) (.int .i64 (.ofNat 0) 0)=some (.bool (decide (0<i))):=IL ..
theorem Aal{G:AY}(O:Vz G){H:Heap}{n:Nat}{v:V}{c:Fc}(h:WB G H n v c){k:KV}(d:∀H' n',Kp H n H' n'->k (.bool (twice c)) H' n'):Runs F G AGV [v] H n k:=by
 refine go1 (AL2 BF G) ?_
 obtain⟨Z,vm,ws,h,rfl⟩:=h
 delta AFt
 unfold twice at d
 refine FT λm P W=>?_
 have Q:=h.fs.kp P
 have R:=h.ms.kp P
 have X:AX (.ptr n 2) G m=some Z:=AU W rfl
 have Y:AX (.ptr n 3) G m=some vm:=AU W rfl
 have K:=Q.lt
 have L:=R.lt
 simp only[go_sem,Nat.reduceAdd,X,h.fs.len]
 have M:(∀H' n',Kp H n H' n'->k (.bool (twin none (ALx c.ms))) H' n')->Ub lfp G (Runs F G) k (.ptr n 0) m (n+1):=by
  intro d
  delta Ub
  simp only[go_sem,Nat.reduceAdd,Y,h.ms.len']
  refine BN (N:=c.ms.length) (J:=λi q=>q=(.ptr n 0,.int .i64 (.ofNat c.ms.length) 0,.int .i64 (.ofNat i) 0,m,n+1)/\
   (k (.bool (twin (match i with|0=>none|i+1=>(ALx c.ms)[i]?) ((ALx c.ms).drop i))) m (n+1))) ?_ ?_ ⟨rfl,d _ _ P⟩
  ·rintro I i q p ⟨rfl,d⟩ S
   show PI lfp G (Runs F G) k I (.ptr n 0) (.int .i64 (.ofNat c.ms.length) 0) (.int .i64 (.ofNat i) 0) m (n+1)
   delta PI
   have f:i<(ALx c.ms).length:=by simpa using p
   rw[List.drop_eq_getElem_cons f,List.getElem_map]at d
   unfold twin at d
   obtain⟨q,w,T,C,-⟩:=R.at p
   obtain⟨q',D,y⟩:=dD O C rfl (o:=0) (x:=c.ms[i].nm.v) rfl
   simp only[go_sem,BR,p,decide_true,Ae7]
   have next:(k (.bool (twin (some c.ms[i].nm) ((ALx c.ms).drop (i+1)))) m (n+1))->I (.ptr n 0,.int .i64 (.ofNat c.ms.length) 0,.int .i64 (.ofNat (i+1)) 0,m,n+1):=λd=>by
    refine S _ ⟨rfl,?_⟩
    show k (.bool (twin ((ALx c.ms)[i]?) _)) m (n+1)
    rw[List.getElem?_eq_getElem f,List.getElem_map];exact d
   cases i with
   |zero=>
    simp only[Nat.lt_irrefl,decide_false,go_sem,DI (show 0+1<9223372036854775808 by omega)]
    exact next d
   |succ i=>
    have g:i<c.ms.length:=by omega
    obtain⟨r,w2,U,A,-⟩:=R.at g
    obtain⟨r',E,u⟩:=dD O A rfl (o:=0) (x:=c.ms[i].nm.v) rfl
    simp only[Nat.zero_lt_succ,decide_true,go_sem,Nat.reduceAdd,Y,ASs (show i+1<9223372036854775808 by unfold big at L;omega),U,E,u,T,D,y,AfK]
    have d:k (.bool (decide (c.ms[i].nm.1=c.ms[i+1].nm.1/\c.ms[i].nm.2=c.ms[i+1].nm.2)||twin (some c.ms[i+1].nm) ((ALx c.ms).drop (i+1+1)))) m (n+1):=by
     have e:(ALx c.ms)[i]? =some c.ms[i].nm:=by rw[List.getElem?_map,List.getElem?_eq_getElem g];rfl
     simp only[e]at d;exact d
    cases e:decide (c.ms[i].nm.1=c.ms[i+1].nm.1/\c.ms[i].nm.2=c.ms[i+1].nm.2)with
    |true=>rw[e]at d;simp only[go_sem];exact d
    |false=>
     rw[e]at d
     simp only[go_sem,DI (show i+1+1<9223372036854775808 by unfold big at L;omega)]
     exact next d
  ·rintro I q ⟨rfl,d⟩
   show PI lfp G (Runs F G) k I (.ptr n 0) (.int .i64 (.ofNat c.ms.length) 0) (.int .i64 (.ofNat c.ms.length) 0) m (n+1)
   delta PI
   rw[List.drop_eq_nil_of_le (by simp)]at d
   simp only[go_sem,BR,Nat.lt_irrefl,decide_false]
   delta Zc
   exact d
 generalize twin none (ALx c.ms)=B at d M
 refine BN (N:=c.fs.length) (J:=λi q=>q=(.ptr n 0,.int .i64 (.ofNat c.fs.length) 0,.int .i64 (.ofNat i) 0,m,n+1)/\
  (∀H' n',Kp H n H' n'->k (.bool (twin (match i with|0=>none|i+1=>(ARH c.fs)[i]?) ((ARH c.fs).drop i)||B)) H' n')) ?_ ?_ ⟨rfl,d⟩
 ·rintro I i q p ⟨rfl,d⟩ S
  show Mc lfp G (Runs F G) k I (.ptr n 0) (.int .i64 (.ofNat c.fs.length) 0) (.int .i64 (.ofNat i) 0) m (n+1)
  delta Mc
  have f:i<(ARH c.fs).length:=by simpa using p
  rw[List.drop_eq_getElem_cons f,List.getElem_map]at d
  unfold twin at d
  obtain⟨q,T,C⟩:=Q.at p
  obtain⟨q',D,y⟩:=dD O C rfl (o:=0) (x:=c.fs[i].nm.v) rfl
  simp only[go_sem,BR,p,decide_true,Ae7]
  have next:(∀H' n',Kp H n H' n'->k (.bool (twin (some c.fs[i].nm) ((ARH c.fs).drop (i+1))||B)) H' n')->I (.ptr n 0,.int .i64 (.ofNat c.fs.length) 0,.int .i64 (.ofNat (i+1)) 0,m,n+1):=λd=>by
   refine S _ ⟨rfl,?_⟩
   show ∀H' n',Kp H n H' n'->k (.bool (twin ((ARH c.fs)[i]?) _||_)) H' n'
   rw[List.getElem?_eq_getElem f,List.getElem_map];exact d
  cases i with
  |zero=>
   simp only[Nat.lt_irrefl,decide_false,go_sem,DI (show 0+1<9223372036854775808 by omega)]
   simp only[Bool.false_or]at d
   exact next d
  |succ i=>
   have g:i<c.fs.length:=by omega
   obtain⟨r,U,A⟩:=Q.at g
   obtain⟨r',E,u⟩:=dD O A rfl (o:=0) (x:=c.fs[i].nm.v) rfl
   simp only[Nat.zero_lt_succ,decide_true,go_sem,Nat.reduceAdd,X,ASs (show i+1<9223372036854775808 by unfold big at K;omega),U,E,u,T,D,y,AfK]
   have d:∀H' n',Kp H n H' n'->k (.bool ((decide (c.fs[i].nm.1=c.fs[i+1].nm.1/\c.fs[i].nm.2=c.fs[i+1].nm.2)||twin (some c.fs[i+1].nm) ((ARH c.fs).drop (i+1+1)))||B)) H' n':=by
    have e:(ARH c.fs)[i]? =some c.fs[i].nm:=by rw[List.getElem?_map,List.getElem?_eq_getElem g];rfl
    simp only[e]at d;exact d
   cases e:decide (c.fs[i].nm.1=c.fs[i+1].nm.1/\c.fs[i].nm.2=c.fs[i+1].nm.2)with
   |true=>rw[e]at d;simp only[go_sem];exact d _ _ P
   |false=>
    rw[e]at d
    simp only[go_sem,DI (show i+1+1<9223372036854775808 by unfold big at K;omega)]
    exact next d
 ·rintro I q ⟨rfl,d⟩
  show Mc lfp G (Runs F G) k I (.ptr n 0) (.int .i64 (.ofNat c.fs.length) 0) (.int .i64 (.ofNat c.fs.length) 0) m (n+1)
  delta Mc
  rw[List.drop_eq_nil_of_le (by simp)]at d
  simp only[go_sem,BR,Nat.lt_irrefl,decide_false]
  exact M d
structure Ads(G:AY)(H:Heap)(n m:Nat)(v:V)(cs:List Fc):Prop where
 is:∃LS:EL,El G H v 4 LS/\LS.length=cs.length/\∀(i:Nat) (L:LV) (c:Fc),LS[i]? =some L->cs[i]? =some c->WB G H m (.agg L) c
 lo:Lo v n
 lt:cs.length<=1000
 mn:m<=n
def YS(fs:Tab):List Fc->Tab
 |[]=>fs
 |c::cs=>YS (XD c.nm c fs) cs
def EW(cs:List Fc):Tab:=YS [] cs
theorem AA3.put{G:AY}{H H':Heap}{n a:Nat}{fs:Tab}{v:V}{c:Fc}{ps:List (St×V)}(q:AAd H a ps)(f:keyed ps fs)(k:∀s v c,CY ps s=some v->CY fs s=some c->WB G H' n v c)(m:AAd H' a (XD c.nm v ps))(p:WB G H' n v c):
 AA3 G H' n a (XD c.nm c fs):=
 ⟨_,m,AHi _ _ _ f,λs w d g i=>by
  rw[RQ]at g i
  by_cases e:c.nm=s
  ·rw[if_pos e]at g i;cases g;cases i;exact p
  ·rw[if_neg e]at g i;exact k _ _ _ g i⟩
theorem WB.up{G:AY}{H:Heap}{n n':Nat}{v:V}{c:Fc}(h:WB G H n v c)(d:n<=n'):WB G H n' v c:=h.ke ⟨d,λ_ _ _ _ h=>h⟩
theorem Afa{G:AY}{H:Heap}{n m:Nat}{v:V}{cs:List Fc}(h:Ads G H n m v cs){k:KV}
 (hk:∀H' n' t a b,Kp H n H' n'->T.get H' t=some (one [.map a,.map b])->AA3 G H' m a (EW cs)->Js H' b->n<=a->a<b->b<t->t<n'->k (.ptr t 0) H' n'):Runs F G AJ7 [v] H n k:=by
 refine go1 (AQ9 BF G) ?_
 delta AK8
 obtain⟨⟨LS,u,w,R⟩,S,d1,A⟩:=h
 simp only[AOF,go_sem,Nat.reduceAdd,show BH [V.AL6,.AL6] [(0,1,.c (.map n)),(1,1,.c (.map (n+1)))]=some (.agg [.map n,.map (n+1)])from rfl,u.len,w]
 have f1:Kp H n (T.set (T.set (T.set H n (.map [] 0)) (n+1) (.map [] 0)) (n+1+1) (one [.map n,.map (n+1)])) (n+1+1+1):=((((Kp.refl H n).new (m:=n+1) _ (Nat.le_refl _) (by omega)).new (m:=n+1+1) _ (by omega) (by omega)).new _ (by omega) (by omega))
 refine BN (N:=cs.length) (J:=λi q=>∃H' n' p,q=(.ptr (n+1+1) 0,v,.int .i64 (.ofNat cs.length) 0,.int .i64 (.ofNat i) 0,H',n')/\Kp H n H' n'/\n+1+1<n'/\T.get H' (n+1+1)=some (one [.map n,.map (n+1)])/\AA3 G H' m n p/\Js H' (n+1)/\
  YS p (cs.drop i)=EW cs) ?_ ?_ ⟨_,_,[],rfl,f1,by omega,T.Ag ..,⟨[],⟨[],0,by rw[T.Ac _ _ (by omega),T.Ac _ _ (by omega),T.Ag],rfl⟩,rfl,λs v c h=>by cases h⟩,⟨[],[],0,by rw[T.Ac _ _ (by omega),T.Ag],rfl⟩,rfl⟩
 ·rintro I i q U ⟨B,C,p,rfl,f3,W,O,g,X,d⟩ ih
  show UL lfp G (Runs F G) k I (.ptr (n+1+1) 0) v (.int .i64 (.ofNat cs.length) 0) (.int .i64 (.ofNat i) 0) B C
  delta UL
  obtain⟨q,hp,D⟩:=(u.kp S f3).at (i:=i) (c:=LS[i]'(by omega)) (List.getElem?_eq_getElem _)
  have P:=R i _ _ (List.getElem?_eq_getElem (by omega)) (List.getElem?_eq_getElem U)
  rw[List.drop_eq_getElem_cons U]at d
  unfold YS at d
  generalize cs[i]=fc at P d
  obtain⟨Y,Z,ws,P,e⟩:=P
  have e':LS[i]'(by omega)=[fc.nm.v,fc.sup.v,Y,Z]:=by injection e
  rw[e']at D
  simp only[go_sem,BR,U,decide_true,hp,Bj D,Nat.reduceAdd]
  rw[T.set_set]
  rw[show AX (.ptr (n+1+1) 0) G (T.set B C (one [fc.nm.v,fc.sup.v,Y,Z]))=some (.map n)from AU ((T.Ac _ _ (by omega)).trans O) rfl]
  obtain⟨ps,E,K,L⟩:=g.is
  simp only[go_sem]
  refine APO (rY E (T.Ac _ _ (by omega))) fc.nm _ λH4 d0 f=>?_
  simp only[go_sem,DI (show i+1<9223372036854775808 by omega)]
  have f4:Kp H n H4 (C+1):=⟨by omega,λQ M=>by rw[f Q (by omega),T.Ac _ _ (by omega)];exact f3.same Q M⟩
  have f5:Kp B n H4 n:=⟨Nat.le_refl _,λQ M=>by rw[f Q (by omega),T.Ac _ _ (by omega)]⟩
  refine ih _ ⟨H4,_,XD fc.nm fc p,rfl,f4,by omega,?_,AA3.put E K (λs v c x y=>(L s v c x y).ke (f5.ke.low A)) d0 ⟨Y,Z,ws,P.ke ((f4.ke).low A),rfl⟩,?_,d⟩
  ·rw[f _ (by omega),T.Ac _ _ (by omega)];exact O
  ·exact X.same (by rw[f _ (by omega),T.Ac _ _ (by omega)])
 ·rintro I q ⟨B,C,p,rfl,f3,W,O,g,X,d⟩
  show UL lfp G (Runs F G) k I (.ptr (n+1+1) 0) v (.int .i64 (.ofNat cs.length) 0) (.int .i64 (.ofNat cs.length) 0) B C
  delta UL
  simp only[go_sem,BR,Nat.lt_irrefl,decide_false]
  delta lM
  rw[List.drop_eq_nil_of_le (Nat.le_refl _)]at d
  have d:p=EW cs:=d
  subst d
  exact hk _ _ _ n (n+1) f3 O g X (by omega) (by omega) (by omega) (by omega)
def Abm(fs:Tab)(sup:St)(m:Cb):Bool:=match AAu fs sup m.nm false with
 |some o=> !m.st&& !m.same o.2
 |none=>false
def yQ(fs:Tab)(sup:St):List Cb->Int
 |[]=>0
 |m::ms=>bif !((m.ret::m.ps).all (Um fs))then 23 else bif Abm fs sup m then 27 else yQ fs sup ms
def AQI(fs:Tab)(sup:St)(r:Int):List Fld->Int
 |[]=>r
 |f::l=>bif !([f.ty].all (Um fs))then 23 else bif (dn fs sup f.nm).isSome then 6 else AQI fs sup r l
structure AUe(G:AY)(H0:Heap)(n0:Nat)(H:Heap)(n t a b e:Nat)(fs:Tab)(c:Fc)(vf vm:V)(ws:List V):Prop where
 f:Kb b H0 n0 H n
 en:e<n
 e0:n0<=e
 g:T.get H e=some (one [c.nm.v,c.sup.v,vf,vm])
theorem ANp{G:AY}{H0 H:Heap}{n0 n t a b e:Nat}{fs:Tab}(h:TabAt G H0 n0 t a b fs)(d2:fs.length<=1000){c:Fc}{S u:V}{ws:List V}(E:AUe G H0 n0 H n t a b e fs c S u ws)
 (hf:ZO G H0 n0 [c.nm.v,c.sup.v,S,u] c S u ws) (O:∀m∈c.ms,m.ps.length<=100000) {k:KV} (d:∀H' n',Kb b H0 n0 H' n'->k (.int .i64 (yQ fs c.sup c.ms) 0) H' n'):
 Ja lfp G (Runs F G) k (.ptr t 0) (.ptr e 0) H n:=by
 delta Ja
 have A:=hf.ms.lt
 have g2:=h.bn
 simp only[go_sem,Nat.reduceAdd,AU (off:=3) E.g (v:=u) rfl,hf.ms.len']
 refine BN (N:=c.ms.length) (J:=λi q=>∃H' n',q=(.ptr t 0,.ptr e 0,u,.int .i64 (.ofNat c.ms.length) 0,.int .i64 (.ofNat i) 0,H',n')/\AUe G H0 n0 H' n' t a b e fs c S u ws/\
  (∀H' n',Kb b H0 n0 H' n'->k (.int .i64 (yQ fs c.sup (c.ms.drop i)) 0) H' n')) ?_ ?_ ⟨H,n,rfl,E,d⟩
 ·rintro I i q B ⟨K,p,rfl,E,d⟩ ih
  show Gf lfp G (Runs F G) k I (.ptr t 0) (.ptr e 0) u (.int .i64 (.ofNat c.ms.length) 0) (.int .i64 (.ofNat i) 0) K p
  delta Gf
  have f3:=E.f
  have d3:=E.en
  have d4:=E.e0
  have d5:J5 G K n0 u c.ms ws:=hf.ms.ke ((f3.ke h.seen).low (Nat.le_refl _))
  obtain⟨q,w,hp,P,hw⟩:=d5.at B
  have O:=O _ (List.getElem_mem B)
  have U:=hf.ms.ok _ (List.getElem_mem B)
  rw[List.drop_eq_getElem_cons B]at d
  unfold yQ at d
  generalize c.ms[i]=m at P d hw O U
  unfold Cb.cells at P
  simp only[go_sem,BR,B,decide_true,hp,Bj P,Nat.reduceAdd]
  rw[T.set_set]
  have g4:=T.Ag K p (one [m.nm.v,.bool m.st,w,m.ret.nm.v,.bool m.ret.arr])
  have f4:Kp K p (T.set K p (one [m.nm.v,.bool m.st,w,m.ret.nm.v,.bool m.ret.arr])) (p+1):=(Kp.refl _ _).new _ (Nat.le_refl _) (by omega)
  generalize T.set K p (one [m.nm.v,.bool m.st,w,m.ret.nm.v,.bool m.ret.arr])=H4 at f4 g4
  rw[show Aj 2 (.ptr p 3) G H4=some (.agg m.ret.cells)from GH g4 (by omega) (by show 5<=5;omega)]
  simp only[go_sem,Nat.reduceAdd]
  rw[AGm (z:=2) (L:=m.ret.cells) rfl]
  have C:=T.Ag H4 (p+1) (.arr 2 1 (T.set (T.set .e 0 [.str 0 0,.bool false]) 0 m.ret.cells))
  have W:Kp H4 (p+1) (T.set H4 (p+1) (.arr 2 1 (T.set (T.set .e 0 [.str 0 0,.bool false]) 0 m.ret.cells))) (p+1+1):=(Kp.refl _ _).new _ (Nat.le_refl _) (by omega)
  generalize T.set H4 (p+1) (.arr 2 1 (T.set (T.set .e 0 [.str 0 0,.bool false]) 0 m.ret.cells))=H5 at W C
  have g5:=W.get g4 (by omega)
  have d6:=rJ (G:=G) (by omega) (show m.ret.cells.length=2 from rfl) C
  have d7:=f3.trans ((f4.trans W).kb (b:=b) (by omega))
  have d8:=hw.ke (((f4.trans W).ke).low (m:=n0) (by omega))
  simp only[go_sem,AU (off:=2) g5 (v:=w) rfl]
  refine AZ8 (by omega) C (by omega) d6.2 d8.el.2 (by rw[EP];omega) λv6 H6 n6 X d9 f0 Y=>?_
  have f6:Kp H5 (p+1+1) H6 n6:=⟨f0,d9⟩
  have Z:=d7.trans (f6.kb (b:=b) (by omega))
  have g6:=f6.get g5 (by omega)
  refine tX (xs:=m.ret::m.ps) (h.kb Z) ⟨X,Y,by simp[big];omega,?_⟩ λH7 n7 f7=>?_
  ·intro x hx
   rcases List.mem_cons.1 hx with rfl|hx
   ·exact U.2
   ·exact hw.ok _ hx
  have Q:=Z.trans f7
  have g3:=f7.le
  have g7:=f7.get g6 (by omega) (by omega)
  simp only[go_sem,Nat.reduceAdd,BZ]
  cases h1:(m.ret::m.ps).all (Um fs)with
  |false=>
   rw[h1]at d
   simp only[Bool.not_false,cond_true]at d
   simp only[Bool.not_false,go_sem]
   exact d _ _ Q
  |true=>
   rw[h1]at d
   simp only[Bool.not_true,cond_false]at d
   have fe:Kb b K p H7 n7:=((f4.trans (W.trans f6)).kb (b:=b) (by omega)).trans f7
   have ge:T.get H7 e=some (one [c.nm.v,c.sup.v,S,u]):=fe.get E.g d3 (by omega)
   simp only[Bool.not_true,go_sem,Nat.reduceAdd,AU (off:=1) ge (v:=c.sup.v) rfl,AU (off:=0) g7 (v:=m.nm.v) rfl]
   refine APf (c:=c.sup) (s:=m.nm) (st:=false) (h.kb Q) d2 λR M x f8 hx=>?_
   have d0:=Q.trans f8
   have i0:=f8.le
   have g8:=f8.get g7 (by omega) (by omega)
   have f1:ACO G R n7 (.agg (m.cells w)) m:=⟨w,rfl,(hw.ke (((fe.trans f8).ke (f3.seen h.seen)).low (m:=n0) (by omega))).ke ⟨by omega,λ_ _ _ _ h=>h⟩⟩
   obtain⟨y,rfl,hy⟩:=hx
   unfold Abm at d
   have next:∀H' n',Kb b R M H' n'->(∀H' n',Kb b H0 n0 H' n'->k (.int .i64 (yQ fs c.sup (c.ms.drop (i+1))) 0) H' n')->I (.ptr t 0,.ptr e 0,u,.int .i64 (.ofNat c.ms.length) 0,.int .i64 (.ofNat (i+1)) 0,H',n'):=λH' n' f d=>
    ih _ ⟨_,_,rfl,⟨d0.trans f,by have:=f.le;omega,d4,f.get (f8.get ge (by omega) (by omega)) (by omega) (by omega)⟩,d⟩
   simp only[go_sem,Nat.reduceAdd]
   have g9:=T.Ag R M (one (((AAu fs c.sup m.nm false).getD ((0,0),ZW)).2.cells y))
   have D:Kp R M (T.set R M (one (((AAu fs c.sup m.nm false).getD ((0,0),ZW)).2.cells y))) (M+1):=(Kp.refl _ _).new _ (Nat.le_refl _) (by omega)
   unfold Cb.cells at g9 D⊢
   simp only[go_sem,Nat.reduceAdd]
   rw[T.set_set]
   cases h2:AAu fs c.sup m.nm false with
   |none=>
    rw[h2]at d D
    simp only[cond_false]at d
    simp only[Option.isSome_none,go_sem,DI (show i+1<9223372036854775808 by unfold big at A;omega)]
    exact next _ _ (D.kb (by omega)) d
   |some o=>
    rw[h2]at d D g9 hy
    simp only[Option.getD_some]at D g9 hy
    simp only[Option.isSome_some,Option.getD_some]
    generalize T.set R M (one [o.2.nm.v,.bool o.2.st,y,o.2.ret.nm.v,.bool o.2.ret.arr])=H9 at D g9
    have gm:=D.get g8 (by omega)
    simp only[go_sem,Nat.reduceAdd,AU (off:=1) gm (v:=.bool m.st) rfl,BZ]
    cases h3:m.st with
    |true=>
     rw[h3]at d
     simp only[Bool.not_true,Bool.false_and,cond_false]at d
     simp only[Bool.not_true,go_sem,DI (show i+1<9223372036854775808 by unfold big at A;omega)]
     exact next _ _ (D.kb (by omega)) d
    |false=>
     rw[h3]at d
     simp only[Bool.not_false,Bool.true_and]at d
     simp only[Bool.not_false,go_sem,CG (m:=5) gm (by omega) rfl,CG (m:=5) g9 (by omega) rfl]
     have f2:ACO G H9 (M+1) (.agg [m.nm.v,.bool m.st,w,m.ret.nm.v,.bool m.ret.arr]) m:=f1.ke ⟨by omega,λv z LS hl he=>(D.ke).el v z LS (hl.mono (by omega)) he⟩
     have g0:ACO G H9 (M+1) (.agg [o.2.nm.v,.bool o.2.st,y,o.2.ret.nm.v,.bool o.2.ret.arr]) o.2:=⟨y,rfl,hy.ke ⟨by omega,λv z LS hl he=>(D.ke).el v z LS (hl.mono (by omega)) he⟩⟩
     refine ANH f2 g0 λi1 i2 g1=>?_
     have d1:=(D.trans g1).kb (b:=b) (by omega)
     simp only[go_sem,BZ]
     cases h4:m.same o.2 with
     |false=>
      rw[h4]at d
      simp only[Bool.not_false,cond_true]at d
      simp only[Bool.not_false,go_sem]
      exact d _ _ (d0.trans d1)
     |true=>
      rw[h4]at d
      simp only[Bool.not_true,cond_false]at d
      simp only[Bool.not_true,go_sem,DI (show i+1<9223372036854775808 by unfold big at A;omega)]
      exact next _ _ d1 d
 ·rintro I q ⟨K,p,rfl,E,d⟩
  show Gf lfp G (Runs F G) k I (.ptr t 0) (.ptr e 0) u (.int .i64 (.ofNat c.ms.length) 0) (.int .i64 (.ofNat c.ms.length) 0) K p
  delta Gf
  rw[List.drop_eq_nil_of_le (Nat.le_refl _)]at d
  simp only[go_sem,BR,Nat.lt_irrefl,decide_false]
  delta Nz
  exact d _ _ E.f
theorem AQf{G:AY}{H0 H:Heap}{n0 n t a b e:Nat}{fs:Tab}(h:TabAt G H0 n0 t a b fs)(E:fs.length<=1000){c:Fc}{u K:V}{ws:List V}(A:AUe G H0 n0 H n t a b e fs c u K ws)
 (R:ZO G H0 n0 [c.nm.v,c.sup.v,u,K] c u K ws) (W:∀m∈c.ms,m.ps.length<=100000) {k:KV} (d:∀H' n',Kb b H0 n0 H' n'->k (.int .i64 (AQI fs c.sup (yQ fs c.sup c.ms) c.fs) 0) H' n'):
 lfp (V×V×V×V×V×Heap×Nat) (MX lfp G (Runs F G) k) (.ptr t 0,.ptr e 0,u,.int .i64 (.ofNat c.fs.length) 0,.int .i64 (.ofNat 0) 0,H,n):=by
 have M:=R.fs.lt
 have d3:=h.bn
 refine BN (N:=c.fs.length) (J:=λi q=>∃H' n',q=(.ptr t 0,.ptr e 0,u,.int .i64 (.ofNat c.fs.length) 0,.int .i64 (.ofNat i) 0,H',n')/\AUe G H0 n0 H' n' t a b e fs c u K ws/\
  (∀H' n',Kb b H0 n0 H' n'->k (.int .i64 (AQI fs c.sup (yQ fs c.sup c.ms) (c.fs.drop i)) 0) H' n')) ?_ ?_ ⟨H,n,rfl,A,d⟩
 ·rintro I i q w ⟨y,p,rfl,A,d⟩ ih
  show Gn lfp G (Runs F G) k I (.ptr t 0) (.ptr e 0) u (.int .i64 (.ofNat c.fs.length) 0) (.int .i64 (.ofNat i) 0) y p
  delta Gn
  have f3:=A.f
  have X:=A.en
  have Y:=A.e0
  have Z:VD G y n0 u c.fs:=R.fs.ke ((f3.ke h.seen).low (Nat.le_refl _))
  obtain⟨q,hp,C⟩:=Z.at w
  have O:=R.fs.ok _ (List.getElem_mem w)
  rw[List.drop_eq_getElem_cons w]at d
  unfold AQI at d
  generalize c.fs[i]=m at C d O
  unfold Fld.cells at C
  simp only[go_sem,BR,w,decide_true,hp,Bj C,Nat.reduceAdd]
  rw[T.set_set]
  have g4:=T.Ag y p (one [m.nm.v,m.ty.nm.v,.bool m.ty.arr])
  have f4:Kp y p (T.set y p (one [m.nm.v,m.ty.nm.v,.bool m.ty.arr])) (p+1):=(Kp.refl _ _).new _ (Nat.le_refl _) (by omega)
  generalize T.set y p (one [m.nm.v,m.ty.nm.v,.bool m.ty.arr])=H4 at f4 g4
  rw[show Aj 2 (.ptr p 1) G H4=some (.agg m.ty.cells)from GH g4 (by omega) (by show 3<=3;omega)]
  simp only[go_sem,Nat.reduceAdd]
  rw[AGm (z:=2) (L:=m.ty.cells) rfl]
  have B:=T.Ag H4 (p+1) (.arr 2 1 (T.set (T.set .e 0 [.str 0 0,.bool false]) 0 m.ty.cells))
  have S:Kp H4 (p+1) (T.set H4 (p+1) (.arr 2 1 (T.set (T.set .e 0 [.str 0 0,.bool false]) 0 m.ty.cells))) (p+1+1):=(Kp.refl _ _).new _ (Nat.le_refl _) (by omega)
  generalize T.set H4 (p+1) (.arr 2 1 (T.set (T.set .e 0 [.str 0 0,.bool false]) 0 m.ty.cells))=H5 at S B
  have g5:=S.get g4 (by omega)
  have d0:=rJ (G:=G) (by omega) (show m.ty.cells.length=2 from rfl) B
  have P:=f3.trans ((f4.trans S).kb (b:=b) (by omega))
  refine tX (xs:=[m.ty]) (h.kb P) ⟨d0,λid d1=>by cases d1;omega,by show 1<big;decide,?_⟩ λH7 n7 U=>?_
  ·intro x hx;simp at hx;subst hx;exact O.2
  have D:=P.trans U
  have d4:=U.le
  have g7:=U.get g5 (by omega) (by omega)
  simp only[go_sem,Nat.reduceAdd,BZ]
  cases h1:[m.ty].all (Um fs)with
  |false=>
   rw[h1]at d
   simp only[Bool.not_false,cond_true]at d
   simp only[Bool.not_false,go_sem]
   exact d _ _ D
  |true=>
   rw[h1]at d
   simp only[Bool.not_true,cond_false]at d
   have fe:Kb b y p H7 n7:=((f4.trans S).kb (b:=b) (by omega)).trans U
   have ge:T.get H7 e=some (one [c.nm.v,c.sup.v,u,K]):=fe.get A.g X (by omega)
   simp only[Bool.not_true,go_sem,Nat.reduceAdd,AU (off:=1) ge (v:=c.sup.v) rfl,AU (off:=0) g7 (v:=m.nm.v) rfl]
   refine AO4 (c:=c.sup) (s:=m.nm) (h.kb D) E λH8 n8 f8=>?_
   have d2:=D.trans f8
   have d5:=f8.le
   unfold Ty.v Ty.cells
   simp only[go_sem,Nat.reduceAdd]
   rw[T.set_set]
   have f9:Kp H8 n8 (T.set H8 n8 (one [((dn fs c.sup m.nm).getD ((0,0),tyZ)).2.nm.v,.bool ((dn fs c.sup m.nm).getD ((0,0),tyZ)).2.arr])) (n8+1):=(Kp.refl _ _).new _ (Nat.le_refl _) (by omega)
   have Q:=d2.trans (f9.kb (b:=b) (by omega))
   cases h2:(dn fs c.sup m.nm).isSome with
   |true=>
    rw[h2]at d
    simp only[cond_true]at d
    simp only[go_sem]
    exact d _ _ Q
   |false=>
    rw[h2]at d
    simp only[cond_false]at d
    simp only[go_sem,DI (show i+1<9223372036854775808 by unfold big at M;omega)]
    exact ih _ ⟨_,_,rfl,⟨Q,by omega,Y,f9.get (f8.get ge (by omega) (by omega)) (by omega)⟩,d⟩
 ·rintro I q ⟨y,p,rfl,A,d⟩
  show Gn lfp G (Runs F G) k I (.ptr t 0) (.ptr e 0) u (.int .i64 (.ofNat c.fs.length) 0) (.int .i64 (.ofNat c.fs.length) 0) y p
  delta Gn
  rw[List.drop_eq_nil_of_le (Nat.le_refl _)]at d
  simp only[go_sem,BR,Nat.lt_irrefl,decide_false]
  exact ANp h E A R W d
theorem AM5:∀(m:Nat) (fs:Tab) (out:List St) (s:St),out.length<=(G7 m fs out s).1.length
 |0,_,_,_=>Nat.le_refl _
 |m+1,fs,out,s=>by
  unfold G7
  cases decide (s.1=0/\s.2=0)with
  |true=>exact Nat.le_refl _
  |false=>
   simp only[cond_false]
   cases CY fs s with
   |none=>exact Nat.le_refl _
   |some c=>
    show _<=(bif tN s out then(out,false)else G7 m fs (out++[s]) c.sup).1.length
    cases tN s out with
    |true=>exact Nat.le_refl _
    |false=>have:=AM5 m fs (out++[s]) c.sup;simp only[List.length_append,List.length_singleton]at this;simp only[cond_false];omega
theorem AUy{fs:Tab}{s:St}{c:Fc}(h:CY fs s=some c)(d:¬(s.1=0/\s.2=0)):1<=(above fs s).1.length:=by
 unfold above G7
 rw[decide_eq_false d,h]
 show 1<=(G7 fs.length fs [s] c.sup).1.length
 exact AM5 fs.length fs [s] c.sup
def lastOf(xs:List St):St:=(xs[xs.length-1]?).getD (0,0)
def Ul(fs:Tab)(s:St):Int:=match CY fs s with
 |none=>23
 |some c=>bif decide (s.1=0/\s.2=0)then 23 else
  bif !(above fs s).2&& !tN ((CY fs (lastOf (above fs s).1)).getD CJ).sup (above fs s).1 then 23 else
  bif !(above fs s).2 then 26 else bif twice c then 6 else AQI fs c.sup (yQ fs c.sup c.ms) c.fs
theorem AZi{G:AY}(hG:Vz G){H:Heap}{n t a b:Nat}{fs:Tab}(h:TabAt G H n t a b fs)(I:fs.length<=1000)(d0:∀s c,CY fs s=some c->∀m∈c.ms,m.ps.length<=100000){s:St}{k:KV}
 (d:∀H' n',Kb b H n H' n'->k (.int .i64 (Ul fs s) 0) H' n'):Runs F G fD [.ptr t 0,s.v] H n k:=by
 refine go2 (ABe BF G) ?_
 delta gJ
 have d6:=h.bn
 unfold Ul at d
 refine sU (s:=s) h (Nat.le_refl _) λJ D w K i=>?_
 obtain⟨E,L,ws,i,rfl⟩:=i
 have p:=K.le
 simp only[go_sem,Nat.reduceAdd,BZ]
 rw[T.set_set]
 have W:=T.Ag J D (one [((CY fs s).getD CJ).nm.v,((CY fs s).getD CJ).sup.v,E,L])
 have M:Kp J D (T.set J D (one [((CY fs s).getD CJ).nm.v,((CY fs s).getD CJ).sup.v,E,L])) (D+1):=(Kp.refl _ _).new _ (Nat.le_refl _) (by omega)
 have g:=K.trans (M.kb (b:=b) (by omega))
 cases X:CY fs s with
 |none=>
  rw[X]at d g
  simp only[Option.isSome_none,Bool.not_false,go_sem]
  exact d _ _ g
 |some c=>
  rw[X]at d g W M i
  simp only[Option.getD_some]at d g W M i
  simp only[Option.isSome_some,Bool.not_true,go_sem,Option.getD_some,show CU (.one .str) false s.v (.str 0 0)=some (.bool (decide (s.1=0/\s.2=0)))from AKu ..]
  cases h0:decide (s.1=0/\s.2=0)with
  |true=>
   rw[h0]at d
   simp only[go_sem]
   exact d _ _ g
  |false=>
   rw[h0]at d
   simp only[cond_false]at d
   simp only[go_sem]
   generalize T.set J D (one [c.nm.v,c.sup.v,E,L])=H2 at g W M
   refine tu (s:=s) (h.kb g) I λH3 n3 v f3 ho N=>?_
   have O:=AUy X (of_decide_eq_false h0)
   generalize(above fs s).1=up at ho N O d
   generalize(above fs s).2=whole at d
   have P:=g.trans f3
   have d7:=f3.le
   have g3:=f3.get W (by omega) (by omega)
   have Q:=ho.el (by omega)
   obtain⟨m,hm⟩:∃m,up.length=m+1:=⟨up.length-1,by omega⟩
   have R:m<up.length:=by omega
   obtain⟨q,hp,d1⟩:=Q.at (Sz R)
   have u:lastOf up=up[m]:=by unfold lastOf;rw[show up.length-1=m by omega,List.getElem?_eq_getElem R];rfl
   simp only[go_sem,Q.len,JH,hm,ASs (show m+1<9223372036854775808 by omega),hp,Jv d1]
   rw[<-u]
   refine sU (s:=lastOf up) (h.kb P) (Nat.le_refl _) λY x w S y=>?_
   obtain⟨A,B,d8,y,rfl⟩:=y
   have d2:=P.trans S
   have d9:=S.le
   have g4:=S.get g3 (by omega) (by omega)
   have d3:=ho.kb S (by omega)
   simp only[go_sem,Nat.reduceAdd,BZ]
   rw[T.set_set]
   generalize(CY fs (lastOf up)).getD CJ=lc at y d
   have g5:=T.Ag Y x (one [lc.nm.v,lc.sup.v,A,B])
   have U:Kp Y x (T.set Y x (one [lc.nm.v,lc.sup.v,A,B])) (x+1):=(Kp.refl _ _).new _ (Nat.le_refl _) (by omega)
   generalize T.set Y x (one [lc.nm.v,lc.sup.v,A,B])=H5 at g5 U
   have C:=d2.trans (U.kb (b:=b) (by omega))
   have ge:=U.get g4 (by omega)
   cases whole with
   |false=>
    simp only[Bool.not_false,Bool.true_and]at d
    simp only[Bool.not_false,go_sem,Nat.reduceAdd,AU (off:=1) g5 (v:=lc.sup.v) rfl]
    refine AEd (s:=lc.sup) (xs:=up) ((d3.kp U).el (by omega)) (by omega) ?_
    simp only[go_sem,BZ]
    cases h6:tN lc.sup up with
    |false=>
     rw[h6]at d
     simp only[Bool.not_false,cond_true]at d
     simp only[Bool.not_false,go_sem]
     exact d _ _ C
    |true=>
     rw[h6]at d
     simp only[Bool.not_true,cond_false,cond_true]at d
     simp only[Bool.not_true,go_sem]
     exact d _ _ C
   |true=>
    simp only[Bool.not_true,Bool.false_and,cond_false]at d
    have fe:Kb b J D H5 (x+1):=(M.kb (by omega)).trans (f3.trans (S.trans (U.kb (by omega))))
    simp only[Bool.not_true,go_sem]
    rw[CG (m:=4) ge (by omega) rfl,AP]
    have d4:WB G H5 (x+1) (.agg [c.nm.v,c.sup.v,E,L]) c:=⟨E,L,ws,(i.ke ((fe.ke (K.seen h.seen)).low p)).ke ⟨by omega,λ_ _ _ _ h=>h⟩,rfl⟩
    refine Aal hG d4 λH6 n6 Z=>?_
    have d5:=C.trans (Z.kb (b:=b) (by omega))
    have f0:=Z.le
    cases h7:twice c with
    |true=>
     rw[h7]at d
     simp only[cond_true]at d
     simp only[go_sem]
     exact d _ _ d5
    |false=>
     rw[h7]at d
     simp only[cond_false]at d
     have V:=Z.get ge (by omega)
     simp only[go_sem,Nat.reduceAdd,AU (off:=2) V (v:=E) rfl,i.fs.len]
     exact AQf (h.kb (K.low (Nat.le_refl _))) I ⟨(fe.trans (Z.kb (by omega))).AcG p,by omega,p,V⟩ i (d0 s c X) λH' n' f=>d _ _ ((K.low (Nat.le_refl _)).trans f)
end Go.RL
