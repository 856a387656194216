/- Part of a proof; nothing is assumed. -/
import Derived.Test.YtdellhdojgpghaaGreatDoorPlainR
import Derived.Test.YtdellhdojgpghaaGreatDoorWalk
set_option linter.unusedVariables false
set_option linter.unusedSimpArgs false
namespace Go.RL
open Go.Bj
set_option maxRecDepth 100000
theorem Du(b:Bool):KP (.bool b)=some (.bool (!b)):=AWw b
def upper(l c:Nat):Bool:=decide (0<l)&&(decide (65<=c%256)&&decide (c%256<=90))
def isClass(l c:Nat)(arr:Bool):Bool:= !arr&&upper l c
theorem AXK{G:AV}{l c:Nat}{H:Heap}{n:Nat}{k:KV}(hk:∀H' n',Kp H n H' n'->k (.agg [.str l c,.bool false]) H' n'):Runs F G XV [.str l c] H n k:=by
 refine go1 (AHK Aq G) ?_
 delta AGG
 simp only[go_sem,Nat.reduceAdd,show BN [.str 0 0,.bool false] [(0,1,.c (.str l c))]=some (.agg [.str l c,.bool false])from rfl]
 exact hk _ _ (((Kp.refl H n).new (m:=n+1) _ (Nat.le_refl _) (by omega)).new _ (Nat.le_refl _) (Nat.le_refl _))
theorem Aao(a b l c:Nat):Dw (.one .str) true (.str a b) (.str l c)=some (.bool (!decide (a=l/\b=c))):=by
 show ofB (Qg (some (band (Nat.beq a l) (Nat.beq b c))) λb=>some (QD b))=_
 have:band (Nat.beq a l) (Nat.beq b c)=decide (a=l/\b=c):=by rw[BO,Bool.eq_iff_iff];simp
 rw[this];cases decide (a=l/\b=c)<;>rfl
theorem AaW{l c:Nat}(h:0<l):ABb (.str l c) (.int .i64 (.ofNat 0) 0)=some (.int .u8 (.ofNat (c%256)) 0):=by
 show BF (Nat.blt 0 l) (CW (AQS c 0) λb=>some (.int .u8 (.ofNat b) 0))=_
 have:Nat.blt 0 l=true:=by rw[Nat.blt_eq];exact h
 rw[this,BP]
 show some (V.int .u8 (.ofNat (c/1%256)) 0)=_
 rw[Nat.div_one]
theorem AFm(q:IntKind)(a b:Nat):B2.ev .geq (.int q (.ofNat a) 0) (.int q (.ofNat b) 0)=some (.bool (decide (b<=a))):=by
 show BF (band (keq q q) true) (mkB (ile (.ofNat b) (.ofNat a)))=_
 rw[TL,ACa,show band (keq q q) true=true by simp[NP],show decide (Int.ofNat b<=Int.ofNat a)=decide (b<=a)by rw[decide_eq_decide];show(b:Int)<=a↔_;omega];rfl
theorem qN(q:IntKind)(a b:Nat):B2.ev .leq (.int q (.ofNat a) 0) (.int q (.ofNat b) 0)=some (.bool (decide (a<=b))):=by
 show BF (band (keq q q) true) (mkB (ile (.ofNat a) (.ofNat b)))=_
 rw[TL,ACa,show band (keq q q) true=true by simp[NP],show decide (Int.ofNat a<=Int.ofNat b)=decide (a<=b)by rw[decide_eq_decide];show(a:Int)<=b↔_;omega];rfl
theorem ABM{G:AV}{l c:Nat}{arr:Bool}(hl:l=0->c=0){H:Heap}{n:Nat}{k:KV}(hk:∀H' n',Kp H n H' n'->k (.bool (isClass l c arr)) H' n'):Runs F G EF [.agg [.str l c,.bool arr]] H n k:=by
 refine go1 (aK Aq G) ?_
 delta WX
 simp only[go_sem,Nat.reduceAdd,Du]
 cases arr with
 |true=>
  simp only[go_sem,Nat.reduceAdd,Bool.not_true]
  exact hk _ _ ((Kp.refl H n).new _ (Nat.le_refl _) (by omega))
 |false=>
  simp only[go_sem,Nat.reduceAdd,Bool.not_false,Aao]
  by_cases h0:l=0/\c=0
  ·simp only[h0,and_self,decide_true,Bool.not_true,go_sem]
   have:isClass l c false=false:=by simp[isClass,upper,h0]
   rw[this]at hk
   exact hk _ _ ((Kp.refl H n).new _ (Nat.le_refl _) (by omega))
  ·have hl0:0<l:=by rcases Nat.eq_zero_or_pos l with h|h;exact absurd ⟨h,hl h⟩ h0;exact h
   simp only[h0,decide_false,Bool.not_false,go_sem,AaW hl0,AFm,qN]
   have e:isClass l c false=(decide (65<=c%256)&&decide (c%256<=90)):=by simp[isClass,upper,hl0]
   rw[e]at hk
   cases h1:decide (65<=c%256)with
   |false=>
    simp only[go_sem]
    rw[h1]at hk
    exact hk _ _ ((Kp.refl H n).new _ (Nat.le_refl _) (by omega))
   |true=>
    simp only[go_sem,AaW hl0,qN]
    rw[h1]at hk
    exact hk _ _ ((Kp.refl H n).new _ (Nat.le_refl _) (by omega))
theorem AbM(l c:Nat):ZY (.str l c)=some (.int .i64 (.ofNat l) 0):=rfl
def AH5(l c:Nat):Bool:=decide (l=3/\c=7630441)||(decide (l=4/\c=1819242338)||(upper l c&&decide (l<=40)))
theorem AY7{G:AV}{l c:Nat}{arr:Bool}(hl:l=0->c=0){H:Heap}{n:Nat}{k:KV}(hk:∀H' n',Kp H n H' n'->k (.bool (AH5 l c)) H' n'):Runs F G ADP [.agg [.str l c,.bool arr]] H n k:=by
 refine go1 (AIg Aq G) ?_
 delta ADk
 unfold AH5 at hk
 have f1:Kp H n (T.set H n (one [.str l c,.bool arr])) (n+1):=(Kp.refl H n).new _ (Nat.le_refl _) (by omega)
 simp only[go_sem,ACl]
 cases h1:decide (l=3/\c=7630441)with
 |true=>
  simp only[go_sem]
  rw[h1]at hk
  exact hk _ _ f1
 |false=>
  rw[h1]at hk
  simp only[go_sem,ACl]
  cases h2:decide (l=4/\c=1819242338)with
  |true=>
   simp only[go_sem]
   rw[h2]at hk
   exact hk _ _ f1
  |false=>
   rw[h2]at hk
   simp only[go_sem]
   refine AXK λH1 n1 f2=>?_
   refine ABM hl λH2 n2 f3=>?_
   have f4:=f1.trans (f2.trans f3)
   have e:isClass l c false=upper l c:=by simp[isClass]
   rw[e]
   cases h3:upper l c with
   |false=>
    simp only[go_sem]
    rw[h3]at hk
    exact hk _ _ f4
   |true=>
    rw[h3]at hk
    have hg:T.get H2 n=some (one [.str l c,.bool arr]):=by rw[f3.same n (by have:=f2.le;omega),f2.same n (by omega),T.Au]
    simp only[go_sem,AX (off:=0) hg (v:=.str l c) rfl,AbM,qN]
    exact hk _ _ f4
abbrev St:=Nat×Nat
def St.v(s:St):V:=.str s.1 s.2
def strs(xs:List St):CJ:=xs.map λs=>[St.v s]
theorem iL(xs:List St):(strs xs).length=xs.length:=List.length_map ..
theorem ABy{xs:List St}{i:Nat}(h:i<xs.length):(strs xs)[i]? =some [St.v xs[i]]:=by simp[strs,h]
def AHd(s:St):List St->Nat->Int
 |[],_=>.negSucc 0
 |x::xs,i=>bif decide (s.1=x.1/\s.2=x.2)then .ofNat i else AHd s xs (i+1)
def AD4(s:St)(xs:List St):Bool:=xs.any λx=>decide (s.1=x.1/\s.2=x.2)
theorem AKq(s:St):∀(xs:List St) (i:Nat),decide ((0:Int)<=AHd s xs i)=AD4 s xs
 |[],_=>rfl
 |x::xs,i=>by
  unfold AHd
  show _=(decide (s.1=x.1/\s.2=x.2)||AD4 s xs)
  cases h:decide (s.1=x.1/\s.2=x.2)with
  |true=>simp
  |false=>simpa using AKq s xs (i+1)
theorem FP{i m:Nat}:B2.ev .lss (.int .i64 (.ofNat i) 0) (.int .i64 (.ofNat m) 0)=some (.bool (decide (i<m))):=by
 rw[AaE];congr 2;rw[decide_eq_decide];show(i:Int)<m↔_;omega
theorem AVl{G:AV}{v:V}{xs:List St}{s:St}{H:Heap}{n:Nat}{k:KV}(h:El G H v 1 (strs xs))(hb:xs.length<9223372036854775808)(hk:k (.int .i64 (AHd s xs 0) 0) H n):
 Runs F G PU [v,s.v] H n k:=by
 refine go2 (XR Aq G) ?_
 delta PS
 rw[h.len,AU,iL]
 refine FB (J:=λm st=>∃i,m=xs.length-i/\i<=xs.length/\st=(v,s.v,.int .i64 (.ofNat xs.length) 0,.int .i64 (.ofNat i) 0,H,n)/\k (.int .i64 (AHd s (xs.drop i) i) 0) H n) ?_ (m:=xs.length) ⟨0,rfl,Nat.zero_le _,rfl,hk⟩
 rintro I m st ⟨i,rfl,hi,rfl,hk⟩ ih
 show IV lfp G (Runs F G) k I v s.v (.int .i64 (.ofNat xs.length) 0) (.int .i64 (.ofNat i) 0) H n
 delta IV
 by_cases hlt:i<xs.length
 ·obtain⟨p,hp,hld⟩:=h.at (ABy hlt)
  rw[List.drop_eq_getElem_cons hlt]at hk
  unfold AHd at hk
  simp only[go_sem,FP,hlt,decide_true,hp,Zz hld,St.v,ACl]
  cases he:decide (s.1=xs[i].1/\s.2=xs[i].2)with
  |true=>simp only[go_sem];rw[he]at hk;exact hk
  |false=>
   simp only[go_sem,GV (show i+1<9223372036854775808 by omega)]
   rw[he]at hk
   exact ih _ _ (by omega) ⟨i+1,rfl,hlt,rfl,hk⟩
 ·simp only[go_sem,FP,hlt,decide_false]
  delta IL
  rw[List.drop_eq_nil_of_le (by omega)]at hk
  exact hk
theorem Aay(a:Int):B2.ev .geq (.int .i64 a 0) (.int .i64 (.ofNat 0) 0)=some (.bool (decide (0<=a))):=by
 show BF (band (keq .i64 .i64) true) (mkB (ile (.ofNat 0) a))=_
 rw[TL,ACa];rfl
theorem AAR{G:AV}{v:V}{xs:List St}{s:St}{H:Heap}{n:Nat}{k:KV}(h:El G H v 1 (strs xs))(hb:xs.length<9223372036854775808)(hk:k (.bool (AD4 s xs)) H n):
 Runs F G Ey [v,s.v] H n k:=by
 refine go2 (VF Aq G) ?_
 delta Nb
 refine AVl h hb ?_
 simp only[go_sem,Aay,AKq]
 exact hk
structure Ty where
 nm:St
 arr:Bool
def Ty.cells(t:Ty):LV:=[t.nm.v,.bool t.arr]
def Ty.v(t:Ty):V:=.agg t.cells
def Ty.is(a b:Ty):Bool:=decide (a.nm.1=b.nm.1/\a.nm.2=b.nm.2)&&(a.arr==b.arr)
def tys(xs:List Ty):CJ:=xs.map Ty.cells
theorem AEN(xs:List Ty):(tys xs).length=xs.length:=List.length_map ..
theorem AJT{xs:List Ty}{i:Nat}(h:i<xs.length):(tys xs)[i]? =some xs[i].cells:=by simp[tys,h]
theorem AWD(a b:St):CK.eq .str a.v b.v=some (decide (a.1=b.1/\a.2=b.2)):=by
 show some (band (Nat.beq a.1 b.1) (Nat.beq a.2 b.2))=_
 rw[show band (Nat.beq a.1 b.1) (Nat.beq a.2 b.2)=decide (a.1=b.1/\a.2=b.2)by rw[BO,Bool.eq_iff_iff];simp]
theorem AWI(a b:Bool):CK.eq .bool (.bool a) (.bool b)=some (a==b):=by cases a<;>cases b<;>rfl
theorem ARB(a b:Ty):(EK.agg [.str,.bool]).eq a.v b.v=some (a.is b):=
 show yX CK.eq [.str,.bool] a.cells b.cells=_ from RD.2 ⟨_,_,AWD _ _,RD.2 ⟨_,true,AWI _ _,rfl,rfl⟩,by simp[Ty.is]⟩
theorem AFj(a b:Ty):Dw (.agg [.str,.bool]) false a.v b.v=some (.bool (a.is b)):=by
 show ofB (Qg ((EK.agg [.str,.bool]).eq a.v b.v) λb=>some b)=_
 rw[ARB];cases a.is b<;>rfl
theorem Abc(a b:Ty):Dw (.agg [.str,.bool]) true a.v b.v=some (.bool (!a.is b)):=by
 show ofB (Qg ((EK.agg [.str,.bool]).eq a.v b.v) λb=>some (QD b))=_
 rw[ARB];cases a.is b<;>rfl
def qg:List Ty->List Ty->Bool
 |[],[]=>true
 |a::l,b::r=>a.is b&&qg l r
 |_,_=>false
theorem AHJ:∀{l r:List Ty},qg l r=true->l.length=r.length
 |[],[],_=>rfl
 |a::l,b::r,h=>by simp[qg]at h;simp[AHJ h.2]
 |[],_::_,h=>by cases h
 |_::_,[],h=>by cases h
theorem AAg{i m:Nat}:Dw (.one .int) true (.int .i64 (.ofNat i) 0) (.int .i64 (.ofNat m) 0)=some (.bool (!decide (i=m))):=by
 rw[AW4,show(Int.ofNat i==Int.ofNat m)=decide (i=m)by rw[Bool.eq_iff_iff];simp;omega]
theorem ATE{G:AV}{v w:V}{xs ys:List Ty}{H:Heap}{n:Nat}{k:KV}(h:El G H v 2 (tys xs))(h2:El G H w 2 (tys ys))(hb:xs.length<9223372036854775808)(hk:k (.bool (qg xs ys)) H n):
 Runs F G MC [v,w] H n k:=by
 refine go2 (UR Aq G) ?_
 delta MO
 simp only[go_sem,h.len,h2.len,AEN,AAg]
 by_cases hl:xs.length=ys.length
 ·simp only[hl,decide_true,Bool.not_true,go_sem]
  refine FB (J:=λm st=>∃i,m=ys.length-i/\i<=ys.length/\st=(v,w,.int .i64 (.ofNat ys.length) 0,.int .i64 (.ofNat i) 0,H,n)/\k (.bool (qg (xs.drop i) (ys.drop i))) H n) ?_ (m:=ys.length) ⟨0,rfl,Nat.zero_le _,rfl,hk⟩
  rintro I m st ⟨i,rfl,hi,rfl,hk⟩ ih
  show Fe lfp G (Runs F G) k I v w (.int .i64 (.ofNat ys.length) 0) (.int .i64 (.ofNat i) 0) H n
  delta Fe
  by_cases hlt:i<ys.length
  ·have hlt':i<xs.length:=by omega
   obtain⟨p,hp,hld⟩:=h.at (AJT hlt')
   obtain⟨p2,hp2,hld2⟩:=h2.at (AJT hlt)
   rw[List.drop_eq_getElem_cons hlt,List.drop_eq_getElem_cons hlt']at hk
   unfold qg at hk
   have e:=Abc xs[i] ys[i]
   unfold Ty.v at e
   simp only[go_sem,FP,hlt,decide_true,hp,hp2,EM hld,EM hld2,e]
   cases he:xs[i].is ys[i]with
   |false=>rw[he]at hk;simp only[Bool.not_false,go_sem];exact hk
   |true=>
    simp only[Bool.not_true,go_sem,GV (show i+1<9223372036854775808 by omega)]
    rw[he]at hk
    exact ih _ _ (by omega) ⟨i+1,rfl,hlt,rfl,hk⟩
  ·simp only[go_sem,FP,hlt,decide_false]
   delta F6
   rw[List.drop_eq_nil_of_le (by omega),List.drop_eq_nil_of_le (by omega)]at hk
   exact hk
 ·have:qg xs ys=false:=by cases h:qg xs ys;rfl;exact absurd (AHJ h) hl
  rw[this]at hk
  simp only[hl,decide_false,Bool.not_false,go_sem]
  exact hk
def Lo(v:V)(n:Nat):Prop:=∀id,v.Dl=some id->id<n
theorem _root_.Go.Bj.El.kp{G:AV}{H H':Heap}{v:V}{z n n':Nat}{LS:CJ}(h:El G H v z LS)(hl:Lo v n)(f:Kp H n H' n'):El G H' v z LS:=h.same λid hid=>f.same id (hl id hid)
theorem Lo.mono{v:V}{n n':Nat}(h:Lo v n)(hn:n<=n'):Lo v n':=λid hid=>Nat.lt_of_lt_of_le (h id hid) hn
def St.ok(s:St):Prop:=s.1=0->s.2=0
def AOR(s:St):Bool:=AH5 s.1 s.2
abbrev big:Nat:=9223372036854775808
structure ER where
 nm:St
 ty:Ty
def ER.cells(f:ER):LV:=[f.nm.v,f.ty.nm.v,.bool f.ty.arr]
structure FN where
 nm:St
 st:Bool
 ps:List Ty
 ret:Ty
def FN.cells(m:FN)(v:V):LV:=[m.nm.v,.bool m.st,v,m.ret.nm.v,.bool m.ret.arr]
structure Y8(G:AV)(H:Heap)(n:Nat)(v:V)(xs:List Ty):Prop where
 el:El G H v 2 (tys xs)
 lo:Lo v n
 lt:xs.length<big
 ok:∀t∈xs,t.nm.ok
structure VJ(G:AV)(H:Heap)(n:Nat)(v:V)(fs:List ER):Prop where
 el:El G H v 3 (fs.map ER.cells)
 lo:Lo v n
 lt:fs.length<big
 ok:∀f∈fs,f.nm.ok/\f.ty.nm.ok
structure QT(G:AV)(H:Heap)(n:Nat)(v:V)(ms:List FN)(ws:List V):Prop where
 el:El G H v 5 (List.zipWith FN.cells ms ws)
 lo:Lo v n
 lt:ms.length<big
 len:ws.length=ms.length
 at':∀(i:Nat) (m:FN) (w:V),ms[i]? =some m->ws[i]? =some w->Y8 G H n w m.ps
 ok:∀m∈ms,m.nm.ok/\m.ret.nm.ok
section
variable{G:AV}{H H':Heap}{n n':Nat}{v:V}
theorem Y8.kp{xs:List Ty}(h:Y8 G H n v xs)(f:Kp H n H' n'):Y8 G H' n' v xs:=⟨h.el.kp h.lo f,h.lo.mono f.le,h.lt,h.ok⟩
theorem VJ.kp{xs:List ER}(h:VJ G H n v xs)(f:Kp H n H' n'):VJ G H' n' v xs:=⟨h.el.kp h.lo f,h.lo.mono f.le,h.lt,h.ok⟩
theorem QT.kp{xs:List FN}{ws:List V}(h:QT G H n v xs ws)(f:Kp H n H' n'):QT G H' n' v xs ws:=
 ⟨h.el.kp h.lo f,h.lo.mono f.le,h.lt,h.len,λi m w a b=>(h.at' i m w a b).kp f,h.ok⟩
theorem VJ.len{xs:List ER}(h:VJ G H n v xs):lenV v=some (.int .i64 (.ofNat xs.length) 0):=by rw[h.el.len,List.length_map]
theorem Y8.len{xs:List Ty}(h:Y8 G H n v xs):lenV v=some (.int .i64 (.ofNat xs.length) 0):=by rw[h.el.len,AEN]
theorem QT.len'{xs:List FN}{ws:List V}(h:QT G H n v xs ws):lenV v=some (.int .i64 (.ofNat xs.length) 0):=by
 rw[h.el.len,List.length_zipWith,h.len,Nat.min_self]
theorem VJ.at{xs:List ER}(h:VJ G H n v xs){i:Nat}(hi:i<xs.length):∃p,BJ 3 v (.int .i64 (.ofNat i) 0)=some p/\ldP p G H 3=some xs[i].cells:=
 h.el.at (by simp[hi])
theorem QT.at{xs:List FN}{ws:List V}(h:QT G H n v xs ws){i:Nat}(hi:i<xs.length):
 ∃p w,BJ 5 v (.int .i64 (.ofNat i) 0)=some p/\ldP p G H 5=some (xs[i].cells w)/\Y8 G H n w xs[i].ps:=by
 have hw:i<ws.length:=by rw[h.len];exact hi
 obtain⟨p,h1,h2⟩:=h.el.at (i:=i) (c:=xs[i].cells ws[i]) (by rw[List.getElem?_zipWith];simp[hi,hw])
 exact⟨p,ws[i],h1,h2,h.at' i _ _ (List.getElem?_eq_getElem hi) (List.getElem?_eq_getElem hw)⟩
end
theorem AAs(q:IntKind)(a b:Nat):B2.ev .gtr (.int q (.ofNat a) 0) (.int q (.ofNat b) 0)=some (.bool (decide (b<a))):=by
 show BF (band (keq q q) true) (mkB (ilt (.ofNat b) (.ofNat a)))=_
 rw[TL,WS,show band (keq q q) true=true by simp[NP],show decide (Int.ofNat b<Int.ofNat a)=decide (b<a)by rw[decide_eq_decide];show(b:Int)<a↔_;omega];rfl
theorem Abi(s:St):ZY s.v=some (.int .i64 (.ofNat s.1) 0):=rfl
structure Fc where
 nm:St
 sup:St
 fs:List ER
 ms:List FN
structure AB8(G:AV)(H:Heap)(n:Nat)(L:LV)(c:Fc)(v w:V)(ws:List V):Prop where
 is:L=[c.nm.v,c.sup.v,v,w]
 fs:VJ G H n v c.fs
 ms:QT G H n w c.ms ws
 ok:c.nm.ok/\c.sup.ok
end Go.RL
namespace Go.RL
open Go.Bj
set_option maxRecDepth 100000
theorem AQs{e c:Nat}{t:T LV}{i:Nat}{L:LV}(he:0<e)(hi:i<c)(ht:T.get t i=some L)(hL:L.length=e):ldB e c t (i*e) e=some L:=by
 unfold ldB
 have hdiv:i*e/e=i:=Nat.mul_div_cancel _ he
 have hmod:i*e%e=0:=Nat.mul_mod_left ..
 have hb:Nat.blt (Nat.div (i*e) e) c=true:=by rw[Nat.blt_eq];show i*e/e<c;omega
 rw[hb]
 show Bl (T.get t (Nat.div (i*e) e)) (ldC e (i*e) e)=_
 rw[show Nat.div (i*e) e=i from hdiv,ht,QJ]
 have h1:=ANr (H:=T.set .e 0 (one L)) (id:=0) (L:=L) (off:=0) (m:=e) (T.Au ..) he (by omega)
 unfold aB at h1
 rw[T.Au]at h1
 have h2:ldB L.length 1 (T.set .e 0 L) 0 e=some ((L.drop 0).take e):=h1
 unfold ldB at h2
 rw[show Nat.blt (Nat.div 0 L.length) 1=true by rw[Nat.blt_eq];show 0/L.length<1;simp]at h2
 have h3:Bl (T.get (T.set T.e 0 L) (Nat.div 0 L.length)) (ldC L.length 0 e)=some ((L.drop 0).take e):=h2
 rw[show Nat.div 0 L.length=0 from Nat.zero_div _,T.Au,QJ]at h3
 rw[List.drop_zero,List.take_of_length_le (by omega),hL]at h3
 have:ldC e (i*e) e L=ldC e 0 e L:=by
  unfold ldC
  rw[show Nat.mod (i*e) e=0 from hmod,show Nat.mod 0 e=0 from Nat.zero_mod _]
 rw[this];exact h3
theorem ARU{z:Nat}{Z L:LV}{H:Heap}{n:Nat}{P:KV}(hL:L.length=z):
 CB (Aj z 1 Z [(0,.c (.agg L))] E0) H n P=P (.sl n 0 1 1 z) (T.set H n (.arr z 1 (T.set (T.set .e 0 Z) 0 L))) (n+1):=by
 subst hL
 show EJ (band (band true (band true (Nat.beq (len L) L.length))) true) (DU n λn=>P (.sl n 0 1 1 L.length) (T.set H n (.arr L.length 1 (T.set (T.set .e 0 Z) 0 L))) (Nat.succ n))=_
 rw[len_eq,BL]
 have hb:band (band true (band true (Nat.beq L.length L.length))) true=true:=by simp
 rw[hb];rfl
theorem AIh{G:AV}{H:Heap}{n z:Nat}{Z L:LV}(hz:0<z)(hL:L.length=z)(h:T.get H n=some (.arr z 1 (T.set (T.set .e 0 Z) 0 L))):El G H (.sl n 0 1 1 z) z [L]:=by
 refine⟨rfl,?_⟩
 show(Bool.rec (motive:=λ_=>Option CJ) none (Bl (aB H n (0*z) z) λL=>Bl (some []) λLS=>some (L::LS)) (Nat.beq z z):Option CJ)=_
 have hl:aB H n (0*z) z=some L:=by
  unfold aB;rw[h]
  exact AQs hz (by omega) (by rw[T.Au]) hL
 rw[hl,show Nat.beq z z=true by simp]
 rfl
end Go.RL
namespace Go.RL
open Go.Bj
set_option maxRecDepth 100000
structure PF where
 f:ER
 own:St
structure PM where
 m:FN
 own:St
def PF.cells(p:PF):LV:=[p.f.nm.v,p.f.ty.nm.v,.bool p.f.ty.arr,p.own.v]
def PM.cells(p:PM)(w:V):LV:=[p.m.nm.v,.bool p.m.st,w,p.m.ret.nm.v,.bool p.m.ret.arr,p.own.v]
structure Pool where
 nums:List Int
 names:List St
 types:List Ty
 fields:List PF
 Adv:List PM
end Go.RL
namespace Go.RL
open Go.Bj
set_option maxRecDepth 100000
end Go.RL
namespace Go.RL
open Go.Bj
set_option maxRecDepth 100000
theorem AdN(q:IntKind)(a b:Int):B2.ev .lss (.int q a 0) (.int q b 0)=some (.bool (decide (a<b))):=by
 show BF (band (keq q q) true) (mkB (ilt a b))=_
 rw[TL,WS,show band (keq q q) true=true by simp[NP]];rfl
end Go.RL
namespace Go.RL
open Go.Bj
set_option maxRecDepth 100000
end Go.RL
namespace Go.RL
open Go.Bj
set_option maxRecDepth 100000
end Go.RL
namespace Go.RL
open Go.Bj
set_option maxRecDepth 100000
def least(m:FN):Nat:=bif m.st then m.ps.length else m.ps.length+1
structure Ke(G:AV)(H:Heap)(n:Nat)(H':Heap)(n':Nat):Prop where
 le:n<=n'
 el:∀v z LS,Lo v n->El G H v z LS->El G H' v z LS
section
variable{G:AV}{H H' H'':Heap}{n n' n'':Nat}{v:V}
theorem _root_.Go.Bj.Kp.ke(f:Kp H n H' n'):Ke G H n H' n':=⟨f.le,λ_ _ _ hl h=>h.kp hl f⟩
theorem Ke.low{m:Nat}(f:Ke G H n H' n')(hm:m<=n):Ke G H m H' m:=⟨Nat.le_refl _,λv z LS hl h=>f.el v z LS (hl.mono hm) h⟩
theorem _root_.Go.Bj.El.ke{z:Nat}{LS:CJ}(h:El G H v z LS)(hl:Lo v n)(f:Ke G H n H' n'):El G H' v z LS:=f.el v z LS hl h
theorem Y8.ke{xs:List Ty}(h:Y8 G H n v xs)(f:Ke G H n H' n'):Y8 G H' n' v xs:=⟨h.el.ke h.lo f,h.lo.mono f.le,h.lt,h.ok⟩
theorem VJ.ke{xs:List ER}(h:VJ G H n v xs)(f:Ke G H n H' n'):VJ G H' n' v xs:=⟨h.el.ke h.lo f,h.lo.mono f.le,h.lt,h.ok⟩
theorem QT.ke{xs:List FN}{ws:List V}(h:QT G H n v xs ws)(f:Ke G H n H' n'):QT G H' n' v xs ws:=
 ⟨h.el.ke h.lo f,h.lo.mono f.le,h.lt,h.len,λi m w a b=>(h.at' i m w a b).ke f,h.ok⟩
theorem AB8.ke{L:LV}{c:Fc}{v w:V}{ws:List V}(h:AB8 G H n L c v w ws)(f:Ke G H n H' n'):AB8 G H' n' L c v w ws:=⟨h.is,h.fs.ke f,h.ms.ke f,h.ok⟩
def PK(G:AV)(H:Heap)(n:Nat)(v:V)(c:Fc):Prop:=∃vf vm ws,AB8 G H n [c.nm.v,c.sup.v,vf,vm] c vf vm ws/\v=.agg [c.nm.v,c.sup.v,vf,vm]
theorem PK.ke{c:Fc}(h:PK G H n v c)(f:Ke G H n H' n'):PK G H' n' v c:=by
 obtain⟨vf,vm,ws,h,hv⟩:=h;exact⟨vf,vm,ws,h.ke f,hv⟩
def Lj(H:Heap)(b:Nat):Prop:=∃ps,ABr H b ps
structure Kb(b:Nat)(H:Heap)(n:Nat)(H':Heap)(n':Nat):Prop where
 le:n<=n'
 same:∀id,id<n->id≠b->T.get H' id=T.get H id
 seen:Lj H b->Lj H' b
theorem Kb.refl(b:Nat)(H:Heap)(n:Nat):Kb b H n H n:=⟨Nat.le_refl _,λ_ _ _=>rfl,λh=>h⟩
theorem Kb.trans{b:Nat}(x:Kb b H n H' n')(y:Kb b H' n' H'' n''):Kb b H n H'' n'':=
 ⟨Nat.le_trans x.le y.le,λid h hb=>(y.same id (Nat.lt_of_lt_of_le h x.le) hb).trans (x.same id h hb),λh=>y.seen (x.seen h)⟩
theorem Kb.trans'{b m:Nat}(x:Kb b H n H' n')(y:∀id,id<n->T.get H'' id=T.get H' id)(hm:n'<=m)(hb:b<n):Kb b H n H'' m:=
 ⟨Nat.le_trans x.le hm,λid h hne=>(y id h).trans (x.same id h hne),λh=>by
  obtain⟨ps,es,ck,hg,he⟩:=x.seen h;exact⟨ps,es,ck,(y b hb).trans hg,he⟩⟩
theorem Kb.low{b m:Nat}(f:Kb b H n H' n')(hm:m<=n):Kb b H m H' m:=⟨Nat.le_refl _,λid h hb=>f.same id (Nat.lt_of_lt_of_le h hm) hb,f.seen⟩
theorem Kb.AZ9{b m:Nat}(f:Kb b H n H' n')(hm:m<=n):Kb b H m H' n':=⟨Nat.le_trans hm f.le,λid h hb=>f.same id (Nat.lt_of_lt_of_le h hm) hb,f.seen⟩
theorem Lj.same{b:Nat}(h:Lj H b)(e:T.get H' b=T.get H b):Lj H' b:=by
 obtain⟨ps,es,ck,hg,he⟩:=h;exact⟨ps,es,ck,e.trans hg,he⟩
theorem _root_.Go.Bj.Kp.kb{b:Nat}(f:Kp H n H' n')(hb:b<n):Kb b H n H' n':=⟨f.le,λid h _=>f.same id h,λh=>h.same (f.same b hb)⟩
theorem Kb.get{b id:Nat}{B:Qc}(f:Kb b H n H' n')(h:T.get H id=some B)(hi:id<n)(hb:id≠b):T.get H' id=some B:=(f.same id hi hb).trans h
theorem Lj.ld{b o z:Nat}(h:Lj H b):aB H b o z=none:=by
 obtain⟨ps,es,ck,hg,-⟩:=h;unfold aB;rw[hg];rfl
theorem Lj.elems{b z:Nat}(h:Lj H b){m o:Nat}{LS:CJ}(he:BZ H b z m o=some LS):m=0:=by
 cases m with
 |zero=>rfl
 |succ m=>
  have h':Bl (aB H b (Nat.mul o z) z) (λL=>Bl (BZ H b z m (Nat.succ o)) λLS=>some (L::LS))=some LS:=he
  rw[h.ld]at h';cases h'
theorem Kb.ke{b:Nat}(f:Kb b H n H' n')(hs:Lj H b):Ke G H n H' n':=⟨f.le,λv z LS hl h=>by
 by_cases hv:v.Dl=some b
 ·obtain⟨h1,h2⟩:=h
  refine⟨h1,?_⟩
  cases v<;>try (cases hv;done)
  ·rename_i id off m c e
   have hid:id=b:=Option.some.inj hv
   subst hid
   have h2':(Bool.rec (motive:=λ_=>Option CJ) none (BZ H id z m off) (Nat.beq e z):Option CJ)=some LS:=h2
   show(Bool.rec (motive:=λ_=>Option CJ) none (BZ H' id z m off) (Nat.beq e z):Option CJ)=some LS
   cases hb:Nat.beq e z with
   |false=>rw[hb]at h2';cases h2'
   |true=>
    rw[hb]at h2'
    have h3:BZ H id z m off=some LS:=h2'
    have:=hs.elems h3
    subst this;exact h3
  ·rename_i id off m e
   have hid:id=b:=Option.some.inj hv
   subst hid
   have h2':(Bool.rec (motive:=λ_=>Option CJ) none (BZ H id z m off) (Nat.beq e z):Option CJ)=some LS:=h2
   show(Bool.rec (motive:=λ_=>Option CJ) none (BZ H' id z m off) (Nat.beq e z):Option CJ)=some LS
   cases hb:Nat.beq e z with
   |false=>rw[hb]at h2';cases h2'
   |true=>
    rw[hb]at h2'
    have h3:BZ H id z m off=some LS:=h2'
    have:=hs.elems h3
    subst this;exact h3
 ·exact h.same λid hid=>f.same id (hl id hid) (by intro e;subst e;exact hv hid)⟩
end
abbrev Tab:=List (St×Fc)
def keyed{α β:Type}(ps:List (St×α))(fs:List (St×β)):Prop:=ps.map (·.1)=fs.map (·.1)
theorem AHz{α β:Type}:∀{ps:List (St×α)} {fs:List (St×β)} (_:keyed ps fs) (s:St),(JV ps s).isSome=(JV fs s).isSome
 |[],[],_,s=>rfl
 |p::ps,f::fs,h,s=>by
  simp only[keyed,List.map_cons,List.cons.injEq]at h
  have ih:=AHz (ps:=ps) (fs:=fs) h.2 s
  by_cases hp:p.1=s
  ·have hf:f.1=s:=h.1▸hp
   simp[JV,hp,hf]
  ·have hf:¬f.1=s:=h.1▸hp
   simp only[JV,List.find?_cons,hp,hf,decide_false]at ih⊢
   exact ih
 |[],_::_,h,_=>by simp[keyed]at h
 |_::_,[],h,_=>by simp[keyed]at h
theorem AH6{α β:Type}(s:St)(a:α)(b:β):∀{ps:List (St×α)} {fs:List (St×β)} (_:keyed ps fs),keyed (Zl s a ps) (Zl s b fs)
 |[],[],_=>rfl
 |p::ps,f::fs,h=>by
  simp only[keyed,List.map_cons,List.cons.injEq]at h
  unfold Zl
  by_cases hp:p.1=s
  ·have hf:f.1=s:=h.1▸hp
   rw[if_pos hp,if_pos hf];simp[keyed,h.2]
  ·have hf:¬f.1=s:=h.1▸hp
   rw[if_neg hp,if_neg hf]
   have:=AH6 s a b (ps:=ps) (fs:=fs) h.2
   simp only[keyed,List.map_cons,List.cons.injEq]at this⊢
   exact⟨h.1,this⟩
 |[],_::_,h=>by simp[keyed]at h
 |_::_,[],h=>by simp[keyed]at h
structure vJ(G:AV)(H:Heap)(n:Nat)(a:Nat)(fs:Tab):Prop where
 is:∃ps,ABr H a ps/\keyed ps fs/\∀s v c,JV ps s=some v->JV fs s=some c->PK G H n v c
structure TabAt(G:AV)(H:Heap)(n t a b:Nat)(fs:Tab):Prop where
 tn:t<n
 an:a<n
 bn:b<n
 tb:t≠b
 ab:a≠b
 at':T.get H t=some (one [.map a,.map b])
 faces:vJ G H n a fs
 seen:Lj H b
theorem AFR{H H':Heap}{a:Nat}{ps:List (St×V)}(h:ABr H a ps)(e:T.get H' a=T.get H a):ABr H' a ps:=by
 obtain⟨es,ck,hg,he⟩:=h;exact⟨es,ck,e.trans hg,he⟩
theorem TabAt.kb{G:AV}{H H':Heap}{n n' t a b:Nat}{fs:Tab}(h:TabAt G H n t a b fs)(f:Kb b H n H' n'):TabAt G H' n' t a b fs:=by
 obtain⟨ps,h1,h2,h3⟩:=h.faces.is
 exact⟨Nat.lt_of_lt_of_le h.tn f.le,Nat.lt_of_lt_of_le h.an f.le,Nat.lt_of_lt_of_le h.bn f.le,h.tb,h.ab,f.get h.at' h.tn h.tb,
  ⟨ps,AFR h1 (f.same a h.an h.ab),h2,λs v c x y=>(h3 s v c x y).ke (f.ke h.seen)⟩,f.seen h.seen⟩
theorem run_set{f:Nat}{args:List V}{G:AV}{H:Heap}{n m:Nat}{b:Qc}{k:KV}(h:∀H',Kp H n H' (n+1)->T.get H' n=some b->Runs F G f args H' m k):Runs F G f args (T.set H n b) m k:=
 h _ ((Kp.refl H n).new _ (Nat.le_refl _) (by omega)) (T.Au ..)
theorem Abd(i o:Nat):Dw (.one .ptr) false (.ptr i o) .AJm=some (.bool false):=rfl
abbrev GU:Fc:=⟨(0,0),(0,0),[],[]⟩
theorem AAY{G:AV}{H:Heap}{z:Nat}:El G H .Af z []:=⟨rfl,rfl⟩
theorem ACY{n:Nat}:Lo .Af n:=λ_ h=>by cases h
theorem AVv{G:AV}{H:Heap}{n:Nat}:PK G H n (.agg [.str 0 0,.str 0 0,.Af,.Af]) GU:=
 ⟨.Af,.Af,[],⟨rfl,⟨AAY,ACY,by decide,λ_ h=>by cases h⟩,⟨AAY,ACY,by decide,rfl,λi m w h=>by simp at h,λ_ h=>by cases h⟩,λ_=>rfl,λ_=>rfl⟩,rfl⟩
theorem rQ(L:LV):BN L []=some (.agg L):=rfl
theorem rZ{G:AV}{H:Heap}{n n0 t a b:Nat}{fs:Tab}(h:TabAt G H n0 t a b fs)(hn:n0<=n){s:St}{k:KV}
 (hk:∀H' n' v,Kb b H n H' n'->PK G H' n0 v ((JV fs s).getD GU)->k (.EI [v,.bool (JV fs s).isSome]) H' n'):Runs F G FY [.ptr t 0,s.v] H n k:=by
 refine go2 (zW Aq G) ?_
 delta bH
 have hbn:b<n:=Nat.lt_of_lt_of_le h.bn hn
 refine Ar rfl λH1 f1 g1=>?_
 have h1:=h.kb ((f1.kb hbn).low hn)
 simp only[go_sem,Abd,Nat.reduceAdd,AX (off:=1) h1.at' (v:=.map b) rfl]
 obtain⟨ps,hps⟩:=h1.seen
 refine APJ hps s _ λH2 hm2 hs2=>?_
 have f2:Kb b H1 (n+1) H2 (n+1):=⟨Nat.le_refl _,λid _ hb=>hs2 id hb,λ_=>⟨_,hm2⟩⟩
 have f3:=(f1.kb hbn).trans f2
 have h2:TabAt G H2 n0 t a b fs:=h.kb (f3.low hn)
 have g2:=f2.get g1 (by omega) (by omega)
 obtain⟨qs,hq,hkey,hv⟩:=h2.faces.is
 simp only[go_sem,Nat.reduceAdd,AX (off:=0) h2.at' (v:=.map a) rfl]
 rw[show s.v=.str s.1 s.2 from rfl,AS0 hq]
 have hsome:=AHz hkey s
 have fin:∃v,AWX (.agg [.str 0 0,.str 0 0,.Af,.Af]) (JV qs s)=.EI [v,.bool (JV fs s).isSome]/\PK G H2 n0 v ((JV fs s).getD GU):=by
  cases hl:JV qs s with
  |none=>
   rw[hl]at hsome
   cases hx:JV fs s with
   |none=>exact⟨_,rfl,AVv⟩
   |some x=>rw[hx]at hsome;cases hsome
  |some v=>
   rw[hl]at hsome
   cases hx:JV fs s with
   |none=>rw[hx]at hsome;cases hsome
   |some x=>exact⟨v,rfl,hv _ _ _ hl hx⟩
 obtain⟨v,e,hf⟩:=fin
 obtain⟨vf,vm,ws,hf,rfl⟩:=hf
 rw[e]
 simp only[go_sem,Nat.reduceAdd]
 rw[IY (m:=4) ((T.Ad _ _ (by omega)).trans ((T.Ad _ _ (by omega)).trans g2)) (by omega) rfl rfl,BU (m:=4) (T.Au ..) (by omega) rfl]
 simp only[go_sem]
 have e:Kp H2 n (T.set (T.set (T.set H2 (n+1) (one [.str 0 0,.str 0 0,.Af,.Af])) (n+1) (one [((JV fs s).getD GU).nm.v,((JV fs s).getD GU).sup.v,vf,vm])) n (one [((JV fs s).getD GU).nm.v,((JV fs s).getD GU).sup.v,vf,vm])) (n+1+1):=
  ((((Kp.refl H2 n).new (m:=n+1+1) _ (by omega) (by omega)).set _ (by omega)).set _ (Nat.le_refl _))
 have f7:Kb b H n H2 n:=⟨Nat.le_refl _,f3.same,f3.seen⟩
 exact hk _ _ _ (f7.trans (e.kb hbn)) ⟨vf,vm,ws,hf.ke ((e.ke).low hn),rfl⟩
def ZW:Nat->Tab->List St->St->List St×Bool
 |0,_,out,_=>(out,false)
 |m+1,fs,out,s=>bif decide (s.1=0/\s.2=0)then(out,true)else
  match JV fs s with
  |none=>(out,false)
  |some c=>bif AD4 s out then(out,false)else ZW m fs (out++[s]) c.sup
def above(fs:Tab)(s:St):List St×Bool:=ZW (fs.length+1) fs [] s
theorem ARe{s:St}{xs:List St}:AD4 s xs=true↔s∈xs:=by
 unfold AD4
 rw[List.any_eq_true]
 constructor
 ·rintro⟨x,hx,h⟩
  have:=of_decide_eq_true h
  have e:s=x:=Prod.ext this.1 this.2
  exact e▸hx
 ·intro h;exact⟨s,h,by simp⟩
theorem AVf{α:Type}{ps:List (St×α)}{s:St}{v:α}(h:JV ps s=some v):s∈ps.map (·.1):=by
 unfold JV at h
 cases hf:ps.find? λp=>decide (p.1=s)with
 |none=>rw[hf]at h;cases h
 |some p=>
  have h1:=List.mem_of_find?_eq_some hf
  have h2:=List.find?_some hf
  exact List.mem_map.2 ⟨p,h1,of_decide_eq_true h2⟩
theorem AKG:∀{xs ys:List St} (_:xs.Nodup) (_:∀x∈xs,x∈ys),xs.length<=ys.length
 |[],_,_,_=>Nat.zero_le _
 |x::xs,ys,hn,h=>by
  rw[List.nodup_cons]at hn
  have hx:=h x (List.mem_cons_self ..)
  have:=AKG (xs:=xs) (ys:=ys.erase x) hn.2 λz hz=>by
   have hz':=h z (List.mem_cons_of_mem _ hz)
   have hne:z≠x:=by intro e;subst e;exact hn.1 hz
   exact(List.mem_erase_of_ne hne).2 hz'
  rw[List.length_erase_of_mem hx]at this
  have hpos:0<ys.length:=List.length_pos_of_mem hx
  simp only[List.length_cons];omega
structure Own(G:AV)(H:Heap)(m n:Nat)(z:Nat)(v:V)(LS:CJ):Prop where
 gr:Gr G H m z v LS
 lo:Lo v n
theorem Own.el{G:AV}{H:Heap}{m n z:Nat}{v:V}{LS:CJ}(h:Own G H m n z v LS)(hz:0<z):El G H v z LS:=h.gr.el hz
theorem Own.kb{G:AV}{H H':Heap}{m n n' b z:Nat}{v:V}{LS:CJ}(h:Own G H m n z v LS)(f:Kb b H n H' n')(hb:b<m):Own G H' m n' z v LS:=
 ⟨h.gr.mono λid hid=>f.same id (h.lo id hid) (by have:=(h.gr.lo hid).1;omega),h.lo.mono f.le⟩
theorem Own.kp{G:AV}{H H':Heap}{m n n' z:Nat}{v:V}{LS:CJ}(h:Own G H m n z v LS)(f:Kp H n H' n'):Own G H' m n' z v LS:=
 ⟨h.gr.mono λid hid=>f.same id (h.lo id hid),h.lo.mono f.le⟩
theorem AVY{Z w:V}{H:Heap}{n:Nat}{P:KV}(hw:Wi w=true)(hv:BA w=[w]):
 CB (Aj 1 1 [Z] [(0,.c w)] E0) H n P=P (.sl n 0 1 1 1) (T.set H n (.arr 1 1 (T.set (T.set .e 0 [Z]) 0 [w]))) (n+1):=by
 show EJ (band (band (Wi w) (band true (Nat.beq (len (BA w)) 1))) true) (DU n λn=>P (.sl n 0 1 1 1) (T.set H n (.arr 1 1 (T.set (T.set .e 0 [Z]) 0 (BA w)))) (Nat.succ n))=_
 rw[hw,hv,BL];rfl
theorem ARy{G:AV}{Z w:V}{H:Heap}{n:Nat}{P:KV}(hw:Wi w=true)(hv:BA w=[w])(h:∀H',Kp H n H' (n+1)->elems (.sl n 0 1 1 1) G H' 1=some [[w]]->P (.sl n 0 1 1 1) H' (n+1)):
 CB (Aj 1 1 [Z] [(0,.c w)] E0) H n P:=by
 rw[AVY hw hv]
 exact h _ ((Kp.refl H n).new _ (Nat.le_refl _) (by omega)) (AIh (z:=1) (by omega) rfl (T.Au ..)).2
theorem AV2(s:St):BH s.v s.v=true:=by
 show band (Nat.beq s.1 s.1) (Nat.beq s.2 s.2)=true
 simp
theorem ABl{G:AV}{H:Heap}{n t a b:Nat}{fs:Tab}(h:TabAt G H n t a b fs)(hfs:fs.length<=1000){s:St}{k:KV}
 (hk:∀H' n' v,Kb b H n H' n'->Own G H' n n' 1 v (strs (above fs s).1)->(above fs s).1.length<=1001->k (.EI [v,.bool (above fs s).2]) H' n'):Runs F G KW [.ptr t 0,s.v] H n k:=by
 refine go2 (xY Aq G) ?_
 delta ZE
 have hbn:=h.bn
 refine FB (J:=λm st=>∃out s v H2 n2,m+out.length=fs.length+1/\st=(.ptr t 0,St.v s,v,H2,n2)/\Kb b H n H2 n2/\Own G H2 n n2 1 v (strs out)/\out.Nodup/\(∀x∈out,x∈fs.map (·.1))/\
  (∀H' n' v,Kb b H n H' n'->Own G H' n n' 1 v (strs (ZW m fs out s).1)->(ZW m fs out s).1.length<=1001->k (.EI [v,.bool (ZW m fs out s).2]) H' n')) ?_ (m:=fs.length+1)
  ⟨[],s,.Af,H,n,rfl,rfl,Kb.refl _ _ _,⟨.nil,ACY⟩,List.nodup_nil,λ_ h=>absurd h List.not_mem_nil,hk⟩
 rintro I m st ⟨out,s,v,H2,n2,hm,rfl,f,ho,hnd,hsub,hk⟩ ih
 show P9 lfp G (Runs F G) k I (.ptr t 0) s.v v H2 n2
 delta P9
 have hle:=AKG hnd hsub
 rw[List.length_map]at hle
 obtain⟨m,rfl⟩:∃m',m=m'+1:=⟨m-1,by omega⟩
 unfold ZW at hk
 simp only[go_sem,St.v,Aao]
 cases h0:decide (s.1=0/\s.2=0)with
 |true=>
  rw[h0]at hk
  simp only[Bool.not_true,go_sem]
  delta Pv
  exact hk _ _ _ f ho (by show out.length<=1001;omega)
 |false=>
  rw[h0]at hk
  simp only[Bool.not_false,go_sem]
  refine rZ (s:=s) (h.kb f) (Nat.le_refl _) λH3 n3 w f3 hw=>?_
  have f4:=f.trans f3
  have ho3:=ho.kb f3 hbn
  obtain⟨vf,vm,ws,hw,rfl⟩:=hw
  simp only[go_sem,Nat.reduceAdd,Du]
  rw[T.set_set]
  cases hl:JV fs s with
  |none=>
   rw[hl]at hk
   simp only[Option.isSome_none,Bool.not_false,go_sem]
   have f5:Kp H3 n3 (T.set H3 n3 (one [((none:Option Fc).getD GU).nm.v,((none:Option Fc).getD GU).sup.v,vf,vm])) (n3+1):=(Kp.refl _ _).new _ (Nat.le_refl _) (by omega)
   exact hk _ _ _ (f4.trans (f5.kb (by have:=f4.le;omega))) (ho3.kp f5) (by show out.length<=1001;omega)
  |some c=>
   rw[hl]at hk
   simp only[Option.isSome_some,Bool.not_true,go_sem,Option.getD_some]
   have hn3:=f4.le
   refine run_set λH4 f5 g5=>?_
   have f6:=f4.trans (f5.kb (b:=b) (by omega))
   have ho4:=ho3.kp f5
   refine AAR (s:=s) (xs:=out) (ho4.el (by omega)) (by omega) ?_
   cases h1:AD4 s out with
   |true=>
    simp only[h1,cond_true]at hk
    simp only[go_sem]
    exact hk _ _ _ f6 ho4 (by show out.length<=1001;omega)
   |false=>
    simp only[h1,cond_false]at hk
    have hin:¬s∈out:=λh=>by rw[ARe.2 h]at h1;cases h1
    simp only[go_sem]
    refine ARy (G:=G) rfl rfl λH5 f7 g7=>?_
    have e1:Aa (.ptr n3 1) G H5=some c.sup.v:=AX (f7.get g5 (by omega)) rfl
    rw[e1,AU]
    have ho5:=ho4.kp f7
    refine ho5.gr.app (by omega) ho5.lo g7 ?_ ?_ ?_
    ·rw[iL];simp;omega
    ·intro v' H6 hg hs hlo
     have f8:Kb b H n H6 (n3+1+1+1):=(f6.trans (f7.kb (by omega))).trans' (λid hid=>hs id (by omega) (λhv=>by have:=(ho5.gr.lo hv).1;omega)) (by omega) hbn
     have e2:Aa (.ptr n3 1) G H6=some c.sup.v:=AX ((hs n3 (by omega) (λhv=>by have:=ho.lo _ hv;have:=f3.le;omega)).trans (f7.get g5 (by omega))) rfl
     simp only[go_sem,e2,AV2]
     refine ih _ _ (Nat.lt_succ_self m) ⟨out++[s],c.sup,v',H6,_,by simp;omega,rfl,f8,⟨?_,hlo⟩,?_,?_,hk⟩
     ·rw[strs,List.map_append];exact hg
     ·rw[List.nodup_append];refine⟨hnd,by simp,?_⟩;intro x hx y hy;simp at hy;subst hy;intro e;subst e;exact hin hx
     ·intro x hx
      rcases List.mem_append.1 hx with hx|hx
      ·exact hsub x hx
      ·simp at hx;subst hx;exact AVf hl
    ·intro h;cases h
abbrev fK:Ty:=⟨(0,0),false⟩
abbrev WR:FN:=⟨(0,0),false,[],fK⟩
def AD2(s:St):List ER->Option Ty
 |[]=>none
 |f::fs=>bif decide (f.nm.1=s.1/\f.nm.2=s.2)then some f.ty else AD2 s fs
def WC(s:St):List FN->Option FN
 |[]=>none
 |m::ms=>bif decide (m.nm.1=s.1/\m.nm.2=s.2)then some m else WC s ms
def uG(G:AV)(H:Heap)(n:Nat)(v:V)(m:FN):Prop:=∃w,v=.agg (m.cells w)/\Y8 G H n w m.ps
theorem uG.ke{G:AV}{H H':Heap}{n n':Nat}{v:V}{m:FN}(h:uG G H n v m)(f:Ke G H n H' n'):uG G H' n' v m:=by
 obtain⟨w,e,h⟩:=h;exact⟨w,e,h.ke f⟩
theorem AMy{G:AV}{H:Heap}{n:Nat}:uG G H n (.agg (WR.cells .Af)) WR:=⟨.Af,rfl,AAY,ACY,by decide,λ_ h=>by cases h⟩
theorem AKh{G:AV}{H:Heap}{n:Nat}{v:V}{c:Fc}(h:PK G H n v c){s:St}{k:KV}
 (hk:∀H' n',Kp H n H' n'->k (.EI [((AD2 s c.fs).getD fK).v,.bool (AD2 s c.fs).isSome]) H' n'):Runs F G bI [v,s.v] H n k:=by
 refine go2 (AAG Aq G) ?_
 obtain⟨vf,vm,ws,h,rfl⟩:=h
 delta bC
 refine Ei λH1 f1 g1=>?_
 refine Ar rfl λH2 f2 g2=>?_
 simp only[go_sem,Nat.reduceAdd,AX (off:=2) (f2.get g1 (by omega)) (v:=vf) rfl,h.fs.len]
 have hbig:=h.fs.lt
 refine CG (N:=c.fs.length) (J:=λi st=>∃H' n',st=(s.v,.ptr (n+1) 0,vf,.int .i64 (.ofNat c.fs.length) 0,.int .i64 (.ofNat i) 0,H',n')/\Kp H n H' n'/\n+1<n'/\T.get H' (n+1)=some (one [.str 0 0,.bool false])/\
  (∀H' n',Kp H n H' n'->k (.EI [((AD2 s (c.fs.drop i)).getD fK).v,.bool (AD2 s (c.fs.drop i)).isSome]) H' n')) ?_ ?_ ⟨H2,_,rfl,f1.trans f2,Nat.lt_succ_self _,g2,hk⟩
 ·rintro I i st hlt ⟨H3,n3,rfl,f3,hn3,g3,hk⟩ ih
  show JJ lfp G (Runs F G) k I s.v (.ptr (n+1) 0) vf (.int .i64 (.ofNat c.fs.length) 0) (.int .i64 (.ofNat i) 0) H3 n3
  delta JJ
  obtain⟨q,hp,hld⟩:=(h.fs.kp f3).at hlt
  rw[List.drop_eq_getElem_cons hlt]at hk
  unfold AD2 at hk
  generalize c.fs[i]=m at hld hk
  unfold ER.cells at hld
  simp only[go_sem,FP,hlt,decide_true,hp,EM hld,Nat.reduceAdd,show Dw (.one .str) false m.nm.v s.v=_ from ACl ..]
  rw[T.set_set]
  have f4:=f3.new (m:=n3+1) (id:=n3) (one [m.nm.v,m.ty.nm.v,.bool m.ty.arr]) f3.le (by omega)
  cases h1:decide (m.nm.1=s.1/\m.nm.2=s.2)with
  |true=>
   simp only[h1,cond_true]at hk
   simp only[go_sem,Nat.reduceAdd]
   rw[Dz (m:=2) (off:=1) (T.Au ..) (by omega) (by show 3<=3;omega),AU]
   show Bd 2 (.ptr (n+1) 0) (.agg [m.ty.nm.v,.bool m.ty.arr]) _ _ _
   rw[IY (m:=2) ((T.Ad _ _ (by omega)).trans g3) (by omega) rfl rfl,BU (m:=2) (T.Au ..) (by omega) rfl]
   simp only[go_sem]
   exact hk _ _ (f4.set _ (by omega))
  |false=>
   simp only[h1,cond_false]at hk
   simp only[go_sem,GV (show i+1<9223372036854775808 by unfold big at hbig;omega)]
   exact ih _ ⟨_,_,rfl,f4,by omega,(T.Ad _ _ (by omega)).trans g3,hk⟩
 ·rintro I st ⟨H3,n3,rfl,f3,hn3,g3,hk⟩
  show JJ lfp G (Runs F G) k I s.v (.ptr (n+1) 0) vf (.int .i64 (.ofNat c.fs.length) 0) (.int .i64 (.ofNat c.fs.length) 0) H3 n3
  delta JJ
  rw[List.drop_eq_nil_of_le (Nat.le_refl _)]at hk
  simp only[go_sem,FP,Nat.lt_irrefl,decide_false]
  delta Qk
  simp only[rQ,AU]
  rw[IY (m:=2) g3 (by omega) rfl rfl,BU (m:=2) (T.Au ..) (by omega) rfl]
  simp only[go_sem]
  exact hk _ _ (f3.set _ (by omega))
theorem ABq{G:AV}{H:Heap}{n n0:Nat}{v:V}{c:Fc}(h:PK G H n0 v c)(hn:n0<=n){s:St}{k:KV}
 (hk:∀H' n' w,Kp H n H' n'->uG G H' n0 w ((WC s c.ms).getD WR)->k (.EI [w,.bool (WC s c.ms).isSome]) H' n'):Runs F G Y6 [v,s.v] H n k:=by
 refine go2 (wP Aq G) ?_
 obtain⟨vf,vm,ws,h,rfl⟩:=h
 delta ZC
 refine Ei λH1 f1 g1=>?_
 refine Ar rfl λH2 f2 g2=>?_
 simp only[go_sem,Nat.reduceAdd,AX (off:=3) (f2.get g1 (by omega)) (v:=vm) rfl,h.ms.len']
 have hbig:=h.ms.lt
 refine CG (N:=c.ms.length) (J:=λi st=>∃H' n',st=(s.v,.ptr (n+1) 0,vm,.int .i64 (.ofNat c.ms.length) 0,.int .i64 (.ofNat i) 0,H',n')/\Kp H n H' n'/\n+1<n'/\T.get H' (n+1)=some (one (WR.cells .Af))/\
  (∀H' n' w,Kp H n H' n'->uG G H' n0 w ((WC s (c.ms.drop i)).getD WR)->k (.EI [w,.bool (WC s (c.ms.drop i)).isSome]) H' n')) ?_ ?_ ⟨H2,_,rfl,f1.trans f2,Nat.lt_succ_self _,g2,hk⟩
 ·rintro I i st hlt ⟨H3,n3,rfl,f3,hn3,g3,hk⟩ ih
  show Ih lfp G (Runs F G) k I s.v (.ptr (n+1) 0) vm (.int .i64 (.ofNat c.ms.length) 0) (.int .i64 (.ofNat i) 0) H3 n3
  delta Ih
  obtain⟨q,w,hp,hld,hw⟩:=(h.ms.ke ((f3.ke).low hn)).at hlt
  rw[List.drop_eq_getElem_cons hlt]at hk
  unfold WC at hk
  generalize c.ms[i]=m at hld hk hw
  unfold FN.cells at hld
  simp only[go_sem,FP,hlt,decide_true,hp,EM hld,Nat.reduceAdd,show Dw (.one .str) false m.nm.v s.v=_ from ACl ..]
  rw[T.set_set]
  have f4:=f3.new (m:=n3+1) (id:=n3) (one [m.nm.v,.bool m.st,w,m.ret.nm.v,.bool m.ret.arr]) f3.le (by omega)
  cases h1:decide (m.nm.1=s.1/\m.nm.2=s.2)with
  |true=>
   simp only[h1,cond_true]at hk
   simp only[go_sem,Nat.reduceAdd]
   rw[IY (m:=5) ((T.Ad _ _ (by omega)).trans g3) (by omega) rfl rfl,BU (m:=5) (T.Au ..) (by omega) rfl]
   simp only[go_sem]
   have f5:=f4.set (one [m.nm.v,.bool m.st,w,m.ret.nm.v,.bool m.ret.arr]) (id:=n+1) (by omega)
   refine hk _ _ _ f5 ⟨w,rfl,hw.ke ?_⟩
   refine(Kp.ke (n:=n0) (n':=n3+1) ⟨by omega,λid hid=>?_⟩).low (Nat.le_refl _)
   rw[T.Ad _ _ (by omega),T.Ad _ _ (by omega)]
  |false=>
   simp only[h1,cond_false]at hk
   simp only[go_sem,GV (show i+1<9223372036854775808 by unfold big at hbig;omega)]
   exact ih _ ⟨_,_,rfl,f4,by omega,(T.Ad _ _ (by omega)).trans g3,hk⟩
 ·rintro I st ⟨H3,n3,rfl,f3,hn3,g3,hk⟩
  show Ih lfp G (Runs F G) k I s.v (.ptr (n+1) 0) vm (.int .i64 (.ofNat c.ms.length) 0) (.int .i64 (.ofNat c.ms.length) 0) H3 n3
  delta Ih
  rw[List.drop_eq_nil_of_le (Nat.le_refl _)]at hk
  simp only[go_sem,FP,Nat.lt_irrefl,decide_false]
  delta P6
  simp only[rQ,AU]
  rw[IY (m:=5) g3 (by omega) rfl rfl,BU (m:=5) (T.Au ..) (by omega) rfl]
  simp only[go_sem]
  exact hk _ _ _ (f3.set _ (by omega)) AMy
def FN.same(a b:FN):Bool:=decide (a.nm.1=b.nm.1/\a.nm.2=b.nm.2)&&((a.st==b.st)&&(a.ret.is b.ret&&qg a.ps b.ps))
theorem ASo(a b:Bool):Dw (.one .bool) false (.bool a) (.bool b)=some (.bool (a==b)):=by cases a<;>cases b<;>rfl
theorem AHn{G:AV}{H:Heap}{n:Nat}{v w:V}{a b:FN}(h:uG G H n v a)(h2:uG G H n w b){k:KV}
 (hk:∀H' n',Kp H n H' n'->k (.bool (a.same b)) H' n'):Runs F G Jd [v,w] H n k:=by
 refine go2 (ACe Aq G) ?_
 obtain⟨x,rfl,h⟩:=h
 obtain⟨y,rfl,h2⟩:=h2
 delta lg
 unfold FN.same at hk
 refine Ei λH1 f1 g1=>?_
 refine Ei λH2 f2 g2=>?_
 have g1:=f2.get g1 (by omega)
 have f3:=f1.trans f2
 unfold FN.cells at g1 g2
 simp only[go_sem,Nat.reduceAdd,AX (off:=0) g1 rfl,AX (off:=0) g2 rfl,show Dw (.one .str) false a.nm.v b.nm.v=_ from ACl ..]
 cases e1:decide (a.nm.1=b.nm.1/\a.nm.2=b.nm.2)with
 |false=>rw[e1]at hk;simp only[go_sem];exact hk _ _ f3
 |true=>
  rw[e1]at hk
  simp only[go_sem,Nat.reduceAdd,AX (off:=1) g1 rfl,AX (off:=1) g2 rfl,ASo]
  cases e2:a.st==b.st with
  |false=>rw[e2]at hk;simp only[go_sem];exact hk _ _ f3
  |true=>
   rw[e2]at hk
   have l1:Ah 2 (.ptr n 3) G H2=some a.ret.v:=Dz g1 (by omega) (by show 5<=5;omega)
   have l2:Ah 2 (.ptr (n+1) 3) G H2=some b.ret.v:=Dz g2 (by omega) (by show 5<=5;omega)
   have e:Dw (.agg [.str,.bool]) false a.ret.v b.ret.v=_:=AFj a.ret b.ret
   simp only[go_sem,Nat.reduceAdd,l1,l2,e]
   cases e3:a.ret.is b.ret with
   |false=>rw[e3]at hk;simp only[go_sem];exact hk _ _ f3
   |true=>
    rw[e3]at hk
    simp only[go_sem,Nat.reduceAdd,AX (off:=2) g1 (v:=x) rfl,AX (off:=2) g2 (v:=y) rfl]
    refine ATE (h.el.kp h.lo f3) (h2.el.kp h2.lo f3) h.lt ?_
    exact hk _ _ f3
end Go.RL
