/- Part of a proof; nothing is assumed. -/
import Derived.Test.YtmbhlmocojopaaaGreatDoorPlainR
import Derived.Test.YtmbhlmocojopaaaGreatDoorWalk
set_option linter.unusedVariables false
set_option linter.unusedSimpArgs false
namespace Go.RL
open Go.DK
set_option maxRecDepth 100000
theorem AE3(b:Bool)(x y:V):DT (.bool b) x y=some (bif b then x else y):=by cases b<;>rfl
theorem Ef(b:Bool):Nb (.bool b)=some (.bool (!b)):=AZX b
def upper(l c:Nat):Bool:=decide (0<l)&&(decide (65<=c%256)&&decide (c%256<=90))
def isClass(l c:Nat)(arr:Bool):Bool:= !arr&&upper l c
theorem bW{G:AX}{l c:Nat}{H:Heap}{n:Nat}{k:KV}(hk:∀H' n',Kp H n H' n'->k (.agg [.str l c,.bool false]) H' n'):Runs F G Ec [.str l c] H n k:=by
 refine go1 (APB BK G) ?_
 delta ALd
 simp only[go_sem,Nat.reduceAdd,show CZ [.str 0 0,.bool false] [(0,1,.c (.str l c))]=some (.agg [.str l c,.bool false])from rfl]
 exact hk _ _ (((Kp.refl H n).new (m:=n+1) _ (Nat.le_refl _) (by omega)).new _ (Nat.le_refl _) (Nat.le_refl _))
theorem AW6(a b l c:Nat):Dc (.one .str) true (.str a b) (.str l c)=some (.bool (!decide (a=l/\b=c))):=by
 show ofB (UK (some (band (Nat.beq a l) (Nat.beq b c))) λb=>some (Rt b))=_
 have:band (Nat.beq a l) (Nat.beq b c)=decide (a=l/\b=c):=by rw[Bv,Bool.eq_iff_iff];simp
 rw[this];cases decide (a=l/\b=c)<;>rfl
theorem AY5{l c:Nat}(h:0<l):ARk (.str l c) (.int .i64 (.ofNat 0) 0)=some (.int .u8 (.ofNat (c%256)) 0):=by
 show CO (Nat.blt 0 l) (En (ASJ c 0) λb=>some (.int .u8 (.ofNat b) 0))=_
 have:Nat.blt 0 l=true:=by rw[Nat.blt_eq];exact h
 rw[this,DU]
 show some (V.int .u8 (.ofNat (c/1%256)) 0)=_
 rw[Nat.div_one]
theorem AZO(q:IntKind)(a b:Nat):B2.ev .geq (.int q (.ofNat a) 0) (.int q (.ofNat b) 0)=some (.bool (decide (b<=a))):=by
 show CO (band (keq q q) true) (rQ (ile (.ofNat b) (.ofNat a)))=_
 rw[aH,AJP,show band (keq q q) true=true by simp[UD],show decide (Int.ofNat b<=Int.ofNat a)=decide (b<=a)by rw[decide_eq_decide];show(b:Int)<=a↔_;omega];rfl
theorem AQm(q:IntKind)(a b:Nat):B2.ev .leq (.int q (.ofNat a) 0) (.int q (.ofNat b) 0)=some (.bool (decide (a<=b))):=by
 show CO (band (keq q q) true) (rQ (ile (.ofNat a) (.ofNat b)))=_
 rw[aH,AJP,show band (keq q q) true=true by simp[UD],show decide (Int.ofNat a<=Int.ofNat b)=decide (a<=b)by rw[decide_eq_decide];show(a:Int)<=b↔_;omega];rfl
theorem ACB{G:AX}{l c:Nat}{arr:Bool}(hl:l=0->c=0){H:Heap}{n:Nat}{k:KV}(hk:∀H' n',Kp H n H' n'->k (.bool (isClass l c arr)) H' n'):Runs F G FC [.agg [.str l c,.bool arr]] H n k:=by
 refine go1 (ABa BK G) ?_
 delta mJ
 simp only[go_sem,Nat.reduceAdd,Ef]
 cases arr with
 |true=>
  simp only[go_sem,Nat.reduceAdd,Bool.not_true]
  exact hk _ _ ((Kp.refl H n).new _ (Nat.le_refl _) (by omega))
 |false=>
  simp only[go_sem,Nat.reduceAdd,Bool.not_false,AW6]
  by_cases h0:l=0/\c=0
  ·simp only[h0,and_self,decide_true,Bool.not_true,go_sem]
   have:isClass l c false=false:=by simp[isClass,upper,h0]
   rw[this]at hk
   exact hk _ _ ((Kp.refl H n).new _ (Nat.le_refl _) (by omega))
  ·have hl0:0<l:=by rcases Nat.eq_zero_or_pos l with h|h;exact absurd ⟨h,hl h⟩ h0;exact h
   simp only[h0,decide_false,Bool.not_false,go_sem,AY5 hl0,AZO,AQm]
   have e:isClass l c false=(decide (65<=c%256)&&decide (c%256<=90)):=by simp[isClass,upper,hl0]
   rw[e]at hk
   cases h1:decide (65<=c%256)with
   |false=>
    simp only[go_sem]
    rw[h1]at hk
    exact hk _ _ ((Kp.refl H n).new _ (Nat.le_refl _) (by omega))
   |true=>
    simp only[go_sem,AY5 hl0,AQm]
    rw[h1]at hk
    exact hk _ _ ((Kp.refl H n).new _ (Nat.le_refl _) (by omega))
theorem AZt(l c:Nat):ARc (.str l c)=some (.int .i64 (.ofNat l) 0):=rfl
def AIQ(l c:Nat):Bool:=decide (l=3/\c=7630441)||(decide (l=4/\c=1819242338)||(upper l c&&decide (l<=40)))
theorem AXY{G:AX}{l c:Nat}{arr:Bool}(hl:l=0->c=0){H:Heap}{n:Nat}{k:KV}(hk:∀H' n',Kp H n H' n'->k (.bool (AIQ l c)) H' n'):Runs F G AEM [.agg [.str l c,.bool arr]] H n k:=by
 refine go1 (AIu BK G) ?_
 delta AEY
 unfold AIQ at hk
 have f1:Kp H n (T.set H n (one [.str l c,.bool arr])) (n+1):=(Kp.refl H n).new _ (Nat.le_refl _) (by omega)
 simp only[go_sem,ADc]
 cases h1:decide (l=3/\c=7630441)with
 |true=>
  simp only[go_sem]
  rw[h1]at hk
  exact hk _ _ f1
 |false=>
  rw[h1]at hk
  simp only[go_sem,ADc]
  cases h2:decide (l=4/\c=1819242338)with
  |true=>
   simp only[go_sem]
   rw[h2]at hk
   exact hk _ _ f1
  |false=>
   rw[h2]at hk
   simp only[go_sem]
   refine bW λH1 n1 f2=>?_
   refine ACB hl λH2 n2 f3=>?_
   have f4:=f1.trans (f2.trans f3)
   have e:isClass l c false=upper l c:=by simp[isClass]
   rw[e]
   cases h3:upper l c with
   |false=>
    simp only[go_sem]
    rw[h3]at hk
    exact hk _ _ f4
   |true=>
    rw[h3]at hk
    have hg:T.get H2 n=some (one [.str l c,.bool arr]):=by rw[f3.same n (by have:=f2.le;omega),f2.same n (by omega),T.BX]
    simp only[go_sem,AV (off:=0) hg (v:=.str l c) rfl,AZt,AQm]
    exact hk _ _ f4
abbrev St:=Nat×Nat
def St.v(s:St):V:=.str s.1 s.2
def strs(xs:List St):Dy:=xs.map λs=>[St.v s]
theorem mZ(xs:List St):(strs xs).length=xs.length:=List.length_map ..
theorem ACl{xs:List St}{i:Nat}(h:i<xs.length):(strs xs)[i]? =some [St.v xs[i]]:=by simp[strs,h]
def AH1(s:St):List St->Nat->Int
 |[],_=>.negSucc 0
 |x::xs,i=>bif decide (s.1=x.1/\s.2=x.2)then .ofNat i else AH1 s xs (i+1)
def AAx(s:St)(xs:List St):Bool:=xs.any λx=>decide (s.1=x.1/\s.2=x.2)
theorem AKj(s:St):∀(xs:List St) (i:Nat),decide ((0:Int)<=AH1 s xs i)=AAx s xs
 |[],_=>rfl
 |x::xs,i=>by
  unfold AH1
  show _=(decide (s.1=x.1/\s.2=x.2)||AAx s xs)
  cases h:decide (s.1=x.1/\s.2=x.2)with
  |true=>simp
  |false=>simpa using AKj s xs (i+1)
theorem Nc{i m:Nat}:B2.ev .lss (.int .i64 (.ofNat i) 0) (.int .i64 (.ofNat m) 0)=some (.bool (decide (i<m))):=by
 rw[AYg];congr 2;rw[decide_eq_decide];show(i:Int)<m↔_;omega
theorem AUW{G:AX}{v:V}{xs:List St}{s:St}{H:Heap}{n:Nat}{k:KV}(h:El G H v 1 (strs xs))(hb:xs.length<9223372036854775808)(hk:k (.int .i64 (AH1 s xs 0) 0) H n):
 Runs F G QV [v,s.v] H n k:=by
 refine go2 (YZ BK G) ?_
 delta QU
 rw[h.len,AQ,mZ]
 refine QL (J:=λm st=>∃i,m=xs.length-i/\i<=xs.length/\st=(v,s.v,.int .i64 (.ofNat xs.length) 0,.int .i64 (.ofNat i) 0,H,n)/\k (.int .i64 (AH1 s (xs.drop i) i) 0) H n) ?_ (m:=xs.length) ⟨0,rfl,Nat.zero_le _,rfl,hk⟩
 rintro I m st ⟨i,rfl,hi,rfl,hk⟩ ih
 show JX lfp G (Runs F G) k I v s.v (.int .i64 (.ofNat xs.length) 0) (.int .i64 (.ofNat i) 0) H n
 delta JX
 by_cases hlt:i<xs.length
 ·obtain⟨p,hp,hld⟩:=h.at (ACl hlt)
  rw[List.drop_eq_getElem_cons hlt]at hk
  unfold AH1 at hk
  simp only[go_sem,Nc,hlt,decide_true,hp,qR hld,St.v,ADc]
  cases he:decide (s.1=xs[i].1/\s.2=xs[i].2)with
  |true=>simp only[go_sem];rw[he]at hk;exact hk
  |false=>
   simp only[go_sem,Eu (show i+1<9223372036854775808 by omega)]
   rw[he]at hk
   exact ih _ _ (by omega) ⟨i+1,rfl,hlt,rfl,hk⟩
 ·simp only[go_sem,Nc,hlt,decide_false]
  delta JR
  rw[List.drop_eq_nil_of_le (by omega)]at hk
  exact hk
theorem AZT(a:Int):B2.ev .geq (.int .i64 a 0) (.int .i64 (.ofNat 0) 0)=some (.bool (decide (0<=a))):=by
 show CO (band (keq .i64 .i64) true) (rQ (ile (.ofNat 0) a))=_
 rw[aH,AJP];rfl
theorem ABB{G:AX}{v:V}{xs:List St}{s:St}{H:Heap}{n:Nat}{k:KV}(h:El G H v 1 (strs xs))(hb:xs.length<9223372036854775808)(hk:k (.bool (AAx s xs)) H n):
 Runs F G Gi [v,s.v] H n k:=by
 refine go2 (Wl BK G) ?_
 delta Og
 refine AUW h hb ?_
 simp only[go_sem,AZT,AKj]
 exact hk
structure Ty where
 nm:St
 arr:Bool
def Ty.cells(t:Ty):LV:=[t.nm.v,.bool t.arr]
def Ty.v(t:Ty):V:=.agg t.cells
def Ty.is(a b:Ty):Bool:=decide (a.nm.1=b.nm.1/\a.nm.2=b.nm.2)&&(a.arr==b.arr)
def tys(xs:List Ty):Dy:=xs.map Ty.cells
theorem ACK(xs:List Ty):(tys xs).length=xs.length:=List.length_map ..
theorem AJb{xs:List Ty}{i:Nat}(h:i<xs.length):(tys xs)[i]? =some xs[i].cells:=by simp[tys,h]
theorem AP8(a b:St):CK.eq .str a.v b.v=some (decide (a.1=b.1/\a.2=b.2)):=by
 show some (band (Nat.beq a.1 b.1) (Nat.beq a.2 b.2))=_
 rw[show band (Nat.beq a.1 b.1) (Nat.beq a.2 b.2)=decide (a.1=b.1/\a.2=b.2)by rw[Bv,Bool.eq_iff_iff];simp]
theorem AQO(a b:Bool):CK.eq .bool (.bool a) (.bool b)=some (a==b):=by cases a<;>cases b<;>rfl
theorem AQU(a b:Ty):(EK.agg [.str,.bool]).eq a.v b.v=some (a.is b):=
 show AAF CK.eq [.str,.bool] a.cells b.cells=_ from TR.2 ⟨_,_,AP8 _ _,TR.2 ⟨_,true,AQO _ _,rfl,rfl⟩,by simp[Ty.is]⟩
theorem ZJ(a b:Ty):Dc (.agg [.str,.bool]) false a.v b.v=some (.bool (a.is b)):=by
 show ofB (UK ((EK.agg [.str,.bool]).eq a.v b.v) λb=>some b)=_
 rw[AQU];cases a.is b<;>rfl
theorem AOf(a b:Ty):Dc (.agg [.str,.bool]) true a.v b.v=some (.bool (!a.is b)):=by
 show ofB (UK ((EK.agg [.str,.bool]).eq a.v b.v) λb=>some (Rt b))=_
 rw[AQU];cases a.is b<;>rfl
def vT:List Ty->List Ty->Bool
 |[],[]=>true
 |a::l,b::r=>a.is b&&vT l r
 |_,_=>false
theorem AHm:∀{l r:List Ty},vT l r=true->l.length=r.length
 |[],[],_=>rfl
 |a::l,b::r,h=>by simp[vT]at h;simp[AHm h.2]
 |[],_::_,h=>by cases h
 |_::_,[],h=>by cases h
theorem Aam{i m:Nat}:Dc (.one .int) true (.int .i64 (.ofNat i) 0) (.int .i64 (.ofNat m) 0)=some (.bool (!decide (i=m))):=by
 rw[AVq,show(Int.ofNat i==Int.ofNat m)=decide (i=m)by rw[Bool.eq_iff_iff];simp;omega]
theorem ASB{G:AX}{v w:V}{xs ys:List Ty}{H:Heap}{n:Nat}{k:KV}(h:El G H v 2 (tys xs))(h2:El G H w 2 (tys ys))(hb:xs.length<9223372036854775808)(hk:k (.bool (vT xs ys)) H n):
 Runs F G Nz [v,w] H n k:=by
 refine go2 (VZ BK G) ?_
 delta OB
 simp only[go_sem,h.len,h2.len,ACK,Aam]
 by_cases hl:xs.length=ys.length
 ·simp only[hl,decide_true,Bool.not_true,go_sem]
  refine QL (J:=λm st=>∃i,m=ys.length-i/\i<=ys.length/\st=(v,w,.int .i64 (.ofNat ys.length) 0,.int .i64 (.ofNat i) 0,H,n)/\k (.bool (vT (xs.drop i) (ys.drop i))) H n) ?_ (m:=ys.length) ⟨0,rfl,Nat.zero_le _,rfl,hk⟩
  rintro I m st ⟨i,rfl,hi,rfl,hk⟩ ih
  show G9 lfp G (Runs F G) k I v w (.int .i64 (.ofNat ys.length) 0) (.int .i64 (.ofNat i) 0) H n
  delta G9
  by_cases hlt:i<ys.length
  ·have hlt':i<xs.length:=by omega
   obtain⟨p,hp,hld⟩:=h.at (AJb hlt')
   obtain⟨p2,hp2,hld2⟩:=h2.at (AJb hlt)
   rw[List.drop_eq_getElem_cons hlt,List.drop_eq_getElem_cons hlt']at hk
   unfold vT at hk
   have e:=AOf xs[i] ys[i]
   unfold Ty.v at e
   simp only[go_sem,Nc,hlt,decide_true,hp,hp2,DW hld,DW hld2,e]
   cases he:xs[i].is ys[i]with
   |false=>rw[he]at hk;simp only[Bool.not_false,go_sem];exact hk
   |true=>
    simp only[Bool.not_true,go_sem,Eu (show i+1<9223372036854775808 by omega)]
    rw[he]at hk
    exact ih _ _ (by omega) ⟨i+1,rfl,hlt,rfl,hk⟩
  ·simp only[go_sem,Nc,hlt,decide_false]
   delta Hr
   rw[List.drop_eq_nil_of_le (by omega),List.drop_eq_nil_of_le (by omega)]at hk
   exact hk
 ·have:vT xs ys=false:=by cases h:vT xs ys;rfl;exact absurd (AHm h) hl
  rw[this]at hk
  simp only[hl,decide_false,Bool.not_false,go_sem]
  exact hk
def Lo(v:V)(n:Nat):Prop:=∀id,v.D9=some id->id<n
theorem _root_.Go.DK.El.kp{G:AX}{H H':Heap}{v:V}{z n n':Nat}{LS:Dy}(h:El G H v z LS)(hl:Lo v n)(f:Kp H n H' n'):El G H' v z LS:=h.same λid hid=>f.same id (hl id hid)
theorem Lo.mono{v:V}{n n':Nat}(h:Lo v n)(hn:n<=n'):Lo v n':=λid hid=>Nat.lt_of_lt_of_le (h id hid) hn
def St.ok(s:St):Prop:=s.1=0->s.2=0
def AKa(s:St):Bool:=AIQ s.1 s.2
abbrev big:Nat:=9223372036854775808
structure DJ where
 nm:St
 ty:Ty
def DJ.cells(f:DJ):LV:=[f.nm.v,f.ty.nm.v,.bool f.ty.arr]
structure Ej where
 nm:St
 st:Bool
 ps:List Ty
 ret:Ty
def Ej.cells(m:Ej)(v:V):LV:=[m.nm.v,.bool m.st,v,m.ret.nm.v,.bool m.ret.arr]
structure Vs(G:AX)(H:Heap)(n:Nat)(v:V)(xs:List Ty):Prop where
 el:El G H v 2 (tys xs)
 lo:Lo v n
 lt:xs.length<big
 ok:∀t∈xs,t.nm.ok
structure Wu(G:AX)(H:Heap)(n:Nat)(v:V)(fs:List DJ):Prop where
 el:El G H v 3 (fs.map DJ.cells)
 lo:Lo v n
 lt:fs.length<big
 ok:∀f∈fs,f.nm.ok/\f.ty.nm.ok
structure RY(G:AX)(H:Heap)(n:Nat)(v:V)(ms:List Ej)(ws:List V):Prop where
 el:El G H v 5 (List.zipWith Ej.cells ms ws)
 lo:Lo v n
 lt:ms.length<big
 len:ws.length=ms.length
 at':∀(i:Nat) (m:Ej) (w:V),ms[i]? =some m->ws[i]? =some w->Vs G H n w m.ps
 ok:∀m∈ms,m.nm.ok/\m.ret.nm.ok
section
variable{G:AX}{H H':Heap}{n n':Nat}{v:V}
theorem Vs.kp{xs:List Ty}(h:Vs G H n v xs)(f:Kp H n H' n'):Vs G H' n' v xs:=⟨h.el.kp h.lo f,h.lo.mono f.le,h.lt,h.ok⟩
theorem Wu.kp{xs:List DJ}(h:Wu G H n v xs)(f:Kp H n H' n'):Wu G H' n' v xs:=⟨h.el.kp h.lo f,h.lo.mono f.le,h.lt,h.ok⟩
theorem RY.kp{xs:List Ej}{ws:List V}(h:RY G H n v xs ws)(f:Kp H n H' n'):RY G H' n' v xs ws:=
 ⟨h.el.kp h.lo f,h.lo.mono f.le,h.lt,h.len,λi m w a b=>(h.at' i m w a b).kp f,h.ok⟩
theorem Wu.len{xs:List DJ}(h:Wu G H n v xs):lenV v=some (.int .i64 (.ofNat xs.length) 0):=by rw[h.el.len,List.length_map]
theorem Vs.len{xs:List Ty}(h:Vs G H n v xs):lenV v=some (.int .i64 (.ofNat xs.length) 0):=by rw[h.el.len,ACK]
theorem RY.len'{xs:List Ej}{ws:List V}(h:RY G H n v xs ws):lenV v=some (.int .i64 (.ofNat xs.length) 0):=by
 rw[h.el.len,List.length_zipWith,h.len,Nat.min_self]
theorem Wu.at{xs:List DJ}(h:Wu G H n v xs){i:Nat}(hi:i<xs.length):∃p,Az 3 v (.int .i64 (.ofNat i) 0)=some p/\ldP p G H 3=some xs[i].cells:=
 h.el.at (by simp[hi])
theorem RY.at{xs:List Ej}{ws:List V}(h:RY G H n v xs ws){i:Nat}(hi:i<xs.length):
 ∃p w,Az 5 v (.int .i64 (.ofNat i) 0)=some p/\ldP p G H 5=some (xs[i].cells w)/\Vs G H n w xs[i].ps:=by
 have hw:i<ws.length:=by rw[h.len];exact hi
 obtain⟨p,h1,h2⟩:=h.el.at (i:=i) (c:=xs[i].cells ws[i]) (by rw[List.getElem?_zipWith];simp[hi,hw])
 exact⟨p,ws[i],h1,h2,h.at' i _ _ (List.getElem?_eq_getElem hi) (List.getElem?_eq_getElem hw)⟩
end
theorem AYc(q:IntKind)(a b:Nat):B2.ev .gtr (.int q (.ofNat a) 0) (.int q (.ofNat b) 0)=some (.bool (decide (b<a))):=by
 show CO (band (keq q q) true) (rQ (ilt (.ofNat b) (.ofNat a)))=_
 rw[aH,aG,show band (keq q q) true=true by simp[UD],show decide (Int.ofNat b<Int.ofNat a)=decide (b<a)by rw[decide_eq_decide];show(b:Int)<a↔_;omega];rfl
theorem AaD(s:St):ARc s.v=some (.int .i64 (.ofNat s.1) 0):=rfl
structure Fc where
 nm:St
 sup:St
 fs:List DJ
 ms:List Ej
structure ACy(G:AX)(H:Heap)(n:Nat)(L:LV)(c:Fc)(v w:V)(ws:List V):Prop where
 is:L=[c.nm.v,c.sup.v,v,w]
 fs:Wu G H n v c.fs
 ms:RY G H n w c.ms ws
 ok:c.nm.ok/\c.sup.ok
end Go.RL
namespace Go.RL
open Go.DK
set_option maxRecDepth 100000
theorem AV2{e c:Nat}{t:T LV}{i:Nat}{L:LV}(he:0<e)(hi:i<c)(ht:T.get t i=some L)(hL:L.length=e):ldB e c t (i*e) e=some L:=by
 unfold ldB
 have hdiv:i*e/e=i:=Nat.mul_div_cancel _ he
 have hmod:i*e%e=0:=Nat.mul_mod_left ..
 have hb:Nat.blt (Nat.div (i*e) e) c=true:=by rw[Nat.blt_eq];show i*e/e<c;omega
 rw[hb]
 show DF (T.get t (Nat.div (i*e) e)) (ldC e (i*e) e)=_
 rw[show Nat.div (i*e) e=i from hdiv,ht,RN]
 have h1:=ANG (H:=T.set .e 0 (one L)) (id:=0) (L:=L) (off:=0) (m:=e) (T.BX ..) he (by omega)
 unfold zf at h1
 rw[T.BX]at h1
 have h2:ldB L.length 1 (T.set .e 0 L) 0 e=some ((L.drop 0).take e):=h1
 unfold ldB at h2
 rw[show Nat.blt (Nat.div 0 L.length) 1=true by rw[Nat.blt_eq];show 0/L.length<1;simp]at h2
 have h3:DF (T.get (T.set T.e 0 L) (Nat.div 0 L.length)) (ldC L.length 0 e)=some ((L.drop 0).take e):=h2
 rw[show Nat.div 0 L.length=0 from Nat.zero_div _,T.BX,RN]at h3
 rw[List.drop_zero,List.take_of_length_le (by omega),hL]at h3
 have:ldC e (i*e) e L=ldC e 0 e L:=by
  unfold ldC
  rw[show Nat.mod (i*e) e=0 from hmod,show Nat.mod 0 e=0 from Nat.zero_mod _]
 rw[this];exact h3
theorem AQi{z:Nat}{Z L:LV}{H:Heap}{n:Nat}{P:KV}(hL:L.length=z):
 BZ (Ah z 1 Z [(0,.c (.agg L))] E0) H n P=P (.sl n 0 1 1 z) (T.set H n (.arr z 1 (T.set (T.set .e 0 Z) 0 L))) (n+1):=by
 subst hL
 show Dj (band (band true (band true (Nat.beq (len L) L.length))) true) (FN n λn=>P (.sl n 0 1 1 L.length) (T.set H n (.arr L.length 1 (T.set (T.set .e 0 Z) 0 L))) (Nat.succ n))=_
 rw[len_eq,CV]
 have hb:band (band true (band true (Nat.beq L.length L.length))) true=true:=by simp
 rw[hb];rfl
theorem AIv{G:AX}{H:Heap}{n z:Nat}{Z L:LV}(hz:0<z)(hL:L.length=z)(h:T.get H n=some (.arr z 1 (T.set (T.set .e 0 Z) 0 L))):El G H (.sl n 0 1 1 z) z [L]:=by
 refine⟨rfl,?_⟩
 show(Bool.rec (motive:=λ_=>Option Dy) none (DF (zf H n (0*z) z) λL=>DF (some []) λLS=>some (L::LS)) (Nat.beq z z):Option Dy)=_
 have hl:zf H n (0*z) z=some L:=by
  unfold zf;rw[h]
  exact AV2 hz (by omega) (by rw[T.BX]) hL
 rw[hl,show Nat.beq z z=true by simp]
 rfl
end Go.RL
namespace Go.RL
open Go.DK
set_option maxRecDepth 100000
structure PF where
 f:DJ
 own:St
structure PM where
 m:Ej
 own:St
def PF.cells(p:PF):LV:=[p.f.nm.v,p.f.ty.nm.v,.bool p.f.ty.arr,p.own.v]
def PM.cells(p:PM)(w:V):LV:=[p.m.nm.v,.bool p.m.st,w,p.m.ret.nm.v,.bool p.m.ret.arr,p.own.v]
structure Pool where
 nums:List Int
 names:List St
 types:List Ty
 fields:List PF
 Acr:List PM
end Go.RL
namespace Go.RL
open Go.DK
set_option maxRecDepth 100000
end Go.RL
namespace Go.RL
open Go.DK
set_option maxRecDepth 100000
def known(c:Int):Bool:=decide (1<=c)&&decide (c<=32)
theorem Ab9(q:IntKind)(a b:Int):B2.ev .lss (.int q a 0) (.int q b 0)=some (.bool (decide (a<b))):=by
 show CO (band (keq q q) true) (rQ (ilt a b))=_
 rw[aH,aG,show band (keq q q) true=true by simp[UD]];rfl
end Go.RL
namespace Go.RL
open Go.DK
set_option maxRecDepth 100000
end Go.RL
namespace Go.RL
open Go.DK
set_option maxRecDepth 100000
end Go.RL
namespace Go.RL
open Go.DK
set_option maxRecDepth 100000
def least(m:Ej):Nat:=bif m.st then m.ps.length else m.ps.length+1
end Go.RL
