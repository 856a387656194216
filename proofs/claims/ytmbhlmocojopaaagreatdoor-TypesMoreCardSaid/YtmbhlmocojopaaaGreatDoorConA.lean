/- Part of a proof; nothing is assumed. -/
import Derived.Test.YtmbhlmocojopaaaGreatDoorPlainR
import Derived.Test.YtmbhlmocojopaaaGreatDoorWalk
set_option linter.unusedVariables false
set_option linter.unusedSimpArgs false
namespace Go.RL
open Go.DW
set_option maxRecDepth 100000
theorem ADs(b:Bool)(x y:V):CQ (.bool b) x y=some (bif b then x else y):=by cases b<;>rfl
theorem GL(b:Bool):Qi (.bool b)=some (.bool (!b)):=AYf b
def upper(l c:Nat):Bool:=decide (0<l)&&(decide (65<=c%256)&&decide (c%256<=90))
def isClass(l c:Nat)(arr:Bool):Bool:= !arr&&upper l c
theorem jK{G:AX}{l c:Nat}{H:Heap}{n:Nat}{k:KV}(hk:∀H' n',Kp H n H' n'->k (.agg [.str l c,.bool false]) H' n'):Runs F G Ez [.str l c] H n k:=by
 refine BH (s:=mO (AAz lfp G)) ACT (by obtain⟨h,o⟩:=AN0 BI G;rw[ACT]at h;cases h;exact o) ?_
 show AAz lfp G (Runs F G) (.str l c) H n k
 delta AAz
 simp only[go_sem,Nat.reduceAdd,show Dv [.str 0 0,.bool false] [(0,1,.c (.str l c))]=some (.agg [.str l c,.bool false])from rfl]
 exact hk _ _ (((Kp.refl H n).new (m:=n+1) _ (Nat.le_refl _) (by omega)).new _ (Nat.le_refl _) (Nat.le_refl _))
theorem AXQ(a b l c:Nat):EN (.one .str) true (.str a b) (.str l c)=some (.bool (!decide (a=l/\b=c))):=by
 show ofB (Va (some (band (Nat.beq a l) (Nat.beq b c))) λb=>some (TM b))=_
 have:band (Nat.beq a l) (Nat.beq b c)=decide (a=l/\b=c):=by rw[Bg,Bool.eq_iff_iff];simp
 rw[this];cases decide (a=l/\b=c)<;>rfl
theorem AYT{l c:Nat}(h:0<l):AOY (.str l c) (.int .i64 (.ofNat 0) 0)=some (.int .u8 (.ofNat (c%256)) 0):=by
 show CG (Nat.blt 0 l) (Et (AOv c 0) λb=>some (.int .u8 (.ofNat b) 0))=_
 have:Nat.blt 0 l=true:=by rw[Nat.blt_eq];exact h
 rw[this,DK]
 show some (V.int .u8 (.ofNat (c/1%256)) 0)=_
 rw[Nat.div_one]
theorem AYB(q:IntKind)(a b:Nat):B2.ev .geq (.int q (.ofNat a) 0) (.int q (.ofNat b) 0)=some (.bool (decide (b<=a))):=by
 show CG (band (keq q q) true) (mkB (ile (.ofNat b) (.ofNat a)))=_
 rw[bT,AHH,show band (keq q q) true=true by simp[VE],show decide (Int.ofNat b<=Int.ofNat a)=decide (b<=a)by rw[decide_eq_decide];show(b:Int)<=a↔_;omega];rfl
theorem APN(q:IntKind)(a b:Nat):B2.ev .leq (.int q (.ofNat a) 0) (.int q (.ofNat b) 0)=some (.bool (decide (a<=b))):=by
 show CG (band (keq q q) true) (mkB (ile (.ofNat a) (.ofNat b)))=_
 rw[bT,AHH,show band (keq q q) true=true by simp[VE],show decide (Int.ofNat a<=Int.ofNat b)=decide (a<=b)by rw[decide_eq_decide];show(a:Int)<=b↔_;omega];rfl
theorem AHZ{G:AX}{l c:Nat}{arr:Bool}(hl:l=0->c=0){H:Heap}{n:Nat}{k:KV}(hk:∀H' n',Kp H n H' n'->k (.bool (isClass l c arr)) H' n'):Runs F G Gv [.agg [.str l c,.bool arr]] H n k:=by
 refine BH (s:=mO (Us lfp G)) XO (by obtain⟨h,o⟩:=ABU BI G;rw[XO]at h;cases h;exact o) ?_
 show Us lfp G (Runs F G) (.agg [.str l c,.bool arr]) H n k
 delta Us
 simp only[go_sem,Nat.reduceAdd,GL]
 cases arr with
 |true=>
  simp only[go_sem,Nat.reduceAdd,Bool.not_true]
  exact hk _ _ ((Kp.refl H n).new _ (Nat.le_refl _) (by omega))
 |false=>
  simp only[go_sem,Nat.reduceAdd,Bool.not_false,AXQ]
  by_cases h0:l=0/\c=0
  ·simp only[h0,and_self,decide_true,Bool.not_true,go_sem]
   have:isClass l c false=false:=by simp[isClass,upper,h0]
   rw[this]at hk
   exact hk _ _ ((Kp.refl H n).new _ (Nat.le_refl _) (by omega))
  ·have hl0:0<l:=by rcases Nat.eq_zero_or_pos l with h|h;exact absurd ⟨h,hl h⟩ h0;exact h
   simp only[h0,decide_false,Bool.not_false,go_sem,AYT hl0,AYB,APN]
   have e:isClass l c false=(decide (65<=c%256)&&decide (c%256<=90)):=by simp[isClass,upper,hl0]
   rw[e]at hk
   cases h1:decide (65<=c%256)with
   |false=>
    simp only[go_sem]
    rw[h1]at hk
    exact hk _ _ ((Kp.refl H n).new _ (Nat.le_refl _) (by omega))
   |true=>
    simp only[go_sem,AYT hl0,APN]
    rw[h1]at hk
    exact hk _ _ ((Kp.refl H n).new _ (Nat.le_refl _) (by omega))
theorem AX7(l c:Nat):uX (.str l c)=some (.int .i64 (.ofNat l) 0):=rfl
def AGz(l c:Nat):Bool:=decide (l=3/\c=7630441)||(decide (l=4/\c=1819242338)||(upper l c&&decide (l<=40)))
theorem AUf{G:AX}{l c:Nat}{arr:Bool}(hl:l=0->c=0){H:Heap}{n:Nat}{k:KV}(hk:∀H' n',Kp H n H' n'->k (.bool (AGz l c)) H' n'):Runs F G AC0 [.agg [.str l c,.bool arr]] H n k:=by
 refine BH (s:=mO (fQ lfp G)) oC (by obtain⟨h,o⟩:=AHL BI G;rw[oC]at h;cases h;exact o) ?_
 show fQ lfp G (Runs F G) (.agg [.str l c,.bool arr]) H n k
 delta fQ
 unfold AGz at hk
 have f1:Kp H n (T.set H n (one [.str l c,.bool arr])) (n+1):=(Kp.refl H n).new _ (Nat.le_refl _) (by omega)
 simp only[go_sem,ABt]
 cases h1:decide (l=3/\c=7630441)with
 |true=>
  simp only[go_sem]
  rw[h1]at hk
  exact hk _ _ f1
 |false=>
  rw[h1]at hk
  simp only[go_sem,ABt]
  cases h2:decide (l=4/\c=1819242338)with
  |true=>
   simp only[go_sem]
   rw[h2]at hk
   exact hk _ _ f1
  |false=>
   rw[h2]at hk
   simp only[go_sem]
   refine jK λH1 n1 f2=>?_
   refine AHZ hl λH2 n2 f3=>?_
   have f4:=f1.trans (f2.trans f3)
   have e:isClass l c false=upper l c:=by simp[isClass]
   rw[e]
   cases h3:upper l c with
   |false=>
    simp only[go_sem]
    rw[h3]at hk
    exact hk _ _ f4
   |true=>
    rw[h3]at hk
    have hg:T.get H2 n=some (one [.str l c,.bool arr]):=by rw[f3.same n (by have:=f2.le;omega),f2.same n (by omega),T.BP]
    simp only[go_sem,AV (off:=0) hg (v:=.str l c) rfl,AX7,APN]
    exact hk _ _ f4
abbrev St:=Nat×Nat
def St.v(s:St):V:=.str s.1 s.2
def strs(xs:List St):DZ:=xs.map λs=>[St.v s]
theorem lQ(xs:List St):(strs xs).length=xs.length:=List.length_map ..
theorem ABQ{xs:List St}{i:Nat}(h:i<xs.length):(strs xs)[i]? =some [St.v xs[i]]:=by simp[strs,h]
def AGB(s:St):List St->Nat->Int
 |[],_=>.negSucc 0
 |x::xs,i=>bif decide (s.1=x.1/\s.2=x.2)then .ofNat i else AGB s xs (i+1)
def AAE(s:St)(xs:List St):Bool:=xs.any λx=>decide (s.1=x.1/\s.2=x.2)
theorem AJy(s:St):∀(xs:List St) (i:Nat),decide ((0:Int)<=AGB s xs i)=AAE s xs
 |[],_=>rfl
 |x::xs,i=>by
  unfold AGB
  show _=(decide (s.1=x.1/\s.2=x.2)||AAE s xs)
  cases h:decide (s.1=x.1/\s.2=x.2)with
  |true=>simp
  |false=>simpa using AJy s xs (i+1)
theorem Ns{i m:Nat}:B2.ev .lss (.int .i64 (.ofNat i) 0) (.int .i64 (.ofNat m) 0)=some (.bool (decide (i<m))):=by
 rw[AX1];congr 2;rw[decide_eq_decide];show(i:Int)<m↔_;omega
theorem AR4{G:AX}{v:V}{xs:List St}{s:St}{H:Heap}{n:Nat}{k:KV}(h:El G H v 1 (strs xs))(hb:xs.length<9223372036854775808)(hk:k (.int .i64 (AGB s xs 0) 0) H n):
 Runs F G Qz [v,s.v] H n k:=by
 refine BH (s:=N7 (IU lfp G)) KI (by obtain⟨h,o⟩:=Y5 BI G;rw[KI]at h;cases h;exact o) ?_
 show IU lfp G (Runs F G) v s.v H n k
 delta IU
 rw[h.len,AQ,lQ]
 refine RF (J:=λm st=>∃i,m=xs.length-i/\i<=xs.length/\st=(v,s.v,.int .i64 (.ofNat xs.length) 0,.int .i64 (.ofNat i) 0,H,n)/\k (.int .i64 (AGB s (xs.drop i) i) 0) H n) ?_ (m:=xs.length) ⟨0,rfl,Nat.zero_le _,rfl,hk⟩
 rintro I m st ⟨i,rfl,hi,rfl,hk⟩ ih
 show Jc lfp G (Runs F G) k I v s.v (.int .i64 (.ofNat xs.length) 0) (.int .i64 (.ofNat i) 0) H n
 delta Jc
 by_cases hlt:i<xs.length
 ·obtain⟨p,hp,hld⟩:=h.at (ABQ hlt)
  rw[List.drop_eq_getElem_cons hlt]at hk
  unfold AGB at hk
  simp only[go_sem,Ns,hlt,decide_true,hp,ni hld,St.v,ABt]
  cases he:decide (s.1=xs[i].1/\s.2=xs[i].2)with
  |true=>simp only[go_sem];rw[he]at hk;exact hk
  |false=>
   simp only[go_sem,FB (show i+1<9223372036854775808 by omega)]
   rw[he]at hk
   exact ih _ _ (by omega) ⟨i+1,rfl,hlt,rfl,hk⟩
 ·simp only[go_sem,Ns,hlt,decide_false]
  delta Jb
  rw[List.drop_eq_nil_of_le (by omega)]at hk
  exact hk
theorem AX4(a:Int):B2.ev .geq (.int .i64 a 0) (.int .i64 (.ofNat 0) 0)=some (.bool (decide (0<=a))):=by
 show CG (band (keq .i64 .i64) true) (mkB (ile (.ofNat 0) a))=_
 rw[bT,AHH];rfl
theorem zl{G:AX}{v:V}{xs:List St}{s:St}{H:Heap}{n:Nat}{k:KV}(h:El G H v 1 (strs xs))(hb:xs.length<9223372036854775808)(hk:k (.bool (AAE s xs)) H n):
 Runs F G Gj [v,s.v] H n k:=by
 refine BH (s:=N7 (Gl lfp G)) JE (by obtain⟨h,o⟩:=XT BI G;rw[JE]at h;cases h;exact o) ?_
 show Gl lfp G (Runs F G) v s.v H n k
 delta Gl
 refine AR4 h hb ?_
 simp only[go_sem,AX4,AJy]
 exact hk
structure Ty where
 nm:St
 arr:Bool
def Ty.cells(t:Ty):LV:=[t.nm.v,.bool t.arr]
def Ty.v(t:Ty):V:=.agg t.cells
def Ty.is(a b:Ty):Bool:=decide (a.nm.1=b.nm.1/\a.nm.2=b.nm.2)&&(a.arr==b.arr)
def tys(xs:List Ty):DZ:=xs.map Ty.cells
theorem ADr(xs:List Ty):(tys xs).length=xs.length:=List.length_map ..
theorem AH6{xs:List Ty}{i:Nat}(h:i<xs.length):(tys xs)[i]? =some xs[i].cells:=by simp[tys,h]
theorem APP(a b:St):CK.eq .str a.v b.v=some (decide (a.1=b.1/\a.2=b.2)):=by
 show some (band (Nat.beq a.1 b.1) (Nat.beq a.2 b.2))=_
 rw[show band (Nat.beq a.1 b.1) (Nat.beq a.2 b.2)=decide (a.1=b.1/\a.2=b.2)by rw[Bg,Bool.eq_iff_iff];simp]
theorem APz(a b:Bool):CK.eq .bool (.bool a) (.bool b)=some (a==b):=by cases a<;>cases b<;>rfl
theorem AQ5(a b:Ty):(EK.agg [.str,.bool]).eq a.v b.v=some (a.is b):=
 show AAW CK.eq [.str,.bool] a.cells b.cells=_ from Ui.2 ⟨_,_,APP _ _,Ui.2 ⟨_,true,APz _ _,rfl,rfl⟩,by simp[Ty.is]⟩
theorem iE(a b:Ty):EN (.agg [.str,.bool]) false a.v b.v=some (.bool (a.is b)):=by
 show ofB (Va ((EK.agg [.str,.bool]).eq a.v b.v) λb=>some b)=_
 rw[AQ5];cases a.is b<;>rfl
theorem AXt(a b:Ty):EN (.agg [.str,.bool]) true a.v b.v=some (.bool (!a.is b)):=by
 show ofB (Va ((EK.agg [.str,.bool]).eq a.v b.v) λb=>some (TM b))=_
 rw[AQ5];cases a.is b<;>rfl
def uT:List Ty->List Ty->Bool
 |[],[]=>true
 |a::l,b::r=>a.is b&&uT l r
 |_,_=>false
theorem AGe:∀{l r:List Ty},uT l r=true->l.length=r.length
 |[],[],_=>rfl
 |a::l,b::r,h=>by simp[uT]at h;simp[AGe h.2]
 |[],_::_,h=>by cases h
 |_::_,[],h=>by cases h
theorem AZA{i m:Nat}:EN (.one .int) true (.int .i64 (.ofNat i) 0) (.int .i64 (.ofNat m) 0)=some (.bool (!decide (i=m))):=by
 rw[AUA,show(Int.ofNat i==Int.ofNat m)=decide (i=m)by rw[Bool.eq_iff_iff];simp;omega]
theorem AQd{G:AX}{v w:V}{xs ys:List Ty}{H:Heap}{n:Nat}{k:KV}(h:El G H v 2 (tys xs))(h2:El G H w 2 (tys ys))(hb:xs.length<9223372036854775808)(hk:k (.bool (uT xs ys)) H n):
 Runs F G OY [v,w] H n k:=by
 refine BH (s:=N7 (GZ lfp G)) Ir (by obtain⟨h,o⟩:=XD BI G;rw[Ir]at h;cases h;exact o) ?_
 show GZ lfp G (Runs F G) v w H n k
 delta GZ
 simp only[go_sem,h.len,h2.len,ADr,AZA]
 by_cases hl:xs.length=ys.length
 ·simp only[hl,decide_true,Bool.not_true,go_sem]
  refine RF (J:=λm st=>∃i,m=ys.length-i/\i<=ys.length/\st=(v,w,.int .i64 (.ofNat ys.length) 0,.int .i64 (.ofNat i) 0,H,n)/\k (.bool (uT (xs.drop i) (ys.drop i))) H n) ?_ (m:=ys.length) ⟨0,rfl,Nat.zero_le _,rfl,hk⟩
  rintro I m st ⟨i,rfl,hi,rfl,hk⟩ ih
  show Hu lfp G (Runs F G) k I v w (.int .i64 (.ofNat ys.length) 0) (.int .i64 (.ofNat i) 0) H n
  delta Hu
  by_cases hlt:i<ys.length
  ·have hlt':i<xs.length:=by omega
   obtain⟨p,hp,hld⟩:=h.at (AH6 hlt')
   obtain⟨p2,hp2,hld2⟩:=h2.at (AH6 hlt)
   rw[List.drop_eq_getElem_cons hlt,List.drop_eq_getElem_cons hlt']at hk
   unfold uT at hk
   have e:=AXt xs[i] ys[i]
   unfold Ty.v at e
   simp only[go_sem,Ns,hlt,decide_true,hp,hp2,Dx hld,Dx hld2,e]
   cases he:xs[i].is ys[i]with
   |false=>rw[he]at hk;simp only[Bool.not_false,go_sem];exact hk
   |true=>
    simp only[Bool.not_true,go_sem,FB (show i+1<9223372036854775808 by omega)]
    rw[he]at hk
    exact ih _ _ (by omega) ⟨i+1,rfl,hlt,rfl,hk⟩
  ·simp only[go_sem,Ns,hlt,decide_false]
   delta IG
   rw[List.drop_eq_nil_of_le (by omega),List.drop_eq_nil_of_le (by omega)]at hk
   exact hk
 ·have:uT xs ys=false:=by cases h:uT xs ys;rfl;exact absurd (AGe h) hl
  rw[this]at hk
  simp only[hl,decide_false,Bool.not_false,go_sem]
  exact hk
def Lo(v:V)(n:Nat):Prop:=∀id,v.Ec=some id->id<n
theorem _root_.Go.DW.El.kp{G:AX}{H H':Heap}{v:V}{z n n':Nat}{LS:DZ}(h:El G H v z LS)(hl:Lo v n)(f:Kp H n H' n'):El G H' v z LS:=h.same λid hid=>f.same id (hl id hid)
theorem Lo.mono{v:V}{n n':Nat}(h:Lo v n)(hn:n<=n'):Lo v n':=λid hid=>Nat.lt_of_lt_of_le (h id hid) hn
def St.ok(s:St):Prop:=s.1=0->s.2=0
def AJh(s:St):Bool:=AGz s.1 s.2
abbrev big:Nat:=9223372036854775808
structure Dh where
 nm:St
 ty:Ty
def Dh.cells(f:Dh):LV:=[f.nm.v,f.ty.nm.v,.bool f.ty.arr]
structure Es where
 nm:St
 st:Bool
 ps:List Ty
 ret:Ty
def Es.cells(m:Es)(v:V):LV:=[m.nm.v,.bool m.st,v,m.ret.nm.v,.bool m.ret.arr]
structure YT(G:AX)(H:Heap)(n:Nat)(v:V)(xs:List Ty):Prop where
 el:El G H v 2 (tys xs)
 lo:Lo v n
 lt:xs.length<big
 ok:∀t∈xs,t.nm.ok
structure Xd(G:AX)(H:Heap)(n:Nat)(v:V)(fs:List Dh):Prop where
 el:El G H v 3 (fs.map Dh.cells)
 lo:Lo v n
 lt:fs.length<big
 ok:∀f∈fs,f.nm.ok/\f.ty.nm.ok
structure TA(G:AX)(H:Heap)(n:Nat)(v:V)(ms:List Es)(ws:List V):Prop where
 el:El G H v 5 (List.zipWith Es.cells ms ws)
 lo:Lo v n
 lt:ms.length<big
 len:ws.length=ms.length
 at':∀(i:Nat) (m:Es) (w:V),ms[i]? =some m->ws[i]? =some w->YT G H n w m.ps
 ok:∀m∈ms,m.nm.ok/\m.ret.nm.ok
section
variable{G:AX}{H H':Heap}{n n':Nat}{v:V}
theorem YT.kp{xs:List Ty}(h:YT G H n v xs)(f:Kp H n H' n'):YT G H' n' v xs:=⟨h.el.kp h.lo f,h.lo.mono f.le,h.lt,h.ok⟩
theorem Xd.kp{xs:List Dh}(h:Xd G H n v xs)(f:Kp H n H' n'):Xd G H' n' v xs:=⟨h.el.kp h.lo f,h.lo.mono f.le,h.lt,h.ok⟩
theorem TA.kp{xs:List Es}{ws:List V}(h:TA G H n v xs ws)(f:Kp H n H' n'):TA G H' n' v xs ws:=
 ⟨h.el.kp h.lo f,h.lo.mono f.le,h.lt,h.len,λi m w a b=>(h.at' i m w a b).kp f,h.ok⟩
theorem Xd.len{xs:List Dh}(h:Xd G H n v xs):lenV v=some (.int .i64 (.ofNat xs.length) 0):=by rw[h.el.len,List.length_map]
theorem YT.len{xs:List Ty}(h:YT G H n v xs):lenV v=some (.int .i64 (.ofNat xs.length) 0):=by rw[h.el.len,ADr]
theorem TA.len'{xs:List Es}{ws:List V}(h:TA G H n v xs ws):lenV v=some (.int .i64 (.ofNat xs.length) 0):=by
 rw[h.el.len,List.length_zipWith,h.len,Nat.min_self]
theorem Xd.at{xs:List Dh}(h:Xd G H n v xs){i:Nat}(hi:i<xs.length):∃p,BD 3 v (.int .i64 (.ofNat i) 0)=some p/\ldP p G H 3=some xs[i].cells:=
 h.el.at (by simp[hi])
theorem TA.at{xs:List Es}{ws:List V}(h:TA G H n v xs ws){i:Nat}(hi:i<xs.length):
 ∃p w,BD 5 v (.int .i64 (.ofNat i) 0)=some p/\ldP p G H 5=some (xs[i].cells w)/\YT G H n w xs[i].ps:=by
 have hw:i<ws.length:=by rw[h.len];exact hi
 obtain⟨p,h1,h2⟩:=h.el.at (i:=i) (c:=xs[i].cells ws[i]) (by rw[List.getElem?_zipWith];simp[hi,hw])
 exact⟨p,ws[i],h1,h2,h.at' i _ _ (List.getElem?_eq_getElem hi) (List.getElem?_eq_getElem hw)⟩
end
theorem AYL(q:IntKind)(a b:Nat):B2.ev .gtr (.int q (.ofNat a) 0) (.int q (.ofNat b) 0)=some (.bool (decide (b<a))):=by
 show CG (band (keq q q) true) (mkB (ilt (.ofNat b) (.ofNat a)))=_
 rw[bT,cu,show band (keq q q) true=true by simp[VE],show decide (Int.ofNat b<Int.ofNat a)=decide (b<a)by rw[decide_eq_decide];show(b:Int)<a↔_;omega];rfl
theorem AYW(s:St):uX s.v=some (.int .i64 (.ofNat s.1) 0):=rfl
structure Fc where
 nm:St
 sup:St
 fs:List Dh
 ms:List Es
structure AAA(G:AX)(H:Heap)(n:Nat)(L:LV)(c:Fc)(v w:V)(ws:List V):Prop where
 is:L=[c.nm.v,c.sup.v,v,w]
 fs:Xd G H n v c.fs
 ms:TA G H n w c.ms ws
 ok:c.nm.ok/\c.sup.ok
end Go.RL
namespace Go.RL
open Go.DW
set_option maxRecDepth 100000
theorem AUq{e c:Nat}{t:T LV}{i:Nat}{L:LV}(he:0<e)(hi:i<c)(ht:T.get t i=some L)(hL:L.length=e):ldB e c t (i*e) e=some L:=by
 unfold ldB
 have hdiv:i*e/e=i:=Nat.mul_div_cancel _ he
 have hmod:i*e%e=0:=Nat.mul_mod_left ..
 have hb:Nat.blt (Nat.div (i*e) e) c=true:=by rw[Nat.blt_eq];show i*e/e<c;omega
 rw[hb]
 show CZ (T.get t (Nat.div (i*e) e)) (ldC e (i*e) e)=_
 rw[show Nat.div (i*e) e=i from hdiv,ht,SY]
 have h1:=AKg (H:=T.set .e 0 (one L)) (id:=0) (L:=L) (off:=0) (m:=e) (T.BP ..) he (by omega)
 unfold yx at h1
 rw[T.BP]at h1
 have h2:ldB L.length 1 (T.set .e 0 L) 0 e=some ((L.drop 0).take e):=h1
 unfold ldB at h2
 rw[show Nat.blt (Nat.div 0 L.length) 1=true by rw[Nat.blt_eq];show 0/L.length<1;simp]at h2
 have h3:CZ (T.get (T.set T.e 0 L) (Nat.div 0 L.length)) (ldC L.length 0 e)=some ((L.drop 0).take e):=h2
 rw[show Nat.div 0 L.length=0 from Nat.zero_div _,T.BP,SY]at h3
 rw[List.drop_zero,List.take_of_length_le (by omega),hL]at h3
 have:ldC e (i*e) e L=ldC e 0 e L:=by
  unfold ldC
  rw[show Nat.mod (i*e) e=0 from hmod,show Nat.mod 0 e=0 from Nat.zero_mod _]
 rw[this];exact h3
theorem AP4{z:Nat}{Z L:LV}{H:Heap}{n:Nat}{P:KV}(hL:L.length=z):
 Bh (Af z 1 Z [(0,.c (.agg L))] E0) H n P=P (.sl n 0 1 1 z) (T.set H n (.arr z 1 (T.set (T.set .e 0 Z) 0 L))) (n+1):=by
 subst hL
 show ER (band (band true (band true (Nat.beq (len L) L.length))) true) (FT n λn=>P (.sl n 0 1 1 L.length) (T.set H n (.arr L.length 1 (T.set (T.set .e 0 Z) 0 L))) (Nat.succ n))=_
 rw[len_eq,CS]
 have hb:band (band true (band true (Nat.beq L.length L.length))) true=true:=by simp
 rw[hb];rfl
theorem AIQ{G:AX}{H:Heap}{n z:Nat}{Z L:LV}(hz:0<z)(hL:L.length=z)(h:T.get H n=some (.arr z 1 (T.set (T.set .e 0 Z) 0 L))):El G H (.sl n 0 1 1 z) z [L]:=by
 refine⟨rfl,?_⟩
 show(Bool.rec (motive:=λ_=>Option DZ) none (CZ (yx H n (0*z) z) λL=>CZ (some []) λLS=>some (L::LS)) (Nat.beq z z):Option DZ)=_
 have hl:yx H n (0*z) z=some L:=by
  unfold yx;rw[h]
  exact AUq hz (by omega) (by rw[T.BP]) hL
 rw[hl,show Nat.beq z z=true by simp]
 rfl
end Go.RL
namespace Go.RL
open Go.DW
set_option maxRecDepth 100000
structure PF where
 f:Dh
 own:St
structure PM where
 m:Es
 own:St
def PF.cells(p:PF):LV:=[p.f.nm.v,p.f.ty.nm.v,.bool p.f.ty.arr,p.own.v]
def PM.cells(p:PM)(w:V):LV:=[p.m.nm.v,.bool p.m.st,w,p.m.ret.nm.v,.bool p.m.ret.arr,p.own.v]
structure Pool where
 nums:List Int
 names:List St
 types:List Ty
 fields:List PF
 AJR:List PM
structure AOh(G:AX)(H:Heap)(n:Nat)(p:Pool)(v0 v1 v2 v3 v4:V)(ws:List V):Prop where
 e0:El G H v0 1 (p.nums.map λa=>[.int .i64 a 0])
 l0:Lo v0 n
 b0:p.nums.length<big
 e1:El G H v1 1 (strs p.names)
 l1:Lo v1 n
 b1:p.names.length<big
 o1:∀s∈p.names,s.ok
 t2:YT G H n v2 p.types
 e3:El G H v3 4 (p.fields.map PF.cells)
 l3:Lo v3 n
 b3:p.fields.length<big
 o3:∀f∈p.fields,f.f.nm.ok/\f.f.ty.nm.ok/\f.own.ok
 e4:El G H v4 6 (List.zipWith PM.cells p.AJR ws)
 l4:Lo v4 n
 b4:p.AJR.length<big
 AbY:ws.length=p.AJR.length
 at4:∀(i:Nat) (m:PM) (w:V),p.AJR[i]? =some m->ws[i]? =some w->YT G H n w m.m.ps
 o4:∀m∈p.AJR,m.m.nm.ok/\m.m.ret.nm.ok/\m.own.ok
end Go.RL
namespace Go.RL
open Go.DW
set_option maxRecDepth 100000
end Go.RL
namespace Go.RL
open Go.DW
set_option maxRecDepth 100000
theorem AZL(q:IntKind)(a b:Int):B2.ev .lss (.int q a 0) (.int q b 0)=some (.bool (decide (a<b))):=by
 show CG (band (keq q q) true) (mkB (ilt a b))=_
 rw[bT,cu,show band (keq q q) true=true by simp[VE]];rfl
structure Ins where
 code:Int
 arg:Int
def Ins.cells(i:Ins):LV:=[.int .i64 i.code 0,.int .i64 i.arg 0]
structure Bd where
 locals:Int
 stack:Int
 code:List Ins
structure Fl where
 face:Fc
 pool:Pool
 bodies:List Bd
def Bd.cells(b:Bd)(w:V):LV:=[.int .i64 b.locals 0,.int .i64 b.stack 0,w]
structure AQa(G:AX)(H:Heap)(n:Nat)(v:V)(is:List Ins):Prop where
 el:El G H v 2 (is.map Ins.cells)
 lo:Lo v n
 lt:is.length<big
structure AQ1(G:AX)(H:Heap)(n:Nat)(v:V)(bs:List Bd)(ws:List V):Prop where
 el:El G H v 3 (List.zipWith Bd.cells bs ws)
 lo:Lo v n
 lt:bs.length<big
 len:ws.length=bs.length
 at':∀(i:Nat) (b:Bd) (w:V),bs[i]? =some b->ws[i]? =some w->AQa G H n w b.code
def least(m:Es):Nat:=bif m.st then m.ps.length else m.ps.length+1
structure AVt(G:AX)(H:Heap)(n:Nat)(L:LV)(f:Fl)(vf vm v0 v1 v2 v3 v4 vb:V)(mws ws bws:List V):Prop where
 is:L=[f.face.nm.v,f.face.sup.v,vf,vm,v0,v1,v2,v3,v4,vb]
 face:AAA G H n [f.face.nm.v,f.face.sup.v,vf,vm] f.face vf vm mws
 pool:AOh G H n f.pool v0 v1 v2 v3 v4 ws
 bodies:AQ1 G H n vb f.bodies bws
end Go.RL
