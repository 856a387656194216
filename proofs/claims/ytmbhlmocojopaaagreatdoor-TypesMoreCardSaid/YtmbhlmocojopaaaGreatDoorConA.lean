/- Part of a proof; nothing is assumed. -/
import Derived.Test.YtmbhlmocojopaaaGreatDoorPlainR
import Derived.Test.YtmbhlmocojopaaaGreatDoorWalk
set_option linter.unusedVariables false
set_option linter.unusedSimpArgs false
namespace Go.RL
open Go.DW
set_option maxRecDepth 100000
theorem ADy(b:Bool)(x y:V):CQ (.bool b) x y=some (bif b then x else y):=by cases b<;>rfl
theorem F9(b:Bool):Qm (.bool b)=some (.bool (!b)):=AYA b
def upper(l c:Nat):Bool:=decide (0<l)&&(decide (65<=c%256)&&decide (c%256<=90))
def isClass(l c:Nat)(arr:Bool):Bool:= !arr&&upper l c
theorem iO{G:AX}{l c:Nat}{H:Heap}{n:Nat}{k:KV}(hk:∀H' n',Kp H n H' n'->k (.agg [.str l c,.bool false]) H' n'):Runs F G Ey [.str l c] H n k:=by
 refine BI (s:=mO (ABg lfp G)) ACG (by obtain⟨h,o⟩:=ANi BH G;rw[ACG]at h;cases h;exact o) ?_
 show ABg lfp G (Runs F G) (.str l c) H n k
 delta ABg
 simp only[go_sem,Nat.reduceAdd,show Du [.str 0 0,.bool false] [(0,1,.c (.str l c))]=some (.agg [.str l c,.bool false])from rfl]
 exact hk _ _ (((Kp.refl H n).new (m:=n+1) _ (Nat.le_refl _) (by omega)).new _ (Nat.le_refl _) (Nat.le_refl _))
theorem AXM(a b l c:Nat):EL (.one .str) true (.str a b) (.str l c)=some (.bool (!decide (a=l/\b=c))):=by
 show ofB (Vg (some (band (Nat.beq a l) (Nat.beq b c))) λb=>some (TL b))=_
 have:band (Nat.beq a l) (Nat.beq b c)=decide (a=l/\b=c):=by rw[Bg,Bool.eq_iff_iff];simp
 rw[this];cases decide (a=l/\b=c)<;>rfl
theorem AW8{l c:Nat}(h:0<l):AQU (.str l c) (.int .i64 (.ofNat 0) 0)=some (.int .u8 (.ofNat (c%256)) 0):=by
 show CB (Nat.blt 0 l) (Es (APa c 0) λb=>some (.int .u8 (.ofNat b) 0))=_
 have:Nat.blt 0 l=true:=by rw[Nat.blt_eq];exact h
 rw[this,DK]
 show some (V.int .u8 (.ofNat (c/1%256)) 0)=_
 rw[Nat.div_one]
theorem AX8(q:IntKind)(a b:Nat):B2.ev .geq (.int q (.ofNat a) 0) (.int q (.ofNat b) 0)=some (.bool (decide (b<=a))):=by
 show CB (band (keq q q) true) (mkB (ile (.ofNat b) (.ofNat a)))=_
 rw[bT,AHW,show band (keq q q) true=true by simp[VE],show decide (Int.ofNat b<=Int.ofNat a)=decide (b<=a)by rw[decide_eq_decide];show(b:Int)<=a↔_;omega];rfl
theorem APP(q:IntKind)(a b:Nat):B2.ev .leq (.int q (.ofNat a) 0) (.int q (.ofNat b) 0)=some (.bool (decide (a<=b))):=by
 show CB (band (keq q q) true) (mkB (ile (.ofNat a) (.ofNat b)))=_
 rw[bT,AHW,show band (keq q q) true=true by simp[VE],show decide (Int.ofNat a<=Int.ofNat b)=decide (a<=b)by rw[decide_eq_decide];show(a:Int)<=b↔_;omega];rfl
theorem AHm{G:AX}{l c:Nat}{arr:Bool}(hl:l=0->c=0){H:Heap}{n:Nat}{k:KV}(hk:∀H' n',Kp H n H' n'->k (.bool (isClass l c arr)) H' n'):Runs F G Gz [.agg [.str l c,.bool arr]] H n k:=by
 refine BI (s:=mO (UZ lfp G)) Xf (by obtain⟨h,o⟩:=ABe BH G;rw[Xf]at h;cases h;exact o) ?_
 show UZ lfp G (Runs F G) (.agg [.str l c,.bool arr]) H n k
 delta UZ
 simp only[go_sem,Nat.reduceAdd,F9]
 cases arr with
 |true=>
  simp only[go_sem,Nat.reduceAdd,Bool.not_true]
  exact hk _ _ ((Kp.refl H n).new _ (Nat.le_refl _) (by omega))
 |false=>
  simp only[go_sem,Nat.reduceAdd,Bool.not_false,AXM]
  by_cases h0:l=0/\c=0
  ·simp only[h0,and_self,decide_true,Bool.not_true,go_sem]
   have:isClass l c false=false:=by simp[isClass,upper,h0]
   rw[this]at hk
   exact hk _ _ ((Kp.refl H n).new _ (Nat.le_refl _) (by omega))
  ·have hl0:0<l:=by rcases Nat.eq_zero_or_pos l with h|h;exact absurd ⟨h,hl h⟩ h0;exact h
   simp only[h0,decide_false,Bool.not_false,go_sem,AW8 hl0,AX8,APP]
   have e:isClass l c false=(decide (65<=c%256)&&decide (c%256<=90)):=by simp[isClass,upper,hl0]
   rw[e]at hk
   cases h1:decide (65<=c%256)with
   |false=>
    simp only[go_sem]
    rw[h1]at hk
    exact hk _ _ ((Kp.refl H n).new _ (Nat.le_refl _) (by omega))
   |true=>
    simp only[go_sem,AW8 hl0,APP]
    rw[h1]at hk
    exact hk _ _ ((Kp.refl H n).new _ (Nat.le_refl _) (by omega))
theorem AX2(l c:Nat):uP (.str l c)=some (.int .i64 (.ofNat l) 0):=rfl
def AGu(l c:Nat):Bool:=decide (l=3/\c=7630441)||(decide (l=4/\c=1819242338)||(upper l c&&decide (l<=40)))
theorem AVC{G:AX}{l c:Nat}{arr:Bool}(hl:l=0->c=0){H:Heap}{n:Nat}{k:KV}(hk:∀H' n',Kp H n H' n'->k (.bool (AGu l c)) H' n'):Runs F G ADM [.agg [.str l c,.bool arr]] H n k:=by
 refine BI (s:=mO (fV lfp G)) mX (by obtain⟨h,o⟩:=AHS BH G;rw[mX]at h;cases h;exact o) ?_
 show fV lfp G (Runs F G) (.agg [.str l c,.bool arr]) H n k
 delta fV
 unfold AGu at hk
 have f1:Kp H n (T.set H n (one [.str l c,.bool arr])) (n+1):=(Kp.refl H n).new _ (Nat.le_refl _) (by omega)
 simp only[go_sem,AB9]
 cases h1:decide (l=3/\c=7630441)with
 |true=>
  simp only[go_sem]
  rw[h1]at hk
  exact hk _ _ f1
 |false=>
  rw[h1]at hk
  simp only[go_sem,AB9]
  cases h2:decide (l=4/\c=1819242338)with
  |true=>
   simp only[go_sem]
   rw[h2]at hk
   exact hk _ _ f1
  |false=>
   rw[h2]at hk
   simp only[go_sem]
   refine iO λH1 n1 f2=>?_
   refine AHm hl λH2 n2 f3=>?_
   have f4:=f1.trans (f2.trans f3)
   have e:isClass l c false=upper l c:=by simp[isClass]
   rw[e]
   cases h3:upper l c with
   |false=>
    simp only[go_sem]
    rw[h3]at hk
    exact hk _ _ f4
   |true=>
    rw[h3]at hk
    have hg:T.get H2 n=some (one [.str l c,.bool arr]):=by rw[f3.same n (by have:=f2.le;omega),f2.same n (by omega),T.BP]
    simp only[go_sem,AV (off:=0) hg (v:=.str l c) rfl,AX2,APP]
    exact hk _ _ f4
abbrev St:=Nat×Nat
def St.v(s:St):V:=.str s.1 s.2
def strs(xs:List St):DZ:=xs.map λs=>[St.v s]
theorem lu(xs:List St):(strs xs).length=xs.length:=List.length_map ..
theorem AAv{xs:List St}{i:Nat}(h:i<xs.length):(strs xs)[i]? =some [St.v xs[i]]:=by simp[strs,h]
def AGM(s:St):List St->Nat->Int
 |[],_=>.negSucc 0
 |x::xs,i=>bif decide (s.1=x.1/\s.2=x.2)then .ofNat i else AGM s xs (i+1)
def AAE(s:St)(xs:List St):Bool:=xs.any λx=>decide (s.1=x.1/\s.2=x.2)
theorem AJh(s:St):∀(xs:List St) (i:Nat),decide ((0:Int)<=AGM s xs i)=AAE s xs
 |[],_=>rfl
 |x::xs,i=>by
  unfold AGM
  show _=(decide (s.1=x.1/\s.2=x.2)||AAE s xs)
  cases h:decide (s.1=x.1/\s.2=x.2)with
  |true=>simp
  |false=>simpa using AJh s xs (i+1)
theorem Nr{i m:Nat}:B2.ev .lss (.int .i64 (.ofNat i) 0) (.int .i64 (.ofNat m) 0)=some (.bool (decide (i<m))):=by
 rw[AXG];congr 2;rw[decide_eq_decide];show(i:Int)<m↔_;omega
theorem ASi{G:AX}{v:V}{xs:List St}{s:St}{H:Heap}{n:Nat}{k:KV}(h:El G H v 1 (strs xs))(hb:xs.length<9223372036854775808)(hk:k (.int .i64 (AGM s xs 0) 0) H n):
 Runs F G Q9 [v,s.v] H n k:=by
 refine BI (s:=OA (IU lfp G)) KJ (by obtain⟨h,o⟩:=ZT BH G;rw[KJ]at h;cases h;exact o) ?_
 show IU lfp G (Runs F G) v s.v H n k
 delta IU
 rw[h.len,AQ,lu]
 refine Qv (J:=λm st=>∃i,m=xs.length-i/\i<=xs.length/\st=(v,s.v,.int .i64 (.ofNat xs.length) 0,.int .i64 (.ofNat i) 0,H,n)/\k (.int .i64 (AGM s (xs.drop i) i) 0) H n) ?_ (m:=xs.length) ⟨0,rfl,Nat.zero_le _,rfl,hk⟩
 rintro I m st ⟨i,rfl,hi,rfl,hk⟩ ih
 show JZ lfp G (Runs F G) k I v s.v (.int .i64 (.ofNat xs.length) 0) (.int .i64 (.ofNat i) 0) H n
 delta JZ
 by_cases hlt:i<xs.length
 ·obtain⟨p,hp,hld⟩:=h.at (AAv hlt)
  rw[List.drop_eq_getElem_cons hlt]at hk
  unfold AGM at hk
  simp only[go_sem,Nr,hlt,decide_true,hp,nP hld,St.v,AB9]
  cases he:decide (s.1=xs[i].1/\s.2=xs[i].2)with
  |true=>simp only[go_sem];rw[he]at hk;exact hk
  |false=>
   simp only[go_sem,FI (show i+1<9223372036854775808 by omega)]
   rw[he]at hk
   exact ih _ _ (by omega) ⟨i+1,rfl,hlt,rfl,hk⟩
 ·simp only[go_sem,Nr,hlt,decide_false]
  delta Jd
  rw[List.drop_eq_nil_of_le (by omega)]at hk
  exact hk
theorem AX3(a:Int):B2.ev .geq (.int .i64 a 0) (.int .i64 (.ofNat 0) 0)=some (.bool (decide (0<=a))):=by
 show CB (band (keq .i64 .i64) true) (mkB (ile (.ofNat 0) a))=_
 rw[bT,AHW];rfl
theorem zJ{G:AX}{v:V}{xs:List St}{s:St}{H:Heap}{n:Nat}{k:KV}(h:El G H v 1 (strs xs))(hb:xs.length<9223372036854775808)(hk:k (.bool (AAE s xs)) H n):
 Runs F G Gn [v,s.v] H n k:=by
 refine BI (s:=OA (Gm lfp G)) JI (by obtain⟨h,o⟩:=XI BH G;rw[JI]at h;cases h;exact o) ?_
 show Gm lfp G (Runs F G) v s.v H n k
 delta Gm
 refine ASi h hb ?_
 simp only[go_sem,AX3,AJh]
 exact hk
structure Ty where
 nm:St
 arr:Bool
def Ty.cells(t:Ty):LV:=[t.nm.v,.bool t.arr]
def Ty.v(t:Ty):V:=.agg t.cells
def Ty.is(a b:Ty):Bool:=decide (a.nm.1=b.nm.1/\a.nm.2=b.nm.2)&&(a.arr==b.arr)
def tys(xs:List Ty):DZ:=xs.map Ty.cells
theorem ADx(xs:List Ty):(tys xs).length=xs.length:=List.length_map ..
theorem AHv{xs:List Ty}{i:Nat}(h:i<xs.length):(tys xs)[i]? =some xs[i].cells:=by simp[tys,h]
theorem APO(a b:St):CK.eq .str a.v b.v=some (decide (a.1=b.1/\a.2=b.2)):=by
 show some (band (Nat.beq a.1 b.1) (Nat.beq a.2 b.2))=_
 rw[show band (Nat.beq a.1 b.1) (Nat.beq a.2 b.2)=decide (a.1=b.1/\a.2=b.2)by rw[Bg,Bool.eq_iff_iff];simp]
theorem AO1(a b:Bool):CK.eq .bool (.bool a) (.bool b)=some (a==b):=by cases a<;>cases b<;>rfl
theorem AOy(a b:Ty):(EK.agg [.str,.bool]).eq a.v b.v=some (a.is b):=
 show zM CK.eq [.str,.bool] a.cells b.cells=_ from Uc.2 ⟨_,_,APO _ _,Uc.2 ⟨_,true,AO1 _ _,rfl,rfl⟩,by simp[Ty.is]⟩
theorem gV(a b:Ty):EL (.agg [.str,.bool]) false a.v b.v=some (.bool (a.is b)):=by
 show ofB (Vg ((EK.agg [.str,.bool]).eq a.v b.v) λb=>some b)=_
 rw[AOy];cases a.is b<;>rfl
theorem AX6(a b:Ty):EL (.agg [.str,.bool]) true a.v b.v=some (.bool (!a.is b)):=by
 show ofB (Vg ((EK.agg [.str,.bool]).eq a.v b.v) λb=>some (TL b))=_
 rw[AOy];cases a.is b<;>rfl
def tN:List Ty->List Ty->Bool
 |[],[]=>true
 |a::l,b::r=>a.is b&&tN l r
 |_,_=>false
theorem AGR:∀{l r:List Ty},tN l r=true->l.length=r.length
 |[],[],_=>rfl
 |a::l,b::r,h=>by simp[tN]at h;simp[AGR h.2]
 |[],_::_,h=>by cases h
 |_::_,[],h=>by cases h
theorem AaF{i m:Nat}:EL (.one .int) true (.int .i64 (.ofNat i) 0) (.int .i64 (.ofNat m) 0)=some (.bool (!decide (i=m))):=by
 rw[AT9,show(Int.ofNat i==Int.ofNat m)=decide (i=m)by rw[Bool.eq_iff_iff];simp;omega]
theorem AQo{G:AX}{v w:V}{xs ys:List Ty}{H:Heap}{n:Nat}{k:KV}(h:El G H v 2 (tys xs))(h2:El G H w 2 (tys ys))(hb:xs.length<9223372036854775808)(hk:k (.bool (tN xs ys)) H n):
 Runs F G OL [v,w] H n k:=by
 refine BI (s:=OA (GV lfp G)) I7 (by obtain⟨h,o⟩:=Wy BH G;rw[I7]at h;cases h;exact o) ?_
 show GV lfp G (Runs F G) v w H n k
 delta GV
 simp only[go_sem,h.len,h2.len,ADx,AaF]
 by_cases hl:xs.length=ys.length
 ·simp only[hl,decide_true,Bool.not_true,go_sem]
  refine Qv (J:=λm st=>∃i,m=ys.length-i/\i<=ys.length/\st=(v,w,.int .i64 (.ofNat ys.length) 0,.int .i64 (.ofNat i) 0,H,n)/\k (.bool (tN (xs.drop i) (ys.drop i))) H n) ?_ (m:=ys.length) ⟨0,rfl,Nat.zero_le _,rfl,hk⟩
  rintro I m st ⟨i,rfl,hi,rfl,hk⟩ ih
  show II lfp G (Runs F G) k I v w (.int .i64 (.ofNat ys.length) 0) (.int .i64 (.ofNat i) 0) H n
  delta II
  by_cases hlt:i<ys.length
  ·have hlt':i<xs.length:=by omega
   obtain⟨p,hp,hld⟩:=h.at (AHv hlt')
   obtain⟨p2,hp2,hld2⟩:=h2.at (AHv hlt)
   rw[List.drop_eq_getElem_cons hlt,List.drop_eq_getElem_cons hlt']at hk
   unfold tN at hk
   have e:=AX6 xs[i] ys[i]
   unfold Ty.v at e
   simp only[go_sem,Nr,hlt,decide_true,hp,hp2,Dy hld,Dy hld2,e]
   cases he:xs[i].is ys[i]with
   |false=>rw[he]at hk;simp only[Bool.not_false,go_sem];exact hk
   |true=>
    simp only[Bool.not_true,go_sem,FI (show i+1<9223372036854775808 by omega)]
    rw[he]at hk
    exact ih _ _ (by omega) ⟨i+1,rfl,hlt,rfl,hk⟩
  ·simp only[go_sem,Nr,hlt,decide_false]
   delta Hu
   rw[List.drop_eq_nil_of_le (by omega),List.drop_eq_nil_of_le (by omega)]at hk
   exact hk
 ·have:tN xs ys=false:=by cases h:tN xs ys;rfl;exact absurd (AGR h) hl
  rw[this]at hk
  simp only[hl,decide_false,Bool.not_false,go_sem]
  exact hk
def Lo(v:V)(n:Nat):Prop:=∀id,v.Ec=some id->id<n
theorem _root_.Go.DW.El.kp{G:AX}{H H':Heap}{v:V}{z n n':Nat}{LS:DZ}(h:El G H v z LS)(hl:Lo v n)(f:Kp H n H' n'):El G H' v z LS:=h.same λid hid=>f.same id (hl id hid)
theorem Lo.mono{v:V}{n n':Nat}(h:Lo v n)(hn:n<=n'):Lo v n':=λid hid=>Nat.lt_of_lt_of_le (h id hid) hn
def St.ok(s:St):Prop:=s.1=0->s.2=0
def AI8(s:St):Bool:=AGu s.1 s.2
abbrev big:Nat:=9223372036854775808
structure Dh where
 nm:St
 ty:Ty
def Dh.cells(f:Dh):LV:=[f.nm.v,f.ty.nm.v,.bool f.ty.arr]
structure Et where
 nm:St
 st:Bool
 ps:List Ty
 ret:Ty
def Et.cells(m:Et)(v:V):LV:=[m.nm.v,.bool m.st,v,m.ret.nm.v,.bool m.ret.arr]
structure YL(G:AX)(H:Heap)(n:Nat)(v:V)(xs:List Ty):Prop where
 el:El G H v 2 (tys xs)
 lo:Lo v n
 lt:xs.length<big
 ok:∀t∈xs,t.nm.ok
structure Xp(G:AX)(H:Heap)(n:Nat)(v:V)(fs:List Dh):Prop where
 el:El G H v 3 (fs.map Dh.cells)
 lo:Lo v n
 lt:fs.length<big
 ok:∀f∈fs,f.nm.ok/\f.ty.nm.ok
structure SI(G:AX)(H:Heap)(n:Nat)(v:V)(ms:List Et)(ws:List V):Prop where
 el:El G H v 5 (List.zipWith Et.cells ms ws)
 lo:Lo v n
 lt:ms.length<big
 len:ws.length=ms.length
 at':∀(i:Nat) (m:Et) (w:V),ms[i]? =some m->ws[i]? =some w->YL G H n w m.ps
 ok:∀m∈ms,m.nm.ok/\m.ret.nm.ok
section
variable{G:AX}{H H':Heap}{n n':Nat}{v:V}
theorem YL.kp{xs:List Ty}(h:YL G H n v xs)(f:Kp H n H' n'):YL G H' n' v xs:=⟨h.el.kp h.lo f,h.lo.mono f.le,h.lt,h.ok⟩
theorem Xp.kp{xs:List Dh}(h:Xp G H n v xs)(f:Kp H n H' n'):Xp G H' n' v xs:=⟨h.el.kp h.lo f,h.lo.mono f.le,h.lt,h.ok⟩
theorem SI.kp{xs:List Et}{ws:List V}(h:SI G H n v xs ws)(f:Kp H n H' n'):SI G H' n' v xs ws:=
 ⟨h.el.kp h.lo f,h.lo.mono f.le,h.lt,h.len,λi m w a b=>(h.at' i m w a b).kp f,h.ok⟩
theorem Xp.len{xs:List Dh}(h:Xp G H n v xs):lenV v=some (.int .i64 (.ofNat xs.length) 0):=by rw[h.el.len,List.length_map]
theorem YL.len{xs:List Ty}(h:YL G H n v xs):lenV v=some (.int .i64 (.ofNat xs.length) 0):=by rw[h.el.len,ADx]
theorem SI.len'{xs:List Et}{ws:List V}(h:SI G H n v xs ws):lenV v=some (.int .i64 (.ofNat xs.length) 0):=by
 rw[h.el.len,List.length_zipWith,h.len,Nat.min_self]
theorem Xp.at{xs:List Dh}(h:Xp G H n v xs){i:Nat}(hi:i<xs.length):∃p,BD 3 v (.int .i64 (.ofNat i) 0)=some p/\ldP p G H 3=some xs[i].cells:=
 h.el.at (by simp[hi])
theorem SI.at{xs:List Et}{ws:List V}(h:SI G H n v xs ws){i:Nat}(hi:i<xs.length):
 ∃p w,BD 5 v (.int .i64 (.ofNat i) 0)=some p/\ldP p G H 5=some (xs[i].cells w)/\YL G H n w xs[i].ps:=by
 have hw:i<ws.length:=by rw[h.len];exact hi
 obtain⟨p,h1,h2⟩:=h.el.at (i:=i) (c:=xs[i].cells ws[i]) (by rw[List.getElem?_zipWith];simp[hi,hw])
 exact⟨p,ws[i],h1,h2,h.at' i _ _ (List.getElem?_eq_getElem hi) (List.getElem?_eq_getElem hw)⟩
end
theorem AX0(q:IntKind)(a b:Nat):B2.ev .gtr (.int q (.ofNat a) 0) (.int q (.ofNat b) 0)=some (.bool (decide (b<a))):=by
 show CB (band (keq q q) true) (mkB (ilt (.ofNat b) (.ofNat a)))=_
 rw[bT,dM,show band (keq q q) true=true by simp[VE],show decide (Int.ofNat b<Int.ofNat a)=decide (b<a)by rw[decide_eq_decide];show(b:Int)<a↔_;omega];rfl
theorem AX5(s:St):uP s.v=some (.int .i64 (.ofNat s.1) 0):=rfl
structure Fc where
 nm:St
 sup:St
 fs:List Dh
 ms:List Et
structure zy(G:AX)(H:Heap)(n:Nat)(L:LV)(c:Fc)(v w:V)(ws:List V):Prop where
 is:L=[c.nm.v,c.sup.v,v,w]
 fs:Xp G H n v c.fs
 ms:SI G H n w c.ms ws
 ok:c.nm.ok/\c.sup.ok
end Go.RL
namespace Go.RL
open Go.DW
set_option maxRecDepth 100000
theorem AVM{e c:Nat}{t:T LV}{i:Nat}{L:LV}(he:0<e)(hi:i<c)(ht:T.get t i=some L)(hL:L.length=e):ldB e c t (i*e) e=some L:=by
 unfold ldB
 have hdiv:i*e/e=i:=Nat.mul_div_cancel _ he
 have hmod:i*e%e=0:=Nat.mul_mod_left ..
 have hb:Nat.blt (Nat.div (i*e) e) c=true:=by rw[Nat.blt_eq];show i*e/e<c;omega
 rw[hb]
 show Ce (T.get t (Nat.div (i*e) e)) (ldC e (i*e) e)=_
 rw[show Nat.div (i*e) e=i from hdiv,ht,Sj]
 have h1:=ALV (H:=T.set .e 0 (one L)) (id:=0) (L:=L) (off:=0) (m:=e) (T.BP ..) he (by omega)
 unfold yw at h1
 rw[T.BP]at h1
 have h2:ldB L.length 1 (T.set .e 0 L) 0 e=some ((L.drop 0).take e):=h1
 unfold ldB at h2
 rw[show Nat.blt (Nat.div 0 L.length) 1=true by rw[Nat.blt_eq];show 0/L.length<1;simp]at h2
 have h3:Ce (T.get (T.set T.e 0 L) (Nat.div 0 L.length)) (ldC L.length 0 e)=some ((L.drop 0).take e):=h2
 rw[show Nat.div 0 L.length=0 from Nat.zero_div _,T.BP,Sj]at h3
 rw[List.drop_zero,List.take_of_length_le (by omega),hL]at h3
 have:ldC e (i*e) e L=ldC e 0 e L:=by
  unfold ldC
  rw[show Nat.mod (i*e) e=0 from hmod,show Nat.mod 0 e=0 from Nat.zero_mod _]
 rw[this];exact h3
theorem APe{z:Nat}{Z L:LV}{H:Heap}{n:Nat}{P:KV}(hL:L.length=z):
 Bh (Af z 1 Z [(0,.c (.agg L))] E0) H n P=P (.sl n 0 1 1 z) (T.set H n (.arr z 1 (T.set (T.set .e 0 Z) 0 L))) (n+1):=by
 subst hL
 show EO (band (band true (band true (Nat.beq (len L) L.length))) true) (FT n λn=>P (.sl n 0 1 1 L.length) (T.set H n (.arr L.length 1 (T.set (T.set .e 0 Z) 0 L))) (Nat.succ n))=_
 rw[len_eq,CS]
 have hb:band (band true (band true (Nat.beq L.length L.length))) true=true:=by simp
 rw[hb];rfl
theorem AHE{G:AX}{H:Heap}{n z:Nat}{Z L:LV}(hz:0<z)(hL:L.length=z)(h:T.get H n=some (.arr z 1 (T.set (T.set .e 0 Z) 0 L))):El G H (.sl n 0 1 1 z) z [L]:=by
 refine⟨rfl,?_⟩
 show(Bool.rec (motive:=λ_=>Option DZ) none (Ce (yw H n (0*z) z) λL=>Ce (some []) λLS=>some (L::LS)) (Nat.beq z z):Option DZ)=_
 have hl:yw H n (0*z) z=some L:=by
  unfold yw;rw[h]
  exact AVM hz (by omega) (by rw[T.BP]) hL
 rw[hl,show Nat.beq z z=true by simp]
 rfl
end Go.RL
namespace Go.RL
open Go.DW
set_option maxRecDepth 100000
structure PF where
 f:Dh
 own:St
structure PM where
 m:Et
 own:St
def PF.cells(p:PF):LV:=[p.f.nm.v,p.f.ty.nm.v,.bool p.f.ty.arr,p.own.v]
def PM.cells(p:PM)(w:V):LV:=[p.m.nm.v,.bool p.m.st,w,p.m.ret.nm.v,.bool p.m.ret.arr,p.own.v]
structure Pool where
 nums:List Int
 names:List St
 types:List Ty
 fields:List PF
 AIz:List PM
structure APw(G:AX)(H:Heap)(n:Nat)(p:Pool)(v0 v1 v2 v3 v4:V)(ws:List V):Prop where
 e0:El G H v0 1 (p.nums.map λa=>[.int .i64 a 0])
 l0:Lo v0 n
 b0:p.nums.length<big
 e1:El G H v1 1 (strs p.names)
 l1:Lo v1 n
 b1:p.names.length<big
 o1:∀s∈p.names,s.ok
 t2:YL G H n v2 p.types
 e3:El G H v3 4 (p.fields.map PF.cells)
 l3:Lo v3 n
 b3:p.fields.length<big
 o3:∀f∈p.fields,f.f.nm.ok/\f.f.ty.nm.ok/\f.own.ok
 e4:El G H v4 6 (List.zipWith PM.cells p.AIz ws)
 l4:Lo v4 n
 b4:p.AIz.length<big
 AbW:ws.length=p.AIz.length
 at4:∀(i:Nat) (m:PM) (w:V),p.AIz[i]? =some m->ws[i]? =some w->YL G H n w m.m.ps
 o4:∀m∈p.AIz,m.m.nm.ok/\m.m.ret.nm.ok/\m.own.ok
end Go.RL
namespace Go.RL
open Go.DW
set_option maxRecDepth 100000
end Go.RL
namespace Go.RL
open Go.DW
set_option maxRecDepth 100000
theorem AaG(q:IntKind)(a b:Int):B2.ev .lss (.int q a 0) (.int q b 0)=some (.bool (decide (a<b))):=by
 show CB (band (keq q q) true) (mkB (ilt a b))=_
 rw[bT,dM,show band (keq q q) true=true by simp[VE]];rfl
structure Ins where
 code:Int
 arg:Int
def Ins.cells(i:Ins):LV:=[.int .i64 i.code 0,.int .i64 i.arg 0]
structure Bd where
 locals:Int
 stack:Int
 code:List Ins
structure Fl where
 face:Fc
 pool:Pool
 bodies:List Bd
def Bd.cells(b:Bd)(w:V):LV:=[.int .i64 b.locals 0,.int .i64 b.stack 0,w]
structure APn(G:AX)(H:Heap)(n:Nat)(v:V)(is:List Ins):Prop where
 el:El G H v 2 (is.map Ins.cells)
 lo:Lo v n
 lt:is.length<big
structure AOW(G:AX)(H:Heap)(n:Nat)(v:V)(bs:List Bd)(ws:List V):Prop where
 el:El G H v 3 (List.zipWith Bd.cells bs ws)
 lo:Lo v n
 lt:bs.length<big
 len:ws.length=bs.length
 at':∀(i:Nat) (b:Bd) (w:V),bs[i]? =some b->ws[i]? =some w->APn G H n w b.code
def least(m:Et):Nat:=bif m.st then m.ps.length else m.ps.length+1
structure AVa(G:AX)(H:Heap)(n:Nat)(L:LV)(f:Fl)(vf vm v0 v1 v2 v3 v4 vb:V)(mws ws bws:List V):Prop where
 is:L=[f.face.nm.v,f.face.sup.v,vf,vm,v0,v1,v2,v3,v4,vb]
 face:zy G H n [f.face.nm.v,f.face.sup.v,vf,vm] f.face vf vm mws
 pool:APw G H n f.pool v0 v1 v2 v3 v4 ws
 bodies:AOW G H n vb f.bodies bws
end Go.RL
