/- Part of a proof; nothing is assumed. -/
import Derived.Test.YtibbhhkcjjeclaaDoorPlainR
import Derived.Test.YtibbhhkcjjeclaaDoorWalk
set_option linter.unusedVariables false
set_option linter.unusedSimpArgs false
noncomputable section
namespace Go.RL
open Go.Bh
set_option maxRecDepth 100000
theorem lS(b:Bool)(x y:V):BF (.bool b) x y=some (bif b then x else y):=by cases b<;>rfl
theorem Bo(b:Bool):F6 (.bool b)=some (.bool (!b)):=jW b
def upper(l c:Nat):Bool:=decide (0<l)&&(decide (65<=c%256)&&decide (c%256<=90))
def isClass(l c:Nat)(arr:Bool):Bool:= !arr&&upper l c
theorem uO{G:AX}{l c:Nat}{H:Heap}{n:Nat}{k:KV}(hk:∀H' n',Kp H n H' n'->k (.agg [.str l c,.bool false]) H' n'):Runs F G LG [.str l c] H n k:=by
 refine BN (s:=N9 (kX lfp G)) vY (by obtain⟨h,o⟩:=ACh BO G;rw[vY]at h;cases h;exact o) ?_
 show kX lfp G (Runs F G) (.str l c) H n k
 delta kX
 simp only[go_sem,Nat.reduceAdd,show Ap [.str 0 0,.bool false] [(0,1,.c (.str l c))]=some (.agg [.str l c,.bool false])from rfl]
 exact hk _ _ (((Kp.refl H n).new (m:=n+1) _ (Nat.le_refl _) (by omega)).new _ (Nat.le_refl _) (Nat.le_refl _))
theorem AMm(a b l c:Nat):CX (.one .str) true (.str a b) (.str l c)=some (.bool (!decide (a=l/\b=c))):=by
 show ofB (QW (some (band (Nat.beq a l) (Nat.beq b c))) λb=>some (Yk b))=_
 have:band (Nat.beq a l) (Nat.beq b c)=decide (a=l/\b=c):=by rw[BM,Bool.eq_iff_iff];simp
 rw[this];cases decide (a=l/\b=c)<;>rfl
theorem ASl{l c:Nat}(h:0<l):ALg (.str l c) (.int .i64 (.ofNat 0) 0)=some (.int .u8 (.ofNat (c%256)) 0):=by
 show BK (Nat.blt 0 l) (GU (AKS c 0) λb=>some (.int .u8 (.ofNat b) 0))=_
 have:Nat.blt 0 l=true:=by rw[Nat.blt_eq];exact h
 rw[this,EI]
 show some (V.int .u8 (.ofNat (c/1%256)) 0)=_
 rw[Nat.div_one]
theorem ATB(q:IntKind)(a b:Nat):B2.ev .geq (.int q (.ofNat a) 0) (.int q (.ofNat b) 0)=some (.bool (decide (b<=a))):=by
 show BK (band (keq q q) true) (mkB (ile (.ofNat b) (.ofNat a)))=_
 rw[Rw,pJ,show band (keq q q) true=true by simp[NQ],show decide (Int.ofNat b<=Int.ofNat a)=decide (b<=a)by rw[decide_eq_decide];show(b:Int)<=a↔_;omega];rfl
theorem AHh(q:IntKind)(a b:Nat):B2.ev .leq (.int q (.ofNat a) 0) (.int q (.ofNat b) 0)=some (.bool (decide (a<=b))):=by
 show BK (band (keq q q) true) (mkB (ile (.ofNat a) (.ofNat b)))=_
 rw[Rw,pJ,show band (keq q q) true=true by simp[NQ],show decide (Int.ofNat a<=Int.ofNat b)=decide (a<=b)by rw[decide_eq_decide];show(a:Int)<=b↔_;omega];rfl
theorem lu{G:AX}{l c:Nat}{arr:Bool}(hl:l=0->c=0){H:Heap}{n:Nat}{k:KV}(hk:∀H' n',Kp H n H' n'->k (.bool (isClass l c arr)) H' n'):Runs F G CY [.agg [.str l c,.bool arr]] H n k:=by
 refine BN (s:=N9 (Nh lfp G)) U8 (by obtain⟨h,o⟩:=Zi BO G;rw[U8]at h;cases h;exact o) ?_
 show Nh lfp G (Runs F G) (.agg [.str l c,.bool arr]) H n k
 delta Nh
 simp only[go_sem,Nat.reduceAdd,Bo]
 cases arr with
 |true=>
  simp only[go_sem,Nat.reduceAdd,Bool.not_true]
  exact hk _ _ ((Kp.refl H n).new _ (Nat.le_refl _) (by omega))
 |false=>
  simp only[go_sem,Nat.reduceAdd,Bool.not_false,AMm]
  by_cases h0:l=0/\c=0
  ·simp only[h0,and_self,decide_true,Bool.not_true,go_sem]
   have:isClass l c false=false:=by simp[isClass,upper,h0]
   rw[this]at hk
   exact hk _ _ ((Kp.refl H n).new _ (Nat.le_refl _) (by omega))
  ·have hl0:0<l:=by rcases Nat.eq_zero_or_pos l with h|h;exact absurd ⟨h,hl h⟩ h0;exact h
   simp only[h0,decide_false,Bool.not_false,go_sem,ASl hl0,ATB,AHh]
   have e:isClass l c false=(decide (65<=c%256)&&decide (c%256<=90)):=by simp[isClass,upper,hl0]
   rw[e]at hk
   cases h1:decide (65<=c%256)with
   |false=>
    simp only[go_sem]
    rw[h1]at hk
    exact hk _ _ ((Kp.refl H n).new _ (Nat.le_refl _) (by omega))
   |true=>
    simp only[go_sem,ASl hl0,AHh]
    rw[h1]at hk
    exact hk _ _ ((Kp.refl H n).new _ (Nat.le_refl _) (by omega))
theorem AOr(l c:Nat):lC (.str l c)=some (.int .i64 (.ofNat l) 0):=rfl
def rH(l c:Nat):Bool:=decide (l=3/\c=7630441)||(decide (l=4/\c=1819242338)||(upper l c&&decide (l<=40)))
theorem vH{G:AX}{l c:Nat}{arr:Bool}(hl:l=0->c=0){H:Heap}{n:Nat}{k:KV}(hk:∀H' n',Kp H n H' n'->k (.bool (rH l c)) H' n'):Runs F G QY [.agg [.str l c,.bool arr]] H n k:=by
 refine BN (s:=N9 (WV lfp G)) fV (by obtain⟨h,o⟩:=tH BO G;rw[fV]at h;cases h;exact o) ?_
 show WV lfp G (Runs F G) (.agg [.str l c,.bool arr]) H n k
 delta WV
 unfold rH at hk
 have f1:Kp H n (T.set H n (one [.str l c,.bool arr])) (n+1):=(Kp.refl H n).new _ (Nat.le_refl _) (by omega)
 simp only[go_sem,zX]
 cases h1:decide (l=3/\c=7630441)with
 |true=>
  simp only[go_sem]
  rw[h1]at hk
  exact hk _ _ f1
 |false=>
  rw[h1]at hk
  simp only[go_sem,zX]
  cases h2:decide (l=4/\c=1819242338)with
  |true=>
   simp only[go_sem]
   rw[h2]at hk
   exact hk _ _ f1
  |false=>
   rw[h2]at hk
   simp only[go_sem]
   refine uO λH1 n1 f2=>?_
   refine lu hl λH2 n2 f3=>?_
   have f4:=f1.trans (f2.trans f3)
   have e:isClass l c false=upper l c:=by simp[isClass]
   rw[e]
   cases h3:upper l c with
   |false=>
    simp only[go_sem]
    rw[h3]at hk
    exact hk _ _ f4
   |true=>
    rw[h3]at hk
    have hg:T.get H2 n=some (one [.str l c,.bool arr]):=by rw[f3.same n (by have:=f2.le;omega),f2.same n (by omega),T.Ah]
    simp only[go_sem,AU (off:=0) hg (v:=.str l c) rfl,AOr,AHh]
    exact hk _ _ f4
theorem ADL{G:AX}{l c:Nat}(hl:l=0->c=0){H:Heap}{n:Nat}{k:KV}(hk:∀H' n',Kp H n H' n'->k (.bool (upper l c&&decide (l<=40))) H' n'):Runs F G Vt [.str l c] H n k:=by
 refine BN (s:=N9 (TD lfp G)) YD (by obtain⟨h,o⟩:=jQ BO G;rw[YD]at h;cases h;exact o) ?_
 show TD lfp G (Runs F G) (.str l c) H n k
 delta TD
 refine uO λH1 n1 f2=>?_
 refine lu hl λH2 n2 f3=>?_
 have e:isClass l c false=upper l c:=by simp[isClass]
 rw[e]
 cases h3:upper l c<;>simp only[go_sem,AOr,AHh]<;>rw[h3]at hk<;>exact hk _ _ (f2.trans f3)
abbrev St:=Nat×Nat
def St.v(s:St):V:=.str s.1 s.2
def strs(xs:List St):ER:=xs.map λs=>[St.v s]
theorem Gz(xs:List St):(strs xs).length=xs.length:=List.length_map ..
theorem QB{xs:List St}{i:Nat}(h:i<xs.length):(strs xs)[i]? =some [St.v xs[i]]:=by simp[strs,h]
def ACC(s:St):List St->Nat->Int
 |[],_=>.negSucc 0
 |x::xs,i=>bif decide (s.1=x.1/\s.2=x.2)then .ofNat i else ACC s xs (i+1)
def fC(s:St)(xs:List St):Bool:=xs.any λx=>decide (s.1=x.1/\s.2=x.2)
theorem AEu(s:St):∀(xs:List St) (i:Nat),decide ((0:Int)<=ACC s xs i)=fC s xs
 |[],_=>rfl
 |x::xs,i=>by
  unfold ACC
  show _=(decide (s.1=x.1/\s.2=x.2)||fC s xs)
  cases h:decide (s.1=x.1/\s.2=x.2)with
  |true=>simp
  |false=>simpa using AEu s xs (i+1)
theorem Cc{i m:Nat}:B2.ev .lss (.int .i64 (.ofNat i) 0) (.int .i64 (.ofNat m) 0)=some (.bool (decide (i<m))):=by
 rw[ALV];congr 2;rw[decide_eq_decide];show(i:Int)<m↔_;omega
theorem AMi{G:AX}{v:V}{xs:List St}{s:St}{H:Heap}{n:Nat}{k:KV}(h:El G H v 1 (strs xs))(hb:xs.length<9223372036854775808)(hk:k (.int .i64 (ACC s xs 0) 0) H n):
 Runs F G PE [v,s.v] H n k:=by
 refine BN (s:=SC (EM lfp G)) JG (by obtain⟨h,o⟩:=OB BO G;rw[JG]at h;cases h;exact o) ?_
 show EM lfp G (Runs F G) v s.v H n k
 delta EM
 rw[h.len,AB,Gz]
 refine JD (J:=λm st=>∃i,m=xs.length-i/\i<=xs.length/\st=(v,s.v,.int .i64 (.ofNat xs.length) 0,.int .i64 (.ofNat i) 0,H,n)/\k (.int .i64 (ACC s (xs.drop i) i) 0) H n) ?_ (m:=xs.length) ⟨0,rfl,Nat.zero_le _,rfl,hk⟩
 rintro I m st ⟨i,rfl,hi,rfl,hk⟩ ih
 show IE lfp G (Runs F G) k I v s.v (.int .i64 (.ofNat xs.length) 0) (.int .i64 (.ofNat i) 0) H n
 delta IE
 by_cases hlt:i<xs.length
 ·obtain⟨p,hp,hld⟩:=h.at (QB hlt)
  rw[List.drop_eq_getElem_cons hlt]at hk
  unfold ACC at hk
  simp only[go_sem,Cc,hlt,decide_true,hp,L6 hld,St.v,zX]
  cases he:decide (s.1=xs[i].1/\s.2=xs[i].2)with
  |true=>simp only[go_sem];rw[he]at hk;exact hk
  |false=>
   simp only[go_sem,D7 (show i+1<9223372036854775808 by omega)]
   rw[he]at hk
   exact ih _ _ (by omega) ⟨i+1,rfl,hlt,rfl,hk⟩
 ·simp only[go_sem,Cc,hlt,decide_false]
  delta IB
  rw[List.drop_eq_nil_of_le (by omega)]at hk
  exact hk
theorem AHq(a:Int):B2.ev .geq (.int .i64 a 0) (.int .i64 (.ofNat 0) 0)=some (.bool (decide (0<=a))):=by
 show BK (band (keq .i64 .i64) true) (mkB (ile (.ofNat 0) a))=_
 rw[Rw,pJ];rfl
theorem ou{G:AX}{v:V}{xs:List St}{s:St}{H:Heap}{n:Nat}{k:KV}(h:El G H v 1 (strs xs))(hb:xs.length<9223372036854775808)(hk:k (.bool (fC s xs)) H n):
 Runs F G Ep [v,s.v] H n k:=by
 refine BN (s:=SC (Dv lfp G)) G7 (by obtain⟨h,o⟩:=LM BO G;rw[G7]at h;cases h;exact o) ?_
 show Dv lfp G (Runs F G) v s.v H n k
 delta Dv
 refine AMi h hb ?_
 simp only[go_sem,AHq,AEu]
 exact hk
structure Ty where
 nm:St
 arr:Bool
def Ty.cells(t:Ty):LV:=[t.nm.v,.bool t.arr]
def Ty.v(t:Ty):V:=.agg t.cells
def Ty.is(a b:Ty):Bool:=decide (a.nm.1=b.nm.1/\a.nm.2=b.nm.2)&&(a.arr==b.arr)
def tys(xs:List Ty):ER:=xs.map Ty.cells
theorem GN(xs:List Ty):(tys xs).length=xs.length:=List.length_map ..
theorem XF{xs:List Ty}{i:Nat}(h:i<xs.length):(tys xs)[i]? =some xs[i].cells:=by simp[tys,h]
theorem ASL(a b:St):CK.eq .str a.v b.v=some (decide (a.1=b.1/\a.2=b.2)):=by
 show some (band (Nat.beq a.1 b.1) (Nat.beq a.2 b.2))=_
 rw[show band (Nat.beq a.1 b.1) (Nat.beq a.2 b.2)=decide (a.1=b.1/\a.2=b.2)by rw[BM,Bool.eq_iff_iff];simp]
theorem ASZ(a b:Bool):CK.eq .bool (.bool a) (.bool b)=some (a==b):=by cases a<;>cases b<;>rfl
theorem AK7(a b:Ty):(EK.agg [.str,.bool]).eq a.v b.v=some (a.is b):=
 show ABK [.str,.bool] a.cells b.cells=_ from X6.2 ⟨_,_,ASL _ _,X6.2 ⟨_,true,ASZ _ _,rfl,rfl⟩,by simp[Ty.is]⟩
theorem oM(a b:Ty):CX (.agg [.str,.bool]) false a.v b.v=some (.bool (a.is b)):=by
 show ofB (QW ((EK.agg [.str,.bool]).eq a.v b.v) λb=>some b)=_
 rw[AK7];cases a.is b<;>rfl
theorem AEd(a b:Ty):CX (.agg [.str,.bool]) true a.v b.v=some (.bool (!a.is b)):=by
 show ofB (QW ((EK.agg [.str,.bool]).eq a.v b.v) λb=>some (Yk b))=_
 rw[AK7];cases a.is b<;>rfl
def bJ:List Ty->List Ty->Bool
 |[],[]=>true
 |a::l,b::r=>a.is b&&bJ l r
 |_,_=>false
theorem AC4:∀{l r:List Ty},bJ l r=true->l.length=r.length
 |[],[],_=>rfl
 |a::l,b::r,h=>by simp[bJ]at h;simp[AC4 h.2]
 |[],_::_,h=>by cases h
 |_::_,[],h=>by cases h
theorem ASj{i m:Nat}:CX (.one .int) true (.int .i64 (.ofNat i) 0) (.int .i64 (.ofNat m) 0)=some (.bool (!decide (i=m))):=by
 rw[ALH,show(Int.ofNat i==Int.ofNat m)=decide (i=m)by rw[Bool.eq_iff_iff];simp;omega]
theorem ALK{G:AX}{v w:V}{xs ys:List Ty}{H:Heap}{n:Nat}{k:KV}(h:El G H v 2 (tys xs))(h2:El G H w 2 (tys ys))(hb:xs.length<9223372036854775808)(hk:k (.bool (bJ xs ys)) H n):
 Runs F G LX [v,w] H n k:=by
 refine BN (s:=SC (Df lfp G)) Gl (by obtain⟨h,o⟩:=KT BO G;rw[Gl]at h;cases h;exact o) ?_
 show Df lfp G (Runs F G) v w H n k
 delta Df
 simp only[go_sem,h.len,h2.len,GN,ASj]
 by_cases hl:xs.length=ys.length
 ·simp only[hl,decide_true,Bool.not_true,go_sem]
  refine JD (J:=λm st=>∃i,m=ys.length-i/\i<=ys.length/\st=(v,w,.int .i64 (.ofNat ys.length) 0,.int .i64 (.ofNat i) 0,H,n)/\k (.bool (bJ (xs.drop i) (ys.drop i))) H n) ?_ (m:=ys.length) ⟨0,rfl,Nat.zero_le _,rfl,hk⟩
  rintro I m st ⟨i,rfl,hi,rfl,hk⟩ ih
  show F5 lfp G (Runs F G) k I v w (.int .i64 (.ofNat ys.length) 0) (.int .i64 (.ofNat i) 0) H n
  delta F5
  by_cases hlt:i<ys.length
  ·have hlt':i<xs.length:=by omega
   obtain⟨p,hp,hld⟩:=h.at (XF hlt')
   obtain⟨p2,hp2,hld2⟩:=h2.at (XF hlt)
   rw[List.drop_eq_getElem_cons hlt,List.drop_eq_getElem_cons hlt']at hk
   unfold bJ at hk
   have e:=AEd xs[i] ys[i]
   unfold Ty.v at e
   simp only[go_sem,Cc,hlt,decide_true,hp,hp2,DI hld,DI hld2,e]
   cases he:xs[i].is ys[i]with
   |false=>rw[he]at hk;simp only[Bool.not_false,go_sem];exact hk
   |true=>
    simp only[Bool.not_true,go_sem,D7 (show i+1<9223372036854775808 by omega)]
    rw[he]at hk
    exact ih _ _ (by omega) ⟨i+1,rfl,hlt,rfl,hk⟩
  ·simp only[go_sem,Cc,hlt,decide_false]
   delta GH
   rw[List.drop_eq_nil_of_le (by omega),List.drop_eq_nil_of_le (by omega)]at hk
   exact hk
 ·have:bJ xs ys=false:=by cases h:bJ xs ys;rfl;exact absurd (AC4 h) hl
  rw[this]at hk
  simp only[hl,decide_false,Bool.not_false,go_sem]
  exact hk
def Lo(v:V)(n:Nat):Prop:=∀id,v.XZ=some id->id<n
theorem _root_.Go.Bh.El.kp{G:AX}{H H':Heap}{v:V}{z n n':Nat}{LS:ER}(h:El G H v z LS)(hl:Lo v n)(f:Kp H n H' n'):El G H' v z LS:=h.same λid hid=>f.same id (hl id hid)
theorem Lo.mono{v:V}{n n':Nat}(h:Lo v n)(hn:n<=n'):Lo v n':=λid hid=>Nat.lt_of_lt_of_le (h id hid) hn
def findF(g:Ty->Bool):List Ty->Nat->Int
 |[],_=>.negSucc 0
 |x::xs,i=>bif g x then .ofNat i else findF g xs (i+1)
theorem AEz(g:Ty->Bool):∀(xs:List Ty) (i:Nat),decide ((0:Int)<=findF g xs i)=xs.any g
 |[],_=>rfl
 |x::xs,i=>by
  unfold findF
  show _=(g x||xs.any g)
  cases h:g x with
  |true=>simp
  |false=>simpa using AEz g xs (i+1)
theorem AFM{G:AX}{v:V}{xs:List Ty}{p:Nat}{g:Ty->Bool}{H:Heap}{n:Nat}{k:KV}(h:El G H v 2 (tys xs))(hlo:Lo v n)(hb:xs.length<9223372036854775808)
 (hg:∀t∈xs,∀{H n} {k:KV},(∀H' n',Kp H n H' n'->k (.bool (g t)) H' n')->Runs F G p [t.v] H n k)
 (hk:∀H' n',Kp H n H' n'->k (.int .i64 (findF g xs 0) 0) H' n'):
 Runs F G JY [v,.fn p [] []] H n k:=by
 refine BN (s:=SC (Cb lfp G)) FD (by obtain⟨h,o⟩:=JQ BO G;rw[FD]at h;cases h;exact o) ?_
 show Cb lfp G (Runs F G) v (.fn p [] []) H n k
 delta Cb
 rw[h.len,AB,GN]
 refine JD (J:=λm st=>∃i H2 n2,m=xs.length-i/\i<=xs.length/\st=(v,.fn p [] [],.int .i64 (.ofNat xs.length) 0,.int .i64 (.ofNat i) 0,H2,n2)/\Kp H n H2 n2/\(∀H' n',Kp H n H' n'->k (.int .i64 (findF g (xs.drop i) i) 0) H' n')) ?_ (m:=xs.length) ⟨0,H,n,rfl,Nat.zero_le _,rfl,Kp.refl _ _,hk⟩
 rintro I m st ⟨i,H2,n2,rfl,hi,rfl,f,hk⟩ ih
 show Eo lfp G (Runs F G) k I v (.fn p [] []) (.int .i64 (.ofNat xs.length) 0) (.int .i64 (.ofNat i) 0) H2 n2
 delta Eo
 by_cases hlt:i<xs.length
 ·obtain⟨q,hp,hld⟩:=(h.kp hlo f).at (XF hlt)
  rw[List.drop_eq_getElem_cons hlt]at hk
  unfold findF at hk
  simp only[go_sem,Cc,hlt,decide_true,hp,DI hld]
  show Runs F G p [xs[i].v] H2 n2 _
  refine hg _ (List.getElem_mem hlt) λH3 n3 f3=>?_
  cases he:g xs[i]with
  |true=>simp only[go_sem];rw[he]at hk;exact hk _ _ (f.trans f3)
  |false=>
   simp only[go_sem,D7 (show i+1<9223372036854775808 by omega)]
   rw[he]at hk
   exact ih _ _ (by omega) ⟨i+1,_,_,rfl,hlt,rfl,f.trans f3,hk⟩
 ·simp only[go_sem,Cc,hlt,decide_false]
  delta Ej
  rw[List.drop_eq_nil_of_le (by omega)]at hk
  exact hk _ _ f
theorem zU{G:AX}{v:V}{xs:List Ty}{p:Nat}{g:Ty->Bool}{H:Heap}{n:Nat}{k:KV}(h:El G H v 2 (tys xs))(hlo:Lo v n)(hb:xs.length<9223372036854775808)
 (hg:∀t∈xs,∀{H n} {k:KV},(∀H' n',Kp H n H' n'->k (.bool (g t)) H' n')->Runs F G p [t.v] H n k)
 (hk:∀H' n',Kp H n H' n'->k (.bool (xs.any g)) H' n'):
 Runs F G Em [v,.fn p [] []] H n k:=by
 refine BN (s:=SC (CP lfp G)) EZ (by obtain⟨h,o⟩:=Ic BO G;rw[EZ]at h;cases h;exact o) ?_
 show CP lfp G (Runs F G) v (.fn p [] []) H n k
 delta CP
 refine AFM h hlo hb hg λH' n' f=>?_
 simp only[go_sem,AHq,AEz]
 exact hk _ _ f
def St.ok(s:St):Prop:=s.1=0->s.2=0
def Si(s:St):Bool:=rH s.1 s.2
theorem ADZ{G:AX}{t:Ty}(ht:t.nm.ok){H:Heap}{n:Nat}{k:KV}(hk:∀H' n',Kp H n H' n'->k (.bool (!Si t.nm)) H' n'):Runs F G Ry [t.v] H n k:=by
 refine BN (s:=N9 (Jh lfp G)) Qk (by obtain⟨h,o⟩:=WS BO G;rw[Qk]at h;cases h;exact o) ?_
 show Jh lfp G (Runs F G) t.v H n k
 delta Jh
 simp only[Ty.v,Ty.cells,St.v,go_sem]
 refine vH ht λH1 n1 f=>?_
 simp only[Bo,go_sem]
 exact hk _ _ (((Kp.refl H n).new (m:=n+1) _ (Nat.le_refl _) (by omega)).trans f)
theorem AIr{G:AX}{v:V}{xs:List Ty}{H:Heap}{n:Nat}{k:KV}(h:El G H v 2 (tys xs))(hlo:Lo v n)(hb:xs.length<9223372036854775808)(ho:∀t∈xs,t.nm.ok)
 (hk:∀H' n',Kp H n H' n'->k (.bool (xs.any λt=> !Si t.nm)) H' n'):Runs F G Em [v,.fn Ry [] []] H n k:=
 zU (p:=Ry) h hlo hb (λt ht {_ _ _} hk=>ADZ (ho t ht) hk) hk
abbrev big:Nat:=9223372036854775808
structure lg where
 nm:St
 ty:Ty
def lg.cells(f:lg):LV:=[f.nm.v,f.ty.nm.v,.bool f.ty.arr]
structure DW where
 nm:St
 st:Bool
 ps:List Ty
 ret:Ty
def DW.cells(m:DW)(v:V):LV:=[m.nm.v,.bool m.st,v,m.ret.nm.v,.bool m.ret.arr]
structure N7(G:AX)(H:Heap)(n:Nat)(v:V)(xs:List Ty):Prop where
 el:El G H v 2 (tys xs)
 lo:Lo v n
 lt:xs.length<big
 ok:∀t∈xs,t.nm.ok
structure Td(G:AX)(H:Heap)(n:Nat)(v:V)(fs:List lg):Prop where
 el:El G H v 3 (fs.map lg.cells)
 lo:Lo v n
 lt:fs.length<big
 ok:∀f∈fs,f.nm.ok/\f.ty.nm.ok
structure OE(G:AX)(H:Heap)(n:Nat)(v:V)(ms:List DW)(ws:List V):Prop where
 el:El G H v 5 (List.zipWith DW.cells ms ws)
 lo:Lo v n
 lt:ms.length<big
 len:ws.length=ms.length
 at':∀(i:Nat) (m:DW) (w:V),ms[i]? =some m->ws[i]? =some w->N7 G H n w m.ps
 ok:∀m∈ms,m.nm.ok/\m.ret.nm.ok
section
variable{G:AX}{H H':Heap}{n n':Nat}{v:V}
theorem N7.kp{xs:List Ty}(h:N7 G H n v xs)(f:Kp H n H' n'):N7 G H' n' v xs:=⟨h.el.kp h.lo f,h.lo.mono f.le,h.lt,h.ok⟩
theorem Td.kp{xs:List lg}(h:Td G H n v xs)(f:Kp H n H' n'):Td G H' n' v xs:=⟨h.el.kp h.lo f,h.lo.mono f.le,h.lt,h.ok⟩
theorem OE.kp{xs:List DW}{ws:List V}(h:OE G H n v xs ws)(f:Kp H n H' n'):OE G H' n' v xs ws:=
 ⟨h.el.kp h.lo f,h.lo.mono f.le,h.lt,h.len,λi m w a b=>(h.at' i m w a b).kp f,h.ok⟩
theorem Td.len{xs:List lg}(h:Td G H n v xs):lenV v=some (.int .i64 (.ofNat xs.length) 0):=by rw[h.el.len,List.length_map]
theorem N7.len{xs:List Ty}(h:N7 G H n v xs):lenV v=some (.int .i64 (.ofNat xs.length) 0):=by rw[h.el.len,GN]
theorem OE.len'{xs:List DW}{ws:List V}(h:OE G H n v xs ws):lenV v=some (.int .i64 (.ofNat xs.length) 0):=by
 rw[h.el.len,List.length_zipWith,h.len,Nat.min_self]
theorem Td.at{xs:List lg}(h:Td G H n v xs){i:Nat}(hi:i<xs.length):∃p,Ag 3 v (.int .i64 (.ofNat i) 0)=some p/\jA p G H 3=some xs[i].cells:=
 h.el.at (by simp[hi])
theorem OE.at{xs:List DW}{ws:List V}(h:OE G H n v xs ws){i:Nat}(hi:i<xs.length):
 ∃p w,Ag 5 v (.int .i64 (.ofNat i) 0)=some p/\jA p G H 5=some (xs[i].cells w)/\N7 G H n w xs[i].ps:=by
 have hw:i<ws.length:=by rw[h.len];exact hi
 obtain⟨p,h1,h2⟩:=h.el.at (i:=i) (c:=xs[i].cells ws[i]) (by rw[List.getElem?_zipWith];simp[hi,hw])
 exact⟨p,ws[i],h1,h2,h.at' i _ _ (List.getElem?_eq_getElem hi) (List.getElem?_eq_getElem hw)⟩
end
def leS(a b:St):Bool:=Yk (slt b.1 b.2 a.1 a.2)
theorem AO0(a b:St):B2.ev .leq a.v b.v=some (.bool (leS a b)):=by
 show mkB (Yk (slt b.1 b.2 a.1 a.2))=_
 rw[Rw];rfl
theorem Xi(q:IntKind)(a b:Nat):B2.ev .gtr (.int q (.ofNat a) 0) (.int q (.ofNat b) 0)=some (.bool (decide (b<a))):=by
 show BK (band (keq q q) true) (mkB (ilt (.ofNat b) (.ofNat a)))=_
 rw[Rw,Vp,show band (keq q q) true=true by simp[NQ],show decide (Int.ofNat b<Int.ofNat a)=decide (b<a)by rw[decide_eq_decide];show(b:Int)<a↔_;omega];rfl
theorem AAK(s:St):lC s.v=some (.int .i64 (.ofNat s.1) 0):=rfl
def pV:St->List lg->Bool
 |_,[]=>true
 |a,f::fs=> !(leS f.nm a)&&(!(decide (40<f.nm.1))&&(Si f.ty.nm&&pV f.nm fs))
def MR:St->List DW->Bool
 |_,[]=>true
 |a,m::ms=> !(leS m.nm a)&&(!(decide (40<m.nm.1))&&(Si m.ret.nm&&(!(decide (200<m.ps.length))&&(!(m.ps.any λt=> !Si t.nm)&&MR m.nm ms))))
theorem AFR{G:AX}{v:V}{ms:List DW}{ws:List V}{H:Heap}{n:Nat}{k:KV}(h:OE G H n v ms ws){a:St}
 (hk:∀H' n',Kp H n H' n'->k (.bool (MR a ms)) H' n'):
 lfp (V×V×V×V×Heap×Nat) (Oj lfp G (Runs F G) k) (a.v,v,.int .i64 (.ofNat ms.length) 0,.int .i64 (.ofNat 0) 0,H,n):=by
 refine JD (J:=λm st=>∃i a H2 n2,m=ms.length-i/\i<=ms.length/\st=(St.v a,v,.int .i64 (.ofNat ms.length) 0,.int .i64 (.ofNat i) 0,H2,n2)/\Kp H n H2 n2/\(∀H' n',Kp H n H' n'->k (.bool (MR a (ms.drop i))) H' n')) ?_ (m:=ms.length) ⟨0,a,H,n,rfl,Nat.zero_le _,rfl,Kp.refl _ _,hk⟩
 rintro I m st ⟨i,a,H2,n2,rfl,hi,rfl,f,hk⟩ ih
 show Pq lfp G (Runs F G) k I a.v v (.int .i64 (.ofNat ms.length) 0) (.int .i64 (.ofNat i) 0) H2 n2
 delta Pq
 by_cases hlt:i<ms.length
 ·obtain⟨q,w,hp,hld,hw⟩:=(h.kp f).at hlt
  have hok:=h.ok _ (List.getElem_mem hlt)
  rw[List.drop_eq_getElem_cons hlt]at hk
  unfold MR at hk
  generalize ms[i]=m at hok hld hw hk
  have hbig:=h.lt
  unfold DW.cells at hld
  simp only[go_sem,Nat.reduceAdd,Cc,hlt,decide_true,hp,DI hld]
  have f2:Kp H n (T.set (T.set H2 n2 (one [.str 0 0,.bool false,.AY,.str 0 0,.bool false])) n2 (one [m.nm.v,.bool m.st,w,m.ret.nm.v,.bool m.ret.arr])) (n2+1):=
   (f.new (m:=n2+1) _ f.le (by omega)).new _ f.le (Nat.le_refl _)
  have hw:=hw.kp (n':=n2+1) (H':=(T.set (T.set H2 n2 (one [.str 0 0,.bool false,.AY,.str 0 0,.bool false])) n2 (one [m.nm.v,.bool m.st,w,m.ret.nm.v,.bool m.ret.arr]))) (((Kp.refl H2 n2).new (m:=n2+1) _ (Nat.le_refl _) (by omega)).new _ (Nat.le_refl _) (Nat.le_refl _))
  have hg:=T.Ah (T.set H2 n2 (one [.str 0 0,.bool false,.AY,.str 0 0,.bool false])) n2 (one [m.nm.v,.bool m.st,w,m.ret.nm.v,.bool m.ret.arr])
  generalize T.set (T.set H2 n2 (one [.str 0 0,.bool false,.AY,.str 0 0,.bool false])) n2 (one [m.nm.v,.bool m.st,w,m.ret.nm.v,.bool m.ret.arr])=H3 at f2 hw hg⊢
  simp only[go_sem,Nat.reduceAdd,AU (off:=0) hg (v:=m.nm.v) rfl,AO0,AAK,Xi]
  cases h1:leS m.nm a with
  |true=>
   simp only[go_sem,AU (off:=0) hg (v:=m.nm.v) rfl,AAK,Xi]
   rw[h1]at hk
   exact hk _ _ f2
  |false=>
   simp only[go_sem,AU (off:=0) hg (v:=m.nm.v) rfl,AAK,Xi]
   rw[h1]at hk
   cases h2:decide (40<m.nm.1)with
   |true=>
    simp only[go_sem]
    rw[h2]at hk
    exact hk _ _ f2
   |false=>
    rw[h2]at hk
    have hl:Af 2 (.ptr n2 3) G H3=some (.agg [m.ret.nm.v,.bool m.ret.arr]):=Iq hg (by omega) (by show 5<=5;omega)
    simp only[go_sem,Nat.reduceAdd,hl]
    refine vH hok.2 λH4 n4 f4=>?_
    simp only[Bo,go_sem]
    have f5:=f2.trans f4
    have hw:=hw.kp f4
    have hg:T.get H4 n2=_:=(f4.same n2 (by omega)).trans hg
    show _
    cases h3:rH m.ret.nm.1 m.ret.nm.2 with
    |false=>
     simp only[Bool.not_false,go_sem]
     rw[show Si m.ret.nm=false from h3]at hk
     exact hk _ _ f5
    |true=>
     rw[show Si m.ret.nm=true from h3]at hk
     simp only[Bool.not_true,go_sem,AU (off:=2) hg (v:=w) rfl,hw.len,Xi]
     cases h4:decide (200<m.ps.length)with
     |true=>
      simp only[go_sem]
      rw[h4]at hk
      exact hk _ _ f5
     |false=>
      rw[h4]at hk
      simp only[go_sem,AU (off:=2) hg (v:=w) rfl]
      refine AIr hw.el hw.lo hw.lt hw.ok λH6 n6 f6=>?_
      have hg:T.get H6 n2=_:=(f6.same n2 (by have:=f4.le;omega)).trans hg
      have f7:=f5.trans f6
      cases h5:m.ps.any λt=> !Si t.nm with
      |true=>
       simp only[go_sem]
       rw[h5]at hk
       exact hk _ _ f7
      |false=>
       rw[h5]at hk
       simp only[go_sem,AU (off:=0) hg (v:=m.nm.v) rfl,D7 (show i+1<9223372036854775808 by unfold big at hbig;omega)]
       exact ih _ _ (by omega) ⟨i+1,m.nm,_,_,rfl,hlt,rfl,f7,hk⟩
 ·simp only[go_sem,Cc,hlt,decide_false]
  delta Py
  rw[List.drop_eq_nil_of_le (by omega)]at hk
  exact hk _ _ f
theorem AGZ{G:AX}{v w nm sp:V}{fs:List lg}{ms:List DW}{ws:List V}{H:Heap}{n b:Nat}{k:KV}(h:Td G H n v fs)(h2:OE G H n w ms ws){a:St}
 (hb:b<n) (hbx:T.get H b=some (one [nm,sp,v,w]))
 (hk:∀H' n',Kp H n H' n'->k (.bool (pV a fs&&MR (0,0) ms)) H' n'):
 lfp (V×V×V×V×V×Heap×Nat) (Jq lfp G (Runs F G) k) (.ptr b 0,a.v,v,.int .i64 (.ofNat fs.length) 0,.int .i64 (.ofNat 0) 0,H,n):=by
 refine JD (J:=λm st=>∃i a H2 n2,m=fs.length-i/\i<=fs.length/\st=(.ptr b 0,St.v a,v,.int .i64 (.ofNat fs.length) 0,.int .i64 (.ofNat i) 0,H2,n2)/\Kp H n H2 n2/\(∀H' n',Kp H n H' n'->k (.bool (pV a (fs.drop i)&&MR (0,0) ms)) H' n')) ?_ (m:=fs.length) ⟨0,a,H,n,rfl,Nat.zero_le _,rfl,Kp.refl _ _,hk⟩
 rintro I m st ⟨i,a,H2,n2,rfl,hi,rfl,f,hk⟩ ih
 show Pn lfp G (Runs F G) k I (.ptr b 0) a.v v (.int .i64 (.ofNat fs.length) 0) (.int .i64 (.ofNat i) 0) H2 n2
 delta Pn
 by_cases hlt:i<fs.length
 ·obtain⟨q,hp,hld⟩:=(h.kp f).at hlt
  have hok:=h.ok _ (List.getElem_mem hlt)
  rw[List.drop_eq_getElem_cons hlt]at hk
  unfold pV at hk
  generalize fs[i]=m at hok hld hk
  have hbig:=h.lt
  unfold lg.cells at hld
  simp only[go_sem,Nat.reduceAdd,Cc,hlt,decide_true,hp,DI hld]
  have f2:Kp H n (T.set (T.set H2 n2 (one [.str 0 0,.str 0 0,.bool false])) n2 (one [m.nm.v,m.ty.nm.v,.bool m.ty.arr])) (n2+1):=
   (f.new (m:=n2+1) _ f.le (by omega)).new _ f.le (Nat.le_refl _)
  have hg:=T.Ah (T.set H2 n2 (one [.str 0 0,.str 0 0,.bool false])) n2 (one [m.nm.v,m.ty.nm.v,.bool m.ty.arr])
  generalize T.set (T.set H2 n2 (one [.str 0 0,.str 0 0,.bool false])) n2 (one [m.nm.v,m.ty.nm.v,.bool m.ty.arr])=H3 at f2 hg⊢
  simp only[go_sem,Nat.reduceAdd,AU (off:=0) hg (v:=m.nm.v) rfl,AO0,AAK,Xi]
  cases h1:leS m.nm a with
  |true=>
   simp only[go_sem,AU (off:=0) hg (v:=m.nm.v) rfl,AAK,Xi]
   rw[h1]at hk
   exact hk _ _ f2
  |false=>
   simp only[go_sem,AU (off:=0) hg (v:=m.nm.v) rfl,AAK,Xi]
   rw[h1]at hk
   cases h2:decide (40<m.nm.1)with
   |true=>
    simp only[go_sem]
    rw[h2]at hk
    exact hk _ _ f2
   |false=>
    rw[h2]at hk
    have hl:Af 2 (.ptr n2 1) G H3=some (.agg [m.ty.nm.v,.bool m.ty.arr]):=Iq hg (by omega) (by show 3<=3;omega)
    simp only[go_sem,Nat.reduceAdd,hl]
    refine vH hok.2 λH4 n4 f4=>?_
    simp only[Bo,go_sem]
    have f5:=f2.trans f4
    have hg:T.get H4 n2=_:=(f4.same n2 (by omega)).trans hg
    show _
    cases h3:rH m.ty.nm.1 m.ty.nm.2 with
    |false=>
     simp only[Bool.not_false,go_sem]
     rw[show Si m.ty.nm=false from h3]at hk
     exact hk _ _ f5
    |true=>
     rw[show Si m.ty.nm=true from h3]at hk
     simp only[Bool.not_true,go_sem,AU (off:=0) hg (v:=m.nm.v) rfl,D7 (show i+1<9223372036854775808 by unfold big at hbig;omega)]
     exact ih _ _ (by omega) ⟨i+1,m.nm,_,_,rfl,hlt,rfl,f5,hk⟩
 ·simp only[go_sem,Cc,hlt,decide_false]
  delta PS
  rw[List.drop_eq_nil_of_le (by omega)]at hk
  have hg:T.get H2 b=_:=(f.same b hb).trans hbx
  have h2:=h2.kp f
  simp only[go_sem,Nat.reduceAdd,AU (off:=3) hg (v:=w) rfl,h2.len']
  exact AFR (a:=(0,0)) h2 λH' n' f'=>hk _ _ (f.trans f')
structure Fc where
 nm:St
 sup:St
 fs:List lg
 ms:List DW
structure YS(G:AX)(H:Heap)(n:Nat)(L:LV)(c:Fc)(v w:V)(ws:List V):Prop where
 is:L=[c.nm.v,c.sup.v,v,w]
 fs:Td G H n v c.fs
 ms:OE G H n w c.ms ws
 ok:c.nm.ok/\c.sup.ok
theorem YS.kp{G:AX}{H H':Heap}{n n':Nat}{L:LV}{c:Fc}{v w:V}{ws:List V}(h:YS G H n L c v w ws)(f:Kp H n H' n'):YS G H' n' L c v w ws:=⟨h.is,h.fs.kp f,h.ms.kp f,h.ok⟩
def jL(s:St):Bool:=upper s.1 s.2
def Tf(c:Fc):Bool:=
 jL c.nm&&((decide (c.sup.1=0/\c.sup.2=0)||jL c.sup)&&(!(decide (200<c.fs.length))&&(!(decide (200<c.ms.length))&&(!(decide (40<c.nm.1))&&(!(decide (40<c.sup.1))&&(pV (0,0) c.fs&&MR (0,0) c.ms))))))
theorem neS(a b:St):CX (.one .str) true a.v b.v=some (.bool (!decide (a.1=b.1/\a.2=b.2))):=AMm ..
theorem AEp(s:St):isClass s.1 s.2 false=jL s:=by simp[isClass,jL]
theorem xP{G:AX}{L:LV}{c:Fc}{v w:V}{ws:List V}{H:Heap}{n:Nat}{k:KV}(h:YS G H n L c v w ws)
 (hk:∀H' n',Kp H n H' n'->k (.bool (Tf c)) H' n'):Runs F G VI [.agg L] H n k:=by
 refine BN (s:=N9 (LQ lfp G)) UC (by obtain⟨h,o⟩:=YE BO G;rw[UC]at h;cases h;exact o) ?_
 show LQ lfp G (Runs F G) (.agg L) H n k
 obtain⟨rfl,hf,hm,hn,hs⟩:=h
 delta LQ
 unfold Tf at hk
 simp only[go_sem]
 have f1:Kp H n (T.set H n (one [c.nm.v,c.sup.v,v,w])) (n+1):=(Kp.refl H n).new _ (Nat.le_refl _) (by omega)
 have hg:=T.Ah H n (one [c.nm.v,c.sup.v,v,w])
 generalize T.set H n (one [c.nm.v,c.sup.v,v,w])=H1 at f1 hg⊢
 refine uO λH2 n2 f2=>?_
 refine lu hn λH3 n3 f3=>?_
 rw[AEp,Bo]
 have f:=f1.trans (f2.trans f3)
 have hg:T.get H3 n=_:=(f3.same n (by have:=f2.le;omega)).trans ((f2.same n (by omega)).trans hg)
 have hlt:n<n3:=by have:=f2.le;have:=f3.le;omega
 clear f1 f2 f3
 have tail:∀H3 n3,Kp H n H3 n3->n<n3->T.get H3 n=some (one [c.nm.v,c.sup.v,v,w])->
  (∀H' n',Kp H n H' n'->k (.bool (!(decide (200<c.fs.length))&&(!(decide (200<c.ms.length))&&(!(decide (40<c.nm.1))&&(!(decide (40<c.sup.1))&&(pV (0,0) c.fs&&MR (0,0) c.ms)))))) H' n')->
  (AP (AQ 2 (.ptr n 0)) λv18=>
  AP (AV v18 G H3) λv19=>
  AP (lenV v19) λv20=>
  AP (B2.ev .gtr v20 (.int .i64 (.ofNat 200) 0)) λv22=>
  Aj v22 false (AQ 3 (.ptr n 0)) λv23=>
  Aj v22 false (AV v23 G H3) λv24=>
  Aj v22 false (lenV v24) λv25=>
  Aj v22 false (B2.ev .gtr v25 (.int .i64 (.ofNat 200) 0)) λv26=>
  AP (BF v22 (.bool true) v26) λv27=>
  Aj v27 false (AQ 0 (.ptr n 0)) λv28=>
  Aj v27 false (AV v28 G H3) λv29=>
  Aj v27 false (lC v29) λv30=>
  Aj v27 false (B2.ev .gtr v30 (.int .i64 (.ofNat 40) 0)) λv31=>
  AP (BF v27 (.bool true) v31) λv32=>
  Aj v32 false (AQ 1 (.ptr n 0)) λv33=>
  Aj v32 false (AV v33 G H3) λv34=>
  Aj v32 false (lC v34) λv35=>
  Aj v32 false (B2.ev .gtr v35 (.int .i64 (.ofNat 40) 0)) λv36=>
  AP (BF v32 (.bool true) v36) λv37=>
  AZ v37 true (k (.bool false) H3 n3) (AP (AQ 2 (.ptr n 0)) λv74=>
  AP (AV v74 G H3) λv75=>
  AP (lenV v75) λv76=>
  lfp (V×V×V×V×V×Heap×Nat) (Jq lfp G (Runs F G) k) (.ptr n 0,(.str 0 0),v75,v76,(.int .i64 (.ofNat 0) 0),H3,n3))):=by
  intro H3 n3 f hlt hg hk
  have hf:=hf.kp f
  have hm:=hm.kp f
  have e0:AV (.ptr n 0) G H3=some c.nm.v:=AU hg rfl
  have e1:AV (.ptr n 1) G H3=some c.sup.v:=AU hg rfl
  have e2:AV (.ptr n 2) G H3=some v:=AU hg rfl
  have e3:AV (.ptr n 3) G H3=some w:=AU hg rfl
  simp only[go_sem,Nat.reduceAdd,e2,hf.len,Xi]
  cases h1:decide (200<c.fs.length)with
  |true=>rw[h1]at hk;simp only[go_sem];exact hk _ _ f
  |false=>
   rw[h1]at hk
   simp only[go_sem,Nat.reduceAdd,e3,hm.len',Xi]
   cases h2:decide (200<c.ms.length)with
   |true=>rw[h2]at hk;simp only[go_sem];exact hk _ _ f
   |false=>
    rw[h2]at hk
    simp only[go_sem,Nat.reduceAdd,e0,AAK,Xi]
    cases h3:decide (40<c.nm.1)with
    |true=>rw[h3]at hk;simp only[go_sem];exact hk _ _ f
    |false=>
     rw[h3]at hk
     simp only[go_sem,Nat.reduceAdd,e1,AAK,Xi]
     cases h4:decide (40<c.sup.1)with
     |true=>rw[h4]at hk;simp only[go_sem];exact hk _ _ f
     |false=>
      rw[h4]at hk
      simp only[go_sem,Nat.reduceAdd,e2,hf.len]
      exact AGZ (a:=(0,0)) hf hm hlt hg λH' n' f'=>hk _ _ (f.trans f')
 cases h1:jL c.nm with
 |false=>
  rw[h1]at hk
  simp only[Bool.not_false,go_sem]
  exact hk _ _ f
 |true=>
  rw[h1]at hk
  have e1:AV (.ptr n 1) G H3=some c.sup.v:=AU hg rfl
  have e:=neS c.sup (0,0)
  unfold St.v at e
  simp only[Bool.not_true,go_sem,Nat.reduceAdd,e1]
  rw[show CX (.one .str) true c.sup.v (.str 0 0)=_ from neS c.sup (0,0)]
  cases h2:decide (c.sup.1=0/\c.sup.2=0)with
  |true=>
   rw[h2]at hk
   simp only[Bool.not_true,go_sem]
   exact tail _ _ f hlt hg hk
  |false=>
   rw[h2]at hk
   simp only[Bool.not_false,go_sem,Nat.reduceAdd,e1]
   refine uO λH4 n4 f4=>?_
   refine lu hs λH5 n5 f5=>?_
   rw[AEp,Bo]
   have f':=f.trans (f4.trans f5)
   have hg:T.get H5 n=_:=(f5.same n (by have:=f4.le;omega)).trans ((f4.same n (by omega)).trans hg)
   cases h3:jL c.sup with
   |false=>
    rw[h3]at hk
    simp only[Bool.not_false,go_sem]
    exact hk _ _ f'
   |true=>
    rw[h3]at hk
    simp only[Bool.not_true,go_sem]
    exact tail _ _ f' (by have:=f4.le;have:=f5.le;omega) hg hk
theorem AKr{e c:Nat}{t:T LV}{i:Nat}{L:LV}(he:0<e)(hi:i<c)(ht:T.get t i=some L)(hL:L.length=e):ldB e c t (i*e) e=some L:=by
 unfold ldB
 have hdiv:i*e/e=i:=Nat.mul_div_cancel _ he
 have hmod:i*e%e=0:=Nat.mul_mod_left ..
 have hb:Nat.blt (Nat.div (i*e) e) c=true:=by rw[Nat.blt_eq];show i*e/e<c;omega
 rw[hb]
 show BP (T.get t (Nat.div (i*e) e)) (ldC e (i*e) e)=_
 rw[show Nat.div (i*e) e=i from hdiv,ht,Uh]
 have h1:=AG3 (H:=T.set .e 0 (one L)) (id:=0) (L:=L) (off:=0) (m:=e) (T.Ah ..) he (by omega)
 unfold Z4 at h1
 rw[T.Ah]at h1
 have h2:ldB L.length 1 (T.set .e 0 L) 0 e=some ((L.drop 0).take e):=h1
 unfold ldB at h2
 rw[show Nat.blt (Nat.div 0 L.length) 1=true by rw[Nat.blt_eq];show 0/L.length<1;simp]at h2
 have h3:BP (T.get (T.set T.e 0 L) (Nat.div 0 L.length)) (ldC L.length 0 e)=some ((L.drop 0).take e):=h2
 rw[show Nat.div 0 L.length=0 from Nat.zero_div _,T.Ah,Uh]at h3
 rw[List.drop_zero,List.take_of_length_le (by omega),hL]at h3
 have:ldC e (i*e) e L=ldC e 0 e L:=by
  unfold ldC
  rw[show Nat.mod (i*e) e=0 from hmod,show Nat.mod 0 e=0 from Nat.zero_mod _]
 rw[this];exact h3
theorem AAa{z:Nat}{Z L:LV}{H:Heap}{n:Nat}{P:KV}(hL:L.length=z):
 Bf (Az z 1 Z [(0,.c (.agg L))] E0) H n P=P (.sl n 0 1 1 z) (T.set H n (.arr z 1 (T.set (T.set .e 0 Z) 0 L))) (n+1):=by
 subst hL
 show L9 (band (band true (band true (Nat.beq (len L) L.length))) true) (DX n λn=>P (.sl n 0 1 1 L.length) (T.set H n (.arr L.length 1 (T.set (T.set .e 0 Z) 0 L))) (Nat.succ n))=_
 rw[len_eq,BL]
 have hb:band (band true (band true (Nat.beq L.length L.length))) true=true:=by simp
 rw[hb];rfl
theorem lW{G:AX}{H:Heap}{n z:Nat}{Z L:LV}(hz:0<z)(hL:L.length=z)(h:T.get H n=some (.arr z 1 (T.set (T.set .e 0 Z) 0 L))):El G H (.sl n 0 1 1 z) z [L]:=by
 refine⟨rfl,?_⟩
 show(Bool.rec (motive:=λ_=>Option ER) none (BP (Z4 H n (0*z) z) λL=>BP (some []) λLS=>some (L::LS)) (Nat.beq z z):Option ER)=_
 have hl:Z4 H n (0*z) z=some L:=by
  unfold Z4;rw[h]
  exact AKr hz (by omega) (by rw[T.Ah]) hL
 rw[hl,show Nat.beq z z=true by simp]
 rfl
theorem APz{Z a b c d e:V}{H:Heap}{n:Nat}{P:KV}(h:∀v∈[a,b,c,d,e],Wl v=true/\Aq v=[v]):
 Bf (Az 1 5 [Z] [(0,.c a),(1,.c b),(2,.c c),(3,.c d),(4,.c e)] E0) H n P=
 P (.sl n 0 5 5 1) (T.set H n (.arr 1 5 (T.set (T.set (T.set (T.set (T.set (tq [Z] 5 .e) 0 [a]) 1 [b]) 2 [c]) 3 [d]) 4 [e]))) (n+1):=by
 obtain⟨ha,hb,hc,hd,he,-⟩:(Wl a=true/\Aq a=[a])/\(Wl b=true/\Aq b=[b])/\(Wl c=true/\Aq c=[c])/\(Wl d=true/\Aq d=[d])/\(Wl e=true/\Aq e=[e])/\True:=by simpa using h
 show L9 (band (band (Wl a) (band (Nat.blt 0 5) (Nat.beq (len (Aq a)) 1))) (band (band (Wl b) (band (Nat.blt 1 5) (Nat.beq (len (Aq b)) 1))) (band (band (Wl c) (band (Nat.blt 2 5) (Nat.beq (len (Aq c)) 1))) (band (band (Wl d) (band (Nat.blt 3 5) (Nat.beq (len (Aq d)) 1))) (band (band (Wl e) (band (Nat.blt 4 5) (Nat.beq (len (Aq e)) 1))) true)))))
  (DX n λn=>P (.sl n 0 5 5 1) (T.set H n (.arr 1 5 (T.set (T.set (T.set (T.set (T.set (tq [Z] 5 .e) 0 (Aq a)) 1 (Aq b)) 2 (Aq c)) 3 (Aq d)) 4 (Aq e)))) (Nat.succ n))=_
 rw[ha.1,ha.2,hb.1,hb.2,hc.1,hc.2,hd.1,hd.2,he.1,he.2,BL]
 rfl
theorem AM4{G:AX}{H:Heap}{n:Nat}{Z a b c d e:V}(h:T.get H n=some (.arr 1 5 (T.set (T.set (T.set (T.set (T.set (tq [Z] 5 .e) 0 [a]) 1 [b]) 2 [c]) 3 [d]) 4 [e]))):
 El G H (.sl n 0 5 5 1) 1 [[a],[b],[c],[d],[e]]:=by
 refine⟨rfl,?_⟩
 show BP (Z4 H n (0*1) 1) (λL=>BP (BP (Z4 H n (1*1) 1) λL=>BP (BP (Z4 H n (2*1) 1) λL=>BP (BP (Z4 H n (3*1) 1) λL=>BP (BP (Z4 H n (4*1) 1) λL=>BP (some []) λLS=>some (L::LS)) λLS=>some (L::LS)) λLS=>some (L::LS)) λLS=>some (L::LS)) λLS=>some (L::LS))=_
 have hl:∀i v,i<5->T.get (T.set (T.set (T.set (T.set (T.set (tq [Z] 5 .e) 0 [a]) 1 [b]) 2 [c]) 3 [d]) 4 [e]) i=some [v]->Z4 H n (i*1) 1=some [v]:=by
  intro i v hi hv
  unfold Z4;rw[h]
  exact AKr (by omega) hi hv rfl
 rw[hl 0 a (by omega) rfl,hl 1 b (by omega) rfl,hl 2 c (by omega) rfl,hl 3 d (by omega) rfl,hl 4 e (by omega) rfl]
 rfl
def AGC(m:DW):Bool:=MR (0,0) [m]
theorem AGz(m:DW):Tf ⟨(1,65),(0,0),[],[m]⟩=AGC m:=by
 simp[Tf,AGC,jL,upper,pV]
theorem ASk{G:AX}{m:DW}{w:V}{H:Heap}{n:Nat}{k:KV}(hw:N7 G H n w m.ps)(hm:m.nm.ok/\m.ret.nm.ok)
 (hk:∀H' n',Kp H n H' n'->k (.bool (AGC m)) H' n'):Runs F G xO [.agg (m.cells w)] H n k:=by
 refine BN (s:=N9 (Wh lfp G)) fB (by obtain⟨h,o⟩:=rP BO G;rw[fB]at h;cases h;exact o) ?_
 show Wh lfp G (Runs F G) (.agg (m.cells w)) H n k
 delta Wh
 have f1:Kp H n (T.set H n (one (m.cells w))) (n+1):=(Kp.refl H n).new _ (Nat.le_refl _) (by omega)
 have hl:Af 5 (.ptr n 0) G (T.set H n (one (m.cells w)))=some (.agg (m.cells w)):=ACR rfl (by omega)
 simp only[go_sem,Nat.reduceAdd,hl,AAa (z:=5) (L:=m.cells w) rfl]
 generalize T.set H n (one (m.cells w))=H1 at f1⊢
 have f2:=f1.new (m:=n+1+1) (.arr 5 1 (T.set (T.set .e 0 [.str 0 0,.bool false,.AY,.str 0 0,.bool false]) 0 (m.cells w))) (id:=n+1) (by omega) (by omega)
 have hg:=T.Ah H1 (n+1) (.arr 5 1 (T.set (T.set .e 0 [.str 0 0,.bool false,.AY,.str 0 0,.bool false]) 0 (m.cells w)))
 generalize T.set H1 (n+1) (.arr 5 1 (T.set (T.set .e 0 [.str 0 0,.bool false,.AY,.str 0 0,.bool false]) 0 (m.cells w)))=H2 at f2 hg⊢
 rw[show Ap [.str 0 0,.str 0 0,.AY,.AY] [(0,1,.c (.str 1 65)),(3,1,.c (.sl (n+1) 0 1 1 5))]=some (.agg [.str 1 65,.str 0 0,.AY,.sl (n+1) 0 1 1 5])from rfl,AB]
 refine xP (c:=⟨(1,65),(0,0),[],[m]⟩) (v:=.AY) (w:=.sl (n+1) 0 1 1 5) (ws:=[w]) ⟨rfl,⟨⟨rfl,rfl⟩,(λid h=>by cases h),(by show 0<big;decide),(λf h=>by cases h)⟩,⟨lW (by omega) rfl hg,(λid h=>by cases h;omega),(by show 1<big;decide),rfl,?_,?_⟩,?_⟩ λH' n' f=>?_
 ·intro i m' w' h1 h2
  cases i with
  |zero=>simp at h1 h2;subst h1 h2;exact hw.kp f2
  |succ i=>simp at h1
 ·intro m' h;simp at h;subst h;exact hm
 ·exact⟨(λh=>by cases h),(λh=>rfl)⟩
 ·rw[AGz]
  exact hk _ _ (f2.trans f)
structure PF where
 f:lg
 own:St
structure PM where
 m:DW
 own:St
def PF.cells(p:PF):LV:=[p.f.nm.v,p.f.ty.nm.v,.bool p.f.ty.arr,p.own.v]
def PM.cells(p:PM)(w:V):LV:=[p.m.nm.v,.bool p.m.st,w,p.m.ret.nm.v,.bool p.m.ret.arr,p.own.v]
structure Pool where
 nums:List Int
 names:List St
 types:List Ty
 fields:List PF
 DN:List PM
structure Gp(G:AX)(H:Heap)(n:Nat)(p:Pool)(v0 v1 v2 v3 v4:V)(ws:List V):Prop where
 e0:El G H v0 1 (p.nums.map λa=>[.int .i64 a 0])
 l0:Lo v0 n
 b0:p.nums.length<big
 e1:El G H v1 1 (strs p.names)
 l1:Lo v1 n
 b1:p.names.length<big
 o1:∀s∈p.names,s.ok
 t2:N7 G H n v2 p.types
 e3:El G H v3 4 (p.fields.map PF.cells)
 l3:Lo v3 n
 b3:p.fields.length<big
 o3:∀f∈p.fields,f.f.nm.ok/\f.f.ty.nm.ok/\f.own.ok
 e4:El G H v4 6 (List.zipWith PM.cells p.DN ws)
 l4:Lo v4 n
 b4:p.DN.length<big
 ABt:ws.length=p.DN.length
 at4:∀(i:Nat) (m:PM) (w:V),p.DN[i]? =some m->ws[i]? =some w->N7 G H n w m.m.ps
 o4:∀m∈p.DN,m.m.nm.ok/\m.m.ret.nm.ok/\m.own.ok
theorem Gp.kp{G:AX}{H H':Heap}{n n':Nat}{p:Pool}{v0 v1 v2 v3 v4:V}{ws:List V}(h:Gp G H n p v0 v1 v2 v3 v4 ws)(f:Kp H n H' n'):Gp G H' n' p v0 v1 v2 v3 v4 ws:=
 ⟨h.e0.kp h.l0 f,h.l0.mono f.le,h.b0,h.e1.kp h.l1 f,h.l1.mono f.le,h.b1,h.o1,h.t2.kp f,h.e3.kp h.l3 f,h.l3.mono f.le,h.b3,h.o3,h.e4.kp h.l4 f,h.l4.mono f.le,h.b4,h.ABt,
  λi m w a b=>(h.at4 i m w a b).kp f,h.o4⟩
def Yg(s:St):Bool:=upper s.1 s.2&&decide (s.1<=40)
def ADH(p:PM):Bool:=Yg p.own&&AGC p.m
def AHY(p:PF):Bool:=Yg p.own&&(!decide (p.f.nm.1=0/\p.f.nm.2=0)&&(!decide (40<p.f.nm.1)&&Si p.f.ty.nm))
theorem AEc{G:AX}{p:Pool}{v0 v1 v2 v3 v4:V}{ws:List V}{H:Heap}{n:Nat}{k:KV}(h:Gp G H n p v0 v1 v2 v3 v4 ws)
 (hk:∀H' n',Kp H n H' n'->k (.bool (p.DN.all ADH)) H' n'):
 lfp (V×V×V×Heap×Nat) (Nl lfp G (Runs F G) k) (v4,.int .i64 (.ofNat p.DN.length) 0,.int .i64 (.ofNat 0) 0,H,n):=by
 refine JD (J:=λm st=>∃i H2 n2,m=p.DN.length-i/\i<=p.DN.length/\st=(v4,.int .i64 (.ofNat p.DN.length) 0,.int .i64 (.ofNat i) 0,H2,n2)/\Kp H n H2 n2/\(∀H' n',Kp H n H' n'->k (.bool ((p.DN.drop i).all ADH)) H' n')) ?_ (m:=p.DN.length) ⟨0,H,n,rfl,Nat.zero_le _,rfl,Kp.refl _ _,hk⟩
 rintro I m st ⟨i,H2,n2,rfl,hi,rfl,f,hk⟩ ih
 show Om lfp G (Runs F G) k I v4 (.int .i64 (.ofNat p.DN.length) 0) (.int .i64 (.ofNat i) 0) H2 n2
 delta Om
 by_cases hlt:i<p.DN.length
 ·have hw:i<ws.length:=by rw[h.ABt];exact hlt
  have h':=h.kp f
  obtain⟨q,hp,hld⟩:=h'.e4.at (i:=i) (c:=p.DN[i].cells ws[i]) (by rw[List.getElem?_zipWith];simp[hlt,hw])
  have hty:=h'.at4 i _ _ (List.getElem?_eq_getElem hlt) (List.getElem?_eq_getElem hw)
  have hok:=h.o4 _ (List.getElem_mem hlt)
  have hbig:=h.b4
  rw[List.drop_eq_getElem_cons hlt,List.all_cons]at hk
  generalize p.DN[i]=m at hok hld hty hk
  generalize ws[i]=w at hld hty
  unfold PM.cells at hld
  simp only[go_sem,Nat.reduceAdd,Cc,hlt,decide_true,hp,DI hld]
  have f2:Kp H2 n2 (T.set (T.set H2 n2 (one [.str 0 0,.bool false,.AY,.str 0 0,.bool false,.str 0 0])) n2 (one [m.m.nm.v,.bool m.m.st,w,m.m.ret.nm.v,.bool m.m.ret.arr,m.own.v])) (n2+1):=
   ((Kp.refl _ _).new (m:=n2+1) _ (Nat.le_refl _) (by omega)).new _ (Nat.le_refl _) (Nat.le_refl _)
  have hg:=T.Ah (T.set H2 n2 (one [.str 0 0,.bool false,.AY,.str 0 0,.bool false,.str 0 0])) n2 (one [m.m.nm.v,.bool m.m.st,w,m.m.ret.nm.v,.bool m.m.ret.arr,m.own.v])
  generalize T.set (T.set H2 n2 (one [.str 0 0,.bool false,.AY,.str 0 0,.bool false,.str 0 0])) n2 (one [m.m.nm.v,.bool m.m.st,w,m.m.ret.nm.v,.bool m.m.ret.arr,m.own.v])=H3 at f2 hg⊢
  refine ADL hok.2.2 λH4 n4 f4=>?_
  rw[Bo,show(upper m.own.1 m.own.2&&decide (m.own.1<=40))=Yg m.own from rfl]
  have hg:T.get H4 n2=_:=(f4.same n2 (by omega)).trans hg
  unfold ADH at hk
  cases h1:Yg m.own with
  |false=>
   rw[h1]at hk
   simp only[Bool.not_false,go_sem]
   exact hk _ _ (f.trans (f2.trans f4))
  |true=>
   rw[h1]at hk
   have hl:Af 5 (.ptr n2 0) G H4=some (.agg (m.m.cells w)):=Iq hg (by omega) (by show 5<=6;omega)
   simp only[Bool.not_true,go_sem,Nat.reduceAdd,hl]
   refine ASk (hty.kp (f2.trans f4)) ⟨hok.1,hok.2.1⟩ λH5 n5 f5=>?_
   have f6:=f.trans ((f2.trans f4).trans f5)
   simp only[Bo,go_sem]
   cases h2:AGC m.m with
   |false=>
    rw[h2]at hk
    simp only[Bool.not_false,go_sem]
    exact hk _ _ f6
   |true=>
    rw[h2]at hk
    simp only[Bool.not_true,go_sem,D7 (show i+1<9223372036854775808 by unfold big at hbig;omega)]
    exact ih _ _ (by omega) ⟨i+1,_,_,rfl,hlt,rfl,f6,hk⟩
 ·simp only[go_sem,Cc,hlt,decide_false]
  delta P5
  rw[List.drop_eq_nil_of_le (by omega)]at hk
  exact hk _ _ f
theorem eqS(a b:St):CX (.one .str) false a.v b.v=some (.bool (decide (a.1=b.1/\a.2=b.2))):=zX ..
theorem ADn{G:AX}{p:Pool}{v0 v1 v2 v3 v4:V}{ws:List V}{H:Heap}{n b:Nat}{k:KV}(h:Gp G H n p v0 v1 v2 v3 v4 ws)(hb:b<n)(hbx:T.get H b=some (one [v0,v1,v2,v3,v4]))
 (hk:∀H' n',Kp H n H' n'->k (.bool (p.fields.all AHY&&p.DN.all ADH)) H' n'):
 lfp (V×V×V×V×Heap×Nat) (NP lfp G (Runs F G) k) (.ptr b 0,v3,.int .i64 (.ofNat p.fields.length) 0,.int .i64 (.ofNat 0) 0,H,n):=by
 refine JD (J:=λm st=>∃i H2 n2,m=p.fields.length-i/\i<=p.fields.length/\st=(.ptr b 0,v3,.int .i64 (.ofNat p.fields.length) 0,.int .i64 (.ofNat i) 0,H2,n2)/\Kp H n H2 n2/\(∀H' n',Kp H n H' n'->k (.bool ((p.fields.drop i).all AHY&&p.DN.all ADH)) H' n')) ?_ (m:=p.fields.length) ⟨0,H,n,rfl,Nat.zero_le _,rfl,Kp.refl _ _,hk⟩
 rintro I m st ⟨i,H2,n2,rfl,hi,rfl,f,hk⟩ ih
 show OM lfp G (Runs F G) k I (.ptr b 0) v3 (.int .i64 (.ofNat p.fields.length) 0) (.int .i64 (.ofNat i) 0) H2 n2
 delta OM
 have h':=h.kp f
 by_cases hlt:i<p.fields.length
 ·obtain⟨q,hp,hld⟩:=h'.e3.at (i:=i) (c:=p.fields[i].cells) (by simp[hlt])
  have hok:=h.o3 _ (List.getElem_mem hlt)
  have hbig:=h.b3
  rw[List.drop_eq_getElem_cons hlt,List.all_cons]at hk
  generalize p.fields[i]=m at hok hld hk
  unfold PF.cells at hld
  simp only[go_sem,Nat.reduceAdd,Cc,hlt,decide_true,hp,DI hld]
  have f2:Kp H2 n2 (T.set (T.set H2 n2 (one [.str 0 0,.str 0 0,.bool false,.str 0 0])) n2 (one [m.f.nm.v,m.f.ty.nm.v,.bool m.f.ty.arr,m.own.v])) (n2+1):=
   ((Kp.refl _ _).new (m:=n2+1) _ (Nat.le_refl _) (by omega)).new _ (Nat.le_refl _) (Nat.le_refl _)
  have hg:=T.Ah (T.set H2 n2 (one [.str 0 0,.str 0 0,.bool false,.str 0 0])) n2 (one [m.f.nm.v,m.f.ty.nm.v,.bool m.f.ty.arr,m.own.v])
  generalize T.set (T.set H2 n2 (one [.str 0 0,.str 0 0,.bool false,.str 0 0])) n2 (one [m.f.nm.v,m.f.ty.nm.v,.bool m.f.ty.arr,m.own.v])=H3 at f2 hg⊢
  refine ADL hok.2.2 λH4 n4 f4=>?_
  rw[Bo,show(upper m.own.1 m.own.2&&decide (m.own.1<=40))=Yg m.own from rfl]
  have hg:T.get H4 n2=_:=(f4.same n2 (by omega)).trans hg
  have e0:AV (.ptr n2 0) G H4=some m.f.nm.v:=AU hg rfl
  have f6:=f.trans (f2.trans f4)
  unfold AHY at hk
  cases h1:Yg m.own with
  |false=>
   rw[h1]at hk
   simp only[Bool.not_false,go_sem]
   exact hk _ _ f6
  |true=>
   rw[h1]at hk
   simp only[Bool.not_true,go_sem,Nat.reduceAdd,e0]
   rw[show CX (.one .str) false m.f.nm.v (.str 0 0)=_ from eqS m.f.nm (0,0)]
   cases h2:decide (m.f.nm.1=0/\m.f.nm.2=0)with
   |true=>
    rw[h2]at hk
    simp only[go_sem]
    exact hk _ _ f6
   |false=>
    rw[h2]at hk
    simp only[go_sem,Nat.reduceAdd,e0,AAK,Xi]
    cases h3:decide (40<m.f.nm.1)with
    |true=>
     rw[h3]at hk
     simp only[go_sem]
     exact hk _ _ f6
    |false=>
     rw[h3]at hk
     have hl:Af 2 (.ptr n2 1) G H4=some (.agg [m.f.ty.nm.v,.bool m.f.ty.arr]):=Iq hg (by omega) (by show 3<=4;omega)
     simp only[go_sem,Nat.reduceAdd,hl]
     refine vH hok.2.1 λH5 n5 f5=>?_
     have f7:=f6.trans f5
     simp only[Bo,go_sem]
     show _
     cases h4:rH m.f.ty.nm.1 m.f.ty.nm.2 with
     |false=>
      rw[show Si m.f.ty.nm=false from h4]at hk
      simp only[Bool.not_false,go_sem]
      exact hk _ _ f7
     |true=>
      rw[show Si m.f.ty.nm=true from h4]at hk
      simp only[Bool.not_true,go_sem,D7 (show i+1<9223372036854775808 by unfold big at hbig;omega)]
      exact ih _ _ (by omega) ⟨i+1,_,_,rfl,hlt,rfl,f7,hk⟩
 ·simp only[go_sem,Cc,hlt,decide_false]
  delta Pg
  rw[List.drop_eq_nil_of_le (by omega)]at hk
  have hg:T.get H2 b=_:=(f.same b hb).trans hbx
  have hl:lenV v4=some (.int .i64 (.ofNat p.DN.length) 0):=by rw[h.e4.len,List.length_zipWith,h.ABt,Nat.min_self]
  simp only[go_sem,Nat.reduceAdd,AU (off:=4) hg (v:=v4) rfl,hl]
  exact AEc h' λH' n' f'=>hk _ _ (f.trans f')
theorem AFk{G:AX}{p:Pool}{v0 v1 v2 v3 v4:V}{ws:List V}{H:Heap}{n b:Nat}{k:KV}(h:Gp G H n p v0 v1 v2 v3 v4 ws)(hb:b<n)(hbx:T.get H b=some (one [v0,v1,v2,v3,v4]))
 (hk:∀H' n',Kp H n H' n'->k (.bool ((p.types.all λt=>Si t.nm)&&(p.fields.all AHY&&p.DN.all ADH))) H' n'):
 lfp (V×V×V×V×Heap×Nat) (Nw lfp G (Runs F G) k) (.ptr b 0,v2,.int .i64 (.ofNat p.types.length) 0,.int .i64 (.ofNat 0) 0,H,n):=by
 refine JD (J:=λm st=>∃i H2 n2,m=p.types.length-i/\i<=p.types.length/\st=(.ptr b 0,v2,.int .i64 (.ofNat p.types.length) 0,.int .i64 (.ofNat i) 0,H2,n2)/\Kp H n H2 n2/\(∀H' n',Kp H n H' n'->k (.bool (((p.types.drop i).all λt=>Si t.nm)&&(p.fields.all AHY&&p.DN.all ADH))) H' n')) ?_ (m:=p.types.length) ⟨0,H,n,rfl,Nat.zero_le _,rfl,Kp.refl _ _,hk⟩
 rintro I m st ⟨i,H2,n2,rfl,hi,rfl,f,hk⟩ ih
 show Oc lfp G (Runs F G) k I (.ptr b 0) v2 (.int .i64 (.ofNat p.types.length) 0) (.int .i64 (.ofNat i) 0) H2 n2
 delta Oc
 have h':=h.kp f
 by_cases hlt:i<p.types.length
 ·obtain⟨q,hp,hld⟩:=h'.t2.el.at (XF hlt)
  have hok:=h.t2.ok _ (List.getElem_mem hlt)
  have hbig:=h.t2.lt
  rw[List.drop_eq_getElem_cons hlt,List.all_cons]at hk
  generalize p.types[i]=m at hok hld hk
  unfold Ty.cells at hld
  simp only[go_sem,Nat.reduceAdd,Cc,hlt,decide_true,hp,DI hld]
  have f2:Kp H2 n2 (T.set (T.set H2 n2 (one [.str 0 0,.bool false])) n2 (one [m.nm.v,.bool m.arr])) (n2+1):=
   ((Kp.refl _ _).new (m:=n2+1) _ (Nat.le_refl _) (by omega)).new _ (Nat.le_refl _) (Nat.le_refl _)
  refine vH hok λH5 n5 f5=>?_
  have f7:=f.trans (f2.trans f5)
  simp only[Bo,go_sem]
  show _
  cases h4:rH m.nm.1 m.nm.2 with
  |false=>
   rw[show Si m.nm=false from h4]at hk
   simp only[Bool.not_false,go_sem]
   exact hk _ _ f7
  |true=>
   rw[show Si m.nm=true from h4]at hk
   simp only[Bool.not_true,go_sem,D7 (show i+1<9223372036854775808 by unfold big at hbig;omega)]
   exact ih _ _ (by omega) ⟨i+1,_,_,rfl,hlt,rfl,f7,hk⟩
 ·simp only[go_sem,Cc,hlt,decide_false]
  delta PZ
  rw[List.drop_eq_nil_of_le (by omega)]at hk
  have hg:T.get H2 b=_:=(f.same b hb).trans hbx
  have hl:lenV v3=some (.int .i64 (.ofNat p.fields.length) 0):=by rw[h.e3.len,List.length_map]
  simp only[go_sem,Nat.reduceAdd,AU (off:=3) hg (v:=v3) rfl,hl]
  exact ADn h' (Nat.lt_of_lt_of_le hb f.le) hg λH' n' f'=>hk _ _ (f.trans f')
def kS(p:Pool):Bool:=p.names.all Yg&&((p.types.all λt=>Si t.nm)&&(p.fields.all AHY&&p.DN.all ADH))
theorem AFg{G:AX}{p:Pool}{v0 v1 v2 v3 v4:V}{ws:List V}{H:Heap}{n b:Nat}{k:KV}(h:Gp G H n p v0 v1 v2 v3 v4 ws)(hb:b<n)(hbx:T.get H b=some (one [v0,v1,v2,v3,v4]))
 (hk:∀H' n',Kp H n H' n'->k (.bool (kS p)) H' n'):
 lfp (V×V×V×V×Heap×Nat) (NK lfp G (Runs F G) k) (.ptr b 0,v1,.int .i64 (.ofNat p.names.length) 0,.int .i64 (.ofNat 0) 0,H,n):=by
 refine JD (J:=λm st=>∃i H2 n2,m=p.names.length-i/\i<=p.names.length/\st=(.ptr b 0,v1,.int .i64 (.ofNat p.names.length) 0,.int .i64 (.ofNat i) 0,H2,n2)/\Kp H n H2 n2/\(∀H' n',Kp H n H' n'->k (.bool ((p.names.drop i).all Yg&&((p.types.all λt=>Si t.nm)&&(p.fields.all AHY&&p.DN.all ADH)))) H' n')) ?_ (m:=p.names.length) ⟨0,H,n,rfl,Nat.zero_le _,rfl,Kp.refl _ _,hk⟩
 rintro I m st ⟨i,H2,n2,rfl,hi,rfl,f,hk⟩ ih
 show OL lfp G (Runs F G) k I (.ptr b 0) v1 (.int .i64 (.ofNat p.names.length) 0) (.int .i64 (.ofNat i) 0) H2 n2
 delta OL
 have h':=h.kp f
 by_cases hlt:i<p.names.length
 ·obtain⟨q,hp,hld⟩:=h'.e1.at (QB hlt)
  have hok:=h.o1 _ (List.getElem_mem hlt)
  have hbig:=h.b1
  rw[List.drop_eq_getElem_cons hlt,List.all_cons]at hk
  generalize p.names[i]=m at hok hld hk
  simp only[go_sem,Nat.reduceAdd,Cc,hlt,decide_true,hp,L6 hld]
  refine ADL hok λH5 n5 f5=>?_
  rw[Bo,show(upper m.1 m.2&&decide (m.1<=40))=Yg m from rfl]
  have f7:=f.trans f5
  cases h4:Yg m with
  |false=>
   rw[h4]at hk
   simp only[Bool.not_false,go_sem]
   exact hk _ _ f7
  |true=>
   rw[h4]at hk
   simp only[Bool.not_true,go_sem,D7 (show i+1<9223372036854775808 by unfold big at hbig;omega)]
   exact ih _ _ (by omega) ⟨i+1,_,_,rfl,hlt,rfl,f7,hk⟩
 ·simp only[go_sem,Cc,hlt,decide_false]
  delta P6
  rw[List.drop_eq_nil_of_le (by omega)]at hk
  have hg:T.get H2 b=_:=(f.same b hb).trans hbx
  simp only[go_sem,Nat.reduceAdd,AU (off:=2) hg (v:=v2) rfl,h'.t2.len]
  exact AFk h' (Nat.lt_of_lt_of_le hb f.le) hg λH' n' f'=>hk _ _ (f.trans f')
def cnts(p:Pool):List Nat:=[p.nums.length,p.names.length,p.types.length,p.fields.length,p.DN.length]
theorem AGb{G:AX}{p:Pool}{v v0 v1 v2 v3 v4:V}{ws:List V}{H:Heap}{n b:Nat}{k:KV}(h:Gp G H n p v0 v1 v2 v3 v4 ws)(hb:b<n)(hbx:T.get H b=some (one [v0,v1,v2,v3,v4]))
 {xs:List Nat} (hv:El G H v 1 (xs.map λ(a:Nat)=>[V.int .i64 (.ofNat a) 0])) (hx:xs.length<big)
 (hk:∀H' n',Kp H n H' n'->k (.bool ((xs.all λa=> !decide (16384<a))&&kS p)) H' n'):
 lfp (V×V×V×V×Heap×Nat) (Nu lfp G (Runs F G) k) (.ptr b 0,v,.int .i64 (.ofNat xs.length) 0,.int .i64 (.ofNat 0) 0,H,n):=by
 refine JD (J:=λm st=>∃i,m=xs.length-i/\i<=xs.length/\st=(.ptr b 0,v,.int .i64 (.ofNat xs.length) 0,.int .i64 (.ofNat i) 0,H,n)/\(∀H' n',Kp H n H' n'->k (.bool (((xs.drop i).all λa=> !decide (16384<a))&&kS p)) H' n')) ?_ (m:=xs.length) ⟨0,rfl,Nat.zero_le _,rfl,hk⟩
 rintro I m st ⟨i,rfl,hi,rfl,hk⟩ ih
 show Ou lfp G (Runs F G) k I (.ptr b 0) v (.int .i64 (.ofNat xs.length) 0) (.int .i64 (.ofNat i) 0) H n
 delta Ou
 by_cases hlt:i<xs.length
 ·obtain⟨q,hp,hld⟩:=hv.at (i:=i) (c:=[V.int .i64 (.ofNat xs[i]) 0]) (by simp[hlt])
  rw[List.drop_eq_getElem_cons hlt,List.all_cons]at hk
  generalize xs[i]=m at hld hk
  simp only[go_sem,Nat.reduceAdd,Cc,hlt,decide_true,hp,L6 hld,Xi]
  cases h4:decide (16384<m)with
  |true=>
   rw[h4]at hk
   simp only[go_sem]
   exact hk _ _ (Kp.refl _ _)
  |false=>
   rw[h4]at hk
   simp only[go_sem,D7 (show i+1<9223372036854775808 by unfold big at hx;omega)]
   exact ih _ _ (by omega) ⟨i+1,rfl,hlt,rfl,hk⟩
 ·simp only[go_sem,Cc,hlt,decide_false]
  delta Pv
  rw[List.drop_eq_nil_of_le (by omega)]at hk
  have hl:lenV v1=some (.int .i64 (.ofNat p.names.length) 0):=by rw[h.e1.len,Gz]
  simp only[go_sem,Nat.reduceAdd,AU (off:=1) hbx (v:=v1) rfl,hl]
  exact AFg h hb hbx hk
def ADN(p:Pool):Bool:=(cnts p).all (λa=> !decide (16384<a))&&kS p
theorem AFq{G:AX}{p:Pool}{v0 v1 v2 v3 v4:V}{ws:List V}{H:Heap}{n:Nat}{k:KV}(h:Gp G H n p v0 v1 v2 v3 v4 ws)
 (hk:∀H' n',Kp H n H' n'->k (.bool (ADN p)) H' n'):Runs F G Yw [.agg [v0,v1,v2,v3,v4]] H n k:=by
 refine BN (s:=N9 (KF lfp G)) Rz (by obtain⟨h,o⟩:=Xj BO G;rw[Rz]at h;cases h;exact o) ?_
 show KF lfp G (Runs F G) (.agg [v0,v1,v2,v3,v4]) H n k
 delta KF
 have l0:lenV v0=some (.int .i64 (.ofNat p.nums.length) 0):=by rw[h.e0.len,List.length_map]
 have l1:lenV v1=some (.int .i64 (.ofNat p.names.length) 0):=by rw[h.e1.len,Gz]
 have l3:lenV v3=some (.int .i64 (.ofNat p.fields.length) 0):=by rw[h.e3.len,List.length_map]
 have l4:lenV v4=some (.int .i64 (.ofNat p.DN.length) 0):=by rw[h.e4.len,List.length_zipWith,h.ABt,Nat.min_self]
 simp only[go_sem,Nat.reduceAdd,l0,l1,h.t2.len,l3,l4]
 rw[APz (by intro v hv;simp at hv;rcases hv with rfl|rfl|rfl|rfl|rfl<;>exact⟨rfl,rfl⟩)]
 have f1:Kp H n (T.set H n (one [v0,v1,v2,v3,v4])) (n+1):=(Kp.refl H n).new _ (Nat.le_refl _) (by omega)
 have hg:=T.Ah H n (one [v0,v1,v2,v3,v4])
 generalize T.set H n (one [v0,v1,v2,v3,v4])=H1 at f1 hg⊢
 generalize hB:(O7.arr 1 5 (T.set (T.set (T.set (T.set (T.set (tq [V.int .i64 (.ofNat 0) 0] 5 .e) 0 [V.int .i64 (.ofNat p.nums.length) 0]) 1 [V.int .i64 (.ofNat p.names.length) 0]) 2 [V.int .i64 (.ofNat p.types.length) 0]) 3 [V.int .i64 (.ofNat p.fields.length) 0]) 4 [V.int .i64 (.ofNat p.DN.length) 0]))=B
 have f2:=f1.new (m:=n+1+1) B (id:=n+1) (by omega) (by omega)
 have hg2:=T.Ah H1 (n+1) B
 have hg:T.get (T.set H1 (n+1) B) n=_:=(T.Ac _ _ (by omega)).trans hg
 generalize T.set H1 (n+1) B=H2 at f2 hg hg2⊢
 subst hB
 have he:=AM4 (G:=G) hg2
 have hl:lenV (.sl (n+1) 0 5 5 1)=some (.int .i64 (.ofNat 5) 0):=rfl
 simp only[go_sem,Nat.reduceAdd,hl]
 exact AGb (xs:=cnts p) (h.kp f2) (by omega) hg he (by show 5<big;decide) λH' n' f=>hk _ _ (f2.trans f)
def AE5:List Nat:=[0,110,0,108,108,0,0,0,0,0,0,0,0,0,0,0,102,102,99,116,116,116,0,99,99,109,109,106,106,0,0,0,98]
def gV(G:AX):Prop:=∀c,c<33->G 0 (c*2+1) 1=some [V.int .i32 (.ofNat (AE5.getD c 0)) 0]
def known(c:Int):Bool:=decide (1<=c)&&decide (c<=32)
def kK(c:Int):Nat:=bif known c then AE5.getD c.toNat 0 else 0
theorem zV(q:IntKind)(a b:Int):B2.ev .geq (.int q a 0) (.int q b 0)=some (.bool (decide (b<=a))):=by
 show BK (band (keq q q) true) (mkB (ile b a))=_
 rw[Rw,pJ,show band (keq q q) true=true by simp[NQ]];rfl
theorem AC1(q:IntKind)(a b:Int):B2.ev .gtr (.int q a 0) (.int q b 0)=some (.bool (decide (b<a))):=by
 show BK (band (keq q q) true) (mkB (ilt b a))=_
 rw[Rw,Vp,show band (keq q q) true=true by simp[NQ]];rfl
theorem APQ(q:IntKind)(a b:Int):B2.ev .lss (.int q a 0) (.int q b 0)=some (.bool (decide (a<b))):=by
 show BK (band (keq q q) true) (mkB (ilt a b))=_
 rw[Rw,Vp,show band (keq q q) true=true by simp[NQ]];rfl
theorem AII{G:AX}{c:Int}{H:Heap}{n:Nat}{k:KV}(hk:k (.bool (known c)) H n):Runs F G Ws [.int .i64 c 0] H n k:=by
 refine BN (s:=N9 (O4 lfp G)) Vq (by obtain⟨h,o⟩:=dP BO G;rw[Vq]at h;cases h;exact o) ?_
 show O4 lfp G (Runs F G) (.int .i64 c 0) H n k
 delta O4
 unfold known at hk
 simp only[go_sem,zV,AEl]
 rw[show decide (Int.ofNat 1<=c)=decide (1<=c)from rfl]
 cases h:decide (1<=c)with
 |false=>rw[h]at hk;simp only[go_sem];exact hk
 |true=>rw[h]at hk;simp only[go_sem,AEl];exact hk
theorem AAR{G:AX}(hG:gV G){c:Int}{H:Heap}{n:Nat}{k:KV}(hk:k (.int .i32 (.ofNat (kK c)) 0) H n):Runs F G Yl [.int .i64 c 0] H n k:=by
 refine BN (s:=N9 (QZ lfp G)) XE (by obtain⟨h,o⟩:=gW BO G;rw[XE]at h;cases h;exact o) ?_
 show QZ lfp G (Runs F G) (.int .i64 c 0) H n k
 delta QZ
 refine AII ?_
 unfold kK at hk
 cases h:known c with
 |false=>rw[h]at hk;simp only[Bo,Bool.not_false,go_sem];exact hk
 |true=>
  rw[h]at hk
  simp only[Bo,Bool.not_true,go_sem]
  obtain⟨m,rfl⟩:∃m:Nat,c=.ofNat m:=⟨c.toNat,by simp[known]at h;show c=((c.toNat:Nat):Int);omega⟩
  have hm:m<33:=by simp[known]at h;omega
  have hi:AH0 33 2 (.gptr 0 0) (.int .i64 (.ofNat m) 0)=some (.gptr 0 (m*2)):=by
   show BK (Nat.blt m 33) (AQ (Nat.mul m 2) (.gptr 0 0))=_
   rw[show Nat.blt m 33=true by rw[Nat.blt_eq];exact hm,show BK true (AQ (Nat.mul m 2) (.gptr 0 0))=AQ (Nat.mul m 2) (.gptr 0 0)from rfl,AER,Nat.zero_add]
   rfl
  have hl:AV (.gptr 0 (m*2+1)) G H=some (.int .i32 (.ofNat (AE5.getD m 0)) 0):=L6 (hG m hm)
  simp only[go_sem,hi,hl]
  exact hk
structure Ins where
 code:Int
 arg:Int
def Ins.cells(i:Ins):LV:=[.int .i64 i.code 0,.int .i64 i.arg 0]
structure Bd where
 locals:Int
 stack:Int
 code:List Ins
def AGe(G:AX)(H0:Heap)(n0:Nat)(v:V)(g:Nat->Int):Prop:=
 ∃f a c,v=.fn f a c/\∀(q:Nat) {H:Heap} {n:Nat} {k:KV},Kp H0 n0 H n->k (.int .i64 (g q) 0) H n->Runs F G f (cat a (cat [.int .i32 (.ofNat q) 0] c)) H n k
def bG(g:Nat->Int)(i:Ins):Bool:=
 known i.code&&bif decide (kK i.code=0)then decide (i.arg=0)else(decide (0<=i.arg)&&decide (i.arg<g (kK i.code)))
theorem AC2(q:IntKind)(a:Int):F8 (.int q a 0) (.int q a 0)=true:=by
 show Jm (.int q a 0) (.int q a 0)=true
 simp[Jm,ACW,BM,NQ,Tt]
theorem APr(q:IntKind)(a:Int)(P:Prop):wB (.bool true) true (some (.int q a 0)) (.int q a 0) P=P:=by
 show L9 (F8 (.int q a 0) (.int q a 0)) P=P
 rw[AC2];rfl
theorem xB(x y:Nat):CX (.one .int) false (.int .i32 (.ofNat x) 0) (.int .i32 (.ofNat y) 0)=some (.bool (decide (x=y))):=by
 show ofB (QW (some (ieq (.ofNat x) (.ofNat y))) λb=>some b)=_
 rw[Tt,show(Int.ofNat x==Int.ofNat y)=decide (x=y)by rw[Bool.eq_iff_iff];simp;omega];cases decide (x=y)<;>rfl
theorem ATu(x:Int):CX (.one .int) false (.int .i64 x 0) (.int .i64 (.ofNat 0) 0)=some (.bool (decide (x=0))):=by
 rw[eq_i,show(x==Int.ofNat 0)=decide (x=0)by rw[Bool.eq_iff_iff];simp]
theorem AD9{G:AX}(hG:gV G){i:Ins}{v:V}{g:Nat->Int}{H:Heap}{n:Nat}{k:KV}(hv:AGe G H n v g)
 (hk:∀H' n',Kp H n H' n'->k (.bool (bG g i)) H' n'):Runs F G dL [.agg i.cells,v] H n k:=by
 refine BN (s:=SC (Nr lfp G)) Uu (by obtain⟨h,o⟩:=ZR BO G;rw[Uu]at h;cases h;exact o) ?_
 show Nr lfp G (Runs F G) (.agg i.cells) v H n k
 delta Nr
 unfold bG at hk
 unfold Ins.cells
 have f1:Kp H n (T.set H n (one [V.int .i64 i.code 0,.int .i64 i.arg 0])) (n+1):=(Kp.refl H n).new _ (Nat.le_refl _) (by omega)
 have hg:=T.Ah H n (one [V.int .i64 i.code 0,.int .i64 i.arg 0])
 simp only[go_sem]
 generalize T.set H n (one [V.int .i64 i.code 0,.int .i64 i.arg 0])=H1 at f1 hg⊢
 have e0:AV (.ptr n 0) G H1=some (.int .i64 i.code 0):=AU hg rfl
 have e1:AV (.ptr n 1) G H1=some (.int .i64 i.arg 0):=AU hg rfl
 refine AII ?_
 simp only[Bo]
 cases h:known i.code with
 |false=>
  rw[h]at hk
  simp only[Bool.not_false,go_sem]
  exact hk _ _ f1
 |true=>
  rw[h]at hk
  simp only[Bool.not_true,go_sem,Nat.reduceAdd,e0]
  refine AAR hG ?_
  simp only[go_sem,xB]
  cases h0:decide (kK i.code=0)with
  |true=>
   rw[h0]at hk
   simp only[go_sem,Nat.reduceAdd,e1,ATu]
   exact hk _ _ f1
  |false=>
   rw[h0]at hk
   simp only[go_sem,Nat.reduceAdd,e1,zV]
   rw[show decide (Int.ofNat 0<=i.arg)=decide (0<=i.arg)from rfl]
   cases h2:decide (0<=i.arg)with
   |false=>
    rw[h2]at hk
    simp only[go_sem]
    exact hk _ _ f1
   |true=>
    rw[h2]at hk
    obtain⟨f,a,c,rfl,hf⟩:=hv
    simp only[go_sem,Nat.reduceAdd,e1]
    show Runs F G f (cat a (cat [_] c)) H1 (n+1) _
    refine hf _ f1 ?_
    simp only[go_sem,e1,APr,APQ]
    exact hk _ _ f1
structure Fl where
 face:Fc
 pool:Pool
 bodies:List Bd
def mny(p:Pool)(b:Bd)(q:Nat):Int:=
 bif decide (q=110)then p.nums.length else bif decide (q=99)then p.names.length else bif decide (q=116)then p.types.length else bif decide (q=102)then p.fields.length else
 bif decide (q=109)then p.DN.length else bif decide (q=108)then b.locals else bif decide (q=106)then b.code.length else 2
theorem ANW{G:AX}{p:Pool}{b:Bd}{c0 c1 c2 c3 v0 v1 v2 v3 v4 vb vc:V}{ws:List V}{H:Heap}{n i j:Nat}(hi:i<n)(hj:j<n)(h:Gp G H n p v0 v1 v2 v3 v4 ws)
 (hc:El G H vc 2 (b.code.map Ins.cells))
 (gi:T.get H i=some (one [c0,c1,c2,c3,v0,v1,v2,v3,v4,vb])) (gj:T.get H j=some (one [V.int .i64 b.locals 0,.int .i64 b.stack 0,vc])):
 AGe G H n (.fn RY [] [.ptr i 0,.ptr j 0]) (mny p b):=by
 refine⟨_,_,_,rfl,λq {H2 n2 k} f hk=>?_⟩
 have gi:T.get H2 i=_:=(f.same i hi).trans gi
 have gj:T.get H2 j=_:=(f.same j hj).trans gj
 show Runs F G RY [.int .i32 (.ofNat q) 0,.ptr i 0,.ptr j 0] H2 n2 k
 refine BN (s:=ar3 (Je lfp G)) Qa (by obtain⟨h,o⟩:=WB BO G;rw[Qa]at h;cases h;exact o) ?_
 show Je lfp G (Runs F G) (.int .i32 (.ofNat q) 0) (.ptr i 0) (.ptr j 0) H2 n2 k
 delta Je
 have l0:lenV v0=some (.int .i64 (.ofNat p.nums.length) 0):=by rw[h.e0.len,List.length_map]
 have l1:lenV v1=some (.int .i64 (.ofNat p.names.length) 0):=by rw[h.e1.len,Gz]
 have l3:lenV v3=some (.int .i64 (.ofNat p.fields.length) 0):=by rw[h.e3.len,List.length_map]
 have l4:lenV v4=some (.int .i64 (.ofNat p.DN.length) 0):=by rw[h.e4.len,List.length_zipWith,h.ABt,Nat.min_self]
 have lc:lenV vc=some (.int .i64 (.ofNat b.code.length) 0):=by rw[hc.len,List.length_map]
 have e4:AV (.ptr i 4) G H2=some v0:=AU gi rfl
 have e5:AV (.ptr i 5) G H2=some v1:=AU gi rfl
 have e6:AV (.ptr i 6) G H2=some v2:=AU gi rfl
 have e7:AV (.ptr i 7) G H2=some v3:=AU gi rfl
 have e8:AV (.ptr i 8) G H2=some v4:=AU gi rfl
 have f0:AV (.ptr j 0) G H2=some (.int .i64 b.locals 0):=AU gj rfl
 have f2:AV (.ptr j 2) G H2=some vc:=AU gj rfl
 unfold mny at hk
 simp only[go_sem,xB]
 cases h1:decide (q=110)with
 |true=>rw[h1]at hk;simp only[go_sem,Nat.reduceAdd,e4,l0];exact hk
 |false=>
  rw[h1]at hk;simp only[go_sem,xB]
  cases h2:decide (q=99)with
  |true=>rw[h2]at hk;simp only[go_sem,Nat.reduceAdd,e5,l1];exact hk
  |false=>
   rw[h2]at hk;simp only[go_sem,xB]
   cases h3:decide (q=116)with
   |true=>rw[h3]at hk;simp only[go_sem,Nat.reduceAdd,e6,h.t2.len];exact hk
   |false=>
    rw[h3]at hk;simp only[go_sem,xB]
    cases h4:decide (q=102)with
    |true=>rw[h4]at hk;simp only[go_sem,Nat.reduceAdd,e7,l3];exact hk
    |false=>
     rw[h4]at hk;simp only[go_sem,xB]
     cases h5:decide (q=109)with
     |true=>rw[h5]at hk;simp only[go_sem,Nat.reduceAdd,e8,l4];exact hk
     |false=>
      rw[h5]at hk;simp only[go_sem,xB]
      cases h6:decide (q=108)with
      |true=>rw[h6]at hk;simp only[go_sem,Nat.reduceAdd,f0];exact hk
      |false=>
       rw[h6]at hk;simp only[go_sem,xB]
       cases h7:decide (q=106)with
       |true=>rw[h7]at hk;simp only[go_sem,Nat.reduceAdd,f2,lc];exact hk
       |false=>rw[h7]at hk;simp only[go_sem];exact hk
theorem AHb{G:AX}{p:Pool}{b:Bd}{c0 c1 c2 c3 v0 v1 v2 v3 v4 vb vc:V}{ws:List V}{H:Heap}{n:Nat}{k:KV}(h:Gp G H n p v0 v1 v2 v3 v4 ws)
 (hc:El G H vc 2 (b.code.map Ins.cells)) (hl:Lo vc n)
 (hk:∀H' n' v,Kp H n H' n'->AGe G H' n' v (mny p b)->k v H' n'):
 Runs F G ZQ [.agg [c0,c1,c2,c3,v0,v1,v2,v3,v4,vb],.agg [V.int .i64 b.locals 0,.int .i64 b.stack 0,vc]] H n k:=by
 refine BN (s:=SC (LW lfp G)) TY (by obtain⟨h,o⟩:=Ye BO G;rw[TY]at h;cases h;exact o) ?_
 show LW lfp G (Runs F G) (.agg [c0,c1,c2,c3,v0,v1,v2,v3,v4,vb]) (.agg [V.int .i64 b.locals 0,.int .i64 b.stack 0,vc]) H n k
 delta LW
 simp only[go_sem]
 have f1:=((Kp.refl H n).new (m:=n+1) (id:=n) (one [c0,c1,c2,c3,v0,v1,v2,v3,v4,vb]) (Nat.le_refl _) (by omega)).new (m:=n+1+1) (id:=n+1) (one [V.int .i64 b.locals 0,.int .i64 b.stack 0,vc]) (by omega) (by omega)
 exact hk _ _ _ f1 (ANW (by omega) (by omega) (h.kp f1) (hc.kp hl f1) (by rw[T.Ac _ _ (by omega),T.Ah]) (T.Ah ..))
def Bd.cells(b:Bd)(w:V):LV:=[.int .i64 b.locals 0,.int .i64 b.stack 0,w]
structure NI(G:AX)(H:Heap)(n:Nat)(v:V)(is:List Ins):Prop where
 el:El G H v 2 (is.map Ins.cells)
 lo:Lo v n
 lt:is.length<big
theorem NI.kp{G:AX}{H H':Heap}{n n':Nat}{v:V}{is:List Ins}(h:NI G H n v is)(f:Kp H n H' n'):NI G H' n' v is:=⟨h.el.kp h.lo f,h.lo.mono f.le,h.lt⟩
structure SG(G:AX)(H:Heap)(n:Nat)(v:V)(bs:List Bd)(ws:List V):Prop where
 el:El G H v 3 (List.zipWith Bd.cells bs ws)
 lo:Lo v n
 lt:bs.length<big
 len:ws.length=bs.length
 at':∀(i:Nat) (b:Bd) (w:V),bs[i]? =some b->ws[i]? =some w->NI G H n w b.code
theorem SG.kp{G:AX}{H H':Heap}{n n':Nat}{v:V}{bs:List Bd}{ws:List V}(h:SG G H n v bs ws)(f:Kp H n H' n'):SG G H' n' v bs ws:=
 ⟨h.el.kp h.lo f,h.lo.mono f.le,h.lt,h.len,λi b w x y=>(h.at' i b w x y).kp f⟩
theorem AI2(i:Ins):F8 (.agg i.cells) (.agg i.cells)=true:=by
 show AAj [V.int .i64 i.code 0,.int .i64 i.arg 0] [V.int .i64 i.code 0,.int .i64 i.arg 0]=true
 show band (Jm _ _) (band (Jm _ _) true)=true
 simp[Jm,ACW,BM,NQ,Tt]
theorem AG7{G:AX}(hG:gV G){p:Pool}{b:Bd}{c0 c1 c2 c3 v0 v1 v2 v3 v4 vb vc x30 x31 x32:V}{ws:List V}{H:Heap}{n i j:Nat}{k:KV}{ih24:(V×V×V×V×Heap×Nat)->Prop}
 (hi:i<n) (hj:j<n) (h:Gp G H n p v0 v1 v2 v3 v4 ws) (hc:NI G H n vc b.code)
 (gi:T.get H i=some (one [c0,c1,c2,c3,v0,v1,v2,v3,v4,vb])) (gj:T.get H j=some (one (b.cells vc)))
 (hbad:b.code.all (bG (mny p b))=false->∀H' n',Kp H n H' n'->k (.bool false) H' n')
 (hok:b.code.all (bG (mny p b))=true->∀H' n',Kp H n H' n'->FC lfp G (Runs F G) k ih24 (.ptr i 0) x30 x31 x32 H' n'):
 lfp (V×V×V×V×V×V×V×V×Heap×Nat) (Nj lfp G (Runs F G) k ih24) (.ptr i 0,.ptr j 0,x30,x31,x32,vc,.int .i64 (.ofNat b.code.length) 0,.int .i64 (.ofNat 0) 0,H,n):=by
 refine JD (J:=λm st=>∃e H2 n2,m=b.code.length-e/\e<=b.code.length/\st=(.ptr i 0,.ptr j 0,x30,x31,x32,vc,.int .i64 (.ofNat b.code.length) 0,.int .i64 (.ofNat e) 0,H2,n2)/\Kp H n H2 n2/\
  ((b.code.drop e).all (bG (mny p b))=false->∀H' n',Kp H n H' n'->k (.bool false) H' n')/\
  ((b.code.drop e).all (bG (mny p b))=true->∀H' n',Kp H n H' n'->FC lfp G (Runs F G) k ih24 (.ptr i 0) x30 x31 x32 H' n')) ?_ (m:=b.code.length) ⟨0,H,n,rfl,Nat.zero_le _,rfl,Kp.refl _ _,hbad,hok⟩
 rintro I m st ⟨e,H2,n2,rfl,he,rfl,f,hbad,hok⟩ ih
 show OG lfp G (Runs F G) k ih24 I (.ptr i 0) (.ptr j 0) x30 x31 x32 vc (.int .i64 (.ofNat b.code.length) 0) (.int .i64 (.ofNat e) 0) H2 n2
 delta OG
 by_cases hlt:e<b.code.length
 ·have hc2:=hc.kp f
  obtain⟨q,hp,hld⟩:=hc2.el.at (i:=e) (c:=b.code[e].cells) (by simp[hlt])
  have hbig:=hc.lt
  rw[List.drop_eq_getElem_cons hlt,List.all_cons]at hbad hok
  generalize b.code[e]=s at hld hbad hok
  have hs:=AI2 s
  unfold Ins.cells at hld hs
  simp only[go_sem,Nat.reduceAdd,Cc,hlt,decide_true,hp,DI hld]
  have f2:Kp H2 n2 (T.set (T.set H2 n2 (one [.int .i64 (.ofNat 0) 0,.int .i64 (.ofNat 0) 0])) n2 (one [.int .i64 s.code 0,.int .i64 s.arg 0])) (n2+1):=
   ((Kp.refl _ _).new (m:=n2+1) _ (Nat.le_refl _) (by omega)).new _ (Nat.le_refl _) (Nat.le_refl _)
  have hg:=T.Ah (T.set H2 n2 (one [.int .i64 (.ofNat 0) 0,.int .i64 (.ofNat 0) 0])) n2 (one [V.int .i64 s.code 0,.int .i64 s.arg 0])
  generalize T.set (T.set H2 n2 (one [.int .i64 (.ofNat 0) 0,.int .i64 (.ofNat 0) 0])) n2 (one [V.int .i64 s.code 0,.int .i64 s.arg 0])=H3 at f2 hg⊢
  have f3:=f.trans f2
  have gi3:T.get H3 i=_:=(f3.same i hi).trans gi
  have gj3:T.get H3 j=_:=(f3.same j hj).trans gj
  have e1:Af 2 (.ptr n2 0) G H3=some (.agg [.int .i64 s.code 0,.int .i64 s.arg 0]):=CV hg (by omega) rfl
  have e2:Af 10 (.ptr i 0) G H3=some (.agg [c0,c1,c2,c3,v0,v1,v2,v3,v4,vb]):=CV gi3 (by omega) rfl
  have e3:Af 3 (.ptr j 0) G H3=some (.agg (b.cells vc)):=CV gj3 (by omega) rfl
  simp only[go_sem,Nat.reduceAdd,e1,e2,e3]
  refine AHb (h.kp f3) (hc.kp f3).el (hc.kp f3).lo λH4 n4 v f4 hv=>?_
  have hg4:T.get H4 n2=_:=(f4.same n2 (by omega)).trans hg
  have e4:Af 2 (.ptr n2 0) G H4=some (.agg [.int .i64 s.code 0,.int .i64 s.arg 0]):=CV hg4 (by omega) rfl
  simp only[go_sem,e4,hs]
  refine AD9 (i:=s) hG hv λH5 n5 f5=>?_
  have f6:=f3.trans (f4.trans f5)
  simp only[Bo,go_sem]
  cases h2:bG (mny p b) s with
  |false=>
   rw[h2]at hbad
   simp only[Bool.not_false,go_sem]
   exact hbad rfl _ _ f6
  |true=>
   rw[h2]at hbad hok
   simp only[Bool.not_true,go_sem,D7 (show e+1<9223372036854775808 by unfold big at hbig;omega)]
   exact ih _ _ (by omega) ⟨e+1,_,_,rfl,hlt,rfl,f6,hbad,hok⟩
 ·simp only[go_sem,Cc,hlt,decide_false]
  rw[List.drop_eq_nil_of_le (by omega)]at hok
  exact hok rfl _ _ f
def least(m:DW):Nat:=bif m.st then m.ps.length else m.ps.length+1
def qg(p:Pool)(m:DW)(b:Bd):Bool:=
 !decide (b.locals<least m)&&(!decide ((401:Int)<b.locals)&&(!decide (b.stack<0)&&(!decide ((1000:Int)<b.stack)&&(!decide (b.code.length<1)&&(!decide (16384<b.code.length)&&b.code.all (bG (mny p b)))))))
def WL(p:Pool):List DW->List Bd->Bool
 |m::ms,b::bs=>qg p m b&&WL p ms bs
 |_,_=>true
theorem AGT{G:AX}(hG:gV G){p:Pool}{m:DW}{b:Bd}{c0 c1 c2 c3 v0 v1 v2 v3 v4 vb vc x30 x31 x32:V}{ws:List V}{H:Heap}{n i j:Nat}{k:KV}{ih24:(V×V×V×V×Heap×Nat)->Prop}
 (hi:i<n) (hj:j<n) (h:Gp G H n p v0 v1 v2 v3 v4 ws) (hc:NI G H n vc b.code)
 (gi:T.get H i=some (one [c0,c1,c2,c3,v0,v1,v2,v3,v4,vb])) (gj:T.get H j=some (one (b.cells vc)))
 (hbad:qg p m b=false->∀H' n',Kp H n H' n'->k (.bool false) H' n')
 (hok:qg p m b=true->∀H' n',Kp H n H' n'->FC lfp G (Runs F G) k ih24 (.ptr i 0) x30 x31 x32 H' n'):
 E8 lfp G (Runs F G) k ih24 (.ptr i 0) (.ptr j 0) (.int .i64 (.ofNat (least m)) 0) x30 x31 x32 H n:=by
 delta E8
 unfold qg at hbad hok
 unfold Bd.cells at gj
 have f0:AV (.ptr j 0) G H=some (.int .i64 b.locals 0):=AU gj rfl
 have f1:AV (.ptr j 1) G H=some (.int .i64 b.stack 0):=AU gj rfl
 have f2:AV (.ptr j 2) G H=some vc:=AU gj rfl
 have lc:lenV vc=some (.int .i64 (.ofNat b.code.length) 0):=by rw[hc.el.len,List.length_map]
 simp only[go_sem,Nat.reduceAdd,f0,APQ]
 rw[show decide (b.locals<Int.ofNat (least m))=decide (b.locals<least m)from rfl]
 cases h1:decide (b.locals<least m)with
 |true=>rw[h1]at hbad;simp only[go_sem];exact hbad rfl _ _ (Kp.refl _ _)
 |false=>
  rw[h1]at hbad hok;simp only[go_sem,Nat.reduceAdd,f0,AC1]
  rw[show decide (Int.ofNat 401<b.locals)=decide ((401:Int)<b.locals)from rfl]
  cases h2:decide ((401:Int)<b.locals)with
  |true=>rw[h2]at hbad;simp only[go_sem];exact hbad rfl _ _ (Kp.refl _ _)
  |false=>
   rw[h2]at hbad hok;simp only[go_sem,Nat.reduceAdd,f1,APQ]
   rw[show decide (b.stack<Int.ofNat 0)=decide (b.stack<0)from rfl]
   cases h3:decide (b.stack<0)with
   |true=>rw[h3]at hbad;simp only[go_sem];exact hbad rfl _ _ (Kp.refl _ _)
   |false=>
    rw[h3]at hbad hok;simp only[go_sem,Nat.reduceAdd,f1,AC1]
    rw[show decide (Int.ofNat 1000<b.stack)=decide ((1000:Int)<b.stack)from rfl]
    cases h4:decide ((1000:Int)<b.stack)with
    |true=>rw[h4]at hbad;simp only[go_sem];exact hbad rfl _ _ (Kp.refl _ _)
    |false=>
     rw[h4]at hbad hok;simp only[go_sem,Nat.reduceAdd,f2,lc,Cc]
     cases h5:decide (b.code.length<1)with
     |true=>rw[h5]at hbad;simp only[go_sem];exact hbad rfl _ _ (Kp.refl _ _)
     |false=>
      rw[h5]at hbad hok;simp only[go_sem,Nat.reduceAdd,f2,lc,Xi]
      cases h6:decide (16384<b.code.length)with
      |true=>rw[h6]at hbad;simp only[go_sem];exact hbad rfl _ _ (Kp.refl _ _)
      |false=>
       rw[h6]at hbad hok;simp only[go_sem,Nat.reduceAdd,f2,lc]
       exact AG7 hG hi hj h hc gi gj hbad hok
theorem ADy{G:AX}(hG:gV G){p:Pool}{c:Fc}{bs:List Bd}{vf vm v0 v1 v2 v3 v4 vb:V}{mws ws bws:List V}{H:Heap}{n i:Nat}{k:KV}
 (hi:i<n) (hm:OE G H n vm c.ms mws) (h:Gp G H n p v0 v1 v2 v3 v4 ws) (hb:SG G H n vb bs bws) (hlen:bs.length=c.ms.length) (AJI:∀m∈c.ms,m.ps.length<=200)
 (gi:T.get H i=some (one [c.nm.v,c.sup.v,vf,vm,v0,v1,v2,v3,v4,vb]))
 (hk:∀H' n',Kp H n H' n'->k (.bool (WL p c.ms bs)) H' n'):
 lfp (V×V×V×V×Heap×Nat) (NV lfp G (Runs F G) k) (.ptr i 0,vb,.int .i64 (.ofNat bs.length) 0,.int .i64 (.ofNat 0) 0,H,n):=by
 refine JD (J:=λm st=>∃e H2 n2,m=bs.length-e/\e<=bs.length/\st=(.ptr i 0,vb,.int .i64 (.ofNat bs.length) 0,.int .i64 (.ofNat e) 0,H2,n2)/\Kp H n H2 n2/\
  (∀H' n',Kp H n H' n'->k (.bool (WL p (c.ms.drop e) (bs.drop e))) H' n')) ?_ (m:=bs.length) ⟨0,H,n,rfl,Nat.zero_le _,rfl,Kp.refl _ _,hk⟩
 rintro I m st ⟨e,H2,n2,rfl,he,rfl,f,hk⟩ ih
 show OJ lfp G (Runs F G) k I (.ptr i 0) vb (.int .i64 (.ofNat bs.length) 0) (.int .i64 (.ofNat e) 0) H2 n2
 delta OJ
 by_cases hlt:e<bs.length
 ·have hlt':e<c.ms.length:=by omega
  have hw:e<bws.length:=by rw[hb.len];exact hlt
  have hb2:=hb.kp f
  obtain⟨q,hp,hld⟩:=hb2.el.at (i:=e) (c:=bs[e].cells bws[e]) (by rw[List.getElem?_zipWith];simp[hlt,hw])
  have hcode:=hb2.at' e _ _ (List.getElem?_eq_getElem hlt) (List.getElem?_eq_getElem hw)
  have hbig:=hb.lt
  rw[List.drop_eq_getElem_cons hlt,List.drop_eq_getElem_cons hlt']at hk
  unfold WL at hk
  generalize bs[e]=b at hld hcode hk
  generalize bws[e]=w at hld hcode
  unfold Bd.cells at hld
  simp only[go_sem,Nat.reduceAdd,Cc,hlt,decide_true,hp,DI hld]
  have f2:Kp H2 n2 (T.set (T.set H2 n2 (one [.int .i64 (.ofNat 0) 0,.int .i64 (.ofNat 0) 0,.AY])) n2 (one [.int .i64 b.locals 0,.int .i64 b.stack 0,w])) (n2+1):=
   ((Kp.refl _ _).new (m:=n2+1) _ (Nat.le_refl _) (by omega)).new _ (Nat.le_refl _) (Nat.le_refl _)
  have gj:=T.Ah (T.set H2 n2 (one [.int .i64 (.ofNat 0) 0,.int .i64 (.ofNat 0) 0,.AY])) n2 (one [V.int .i64 b.locals 0,.int .i64 b.stack 0,w])
  generalize T.set (T.set H2 n2 (one [.int .i64 (.ofNat 0) 0,.int .i64 (.ofNat 0) 0,.AY])) n2 (one [V.int .i64 b.locals 0,.int .i64 b.stack 0,w])=H3 at f2 gj⊢
  have f3:=f.trans f2
  have gi3:T.get H3 i=_:=(f3.same i hi).trans gi
  obtain⟨q2,w2,hp2,hld2,hps⟩:=(hm.kp f3).at hlt'
  have hps2:=AJI _ (List.getElem_mem hlt')
  generalize c.ms[e]=mt at hld2 hps hk hps2
  unfold DW.cells at hld2
  have e3:AV (.ptr i 3) G H3=some vm:=AU gi3 rfl
  simp only[go_sem,Nat.reduceAdd,e3,hp2,DI hld2,hps.len]
  have f4:Kp H3 (n2+1) (T.set (T.set H3 (n2+1) (one [.str 0 0,.bool false,.AY,.str 0 0,.bool false])) (n2+1) (one [mt.nm.v,.bool mt.st,w2,mt.ret.nm.v,.bool mt.ret.arr])) (n2+1+1):=
   ((Kp.refl _ _).new (m:=n2+1+1) _ (Nat.le_refl _) (by omega)).new _ (Nat.le_refl _) (Nat.le_refl _)
  generalize T.set (T.set H3 (n2+1) (one [.str 0 0,.bool false,.AY,.str 0 0,.bool false])) (n2+1) (one [mt.nm.v,.bool mt.st,w2,mt.ret.nm.v,.bool mt.ret.arr])=H4 at f4⊢
  have f5:=f3.trans f4
  have gi4:T.get H4 i=_:=(f5.same i hi).trans gi
  have gj4:T.get H4 n2=_:=(f4.same n2 (by omega)).trans gj
  have hgo:E8 lfp G (Runs F G) k I (.ptr i 0) (.ptr n2 0) (.int .i64 (.ofNat (least mt)) 0) vb (.int .i64 (.ofNat bs.length) 0) (.int .i64 (.ofNat e) 0) H4 (n2+1+1):=by
   refine AGT hG (p:=p) (m:=mt) (b:=b) (by have:=f.le;omega) (by omega) (h.kp f5) (hcode.kp (f2.trans f4)) gi4 gj4 ?_ ?_
   ·intro hbad H' n' f'
    rw[hbad]at hk
    exact hk _ _ (f5.trans f')
   ·intro hok H' n' f'
    rw[hok]at hk
    delta FC
    simp only[go_sem,D7 (show e+1<9223372036854775808 by unfold big at hbig;omega)]
    exact ih _ _ (by omega) ⟨e+1,_,_,rfl,hlt,rfl,f5.trans f',hk⟩
  simp only[Bo]
  unfold least at hgo
  cases hst:mt.st with
  |true=>rw[hst]at hgo;simp only[Bool.not_true,go_sem];exact hgo
  |false=>rw[hst]at hgo;simp only[Bool.not_false,go_sem,D7 (show mt.ps.length+1<9223372036854775808 by omega)];exact hgo
 ·simp only[go_sem,Cc,hlt,decide_false]
  delta Oe
  rw[List.drop_eq_nil_of_le (by omega),List.drop_eq_nil_of_le (by omega)]at hk
  exact hk _ _ f
theorem wo:∀{a:St} {ms:List DW},MR a ms=true->∀m∈ms,m.ps.length<=200
 |_,[],_=>λm hm=>by cases hm
 |a,m::ms,h=>by
  simp[MR]at h
  intro m' hm'
  rcases List.mem_cons.1 hm' with rfl|hm'
  ·omega
  ·exact wo h.2.2.2.2.2 m' hm'
theorem ABO{c:Fc}(h:Tf c=true):∀m∈c.ms,m.ps.length<=200:=by
 simp[Tf]at h
 exact wo h.2.2.2.2.2.2.2
structure aX(G:AX)(H:Heap)(n:Nat)(L:LV)(f:Fl)(vf vm v0 v1 v2 v3 v4 vb:V)(mws ws bws:List V):Prop where
 is:L=[f.face.nm.v,f.face.sup.v,vf,vm,v0,v1,v2,v3,v4,vb]
 face:YS G H n [f.face.nm.v,f.face.sup.v,vf,vm] f.face vf vm mws
 pool:Gp G H n f.pool v0 v1 v2 v3 v4 ws
 bodies:SG G H n vb f.bodies bws
def KZ(f:Fl):Bool:=Tf f.face&&(ADN f.pool&&(decide (f.bodies.length=f.face.ms.length)&&WL f.pool f.face.ms f.bodies))
theorem AF2{G:AX}(hG:gV G){L:LV}{f:Fl}{vf vm v0 v1 v2 v3 v4 vb:V}{mws ws bws:List V}{H:Heap}{n:Nat}{k:KV}(h:aX G H n L f vf vm v0 v1 v2 v3 v4 vb mws ws bws)
 (hk:∀H' n',Kp H n H' n'->k (.bool (KZ f)) H' n'):Runs F G Yh [.agg L] H n k:=by
 refine BN (s:=N9 (J7 lfp G)) RZ (by obtain⟨h,o⟩:=Xf BO G;rw[RZ]at h;cases h;exact o) ?_
 show J7 lfp G (Runs F G) (.agg L) H n k
 obtain⟨rfl,hf,hp,hb⟩:=h
 delta J7
 unfold KZ at hk
 simp only[go_sem]
 have f1:Kp H n (T.set H n (one [f.face.nm.v,f.face.sup.v,vf,vm,v0,v1,v2,v3,v4,vb])) (n+1):=(Kp.refl H n).new _ (Nat.le_refl _) (by omega)
 have hg:=T.Ah H n (one [f.face.nm.v,f.face.sup.v,vf,vm,v0,v1,v2,v3,v4,vb])
 generalize T.set H n (one [f.face.nm.v,f.face.sup.v,vf,vm,v0,v1,v2,v3,v4,vb])=H1 at f1 hg⊢
 have e1:Af 4 (.ptr n 0) G H1=some (.agg [f.face.nm.v,f.face.sup.v,vf,vm]):=Iq hg (by omega) (by show 4<=10;omega)
 simp only[go_sem,e1]
 refine xP (hf.kp f1) λH2 n2 f2=>?_
 have hg:T.get H2 n=_:=(f2.same n (by omega)).trans hg
 have f3:=f1.trans f2
 simp only[Bo]
 cases h1:Tf f.face with
 |false=>rw[h1]at hk;simp only[Bool.not_false,go_sem];exact hk _ _ f3
 |true=>
  rw[h1]at hk
  have e2:Af 5 (.ptr n 4) G H2=some (.agg [v0,v1,v2,v3,v4]):=Iq hg (by omega) (by show 9<=10;omega)
  simp only[Bool.not_true,go_sem,Nat.reduceAdd,e2]
  refine AFq (hp.kp f3) λH4 n4 f4=>?_
  have hg:T.get H4 n=_:=(f4.same n (by have:=f2.le;omega)).trans hg
  have f5:=f3.trans f4
  simp only[Bo,go_sem]
  cases h2:ADN f.pool with
  |false=>rw[h2]at hk;simp only[Bool.not_false,go_sem];exact hk _ _ f5
  |true=>
   rw[h2]at hk
   have e9:AV (.ptr n 9) G H4=some vb:=AU hg rfl
   have e3:AV (.ptr n 3) G H4=some vm:=AU hg rfl
   have lb:lenV vb=some (.int .i64 (.ofNat f.bodies.length) 0):=by rw[hb.el.len,List.length_zipWith,hb.len,Nat.min_self]
   have lm:lenV vm=some (.int .i64 (.ofNat f.face.ms.length) 0):=hf.ms.len'
   simp only[Bool.not_true,go_sem,Nat.reduceAdd,e9,e3,lb,lm,ASj]
   cases h3:decide (f.bodies.length=f.face.ms.length)with
   |false=>rw[h3]at hk;simp only[Bool.not_false,go_sem];exact hk _ _ f5
   |true=>
    rw[h3]at hk
    simp only[Bool.not_true,go_sem,Nat.reduceAdd,e9,lb]
    exact ADy hG (c:=f.face) (by have:=f2.le;have:=f4.le;omega) (hf.ms.kp f5) (hp.kp f5) (hb.kp f5) (of_decide_eq_true h3) (ABO h1) hg λH' n' f'=>hk _ _ (f5.trans f')
end Go.RL
