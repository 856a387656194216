/- Part of a proof; nothing is assumed. -/
import Derived.Test.YtibbhhkcjjeclaaDoorPlainR
import Derived.Test.YtibbhhkcjjeclaaDoorWalk
set_option linter.unusedVariables false
set_option linter.unusedSimpArgs false
noncomputable section
namespace Go.RL
open Go.Bv
set_option maxRecDepth 100000
theorem o9(b:Bool)(x y:V):Az (.bool b) x y=some (bif b then x else y):=by cases b<;>rfl
theorem Bl(b:Bool):FD (.bool b)=some (.bool (!b)):=qU b
def upper(l c:Nat):Bool:=decide (0<l)&&(decide (65<=c%256)&&decide (c%256<=90))
def isClass(l c:Nat)(arr:Bool):Bool:= !arr&&upper l c
theorem uo{G:AX}{l c:Nat}{H:Heap}{n:Nat}{k:KV}(hk:∀H' n',Kp H n H' n'->k (.agg [.str l c,.bool false]) H' n'):Runs F G Lr [.str l c] H n k:=by
 refine BL (s:=Lu (lu lfp G)) yx (by obtain⟨h,o⟩:=ADy BK G;rw[yx]at h;cases h;exact o) ?_
 show lu lfp G (Runs F G) (.str l c) H n k
 delta lu
 simp only[go_sem,Nat.reduceAdd,show BA [.str 0 0,.bool false] [(0,1,.c (.str l c))]=some (.agg [.str l c,.bool false])from rfl]
 exact hk _ _ (((Kp.refl H n).new (m:=n+1) _ (Nat.le_refl _) (by omega)).new _ (Nat.le_refl _) (Nat.le_refl _))
theorem AOH(a b l c:Nat):Cc (.one .str) true (.str a b) (.str l c)=some (.bool (!decide (a=l/\b=c))):=by
 show ofB (Qu (some (band (Nat.beq a l) (Nat.beq b c))) λb=>some (Z8 b))=_
 have:band (Nat.beq a l) (Nat.beq b c)=decide (a=l/\b=c):=by rw[BP,Bool.eq_iff_iff];simp
 rw[this];cases decide (a=l/\b=c)<;>rfl
theorem AUH{l c:Nat}(h:0<l):ANc (.str l c) (.int .i64 (.ofNat 0) 0)=some (.int .u8 (.ofNat (c%256)) 0):=by
 show BQ (Nat.blt 0 l) (GX (AMf c 0) λb=>some (.int .u8 (.ofNat b) 0))=_
 have:Nat.blt 0 l=true:=by rw[Nat.blt_eq];exact h
 rw[this,EJ]
 show some (V.int .u8 (.ofNat (c/1%256)) 0)=_
 rw[Nat.div_one]
theorem AUd(q:IntKind)(a b:Nat):B2.ev .geq (.int q (.ofNat a) 0) (.int q (.ofNat b) 0)=some (.bool (decide (b<=a))):=by
 show BQ (band (keq q q) true) (mkB (ile (.ofNat b) (.ofNat a)))=_
 rw[Sm,tu,show band (keq q q) true=true by simp[OE],show decide (Int.ofNat b<=Int.ofNat a)=decide (b<=a)by rw[decide_eq_decide];show(b:Int)<=a↔_;omega];rfl
theorem AJL(q:IntKind)(a b:Nat):B2.ev .leq (.int q (.ofNat a) 0) (.int q (.ofNat b) 0)=some (.bool (decide (a<=b))):=by
 show BQ (band (keq q q) true) (mkB (ile (.ofNat a) (.ofNat b)))=_
 rw[Sm,tu,show band (keq q q) true=true by simp[OE],show decide (Int.ofNat a<=Int.ofNat b)=decide (a<=b)by rw[decide_eq_decide];show(a:Int)<=b↔_;omega];rfl
theorem ou{G:AX}{l c:Nat}{arr:Bool}(hl:l=0->c=0){H:Heap}{n:Nat}{k:KV}(hk:∀H' n',Kp H n H' n'->k (.bool (isClass l c arr)) H' n'):Runs F G CY [.agg [.str l c,.bool arr]] H n k:=by
 refine BL (s:=Lu (OZ lfp G)) Vu (by obtain⟨h,o⟩:=ah BK G;rw[Vu]at h;cases h;exact o) ?_
 show OZ lfp G (Runs F G) (.agg [.str l c,.bool arr]) H n k
 delta OZ
 simp only[go_sem,Nat.reduceAdd,Bl]
 cases arr with
 |true=>
  simp only[go_sem,Nat.reduceAdd,Bool.not_true]
  exact hk _ _ ((Kp.refl H n).new _ (Nat.le_refl _) (by omega))
 |false=>
  simp only[go_sem,Nat.reduceAdd,Bool.not_false,AOH]
  by_cases h0:l=0/\c=0
  ·simp only[h0,and_self,decide_true,Bool.not_true,go_sem]
   have:isClass l c false=false:=by simp[isClass,upper,h0]
   rw[this]at hk
   exact hk _ _ ((Kp.refl H n).new _ (Nat.le_refl _) (by omega))
  ·have hl0:0<l:=by rcases Nat.eq_zero_or_pos l with h|h;exact absurd ⟨h,hl h⟩ h0;exact h
   simp only[h0,decide_false,Bool.not_false,go_sem,AUH hl0,AUd,AJL]
   have e:isClass l c false=(decide (65<=c%256)&&decide (c%256<=90)):=by simp[isClass,upper,hl0]
   rw[e]at hk
   cases h1:decide (65<=c%256)with
   |false=>
    simp only[go_sem]
    rw[h1]at hk
    exact hk _ _ ((Kp.refl H n).new _ (Nat.le_refl _) (by omega))
   |true=>
    simp only[go_sem,AUH hl0,AJL]
    rw[h1]at hk
    exact hk _ _ ((Kp.refl H n).new _ (Nat.le_refl _) (by omega))
theorem AQJ(l c:Nat):Ql (.str l c)=some (.int .i64 (.ofNat l) 0):=rfl
def vP(l c:Nat):Bool:=decide (l=3/\c=7630441)||(decide (l=4/\c=1819242338)||(upper l c&&decide (l<=40)))
theorem yR{G:AX}{l c:Nat}{arr:Bool}(hl:l=0->c=0){H:Heap}{n:Nat}{k:KV}(hk:∀H' n',Kp H n H' n'->k (.bool (vP l c)) H' n'):Runs F G Qv [.agg [.str l c,.bool arr]] H n k:=by
 refine BL (s:=Lu (XI lfp G)) jT (by obtain⟨h,o⟩:=vN BK G;rw[jT]at h;cases h;exact o) ?_
 show XI lfp G (Runs F G) (.agg [.str l c,.bool arr]) H n k
 delta XI
 unfold vP at hk
 have f1:Kp H n (T.set H n (one [.str l c,.bool arr])) (n+1):=(Kp.refl H n).new _ (Nat.le_refl _) (by omega)
 simp only[go_sem,AB7]
 cases h1:decide (l=3/\c=7630441)with
 |true=>
  simp only[go_sem]
  rw[h1]at hk
  exact hk _ _ f1
 |false=>
  rw[h1]at hk
  simp only[go_sem,AB7]
  cases h2:decide (l=4/\c=1819242338)with
  |true=>
   simp only[go_sem]
   rw[h2]at hk
   exact hk _ _ f1
  |false=>
   rw[h2]at hk
   simp only[go_sem]
   refine uo λH1 n1 f2=>?_
   refine ou hl λH2 n2 f3=>?_
   have f4:=f1.trans (f2.trans f3)
   have e:isClass l c false=upper l c:=by simp[isClass]
   rw[e]
   cases h3:upper l c with
   |false=>
    simp only[go_sem]
    rw[h3]at hk
    exact hk _ _ f4
   |true=>
    rw[h3]at hk
    have hg:T.get H2 n=some (one [.str l c,.bool arr]):=by rw[f3.same n (by have:=f2.le;omega),f2.same n (by omega),T.Ai]
    simp only[go_sem,AU (off:=0) hg (v:=.str l c) rfl,AQJ,AJL]
    exact hk _ _ f4
theorem AFN{G:AX}{l c:Nat}(hl:l=0->c=0){H:Heap}{n:Nat}{k:KV}(hk:∀H' n',Kp H n H' n'->k (.bool (upper l c&&decide (l<=40))) H' n'):Runs F G Wq [.str l c] H n k:=by
 refine BL (s:=Lu (UF lfp G)) Yz (by obtain⟨h,o⟩:=lU BK G;rw[Yz]at h;cases h;exact o) ?_
 show UF lfp G (Runs F G) (.str l c) H n k
 delta UF
 refine uo λH1 n1 f2=>?_
 refine ou hl λH2 n2 f3=>?_
 have e:isClass l c false=upper l c:=by simp[isClass]
 rw[e]
 cases h3:upper l c<;>simp only[go_sem,AQJ,AJL]<;>rw[h3]at hk<;>exact hk _ _ (f2.trans f3)
abbrev St:=Nat×Nat
def St.v(s:St):V:=.str s.1 s.2
def strs(xs:List St):ET:=xs.map λs=>[St.v s]
theorem GZ(xs:List St):(strs xs).length=xs.length:=List.length_map ..
theorem PL{xs:List St}{i:Nat}(h:i<xs.length):(strs xs)[i]? =some [St.v xs[i]]:=by simp[strs,h]
def AD3(s:St):List St->Nat->Int
 |[],_=>.negSucc 0
 |x::xs,i=>bif decide (s.1=x.1/\s.2=x.2)then .ofNat i else AD3 s xs (i+1)
def iL(s:St)(xs:List St):Bool:=xs.any λx=>decide (s.1=x.1/\s.2=x.2)
theorem AHa(s:St):∀(xs:List St) (i:Nat),decide ((0:Int)<=AD3 s xs i)=iL s xs
 |[],_=>rfl
 |x::xs,i=>by
  unfold AD3
  show _=(decide (s.1=x.1/\s.2=x.2)||iL s xs)
  cases h:decide (s.1=x.1/\s.2=x.2)with
  |true=>simp
  |false=>simpa using AHa s xs (i+1)
theorem Bh{i m:Nat}:B2.ev .lss (.int .i64 (.ofNat i) 0) (.int .i64 (.ofNat m) 0)=some (.bool (decide (i<m))):=by
 rw[ANL];congr 2;rw[decide_eq_decide];show(i:Int)<m↔_;omega
theorem APn{G:AX}{v:V}{xs:List St}{s:St}{H:Heap}{n:Nat}{k:KV}(h:El G H v 1 (strs xs))(hb:xs.length<9223372036854775808)(hk:k (.int .i64 (AD3 s xs 0) 0) H n):
 Runs F G Pq [v,s.v] H n k:=by
 refine BL (s:=TY (EO lfp G)) JI (by obtain⟨h,o⟩:=Oh BK G;rw[JI]at h;cases h;exact o) ?_
 show EO lfp G (Runs F G) v s.v H n k
 delta EO
 rw[h.len,AB,GZ]
 refine JG (J:=λm st=>∃i,m=xs.length-i/\i<=xs.length/\st=(v,s.v,.int .i64 (.ofNat xs.length) 0,.int .i64 (.ofNat i) 0,H,n)/\k (.int .i64 (AD3 s (xs.drop i) i) 0) H n) ?_ (m:=xs.length) ⟨0,rfl,Nat.zero_le _,rfl,hk⟩
 rintro I m st ⟨i,rfl,hi,rfl,hk⟩ ih
 show IK lfp G (Runs F G) k I v s.v (.int .i64 (.ofNat xs.length) 0) (.int .i64 (.ofNat i) 0) H n
 delta IK
 by_cases hlt:i<xs.length
 ·obtain⟨p,hp,hld⟩:=h.at (PL hlt)
  rw[List.drop_eq_getElem_cons hlt]at hk
  unfold AD3 at hk
  simp only[go_sem,Bh,hlt,decide_true,hp,Ld hld,St.v,AB7]
  cases he:decide (s.1=xs[i].1/\s.2=xs[i].2)with
  |true=>simp only[go_sem];rw[he]at hk;exact hk
  |false=>
   simp only[go_sem,DJ (show i+1<9223372036854775808 by omega)]
   rw[he]at hk
   exact ih _ _ (by omega) ⟨i+1,rfl,hlt,rfl,hk⟩
 ·simp only[go_sem,Bh,hlt,decide_false]
  delta II
  rw[List.drop_eq_nil_of_le (by omega)]at hk
  exact hk
theorem AJB(a:Int):B2.ev .geq (.int .i64 a 0) (.int .i64 (.ofNat 0) 0)=some (.bool (decide (0<=a))):=by
 show BQ (band (keq .i64 .i64) true) (mkB (ile (.ofNat 0) a))=_
 rw[Sm,tu];rfl
theorem uY{G:AX}{v:V}{xs:List St}{s:St}{H:Heap}{n:Nat}{k:KV}(h:El G H v 1 (strs xs))(hb:xs.length<9223372036854775808)(hk:k (.bool (iL s xs)) H n):
 Runs F G Eu [v,s.v] H n k:=by
 refine BL (s:=TY (Du lfp G)) Hr (by obtain⟨h,o⟩:=MI BK G;rw[Hr]at h;cases h;exact o) ?_
 show Du lfp G (Runs F G) v s.v H n k
 delta Du
 refine APn h hb ?_
 simp only[go_sem,AJB,AHa]
 exact hk
structure Ty where
 nm:St
 arr:Bool
def Ty.cells(t:Ty):LV:=[t.nm.v,.bool t.arr]
def Ty.v(t:Ty):V:=.agg t.cells
def Ty.is(a b:Ty):Bool:=decide (a.nm.1=b.nm.1/\a.nm.2=b.nm.2)&&(a.arr==b.arr)
def tys(xs:List Ty):ET:=xs.map Ty.cells
theorem Fq(xs:List Ty):(tys xs).length=xs.length:=List.length_map ..
theorem Ug{xs:List Ty}{i:Nat}(h:i<xs.length):(tys xs)[i]? =some xs[i].cells:=by simp[tys,h]
theorem ATJ(a b:St):CK.eq .str a.v b.v=some (decide (a.1=b.1/\a.2=b.2)):=by
 show some (band (Nat.beq a.1 b.1) (Nat.beq a.2 b.2))=_
 rw[show band (Nat.beq a.1 b.1) (Nat.beq a.2 b.2)=decide (a.1=b.1/\a.2=b.2)by rw[BP,Bool.eq_iff_iff];simp]
theorem AUl(a b:Bool):CK.eq .bool (.bool a) (.bool b)=some (a==b):=by cases a<;>cases b<;>rfl
theorem AML(a b:Ty):(EK.agg [.str,.bool]).eq a.v b.v=some (a.is b):=
 show ABK [.str,.bool] a.cells b.cells=_ from Yp.2 ⟨_,_,ATJ _ _,Yp.2 ⟨_,true,AUl _ _,rfl,rfl⟩,by simp[Ty.is]⟩
theorem lH(a b:Ty):Cc (.agg [.str,.bool]) false a.v b.v=some (.bool (a.is b)):=by
 show ofB (Qu ((EK.agg [.str,.bool]).eq a.v b.v) λb=>some b)=_
 rw[AML];cases a.is b<;>rfl
theorem AGr(a b:Ty):Cc (.agg [.str,.bool]) true a.v b.v=some (.bool (!a.is b)):=by
 show ofB (Qu ((EK.agg [.str,.bool]).eq a.v b.v) λb=>some (Z8 b))=_
 rw[AML];cases a.is b<;>rfl
def gG:List Ty->List Ty->Bool
 |[],[]=>true
 |a::l,b::r=>a.is b&&gG l r
 |_,_=>false
theorem ADe:∀{l r:List Ty},gG l r=true->l.length=r.length
 |[],[],_=>rfl
 |a::l,b::r,h=>by simp[gG]at h;simp[ADe h.2]
 |[],_::_,h=>by cases h
 |_::_,[],h=>by cases h
theorem ATa{i m:Nat}:Cc (.one .int) true (.int .i64 (.ofNat i) 0) (.int .i64 (.ofNat m) 0)=some (.bool (!decide (i=m))):=by
 rw[ALt,show(Int.ofNat i==Int.ofNat m)=decide (i=m)by rw[Bool.eq_iff_iff];simp;omega]
theorem ANt{G:AX}{v w:V}{xs ys:List Ty}{H:Heap}{n:Nat}{k:KV}(h:El G H v 2 (tys xs))(h2:El G H w 2 (tys ys))(hb:xs.length<9223372036854775808)(hk:k (.bool (gG xs ys)) H n):
 Runs F G MW [v,w] H n k:=by
 refine BL (s:=TY (DZ lfp G)) Gw (by obtain⟨h,o⟩:=LY BK G;rw[Gw]at h;cases h;exact o) ?_
 show DZ lfp G (Runs F G) v w H n k
 delta DZ
 simp only[go_sem,h.len,h2.len,Fq,ATa]
 by_cases hl:xs.length=ys.length
 ·simp only[hl,decide_true,Bool.not_true,go_sem]
  refine JG (J:=λm st=>∃i,m=ys.length-i/\i<=ys.length/\st=(v,w,.int .i64 (.ofNat ys.length) 0,.int .i64 (.ofNat i) 0,H,n)/\k (.bool (gG (xs.drop i) (ys.drop i))) H n) ?_ (m:=ys.length) ⟨0,rfl,Nat.zero_le _,rfl,hk⟩
  rintro I m st ⟨i,rfl,hi,rfl,hk⟩ ih
  show F8 lfp G (Runs F G) k I v w (.int .i64 (.ofNat ys.length) 0) (.int .i64 (.ofNat i) 0) H n
  delta F8
  by_cases hlt:i<ys.length
  ·have hlt':i<xs.length:=by omega
   obtain⟨p,hp,hld⟩:=h.at (Ug hlt')
   obtain⟨p2,hp2,hld2⟩:=h2.at (Ug hlt)
   rw[List.drop_eq_getElem_cons hlt,List.drop_eq_getElem_cons hlt']at hk
   unfold gG at hk
   have e:=AGr xs[i] ys[i]
   unfold Ty.v at e
   simp only[go_sem,Bh,hlt,decide_true,hp,hp2,Bq hld,Bq hld2,e]
   cases he:xs[i].is ys[i]with
   |false=>rw[he]at hk;simp only[Bool.not_false,go_sem];exact hk
   |true=>
    simp only[Bool.not_true,go_sem,DJ (show i+1<9223372036854775808 by omega)]
    rw[he]at hk
    exact ih _ _ (by omega) ⟨i+1,rfl,hlt,rfl,hk⟩
  ·simp only[go_sem,Bh,hlt,decide_false]
   delta F7
   rw[List.drop_eq_nil_of_le (by omega),List.drop_eq_nil_of_le (by omega)]at hk
   exact hk
 ·have:gG xs ys=false:=by cases h:gG xs ys;rfl;exact absurd (ADe h) hl
  rw[this]at hk
  simp only[hl,decide_false,Bool.not_false,go_sem]
  exact hk
def Lo(v:V)(n:Nat):Prop:=∀id,v.X4=some id->id<n
theorem _root_.Go.Bv.El.kp{G:AX}{H H':Heap}{v:V}{z n n':Nat}{LS:ET}(h:El G H v z LS)(hl:Lo v n)(f:Kp H n H' n'):El G H' v z LS:=h.same λid hid=>f.same id (hl id hid)
theorem Lo.mono{v:V}{n n':Nat}(h:Lo v n)(hn:n<=n'):Lo v n':=λid hid=>Nat.lt_of_lt_of_le (h id hid) hn
def findF(g:Ty->Bool):List Ty->Nat->Int
 |[],_=>.negSucc 0
 |x::xs,i=>bif g x then .ofNat i else findF g xs (i+1)
theorem AGV(g:Ty->Bool):∀(xs:List Ty) (i:Nat),decide ((0:Int)<=findF g xs i)=xs.any g
 |[],_=>rfl
 |x::xs,i=>by
  unfold findF
  show _=(g x||xs.any g)
  cases h:g x with
  |true=>simp
  |false=>simpa using AGV g xs (i+1)
theorem AGY{G:AX}{v:V}{xs:List Ty}{p:Nat}{g:Ty->Bool}{H:Heap}{n:Nat}{k:KV}(h:El G H v 2 (tys xs))(hlo:Lo v n)(hb:xs.length<9223372036854775808)
 (hg:∀t∈xs,∀{H n} {k:KV},(∀H' n',Kp H n H' n'->k (.bool (g t)) H' n')->Runs F G p [t.v] H n k)
 (hk:∀H' n',Kp H n H' n'->k (.int .i64 (findF g xs 0) 0) H' n'):
 Runs F G Jv [v,.fn p [] []] H n k:=by
 refine BL (s:=TY (Ce lfp G)) FK (by obtain⟨h,o⟩:=JV BK G;rw[FK]at h;cases h;exact o) ?_
 show Ce lfp G (Runs F G) v (.fn p [] []) H n k
 delta Ce
 rw[h.len,AB,Fq]
 refine JG (J:=λm st=>∃i H2 n2,m=xs.length-i/\i<=xs.length/\st=(v,.fn p [] [],.int .i64 (.ofNat xs.length) 0,.int .i64 (.ofNat i) 0,H2,n2)/\Kp H n H2 n2/\(∀H' n',Kp H n H' n'->k (.int .i64 (findF g (xs.drop i) i) 0) H' n')) ?_ (m:=xs.length) ⟨0,H,n,rfl,Nat.zero_le _,rfl,Kp.refl _ _,hk⟩
 rintro I m st ⟨i,H2,n2,rfl,hi,rfl,f,hk⟩ ih
 show Et lfp G (Runs F G) k I v (.fn p [] []) (.int .i64 (.ofNat xs.length) 0) (.int .i64 (.ofNat i) 0) H2 n2
 delta Et
 by_cases hlt:i<xs.length
 ·obtain⟨q,hp,hld⟩:=(h.kp hlo f).at (Ug hlt)
  rw[List.drop_eq_getElem_cons hlt]at hk
  unfold findF at hk
  simp only[go_sem,Bh,hlt,decide_true,hp,Bq hld]
  show Runs F G p [xs[i].v] H2 n2 _
  refine hg _ (List.getElem_mem hlt) λH3 n3 f3=>?_
  cases he:g xs[i]with
  |true=>simp only[go_sem];rw[he]at hk;exact hk _ _ (f.trans f3)
  |false=>
   simp only[go_sem,DJ (show i+1<9223372036854775808 by omega)]
   rw[he]at hk
   exact ih _ _ (by omega) ⟨i+1,_,_,rfl,hlt,rfl,f.trans f3,hk⟩
 ·simp only[go_sem,Bh,hlt,decide_false]
  delta Ep
  rw[List.drop_eq_nil_of_le (by omega)]at hk
  exact hk _ _ f
theorem AA4{G:AX}{v:V}{xs:List Ty}{p:Nat}{g:Ty->Bool}{H:Heap}{n:Nat}{k:KV}(h:El G H v 2 (tys xs))(hlo:Lo v n)(hb:xs.length<9223372036854775808)
 (hg:∀t∈xs,∀{H n} {k:KV},(∀H' n',Kp H n H' n'->k (.bool (g t)) H' n')->Runs F G p [t.v] H n k)
 (hk:∀H' n',Kp H n H' n'->k (.bool (xs.any g)) H' n'):
 Runs F G Es [v,.fn p [] []] H n k:=by
 refine BL (s:=TY (CQ lfp G)) EX (by obtain⟨h,o⟩:=Ih BK G;rw[EX]at h;cases h;exact o) ?_
 show CQ lfp G (Runs F G) v (.fn p [] []) H n k
 delta CQ
 refine AGY h hlo hb hg λH' n' f=>?_
 simp only[go_sem,AJB,AGV]
 exact hk _ _ f
def St.ok(s:St):Prop:=s.1=0->s.2=0
def Td(s:St):Bool:=vP s.1 s.2
theorem AEq{G:AX}{t:Ty}(ht:t.nm.ok){H:Heap}{n:Nat}{k:KV}(hk:∀H' n',Kp H n H' n'->k (.bool (!Td t.nm)) H' n'):Runs F G TL [t.v] H n k:=by
 refine BL (s:=Lu (Jt lfp G)) Q8 (by obtain⟨h,o⟩:=XT BK G;rw[Q8]at h;cases h;exact o) ?_
 show Jt lfp G (Runs F G) t.v H n k
 delta Jt
 simp only[Ty.v,Ty.cells,St.v,go_sem]
 refine yR ht λH1 n1 f=>?_
 simp only[Bl,go_sem]
 exact hk _ _ (((Kp.refl H n).new (m:=n+1) _ (Nat.le_refl _) (by omega)).trans f)
theorem AK8{G:AX}{v:V}{xs:List Ty}{H:Heap}{n:Nat}{k:KV}(h:El G H v 2 (tys xs))(hlo:Lo v n)(hb:xs.length<9223372036854775808)(ho:∀t∈xs,t.nm.ok)
 (hk:∀H' n',Kp H n H' n'->k (.bool (xs.any λt=> !Td t.nm)) H' n'):Runs F G Es [v,.fn TL [] []] H n k:=
 AA4 (p:=TL) h hlo hb (λt ht {_ _ _} hk=>AEq (ho t ht) hk) hk
abbrev big:Nat:=9223372036854775808
structure ku where
 nm:St
 ty:Ty
def ku.cells(f:ku):LV:=[f.nm.v,f.ty.nm.v,.bool f.ty.arr]
structure DK where
 nm:St
 st:Bool
 ps:List Ty
 ret:Ty
def DK.cells(m:DK)(v:V):LV:=[m.nm.v,.bool m.st,v,m.ret.nm.v,.bool m.ret.arr]
structure KI(G:AX)(H:Heap)(n:Nat)(v:V)(xs:List Ty):Prop where
 el:El G H v 2 (tys xs)
 lo:Lo v n
 lt:xs.length<big
 ok:∀t∈xs,t.nm.ok
structure TR(G:AX)(H:Heap)(n:Nat)(v:V)(fs:List ku):Prop where
 el:El G H v 3 (fs.map ku.cells)
 lo:Lo v n
 lt:fs.length<big
 ok:∀f∈fs,f.nm.ok/\f.ty.nm.ok
structure MQ(G:AX)(H:Heap)(n:Nat)(v:V)(ms:List DK)(ws:List V):Prop where
 el:El G H v 5 (List.zipWith DK.cells ms ws)
 lo:Lo v n
 lt:ms.length<big
 len:ws.length=ms.length
 at':∀(i:Nat) (m:DK) (w:V),ms[i]? =some m->ws[i]? =some w->KI G H n w m.ps
 ok:∀m∈ms,m.nm.ok/\m.ret.nm.ok
section
variable{G:AX}{H H':Heap}{n n':Nat}{v:V}
theorem KI.kp{xs:List Ty}(h:KI G H n v xs)(f:Kp H n H' n'):KI G H' n' v xs:=⟨h.el.kp h.lo f,h.lo.mono f.le,h.lt,h.ok⟩
theorem TR.kp{xs:List ku}(h:TR G H n v xs)(f:Kp H n H' n'):TR G H' n' v xs:=⟨h.el.kp h.lo f,h.lo.mono f.le,h.lt,h.ok⟩
theorem MQ.kp{xs:List DK}{ws:List V}(h:MQ G H n v xs ws)(f:Kp H n H' n'):MQ G H' n' v xs ws:=
 ⟨h.el.kp h.lo f,h.lo.mono f.le,h.lt,h.len,λi m w a b=>(h.at' i m w a b).kp f,h.ok⟩
theorem TR.len{xs:List ku}(h:TR G H n v xs):lenV v=some (.int .i64 (.ofNat xs.length) 0):=by rw[h.el.len,List.length_map]
theorem KI.len{xs:List Ty}(h:KI G H n v xs):lenV v=some (.int .i64 (.ofNat xs.length) 0):=by rw[h.el.len,Fq]
theorem MQ.len'{xs:List DK}{ws:List V}(h:MQ G H n v xs ws):lenV v=some (.int .i64 (.ofNat xs.length) 0):=by
 rw[h.el.len,List.length_zipWith,h.len,Nat.min_self]
theorem TR.at{xs:List ku}(h:TR G H n v xs){i:Nat}(hi:i<xs.length):∃p,Ad 3 v (.int .i64 (.ofNat i) 0)=some p/\lC p G H 3=some xs[i].cells:=
 h.el.at (by simp[hi])
theorem MQ.at{xs:List DK}{ws:List V}(h:MQ G H n v xs ws){i:Nat}(hi:i<xs.length):
 ∃p w,Ad 5 v (.int .i64 (.ofNat i) 0)=some p/\lC p G H 5=some (xs[i].cells w)/\KI G H n w xs[i].ps:=by
 have hw:i<ws.length:=by rw[h.len];exact hi
 obtain⟨p,h1,h2⟩:=h.el.at (i:=i) (c:=xs[i].cells ws[i]) (by rw[List.getElem?_zipWith];simp[hi,hw])
 exact⟨p,ws[i],h1,h2,h.at' i _ _ (List.getElem?_eq_getElem hi) (List.getElem?_eq_getElem hw)⟩
end
def leS(a b:St):Bool:=Z8 (slt b.1 b.2 a.1 a.2)
theorem AP6(a b:St):B2.ev .leq a.v b.v=some (.bool (leS a b)):=by
 show mkB (Z8 (slt b.1 b.2 a.1 a.2))=_
 rw[Sm];rfl
theorem Iu(q:IntKind)(a b:Nat):B2.ev .gtr (.int q (.ofNat a) 0) (.int q (.ofNat b) 0)=some (.bool (decide (b<a))):=by
 show BQ (band (keq q q) true) (mkB (ilt (.ofNat b) (.ofNat a)))=_
 rw[Sm,Wi,show band (keq q q) true=true by simp[OE],show decide (Int.ofNat b<Int.ofNat a)=decide (b<a)by rw[decide_eq_decide];show(b:Int)<a↔_;omega];rfl
theorem aA(s:St):Ql s.v=some (.int .i64 (.ofNat s.1) 0):=rfl
def tC:St->List ku->Bool
 |_,[]=>true
 |a,f::fs=> !(leS f.nm a)&&(!(decide (40<f.nm.1))&&(Td f.ty.nm&&tC f.nm fs))
def Nb:St->List DK->Bool
 |_,[]=>true
 |a,m::ms=> !(leS m.nm a)&&(!(decide (40<m.nm.1))&&(Td m.ret.nm&&(!(decide (200<m.ps.length))&&(!(m.ps.any λt=> !Td t.nm)&&Nb m.nm ms))))
theorem AGJ{G:AX}{v:V}{ms:List DK}{ws:List V}{H:Heap}{n:Nat}{k:KV}(h:MQ G H n v ms ws){a:St}
 (hk:∀H' n',Kp H n H' n'->k (.bool (Nb a ms)) H' n'):
 lfp (V×V×V×V×Heap×Nat) (Oq lfp G (Runs F G) k) (a.v,v,.int .i64 (.ofNat ms.length) 0,.int .i64 (.ofNat 0) 0,H,n):=by
 refine JG (J:=λm st=>∃i a H2 n2,m=ms.length-i/\i<=ms.length/\st=(St.v a,v,.int .i64 (.ofNat ms.length) 0,.int .i64 (.ofNat i) 0,H2,n2)/\Kp H n H2 n2/\(∀H' n',Kp H n H' n'->k (.bool (Nb a (ms.drop i))) H' n')) ?_ (m:=ms.length) ⟨0,a,H,n,rfl,Nat.zero_le _,rfl,Kp.refl _ _,hk⟩
 rintro I m st ⟨i,a,H2,n2,rfl,hi,rfl,f,hk⟩ ih
 show QO lfp G (Runs F G) k I a.v v (.int .i64 (.ofNat ms.length) 0) (.int .i64 (.ofNat i) 0) H2 n2
 delta QO
 by_cases hlt:i<ms.length
 ·obtain⟨q,w,hp,hld,hw⟩:=(h.kp f).at hlt
  have hok:=h.ok _ (List.getElem_mem hlt)
  rw[List.drop_eq_getElem_cons hlt]at hk
  unfold Nb at hk
  generalize ms[i]=m at hok hld hw hk
  have hbig:=h.lt
  unfold DK.cells at hld
  simp only[go_sem,Nat.reduceAdd,Bh,hlt,decide_true,hp,Bq hld]
  have f2:Kp H n (T.set (T.set H2 n2 (one [.str 0 0,.bool false,.AZ,.str 0 0,.bool false])) n2 (one [m.nm.v,.bool m.st,w,m.ret.nm.v,.bool m.ret.arr])) (n2+1):=
   (f.new (m:=n2+1) _ f.le (by omega)).new _ f.le (Nat.le_refl _)
  have hw:=hw.kp (n':=n2+1) (H':=(T.set (T.set H2 n2 (one [.str 0 0,.bool false,.AZ,.str 0 0,.bool false])) n2 (one [m.nm.v,.bool m.st,w,m.ret.nm.v,.bool m.ret.arr]))) (((Kp.refl H2 n2).new (m:=n2+1) _ (Nat.le_refl _) (by omega)).new _ (Nat.le_refl _) (Nat.le_refl _))
  have hg:=T.Ai (T.set H2 n2 (one [.str 0 0,.bool false,.AZ,.str 0 0,.bool false])) n2 (one [m.nm.v,.bool m.st,w,m.ret.nm.v,.bool m.ret.arr])
  generalize T.set (T.set H2 n2 (one [.str 0 0,.bool false,.AZ,.str 0 0,.bool false])) n2 (one [m.nm.v,.bool m.st,w,m.ret.nm.v,.bool m.ret.arr])=H3 at f2 hw hg⊢
  simp only[go_sem,Nat.reduceAdd,AU (off:=0) hg (v:=m.nm.v) rfl,AP6,aA,Iu]
  cases h1:leS m.nm a with
  |true=>
   simp only[go_sem,AU (off:=0) hg (v:=m.nm.v) rfl,aA,Iu]
   rw[h1]at hk
   exact hk _ _ f2
  |false=>
   simp only[go_sem,AU (off:=0) hg (v:=m.nm.v) rfl,aA,Iu]
   rw[h1]at hk
   cases h2:decide (40<m.nm.1)with
   |true=>
    simp only[go_sem]
    rw[h2]at hk
    exact hk _ _ f2
   |false=>
    rw[h2]at hk
    have hl:Ae 2 (.ptr n2 3) G H3=some (.agg [m.ret.nm.v,.bool m.ret.arr]):=Hy hg (by omega) (by show 5<=5;omega)
    simp only[go_sem,Nat.reduceAdd,hl]
    refine yR hok.2 λH4 n4 f4=>?_
    simp only[Bl,go_sem]
    have f5:=f2.trans f4
    have hw:=hw.kp f4
    have hg:T.get H4 n2=_:=(f4.same n2 (by omega)).trans hg
    show _
    cases h3:vP m.ret.nm.1 m.ret.nm.2 with
    |false=>
     simp only[Bool.not_false,go_sem]
     rw[show Td m.ret.nm=false from h3]at hk
     exact hk _ _ f5
    |true=>
     rw[show Td m.ret.nm=true from h3]at hk
     simp only[Bool.not_true,go_sem,AU (off:=2) hg (v:=w) rfl,hw.len,Iu]
     cases h4:decide (200<m.ps.length)with
     |true=>
      simp only[go_sem]
      rw[h4]at hk
      exact hk _ _ f5
     |false=>
      rw[h4]at hk
      simp only[go_sem,AU (off:=2) hg (v:=w) rfl]
      refine AK8 hw.el hw.lo hw.lt hw.ok λH6 n6 f6=>?_
      have hg:T.get H6 n2=_:=(f6.same n2 (by have:=f4.le;omega)).trans hg
      have f7:=f5.trans f6
      cases h5:m.ps.any λt=> !Td t.nm with
      |true=>
       simp only[go_sem]
       rw[h5]at hk
       exact hk _ _ f7
      |false=>
       rw[h5]at hk
       simp only[go_sem,AU (off:=0) hg (v:=m.nm.v) rfl,DJ (show i+1<9223372036854775808 by unfold big at hbig;omega)]
       exact ih _ _ (by omega) ⟨i+1,m.nm,_,_,rfl,hlt,rfl,f7,hk⟩
 ·simp only[go_sem,Bh,hlt,decide_false]
  delta QT
  rw[List.drop_eq_nil_of_le (by omega)]at hk
  exact hk _ _ f
theorem AIv{G:AX}{v w nm sp:V}{fs:List ku}{ms:List DK}{ws:List V}{H:Heap}{n b:Nat}{k:KV}(h:TR G H n v fs)(h2:MQ G H n w ms ws){a:St}
 (hb:b<n) (hbx:T.get H b=some (one [nm,sp,v,w]))
 (hk:∀H' n',Kp H n H' n'->k (.bool (tC a fs&&Nb (0,0) ms)) H' n'):
 lfp (V×V×V×V×V×Heap×Nat) (J5 lfp G (Runs F G) k) (.ptr b 0,a.v,v,.int .i64 (.ofNat fs.length) 0,.int .i64 (.ofNat 0) 0,H,n):=by
 refine JG (J:=λm st=>∃i a H2 n2,m=fs.length-i/\i<=fs.length/\st=(.ptr b 0,St.v a,v,.int .i64 (.ofNat fs.length) 0,.int .i64 (.ofNat i) 0,H2,n2)/\Kp H n H2 n2/\(∀H' n',Kp H n H' n'->k (.bool (tC a (fs.drop i)&&Nb (0,0) ms)) H' n')) ?_ (m:=fs.length) ⟨0,a,H,n,rfl,Nat.zero_le _,rfl,Kp.refl _ _,hk⟩
 rintro I m st ⟨i,a,H2,n2,rfl,hi,rfl,f,hk⟩ ih
 show QI lfp G (Runs F G) k I (.ptr b 0) a.v v (.int .i64 (.ofNat fs.length) 0) (.int .i64 (.ofNat i) 0) H2 n2
 delta QI
 by_cases hlt:i<fs.length
 ·obtain⟨q,hp,hld⟩:=(h.kp f).at hlt
  have hok:=h.ok _ (List.getElem_mem hlt)
  rw[List.drop_eq_getElem_cons hlt]at hk
  unfold tC at hk
  generalize fs[i]=m at hok hld hk
  have hbig:=h.lt
  unfold ku.cells at hld
  simp only[go_sem,Nat.reduceAdd,Bh,hlt,decide_true,hp,Bq hld]
  have f2:Kp H n (T.set (T.set H2 n2 (one [.str 0 0,.str 0 0,.bool false])) n2 (one [m.nm.v,m.ty.nm.v,.bool m.ty.arr])) (n2+1):=
   (f.new (m:=n2+1) _ f.le (by omega)).new _ f.le (Nat.le_refl _)
  have hg:=T.Ai (T.set H2 n2 (one [.str 0 0,.str 0 0,.bool false])) n2 (one [m.nm.v,m.ty.nm.v,.bool m.ty.arr])
  generalize T.set (T.set H2 n2 (one [.str 0 0,.str 0 0,.bool false])) n2 (one [m.nm.v,m.ty.nm.v,.bool m.ty.arr])=H3 at f2 hg⊢
  simp only[go_sem,Nat.reduceAdd,AU (off:=0) hg (v:=m.nm.v) rfl,AP6,aA,Iu]
  cases h1:leS m.nm a with
  |true=>
   simp only[go_sem,AU (off:=0) hg (v:=m.nm.v) rfl,aA,Iu]
   rw[h1]at hk
   exact hk _ _ f2
  |false=>
   simp only[go_sem,AU (off:=0) hg (v:=m.nm.v) rfl,aA,Iu]
   rw[h1]at hk
   cases h2:decide (40<m.nm.1)with
   |true=>
    simp only[go_sem]
    rw[h2]at hk
    exact hk _ _ f2
   |false=>
    rw[h2]at hk
    have hl:Ae 2 (.ptr n2 1) G H3=some (.agg [m.ty.nm.v,.bool m.ty.arr]):=Hy hg (by omega) (by show 3<=3;omega)
    simp only[go_sem,Nat.reduceAdd,hl]
    refine yR hok.2 λH4 n4 f4=>?_
    simp only[Bl,go_sem]
    have f5:=f2.trans f4
    have hg:T.get H4 n2=_:=(f4.same n2 (by omega)).trans hg
    show _
    cases h3:vP m.ty.nm.1 m.ty.nm.2 with
    |false=>
     simp only[Bool.not_false,go_sem]
     rw[show Td m.ty.nm=false from h3]at hk
     exact hk _ _ f5
    |true=>
     rw[show Td m.ty.nm=true from h3]at hk
     simp only[Bool.not_true,go_sem,AU (off:=0) hg (v:=m.nm.v) rfl,DJ (show i+1<9223372036854775808 by unfold big at hbig;omega)]
     exact ih _ _ (by omega) ⟨i+1,m.nm,_,_,rfl,hlt,rfl,f5,hk⟩
 ·simp only[go_sem,Bh,hlt,decide_false]
  delta QK
  rw[List.drop_eq_nil_of_le (by omega)]at hk
  have hg:T.get H2 b=_:=(f.same b hb).trans hbx
  have h2:=h2.kp f
  simp only[go_sem,Nat.reduceAdd,AU (off:=3) hg (v:=w) rfl,h2.len']
  exact AGJ (a:=(0,0)) h2 λH' n' f'=>hk _ _ (f.trans f')
structure Fc where
 nm:St
 sup:St
 fs:List ku
 ms:List DK
structure Xx(G:AX)(H:Heap)(n:Nat)(L:LV)(c:Fc)(v w:V)(ws:List V):Prop where
 is:L=[c.nm.v,c.sup.v,v,w]
 fs:TR G H n v c.fs
 ms:MQ G H n w c.ms ws
 ok:c.nm.ok/\c.sup.ok
theorem Xx.kp{G:AX}{H H':Heap}{n n':Nat}{L:LV}{c:Fc}{v w:V}{ws:List V}(h:Xx G H n L c v w ws)(f:Kp H n H' n'):Xx G H' n' L c v w ws:=⟨h.is,h.fs.kp f,h.ms.kp f,h.ok⟩
def lY(s:St):Bool:=upper s.1 s.2
def Us(c:Fc):Bool:=
 lY c.nm&&((decide (c.sup.1=0/\c.sup.2=0)||lY c.sup)&&(!(decide (200<c.fs.length))&&(!(decide (200<c.ms.length))&&(!(decide (40<c.nm.1))&&(!(decide (40<c.sup.1))&&(tC (0,0) c.fs&&Nb (0,0) c.ms))))))
theorem neS(a b:St):Cc (.one .str) true a.v b.v=some (.bool (!decide (a.1=b.1/\a.2=b.2))):=AOH ..
theorem AGx(s:St):isClass s.1 s.2 false=lY s:=by simp[isClass,lY]
theorem zQ{G:AX}{L:LV}{c:Fc}{v w:V}{ws:List V}{H:Heap}{n:Nat}{k:KV}(h:Xx G H n L c v w ws)
 (hk:∀H' n',Kp H n H' n'->k (.bool (Us c)) H' n'):Runs F G VO [.agg L] H n k:=by
 refine BL (s:=Lu (MO lfp G)) UW (by obtain⟨h,o⟩:=ZA BK G;rw[UW]at h;cases h;exact o) ?_
 show MO lfp G (Runs F G) (.agg L) H n k
 obtain⟨rfl,hf,hm,hn,hs⟩:=h
 delta MO
 unfold Us at hk
 simp only[go_sem]
 have f1:Kp H n (T.set H n (one [c.nm.v,c.sup.v,v,w])) (n+1):=(Kp.refl H n).new _ (Nat.le_refl _) (by omega)
 have hg:=T.Ai H n (one [c.nm.v,c.sup.v,v,w])
 generalize T.set H n (one [c.nm.v,c.sup.v,v,w])=H1 at f1 hg⊢
 refine uo λH2 n2 f2=>?_
 refine ou hn λH3 n3 f3=>?_
 rw[AGx,Bl]
 have f:=f1.trans (f2.trans f3)
 have hg:T.get H3 n=_:=(f3.same n (by have:=f2.le;omega)).trans ((f2.same n (by omega)).trans hg)
 have hlt:n<n3:=by have:=f2.le;have:=f3.le;omega
 clear f1 f2 f3
 have tail:∀H3 n3,Kp H n H3 n3->n<n3->T.get H3 n=some (one [c.nm.v,c.sup.v,v,w])->
  (∀H' n',Kp H n H' n'->k (.bool (!(decide (200<c.fs.length))&&(!(decide (200<c.ms.length))&&(!(decide (40<c.nm.1))&&(!(decide (40<c.sup.1))&&(tC (0,0) c.fs&&Nb (0,0) c.ms)))))) H' n')->
  (AL (AQ 2 (.ptr n 0)) λv18=>
  AL (AV v18 G H3) λv19=>
  AL (lenV v19) λv20=>
  AL (B2.ev .gtr v20 (.int .i64 (.ofNat 200) 0)) λv22=>
  Aj v22 false (AQ 3 (.ptr n 0)) λv23=>
  Aj v22 false (AV v23 G H3) λv24=>
  Aj v22 false (lenV v24) λv25=>
  Aj v22 false (B2.ev .gtr v25 (.int .i64 (.ofNat 200) 0)) λv26=>
  AL (Az v22 (.bool true) v26) λv27=>
  Aj v27 false (AQ 0 (.ptr n 0)) λv28=>
  Aj v27 false (AV v28 G H3) λv29=>
  Aj v27 false (Ql v29) λv30=>
  Aj v27 false (B2.ev .gtr v30 (.int .i64 (.ofNat 40) 0)) λv31=>
  AL (Az v27 (.bool true) v31) λv32=>
  Aj v32 false (AQ 1 (.ptr n 0)) λv33=>
  Aj v32 false (AV v33 G H3) λv34=>
  Aj v32 false (Ql v34) λv35=>
  Aj v32 false (B2.ev .gtr v35 (.int .i64 (.ofNat 40) 0)) λv36=>
  AL (Az v32 (.bool true) v36) λv37=>
  AY v37 true (k (.bool false) H3 n3) (AL (AQ 2 (.ptr n 0)) λv74=>
  AL (AV v74 G H3) λv75=>
  AL (lenV v75) λv76=>
  lfp (V×V×V×V×V×Heap×Nat) (J5 lfp G (Runs F G) k) (.ptr n 0,(.str 0 0),v75,v76,(.int .i64 (.ofNat 0) 0),H3,n3))):=by
  intro H3 n3 f hlt hg hk
  have hf:=hf.kp f
  have hm:=hm.kp f
  have e0:AV (.ptr n 0) G H3=some c.nm.v:=AU hg rfl
  have e1:AV (.ptr n 1) G H3=some c.sup.v:=AU hg rfl
  have e2:AV (.ptr n 2) G H3=some v:=AU hg rfl
  have e3:AV (.ptr n 3) G H3=some w:=AU hg rfl
  simp only[go_sem,Nat.reduceAdd,e2,hf.len,Iu]
  cases h1:decide (200<c.fs.length)with
  |true=>rw[h1]at hk;simp only[go_sem];exact hk _ _ f
  |false=>
   rw[h1]at hk
   simp only[go_sem,Nat.reduceAdd,e3,hm.len',Iu]
   cases h2:decide (200<c.ms.length)with
   |true=>rw[h2]at hk;simp only[go_sem];exact hk _ _ f
   |false=>
    rw[h2]at hk
    simp only[go_sem,Nat.reduceAdd,e0,aA,Iu]
    cases h3:decide (40<c.nm.1)with
    |true=>rw[h3]at hk;simp only[go_sem];exact hk _ _ f
    |false=>
     rw[h3]at hk
     simp only[go_sem,Nat.reduceAdd,e1,aA,Iu]
     cases h4:decide (40<c.sup.1)with
     |true=>rw[h4]at hk;simp only[go_sem];exact hk _ _ f
     |false=>
      rw[h4]at hk
      simp only[go_sem,Nat.reduceAdd,e2,hf.len]
      exact AIv (a:=(0,0)) hf hm hlt hg λH' n' f'=>hk _ _ (f.trans f')
 cases h1:lY c.nm with
 |false=>
  rw[h1]at hk
  simp only[Bool.not_false,go_sem]
  exact hk _ _ f
 |true=>
  rw[h1]at hk
  have e1:AV (.ptr n 1) G H3=some c.sup.v:=AU hg rfl
  have e:=neS c.sup (0,0)
  unfold St.v at e
  simp only[Bool.not_true,go_sem,Nat.reduceAdd,e1]
  rw[show Cc (.one .str) true c.sup.v (.str 0 0)=_ from neS c.sup (0,0)]
  cases h2:decide (c.sup.1=0/\c.sup.2=0)with
  |true=>
   rw[h2]at hk
   simp only[Bool.not_true,go_sem]
   exact tail _ _ f hlt hg hk
  |false=>
   rw[h2]at hk
   simp only[Bool.not_false,go_sem,Nat.reduceAdd,e1]
   refine uo λH4 n4 f4=>?_
   refine ou hs λH5 n5 f5=>?_
   rw[AGx,Bl]
   have f':=f.trans (f4.trans f5)
   have hg:T.get H5 n=_:=(f5.same n (by have:=f4.le;omega)).trans ((f4.same n (by omega)).trans hg)
   cases h3:lY c.sup with
   |false=>
    rw[h3]at hk
    simp only[Bool.not_false,go_sem]
    exact hk _ _ f'
   |true=>
    rw[h3]at hk
    simp only[Bool.not_true,go_sem]
    exact tail _ _ f' (by have:=f4.le;have:=f5.le;omega) hg hk
theorem ALx{e c:Nat}{t:T LV}{i:Nat}{L:LV}(he:0<e)(hi:i<c)(ht:T.get t i=some L)(hL:L.length=e):ldB e c t (i*e) e=some L:=by
 unfold ldB
 have hdiv:i*e/e=i:=Nat.mul_div_cancel _ he
 have hmod:i*e%e=0:=Nat.mul_mod_left ..
 have hb:Nat.blt (Nat.div (i*e) e) c=true:=by rw[Nat.blt_eq];show i*e/e<c;omega
 rw[hb]
 show BR (T.get t (Nat.div (i*e) e)) (ldC e (i*e) e)=_
 rw[show Nat.div (i*e) e=i from hdiv,ht,Vk]
 have h1:=AIO (H:=T.set .e 0 (one L)) (id:=0) (L:=L) (off:=0) (m:=e) (T.Ai ..) he (by omega)
 unfold dI at h1
 rw[T.Ai]at h1
 have h2:ldB L.length 1 (T.set .e 0 L) 0 e=some ((L.drop 0).take e):=h1
 unfold ldB at h2
 rw[show Nat.blt (Nat.div 0 L.length) 1=true by rw[Nat.blt_eq];show 0/L.length<1;simp]at h2
 have h3:BR (T.get (T.set T.e 0 L) (Nat.div 0 L.length)) (ldC L.length 0 e)=some ((L.drop 0).take e):=h2
 rw[show Nat.div 0 L.length=0 from Nat.zero_div _,T.Ai,Vk]at h3
 rw[List.drop_zero,List.take_of_length_le (by omega),hL]at h3
 have:ldC e (i*e) e L=ldC e 0 e L:=by
  unfold ldC
  rw[show Nat.mod (i*e) e=0 from hmod,show Nat.mod 0 e=0 from Nat.zero_mod _]
 rw[this];exact h3
theorem yQ{z:Nat}{Z L:LV}{H:Heap}{n:Nat}{P:KV}(hL:L.length=z):
 Bg (Aw z 1 Z [(0,.c (.agg L))] E0) H n P=P (.sl n 0 1 1 z) (T.set H n (.arr z 1 (T.set (T.set .e 0 Z) 0 L))) (n+1):=by
 subst hL
 show NC (band (band true (band true (Nat.beq (len L) L.length))) true) (DT n λn=>P (.sl n 0 1 1 L.length) (T.set H n (.arr L.length 1 (T.set (T.set .e 0 Z) 0 L))) (Nat.succ n))=_
 rw[len_eq,BO]
 have hb:band (band true (band true (Nat.beq L.length L.length))) true=true:=by simp
 rw[hb];rfl
theorem jA{G:AX}{H:Heap}{n z:Nat}{Z L:LV}(hz:0<z)(hL:L.length=z)(h:T.get H n=some (.arr z 1 (T.set (T.set .e 0 Z) 0 L))):El G H (.sl n 0 1 1 z) z [L]:=by
 refine⟨rfl,?_⟩
 show(Bool.rec (motive:=λ_=>Option ET) none (BR (dI H n (0*z) z) λL=>BR (some []) λLS=>some (L::LS)) (Nat.beq z z):Option ET)=_
 have hl:dI H n (0*z) z=some L:=by
  unfold dI;rw[h]
  exact ALx hz (by omega) (by rw[T.Ai]) hL
 rw[hl,show Nat.beq z z=true by simp]
 rfl
theorem ARS{Z a b c d e:V}{H:Heap}{n:Nat}{P:KV}(h:∀v∈[a,b,c,d,e],Z7 v=true/\Au v=[v]):
 Bg (Aw 1 5 [Z] [(0,.c a),(1,.c b),(2,.c c),(3,.c d),(4,.c e)] E0) H n P=
 P (.sl n 0 5 5 1) (T.set H n (.arr 1 5 (T.set (T.set (T.set (T.set (T.set (wM [Z] 5 .e) 0 [a]) 1 [b]) 2 [c]) 3 [d]) 4 [e]))) (n+1):=by
 obtain⟨ha,hb,hc,hd,he,-⟩:(Z7 a=true/\Au a=[a])/\(Z7 b=true/\Au b=[b])/\(Z7 c=true/\Au c=[c])/\(Z7 d=true/\Au d=[d])/\(Z7 e=true/\Au e=[e])/\True:=by simpa using h
 show NC (band (band (Z7 a) (band (Nat.blt 0 5) (Nat.beq (len (Au a)) 1))) (band (band (Z7 b) (band (Nat.blt 1 5) (Nat.beq (len (Au b)) 1))) (band (band (Z7 c) (band (Nat.blt 2 5) (Nat.beq (len (Au c)) 1))) (band (band (Z7 d) (band (Nat.blt 3 5) (Nat.beq (len (Au d)) 1))) (band (band (Z7 e) (band (Nat.blt 4 5) (Nat.beq (len (Au e)) 1))) true)))))
  (DT n λn=>P (.sl n 0 5 5 1) (T.set H n (.arr 1 5 (T.set (T.set (T.set (T.set (T.set (wM [Z] 5 .e) 0 (Au a)) 1 (Au b)) 2 (Au c)) 3 (Au d)) 4 (Au e)))) (Nat.succ n))=_
 rw[ha.1,ha.2,hb.1,hb.2,hc.1,hc.2,hd.1,hd.2,he.1,he.2,BO]
 rfl
theorem AN3{G:AX}{H:Heap}{n:Nat}{Z a b c d e:V}(h:T.get H n=some (.arr 1 5 (T.set (T.set (T.set (T.set (T.set (wM [Z] 5 .e) 0 [a]) 1 [b]) 2 [c]) 3 [d]) 4 [e]))):
 El G H (.sl n 0 5 5 1) 1 [[a],[b],[c],[d],[e]]:=by
 refine⟨rfl,?_⟩
 show BR (dI H n (0*1) 1) (λL=>BR (BR (dI H n (1*1) 1) λL=>BR (BR (dI H n (2*1) 1) λL=>BR (BR (dI H n (3*1) 1) λL=>BR (BR (dI H n (4*1) 1) λL=>BR (some []) λLS=>some (L::LS)) λLS=>some (L::LS)) λLS=>some (L::LS)) λLS=>some (L::LS)) λLS=>some (L::LS))=_
 have hl:∀i v,i<5->T.get (T.set (T.set (T.set (T.set (T.set (wM [Z] 5 .e) 0 [a]) 1 [b]) 2 [c]) 3 [d]) 4 [e]) i=some [v]->dI H n (i*1) 1=some [v]:=by
  intro i v hi hv
  unfold dI;rw[h]
  exact ALx (by omega) hi hv rfl
 rw[hl 0 a (by omega) rfl,hl 1 b (by omega) rfl,hl 2 c (by omega) rfl,hl 3 d (by omega) rfl,hl 4 e (by omega) rfl]
 rfl
def AHK(m:DK):Bool:=Nb (0,0) [m]
theorem AHl(m:DK):Us ⟨(1,65),(0,0),[],[m]⟩=AHK m:=by
 simp[Us,AHK,lY,upper,tC]
theorem ATA{G:AX}{m:DK}{w:V}{H:Heap}{n:Nat}{k:KV}(hw:KI G H n w m.ps)(hm:m.nm.ok/\m.ret.nm.ok)
 (hk:∀H' n',Kp H n H' n'->k (.bool (AHK m)) H' n'):Runs F G AAF [.agg (m.cells w)] H n k:=by
 refine BL (s:=Lu (XQ lfp G)) jH (by obtain⟨h,o⟩:=vH BK G;rw[jH]at h;cases h;exact o) ?_
 show XQ lfp G (Runs F G) (.agg (m.cells w)) H n k
 delta XQ
 have f1:Kp H n (T.set H n (one (m.cells w))) (n+1):=(Kp.refl H n).new _ (Nat.le_refl _) (by omega)
 have hl:Ae 5 (.ptr n 0) G (T.set H n (one (m.cells w)))=some (.agg (m.cells w)):=ABE rfl (by omega)
 simp only[go_sem,Nat.reduceAdd,hl,yQ (z:=5) (L:=m.cells w) rfl]
 generalize T.set H n (one (m.cells w))=H1 at f1⊢
 have f2:=f1.new (m:=n+1+1) (.arr 5 1 (T.set (T.set .e 0 [.str 0 0,.bool false,.AZ,.str 0 0,.bool false]) 0 (m.cells w))) (id:=n+1) (by omega) (by omega)
 have hg:=T.Ai H1 (n+1) (.arr 5 1 (T.set (T.set .e 0 [.str 0 0,.bool false,.AZ,.str 0 0,.bool false]) 0 (m.cells w)))
 generalize T.set H1 (n+1) (.arr 5 1 (T.set (T.set .e 0 [.str 0 0,.bool false,.AZ,.str 0 0,.bool false]) 0 (m.cells w)))=H2 at f2 hg⊢
 rw[show BA [.str 0 0,.str 0 0,.AZ,.AZ] [(0,1,.c (.str 1 65)),(3,1,.c (.sl (n+1) 0 1 1 5))]=some (.agg [.str 1 65,.str 0 0,.AZ,.sl (n+1) 0 1 1 5])from rfl,AB]
 refine zQ (c:=⟨(1,65),(0,0),[],[m]⟩) (v:=.AZ) (w:=.sl (n+1) 0 1 1 5) (ws:=[w]) ⟨rfl,⟨⟨rfl,rfl⟩,(λid h=>by cases h),(by show 0<big;decide),(λf h=>by cases h)⟩,⟨jA (by omega) rfl hg,(λid h=>by cases h;omega),(by show 1<big;decide),rfl,?_,?_⟩,?_⟩ λH' n' f=>?_
 ·intro i m' w' h1 h2
  cases i with
  |zero=>simp at h1 h2;subst h1 h2;exact hw.kp f2
  |succ i=>simp at h1
 ·intro m' h;simp at h;subst h;exact hm
 ·exact⟨(λh=>by cases h),(λh=>rfl)⟩
 ·rw[AHl]
  exact hk _ _ (f2.trans f)
structure PF where
 f:ku
 own:St
structure PM where
 m:DK
 own:St
def PF.cells(p:PF):LV:=[p.f.nm.v,p.f.ty.nm.v,.bool p.f.ty.arr,p.own.v]
def PM.cells(p:PM)(w:V):LV:=[p.m.nm.v,.bool p.m.st,w,p.m.ret.nm.v,.bool p.m.ret.arr,p.own.v]
structure Pool where
 nums:List Int
 names:List St
 types:List Ty
 fields:List PF
 CV:List PM
structure FI(G:AX)(H:Heap)(n:Nat)(p:Pool)(v0 v1 v2 v3 v4:V)(ws:List V):Prop where
 e0:El G H v0 1 (p.nums.map λa=>[.int .i64 a 0])
 l0:Lo v0 n
 b0:p.nums.length<big
 e1:El G H v1 1 (strs p.names)
 l1:Lo v1 n
 b1:p.names.length<big
 o1:∀s∈p.names,s.ok
 t2:KI G H n v2 p.types
 e3:El G H v3 4 (p.fields.map PF.cells)
 l3:Lo v3 n
 b3:p.fields.length<big
 o3:∀f∈p.fields,f.f.nm.ok/\f.f.ty.nm.ok/\f.own.ok
 e4:El G H v4 6 (List.zipWith PM.cells p.CV ws)
 l4:Lo v4 n
 b4:p.CV.length<big
 yE:ws.length=p.CV.length
 at4:∀(i:Nat) (m:PM) (w:V),p.CV[i]? =some m->ws[i]? =some w->KI G H n w m.m.ps
 o4:∀m∈p.CV,m.m.nm.ok/\m.m.ret.nm.ok/\m.own.ok
theorem FI.kp{G:AX}{H H':Heap}{n n':Nat}{p:Pool}{v0 v1 v2 v3 v4:V}{ws:List V}(h:FI G H n p v0 v1 v2 v3 v4 ws)(f:Kp H n H' n'):FI G H' n' p v0 v1 v2 v3 v4 ws:=
 ⟨h.e0.kp h.l0 f,h.l0.mono f.le,h.b0,h.e1.kp h.l1 f,h.l1.mono f.le,h.b1,h.o1,h.t2.kp f,h.e3.kp h.l3 f,h.l3.mono f.le,h.b3,h.o3,h.e4.kp h.l4 f,h.l4.mono f.le,h.b4,h.yE,
  λi m w a b=>(h.at4 i m w a b).kp f,h.o4⟩
def ZY(s:St):Bool:=upper s.1 s.2&&decide (s.1<=40)
def AFX(p:PM):Bool:=ZY p.own&&AHK p.m
def AHe(p:PF):Bool:=ZY p.own&&(!decide (p.f.nm.1=0/\p.f.nm.2=0)&&(!decide (40<p.f.nm.1)&&Td p.f.ty.nm))
theorem AF4{G:AX}{p:Pool}{v0 v1 v2 v3 v4:V}{ws:List V}{H:Heap}{n:Nat}{k:KV}(h:FI G H n p v0 v1 v2 v3 v4 ws)
 (hk:∀H' n',Kp H n H' n'->k (.bool (p.CV.all AFX)) H' n'):
 lfp (V×V×V×Heap×Nat) (OL lfp G (Runs F G) k) (v4,.int .i64 (.ofNat p.CV.length) 0,.int .i64 (.ofNat 0) 0,H,n):=by
 refine JG (J:=λm st=>∃i H2 n2,m=p.CV.length-i/\i<=p.CV.length/\st=(v4,.int .i64 (.ofNat p.CV.length) 0,.int .i64 (.ofNat i) 0,H2,n2)/\Kp H n H2 n2/\(∀H' n',Kp H n H' n'->k (.bool ((p.CV.drop i).all AFX)) H' n')) ?_ (m:=p.CV.length) ⟨0,H,n,rfl,Nat.zero_le _,rfl,Kp.refl _ _,hk⟩
 rintro I m st ⟨i,H2,n2,rfl,hi,rfl,f,hk⟩ ih
 show Om lfp G (Runs F G) k I v4 (.int .i64 (.ofNat p.CV.length) 0) (.int .i64 (.ofNat i) 0) H2 n2
 delta Om
 by_cases hlt:i<p.CV.length
 ·have hw:i<ws.length:=by rw[h.yE];exact hlt
  have h':=h.kp f
  obtain⟨q,hp,hld⟩:=h'.e4.at (i:=i) (c:=p.CV[i].cells ws[i]) (by rw[List.getElem?_zipWith];simp[hlt,hw])
  have hty:=h'.at4 i _ _ (List.getElem?_eq_getElem hlt) (List.getElem?_eq_getElem hw)
  have hok:=h.o4 _ (List.getElem_mem hlt)
  have hbig:=h.b4
  rw[List.drop_eq_getElem_cons hlt,List.all_cons]at hk
  generalize p.CV[i]=m at hok hld hty hk
  generalize ws[i]=w at hld hty
  unfold PM.cells at hld
  simp only[go_sem,Nat.reduceAdd,Bh,hlt,decide_true,hp,Bq hld]
  have f2:Kp H2 n2 (T.set (T.set H2 n2 (one [.str 0 0,.bool false,.AZ,.str 0 0,.bool false,.str 0 0])) n2 (one [m.m.nm.v,.bool m.m.st,w,m.m.ret.nm.v,.bool m.m.ret.arr,m.own.v])) (n2+1):=
   ((Kp.refl _ _).new (m:=n2+1) _ (Nat.le_refl _) (by omega)).new _ (Nat.le_refl _) (Nat.le_refl _)
  have hg:=T.Ai (T.set H2 n2 (one [.str 0 0,.bool false,.AZ,.str 0 0,.bool false,.str 0 0])) n2 (one [m.m.nm.v,.bool m.m.st,w,m.m.ret.nm.v,.bool m.m.ret.arr,m.own.v])
  generalize T.set (T.set H2 n2 (one [.str 0 0,.bool false,.AZ,.str 0 0,.bool false,.str 0 0])) n2 (one [m.m.nm.v,.bool m.m.st,w,m.m.ret.nm.v,.bool m.m.ret.arr,m.own.v])=H3 at f2 hg⊢
  refine AFN hok.2.2 λH4 n4 f4=>?_
  rw[Bl,show(upper m.own.1 m.own.2&&decide (m.own.1<=40))=ZY m.own from rfl]
  have hg:T.get H4 n2=_:=(f4.same n2 (by omega)).trans hg
  unfold AFX at hk
  cases h1:ZY m.own with
  |false=>
   rw[h1]at hk
   simp only[Bool.not_false,go_sem]
   exact hk _ _ (f.trans (f2.trans f4))
  |true=>
   rw[h1]at hk
   have hl:Ae 5 (.ptr n2 0) G H4=some (.agg (m.m.cells w)):=Hy hg (by omega) (by show 5<=6;omega)
   simp only[Bool.not_true,go_sem,Nat.reduceAdd,hl]
   refine ATA (hty.kp (f2.trans f4)) ⟨hok.1,hok.2.1⟩ λH5 n5 f5=>?_
   have f6:=f.trans ((f2.trans f4).trans f5)
   simp only[Bl,go_sem]
   cases h2:AHK m.m with
   |false=>
    rw[h2]at hk
    simp only[Bool.not_false,go_sem]
    exact hk _ _ f6
   |true=>
    rw[h2]at hk
    simp only[Bool.not_true,go_sem,DJ (show i+1<9223372036854775808 by unfold big at hbig;omega)]
    exact ih _ _ (by omega) ⟨i+1,_,_,rfl,hlt,rfl,f6,hk⟩
 ·simp only[go_sem,Bh,hlt,decide_false]
  delta QS
  rw[List.drop_eq_nil_of_le (by omega)]at hk
  exact hk _ _ f
theorem eqS(a b:St):Cc (.one .str) false a.v b.v=some (.bool (decide (a.1=b.1/\a.2=b.2))):=AB7 ..
theorem AFF{G:AX}{p:Pool}{v0 v1 v2 v3 v4:V}{ws:List V}{H:Heap}{n b:Nat}{k:KV}(h:FI G H n p v0 v1 v2 v3 v4 ws)(hb:b<n)(hbx:T.get H b=some (one [v0,v1,v2,v3,v4]))
 (hk:∀H' n',Kp H n H' n'->k (.bool (p.fields.all AHe&&p.CV.all AFX)) H' n'):
 lfp (V×V×V×V×Heap×Nat) (OH lfp G (Runs F G) k) (.ptr b 0,v3,.int .i64 (.ofNat p.fields.length) 0,.int .i64 (.ofNat 0) 0,H,n):=by
 refine JG (J:=λm st=>∃i H2 n2,m=p.fields.length-i/\i<=p.fields.length/\st=(.ptr b 0,v3,.int .i64 (.ofNat p.fields.length) 0,.int .i64 (.ofNat i) 0,H2,n2)/\Kp H n H2 n2/\(∀H' n',Kp H n H' n'->k (.bool ((p.fields.drop i).all AHe&&p.CV.all AFX)) H' n')) ?_ (m:=p.fields.length) ⟨0,H,n,rfl,Nat.zero_le _,rfl,Kp.refl _ _,hk⟩
 rintro I m st ⟨i,H2,n2,rfl,hi,rfl,f,hk⟩ ih
 show Ot lfp G (Runs F G) k I (.ptr b 0) v3 (.int .i64 (.ofNat p.fields.length) 0) (.int .i64 (.ofNat i) 0) H2 n2
 delta Ot
 have h':=h.kp f
 by_cases hlt:i<p.fields.length
 ·obtain⟨q,hp,hld⟩:=h'.e3.at (i:=i) (c:=p.fields[i].cells) (by simp[hlt])
  have hok:=h.o3 _ (List.getElem_mem hlt)
  have hbig:=h.b3
  rw[List.drop_eq_getElem_cons hlt,List.all_cons]at hk
  generalize p.fields[i]=m at hok hld hk
  unfold PF.cells at hld
  simp only[go_sem,Nat.reduceAdd,Bh,hlt,decide_true,hp,Bq hld]
  have f2:Kp H2 n2 (T.set (T.set H2 n2 (one [.str 0 0,.str 0 0,.bool false,.str 0 0])) n2 (one [m.f.nm.v,m.f.ty.nm.v,.bool m.f.ty.arr,m.own.v])) (n2+1):=
   ((Kp.refl _ _).new (m:=n2+1) _ (Nat.le_refl _) (by omega)).new _ (Nat.le_refl _) (Nat.le_refl _)
  have hg:=T.Ai (T.set H2 n2 (one [.str 0 0,.str 0 0,.bool false,.str 0 0])) n2 (one [m.f.nm.v,m.f.ty.nm.v,.bool m.f.ty.arr,m.own.v])
  generalize T.set (T.set H2 n2 (one [.str 0 0,.str 0 0,.bool false,.str 0 0])) n2 (one [m.f.nm.v,m.f.ty.nm.v,.bool m.f.ty.arr,m.own.v])=H3 at f2 hg⊢
  refine AFN hok.2.2 λH4 n4 f4=>?_
  rw[Bl,show(upper m.own.1 m.own.2&&decide (m.own.1<=40))=ZY m.own from rfl]
  have hg:T.get H4 n2=_:=(f4.same n2 (by omega)).trans hg
  have e0:AV (.ptr n2 0) G H4=some m.f.nm.v:=AU hg rfl
  have f6:=f.trans (f2.trans f4)
  unfold AHe at hk
  cases h1:ZY m.own with
  |false=>
   rw[h1]at hk
   simp only[Bool.not_false,go_sem]
   exact hk _ _ f6
  |true=>
   rw[h1]at hk
   simp only[Bool.not_true,go_sem,Nat.reduceAdd,e0]
   rw[show Cc (.one .str) false m.f.nm.v (.str 0 0)=_ from eqS m.f.nm (0,0)]
   cases h2:decide (m.f.nm.1=0/\m.f.nm.2=0)with
   |true=>
    rw[h2]at hk
    simp only[go_sem]
    exact hk _ _ f6
   |false=>
    rw[h2]at hk
    simp only[go_sem,Nat.reduceAdd,e0,aA,Iu]
    cases h3:decide (40<m.f.nm.1)with
    |true=>
     rw[h3]at hk
     simp only[go_sem]
     exact hk _ _ f6
    |false=>
     rw[h3]at hk
     have hl:Ae 2 (.ptr n2 1) G H4=some (.agg [m.f.ty.nm.v,.bool m.f.ty.arr]):=Hy hg (by omega) (by show 3<=4;omega)
     simp only[go_sem,Nat.reduceAdd,hl]
     refine yR hok.2.1 λH5 n5 f5=>?_
     have f7:=f6.trans f5
     simp only[Bl,go_sem]
     show _
     cases h4:vP m.f.ty.nm.1 m.f.ty.nm.2 with
     |false=>
      rw[show Td m.f.ty.nm=false from h4]at hk
      simp only[Bool.not_false,go_sem]
      exact hk _ _ f7
     |true=>
      rw[show Td m.f.ty.nm=true from h4]at hk
      simp only[Bool.not_true,go_sem,DJ (show i+1<9223372036854775808 by unfold big at hbig;omega)]
      exact ih _ _ (by omega) ⟨i+1,_,_,rfl,hlt,rfl,f7,hk⟩
 ·simp only[go_sem,Bh,hlt,decide_false]
  delta QZ
  rw[List.drop_eq_nil_of_le (by omega)]at hk
  have hg:T.get H2 b=_:=(f.same b hb).trans hbx
  have hl:lenV v4=some (.int .i64 (.ofNat p.CV.length) 0):=by rw[h.e4.len,List.length_zipWith,h.yE,Nat.min_self]
  simp only[go_sem,Nat.reduceAdd,AU (off:=4) hg (v:=v4) rfl,hl]
  exact AF4 h' λH' n' f'=>hk _ _ (f.trans f')
theorem AFu{G:AX}{p:Pool}{v0 v1 v2 v3 v4:V}{ws:List V}{H:Heap}{n b:Nat}{k:KV}(h:FI G H n p v0 v1 v2 v3 v4 ws)(hb:b<n)(hbx:T.get H b=some (one [v0,v1,v2,v3,v4]))
 (hk:∀H' n',Kp H n H' n'->k (.bool ((p.types.all λt=>Td t.nm)&&(p.fields.all AHe&&p.CV.all AFX))) H' n'):
 lfp (V×V×V×V×Heap×Nat) (Ny lfp G (Runs F G) k) (.ptr b 0,v2,.int .i64 (.ofNat p.types.length) 0,.int .i64 (.ofNat 0) 0,H,n):=by
 refine JG (J:=λm st=>∃i H2 n2,m=p.types.length-i/\i<=p.types.length/\st=(.ptr b 0,v2,.int .i64 (.ofNat p.types.length) 0,.int .i64 (.ofNat i) 0,H2,n2)/\Kp H n H2 n2/\(∀H' n',Kp H n H' n'->k (.bool (((p.types.drop i).all λt=>Td t.nm)&&(p.fields.all AHe&&p.CV.all AFX))) H' n')) ?_ (m:=p.types.length) ⟨0,H,n,rfl,Nat.zero_le _,rfl,Kp.refl _ _,hk⟩
 rintro I m st ⟨i,H2,n2,rfl,hi,rfl,f,hk⟩ ih
 show PV lfp G (Runs F G) k I (.ptr b 0) v2 (.int .i64 (.ofNat p.types.length) 0) (.int .i64 (.ofNat i) 0) H2 n2
 delta PV
 have h':=h.kp f
 by_cases hlt:i<p.types.length
 ·obtain⟨q,hp,hld⟩:=h'.t2.el.at (Ug hlt)
  have hok:=h.t2.ok _ (List.getElem_mem hlt)
  have hbig:=h.t2.lt
  rw[List.drop_eq_getElem_cons hlt,List.all_cons]at hk
  generalize p.types[i]=m at hok hld hk
  unfold Ty.cells at hld
  simp only[go_sem,Nat.reduceAdd,Bh,hlt,decide_true,hp,Bq hld]
  have f2:Kp H2 n2 (T.set (T.set H2 n2 (one [.str 0 0,.bool false])) n2 (one [m.nm.v,.bool m.arr])) (n2+1):=
   ((Kp.refl _ _).new (m:=n2+1) _ (Nat.le_refl _) (by omega)).new _ (Nat.le_refl _) (Nat.le_refl _)
  refine yR hok λH5 n5 f5=>?_
  have f7:=f.trans (f2.trans f5)
  simp only[Bl,go_sem]
  show _
  cases h4:vP m.nm.1 m.nm.2 with
  |false=>
   rw[show Td m.nm=false from h4]at hk
   simp only[Bool.not_false,go_sem]
   exact hk _ _ f7
  |true=>
   rw[show Td m.nm=true from h4]at hk
   simp only[Bool.not_true,go_sem,DJ (show i+1<9223372036854775808 by unfold big at hbig;omega)]
   exact ih _ _ (by omega) ⟨i+1,_,_,rfl,hlt,rfl,f7,hk⟩
 ·simp only[go_sem,Bh,hlt,decide_false]
  delta QX
  rw[List.drop_eq_nil_of_le (by omega)]at hk
  have hg:T.get H2 b=_:=(f.same b hb).trans hbx
  have hl:lenV v3=some (.int .i64 (.ofNat p.fields.length) 0):=by rw[h.e3.len,List.length_map]
  simp only[go_sem,Nat.reduceAdd,AU (off:=3) hg (v:=v3) rfl,hl]
  exact AFF h' (Nat.lt_of_lt_of_le hb f.le) hg λH' n' f'=>hk _ _ (f.trans f')
def mG(p:Pool):Bool:=p.names.all ZY&&((p.types.all λt=>Td t.nm)&&(p.fields.all AHe&&p.CV.all AFX))
theorem AGf{G:AX}{p:Pool}{v0 v1 v2 v3 v4:V}{ws:List V}{H:Heap}{n b:Nat}{k:KV}(h:FI G H n p v0 v1 v2 v3 v4 ws)(hb:b<n)(hbx:T.get H b=some (one [v0,v1,v2,v3,v4]))
 (hk:∀H' n',Kp H n H' n'->k (.bool (mG p)) H' n'):
 lfp (V×V×V×V×Heap×Nat) (OC lfp G (Runs F G) k) (.ptr b 0,v1,.int .i64 (.ofNat p.names.length) 0,.int .i64 (.ofNat 0) 0,H,n):=by
 refine JG (J:=λm st=>∃i H2 n2,m=p.names.length-i/\i<=p.names.length/\st=(.ptr b 0,v1,.int .i64 (.ofNat p.names.length) 0,.int .i64 (.ofNat i) 0,H2,n2)/\Kp H n H2 n2/\(∀H' n',Kp H n H' n'->k (.bool ((p.names.drop i).all ZY&&((p.types.all λt=>Td t.nm)&&(p.fields.all AHe&&p.CV.all AFX)))) H' n')) ?_ (m:=p.names.length) ⟨0,H,n,rfl,Nat.zero_le _,rfl,Kp.refl _ _,hk⟩
 rintro I m st ⟨i,H2,n2,rfl,hi,rfl,f,hk⟩ ih
 show O3 lfp G (Runs F G) k I (.ptr b 0) v1 (.int .i64 (.ofNat p.names.length) 0) (.int .i64 (.ofNat i) 0) H2 n2
 delta O3
 have h':=h.kp f
 by_cases hlt:i<p.names.length
 ·obtain⟨q,hp,hld⟩:=h'.e1.at (PL hlt)
  have hok:=h.o1 _ (List.getElem_mem hlt)
  have hbig:=h.b1
  rw[List.drop_eq_getElem_cons hlt,List.all_cons]at hk
  generalize p.names[i]=m at hok hld hk
  simp only[go_sem,Nat.reduceAdd,Bh,hlt,decide_true,hp,Ld hld]
  refine AFN hok λH5 n5 f5=>?_
  rw[Bl,show(upper m.1 m.2&&decide (m.1<=40))=ZY m from rfl]
  have f7:=f.trans f5
  cases h4:ZY m with
  |false=>
   rw[h4]at hk
   simp only[Bool.not_false,go_sem]
   exact hk _ _ f7
  |true=>
   rw[h4]at hk
   simp only[Bool.not_true,go_sem,DJ (show i+1<9223372036854775808 by unfold big at hbig;omega)]
   exact ih _ _ (by omega) ⟨i+1,_,_,rfl,hlt,rfl,f7,hk⟩
 ·simp only[go_sem,Bh,hlt,decide_false]
  delta QH
  rw[List.drop_eq_nil_of_le (by omega)]at hk
  have hg:T.get H2 b=_:=(f.same b hb).trans hbx
  simp only[go_sem,Nat.reduceAdd,AU (off:=2) hg (v:=v2) rfl,h'.t2.len]
  exact AFu h' (Nat.lt_of_lt_of_le hb f.le) hg λH' n' f'=>hk _ _ (f.trans f')
def cnts(p:Pool):List Nat:=[p.nums.length,p.names.length,p.types.length,p.fields.length,p.CV.length]
theorem AHk{G:AX}{p:Pool}{v v0 v1 v2 v3 v4:V}{ws:List V}{H:Heap}{n b:Nat}{k:KV}(h:FI G H n p v0 v1 v2 v3 v4 ws)(hb:b<n)(hbx:T.get H b=some (one [v0,v1,v2,v3,v4]))
 {xs:List Nat} (hv:El G H v 1 (xs.map λ(a:Nat)=>[V.int .i64 (.ofNat a) 0])) (hx:xs.length<big)
 (hk:∀H' n',Kp H n H' n'->k (.bool ((xs.all λa=> !decide (16384<a))&&mG p)) H' n'):
 lfp (V×V×V×V×Heap×Nat) (OG lfp G (Runs F G) k) (.ptr b 0,v,.int .i64 (.ofNat xs.length) 0,.int .i64 (.ofNat 0) 0,H,n):=by
 refine JG (J:=λm st=>∃i,m=xs.length-i/\i<=xs.length/\st=(.ptr b 0,v,.int .i64 (.ofNat xs.length) 0,.int .i64 (.ofNat i) 0,H,n)/\(∀H' n',Kp H n H' n'->k (.bool (((xs.drop i).all λa=> !decide (16384<a))&&mG p)) H' n')) ?_ (m:=xs.length) ⟨0,rfl,Nat.zero_le _,rfl,hk⟩
 rintro I m st ⟨i,rfl,hi,rfl,hk⟩ ih
 show Oz lfp G (Runs F G) k I (.ptr b 0) v (.int .i64 (.ofNat xs.length) 0) (.int .i64 (.ofNat i) 0) H n
 delta Oz
 by_cases hlt:i<xs.length
 ·obtain⟨q,hp,hld⟩:=hv.at (i:=i) (c:=[V.int .i64 (.ofNat xs[i]) 0]) (by simp[hlt])
  rw[List.drop_eq_getElem_cons hlt,List.all_cons]at hk
  generalize xs[i]=m at hld hk
  simp only[go_sem,Nat.reduceAdd,Bh,hlt,decide_true,hp,Ld hld,Iu]
  cases h4:decide (16384<m)with
  |true=>
   rw[h4]at hk
   simp only[go_sem]
   exact hk _ _ (Kp.refl _ _)
  |false=>
   rw[h4]at hk
   simp only[go_sem,DJ (show i+1<9223372036854775808 by unfold big at hx;omega)]
   exact ih _ _ (by omega) ⟨i+1,rfl,hlt,rfl,hk⟩
 ·simp only[go_sem,Bh,hlt,decide_false]
  delta Qc
  rw[List.drop_eq_nil_of_le (by omega)]at hk
  have hl:lenV v1=some (.int .i64 (.ofNat p.names.length) 0):=by rw[h.e1.len,GZ]
  simp only[go_sem,Nat.reduceAdd,AU (off:=1) hbx (v:=v1) rfl,hl]
  exact AGf h hb hbx hk
def AE5(p:Pool):Bool:=(cnts p).all (λa=> !decide (16384<a))&&mG p
theorem AHX{G:AX}{p:Pool}{v0 v1 v2 v3 v4:V}{ws:List V}{H:Heap}{n:Nat}{k:KV}(h:FI G H n p v0 v1 v2 v3 v4 ws)
 (hk:∀H' n',Kp H n H' n'->k (.bool (AE5 p)) H' n'):Runs F G Ze [.agg [v0,v1,v2,v3,v4]] H n k:=by
 refine BL (s:=Lu (Kr lfp G)) TB (by obtain⟨h,o⟩:=YX BK G;rw[TB]at h;cases h;exact o) ?_
 show Kr lfp G (Runs F G) (.agg [v0,v1,v2,v3,v4]) H n k
 delta Kr
 have l0:lenV v0=some (.int .i64 (.ofNat p.nums.length) 0):=by rw[h.e0.len,List.length_map]
 have l1:lenV v1=some (.int .i64 (.ofNat p.names.length) 0):=by rw[h.e1.len,GZ]
 have l3:lenV v3=some (.int .i64 (.ofNat p.fields.length) 0):=by rw[h.e3.len,List.length_map]
 have l4:lenV v4=some (.int .i64 (.ofNat p.CV.length) 0):=by rw[h.e4.len,List.length_zipWith,h.yE,Nat.min_self]
 simp only[go_sem,Nat.reduceAdd,l0,l1,h.t2.len,l3,l4]
 rw[ARS (by intro v hv;simp at hv;rcases hv with rfl|rfl|rfl|rfl|rfl<;>exact⟨rfl,rfl⟩)]
 have f1:Kp H n (T.set H n (one [v0,v1,v2,v3,v4])) (n+1):=(Kp.refl H n).new _ (Nat.le_refl _) (by omega)
 have hg:=T.Ai H n (one [v0,v1,v2,v3,v4])
 generalize T.set H n (one [v0,v1,v2,v3,v4])=H1 at f1 hg⊢
 generalize hB:(PZ.arr 1 5 (T.set (T.set (T.set (T.set (T.set (wM [V.int .i64 (.ofNat 0) 0] 5 .e) 0 [V.int .i64 (.ofNat p.nums.length) 0]) 1 [V.int .i64 (.ofNat p.names.length) 0]) 2 [V.int .i64 (.ofNat p.types.length) 0]) 3 [V.int .i64 (.ofNat p.fields.length) 0]) 4 [V.int .i64 (.ofNat p.CV.length) 0]))=B
 have f2:=f1.new (m:=n+1+1) B (id:=n+1) (by omega) (by omega)
 have hg2:=T.Ai H1 (n+1) B
 have hg:T.get (T.set H1 (n+1) B) n=_:=(T.Ac _ _ (by omega)).trans hg
 generalize T.set H1 (n+1) B=H2 at f2 hg hg2⊢
 subst hB
 have he:=AN3 (G:=G) hg2
 have hl:lenV (.sl (n+1) 0 5 5 1)=some (.int .i64 (.ofNat 5) 0):=rfl
 simp only[go_sem,Nat.reduceAdd,hl]
 exact AHk (xs:=cnts p) (h.kp f2) (by omega) hg he (by show 5<big;decide) λH' n' f=>hk _ _ (f2.trans f)
def AGn:List Nat:=[0,110,0,108,108,0,0,0,0,0,0,0,0,0,0,0,102,102,99,116,116,116,0,99,99,109,109,106,106,0,0,0,98]
def oJ(G:AX):Prop:=∀c,c<33->G 0 (c*2+1) 1=some [V.int .i32 (.ofNat (AGn.getD c 0)) 0]
def known(c:Int):Bool:=decide (1<=c)&&decide (c<=32)
def zI(c:Int):Nat:=bif known c then AGn.getD c.toNat 0 else 0
theorem ABu(q:IntKind)(a b:Int):B2.ev .geq (.int q a 0) (.int q b 0)=some (.bool (decide (b<=a))):=by
 show BQ (band (keq q q) true) (mkB (ile b a))=_
 rw[Sm,tu,show band (keq q q) true=true by simp[OE]];rfl
theorem ABQ(q:IntKind)(a b:Int):B2.ev .gtr (.int q a 0) (.int q b 0)=some (.bool (decide (b<a))):=by
 show BQ (band (keq q q) true) (mkB (ilt b a))=_
 rw[Sm,Wi,show band (keq q q) true=true by simp[OE]];rfl
theorem ASQ(q:IntKind)(a b:Int):B2.ev .lss (.int q a 0) (.int q b 0)=some (.bool (decide (a<b))):=by
 show BQ (band (keq q q) true) (mkB (ilt a b))=_
 rw[Sm,Wi,show band (keq q q) true=true by simp[OE]];rfl
theorem AJv{G:AX}{c:Int}{H:Heap}{n:Nat}{k:KV}(hk:k (.bool (known c)) H n):Runs F G Xt [.int .i64 c 0] H n k:=by
 refine BL (s:=Lu (Ph lfp G)) WW (by obtain⟨h,o⟩:=eP BK G;rw[WW]at h;cases h;exact o) ?_
 show Ph lfp G (Runs F G) (.int .i64 c 0) H n k
 delta Ph
 unfold known at hk
 simp only[go_sem,ABu,ADt]
 rw[show decide (Int.ofNat 1<=c)=decide (1<=c)from rfl]
 cases h:decide (1<=c)with
 |false=>rw[h]at hk;simp only[go_sem];exact hk
 |true=>rw[h]at hk;simp only[go_sem,ADt];exact hk
theorem AIw{G:AX}(hG:oJ G){c:Int}{H:Heap}{n:Nat}{k:KV}(hk:k (.int .i32 (.ofNat (zI c)) 0) H n):Runs F G ni [.int .i64 c 0] H n k:=by
 refine BL (s:=Lu (RI lfp G)) X8 (by obtain⟨h,o⟩:=je BK G;rw[X8]at h;cases h;exact o) ?_
 show RI lfp G (Runs F G) (.int .i64 c 0) H n k
 delta RI
 refine AJv ?_
 unfold zI at hk
 cases h:known c with
 |false=>rw[h]at hk;simp only[Bl,Bool.not_false,go_sem];exact hk
 |true=>
  rw[h]at hk
  simp only[Bl,Bool.not_true,go_sem]
  obtain⟨m,rfl⟩:∃m:Nat,c=.ofNat m:=⟨c.toNat,by simp[known]at h;show c=((c.toNat:Nat):Int);omega⟩
  have hm:m<33:=by simp[known]at h;omega
  have hi:AJ4 33 2 (.gptr 0 0) (.int .i64 (.ofNat m) 0)=some (.gptr 0 (m*2)):=by
   show BQ (Nat.blt m 33) (AQ (Nat.mul m 2) (.gptr 0 0))=_
   rw[show Nat.blt m 33=true by rw[Nat.blt_eq];exact hm,show BQ true (AQ (Nat.mul m 2) (.gptr 0 0))=AQ (Nat.mul m 2) (.gptr 0 0)from rfl,AE6,Nat.zero_add]
   rfl
  have hl:AV (.gptr 0 (m*2+1)) G H=some (.int .i32 (.ofNat (AGn.getD m 0)) 0):=Ld (hG m hm)
  simp only[go_sem,hi,hl]
  exact hk
structure Ins where
 code:Int
 arg:Int
def Ins.cells(i:Ins):LV:=[.int .i64 i.code 0,.int .i64 i.arg 0]
structure Bd where
 locals:Int
 stack:Int
 code:List Ins
def AH6(G:AX)(H0:Heap)(n0:Nat)(v:V)(g:Nat->Int):Prop:=
 ∃f a c,v=.fn f a c/\∀(q:Nat) {H:Heap} {n:Nat} {k:KV},Kp H0 n0 H n->k (.int .i64 (g q) 0) H n->Runs F G f (cat a (cat [.int .i32 (.ofNat q) 0] c)) H n k
def eY(g:Nat->Int)(i:Ins):Bool:=
 known i.code&&bif decide (zI i.code=0)then decide (i.arg=0)else(decide (0<=i.arg)&&decide (i.arg<g (zI i.code)))
theorem AD2(q:IntKind)(a:Int):GI (.int q a 0) (.int q a 0)=true:=by
 show KG (.int q a 0) (.int q a 0)=true
 simp[KG,ADX,BP,OE,VY]
theorem AQx(q:IntKind)(a:Int)(P:Prop):tN (.bool true) true (some (.int q a 0)) (.int q a 0) P=P:=by
 show NC (GI (.int q a 0) (.int q a 0)) P=P
 rw[AD2];rfl
theorem AAK(x y:Nat):Cc (.one .int) false (.int .i32 (.ofNat x) 0) (.int .i32 (.ofNat y) 0)=some (.bool (decide (x=y))):=by
 show ofB (Qu (some (ieq (.ofNat x) (.ofNat y))) λb=>some b)=_
 rw[VY,show(Int.ofNat x==Int.ofNat y)=decide (x=y)by rw[Bool.eq_iff_iff];simp;omega];cases decide (x=y)<;>rfl
theorem AVC(x:Int):Cc (.one .int) false (.int .i64 x 0) (.int .i64 (.ofNat 0) 0)=some (.bool (decide (x=0))):=by
 rw[eq_i,show(x==Int.ofNat 0)=decide (x=0)by rw[Bool.eq_iff_iff];simp]
theorem AFg{G:AX}(hG:oJ G){i:Ins}{v:V}{g:Nat->Int}{H:Heap}{n:Nat}{k:KV}(hv:AH6 G H n v g)
 (hk:∀H' n',Kp H n H' n'->k (.bool (eY g i)) H' n'):Runs F G gV [.agg i.cells,v] H n k:=by
 refine BL (s:=TY (OX lfp G)) VN (by obtain⟨h,o⟩:=bI BK G;rw[VN]at h;cases h;exact o) ?_
 show OX lfp G (Runs F G) (.agg i.cells) v H n k
 delta OX
 unfold eY at hk
 unfold Ins.cells
 have f1:Kp H n (T.set H n (one [V.int .i64 i.code 0,.int .i64 i.arg 0])) (n+1):=(Kp.refl H n).new _ (Nat.le_refl _) (by omega)
 have hg:=T.Ai H n (one [V.int .i64 i.code 0,.int .i64 i.arg 0])
 simp only[go_sem]
 generalize T.set H n (one [V.int .i64 i.code 0,.int .i64 i.arg 0])=H1 at f1 hg⊢
 have e0:AV (.ptr n 0) G H1=some (.int .i64 i.code 0):=AU hg rfl
 have e1:AV (.ptr n 1) G H1=some (.int .i64 i.arg 0):=AU hg rfl
 refine AJv ?_
 simp only[Bl]
 cases h:known i.code with
 |false=>
  rw[h]at hk
  simp only[Bool.not_false,go_sem]
  exact hk _ _ f1
 |true=>
  rw[h]at hk
  simp only[Bool.not_true,go_sem,Nat.reduceAdd,e0]
  refine AIw hG ?_
  simp only[go_sem,AAK]
  cases h0:decide (zI i.code=0)with
  |true=>
   rw[h0]at hk
   simp only[go_sem,Nat.reduceAdd,e1,AVC]
   exact hk _ _ f1
  |false=>
   rw[h0]at hk
   simp only[go_sem,Nat.reduceAdd,e1,ABu]
   rw[show decide (Int.ofNat 0<=i.arg)=decide (0<=i.arg)from rfl]
   cases h2:decide (0<=i.arg)with
   |false=>
    rw[h2]at hk
    simp only[go_sem]
    exact hk _ _ f1
   |true=>
    rw[h2]at hk
    obtain⟨f,a,c,rfl,hf⟩:=hv
    simp only[go_sem,Nat.reduceAdd,e1]
    show Runs F G f (cat a (cat [_] c)) H1 (n+1) _
    refine hf _ f1 ?_
    simp only[go_sem,e1,AQx,ASQ]
    exact hk _ _ f1
structure Fl where
 face:Fc
 pool:Pool
 bodies:List Bd
def mny(p:Pool)(b:Bd)(q:Nat):Int:=
 bif decide (q=110)then p.nums.length else bif decide (q=99)then p.names.length else bif decide (q=116)then p.types.length else bif decide (q=102)then p.fields.length else
 bif decide (q=109)then p.CV.length else bif decide (q=108)then b.locals else bif decide (q=106)then b.code.length else 2
theorem AO5{G:AX}{p:Pool}{b:Bd}{c0 c1 c2 c3 v0 v1 v2 v3 v4 vb vc:V}{ws:List V}{H:Heap}{n i j:Nat}(hi:i<n)(hj:j<n)(h:FI G H n p v0 v1 v2 v3 v4 ws)
 (hc:El G H vc 2 (b.code.map Ins.cells))
 (gi:T.get H i=some (one [c0,c1,c2,c3,v0,v1,v2,v3,v4,vb])) (gj:T.get H j=some (one [V.int .i64 b.locals 0,.int .i64 b.stack 0,vc])):
 AH6 G H n (.fn TS [] [.ptr i 0,.ptr j 0]) (mny p b):=by
 refine⟨_,_,_,rfl,λq {H2 n2 k} f hk=>?_⟩
 have gi:T.get H2 i=_:=(f.same i hi).trans gi
 have gj:T.get H2 j=_:=(f.same j hj).trans gj
 show Runs F G TS [.int .i32 (.ofNat q) 0,.ptr i 0,.ptr j 0] H2 n2 k
 refine BL (s:=ar3 (Jg lfp G)) RZ (by obtain⟨h,o⟩:=XM BK G;rw[RZ]at h;cases h;exact o) ?_
 show Jg lfp G (Runs F G) (.int .i32 (.ofNat q) 0) (.ptr i 0) (.ptr j 0) H2 n2 k
 delta Jg
 have l0:lenV v0=some (.int .i64 (.ofNat p.nums.length) 0):=by rw[h.e0.len,List.length_map]
 have l1:lenV v1=some (.int .i64 (.ofNat p.names.length) 0):=by rw[h.e1.len,GZ]
 have l3:lenV v3=some (.int .i64 (.ofNat p.fields.length) 0):=by rw[h.e3.len,List.length_map]
 have l4:lenV v4=some (.int .i64 (.ofNat p.CV.length) 0):=by rw[h.e4.len,List.length_zipWith,h.yE,Nat.min_self]
 have lc:lenV vc=some (.int .i64 (.ofNat b.code.length) 0):=by rw[hc.len,List.length_map]
 have e4:AV (.ptr i 4) G H2=some v0:=AU gi rfl
 have e5:AV (.ptr i 5) G H2=some v1:=AU gi rfl
 have e6:AV (.ptr i 6) G H2=some v2:=AU gi rfl
 have e7:AV (.ptr i 7) G H2=some v3:=AU gi rfl
 have e8:AV (.ptr i 8) G H2=some v4:=AU gi rfl
 have f0:AV (.ptr j 0) G H2=some (.int .i64 b.locals 0):=AU gj rfl
 have f2:AV (.ptr j 2) G H2=some vc:=AU gj rfl
 unfold mny at hk
 simp only[go_sem,AAK]
 cases h1:decide (q=110)with
 |true=>rw[h1]at hk;simp only[go_sem,Nat.reduceAdd,e4,l0];exact hk
 |false=>
  rw[h1]at hk;simp only[go_sem,AAK]
  cases h2:decide (q=99)with
  |true=>rw[h2]at hk;simp only[go_sem,Nat.reduceAdd,e5,l1];exact hk
  |false=>
   rw[h2]at hk;simp only[go_sem,AAK]
   cases h3:decide (q=116)with
   |true=>rw[h3]at hk;simp only[go_sem,Nat.reduceAdd,e6,h.t2.len];exact hk
   |false=>
    rw[h3]at hk;simp only[go_sem,AAK]
    cases h4:decide (q=102)with
    |true=>rw[h4]at hk;simp only[go_sem,Nat.reduceAdd,e7,l3];exact hk
    |false=>
     rw[h4]at hk;simp only[go_sem,AAK]
     cases h5:decide (q=109)with
     |true=>rw[h5]at hk;simp only[go_sem,Nat.reduceAdd,e8,l4];exact hk
     |false=>
      rw[h5]at hk;simp only[go_sem,AAK]
      cases h6:decide (q=108)with
      |true=>rw[h6]at hk;simp only[go_sem,Nat.reduceAdd,f0];exact hk
      |false=>
       rw[h6]at hk;simp only[go_sem,AAK]
       cases h7:decide (q=106)with
       |true=>rw[h7]at hk;simp only[go_sem,Nat.reduceAdd,f2,lc];exact hk
       |false=>rw[h7]at hk;simp only[go_sem];exact hk
theorem AIb{G:AX}{p:Pool}{b:Bd}{c0 c1 c2 c3 v0 v1 v2 v3 v4 vb vc:V}{ws:List V}{H:Heap}{n:Nat}{k:KV}(h:FI G H n p v0 v1 v2 v3 v4 ws)
 (hc:El G H vc 2 (b.code.map Ins.cells)) (hl:Lo vc n)
 (hk:∀H' n' v,Kp H n H' n'->AH6 G H' n' v (mny p b)->k v H' n'):
 Runs F G bP [.agg [c0,c1,c2,c3,v0,v1,v2,v3,v4,vb],.agg [V.int .i64 b.locals 0,.int .i64 b.stack 0,vc]] H n k:=by
 refine BL (s:=TY (MN lfp G)) Uf (by obtain⟨h,o⟩:=ZW BK G;rw[Uf]at h;cases h;exact o) ?_
 show MN lfp G (Runs F G) (.agg [c0,c1,c2,c3,v0,v1,v2,v3,v4,vb]) (.agg [V.int .i64 b.locals 0,.int .i64 b.stack 0,vc]) H n k
 delta MN
 simp only[go_sem]
 have f1:=((Kp.refl H n).new (m:=n+1) (id:=n) (one [c0,c1,c2,c3,v0,v1,v2,v3,v4,vb]) (Nat.le_refl _) (by omega)).new (m:=n+1+1) (id:=n+1) (one [V.int .i64 b.locals 0,.int .i64 b.stack 0,vc]) (by omega) (by omega)
 exact hk _ _ _ f1 (AO5 (by omega) (by omega) (h.kp f1) (hc.kp hl f1) (by rw[T.Ac _ _ (by omega),T.Ai]) (T.Ai ..))
def Bd.cells(b:Bd)(w:V):LV:=[.int .i64 b.locals 0,.int .i64 b.stack 0,w]
structure PG(G:AX)(H:Heap)(n:Nat)(v:V)(is:List Ins):Prop where
 el:El G H v 2 (is.map Ins.cells)
 lo:Lo v n
 lt:is.length<big
theorem PG.kp{G:AX}{H H':Heap}{n n':Nat}{v:V}{is:List Ins}(h:PG G H n v is)(f:Kp H n H' n'):PG G H' n' v is:=⟨h.el.kp h.lo f,h.lo.mono f.le,h.lt⟩
structure Kt(G:AX)(H:Heap)(n:Nat)(v:V)(bs:List Bd)(ws:List V):Prop where
 el:El G H v 3 (List.zipWith Bd.cells bs ws)
 lo:Lo v n
 lt:bs.length<big
 len:ws.length=bs.length
 at':∀(i:Nat) (b:Bd) (w:V),bs[i]? =some b->ws[i]? =some w->PG G H n w b.code
theorem Kt.kp{G:AX}{H H':Heap}{n n':Nat}{v:V}{bs:List Bd}{ws:List V}(h:Kt G H n v bs ws)(f:Kp H n H' n'):Kt G H' n' v bs ws:=
 ⟨h.el.kp h.lo f,h.lo.mono f.le,h.lt,h.len,λi b w x y=>(h.at' i b w x y).kp f⟩
theorem ALB(i:Ins):GI (.agg i.cells) (.agg i.cells)=true:=by
 show ABy [V.int .i64 i.code 0,.int .i64 i.arg 0] [V.int .i64 i.code 0,.int .i64 i.arg 0]=true
 show band (KG _ _) (band (KG _ _) true)=true
 simp[KG,ADX,BP,OE,VY]
theorem AH1{G:AX}(hG:oJ G){p:Pool}{b:Bd}{c0 c1 c2 c3 v0 v1 v2 v3 v4 vb vc x30 x31 x32:V}{ws:List V}{H:Heap}{n i j:Nat}{k:KV}{ih24:(V×V×V×V×Heap×Nat)->Prop}
 (hi:i<n) (hj:j<n) (h:FI G H n p v0 v1 v2 v3 v4 ws) (hc:PG G H n vc b.code)
 (gi:T.get H i=some (one [c0,c1,c2,c3,v0,v1,v2,v3,v4,vb])) (gj:T.get H j=some (one (b.cells vc)))
 (hbad:b.code.all (eY (mny p b))=false->∀H' n',Kp H n H' n'->k (.bool false) H' n')
 (hok:b.code.all (eY (mny p b))=true->∀H' n',Kp H n H' n'->FH lfp G (Runs F G) k ih24 (.ptr i 0) x30 x31 x32 H' n'):
 lfp (V×V×V×V×V×V×V×V×Heap×Nat) (OV lfp G (Runs F G) k ih24) (.ptr i 0,.ptr j 0,x30,x31,x32,vc,.int .i64 (.ofNat b.code.length) 0,.int .i64 (.ofNat 0) 0,H,n):=by
 refine JG (J:=λm st=>∃e H2 n2,m=b.code.length-e/\e<=b.code.length/\st=(.ptr i 0,.ptr j 0,x30,x31,x32,vc,.int .i64 (.ofNat b.code.length) 0,.int .i64 (.ofNat e) 0,H2,n2)/\Kp H n H2 n2/\
  ((b.code.drop e).all (eY (mny p b))=false->∀H' n',Kp H n H' n'->k (.bool false) H' n')/\
  ((b.code.drop e).all (eY (mny p b))=true->∀H' n',Kp H n H' n'->FH lfp G (Runs F G) k ih24 (.ptr i 0) x30 x31 x32 H' n')) ?_ (m:=b.code.length) ⟨0,H,n,rfl,Nat.zero_le _,rfl,Kp.refl _ _,hbad,hok⟩
 rintro I m st ⟨e,H2,n2,rfl,he,rfl,f,hbad,hok⟩ ih
 show O4 lfp G (Runs F G) k ih24 I (.ptr i 0) (.ptr j 0) x30 x31 x32 vc (.int .i64 (.ofNat b.code.length) 0) (.int .i64 (.ofNat e) 0) H2 n2
 delta O4
 by_cases hlt:e<b.code.length
 ·have hc2:=hc.kp f
  obtain⟨q,hp,hld⟩:=hc2.el.at (i:=e) (c:=b.code[e].cells) (by simp[hlt])
  have hbig:=hc.lt
  rw[List.drop_eq_getElem_cons hlt,List.all_cons]at hbad hok
  generalize b.code[e]=s at hld hbad hok
  have hs:=ALB s
  unfold Ins.cells at hld hs
  simp only[go_sem,Nat.reduceAdd,Bh,hlt,decide_true,hp,Bq hld]
  have f2:Kp H2 n2 (T.set (T.set H2 n2 (one [.int .i64 (.ofNat 0) 0,.int .i64 (.ofNat 0) 0])) n2 (one [.int .i64 s.code 0,.int .i64 s.arg 0])) (n2+1):=
   ((Kp.refl _ _).new (m:=n2+1) _ (Nat.le_refl _) (by omega)).new _ (Nat.le_refl _) (Nat.le_refl _)
  have hg:=T.Ai (T.set H2 n2 (one [.int .i64 (.ofNat 0) 0,.int .i64 (.ofNat 0) 0])) n2 (one [V.int .i64 s.code 0,.int .i64 s.arg 0])
  generalize T.set (T.set H2 n2 (one [.int .i64 (.ofNat 0) 0,.int .i64 (.ofNat 0) 0])) n2 (one [V.int .i64 s.code 0,.int .i64 s.arg 0])=H3 at f2 hg⊢
  have f3:=f.trans f2
  have gi3:T.get H3 i=_:=(f3.same i hi).trans gi
  have gj3:T.get H3 j=_:=(f3.same j hj).trans gj
  have e1:Ae 2 (.ptr n2 0) G H3=some (.agg [.int .i64 s.code 0,.int .i64 s.arg 0]):=Cb hg (by omega) rfl
  have e2:Ae 10 (.ptr i 0) G H3=some (.agg [c0,c1,c2,c3,v0,v1,v2,v3,v4,vb]):=Cb gi3 (by omega) rfl
  have e3:Ae 3 (.ptr j 0) G H3=some (.agg (b.cells vc)):=Cb gj3 (by omega) rfl
  simp only[go_sem,Nat.reduceAdd,e1,e2,e3]
  refine AIb (h.kp f3) (hc.kp f3).el (hc.kp f3).lo λH4 n4 v f4 hv=>?_
  have hg4:T.get H4 n2=_:=(f4.same n2 (by omega)).trans hg
  have e4:Ae 2 (.ptr n2 0) G H4=some (.agg [.int .i64 s.code 0,.int .i64 s.arg 0]):=Cb hg4 (by omega) rfl
  simp only[go_sem,e4,hs]
  refine AFg (i:=s) hG hv λH5 n5 f5=>?_
  have f6:=f3.trans (f4.trans f5)
  simp only[Bl,go_sem]
  cases h2:eY (mny p b) s with
  |false=>
   rw[h2]at hbad
   simp only[Bool.not_false,go_sem]
   exact hbad rfl _ _ f6
  |true=>
   rw[h2]at hbad hok
   simp only[Bool.not_true,go_sem,DJ (show e+1<9223372036854775808 by unfold big at hbig;omega)]
   exact ih _ _ (by omega) ⟨e+1,_,_,rfl,hlt,rfl,f6,hbad,hok⟩
 ·simp only[go_sem,Bh,hlt,decide_false]
  rw[List.drop_eq_nil_of_le (by omega)]at hok
  exact hok rfl _ _ f
def least(m:DK):Nat:=bif m.st then m.ps.length else m.ps.length+1
def uN(p:Pool)(m:DK)(b:Bd):Bool:=
 !decide (b.locals<least m)&&(!decide ((401:Int)<b.locals)&&(!decide (b.stack<0)&&(!decide ((1000:Int)<b.stack)&&(!decide (b.code.length<1)&&(!decide (16384<b.code.length)&&b.code.all (eY (mny p b)))))))
def Xo(p:Pool):List DK->List Bd->Bool
 |m::ms,b::bs=>uN p m b&&Xo p ms bs
 |_,_=>true
theorem AID{G:AX}(hG:oJ G){p:Pool}{m:DK}{b:Bd}{c0 c1 c2 c3 v0 v1 v2 v3 v4 vb vc x30 x31 x32:V}{ws:List V}{H:Heap}{n i j:Nat}{k:KV}{ih24:(V×V×V×V×Heap×Nat)->Prop}
 (hi:i<n) (hj:j<n) (h:FI G H n p v0 v1 v2 v3 v4 ws) (hc:PG G H n vc b.code)
 (gi:T.get H i=some (one [c0,c1,c2,c3,v0,v1,v2,v3,v4,vb])) (gj:T.get H j=some (one (b.cells vc)))
 (hbad:uN p m b=false->∀H' n',Kp H n H' n'->k (.bool false) H' n')
 (hok:uN p m b=true->∀H' n',Kp H n H' n'->FH lfp G (Runs F G) k ih24 (.ptr i 0) x30 x31 x32 H' n'):
 FN lfp G (Runs F G) k ih24 (.ptr i 0) (.ptr j 0) (.int .i64 (.ofNat (least m)) 0) x30 x31 x32 H n:=by
 delta FN
 unfold uN at hbad hok
 unfold Bd.cells at gj
 have f0:AV (.ptr j 0) G H=some (.int .i64 b.locals 0):=AU gj rfl
 have f1:AV (.ptr j 1) G H=some (.int .i64 b.stack 0):=AU gj rfl
 have f2:AV (.ptr j 2) G H=some vc:=AU gj rfl
 have lc:lenV vc=some (.int .i64 (.ofNat b.code.length) 0):=by rw[hc.el.len,List.length_map]
 simp only[go_sem,Nat.reduceAdd,f0,ASQ]
 rw[show decide (b.locals<Int.ofNat (least m))=decide (b.locals<least m)from rfl]
 cases h1:decide (b.locals<least m)with
 |true=>rw[h1]at hbad;simp only[go_sem];exact hbad rfl _ _ (Kp.refl _ _)
 |false=>
  rw[h1]at hbad hok;simp only[go_sem,Nat.reduceAdd,f0,ABQ]
  rw[show decide (Int.ofNat 401<b.locals)=decide ((401:Int)<b.locals)from rfl]
  cases h2:decide ((401:Int)<b.locals)with
  |true=>rw[h2]at hbad;simp only[go_sem];exact hbad rfl _ _ (Kp.refl _ _)
  |false=>
   rw[h2]at hbad hok;simp only[go_sem,Nat.reduceAdd,f1,ASQ]
   rw[show decide (b.stack<Int.ofNat 0)=decide (b.stack<0)from rfl]
   cases h3:decide (b.stack<0)with
   |true=>rw[h3]at hbad;simp only[go_sem];exact hbad rfl _ _ (Kp.refl _ _)
   |false=>
    rw[h3]at hbad hok;simp only[go_sem,Nat.reduceAdd,f1,ABQ]
    rw[show decide (Int.ofNat 1000<b.stack)=decide ((1000:Int)<b.stack)from rfl]
    cases h4:decide ((1000:Int)<b.stack)with
    |true=>rw[h4]at hbad;simp only[go_sem];exact hbad rfl _ _ (Kp.refl _ _)
    |false=>
     rw[h4]at hbad hok;simp only[go_sem,Nat.reduceAdd,f2,lc,Bh]
     cases h5:decide (b.code.length<1)with
     |true=>rw[h5]at hbad;simp only[go_sem];exact hbad rfl _ _ (Kp.refl _ _)
     |false=>
      rw[h5]at hbad hok;simp only[go_sem,Nat.reduceAdd,f2,lc,Iu]
      cases h6:decide (16384<b.code.length)with
      |true=>rw[h6]at hbad;simp only[go_sem];exact hbad rfl _ _ (Kp.refl _ _)
      |false=>
       rw[h6]at hbad hok;simp only[go_sem,Nat.reduceAdd,f2,lc]
       exact AH1 hG hi hj h hc gi gj hbad hok
theorem AEu{G:AX}(hG:oJ G){p:Pool}{c:Fc}{bs:List Bd}{vf vm v0 v1 v2 v3 v4 vb:V}{mws ws bws:List V}{H:Heap}{n i:Nat}{k:KV}
 (hi:i<n) (hm:MQ G H n vm c.ms mws) (h:FI G H n p v0 v1 v2 v3 v4 ws) (hb:Kt G H n vb bs bws) (hlen:bs.length=c.ms.length) (AHR:∀m∈c.ms,m.ps.length<=200)
 (gi:T.get H i=some (one [c.nm.v,c.sup.v,vf,vm,v0,v1,v2,v3,v4,vb]))
 (hk:∀H' n',Kp H n H' n'->k (.bool (Xo p c.ms bs)) H' n'):
 lfp (V×V×V×V×Heap×Nat) (N9 lfp G (Runs F G) k) (.ptr i 0,vb,.int .i64 (.ofNat bs.length) 0,.int .i64 (.ofNat 0) 0,H,n):=by
 refine JG (J:=λm st=>∃e H2 n2,m=bs.length-e/\e<=bs.length/\st=(.ptr i 0,vb,.int .i64 (.ofNat bs.length) 0,.int .i64 (.ofNat e) 0,H2,n2)/\Kp H n H2 n2/\
  (∀H' n',Kp H n H' n'->k (.bool (Xo p (c.ms.drop e) (bs.drop e))) H' n')) ?_ (m:=bs.length) ⟨0,H,n,rfl,Nat.zero_le _,rfl,Kp.refl _ _,hk⟩
 rintro I m st ⟨e,H2,n2,rfl,he,rfl,f,hk⟩ ih
 show PW lfp G (Runs F G) k I (.ptr i 0) vb (.int .i64 (.ofNat bs.length) 0) (.int .i64 (.ofNat e) 0) H2 n2
 delta PW
 by_cases hlt:e<bs.length
 ·have hlt':e<c.ms.length:=by omega
  have hw:e<bws.length:=by rw[hb.len];exact hlt
  have hb2:=hb.kp f
  obtain⟨q,hp,hld⟩:=hb2.el.at (i:=e) (c:=bs[e].cells bws[e]) (by rw[List.getElem?_zipWith];simp[hlt,hw])
  have hcode:=hb2.at' e _ _ (List.getElem?_eq_getElem hlt) (List.getElem?_eq_getElem hw)
  have hbig:=hb.lt
  rw[List.drop_eq_getElem_cons hlt,List.drop_eq_getElem_cons hlt']at hk
  unfold Xo at hk
  generalize bs[e]=b at hld hcode hk
  generalize bws[e]=w at hld hcode
  unfold Bd.cells at hld
  simp only[go_sem,Nat.reduceAdd,Bh,hlt,decide_true,hp,Bq hld]
  have f2:Kp H2 n2 (T.set (T.set H2 n2 (one [.int .i64 (.ofNat 0) 0,.int .i64 (.ofNat 0) 0,.AZ])) n2 (one [.int .i64 b.locals 0,.int .i64 b.stack 0,w])) (n2+1):=
   ((Kp.refl _ _).new (m:=n2+1) _ (Nat.le_refl _) (by omega)).new _ (Nat.le_refl _) (Nat.le_refl _)
  have gj:=T.Ai (T.set H2 n2 (one [.int .i64 (.ofNat 0) 0,.int .i64 (.ofNat 0) 0,.AZ])) n2 (one [V.int .i64 b.locals 0,.int .i64 b.stack 0,w])
  generalize T.set (T.set H2 n2 (one [.int .i64 (.ofNat 0) 0,.int .i64 (.ofNat 0) 0,.AZ])) n2 (one [V.int .i64 b.locals 0,.int .i64 b.stack 0,w])=H3 at f2 gj⊢
  have f3:=f.trans f2
  have gi3:T.get H3 i=_:=(f3.same i hi).trans gi
  obtain⟨q2,w2,hp2,hld2,hps⟩:=(hm.kp f3).at hlt'
  have hps2:=AHR _ (List.getElem_mem hlt')
  generalize c.ms[e]=mt at hld2 hps hk hps2
  unfold DK.cells at hld2
  have e3:AV (.ptr i 3) G H3=some vm:=AU gi3 rfl
  simp only[go_sem,Nat.reduceAdd,e3,hp2,Bq hld2,hps.len]
  have f4:Kp H3 (n2+1) (T.set (T.set H3 (n2+1) (one [.str 0 0,.bool false,.AZ,.str 0 0,.bool false])) (n2+1) (one [mt.nm.v,.bool mt.st,w2,mt.ret.nm.v,.bool mt.ret.arr])) (n2+1+1):=
   ((Kp.refl _ _).new (m:=n2+1+1) _ (Nat.le_refl _) (by omega)).new _ (Nat.le_refl _) (Nat.le_refl _)
  generalize T.set (T.set H3 (n2+1) (one [.str 0 0,.bool false,.AZ,.str 0 0,.bool false])) (n2+1) (one [mt.nm.v,.bool mt.st,w2,mt.ret.nm.v,.bool mt.ret.arr])=H4 at f4⊢
  have f5:=f3.trans f4
  have gi4:T.get H4 i=_:=(f5.same i hi).trans gi
  have gj4:T.get H4 n2=_:=(f4.same n2 (by omega)).trans gj
  have hgo:FN lfp G (Runs F G) k I (.ptr i 0) (.ptr n2 0) (.int .i64 (.ofNat (least mt)) 0) vb (.int .i64 (.ofNat bs.length) 0) (.int .i64 (.ofNat e) 0) H4 (n2+1+1):=by
   refine AID hG (p:=p) (m:=mt) (b:=b) (by have:=f.le;omega) (by omega) (h.kp f5) (hcode.kp (f2.trans f4)) gi4 gj4 ?_ ?_
   ·intro hbad H' n' f'
    rw[hbad]at hk
    exact hk _ _ (f5.trans f')
   ·intro hok H' n' f'
    rw[hok]at hk
    delta FH
    simp only[go_sem,DJ (show e+1<9223372036854775808 by unfold big at hbig;omega)]
    exact ih _ _ (by omega) ⟨e+1,_,_,rfl,hlt,rfl,f5.trans f',hk⟩
  simp only[Bl]
  unfold least at hgo
  cases hst:mt.st with
  |true=>rw[hst]at hgo;simp only[Bool.not_true,go_sem];exact hgo
  |false=>rw[hst]at hgo;simp only[Bool.not_false,go_sem,DJ (show mt.ps.length+1<9223372036854775808 by omega)];exact hgo
 ·simp only[go_sem,Bh,hlt,decide_false]
  delta PD
  rw[List.drop_eq_nil_of_le (by omega),List.drop_eq_nil_of_le (by omega)]at hk
  exact hk _ _ f
theorem zy:∀{a:St} {ms:List DK},Nb a ms=true->∀m∈ms,m.ps.length<=200
 |_,[],_=>λm hm=>by cases hm
 |a,m::ms,h=>by
  simp[Nb]at h
  intro m' hm'
  rcases List.mem_cons.1 hm' with rfl|hm'
  ·omega
  ·exact zy h.2.2.2.2.2 m' hm'
theorem rP{c:Fc}(h:Us c=true):∀m∈c.ms,m.ps.length<=200:=by
 simp[Us]at h
 exact zy h.2.2.2.2.2.2.2
structure eF(G:AX)(H:Heap)(n:Nat)(L:LV)(f:Fl)(vf vm v0 v1 v2 v3 v4 vb:V)(mws ws bws:List V):Prop where
 is:L=[f.face.nm.v,f.face.sup.v,vf,vm,v0,v1,v2,v3,v4,vb]
 face:Xx G H n [f.face.nm.v,f.face.sup.v,vf,vm] f.face vf vm mws
 pool:FI G H n f.pool v0 v1 v2 v3 v4 ws
 bodies:Kt G H n vb f.bodies bws
def Nv(f:Fl):Bool:=Us f.face&&(AE5 f.pool&&(decide (f.bodies.length=f.face.ms.length)&&Xo f.pool f.face.ms f.bodies))
theorem AGw{G:AX}(hG:oJ G){L:LV}{f:Fl}{vf vm v0 v1 v2 v3 v4 vb:V}{mws ws bws:List V}{H:Heap}{n:Nat}{k:KV}(h:eF G H n L f vf vm v0 v1 v2 v3 v4 vb mws ws bws)
 (hk:∀H' n',Kp H n H' n'->k (.bool (Nv f)) H' n'):Runs F G Zc [.agg L] H n k:=by
 refine BL (s:=Lu (KO lfp G)) Sr (by obtain⟨h,o⟩:=YQ BK G;rw[Sr]at h;cases h;exact o) ?_
 show KO lfp G (Runs F G) (.agg L) H n k
 obtain⟨rfl,hf,hp,hb⟩:=h
 delta KO
 unfold Nv at hk
 simp only[go_sem]
 have f1:Kp H n (T.set H n (one [f.face.nm.v,f.face.sup.v,vf,vm,v0,v1,v2,v3,v4,vb])) (n+1):=(Kp.refl H n).new _ (Nat.le_refl _) (by omega)
 have hg:=T.Ai H n (one [f.face.nm.v,f.face.sup.v,vf,vm,v0,v1,v2,v3,v4,vb])
 generalize T.set H n (one [f.face.nm.v,f.face.sup.v,vf,vm,v0,v1,v2,v3,v4,vb])=H1 at f1 hg⊢
 have e1:Ae 4 (.ptr n 0) G H1=some (.agg [f.face.nm.v,f.face.sup.v,vf,vm]):=Hy hg (by omega) (by show 4<=10;omega)
 simp only[go_sem,e1]
 refine zQ (hf.kp f1) λH2 n2 f2=>?_
 have hg:T.get H2 n=_:=(f2.same n (by omega)).trans hg
 have f3:=f1.trans f2
 simp only[Bl]
 cases h1:Us f.face with
 |false=>rw[h1]at hk;simp only[Bool.not_false,go_sem];exact hk _ _ f3
 |true=>
  rw[h1]at hk
  have e2:Ae 5 (.ptr n 4) G H2=some (.agg [v0,v1,v2,v3,v4]):=Hy hg (by omega) (by show 9<=10;omega)
  simp only[Bool.not_true,go_sem,Nat.reduceAdd,e2]
  refine AHX (hp.kp f3) λH4 n4 f4=>?_
  have hg:T.get H4 n=_:=(f4.same n (by have:=f2.le;omega)).trans hg
  have f5:=f3.trans f4
  simp only[Bl,go_sem]
  cases h2:AE5 f.pool with
  |false=>rw[h2]at hk;simp only[Bool.not_false,go_sem];exact hk _ _ f5
  |true=>
   rw[h2]at hk
   have e9:AV (.ptr n 9) G H4=some vb:=AU hg rfl
   have e3:AV (.ptr n 3) G H4=some vm:=AU hg rfl
   have lb:lenV vb=some (.int .i64 (.ofNat f.bodies.length) 0):=by rw[hb.el.len,List.length_zipWith,hb.len,Nat.min_self]
   have lm:lenV vm=some (.int .i64 (.ofNat f.face.ms.length) 0):=hf.ms.len'
   simp only[Bool.not_true,go_sem,Nat.reduceAdd,e9,e3,lb,lm,ATa]
   cases h3:decide (f.bodies.length=f.face.ms.length)with
   |false=>rw[h3]at hk;simp only[Bool.not_false,go_sem];exact hk _ _ f5
   |true=>
    rw[h3]at hk
    simp only[Bool.not_true,go_sem,Nat.reduceAdd,e9,lb]
    exact AEu hG (c:=f.face) (by have:=f2.le;have:=f4.le;omega) (hf.ms.kp f5) (hp.kp f5) (hb.kp f5) (of_decide_eq_true h3) (rP h1) hg λH' n' f'=>hk _ _ (f5.trans f')
end Go.RL
