/- Part of a proof; nothing is assumed. -/
import Derived.Test.YtibbhhkcjjeclaaDoorPlainR
import Derived.Test.YtibbhhkcjjeclaaDoorWalk
set_option linter.unusedVariables false
set_option linter.unusedSimpArgs false
noncomputable section
namespace Go.RL
open Go.Bv
set_option maxRecDepth 100000
theorem pI(b:Bool)(x y:V):Aw (.bool b) x y=some (bif b then x else y):=by cases b<;>rfl
theorem Bl(b:Bool):FN (.bool b)=some (.bool (!b)):=qm b
def upper(l c:Nat):Bool:=decide (0<l)&&(decide (65<=c%256)&&decide (c%256<=90))
def isClass(l c:Nat)(arr:Bool):Bool:= !arr&&upper l c
theorem wF{G:AX}{l c:Nat}{H:Heap}{n:Nat}{k:KV}(hk:∀H' n',Kp H n H' n'->k (.agg [.str l c,.bool false]) H' n'):Runs F G MQ [.str l c] H n k:=by
 refine BL (s:=MZ (lu lfp G)) xk (by obtain⟨h,o⟩:=ADr BK G;rw[xk]at h;cases h;exact o) ?_
 show lu lfp G (Runs F G) (.str l c) H n k
 delta lu
 simp only[go_sem,Nat.reduceAdd,show BA [.str 0 0,.bool false] [(0,1,.c (.str l c))]=some (.agg [.str l c,.bool false])from rfl]
 exact hk _ _ (((Kp.refl H n).new (m:=n+1) _ (Nat.le_refl _) (by omega)).new _ (Nat.le_refl _) (Nat.le_refl _))
theorem APm(a b l c:Nat):Cc (.one .str) true (.str a b) (.str l c)=some (.bool (!decide (a=l/\b=c))):=by
 show ofB (RX (some (band (Nat.beq a l) (Nat.beq b c))) λb=>some (aC b))=_
 have:band (Nat.beq a l) (Nat.beq b c)=decide (a=l/\b=c):=by rw[BP,Bool.eq_iff_iff];simp
 rw[this];cases decide (a=l/\b=c)<;>rfl
theorem ATh{l c:Nat}(h:0<l):AMr (.str l c) (.int .i64 (.ofNat 0) 0)=some (.int .u8 (.ofNat (c%256)) 0):=by
 show BQ (Nat.blt 0 l) (GX (ANl c 0) λb=>some (.int .u8 (.ofNat b) 0))=_
 have:Nat.blt 0 l=true:=by rw[Nat.blt_eq];exact h
 rw[this,EL]
 show some (V.int .u8 (.ofNat (c/1%256)) 0)=_
 rw[Nat.div_one]
theorem AT1(q:IntKind)(a b:Nat):B2.ev .geq (.int q (.ofNat a) 0) (.int q (.ofNat b) 0)=some (.bool (decide (b<=a))):=by
 show BQ (band (keq q q) true) (mkB (ile (.ofNat b) (.ofNat a)))=_
 rw[TV,uD,show band (keq q q) true=true by simp[Ob],show decide (Int.ofNat b<=Int.ofNat a)=decide (b<=a)by rw[decide_eq_decide];show(b:Int)<=a↔_;omega];rfl
theorem AJQ(q:IntKind)(a b:Nat):B2.ev .leq (.int q (.ofNat a) 0) (.int q (.ofNat b) 0)=some (.bool (decide (a<=b))):=by
 show BQ (band (keq q q) true) (mkB (ile (.ofNat a) (.ofNat b)))=_
 rw[TV,uD,show band (keq q q) true=true by simp[Ob],show decide (Int.ofNat a<=Int.ofNat b)=decide (a<=b)by rw[decide_eq_decide];show(a:Int)<=b↔_;omega];rfl
theorem pG{G:AX}{l c:Nat}{arr:Bool}(hl:l=0->c=0){H:Heap}{n:Nat}{k:KV}(hk:∀H' n',Kp H n H' n'->k (.bool (isClass l c arr)) H' n'):Runs F G CY [.agg [.str l c,.bool arr]] H n k:=by
 refine BL (s:=MZ (OG lfp G)) Vr (by obtain⟨h,o⟩:=bD BK G;rw[Vr]at h;cases h;exact o) ?_
 show OG lfp G (Runs F G) (.agg [.str l c,.bool arr]) H n k
 delta OG
 simp only[go_sem,Nat.reduceAdd,Bl]
 cases arr with
 |true=>
  simp only[go_sem,Nat.reduceAdd,Bool.not_true]
  exact hk _ _ ((Kp.refl H n).new _ (Nat.le_refl _) (by omega))
 |false=>
  simp only[go_sem,Nat.reduceAdd,Bool.not_false,APm]
  by_cases h0:l=0/\c=0
  ·simp only[h0,and_self,decide_true,Bool.not_true,go_sem]
   have:isClass l c false=false:=by simp[isClass,upper,h0]
   rw[this]at hk
   exact hk _ _ ((Kp.refl H n).new _ (Nat.le_refl _) (by omega))
  ·have hl0:0<l:=by rcases Nat.eq_zero_or_pos l with h|h;exact absurd ⟨h,hl h⟩ h0;exact h
   simp only[h0,decide_false,Bool.not_false,go_sem,ATh hl0,AT1,AJQ]
   have e:isClass l c false=(decide (65<=c%256)&&decide (c%256<=90)):=by simp[isClass,upper,hl0]
   rw[e]at hk
   cases h1:decide (65<=c%256)with
   |false=>
    simp only[go_sem]
    rw[h1]at hk
    exact hk _ _ ((Kp.refl H n).new _ (Nat.le_refl _) (by omega))
   |true=>
    simp only[go_sem,ATh hl0,AJQ]
    rw[h1]at hk
    exact hk _ _ ((Kp.refl H n).new _ (Nat.le_refl _) (by omega))
theorem AQK(l c:Nat):Qk (.str l c)=some (.int .i64 (.ofNat l) 0):=rfl
def wQ(l c:Nat):Bool:=decide (l=3/\c=7630441)||(decide (l=4/\c=1819242338)||(upper l c&&decide (l<=40)))
theorem xP{G:AX}{l c:Nat}{arr:Bool}(hl:l=0->c=0){H:Heap}{n:Nat}{k:KV}(hk:∀H' n',Kp H n H' n'->k (.bool (wQ l c)) H' n'):Runs F G Qu [.agg [.str l c,.bool arr]] H n k:=by
 refine BL (s:=MZ (XR lfp G)) iR (by obtain⟨h,o⟩:=wG BK G;rw[iR]at h;cases h;exact o) ?_
 show XR lfp G (Runs F G) (.agg [.str l c,.bool arr]) H n k
 delta XR
 unfold wQ at hk
 have f1:Kp H n (T.set H n (one [.str l c,.bool arr])) (n+1):=(Kp.refl H n).new _ (Nat.le_refl _) (by omega)
 simp only[go_sem,AB4]
 cases h1:decide (l=3/\c=7630441)with
 |true=>
  simp only[go_sem]
  rw[h1]at hk
  exact hk _ _ f1
 |false=>
  rw[h1]at hk
  simp only[go_sem,AB4]
  cases h2:decide (l=4/\c=1819242338)with
  |true=>
   simp only[go_sem]
   rw[h2]at hk
   exact hk _ _ f1
  |false=>
   rw[h2]at hk
   simp only[go_sem]
   refine wF λH1 n1 f2=>?_
   refine pG hl λH2 n2 f3=>?_
   have f4:=f1.trans (f2.trans f3)
   have e:isClass l c false=upper l c:=by simp[isClass]
   rw[e]
   cases h3:upper l c with
   |false=>
    simp only[go_sem]
    rw[h3]at hk
    exact hk _ _ f4
   |true=>
    rw[h3]at hk
    have hg:T.get H2 n=some (one [.str l c,.bool arr]):=by rw[f3.same n (by have:=f2.le;omega),f2.same n (by omega),T.Ai]
    simp only[go_sem,AU (off:=0) hg (v:=.str l c) rfl,AQK,AJQ]
    exact hk _ _ f4
theorem AFe{G:AX}{l c:Nat}(hl:l=0->c=0){H:Heap}{n:Nat}{k:KV}(hk:∀H' n',Kp H n H' n'->k (.bool (upper l c&&decide (l<=40))) H' n'):Runs F G Ws [.str l c] H n k:=by
 refine BL (s:=MZ (UK lfp G)) Zu (by obtain⟨h,o⟩:=lD BK G;rw[Zu]at h;cases h;exact o) ?_
 show UK lfp G (Runs F G) (.str l c) H n k
 delta UK
 refine wF λH1 n1 f2=>?_
 refine pG hl λH2 n2 f3=>?_
 have e:isClass l c false=upper l c:=by simp[isClass]
 rw[e]
 cases h3:upper l c<;>simp only[go_sem,AQK,AJQ]<;>rw[h3]at hk<;>exact hk _ _ (f2.trans f3)
abbrev St:=Nat×Nat
def St.v(s:St):V:=.str s.1 s.2
def strs(xs:List St):ET:=xs.map λs=>[St.v s]
theorem Gf(xs:List St):(strs xs).length=xs.length:=List.length_map ..
theorem O4{xs:List St}{i:Nat}(h:i<xs.length):(strs xs)[i]? =some [St.v xs[i]]:=by simp[strs,h]
def ADh(s:St):List St->Nat->Int
 |[],_=>.negSucc 0
 |x::xs,i=>bif decide (s.1=x.1/\s.2=x.2)then .ofNat i else ADh s xs (i+1)
def jK(s:St)(xs:List St):Bool:=xs.any λx=>decide (s.1=x.1/\s.2=x.2)
theorem AHC(s:St):∀(xs:List St) (i:Nat),decide ((0:Int)<=ADh s xs i)=jK s xs
 |[],_=>rfl
 |x::xs,i=>by
  unfold ADh
  show _=(decide (s.1=x.1/\s.2=x.2)||jK s xs)
  cases h:decide (s.1=x.1/\s.2=x.2)with
  |true=>simp
  |false=>simpa using AHC s xs (i+1)
theorem Bh{i m:Nat}:B2.ev .lss (.int .i64 (.ofNat i) 0) (.int .i64 (.ofNat m) 0)=some (.bool (decide (i<m))):=by
 rw[AM7];congr 2;rw[decide_eq_decide];show(i:Int)<m↔_;omega
theorem AOI{G:AX}{v:V}{xs:List St}{s:St}{H:Heap}{n:Nat}{k:KV}(h:El G H v 1 (strs xs))(hb:xs.length<9223372036854775808)(hk:k (.int .i64 (ADh s xs 0) 0) H n):
 Runs F G P5 [v,s.v] H n k:=by
 refine BL (s:=TY (EN lfp G)) JI (by obtain⟨h,o⟩:=Oi BK G;rw[JI]at h;cases h;exact o) ?_
 show EN lfp G (Runs F G) v s.v H n k
 delta EN
 rw[h.len,AB,Gf]
 refine JJ (J:=λm st=>∃i,m=xs.length-i/\i<=xs.length/\st=(v,s.v,.int .i64 (.ofNat xs.length) 0,.int .i64 (.ofNat i) 0,H,n)/\k (.int .i64 (ADh s (xs.drop i) i) 0) H n) ?_ (m:=xs.length) ⟨0,rfl,Nat.zero_le _,rfl,hk⟩
 rintro I m st ⟨i,rfl,hi,rfl,hk⟩ ih
 show II lfp G (Runs F G) k I v s.v (.int .i64 (.ofNat xs.length) 0) (.int .i64 (.ofNat i) 0) H n
 delta II
 by_cases hlt:i<xs.length
 ·obtain⟨p,hp,hld⟩:=h.at (O4 hlt)
  rw[List.drop_eq_getElem_cons hlt]at hk
  unfold ADh at hk
  simp only[go_sem,Bh,hlt,decide_true,hp,Lh hld,St.v,AB4]
  cases he:decide (s.1=xs[i].1/\s.2=xs[i].2)with
  |true=>simp only[go_sem];rw[he]at hk;exact hk
  |false=>
   simp only[go_sem,DJ (show i+1<9223372036854775808 by omega)]
   rw[he]at hk
   exact ih _ _ (by omega) ⟨i+1,rfl,hlt,rfl,hk⟩
 ·simp only[go_sem,Bh,hlt,decide_false]
  delta IK
  rw[List.drop_eq_nil_of_le (by omega)]at hk
  exact hk
theorem AJw(a:Int):B2.ev .geq (.int .i64 a 0) (.int .i64 (.ofNat 0) 0)=some (.bool (decide (0<=a))):=by
 show BQ (band (keq .i64 .i64) true) (mkB (ile (.ofNat 0) a))=_
 rw[TV,uD];rfl
theorem uG{G:AX}{v:V}{xs:List St}{s:St}{H:Heap}{n:Nat}{k:KV}(h:El G H v 1 (strs xs))(hb:xs.length<9223372036854775808)(hk:k (.bool (jK s xs)) H n):
 Runs F G Eu [v,s.v] H n k:=by
 refine BL (s:=TY (Dv lfp G)) G9 (by obtain⟨h,o⟩:=MX BK G;rw[G9]at h;cases h;exact o) ?_
 show Dv lfp G (Runs F G) v s.v H n k
 delta Dv
 refine AOI h hb ?_
 simp only[go_sem,AJw,AHC]
 exact hk
structure Ty where
 nm:St
 arr:Bool
def Ty.cells(t:Ty):LV:=[t.nm.v,.bool t.arr]
def Ty.v(t:Ty):V:=.agg t.cells
def Ty.is(a b:Ty):Bool:=decide (a.nm.1=b.nm.1/\a.nm.2=b.nm.2)&&(a.arr==b.arr)
def tys(xs:List Ty):ET:=xs.map Ty.cells
theorem F5(xs:List Ty):(tys xs).length=xs.length:=List.length_map ..
theorem UW{xs:List Ty}{i:Nat}(h:i<xs.length):(tys xs)[i]? =some xs[i].cells:=by simp[tys,h]
theorem AUH(a b:St):CK.eq .str a.v b.v=some (decide (a.1=b.1/\a.2=b.2)):=by
 show some (band (Nat.beq a.1 b.1) (Nat.beq a.2 b.2))=_
 rw[show band (Nat.beq a.1 b.1) (Nat.beq a.2 b.2)=decide (a.1=b.1/\a.2=b.2)by rw[BP,Bool.eq_iff_iff];simp]
theorem ATQ(a b:Bool):CK.eq .bool (.bool a) (.bool b)=some (a==b):=by cases a<;>cases b<;>rfl
theorem AMg(a b:Ty):(EK.agg [.str,.bool]).eq a.v b.v=some (a.is b):=
 show ACE [.str,.bool] a.cells b.cells=_ from Yt.2 ⟨_,_,AUH _ _,Yt.2 ⟨_,true,ATQ _ _,rfl,rfl⟩,by simp[Ty.is]⟩
theorem nD(a b:Ty):Cc (.agg [.str,.bool]) false a.v b.v=some (.bool (a.is b)):=by
 show ofB (RX ((EK.agg [.str,.bool]).eq a.v b.v) λb=>some b)=_
 rw[AMg];cases a.is b<;>rfl
theorem AHP(a b:Ty):Cc (.agg [.str,.bool]) true a.v b.v=some (.bool (!a.is b)):=by
 show ofB (RX ((EK.agg [.str,.bool]).eq a.v b.v) λb=>some (aC b))=_
 rw[AMg];cases a.is b<;>rfl
def gY:List Ty->List Ty->Bool
 |[],[]=>true
 |a::l,b::r=>a.is b&&gY l r
 |_,_=>false
theorem AEC:∀{l r:List Ty},gY l r=true->l.length=r.length
 |[],[],_=>rfl
 |a::l,b::r,h=>by simp[gY]at h;simp[AEC h.2]
 |[],_::_,h=>by cases h
 |_::_,[],h=>by cases h
theorem ATb{i m:Nat}:Cc (.one .int) true (.int .i64 (.ofNat i) 0) (.int .i64 (.ofNat m) 0)=some (.bool (!decide (i=m))):=by
 rw[ALl,show(Int.ofNat i==Int.ofNat m)=decide (i=m)by rw[Bool.eq_iff_iff];simp;omega]
theorem AMv{G:AX}{v w:V}{xs ys:List Ty}{H:Heap}{n:Nat}{k:KV}(h:El G H v 2 (tys xs))(h2:El G H w 2 (tys ys))(hb:xs.length<9223372036854775808)(hk:k (.bool (gY xs ys)) H n):
 Runs F G MJ [v,w] H n k:=by
 refine BL (s:=TY (Dc lfp G)) Gx (by obtain⟨h,o⟩:=LY BK G;rw[Gx]at h;cases h;exact o) ?_
 show Dc lfp G (Runs F G) v w H n k
 delta Dc
 simp only[go_sem,h.len,h2.len,F5,ATb]
 by_cases hl:xs.length=ys.length
 ·simp only[hl,decide_true,Bool.not_true,go_sem]
  refine JJ (J:=λm st=>∃i,m=ys.length-i/\i<=ys.length/\st=(v,w,.int .i64 (.ofNat ys.length) 0,.int .i64 (.ofNat i) 0,H,n)/\k (.bool (gY (xs.drop i) (ys.drop i))) H n) ?_ (m:=ys.length) ⟨0,rfl,Nat.zero_le _,rfl,hk⟩
  rintro I m st ⟨i,rfl,hi,rfl,hk⟩ ih
  show GH lfp G (Runs F G) k I v w (.int .i64 (.ofNat ys.length) 0) (.int .i64 (.ofNat i) 0) H n
  delta GH
  by_cases hlt:i<ys.length
  ·have hlt':i<xs.length:=by omega
   obtain⟨p,hp,hld⟩:=h.at (UW hlt')
   obtain⟨p2,hp2,hld2⟩:=h2.at (UW hlt)
   rw[List.drop_eq_getElem_cons hlt,List.drop_eq_getElem_cons hlt']at hk
   unfold gY at hk
   have e:=AHP xs[i] ys[i]
   unfold Ty.v at e
   simp only[go_sem,Bh,hlt,decide_true,hp,hp2,Bq hld,Bq hld2,e]
   cases he:xs[i].is ys[i]with
   |false=>rw[he]at hk;simp only[Bool.not_false,go_sem];exact hk
   |true=>
    simp only[Bool.not_true,go_sem,DJ (show i+1<9223372036854775808 by omega)]
    rw[he]at hk
    exact ih _ _ (by omega) ⟨i+1,rfl,hlt,rfl,hk⟩
  ·simp only[go_sem,Bh,hlt,decide_false]
   delta GL
   rw[List.drop_eq_nil_of_le (by omega),List.drop_eq_nil_of_le (by omega)]at hk
   exact hk
 ·have:gY xs ys=false:=by cases h:gY xs ys;rfl;exact absurd (AEC h) hl
  rw[this]at hk
  simp only[hl,decide_false,Bool.not_false,go_sem]
  exact hk
def Lo(v:V)(n:Nat):Prop:=∀id,v.Xt=some id->id<n
theorem _root_.Go.Bv.El.kp{G:AX}{H H':Heap}{v:V}{z n n':Nat}{LS:ET}(h:El G H v z LS)(hl:Lo v n)(f:Kp H n H' n'):El G H' v z LS:=h.same λid hid=>f.same id (hl id hid)
theorem Lo.mono{v:V}{n n':Nat}(h:Lo v n)(hn:n<=n'):Lo v n':=λid hid=>Nat.lt_of_lt_of_le (h id hid) hn
def findF(g:Ty->Bool):List Ty->Nat->Int
 |[],_=>.negSucc 0
 |x::xs,i=>bif g x then .ofNat i else findF g xs (i+1)
theorem AF5(g:Ty->Bool):∀(xs:List Ty) (i:Nat),decide ((0:Int)<=findF g xs i)=xs.any g
 |[],_=>rfl
 |x::xs,i=>by
  unfold findF
  show _=(g x||xs.any g)
  cases h:g x with
  |true=>simp
  |false=>simpa using AF5 g xs (i+1)
theorem AGd{G:AX}{v:V}{xs:List Ty}{p:Nat}{g:Ty->Bool}{H:Heap}{n:Nat}{k:KV}(h:El G H v 2 (tys xs))(hlo:Lo v n)(hb:xs.length<9223372036854775808)
 (hg:∀t∈xs,∀{H n} {k:KV},(∀H' n',Kp H n H' n'->k (.bool (g t)) H' n')->Runs F G p [t.v] H n k)
 (hk:∀H' n',Kp H n H' n'->k (.int .i64 (findF g xs 0) 0) H' n'):
 Runs F G Jq [v,.fn p [] []] H n k:=by
 refine BL (s:=TY (Ci lfp G)) FM (by obtain⟨h,o⟩:=JU BK G;rw[FM]at h;cases h;exact o) ?_
 show Ci lfp G (Runs F G) v (.fn p [] []) H n k
 delta Ci
 rw[h.len,AB,F5]
 refine JJ (J:=λm st=>∃i H2 n2,m=xs.length-i/\i<=xs.length/\st=(v,.fn p [] [],.int .i64 (.ofNat xs.length) 0,.int .i64 (.ofNat i) 0,H2,n2)/\Kp H n H2 n2/\(∀H' n',Kp H n H' n'->k (.int .i64 (findF g (xs.drop i) i) 0) H' n')) ?_ (m:=xs.length) ⟨0,H,n,rfl,Nat.zero_le _,rfl,Kp.refl _ _,hk⟩
 rintro I m st ⟨i,H2,n2,rfl,hi,rfl,f,hk⟩ ih
 show Es lfp G (Runs F G) k I v (.fn p [] []) (.int .i64 (.ofNat xs.length) 0) (.int .i64 (.ofNat i) 0) H2 n2
 delta Es
 by_cases hlt:i<xs.length
 ·obtain⟨q,hp,hld⟩:=(h.kp hlo f).at (UW hlt)
  rw[List.drop_eq_getElem_cons hlt]at hk
  unfold findF at hk
  simp only[go_sem,Bh,hlt,decide_true,hp,Bq hld]
  show Runs F G p [xs[i].v] H2 n2 _
  refine hg _ (List.getElem_mem hlt) λH3 n3 f3=>?_
  cases he:g xs[i]with
  |true=>simp only[go_sem];rw[he]at hk;exact hk _ _ (f.trans f3)
  |false=>
   simp only[go_sem,DJ (show i+1<9223372036854775808 by omega)]
   rw[he]at hk
   exact ih _ _ (by omega) ⟨i+1,_,_,rfl,hlt,rfl,f.trans f3,hk⟩
 ·simp only[go_sem,Bh,hlt,decide_false]
  delta Et
  rw[List.drop_eq_nil_of_le (by omega)]at hk
  exact hk _ _ f
theorem AB1{G:AX}{v:V}{xs:List Ty}{p:Nat}{g:Ty->Bool}{H:Heap}{n:Nat}{k:KV}(h:El G H v 2 (tys xs))(hlo:Lo v n)(hb:xs.length<9223372036854775808)
 (hg:∀t∈xs,∀{H n} {k:KV},(∀H' n',Kp H n H' n'->k (.bool (g t)) H' n')->Runs F G p [t.v] H n k)
 (hk:∀H' n',Kp H n H' n'->k (.bool (xs.any g)) H' n'):
 Runs F G Ep [v,.fn p [] []] H n k:=by
 refine BL (s:=TY (CP lfp G)) EX (by obtain⟨h,o⟩:=Ik BK G;rw[EX]at h;cases h;exact o) ?_
 show CP lfp G (Runs F G) v (.fn p [] []) H n k
 delta CP
 refine AGd h hlo hb hg λH' n' f=>?_
 simp only[go_sem,AJw,AF5]
 exact hk _ _ f
def St.ok(s:St):Prop:=s.1=0->s.2=0
def UH(s:St):Bool:=wQ s.1 s.2
theorem AEo{G:AX}{t:Ty}(ht:t.nm.ok){H:Heap}{n:Nat}{k:KV}(hk:∀H' n',Kp H n H' n'->k (.bool (!UH t.nm)) H' n'):Runs F G TR [t.v] H n k:=by
 refine BL (s:=MZ (Jo lfp G)) Qz (by obtain⟨h,o⟩:=XF BK G;rw[Qz]at h;cases h;exact o) ?_
 show Jo lfp G (Runs F G) t.v H n k
 delta Jo
 simp only[Ty.v,Ty.cells,St.v,go_sem]
 refine xP ht λH1 n1 f=>?_
 simp only[Bl,go_sem]
 exact hk _ _ (((Kp.refl H n).new (m:=n+1) _ (Nat.le_refl _) (by omega)).trans f)
theorem AKT{G:AX}{v:V}{xs:List Ty}{H:Heap}{n:Nat}{k:KV}(h:El G H v 2 (tys xs))(hlo:Lo v n)(hb:xs.length<9223372036854775808)(ho:∀t∈xs,t.nm.ok)
 (hk:∀H' n',Kp H n H' n'->k (.bool (xs.any λt=> !UH t.nm)) H' n'):Runs F G Ep [v,.fn TR [] []] H n k:=
 AB1 (p:=TR) h hlo hb (λt ht {_ _ _} hk=>AEo (ho t ht) hk) hk
abbrev big:Nat:=9223372036854775808
structure ku where
 nm:St
 ty:Ty
def ku.cells(f:ku):LV:=[f.nm.v,f.ty.nm.v,.bool f.ty.arr]
structure DK where
 nm:St
 st:Bool
 ps:List Ty
 ret:Ty
def DK.cells(m:DK)(v:V):LV:=[m.nm.v,.bool m.st,v,m.ret.nm.v,.bool m.ret.arr]
structure KI(G:AX)(H:Heap)(n:Nat)(v:V)(xs:List Ty):Prop where
 el:El G H v 2 (tys xs)
 lo:Lo v n
 lt:xs.length<big
 ok:∀t∈xs,t.nm.ok
structure TM(G:AX)(H:Heap)(n:Nat)(v:V)(fs:List ku):Prop where
 el:El G H v 3 (fs.map ku.cells)
 lo:Lo v n
 lt:fs.length<big
 ok:∀f∈fs,f.nm.ok/\f.ty.nm.ok
structure MC(G:AX)(H:Heap)(n:Nat)(v:V)(ms:List DK)(ws:List V):Prop where
 el:El G H v 5 (List.zipWith DK.cells ms ws)
 lo:Lo v n
 lt:ms.length<big
 len:ws.length=ms.length
 at':∀(i:Nat) (m:DK) (w:V),ms[i]? =some m->ws[i]? =some w->KI G H n w m.ps
 ok:∀m∈ms,m.nm.ok/\m.ret.nm.ok
section
variable{G:AX}{H H':Heap}{n n':Nat}{v:V}
theorem KI.kp{xs:List Ty}(h:KI G H n v xs)(f:Kp H n H' n'):KI G H' n' v xs:=⟨h.el.kp h.lo f,h.lo.mono f.le,h.lt,h.ok⟩
theorem TM.kp{xs:List ku}(h:TM G H n v xs)(f:Kp H n H' n'):TM G H' n' v xs:=⟨h.el.kp h.lo f,h.lo.mono f.le,h.lt,h.ok⟩
theorem MC.kp{xs:List DK}{ws:List V}(h:MC G H n v xs ws)(f:Kp H n H' n'):MC G H' n' v xs ws:=
 ⟨h.el.kp h.lo f,h.lo.mono f.le,h.lt,h.len,λi m w a b=>(h.at' i m w a b).kp f,h.ok⟩
theorem TM.len{xs:List ku}(h:TM G H n v xs):lenV v=some (.int .i64 (.ofNat xs.length) 0):=by rw[h.el.len,List.length_map]
theorem KI.len{xs:List Ty}(h:KI G H n v xs):lenV v=some (.int .i64 (.ofNat xs.length) 0):=by rw[h.el.len,F5]
theorem MC.len'{xs:List DK}{ws:List V}(h:MC G H n v xs ws):lenV v=some (.int .i64 (.ofNat xs.length) 0):=by
 rw[h.el.len,List.length_zipWith,h.len,Nat.min_self]
theorem TM.at{xs:List ku}(h:TM G H n v xs){i:Nat}(hi:i<xs.length):∃p,Ad 3 v (.int .i64 (.ofNat i) 0)=some p/\lC p G H 3=some xs[i].cells:=
 h.el.at (by simp[hi])
theorem MC.at{xs:List DK}{ws:List V}(h:MC G H n v xs ws){i:Nat}(hi:i<xs.length):
 ∃p w,Ad 5 v (.int .i64 (.ofNat i) 0)=some p/\lC p G H 5=some (xs[i].cells w)/\KI G H n w xs[i].ps:=by
 have hw:i<ws.length:=by rw[h.len];exact hi
 obtain⟨p,h1,h2⟩:=h.el.at (i:=i) (c:=xs[i].cells ws[i]) (by rw[List.getElem?_zipWith];simp[hi,hw])
 exact⟨p,ws[i],h1,h2,h.at' i _ _ (List.getElem?_eq_getElem hi) (List.getElem?_eq_getElem hw)⟩
end
def leS(a b:St):Bool:=aC (slt b.1 b.2 a.1 a.2)
theorem AP9(a b:St):B2.ev .leq a.v b.v=some (.bool (leS a b)):=by
 show mkB (aC (slt b.1 b.2 a.1 a.2))=_
 rw[TV];rfl
theorem Iw(q:IntKind)(a b:Nat):B2.ev .gtr (.int q (.ofNat a) 0) (.int q (.ofNat b) 0)=some (.bool (decide (b<a))):=by
 show BQ (band (keq q q) true) (mkB (ilt (.ofNat b) (.ofNat a)))=_
 rw[TV,WV,show band (keq q q) true=true by simp[Ob],show decide (Int.ofNat b<Int.ofNat a)=decide (b<a)by rw[decide_eq_decide];show(b:Int)<a↔_;omega];rfl
theorem Z8(s:St):Qk s.v=some (.int .i64 (.ofNat s.1) 0):=rfl
def sU:St->List ku->Bool
 |_,[]=>true
 |a,f::fs=> !(leS f.nm a)&&(!(decide (40<f.nm.1))&&(UH f.ty.nm&&sU f.nm fs))
def NU:St->List DK->Bool
 |_,[]=>true
 |a,m::ms=> !(leS m.nm a)&&(!(decide (40<m.nm.1))&&(UH m.ret.nm&&(!(decide (200<m.ps.length))&&(!(m.ps.any λt=> !UH t.nm)&&NU m.nm ms))))
theorem AG7{G:AX}{v:V}{ms:List DK}{ws:List V}{H:Heap}{n:Nat}{k:KV}(h:MC G H n v ms ws){a:St}
 (hk:∀H' n',Kp H n H' n'->k (.bool (NU a ms)) H' n'):
 lfp (V×V×V×V×Heap×Nat) (PL lfp G (Runs F G) k) (a.v,v,.int .i64 (.ofNat ms.length) 0,.int .i64 (.ofNat 0) 0,H,n):=by
 refine JJ (J:=λm st=>∃i a H2 n2,m=ms.length-i/\i<=ms.length/\st=(St.v a,v,.int .i64 (.ofNat ms.length) 0,.int .i64 (.ofNat i) 0,H2,n2)/\Kp H n H2 n2/\(∀H' n',Kp H n H' n'->k (.bool (NU a (ms.drop i))) H' n')) ?_ (m:=ms.length) ⟨0,a,H,n,rfl,Nat.zero_le _,rfl,Kp.refl _ _,hk⟩
 rintro I m st ⟨i,a,H2,n2,rfl,hi,rfl,f,hk⟩ ih
 show QS lfp G (Runs F G) k I a.v v (.int .i64 (.ofNat ms.length) 0) (.int .i64 (.ofNat i) 0) H2 n2
 delta QS
 by_cases hlt:i<ms.length
 ·obtain⟨q,w,hp,hld,hw⟩:=(h.kp f).at hlt
  have hok:=h.ok _ (List.getElem_mem hlt)
  rw[List.drop_eq_getElem_cons hlt]at hk
  unfold NU at hk
  generalize ms[i]=m at hok hld hw hk
  have hbig:=h.lt
  unfold DK.cells at hld
  simp only[go_sem,Nat.reduceAdd,Bh,hlt,decide_true,hp,Bq hld]
  have f2:Kp H n (T.set (T.set H2 n2 (one [.str 0 0,.bool false,.AZ,.str 0 0,.bool false])) n2 (one [m.nm.v,.bool m.st,w,m.ret.nm.v,.bool m.ret.arr])) (n2+1):=
   (f.new (m:=n2+1) _ f.le (by omega)).new _ f.le (Nat.le_refl _)
  have hw:=hw.kp (n':=n2+1) (H':=(T.set (T.set H2 n2 (one [.str 0 0,.bool false,.AZ,.str 0 0,.bool false])) n2 (one [m.nm.v,.bool m.st,w,m.ret.nm.v,.bool m.ret.arr]))) (((Kp.refl H2 n2).new (m:=n2+1) _ (Nat.le_refl _) (by omega)).new _ (Nat.le_refl _) (Nat.le_refl _))
  have hg:=T.Ai (T.set H2 n2 (one [.str 0 0,.bool false,.AZ,.str 0 0,.bool false])) n2 (one [m.nm.v,.bool m.st,w,m.ret.nm.v,.bool m.ret.arr])
  generalize T.set (T.set H2 n2 (one [.str 0 0,.bool false,.AZ,.str 0 0,.bool false])) n2 (one [m.nm.v,.bool m.st,w,m.ret.nm.v,.bool m.ret.arr])=H3 at f2 hw hg⊢
  simp only[go_sem,Nat.reduceAdd,AU (off:=0) hg (v:=m.nm.v) rfl,AP9,Z8,Iw]
  cases h1:leS m.nm a with
  |true=>
   simp only[go_sem,AU (off:=0) hg (v:=m.nm.v) rfl,Z8,Iw]
   rw[h1]at hk
   exact hk _ _ f2
  |false=>
   simp only[go_sem,AU (off:=0) hg (v:=m.nm.v) rfl,Z8,Iw]
   rw[h1]at hk
   cases h2:decide (40<m.nm.1)with
   |true=>
    simp only[go_sem]
    rw[h2]at hk
    exact hk _ _ f2
   |false=>
    rw[h2]at hk
    have hl:Ae 2 (.ptr n2 3) G H3=some (.agg [m.ret.nm.v,.bool m.ret.arr]):=G7 hg (by omega) (by show 5<=5;omega)
    simp only[go_sem,Nat.reduceAdd,hl]
    refine xP hok.2 λH4 n4 f4=>?_
    simp only[Bl,go_sem]
    have f5:=f2.trans f4
    have hw:=hw.kp f4
    have hg:T.get H4 n2=_:=(f4.same n2 (by omega)).trans hg
    show _
    cases h3:wQ m.ret.nm.1 m.ret.nm.2 with
    |false=>
     simp only[Bool.not_false,go_sem]
     rw[show UH m.ret.nm=false from h3]at hk
     exact hk _ _ f5
    |true=>
     rw[show UH m.ret.nm=true from h3]at hk
     simp only[Bool.not_true,go_sem,AU (off:=2) hg (v:=w) rfl,hw.len,Iw]
     cases h4:decide (200<m.ps.length)with
     |true=>
      simp only[go_sem]
      rw[h4]at hk
      exact hk _ _ f5
     |false=>
      rw[h4]at hk
      simp only[go_sem,AU (off:=2) hg (v:=w) rfl]
      refine AKT hw.el hw.lo hw.lt hw.ok λH6 n6 f6=>?_
      have hg:T.get H6 n2=_:=(f6.same n2 (by have:=f4.le;omega)).trans hg
      have f7:=f5.trans f6
      cases h5:m.ps.any λt=> !UH t.nm with
      |true=>
       simp only[go_sem]
       rw[h5]at hk
       exact hk _ _ f7
      |false=>
       rw[h5]at hk
       simp only[go_sem,AU (off:=0) hg (v:=m.nm.v) rfl,DJ (show i+1<9223372036854775808 by unfold big at hbig;omega)]
       exact ih _ _ (by omega) ⟨i+1,m.nm,_,_,rfl,hlt,rfl,f7,hk⟩
 ·simp only[go_sem,Bh,hlt,decide_false]
  delta Qc
  rw[List.drop_eq_nil_of_le (by omega)]at hk
  exact hk _ _ f
theorem AIN{G:AX}{v w nm sp:V}{fs:List ku}{ms:List DK}{ws:List V}{H:Heap}{n b:Nat}{k:KV}(h:TM G H n v fs)(h2:MC G H n w ms ws){a:St}
 (hb:b<n) (hbx:T.get H b=some (one [nm,sp,v,w]))
 (hk:∀H' n',Kp H n H' n'->k (.bool (sU a fs&&NU (0,0) ms)) H' n'):
 lfp (V×V×V×V×V×Heap×Nat) (J7 lfp G (Runs F G) k) (.ptr b 0,a.v,v,.int .i64 (.ofNat fs.length) 0,.int .i64 (.ofNat 0) 0,H,n):=by
 refine JJ (J:=λm st=>∃i a H2 n2,m=fs.length-i/\i<=fs.length/\st=(.ptr b 0,St.v a,v,.int .i64 (.ofNat fs.length) 0,.int .i64 (.ofNat i) 0,H2,n2)/\Kp H n H2 n2/\(∀H' n',Kp H n H' n'->k (.bool (sU a (fs.drop i)&&NU (0,0) ms)) H' n')) ?_ (m:=fs.length) ⟨0,a,H,n,rfl,Nat.zero_le _,rfl,Kp.refl _ _,hk⟩
 rintro I m st ⟨i,a,H2,n2,rfl,hi,rfl,f,hk⟩ ih
 show QN lfp G (Runs F G) k I (.ptr b 0) a.v v (.int .i64 (.ofNat fs.length) 0) (.int .i64 (.ofNat i) 0) H2 n2
 delta QN
 by_cases hlt:i<fs.length
 ·obtain⟨q,hp,hld⟩:=(h.kp f).at hlt
  have hok:=h.ok _ (List.getElem_mem hlt)
  rw[List.drop_eq_getElem_cons hlt]at hk
  unfold sU at hk
  generalize fs[i]=m at hok hld hk
  have hbig:=h.lt
  unfold ku.cells at hld
  simp only[go_sem,Nat.reduceAdd,Bh,hlt,decide_true,hp,Bq hld]
  have f2:Kp H n (T.set (T.set H2 n2 (one [.str 0 0,.str 0 0,.bool false])) n2 (one [m.nm.v,m.ty.nm.v,.bool m.ty.arr])) (n2+1):=
   (f.new (m:=n2+1) _ f.le (by omega)).new _ f.le (Nat.le_refl _)
  have hg:=T.Ai (T.set H2 n2 (one [.str 0 0,.str 0 0,.bool false])) n2 (one [m.nm.v,m.ty.nm.v,.bool m.ty.arr])
  generalize T.set (T.set H2 n2 (one [.str 0 0,.str 0 0,.bool false])) n2 (one [m.nm.v,m.ty.nm.v,.bool m.ty.arr])=H3 at f2 hg⊢
  simp only[go_sem,Nat.reduceAdd,AU (off:=0) hg (v:=m.nm.v) rfl,AP9,Z8,Iw]
  cases h1:leS m.nm a with
  |true=>
   simp only[go_sem,AU (off:=0) hg (v:=m.nm.v) rfl,Z8,Iw]
   rw[h1]at hk
   exact hk _ _ f2
  |false=>
   simp only[go_sem,AU (off:=0) hg (v:=m.nm.v) rfl,Z8,Iw]
   rw[h1]at hk
   cases h2:decide (40<m.nm.1)with
   |true=>
    simp only[go_sem]
    rw[h2]at hk
    exact hk _ _ f2
   |false=>
    rw[h2]at hk
    have hl:Ae 2 (.ptr n2 1) G H3=some (.agg [m.ty.nm.v,.bool m.ty.arr]):=G7 hg (by omega) (by show 3<=3;omega)
    simp only[go_sem,Nat.reduceAdd,hl]
    refine xP hok.2 λH4 n4 f4=>?_
    simp only[Bl,go_sem]
    have f5:=f2.trans f4
    have hg:T.get H4 n2=_:=(f4.same n2 (by omega)).trans hg
    show _
    cases h3:wQ m.ty.nm.1 m.ty.nm.2 with
    |false=>
     simp only[Bool.not_false,go_sem]
     rw[show UH m.ty.nm=false from h3]at hk
     exact hk _ _ f5
    |true=>
     rw[show UH m.ty.nm=true from h3]at hk
     simp only[Bool.not_true,go_sem,AU (off:=0) hg (v:=m.nm.v) rfl,DJ (show i+1<9223372036854775808 by unfold big at hbig;omega)]
     exact ih _ _ (by omega) ⟨i+1,m.nm,_,_,rfl,hlt,rfl,f5,hk⟩
 ·simp only[go_sem,Bh,hlt,decide_false]
  delta Qb
  rw[List.drop_eq_nil_of_le (by omega)]at hk
  have hg:T.get H2 b=_:=(f.same b hb).trans hbx
  have h2:=h2.kp f
  simp only[go_sem,Nat.reduceAdd,AU (off:=3) hg (v:=w) rfl,h2.len']
  exact AG7 (a:=(0,0)) h2 λH' n' f'=>hk _ _ (f.trans f')
structure Fc where
 nm:St
 sup:St
 fs:List ku
 ms:List DK
structure Xv(G:AX)(H:Heap)(n:Nat)(L:LV)(c:Fc)(v w:V)(ws:List V):Prop where
 is:L=[c.nm.v,c.sup.v,v,w]
 fs:TM G H n v c.fs
 ms:MC G H n w c.ms ws
 ok:c.nm.ok/\c.sup.ok
theorem Xv.kp{G:AX}{H H':Heap}{n n':Nat}{L:LV}{c:Fc}{v w:V}{ws:List V}(h:Xv G H n L c v w ws)(f:Kp H n H' n'):Xv G H' n' L c v w ws:=⟨h.is,h.fs.kp f,h.ms.kp f,h.ok⟩
def oD(s:St):Bool:=upper s.1 s.2
def Ur(c:Fc):Bool:=
 oD c.nm&&((decide (c.sup.1=0/\c.sup.2=0)||oD c.sup)&&(!(decide (200<c.fs.length))&&(!(decide (200<c.ms.length))&&(!(decide (40<c.nm.1))&&(!(decide (40<c.sup.1))&&(sU (0,0) c.fs&&NU (0,0) c.ms))))))
theorem neS(a b:St):Cc (.one .str) true a.v b.v=some (.bool (!decide (a.1=b.1/\a.2=b.2))):=APm ..
theorem AHT(s:St):isClass s.1 s.2 false=oD s:=by simp[isClass,oD]
theorem zk{G:AX}{L:LV}{c:Fc}{v w:V}{ws:List V}{H:Heap}{n:Nat}{k:KV}(h:Xv G H n L c v w ws)
 (hk:∀H' n',Kp H n H' n'->k (.bool (Ur c)) H' n'):Runs F G VJ [.agg L] H n k:=by
 refine BL (s:=MZ (MP lfp G)) Uk (by obtain⟨h,o⟩:=Zi BK G;rw[Uk]at h;cases h;exact o) ?_
 show MP lfp G (Runs F G) (.agg L) H n k
 obtain⟨rfl,hf,hm,hn,hs⟩:=h
 delta MP
 unfold Ur at hk
 simp only[go_sem]
 have f1:Kp H n (T.set H n (one [c.nm.v,c.sup.v,v,w])) (n+1):=(Kp.refl H n).new _ (Nat.le_refl _) (by omega)
 have hg:=T.Ai H n (one [c.nm.v,c.sup.v,v,w])
 generalize T.set H n (one [c.nm.v,c.sup.v,v,w])=H1 at f1 hg⊢
 refine wF λH2 n2 f2=>?_
 refine pG hn λH3 n3 f3=>?_
 rw[AHT,Bl]
 have f:=f1.trans (f2.trans f3)
 have hg:T.get H3 n=_:=(f3.same n (by have:=f2.le;omega)).trans ((f2.same n (by omega)).trans hg)
 have hlt:n<n3:=by have:=f2.le;have:=f3.le;omega
 clear f1 f2 f3
 have tail:∀H3 n3,Kp H n H3 n3->n<n3->T.get H3 n=some (one [c.nm.v,c.sup.v,v,w])->
  (∀H' n',Kp H n H' n'->k (.bool (!(decide (200<c.fs.length))&&(!(decide (200<c.ms.length))&&(!(decide (40<c.nm.1))&&(!(decide (40<c.sup.1))&&(sU (0,0) c.fs&&NU (0,0) c.ms)))))) H' n')->
  (AL (AQ 2 (.ptr n 0)) λv18=>
  AL (AV v18 G H3) λv19=>
  AL (lenV v19) λv20=>
  AL (B2.ev .gtr v20 (.int .i64 (.ofNat 200) 0)) λv22=>
  Aj v22 false (AQ 3 (.ptr n 0)) λv23=>
  Aj v22 false (AV v23 G H3) λv24=>
  Aj v22 false (lenV v24) λv25=>
  Aj v22 false (B2.ev .gtr v25 (.int .i64 (.ofNat 200) 0)) λv26=>
  AL (Aw v22 (.bool true) v26) λv27=>
  Aj v27 false (AQ 0 (.ptr n 0)) λv28=>
  Aj v27 false (AV v28 G H3) λv29=>
  Aj v27 false (Qk v29) λv30=>
  Aj v27 false (B2.ev .gtr v30 (.int .i64 (.ofNat 40) 0)) λv31=>
  AL (Aw v27 (.bool true) v31) λv32=>
  Aj v32 false (AQ 1 (.ptr n 0)) λv33=>
  Aj v32 false (AV v33 G H3) λv34=>
  Aj v32 false (Qk v34) λv35=>
  Aj v32 false (B2.ev .gtr v35 (.int .i64 (.ofNat 40) 0)) λv36=>
  AL (Aw v32 (.bool true) v36) λv37=>
  AY v37 true (k (.bool false) H3 n3) (AL (AQ 2 (.ptr n 0)) λv74=>
  AL (AV v74 G H3) λv75=>
  AL (lenV v75) λv76=>
  lfp (V×V×V×V×V×Heap×Nat) (J7 lfp G (Runs F G) k) (.ptr n 0,(.str 0 0),v75,v76,(.int .i64 (.ofNat 0) 0),H3,n3))):=by
  intro H3 n3 f hlt hg hk
  have hf:=hf.kp f
  have hm:=hm.kp f
  have e0:AV (.ptr n 0) G H3=some c.nm.v:=AU hg rfl
  have e1:AV (.ptr n 1) G H3=some c.sup.v:=AU hg rfl
  have e2:AV (.ptr n 2) G H3=some v:=AU hg rfl
  have e3:AV (.ptr n 3) G H3=some w:=AU hg rfl
  simp only[go_sem,Nat.reduceAdd,e2,hf.len,Iw]
  cases h1:decide (200<c.fs.length)with
  |true=>rw[h1]at hk;simp only[go_sem];exact hk _ _ f
  |false=>
   rw[h1]at hk
   simp only[go_sem,Nat.reduceAdd,e3,hm.len',Iw]
   cases h2:decide (200<c.ms.length)with
   |true=>rw[h2]at hk;simp only[go_sem];exact hk _ _ f
   |false=>
    rw[h2]at hk
    simp only[go_sem,Nat.reduceAdd,e0,Z8,Iw]
    cases h3:decide (40<c.nm.1)with
    |true=>rw[h3]at hk;simp only[go_sem];exact hk _ _ f
    |false=>
     rw[h3]at hk
     simp only[go_sem,Nat.reduceAdd,e1,Z8,Iw]
     cases h4:decide (40<c.sup.1)with
     |true=>rw[h4]at hk;simp only[go_sem];exact hk _ _ f
     |false=>
      rw[h4]at hk
      simp only[go_sem,Nat.reduceAdd,e2,hf.len]
      exact AIN (a:=(0,0)) hf hm hlt hg λH' n' f'=>hk _ _ (f.trans f')
 cases h1:oD c.nm with
 |false=>
  rw[h1]at hk
  simp only[Bool.not_false,go_sem]
  exact hk _ _ f
 |true=>
  rw[h1]at hk
  have e1:AV (.ptr n 1) G H3=some c.sup.v:=AU hg rfl
  have e:=neS c.sup (0,0)
  unfold St.v at e
  simp only[Bool.not_true,go_sem,Nat.reduceAdd,e1]
  rw[show Cc (.one .str) true c.sup.v (.str 0 0)=_ from neS c.sup (0,0)]
  cases h2:decide (c.sup.1=0/\c.sup.2=0)with
  |true=>
   rw[h2]at hk
   simp only[Bool.not_true,go_sem]
   exact tail _ _ f hlt hg hk
  |false=>
   rw[h2]at hk
   simp only[Bool.not_false,go_sem,Nat.reduceAdd,e1]
   refine wF λH4 n4 f4=>?_
   refine pG hs λH5 n5 f5=>?_
   rw[AHT,Bl]
   have f':=f.trans (f4.trans f5)
   have hg:T.get H5 n=_:=(f5.same n (by have:=f4.le;omega)).trans ((f4.same n (by omega)).trans hg)
   cases h3:oD c.sup with
   |false=>
    rw[h3]at hk
    simp only[Bool.not_false,go_sem]
    exact hk _ _ f'
   |true=>
    rw[h3]at hk
    simp only[Bool.not_true,go_sem]
    exact tail _ _ f' (by have:=f4.le;have:=f5.le;omega) hg hk
theorem ALe{e c:Nat}{t:T LV}{i:Nat}{L:LV}(he:0<e)(hi:i<c)(ht:T.get t i=some L)(hL:L.length=e):ldB e c t (i*e) e=some L:=by
 unfold ldB
 have hdiv:i*e/e=i:=Nat.mul_div_cancel _ he
 have hmod:i*e%e=0:=Nat.mul_mod_left ..
 have hb:Nat.blt (Nat.div (i*e) e) c=true:=by rw[Nat.blt_eq];show i*e/e<c;omega
 rw[hb]
 show BR (T.get t (Nat.div (i*e) e)) (ldC e (i*e) e)=_
 rw[show Nat.div (i*e) e=i from hdiv,ht,V4]
 have h1:=AHf (H:=T.set .e 0 (one L)) (id:=0) (L:=L) (off:=0) (m:=e) (T.Ai ..) he (by omega)
 unfold dV at h1
 rw[T.Ai]at h1
 have h2:ldB L.length 1 (T.set .e 0 L) 0 e=some ((L.drop 0).take e):=h1
 unfold ldB at h2
 rw[show Nat.blt (Nat.div 0 L.length) 1=true by rw[Nat.blt_eq];show 0/L.length<1;simp]at h2
 have h3:BR (T.get (T.set T.e 0 L) (Nat.div 0 L.length)) (ldC L.length 0 e)=some ((L.drop 0).take e):=h2
 rw[show Nat.div 0 L.length=0 from Nat.zero_div _,T.Ai,V4]at h3
 rw[List.drop_zero,List.take_of_length_le (by omega),hL]at h3
 have:ldC e (i*e) e L=ldC e 0 e L:=by
  unfold ldC
  rw[show Nat.mod (i*e) e=0 from hmod,show Nat.mod 0 e=0 from Nat.zero_mod _]
 rw[this];exact h3
theorem xY{z:Nat}{Z L:LV}{H:Heap}{n:Nat}{P:KV}(hL:L.length=z):
 Bg (Az z 1 Z [(0,.c (.agg L))] E0) H n P=P (.sl n 0 1 1 z) (T.set H n (.arr z 1 (T.set (T.set .e 0 Z) 0 L))) (n+1):=by
 subst hL
 show NI (band (band true (band true (Nat.beq (len L) L.length))) true) (DU n λn=>P (.sl n 0 1 1 L.length) (T.set H n (.arr L.length 1 (T.set (T.set .e 0 Z) 0 L))) (Nat.succ n))=_
 rw[len_eq,BO]
 have hb:band (band true (band true (Nat.beq L.length L.length))) true=true:=by simp
 rw[hb];rfl
theorem jS{G:AX}{H:Heap}{n z:Nat}{Z L:LV}(hz:0<z)(hL:L.length=z)(h:T.get H n=some (.arr z 1 (T.set (T.set .e 0 Z) 0 L))):El G H (.sl n 0 1 1 z) z [L]:=by
 refine⟨rfl,?_⟩
 show(Bool.rec (motive:=λ_=>Option ET) none (BR (dV H n (0*z) z) λL=>BR (some []) λLS=>some (L::LS)) (Nat.beq z z):Option ET)=_
 have hl:dV H n (0*z) z=some L:=by
  unfold dV;rw[h]
  exact ALe hz (by omega) (by rw[T.Ai]) hL
 rw[hl,show Nat.beq z z=true by simp]
 rfl
theorem AQ0{Z a b c d e:V}{H:Heap}{n:Nat}{P:KV}(h:∀v∈[a,b,c,d,e],YR v=true/\Aq v=[v]):
 Bg (Az 1 5 [Z] [(0,.c a),(1,.c b),(2,.c c),(3,.c d),(4,.c e)] E0) H n P=
 P (.sl n 0 5 5 1) (T.set H n (.arr 1 5 (T.set (T.set (T.set (T.set (T.set (wz [Z] 5 .e) 0 [a]) 1 [b]) 2 [c]) 3 [d]) 4 [e]))) (n+1):=by
 obtain⟨ha,hb,hc,hd,he,-⟩:(YR a=true/\Aq a=[a])/\(YR b=true/\Aq b=[b])/\(YR c=true/\Aq c=[c])/\(YR d=true/\Aq d=[d])/\(YR e=true/\Aq e=[e])/\True:=by simpa using h
 show NI (band (band (YR a) (band (Nat.blt 0 5) (Nat.beq (len (Aq a)) 1))) (band (band (YR b) (band (Nat.blt 1 5) (Nat.beq (len (Aq b)) 1))) (band (band (YR c) (band (Nat.blt 2 5) (Nat.beq (len (Aq c)) 1))) (band (band (YR d) (band (Nat.blt 3 5) (Nat.beq (len (Aq d)) 1))) (band (band (YR e) (band (Nat.blt 4 5) (Nat.beq (len (Aq e)) 1))) true)))))
  (DU n λn=>P (.sl n 0 5 5 1) (T.set H n (.arr 1 5 (T.set (T.set (T.set (T.set (T.set (wz [Z] 5 .e) 0 (Aq a)) 1 (Aq b)) 2 (Aq c)) 3 (Aq d)) 4 (Aq e)))) (Nat.succ n))=_
 rw[ha.1,ha.2,hb.1,hb.2,hc.1,hc.2,hd.1,hd.2,he.1,he.2,BO]
 rfl
theorem APW{G:AX}{H:Heap}{n:Nat}{Z a b c d e:V}(h:T.get H n=some (.arr 1 5 (T.set (T.set (T.set (T.set (T.set (wz [Z] 5 .e) 0 [a]) 1 [b]) 2 [c]) 3 [d]) 4 [e]))):
 El G H (.sl n 0 5 5 1) 1 [[a],[b],[c],[d],[e]]:=by
 refine⟨rfl,?_⟩
 show BR (dV H n (0*1) 1) (λL=>BR (BR (dV H n (1*1) 1) λL=>BR (BR (dV H n (2*1) 1) λL=>BR (BR (dV H n (3*1) 1) λL=>BR (BR (dV H n (4*1) 1) λL=>BR (some []) λLS=>some (L::LS)) λLS=>some (L::LS)) λLS=>some (L::LS)) λLS=>some (L::LS)) λLS=>some (L::LS))=_
 have hl:∀i v,i<5->T.get (T.set (T.set (T.set (T.set (T.set (wz [Z] 5 .e) 0 [a]) 1 [b]) 2 [c]) 3 [d]) 4 [e]) i=some [v]->dV H n (i*1) 1=some [v]:=by
  intro i v hi hv
  unfold dV;rw[h]
  exact ALe (by omega) hi hv rfl
 rw[hl 0 a (by omega) rfl,hl 1 b (by omega) rfl,hl 2 c (by omega) rfl,hl 3 d (by omega) rfl,hl 4 e (by omega) rfl]
 rfl
def AGw(m:DK):Bool:=NU (0,0) [m]
theorem AIL(m:DK):Ur ⟨(1,65),(0,0),[],[m]⟩=AGw m:=by
 simp[Ur,AGw,oD,upper,sU]
theorem ATY{G:AX}{m:DK}{w:V}{H:Heap}{n:Nat}{k:KV}(hw:KI G H n w m.ps)(hm:m.nm.ok/\m.ret.nm.ok)
 (hk:∀H' n',Kp H n H' n'->k (.bool (AGw m)) H' n'):Runs F G zy [.agg (m.cells w)] H n k:=by
 refine BL (s:=MZ (XK lfp G)) jQ (by obtain⟨h,o⟩:=wC BK G;rw[jQ]at h;cases h;exact o) ?_
 show XK lfp G (Runs F G) (.agg (m.cells w)) H n k
 delta XK
 have f1:Kp H n (T.set H n (one (m.cells w))) (n+1):=(Kp.refl H n).new _ (Nat.le_refl _) (by omega)
 have hl:Ae 5 (.ptr n 0) G (T.set H n (one (m.cells w)))=some (.agg (m.cells w)):=ACO rfl (by omega)
 simp only[go_sem,Nat.reduceAdd,hl,xY (z:=5) (L:=m.cells w) rfl]
 generalize T.set H n (one (m.cells w))=H1 at f1⊢
 have f2:=f1.new (m:=n+1+1) (.arr 5 1 (T.set (T.set .e 0 [.str 0 0,.bool false,.AZ,.str 0 0,.bool false]) 0 (m.cells w))) (id:=n+1) (by omega) (by omega)
 have hg:=T.Ai H1 (n+1) (.arr 5 1 (T.set (T.set .e 0 [.str 0 0,.bool false,.AZ,.str 0 0,.bool false]) 0 (m.cells w)))
 generalize T.set H1 (n+1) (.arr 5 1 (T.set (T.set .e 0 [.str 0 0,.bool false,.AZ,.str 0 0,.bool false]) 0 (m.cells w)))=H2 at f2 hg⊢
 rw[show BA [.str 0 0,.str 0 0,.AZ,.AZ] [(0,1,.c (.str 1 65)),(3,1,.c (.sl (n+1) 0 1 1 5))]=some (.agg [.str 1 65,.str 0 0,.AZ,.sl (n+1) 0 1 1 5])from rfl,AB]
 refine zk (c:=⟨(1,65),(0,0),[],[m]⟩) (v:=.AZ) (w:=.sl (n+1) 0 1 1 5) (ws:=[w]) ⟨rfl,⟨⟨rfl,rfl⟩,(λid h=>by cases h),(by show 0<big;decide),(λf h=>by cases h)⟩,⟨jS (by omega) rfl hg,(λid h=>by cases h;omega),(by show 1<big;decide),rfl,?_,?_⟩,?_⟩ λH' n' f=>?_
 ·intro i m' w' h1 h2
  cases i with
  |zero=>simp at h1 h2;subst h1 h2;exact hw.kp f2
  |succ i=>simp at h1
 ·intro m' h;simp at h;subst h;exact hm
 ·exact⟨(λh=>by cases h),(λh=>rfl)⟩
 ·rw[AIL]
  exact hk _ _ (f2.trans f)
structure PF where
 f:ku
 own:St
structure PM where
 m:DK
 own:St
def PF.cells(p:PF):LV:=[p.f.nm.v,p.f.ty.nm.v,.bool p.f.ty.arr,p.own.v]
def PM.cells(p:PM)(w:V):LV:=[p.m.nm.v,.bool p.m.st,w,p.m.ret.nm.v,.bool p.m.ret.arr,p.own.v]
structure Pool where
 nums:List Int
 names:List St
 types:List Ty
 fields:List PF
 CV:List PM
structure FD(G:AX)(H:Heap)(n:Nat)(p:Pool)(v0 v1 v2 v3 v4:V)(ws:List V):Prop where
 e0:El G H v0 1 (p.nums.map λa=>[.int .i64 a 0])
 l0:Lo v0 n
 b0:p.nums.length<big
 e1:El G H v1 1 (strs p.names)
 l1:Lo v1 n
 b1:p.names.length<big
 o1:∀s∈p.names,s.ok
 t2:KI G H n v2 p.types
 e3:El G H v3 4 (p.fields.map PF.cells)
 l3:Lo v3 n
 b3:p.fields.length<big
 o3:∀f∈p.fields,f.f.nm.ok/\f.f.ty.nm.ok/\f.own.ok
 e4:El G H v4 6 (List.zipWith PM.cells p.CV ws)
 l4:Lo v4 n
 b4:p.CV.length<big
 yF:ws.length=p.CV.length
 at4:∀(i:Nat) (m:PM) (w:V),p.CV[i]? =some m->ws[i]? =some w->KI G H n w m.m.ps
 o4:∀m∈p.CV,m.m.nm.ok/\m.m.ret.nm.ok/\m.own.ok
theorem FD.kp{G:AX}{H H':Heap}{n n':Nat}{p:Pool}{v0 v1 v2 v3 v4:V}{ws:List V}(h:FD G H n p v0 v1 v2 v3 v4 ws)(f:Kp H n H' n'):FD G H' n' p v0 v1 v2 v3 v4 ws:=
 ⟨h.e0.kp h.l0 f,h.l0.mono f.le,h.b0,h.e1.kp h.l1 f,h.l1.mono f.le,h.b1,h.o1,h.t2.kp f,h.e3.kp h.l3 f,h.l3.mono f.le,h.b3,h.o3,h.e4.kp h.l4 f,h.l4.mono f.le,h.b4,h.yF,
  λi m w a b=>(h.at4 i m w a b).kp f,h.o4⟩
def Zo(s:St):Bool:=upper s.1 s.2&&decide (s.1<=40)
def AEq(p:PM):Bool:=Zo p.own&&AGw p.m
def AIS(p:PF):Bool:=Zo p.own&&(!decide (p.f.nm.1=0/\p.f.nm.2=0)&&(!decide (40<p.f.nm.1)&&UH p.f.ty.nm))
theorem AGV{G:AX}{p:Pool}{v0 v1 v2 v3 v4:V}{ws:List V}{H:Heap}{n:Nat}{k:KV}(h:FD G H n p v0 v1 v2 v3 v4 ws)
 (hk:∀H' n',Kp H n H' n'->k (.bool (p.CV.all AEq)) H' n'):
 lfp (V×V×V×Heap×Nat) (Nu lfp G (Runs F G) k) (v4,.int .i64 (.ofNat p.CV.length) 0,.int .i64 (.ofNat 0) 0,H,n):=by
 refine JJ (J:=λm st=>∃i H2 n2,m=p.CV.length-i/\i<=p.CV.length/\st=(v4,.int .i64 (.ofNat p.CV.length) 0,.int .i64 (.ofNat i) 0,H2,n2)/\Kp H n H2 n2/\(∀H' n',Kp H n H' n'->k (.bool ((p.CV.drop i).all AEq)) H' n')) ?_ (m:=p.CV.length) ⟨0,H,n,rfl,Nat.zero_le _,rfl,Kp.refl _ _,hk⟩
 rintro I m st ⟨i,H2,n2,rfl,hi,rfl,f,hk⟩ ih
 show O6 lfp G (Runs F G) k I v4 (.int .i64 (.ofNat p.CV.length) 0) (.int .i64 (.ofNat i) 0) H2 n2
 delta O6
 by_cases hlt:i<p.CV.length
 ·have hw:i<ws.length:=by rw[h.yF];exact hlt
  have h':=h.kp f
  obtain⟨q,hp,hld⟩:=h'.e4.at (i:=i) (c:=p.CV[i].cells ws[i]) (by rw[List.getElem?_zipWith];simp[hlt,hw])
  have hty:=h'.at4 i _ _ (List.getElem?_eq_getElem hlt) (List.getElem?_eq_getElem hw)
  have hok:=h.o4 _ (List.getElem_mem hlt)
  have hbig:=h.b4
  rw[List.drop_eq_getElem_cons hlt,List.all_cons]at hk
  generalize p.CV[i]=m at hok hld hty hk
  generalize ws[i]=w at hld hty
  unfold PM.cells at hld
  simp only[go_sem,Nat.reduceAdd,Bh,hlt,decide_true,hp,Bq hld]
  have f2:Kp H2 n2 (T.set (T.set H2 n2 (one [.str 0 0,.bool false,.AZ,.str 0 0,.bool false,.str 0 0])) n2 (one [m.m.nm.v,.bool m.m.st,w,m.m.ret.nm.v,.bool m.m.ret.arr,m.own.v])) (n2+1):=
   ((Kp.refl _ _).new (m:=n2+1) _ (Nat.le_refl _) (by omega)).new _ (Nat.le_refl _) (Nat.le_refl _)
  have hg:=T.Ai (T.set H2 n2 (one [.str 0 0,.bool false,.AZ,.str 0 0,.bool false,.str 0 0])) n2 (one [m.m.nm.v,.bool m.m.st,w,m.m.ret.nm.v,.bool m.m.ret.arr,m.own.v])
  generalize T.set (T.set H2 n2 (one [.str 0 0,.bool false,.AZ,.str 0 0,.bool false,.str 0 0])) n2 (one [m.m.nm.v,.bool m.m.st,w,m.m.ret.nm.v,.bool m.m.ret.arr,m.own.v])=H3 at f2 hg⊢
  refine AFe hok.2.2 λH4 n4 f4=>?_
  rw[Bl,show(upper m.own.1 m.own.2&&decide (m.own.1<=40))=Zo m.own from rfl]
  have hg:T.get H4 n2=_:=(f4.same n2 (by omega)).trans hg
  unfold AEq at hk
  cases h1:Zo m.own with
  |false=>
   rw[h1]at hk
   simp only[Bool.not_false,go_sem]
   exact hk _ _ (f.trans (f2.trans f4))
  |true=>
   rw[h1]at hk
   have hl:Ae 5 (.ptr n2 0) G H4=some (.agg (m.m.cells w)):=G7 hg (by omega) (by show 5<=6;omega)
   simp only[Bool.not_true,go_sem,Nat.reduceAdd,hl]
   refine ATY (hty.kp (f2.trans f4)) ⟨hok.1,hok.2.1⟩ λH5 n5 f5=>?_
   have f6:=f.trans ((f2.trans f4).trans f5)
   simp only[Bl,go_sem]
   cases h2:AGw m.m with
   |false=>
    rw[h2]at hk
    simp only[Bool.not_false,go_sem]
    exact hk _ _ f6
   |true=>
    rw[h2]at hk
    simp only[Bool.not_true,go_sem,DJ (show i+1<9223372036854775808 by unfold big at hbig;omega)]
    exact ih _ _ (by omega) ⟨i+1,_,_,rfl,hlt,rfl,f6,hk⟩
 ·simp only[go_sem,Bh,hlt,decide_false]
  delta QI
  rw[List.drop_eq_nil_of_le (by omega)]at hk
  exact hk _ _ f
theorem eqS(a b:St):Cc (.one .str) false a.v b.v=some (.bool (decide (a.1=b.1/\a.2=b.2))):=AB4 ..
theorem AFg{G:AX}{p:Pool}{v0 v1 v2 v3 v4:V}{ws:List V}{H:Heap}{n b:Nat}{k:KV}(h:FD G H n p v0 v1 v2 v3 v4 ws)(hb:b<n)(hbx:T.get H b=some (one [v0,v1,v2,v3,v4]))
 (hk:∀H' n',Kp H n H' n'->k (.bool (p.fields.all AIS&&p.CV.all AEq)) H' n'):
 lfp (V×V×V×V×Heap×Nat) (Nv lfp G (Runs F G) k) (.ptr b 0,v3,.int .i64 (.ofNat p.fields.length) 0,.int .i64 (.ofNat 0) 0,H,n):=by
 refine JJ (J:=λm st=>∃i H2 n2,m=p.fields.length-i/\i<=p.fields.length/\st=(.ptr b 0,v3,.int .i64 (.ofNat p.fields.length) 0,.int .i64 (.ofNat i) 0,H2,n2)/\Kp H n H2 n2/\(∀H' n',Kp H n H' n'->k (.bool ((p.fields.drop i).all AIS&&p.CV.all AEq)) H' n')) ?_ (m:=p.fields.length) ⟨0,H,n,rfl,Nat.zero_le _,rfl,Kp.refl _ _,hk⟩
 rintro I m st ⟨i,H2,n2,rfl,hi,rfl,f,hk⟩ ih
 show Oz lfp G (Runs F G) k I (.ptr b 0) v3 (.int .i64 (.ofNat p.fields.length) 0) (.int .i64 (.ofNat i) 0) H2 n2
 delta Oz
 have h':=h.kp f
 by_cases hlt:i<p.fields.length
 ·obtain⟨q,hp,hld⟩:=h'.e3.at (i:=i) (c:=p.fields[i].cells) (by simp[hlt])
  have hok:=h.o3 _ (List.getElem_mem hlt)
  have hbig:=h.b3
  rw[List.drop_eq_getElem_cons hlt,List.all_cons]at hk
  generalize p.fields[i]=m at hok hld hk
  unfold PF.cells at hld
  simp only[go_sem,Nat.reduceAdd,Bh,hlt,decide_true,hp,Bq hld]
  have f2:Kp H2 n2 (T.set (T.set H2 n2 (one [.str 0 0,.str 0 0,.bool false,.str 0 0])) n2 (one [m.f.nm.v,m.f.ty.nm.v,.bool m.f.ty.arr,m.own.v])) (n2+1):=
   ((Kp.refl _ _).new (m:=n2+1) _ (Nat.le_refl _) (by omega)).new _ (Nat.le_refl _) (Nat.le_refl _)
  have hg:=T.Ai (T.set H2 n2 (one [.str 0 0,.str 0 0,.bool false,.str 0 0])) n2 (one [m.f.nm.v,m.f.ty.nm.v,.bool m.f.ty.arr,m.own.v])
  generalize T.set (T.set H2 n2 (one [.str 0 0,.str 0 0,.bool false,.str 0 0])) n2 (one [m.f.nm.v,m.f.ty.nm.v,.bool m.f.ty.arr,m.own.v])=H3 at f2 hg⊢
  refine AFe hok.2.2 λH4 n4 f4=>?_
  rw[Bl,show(upper m.own.1 m.own.2&&decide (m.own.1<=40))=Zo m.own from rfl]
  have hg:T.get H4 n2=_:=(f4.same n2 (by omega)).trans hg
  have e0:AV (.ptr n2 0) G H4=some m.f.nm.v:=AU hg rfl
  have f6:=f.trans (f2.trans f4)
  unfold AIS at hk
  cases h1:Zo m.own with
  |false=>
   rw[h1]at hk
   simp only[Bool.not_false,go_sem]
   exact hk _ _ f6
  |true=>
   rw[h1]at hk
   simp only[Bool.not_true,go_sem,Nat.reduceAdd,e0]
   rw[show Cc (.one .str) false m.f.nm.v (.str 0 0)=_ from eqS m.f.nm (0,0)]
   cases h2:decide (m.f.nm.1=0/\m.f.nm.2=0)with
   |true=>
    rw[h2]at hk
    simp only[go_sem]
    exact hk _ _ f6
   |false=>
    rw[h2]at hk
    simp only[go_sem,Nat.reduceAdd,e0,Z8,Iw]
    cases h3:decide (40<m.f.nm.1)with
    |true=>
     rw[h3]at hk
     simp only[go_sem]
     exact hk _ _ f6
    |false=>
     rw[h3]at hk
     have hl:Ae 2 (.ptr n2 1) G H4=some (.agg [m.f.ty.nm.v,.bool m.f.ty.arr]):=G7 hg (by omega) (by show 3<=4;omega)
     simp only[go_sem,Nat.reduceAdd,hl]
     refine xP hok.2.1 λH5 n5 f5=>?_
     have f7:=f6.trans f5
     simp only[Bl,go_sem]
     show _
     cases h4:wQ m.f.ty.nm.1 m.f.ty.nm.2 with
     |false=>
      rw[show UH m.f.ty.nm=false from h4]at hk
      simp only[Bool.not_false,go_sem]
      exact hk _ _ f7
     |true=>
      rw[show UH m.f.ty.nm=true from h4]at hk
      simp only[Bool.not_true,go_sem,DJ (show i+1<9223372036854775808 by unfold big at hbig;omega)]
      exact ih _ _ (by omega) ⟨i+1,_,_,rfl,hlt,rfl,f7,hk⟩
 ·simp only[go_sem,Bh,hlt,decide_false]
  delta QD
  rw[List.drop_eq_nil_of_le (by omega)]at hk
  have hg:T.get H2 b=_:=(f.same b hb).trans hbx
  have hl:lenV v4=some (.int .i64 (.ofNat p.CV.length) 0):=by rw[h.e4.len,List.length_zipWith,h.yF,Nat.min_self]
  simp only[go_sem,Nat.reduceAdd,AU (off:=4) hg (v:=v4) rfl,hl]
  exact AGV h' λH' n' f'=>hk _ _ (f.trans f')
theorem AGH{G:AX}{p:Pool}{v0 v1 v2 v3 v4:V}{ws:List V}{H:Heap}{n b:Nat}{k:KV}(h:FD G H n p v0 v1 v2 v3 v4 ws)(hb:b<n)(hbx:T.get H b=some (one [v0,v1,v2,v3,v4]))
 (hk:∀H' n',Kp H n H' n'->k (.bool ((p.types.all λt=>UH t.nm)&&(p.fields.all AIS&&p.CV.all AEq))) H' n'):
 lfp (V×V×V×V×Heap×Nat) (OX lfp G (Runs F G) k) (.ptr b 0,v2,.int .i64 (.ofNat p.types.length) 0,.int .i64 (.ofNat 0) 0,H,n):=by
 refine JJ (J:=λm st=>∃i H2 n2,m=p.types.length-i/\i<=p.types.length/\st=(.ptr b 0,v2,.int .i64 (.ofNat p.types.length) 0,.int .i64 (.ofNat i) 0,H2,n2)/\Kp H n H2 n2/\(∀H' n',Kp H n H' n'->k (.bool (((p.types.drop i).all λt=>UH t.nm)&&(p.fields.all AIS&&p.CV.all AEq))) H' n')) ?_ (m:=p.types.length) ⟨0,H,n,rfl,Nat.zero_le _,rfl,Kp.refl _ _,hk⟩
 rintro I m st ⟨i,H2,n2,rfl,hi,rfl,f,hk⟩ ih
 show PW lfp G (Runs F G) k I (.ptr b 0) v2 (.int .i64 (.ofNat p.types.length) 0) (.int .i64 (.ofNat i) 0) H2 n2
 delta PW
 have h':=h.kp f
 by_cases hlt:i<p.types.length
 ·obtain⟨q,hp,hld⟩:=h'.t2.el.at (UW hlt)
  have hok:=h.t2.ok _ (List.getElem_mem hlt)
  have hbig:=h.t2.lt
  rw[List.drop_eq_getElem_cons hlt,List.all_cons]at hk
  generalize p.types[i]=m at hok hld hk
  unfold Ty.cells at hld
  simp only[go_sem,Nat.reduceAdd,Bh,hlt,decide_true,hp,Bq hld]
  have f2:Kp H2 n2 (T.set (T.set H2 n2 (one [.str 0 0,.bool false])) n2 (one [m.nm.v,.bool m.arr])) (n2+1):=
   ((Kp.refl _ _).new (m:=n2+1) _ (Nat.le_refl _) (by omega)).new _ (Nat.le_refl _) (Nat.le_refl _)
  refine xP hok λH5 n5 f5=>?_
  have f7:=f.trans (f2.trans f5)
  simp only[Bl,go_sem]
  show _
  cases h4:wQ m.nm.1 m.nm.2 with
  |false=>
   rw[show UH m.nm=false from h4]at hk
   simp only[Bool.not_false,go_sem]
   exact hk _ _ f7
  |true=>
   rw[show UH m.nm=true from h4]at hk
   simp only[Bool.not_true,go_sem,DJ (show i+1<9223372036854775808 by unfold big at hbig;omega)]
   exact ih _ _ (by omega) ⟨i+1,_,_,rfl,hlt,rfl,f7,hk⟩
 ·simp only[go_sem,Bh,hlt,decide_false]
  delta QO
  rw[List.drop_eq_nil_of_le (by omega)]at hk
  have hg:T.get H2 b=_:=(f.same b hb).trans hbx
  have hl:lenV v3=some (.int .i64 (.ofNat p.fields.length) 0):=by rw[h.e3.len,List.length_map]
  simp only[go_sem,Nat.reduceAdd,AU (off:=3) hg (v:=v3) rfl,hl]
  exact AFg h' (Nat.lt_of_lt_of_le hb f.le) hg λH' n' f'=>hk _ _ (f.trans f')
def mV(p:Pool):Bool:=p.names.all Zo&&((p.types.all λt=>UH t.nm)&&(p.fields.all AIS&&p.CV.all AEq))
theorem AG2{G:AX}{p:Pool}{v0 v1 v2 v3 v4:V}{ws:List V}{H:Heap}{n b:Nat}{k:KV}(h:FD G H n p v0 v1 v2 v3 v4 ws)(hb:b<n)(hbx:T.get H b=some (one [v0,v1,v2,v3,v4]))
 (hk:∀H' n',Kp H n H' n'->k (.bool (mV p)) H' n'):
 lfp (V×V×V×V×Heap×Nat) (N8 lfp G (Runs F G) k) (.ptr b 0,v1,.int .i64 (.ofNat p.names.length) 0,.int .i64 (.ofNat 0) 0,H,n):=by
 refine JJ (J:=λm st=>∃i H2 n2,m=p.names.length-i/\i<=p.names.length/\st=(.ptr b 0,v1,.int .i64 (.ofNat p.names.length) 0,.int .i64 (.ofNat i) 0,H2,n2)/\Kp H n H2 n2/\(∀H' n',Kp H n H' n'->k (.bool ((p.names.drop i).all Zo&&((p.types.all λt=>UH t.nm)&&(p.fields.all AIS&&p.CV.all AEq)))) H' n')) ?_ (m:=p.names.length) ⟨0,H,n,rfl,Nat.zero_le _,rfl,Kp.refl _ _,hk⟩
 rintro I m st ⟨i,H2,n2,rfl,hi,rfl,f,hk⟩ ih
 show PS lfp G (Runs F G) k I (.ptr b 0) v1 (.int .i64 (.ofNat p.names.length) 0) (.int .i64 (.ofNat i) 0) H2 n2
 delta PS
 have h':=h.kp f
 by_cases hlt:i<p.names.length
 ·obtain⟨q,hp,hld⟩:=h'.e1.at (O4 hlt)
  have hok:=h.o1 _ (List.getElem_mem hlt)
  have hbig:=h.b1
  rw[List.drop_eq_getElem_cons hlt,List.all_cons]at hk
  generalize p.names[i]=m at hok hld hk
  simp only[go_sem,Nat.reduceAdd,Bh,hlt,decide_true,hp,Lh hld]
  refine AFe hok λH5 n5 f5=>?_
  rw[Bl,show(upper m.1 m.2&&decide (m.1<=40))=Zo m from rfl]
  have f7:=f.trans f5
  cases h4:Zo m with
  |false=>
   rw[h4]at hk
   simp only[Bool.not_false,go_sem]
   exact hk _ _ f7
  |true=>
   rw[h4]at hk
   simp only[Bool.not_true,go_sem,DJ (show i+1<9223372036854775808 by unfold big at hbig;omega)]
   exact ih _ _ (by omega) ⟨i+1,_,_,rfl,hlt,rfl,f7,hk⟩
 ·simp only[go_sem,Bh,hlt,decide_false]
  delta QH
  rw[List.drop_eq_nil_of_le (by omega)]at hk
  have hg:T.get H2 b=_:=(f.same b hb).trans hbx
  simp only[go_sem,Nat.reduceAdd,AU (off:=2) hg (v:=v2) rfl,h'.t2.len]
  exact AGH h' (Nat.lt_of_lt_of_le hb f.le) hg λH' n' f'=>hk _ _ (f.trans f')
def cnts(p:Pool):List Nat:=[p.nums.length,p.names.length,p.types.length,p.fields.length,p.CV.length]
theorem AII{G:AX}{p:Pool}{v v0 v1 v2 v3 v4:V}{ws:List V}{H:Heap}{n b:Nat}{k:KV}(h:FD G H n p v0 v1 v2 v3 v4 ws)(hb:b<n)(hbx:T.get H b=some (one [v0,v1,v2,v3,v4]))
 {xs:List Nat} (hv:El G H v 1 (xs.map λ(a:Nat)=>[V.int .i64 (.ofNat a) 0])) (hx:xs.length<big)
 (hk:∀H' n',Kp H n H' n'->k (.bool ((xs.all λa=> !decide (16384<a))&&mV p)) H' n'):
 lfp (V×V×V×V×Heap×Nat) (N7 lfp G (Runs F G) k) (.ptr b 0,v,.int .i64 (.ofNat xs.length) 0,.int .i64 (.ofNat 0) 0,H,n):=by
 refine JJ (J:=λm st=>∃i,m=xs.length-i/\i<=xs.length/\st=(.ptr b 0,v,.int .i64 (.ofNat xs.length) 0,.int .i64 (.ofNat i) 0,H,n)/\(∀H' n',Kp H n H' n'->k (.bool (((xs.drop i).all λa=> !decide (16384<a))&&mV p)) H' n')) ?_ (m:=xs.length) ⟨0,rfl,Nat.zero_le _,rfl,hk⟩
 rintro I m st ⟨i,rfl,hi,rfl,hk⟩ ih
 show Oo lfp G (Runs F G) k I (.ptr b 0) v (.int .i64 (.ofNat xs.length) 0) (.int .i64 (.ofNat i) 0) H n
 delta Oo
 by_cases hlt:i<xs.length
 ·obtain⟨q,hp,hld⟩:=hv.at (i:=i) (c:=[V.int .i64 (.ofNat xs[i]) 0]) (by simp[hlt])
  rw[List.drop_eq_getElem_cons hlt,List.all_cons]at hk
  generalize xs[i]=m at hld hk
  simp only[go_sem,Nat.reduceAdd,Bh,hlt,decide_true,hp,Lh hld,Iw]
  cases h4:decide (16384<m)with
  |true=>
   rw[h4]at hk
   simp only[go_sem]
   exact hk _ _ (Kp.refl _ _)
  |false=>
   rw[h4]at hk
   simp only[go_sem,DJ (show i+1<9223372036854775808 by unfold big at hx;omega)]
   exact ih _ _ (by omega) ⟨i+1,rfl,hlt,rfl,hk⟩
 ·simp only[go_sem,Bh,hlt,decide_false]
  delta QW
  rw[List.drop_eq_nil_of_le (by omega)]at hk
  have hl:lenV v1=some (.int .i64 (.ofNat p.names.length) 0):=by rw[h.e1.len,Gf]
  simp only[go_sem,Nat.reduceAdd,AU (off:=1) hbx (v:=v1) rfl,hl]
  exact AG2 h hb hbx hk
def AEU(p:Pool):Bool:=(cnts p).all (λa=> !decide (16384<a))&&mV p
theorem AHK{G:AX}{p:Pool}{v0 v1 v2 v3 v4:V}{ws:List V}{H:Heap}{n:Nat}{k:KV}(h:FD G H n p v0 v1 v2 v3 v4 ws)
 (hk:∀H' n',Kp H n H' n'->k (.bool (AEU p)) H' n'):Runs F G ZU [.agg [v0,v1,v2,v3,v4]] H n k:=by
 refine BL (s:=MZ (Ku lfp G)) Sl (by obtain⟨h,o⟩:=YG BK G;rw[Sl]at h;cases h;exact o) ?_
 show Ku lfp G (Runs F G) (.agg [v0,v1,v2,v3,v4]) H n k
 delta Ku
 have l0:lenV v0=some (.int .i64 (.ofNat p.nums.length) 0):=by rw[h.e0.len,List.length_map]
 have l1:lenV v1=some (.int .i64 (.ofNat p.names.length) 0):=by rw[h.e1.len,Gf]
 have l3:lenV v3=some (.int .i64 (.ofNat p.fields.length) 0):=by rw[h.e3.len,List.length_map]
 have l4:lenV v4=some (.int .i64 (.ofNat p.CV.length) 0):=by rw[h.e4.len,List.length_zipWith,h.yF,Nat.min_self]
 simp only[go_sem,Nat.reduceAdd,l0,l1,h.t2.len,l3,l4]
 rw[AQ0 (by intro v hv;simp at hv;rcases hv with rfl|rfl|rfl|rfl|rfl<;>exact⟨rfl,rfl⟩)]
 have f1:Kp H n (T.set H n (one [v0,v1,v2,v3,v4])) (n+1):=(Kp.refl H n).new _ (Nat.le_refl _) (by omega)
 have hg:=T.Ai H n (one [v0,v1,v2,v3,v4])
 generalize T.set H n (one [v0,v1,v2,v3,v4])=H1 at f1 hg⊢
 generalize hB:(P7.arr 1 5 (T.set (T.set (T.set (T.set (T.set (wz [V.int .i64 (.ofNat 0) 0] 5 .e) 0 [V.int .i64 (.ofNat p.nums.length) 0]) 1 [V.int .i64 (.ofNat p.names.length) 0]) 2 [V.int .i64 (.ofNat p.types.length) 0]) 3 [V.int .i64 (.ofNat p.fields.length) 0]) 4 [V.int .i64 (.ofNat p.CV.length) 0]))=B
 have f2:=f1.new (m:=n+1+1) B (id:=n+1) (by omega) (by omega)
 have hg2:=T.Ai H1 (n+1) B
 have hg:T.get (T.set H1 (n+1) B) n=_:=(T.Ac _ _ (by omega)).trans hg
 generalize T.set H1 (n+1) B=H2 at f2 hg hg2⊢
 subst hB
 have he:=APW (G:=G) hg2
 have hl:lenV (.sl (n+1) 0 5 5 1)=some (.int .i64 (.ofNat 5) 0):=rfl
 simp only[go_sem,Nat.reduceAdd,hl]
 exact AII (xs:=cnts p) (h.kp f2) (by omega) hg he (by show 5<big;decide) λH' n' f=>hk _ _ (f2.trans f)
def AGP:List Nat:=[0,110,0,108,108,0,0,0,0,0,0,0,0,0,0,0,102,102,99,116,116,116,0,99,99,109,109,106,106,0,0,0,98]
def mF(G:AX):Prop:=∀c,c<33->G 0 (c*2+1) 1=some [V.int .i32 (.ofNat (AGP.getD c 0)) 0]
def known(c:Int):Bool:=decide (1<=c)&&decide (c<=32)
def zi(c:Int):Nat:=bif known c then AGP.getD c.toNat 0 else 0
theorem ACF(q:IntKind)(a b:Int):B2.ev .geq (.int q a 0) (.int q b 0)=some (.bool (decide (b<=a))):=by
 show BQ (band (keq q q) true) (mkB (ile b a))=_
 rw[TV,uD,show band (keq q q) true=true by simp[Ob]];rfl
theorem ACZ(q:IntKind)(a b:Int):B2.ev .gtr (.int q a 0) (.int q b 0)=some (.bool (decide (b<a))):=by
 show BQ (band (keq q q) true) (mkB (ilt b a))=_
 rw[TV,WV,show band (keq q q) true=true by simp[Ob]];rfl
theorem ARl(q:IntKind)(a b:Int):B2.ev .lss (.int q a 0) (.int q b 0)=some (.bool (decide (a<b))):=by
 show BQ (band (keq q q) true) (mkB (ilt a b))=_
 rw[TV,WV,show band (keq q q) true=true by simp[Ob]];rfl
theorem AJK{G:AX}{c:Int}{H:Heap}{n:Nat}{k:KV}(hk:k (.bool (known c)) H n):Runs F G Xu [.int .i64 c 0] H n k:=by
 refine BL (s:=MZ (Pq lfp G)) Wh (by obtain⟨h,o⟩:=fV BK G;rw[Wh]at h;cases h;exact o) ?_
 show Pq lfp G (Runs F G) (.int .i64 c 0) H n k
 delta Pq
 unfold known at hk
 simp only[go_sem,ACF,ADs]
 rw[show decide (Int.ofNat 1<=c)=decide (1<=c)from rfl]
 cases h:decide (1<=c)with
 |false=>rw[h]at hk;simp only[go_sem];exact hk
 |true=>rw[h]at hk;simp only[go_sem,ADs];exact hk
theorem AI1{G:AX}(hG:mF G){c:Int}{H:Heap}{n:Nat}{k:KV}(hk:k (.int .i32 (.ofNat (zi c)) 0) H n):Runs F G nX [.int .i64 c 0] H n k:=by
 refine BL (s:=MZ (Qy lfp G)) YA (by obtain⟨h,o⟩:=jg BK G;rw[YA]at h;cases h;exact o) ?_
 show Qy lfp G (Runs F G) (.int .i64 c 0) H n k
 delta Qy
 refine AJK ?_
 unfold zi at hk
 cases h:known c with
 |false=>rw[h]at hk;simp only[Bl,Bool.not_false,go_sem];exact hk
 |true=>
  rw[h]at hk
  simp only[Bl,Bool.not_true,go_sem]
  obtain⟨m,rfl⟩:∃m:Nat,c=.ofNat m:=⟨c.toNat,by simp[known]at h;show c=((c.toNat:Nat):Int);omega⟩
  have hm:m<33:=by simp[known]at h;omega
  have hi:AJP 33 2 (.gptr 0 0) (.int .i64 (.ofNat m) 0)=some (.gptr 0 (m*2)):=by
   show BQ (Nat.blt m 33) (AQ (Nat.mul m 2) (.gptr 0 0))=_
   rw[show Nat.blt m 33=true by rw[Nat.blt_eq];exact hm,show BQ true (AQ (Nat.mul m 2) (.gptr 0 0))=AQ (Nat.mul m 2) (.gptr 0 0)from rfl,AFD,Nat.zero_add]
   rfl
  have hl:AV (.gptr 0 (m*2+1)) G H=some (.int .i32 (.ofNat (AGP.getD m 0)) 0):=Lh (hG m hm)
  simp only[go_sem,hi,hl]
  exact hk
structure Ins where
 code:Int
 arg:Int
def Ins.cells(i:Ins):LV:=[.int .i64 i.code 0,.int .i64 i.arg 0]
structure Bd where
 locals:Int
 stack:Int
 code:List Ins
def AI5(G:AX)(H0:Heap)(n0:Nat)(v:V)(g:Nat->Int):Prop:=
 ∃f a c,v=.fn f a c/\∀(q:Nat) {H:Heap} {n:Nat} {k:KV},Kp H0 n0 H n->k (.int .i64 (g q) 0) H n->Runs F G f (cat a (cat [.int .i32 (.ofNat q) 0] c)) H n k
def fO(g:Nat->Int)(i:Ins):Bool:=
 known i.code&&bif decide (zi i.code=0)then decide (i.arg=0)else(decide (0<=i.arg)&&decide (i.arg<g (zi i.code)))
theorem ADK(q:IntKind)(a:Int):GK (.int q a 0) (.int q a 0)=true:=by
 show J4 (.int q a 0) (.int q a 0)=true
 simp[J4,AEB,BP,Ob,VQ]
theorem AQ3(q:IntKind)(a:Int)(P:Prop):uO (.bool true) true (some (.int q a 0)) (.int q a 0) P=P:=by
 show NI (GK (.int q a 0) (.int q a 0)) P=P
 rw[ADK];rfl
theorem zX(x y:Nat):Cc (.one .int) false (.int .i32 (.ofNat x) 0) (.int .i32 (.ofNat y) 0)=some (.bool (decide (x=y))):=by
 show ofB (RX (some (ieq (.ofNat x) (.ofNat y))) λb=>some b)=_
 rw[VQ,show(Int.ofNat x==Int.ofNat y)=decide (x=y)by rw[Bool.eq_iff_iff];simp;omega];cases decide (x=y)<;>rfl
theorem AVw(x:Int):Cc (.one .int) false (.int .i64 x 0) (.int .i64 (.ofNat 0) 0)=some (.bool (decide (x=0))):=by
 rw[eq_i,show(x==Int.ofNat 0)=decide (x=0)by rw[Bool.eq_iff_iff];simp]
theorem AE1{G:AX}(hG:mF G){i:Ins}{v:V}{g:Nat->Int}{H:Heap}{n:Nat}{k:KV}(hv:AI5 G H n v g)
 (hk:∀H' n',Kp H n H' n'->k (.bool (fO g i)) H' n'):Runs F G gW [.agg i.cells,v] H n k:=by
 refine BL (s:=TY (OM lfp G)) Vm (by obtain⟨h,o⟩:=bC BK G;rw[Vm]at h;cases h;exact o) ?_
 show OM lfp G (Runs F G) (.agg i.cells) v H n k
 delta OM
 unfold fO at hk
 unfold Ins.cells
 have f1:Kp H n (T.set H n (one [V.int .i64 i.code 0,.int .i64 i.arg 0])) (n+1):=(Kp.refl H n).new _ (Nat.le_refl _) (by omega)
 have hg:=T.Ai H n (one [V.int .i64 i.code 0,.int .i64 i.arg 0])
 simp only[go_sem]
 generalize T.set H n (one [V.int .i64 i.code 0,.int .i64 i.arg 0])=H1 at f1 hg⊢
 have e0:AV (.ptr n 0) G H1=some (.int .i64 i.code 0):=AU hg rfl
 have e1:AV (.ptr n 1) G H1=some (.int .i64 i.arg 0):=AU hg rfl
 refine AJK ?_
 simp only[Bl]
 cases h:known i.code with
 |false=>
  rw[h]at hk
  simp only[Bool.not_false,go_sem]
  exact hk _ _ f1
 |true=>
  rw[h]at hk
  simp only[Bool.not_true,go_sem,Nat.reduceAdd,e0]
  refine AI1 hG ?_
  simp only[go_sem,zX]
  cases h0:decide (zi i.code=0)with
  |true=>
   rw[h0]at hk
   simp only[go_sem,Nat.reduceAdd,e1,AVw]
   exact hk _ _ f1
  |false=>
   rw[h0]at hk
   simp only[go_sem,Nat.reduceAdd,e1,ACF]
   rw[show decide (Int.ofNat 0<=i.arg)=decide (0<=i.arg)from rfl]
   cases h2:decide (0<=i.arg)with
   |false=>
    rw[h2]at hk
    simp only[go_sem]
    exact hk _ _ f1
   |true=>
    rw[h2]at hk
    obtain⟨f,a,c,rfl,hf⟩:=hv
    simp only[go_sem,Nat.reduceAdd,e1]
    show Runs F G f (cat a (cat [_] c)) H1 (n+1) _
    refine hf _ f1 ?_
    simp only[go_sem,e1,AQ3,ARl]
    exact hk _ _ f1
structure Fl where
 face:Fc
 pool:Pool
 bodies:List Bd
def mny(p:Pool)(b:Bd)(q:Nat):Int:=
 bif decide (q=110)then p.nums.length else bif decide (q=99)then p.names.length else bif decide (q=116)then p.types.length else bif decide (q=102)then p.fields.length else
 bif decide (q=109)then p.CV.length else bif decide (q=108)then b.locals else bif decide (q=106)then b.code.length else 2
theorem AN5{G:AX}{p:Pool}{b:Bd}{c0 c1 c2 c3 v0 v1 v2 v3 v4 vb vc:V}{ws:List V}{H:Heap}{n i j:Nat}(hi:i<n)(hj:j<n)(h:FD G H n p v0 v1 v2 v3 v4 ws)
 (hc:El G H vc 2 (b.code.map Ins.cells))
 (gi:T.get H i=some (one [c0,c1,c2,c3,v0,v1,v2,v3,v4,vb])) (gj:T.get H j=some (one [V.int .i64 b.locals 0,.int .i64 b.stack 0,vc])):
 AI5 G H n (.fn TB [] [.ptr i 0,.ptr j 0]) (mny p b):=by
 refine⟨_,_,_,rfl,λq {H2 n2 k} f hk=>?_⟩
 have gi:T.get H2 i=_:=(f.same i hi).trans gi
 have gj:T.get H2 j=_:=(f.same j hj).trans gj
 show Runs F G TB [.int .i32 (.ofNat q) 0,.ptr i 0,.ptr j 0] H2 n2 k
 refine BL (s:=ar3 (Jt lfp G)) Qw (by obtain⟨h,o⟩:=Xl BK G;rw[Qw]at h;cases h;exact o) ?_
 show Jt lfp G (Runs F G) (.int .i32 (.ofNat q) 0) (.ptr i 0) (.ptr j 0) H2 n2 k
 delta Jt
 have l0:lenV v0=some (.int .i64 (.ofNat p.nums.length) 0):=by rw[h.e0.len,List.length_map]
 have l1:lenV v1=some (.int .i64 (.ofNat p.names.length) 0):=by rw[h.e1.len,Gf]
 have l3:lenV v3=some (.int .i64 (.ofNat p.fields.length) 0):=by rw[h.e3.len,List.length_map]
 have l4:lenV v4=some (.int .i64 (.ofNat p.CV.length) 0):=by rw[h.e4.len,List.length_zipWith,h.yF,Nat.min_self]
 have lc:lenV vc=some (.int .i64 (.ofNat b.code.length) 0):=by rw[hc.len,List.length_map]
 have e4:AV (.ptr i 4) G H2=some v0:=AU gi rfl
 have e5:AV (.ptr i 5) G H2=some v1:=AU gi rfl
 have e6:AV (.ptr i 6) G H2=some v2:=AU gi rfl
 have e7:AV (.ptr i 7) G H2=some v3:=AU gi rfl
 have e8:AV (.ptr i 8) G H2=some v4:=AU gi rfl
 have f0:AV (.ptr j 0) G H2=some (.int .i64 b.locals 0):=AU gj rfl
 have f2:AV (.ptr j 2) G H2=some vc:=AU gj rfl
 unfold mny at hk
 simp only[go_sem,zX]
 cases h1:decide (q=110)with
 |true=>rw[h1]at hk;simp only[go_sem,Nat.reduceAdd,e4,l0];exact hk
 |false=>
  rw[h1]at hk;simp only[go_sem,zX]
  cases h2:decide (q=99)with
  |true=>rw[h2]at hk;simp only[go_sem,Nat.reduceAdd,e5,l1];exact hk
  |false=>
   rw[h2]at hk;simp only[go_sem,zX]
   cases h3:decide (q=116)with
   |true=>rw[h3]at hk;simp only[go_sem,Nat.reduceAdd,e6,h.t2.len];exact hk
   |false=>
    rw[h3]at hk;simp only[go_sem,zX]
    cases h4:decide (q=102)with
    |true=>rw[h4]at hk;simp only[go_sem,Nat.reduceAdd,e7,l3];exact hk
    |false=>
     rw[h4]at hk;simp only[go_sem,zX]
     cases h5:decide (q=109)with
     |true=>rw[h5]at hk;simp only[go_sem,Nat.reduceAdd,e8,l4];exact hk
     |false=>
      rw[h5]at hk;simp only[go_sem,zX]
      cases h6:decide (q=108)with
      |true=>rw[h6]at hk;simp only[go_sem,Nat.reduceAdd,f0];exact hk
      |false=>
       rw[h6]at hk;simp only[go_sem,zX]
       cases h7:decide (q=106)with
       |true=>rw[h7]at hk;simp only[go_sem,Nat.reduceAdd,f2,lc];exact hk
       |false=>rw[h7]at hk;simp only[go_sem];exact hk
theorem AH7{G:AX}{p:Pool}{b:Bd}{c0 c1 c2 c3 v0 v1 v2 v3 v4 vb vc:V}{ws:List V}{H:Heap}{n:Nat}{k:KV}(h:FD G H n p v0 v1 v2 v3 v4 ws)
 (hc:El G H vc 2 (b.code.map Ins.cells)) (hl:Lo vc n)
 (hk:∀H' n' v,Kp H n H' n'->AI5 G H' n' v (mny p b)->k v H' n'):
 Runs F G bQ [.agg [c0,c1,c2,c3,v0,v1,v2,v3,v4,vb],.agg [V.int .i64 b.locals 0,.int .i64 b.stack 0,vc]] H n k:=by
 refine BL (s:=TY (MF lfp G)) Ua (by obtain⟨h,o⟩:=Zl BK G;rw[Ua]at h;cases h;exact o) ?_
 show MF lfp G (Runs F G) (.agg [c0,c1,c2,c3,v0,v1,v2,v3,v4,vb]) (.agg [V.int .i64 b.locals 0,.int .i64 b.stack 0,vc]) H n k
 delta MF
 simp only[go_sem]
 have f1:=((Kp.refl H n).new (m:=n+1) (id:=n) (one [c0,c1,c2,c3,v0,v1,v2,v3,v4,vb]) (Nat.le_refl _) (by omega)).new (m:=n+1+1) (id:=n+1) (one [V.int .i64 b.locals 0,.int .i64 b.stack 0,vc]) (by omega) (by omega)
 exact hk _ _ _ f1 (AN5 (by omega) (by omega) (h.kp f1) (hc.kp hl f1) (by rw[T.Ac _ _ (by omega),T.Ai]) (T.Ai ..))
def Bd.cells(b:Bd)(w:V):LV:=[.int .i64 b.locals 0,.int .i64 b.stack 0,w]
structure Oq(G:AX)(H:Heap)(n:Nat)(v:V)(is:List Ins):Prop where
 el:El G H v 2 (is.map Ins.cells)
 lo:Lo v n
 lt:is.length<big
theorem Oq.kp{G:AX}{H H':Heap}{n n':Nat}{v:V}{is:List Ins}(h:Oq G H n v is)(f:Kp H n H' n'):Oq G H' n' v is:=⟨h.el.kp h.lo f,h.lo.mono f.le,h.lt⟩
structure KP(G:AX)(H:Heap)(n:Nat)(v:V)(bs:List Bd)(ws:List V):Prop where
 el:El G H v 3 (List.zipWith Bd.cells bs ws)
 lo:Lo v n
 lt:bs.length<big
 len:ws.length=bs.length
 at':∀(i:Nat) (b:Bd) (w:V),bs[i]? =some b->ws[i]? =some w->Oq G H n w b.code
theorem KP.kp{G:AX}{H H':Heap}{n n':Nat}{v:V}{bs:List Bd}{ws:List V}(h:KP G H n v bs ws)(f:Kp H n H' n'):KP G H' n' v bs ws:=
 ⟨h.el.kp h.lo f,h.lo.mono f.le,h.lt,h.len,λi b w x y=>(h.at' i b w x y).kp f⟩
theorem AKm(i:Ins):GK (.agg i.cells) (.agg i.cells)=true:=by
 show ACV [V.int .i64 i.code 0,.int .i64 i.arg 0] [V.int .i64 i.code 0,.int .i64 i.arg 0]=true
 show band (J4 _ _) (band (J4 _ _) true)=true
 simp[J4,AEB,BP,Ob,VQ]
theorem AIX{G:AX}(hG:mF G){p:Pool}{b:Bd}{c0 c1 c2 c3 v0 v1 v2 v3 v4 vb vc x30 x31 x32:V}{ws:List V}{H:Heap}{n i j:Nat}{k:KV}{ih24:(V×V×V×V×Heap×Nat)->Prop}
 (hi:i<n) (hj:j<n) (h:FD G H n p v0 v1 v2 v3 v4 ws) (hc:Oq G H n vc b.code)
 (gi:T.get H i=some (one [c0,c1,c2,c3,v0,v1,v2,v3,v4,vb])) (gj:T.get H j=some (one (b.cells vc)))
 (hbad:b.code.all (fO (mny p b))=false->∀H' n',Kp H n H' n'->k (.bool false) H' n')
 (hok:b.code.all (fO (mny p b))=true->∀H' n',Kp H n H' n'->FI lfp G (Runs F G) k ih24 (.ptr i 0) x30 x31 x32 H' n'):
 lfp (V×V×V×V×V×V×V×V×Heap×Nat) (OQ lfp G (Runs F G) k ih24) (.ptr i 0,.ptr j 0,x30,x31,x32,vc,.int .i64 (.ofNat b.code.length) 0,.int .i64 (.ofNat 0) 0,H,n):=by
 refine JJ (J:=λm st=>∃e H2 n2,m=b.code.length-e/\e<=b.code.length/\st=(.ptr i 0,.ptr j 0,x30,x31,x32,vc,.int .i64 (.ofNat b.code.length) 0,.int .i64 (.ofNat e) 0,H2,n2)/\Kp H n H2 n2/\
  ((b.code.drop e).all (fO (mny p b))=false->∀H' n',Kp H n H' n'->k (.bool false) H' n')/\
  ((b.code.drop e).all (fO (mny p b))=true->∀H' n',Kp H n H' n'->FI lfp G (Runs F G) k ih24 (.ptr i 0) x30 x31 x32 H' n')) ?_ (m:=b.code.length) ⟨0,H,n,rfl,Nat.zero_le _,rfl,Kp.refl _ _,hbad,hok⟩
 rintro I m st ⟨e,H2,n2,rfl,he,rfl,f,hbad,hok⟩ ih
 show PE lfp G (Runs F G) k ih24 I (.ptr i 0) (.ptr j 0) x30 x31 x32 vc (.int .i64 (.ofNat b.code.length) 0) (.int .i64 (.ofNat e) 0) H2 n2
 delta PE
 by_cases hlt:e<b.code.length
 ·have hc2:=hc.kp f
  obtain⟨q,hp,hld⟩:=hc2.el.at (i:=e) (c:=b.code[e].cells) (by simp[hlt])
  have hbig:=hc.lt
  rw[List.drop_eq_getElem_cons hlt,List.all_cons]at hbad hok
  generalize b.code[e]=s at hld hbad hok
  have hs:=AKm s
  unfold Ins.cells at hld hs
  simp only[go_sem,Nat.reduceAdd,Bh,hlt,decide_true,hp,Bq hld]
  have f2:Kp H2 n2 (T.set (T.set H2 n2 (one [.int .i64 (.ofNat 0) 0,.int .i64 (.ofNat 0) 0])) n2 (one [.int .i64 s.code 0,.int .i64 s.arg 0])) (n2+1):=
   ((Kp.refl _ _).new (m:=n2+1) _ (Nat.le_refl _) (by omega)).new _ (Nat.le_refl _) (Nat.le_refl _)
  have hg:=T.Ai (T.set H2 n2 (one [.int .i64 (.ofNat 0) 0,.int .i64 (.ofNat 0) 0])) n2 (one [V.int .i64 s.code 0,.int .i64 s.arg 0])
  generalize T.set (T.set H2 n2 (one [.int .i64 (.ofNat 0) 0,.int .i64 (.ofNat 0) 0])) n2 (one [V.int .i64 s.code 0,.int .i64 s.arg 0])=H3 at f2 hg⊢
  have f3:=f.trans f2
  have gi3:T.get H3 i=_:=(f3.same i hi).trans gi
  have gj3:T.get H3 j=_:=(f3.same j hj).trans gj
  have e1:Ae 2 (.ptr n2 0) G H3=some (.agg [.int .i64 s.code 0,.int .i64 s.arg 0]):=Cb hg (by omega) rfl
  have e2:Ae 10 (.ptr i 0) G H3=some (.agg [c0,c1,c2,c3,v0,v1,v2,v3,v4,vb]):=Cb gi3 (by omega) rfl
  have e3:Ae 3 (.ptr j 0) G H3=some (.agg (b.cells vc)):=Cb gj3 (by omega) rfl
  simp only[go_sem,Nat.reduceAdd,e1,e2,e3]
  refine AH7 (h.kp f3) (hc.kp f3).el (hc.kp f3).lo λH4 n4 v f4 hv=>?_
  have hg4:T.get H4 n2=_:=(f4.same n2 (by omega)).trans hg
  have e4:Ae 2 (.ptr n2 0) G H4=some (.agg [.int .i64 s.code 0,.int .i64 s.arg 0]):=Cb hg4 (by omega) rfl
  simp only[go_sem,e4,hs]
  refine AE1 (i:=s) hG hv λH5 n5 f5=>?_
  have f6:=f3.trans (f4.trans f5)
  simp only[Bl,go_sem]
  cases h2:fO (mny p b) s with
  |false=>
   rw[h2]at hbad
   simp only[Bool.not_false,go_sem]
   exact hbad rfl _ _ f6
  |true=>
   rw[h2]at hbad hok
   simp only[Bool.not_true,go_sem,DJ (show e+1<9223372036854775808 by unfold big at hbig;omega)]
   exact ih _ _ (by omega) ⟨e+1,_,_,rfl,hlt,rfl,f6,hbad,hok⟩
 ·simp only[go_sem,Bh,hlt,decide_false]
  rw[List.drop_eq_nil_of_le (by omega)]at hok
  exact hok rfl _ _ f
def least(m:DK):Nat:=bif m.st then m.ps.length else m.ps.length+1
def rW(p:Pool)(m:DK)(b:Bd):Bool:=
 !decide (b.locals<least m)&&(!decide ((401:Int)<b.locals)&&(!decide (b.stack<0)&&(!decide ((1000:Int)<b.stack)&&(!decide (b.code.length<1)&&(!decide (16384<b.code.length)&&b.code.all (fO (mny p b)))))))
def Xh(p:Pool):List DK->List Bd->Bool
 |m::ms,b::bs=>rW p m b&&Xh p ms bs
 |_,_=>true
theorem AIH{G:AX}(hG:mF G){p:Pool}{m:DK}{b:Bd}{c0 c1 c2 c3 v0 v1 v2 v3 v4 vb vc x30 x31 x32:V}{ws:List V}{H:Heap}{n i j:Nat}{k:KV}{ih24:(V×V×V×V×Heap×Nat)->Prop}
 (hi:i<n) (hj:j<n) (h:FD G H n p v0 v1 v2 v3 v4 ws) (hc:Oq G H n vc b.code)
 (gi:T.get H i=some (one [c0,c1,c2,c3,v0,v1,v2,v3,v4,vb])) (gj:T.get H j=some (one (b.cells vc)))
 (hbad:rW p m b=false->∀H' n',Kp H n H' n'->k (.bool false) H' n')
 (hok:rW p m b=true->∀H' n',Kp H n H' n'->FI lfp G (Runs F G) k ih24 (.ptr i 0) x30 x31 x32 H' n'):
 FC lfp G (Runs F G) k ih24 (.ptr i 0) (.ptr j 0) (.int .i64 (.ofNat (least m)) 0) x30 x31 x32 H n:=by
 delta FC
 unfold rW at hbad hok
 unfold Bd.cells at gj
 have f0:AV (.ptr j 0) G H=some (.int .i64 b.locals 0):=AU gj rfl
 have f1:AV (.ptr j 1) G H=some (.int .i64 b.stack 0):=AU gj rfl
 have f2:AV (.ptr j 2) G H=some vc:=AU gj rfl
 have lc:lenV vc=some (.int .i64 (.ofNat b.code.length) 0):=by rw[hc.el.len,List.length_map]
 simp only[go_sem,Nat.reduceAdd,f0,ARl]
 rw[show decide (b.locals<Int.ofNat (least m))=decide (b.locals<least m)from rfl]
 cases h1:decide (b.locals<least m)with
 |true=>rw[h1]at hbad;simp only[go_sem];exact hbad rfl _ _ (Kp.refl _ _)
 |false=>
  rw[h1]at hbad hok;simp only[go_sem,Nat.reduceAdd,f0,ACZ]
  rw[show decide (Int.ofNat 401<b.locals)=decide ((401:Int)<b.locals)from rfl]
  cases h2:decide ((401:Int)<b.locals)with
  |true=>rw[h2]at hbad;simp only[go_sem];exact hbad rfl _ _ (Kp.refl _ _)
  |false=>
   rw[h2]at hbad hok;simp only[go_sem,Nat.reduceAdd,f1,ARl]
   rw[show decide (b.stack<Int.ofNat 0)=decide (b.stack<0)from rfl]
   cases h3:decide (b.stack<0)with
   |true=>rw[h3]at hbad;simp only[go_sem];exact hbad rfl _ _ (Kp.refl _ _)
   |false=>
    rw[h3]at hbad hok;simp only[go_sem,Nat.reduceAdd,f1,ACZ]
    rw[show decide (Int.ofNat 1000<b.stack)=decide ((1000:Int)<b.stack)from rfl]
    cases h4:decide ((1000:Int)<b.stack)with
    |true=>rw[h4]at hbad;simp only[go_sem];exact hbad rfl _ _ (Kp.refl _ _)
    |false=>
     rw[h4]at hbad hok;simp only[go_sem,Nat.reduceAdd,f2,lc,Bh]
     cases h5:decide (b.code.length<1)with
     |true=>rw[h5]at hbad;simp only[go_sem];exact hbad rfl _ _ (Kp.refl _ _)
     |false=>
      rw[h5]at hbad hok;simp only[go_sem,Nat.reduceAdd,f2,lc,Iw]
      cases h6:decide (16384<b.code.length)with
      |true=>rw[h6]at hbad;simp only[go_sem];exact hbad rfl _ _ (Kp.refl _ _)
      |false=>
       rw[h6]at hbad hok;simp only[go_sem,Nat.reduceAdd,f2,lc]
       exact AIX hG hi hj h hc gi gj hbad hok
theorem AFF{G:AX}(hG:mF G){p:Pool}{c:Fc}{bs:List Bd}{vf vm v0 v1 v2 v3 v4 vb:V}{mws ws bws:List V}{H:Heap}{n i:Nat}{k:KV}
 (hi:i<n) (hm:MC G H n vm c.ms mws) (h:FD G H n p v0 v1 v2 v3 v4 ws) (hb:KP G H n vb bs bws) (hlen:bs.length=c.ms.length) (AFt:∀m∈c.ms,m.ps.length<=200)
 (gi:T.get H i=some (one [c.nm.v,c.sup.v,vf,vm,v0,v1,v2,v3,v4,vb]))
 (hk:∀H' n',Kp H n H' n'->k (.bool (Xh p c.ms bs)) H' n'):
 lfp (V×V×V×V×Heap×Nat) (Nw lfp G (Runs F G) k) (.ptr i 0,vb,.int .i64 (.ofNat bs.length) 0,.int .i64 (.ofNat 0) 0,H,n):=by
 refine JJ (J:=λm st=>∃e H2 n2,m=bs.length-e/\e<=bs.length/\st=(.ptr i 0,vb,.int .i64 (.ofNat bs.length) 0,.int .i64 (.ofNat e) 0,H2,n2)/\Kp H n H2 n2/\
  (∀H' n',Kp H n H' n'->k (.bool (Xh p (c.ms.drop e) (bs.drop e))) H' n')) ?_ (m:=bs.length) ⟨0,H,n,rfl,Nat.zero_le _,rfl,Kp.refl _ _,hk⟩
 rintro I m st ⟨e,H2,n2,rfl,he,rfl,f,hk⟩ ih
 show Oj lfp G (Runs F G) k I (.ptr i 0) vb (.int .i64 (.ofNat bs.length) 0) (.int .i64 (.ofNat e) 0) H2 n2
 delta Oj
 by_cases hlt:e<bs.length
 ·have hlt':e<c.ms.length:=by omega
  have hw:e<bws.length:=by rw[hb.len];exact hlt
  have hb2:=hb.kp f
  obtain⟨q,hp,hld⟩:=hb2.el.at (i:=e) (c:=bs[e].cells bws[e]) (by rw[List.getElem?_zipWith];simp[hlt,hw])
  have hcode:=hb2.at' e _ _ (List.getElem?_eq_getElem hlt) (List.getElem?_eq_getElem hw)
  have hbig:=hb.lt
  rw[List.drop_eq_getElem_cons hlt,List.drop_eq_getElem_cons hlt']at hk
  unfold Xh at hk
  generalize bs[e]=b at hld hcode hk
  generalize bws[e]=w at hld hcode
  unfold Bd.cells at hld
  simp only[go_sem,Nat.reduceAdd,Bh,hlt,decide_true,hp,Bq hld]
  have f2:Kp H2 n2 (T.set (T.set H2 n2 (one [.int .i64 (.ofNat 0) 0,.int .i64 (.ofNat 0) 0,.AZ])) n2 (one [.int .i64 b.locals 0,.int .i64 b.stack 0,w])) (n2+1):=
   ((Kp.refl _ _).new (m:=n2+1) _ (Nat.le_refl _) (by omega)).new _ (Nat.le_refl _) (Nat.le_refl _)
  have gj:=T.Ai (T.set H2 n2 (one [.int .i64 (.ofNat 0) 0,.int .i64 (.ofNat 0) 0,.AZ])) n2 (one [V.int .i64 b.locals 0,.int .i64 b.stack 0,w])
  generalize T.set (T.set H2 n2 (one [.int .i64 (.ofNat 0) 0,.int .i64 (.ofNat 0) 0,.AZ])) n2 (one [V.int .i64 b.locals 0,.int .i64 b.stack 0,w])=H3 at f2 gj⊢
  have f3:=f.trans f2
  have gi3:T.get H3 i=_:=(f3.same i hi).trans gi
  obtain⟨q2,w2,hp2,hld2,hps⟩:=(hm.kp f3).at hlt'
  have hps2:=AFt _ (List.getElem_mem hlt')
  generalize c.ms[e]=mt at hld2 hps hk hps2
  unfold DK.cells at hld2
  have e3:AV (.ptr i 3) G H3=some vm:=AU gi3 rfl
  simp only[go_sem,Nat.reduceAdd,e3,hp2,Bq hld2,hps.len]
  have f4:Kp H3 (n2+1) (T.set (T.set H3 (n2+1) (one [.str 0 0,.bool false,.AZ,.str 0 0,.bool false])) (n2+1) (one [mt.nm.v,.bool mt.st,w2,mt.ret.nm.v,.bool mt.ret.arr])) (n2+1+1):=
   ((Kp.refl _ _).new (m:=n2+1+1) _ (Nat.le_refl _) (by omega)).new _ (Nat.le_refl _) (Nat.le_refl _)
  generalize T.set (T.set H3 (n2+1) (one [.str 0 0,.bool false,.AZ,.str 0 0,.bool false])) (n2+1) (one [mt.nm.v,.bool mt.st,w2,mt.ret.nm.v,.bool mt.ret.arr])=H4 at f4⊢
  have f5:=f3.trans f4
  have gi4:T.get H4 i=_:=(f5.same i hi).trans gi
  have gj4:T.get H4 n2=_:=(f4.same n2 (by omega)).trans gj
  have hgo:FC lfp G (Runs F G) k I (.ptr i 0) (.ptr n2 0) (.int .i64 (.ofNat (least mt)) 0) vb (.int .i64 (.ofNat bs.length) 0) (.int .i64 (.ofNat e) 0) H4 (n2+1+1):=by
   refine AIH hG (p:=p) (m:=mt) (b:=b) (by have:=f.le;omega) (by omega) (h.kp f5) (hcode.kp (f2.trans f4)) gi4 gj4 ?_ ?_
   ·intro hbad H' n' f'
    rw[hbad]at hk
    exact hk _ _ (f5.trans f')
   ·intro hok H' n' f'
    rw[hok]at hk
    delta FI
    simp only[go_sem,DJ (show e+1<9223372036854775808 by unfold big at hbig;omega)]
    exact ih _ _ (by omega) ⟨e+1,_,_,rfl,hlt,rfl,f5.trans f',hk⟩
  simp only[Bl]
  unfold least at hgo
  cases hst:mt.st with
  |true=>rw[hst]at hgo;simp only[Bool.not_true,go_sem];exact hgo
  |false=>rw[hst]at hgo;simp only[Bool.not_false,go_sem,DJ (show mt.ps.length+1<9223372036854775808 by omega)];exact hgo
 ·simp only[go_sem,Bh,hlt,decide_false]
  delta O0
  rw[List.drop_eq_nil_of_le (by omega),List.drop_eq_nil_of_le (by omega)]at hk
  exact hk _ _ f
theorem zG:∀{a:St} {ms:List DK},NU a ms=true->∀m∈ms,m.ps.length<=200
 |_,[],_=>λm hm=>by cases hm
 |a,m::ms,h=>by
  simp[NU]at h
  intro m' hm'
  rcases List.mem_cons.1 hm' with rfl|hm'
  ·omega
  ·exact zG h.2.2.2.2.2 m' hm'
theorem uM{c:Fc}(h:Ur c=true):∀m∈c.ms,m.ps.length<=200:=by
 simp[Ur]at h
 exact zG h.2.2.2.2.2.2.2
structure dP(G:AX)(H:Heap)(n:Nat)(L:LV)(f:Fl)(vf vm v0 v1 v2 v3 v4 vb:V)(mws ws bws:List V):Prop where
 is:L=[f.face.nm.v,f.face.sup.v,vf,vm,v0,v1,v2,v3,v4,vb]
 face:Xv G H n [f.face.nm.v,f.face.sup.v,vf,vm] f.face vf vm mws
 pool:FD G H n f.pool v0 v1 v2 v3 v4 ws
 bodies:KP G H n vb f.bodies bws
def OJ(f:Fl):Bool:=Ur f.face&&(AEU f.pool&&(decide (f.bodies.length=f.face.ms.length)&&Xh f.pool f.face.ms f.bodies))
theorem AF2{G:AX}(hG:mF G){L:LV}{f:Fl}{vf vm v0 v1 v2 v3 v4 vb:V}{mws ws bws:List V}{H:Heap}{n:Nat}{k:KV}(h:dP G H n L f vf vm v0 v1 v2 v3 v4 vb mws ws bws)
 (hk:∀H' n',Kp H n H' n'->k (.bool (OJ f)) H' n'):Runs F G Yy [.agg L] H n k:=by
 refine BL (s:=MZ (LK lfp G)) TU (by obtain⟨h,o⟩:=YV BK G;rw[TU]at h;cases h;exact o) ?_
 show LK lfp G (Runs F G) (.agg L) H n k
 obtain⟨rfl,hf,hp,hb⟩:=h
 delta LK
 unfold OJ at hk
 simp only[go_sem]
 have f1:Kp H n (T.set H n (one [f.face.nm.v,f.face.sup.v,vf,vm,v0,v1,v2,v3,v4,vb])) (n+1):=(Kp.refl H n).new _ (Nat.le_refl _) (by omega)
 have hg:=T.Ai H n (one [f.face.nm.v,f.face.sup.v,vf,vm,v0,v1,v2,v3,v4,vb])
 generalize T.set H n (one [f.face.nm.v,f.face.sup.v,vf,vm,v0,v1,v2,v3,v4,vb])=H1 at f1 hg⊢
 have e1:Ae 4 (.ptr n 0) G H1=some (.agg [f.face.nm.v,f.face.sup.v,vf,vm]):=G7 hg (by omega) (by show 4<=10;omega)
 simp only[go_sem,e1]
 refine zk (hf.kp f1) λH2 n2 f2=>?_
 have hg:T.get H2 n=_:=(f2.same n (by omega)).trans hg
 have f3:=f1.trans f2
 simp only[Bl]
 cases h1:Ur f.face with
 |false=>rw[h1]at hk;simp only[Bool.not_false,go_sem];exact hk _ _ f3
 |true=>
  rw[h1]at hk
  have e2:Ae 5 (.ptr n 4) G H2=some (.agg [v0,v1,v2,v3,v4]):=G7 hg (by omega) (by show 9<=10;omega)
  simp only[Bool.not_true,go_sem,Nat.reduceAdd,e2]
  refine AHK (hp.kp f3) λH4 n4 f4=>?_
  have hg:T.get H4 n=_:=(f4.same n (by have:=f2.le;omega)).trans hg
  have f5:=f3.trans f4
  simp only[Bl,go_sem]
  cases h2:AEU f.pool with
  |false=>rw[h2]at hk;simp only[Bool.not_false,go_sem];exact hk _ _ f5
  |true=>
   rw[h2]at hk
   have e9:AV (.ptr n 9) G H4=some vb:=AU hg rfl
   have e3:AV (.ptr n 3) G H4=some vm:=AU hg rfl
   have lb:lenV vb=some (.int .i64 (.ofNat f.bodies.length) 0):=by rw[hb.el.len,List.length_zipWith,hb.len,Nat.min_self]
   have lm:lenV vm=some (.int .i64 (.ofNat f.face.ms.length) 0):=hf.ms.len'
   simp only[Bool.not_true,go_sem,Nat.reduceAdd,e9,e3,lb,lm,ATb]
   cases h3:decide (f.bodies.length=f.face.ms.length)with
   |false=>rw[h3]at hk;simp only[Bool.not_false,go_sem];exact hk _ _ f5
   |true=>
    rw[h3]at hk
    simp only[Bool.not_true,go_sem,Nat.reduceAdd,e9,lb]
    exact AFF hG (c:=f.face) (by have:=f2.le;have:=f4.le;omega) (hf.ms.kp f5) (hp.kp f5) (hb.kp f5) (of_decide_eq_true h3) (uM h1) hg λH' n' f'=>hk _ _ (f5.trans f')
end Go.RL
