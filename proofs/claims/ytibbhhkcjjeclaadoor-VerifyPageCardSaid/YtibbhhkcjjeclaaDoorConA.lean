/- Part of a proof: texts LQA LQB LQC LQD LQE LQF LQG LQH LQI LQJ LQK LQL LQM LQN LQO LQP of the engine and what is proved with it; nothing is assumed. -/
import Derived.Test.YtibbhhkcjjeclaaDoorPlainR
import Derived.Test.YtibbhhkcjjeclaaDoorWalk
set_option linter.unusedVariables false
set_option linter.unusedSimpArgs false
noncomputable section
namespace Go.RL
open Go.CS
set_option maxRecDepth 100000
theorem BL(b:Bool):Et (.bool b)=some (.bool (!b)):=ASk b
def upper(l c:Nat):Bool:=decide (0<l)&&(decide (65<=c%256)&&decide (c%256<=90))
def isClass(l c:Nat)(arr:Bool):Bool:= !arr&&upper l c
theorem iO{G:AQ}{l c:Nat}{H:Heap}{n:Nat}{k:KV}(hk:∀H' n',Kp H n H' n'->k (.agg [.str l c,.bool false]) H' n'):Runs F G FH [.str l c] H n k:=by
 refine BN (s:=KL (jD lfp G)) vS (by obtain⟨h,o⟩:=ACP BO G;rw[vS]at h;cases h;exact o) ?_
 show jD lfp G (Runs F G) (.str l c) H n k
 delta jD
 simp only[go_sem,Nat.reduceAdd,show BX [.str 0 0,.bool false] [(0,1,.c (.str l c))]=some (.agg [.str l c,.bool false])from rfl]
 exact hk _ _ (((Kp.refl H n).new (m:=n+1) _ (Nat.le_refl _) (by omega)).new _ (Nat.le_refl _) (Nat.le_refl _))
theorem ANZ(a b l c:Nat):Cc (.one .str) true (.str a b) (.str l c)=some (.bool (!decide (a=l/\b=c))):=by
 show ofB (VA (some (band (Nat.beq a l) (Nat.beq b c))) λb=>some (Zr b))=_
 have:band (Nat.beq a l) (Nat.beq b c)=decide (a=l/\b=c):=by rw[BP,Bool.eq_iff_iff];simp
 rw[this];cases decide (a=l/\b=c)<;>rfl
theorem ARh{l c:Nat}(h:0<l):AKV (.str l c) (.int .i64 (.ofNat 0) 0)=some (.int .u8 (.ofNat (c%256)) 0):=by
 show BM (Nat.blt 0 l) (FW (AKD c 0) λb=>some (.int .u8 (.ofNat b) 0))=_
 have:Nat.blt 0 l=true:=by rw[Nat.blt_eq];exact h
 rw[this,D5]
 show some (V.int .u8 (.ofNat (c/1%256)) 0)=_
 rw[Nat.div_one]
theorem ART(q:IntKind)(a b:Nat):B2.ev .geq (.int q (.ofNat a) 0) (.int q (.ofNat b) 0)=some (.bool (decide (b<=a))):=by
 show BM (band (keq q q) true) (mkB (ile (.ofNat b) (.ofNat a)))=_
 rw[Qs,qB,show band (keq q q) true=true by simp[Ob],show decide (Int.ofNat b<=Int.ofNat a)=decide (b<=a)by rw[decide_eq_decide];show(b:Int)<=a↔_;omega];rfl
theorem AHy(q:IntKind)(a b:Nat):B2.ev .leq (.int q (.ofNat a) 0) (.int q (.ofNat b) 0)=some (.bool (decide (a<=b))):=by
 show BM (band (keq q q) true) (mkB (ile (.ofNat a) (.ofNat b)))=_
 rw[Qs,qB,show band (keq q q) true=true by simp[Ob],show decide (Int.ofNat a<=Int.ofNat b)=decide (a<=b)by rw[decide_eq_decide];show(a:Int)<=b↔_;omega];rfl
theorem lU{G:AQ}{l c:Nat}{arr:Bool}(hl:l=0->c=0){H:Heap}{n:Nat}{k:KV}(hk:∀H' n',Kp H n H' n'->k (.bool (isClass l c arr)) H' n'):Runs F G Bf [.agg [.str l c,.bool arr]] H n k:=by
 refine BN (s:=KL (NM lfp G)) Uu (by obtain⟨h,o⟩:=ZC BO G;rw[Uu]at h;cases h;exact o) ?_
 show NM lfp G (Runs F G) (.agg [.str l c,.bool arr]) H n k
 delta NM
 simp only[go_sem,Nat.reduceAdd,BL]
 cases arr with
 |true=>
  simp only[go_sem,Nat.reduceAdd,Bool.not_true]
  exact hk _ _ ((Kp.refl H n).new _ (Nat.le_refl _) (by omega))
 |false=>
  simp only[go_sem,Nat.reduceAdd,Bool.not_false,ANZ]
  by_cases h0:l=0/\c=0
  ·simp only[h0,and_self,decide_true,Bool.not_true,go_sem]
   have:isClass l c false=false:=by simp[isClass,upper,h0]
   rw[this]at hk
   exact hk _ _ ((Kp.refl H n).new _ (Nat.le_refl _) (by omega))
  ·have hl0:0<l:=by rcases Nat.eq_zero_or_pos l with h|h;exact absurd ⟨h,hl h⟩ h0;exact h
   simp only[h0,decide_false,Bool.not_false,go_sem,ARh hl0,ART,AHy]
   have e:isClass l c false=(decide (65<=c%256)&&decide (c%256<=90)):=by simp[isClass,upper,hl0]
   rw[e]at hk
   cases h1:decide (65<=c%256)with
   |false=>
    simp only[go_sem]
    rw[h1]at hk
    exact hk _ _ ((Kp.refl H n).new _ (Nat.le_refl _) (by omega))
   |true=>
    simp only[go_sem,ARh hl0,AHy]
    rw[h1]at hk
    exact hk _ _ ((Kp.refl H n).new _ (Nat.le_refl _) (by omega))
theorem AOM(l c:Nat):P7 (.str l c)=some (.int .i64 (.ofNat l) 0):=rfl
def kQ(l c:Nat):Bool:=decide (l=3/\c=7630441)||(decide (l=4/\c=1819242338)||(upper l c&&decide (l<=40)))
theorem uf{G:AQ}{l c:Nat}{arr:Bool}(hl:l=0->c=0){H:Heap}{n:Nat}{k:KV}(hk:∀H' n',Kp H n H' n'->k (.bool (kQ l c)) H' n'):Runs F G Qd [.agg [.str l c,.bool arr]] H n k:=by
 refine BN (s:=KL (WO lfp G)) fB (by obtain⟨h,o⟩:=rZ BO G;rw[fB]at h;cases h;exact o) ?_
 show WO lfp G (Runs F G) (.agg [.str l c,.bool arr]) H n k
 delta WO
 unfold kQ at hk
 have f1:Kp H n (T.set H n (one [.str l c,.bool arr])) (n+1):=(Kp.refl H n).new _ (Nat.le_refl _) (by omega)
 simp only[go_sem,yL]
 cases h1:decide (l=3/\c=7630441)with
 |true=>
  simp only[go_sem]
  rw[h1]at hk
  exact hk _ _ f1
 |false=>
  rw[h1]at hk
  simp only[go_sem,yL]
  cases h2:decide (l=4/\c=1819242338)with
  |true=>
   simp only[go_sem]
   rw[h2]at hk
   exact hk _ _ f1
  |false=>
   rw[h2]at hk
   simp only[go_sem]
   refine iO λH1 n1 f2=>?_
   refine lU hl λH2 n2 f3=>?_
   have f4:=f1.trans (f2.trans f3)
   have e:isClass l c false=upper l c:=by simp[isClass]
   rw[e]
   cases h3:upper l c with
   |false=>
    simp only[go_sem]
    rw[h3]at hk
    exact hk _ _ f4
   |true=>
    rw[h3]at hk
    have hg:T.get H2 n=some (one [.str l c,.bool arr]):=by rw[f3.same n (by have:=f2.le;omega),f2.same n (by omega),T.Ag]
    simp only[go_sem,AU (off:=0) hg (v:=.str l c) rfl,AOM,AHy]
    exact hk _ _ f4
theorem ADk{G:AQ}{l c:Nat}(hl:l=0->c=0){H:Heap}{n:Nat}{k:KV}(hk:∀H' n',Kp H n H' n'->k (.bool (upper l c&&decide (l<=40))) H' n'):Runs F G Vk [.str l c] H n k:=by
 refine BN (s:=KL (RZ lfp G)) X6 (by obtain⟨h,o⟩:=kY BO G;rw[X6]at h;cases h;exact o) ?_
 show RZ lfp G (Runs F G) (.str l c) H n k
 delta RZ
 refine iO λH1 n1 f2=>?_
 refine lU hl λH2 n2 f3=>?_
 have e:isClass l c false=upper l c:=by simp[isClass]
 rw[e]
 cases h3:upper l c<;>simp only[go_sem,AOM,AHy]<;>rw[h3]at hk<;>exact hk _ _ (f2.trans f3)
abbrev St:=Nat×Nat
def St.v(s:St):V:=.str s.1 s.2
def strs(xs:List St):EW:=xs.map λs=>[St.v s]
theorem JE(xs:List St):(strs xs).length=xs.length:=List.length_map ..
theorem Ro{xs:List St}{i:Nat}(h:i<xs.length):(strs xs)[i]? =some [St.v xs[i]]:=by simp[strs,h]
def AB8(s:St):List St->Nat->Int
 |[],_=>.negSucc 0
 |x::xs,i=>bif decide (s.1=x.1/\s.2=x.2)then .ofNat i else AB8 s xs (i+1)
def iM(s:St)(xs:List St):Bool:=xs.any λx=>decide (s.1=x.1/\s.2=x.2)
theorem AFD(s:St):∀(xs:List St) (i:Nat),decide ((0:Int)<=AB8 s xs i)=iM s xs
 |[],_=>rfl
 |x::xs,i=>by
  unfold AB8
  show _=(decide (s.1=x.1/\s.2=x.2)||iM s xs)
  cases h:decide (s.1=x.1/\s.2=x.2)with
  |true=>simp
  |false=>simpa using AFD s xs (i+1)
theorem Bj{i m:Nat}:B2.ev .lss (.int .i64 (.ofNat i) 0) (.int .i64 (.ofNat m) 0)=some (.bool (decide (i<m))):=by
 rw[AJ1];congr 2;rw[decide_eq_decide];show(i:Int)<m↔_;omega
theorem ANo{G:AQ}{v:V}{xs:List St}{s:St}{H:Heap}{n:Nat}{k:KV}(h:El G H v 1 (strs xs))(hb:xs.length<9223372036854775808)(hk:k (.int .i64 (AB8 s xs 0) 0) H n):
 Runs F G Oi [v,s.v] H n k:=by
 refine BN (s:=RP (EH lfp G)) IY (by obtain⟨h,o⟩:=Nq BO G;rw[IY]at h;cases h;exact o) ?_
 show EH lfp G (Runs F G) v s.v H n k
 delta EH
 rw[h.len,AV,JE]
 refine Ia (J:=λm st=>∃i,m=xs.length-i/\i<=xs.length/\st=(v,s.v,.int .i64 (.ofNat xs.length) 0,.int .i64 (.ofNat i) 0,H,n)/\k (.int .i64 (AB8 s (xs.drop i) i) 0) H n) ?_ (m:=xs.length) ⟨0,rfl,Nat.zero_le _,rfl,hk⟩
 rintro I m st ⟨i,rfl,hi,rfl,hk⟩ ih
 show Gv lfp G (Runs F G) k I v s.v (.int .i64 (.ofNat xs.length) 0) (.int .i64 (.ofNat i) 0) H n
 delta Gv
 by_cases hlt:i<xs.length
 ·obtain⟨p,hp,hld⟩:=h.at (Ro hlt)
  rw[List.drop_eq_getElem_cons hlt]at hk
  unfold AB8 at hk
  simp only[go_sem,Bj,hlt,decide_true,hp,QL hld,St.v,yL]
  cases he:decide (s.1=xs[i].1/\s.2=xs[i].2)with
  |true=>simp only[go_sem];rw[he]at hk;exact hk
  |false=>
   simp only[go_sem,Dl (show i+1<9223372036854775808 by omega)]
   rw[he]at hk
   exact ih _ _ (by omega) ⟨i+1,rfl,hlt,rfl,hk⟩
 ·simp only[go_sem,Bj,hlt,decide_false]
  delta Gu
  rw[List.drop_eq_nil_of_le (by omega)]at hk
  exact hk
theorem AIC(a:Int):B2.ev .geq (.int .i64 a 0) (.int .i64 (.ofNat 0) 0)=some (.bool (decide (0<=a))):=by
 show BM (band (keq .i64 .i64) true) (mkB (ile (.ofNat 0) a))=_
 rw[Qs,qB];rfl
theorem ql{G:AQ}{v:V}{xs:List St}{s:St}{H:Heap}{n:Nat}{k:KV}(h:El G H v 1 (strs xs))(hb:xs.length<9223372036854775808)(hk:k (.bool (iM s xs)) H n):
 Runs F G Eb [v,s.v] H n k:=by
 refine BN (s:=RP (Dw lfp G)) Gp (by obtain⟨h,o⟩:=Kt BO G;rw[Gp]at h;cases h;exact o) ?_
 show Dw lfp G (Runs F G) v s.v H n k
 delta Dw
 refine ANo h hb ?_
 simp only[go_sem,AIC,AFD]
 exact hk
structure Ty where
 nm:St
 arr:Bool
def Ty.cells(t:Ty):LV:=[t.nm.v,.bool t.arr]
def Ty.v(t:Ty):V:=.agg t.cells
def Ty.is(a b:Ty):Bool:=decide (a.nm.1=b.nm.1/\a.nm.2=b.nm.2)&&(a.arr==b.arr)
def tys(xs:List Ty):EW:=xs.map Ty.cells
theorem Cb(xs:List Ty):(tys xs).length=xs.length:=List.length_map ..
theorem NT{xs:List Ty}{i:Nat}(h:i<xs.length):(tys xs)[i]? =some xs[i].cells:=by simp[tys,h]
theorem ARQ(a b:St):CK.eq .str a.v b.v=some (decide (a.1=b.1/\a.2=b.2)):=by
 show some (band (Nat.beq a.1 b.1) (Nat.beq a.2 b.2))=_
 rw[show band (Nat.beq a.1 b.1) (Nat.beq a.2 b.2)=decide (a.1=b.1/\a.2=b.2)by rw[BP,Bool.eq_iff_iff];simp]
theorem ATG(a b:Bool):CK.eq .bool (.bool a) (.bool b)=some (a==b):=by cases a<;>cases b<;>rfl
theorem ALz(a b:Ty):(EK.agg [.str,.bool]).eq a.v b.v=some (a.is b):=
 show zK [.str,.bool] a.cells b.cells=_ from Xp.2 ⟨_,_,ARQ _ _,Xp.2 ⟨_,true,ATG _ _,rfl,rfl⟩,by simp[Ty.is]⟩
theorem gI(a b:Ty):Cc (.agg [.str,.bool]) false a.v b.v=some (.bool (a.is b)):=by
 show ofB (VA ((EK.agg [.str,.bool]).eq a.v b.v) λb=>some b)=_
 rw[ALz];cases a.is b<;>rfl
theorem fQ(a b:Ty):Cc (.agg [.str,.bool]) true a.v b.v=some (.bool (!a.is b)):=by
 show ofB (VA ((EK.agg [.str,.bool]).eq a.v b.v) λb=>some (Zr b))=_
 rw[ALz];cases a.is b<;>rfl
def sQ:List Ty->List Ty->Bool
 |[],[]=>true
 |a::l,b::r=>a.is b&&sQ l r
 |_,_=>false
theorem ACT:∀{l r:List Ty},sQ l r=true->l.length=r.length
 |[],[],_=>rfl
 |a::l,b::r,h=>by simp[sQ]at h;simp[ACT h.2]
 |[],_::_,h=>by cases h
 |_::_,[],h=>by cases h
theorem ASO{i m:Nat}:Cc (.one .int) true (.int .i64 (.ofNat i) 0) (.int .i64 (.ofNat m) 0)=some (.bool (!decide (i=m))):=by
 rw[AK5,show(Int.ofNat i==Int.ofNat m)=decide (i=m)by rw[Bool.eq_iff_iff];simp;omega]
theorem AKu{G:AQ}{v w:V}{xs ys:List Ty}{H:Heap}{n:Nat}{k:KV}(h:El G H v 2 (tys xs))(h2:El G H w 2 (tys ys))(hb:xs.length<9223372036854775808)(hk:k (.bool (sQ xs ys)) H n):
 Runs F G LP [v,w] H n k:=by
 refine BN (s:=RP (Dk lfp G)) GI (by obtain⟨h,o⟩:=KN BO G;rw[GI]at h;cases h;exact o) ?_
 show Dk lfp G (Runs F G) v w H n k
 delta Dk
 simp only[go_sem,h.len,h2.len,Cb,ASO]
 by_cases hl:xs.length=ys.length
 ·simp only[hl,decide_true,Bool.not_true,go_sem]
  refine Ia (J:=λm st=>∃i,m=ys.length-i/\i<=ys.length/\st=(v,w,.int .i64 (.ofNat ys.length) 0,.int .i64 (.ofNat i) 0,H,n)/\k (.bool (sQ (xs.drop i) (ys.drop i))) H n) ?_ (m:=ys.length) ⟨0,rfl,Nat.zero_le _,rfl,hk⟩
  rintro I m st ⟨i,rfl,hi,rfl,hk⟩ ih
  show FZ lfp G (Runs F G) k I v w (.int .i64 (.ofNat ys.length) 0) (.int .i64 (.ofNat i) 0) H n
  delta FZ
  by_cases hlt:i<ys.length
  ·have hlt':i<xs.length:=by omega
   obtain⟨p,hp,hld⟩:=h.at (NT hlt')
   obtain⟨p2,hp2,hld2⟩:=h2.at (NT hlt)
   rw[List.drop_eq_getElem_cons hlt,List.drop_eq_getElem_cons hlt']at hk
   unfold sQ at hk
   have e:=fQ xs[i] ys[i]
   unfold Ty.v at e
   simp only[go_sem,Bj,hlt,decide_true,hp,hp2,Bl hld,Bl hld2,e]
   cases he:xs[i].is ys[i]with
   |false=>rw[he]at hk;simp only[Bool.not_false,go_sem];exact hk
   |true=>
    simp only[Bool.not_true,go_sem,Dl (show i+1<9223372036854775808 by omega)]
    rw[he]at hk
    exact ih _ _ (by omega) ⟨i+1,rfl,hlt,rfl,hk⟩
  ·simp only[go_sem,Bj,hlt,decide_false]
   delta Fb
   rw[List.drop_eq_nil_of_le (by omega),List.drop_eq_nil_of_le (by omega)]at hk
   exact hk
 ·have:sQ xs ys=false:=by cases h:sQ xs ys;rfl;exact absurd (ACT h) hl
  rw[this]at hk
  simp only[hl,decide_false,Bool.not_false,go_sem]
  exact hk
def Lo(v:V)(n:Nat):Prop:=∀id,v.Xb=some id->id<n
theorem _root_.Go.CS.El.kp{G:AQ}{H H':Heap}{v:V}{z n n':Nat}{LS:EW}(h:El G H v z LS)(hl:Lo v n)(f:Kp H n H' n'):El G H' v z LS:=h.same λid hid=>f.same id (hl id hid)
theorem Lo.mono{v:V}{n n':Nat}(h:Lo v n)(hn:n<=n'):Lo v n':=λid hid=>Nat.lt_of_lt_of_le (h id hid) hn
def findF(g:Ty->Bool):List Ty->Nat->Int
 |[],_=>.negSucc 0
 |x::xs,i=>bif g x then .ofNat i else findF g xs (i+1)
theorem AEP(g:Ty->Bool):∀(xs:List Ty) (i:Nat),decide ((0:Int)<=findF g xs i)=xs.any g
 |[],_=>rfl
 |x::xs,i=>by
  unfold findF
  show _=(g x||xs.any g)
  cases h:g x with
  |true=>simp
  |false=>simpa using AEP g xs (i+1)
theorem AFo{G:AQ}{v:V}{xs:List Ty}{p:Nat}{g:Ty->Bool}{H:Heap}{n:Nat}{k:KV}(h:El G H v 2 (tys xs))(hlo:Lo v n)(hb:xs.length<9223372036854775808)
 (hg:∀t∈xs,∀{H n} {k:KV},(∀H' n',Kp H n H' n'->k (.bool (g t)) H' n')->Runs F G p [t.v] H n k)
 (hk:∀H' n',Kp H n H' n'->k (.int .i64 (findF g xs 0) 0) H' n'):
 Runs F G JW [v,.fn p [] []] H n k:=by
 refine BN (s:=RP (Cj lfp G)) Eo (by obtain⟨h,o⟩:=I4 BO G;rw[Eo]at h;cases h;exact o) ?_
 show Cj lfp G (Runs F G) v (.fn p [] []) H n k
 delta Cj
 rw[h.len,AV,Cb]
 refine Ia (J:=λm st=>∃i H2 n2,m=xs.length-i/\i<=xs.length/\st=(v,.fn p [] [],.int .i64 (.ofNat xs.length) 0,.int .i64 (.ofNat i) 0,H2,n2)/\Kp H n H2 n2/\(∀H' n',Kp H n H' n'->k (.int .i64 (findF g (xs.drop i) i) 0) H' n')) ?_ (m:=xs.length) ⟨0,H,n,rfl,Nat.zero_le _,rfl,Kp.refl _ _,hk⟩
 rintro I m st ⟨i,H2,n2,rfl,hi,rfl,f,hk⟩ ih
 show EY lfp G (Runs F G) k I v (.fn p [] []) (.int .i64 (.ofNat xs.length) 0) (.int .i64 (.ofNat i) 0) H2 n2
 delta EY
 by_cases hlt:i<xs.length
 ·obtain⟨q,hp,hld⟩:=(h.kp hlo f).at (NT hlt)
  rw[List.drop_eq_getElem_cons hlt]at hk
  unfold findF at hk
  simp only[go_sem,Bj,hlt,decide_true,hp,Bl hld]
  show Runs F G p [xs[i].v] H2 n2 _
  refine hg _ (List.getElem_mem hlt) λH3 n3 f3=>?_
  cases he:g xs[i]with
  |true=>simp only[go_sem];rw[he]at hk;exact hk _ _ (f.trans f3)
  |false=>
   simp only[go_sem,Dl (show i+1<9223372036854775808 by omega)]
   rw[he]at hk
   exact ih _ _ (by omega) ⟨i+1,_,_,rfl,hlt,rfl,f.trans f3,hk⟩
 ·simp only[go_sem,Bj,hlt,decide_false]
  delta Ea
  rw[List.drop_eq_nil_of_le (by omega)]at hk
  exact hk _ _ f
theorem AAz{G:AQ}{v:V}{xs:List Ty}{p:Nat}{g:Ty->Bool}{H:Heap}{n:Nat}{k:KV}(h:El G H v 2 (tys xs))(hlo:Lo v n)(hb:xs.length<9223372036854775808)
 (hg:∀t∈xs,∀{H n} {k:KV},(∀H' n',Kp H n H' n'->k (.bool (g t)) H' n')->Runs F G p [t.v] H n k)
 (hk:∀H' n',Kp H n H' n'->k (.bool (xs.any g)) H' n'):
 Runs F G EZ [v,.fn p [] []] H n k:=by
 refine BN (s:=RP (CU lfp G)) EU (by obtain⟨h,o⟩:=IB BO G;rw[EU]at h;cases h;exact o) ?_
 show CU lfp G (Runs F G) v (.fn p [] []) H n k
 delta CU
 refine AFo h hlo hb hg λH' n' f=>?_
 simp only[go_sem,AIC,AEP]
 exact hk _ _ f
def St.ok(s:St):Prop:=s.1=0->s.2=0
def ND(s:St):Bool:=kQ s.1 s.2
theorem ADT{G:AQ}{t:Ty}(ht:t.nm.ok){H:Heap}{n:Nat}{k:KV}(hk:∀H' n',Kp H n H' n'->k (.bool (!ND t.nm)) H' n'):Runs F G RI [t.v] H n k:=by
 refine BN (s:=KL (JC lfp G)) QW (by obtain⟨h,o⟩:=Vt BO G;rw[QW]at h;cases h;exact o) ?_
 show JC lfp G (Runs F G) t.v H n k
 delta JC
 simp only[Ty.v,Ty.cells,St.v,go_sem]
 refine uf ht λH1 n1 f=>?_
 simp only[BL,go_sem]
 exact hk _ _ (((Kp.refl H n).new (m:=n+1) _ (Nat.le_refl _) (by omega)).trans f)
theorem AIc{G:AQ}{v:V}{xs:List Ty}{H:Heap}{n:Nat}{k:KV}(h:El G H v 2 (tys xs))(hlo:Lo v n)(hb:xs.length<9223372036854775808)(ho:∀t∈xs,t.nm.ok)
 (hk:∀H' n',Kp H n H' n'->k (.bool (xs.any λt=> !ND t.nm)) H' n'):Runs F G EZ [v,.fn RI [] []] H n k:=
 AAz (p:=RI) h hlo hb (λt ht {_ _ _} hk=>ADT (ho t ht) hk) hk
abbrev big:Nat:=9223372036854775808
structure Fld where
 nm:St
 ty:Ty
def Fld.cells(f:Fld):LV:=[f.nm.v,f.ty.nm.v,.bool f.ty.arr]
structure ES where
 nm:St
 st:Bool
 ps:List Ty
 ret:Ty
def ES.cells(m:ES)(v:V):LV:=[m.nm.v,.bool m.st,v,m.ret.nm.v,.bool m.ret.arr]
structure L6(G:AQ)(H:Heap)(n:Nat)(v:V)(xs:List Ty):Prop where
 el:El G H v 2 (tys xs)
 lo:Lo v n
 lt:xs.length<big
 ok:∀t∈xs,t.nm.ok
structure UM(G:AQ)(H:Heap)(n:Nat)(v:V)(fs:List Fld):Prop where
 el:El G H v 3 (fs.map Fld.cells)
 lo:Lo v n
 lt:fs.length<big
 ok:∀f∈fs,f.nm.ok/\f.ty.nm.ok
structure MJ(G:AQ)(H:Heap)(n:Nat)(v:V)(ms:List ES)(ws:List V):Prop where
 el:El G H v 5 (List.zipWith ES.cells ms ws)
 lo:Lo v n
 lt:ms.length<big
 len:ws.length=ms.length
 at':∀(i:Nat) (m:ES) (w:V),ms[i]? =some m->ws[i]? =some w->L6 G H n w m.ps
 ok:∀m∈ms,m.nm.ok/\m.ret.nm.ok
section
variable{G:AQ}{H H':Heap}{n n':Nat}{v:V}
theorem L6.kp{xs:List Ty}(h:L6 G H n v xs)(f:Kp H n H' n'):L6 G H' n' v xs:=⟨h.el.kp h.lo f,h.lo.mono f.le,h.lt,h.ok⟩
theorem UM.kp{xs:List Fld}(h:UM G H n v xs)(f:Kp H n H' n'):UM G H' n' v xs:=⟨h.el.kp h.lo f,h.lo.mono f.le,h.lt,h.ok⟩
theorem MJ.kp{xs:List ES}{ws:List V}(h:MJ G H n v xs ws)(f:Kp H n H' n'):MJ G H' n' v xs ws:=
 ⟨h.el.kp h.lo f,h.lo.mono f.le,h.lt,h.len,λi m w a b=>(h.at' i m w a b).kp f,h.ok⟩
theorem UM.len{xs:List Fld}(h:UM G H n v xs):lenV v=some (.int .i64 (.ofNat xs.length) 0):=by rw[h.el.len,List.length_map]
theorem L6.len{xs:List Ty}(h:L6 G H n v xs):lenV v=some (.int .i64 (.ofNat xs.length) 0):=by rw[h.el.len,Cb]
theorem MJ.len'{xs:List ES}{ws:List V}(h:MJ G H n v xs ws):lenV v=some (.int .i64 (.ofNat xs.length) 0):=by
 rw[h.el.len,List.length_zipWith,h.len,Nat.min_self]
theorem UM.at{xs:List Fld}(h:UM G H n v xs){i:Nat}(hi:i<xs.length):∃p,Ai 3 v (.int .i64 (.ofNat i) 0)=some p/\lX p G H 3=some xs[i].cells:=
 h.el.at (by simp[hi])
theorem MJ.at{xs:List ES}{ws:List V}(h:MJ G H n v xs ws){i:Nat}(hi:i<xs.length):
 ∃p w,Ai 5 v (.int .i64 (.ofNat i) 0)=some p/\lX p G H 5=some (xs[i].cells w)/\L6 G H n w xs[i].ps:=by
 have hw:i<ws.length:=by rw[h.len];exact hi
 obtain⟨p,h1,h2⟩:=h.el.at (i:=i) (c:=xs[i].cells ws[i]) (by rw[List.getElem?_zipWith];simp[hi,hw])
 exact⟨p,ws[i],h1,h2,h.at' i _ _ (List.getElem?_eq_getElem hi) (List.getElem?_eq_getElem hw)⟩
end
def leS(a b:St):Bool:=Zr (slt b.1 b.2 a.1 a.2)
theorem AOt(a b:St):B2.ev .leq a.v b.v=some (.bool (leS a b)):=by
 show mkB (Zr (slt b.1 b.2 a.1 a.2))=_
 rw[Qs];rfl
theorem IL(q:IntKind)(a b:Nat):B2.ev .gtr (.int q (.ofNat a) 0) (.int q (.ofNat b) 0)=some (.bool (decide (b<a))):=by
 show BM (band (keq q q) true) (mkB (ilt (.ofNat b) (.ofNat a)))=_
 rw[Qs,WY,show band (keq q q) true=true by simp[Ob],show decide (Int.ofNat b<Int.ofNat a)=decide (b<a)by rw[decide_eq_decide];show(b:Int)<a↔_;omega];rfl
theorem Yn(s:St):P7 s.v=some (.int .i64 (.ofNat s.1) 0):=rfl
def qC:St->List Fld->Bool
 |_,[]=>true
 |a,f::fs=> !(leS f.nm a)&&(!(decide (40<f.nm.1))&&(ND f.ty.nm&&qC f.nm fs))
def P9:St->List ES->Bool
 |_,[]=>true
 |a,m::ms=> !(leS m.nm a)&&(!(decide (40<m.nm.1))&&(ND m.ret.nm&&(!(decide (200<m.ps.length))&&(!(m.ps.any λt=> !ND t.nm)&&P9 m.nm ms))))
theorem AEK{G:AQ}{v:V}{ms:List ES}{ws:List V}{H:Heap}{n:Nat}{k:KV}(h:MJ G H n v ms ws){a:St}
 (hk:∀H' n',Kp H n H' n'->k (.bool (P9 a ms)) H' n'):
 lfp (V×V×V×V×Heap×Nat) (OI lfp G (Runs F G) k) (a.v,v,.int .i64 (.ofNat ms.length) 0,.int .i64 (.ofNat 0) 0,H,n):=by
 refine Ia (J:=λm st=>∃i a H2 n2,m=ms.length-i/\i<=ms.length/\st=(St.v a,v,.int .i64 (.ofNat ms.length) 0,.int .i64 (.ofNat i) 0,H2,n2)/\Kp H n H2 n2/\(∀H' n',Kp H n H' n'->k (.bool (P9 a (ms.drop i))) H' n')) ?_ (m:=ms.length) ⟨0,a,H,n,rfl,Nat.zero_le _,rfl,Kp.refl _ _,hk⟩
 rintro I m st ⟨i,a,H2,n2,rfl,hi,rfl,f,hk⟩ ih
 show PS lfp G (Runs F G) k I a.v v (.int .i64 (.ofNat ms.length) 0) (.int .i64 (.ofNat i) 0) H2 n2
 delta PS
 by_cases hlt:i<ms.length
 ·obtain⟨q,w,hp,hld,hw⟩:=(h.kp f).at hlt
  have hok:=h.ok _ (List.getElem_mem hlt)
  rw[List.drop_eq_getElem_cons hlt]at hk
  unfold P9 at hk
  generalize ms[i]=m at hok hld hw hk
  have hbig:=h.lt
  unfold ES.cells at hld
  simp only[go_sem,Nat.reduceAdd,Bj,hlt,decide_true,hp,Bl hld]
  have f2:Kp H n (T.set (T.set H2 n2 (one [.str 0 0,.bool false,.Ae,.str 0 0,.bool false])) n2 (one [m.nm.v,.bool m.st,w,m.ret.nm.v,.bool m.ret.arr])) (n2+1):=
   (f.new (m:=n2+1) _ f.le (by omega)).new _ f.le (Nat.le_refl _)
  have hw:=hw.kp (n':=n2+1) (H':=(T.set (T.set H2 n2 (one [.str 0 0,.bool false,.Ae,.str 0 0,.bool false])) n2 (one [m.nm.v,.bool m.st,w,m.ret.nm.v,.bool m.ret.arr]))) (((Kp.refl H2 n2).new (m:=n2+1) _ (Nat.le_refl _) (by omega)).new _ (Nat.le_refl _) (Nat.le_refl _))
  have hg:=T.Ag (T.set H2 n2 (one [.str 0 0,.bool false,.Ae,.str 0 0,.bool false])) n2 (one [m.nm.v,.bool m.st,w,m.ret.nm.v,.bool m.ret.arr])
  generalize T.set (T.set H2 n2 (one [.str 0 0,.bool false,.Ae,.str 0 0,.bool false])) n2 (one [m.nm.v,.bool m.st,w,m.ret.nm.v,.bool m.ret.arr])=H3 at f2 hw hg⊢
  simp only[go_sem,Nat.reduceAdd,AU (off:=0) hg (v:=m.nm.v) rfl,AOt,Yn,IL]
  cases h1:leS m.nm a with
  |true=>
   simp only[go_sem,AU (off:=0) hg (v:=m.nm.v) rfl,Yn,IL]
   rw[h1]at hk
   exact hk _ _ f2
  |false=>
   simp only[go_sem,AU (off:=0) hg (v:=m.nm.v) rfl,Yn,IL]
   rw[h1]at hk
   cases h2:decide (40<m.nm.1)with
   |true=>
    simp only[go_sem]
    rw[h2]at hk
    exact hk _ _ f2
   |false=>
    rw[h2]at hk
    have hl:Af 2 (.ptr n2 3) G H3=some (.agg [m.ret.nm.v,.bool m.ret.arr]):=F8 hg (by omega) (by show 5<=5;omega)
    simp only[go_sem,Nat.reduceAdd,hl]
    refine uf hok.2 λH4 n4 f4=>?_
    simp only[BL,go_sem]
    have f5:=f2.trans f4
    have hw:=hw.kp f4
    have hg:T.get H4 n2=_:=(f4.same n2 (by omega)).trans hg
    show _
    cases h3:kQ m.ret.nm.1 m.ret.nm.2 with
    |false=>
     simp only[Bool.not_false,go_sem]
     rw[show ND m.ret.nm=false from h3]at hk
     exact hk _ _ f5
    |true=>
     rw[show ND m.ret.nm=true from h3]at hk
     simp only[Bool.not_true,go_sem,AU (off:=2) hg (v:=w) rfl,hw.len,IL]
     cases h4:decide (200<m.ps.length)with
     |true=>
      simp only[go_sem]
      rw[h4]at hk
      exact hk _ _ f5
     |false=>
      rw[h4]at hk
      simp only[go_sem,AU (off:=2) hg (v:=w) rfl]
      refine AIc hw.el hw.lo hw.lt hw.ok λH6 n6 f6=>?_
      have hg:T.get H6 n2=_:=(f6.same n2 (by have:=f4.le;omega)).trans hg
      have f7:=f5.trans f6
      cases h5:m.ps.any λt=> !ND t.nm with
      |true=>
       simp only[go_sem]
       rw[h5]at hk
       exact hk _ _ f7
      |false=>
       rw[h5]at hk
       simp only[go_sem,AU (off:=0) hg (v:=m.nm.v) rfl,Dl (show i+1<9223372036854775808 by unfold big at hbig;omega)]
       exact ih _ _ (by omega) ⟨i+1,m.nm,_,_,rfl,hlt,rfl,f7,hk⟩
 ·simp only[go_sem,Bj,hlt,decide_false]
  delta Px
  rw[List.drop_eq_nil_of_le (by omega)]at hk
  exact hk _ _ f
theorem AG9{G:AQ}{v w nm sp:V}{fs:List Fld}{ms:List ES}{ws:List V}{H:Heap}{n b:Nat}{k:KV}(h:UM G H n v fs)(h2:MJ G H n w ms ws){a:St}
 (hb:b<n) (hbx:T.get H b=some (one [nm,sp,v,w]))
 (hk:∀H' n',Kp H n H' n'->k (.bool (qC a fs&&P9 (0,0) ms)) H' n'):
 lfp (V×V×V×V×V×Heap×Nat) (JY lfp G (Runs F G) k) (.ptr b 0,a.v,v,.int .i64 (.ofNat fs.length) 0,.int .i64 (.ofNat 0) 0,H,n):=by
 refine Ia (J:=λm st=>∃i a H2 n2,m=fs.length-i/\i<=fs.length/\st=(.ptr b 0,St.v a,v,.int .i64 (.ofNat fs.length) 0,.int .i64 (.ofNat i) 0,H2,n2)/\Kp H n H2 n2/\(∀H' n',Kp H n H' n'->k (.bool (qC a (fs.drop i)&&P9 (0,0) ms)) H' n')) ?_ (m:=fs.length) ⟨0,a,H,n,rfl,Nat.zero_le _,rfl,Kp.refl _ _,hk⟩
 rintro I m st ⟨i,a,H2,n2,rfl,hi,rfl,f,hk⟩ ih
 show PD lfp G (Runs F G) k I (.ptr b 0) a.v v (.int .i64 (.ofNat fs.length) 0) (.int .i64 (.ofNat i) 0) H2 n2
 delta PD
 by_cases hlt:i<fs.length
 ·obtain⟨q,hp,hld⟩:=(h.kp f).at hlt
  have hok:=h.ok _ (List.getElem_mem hlt)
  rw[List.drop_eq_getElem_cons hlt]at hk
  unfold qC at hk
  generalize fs[i]=m at hok hld hk
  have hbig:=h.lt
  unfold Fld.cells at hld
  simp only[go_sem,Nat.reduceAdd,Bj,hlt,decide_true,hp,Bl hld]
  have f2:Kp H n (T.set (T.set H2 n2 (one [.str 0 0,.str 0 0,.bool false])) n2 (one [m.nm.v,m.ty.nm.v,.bool m.ty.arr])) (n2+1):=
   (f.new (m:=n2+1) _ f.le (by omega)).new _ f.le (Nat.le_refl _)
  have hg:=T.Ag (T.set H2 n2 (one [.str 0 0,.str 0 0,.bool false])) n2 (one [m.nm.v,m.ty.nm.v,.bool m.ty.arr])
  generalize T.set (T.set H2 n2 (one [.str 0 0,.str 0 0,.bool false])) n2 (one [m.nm.v,m.ty.nm.v,.bool m.ty.arr])=H3 at f2 hg⊢
  simp only[go_sem,Nat.reduceAdd,AU (off:=0) hg (v:=m.nm.v) rfl,AOt,Yn,IL]
  cases h1:leS m.nm a with
  |true=>
   simp only[go_sem,AU (off:=0) hg (v:=m.nm.v) rfl,Yn,IL]
   rw[h1]at hk
   exact hk _ _ f2
  |false=>
   simp only[go_sem,AU (off:=0) hg (v:=m.nm.v) rfl,Yn,IL]
   rw[h1]at hk
   cases h2:decide (40<m.nm.1)with
   |true=>
    simp only[go_sem]
    rw[h2]at hk
    exact hk _ _ f2
   |false=>
    rw[h2]at hk
    have hl:Af 2 (.ptr n2 1) G H3=some (.agg [m.ty.nm.v,.bool m.ty.arr]):=F8 hg (by omega) (by show 3<=3;omega)
    simp only[go_sem,Nat.reduceAdd,hl]
    refine uf hok.2 λH4 n4 f4=>?_
    simp only[BL,go_sem]
    have f5:=f2.trans f4
    have hg:T.get H4 n2=_:=(f4.same n2 (by omega)).trans hg
    show _
    cases h3:kQ m.ty.nm.1 m.ty.nm.2 with
    |false=>
     simp only[Bool.not_false,go_sem]
     rw[show ND m.ty.nm=false from h3]at hk
     exact hk _ _ f5
    |true=>
     rw[show ND m.ty.nm=true from h3]at hk
     simp only[Bool.not_true,go_sem,AU (off:=0) hg (v:=m.nm.v) rfl,Dl (show i+1<9223372036854775808 by unfold big at hbig;omega)]
     exact ih _ _ (by omega) ⟨i+1,m.nm,_,_,rfl,hlt,rfl,f5,hk⟩
 ·simp only[go_sem,Bj,hlt,decide_false]
  delta PI
  rw[List.drop_eq_nil_of_le (by omega)]at hk
  have hg:T.get H2 b=_:=(f.same b hb).trans hbx
  have h2:=h2.kp f
  simp only[go_sem,Nat.reduceAdd,AU (off:=3) hg (v:=w) rfl,h2.len']
  exact AEK (a:=(0,0)) h2 λH' n' f'=>hk _ _ (f.trans f')
structure Fc where
 nm:St
 sup:St
 fs:List Fld
 ms:List ES
structure WZ(G:AQ)(H:Heap)(n:Nat)(L:LV)(c:Fc)(v w:V)(ws:List V):Prop where
 is:L=[c.nm.v,c.sup.v,v,w]
 fs:UM G H n v c.fs
 ms:MJ G H n w c.ms ws
 ok:c.nm.ok/\c.sup.ok
theorem WZ.kp{G:AQ}{H H':Heap}{n n':Nat}{L:LV}{c:Fc}{v w:V}{ws:List V}(h:WZ G H n L c v w ws)(f:Kp H n H' n'):WZ G H' n' L c v w ws:=⟨h.is,h.fs.kp f,h.ms.kp f,h.ok⟩
def qg(s:St):Bool:=upper s.1 s.2
def Wh(c:Fc):Bool:=
 qg c.nm&&((decide (c.sup.1=0/\c.sup.2=0)||qg c.sup)&&(!(decide (200<c.fs.length))&&(!(decide (200<c.ms.length))&&(!(decide (40<c.nm.1))&&(!(decide (40<c.sup.1))&&(qC (0,0) c.fs&&P9 (0,0) c.ms))))))
theorem neS(a b:St):Cc (.one .str) true a.v b.v=some (.bool (!decide (a.1=b.1/\a.2=b.2))):=ANZ ..
theorem AEt(s:St):isClass s.1 s.2 false=qg s:=by simp[isClass,qg]
theorem xg{G:AQ}{L:LV}{c:Fc}{v w:V}{ws:List V}{H:Heap}{n:Nat}{k:KV}(h:WZ G H n L c v w ws)
 (hk:∀H' n',Kp H n H' n'->k (.bool (Wh c)) H' n'):Runs F G Uk [.agg L] H n k:=by
 refine BN (s:=KL (LH lfp G)) SA (by obtain⟨h,o⟩:=Xz BO G;rw[SA]at h;cases h;exact o) ?_
 show LH lfp G (Runs F G) (.agg L) H n k
 obtain⟨rfl,hf,hm,hn,hs⟩:=h
 delta LH
 unfold Wh at hk
 simp only[go_sem]
 have f1:Kp H n (T.set H n (one [c.nm.v,c.sup.v,v,w])) (n+1):=(Kp.refl H n).new _ (Nat.le_refl _) (by omega)
 have hg:=T.Ag H n (one [c.nm.v,c.sup.v,v,w])
 generalize T.set H n (one [c.nm.v,c.sup.v,v,w])=H1 at f1 hg⊢
 refine iO λH2 n2 f2=>?_
 refine lU hn λH3 n3 f3=>?_
 rw[AEt,BL]
 have f:=f1.trans (f2.trans f3)
 have hg:T.get H3 n=_:=(f3.same n (by have:=f2.le;omega)).trans ((f2.same n (by omega)).trans hg)
 have hlt:n<n3:=by have:=f2.le;have:=f3.le;omega
 clear f1 f2 f3
 have tail:∀H3 n3,Kp H n H3 n3->n<n3->T.get H3 n=some (one [c.nm.v,c.sup.v,v,w])->
  (∀H' n',Kp H n H' n'->k (.bool (!(decide (200<c.fs.length))&&(!(decide (200<c.ms.length))&&(!(decide (40<c.nm.1))&&(!(decide (40<c.sup.1))&&(qC (0,0) c.fs&&P9 (0,0) c.ms)))))) H' n')->
  (AL (AP 2 (.ptr n 0)) λv18=>
  AL (AY v18 G H3) λv19=>
  AL (lenV v19) λv20=>
  AL (B2.ev .gtr v20 (.int .i64 (.ofNat 200) 0)) λv22=>
  Ak v22 false (AP 3 (.ptr n 0)) λv23=>
  Ak v22 false (AY v23 G H3) λv24=>
  Ak v22 false (lenV v24) λv25=>
  Ak v22 false (B2.ev .gtr v25 (.int .i64 (.ofNat 200) 0)) λv26=>
  AL (Aw v22 (.bool true) v26) λv27=>
  Ak v27 false (AP 0 (.ptr n 0)) λv28=>
  Ak v27 false (AY v28 G H3) λv29=>
  Ak v27 false (P7 v29) λv30=>
  Ak v27 false (B2.ev .gtr v30 (.int .i64 (.ofNat 40) 0)) λv31=>
  AL (Aw v27 (.bool true) v31) λv32=>
  Ak v32 false (AP 1 (.ptr n 0)) λv33=>
  Ak v32 false (AY v33 G H3) λv34=>
  Ak v32 false (P7 v34) λv35=>
  Ak v32 false (B2.ev .gtr v35 (.int .i64 (.ofNat 40) 0)) λv36=>
  AL (Aw v32 (.bool true) v36) λv37=>
  AZ v37 true (k (.bool false) H3 n3) (AL (AP 2 (.ptr n 0)) λv74=>
  AL (AY v74 G H3) λv75=>
  AL (lenV v75) λv76=>
  lfp (V×V×V×V×V×Heap×Nat) (JY lfp G (Runs F G) k) (.ptr n 0,(.str 0 0),v75,v76,(.int .i64 (.ofNat 0) 0),H3,n3))):=by
  intro H3 n3 f hlt hg hk
  have hf:=hf.kp f
  have hm:=hm.kp f
  have e0:AY (.ptr n 0) G H3=some c.nm.v:=AU hg rfl
  have e1:AY (.ptr n 1) G H3=some c.sup.v:=AU hg rfl
  have e2:AY (.ptr n 2) G H3=some v:=AU hg rfl
  have e3:AY (.ptr n 3) G H3=some w:=AU hg rfl
  simp only[go_sem,Nat.reduceAdd,e2,hf.len,IL]
  cases h1:decide (200<c.fs.length)with
  |true=>rw[h1]at hk;simp only[go_sem];exact hk _ _ f
  |false=>
   rw[h1]at hk
   simp only[go_sem,Nat.reduceAdd,e3,hm.len',IL]
   cases h2:decide (200<c.ms.length)with
   |true=>rw[h2]at hk;simp only[go_sem];exact hk _ _ f
   |false=>
    rw[h2]at hk
    simp only[go_sem,Nat.reduceAdd,e0,Yn,IL]
    cases h3:decide (40<c.nm.1)with
    |true=>rw[h3]at hk;simp only[go_sem];exact hk _ _ f
    |false=>
     rw[h3]at hk
     simp only[go_sem,Nat.reduceAdd,e1,Yn,IL]
     cases h4:decide (40<c.sup.1)with
     |true=>rw[h4]at hk;simp only[go_sem];exact hk _ _ f
     |false=>
      rw[h4]at hk
      simp only[go_sem,Nat.reduceAdd,e2,hf.len]
      exact AG9 (a:=(0,0)) hf hm hlt hg λH' n' f'=>hk _ _ (f.trans f')
 cases h1:qg c.nm with
 |false=>
  rw[h1]at hk
  simp only[Bool.not_false,go_sem]
  exact hk _ _ f
 |true=>
  rw[h1]at hk
  have e1:AY (.ptr n 1) G H3=some c.sup.v:=AU hg rfl
  have e:=neS c.sup (0,0)
  unfold St.v at e
  simp only[Bool.not_true,go_sem,Nat.reduceAdd,e1]
  rw[show Cc (.one .str) true c.sup.v (.str 0 0)=_ from neS c.sup (0,0)]
  cases h2:decide (c.sup.1=0/\c.sup.2=0)with
  |true=>
   rw[h2]at hk
   simp only[Bool.not_true,go_sem]
   exact tail _ _ f hlt hg hk
  |false=>
   rw[h2]at hk
   simp only[Bool.not_false,go_sem,Nat.reduceAdd,e1]
   refine iO λH4 n4 f4=>?_
   refine lU hs λH5 n5 f5=>?_
   rw[AEt,BL]
   have f':=f.trans (f4.trans f5)
   have hg:T.get H5 n=_:=(f5.same n (by have:=f4.le;omega)).trans ((f4.same n (by omega)).trans hg)
   cases h3:qg c.sup with
   |false=>
    rw[h3]at hk
    simp only[Bool.not_false,go_sem]
    exact hk _ _ f'
   |true=>
    rw[h3]at hk
    simp only[Bool.not_true,go_sem]
    exact tail _ _ f' (by have:=f4.le;have:=f5.le;omega) hg hk
theorem ALN{e c:Nat}{t:T LV}{i:Nat}{L:LV}(he:0<e)(hi:i<c)(ht:T.get t i=some L)(hL:L.length=e):ldB e c t (i*e) e=some L:=by
 unfold ldB
 have hdiv:i*e/e=i:=Nat.mul_div_cancel _ he
 have hmod:i*e%e=0:=Nat.mul_mod_left ..
 have hb:Nat.blt (Nat.div (i*e) e) c=true:=by rw[Nat.blt_eq];show i*e/e<c;omega
 rw[hb]
 show BH (T.get t (Nat.div (i*e) e)) (ldC e (i*e) e)=_
 rw[show Nat.div (i*e) e=i from hdiv,ht,Us]
 have h1:=AGu (H:=T.set .e 0 (one L)) (id:=0) (L:=L) (off:=0) (m:=e) (T.Ag ..) he (by omega)
 unfold Zz at h1
 rw[T.Ag]at h1
 have h2:ldB L.length 1 (T.set .e 0 L) 0 e=some ((L.drop 0).take e):=h1
 unfold ldB at h2
 rw[show Nat.blt (Nat.div 0 L.length) 1=true by rw[Nat.blt_eq];show 0/L.length<1;simp]at h2
 have h3:BH (T.get (T.set T.e 0 L) (Nat.div 0 L.length)) (ldC L.length 0 e)=some ((L.drop 0).take e):=h2
 rw[show Nat.div 0 L.length=0 from Nat.zero_div _,T.Ag,Us]at h3
 rw[List.drop_zero,List.take_of_length_le (by omega),hL]at h3
 have:ldC e (i*e) e L=ldC e 0 e L:=by
  unfold ldC
  rw[show Nat.mod (i*e) e=0 from hmod,show Nat.mod 0 e=0 from Nat.zero_mod _]
 rw[this];exact h3
theorem vg{z:Nat}{Z L:LV}{H:Heap}{n:Nat}{P:KV}(hL:L.length=z):
 Bo (BF z 1 Z [(0,.c (.agg L))] E0) H n P=P (.sl n 0 1 1 z) (T.set H n (.arr z 1 (T.set (T.set .e 0 Z) 0 L))) (n+1):=by
 subst hL
 show Lc (band (band true (band true (Nat.beq (len L) L.length))) true) (DU n λn=>P (.sl n 0 1 1 L.length) (T.set H n (.arr L.length 1 (T.set (T.set .e 0 Z) 0 L))) (Nat.succ n))=_
 rw[len_eq,BK]
 have hb:band (band true (band true (Nat.beq L.length L.length))) true=true:=by simp
 rw[hb];rfl
theorem cZ{G:AQ}{H:Heap}{n z:Nat}{Z L:LV}(hz:0<z)(hL:L.length=z)(h:T.get H n=some (.arr z 1 (T.set (T.set .e 0 Z) 0 L))):El G H (.sl n 0 1 1 z) z [L]:=by
 refine⟨rfl,?_⟩
 show(Bool.rec (motive:=λ_=>Option EW) none (BH (Zz H n (0*z) z) λL=>BH (some []) λLS=>some (L::LS)) (Nat.beq z z):Option EW)=_
 have hl:Zz H n (0*z) z=some L:=by
  unfold Zz;rw[h]
  exact ALN hz (by omega) (by rw[T.Ag]) hL
 rw[hl,show Nat.beq z z=true by simp]
 rfl
theorem AQb{Z a b c d e:V}{H:Heap}{n:Nat}{P:KV}(h:∀v∈[a,b,c,d,e],YH v=true/\Az v=[v]):
 Bo (BF 1 5 [Z] [(0,.c a),(1,.c b),(2,.c c),(3,.c d),(4,.c e)] E0) H n P=
 P (.sl n 0 5 5 1) (T.set H n (.arr 1 5 (T.set (T.set (T.set (T.set (T.set (uM [Z] 5 .e) 0 [a]) 1 [b]) 2 [c]) 3 [d]) 4 [e]))) (n+1):=by
 obtain⟨ha,hb,hc,hd,he,-⟩:(YH a=true/\Az a=[a])/\(YH b=true/\Az b=[b])/\(YH c=true/\Az c=[c])/\(YH d=true/\Az d=[d])/\(YH e=true/\Az e=[e])/\True:=by simpa using h
 show Lc (band (band (YH a) (band (Nat.blt 0 5) (Nat.beq (len (Az a)) 1))) (band (band (YH b) (band (Nat.blt 1 5) (Nat.beq (len (Az b)) 1))) (band (band (YH c) (band (Nat.blt 2 5) (Nat.beq (len (Az c)) 1))) (band (band (YH d) (band (Nat.blt 3 5) (Nat.beq (len (Az d)) 1))) (band (band (YH e) (band (Nat.blt 4 5) (Nat.beq (len (Az e)) 1))) true)))))
  (DU n λn=>P (.sl n 0 5 5 1) (T.set H n (.arr 1 5 (T.set (T.set (T.set (T.set (T.set (uM [Z] 5 .e) 0 (Az a)) 1 (Az b)) 2 (Az c)) 3 (Az d)) 4 (Az e)))) (Nat.succ n))=_
 rw[ha.1,ha.2,hb.1,hb.2,hc.1,hc.2,hd.1,hd.2,he.1,he.2,BK]
 rfl
theorem ANm{G:AQ}{H:Heap}{n:Nat}{Z a b c d e:V}(h:T.get H n=some (.arr 1 5 (T.set (T.set (T.set (T.set (T.set (uM [Z] 5 .e) 0 [a]) 1 [b]) 2 [c]) 3 [d]) 4 [e]))):
 El G H (.sl n 0 5 5 1) 1 [[a],[b],[c],[d],[e]]:=by
 refine⟨rfl,?_⟩
 show BH (Zz H n (0*1) 1) (λL=>BH (BH (Zz H n (1*1) 1) λL=>BH (BH (Zz H n (2*1) 1) λL=>BH (BH (Zz H n (3*1) 1) λL=>BH (BH (Zz H n (4*1) 1) λL=>BH (some []) λLS=>some (L::LS)) λLS=>some (L::LS)) λLS=>some (L::LS)) λLS=>some (L::LS)) λLS=>some (L::LS))=_
 have hl:∀i v,i<5->T.get (T.set (T.set (T.set (T.set (T.set (uM [Z] 5 .e) 0 [a]) 1 [b]) 2 [c]) 3 [d]) 4 [e]) i=some [v]->Zz H n (i*1) 1=some [v]:=by
  intro i v hi hv
  unfold Zz;rw[h]
  exact ALN (by omega) hi hv rfl
 rw[hl 0 a (by omega) rfl,hl 1 b (by omega) rfl,hl 2 c (by omega) rfl,hl 3 d (by omega) rfl,hl 4 e (by omega) rfl]
 rfl
def ACU(m:ES):Bool:=P9 (0,0) [m]
theorem AHM(m:ES):Wh ⟨(1,65),(0,0),[],[m]⟩=ACU m:=by
 simp[Wh,ACU,qg,upper,qC]
theorem ARi{G:AQ}{m:ES}{w:V}{H:Heap}{n:Nat}{k:KV}(hw:L6 G H n w m.ps)(hm:m.nm.ok/\m.ret.nm.ok)
 (hk:∀H' n',Kp H n H' n'->k (.bool (ACU m)) H' n'):Runs F G xk [.agg (m.cells w)] H n k:=by
 refine BN (s:=KL (Vz lfp G)) eG (by obtain⟨h,o⟩:=rE BO G;rw[eG]at h;cases h;exact o) ?_
 show Vz lfp G (Runs F G) (.agg (m.cells w)) H n k
 delta Vz
 have f1:Kp H n (T.set H n (one (m.cells w))) (n+1):=(Kp.refl H n).new _ (Nat.le_refl _) (by omega)
 have hl:Af 5 (.ptr n 0) G (T.set H n (one (m.cells w)))=some (.agg (m.cells w)):=WC rfl (by omega)
 simp only[go_sem,Nat.reduceAdd,hl,vg (z:=5) (L:=m.cells w) rfl]
 generalize T.set H n (one (m.cells w))=H1 at f1⊢
 have f2:=f1.new (m:=n+1+1) (.arr 5 1 (T.set (T.set .e 0 [.str 0 0,.bool false,.Ae,.str 0 0,.bool false]) 0 (m.cells w))) (id:=n+1) (by omega) (by omega)
 have hg:=T.Ag H1 (n+1) (.arr 5 1 (T.set (T.set .e 0 [.str 0 0,.bool false,.Ae,.str 0 0,.bool false]) 0 (m.cells w)))
 generalize T.set H1 (n+1) (.arr 5 1 (T.set (T.set .e 0 [.str 0 0,.bool false,.Ae,.str 0 0,.bool false]) 0 (m.cells w)))=H2 at f2 hg⊢
 rw[show BX [.str 0 0,.str 0 0,.Ae,.Ae] [(0,1,.c (.str 1 65)),(3,1,.c (.sl (n+1) 0 1 1 5))]=some (.agg [.str 1 65,.str 0 0,.Ae,.sl (n+1) 0 1 1 5])from rfl,AV]
 refine xg (c:=⟨(1,65),(0,0),[],[m]⟩) (v:=.Ae) (w:=.sl (n+1) 0 1 1 5) (ws:=[w]) ⟨rfl,⟨⟨rfl,rfl⟩,(λid h=>by cases h),(by show 0<big;decide),(λf h=>by cases h)⟩,⟨cZ (by omega) rfl hg,(λid h=>by cases h;omega),(by show 1<big;decide),rfl,?_,?_⟩,?_⟩ λH' n' f=>?_
 ·intro i m' w' h1 h2
  cases i with
  |zero=>simp at h1 h2;subst h1 h2;exact hw.kp f2
  |succ i=>simp at h1
 ·intro m' h;simp at h;subst h;exact hm
 ·exact⟨(λh=>by cases h),(λh=>rfl)⟩
 ·rw[AHM]
  exact hk _ _ (f2.trans f)
structure PF where
 f:Fld
 own:St
structure PM where
 m:ES
 own:St
def PF.cells(p:PF):LV:=[p.f.nm.v,p.f.ty.nm.v,.bool p.f.ty.arr,p.own.v]
def PM.cells(p:PM)(w:V):LV:=[p.m.nm.v,.bool p.m.st,w,p.m.ret.nm.v,.bool p.m.ret.arr,p.own.v]
structure Pool where
 nums:List Int
 names:List St
 types:List Ty
 fields:List PF
 Bv:List PM
structure IG(G:AQ)(H:Heap)(n:Nat)(p:Pool)(v0 v1 v2 v3 v4:V)(ws:List V):Prop where
 e0:El G H v0 1 (p.nums.map λa=>[.int .i64 a 0])
 l0:Lo v0 n
 b0:p.nums.length<big
 e1:El G H v1 1 (strs p.names)
 l1:Lo v1 n
 b1:p.names.length<big
 o1:∀s∈p.names,s.ok
 t2:L6 G H n v2 p.types
 e3:El G H v3 4 (p.fields.map PF.cells)
 l3:Lo v3 n
 b3:p.fields.length<big
 o3:∀f∈p.fields,f.f.nm.ok/\f.f.ty.nm.ok/\f.own.ok
 e4:El G H v4 6 (List.zipWith PM.cells p.Bv ws)
 l4:Lo v4 n
 b4:p.Bv.length<big
 vJ:ws.length=p.Bv.length
 at4:∀(i:Nat) (m:PM) (w:V),p.Bv[i]? =some m->ws[i]? =some w->L6 G H n w m.m.ps
 o4:∀m∈p.Bv,m.m.nm.ok/\m.m.ret.nm.ok/\m.own.ok
theorem IG.kp{G:AQ}{H H':Heap}{n n':Nat}{p:Pool}{v0 v1 v2 v3 v4:V}{ws:List V}(h:IG G H n p v0 v1 v2 v3 v4 ws)(f:Kp H n H' n'):IG G H' n' p v0 v1 v2 v3 v4 ws:=
 ⟨h.e0.kp h.l0 f,h.l0.mono f.le,h.b0,h.e1.kp h.l1 f,h.l1.mono f.le,h.b1,h.o1,h.t2.kp f,h.e3.kp h.l3 f,h.l3.mono f.le,h.b3,h.o3,h.e4.kp h.l4 f,h.l4.mono f.le,h.b4,h.vJ,
  λi m w a b=>(h.at4 i m w a b).kp f,h.o4⟩
def YC(s:St):Bool:=upper s.1 s.2&&decide (s.1<=40)
def ABn(p:PM):Bool:=YC p.own&&ACU p.m
def AFd(p:PF):Bool:=YC p.own&&(!decide (p.f.nm.1=0/\p.f.nm.2=0)&&(!decide (40<p.f.nm.1)&&ND p.f.ty.nm))
theorem AFT{G:AQ}{p:Pool}{v0 v1 v2 v3 v4:V}{ws:List V}{H:Heap}{n:Nat}{k:KV}(h:IG G H n p v0 v1 v2 v3 v4 ws)
 (hk:∀H' n',Kp H n H' n'->k (.bool (p.Bv.all ABn)) H' n'):
 lfp (V×V×V×Heap×Nat) (NK lfp G (Runs F G) k) (v4,.int .i64 (.ofNat p.Bv.length) 0,.int .i64 (.ofNat 0) 0,H,n):=by
 refine Ia (J:=λm st=>∃i H2 n2,m=p.Bv.length-i/\i<=p.Bv.length/\st=(v4,.int .i64 (.ofNat p.Bv.length) 0,.int .i64 (.ofNat i) 0,H2,n2)/\Kp H n H2 n2/\(∀H' n',Kp H n H' n'->k (.bool ((p.Bv.drop i).all ABn)) H' n')) ?_ (m:=p.Bv.length) ⟨0,H,n,rfl,Nat.zero_le _,rfl,Kp.refl _ _,hk⟩
 rintro I m st ⟨i,H2,n2,rfl,hi,rfl,f,hk⟩ ih
 show Ny lfp G (Runs F G) k I v4 (.int .i64 (.ofNat p.Bv.length) 0) (.int .i64 (.ofNat i) 0) H2 n2
 delta Ny
 by_cases hlt:i<p.Bv.length
 ·have hw:i<ws.length:=by rw[h.vJ];exact hlt
  have h':=h.kp f
  obtain⟨q,hp,hld⟩:=h'.e4.at (i:=i) (c:=p.Bv[i].cells ws[i]) (by rw[List.getElem?_zipWith];simp[hlt,hw])
  have hty:=h'.at4 i _ _ (List.getElem?_eq_getElem hlt) (List.getElem?_eq_getElem hw)
  have hok:=h.o4 _ (List.getElem_mem hlt)
  have hbig:=h.b4
  rw[List.drop_eq_getElem_cons hlt,List.all_cons]at hk
  generalize p.Bv[i]=m at hok hld hty hk
  generalize ws[i]=w at hld hty
  unfold PM.cells at hld
  simp only[go_sem,Nat.reduceAdd,Bj,hlt,decide_true,hp,Bl hld]
  have f2:Kp H2 n2 (T.set (T.set H2 n2 (one [.str 0 0,.bool false,.Ae,.str 0 0,.bool false,.str 0 0])) n2 (one [m.m.nm.v,.bool m.m.st,w,m.m.ret.nm.v,.bool m.m.ret.arr,m.own.v])) (n2+1):=
   ((Kp.refl _ _).new (m:=n2+1) _ (Nat.le_refl _) (by omega)).new _ (Nat.le_refl _) (Nat.le_refl _)
  have hg:=T.Ag (T.set H2 n2 (one [.str 0 0,.bool false,.Ae,.str 0 0,.bool false,.str 0 0])) n2 (one [m.m.nm.v,.bool m.m.st,w,m.m.ret.nm.v,.bool m.m.ret.arr,m.own.v])
  generalize T.set (T.set H2 n2 (one [.str 0 0,.bool false,.Ae,.str 0 0,.bool false,.str 0 0])) n2 (one [m.m.nm.v,.bool m.m.st,w,m.m.ret.nm.v,.bool m.m.ret.arr,m.own.v])=H3 at f2 hg⊢
  refine ADk hok.2.2 λH4 n4 f4=>?_
  rw[BL,show(upper m.own.1 m.own.2&&decide (m.own.1<=40))=YC m.own from rfl]
  have hg:T.get H4 n2=_:=(f4.same n2 (by omega)).trans hg
  unfold ABn at hk
  cases h1:YC m.own with
  |false=>
   rw[h1]at hk
   simp only[Bool.not_false,go_sem]
   exact hk _ _ (f.trans (f2.trans f4))
  |true=>
   rw[h1]at hk
   have hl:Af 5 (.ptr n2 0) G H4=some (.agg (m.m.cells w)):=F8 hg (by omega) (by show 5<=6;omega)
   simp only[Bool.not_true,go_sem,Nat.reduceAdd,hl]
   refine ARi (hty.kp (f2.trans f4)) ⟨hok.1,hok.2.1⟩ λH5 n5 f5=>?_
   have f6:=f.trans ((f2.trans f4).trans f5)
   simp only[BL,go_sem]
   cases h2:ACU m.m with
   |false=>
    rw[h2]at hk
    simp only[Bool.not_false,go_sem]
    exact hk _ _ f6
   |true=>
    rw[h2]at hk
    simp only[Bool.not_true,go_sem,Dl (show i+1<9223372036854775808 by unfold big at hbig;omega)]
    exact ih _ _ (by omega) ⟨i+1,_,_,rfl,hlt,rfl,f6,hk⟩
 ·simp only[go_sem,Bj,hlt,decide_false]
  delta PZ
  rw[List.drop_eq_nil_of_le (by omega)]at hk
  exact hk _ _ f
theorem eqS(a b:St):Cc (.one .str) false a.v b.v=some (.bool (decide (a.1=b.1/\a.2=b.2))):=yL ..
theorem ADK{G:AQ}{p:Pool}{v0 v1 v2 v3 v4:V}{ws:List V}{H:Heap}{n b:Nat}{k:KV}(h:IG G H n p v0 v1 v2 v3 v4 ws)(hb:b<n)(hbx:T.get H b=some (one [v0,v1,v2,v3,v4]))
 (hk:∀H' n',Kp H n H' n'->k (.bool (p.fields.all AFd&&p.Bv.all ABn)) H' n'):
 lfp (V×V×V×V×Heap×Nat) (Nb lfp G (Runs F G) k) (.ptr b 0,v3,.int .i64 (.ofNat p.fields.length) 0,.int .i64 (.ofNat 0) 0,H,n):=by
 refine Ia (J:=λm st=>∃i H2 n2,m=p.fields.length-i/\i<=p.fields.length/\st=(.ptr b 0,v3,.int .i64 (.ofNat p.fields.length) 0,.int .i64 (.ofNat i) 0,H2,n2)/\Kp H n H2 n2/\(∀H' n',Kp H n H' n'->k (.bool ((p.fields.drop i).all AFd&&p.Bv.all ABn)) H' n')) ?_ (m:=p.fields.length) ⟨0,H,n,rfl,Nat.zero_le _,rfl,Kp.refl _ _,hk⟩
 rintro I m st ⟨i,H2,n2,rfl,hi,rfl,f,hk⟩ ih
 show OQ lfp G (Runs F G) k I (.ptr b 0) v3 (.int .i64 (.ofNat p.fields.length) 0) (.int .i64 (.ofNat i) 0) H2 n2
 delta OQ
 have h':=h.kp f
 by_cases hlt:i<p.fields.length
 ·obtain⟨q,hp,hld⟩:=h'.e3.at (i:=i) (c:=p.fields[i].cells) (by simp[hlt])
  have hok:=h.o3 _ (List.getElem_mem hlt)
  have hbig:=h.b3
  rw[List.drop_eq_getElem_cons hlt,List.all_cons]at hk
  generalize p.fields[i]=m at hok hld hk
  unfold PF.cells at hld
  simp only[go_sem,Nat.reduceAdd,Bj,hlt,decide_true,hp,Bl hld]
  have f2:Kp H2 n2 (T.set (T.set H2 n2 (one [.str 0 0,.str 0 0,.bool false,.str 0 0])) n2 (one [m.f.nm.v,m.f.ty.nm.v,.bool m.f.ty.arr,m.own.v])) (n2+1):=
   ((Kp.refl _ _).new (m:=n2+1) _ (Nat.le_refl _) (by omega)).new _ (Nat.le_refl _) (Nat.le_refl _)
  have hg:=T.Ag (T.set H2 n2 (one [.str 0 0,.str 0 0,.bool false,.str 0 0])) n2 (one [m.f.nm.v,m.f.ty.nm.v,.bool m.f.ty.arr,m.own.v])
  generalize T.set (T.set H2 n2 (one [.str 0 0,.str 0 0,.bool false,.str 0 0])) n2 (one [m.f.nm.v,m.f.ty.nm.v,.bool m.f.ty.arr,m.own.v])=H3 at f2 hg⊢
  refine ADk hok.2.2 λH4 n4 f4=>?_
  rw[BL,show(upper m.own.1 m.own.2&&decide (m.own.1<=40))=YC m.own from rfl]
  have hg:T.get H4 n2=_:=(f4.same n2 (by omega)).trans hg
  have e0:AY (.ptr n2 0) G H4=some m.f.nm.v:=AU hg rfl
  have f6:=f.trans (f2.trans f4)
  unfold AFd at hk
  cases h1:YC m.own with
  |false=>
   rw[h1]at hk
   simp only[Bool.not_false,go_sem]
   exact hk _ _ f6
  |true=>
   rw[h1]at hk
   simp only[Bool.not_true,go_sem,Nat.reduceAdd,e0]
   rw[show Cc (.one .str) false m.f.nm.v (.str 0 0)=_ from eqS m.f.nm (0,0)]
   cases h2:decide (m.f.nm.1=0/\m.f.nm.2=0)with
   |true=>
    rw[h2]at hk
    simp only[go_sem]
    exact hk _ _ f6
   |false=>
    rw[h2]at hk
    simp only[go_sem,Nat.reduceAdd,e0,Yn,IL]
    cases h3:decide (40<m.f.nm.1)with
    |true=>
     rw[h3]at hk
     simp only[go_sem]
     exact hk _ _ f6
    |false=>
     rw[h3]at hk
     have hl:Af 2 (.ptr n2 1) G H4=some (.agg [m.f.ty.nm.v,.bool m.f.ty.arr]):=F8 hg (by omega) (by show 3<=4;omega)
     simp only[go_sem,Nat.reduceAdd,hl]
     refine uf hok.2.1 λH5 n5 f5=>?_
     have f7:=f6.trans f5
     simp only[BL,go_sem]
     show _
     cases h4:kQ m.f.ty.nm.1 m.f.ty.nm.2 with
     |false=>
      rw[show ND m.f.ty.nm=false from h4]at hk
      simp only[Bool.not_false,go_sem]
      exact hk _ _ f7
     |true=>
      rw[show ND m.f.ty.nm=true from h4]at hk
      simp only[Bool.not_true,go_sem,Dl (show i+1<9223372036854775808 by unfold big at hbig;omega)]
      exact ih _ _ (by omega) ⟨i+1,_,_,rfl,hlt,rfl,f7,hk⟩
 ·simp only[go_sem,Bj,hlt,decide_false]
  delta PV
  rw[List.drop_eq_nil_of_le (by omega)]at hk
  have hg:T.get H2 b=_:=(f.same b hb).trans hbx
  have hl:lenV v4=some (.int .i64 (.ofNat p.Bv.length) 0):=by rw[h.e4.len,List.length_zipWith,h.vJ,Nat.min_self]
  simp only[go_sem,Nat.reduceAdd,AU (off:=4) hg (v:=v4) rfl,hl]
  exact AFT h' λH' n' f'=>hk _ _ (f.trans f')
theorem AFj{G:AQ}{p:Pool}{v0 v1 v2 v3 v4:V}{ws:List V}{H:Heap}{n b:Nat}{k:KV}(h:IG G H n p v0 v1 v2 v3 v4 ws)(hb:b<n)(hbx:T.get H b=some (one [v0,v1,v2,v3,v4]))
 (hk:∀H' n',Kp H n H' n'->k (.bool ((p.types.all λt=>ND t.nm)&&(p.fields.all AFd&&p.Bv.all ABn))) H' n'):
 lfp (V×V×V×V×Heap×Nat) (Nh lfp G (Runs F G) k) (.ptr b 0,v2,.int .i64 (.ofNat p.types.length) 0,.int .i64 (.ofNat 0) 0,H,n):=by
 refine Ia (J:=λm st=>∃i H2 n2,m=p.types.length-i/\i<=p.types.length/\st=(.ptr b 0,v2,.int .i64 (.ofNat p.types.length) 0,.int .i64 (.ofNat i) 0,H2,n2)/\Kp H n H2 n2/\(∀H' n',Kp H n H' n'->k (.bool (((p.types.drop i).all λt=>ND t.nm)&&(p.fields.all AFd&&p.Bv.all ABn))) H' n')) ?_ (m:=p.types.length) ⟨0,H,n,rfl,Nat.zero_le _,rfl,Kp.refl _ _,hk⟩
 rintro I m st ⟨i,H2,n2,rfl,hi,rfl,f,hk⟩ ih
 show Nr lfp G (Runs F G) k I (.ptr b 0) v2 (.int .i64 (.ofNat p.types.length) 0) (.int .i64 (.ofNat i) 0) H2 n2
 delta Nr
 have h':=h.kp f
 by_cases hlt:i<p.types.length
 ·obtain⟨q,hp,hld⟩:=h'.t2.el.at (NT hlt)
  have hok:=h.t2.ok _ (List.getElem_mem hlt)
  have hbig:=h.t2.lt
  rw[List.drop_eq_getElem_cons hlt,List.all_cons]at hk
  generalize p.types[i]=m at hok hld hk
  unfold Ty.cells at hld
  simp only[go_sem,Nat.reduceAdd,Bj,hlt,decide_true,hp,Bl hld]
  have f2:Kp H2 n2 (T.set (T.set H2 n2 (one [.str 0 0,.bool false])) n2 (one [m.nm.v,.bool m.arr])) (n2+1):=
   ((Kp.refl _ _).new (m:=n2+1) _ (Nat.le_refl _) (by omega)).new _ (Nat.le_refl _) (Nat.le_refl _)
  refine uf hok λH5 n5 f5=>?_
  have f7:=f.trans (f2.trans f5)
  simp only[BL,go_sem]
  show _
  cases h4:kQ m.nm.1 m.nm.2 with
  |false=>
   rw[show ND m.nm=false from h4]at hk
   simp only[Bool.not_false,go_sem]
   exact hk _ _ f7
  |true=>
   rw[show ND m.nm=true from h4]at hk
   simp only[Bool.not_true,go_sem,Dl (show i+1<9223372036854775808 by unfold big at hbig;omega)]
   exact ih _ _ (by omega) ⟨i+1,_,_,rfl,hlt,rfl,f7,hk⟩
 ·simp only[go_sem,Bj,hlt,decide_false]
  delta Pg
  rw[List.drop_eq_nil_of_le (by omega)]at hk
  have hg:T.get H2 b=_:=(f.same b hb).trans hbx
  have hl:lenV v3=some (.int .i64 (.ofNat p.fields.length) 0):=by rw[h.e3.len,List.length_map]
  simp only[go_sem,Nat.reduceAdd,AU (off:=3) hg (v:=v3) rfl,hl]
  exact ADK h' (Nat.lt_of_lt_of_le hb f.le) hg λH' n' f'=>hk _ _ (f.trans f')
def jr(p:Pool):Bool:=p.names.all YC&&((p.types.all λt=>ND t.nm)&&(p.fields.all AFd&&p.Bv.all ABn))
theorem AEW{G:AQ}{p:Pool}{v0 v1 v2 v3 v4:V}{ws:List V}{H:Heap}{n b:Nat}{k:KV}(h:IG G H n p v0 v1 v2 v3 v4 ws)(hb:b<n)(hbx:T.get H b=some (one [v0,v1,v2,v3,v4]))
 (hk:∀H' n',Kp H n H' n'->k (.bool (jr p)) H' n'):
 lfp (V×V×V×V×Heap×Nat) (MW lfp G (Runs F G) k) (.ptr b 0,v1,.int .i64 (.ofNat p.names.length) 0,.int .i64 (.ofNat 0) 0,H,n):=by
 refine Ia (J:=λm st=>∃i H2 n2,m=p.names.length-i/\i<=p.names.length/\st=(.ptr b 0,v1,.int .i64 (.ofNat p.names.length) 0,.int .i64 (.ofNat i) 0,H2,n2)/\Kp H n H2 n2/\(∀H' n',Kp H n H' n'->k (.bool ((p.names.drop i).all YC&&((p.types.all λt=>ND t.nm)&&(p.fields.all AFd&&p.Bv.all ABn)))) H' n')) ?_ (m:=p.names.length) ⟨0,H,n,rfl,Nat.zero_le _,rfl,Kp.refl _ _,hk⟩
 rintro I m st ⟨i,H2,n2,rfl,hi,rfl,f,hk⟩ ih
 show OZ lfp G (Runs F G) k I (.ptr b 0) v1 (.int .i64 (.ofNat p.names.length) 0) (.int .i64 (.ofNat i) 0) H2 n2
 delta OZ
 have h':=h.kp f
 by_cases hlt:i<p.names.length
 ·obtain⟨q,hp,hld⟩:=h'.e1.at (Ro hlt)
  have hok:=h.o1 _ (List.getElem_mem hlt)
  have hbig:=h.b1
  rw[List.drop_eq_getElem_cons hlt,List.all_cons]at hk
  generalize p.names[i]=m at hok hld hk
  simp only[go_sem,Nat.reduceAdd,Bj,hlt,decide_true,hp,QL hld]
  refine ADk hok λH5 n5 f5=>?_
  rw[BL,show(upper m.1 m.2&&decide (m.1<=40))=YC m from rfl]
  have f7:=f.trans f5
  cases h4:YC m with
  |false=>
   rw[h4]at hk
   simp only[Bool.not_false,go_sem]
   exact hk _ _ f7
  |true=>
   rw[h4]at hk
   simp only[Bool.not_true,go_sem,Dl (show i+1<9223372036854775808 by unfold big at hbig;omega)]
   exact ih _ _ (by omega) ⟨i+1,_,_,rfl,hlt,rfl,f7,hk⟩
 ·simp only[go_sem,Bj,hlt,decide_false]
  delta PE
  rw[List.drop_eq_nil_of_le (by omega)]at hk
  have hg:T.get H2 b=_:=(f.same b hb).trans hbx
  simp only[go_sem,Nat.reduceAdd,AU (off:=2) hg (v:=v2) rfl,h'.t2.len]
  exact AFj h' (Nat.lt_of_lt_of_le hb f.le) hg λH' n' f'=>hk _ _ (f.trans f')
def cnts(p:Pool):List Nat:=[p.nums.length,p.names.length,p.types.length,p.fields.length,p.Bv.length]
theorem AGY{G:AQ}{p:Pool}{v v0 v1 v2 v3 v4:V}{ws:List V}{H:Heap}{n b:Nat}{k:KV}(h:IG G H n p v0 v1 v2 v3 v4 ws)(hb:b<n)(hbx:T.get H b=some (one [v0,v1,v2,v3,v4]))
 {xs:List Nat} (hv:El G H v 1 (xs.map λ(a:Nat)=>[V.int .i64 (.ofNat a) 0])) (hx:xs.length<big)
 (hk:∀H' n',Kp H n H' n'->k (.bool ((xs.all λa=> !decide (16384<a))&&jr p)) H' n'):
 lfp (V×V×V×V×Heap×Nat) (Mc lfp G (Runs F G) k) (.ptr b 0,v,.int .i64 (.ofNat xs.length) 0,.int .i64 (.ofNat 0) 0,H,n):=by
 refine Ia (J:=λm st=>∃i,m=xs.length-i/\i<=xs.length/\st=(.ptr b 0,v,.int .i64 (.ofNat xs.length) 0,.int .i64 (.ofNat i) 0,H,n)/\(∀H' n',Kp H n H' n'->k (.bool (((xs.drop i).all λa=> !decide (16384<a))&&jr p)) H' n')) ?_ (m:=xs.length) ⟨0,rfl,Nat.zero_le _,rfl,hk⟩
 rintro I m st ⟨i,rfl,hi,rfl,hk⟩ ih
 show OE lfp G (Runs F G) k I (.ptr b 0) v (.int .i64 (.ofNat xs.length) 0) (.int .i64 (.ofNat i) 0) H n
 delta OE
 by_cases hlt:i<xs.length
 ·obtain⟨q,hp,hld⟩:=hv.at (i:=i) (c:=[V.int .i64 (.ofNat xs[i]) 0]) (by simp[hlt])
  rw[List.drop_eq_getElem_cons hlt,List.all_cons]at hk
  generalize xs[i]=m at hld hk
  simp only[go_sem,Nat.reduceAdd,Bj,hlt,decide_true,hp,QL hld,IL]
  cases h4:decide (16384<m)with
  |true=>
   rw[h4]at hk
   simp only[go_sem]
   exact hk _ _ (Kp.refl _ _)
  |false=>
   rw[h4]at hk
   simp only[go_sem,Dl (show i+1<9223372036854775808 by unfold big at hx;omega)]
   exact ih _ _ (by omega) ⟨i+1,rfl,hlt,rfl,hk⟩
 ·simp only[go_sem,Bj,hlt,decide_false]
  delta PX
  rw[List.drop_eq_nil_of_le (by omega)]at hk
  have hl:lenV v1=some (.int .i64 (.ofNat p.names.length) 0):=by rw[h.e1.len,JE]
  simp only[go_sem,Nat.reduceAdd,AU (off:=1) hbx (v:=v1) rfl,hl]
  exact AEW h hb hbx hk
def AD4(p:Pool):Bool:=(cnts p).all (λa=> !decide (16384<a))&&jr p
theorem AEI{G:AQ}{p:Pool}{v0 v1 v2 v3 v4:V}{ws:List V}{H:Heap}{n:Nat}{k:KV}(h:IG G H n p v0 v1 v2 v3 v4 ws)
 (hk:∀H' n',Kp H n H' n'->k (.bool (AD4 p)) H' n'):Runs F G Xt [.agg [v0,v1,v2,v3,v4]] H n k:=by
 refine BN (s:=KL (Jv lfp G)) RH (by obtain⟨h,o⟩:=XJ BO G;rw[RH]at h;cases h;exact o) ?_
 show Jv lfp G (Runs F G) (.agg [v0,v1,v2,v3,v4]) H n k
 delta Jv
 have l0:lenV v0=some (.int .i64 (.ofNat p.nums.length) 0):=by rw[h.e0.len,List.length_map]
 have l1:lenV v1=some (.int .i64 (.ofNat p.names.length) 0):=by rw[h.e1.len,JE]
 have l3:lenV v3=some (.int .i64 (.ofNat p.fields.length) 0):=by rw[h.e3.len,List.length_map]
 have l4:lenV v4=some (.int .i64 (.ofNat p.Bv.length) 0):=by rw[h.e4.len,List.length_zipWith,h.vJ,Nat.min_self]
 simp only[go_sem,Nat.reduceAdd,l0,l1,h.t2.len,l3,l4]
 rw[AQb (by intro v hv;simp at hv;rcases hv with rfl|rfl|rfl|rfl|rfl<;>exact⟨rfl,rfl⟩)]
 have f1:Kp H n (T.set H n (one [v0,v1,v2,v3,v4])) (n+1):=(Kp.refl H n).new _ (Nat.le_refl _) (by omega)
 have hg:=T.Ag H n (one [v0,v1,v2,v3,v4])
 generalize T.set H n (one [v0,v1,v2,v3,v4])=H1 at f1 hg⊢
 generalize hB:(Oj.arr 1 5 (T.set (T.set (T.set (T.set (T.set (uM [V.int .i64 (.ofNat 0) 0] 5 .e) 0 [V.int .i64 (.ofNat p.nums.length) 0]) 1 [V.int .i64 (.ofNat p.names.length) 0]) 2 [V.int .i64 (.ofNat p.types.length) 0]) 3 [V.int .i64 (.ofNat p.fields.length) 0]) 4 [V.int .i64 (.ofNat p.Bv.length) 0]))=B
 have f2:=f1.new (m:=n+1+1) B (id:=n+1) (by omega) (by omega)
 have hg2:=T.Ag H1 (n+1) B
 have hg:T.get (T.set H1 (n+1) B) n=_:=(T.Ac _ _ (by omega)).trans hg
 generalize T.set H1 (n+1) B=H2 at f2 hg hg2⊢
 subst hB
 have he:=ANm (G:=G) hg2
 have hl:lenV (.sl (n+1) 0 5 5 1)=some (.int .i64 (.ofNat 5) 0):=rfl
 simp only[go_sem,Nat.reduceAdd,hl]
 exact AGY (xs:=cnts p) (h.kp f2) (by omega) hg he (by show 5<big;decide) λH' n' f=>hk _ _ (f2.trans f)
def AEp:List Nat:=[0,110,0,108,108,0,0,0,0,0,0,0,0,0,0,0,102,102,99,116,116,116,0,99,99,109,109,106,106,0,0,0,98]
def jW(G:AQ):Prop:=∀c,c<33->G 0 (c*2+1) 1=some [V.int .i32 (.ofNat (AEp.getD c 0)) 0]
def known(c:Int):Bool:=decide (1<=c)&&decide (c<=32)
def xP(c:Int):Nat:=bif known c then AEp.getD c.toNat 0 else 0
theorem AIP(q:IntKind)(a b:Int):B2.ev .geq (.int q a 0) (.int q b 0)=some (.bool (decide (b<=a))):=by
 show BM (band (keq q q) true) (mkB (ile b a))=_
 rw[Qs,qB,show band (keq q q) true=true by simp[Ob]];rfl
theorem AHz(q:IntKind)(a b:Int):B2.ev .gtr (.int q a 0) (.int q b 0)=some (.bool (decide (b<a))):=by
 show BM (band (keq q q) true) (mkB (ilt b a))=_
 rw[Qs,WY,show band (keq q q) true=true by simp[Ob]];rfl
theorem AQr(q:IntKind)(a b:Int):B2.ev .lss (.int q a 0) (.int q b 0)=some (.bool (decide (a<b))):=by
 show BM (band (keq q q) true) (mkB (ilt a b))=_
 rw[Qs,WY,show band (keq q q) true=true by simp[Ob]];rfl
theorem AHY{G:AQ}{c:Int}{H:Heap}{n:Nat}{k:KV}(hk:k (.bool (known c)) H n):Runs F G Ws [.int .i64 c 0] H n k:=by
 refine BN (s:=KL (Oz lfp G)) VR (by obtain⟨h,o⟩:=bY BO G;rw[VR]at h;cases h;exact o) ?_
 show Oz lfp G (Runs F G) (.int .i64 c 0) H n k
 delta Oz
 unfold known at hk
 simp only[go_sem,AIP,AEE]
 rw[show decide (Int.ofNat 1<=c)=decide (1<=c)from rfl]
 cases h:decide (1<=c)with
 |false=>rw[h]at hk;simp only[go_sem];exact hk
 |true=>rw[h]at hk;simp only[go_sem,AEE];exact hk
theorem AHC{G:AQ}(hG:jW G){c:Int}{H:Heap}{n:Nat}{k:KV}(hk:k (.int .i32 (.ofNat (xP c)) 0) H n):Runs F G jO [.int .i64 c 0] H n k:=by
 refine BN (s:=KL (QY lfp G)) W9 (by obtain⟨h,o⟩:=fO BO G;rw[W9]at h;cases h;exact o) ?_
 show QY lfp G (Runs F G) (.int .i64 c 0) H n k
 delta QY
 refine AHY ?_
 unfold xP at hk
 cases h:known c with
 |false=>rw[h]at hk;simp only[BL,Bool.not_false,go_sem];exact hk
 |true=>
  rw[h]at hk
  simp only[BL,Bool.not_true,go_sem]
  obtain⟨m,rfl⟩:∃m:Nat,c=.ofNat m:=⟨c.toNat,by simp[known]at h;show c=((c.toNat:Nat):Int);omega⟩
  have hm:m<33:=by simp[known]at h;omega
  have hi:AIA 33 2 (.gptr 0 0) (.int .i64 (.ofNat m) 0)=some (.gptr 0 (m*2)):=by
   show BM (Nat.blt m 33) (AP (Nat.mul m 2) (.gptr 0 0))=_
   rw[show Nat.blt m 33=true by rw[Nat.blt_eq];exact hm,show BM true (AP (Nat.mul m 2) (.gptr 0 0))=AP (Nat.mul m 2) (.gptr 0 0)from rfl,AC8,Nat.zero_add]
   rfl
  have hl:AY (.gptr 0 (m*2+1)) G H=some (.int .i32 (.ofNat (AEp.getD m 0)) 0):=QL (hG m hm)
  simp only[go_sem,hi,hl]
  exact hk
structure Ins where
 code:Int
 arg:Int
def Ins.cells(i:Ins):LV:=[.int .i64 i.code 0,.int .i64 i.arg 0]
structure Bd where
 locals:Int
 stack:Int
 code:List Ins
def AGo(G:AQ)(H0:Heap)(n0:Nat)(v:V)(g:Nat->Int):Prop:=
 ∃f a c,v=.fn f a c/\∀(q:Nat) {H:Heap} {n:Nat} {k:KV},Kp H0 n0 H n->k (.int .i64 (g q) 0) H n->Runs F G f (cat a (cat [.int .i32 (.ofNat q) 0] c)) H n k
def iy(g:Nat->Int)(i:Ins):Bool:=
 known i.code&&bif decide (xP i.code=0)then decide (i.arg=0)else(decide (0<=i.arg)&&decide (i.arg<g (xP i.code)))
theorem AI9(q:IntKind)(a:Int):Fe (.int q a 0) (.int q a 0)=true:=by
 show QI (.int q a 0) (.int q a 0)=true
 simp[QI,ACj,BP,Ob,Wx]
theorem AQe(q:IntKind)(a:Int)(P:Prop):mX (.bool true) true (some (.int q a 0)) (.int q a 0) P=P:=by
 show Lc (Fe (.int q a 0) (.int q a 0)) P=P
 rw[AI9];rfl
theorem xA(x y:Nat):Cc (.one .int) false (.int .i32 (.ofNat x) 0) (.int .i32 (.ofNat y) 0)=some (.bool (decide (x=y))):=by
 show ofB (VA (some (ieq (.ofNat x) (.ofNat y))) λb=>some b)=_
 rw[Wx,show(Int.ofNat x==Int.ofNat y)=decide (x=y)by rw[Bool.eq_iff_iff];simp;omega];cases decide (x=y)<;>rfl
theorem AU5(x:Int):Cc (.one .int) false (.int .i64 x 0) (.int .i64 (.ofNat 0) 0)=some (.bool (decide (x=0))):=by
 rw[eq_i,show(x==Int.ofNat 0)=decide (x=0)by rw[Bool.eq_iff_iff];simp]
theorem ADZ{G:AQ}(hG:jW G){i:Ins}{v:V}{g:Nat->Int}{H:Heap}{n:Nat}{k:KV}(hv:AGo G H n v g)
 (hk:∀H' n',Kp H n H' n'->k (.bool (iy g i)) H' n'):Runs F G aI [.agg i.cells,v] H n k:=by
 refine BN (s:=RP (Md lfp G)) UE (by obtain⟨h,o⟩:=Yx BO G;rw[UE]at h;cases h;exact o) ?_
 show Md lfp G (Runs F G) (.agg i.cells) v H n k
 delta Md
 unfold iy at hk
 unfold Ins.cells
 have f1:Kp H n (T.set H n (one [V.int .i64 i.code 0,.int .i64 i.arg 0])) (n+1):=(Kp.refl H n).new _ (Nat.le_refl _) (by omega)
 have hg:=T.Ag H n (one [V.int .i64 i.code 0,.int .i64 i.arg 0])
 simp only[go_sem]
 generalize T.set H n (one [V.int .i64 i.code 0,.int .i64 i.arg 0])=H1 at f1 hg⊢
 have e0:AY (.ptr n 0) G H1=some (.int .i64 i.code 0):=AU hg rfl
 have e1:AY (.ptr n 1) G H1=some (.int .i64 i.arg 0):=AU hg rfl
 refine AHY ?_
 simp only[BL]
 cases h:known i.code with
 |false=>
  rw[h]at hk
  simp only[Bool.not_false,go_sem]
  exact hk _ _ f1
 |true=>
  rw[h]at hk
  simp only[Bool.not_true,go_sem,Nat.reduceAdd,e0]
  refine AHC hG ?_
  simp only[go_sem,xA]
  cases h0:decide (xP i.code=0)with
  |true=>
   rw[h0]at hk
   simp only[go_sem,Nat.reduceAdd,e1,AU5]
   exact hk _ _ f1
  |false=>
   rw[h0]at hk
   simp only[go_sem,Nat.reduceAdd,e1,AIP]
   rw[show decide (Int.ofNat 0<=i.arg)=decide (0<=i.arg)from rfl]
   cases h2:decide (0<=i.arg)with
   |false=>
    rw[h2]at hk
    simp only[go_sem]
    exact hk _ _ f1
   |true=>
    rw[h2]at hk
    obtain⟨f,a,c,rfl,hf⟩:=hv
    simp only[go_sem,Nat.reduceAdd,e1]
    show Runs F G f (cat a (cat [_] c)) H1 (n+1) _
    refine hf _ f1 ?_
    simp only[go_sem,e1,AQe,AQr]
    exact hk _ _ f1
structure Fl where
 face:Fc
 pool:Pool
 bodies:List Bd
def mny(p:Pool)(b:Bd)(q:Nat):Int:=
 bif decide (q=110)then p.nums.length else bif decide (q=99)then p.names.length else bif decide (q=116)then p.types.length else bif decide (q=102)then p.fields.length else
 bif decide (q=109)then p.Bv.length else bif decide (q=108)then b.locals else bif decide (q=106)then b.code.length else 2
theorem ANN{G:AQ}{p:Pool}{b:Bd}{c0 c1 c2 c3 v0 v1 v2 v3 v4 vb vc:V}{ws:List V}{H:Heap}{n i j:Nat}(hi:i<n)(hj:j<n)(h:IG G H n p v0 v1 v2 v3 v4 ws)
 (hc:El G H vc 2 (b.code.map Ins.cells))
 (gi:T.get H i=some (one [c0,c1,c2,c3,v0,v1,v2,v3,v4,vb])) (gj:T.get H j=some (one [V.int .i64 b.locals 0,.int .i64 b.stack 0,vc])):
 AGo G H n (.fn Qy [] [.ptr i 0,.ptr j 0]) (mny p b):=by
 refine⟨_,_,_,rfl,λq {H2 n2 k} f hk=>?_⟩
 have gi:T.get H2 i=_:=(f.same i hi).trans gi
 have gj:T.get H2 j=_:=(f.same j hj).trans gj
 show Runs F G Qy [.int .i32 (.ofNat q) 0,.ptr i 0,.ptr j 0] H2 n2 k
 refine BN (s:=ar3 (JG lfp G)) Qc (by obtain⟨h,o⟩:=Vq BO G;rw[Qc]at h;cases h;exact o) ?_
 show JG lfp G (Runs F G) (.int .i32 (.ofNat q) 0) (.ptr i 0) (.ptr j 0) H2 n2 k
 delta JG
 have l0:lenV v0=some (.int .i64 (.ofNat p.nums.length) 0):=by rw[h.e0.len,List.length_map]
 have l1:lenV v1=some (.int .i64 (.ofNat p.names.length) 0):=by rw[h.e1.len,JE]
 have l3:lenV v3=some (.int .i64 (.ofNat p.fields.length) 0):=by rw[h.e3.len,List.length_map]
 have l4:lenV v4=some (.int .i64 (.ofNat p.Bv.length) 0):=by rw[h.e4.len,List.length_zipWith,h.vJ,Nat.min_self]
 have lc:lenV vc=some (.int .i64 (.ofNat b.code.length) 0):=by rw[hc.len,List.length_map]
 have e4:AY (.ptr i 4) G H2=some v0:=AU gi rfl
 have e5:AY (.ptr i 5) G H2=some v1:=AU gi rfl
 have e6:AY (.ptr i 6) G H2=some v2:=AU gi rfl
 have e7:AY (.ptr i 7) G H2=some v3:=AU gi rfl
 have e8:AY (.ptr i 8) G H2=some v4:=AU gi rfl
 have f0:AY (.ptr j 0) G H2=some (.int .i64 b.locals 0):=AU gj rfl
 have f2:AY (.ptr j 2) G H2=some vc:=AU gj rfl
 unfold mny at hk
 simp only[go_sem,xA]
 cases h1:decide (q=110)with
 |true=>rw[h1]at hk;simp only[go_sem,Nat.reduceAdd,e4,l0];exact hk
 |false=>
  rw[h1]at hk;simp only[go_sem,xA]
  cases h2:decide (q=99)with
  |true=>rw[h2]at hk;simp only[go_sem,Nat.reduceAdd,e5,l1];exact hk
  |false=>
   rw[h2]at hk;simp only[go_sem,xA]
   cases h3:decide (q=116)with
   |true=>rw[h3]at hk;simp only[go_sem,Nat.reduceAdd,e6,h.t2.len];exact hk
   |false=>
    rw[h3]at hk;simp only[go_sem,xA]
    cases h4:decide (q=102)with
    |true=>rw[h4]at hk;simp only[go_sem,Nat.reduceAdd,e7,l3];exact hk
    |false=>
     rw[h4]at hk;simp only[go_sem,xA]
     cases h5:decide (q=109)with
     |true=>rw[h5]at hk;simp only[go_sem,Nat.reduceAdd,e8,l4];exact hk
     |false=>
      rw[h5]at hk;simp only[go_sem,xA]
      cases h6:decide (q=108)with
      |true=>rw[h6]at hk;simp only[go_sem,Nat.reduceAdd,f0];exact hk
      |false=>
       rw[h6]at hk;simp only[go_sem,xA]
       cases h7:decide (q=106)with
       |true=>rw[h7]at hk;simp only[go_sem,Nat.reduceAdd,f2,lc];exact hk
       |false=>rw[h7]at hk;simp only[go_sem];exact hk
theorem AGw{G:AQ}{p:Pool}{b:Bd}{c0 c1 c2 c3 v0 v1 v2 v3 v4 vb vc:V}{ws:List V}{H:Heap}{n:Nat}{k:KV}(h:IG G H n p v0 v1 v2 v3 v4 ws)
 (hc:El G H vc 2 (b.code.map Ins.cells)) (hl:Lo vc n)
 (hk:∀H' n' v,Kp H n H' n'->AGo G H' n' v (mny p b)->k v H' n'):
 Runs F G ZO [.agg [c0,c1,c2,c3,v0,v1,v2,v3,v4,vb],.agg [V.int .i64 b.locals 0,.int .i64 b.stack 0,vc]] H n k:=by
 refine BN (s:=RP (LU lfp G)) SH (by obtain⟨h,o⟩:=YV BO G;rw[SH]at h;cases h;exact o) ?_
 show LU lfp G (Runs F G) (.agg [c0,c1,c2,c3,v0,v1,v2,v3,v4,vb]) (.agg [V.int .i64 b.locals 0,.int .i64 b.stack 0,vc]) H n k
 delta LU
 simp only[go_sem]
 have f1:=((Kp.refl H n).new (m:=n+1) (id:=n) (one [c0,c1,c2,c3,v0,v1,v2,v3,v4,vb]) (Nat.le_refl _) (by omega)).new (m:=n+1+1) (id:=n+1) (one [V.int .i64 b.locals 0,.int .i64 b.stack 0,vc]) (by omega) (by omega)
 exact hk _ _ _ f1 (ANN (by omega) (by omega) (h.kp f1) (hc.kp hl f1) (by rw[T.Ac _ _ (by omega),T.Ag]) (T.Ag ..))
def Bd.cells(b:Bd)(w:V):LV:=[.int .i64 b.locals 0,.int .i64 b.stack 0,w]
structure SK(G:AQ)(H:Heap)(n:Nat)(v:V)(is:List Ins):Prop where
 el:El G H v 2 (is.map Ins.cells)
 lo:Lo v n
 lt:is.length<big
theorem SK.kp{G:AQ}{H H':Heap}{n n':Nat}{v:V}{is:List Ins}(h:SK G H n v is)(f:Kp H n H' n'):SK G H' n' v is:=⟨h.el.kp h.lo f,h.lo.mono f.le,h.lt⟩
structure KY(G:AQ)(H:Heap)(n:Nat)(v:V)(bs:List Bd)(ws:List V):Prop where
 el:El G H v 3 (List.zipWith Bd.cells bs ws)
 lo:Lo v n
 lt:bs.length<big
 len:ws.length=bs.length
 at':∀(i:Nat) (b:Bd) (w:V),bs[i]? =some b->ws[i]? =some w->SK G H n w b.code
theorem KY.kp{G:AQ}{H H':Heap}{n n':Nat}{v:V}{bs:List Bd}{ws:List V}(h:KY G H n v bs ws)(f:Kp H n H' n'):KY G H' n' v bs ws:=
 ⟨h.el.kp h.lo f,h.lo.mono f.le,h.lt,h.len,λi b w x y=>(h.at' i b w x y).kp f⟩
theorem AIg(i:Ins):Fe (.agg i.cells) (.agg i.cells)=true:=by
 show AA2 [V.int .i64 i.code 0,.int .i64 i.arg 0] [V.int .i64 i.code 0,.int .i64 i.arg 0]=true
 show band (QI _ _) (band (QI _ _) true)=true
 simp[QI,ACj,BP,Ob,Wx]
theorem AGz{G:AQ}(hG:jW G){p:Pool}{b:Bd}{c0 c1 c2 c3 v0 v1 v2 v3 v4 vb vc x30 x31 x32:V}{ws:List V}{H:Heap}{n i j:Nat}{k:KV}{ih24:(V×V×V×V×Heap×Nat)->Prop}
 (hi:i<n) (hj:j<n) (h:IG G H n p v0 v1 v2 v3 v4 ws) (hc:SK G H n vc b.code)
 (gi:T.get H i=some (one [c0,c1,c2,c3,v0,v1,v2,v3,v4,vb])) (gj:T.get H j=some (one (b.cells vc)))
 (hbad:b.code.all (iy (mny p b))=false->∀H' n',Kp H n H' n'->k (.bool false) H' n')
 (hok:b.code.all (iy (mny p b))=true->∀H' n',Kp H n H' n'->Ei lfp G (Runs F G) k ih24 (.ptr i 0) x30 x31 x32 H' n'):
 lfp (V×V×V×V×V×V×V×V×Heap×Nat) (Nc lfp G (Runs F G) k ih24) (.ptr i 0,.ptr j 0,x30,x31,x32,vc,.int .i64 (.ofNat b.code.length) 0,.int .i64 (.ofNat 0) 0,H,n):=by
 refine Ia (J:=λm st=>∃e H2 n2,m=b.code.length-e/\e<=b.code.length/\st=(.ptr i 0,.ptr j 0,x30,x31,x32,vc,.int .i64 (.ofNat b.code.length) 0,.int .i64 (.ofNat e) 0,H2,n2)/\Kp H n H2 n2/\
  ((b.code.drop e).all (iy (mny p b))=false->∀H' n',Kp H n H' n'->k (.bool false) H' n')/\
  ((b.code.drop e).all (iy (mny p b))=true->∀H' n',Kp H n H' n'->Ei lfp G (Runs F G) k ih24 (.ptr i 0) x30 x31 x32 H' n')) ?_ (m:=b.code.length) ⟨0,H,n,rfl,Nat.zero_le _,rfl,Kp.refl _ _,hbad,hok⟩
 rintro I m st ⟨e,H2,n2,rfl,he,rfl,f,hbad,hok⟩ ih
 show Ns lfp G (Runs F G) k ih24 I (.ptr i 0) (.ptr j 0) x30 x31 x32 vc (.int .i64 (.ofNat b.code.length) 0) (.int .i64 (.ofNat e) 0) H2 n2
 delta Ns
 by_cases hlt:e<b.code.length
 ·have hc2:=hc.kp f
  obtain⟨q,hp,hld⟩:=hc2.el.at (i:=e) (c:=b.code[e].cells) (by simp[hlt])
  have hbig:=hc.lt
  rw[List.drop_eq_getElem_cons hlt,List.all_cons]at hbad hok
  generalize b.code[e]=s at hld hbad hok
  have hs:=AIg s
  unfold Ins.cells at hld hs
  simp only[go_sem,Nat.reduceAdd,Bj,hlt,decide_true,hp,Bl hld]
  have f2:Kp H2 n2 (T.set (T.set H2 n2 (one [.int .i64 (.ofNat 0) 0,.int .i64 (.ofNat 0) 0])) n2 (one [.int .i64 s.code 0,.int .i64 s.arg 0])) (n2+1):=
   ((Kp.refl _ _).new (m:=n2+1) _ (Nat.le_refl _) (by omega)).new _ (Nat.le_refl _) (Nat.le_refl _)
  have hg:=T.Ag (T.set H2 n2 (one [.int .i64 (.ofNat 0) 0,.int .i64 (.ofNat 0) 0])) n2 (one [V.int .i64 s.code 0,.int .i64 s.arg 0])
  generalize T.set (T.set H2 n2 (one [.int .i64 (.ofNat 0) 0,.int .i64 (.ofNat 0) 0])) n2 (one [V.int .i64 s.code 0,.int .i64 s.arg 0])=H3 at f2 hg⊢
  have f3:=f.trans f2
  have gi3:T.get H3 i=_:=(f3.same i hi).trans gi
  have gj3:T.get H3 j=_:=(f3.same j hj).trans gj
  have e1:Af 2 (.ptr n2 0) G H3=some (.agg [.int .i64 s.code 0,.int .i64 s.arg 0]):=Ec hg (by omega) rfl
  have e2:Af 10 (.ptr i 0) G H3=some (.agg [c0,c1,c2,c3,v0,v1,v2,v3,v4,vb]):=Ec gi3 (by omega) rfl
  have e3:Af 3 (.ptr j 0) G H3=some (.agg (b.cells vc)):=Ec gj3 (by omega) rfl
  simp only[go_sem,Nat.reduceAdd,e1,e2,e3]
  refine AGw (h.kp f3) (hc.kp f3).el (hc.kp f3).lo λH4 n4 v f4 hv=>?_
  have hg4:T.get H4 n2=_:=(f4.same n2 (by omega)).trans hg
  have e4:Af 2 (.ptr n2 0) G H4=some (.agg [.int .i64 s.code 0,.int .i64 s.arg 0]):=Ec hg4 (by omega) rfl
  simp only[go_sem,e4,hs]
  refine ADZ (i:=s) hG hv λH5 n5 f5=>?_
  have f6:=f3.trans (f4.trans f5)
  simp only[BL,go_sem]
  cases h2:iy (mny p b) s with
  |false=>
   rw[h2]at hbad
   simp only[Bool.not_false,go_sem]
   exact hbad rfl _ _ f6
  |true=>
   rw[h2]at hbad hok
   simp only[Bool.not_true,go_sem,Dl (show e+1<9223372036854775808 by unfold big at hbig;omega)]
   exact ih _ _ (by omega) ⟨e+1,_,_,rfl,hlt,rfl,f6,hbad,hok⟩
 ·simp only[go_sem,Bj,hlt,decide_false]
  rw[List.drop_eq_nil_of_le (by omega)]at hok
  exact hok rfl _ _ f
def least(m:ES):Nat:=bif m.st then m.ps.length else m.ps.length+1
def pq(p:Pool)(m:ES)(b:Bd):Bool:=
 !decide (b.locals<least m)&&(!decide ((401:Int)<b.locals)&&(!decide (b.stack<0)&&(!decide ((1000:Int)<b.stack)&&(!decide (b.code.length<1)&&(!decide (16384<b.code.length)&&b.code.all (iy (mny p b)))))))
def WT(p:Pool):List ES->List Bd->Bool
 |m::ms,b::bs=>pq p m b&&WT p ms bs
 |_,_=>true
theorem AHF{G:AQ}(hG:jW G){p:Pool}{m:ES}{b:Bd}{c0 c1 c2 c3 v0 v1 v2 v3 v4 vb vc x30 x31 x32:V}{ws:List V}{H:Heap}{n i j:Nat}{k:KV}{ih24:(V×V×V×V×Heap×Nat)->Prop}
 (hi:i<n) (hj:j<n) (h:IG G H n p v0 v1 v2 v3 v4 ws) (hc:SK G H n vc b.code)
 (gi:T.get H i=some (one [c0,c1,c2,c3,v0,v1,v2,v3,v4,vb])) (gj:T.get H j=some (one (b.cells vc)))
 (hbad:pq p m b=false->∀H' n',Kp H n H' n'->k (.bool false) H' n')
 (hok:pq p m b=true->∀H' n',Kp H n H' n'->Ei lfp G (Runs F G) k ih24 (.ptr i 0) x30 x31 x32 H' n'):
 Ej lfp G (Runs F G) k ih24 (.ptr i 0) (.ptr j 0) (.int .i64 (.ofNat (least m)) 0) x30 x31 x32 H n:=by
 delta Ej
 unfold pq at hbad hok
 unfold Bd.cells at gj
 have f0:AY (.ptr j 0) G H=some (.int .i64 b.locals 0):=AU gj rfl
 have f1:AY (.ptr j 1) G H=some (.int .i64 b.stack 0):=AU gj rfl
 have f2:AY (.ptr j 2) G H=some vc:=AU gj rfl
 have lc:lenV vc=some (.int .i64 (.ofNat b.code.length) 0):=by rw[hc.el.len,List.length_map]
 simp only[go_sem,Nat.reduceAdd,f0,AQr]
 rw[show decide (b.locals<Int.ofNat (least m))=decide (b.locals<least m)from rfl]
 cases h1:decide (b.locals<least m)with
 |true=>rw[h1]at hbad;simp only[go_sem];exact hbad rfl _ _ (Kp.refl _ _)
 |false=>
  rw[h1]at hbad hok;simp only[go_sem,Nat.reduceAdd,f0,AHz]
  rw[show decide (Int.ofNat 401<b.locals)=decide ((401:Int)<b.locals)from rfl]
  cases h2:decide ((401:Int)<b.locals)with
  |true=>rw[h2]at hbad;simp only[go_sem];exact hbad rfl _ _ (Kp.refl _ _)
  |false=>
   rw[h2]at hbad hok;simp only[go_sem,Nat.reduceAdd,f1,AQr]
   rw[show decide (b.stack<Int.ofNat 0)=decide (b.stack<0)from rfl]
   cases h3:decide (b.stack<0)with
   |true=>rw[h3]at hbad;simp only[go_sem];exact hbad rfl _ _ (Kp.refl _ _)
   |false=>
    rw[h3]at hbad hok;simp only[go_sem,Nat.reduceAdd,f1,AHz]
    rw[show decide (Int.ofNat 1000<b.stack)=decide ((1000:Int)<b.stack)from rfl]
    cases h4:decide ((1000:Int)<b.stack)with
    |true=>rw[h4]at hbad;simp only[go_sem];exact hbad rfl _ _ (Kp.refl _ _)
    |false=>
     rw[h4]at hbad hok;simp only[go_sem,Nat.reduceAdd,f2,lc,Bj]
     cases h5:decide (b.code.length<1)with
     |true=>rw[h5]at hbad;simp only[go_sem];exact hbad rfl _ _ (Kp.refl _ _)
     |false=>
      rw[h5]at hbad hok;simp only[go_sem,Nat.reduceAdd,f2,lc,IL]
      cases h6:decide (16384<b.code.length)with
      |true=>rw[h6]at hbad;simp only[go_sem];exact hbad rfl _ _ (Kp.refl _ _)
      |false=>
       rw[h6]at hbad hok;simp only[go_sem,Nat.reduceAdd,f2,lc]
       exact AGz hG hi hj h hc gi gj hbad hok
theorem ADx{G:AQ}(hG:jW G){p:Pool}{c:Fc}{bs:List Bd}{vf vm v0 v1 v2 v3 v4 vb:V}{mws ws bws:List V}{H:Heap}{n i:Nat}{k:KV}
 (hi:i<n) (hm:MJ G H n vm c.ms mws) (h:IG G H n p v0 v1 v2 v3 v4 ws) (hb:KY G H n vb bs bws) (hlen:bs.length=c.ms.length) (AJF:∀m∈c.ms,m.ps.length<=200)
 (gi:T.get H i=some (one [c.nm.v,c.sup.v,vf,vm,v0,v1,v2,v3,v4,vb]))
 (hk:∀H' n',Kp H n H' n'->k (.bool (WT p c.ms bs)) H' n'):
 lfp (V×V×V×V×Heap×Nat) (NY lfp G (Runs F G) k) (.ptr i 0,vb,.int .i64 (.ofNat bs.length) 0,.int .i64 (.ofNat 0) 0,H,n):=by
 refine Ia (J:=λm st=>∃e H2 n2,m=bs.length-e/\e<=bs.length/\st=(.ptr i 0,vb,.int .i64 (.ofNat bs.length) 0,.int .i64 (.ofNat e) 0,H2,n2)/\Kp H n H2 n2/\
  (∀H' n',Kp H n H' n'->k (.bool (WT p (c.ms.drop e) (bs.drop e))) H' n')) ?_ (m:=bs.length) ⟨0,H,n,rfl,Nat.zero_le _,rfl,Kp.refl _ _,hk⟩
 rintro I m st ⟨e,H2,n2,rfl,he,rfl,f,hk⟩ ih
 show OX lfp G (Runs F G) k I (.ptr i 0) vb (.int .i64 (.ofNat bs.length) 0) (.int .i64 (.ofNat e) 0) H2 n2
 delta OX
 by_cases hlt:e<bs.length
 ·have hlt':e<c.ms.length:=by omega
  have hw:e<bws.length:=by rw[hb.len];exact hlt
  have hb2:=hb.kp f
  obtain⟨q,hp,hld⟩:=hb2.el.at (i:=e) (c:=bs[e].cells bws[e]) (by rw[List.getElem?_zipWith];simp[hlt,hw])
  have hcode:=hb2.at' e _ _ (List.getElem?_eq_getElem hlt) (List.getElem?_eq_getElem hw)
  have hbig:=hb.lt
  rw[List.drop_eq_getElem_cons hlt,List.drop_eq_getElem_cons hlt']at hk
  unfold WT at hk
  generalize bs[e]=b at hld hcode hk
  generalize bws[e]=w at hld hcode
  unfold Bd.cells at hld
  simp only[go_sem,Nat.reduceAdd,Bj,hlt,decide_true,hp,Bl hld]
  have f2:Kp H2 n2 (T.set (T.set H2 n2 (one [.int .i64 (.ofNat 0) 0,.int .i64 (.ofNat 0) 0,.Ae])) n2 (one [.int .i64 b.locals 0,.int .i64 b.stack 0,w])) (n2+1):=
   ((Kp.refl _ _).new (m:=n2+1) _ (Nat.le_refl _) (by omega)).new _ (Nat.le_refl _) (Nat.le_refl _)
  have gj:=T.Ag (T.set H2 n2 (one [.int .i64 (.ofNat 0) 0,.int .i64 (.ofNat 0) 0,.Ae])) n2 (one [V.int .i64 b.locals 0,.int .i64 b.stack 0,w])
  generalize T.set (T.set H2 n2 (one [.int .i64 (.ofNat 0) 0,.int .i64 (.ofNat 0) 0,.Ae])) n2 (one [V.int .i64 b.locals 0,.int .i64 b.stack 0,w])=H3 at f2 gj⊢
  have f3:=f.trans f2
  have gi3:T.get H3 i=_:=(f3.same i hi).trans gi
  obtain⟨q2,w2,hp2,hld2,hps⟩:=(hm.kp f3).at hlt'
  have hps2:=AJF _ (List.getElem_mem hlt')
  generalize c.ms[e]=mt at hld2 hps hk hps2
  unfold ES.cells at hld2
  have e3:AY (.ptr i 3) G H3=some vm:=AU gi3 rfl
  simp only[go_sem,Nat.reduceAdd,e3,hp2,Bl hld2,hps.len]
  have f4:Kp H3 (n2+1) (T.set (T.set H3 (n2+1) (one [.str 0 0,.bool false,.Ae,.str 0 0,.bool false])) (n2+1) (one [mt.nm.v,.bool mt.st,w2,mt.ret.nm.v,.bool mt.ret.arr])) (n2+1+1):=
   ((Kp.refl _ _).new (m:=n2+1+1) _ (Nat.le_refl _) (by omega)).new _ (Nat.le_refl _) (Nat.le_refl _)
  generalize T.set (T.set H3 (n2+1) (one [.str 0 0,.bool false,.Ae,.str 0 0,.bool false])) (n2+1) (one [mt.nm.v,.bool mt.st,w2,mt.ret.nm.v,.bool mt.ret.arr])=H4 at f4⊢
  have f5:=f3.trans f4
  have gi4:T.get H4 i=_:=(f5.same i hi).trans gi
  have gj4:T.get H4 n2=_:=(f4.same n2 (by omega)).trans gj
  have hgo:Ej lfp G (Runs F G) k I (.ptr i 0) (.ptr n2 0) (.int .i64 (.ofNat (least mt)) 0) vb (.int .i64 (.ofNat bs.length) 0) (.int .i64 (.ofNat e) 0) H4 (n2+1+1):=by
   refine AHF hG (p:=p) (m:=mt) (b:=b) (by have:=f.le;omega) (by omega) (h.kp f5) (hcode.kp (f2.trans f4)) gi4 gj4 ?_ ?_
   ·intro hbad H' n' f'
    rw[hbad]at hk
    exact hk _ _ (f5.trans f')
   ·intro hok H' n' f'
    rw[hok]at hk
    delta Ei
    simp only[go_sem,Dl (show e+1<9223372036854775808 by unfold big at hbig;omega)]
    exact ih _ _ (by omega) ⟨e+1,_,_,rfl,hlt,rfl,f5.trans f',hk⟩
  simp only[BL]
  unfold least at hgo
  cases hst:mt.st with
  |true=>rw[hst]at hgo;simp only[Bool.not_true,go_sem];exact hgo
  |false=>rw[hst]at hgo;simp only[Bool.not_false,go_sem,Dl (show mt.ps.length+1<9223372036854775808 by omega)];exact hgo
 ·simp only[go_sem,Bj,hlt,decide_false]
  delta OG
  rw[List.drop_eq_nil_of_le (by omega),List.drop_eq_nil_of_le (by omega)]at hk
  exact hk _ _ f
theorem wZ:∀{a:St} {ms:List ES},P9 a ms=true->∀m∈ms,m.ps.length<=200
 |_,[],_=>λm hm=>by cases hm
 |a,m::ms,h=>by
  simp[P9]at h
  intro m' hm'
  rcases List.mem_cons.1 hm' with rfl|hm'
  ·omega
  ·exact wZ h.2.2.2.2.2 m' hm'
theorem zT{c:Fc}(h:Wh c=true):∀m∈c.ms,m.ps.length<=200:=by
 simp[Wh]at h
 exact wZ h.2.2.2.2.2.2.2
structure WW(G:AQ)(H:Heap)(n:Nat)(L:LV)(f:Fl)(vf vm v0 v1 v2 v3 v4 vb:V)(mws ws bws:List V):Prop where
 is:L=[f.face.nm.v,f.face.sup.v,vf,vm,v0,v1,v2,v3,v4,vb]
 face:WZ G H n [f.face.nm.v,f.face.sup.v,vf,vm] f.face vf vm mws
 pool:IG G H n f.pool v0 v1 v2 v3 v4 ws
 bodies:KY G H n vb f.bodies bws
def PK(f:Fl):Bool:=Wh f.face&&(AD4 f.pool&&(decide (f.bodies.length=f.face.ms.length)&&WT f.pool f.face.ms f.bodies))
theorem AE7{G:AQ}(hG:jW G){L:LV}{f:Fl}{vf vm v0 v1 v2 v3 v4 vb:V}{mws ws bws:List V}{H:Heap}{n:Nat}{k:KV}(h:WW G H n L f vf vm v0 v1 v2 v3 v4 vb mws ws bws)
 (hk:∀H' n',Kp H n H' n'->k (.bool (PK f)) H' n'):Runs F G YX [.agg L] H n k:=by
 refine BN (s:=KL (Jr lfp G)) Qu (by obtain⟨h,o⟩:=XE BO G;rw[Qu]at h;cases h;exact o) ?_
 show Jr lfp G (Runs F G) (.agg L) H n k
 obtain⟨rfl,hf,hp,hb⟩:=h
 delta Jr
 unfold PK at hk
 simp only[go_sem]
 have f1:Kp H n (T.set H n (one [f.face.nm.v,f.face.sup.v,vf,vm,v0,v1,v2,v3,v4,vb])) (n+1):=(Kp.refl H n).new _ (Nat.le_refl _) (by omega)
 have hg:=T.Ag H n (one [f.face.nm.v,f.face.sup.v,vf,vm,v0,v1,v2,v3,v4,vb])
 generalize T.set H n (one [f.face.nm.v,f.face.sup.v,vf,vm,v0,v1,v2,v3,v4,vb])=H1 at f1 hg⊢
 have e1:Af 4 (.ptr n 0) G H1=some (.agg [f.face.nm.v,f.face.sup.v,vf,vm]):=F8 hg (by omega) (by show 4<=10;omega)
 simp only[go_sem,e1]
 refine xg (hf.kp f1) λH2 n2 f2=>?_
 have hg:T.get H2 n=_:=(f2.same n (by omega)).trans hg
 have f3:=f1.trans f2
 simp only[BL]
 cases h1:Wh f.face with
 |false=>rw[h1]at hk;simp only[Bool.not_false,go_sem];exact hk _ _ f3
 |true=>
  rw[h1]at hk
  have e2:Af 5 (.ptr n 4) G H2=some (.agg [v0,v1,v2,v3,v4]):=F8 hg (by omega) (by show 9<=10;omega)
  simp only[Bool.not_true,go_sem,Nat.reduceAdd,e2]
  refine AEI (hp.kp f3) λH4 n4 f4=>?_
  have hg:T.get H4 n=_:=(f4.same n (by have:=f2.le;omega)).trans hg
  have f5:=f3.trans f4
  simp only[BL,go_sem]
  cases h2:AD4 f.pool with
  |false=>rw[h2]at hk;simp only[Bool.not_false,go_sem];exact hk _ _ f5
  |true=>
   rw[h2]at hk
   have e9:AY (.ptr n 9) G H4=some vb:=AU hg rfl
   have e3:AY (.ptr n 3) G H4=some vm:=AU hg rfl
   have lb:lenV vb=some (.int .i64 (.ofNat f.bodies.length) 0):=by rw[hb.el.len,List.length_zipWith,hb.len,Nat.min_self]
   have lm:lenV vm=some (.int .i64 (.ofNat f.face.ms.length) 0):=hf.ms.len'
   simp only[Bool.not_true,go_sem,Nat.reduceAdd,e9,e3,lb,lm,ASO]
   cases h3:decide (f.bodies.length=f.face.ms.length)with
   |false=>rw[h3]at hk;simp only[Bool.not_false,go_sem];exact hk _ _ f5
   |true=>
    rw[h3]at hk
    simp only[Bool.not_true,go_sem,Nat.reduceAdd,e9,lb]
    exact ADx hG (c:=f.face) (by have:=f2.le;have:=f4.le;omega) (hf.ms.kp f5) (hp.kp f5) (hb.kp f5) (of_decide_eq_true h3) (zT h1) hg λH' n' f'=>hk _ _ (f5.trans f')
end Go.RL
