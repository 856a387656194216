/- Part of a proof; nothing is assumed. -/
import Derived.Test.YtcjkfmaoahojeaaDoorWalk
import Derived.Test.YtcjkfmaoahojeaaDoorPlainR
set_option linter.unusedVariables false
set_option linter.unusedSimpArgs false
namespace Go.PQ
open Go.Eng
abbrev Bs:=List UInt8
def RP:Bs:=[97,115]
def Qq:Bs:=[98,111,111,108]
def J9:Bs:=[99,108,97,115,115]
def EU:Bs:=[101,108,115,101]
def Hl:Bs:=[101,120,116,101,110,100,115]
def Rk:Bs:=[102,97,108,115,101]
def MN:Bs:=[102,105,101,108,100]
def IL:Bs:=[105,102]
def Yw:Bs:=[105,110,116]
def OC:Bs:=[105,115]
def G7:Bs:=[108,101,110,103,116,104]
def NM:Bs:=[108,101,116]
def D8:Bs:=[109,101,116,104,111,100]
def Ib:Bs:=[110,101,119]
def Qp:Bs:=[110,117,108,108]
def FM:Bs:=[112,114,105,110,116]
def EZ:Bs:=[114,101,116,117,114,110]
def FB:Bs:=[115,116,97,116,105,99]
def XB:Bs:=[116,104,105,115]
def Wv:Bs:=[116,114,117,101]
def FK:Bs:=[119,104,105,108,101]
def WX:Bs:=[61,61]
def gB:Bs:=[33,61]
def fM:Bs:=[60,61]
def L9:Bs:=[38,38]
def W9:Bs:=[124,124]
def cO:Bs:=[43]
def Dq:Bs:=[45]
def X8:Bs:=[42]
def Tq:Bs:=[47]
def tu:Bs:=[37]
def UW:Bs:=[60]
def Di:Bs:=[61]
def IV:Bs:=[33]
def Au:Bs:=[40]
def BD:Bs:=[41]
def Fe:Bs:=[91]
def FV:Bs:=[93]
def MG:Bs:=[123]
def m_rc:Bs:=[125]
def Aq:Bs:=[59]
def CY:Bs:=[44]
def DJ:Bs:=[46]
theorem AXW:V.str 2 29537=sB RP:=rfl
theorem AIC:V.str 4 1819242338=sB Qq:=rfl
theorem AO5:V.str 5 495857003619=sB J9:=rfl
theorem ATS:V.str 4 1702063205=sB EU:=rfl
theorem AKK:V.str 7 32480047633037413=sB Hl:=rfl
theorem AQk:V.str 5 435728179558=sB Rk:=rfl
theorem APo:V.str 5 431315315046=sB MN:=rfl
theorem AXo:V.str 2 26217=sB IL:=rfl
theorem ALU:V.str 3 7630441=sB Yw:=rfl
theorem AXy:V.str 2 29545=sB OC:=rfl
theorem AMs:V.str 6 114849160783212=sB G7:=rfl
theorem AWL:V.str 3 7628140=sB NM:=rfl
theorem ANG:V.str 6 110429656606061=sB D8:=rfl
theorem AUz:V.str 3 7824750=sB Ib:=rfl
theorem ATn:V.str 4 1819047278=sB Qp:=rfl
theorem AP6:V.str 5 500068610672=sB FM:=rfl
theorem AL8:V.str 6 121437875889522=sB EZ:=rfl
theorem AMX:V.str 6 109304575259763=sB FB:=rfl
theorem ASB:V.str 4 1936287860=sB XB:=rfl
theorem AUL:V.str 4 1702195828=sB Wv:=rfl
theorem AQf:V.str 5 435610544247=sB FK:=rfl
theorem AVu:V.str 2 9766=sB L9:=rfl
theorem AXx:V.str 2 31868=sB W9:=rfl
theorem AVQ:V.str 1 41=sB BD:=rfl
theorem AWu:V.str 1 91=sB Fe:=rfl
theorem AVs:V.str 1 125=sB m_rc:=rfl
def Nv:List Bs:=[RP,Qq,J9,EU,Hl,Rk,MN,IL,Yw,OC,G7,NM,D8,Ib,Qp,FM,EZ,FB,XB,Wv,FK]
def EX:List Bs:=[WX,gB,fM,L9,W9,cO,Dq,X8,Tq,tu,UW,Di,IV,Au,BD,Fe,FV,MG,m_rc,Aq,CY,DJ]
def great(c:UInt8):Bool:=decide (65<=c.toNat)&&decide (c.toNat<=90)
def small(c:UInt8):Bool:=decide (97<=c.toNat)&&decide (c.toNat<=122)
def digit(c:UInt8):Bool:=decide (48<=c.toNat)&&decide (c.toNat<=57)
def inner(c:UInt8):Bool:=great c||(small c||(digit c||decide (c.toNat=95)))
def blank(c:UInt8):Bool:=decide (c.toNat=32)||(decide (c.toNat=9)||(decide (c.toNat=10)||decide (c.toNat=13)))
def pre(p l:Bs):Bool:=decide (p.length<=l.length)&&decide (l.take p.length=p)
def DV:Bool->Bs->Bs
 |_,[]=>[]
 |true,c::t=>bif decide (c.toNat=10)then DV false t else DV true t
 |false,c::t=>bif blank c then DV false t else bif pre [47,47] (c::t)then DV true t else c::t
structure Tok where
 kind:Nat
 text:Bs
 num:Nat
def TN:Tok:=⟨0,[],0⟩
def WT:Nat->Bs->Option Nat
 |n,[]=>some n
 |n,c::l=>bif decide (288230376151711744<n*10+(c.toNat-48))then none else WT (n*10+(c.toNat-48)) l
def XC(t:Tok):Nat×Tok:=bif decide (40<t.text.length)then(4,TN)else(0,t)
def Gz:Bs->Nat×Tok
 |[]=>(0,TN)
 |c::l=>
  bif great c then XC ⟨2,(c::l).takeWhile inner,0⟩else
  bif small c then XC ⟨bif decide ((c::l).takeWhile inner∈Nv)then 1 else 3,(c::l).takeWhile inner,0⟩else
  bif digit c then(match WT 0 ((c::l).takeWhile digit)with|none=>(22,TN)|some n=>(0,⟨4,(c::l).takeWhile digit,n⟩))else
  match EX.find? (λm=>pre m (c::l))with|none=>(20,TN)|some m=>(0,⟨5,m,0⟩)
def WB:Nat->Bs->Nat×List Tok
 |0,_=>(0,[])
 |f+1,r=>
  bif decide ((Gz (DV false r)).1=0)then
   bif decide ((Gz (DV false r)).2.kind=0)then(0,[(Gz (DV false r)).2])
   else((WB f ((DV false r).drop (Gz (DV false r)).2.text.length)).1,(Gz (DV false r)).2::(WB f ((DV false r).drop (Gz (DV false r)).2.text.length)).2)
  else((Gz (DV false r)).1,[])
def zN(s:Bs):Nat×List Tok:=bif decide (65536<s.length)then(4,[])else WB (s.length+1) s
end Go.PQ
namespace Go.PQ
open Go.Eng
set_option maxRecDepth 100000
section
variable{G:AY}{H:Heap}{n:Nat}{k:KV}
theorem AIr{c:UInt8}(hk:k (.bool (great c)) H n):Runs F G lG [.int .u8 (.ofNat c.toNat) 0] H n k:=by
 refine Am (s:=IQ (Yz lfp G)) eP (by obtain⟨h,o⟩:=AEc Ap G;rw[eP]at h;cases h;exact o) ?_
 show Yz lfp G (Runs F G) (.int .u8 (.ofNat c.toNat) 0) H n k
 delta Yz
 unfold great at hk
 simp only[go_sem,Ym,zG]
 cases h:decide (65<=c.toNat)<;>rw[h]at hk<;>simp only[go_sem,zG]<;>exact hk
theorem AIZ{c:UInt8}(hk:k (.bool (small c)) H n):Runs F G lZ [.int .u8 (.ofNat c.toNat) 0] H n k:=by
 refine Am (s:=IQ (Yx lfp G)) bf (by obtain⟨h,o⟩:=ADr Ap G;rw[bf]at h;cases h;exact o) ?_
 show Yx lfp G (Runs F G) (.int .u8 (.ofNat c.toNat) 0) H n k
 delta Yx
 unfold small at hk
 simp only[go_sem,Ym,zG]
 cases h:decide (97<=c.toNat)<;>rw[h]at hk<;>simp only[go_sem,zG]<;>exact hk
theorem ADh{c:UInt8}(hk:k (.bool (digit c)) H n):Runs F G Yl [.int .u8 (.ofNat c.toNat) 0] H n k:=by
 refine Am (s:=IQ (Y9 lfp G)) eF (by obtain⟨h,o⟩:=ADz Ap G;rw[eF]at h;cases h;exact o) ?_
 show Y9 lfp G (Runs F G) (.int .u8 (.ofNat c.toNat) 0) H n k
 delta Y9
 unfold digit at hk
 simp only[go_sem,Ym,zG]
 cases h:decide (48<=c.toNat)<;>rw[h]at hk<;>simp only[go_sem,zG]<;>exact hk
theorem AJR{c:UInt8}(hk:k (.bool (inner c)) H n):Runs F G kS [.int .u8 (.ofNat c.toNat) 0] H n k:=by
 refine Am (s:=IQ (Y7 lfp G)) ak (by obtain⟨h,o⟩:=ADG Ap G;rw[ak]at h;cases h;exact o) ?_
 show Y7 lfp G (Runs F G) (.int .u8 (.ofNat c.toNat) 0) H n k
 delta Y7
 unfold inner at hk
 refine AIr ?_
 cases h1:great c with
 |true=>rw[h1]at hk;simp only[go_sem];exact hk
 |false=>
  rw[h1]at hk;simp only[go_sem]
  refine AIZ ?_
  cases h2:small c with
  |true=>rw[h2]at hk;simp only[go_sem];exact hk
  |false=>
   rw[h2]at hk;simp only[go_sem]
   refine ADh ?_
   cases h3:digit c with
   |true=>rw[h3]at hk;simp only[go_sem];exact hk
   |false=>rw[h3]at hk;simp only[go_sem,VN];exact hk
theorem x9{p l:Bs}(hk:k (.bool (pre p l)) H n):Runs F G Mc [sB l,sB p] H n k:=by
 refine Am (s:=RG (ML lfp G)) Pg (by obtain⟨h,o⟩:=jC Ap G;rw[Pg]at h;cases h;exact o) ?_
 show ML lfp G (Runs F G) (sB l) (sB p) H n k
 delta ML
 refine Am (s:=RG (Et lfp G)) Gm (by obtain⟨h,o⟩:=TM Ap G;rw[Gm]at h;cases h;exact o) ?_
 show Et lfp G (Runs F G) (sB l) (sB p) H n k
 delta Et
 unfold pre at hk
 simp only[go_sem,jM,Ym]
 cases h:decide (p.length<=l.length)with
 |true=>
  have hle:=of_decide_eq_true h
  rw[h]at hk;simp only[go_sem,jM,AW9 hle,AFM];exact hk
 |false=>rw[h]at hk;simp only[go_sem];exact hk
theorem AFA{l:Bs}{b:Nat}(hb:b<256)(hk:k (.int .i64 (tV b l 0) 0) H n):Runs F G Qw [sB l,.int .u8 (.ofNat b) 0] H n k:=by
 refine Am (s:=RG (NC lfp G)) PX (by obtain⟨h,o⟩:=lu Ap G;rw[PX]at h;cases h;exact o) ?_
 show NC lfp G (Runs F G) (sB l) (.int .u8 (.ofNat b) 0) H n k
 delta NC
 refine Am (s:=RG (Eu lfp G)) Gn (by obtain⟨h,o⟩:=TF Ap G;rw[Gn]at h;cases h;exact o) ?_
 show Eu lfp G (Runs F G) (sB l) (.int .u8 (.ofNat b) 0) H n k
 delta Eu
 simp only[go_sem,AXL hb]
 exact hk
theorem AQW{l:Bs}(hk:k (.bool (decide (l∈Nv))) H n):Runs F G yU [sB l] H n k:=by
 refine Am (s:=IQ (ZC lfp G)) bJ (by obtain⟨h,o⟩:=ADN Ap G;rw[bJ]at h;cases h;exact o) ?_
 show ZC lfp G (Runs F G) (sB l) H n k
 delta ZC
 have e:decide (l∈Nv)=Nv.any λw=>decide (l=w):=by rw[Bool.eq_iff_iff];simp
 rw[e]at hk
 unfold Nv at hk
 simp only[AXW,AIC,AO5,ATS,AKK,AQk,APo,AXo,ALU,AXy,AMs,AWL,ANG,AUz,ATn,AP6,AL8,AMX,ASB,AUL,AQf]
 have fin:∀b:Bool,k (.bool b) H n->BR lfp G (Runs F G) k (.bool b) H n:=by
  intro b hb
  delta BR
  cases b<;>exact hb
 repeat' (
  rw[AFM,BA]
  rw[List.any_cons]at hk
  refine(λ(b:Bool) (P Q:Prop) (h1:b=true->P) (h2:b=false->Q)=>(by cases b;exact h2 rfl;exact h1 rfl:Ae (.bool b) true P Q)) _ _ _ (λhb=>?_) (λhb=>?_)
  ·rw[hb]at hk;first|(rw[hb];exact fin _ hk)|exact hk
  rw[hb,Bool.false_or]at hk)
 exact hk
theorem AJc{a b:Nat}(h:a*b<9223372036854775808):B2.ev .mul (.int .i64 (.ofNat a) 0) (.int .i64 (.ofNat b) 0)=some (.int .i64 (.ofNat (a*b)) 0):=by
 show some (V.int .i64 (U1 .i64 (Int.mul (.ofNat a) (.ofNat b))) 0)=_
 have e:Int.mul (.ofNat a) (.ofNat b)=.ofNat (a*b):=rfl
 rw[Xy,e,Zl (by show(-9223372036854775808:Int)<=((a*b:Nat):Int);omega) (by show((a*b:Nat):Int)<_;omega)]
theorem ASj{a b:Nat}(hb:b<=a)(h:a<256):B2.ev .sub (.int .u8 (.ofNat a) 0) (.int .u8 (.ofNat b) 0)=some (.int .u8 (.ofNat (a-b)) 0):=by
 show some (V.int .u8 (U1 .u8 (ADI (.ofNat a) (Int.neg (.ofNat b)))) 0)=_
 rw[vC]
 have e:Int.ofNat a+Int.neg (Int.ofNat b)=Int.ofNat (a-b):=by show(a:Int)+ -(b:Int)=((a-b:Nat):Int);omega
 rw[e]
 have:inr .u8 (.ofNat (a-b))=true:=by show Nat.blt (a-b) 256=true;rw[Nat.blt_eq];omega
 unfold U1;rw[this]
theorem ARf{q:IntKind}{a:Nat}(h:a<9223372036854775808):ABy .i64 (.int q (.ofNat a) 0)=some (.int .i64 (.ofNat a) 0):=by
 show some (V.int .i64 (U1 .i64 (.ofNat a)) 0)=_
 rw[Xy,Zl (by show(-9223372036854775808:Int)<=((a:Nat):Int);omega) (by show((a:Nat):Int)<_;omega)]
def ASg:Option Nat->V
 |none=>.JL [.int .i64 (.ofNat 0) 0,.bool false]
 |some m=>.JL [.int .i64 (.ofNat m) 0,.bool true]
theorem AKD{l:Bs}{i:Nat}(h:i<l.length):(PW l)[i]? =some [V.int .u8 (.ofNat (l[i]).toNat) 0]:=by simp[PW,h]
theorem ANy{l:Bs}(hl:∀c∈l,digit c=true)(hs:l.length<=65536)(hk:∀H',Kp H n H' (n+1)->k (ASg (WT 0 l)) H' (n+1)):Runs F G uf [sB l] H n k:=by
 refine Am (s:=IQ (Xk lfp G)) ZK (by obtain⟨h,o⟩:=ACB Ap G;rw[ZK]at h;cases h;exact o) ?_
 show Xk lfp G (Runs F G) (sB l) H n k
 delta Xk
 obtain⟨R,hR⟩:∃R,WT 0 l=R:=⟨_,rfl⟩
 rw[hR]at hk
 refine AQ0 (G:=G) λH1 v f1 hv=>?_
 simp only[go_sem,hv.len,show(PW l).length=l.length from List.length_map ..]
 refine IZ (N:=l.length) (J:=λj q=>∃a,q=(.int .i64 (.ofNat a) 0,v,.int .i64 (.ofNat l.length) 0,.int .i64 (.ofNat j) 0,H1,n+1)/\a<=288230376151711744/\WT a (l.drop j)=R) ?_ ?_ ⟨0,rfl,by omega,hR⟩
 ·rintro I j q hlt ⟨a,rfl,ha,he⟩ ih
  show OH lfp G (Runs F G) k I (.int .i64 (.ofNat a) 0) v (.int .i64 (.ofNat l.length) 0) (.int .i64 (.ofNat j) 0) H1 (n+1)
  delta OH
  obtain⟨p,hp,hld⟩:=hv.at (AKD hlt)
  rw[List.drop_eq_getElem_cons hlt]at he
  have hd:=hl _ (List.getElem_mem hlt)
  generalize l[j]=c at hld he hd
  simp only[digit,Bool.and_eq_true,decide_eq_true_eq]at hd
  unfold WT at he
  simp only[go_sem,Ht,hlt,decide_true,hp,vg hld,AJc (show a*10<9223372036854775808 by omega),ASj hd.1 (show c.toNat<256 by omega),ARf (show c.toNat-48<9223372036854775808 by omega),Iz (show a*10+(c.toNat-48)<9223372036854775808 by omega),kN]
  cases h:decide (288230376151711744<a*10+(c.toNat-48))with
  |true=>rw[h]at he;simp only[go_sem];have:=hk _ f1;rw[<-he]at this;exact this
  |false=>
   rw[h]at he;simp only[go_sem,Iz (show j+1<9223372036854775808 by omega)]
   exact ih _ ⟨_,rfl,by simpa using h,he⟩
 ·rintro I q ⟨a,rfl,ha,he⟩
  show OH lfp G (Runs F G) k I (.int .i64 (.ofNat a) 0) v (.int .i64 (.ofNat l.length) 0) (.int .i64 (.ofNat l.length) 0) H1 (n+1)
  delta OH
  rw[List.drop_eq_nil_of_le (Nat.le_refl _)]at he
  simp only[go_sem,Ht,Nat.lt_irrefl,decide_false]
  delta XA
  have:=hk _ f1
  rw[<-he]at this
  exact this
end
def LAt(H:Heap)(lb:Nat)(s:Bs)(a:Nat):Prop:=∃line col:Nat,1<=line/\1<=col/\line<=a+1/\col<=a+1/\
 T.get H lb=some (one [sB s,.int .i64 (.ofNat a) 0,.int .i64 (.ofNat line) 0,.int .i64 (.ofNat col) 0])
theorem ANd(q r:IntKind)(a b:Int)(z w:V):Cj [z,w] [(0,1,.c (.int q a 0)),(1,1,.c (.int r b 0))]=some (.agg [.int q a 0,.int r b 0]):=rfl
section
variable{G:AY}{H:Heap}{n lb a:Nat}{s:Bs}{k:KV}
theorem LAt.kp{H':Heap}{n':Nat}(h:LAt H lb s a)(hl:lb<n)(f:Kp H n H' n'):LAt H' lb s a:=by
 obtain⟨line,col,h1,h2,h3,h4,hg⟩:=h
 exact⟨line,col,h1,h2,h3,h4,f.get hg hl⟩
theorem AHK{m:Nat}(h:LAt H lb s a)(hm:a+m<=s.length)(hs:s.length<=65536)(hk:∀H',Kx lb H n H' n->LAt H' lb s (a+m)->k (.JL []) H' n):
 Runs F G Jt [.ptr lb 0,.int .i64 (.ofNat m) 0] H n k:=by
 refine Am (s:=RG (QT lfp G)) TW (by obtain⟨h,o⟩:=sF Ap G;rw[TW]at h;cases h;exact o) ?_
 show QT lfp G (Runs F G) (.ptr lb 0) (.int .i64 (.ofNat m) 0) H n k
 delta QT
 refine IZ (N:=m) (J:=λj q=>∃H',q=(.ptr lb 0,.int .i64 (.ofNat m) 0,.int .i64 (.ofNat j) 0,H',n)/\Kx lb H n H' n/\LAt H' lb s (a+j)) ?_ ?_ ⟨H,rfl,Kx.refl ..,h⟩
 ·rintro I j q hlt ⟨H1,rfl,f1,line,col,h1,h2,h3,h4,hg⟩ ih
  show Ja lfp G (Runs F G) k I (.ptr lb 0) (.int .i64 (.ofNat m) 0) (.int .i64 (.ofNat j) 0) H1 n
  delta Ja
  simp only[go_sem,Ht,hlt,decide_true,Nat.reduceAdd,AQ (off:=3) hg (v:=.int .i64 (.ofNat col) 0) rfl,Iz (show col+1<9223372036854775808 by omega)]
  refine Ew hg rfl rfl (by omega) (by show 3+1<=4;omega) λH2 hg2 s2=>?_
  have hg2:T.get H2 lb=some (one [sB s,.int .i64 (.ofNat (a+j)) 0,.int .i64 (.ofNat line) 0,.int .i64 (.ofNat (col+1)) 0]):=hg2
  simp only[go_sem,Nat.reduceAdd,AQ (off:=0) hg2 (v:=sB s) rfl,AQ (off:=1) hg2 (v:=.int .i64 (.ofNat (a+j)) 0) rfl,AE5 (show a+j<s.length by omega),VN]
  have f2:Kx lb H n H2 n:=f1.trans ⟨Nat.le_refl _,λid _ hb=>s2 id hb⟩
  have fin:∀(H3:Heap) (line col:Nat),Kx lb H n H3 n->1<=line->1<=col->line<=a+j+2->col<=a+j+2->
   T.get H3 lb=some (one [sB s,.int .i64 (.ofNat (a+j)) 0,.int .i64 (.ofNat line) 0,.int .i64 (.ofNat col) 0])->
   Ir lfp G (Runs F G) k I (.ptr lb 0) (.int .i64 (.ofNat m) 0) (.int .i64 (.ofNat j) 0) H3 n:=by
   intro H3 line col f3 h1 h2 h3 h4 hg3
   delta Ir
   simp only[go_sem,Nat.reduceAdd,AQ (off:=1) hg3 (v:=.int .i64 (.ofNat (a+j)) 0) rfl,Iz (show a+j+1<9223372036854775808 by omega)]
   refine Ew hg3 rfl rfl (by omega) (by show 1+1<=4;omega) λH4 hg4 s4=>?_
   simp only[go_sem,Iz (show j+1<9223372036854775808 by omega)]
   exact ih _ ⟨_,rfl,f3.trans ⟨Nat.le_refl _,λid _ hb=>s4 id hb⟩,line,col,h1,h2,by omega,by omega,hg4⟩
  cases hc:decide ((s[a+j]).toNat=10)with
  |true=>
   simp only[go_sem,Nat.reduceAdd,AQ (off:=2) hg2 (v:=.int .i64 (.ofNat line) 0) rfl,Iz (show line+1<9223372036854775808 by omega),ANd]
   refine Ew hg2 rfl rfl (by omega) (by show 2+2<=4;omega) λH3 hg3 s3=>?_
   exact fin H3 (line+1) 1 (f2.trans ⟨Nat.le_refl _,λid _ hb=>s3 id hb⟩) (by omega) (by omega) (by omega) (by omega) hg3
  |false=>
   simp only[go_sem]
   exact fin H2 line (col+1) f2 (by omega) (by omega) (by omega) (by omega) hg2
 ·rintro I q ⟨H1,rfl,f1,h⟩
  show Ja lfp G (Runs F G) k I (.ptr lb 0) (.int .i64 (.ofNat m) 0) (.int .i64 (.ofNat m) 0) H1 n
  delta Ja
  simp only[go_sem,Ht,Nat.lt_irrefl,decide_false]
  exact hk _ f1 h
def toEnd:Bs->Nat
 |[]=>0
 |c::l=>bif decide (c.toNat=10)then 0 else toEnd l+1
theorem AFK:∀l:Bs,toEnd l<=l.length
 |[]=>Nat.le_refl _
 |c::l=>by
  have:=AFK l
  unfold toEnd
  cases decide (c.toNat=10)<;>simp[this]
theorem ACS:∀(l:Bs) (i:Nat),tV 10 l i=if toEnd l=l.length then-1 else((i+toEnd l:Nat):Int)
 |[],i=>rfl
 |c::l,i=>by
  have ih:=ACS l (i+1)
  rw[show tV 10 (c::l) i=bif decide (c.toNat=10)then .ofNat i else tV 10 l (i+1)from rfl,show toEnd (c::l)=bif decide (c.toNat=10)then 0 else toEnd l+1 from rfl]
  cases h:decide (c.toNat=10)with
  |true=>simp
  |false=>
   simp only[cond_false,ih,List.length_cons,Nat.add_right_cancel_iff]
   split
   ·rfl
   ·congr 1;omega
theorem AGb:∀l:Bs,DV true l=DV false (l.drop (toEnd l))
 |[]=>rfl
 |c::l=>by
  rw[show DV true (c::l)=bif decide (c.toNat=10)then DV false l else DV true l from rfl,show toEnd (c::l)=bif decide (c.toNat=10)then 0 else toEnd l+1 from rfl]
  cases h:decide (c.toNat=10)with
  |true=>
   have hb:blank c=true:=by simp only[blank,h,Bool.or_true,Bool.true_or]
   simp[DV,hb]
  |false=>simp only[cond_false,List.drop_succ_cons];exact AGb l
theorem kY:∀(b:Bool) (l:Bs),(DV b l).length<=l.length
 |_,[]=>by simp[DV]
 |true,c::l=>by
  rw[show DV true (c::l)=bif decide (c.toNat=10)then DV false l else DV true l from rfl]
  have h1:=kY false l;have h2:=kY true l
  cases decide (c.toNat=10)<;>simp<;>omega
 |false,c::l=>by
  rw[show DV false (c::l)=bif blank c then DV false l else bif pre [47,47] (c::l)then DV true l else c::l from rfl]
  have h1:=kY false l;have h2:=kY true l
  cases blank c<;>cases pre [47,47] (c::l)<;>simp<;>omega
theorem AV2:V.str 2 12079=sB [47,47]:=rfl
theorem ASE(h:LAt H lb s a)(ha:a<=s.length)(hs:s.length<=65536)(hk:∀H' a',Kx lb H n H' n->LAt H' lb s a'->a'<=s.length->s.drop a'=DV false (s.drop a)->k (.JL []) H' n):
 Runs F G aV [.ptr lb 0] H n k:=by
 refine Am (s:=IQ (P9 lfp G)) UN (by obtain⟨h,o⟩:=uP Ap G;rw[UN]at h;cases h;exact o) ?_
 show P9 lfp G (Runs F G) (.ptr lb 0) H n k
 delta P9
 obtain⟨R,hR⟩:∃R,DV false (s.drop a)=R:=⟨_,rfl⟩
 rw[hR]at hk
 refine NW (J:=λm q=>∃H' a',m=s.length-a'/\q=(.ptr lb 0,H',n)/\Kx lb H n H' n/\LAt H' lb s a'/\a'<=s.length/\DV false (s.drop a')=R) ?_ (m:=s.length-a) ⟨H,a,rfl,rfl,Kx.refl ..,h,ha,hR⟩
 rintro I m q ⟨H1,b,rfl,rfl,f1,h1,hb,hR⟩ ih
 show Q5 lfp G (Runs F G) k I (.ptr lb 0) H1 n
 delta Q5
 obtain⟨line,col,_,_,_,_,hg⟩:=id h1
 have e0:AZ (.ptr lb 0) G H1=some (sB s):=AQ hg rfl
 have e1:AZ (.ptr lb 1) G H1=some (.int .i64 (.ofNat b) 0):=AQ hg rfl
 simp only[go_sem,Nat.reduceAdd,e0,e1,jM,Ht]
 rcases Nat.lt_or_ge b s.length with hlt|hge
 ·simp only[hlt,decide_true,go_sem,Nat.reduceAdd,e0,e1,AE5 hlt,VN]
  have hR':=hR
  rw[List.drop_eq_getElem_cons hlt,show ∀(c:UInt8) (l:Bs),DV false (c::l)=bif blank c then DV false l else bif pre [47,47] (c::l)then DV true l else c::l from λ_ _=>rfl,<-List.drop_eq_getElem_cons hlt]at hR'
  have step1:blank s[b]=true->Runs F G Jt [.ptr lb 0,.int .i64 (.ofNat 1) 0] H1 n λ_ H n=>I (.ptr lb 0,H,n):=by
   intro hbl
   rw[hbl]at hR'
   refine AHK h1 (by omega) hs λH2 f2 h2=>ih (s.length-(b+1)) _ (by omega) ⟨H2,b+1,rfl,rfl,f1.trans f2,h2,by omega,hR'⟩
  have fin:∀m',b+m'<=s.length->0<m'->DV false (s.drop (b+m'))=R->FD lfp G (Runs F G) k I (.ptr lb 0) (.int .i64 (.ofNat m') 0) H1 n:=by
   intro m' h2 h3 h4
   delta FD
   exact AHK h1 h2 hs λH2 f2 h2=>ih (s.length-(b+m')) _ (by omega) ⟨H2,b+m',rfl,rfl,f1.trans f2,h2,by omega,h4⟩
  have step2:blank s[b]=false->Runs F G Mc [sB (s.drop b),sB [47,47]] H1 n λv35 H n=>Ae v35 true (AP (BU (.ptr lb 0)) λv36=>
   AP (AU 0 v36) λv37=>AP (AZ v37 G H) λv38=>AP (BU (.ptr lb 0)) λv39=>AP (AU 1 v39) λv40=>AP (AZ v40 G H) λv41=>AP (X0 v38 E0 (some (.c v41)) none) λv42=>
   Runs F G Qw [v42,(.int .u8 (.ofNat 10) 0)] H n λv43 H n=>
   AP (B2.ev .lss v43 (.int .i64 (.ofNat 0) 0)) λv46=>
   Ae v46 true (AP (BU (.ptr lb 0)) λv47=>AP (AU 0 v47) λv48=>AP (AZ v48 G H) λv49=>AP (aA v49) λv50=>AP (BU (.ptr lb 0)) λv51=>AP (AU 1 v51) λv52=>AP (AZ v52 G H) λv53=>
   AP (B2.ev .sub v50 v53) λv54=>FD lfp G (Runs F G) k I (.ptr lb 0) v54 H n) (FD lfp G (Runs F G) k I (.ptr lb 0) v43 H n)) (k (.JL []) H n):=by
   intro hbl
   rw[hbl]at hR'
   refine x9 ?_
   cases hp:pre [47,47] (s.drop b)with
   |false=>
    rw[hp]at hR'
    simp only[go_sem]
    exact hk _ _ f1 h1 hb hR'
   |true=>
    rw[hp,cond_false,cond_true,AGb,List.drop_drop]at hR'
    have hne:(s[b]).toNat≠10:=by
     intro e
     simp[blank,e]at hbl
    simp only[go_sem,Nat.reduceAdd,e0,e1,AHL hb]
    refine AFA (by omega) ?_
    have hte:toEnd (s.drop b)=toEnd (s.drop (b+1))+1:=by
     rw[List.drop_eq_getElem_cons hlt,show toEnd (s[b]::s.drop (b+1))=bif decide ((s[b]).toNat=10)then 0 else toEnd (s.drop (b+1))+1 from rfl,decide_eq_false hne];rfl
    have hle:=AFK (s.drop b)
    rw[ACS]
    rw[List.length_drop]at hle⊢
    rw[show b+1+toEnd (s.drop (b+1))=b+toEnd (s.drop b)by omega]at hR'
    split
    ·rename_i he
     have e:B2.ev .lss (.int .i64 (-1) 0) (.int .i64 (.ofNat 0) 0)=some (.bool true):=rfl
     simp only[go_sem,e,Nat.reduceAdd,e0,e1,jM,ACa hb (show s.length<9223372036854775808 by omega)]
     rw[he]at hR'
     exact fin _ (by omega) (by omega) hR'
    ·rw[Nat.zero_add]
     have e:B2.ev .lss (.int .i64 ((toEnd (s.drop b):Nat):Int) 0) (.int .i64 (.ofNat 0) 0)=some (.bool false):=by
      refine(Ht .i64 _ _).trans ?_
      simp
     simp only[go_sem,e]
     exact fin (toEnd (s.drop b)) (by omega) (by omega) hR'
  cases c1:decide ((s[b]).toNat=32)with
  |true=>simp only[go_sem];exact step1 (by simp[blank,c1])
  |false=>
   simp only[go_sem,VN]
   cases c2:decide ((s[b]).toNat=9)with
   |true=>simp only[go_sem];exact step1 (by simp[blank,c2])
   |false=>
    simp only[go_sem,VN]
    cases c3:decide ((s[b]).toNat=10)with
    |true=>simp only[go_sem];exact step1 (by simp[blank,c3])
    |false=>
     simp only[go_sem,VN]
     cases c4:decide ((s[b]).toNat=13)with
     |true=>simp only[go_sem];exact step1 (by simp[blank,c4])
     |false=>
      simp only[go_sem,Nat.reduceAdd,e0,e1,AHL hb,AV2]
      exact step2 (by simp[blank,c1,c2,c3,c4])
 ·have:b=s.length:=by omega
  subst this
  simp only[Nat.lt_irrefl,decide_false,go_sem]
  rw[List.drop_eq_nil_of_le (Nat.le_refl _),show DV false []=[]from rfl]at hR
  exact hk _ _ f1 h1 (Nat.le_refl _) (by rw[List.drop_eq_nil_of_le (Nat.le_refl _)];exact hR)
theorem AFn(g:UInt8->Bool):∀l:Bs,(l.takeWhile g).length<=l.length
 |[]=>Nat.le_refl _
 |c::l=>by have:=AFn g l;rw[List.takeWhile_cons];split<;>simp<;>omega
theorem AJM(g:UInt8->Bool):∀l:Bs,l.take (l.takeWhile g).length=l.takeWhile g
 |[]=>rfl
 |c::l=>by rw[List.takeWhile_cons];split; · simp[AJM g l]
           ·rfl
def ASI(G:AY)(f:Nat)(g:UInt8->Bool):Prop:=∀(c:UInt8) (H:Heap) (n:Nat) (k:KV),k (.bool (g c)) H n->Runs F G f [.int .u8 (.ofNat c.toNat) 0] H n k
theorem ANB{f:Nat}{g:UInt8->Bool}(hf:ASI G f g)(h:LAt H lb s a)(ha:a<=s.length)(hs:s.length<=65536)(hk:k (sB ((s.drop a).takeWhile g)) H n):
 Runs F G Rt [.ptr lb 0,.fn f [] []] H n k:=by
 refine Am (s:=RG (Ru lfp G)) U3 (by obtain⟨h,o⟩:=wY Ap G;rw[U3]at h;cases h;exact o) ?_
 show Ru lfp G (Runs F G) (.ptr lb 0) (.fn f [] []) H n k
 delta Ru
 obtain⟨line,col,_,_,_,_,hg⟩:=id h
 have e0:AZ (.ptr lb 0) G H=some (sB s):=AQ hg rfl
 have e1:AZ (.ptr lb 1) G H=some (.int .i64 (.ofNat a) 0):=AQ hg rfl
 refine NW (J:=λm q=>∃j,m=s.length-(a+j)/\q=(.ptr lb 0,.fn f [] [],.int .i64 (.ofNat j) 0,H,n)/\a+j<=s.length/\j+((s.drop (a+j)).takeWhile g).length=((s.drop a).takeWhile g).length) ?_ (m:=s.length-a)
  ⟨0,rfl,rfl,ha,by simp⟩
 rintro I m q ⟨j,rfl,rfl,hj,he⟩ ih
 show Qx lfp G (Runs F G) k I (.ptr lb 0) (.fn f [] []) (.int .i64 (.ofNat j) 0) H n
 delta Qx
 have fin:j=((s.drop a).takeWhile g).length->Ny lfp G (Runs F G) k (.ptr lb 0) (.int .i64 (.ofNat j) 0) H n:=by
  intro hj2
  delta Ny
  simp only[go_sem,Nat.reduceAdd,e0,e1,Iz (show a+j<9223372036854775808 by omega),AMk (show a<=a+j by omega) hj]
  rw[show a+j-a=j by omega,hj2,AJM]
  exact hk
 simp only[go_sem,Nat.reduceAdd,e0,e1,jM,Iz (show a+j<9223372036854775808 by omega),Ht]
 rcases Nat.lt_or_ge (a+j) s.length with hlt|hge
 ·simp only[hlt,decide_true,go_sem,Nat.reduceAdd,e0,e1,Iz (show a+j<9223372036854775808 by omega),AE5 hlt,mP]
  rw[List.drop_eq_getElem_cons hlt,List.takeWhile_cons]at he
  refine hf _ _ _ _ ?_
  cases hc:g s[a+j]with
  |true=>
   rw[hc]at he
   simp only[go_sem,Iz (show j+1<9223372036854775808 by omega)]
   exact ih (s.length-(a+(j+1))) _ (by omega) ⟨j+1,rfl,rfl,by omega,by rw[show a+(j+1)=a+j+1 by omega,<-he];simp;omega⟩
  |false=>
   rw[hc]at he
   simp only[go_sem]
   exact fin (by simpa using he)
 ·have:¬a+j<s.length:=by omega
  simp only[this,decide_false,go_sem]
  rw[List.drop_eq_nil_of_le hge]at he
  exact fin (by simpa using he)
end
def TP(t:Tok)(line col:Nat):LV:=[.int .i64 (.ofNat t.kind) 0,sB t.text,.int .i64 (.ofNat t.num) 0,.int .i64 (.ofNat line) 0,.int .i64 (.ofNat col) 0]
def wW(t:Tok):Nat×Tok:=bif decide (t.kind=0)then(20,TN)else bif decide (40<t.text.length)&& !decide (t.kind=4)then(4,TN)else(0,t)
def Xx(G:AY):Prop:=G 0 0 22=some (EX.map sB)
def AGT(k:KV)(H:Heap)(n lb:Nat)(s:Bs)(a:Nat)(r:Nat×Tok):Prop:=∀(H':Heap) (n':Nat) (c:LV),Kx lb H n H' n'->LAt H' lb s (a+r.2.text.length)->c.length=5->(r.1=0->∃line col,1<=line/\1<=col/\c=TP r.2 line col)->
 k (.JL [.agg c,.int .i64 (.ofNat r.1) 0]) H' n'
section
variable{G:AY}{H:Heap}{n lb a:Nat}{s:Bs}{k:KV}
theorem AEg{z0 z1 z2 z3 z4:V}:Cj [z0,z1,z2,z3,z4] []=some (.agg [z0,z1,z2,z3,z4]):=rfl
theorem AQK{z0 z1 z2 z3 z4 a b:V}:Cj [z0,z1,z2,z3,z4] [(3,2,.c (.agg [a,b]))]=some (.agg [z0,z1,z2,a,b]):=rfl
theorem AGf{H0:Heap}{n0 p q:Nat}{t:Tok}{line col:Nat}{z0 z1 z2 z3 z4:V}(f0:Kx lb H0 n0 H n)(hp:T.get H p=some (one [z0,z1,z2,z3,z4]))(hq:T.get H q=some (one (TP t line col)))(hpq:p≠q)(hpl:p≠lb)(hql:q≠lb)
 (hp0:n0<=p) (hpn:p<n) (hqn:q<n) (h:LAt H lb s a) (ha:a+t.text.length<=s.length) (hs:s.length<=65536) (h1:1<=line) (h2:1<=col) (hk:AGT k H0 n0 lb s a (wW t)):
 Dp lfp G (Runs F G) k (.ptr lb 0) (.ptr p 0) (.ptr q 0) H n:=by
 delta Dp
 have q0:AZ (.ptr q 0) G H=some (.int .i64 (.ofNat t.kind) 0):=AQ hq rfl
 have q1:AZ (.ptr q 1) G H=some (sB t.text):=AQ hq rfl
 unfold wW at hk
 simp only[go_sem,Nat.reduceAdd,q0,VN]
 have zz:∀e:Nat,AGT k H0 n0 lb s a (e,TN)->e≠0->Df 5 (.ptr p 0) (.agg [.int .i64 (.ofNat 0) 0,.str 0 0,.int .i64 (.ofNat 0) 0,.int .i64 (.ofNat 0) 0,.int .i64 (.ofNat 0) 0]) H n λ_ H n=>
  Ip (EI [.cn (.ptr p 0) 5,.t (.int .i64 (.ofNat e) 0)] G H) λl=>k (Hr l) H n:=by
  intro e hk he
  rw[Xc (m:=5) hp (by omega) rfl rfl,ED (m:=5) (T.Cm ..) (by omega) rfl]
  simp only[go_sem]
  obtain⟨line,col,x1,x2,x3,x4,hg⟩:=h
  refine hk _ _ _ ⟨f0.le,λid hid hb=>?_⟩ ⟨line,col,x1,x2,x3,x4,?_⟩ rfl (λh=>absurd h he)
  ·rw[T.Ak _ _ (by omega)];exact f0.same id hid hb
  ·rw[T.Ak _ _ hpl];exact hg
 cases c1:decide (t.kind=0)with
 |true=>
  rw[c1]at hk
  simp only[go_sem,AEg]
  exact zz 20 hk (by omega)
 |false=>
  rw[c1]at hk
  simp only[go_sem,Nat.reduceAdd,q1,jM,kN]
  have fin:AGT k H0 n0 lb s a (0,t)->Runs F G Jt [.ptr lb 0,.int .i64 (.ofNat t.text.length) 0] H n λ_ H n=>AP (A8 5 (.ptr q 0) G H) λv45=>
   Df 5 (.ptr p 0) v45 H n λv46 H n=>Ip (EI [.cn (.ptr p 0) 5,.t (.int .i64 (.ofNat 0) 0)] G H) λl=>k (Hr l) H n:=by
   intro hk
   refine AHK h ha hs λH2 f2 h2=>?_
   have hq2:T.get H2 q=_:=f2.get hq hqn hql
   have hp2:T.get H2 p=_:=f2.get hp hpn hpl
   rw[Ah (m:=5) hq2 (by omega) rfl,BA,Xc (m:=5) hp2 (by omega) rfl rfl,ED (m:=5) (T.Cm ..) (by omega) rfl]
   simp only[go_sem]
   have f3:=f0.trans f2
   obtain⟨l1,c1,x1,x2,x3,x4,hg⟩:=h2
   refine hk _ _ _ ⟨f3.le,λid hid hb=>?_⟩ ⟨l1,c1,x1,x2,x3,x4,?_⟩ rfl λ_=>⟨line,col,h1,h2,rfl⟩
   ·rw[T.Ak _ _ (by omega)];exact f3.same id hid hb
   ·rw[T.Ak _ _ hpl];exact hg
  cases c2:decide (40<t.text.length)with
  |false=>
   rw[c2]at hk
   simp only[go_sem,Nat.reduceAdd,q1,jM]
   exact fin hk
  |true=>
   rw[c2]at hk
   simp only[go_sem,Nat.reduceAdd,q0,aY]
   cases c3:decide (t.kind=4)with
   |true=>
    rw[c3]at hk
    simp only[Bool.not_true,go_sem,Nat.reduceAdd,q1,jM]
    exact fin hk
   |false=>
    rw[c3]at hk
    simp only[Bool.not_false,go_sem,AEg]
    exact zz 4 hk (by omega)
theorem MI{m o id:Nat}{L:LV}(h:T.get H id=some (one L))(hm:0<m)(hl:o+m<=L.length):A8 m (.ptr id o) G H=some (.agg ((L.drop o).take m)):=VX h hm hl
theorem ATM(hG:Xx G)(h:LAt H lb s a)(ha:a<=s.length)(hs:s.length<=65536)(hlb:lb<n)(hk:AGT k H n lb s a (Gz (s.drop a))):
 Runs F G Zg [.ptr lb 0] H n k:=by
 refine Am (s:=IQ (QM lfp G)) TR (by obtain⟨h,o⟩:=vG Ap G;rw[TR]at h;cases h;exact o) ?_
 show QM lfp G (Runs F G) (.ptr lb 0) H n k
 delta QM
 obtain⟨line,col,x1,x2,x3,x4,hg⟩:=id h
 have hne:lb≠n:=by omega
 have hne1:lb≠n+1:=by omega
 have d0:AZ (.ptr lb 0) G H=some (sB s):=AQ hg rfl
 have d1:AZ (.ptr lb 1) G H=some (.int .i64 (.ofNat a) 0):=AQ hg rfl
 have e2:A8 2 (.ptr lb 2) G H=some (.agg [.int .i64 (.ofNat line) 0,.int .i64 (.ofNat col) 0]):=MI hg (by omega) (by show 2+2<=4;omega)
 simp only[go_sem,Nat.reduceAdd,hne,hne1,e2,AQK]
 rw[T.set_set]
 have f1:Kp H n (T.set (T.set H n (one [.int .i64 (.ofNat 0) 0,.str 0 0,.int .i64 (.ofNat 0) 0,.int .i64 (.ofNat 0) 0,.int .i64 (.ofNat 0) 0])) (n+1) (one [.int .i64 (.ofNat 0) 0,.str 0 0,.int .i64 (.ofNat 0) 0,.int .i64 (.ofNat line) 0,.int .i64 (.ofNat col) 0])) (n+1+1):=
  ((Kp.refl H n).new (m:=n+1) _ (Nat.le_refl _) (by omega)).new _ (by omega) (by omega)
 have g1:=(T.Ak (T.set H n (one [V.int .i64 (.ofNat 0) 0,.str 0 0,.int .i64 (.ofNat 0) 0,.int .i64 (.ofNat 0) 0,.int .i64 (.ofNat 0) 0])) (one [.int .i64 (.ofNat 0) 0,.str 0 0,.int .i64 (.ofNat 0) 0,.int .i64 (.ofNat line) 0,.int .i64 (.ofNat col) 0]) (show n+1≠n by omega)).trans (T.Cm ..)
 have g2:=T.Cm (T.set H n (one [V.int .i64 (.ofNat 0) 0,.str 0 0,.int .i64 (.ofNat 0) 0,.int .i64 (.ofNat 0) 0,.int .i64 (.ofNat 0) 0])) (n+1) (one [V.int .i64 (.ofNat 0) 0,.str 0 0,.int .i64 (.ofNat 0) 0,.int .i64 (.ofNat line) 0,.int .i64 (.ofNat col) 0])
 generalize T.set (T.set H n (one [V.int .i64 (.ofNat 0) 0,.str 0 0,.int .i64 (.ofNat 0) 0,.int .i64 (.ofNat 0) 0,.int .i64 (.ofNat 0) 0])) (n+1) (one [V.int .i64 (.ofNat 0) 0,.str 0 0,.int .i64 (.ofNat 0) 0,.int .i64 (.ofNat line) 0,.int .i64 (.ofNat col) 0])=H1 at f1 g1 g2⊢
 have h:=h.kp hlb f1
 have hg:=f1.get hg hlb
 have e0:AZ (.ptr lb 0) G H1=some (sB s):=AQ hg rfl
 have e1:AZ (.ptr lb 1) G H1=some (.int .i64 (.ofNat a) 0):=AQ hg rfl
 simp only[go_sem,d0,d1,jM,VN]
 have g2:T.get H1 (n+1)=some (one (TP TN line col)):=g2
 rcases Nat.lt_or_ge a s.length with hlt|hge
 case inr=>
  have:a=s.length:=by omega
  subst this
  simp only[decide_true,go_sem]
  rw[List.drop_eq_nil_of_le (Nat.le_refl _)]at hk
  rw[Xc (m:=5) g1 (by omega) rfl rfl,ED (m:=5) (T.Cm ..) (by omega) rfl]
  simp only[go_sem]
  obtain⟨l1,c1,y1,y2,y3,y4,hg⟩:=h
  refine hk _ _ _ ((f1.set _ (Nat.le_refl _)).kx) ⟨l1,c1,y1,y2,y3,y4,?_⟩ rfl λ_=>⟨line,col,x1,x2,rfl⟩
  rw[T.Ak _ _ (by omega)];exact hg
 case inl=>
 have hd:=List.drop_eq_getElem_cons hlt
 simp only[show decide (a=s.length)=false by simp;omega,go_sem,Nat.reduceAdd,d0,d1,AE5 hlt]
 rw[hd,show ∀(c:UInt8) (l:Bs),Gz (c::l)=(bif great c then XC ⟨2,(c::l).takeWhile inner,0⟩else
  bif small c then XC ⟨bif decide ((c::l).takeWhile inner∈Nv)then 1 else 3,(c::l).takeWhile inner,0⟩else
  bif digit c then(match WT 0 ((c::l).takeWhile digit)with|none=>(22,TN)|some n=>(0,⟨4,(c::l).takeWhile digit,n⟩))else
  match EX.find? (λm=>pre m (c::l))with|none=>(20,TN)|some m=>(0,⟨5,m,0⟩))from λ_ _=>rfl,<-hd]at hk
 have f0:=f1.kx (b:=lb)
 have hq:n+1≠lb:=by omega
 have AHa:∀{H2:Heap} {t:Tok} {kd:Nat} {P:KV},T.get H2 (n+1)=some (one (TP t line col))->(∀H3,T.get H3 (n+1)=some (one (TP {t with kind:=kd} line col))->(∀j,j≠n+1->T.get H3 j=T.get H2 j)->P .undef H3 (n+1+1))->
  Df 1 (.ptr (n+1) 0) (.int .i64 (.ofNat kd) 0) H2 (n+1+1) P:=by
  intro H2 t kd P hg hP
  exact Ew hg rfl rfl (by omega) (by show 0+1<=5;omega) λH3 g3 s3=>hP H3 g3 s3
 have AQZ:∀{H2:Heap} {t:Tok} {tx:Bs} {P:KV},T.get H2 (n+1)=some (one (TP t line col))->(∀H3,T.get H3 (n+1)=some (one (TP {t with text:=tx} line col))->(∀j,j≠n+1->T.get H3 j=T.get H2 j)->P .undef H3 (n+1+1))->
  Df 1 (.ptr (n+1) 1) (sB tx) H2 (n+1+1) P:=by
  intro H2 t tx P hg hP
  exact Ew hg rfl rfl (by omega) (by show 1+1<=5;omega) λH3 g3 s3=>hP H3 g3 s3
 have AYb:∀{H2:Heap} {t:Tok} {nu:Nat} {P:KV},T.get H2 (n+1)=some (one (TP t line col))->(∀H3,T.get H3 (n+1)=some (one (TP {t with num:=nu} line col))->(∀j,j≠n+1->T.get H3 j=T.get H2 j)->P .undef H3 (n+1+1))->
  Df 1 (.ptr (n+1) 2) (.int .i64 (.ofNat nu) 0) H2 (n+1+1) P:=by
  intro H2 t nu P hg hP
  exact Ew hg rfl rfl (by omega) (by show 2+1<=5;omega) λH3 g3 s3=>hP H3 g3 s3
 have ABb:∀{H2 H3:Heap},Kx lb H n H2 (n+1+1)/\T.get H2 n=T.get H1 n/\LAt H2 lb s a->(∀j,j≠n+1->T.get H3 j=T.get H2 j)->Kx lb H n H3 (n+1+1)/\T.get H3 n=T.get H1 n/\LAt H3 lb s a:=by
  intro H2 H3 ⟨x,y,z⟩ hs
  obtain⟨l1,c1,y1,y2,y3,y4,hg⟩:=z
  exact⟨⟨by omega,λid hid hb=>(hs id (by omega)).trans (x.same id hid hb)⟩,(hs n (by omega)).trans y,l1,c1,y1,y2,y3,y4,(hs lb (by omega)).trans hg⟩
 have b0:Kx lb H n H1 (n+1+1)/\T.get H1 n=T.get H1 n/\LAt H1 lb s a:=⟨f0,rfl,h⟩
 have fin:∀{H2:Heap} {t:Tok},Kx lb H n H2 (n+1+1)/\T.get H2 n=T.get H1 n/\LAt H2 lb s a->T.get H2 (n+1)=some (one (TP t line col))->a+t.text.length<=s.length->AGT k H n lb s a (wW t)->
  Dp lfp G (Runs F G) k (.ptr lb 0) (.ptr n 0) (.ptr (n+1) 0) H2 (n+1+1):=λb g ht hk=>
  AGf b.1 (b.2.1.trans g1) g (by omega) (by omega) hq (by omega) (by omega) (by omega) b.2.2 ht hs x1 x2 hk
 have hin:=AFn inner (s.drop a)
 have hdi:=AFn digit (s.drop a)
 rw[List.length_drop]at hin hdi
 refine AIr ?_
 cases k1:great s[a]with
 |true=>
  rw[k1]at hk
  simp only[go_sem]
  refine ANB (f:=kS) (λc H n k hk=>AJR hk) h ha hs ?_
  refine AHa g2 λH2 g s2=>?_
  refine AQZ g λH3 g s3=>?_
  refine fin (ABb (ABb b0 s2) s3) g (by show a+(List.takeWhile inner (s.drop a)).length<=_;omega) ?_
  have e:wW ⟨2,(s.drop a).takeWhile inner,0⟩=XC ⟨2,(s.drop a).takeWhile inner,0⟩:=by simp[wW,XC]
  exact e▸hk
 |false=>
  rw[k1]at hk
  simp only[go_sem]
  refine AIZ ?_
  cases k2:small s[a]with
  |true=>
   rw[k2]at hk
   simp only[go_sem]
   refine ANB (f:=kS) (λc H n k hk=>AJR hk) h ha hs ?_
   refine AHa g2 λH2 g s2=>?_
   refine AQZ g λH3 g s3=>?_
   have q1:AZ (.ptr (n+1) 1) G H3=some (sB ((s.drop a).takeWhile inner)):=AQ g rfl
   simp only[go_sem,Nat.reduceAdd,q1]
   refine AQW ?_
   cases k3:decide ((s.drop a).takeWhile inner∈Nv)with
   |true=>
    rw[k3]at hk
    simp only[go_sem,Nat.reduceAdd]
    refine AHa g λH4 g s4=>?_
    refine fin (ABb (ABb (ABb b0 s2) s3) s4) g (by show a+(List.takeWhile inner (s.drop a)).length<=_;omega) ?_
    have e:wW ⟨1,(s.drop a).takeWhile inner,0⟩=XC ⟨1,(s.drop a).takeWhile inner,0⟩:=by simp[wW,XC]
    exact e▸hk
   |false=>
    rw[k3]at hk
    simp only[go_sem]
    refine fin (ABb (ABb b0 s2) s3) g (by show a+(List.takeWhile inner (s.drop a)).length<=_;omega) ?_
    have e:wW ⟨3,(s.drop a).takeWhile inner,0⟩=XC ⟨3,(s.drop a).takeWhile inner,0⟩:=by simp[wW,XC]
    exact e▸hk
  |false=>
   rw[k2]at hk
   simp only[go_sem]
   refine ADh ?_
   cases k3:digit s[a]with
   |true=>
    rw[k3]at hk
    simp only[go_sem]
    refine ANB (f:=Yl) (λc H n k hk=>ADh hk) h ha hs ?_
    refine AHa g2 λH2 g s2=>?_
    refine AQZ g λH3 g s3=>?_
    have q1:AZ (.ptr (n+1) 1) G H3=some (sB ((s.drop a).takeWhile digit)):=AQ g rfl
    simp only[go_sem,Nat.reduceAdd,q1]
    have b3:=ABb (ABb b0 s2) s3
    have htw:∀c∈(s.drop a).takeWhile digit,digit c=true:=λc hc=>by
     have:=List.all_takeWhile (l:=s.drop a) (p:=digit);exact List.all_eq_true.1 this c hc
    refine ANy htw (by omega) λH4 f4=>?_
    have g4:=f4.get g (by omega)
    have b4:=b3.1.trans f4.kx
    have gn:=f4.get (b3.2.1.trans g1) (by omega)
    have h4:=b3.2.2.kp (n:=n+1+1) (by omega) f4
    cases hnum:WT 0 ((s.drop a).takeWhile digit)with
    |none=>
     rw[hnum]at hk
     simp only[ASg,go_sem,Nat.reduceAdd]
     refine Ew g4 rfl rfl (by omega) (by show 2+1<=5;omega) λH5 g5 s5=>?_
     have e:YF (.bool false)=some (.bool true):=rfl
     simp only[go_sem,e,AEg]
     have gn5:=(s5 n (by omega)).trans gn
     rw[Xc (m:=5) gn5 (by omega) rfl rfl,ED (m:=5) (T.Cm ..) (by omega) rfl]
     simp only[go_sem]
     obtain⟨l1,c1,y1,y2,y3,y4,hg⟩:=h4
     refine hk _ _ _ ⟨by omega,λid hid hb=>?_⟩ ⟨l1,c1,y1,y2,y3,y4,?_⟩ rfl λh=>by cases h
     ·rw[T.Ak _ _ (by omega),s5 _ (by omega)];exact b4.same id hid hb
     ·rw[T.Ak _ _ (by omega),s5 _ (by omega)];exact hg
    |some nu=>
     rw[hnum]at hk
     simp only[ASg,go_sem,Nat.reduceAdd]
     refine Ew g4 rfl rfl (by omega) (by show 2+1<=5;omega) λH5 g5 s5=>?_
     have e:YF (.bool true)=some (.bool false):=rfl
     simp only[go_sem,e]
     have gn5:=(s5 n (by omega)).trans gn
     have g5:T.get H5 (n+1)=some (one (TP ⟨4,(s.drop a).takeWhile digit,nu⟩ line col)):=g5
     have b5:Kx lb H n H5 (n+1+1+1):=⟨b4.le,λid hid hb=>(s5 id (by omega)).trans (b4.same id hid hb)⟩
     obtain⟨l1,c1,y1,y2,y3,y4,hg⟩:=h4
     refine AGf b5 gn5 g5 (by omega) (by omega) hq (by omega) (by omega) (by omega) ⟨l1,c1,y1,y2,y3,y4,(s5 _ (by omega)).trans hg⟩ (by show a+(List.takeWhile digit (s.drop a)).length<=_;omega) hs x1 x2 ?_
     have e:wW ⟨4,(s.drop a).takeWhile digit,nu⟩=(0,⟨4,(s.drop a).takeWhile digit,nu⟩):=by simp[wW]
     exact e▸hk
   |false=>
    rw[k3]at hk
    simp only[go_sem]
    have e80:A8 22 (.VG 0 0) G H1=some (.agg (EX.map sB)):=by
     show OO (G 0 0 22) (λL=>some (.agg L))=_
     rw[hG];rfl
    simp only[go_sem,e80]
    obtain⟨R,hR⟩:∃R,EX.find? (λm=>pre m (s.drop a))=R:=⟨_,rfl⟩
    rw[hR]at hk
    refine IZ (N:=22) (J:=λj q=>q=(.ptr lb 0,.ptr n 0,.ptr (n+1) 0,.agg (EX.map sB),.int .i64 (.ofNat j) 0,H1,n+1+1)/\(EX.drop j).find? (λm=>pre m (s.drop a))=R) ?_ ?_ ⟨rfl,hR⟩
    ·rintro I j q hlt ⟨rfl,hR⟩ ih
     show JC lfp G (Runs F G) k I (.ptr lb 0) (.ptr n 0) (.ptr (n+1) 0) (.agg (EX.map sB)) (.int .i64 (.ofNat j) 0) H1 (n+1+1)
     delta JC
     have hj:j<EX.length:=hlt
     rw[List.drop_eq_getElem_cons hj,List.find?_cons]at hR
     have hlen:(EX[j]).length<=2:=by
      have:∀m∈EX,m.length<=2:=by decide
      exact this _ (List.getElem_mem hj)
     have hix:ARL 22 (.agg (EX.map sB)) (.int .i64 (.ofNat j) 0)=some (sB EX[j]):=by
      show BJ (Nat.blt j 22) (nth (EX.map sB) j)=_
      rw[show Nat.blt j 22=true by rw[Nat.blt_eq];exact hlt,dA]
      show(EX.map sB)[j]? =_
      simp[hj]
     generalize EX[j]=m at hR hlen hix
     simp only[go_sem,Ht,hlt,decide_true,hix,Nat.reduceAdd,e0,e1,AHL ha]
     refine x9 ?_
     cases hp:pre m (s.drop a)with
     |true=>
      rw[hp]at hR
      subst hR
      simp only[go_sem,Nat.reduceAdd]
      refine AHa g2 λH2 g s2=>?_
      refine AQZ g λH3 g s3=>?_
      have hle:m.length<=s.length-a:=by
       unfold pre at hp
       rw[List.length_drop]at hp
       simp only[Bool.and_eq_true,decide_eq_true_eq]at hp
       exact hp.1
      refine fin (ABb (ABb b0 s2) s3) g (by show a+m.length<=_;omega) ?_
      have e:wW ⟨5,m,0⟩=(0,⟨5,m,0⟩):=by
       have:¬40<m.length:=by omega
       simp[wW,this]
      exact e▸hk
     |false=>
      rw[hp]at hR
      simp only[go_sem,Iz (show j+1<9223372036854775808 by omega)]
      exact ih _ ⟨rfl,hR⟩
    ·rintro I q ⟨rfl,hR⟩
     show JC lfp G (Runs F G) k I (.ptr lb 0) (.ptr n 0) (.ptr (n+1) 0) (.agg (EX.map sB)) (.int .i64 (.ofNat 22) 0) H1 (n+1+1)
     delta JC
     rw[show EX.drop 22=[]from rfl]at hR
     subst hR
     simp only[go_sem,Ht,Nat.lt_irrefl,decide_false]
     exact fin b0 g2 (by show a+0<=_;omega) hk
end
def AIY(c:LV)(t:Tok):Prop:=∃line col,1<=line/\1<=col/\c=TP t line col
theorem ABH(c:UInt8)(l:Bs):Gz (c::l)=(bif great c then XC ⟨2,(c::l).takeWhile inner,0⟩else
 bif small c then XC ⟨bif decide ((c::l).takeWhile inner∈Nv)then 1 else 3,(c::l).takeWhile inner,0⟩else
 bif digit c then(match WT 0 ((c::l).takeWhile digit)with|none=>(22,TN)|some n=>(0,⟨4,(c::l).takeWhile digit,n⟩))else
 match EX.find? (λm=>pre m (c::l))with|none=>(20,TN)|some m=>(0,⟨5,m,0⟩)):=rfl
theorem AN6:∀r:Bs,(Gz r).2.text.length<=r.length
 |[]=>Nat.le_refl _
 |c::l=>by
  have h1:=AFn inner (c::l)
  have h2:=AFn digit (c::l)
  have hc:∀t:Tok,t.text.length<=(c::l).length->(XC t).2.text.length<=(c::l).length:=by
   intro t ht;unfold XC;cases decide (40<t.text.length)
   ·exact ht
   ·exact Nat.zero_le _
  rw[ABH]
  cases great c
  case true=>exact hc ⟨2,_,0⟩ h1
  cases small c
  case true=>exact hc ⟨_,_,0⟩ h1
  cases digit c
  case true=>
   simp only[cond_true,cond_false]
   cases WT 0 ((c::l).takeWhile digit)with
   |none=>exact Nat.zero_le _
   |some n=>exact h2
  simp only[cond_false]
  cases hf:EX.find? (λm=>pre m (c::l))with
  |none=>exact Nat.zero_le _
  |some m=>
   have:=List.find?_some hf
   simp only[pre,Bool.and_eq_true,decide_eq_true_eq]at this
   exact this.1
theorem AKr:∀r:Bs,(Gz r).1=0->(Gz r).2.kind≠0->0<(Gz r).2.text.length
 |[]=>λ_ h=>absurd rfl h
 |c::l=>by
  have hc:∀t:Tok,0<t.text.length->(XC t).1=0->0<(XC t).2.text.length:=by
   intro t ht;unfold XC;cases decide (40<t.text.length)
   ·exact λ_=>ht
   ·intro h;cases h
  have tw:∀g:UInt8->Bool,g c=true->0<((c::l).takeWhile g).length:=λg h=>by rw[List.takeWhile_cons,h];simp
  rw[ABH]
  cases h1:great c
  case true=>exact λh _=>hc ⟨2,_,0⟩ (tw inner (by simp[inner,h1])) h
  cases h2:small c
  case true=>exact λh _=>hc ⟨_,_,0⟩ (tw inner (by simp[inner,h2])) h
  cases h3:digit c
  case true=>
   simp only[cond_true,cond_false]
   cases WT 0 ((c::l).takeWhile digit)with
   |none=>intro h;cases h
   |some n=>exact λ_ _=>tw digit h3
  simp only[cond_false]
  cases hf:EX.find? (λm=>pre m (c::l))with
  |none=>intro h;cases h
  |some m=>
   intro _ _
   have h4:∀m∈EX,0<m.length:=by decide
   exact h4 m (List.mem_of_find?_eq_some hf)
def AU3(G:AY)(k:KV)(H:Heap)(n:Nat)(r:Nat×List Tok):Prop:=∀(H':Heap) (n':Nat) (v:V) (c:LV),Kp H n H' n'->
 (r.1=0->(∃cs id,v=.Qg id 0 cs.length 5/\n<=id/\id<n'/\El G H' v 5 cs/\Pw AIY cs r.2)/\c=[.int .i64 (.ofNat 0) 0,.int .i64 (.ofNat 0) 0,.int .i64 (.ofNat 0) 0])->
 (r.1≠0->∃line col,1<=line/\1<=col/\c=[.int .i64 (.ofNat r.1) 0,.int .i64 (.ofNat line) 0,.int .i64 (.ofNat col) 0])->k (.JL [v,.agg c]) H' n'
theorem AG9{z0 z1 z2 a b:V}(e:Int):Cj [z0,z1,z2] [(0,1,.c (.int .i64 e 0)),(1,2,.c (.agg [a,b]))]=some (.agg [.int .i64 e 0,a,b]):=rfl
theorem ATx{z0 z1 z2:V}:Cj [z0,z1,z2] []=some (.agg [z0,z1,z2]):=rfl
theorem AUd{z0 z1 z2 z3 a b:V}(s:Bs):Cj [z0,z1,z2,z3] [(0,1,.c (sB s)),(2,2,.c (.agg [a,b]))]=some (.agg [sB s,z1,a,b]):=rfl
section
variable{G:AY}{H:Heap}{n:Nat}{s:Bs}{k:KV}
theorem AVa(hG:Xx G)(hk:AU3 G k H n (zN s)):Runs F G AC0 [sB s] H n k:=by
 refine Am (s:=IQ (nI lfp G)) pU (by obtain⟨h,o⟩:=AIP Ap G;rw[pU]at h;cases h;exact o) ?_
 show nI lfp G (Runs F G) (sB s) H n k
 delta nI
 unfold zN at hk
 simp only[go_sem,Nat.reduceAdd,ANd,AUd,jM,kN]
 have f1:Kp H n (T.set (T.set H n (one [.int .i64 (.ofNat 0) 0,.int .i64 (.ofNat 0) 0,.int .i64 (.ofNat 0) 0])) (n+1) (one [sB s,.int .i64 (.ofNat 0) 0,.int .i64 (.ofNat 1) 0,.int .i64 (.ofNat 1) 0])) (n+1+1):=
  ((Kp.refl H n).new (m:=n+1) _ (Nat.le_refl _) (by omega)).new _ (by omega) (by omega)
 have g1:=(T.Ak (T.set H n (one [V.int .i64 (.ofNat 0) 0,.int .i64 (.ofNat 0) 0,.int .i64 (.ofNat 0) 0])) (one [sB s,.int .i64 (.ofNat 0) 0,.int .i64 (.ofNat 1) 0,.int .i64 (.ofNat 1) 0]) (show n+1≠n by omega)).trans (T.Cm ..)
 have g2:=T.Cm (T.set H n (one [V.int .i64 (.ofNat 0) 0,.int .i64 (.ofNat 0) 0,.int .i64 (.ofNat 0) 0])) (n+1) (one [sB s,.int .i64 (.ofNat 0) 0,.int .i64 (.ofNat 1) 0,.int .i64 (.ofNat 1) 0])
 generalize T.set (T.set H n (one [V.int .i64 (.ofNat 0) 0,.int .i64 (.ofNat 0) 0,.int .i64 (.ofNat 0) 0])) (n+1) (one [sB s,.int .i64 (.ofNat 0) 0,.int .i64 (.ofNat 1) 0,.int .i64 (.ofNat 1) 0])=H1 at f1 g1 g2⊢
 cases hs:decide (65536<s.length)with
 |true=>
  rw[hs]at hk
  simp only[go_sem,Nat.reduceAdd]
  rw[MI (m:=2) (o:=2) g2 (by omega) (by show 2+2<=4;omega)]
  simp only[go_sem,List.drop_succ_cons,List.drop_zero,List.take_succ_cons,List.take_zero,AG9]
  rw[Xc (m:=3) g1 (by omega) rfl rfl,ED (m:=3) (T.Cm ..) (by omega) rfl]
  simp only[go_sem]
  exact hk _ _ _ _ (f1.set _ (Nat.le_refl _)) (λh=>by cases h) λ_=>⟨1,1,by omega,by omega,rfl⟩
 |false=>
  rw[hs,cond_false]at hk
  have hs:s.length<=65536:=by simpa using hs
  simp only[go_sem]
  refine NW (J:=λm q=>∃H' n' a v cs xs f,m=s.length-a/\q=(.ptr n 0,.ptr (n+1) 0,v,H',n')/\Kp H n H' n'/\n+2<=n'/\T.get H' n=some (one [.int .i64 (.ofNat 0) 0,.int .i64 (.ofNat 0) 0,.int .i64 (.ofNat 0) 0])/\LAt H' (n+1) s a/\
   a<=s.length/\Own G H' (n+2) n' 5 v cs/\Pw AIY cs xs/\cs.length<=a/\s.length-a<f/\AU3 G k H n ((WB f (s.drop a)).1,xs++(WB f (s.drop a)).2)) ?_ (m:=s.length)
   ⟨H1,n+1+1,0,.Aj,[],[],s.length+1,rfl,rfl,f1,by omega,g1,⟨1,1,by omega,by omega,by omega,by omega,g2⟩,by omega,Yp,.nil,by simp,by omega,hk⟩
  rintro I m q ⟨H2,n2,a,v,cs,xs,f,rfl,rfl,f2,hn2,g0,hl,ha,ho,hx,hcs,hf,hk⟩ ih
  show ZR lfp G (Runs F G) k I (.ptr n 0) (.ptr (n+1) 0) v H2 n2
  delta ZR
  refine ASE hl ha hs λH3 a3 f3 hl3 ha3 hd3=>?_
  refine ATM hG hl3 ha3 hs (by omega) ?_
  obtain⟨f,rfl⟩:∃g,f=g+1:=⟨f-1,by omega⟩
  rw[hd3]
  have hlexF:WB (f+1) (s.drop a)=bif decide ((Gz (DV false (s.drop a))).1=0)then
   bif decide ((Gz (DV false (s.drop a))).2.kind=0)then(0,[(Gz (DV false (s.drop a))).2])
   else((WB f ((DV false (s.drop a)).drop (Gz (DV false (s.drop a))).2.text.length)).1,(Gz (DV false (s.drop a))).2::(WB f ((DV false (s.drop a)).drop (Gz (DV false (s.drop a))).2.text.length)).2)
   else((Gz (DV false (s.drop a))).1,[]):=rfl
  rw[hlexF,<-hd3]at hk
  have hle:=AN6 (s.drop a3)
  have hpos:=AKr (s.drop a3)
  rw[List.length_drop]at hle
  rw[<-hd3]
  intro H4 n4 c f4 hl4 hcl ht
  generalize Gz (s.drop a3)=R at hk hle hpos hl4 ht
  obtain⟨e,t⟩:=R
  simp only[go_sem,Nat.reduceAdd]
  obtain⟨c0,c1,c2,c3,c4,rfl⟩:∃c0 c1 c2 c3 c4,c=[c0,c1,c2,c3,c4]:=by
   match c,hcl with
   |[c0,c1,c2,c3,c4],_=>exact⟨c0,c1,c2,c3,c4,rfl⟩
  have f24:=f3.trans f4
  have hn4:=f24.le
  have g04:T.get H4 n=_:=f24.get g0 (by omega) (by omega)
  have ho4:=ho.kx f24 (by omega)
  have f4':Kp H n H4 n4:=⟨by have:=f2.le;omega,λid hid=>(f24.same id (by omega) (by omega)).trans (f2.same id hid)⟩
  simp only[go_sem,Nat.reduceAdd]
  rw[T.set_set]
  have f5:Kp H4 n4 (T.set H4 n4 (one [c0,c1,c2,c3,c4])) (n4+1):=(Kp.refl _ _).new _ (Nat.le_refl _) (by omega)
  have g5:=T.Cm H4 n4 (one [c0,c1,c2,c3,c4])
  generalize T.set H4 n4 (one [c0,c1,c2,c3,c4])=H5 at f5 g5⊢
  have g05:=f5.get g04 (by omega)
  have f5':=f4'.trans f5
  have hl5:=hl4.kp (n:=n4) (by omega) f5
  simp only[aY]
  cases he:decide (e=0)with
  |false=>
   have he':e≠0:=by simpa using he
   rw[he,cond_false]at hk
   obtain⟨line,col,y1,y2,y3,y4,hg⟩:=hl5
   simp only[Bool.not_false,go_sem,Nat.reduceAdd]
   rw[MI (m:=2) (o:=2) hg (by omega) (by show 2+2<=4;omega)]
   simp only[go_sem,List.drop_succ_cons,List.drop_zero,List.take_succ_cons,List.take_zero,AG9]
   rw[Xc (m:=3) g05 (by omega) rfl rfl,ED (m:=3) (T.Cm ..) (by omega) rfl]
   simp only[go_sem]
   exact hk _ _ _ _ (f5'.set _ (Nat.le_refl _)) (λh=>absurd h he') λ_=>⟨line,col,y1,y2,rfl⟩
  |true=>
   have he':e=0:=by simpa using he
   subst he'
   rw[he,cond_true]at hk
   obtain⟨line,col,y1,y2,hc⟩:=ht rfl
   rw[hc]at g5⊢
   simp only[Bool.not_true,go_sem]
   refine O3 (G:=G) (vs:=[.agg (TP t line col)]) rfl (by omega) (λv hv=>by simp at hv;subst hv;exact⟨rfl,rfl⟩) λH6 f6 _ hel=>?_
   have ho6:=(ho4.kp f5).kp f6
   refine ho6.gr.app (by omega) ho6.lo hel.2 (by show(cs.length+1)*48<=_;omega) ?_ (λh=>by cases h)
   intro v' H7 hgr hsame hlo
   have hgr:Gr G H7 (n+2) 5 v' (cs++[TP t line col]):=hgr
   have f7:Kp H n H7 (n4+1+1+1):=⟨by have:=f5'.le;omega,λid hid=>(hsame id (by have:=f5'.le;omega) (λh=>by have:=ho6.ge h;omega)).trans ((f6.same id (by have:=f5'.le;omega)).trans (f5'.same id hid))⟩
   have g7:∀{id:Nat} {b:Pn},id<n+2->T.get H5 id=some b->T.get H7 id=some b:=λhid h=>(hsame _ (by omega) (λh=>by have:=ho6.ge h;omega)).trans ((f6.same _ (by omega)).trans h)
   have g57:T.get H7 n4=some (one (TP t line col)):=(hsame n4 (by omega) (λh=>by have:=ho4.lo _ h;omega)).trans ((f6.same n4 (by omega)).trans g5)
   have q0:AZ (.ptr n4 0) G H7=some (.int .i64 (.ofNat t.kind) 0):=AQ g57 rfl
   have hel7:El G H7 v' 5 (cs++[TP t line col]):=hgr.el (by omega)
   have hpw:Pw AIY (cs++[TP t line col]) (xs++[t]):=hx.app (.cons ⟨line,col,y1,y2,rfl⟩ .nil)
   simp only[go_sem,Nat.reduceAdd,q0,VN]
   cases hkd:decide (t.kind=0)with
   |true=>
    rw[hkd,cond_true]at hk
    simp only[go_sem,ATx]
    rw[Xc (m:=3) (g7 (by omega) g05) (by omega) rfl rfl,ED (m:=3) (T.Cm ..) (by omega) rfl]
    simp only[go_sem]
    have f8:=f7.set (one [V.int .i64 (.ofNat 0) 0,.int .i64 (.ofNat 0) 0,.int .i64 (.ofNat 0) 0]) (Nat.le_refl n)
    refine hk _ _ _ _ f8 (λ_=>⟨?_,rfl⟩) (λh=>absurd rfl h)
    have hel8:El G (T.set H7 n (one [V.int .i64 (.ofNat 0) 0,.int .i64 (.ofNat 0) 0,.int .i64 (.ofNat 0) 0])) v' 5 (cs++[TP t line col]):=hel7.same λid hid=>T.Ak _ _ (by have:=(hgr.lo hid).1;omega)
    generalize hcs':cs++[TP t line col]=cs' at hgr hel7 hel8 hpw
    cases hgr with
    |nil=>simp at hcs'
    |Qg hg hc ht hid=>
     rename_i id c tt
     exact⟨_,id,rfl,by omega,by have:=hlo id rfl;omega,hel8,hpw⟩
   |false=>
    rw[hkd,cond_false]at hk
    have hkd':t.kind≠0:=by simpa using hkd
    have hp0:0<t.text.length:=hpos rfl hkd'
    have hle:t.text.length<=s.length-a3:=hle
    have hlen:(s.drop a3).length=(DV false (s.drop a)).length:=by rw[hd3]
    have hsk:=kY false (s.drop a)
    rw[List.length_drop]at hlen hsk
    simp only[go_sem]
    have hl7:LAt H7 (n+1) s (a3+t.text.length):=by
     obtain⟨line,col,y1,y2,y3,y4,hg⟩:=hl5
     exact⟨line,col,y1,y2,y3,y4,g7 (by omega) hg⟩
    refine ih (s.length-(a3+t.text.length)) _ (by omega) ⟨H7,n4+1+1+1,a3+t.text.length,v',cs++[TP t line col],xs++[t],f,rfl,rfl,f7,by omega,g7 (by omega) g05,hl7,by omega,⟨hgr,hlo⟩,hpw,?_,by omega,?_⟩
    ·rw[List.length_append];show cs.length+1<=_;omega
    ·rw[List.append_assoc,<-List.drop_drop];exact hk
end
structure S where
 t:Tok
 r:List Tok
 deep:Nat
 e:Nat
abbrev PM(α:Type):=S->Option (α×S)
def S.ok(s:S):Bool:=decide (s.e=0)
def EJ(e:Nat)(s:S):S:=bif s.ok then{s with e:=e}else s
def Qy(w:Bs)(s:S):Bool:=s.ok&&((decide (s.t.kind=1)||decide (s.t.kind=5))&&decide (s.t.text=w))
def Hq(ws:List Bs)(s:S):Bool:=ws.any λw=>Qy w s
def Hu(s:S):Option S:=bif decide (s.t.kind=0)then some s else match s.r with|[]=>none|t::r=>some {s with t:=t,r:=r}
def BZ(w:Bs):PM Bool:=λs=>bif Qy w s then(Hu s).bind λs'=>some (true,s')else some (false,s)
def BM:List Bs->S->Option S
 |[],s=>some s
 |w::ws,s=>(BZ w s).bind λp=>BM ws (bif p.1 then p.2 else EJ 21 p.2)
def Eo(k:Nat):PM Bs:=λs=>bif s.ok&&decide (s.t.kind=k)then(Hu s).bind λs'=>some (s.t.text,s')else some ([],EJ 21 s)
def LD(s:S):Option S:=bif decide (s.deep<1000000)then some (bif decide (100<s.deep+1)then EJ 3 {s with deep:=s.deep+1}else{s with deep:=s.deep+1})else none
def VB(s:S):Option S:=match s.deep with|0=>none|d+1=>bif decide (d<1000000)then some {s with deep:=d}else none
def D9(n:Nat)(s:S):S:=bif decide (200<n)then EJ 4 s else s
structure Ty where
 nm:Bs
 arr:Bool
def Yu:PM Ty:=λs=>(BZ Yw s).bind λp=>bif p.1 then some (⟨Yw,false⟩,p.2)else
 (BZ Qq p.2).bind λp=>bif p.1 then some (⟨Qq,false⟩,p.2)else(Eo 2 p.2).bind λp=>some (⟨p.1,false⟩,p.2)
def UZ:PM Ty:=λs=>(Yu s).bind λp=>(BZ Fe p.2).bind λq=>bif q.1 then(BM [FV] q.2).bind λs=>some (⟨p.1.nm,true⟩,s)else some (p.1,q.2)
inductive Ex where
 |mk (kind num:Nat) (nm:Bs) (ty:Bs) (arr:Bool) (kids:List Ex)
def Ex.kind:Ex->Nat|.mk k _ _ _ _ _=>k
def UK(k:Nat)(w:Bs)(nx:PM Ex):Nat->Ex->PM Ex
 |0,_,_=>none
 |f+1,e,s=>bif Hq [w] s then(Hu s).bind λs1=>(nx s1).bind λp=>UK k w nx f (.mk k 0 [] [] false [e,p.1]) p.2 else some (e,s)
def either(k:Nat)(w:Bs)(nx:PM Ex)(f:Nat):PM Ex:=λs=>(nx s).bind λp=>UK k w nx f p.1 p.2
def Xz(ws:List Bs)(nx:PM Ex):Nat->Ex->PM Ex
 |0,_,_=>none
 |f+1,e,s=>bif Hq ws s then(Hu s).bind λs1=>(nx s1).bind λp=>Xz ws nx f (.mk 16 0 s.t.text [] false [e,p.1]) p.2 else some (e,s)
def signs(ws:List Bs)(nx:PM Ex)(f:Nat):PM Ex:=λs=>(nx s).bind λp=>Xz ws nx f p.1 p.2
def sumP(un:PM Ex)(f:Nat):PM Ex:=signs [cO,Dq] (signs [X8,Tq,tu] un f) f
def compared(un:PM Ex)(f:Nat):PM Ex:=λs=>(sumP un f s).bind λp=>
 bif Hq [WX,gB,UW,fM] p.2 then(Hu p.2).bind λs1=>(sumP un f s1).bind λq=>some (.mk 16 0 p.2.t.text [] false [p.1,q.1],q.2)else some (p.1,p.2)
def asL:Nat->Ex->PM Ex
 |0,_,_=>none
 |f+1,e,s=>bif Hq [RP,OC] s then(Hu s).bind λs1=>(Eo 2 s1).bind λp=>asL f (.mk (bif decide (s.t.text=OC)then 20 else 19) 0 [] p.1 false [e]) p.2 else some (e,s)
def MB(rec:PM Ex):Nat->List Ex->PM (List Ex)
 |0,_,_=>none
 |f+1,out,s=>bif s.ok then(BZ BD s).bind λp=>bif p.1 then some (out,p.2)else
  (bif decide (0<out.length)then BM [CY] p.2 else some p.2).bind λs1=>(rec s1).bind λq=>MB rec f (out++[q.1]) (D9 (out.length+1) q.2)
  else some (out,s)
def XF(rec:PM Ex)(f:Nat):PM (List Ex):=λs=>(BM [Au] s).bind λs1=>MB rec f [] s1
def TQ(rec:PM Ex)(f:Nat)(e:Ex):PM Ex:=λs=>(BZ G7 s).bind λp=>bif p.1 then some (.mk 13 0 [] [] false [e],p.2)else
 (Eo 3 p.2).bind λq=>bif Hq [Au] q.2 then(XF rec f q.2).bind λa=>some (.mk 8 0 q.1 [] false (e::a.1),a.2)else some (.mk 7 0 q.1 [] false [e],q.2)
def ZT(t:Ty):Bool:= !t.arr&&(match t.nm with|[]=>false|c::_=>great c)
def Qc(rec:PM Ex)(f:Nat):PM Ex:=λs=>
 bif !s.ok then some (.mk 0 0 [] [] false [],s)else
 bif decide (s.t.kind=4)then(Hu s).bind λs1=>some (.mk 1 s.t.num [] [] false [],s1)else
 bif decide (s.t.kind=3)then(Hu s).bind λs1=>some (.mk 6 0 s.t.text [] false [],s1)else
 bif decide (s.t.kind=2)then(Hu s).bind λs1=>(BM [DJ] s1).bind λs2=>(Eo 3 s2).bind λq=>(XF rec f q.2).bind λa=>some (.mk 9 0 q.1 s.t.text false a.1,a.2)else
 (BZ Wv s).bind λp=>bif p.1 then some (.mk 2 0 [] [] false [],p.2)else
 (BZ Rk p.2).bind λp=>bif p.1 then some (.mk 3 0 [] [] false [],p.2)else
 (BZ Qp p.2).bind λp=>bif p.1 then some (.mk 4 0 [] [] false [],p.2)else
 (BZ XB p.2).bind λp=>bif p.1 then some (.mk 5 0 [] [] false [],p.2)else
 (BZ Ib p.2).bind λp=>bif p.1 then
  ((Yu p.2).bind λb=>(BZ Fe b.2).bind λq=>bif q.1 then(rec q.2).bind λx=>(BM [FV] x.2).bind λs1=>some (.mk 11 0 [] b.1.nm b.1.arr [x.1],s1)
   else some (.mk 10 0 [] b.1.nm b.1.arr [],bif ZT b.1 then q.2 else EJ 21 q.2))else
 (BZ Au p.2).bind λp=>bif p.1 then(rec p.2).bind λx=>(BM [BD] x.2).bind λs1=>some (x.1,s1)else
 some (.mk 0 0 [] [] false [],EJ 21 p.2)
def Jo(rec:PM Ex):Nat->Ex->PM Ex
 |0,_,_=>none
 |f+1,e,s=>(BZ Fe s).bind λp=>bif p.1 then(rec p.2).bind λq=>(BM [FV] q.2).bind λs1=>Jo rec f (.mk 12 0 [] [] false [e,q.1]) s1 else
  (BZ DJ p.2).bind λp=>bif p.1 then(TQ rec f e p.2).bind λq=>Jo rec f q.1 q.2 else some (e,p.2)
def SV(rec:PM Ex)(f:Nat):PM Ex:=λs=>(Qc rec f s).bind λp=>Jo rec f p.1 p.2
def unary(rec:PM Ex):Nat->PM Ex
 |0,_=>none
 |f+1,s=>bif Hq [Dq] s then(LD s).bind λs1=>(Hu s1).bind λs2=>(unary rec f s2).bind λp=>(VB p.2).bind λs'=>some (.mk 14 0 [] [] false [p.1],s')else
  bif Hq [IV] s then(LD s).bind λs1=>(Hu s1).bind λs2=>(unary rec f s2).bind λp=>(VB p.2).bind λs'=>some (.mk 15 0 [] [] false [p.1],s')else
  (SV rec f s).bind λp=>asL f p.1 p.2
def AC4(rec:PM Ex)(f:Nat):PM Ex:=λs=>(LD s).bind λs1=>(either 18 W9 (either 17 L9 (compared (unary rec f) f) f) f s1).bind λp=>(VB p.2).bind λs'=>some (p.1,s')
def expr:Nat->PM Ex
 |0,_=>none
 |f+1,s=>AC4 (expr f) f s
inductive St where
 |mk (does:Nat) (nm:Bs) (ty:Ty) (es:List Ex) (th el:List St)
def KQ(st:PM St):Nat->List St->PM (List St)
 |0,_,_=>none
 |f+1,out,s=>bif s.ok then(BZ m_rc s).bind λp=>bif p.1 then some (out,p.2)else(st p.2).bind λq=>bif decide (out.length<1000000)then KQ st f (out++[q.1]) q.2 else none
  else some (out,s)
def EW(st:PM St)(f:Nat):PM (List St):=λs=>(LD s).bind λs1=>(BM [MG] s1).bind λs2=>(KQ st f [] s2).bind λp=>(VB p.2).bind λs'=>some (p.1,s')
def JE:Ty:=⟨[],false⟩
def Wu(f:Nat):PM St:=λs=>(expr f s).bind λp=>bif Hq [Di] p.2 then
 (BM [Di] (bif decide (p.1.kind=6)||(decide (p.1.kind=7)||decide (p.1.kind=12))then p.2 else EJ 21 p.2)).bind λs1=>(expr f s1).bind λq=>some (.mk 2 [] JE [p.1,q.1] [] [],q.2)
 else some (.mk 3 [] JE [p.1] [] [],bif decide (p.1.kind=8)||decide (p.1.kind=9)then p.2 else EJ 21 p.2)
def endP(st:St)(s:S):Option (St×S):=(BM [Aq] s).bind λs1=>some (st,s1)
def Yn(st ch:PM St)(f:Nat):PM St:=λs=>(LD s).bind λs1=>(BM [IL] s1).bind λs2=>(expr f s2).bind λc=>(EW st f c.2).bind λt=>
 (BZ EU t.2).bind λp=>(bif p.1 then(bif Hq [IL] p.2 then(ch p.2).bind λx=>some ([x.1],x.2)else EW st f p.2)else some ([],p.2)).bind λx=>
 (VB x.2).bind λs'=>some (.mk 4 [] JE [c.1] t.1 x.1,s')
def TT(st ch:PM St)(f:Nat):PM St:=λs=>(BZ NM s).bind λp=>bif p.1 then
 (UZ p.2).bind λt=>(Eo 3 t.2).bind λn=>(BM [Di] n.2).bind λs1=>(expr f s1).bind λx=>endP (.mk 1 n.1 t.1 [x.1] [] []) x.2 else
 bif Hq [IL] p.2 then ch p.2 else
 (BZ FK p.2).bind λp=>bif p.1 then(expr f p.2).bind λc=>(EW st f c.2).bind λt=>some (.mk 5 [] JE [c.1] t.1 [],t.2)else
 (BZ EZ p.2).bind λp=>bif p.1 then(expr f p.2).bind λx=>endP (.mk 6 [] JE [x.1] [] []) x.2 else
 (BZ FM p.2).bind λp=>bif p.1 then(expr f p.2).bind λx=>endP (.mk 7 [] JE [x.1] [] []) x.2 else
 (Wu f p.2).bind λx=>endP x.1 x.2
def sc:Nat->Bool->PM St
 |0,_,_=>none
 |f+1,b,s=>bif b then Yn (sc f false) (sc f true) f s else TT (sc f false) (sc f true) f s
structure Va where
 nm:Bs
 ty:Ty
structure Me where
 nm:Bs
 st:Bool
 ps:List Va
 ret:Ty
 body:List St
structure Cl where
 nm:Bs
 sup:Bs
 fs:List Va
 ms:List Me
def ET:Nat->List Va->PM (List Va)
 |0,_,_=>none
 |f+1,out,s=>bif s.ok then(BZ BD s).bind λp=>bif p.1 then some (out,p.2)else
  (bif decide (0<out.length)then BM [CY] p.2 else some p.2).bind λs1=>(UZ s1).bind λt=>(Eo 3 t.2).bind λn=>ET f (out++[⟨n.1,t.1⟩]) (D9 (out.length+1) n.2)
  else some (out,s)
def Rh(f:Nat):PM Me:=λs=>(BZ FB s).bind λp=>(BM [D8] p.2).bind λs1=>(UZ s1).bind λt=>(Eo 3 t.2).bind λn=>(BM [Au] n.2).bind λs2=>
 (ET f [] s2).bind λps=>(EW (sc f false) f ps.2).bind λb=>some (⟨n.1,p.1,ps.1,t.1,b.1⟩,b.2)
def EL(f:Nat):Nat->List Va->List Me->PM (List Va×List Me)
 |0,_,_,_=>none
 |g+1,fs,ms,s=>bif s.ok then(BZ m_rc s).bind λp=>bif p.1 then some ((fs,ms),p.2)else
  (BZ MN p.2).bind λp=>bif p.1 then(UZ p.2).bind λt=>(Eo 3 t.2).bind λn=>(BM [Aq] (D9 (fs.length+1) n.2)).bind λs1=>EL f g (fs++[⟨n.1,t.1⟩]) ms s1 else
  bif Hq [FB,D8] p.2 then(Rh f p.2).bind λm=>EL f g fs (ms++[m.1]) (D9 (ms.length+1) m.2)else
  EL f g fs ms (EJ 21 p.2)
  else some ((fs,ms),s)
def xX(f:Nat):PM Cl:=λs=>(BM [J9] s).bind λs1=>(Eo 2 s1).bind λn=>(BZ Hl n.2).bind λp=>(bif p.1 then Eo 2 p.2 else some ([],p.2)).bind λu=>(BM [MG] u.2).bind λs2=>
 (EL f f [] [] s2).bind λx=>some (⟨n.1,u.1,x.1.1,x.1.2⟩,bif x.2.ok&& !decide (x.2.t.kind=0)then EJ 21 x.2 else x.2)
def vS(f:Nat):List Tok->Option (Cl×Nat)
 |[]=>none
 |t::r=>(xX f ⟨t,r,0,0⟩).bind λp=>some (p.1,p.2.e)
theorem AE8{e:Option V}{P:V->Prop}{b:Bool}(h:P (.JL [])):Bh (.JL []) b e P:=h
theorem Iq{id o l c z i:Nat}(h:(V.sl id o l c z).Ry=some i):i=id:=by cases h;rfl
theorem qE{id o l z i:Nat}(h:(V.Qg id o l z).Ry=some i):i=id:=by cases h;rfl
inductive YH(G:AY)(H:Heap)(pb:Nat)(s:S):Prop where
 |mk {tid off line col:Nat} {cs:EY} (hg:T.get H pb=some (one [.Qg tid off cs.length 5,.int .i64 (.ofNat s.deep) 0,.int .i64 (.ofNat s.e) 0,.int .i64 (.ofNat line) 0,.int .i64 (.ofNat col) 0]))
  (he:El G H (.Qg tid off cs.length 5) 5 cs) (ht:Pw AIY cs (s.t::s.r)) (hp:s.e≠0->1<=line/\1<=col) (hl:tid<pb)
section
variable{G:AY}{H H':Heap}{n n' pb:Nat}{s s':S}{k:KV}
theorem YH.same(h:YH G H pb s)(hs:∀id,id<=pb->T.get H' id=T.get H id):YH G H' pb s:=by
 cases h with
 |mk hg he ht hp hl=>exact .mk ((hs _ (Nat.le_refl _)).trans hg) (he.same λid hid=>by cases hid;exact hs _ (by omega)) ht hp hl
theorem YH.kp(h:YH G H pb s)(f:Kp H n H' n')(hb:pb<n):YH G H' pb s:=h.same λid hid=>f.same id (by omega)
theorem YH.e(h:YH G H pb s):AZ (.ptr pb 2) G H=some (.int .i64 (.ofNat s.e) 0):=by cases h with|mk hg=>exact AQ hg rfl
theorem YH.deep(h:YH G H pb s):AZ (.ptr pb 1) G H=some (.int .i64 (.ofNat s.deep) 0):=by cases h with|mk hg=>exact AQ hg rfl
theorem YH.tok(h:YH G H pb s):∃v tid o line col,AZ (.ptr pb 0) G H=some v/\Bj 5 v (.int .i64 (.ofNat 0) 0)=some (.ptr tid o)/\1<=line/\1<=col/\A8 5 (.ptr tid o) G H=some (.agg (TP s.t line col))/\
 AZ (.ptr tid o) G H=some (.int .i64 (.ofNat s.t.kind) 0)/\AZ (.ptr tid (o+1)) G H=some (sB s.t.text)/\A8 2 (.ptr tid (o+3)) G H=some (.agg [.int .i64 (.ofNat line) 0,.int .i64 (.ofNat col) 0]):=by
 cases h with
 |mk hg he ht hp hl=>
  rename_i tid off l1 c1 cs
  cases ht with
  |cons h t=>
   rename_i c cs
   obtain⟨line,col,x1,x2,rfl⟩:=h
   have h2:=AOO he
   have h3:=(SC _ _ h2).2 0 _ rfl
   rw[Nat.add_zero]at h3
   have sub:∀o m,0<m->o+m<=5->gX H tid (off*5+o) m=some (((TP s.t line col).drop o).take m):=λo m h1 h2=>AJh h3 rfl h1 h2
   refine⟨_,tid,off*5,line,col,AQ hg rfl,?_,x1,x2,?_,?_,?_,?_⟩
   ·show BJ (band (Nat.beq 5 5) (Nat.blt 0 (cs.length+1))) (Dk ((off+0)*5) λo=>some (.ptr tid o))=_
    rw[show Nat.blt 0 (cs.length+1)=true by rw[Nat.blt_eq];omega,Bc];rfl
   ·rw[ACi];show OO (gX H tid (off*5) 5) _=_;rw[h3];rfl
   ·rw[zH];show OO (gX H tid (off*5+0) 1) _=_;rw[sub 0 1 (by omega) (by omega)];rfl
   ·rw[zH];show OO (gX H tid (off*5+1) 1) _=_;rw[sub 1 1 (by omega) (by omega)];rfl
   ·rw[ACi];show OO (gX H tid (off*5+3) 2) _=_;rw[sub 3 2 (by omega) (by omega)];rfl
theorem AKv(h:YH G H pb s)(hk:k (.bool s.ok) H n):Runs F G EG [.ptr pb 0] H n k:=by
 refine Am (s:=IQ (Ou lfp G)) SX (by obtain⟨h,o⟩:=qj Ap G;rw[SX]at h;cases h;exact o) ?_
 show Ou lfp G (Runs F G) (.ptr pb 0) H n k
 delta Ou
 simp only[go_sem,Nat.reduceAdd,h.e,VN]
 exact hk
theorem AMI{e:Nat}(h:YH G H pb s)(hk:∀H',Kx pb H n H' n->YH G H' pb (EJ e s)->k (.JL []) H' n):Runs F G Ce [.ptr pb 0,.int .i64 (.ofNat e) 0] H n k:=by
 refine Am (s:=RG (NJ lfp G)) PV (by obtain⟨h,o⟩:=jR Ap G;rw[PV]at h;cases h;exact o) ?_
 show NJ lfp G (Runs F G) (.ptr pb 0) (.int .i64 (.ofNat e) 0) H n k
 delta NJ
 unfold EJ at hk
 simp only[go_sem,Nat.reduceAdd,h.e,VN]
 rw[show decide (s.e=0)=s.ok from rfl]
 cases ho:s.ok with
 |false=>
  rw[ho]at hk
  simp only[go_sem]
  exact hk _ (Kx.refl ..) h
 |true=>
  rw[ho]at hk
  obtain⟨v,tid,o,line,col,e0,e1,x1,x2,e2,e3,e4,e5⟩:=h.tok
  simp only[go_sem,Nat.reduceAdd,Nat.add_zero,e0,e1,e5,AG9]
  cases h with
  |mk hg he ht hp hl=>
   refine Ew hg rfl rfl (by omega) (by show 2+3<=5;omega) λH1 g1 s1=>?_
   exact hk _ ⟨Nat.le_refl _,λid _ hb=>s1 id hb⟩ (.mk g1 (he.same λid hid=>by cases hid;exact s1 _ (by omega)) ht (λ_=>⟨x1,x2⟩) hl)
def wsC(ws:List Bs):EY:=ws.map λw=>[sB w]
theorem AJk(ws:List Bs):(wsC ws).length=ws.length:=List.length_map ..
theorem AHH{ws:List Bs}{i:Nat}(h:i<ws.length):(wsC ws)[i]? =some [sB ws[i]]:=by simp[wsC,h]
theorem AUr{ws:List Bs}{v:V}(h:YH G H pb s)(hv:El G H v 1 (wsC ws))(hw:ws.length<=1000)(hk:k (.bool (Hq ws s)) H n):Runs F G DZ [.ptr pb 0,v] H n k:=by
 refine Am (s:=RG (Oq lfp G)) SQ (by obtain⟨h,o⟩:=qQ Ap G;rw[SQ]at h;cases h;exact o) ?_
 show Oq lfp G (Runs F G) (.ptr pb 0) v H n k
 delta Oq
 unfold Hq at hk
 simp only[go_sem,hv.len,AJk]
 obtain⟨w,tid,o,line,col,e0,e1,x1,x2,e2,e3,e4,e5⟩:=h.tok
 obtain⟨R,hR⟩:∃R,(ws.any λw=>Qy w s)=R:=⟨_,rfl⟩
 rw[hR]at hk
 refine IZ (N:=ws.length) (J:=λj q=>q=(.ptr pb 0,v,.int .i64 (.ofNat ws.length) 0,.int .i64 (.ofNat j) 0,H,n)/\((ws.drop j).any λw=>Qy w s)=R) ?_ ?_ ⟨rfl,hR⟩
 ·rintro I j q hlt ⟨rfl,hR⟩ ih
  show JA lfp G (Runs F G) k I (.ptr pb 0) v (.int .i64 (.ofNat ws.length) 0) (.int .i64 (.ofNat j) 0) H n
  delta JA
  obtain⟨p,hp,hld⟩:=hv.at (AHH hlt)
  rw[List.drop_eq_getElem_cons hlt,List.any_cons]at hR
  generalize ws[j]=m at hld hR
  simp only[go_sem,Ht,hlt,decide_true,hp,vg hld]
  refine AKv h ?_
  have go1:Qy m s=false->I (.ptr pb 0,v,.int .i64 (.ofNat ws.length) 0,.int .i64 (.ofNat (j+1)) 0,H,n):=λh1=>by
   rw[h1,Bool.false_or]at hR
   exact ih _ ⟨rfl,hR⟩
  have ej:=Iz (show j+1<9223372036854775808 by omega)
  cases h1:s.ok with
  |false=>
   repeat (first|with_reducible refine ABz ?_|with_reducible refine AE8 ?_|with_reducible refine AB0 ?_)
   simp only[go_sem,ej]
   exact go1 (by simp[Qy,h1])
  |true=>
   simp only[go_sem,Nat.reduceAdd,Nat.add_zero,e0,e1,e3,VN]
   cases h2:decide (s.t.kind=1)with
   |true=>
    repeat (first|with_reducible refine AKY ?_|with_reducible refine AE8 ?_)
    simp only[go_sem,Nat.reduceAdd,Nat.add_zero,e0,e1,e4,AFM]
    cases h3:decide (s.t.text=m)with
    |true=>
     rw[show Qy m s=true by simp[Qy,h1,h2,h3],Bool.true_or]at hR
     subst hR
     simp only[go_sem];exact hk
    |false=>simp only[go_sem,ej];exact go1 (by simp[Qy,h3])
   |false=>
    simp only[go_sem,Nat.reduceAdd,Nat.add_zero,e0,e1,e3,VN]
    cases h4:decide (s.t.kind=5)with
    |true=>
     simp only[go_sem,Nat.reduceAdd,Nat.add_zero,e0,e1,e4,AFM]
     cases h3:decide (s.t.text=m)with
     |true=>
      rw[show Qy m s=true by simp[Qy,h1,h4,h3],Bool.true_or]at hR
      subst hR
      simp only[go_sem];exact hk
     |false=>simp only[go_sem,ej];exact go1 (by simp[Qy,h3])
    |false=>
     repeat (first|with_reducible refine ABz ?_|with_reducible refine AE8 ?_|with_reducible refine AB0 ?_|with_reducible refine AR7 ?_)
     simp only[go_sem,ej];exact go1 (by simp[Qy,h2,h4])
 ·rintro I q ⟨rfl,hR⟩
  show JA lfp G (Runs F G) k I (.ptr pb 0) v (.int .i64 (.ofNat ws.length) 0) (.int .i64 (.ofNat ws.length) 0) H n
  delta JA
  rw[List.drop_eq_nil_of_le (Nat.le_refl _)]at hR
  subst hR
  simp only[go_sem,Ht,Nat.lt_irrefl,decide_false]
  delta PY
  exact hk
theorem AMg{l:LV}{i:Nat}{v:V}(h:l[i]? =some v):AOq i (.agg l)=some v:=by
 show nth l i=_
 rw[dA,h]
structure Fr(G:AY)(pb:Nat)(H0:Heap)(n0:Nat)(H:Heap)(n:Nat)(s:S):Prop where
 f:Kx pb H0 n0 H n
 p:YH G H pb s
 b:pb<n0
theorem Fr.lt{H0:Heap}{n0:Nat}(x:Fr G pb H0 n0 H n s):pb<n:=Nat.lt_of_lt_of_le x.b x.f.le
theorem Fr.le{H0:Heap}{n0:Nat}(x:Fr G pb H0 n0 H n s):n0<=n:=x.f.le
theorem Fr.refl(h:YH G H pb s)(hb:pb<n):Fr G pb H n H n s:=⟨Kx.refl ..,h,hb⟩
theorem Fr.al{H0:Heap}{n0:Nat}(x:Fr G pb H0 n0 H n s)(f:Kp H n H' n'):Fr G pb H0 n0 H' n' s:=⟨x.f.trans f.kx,x.p.kp f x.lt,x.b⟩
theorem Fr.st{H0:Heap}{n0 b:Nat}(x:Fr G pb H0 n0 H n s)(hb:n0<=b)(e:∀j,j≠b->T.get H' j=T.get H j):Fr G pb H0 n0 H' n s:=
 ⟨⟨x.f.le,λid hid hp=>(e id (by omega)).trans (x.f.same id hid hp)⟩,x.p.same λid hid=>e id (by have:=x.b;omega),x.b⟩
theorem Fr.tr{H0:Heap}{n0:Nat}(x:Fr G pb H0 n0 H n s)(y:Fr G pb H n H' n' s'):Fr G pb H0 n0 H' n' s':=⟨x.f.trans y.f,y.p,x.b⟩
theorem Fr.get{b:Nat}{L:LV}(y:Fr G pb H n H' n' s')(g:T.get H b=some (one L))(h1:b<n)(h2:pb<b):T.get H' b=some (one L):=y.f.get g h1 (by omega)
theorem DI{m b:Nat}{L0 L:LV}{P:KV}(g:T.get H b=some (one L0))(h0:L0.length=m)(h1:L.length=m)(hm:0<m)(h:∀H',T.get H' b=some (one L)->(∀j,j≠b->T.get H' j=T.get H j)->P .undef H' n):
 Df m (.ptr b 0) (.agg L) H n P:=by
 rw[Xc g hm h0 h1];exact h _ (T.Cm ..) λj hj=>T.Ak _ _ (Ne.symm hj)
theorem ZH(h:YH G H pb s)(hb:pb<n)(hm:Hu s=some s')(hk:∀H' n' line col,1<=line->1<=col->Fr G pb H n H' n' s'->k (.agg (TP s.t line col)) H' n'):Runs F G DK [.ptr pb 0] H n k:=by
 refine Am (s:=IQ (MR lfp G)) Py (by obtain⟨h,o⟩:=jr Ap G;rw[Py]at h;cases h;exact o) ?_
 show MR lfp G (Runs F G) (.ptr pb 0) H n k
 delta MR
 have x:=Fr.refl h hb
 refine BG rfl λH1 f1 g1=>?_
 have x:=x.al f1
 obtain⟨v,tid,o,line,col,e0,e1,x1,x2,e2,e3,e4,e5⟩:=x.p.tok
 simp only[go_sem,Nat.reduceAdd,Nat.add_zero,e0,e1,e2]
 refine AV5 rfl rfl (by omega) λH3 f3 g3=>?_
 have x:=x.al f3
 have g1:=f3.get g1 (by omega)
 have q0:AZ (.ptr (n+1) 0) G H3=some (.int .i64 (.ofNat s.t.kind) 0):=AQ g3 rfl
 have fin:∀{H4:Heap},Fr G pb H n H4 (n+1+1) s'->T.get H4 n=some (one [.int .i64 (.ofNat 0) 0,.str 0 0,.int .i64 (.ofNat 0) 0,.int .i64 (.ofNat 0) 0,.int .i64 (.ofNat 0) 0])->T.get H4 (n+1)=some (one (TP s.t line col))->
  Gy lfp G (Runs F G) k (.ptr n 0) (.ptr (n+1) 0) H4 (n+1+1):=by
  intro H4 x g1 g3
  delta Gy
  rw[Ah (m:=5) g3 (by omega) rfl,BA]
  refine DI g1 rfl rfl (by omega) λH5 g5 s5=>?_
  rw[ED (m:=5) g5 (by omega) rfl]
  simp only[go_sem]
  exact hk _ _ _ _ x1 x2 (x.st (Nat.le_refl _) s5)
 unfold Hu at hm
 simp only[go_sem,Nat.reduceAdd,q0,aY]
 cases hd:decide (s.t.kind=0)with
 |true=>
  rw[hd]at hm
  cases hm
  simp only[Bool.not_true,go_sem]
  exact fin x g1 g3
 |false=>
  rw[hd,cond_false]at hm
  simp only[Bool.not_false,go_sem]
  have hp3:=x.p
  cases hp3 with
  |mk hg he ht hp hl=>
   rename_i tid off l1 c1 cs
   cases hr:s.r with
   |nil=>rw[hr]at hm;cases hm
   |cons t r=>
    rw[hr]at hm ht
    cases hm
    cases ht with
    |cons ha ht=>
     rename_i a cs
     have e0:AZ (.ptr pb 0) G H3=some (.Qg tid off (cs.length+1) 5):=AQ hg rfl
     simp only[go_sem,Nat.reduceAdd,e0,AI4]
     refine Ew hg rfl rfl (by omega) (by show 0+1<=5;omega) λH4 g4 s4=>?_
     refine fin ⟨⟨x.le,λid hid hp=>(s4 id hp).trans (x.f.same id hid hp)⟩,?_,hb⟩ ((s4 _ (by omega)).trans g1) ((s4 _ (by omega)).trans g3)
     exact .mk (s:={s with t:=t,r:=r}) g4 ((ALb he).same λid hid=>by cases qE hid;exact s4 _ (by omega)) ht hp hl
end
section
variable{G:AY}{H:Heap}{n pb:Nat}{s s':S}{k:KV}
theorem uI{ws:List Bs}{m:Nat}{P:KV}{Z:LV}(hm:ws.length=m)(h:∀H',Kp H n H' (n+1)->El G H' (.sl n 0 m m 1) 1 (wsC ws)->P (.sl n 0 m m 1) H' (n+1)):EH (Ar 1 m Z (ABg 0 (ws.map sB)) E0) H n P:=by
 refine O3 (G:=G) (vs:=ws.map sB) (by rw[List.length_map];exact hm) (by omega) (λv hv=>?_) λH' f _ hel=>h H' f ?_
 ·obtain⟨w,_,rfl⟩:=List.mem_map.1 hv;exact⟨rfl,rfl⟩
 ·rw[List.map_map]at hel;exact hel
theorem oO{ws:List Bs}{m:Nat}{P:KV}{Z:LV}(h:YH G H pb s)(hb:pb<n)(hm:ws.length=m)(hw:ws.length<=1000)(hk:∀H' n',Fr G pb H n H' n' s->P (.bool (Hq ws s)) H' n'):
 EH (Ar 1 m Z (ABg 0 (ws.map sB)) E0) H n λv H n=>Runs F G DZ [.ptr pb 0,v] H n P:=by
 refine uI (G:=G) hm λH1 f1 hel=>?_
 have x:=(Fr.refl h hb).al f1
 exact AUr x.p hel hw (hk _ _ x)
theorem NV{w:Bs}{b:Bool}(h:YH G H pb s)(hb:pb<n)(hm:BZ w s=some (b,s'))(hk:∀H' n',Fr G pb H n H' n' s'->k (.bool b) H' n'):Runs F G Af [.ptr pb 0,sB w] H n k:=by
 refine Am (s:=RG (MQ lfp G)) Pv (by obtain⟨h,o⟩:=jH Ap G;rw[Pv]at h;cases h;exact o) ?_
 show MQ lfp G (Runs F G) (.ptr pb 0) (sB w) H n k
 delta MQ
 refine oO (ws:=[w]) h hb rfl (by show 1<=1000;omega) λH1 n1 x=>?_
 unfold BZ at hm
 rw[show Hq [w] s=Qy w s by simp[Hq]]
 cases ho:Qy w s with
 |false=>
  rw[ho]at hm
  cases hm
  simp only[go_sem,Qv,Bool.not_false]
  exact hk _ _ x
 |true=>
  rw[ho,cond_true,Option.bind_eq_some_iff]at hm
  obtain⟨s2,h2,hm⟩:=hm
  cases hm
  simp only[go_sem,Qv,Bool.not_true]
  exact ZH x.p x.lt h2 λH2 n2 _ _ _ _ y=>hk _ _ (x.tr y)
theorem ATY{ws:List Bs}{id o l c:Nat}(h:YH G H pb s)(hb:pb<n)(hv:El G H (.sl id o l c 1) 1 (wsC ws))(hid:id<n)(hip:pb<id)(hw:ws.length<=1000)(hm:BM ws s=some s')(hk:∀H' n',Fr G pb H n H' n' s'->k (.JL []) H' n'):
 Runs F G BF [.ptr pb 0,.sl id o l c 1] H n k:=by
 refine Am (s:=RG (MJ lfp G)) PI (by obtain⟨h,o⟩:=jQ Ap G;rw[PI]at h;cases h;exact o) ?_
 show MJ lfp G (Runs F G) (.ptr pb 0) (.sl id o l c 1) H n k
 delta MJ
 simp only[hv.len,AJk,go_sem]
 refine IZ (N:=ws.length) (J:=λj q=>∃H' n' t,q=(.ptr pb 0,.sl id o l c 1,.int .i64 (.ofNat ws.length) 0,.int .i64 (.ofNat j) 0,H',n')/\Fr G pb H n H' n' t/\BM (ws.drop j) t=some s') ?_ ?_ ⟨H,n,s,rfl,Fr.refl h hb,hm⟩
 ·rintro I j q hlt ⟨H1,n1,t,rfl,x,hm⟩ ih
  show G8 lfp G (Runs F G) k I (.ptr pb 0) (.sl id o l c 1) (.int .i64 (.ofNat ws.length) 0) (.int .i64 (.ofNat j) 0) H1 n1
  delta G8
  have hv1:El G H1 (.sl id o l c 1) 1 (wsC ws):=hv.same λi hi=>by cases Iq hi;exact x.f.same id hid (by omega)
  obtain⟨p,hp,hld⟩:=hv1.at (AHH hlt)
  rw[List.drop_eq_getElem_cons hlt,show ∀(w:Bs) ws (s:S),BM (w::ws) s=(BZ w s).bind λp=>BM ws (bif p.1 then p.2 else EJ 21 p.2)from λ_ _ _=>rfl,Option.bind_eq_some_iff]at hm
  obtain⟨⟨b,t2⟩,h2,hm⟩:=hm
  have hm:BM (ws.drop (j+1)) (bif b then t2 else EJ 21 t2)=some s':=hm
  generalize ws[j]=m at hld h2
  simp only[go_sem,Ht,hlt,decide_true,hp,vg hld]
  refine NV x.p x.lt h2 λH2 n2 y=>?_
  have x:=x.tr y
  simp only[go_sem,Qv]
  cases b with
  |true=>
   simp only[go_sem,Bool.not_true]
   delta G9
   simp only[go_sem,Iz (show j+1<9223372036854775808 by omega)]
   exact ih _ ⟨_,_,_,rfl,x,hm⟩
  |false=>
   simp only[go_sem,Bool.not_false]
   refine AMI x.p λH3 f3 p3=>?_
   delta G9
   simp only[go_sem,Iz (show j+1<9223372036854775808 by omega)]
   exact ih _ ⟨_,_,_,rfl,⟨x.f.trans f3,p3,x.b⟩,hm⟩
 ·rintro I q ⟨H1,n1,t,rfl,x,hm⟩
  show G8 lfp G (Runs F G) k I (.ptr pb 0) (.sl id o l c 1) (.int .i64 (.ofNat ws.length) 0) (.int .i64 (.ofNat ws.length) 0) H1 n1
  delta G8
  rw[List.drop_eq_nil_of_le (Nat.le_refl _)]at hm
  cases hm
  simp only[go_sem,Ht,Nat.lt_irrefl,decide_false]
  exact hk _ _ x
theorem KJ{ws:List Bs}{m:Nat}{P:KV}{Z:LV}(h:YH G H pb s)(hb:pb<n)(hm:ws.length=m)(hw:ws.length<=1000)(he:BM ws s=some s')(hk:∀H' n',Fr G pb H n H' n' s'->P (.JL []) H' n'):
 EH (Ar 1 m Z (ABg 0 (ws.map sB)) E0) H n λv H n=>Runs F G BF [.ptr pb 0,v] H n P:=by
 refine uI (G:=G) hm λH1 f1 hel=>?_
 have x:=(Fr.refl h hb).al f1
 exact ATY x.p x.lt hel (by omega) hb hw he λH2 n2 y=>hk _ _ (x.tr y)
theorem dR{e:Nat}(h:YH G H pb s)(hb:pb<n)(hk:∀H' n',Fr G pb H n H' n' (EJ e s)->k (.JL []) H' n'):Runs F G Ce [.ptr pb 0,.int .i64 (.ofNat e) 0] H n k:=
 AMI h λH1 f p=>hk _ _ ⟨f,p,hb⟩
theorem ZU{kd:Nat}{l:Bs}(h:YH G H pb s)(hb:pb<n)(hm:Eo kd s=some (l,s'))(hk:∀H' n',Fr G pb H n H' n' s'->k (sB l) H' n'):Runs F G Dl [.ptr pb 0,.int .i64 (.ofNat kd) 0] H n k:=by
 refine Am (s:=RG (MW lfp G)) Pj (by obtain⟨h,o⟩:=lU Ap G;rw[Pj]at h;cases h;exact o) ?_
 show MW lfp G (Runs F G) (.ptr pb 0) (.int .i64 (.ofNat kd) 0) H n k
 delta MW
 refine AKv h ?_
 unfold Eo at hm
 have bad:Eo kd s=some ([],EJ 21 s)->Runs F G Ce [.ptr pb 0,.int .i64 (.ofNat 21) 0] H n λ_ H n=>k (.str 0 0) H n:=λhb'=>by
  unfold Eo at hb'
  rw[hb']at hm
  cases hm
  exact dR h hb λH1 n1 x=>hk _ _ x
 have good:(Hu s).bind (λs'=>some (s.t.text,s'))=some (l,s')->Runs F G DK [.ptr pb 0] H n λv14 H n=>AP (AOq 1 v14) λv15=>k v15 H n:=λhm=>by
  rw[Option.bind_eq_some_iff]at hm
  obtain⟨s2,h2,hm⟩:=hm
  cases hm
  refine ZH h hb h2 λH2 n2 line col _ _ y=>?_
  rw[AMg (show(TP s.t line col)[1]? =some (sB s.t.text)from rfl),BA]
  exact hk _ _ y
 obtain⟨v,tid,o,line,col,e0,e1,x1,x2,e2,e3,e4,e5⟩:=h.tok
 cases ho:s.ok with
 |false=>
  simp only[Qv,Bool.not_false,go_sem]
  repeat (first|with_reducible refine AKY ?_|with_reducible refine AE8 ?_)
  exact bad (by unfold Eo;rw[ho];rfl)
 |true=>
  simp only[Qv,Bool.not_true,go_sem,Nat.reduceAdd,Nat.add_zero,e0,e1,e3,aY]
  cases hd:decide (s.t.kind=kd)with
  |false=>
   simp only[Bool.not_false,go_sem]
   exact bad (by unfold Eo;rw[ho,hd];rfl)
  |true=>
   rw[ho,hd]at hm
   simp only[Bool.not_true,go_sem]
   exact good hm
theorem ADs(h:YH G H pb s)(hb:pb<n)(hm:LD s=some s')(hk:∀H' n' q,Fr G pb H n H' n' s'->n<=q->q<n'->T.get H' q=some (one [.ptr pb 0])->k (.fn Bv [] [.ptr q 0]) H' n'):Runs F G Jd [.ptr pb 0] H n k:=by
 refine Am (s:=IQ (MX lfp G)) Pz (by obtain⟨h,o⟩:=jV Ap G;rw[Pz]at h;cases h;exact o) ?_
 show MX lfp G (Runs F G) (.ptr pb 0) H n k
 delta MX
 have x:=Fr.refl h hb
 refine AI5 rfl λH1 f1 g1=>?_
 have x:=x.al f1
 have g1:T.get H1 n=some (one [.ptr pb 0]):=g1
 have q1:AZ (.ptr n 0) G H1=some (.ptr pb 0):=AQ g1 rfl
 unfold LD at hm
 cases hd:decide (s.deep<1000000)with
 |false=>rw[hd]at hm;cases hm
 |true=>
  rw[hd,cond_true]at hm
  have hd:=of_decide_eq_true hd
  simp only[go_sem,Nat.reduceAdd,q1,x.p.deep,Iz (show s.deep+1<9223372036854775808 by omega)]
  have hp1:=x.p
  cases hp1 with
  |mk hg he ht hp hl=>
   refine Ew hg rfl rfl (by omega) (by show 1+1<=5;omega) λH2 g2 s2=>?_
   have q1:AZ (.ptr n 0) G H2=some (.ptr pb 0):=AQ ((s2 n (by omega)).trans g1) rfl
   have p2:YH G H2 pb {s with deep:=s.deep+1}:=.mk (s:={s with deep:=s.deep+1}) g2 (he.same λid hid=>by cases qE hid;exact s2 _ (by omega)) ht hp hl
   have x:Fr G pb H n H2 (n+1) {s with deep:=s.deep+1}:=⟨⟨x.le,λid hid hp=>(s2 id hp).trans (x.f.same id hid hp)⟩,p2,hb⟩
   have e2:AZ (.ptr pb 1) G H2=some (.int .i64 (.ofNat (s.deep+1)) 0):=p2.deep
   simp only[go_sem,Nat.reduceAdd,q1,e2,kN]
   cases ACE:decide (100<s.deep+1)with
   |false=>
    rw[ACE]at hm
    cases hm
    simp only[go_sem]
    delta He
    exact hk _ _ n x (Nat.le_refl _) (by omega) ((s2 n (by omega)).trans g1)
   |true=>
    rw[ACE]at hm
    cases hm
    simp only[go_sem,q1]
    refine dR x.p x.lt λH3 n3 y=>?_
    delta He
    exact hk _ _ n (x.tr y) (Nat.le_refl _) (by have:=y.le;omega) (y.get ((s2 n (by omega)).trans g1) (by omega) hb)
theorem AOg{q:Nat}{P:Heap->Nat->Prop}(h:YH G H pb s)(hb:pb<n)(hq:T.get H q=some (one [.ptr pb 0]))(hm:VB s=some s')(hk:∀H' n',Fr G pb H n H' n' s'->P H' n'):
 Np Bv (nV (.JL [.fn Bv [] [.ptr q 0]])) (Runs F G) H n P:=by
 show FN (Nat.beq Bv Bv) (Runs F G Bv [.ptr q 0] H n λ_ H n=>P H n)
 rw[show Nat.beq Bv Bv=true from Nat.beq_refl _,tX]
 generalize hk':(λ_ H n=>P H n:KV)=k
 refine Am (s:=IQ (KG lfp G)) Ec (by obtain⟨h,o⟩:=cZ Ap G;rw[Ec]at h;cases h;exact o) ?_
 show KG lfp G (Runs F G) (.ptr q 0) H n k
 delta KG
 subst hk'
 unfold VB at hm
 cases hd:s.deep with
 |zero=>rw[hd]at hm;cases hm
 |succ d=>
  rw[hd]at hm
  have hm:(bif decide (d<1000000)then some {s with deep:=d}else none)=some s':=hm
  cases hlt:decide (d<1000000)
  ·rw[hlt]at hm;cases hm
  rw[hlt,cond_true]at hm
  have hlt:=of_decide_eq_true hlt
  cases hm
  have q1:AZ (.ptr q 0) G H=some (.ptr pb 0):=AQ hq rfl
  have q2:=h.deep
  rw[hd]at q2
  have hbig:d+1<9223372036854775808:=by omega
  simp only[go_sem,Nat.reduceAdd,q1,q2,ASu hbig]
  cases h with
  |mk hg he ht hp hl=>
   refine Ew hg rfl rfl (by omega) (by show 1+1<=5;omega) λH2 g2 s2=>?_
   exact hk _ _ ⟨⟨Nat.le_refl _,λid hid hp=>s2 id hp⟩,.mk (s:={s with deep:=d}) g2 (he.same λid hid=>by cases qE hid;exact s2 _ (by omega)) ht hp hl,hb⟩
def tyC(t:Ty):LV:=[sB t.nm,.bool t.arr]
theorem ALe{z0 z1:V}(l:Bs):Cj [z0,z1] [(0,1,.c (sB l))]=some (.agg [sB l,z1]):=rfl
theorem AAl{l:Bs}(hk:∀H',Kp H n H' (n+1)->k (.agg [sB l,.bool false]) H' (n+1)):Runs F G rG [sB l] H n k:=by
 refine Am (s:=IQ (rX lfp G)) vZ (by obtain⟨h,o⟩:=AKC Ap G;rw[vZ]at h;cases h;exact o) ?_
 show rX lfp G (Runs F G) (sB l) H n k
 delta rX
 simp only[go_sem,ALe]
 exact hk _ (((Kp.refl H n).new (m:=n+1) _ (Nat.le_refl _) (by omega)).new _ (Nat.le_refl _) (Nat.le_refl _))
theorem AKz(hk:∀H',Kp H n H' (n+1)->k (.agg [sB Yw,.bool false]) H' (n+1)):Runs F G ACs [] H n k:=by
 refine Am (s:=ar0 (nJ lfp G)) pV (by obtain⟨h,o⟩:=AIE Ap G;rw[pV]at h;cases h;exact o) ?_
 show nJ lfp G (Runs F G) H n k
 delta nJ
 simp only[ALU,go_sem,ALe]
 exact hk _ (((Kp.refl H n).new (m:=n+1) _ (Nat.le_refl _) (by omega)).new _ (Nat.le_refl _) (Nat.le_refl _))
theorem AHo(hk:∀H',Kp H n H' (n+1)->k (.agg [sB Qq,.bool false]) H' (n+1)):Runs F G AA9 [] H n k:=by
 refine Am (s:=ar0 (bH lfp G)) jA (by obtain⟨h,o⟩:=AF3 Ap G;rw[jA]at h;cases h;exact o) ?_
 show bH lfp G (Runs F G) H n k
 delta bH
 simp only[AIC,go_sem,ALe]
 exact hk _ (((Kp.refl H n).new (m:=n+1) _ (Nat.le_refl _) (by omega)).new _ (Nat.le_refl _) (Nat.le_refl _))
theorem AER{m:Nat}(h:YH G H pb s)(hb:pb<n)(hk:∀H' n',Fr G pb H n H' n' (D9 m s)->k (.JL []) H' n'):Runs F G JZ [.ptr pb 0,.int .i64 (.ofNat m) 0] H n k:=by
 refine Am (s:=RG (NK lfp G)) PU (by obtain⟨h,o⟩:=kK Ap G;rw[PU]at h;cases h;exact o) ?_
 show NK lfp G (Runs F G) (.ptr pb 0) (.int .i64 (.ofNat m) 0) H n k
 delta NK
 unfold D9 at hk
 simp only[go_sem,kN]
 cases hd:decide (200<m)with
 |false=>rw[hd]at hk;simp only[go_sem];exact hk _ _ (Fr.refl h hb)
 |true=>rw[hd]at hk;simp only[go_sem];exact dR h hb hk
theorem ANC{t:Ty}(h:YH G H pb s)(hb:pb<n)(hm:Yu s=some (t,s'))(hk:∀H' n',Fr G pb H n H' n' s'->k (.agg (tyC t)) H' n'):Runs F G Qo [.ptr pb 0] H n k:=by
 refine Am (s:=IQ (NH lfp G)) PD (by obtain⟨h,o⟩:=jo Ap G;rw[PD]at h;cases h;exact o) ?_
 show NH lfp G (Runs F G) (.ptr pb 0) H n k
 delta NH
 have x:=Fr.refl h hb
 refine BG rfl λH1 f1 g1=>?_
 have x:=x.al f1
 unfold Yu at hm
 rw[Option.bind_eq_some_iff]at hm
 obtain⟨⟨b,s2⟩,h2,hm⟩:=hm
 have hm:(bif b then some (⟨Yw,false⟩,s2)else(BZ Qq s2).bind λp=>bif p.1 then some (⟨Qq,false⟩,p.2)else(Eo 2 p.2).bind λp=>some (⟨p.1,false⟩,p.2))=some (t,s'):=hm
 rw[ALU,AIC]
 have fin:∀{H2:Heap} {n2:Nat} {l:Bs},Fr G pb H n H2 n2 s'->T.get H2 n=some (one [.str 0 0,.bool false])->t=⟨l,false⟩->Df 2 (.ptr n 0) (.agg [sB l,.bool false]) H2 n2 λv4 H n_1=>Ip (EI [.cn (.ptr n 0) 2] G H) λl=>k (Hr l) H n_1:=by
  intro H2 n2 l x g ht
  subst ht
  refine DI g rfl rfl (by omega) λH3 g3 s3=>?_
  rw[ED (m:=2) g3 (by omega) rfl]
  simp only[go_sem]
  exact hk _ _ (x.st (Nat.le_refl _) s3)
 refine NV x.p x.lt h2 λH2 n2 y=>?_
 have x:=x.tr y
 have g1:=y.get g1 (by omega) hb
 cases b with
 |true=>
  cases hm
  simp only[go_sem]
  exact AKz λH3 f3=>fin (x.al f3) (f3.get g1 (by have:=y.le;omega)) rfl
 |false=>
  rw[cond_false,Option.bind_eq_some_iff]at hm
  obtain⟨⟨b,s3⟩,h3,hm⟩:=hm
  simp only[go_sem]
  have hn:=y.le
  refine NV x.p x.lt h3 λH3 n3 y=>?_
  have x:=x.tr y
  have g1:=y.get g1 (by omega) hb
  have hn2:=y.le
  cases b with
  |true=>
   cases hm
   simp only[go_sem]
   exact AHo λH3 f3=>fin (x.al f3) (f3.get g1 (by omega)) rfl
  |false=>
   rw[cond_false,Option.bind_eq_some_iff]at hm
   obtain⟨⟨l,s4⟩,h4,hm⟩:=hm
   cases hm
   simp only[go_sem]
   refine ZU x.p x.lt h4 λH4 n4 y=>?_
   have x:=x.tr y
   have g1:=y.get g1 (by omega) hb
   have hn3:=y.le
   exact AAl λH3 f3=>fin (x.al f3) (f3.get g1 (by omega)) rfl
theorem AI3{t:Ty}(h:YH G H pb s)(hb:pb<n)(hm:UZ s=some (t,s'))(hk:∀H' n',Fr G pb H n H' n' s'->k (.agg (tyC t)) H' n'):Runs F G Jw [.ptr pb 0] H n k:=by
 refine Am (s:=IQ (N9 lfp G)) Qn (by obtain⟨h,o⟩:=nZ Ap G;rw[Qn]at h;cases h;exact o) ?_
 show N9 lfp G (Runs F G) (.ptr pb 0) H n k
 delta N9
 have x:=Fr.refl h hb
 refine BG rfl λH1 f1 g1=>?_
 have x:=x.al f1
 unfold UZ at hm
 rw[Option.bind_eq_some_iff]at hm
 obtain⟨⟨t1,s2⟩,h2,hm⟩:=hm
 rw[Option.bind_eq_some_iff]at hm
 obtain⟨⟨b,s3⟩,h3,hm⟩:=hm
 have hm:(bif b then(BM [FV] s3).bind λs=>some ((⟨t1.nm,true⟩:Ty),s)else some (t1,s3))=some (t,s'):=hm
 refine ANC x.p x.lt h2 λH2 n2 y=>?_
 have x:=x.tr y
 have g1:=y.get g1 (by omega) hb
 have hn:=y.le
 refine BG rfl λH3 f3 g3=>?_
 have x:=x.al f3
 have g1:=f3.get g1 (by omega)
 refine DI (L:=tyC t1) g3 rfl rfl (by omega) λH4 g3 s4=>?_
 have x:=x.st (by omega) s4
 have g1:=(s4 n (by omega)).trans g1
 have fin:∀{H5:Heap} {n5:Nat},Fr G pb H n H5 n5 s'->T.get H5 n=some (one [.str 0 0,.bool false])->T.get H5 n2=some (one (tyC t))->IK lfp G (Runs F G) k (.ptr n 0) (.ptr n2 0) H5 n5:=by
  intro H5 n5 x g1 g3
  delta IK
  rw[Ah (m:=2) g3 (by omega) rfl,BA]
  refine DI g1 rfl rfl (by omega) λH6 g6 s6=>?_
  rw[ED (m:=2) g6 (by omega) rfl]
  simp only[go_sem]
  exact hk _ _ (x.st (Nat.le_refl _) s6)
 rw[AWu]
 refine NV x.p x.lt h3 λH5 n5 y=>?_
 have x:=x.tr y
 have g1:=y.get g1 (by omega) hb
 have g3:=y.get g3 (by omega) (by omega)
 have hn5:=y.le
 cases b with
 |false=>
  cases hm
  simp only[go_sem]
  exact fin x g1 g3
 |true=>
  rw[cond_true,Option.bind_eq_some_iff]at hm
  obtain⟨s4,h4,hm⟩:=hm
  cases hm
  simp only[go_sem]
  refine KJ (ws:=[FV]) x.p x.lt rfl (by show 1<=1000;omega) h4 λH6 n6 y=>?_
  have x:=x.tr y
  have g1:=y.get g1 (by omega) hb
  have g3:=y.get g3 (by omega) (by omega)
  refine Ew g3 rfl rfl (by omega) (by show 1+1<=2;omega) λH7 g7 s7=>?_
  exact fin (x.st (by omega) s7) ((s7 n (by omega)).trans g1) g7
end
def iC(kind num:Nat)(nm ty:Bs)(arr:Bool)(line col:Nat)(v:V):LV:=
 [.int .i64 (.ofNat kind) 0,.int .i64 (.ofNat line) 0,.int .i64 (.ofNat col) 0,.int .i64 (.ofNat num) 0,sB nm,sB ty,.bool arr,v,.str 0 0,.bool false,.str 0 0]
def KS(v:V):Prop:=PL v v=true/\(∀id o m c e,v=.sl id o m c e->m<=c)/\∀b o m c e,v≠.rsl b o m c e
mutual
inductive ER(G:AY)(H:Heap)(A:Nat->Prop):LV->Ex->Prop where
 |mk (kind num:Nat) (nm ty:Bs) (arr:Bool) (line col:Nat) {v:V} {cs:EY} {kids:List Ex} (he:El G H v 11 cs) (hv:KS v) (ha:∀id,v.Ry=some id->A id) (hc:QW G H A cs kids):
  ER G H A (iC kind num nm ty arr line col v) (.mk kind num nm ty arr kids)
inductive QW(G:AY)(H:Heap)(A:Nat->Prop):EY->List Ex->Prop where
 |nil:QW G H A [] []
 |cons {c:LV} {e:Ex} {cs:EY} {es:List Ex} (h:ER G H A c e) (t:QW G H A cs es):QW G H A (c::cs) (e::es)
end
mutual
theorem ER.mono{G:AY}{H H':Heap}{A B:Nat->Prop}(hA:∀id,A id->B id)(hs:∀id,A id->T.get H' id=T.get H id):∀{c:LV} {e:Ex},ER G H A c e->ER G H' B c e
 |_,_,.mk kind num nm ty arr line col he hv ha hc=>.mk kind num nm ty arr line col (he.same λid hid=>hs id (ha id hid)) hv (λid hid=>hA id (ha id hid)) (QW.mono hA hs hc)
theorem QW.mono{G:AY}{H H':Heap}{A B:Nat->Prop}(hA:∀id,A id->B id)(hs:∀id,A id->T.get H' id=T.get H id):∀{cs:EY} {es:List Ex},QW G H A cs es->QW G H' B cs es
 |_,_,.nil=>.nil
 |_,_,.cons h t=>.cons (ER.mono hA hs h) (QW.mono hA hs t)
end
theorem QW.app{G:AY}{H:Heap}{A:Nat->Prop}:∀{cs:EY} {es:List Ex} {cs':EY} {es':List Ex},QW G H A cs es->QW G H A cs' es'->QW G H A (cs++cs') (es++es')
 |_,_,_,_,.nil,h=>h
 |_,_,_,_,.cons h t,h'=>.cons h (t.app h')
theorem QW.len{G:AY}{H:Heap}{A:Nat->Prop}:∀{cs:EY} {es:List Ex},QW G H A cs es->cs.length=es.length
 |_,_,.nil=>rfl
 |_,_,.cons h t=>by simp[t.len]
theorem bM(q:IntKind)(a:Int):PL (.int q a 0) (.int q a 0)=true:=by simp[PL,AIb,CJ,VP,dY]
theorem AAV(l c:Nat):PL (.str l c) (.str l c)=true:=by simp[PL,AJB,CJ]
theorem AEu(b:Bool):PL (.bool b) (.bool b)=true:=by cases b<;>rfl
theorem ARQ(a b c d e:Nat):PL (.sl a b c d e) (.sl a b c d e)=true:=by simp[PL,AQF,CJ]
theorem AMF(a b c d:Nat):PL (.Qg a b c d) (.Qg a b c d)=true:=by simp[PL,AIm,CJ]
theorem gy{a b c d e:Nat}(h:c<=d):KS (.sl a b c d e):=⟨ARQ ..,λ_ _ _ _ _ h'=>(by cases h';exact h),by simp⟩
theorem AIV(a b c d:Nat):KS (.Qg a b c d):=⟨AMF ..,λ_ _ _ _ _ h=>(by cases h),by simp⟩
theorem ADb:KS .Aj:=⟨rfl,λ_ _ _ _ _ h=>(by cases h),by simp⟩
theorem vsL:∀L:LV,(∀v∈L,PL v v=true)->wU L L=true
 |[],_=>rfl
 |v::L,h=>by
  show band (PL v v) (wU L L)=true
  rw[h v (List.mem_cons_self ..),vsL L λw hw=>h w (List.mem_cons_of_mem _ hw)];rfl
theorem ABc{L:LV}(h:∀v∈L,PL v v=true):CX (.agg L) (.agg L)=true:=vsL L h
theorem WZ(line col:Nat):CX (.agg [.int .i64 (.ofNat line) 0,.int .i64 (.ofNat col) 0]) (.agg [.int .i64 (.ofNat line) 0,.int .i64 (.ofNat col) 0])=true:=
 ABc λv hv=>by simp at hv;rcases hv with rfl|rfl<;>exact bM ..
theorem TB(l:Bs):CX (sB l) (sB l)=true:=AAV ..
section
variable{G:AY}{H:Heap}{A:Nat->Prop}{c:LV}{e:Ex}
theorem ER.len(h:ER G H A c e):c.length=11:=by cases h;rfl
theorem ER.kd(h:ER G H A c e):c[0]? =some (.int .i64 (.ofNat e.kind) 0):=by cases h;rfl
theorem ER.vs(h:ER G H A c e):CX (.agg c) (.agg c)=true:=by
 cases h with
 |mk kind num nm ty arr line col he hv ha hc=>
  refine ABc λv hv'=>?_
  simp only[iC,List.mem_cons,List.not_mem_nil,or_false]at hv'
  rcases hv' with rfl|rfl|rfl|rfl|rfl|rfl|rfl|rfl|rfl|rfl|rfl<;>first|exact bM .. |exact AAV .. |exact AEu .. |exact hv.1
end
def Rg(a b:Nat):Nat->Prop:=λid=>a<=id/\id<b
def Al(a b x:Nat):Nat->Prop:=λid=>a<id/\id<b/\id≠x
theorem Dv{v:V}{P:Prop}(h:CX v v=true)(hp:P):FN (CX v v) P:=by rw[h];exact hp
abbrev exZ:LV:=[.int .i64 (.ofNat 0) 0,.int .i64 (.ofNat 0) 0,.int .i64 (.ofNat 0) 0,.int .i64 (.ofNat 0) 0,.str 0 0,.str 0 0,.bool false,.Aj,.str 0 0,.bool false,.str 0 0]
def ExK(G:AY)(pb:Nat)(H:Heap)(n:Nat)(s':S)(e:Ex)(k:KV):Prop:=∀H' n' c,Fr G pb H n H' n' s'->ER G H' (Rg n n') c e->k (.agg c) H' n'
def Bxs(H:Heap)(n pb:Nat)(bs:List Nat):Prop:=∀b∈bs,pb<b/\b<n/\T.get H b=some (one [.ptr pb 0])
theorem Bxs.fr{G:AY}{H H':Heap}{n n' pb:Nat}{s':S}{bs:List Nat}(h:Bxs H n pb bs)(y:Fr G pb H n H' n' s'):Bxs H' n' pb bs:=λb hb=>by
 obtain⟨h1,h2,h3⟩:=h b hb
 exact⟨h1,Nat.lt_of_lt_of_le h2 y.le,y.get h3 h2 h1⟩
theorem Bxs.nil{H:Heap}{n pb:Nat}:Bxs H n pb []:=λ_ h=>by cases h
def FnC(G:AY)(pb:Nat)(bs:List Nat)(m:PM Ex)(v:V):Prop:=∀(s:S) (H:Heap) (n:Nat) (s':S) (e:Ex) (k:KV),YH G H pb s->pb<n->Bxs H n pb bs->m s=some (e,s')->ExK G pb H n s' e k->VQ v [] (Runs F G) H n k
theorem AHD{kd:Nat}{x y:V}{id o l c:Nat}:Cj exZ [(0,1,.c (.int .i64 (.ofNat kd) 0)),(1,2,.c (.agg [x,y])),(7,1,.c (.sl id o l c 11))]=
 some (.agg [.int .i64 (.ofNat kd) 0,x,y,.int .i64 (.ofNat 0) 0,.str 0 0,.str 0 0,.bool false,.sl id o l c 11,.str 0 0,.bool false,.str 0 0]):=rfl
section
variable{G:AY}{H:Heap}{n pb:Nat}{s s':S}{k:KV}
theorem qG{H0 H:Heap}{n0 n r b:Nat}{c L0:LV}{e:Ex}{A:Nat->Prop}(x:Fr G pb H0 n0 H n s')(gr:T.get H r=some (one L0))(hl:L0.length=11)(gb:T.get H b=some (one c))(hr:n0<=r)(he:ER G H A c e)
 (hA:∀id,A id->n0<=id/\id<n/\id≠r) (hk:ExK G pb H0 n0 s' e k):
 AP (A8 11 (.ptr b 0) G H) λv6=>Df 11 (.ptr r 0) v6 H n λ_ H n=>Ip (EI [.cn (.ptr r 0) 11] G H) λl=>k (Hr l) H n:=by
 rw[Ah (m:=11) gb (by omega) he.len,BA]
 refine DI gr hl he.len (by omega) λH1 g1 s1=>?_
 rw[ED (m:=11) g1 (by omega) he.len]
 simp only[go_sem]
 exact hk _ _ _ (x.st hr s1) (he.mono (λid h=>⟨(hA id h).1,(hA id h).2.1⟩) λid h=>s1 id (hA id h).2.2)
theorem AGN{bs:List Nat}{m:PM Ex}{v:V}{kd f:Nat}{w:Bs}{e:Ex}(hf:FnC G pb bs m v)(hbs:Bxs H n pb bs)(h:YH G H pb s)(hb:pb<n)(hm:either kd w m f s=some (e,s'))(hk:ExK G pb H n s' e k):
 Runs F G OY [.ptr pb 0,.int .i64 (.ofNat kd) 0,sB w,v] H n k:=by
 refine Am (s:=ar4 (J5 lfp G)) OD (by obtain⟨h,o⟩:=bK Ap G;rw[OD]at h;cases h;exact o) ?_
 show J5 lfp G (Runs F G) (.ptr pb 0) (.int .i64 (.ofNat kd) 0) (sB w) v H n k
 delta J5
 have x:=Fr.refl h hb
 refine BG rfl λH1 f1 g1=>?_
 have x:=x.al f1
 unfold either at hm
 rw[Option.bind_eq_some_iff]at hm
 obtain⟨⟨e1,s1⟩,h1,hm⟩:=hm
 have hm:UK kd w m f e1 s1=some (e,s'):=hm
 refine hf s H1 (n+1) s1 e1 _ x.p x.lt (hbs.fr x) h1 λH2 n2 c y hx=>?_
 have x:=x.tr y
 have g1:=y.get g1 (by omega) hb
 have hn2:=y.le
 refine BG rfl λH3 f3 g3=>?_
 have x:=x.al f3
 have g1:=f3.get g1 (by omega)
 refine DI g3 rfl hx.len (by omega) λH4 g4 s4=>?_
 have x:=x.st (by omega) s4
 have g1:=(s4 n (by omega)).trans g1
 have hx:ER G H4 (Al n (n2+1) n2) c e1:=hx.mono (λid h=>⟨by have:=h.1;omega,by have:=h.2;omega,by have:=h.2;omega⟩) λid h=>(s4 id (by have:=h.2;omega)).trans (f3.same id h.2)
 refine NW (J:=λg q=>∃H' n' t c e1,q=(.ptr pb 0,.int .i64 (.ofNat kd) 0,sB w,v,.ptr n 0,.ptr n2 0,H',n')/\Fr G pb H n H' n' t/\n2<n'/\T.get H' n=some (one exZ)/\T.get H' n2=some (one c)/\ER G H' (Al n n' n2) c e1/\UK kd w m g e1 t=some (e,s')) ?_ (m:=f)
  ⟨H4,n2+1,s1,c,e1,rfl,x,by omega,g1,g4,hx,hm⟩
 rintro I g q ⟨H5,n5,t,c,e1,rfl,x,hn5,g1,g4,hx,hm⟩ ih
 show Lj lfp G (Runs F G) k I (.ptr pb 0) (.int .i64 (.ofNat kd) 0) (sB w) v (.ptr n 0) (.ptr n2 0) H5 n5
 delta Lj
 cases g with
 |zero=>cases hm
 |succ g=>
  have hm:(bif Hq [w] t then(Hu t).bind λs1=>(m s1).bind λp=>UK kd w m g (.mk kd 0 [] [] false [e1,p.1]) p.2 else some (e1,t))=some (e,s'):=hm
  refine oO (ws:=[w]) x.p x.lt rfl (by show 1<=1000;omega) λH6 n6 y=>?_
  have x:=x.tr y
  have hn6:=y.le
  have g1:=y.get g1 (by omega) hb
  have g4:=y.get g4 (by omega) (by omega)
  have hx:ER G H6 (Al n n6 n2) c e1:=hx.mono (λid h=>⟨h.1,by have:=h.2.1;omega,h.2.2⟩) λid h=>y.f.same id h.2.1 (by have:=h.1;omega)
  cases hi:Hq [w] t with
  |false=>
   rw[hi]at hm
   cases hm
   simp only[go_sem]
   delta Lu
   exact qG x g1 rfl g4 (Nat.le_refl _) hx (λid h=>⟨by have:=h.1;omega,h.2.1,by have:=h.1;omega⟩) hk
  |true=>
   rw[hi,cond_true,Option.bind_eq_some_iff]at hm
   obtain⟨t1,h1,hm⟩:=hm
   rw[Option.bind_eq_some_iff]at hm
   obtain⟨⟨e2,t2⟩,h2,hm⟩:=hm
   rw[Bq]
   refine ZH x.p x.lt h1 λH7 n7 line col _ _ y=>?_
   have x:=x.tr y
   have hn7:=y.le
   have g1:=y.get g1 (by omega) hb
   have g4:=y.get g4 (by omega) (by omega)
   have hx:ER G H7 (Al n n7 n2) c e1:=hx.mono (λid h=>⟨h.1,by have:=h.2.1;omega,h.2.2⟩) λid h=>y.f.same id h.2.1 (by have:=h.1;omega)
   rw[show AVj 3 2 (.agg (TP t.t line col))=some (.agg [.int .i64 (.ofNat line) 0,.int .i64 (.ofNat col) 0])from rfl,BA]
   refine BG rfl λH8 f8 g8=>?_
   have x:=x.al f8
   refine DI g8 rfl (L:=[.int .i64 (.ofNat line) 0,.int .i64 (.ofNat col) 0]) rfl (by omega) λH9 g9 s9=>?_
   have x:=x.st (by omega) s9
   have g1:=(s9 n (by omega)).trans (f8.get g1 (by omega))
   have g4:=(s9 n2 (by omega)).trans (f8.get g4 (by omega))
   have hx:ER G H9 (Al n n7 n2) c e1:=hx.mono (λid h=>h) λid h=>(s9 id (by have:=h.2.1;omega)).trans (f8.same id h.2.1)
   rw[Ah (m:=2) g9 (by omega) rfl,BA,Ah (m:=11) g4 (by omega) hx.len,BA]
   refine hf _ H9 (n7+1) _ _ _ x.p x.lt (hbs.fr x) h2 λH10 n10 c2 y hx2=>?_
   have x:=x.tr y
   have hn10:=y.le
   have g1:=y.get g1 (by omega) hb
   have g4:=y.get g4 (by omega) (by omega)
   have g9:=y.get g9 (by omega) (by omega)
   rw[Ah (m:=2) g9 (by omega) rfl,BA,Ah (m:=11) g4 (by omega) hx.len]
   refine Dv (WZ ..) (Dv hx.vs ?_)
   refine O3 (G:=G) (vs:=[.agg c,.agg c2]) rfl (by omega) (λv hv=>by simp at hv;rcases hv with rfl|rfl;exact⟨rfl,hx.len⟩;exact⟨rfl,hx2.len⟩) λH11 f11 _ hel=>?_
   have x:=x.al f11
   have g1:=f11.get g1 (by omega)
   have g4:=f11.get g4 (by omega)
   rw[AHD,BA]
   refine DI g4 hx.len rfl (by omega) λH12 g12 s12=>?_
   have x:=x.st (by omega) s12
   refine ih g _ (by omega) ⟨H12,n10+1,t2,_,.mk kd 0 [] [] false [e1,e2],rfl,x,by omega,(s12 n (by omega)).trans g1,g12,?_,hm⟩
   refine .mk kd 0 [] [] false line col (hel.same λid hid=>s12 id (by cases Iq hid;omega)) (gy (by omega)) (λid hid=>⟨by cases Iq hid;omega,by cases Iq hid;omega,by cases Iq hid;omega⟩) ?_
   refine .cons (hx.mono (λid h=>⟨h.1,by have:=h.2.1;omega,h.2.2⟩) λid h=>?_) (.cons (hx2.mono (λid h=>⟨by have:=h.1;omega,by have:=h.2;omega,by have:=h.1;omega⟩) λid h=>?_) .nil)
   ·have h1:=h.1;have h2:=h.2.1
    exact(s12 id h.2.2).trans ((f11.same id (by omega)).trans (y.f.same id (by omega) (by omega)))
   ·have h1:=h.1;have h2:=h.2
    exact(s12 id (by omega)).trans (f11.same id h2)
end
theorem AEr{kd:Nat}{x y:V}{nm:Bs}{id o l c:Nat}:Cj exZ [(0,1,.c (.int .i64 (.ofNat kd) 0)),(1,2,.c (.agg [x,y])),(4,1,.c (sB nm)),(7,1,.c (.sl id o l c 11))]=
 some (.agg [.int .i64 (.ofNat kd) 0,x,y,.int .i64 (.ofNat 0) 0,sB nm,.str 0 0,.bool false,.sl id o l c 11,.str 0 0,.bool false,.str 0 0]):=rfl
section
variable{G:AY}{H:Heap}{n pb:Nat}{s s':S}{k:KV}
theorem AGy{H0 H:Heap}{n0 n r:Nat}{c L0:LV}{e:Ex}{A:Nat->Prop}(x:Fr G pb H0 n0 H n s')(gr:T.get H r=some (one L0))(hl:L0.length=11)(hr:n0<=r)(he:ER G H A c e)
 (hA:∀id,A id->n0<=id/\id<n/\id≠r) (hk:ExK G pb H0 n0 s' e k):
 Df 11 (.ptr r 0) (.agg c) H n λ_ H n=>Ip (EI [.cn (.ptr r 0) 11] G H) λl=>k (Hr l) H n:=by
 refine DI gr hl he.len (by omega) λH1 g1 s1=>?_
 rw[ED (m:=11) g1 (by omega) he.len]
 simp only[go_sem]
 exact hk _ _ _ (x.st hr s1) (he.mono (λid h=>⟨(hA id h).1,(hA id h).2.1⟩) λid h=>s1 id (hA id h).2.2)
theorem AIc{bs:List Nat}{ws:List Bs}{m:PM Ex}{v:V}{i o l cp f:Nat}{e:Ex}(hf:FnC G pb bs m v)(hbs:Bxs H n pb bs)(hv:El G H (.sl i o l cp 1) 1 (wsC ws))(hin:i<n)(hip:pb<i)(hw:ws.length<=1000)
 (h:YH G H pb s) (hb:pb<n) (hm:signs ws m f s=some (e,s')) (hk:ExK G pb H n s' e k):
 Runs F G Ph [.ptr pb 0,v,.sl i o l cp 1] H n k:=by
 refine Am (s:=ar3 (LQ lfp G)) OZ (by obtain⟨h,o⟩:=iT Ap G;rw[OZ]at h;cases h;exact o) ?_
 show LQ lfp G (Runs F G) (.ptr pb 0) v (.sl i o l cp 1) H n k
 delta LQ
 have x:=Fr.refl h hb
 refine BG rfl λH1 f1 g1=>?_
 have x:=x.al f1
 unfold signs at hm
 rw[Option.bind_eq_some_iff]at hm
 obtain⟨⟨e1,s1⟩,h1,hm⟩:=hm
 have hm:Xz ws m f e1 s1=some (e,s'):=hm
 refine hf s H1 (n+1) s1 e1 _ x.p x.lt (hbs.fr x) h1 λH2 n2 c y hx=>?_
 have x:=x.tr y
 have g1:=y.get g1 (by omega) hb
 have hn2:=y.le
 refine BG rfl λH3 f3 g3=>?_
 have x:=x.al f3
 have g1:=f3.get g1 (by omega)
 refine DI g3 rfl hx.len (by omega) λH4 g4 s4=>?_
 have x:=x.st (by omega) s4
 have g1:=(s4 n (by omega)).trans g1
 have hx:ER G H4 (Al n (n2+1) n2) c e1:=hx.mono (λid h=>⟨by have:=h.1;omega,by have:=h.2;omega,by have:=h.2;omega⟩) λid h=>(s4 id (by have:=h.2;omega)).trans (f3.same id h.2)
 refine NW (J:=λg q=>∃H' n' t c e1,q=(.ptr pb 0,v,.sl i o l cp 1,.ptr n 0,.ptr n2 0,H',n')/\Fr G pb H n H' n' t/\n2<n'/\T.get H' n=some (one exZ)/\T.get H' n2=some (one c)/\ER G H' (Al n n' n2) c e1/\Xz ws m g e1 t=some (e,s')) ?_ (m:=f)
  ⟨H4,n2+1,s1,c,e1,rfl,x,by omega,g1,g4,hx,hm⟩
 rintro I g q ⟨H5,n5,t,c,e1,rfl,x,hn5,g1,g4,hx,hm⟩ ih
 show NP lfp G (Runs F G) k I (.ptr pb 0) v (.sl i o l cp 1) (.ptr n 0) (.ptr n2 0) H5 n5
 delta NP
 cases g with
 |zero=>cases hm
 |succ g=>
  have hm:(bif Hq ws t then(Hu t).bind λs1=>(m s1).bind λp=>Xz ws m g (.mk 16 0 t.t.text [] false [e1,p.1]) p.2 else some (e1,t))=some (e,s'):=hm
  refine AUr x.p (hv.same λj hj=>by cases Iq hj;exact x.f.same _ hin (by omega)) hw ?_
  cases hi:Hq ws t with
  |false=>
   rw[hi]at hm
   cases hm
   rw[Bg]
   delta NQ
   exact qG x g1 rfl g4 (Nat.le_refl _) hx (λid h=>⟨by have:=h.1;omega,h.2.1,by have:=h.1;omega⟩) hk
  |true=>
   rw[hi,cond_true,Option.bind_eq_some_iff]at hm
   obtain⟨t1,h1,hm⟩:=hm
   rw[Option.bind_eq_some_iff]at hm
   obtain⟨⟨e2,t2⟩,h2,hm⟩:=hm
   rw[Bq]
   refine ZH x.p x.lt h1 λH7 n7 line col _ _ y=>?_
   have x:=x.tr y
   have hn7:=y.le
   have g1:=y.get g1 (by omega) hb
   have g4:=y.get g4 (by omega) (by omega)
   have hx:ER G H7 (Al n n7 n2) c e1:=hx.mono (λid h=>⟨h.1,by have:=h.2.1;omega,h.2.2⟩) λid h=>y.f.same id h.2.1 (by have:=h.1;omega)
   refine BG rfl λH8 f8 g8=>?_
   have x:=x.al f8
   refine DI g8 rfl (L:=TP t.t line col) rfl (by omega) λH9 g9 s9=>?_
   have x:=x.st (by omega) s9
   have g1:=(s9 n (by omega)).trans (f8.get g1 (by omega))
   have g4:=(s9 n2 (by omega)).trans (f8.get g4 (by omega))
   have hx:ER G H9 (Al n n7 n2) c e1:=hx.mono (λid h=>h) λid h=>(s9 id (by have:=h.2.1;omega)).trans (f8.same id h.2.1)
   rw[Aa,BA,Aa]
   simp only[Nat.zero_add]
   rw[MI (m:=2) (o:=3) g9 (by omega) (by show 3+2<=5;omega),BA,BA,AQ (off:=1) g9 (v:=sB t.t.text) rfl,BA,Ah (m:=11) g4 (by omega) hx.len,BA]
   refine hf _ H9 (n7+1) _ _ _ x.p x.lt (hbs.fr x) h2 λH10 n10 c2 y hx2=>?_
   have x:=x.tr y
   have hn10:=y.le
   have g1:=y.get g1 (by omega) hb
   have g4:=y.get g4 (by omega) (by omega)
   have g9:=y.get g9 (by omega) (by omega)
   rw[MI (m:=2) (o:=3) g9 (by omega) (by show 3+2<=5;omega),BA,AQ (off:=1) g9 (v:=sB t.t.text) rfl,BA,Ah (m:=11) g4 (by omega) hx.len]
   refine Dv (WZ ..) (Dv (TB _) (Dv hx.vs ?_))
   refine O3 (G:=G) (vs:=[.agg c,.agg c2]) rfl (by omega) (λv hv=>by simp at hv;rcases hv with rfl|rfl;exact⟨rfl,hx.len⟩;exact⟨rfl,hx2.len⟩) λH11 f11 _ hel=>?_
   have x:=x.al f11
   have g1:=f11.get g1 (by omega)
   have g4:=f11.get g4 (by omega)
   refine(show ∀{P:V->Prop},P _->AP (Cj exZ [(0,1,.c (.int .i64 (.ofNat 16) 0)),(1,2,.c (.agg [.int .i64 (.ofNat line) 0,.int .i64 (.ofNat col) 0])),(4,1,.c (sB t.t.text)),(7,1,.c (.sl n10 0 2 2 11))]) P from λh=>by rw[AEr];exact h) ?_
   refine DI g4 hx.len rfl (by omega) λH12 g12 s12=>?_
   have x:=x.st (by omega) s12
   refine ih g _ (by omega) ⟨H12,n10+1,t2,_,.mk 16 0 t.t.text [] false [e1,e2],rfl,x,by omega,(s12 n (by omega)).trans g1,g12,?_,hm⟩
   refine .mk 16 0 t.t.text [] false line col (hel.same λid hid=>s12 id (by cases Iq hid;omega)) (gy (by omega)) (λid hid=>⟨by cases Iq hid;omega,by cases Iq hid;omega,by cases Iq hid;omega⟩) ?_
   refine .cons (hx.mono (λid h=>⟨h.1,by have:=h.2.1;omega,h.2.2⟩) λid h=>?_) (.cons (hx2.mono (λid h=>⟨by have:=h.1;omega,by have:=h.2;omega,by have:=h.1;omega⟩) λid h=>?_) .nil)
   ·have h1:=h.1;have h2:=h.2.1
    exact(s12 id h.2.2).trans ((f11.same id (by omega)).trans (y.f.same id (by omega) (by omega)))
   ·have h1:=h.1;have h2:=h.2
    exact(s12 id (by omega)).trans (f11.same id h2)
end
section
variable{G:AY}{pb:Nat}
theorem one1{H:Heap}{n b:Nat}(h:Bxs H n pb [b]):pb<b/\b<n/\T.get H b=some (one [.ptr pb 0]):=h b (List.mem_cons_self ..)
theorem ASb{un:PM Ex}{f b:Nat}(hf:FnC G pb [] un (.fn DU [.ptr pb 0] [])):FnC G pb [b] (signs [X8,Tq,tu] un f) (.fn Jp [] [.ptr b 0]):=by
 intro s H n s' e k h hb hbs hm hk
 rw[mP]
 show Runs F G Jp [.ptr b 0] H n k
 refine Am (s:=IQ (Gj lfp G)) JY (by obtain⟨h,o⟩:=WV Ap G;rw[JY]at h;cases h;exact o) ?_
 show Gj lfp G (Runs F G) (.ptr b 0) H n k
 delta Gj
 obtain⟨b1,b2,b3⟩:=one1 hbs
 have x:=Fr.refl h hb
 refine BG rfl λH1 f1 g1=>?_
 have x:=x.al f1
 have b3:=f1.get b3 b2
 have q:AZ (.ptr b 0) G H1=some (.ptr pb 0):=AQ b3 rfl
 rw[q,BA,BA]
 refine uI (G:=G) (ws:=[X8,Tq,tu]) rfl λH2 f2 hel=>?_
 have x:=x.al f2
 have g1:=f2.get g1 (by omega)
 refine AIc hf Bxs.nil hel (by omega) (by omega) (by show 3<=1000;omega) x.p x.lt hm λH3 n3 c y hx=>?_
 have hn:=y.le
 exact AGy (x.tr y) (y.get g1 (by omega) hb) rfl (Nat.le_refl _) hx (λid h=>⟨by have:=h.1;omega,h.2,by have:=h.1;omega⟩) hk
theorem AQ7{un:PM Ex}{f b:Nat}(hf:FnC G pb [] un (.fn DU [.ptr pb 0] [])):FnC G pb [b] (sumP un f) (.fn IG [] [.ptr b 0]):=by
 intro s H n s' e k h hb hbs hm hk
 rw[mP]
 show Runs F G IG [.ptr b 0] H n k
 refine Am (s:=IQ (IE lfp G)) Ju (by obtain⟨h,o⟩:=YD Ap G;rw[Ju]at h;cases h;exact o) ?_
 show IE lfp G (Runs F G) (.ptr b 0) H n k
 delta IE
 obtain⟨b1,b2,b3⟩:=one1 hbs
 have x:=Fr.refl h hb
 refine BG rfl λH1 f1 g1=>?_
 have x:=x.al f1
 have b3:=f1.get b3 b2
 have q:AZ (.ptr b 0) G H1=some (.ptr pb 0):=AQ b3 rfl
 rw[q,BA]
 refine uI (G:=G) (ws:=[cO,Dq]) rfl λH2 f2 hel=>?_
 have x:=x.al f2
 have g1:=f2.get g1 (by omega)
 refine AIc (ASb hf) (λj hj=>by simp at hj;subst hj;exact⟨b1,by omega,f2.get b3 (by omega)⟩) hel (by omega) (by omega) (by show 2<=1000;omega) x.p x.lt hm λH3 n3 c y hx=>?_
 have hn:=y.le
 exact AGy (x.tr y) (y.get g1 (by omega) hb) rfl (Nat.le_refl _) hx (λid h=>⟨by have:=h.1;omega,h.2,by have:=h.1;omega⟩) hk
theorem AHE{un:PM Ex}{f:Nat}(hf:FnC G pb [] un (.fn DU [.ptr pb 0] [])):FnC G pb [] (compared un f) (.fn NT [.ptr pb 0] []):=by
 intro s H n s' e k h hb hbs hm hk
 rw[mP]
 show Runs F G NT [.ptr pb 0] H n k
 refine Am (s:=IQ (JO lfp G)) Ls (by obtain⟨h,o⟩:=ZN Ap G;rw[Ls]at h;cases h;exact o) ?_
 show JO lfp G (Runs F G) (.ptr pb 0) H n k
 delta JO
 unfold compared at hm
 rw[Option.bind_eq_some_iff]at hm
 obtain⟨⟨e1,t⟩,h1,hm⟩:=hm
 have hm:(bif Hq [WX,gB,UW,fM] t then(Hu t).bind λs1=>(sumP un f s1).bind λq=>some (.mk 16 0 t.t.text [] false [e1,q.1],q.2)else some (e1,t))=some (e,s'):=hm
 have x:=Fr.refl h hb
 refine AI5 rfl λH0 f0 g0=>?_
 have x:=x.al f0
 have g0:T.get H0 n=some (one [.ptr pb 0]):=g0
 refine BG rfl λH1 f1 g1=>?_
 have x:=x.al f1
 have g0:=f1.get g0 (by omega)
 refine AQ7 (b:=n) hf _ H1 (n+1+1) _ _ _ x.p x.lt (λj hj=>by simp at hj;subst hj;exact⟨hb,by omega,g0⟩) h1 λH2 n2 c y hx=>?_
 have x:=x.tr y
 have g0:=y.get g0 (by omega) hb
 have g1:=y.get g1 (by omega) (by omega)
 have hn2:=y.le
 refine BG rfl λH3 f3 g3=>?_
 have x:=x.al f3
 have g0:=f3.get g0 (by omega)
 have g1:=f3.get g1 (by omega)
 refine DI g3 rfl hx.len (by omega) λH4 g4 s4=>?_
 have x:=x.st (by omega) s4
 have g0:=(s4 n (by omega)).trans g0
 have g1:=(s4 (n+1) (by omega)).trans g1
 have hx:ER G H4 (Al (n+1) (n2+1) n2) c e1:=hx.mono (λid h=>⟨by have:=h.1;omega,by have:=h.2;omega,by have:=h.2;omega⟩) λid h=>(s4 id (by have:=h.2;omega)).trans (f3.same id h.2)
 have q:AZ (.ptr n 0) G H4=some (.ptr pb 0):=AQ g0 rfl
 rw[q,BA]
 refine oO (ws:=[WX,gB,UW,fM]) x.p x.lt rfl (by show 4<=1000;omega) λH6 n6 y=>?_
 have x:=x.tr y
 have hn6:=y.le
 have g0:=y.get g0 (by omega) hb
 have g1:=y.get g1 (by omega) (by omega)
 have g4:=y.get g4 (by omega) (by omega)
 have hx:ER G H6 (Al (n+1) n6 n2) c e1:=hx.mono (λid h=>⟨h.1,by have:=h.2.1;omega,h.2.2⟩) λid h=>y.f.same id h.2.1 (by have:=h.1;omega)
 cases hi:Hq [WX,gB,UW,fM] t with
 |false=>
  rw[hi]at hm
  cases hm
  rw[Bg]
  delta FC
  exact qG x g1 rfl g4 (by omega) hx (λid h=>⟨by have:=h.1;omega,h.2.1,by have:=h.1;omega⟩) hk
 |true=>
  rw[hi,cond_true,Option.bind_eq_some_iff]at hm
  obtain⟨t1,h1,hm⟩:=hm
  rw[Option.bind_eq_some_iff]at hm
  obtain⟨⟨e2,t2⟩,h2,hm⟩:=hm
  cases hm
  have q:AZ (.ptr n 0) G H6=some (.ptr pb 0):=AQ g0 rfl
  rw[Bq,q,BA]
  refine ZH x.p x.lt h1 λH7 n7 line col _ _ y=>?_
  have x:=x.tr y
  have hn7:=y.le
  have g0:=y.get g0 (by omega) hb
  have g1:=y.get g1 (by omega) (by omega)
  have g4:=y.get g4 (by omega) (by omega)
  have hx:ER G H7 (Al (n+1) n7 n2) c e1:=hx.mono (λid h=>⟨h.1,by have:=h.2.1;omega,h.2.2⟩) λid h=>y.f.same id h.2.1 (by have:=h.1;omega)
  refine BG rfl λH8 f8 g8=>?_
  have x:=x.al f8
  refine DI g8 rfl (L:=TP t.t line col) rfl (by omega) λH9 g9 s9=>?_
  have x:=x.st (by omega) s9
  have g0:=(s9 n (by omega)).trans (f8.get g0 (by omega))
  have g1:=(s9 (n+1) (by omega)).trans (f8.get g1 (by omega))
  have g4:=(s9 n2 (by omega)).trans (f8.get g4 (by omega))
  have hx:ER G H9 (Al (n+1) n7 n2) c e1:=hx.mono (λid h=>h) λid h=>(s9 id (by have:=h.2.1;omega)).trans (f8.same id h.2.1)
  rw[Aa,BA,Aa]
  simp only[Nat.zero_add]
  rw[MI (m:=2) (o:=3) g9 (by omega) (by show 3+2<=5;omega),BA,BA,AQ (off:=1) g9 (v:=sB t.t.text) rfl,BA,Ah (m:=11) g4 (by omega) hx.len,BA]
  refine AQ7 (b:=n) hf _ H9 (n7+1) _ _ _ x.p x.lt (λj hj=>by simp at hj;subst hj;exact⟨hb,by omega,g0⟩) h2 λH10 n10 c2 y hx2=>?_
  have x:=x.tr y
  have hn10:=y.le
  have g1:=y.get g1 (by omega) (by omega)
  have g4:=y.get g4 (by omega) (by omega)
  have g9:=y.get g9 (by omega) (by omega)
  rw[MI (m:=2) (o:=3) g9 (by omega) (by show 3+2<=5;omega),BA,AQ (off:=1) g9 (v:=sB t.t.text) rfl,BA,Ah (m:=11) g4 (by omega) hx.len]
  refine Dv (WZ ..) (Dv (TB _) (Dv hx.vs ?_))
  refine O3 (G:=G) (vs:=[.agg c,.agg c2]) rfl (by omega) (λv hv=>by simp at hv;rcases hv with rfl|rfl;exact⟨rfl,hx.len⟩;exact⟨rfl,hx2.len⟩) λH11 f11 _ hel=>?_
  have x:=x.al f11
  have g1:=f11.get g1 (by omega)
  have g4:=f11.get g4 (by omega)
  refine(show ∀{P:V->Prop},P _->AP (Cj exZ [(0,1,.c (.int .i64 (.ofNat 16) 0)),(1,2,.c (.agg [.int .i64 (.ofNat line) 0,.int .i64 (.ofNat col) 0])),(4,1,.c (sB t.t.text)),(7,1,.c (.sl n10 0 2 2 11))]) P from λh=>by rw[AEr];exact h) ?_
  refine DI g4 hx.len rfl (by omega) λH12 g12 s12=>?_
  have x:=x.st (by omega) s12
  delta FC
  refine qG (A:=Al (n+1) (n10+1) n2) (e:=.mk 16 0 t.t.text [] false [e1,e2]) x ((s12 (n+1) (by omega)).trans g1) rfl g12 (by omega) ?_ (λid h=>⟨by have:=h.1;omega,h.2.1,by have:=h.1;omega⟩) hk
  refine .mk 16 0 t.t.text [] false line col (hel.same λid hid=>s12 id (by cases Iq hid;omega)) (gy (by omega)) (λid hid=>⟨by cases Iq hid;omega,by cases Iq hid;omega,by cases Iq hid;omega⟩) ?_
  refine .cons (hx.mono (λid h=>⟨h.1,by have:=h.2.1;omega,h.2.2⟩) λid h=>?_) (.cons (hx2.mono (λid h=>⟨by have:=h.1;omega,by have:=h.2;omega,by have:=h.1;omega⟩) λid h=>?_) .nil)
  ·have h1:=h.1;have h2:=h.2.1
   exact(s12 id h.2.2).trans ((f11.same id (by omega)).trans (y.f.same id (by omega) (by omega)))
  ·have h1:=h.1;have h2:=h.2
   exact(s12 id (by omega)).trans (f11.same id h2)
theorem APy{un:PM Ex}{f b:Nat}(hf:FnC G pb [] un (.fn DU [.ptr pb 0] [])):FnC G pb [b] (either 17 L9 (compared un f) f) (.fn Oj [] [.ptr b 0]):=by
 intro s H n s' e k h hb hbs hm hk
 rw[mP]
 show Runs F G Oj [.ptr b 0] H n k
 refine Am (s:=IQ (J6 lfp G)) Nw (by obtain⟨h,o⟩:=eY Ap G;rw[Nw]at h;cases h;exact o) ?_
 show J6 lfp G (Runs F G) (.ptr b 0) H n k
 delta J6
 obtain⟨b1,b2,b3⟩:=one1 hbs
 have x:=Fr.refl h hb
 refine BG rfl λH1 f1 g1=>?_
 have x:=x.al f1
 have b3:=f1.get b3 b2
 have q:AZ (.ptr b 0) G H1=some (.ptr pb 0):=AQ b3 rfl
 rw[q,BA,BA,AVu]
 refine AGN (AHE hf) Bxs.nil x.p x.lt hm λH3 n3 c y hx=>?_
 have hn:=y.le
 exact AGy (x.tr y) (y.get g1 (by omega) hb) rfl (Nat.le_refl _) hx (λid h=>⟨by have:=h.1;omega,h.2,by have:=h.1;omega⟩) hk
theorem AOf{rec:PM Ex}{f:Nat}{s s':S}{H:Heap}{n:Nat}{e:Ex}{k:KV}(hf:FnC G pb [] (unary rec f) (.fn DU [.ptr pb 0] []))(h:YH G H pb s)(hb:pb<n)(hm:AC4 rec f s=some (e,s'))(hk:ExK G pb H n s' e k):
 Runs F G CS [.ptr pb 0] H n k:=by
 refine Am (s:=IQ (MK lfp G)) PG (by obtain⟨h,o⟩:=kW Ap G;rw[PG]at h;cases h;exact o) ?_
 show MK lfp G (Runs F G) (.ptr pb 0) H n k
 delta MK
 unfold AC4 at hm
 rw[Option.bind_eq_some_iff]at hm
 obtain⟨s1,h1,hm⟩:=hm
 rw[Option.bind_eq_some_iff]at hm
 obtain⟨⟨e1,s2⟩,h2,hm⟩:=hm
 rw[Option.bind_eq_some_iff]at hm
 obtain⟨s3,h3,hm⟩:=hm
 cases hm
 have x:=Fr.refl h hb
 refine AI5 rfl λH0 f0 g0=>?_
 have x:=x.al f0
 have g0:T.get H0 n=some (one [.ptr pb 0]):=g0
 refine BG rfl λH1 f1 g1=>?_
 have x:=x.al f1
 have g0:=f1.get g0 (by omega)
 have q:AZ (.ptr n 0) G H1=some (.ptr pb 0):=AQ g0 rfl
 rw[q,BA]
 refine ADs x.p x.lt h1 λH2 n2 q y hq1 hq2 hq3=>?_
 have x:=x.tr y
 have g0:=y.get g0 (by omega) hb
 have g1:=y.get g1 (by omega) (by omega)
 rw[zx]
 have q':AZ (.ptr n 0) G H2=some (.ptr pb 0):=AQ g0 rfl
 rw[q',BA,AXx]
 refine AGN (APy (b:=n) hf) (λj hj=>by simp at hj;subst hj;exact⟨hb,by omega,g0⟩) x.p x.lt h2 λH3 n3 c y hx=>?_
 have x:=x.tr y
 have g1:=y.get g1 (by omega) (by omega)
 have hq3:=y.get hq3 hq2 (by omega)
 have hn3:=y.le
 refine DI g1 rfl hx.len (by omega) λH4 g4 s4=>?_
 have x:=x.st (by omega) s4
 have hx:ER G H4 (Rg n2 n3) c e1:=hx.mono (λid h=>h) λid h=>s4 id (by have:=h.1;omega)
 refine AOg x.p x.lt ((s4 q (by omega)).trans hq3) h3 λH5 n5 y=>?_
 have x:=x.tr y
 have g4:=y.get g4 (by omega) (by omega)
 have hn5:=y.le
 rw[ED (m:=11) g4 (by omega) hx.len]
 simp only[go_sem]
 exact hk _ _ _ x (hx.mono (λid h=>⟨by have:=h.1;omega,by have:=h.2;omega⟩) λid h=>y.f.same id h.2 (by have:=h.1;omega))
end
theorem AGd{G:AY}{H:Heap}{n id m z bs:Nat}{t:T LV}{w:V}{LS NS:EY}{k:KV}(hz:0<z)(hb:T.get H id=some (.arr z m t))(hid:id<n)(h:elems (.sl id 0 m m z) G H z=some LS)
 (hw:elems w G H z=some NS) (hr:(m+NS.length)*bs<=140737488355328)
 (hk:∀v' H' n',El G H' v' z (LS++NS)->(∀j,j<n->T.get H' j=T.get H j)->n<=n'->((∃l,v'=.sl id 0 l m z/\l<=m)∨∃l,v'=.Qg n 0 l z/\n<n')->k v' H' n'):iW z bs (.sl id 0 m m z) w G H n k:=by
 unfold iW
 rw[hw,yh]
 have h2:(Bool.rec (motive:=λ_=>Option EY) none (DX H id z m 0) (Nat.beq z z):Option EY)=some LS:=h
 rw[Fp]at h2
 have h2:DX H id z m 0=some LS:=h2
 obtain⟨hl,hat⟩:=SC _ _ h2
 have e0:AHj (.sl id 0 m m z) G z bs NS H n k=Bool.rec (motive:=λ_=>Prop) (Ip (DX H id z m 0) λOS=>Qz z bs OS NS H n k) (Ip (T.get H id) λb=>AFc id 0 m m z (m+NS.length) NS H n k b) (Nat.ble (m+NS.length) m):=by
  show FN (Nat.beq z z) (Ed (Nat.add m (len NS)) λneed=>Bool.rec (motive:=λ_=>Prop) (Ip (DX H id z m 0) λOS=>Qz z bs OS NS H n k) (Ip (T.get H id) λb=>AFc id 0 m m z need NS H n k b) (Nat.ble need m))=_
  rw[Fp,tX,CU,len_eq];rfl
 rw[e0]
 by_cases hN:NS.length=0
 ·have:NS=[]:=List.length_eq_zero_iff.1 hN
  subst this
  rw[show Nat.ble (m+([]:EY).length) m=true by rw[Nat.ble_eq];exact Nat.le_refl _]
  show Ip (T.get H id) (λb=>AFc id 0 m m z (m+0) [] H n k b)
  rw[hb,yh]
  show FN (band (Nat.beq z z) (Nat.ble (Nat.add 0 (m+0)) m)) (k (.sl id 0 (m+0) m z) (T.set H id (.arr z m t)) n)
  rw[Fp,show Nat.ble (Nat.add 0 (m+0)) m=true by rw[Nat.ble_eq];show 0+m<=m;omega]
  have hs:∀j,T.get (T.set H id (.arr z m t)) j=T.get H j:=λj=>by
   rw[T.PZ];split
   ·rename_i e;subst e;exact hb.symm
   ·rfl
  rw[List.append_nil]at hk
  exact hk _ _ _ ((show El G H (.sl id 0 m m z) z LS from⟨rfl,h⟩).same λj _=>hs j) (λj _=>hs j) (Nat.le_refl _) (.inl ⟨_,rfl,Nat.le_refl _⟩)
 ·rw[show Nat.ble (m+NS.length) m=false by rw[Bool.eq_false_iff];intro hc;rw[Nat.ble_eq]at hc;omega]
  show Ip (DX H id z m 0) (λOS=>Qz z bs OS NS H n k)
  rw[h2,yh]
  show Ed (Nat.add (len LS) (len NS)) (λneed=>FN (Ql need bs) (Ed n λn=>k (.Qg n 0 need z) (T.set H n (.arr z need (F5 NS (len LS) (F5 LS 0 .e)))) (Nat.succ n)))
  rw[CU,CU,len_eq,len_eq,show Ql (Nat.add LS.length NS.length) bs=true from Z4 (by rw[hl];exact hr),tX]
  have e:Nat.add LS.length NS.length=(LS++NS).length:=by rw[List.length_append];rfl
  rw[e]
  refine hk _ _ _ (Gr.el (m:=n) (.Qg (LS:=LS++NS) (T.Cm ..) (Nat.le_refl _) (λi L hi=>?_) (Nat.le_refl _)) hz) (λj hj=>T.Ak _ _ (by omega)) (by omega) (.inr ⟨_,rfl,by omega⟩)
  rw[Fh,Fh]
  by_cases hlt:i<LS.length
  ·rw[if_neg (by omega),if_pos ⟨Nat.zero_le _,by omega⟩]
   rw[List.getElem?_append_left hlt]at hi
   exact hi
  ·rw[List.getElem?_append_right (by omega)]at hi
   have hlt2:=(List.getElem?_eq_some_iff.1 hi).1
   rw[if_pos ⟨by omega,by omega⟩];exact hi
theorem zh{G:AY}{H:Heap}{m n z bs:Nat}{v w:V}{LS NS:EY}{k:KV}(h:Gr G H m z v LS)(hm:m<=n)(hn:∀id,v.Ry=some id->id<n)(hw:elems w G H z=some NS)
 (hb:(LS.length+NS.length)*bs<=140737488355328)
 (hk:∀v' H',Gr G H' m z v' (LS++NS)->(∀id,id<n->v.Ry≠some id->T.get H' id=T.get H id)->(∀id,v'.Ry=some id->id=n)->k v' H' (n+1))
 (hk0:NS=[]->k v H n):iW z bs v w G H n k:=by
 unfold iW
 rw[hw,yh]
 cases h with
 |nil=>
  cases NS with
  |nil=>exact hk0 rfl
  |cons a NS=>
   show Qz z bs [] (a::NS) H n k
   unfold Qz
   rw[CU,CU,len_eq,len_eq,show Ql (Nat.add ([]:EY).length (a::NS).length) bs=true from Z4 hb,tX]
   have e:Nat.add ([]:EY).length (a::NS).length=(a::NS).length:=Nat.zero_add _
   rw[e]
   refine hk _ _ ?_ (λid hid _=>T.Ak _ _ (by omega)) (λid hid=>by cases hid;rfl)
   refine .Qg (LS:=a::NS) (T.Cm ..) (Nat.le_refl _) (λi L hi=>?_) hm
   show T.get (F5 (a::NS) 0 .e) i=some L
   have hlt:=(List.getElem?_eq_some_iff.1 hi).1
   rw[Fh,if_pos ⟨Nat.zero_le _,by omega⟩];exact hi
 |Qg hg hc ht hid=>
  rename_i id c t
  show FN (Nat.beq z z) _
  rw[Fp,tX]
  cases NS with
  |nil=>exact hk0 rfl
  |cons a NS=>
   show Ip (T.get H id) (λb=>Y3 id 0 LS.length z bs (a::NS) H n k b)
   rw[hg,yh]
   rw[AGV (Z4 hb) hc,show LS.length+(a::NS).length=(LS++a::NS).length by rw[List.length_append]]
   refine hk _ _ ?_ (λj hj hne=>?_) (λj hj=>by cases hj;rfl)
   ·refine .Qg (LS:=LS++a::NS) (T.Cm ..) (Nat.le_refl _) (λi L hi=>?_) hm
    rw[Fh]
    by_cases hlt:i<LS.length
    ·rw[if_neg (by omega)]
     rw[List.getElem?_append_left hlt]at hi
     exact ht i L hi
    ·rw[List.getElem?_append_right (by omega)]at hi
     have hlt2:=(List.getElem?_eq_some_iff.1 hi).1
     rw[if_pos ⟨by omega,by omega⟩];exact hi
   ·rw[T.Ak _ _ (by omega),T.Ak _ _ (by intro e;subst e;exact hne rfl)]
def pq(G:AY)(H:Heap)(A:Nat->Prop)(v:V)(es:List Ex):Prop:=∃cs,El G H v 11 cs/\KS v/\kX v=true/\Cc v=[v]/\(∀id,v.Ry=some id->A id)/\QW G H A cs es
def EsK(G:AY)(pb:Nat)(H:Heap)(n:Nat)(s':S)(es:List Ex)(k:KV):Prop:=∀H' n' v,Fr G pb H n H' n' s'->pq G H' (Rg n n') v es->es.length<=201->k v H' n'
def AHy(G:AY)(pb:Nat)(rec:PM Ex):Prop:=∀(s:S) (H:Heap) (n:Nat) (s':S) (e:Ex) (k:KV),YH G H pb s->pb<n->rec s=some (e,s')->ExK G pb H n s' e k->Runs F G CS [.ptr pb 0] H n k
theorem O7{G:AY}{H:Heap}{m z:Nat}{v:V}{LS:EY}(h:Gr G H m z v LS):KS v/\kX v=true/\Cc v=[v]:=by
 cases h with
 |nil=>exact⟨ADb,rfl,rfl⟩
 |Qg=>exact⟨AIV ..,rfl,rfl⟩
section
variable{G:AY}{pb:Nat}{H:Heap}{n:Nat}{s s':S}
theorem vJ{w:Bs}{B E:Heap->Nat->Prop}(h:YH G H pb s)(hb:pb<n)(h0:s.ok=false->E H n)
 (h1:s.ok=true->∃b s',BZ w s=some (b,s')/\∀H' n',Fr G pb H n H' n' s'->bif b then E H' n' else B H' n'):
 Runs F G EG [.ptr pb 0] H n λv5 H n=>Bh v5 true (some (.ptr pb 0)) λv6=>Ub v5 true (Runs F G Af [v6,sB w] H n) H n λv7 H n=>Bh v5 true (YF v7) λv8=>AP (Dc v5 v8 (.bool false)) λv9=>Ae v9 true (B H n) (E H n):=by
 refine AKv h ?_
 cases ho:s.ok with
 |false=>simp only[go_sem];exact h0 ho
 |true=>
  obtain⟨b,s',h2,h3⟩:=h1 ho
  simp only[go_sem]
  refine NV h hb h2 λH' n' y=>?_
  have:=h3 H' n' y
  cases b<;>simp only[go_sem,Qv,Bool.not_true,Bool.not_false]<;>exact this
theorem ER.ok{A:Nat->Prop}{c:LV}{e:Ex}(h:ER G H A c e):kX (.agg c)=true/\(Cc (.agg c)).length=11:=⟨rfl,h.len⟩
theorem ALP{rec:PM Ex}{f:Nat}{es:List Ex}{k:KV}(hr:AHy G pb rec)(h:YH G H pb s)(hb:pb<n)(hm:XF rec f s=some (es,s'))(hk:EsK G pb H n s' es k):Runs F G Qm [.ptr pb 0] H n k:=by
 refine Am (s:=IQ (MV lfp G)) Po (by obtain⟨h,o⟩:=jX Ap G;rw[Po]at h;cases h;exact o) ?_
 show MV lfp G (Runs F G) (.ptr pb 0) H n k
 delta MV
 unfold XF at hm
 rw[Option.bind_eq_some_iff]at hm
 obtain⟨s1,h1,hm⟩:=hm
 refine KJ (ws:=[Au]) h hb rfl (by show 1<=1000;omega) h1 λH1 n1 x=>?_
 refine NW (J:=λg q=>∃H' n' t v cs out,q=(.ptr pb 0,v,H',n')/\Fr G pb H n H' n' t/\Own G H' n n' 11 v cs/\QW G H' (λid=>n<=id/\id<n'/\v.Ry≠some id) cs out/\(t.ok=true->out.length<=200)/\out.length<=201/\MB rec g out t=some (es,s')) ?_ (m:=f)
  ⟨H1,n1,s1,.Aj,[],[],rfl,x,Yp,.nil,λ_=>Nat.zero_le _,Nat.zero_le _,hm⟩
 rintro I g q ⟨H2,n2,t,v,cs,out,rfl,x,ho,hc,hle,hle2,hm⟩ ih
 show Nq lfp G (Runs F G) k I (.ptr pb 0) v H2 n2
 delta Nq
 cases g with
 |zero=>cases hm
 |succ g=>
  have hm:(bif t.ok then(BZ BD t).bind λp=>bif p.1 then some (out,p.2)else
   (bif decide (0<out.length)then BM [CY] p.2 else some p.2).bind λs1=>(rec s1).bind λq=>MB rec g (out++[q.1]) (D9 (out.length+1) q.2)
   else some (out,t))=some (es,s'):=hm
  have hn2:=x.le
  have fin:∀{H3:Heap} {n3:Nat} {t3:S},Fr G pb H2 n2 H3 n3 t3->some (out,t3)=some (es,s')->Js lfp G (Runs F G) k v H3 n3:=by
   intro H3 n3 t3 y he
   cases he
   delta Js
   have ho3:=ho.kx y.f x.b
   refine hk _ _ _ (x.tr y) ⟨cs,ho3.el (by omega),(O7 ho3.gr).1,(O7 ho3.gr).2.1,(O7 ho3.gr).2.2,λid hid=>⟨ho3.ge hid,ho3.lo id hid⟩,?_⟩ hle2
   exact hc.mono (λid h=>⟨h.1,by have:=h.2.1;have:=y.le;omega⟩) λid h=>y.f.same id h.2.1 (by have:=h.1;have:=x.b;omega)
  rw[AVQ]
  refine vJ x.p x.lt (λhf=>fin (Fr.refl x.p x.lt) (by rw[hf]at hm;exact hm)) λht=>?_
  rw[ht,cond_true,Option.bind_eq_some_iff]at hm
  obtain⟨⟨b,t2⟩,h2,hm⟩:=hm
  refine⟨b,t2,h2,λH3 n3 y=>?_⟩
  cases b with
  |true=>exact fin y hm
  |false=>
   show AP (lenV v) _
   have hm:((bif decide (0<out.length)then BM [CY] t2 else some t2).bind λs1=>(rec s1).bind λq=>MB rec g (out++[q.1]) (D9 (out.length+1) q.2))=some (es,s'):=hm
   rw[Option.bind_eq_some_iff]at hm
   obtain⟨t3,h3,hm⟩:=hm
   rw[Option.bind_eq_some_iff]at hm
   obtain⟨⟨e,t4⟩,h4,hm⟩:=hm
   have hlen:=hle ht
   have body:∀{H4:Heap} {n4:Nat},Fr G pb H2 n2 H4 n4 t3->Gf lfp G (Runs F G) k I (.ptr pb 0) v H4 n4:=by
    intro H4 n4 y
    delta Gf
    have ho4:=ho.kx y.f x.b
    have hc4:QW G H4 (λid=>n<=id/\id<n4/\v.Ry≠some id) cs out:=hc.mono (λid h=>⟨h.1,by have:=h.2.1;have:=y.le;omega,h.2.2⟩) λid h=>y.f.same id h.2.1 (by have:=h.1;have:=x.b;omega)
    have x:=x.tr y
    refine hr _ _ _ _ _ _ x.p x.lt h4 λH5 n5 c y hx=>?_
    have hn4:=x.le
    have hpb:=x.b
    have x:=x.tr y
    have ho5:=ho4.kx y.f hpb
    have hc5:QW G H5 (λid=>n<=id/\id<n4/\v.Ry≠some id) cs out:=hc4.mono (λid h=>h) λid h=>y.f.same id h.2.1 (by have:=h.1;omega)
    have hn5:=y.le
    refine O3 (G:=G) (vs:=[.agg c]) rfl (by omega) (λv hv=>by simp at hv;subst hv;exact hx.ok) λH6 f6 _ hel=>?_
    have x:=x.al f6
    have ho6:=ho5.kp f6
    refine zh ho6.gr (by omega) ho6.lo hel.2 (by have:=hc.len;show(cs.length+1)*136<=_;omega) ?_ (λh=>by cases h)
    intro v' H7 hgr hsame hlo
    have hgr:Gr G H7 n 11 v' (cs++[c]):=hgr
    have f7:Fr G pb H n H7 (n5+1+1) t4:=⟨⟨by omega,λid hid hp=>(hsame id (by omega) (λh=>by have:=ho6.ge h;omega)).trans (x.f.same id hid hp)⟩,x.p.same λid hid=>hsame id (by omega) (λh=>by have:=ho6.ge h;omega),hpb⟩
    have hv4:∀id,v.Ry=some id->id<n4:=ho4.lo
    rw[(hgr.el (by omega)).len,BA,List.length_append,show cs.length+[c].length=out.length+1 by rw[hc.len];rfl]
    refine AER f7.p f7.lt λH8 n8 y8=>?_
    have hn8:=y8.le
    refine ih g (_,_,H8,n8) (by omega) ⟨H8,n8,_,v',cs++[c],out++[e],rfl,f7.tr y8,?_,?_,?_,by rw[List.length_append];show out.length+1<=201;omega,hm⟩
    ·exact(show Own G H7 n (n5+1+1) 11 v' (cs++[c])from⟨hgr,λid hid=>by have:=hlo id hid;omega⟩).kx y8.f hpb
    ·refine(hc5.mono (λid h=>⟨h.1,by have:=h.2.1;omega,λhv=>by have:=hlo id hv;have:=h.2.1;omega⟩) λid h=>?_).app (.cons (hx.mono (λid h=>⟨by have:=h.1;omega,by have:=h.2;omega,λhv=>by have:=hlo id hv;have:=h.2;omega⟩) λid h=>?_) .nil)
     ·have h1:=h.1;have h2:=h.2.1
      exact(y8.f.same id (by omega) (by omega)).trans ((hsame id (by omega) h.2.2).trans (f6.same id (by omega)))
     ·have h1:=h.1;have h2:=h.2
      exact(y8.f.same id (by omega) (by omega)).trans ((hsame id (by omega) (λhv=>by have:=hv4 id hv;omega)).trans (f6.same id (by omega)))
    ·intro hok
     rw[List.length_append]
     unfold D9 at hok
     cases hd:decide (200<out.length+1)with
     |false=>have:=of_decide_eq_false hd;show out.length+1<=200;omega
     |true=>
      rw[hd]at hok
      exfalso
      unfold EJ at hok
      cases ho:t4.ok with
      |false=>rw[ho]at hok;simp[ho]at hok
      |true=>rw[ho]at hok;cases hok
   have hv3:=(ho.kx y.f x.b).el (by omega)
   rw[hv3.len,BA,hc.len,kN,BA]
   cases hd:decide (0<out.length)with
   |false=>
    rw[hd]at h3
    cases h3
    rw[Bg]
    exact body y
   |true=>
    rw[hd]at h3
    have h3:BM [CY] t2=some t3:=h3
    rw[Bq]
    exact KJ (ws:=[CY]) y.p (by have:=y.le;have:=x.lt;omega) rfl (by show 1<=1000;omega) h3 λH4 n4 y4=>body (y.tr y4)
end
theorem ASa{kd:Nat}{x y:V}{nm:Bs}{id o l:Nat}:Cj exZ [(0,1,.c (.int .i64 (.ofNat kd) 0)),(1,2,.c (.agg [x,y])),(4,1,.c (sB nm)),(7,1,.c (.Qg id o l 11))]=
 some (.agg [.int .i64 (.ofNat kd) 0,x,y,.int .i64 (.ofNat 0) 0,sB nm,.str 0 0,.bool false,.Qg id o l 11,.str 0 0,.bool false,.str 0 0]):=rfl
theorem ATO{x y:V}:Cj exZ [(1,2,.c (.agg [x,y]))]=
 some (.agg [.int .i64 (.ofNat 0) 0,x,y,.int .i64 (.ofNat 0) 0,.str 0 0,.str 0 0,.bool false,.Aj,.str 0 0,.bool false,.str 0 0]):=rfl
theorem AB{e:Option V}{v:V}{P:V->Prop}(h:e=some v)(hp:P v):AP e P:=by rw[h];exact hp
section
variable{G:AY}{pb:Nat}{H:Heap}{n:Nat}{s s':S}{k:KV}
theorem APt{t:Ty}(hk:∀H',Kp H n H' (n+1)->k (.bool (ZT t)) H' (n+1)):Runs F G Zj [.agg (tyC t)] H n k:=by
 refine Am (s:=IQ (P5 lfp G)) Tc (by obtain⟨h,o⟩:=uH Ap G;rw[Tc]at h;cases h;exact o) ?_
 show P5 lfp G (Runs F G) (.agg (tyC t)) H n k
 delta P5
 refine D5 λH1 f1 g1=>?_
 have q0:AZ (.ptr n 0) G H1=some (sB t.nm):=AQ g1 rfl
 have q1:AZ (.ptr n 1) G H1=some (.bool t.arr):=AQ g1 rfl
 have ne0:∀l:Bs,Ez (.one .str) true (sB l) (.str 0 0)=some (.bool (!decide (l=[]))):=λl=>AU8 l []
 have hk:=hk _ f1
 unfold ZT at hk
 simp only[go_sem,Nat.reduceAdd,q1,Qv]
 cases ha:t.arr with
 |true=>
  rw[ha]at hk
  simp only[Bool.not_true]
  repeat (first|with_reducible refine ABz ?_|with_reducible refine AE8 ?_|with_reducible refine AB0 ?_)
  exact hk
 |false=>
  rw[ha]at hk
  simp only[Bool.not_false,go_sem,Nat.reduceAdd,q0,ne0]
  cases hn:t.nm with
  |nil=>
   rw[hn]at hk
   simp only[decide_true,Bool.not_true]
   repeat (first|with_reducible refine ABz ?_|with_reducible refine AE8 ?_|with_reducible refine AB0 ?_)
   exact hk
  |cons c l=>
   rw[hn]at hk q0
   have hk:k (.bool (great c)) H1 (n+1):=hk
   unfold great at hk
   have ix:KP (sB (c::l)) (.int .i64 (.ofNat 0) 0)=some (.int .u8 (.ofNat c.toNat) 0):=AE5 (l:=c::l) (i:=0) (by simp)
   simp only[show decide (c::l=[])=false from rfl,Bool.not_false,go_sem,Nat.reduceAdd,q0,ix,Ym]
   cases h1:decide (65<=c.toNat)with
   |false=>rw[h1]at hk;simp only[go_sem];exact hk
   |true=>rw[h1]at hk;simp only[go_sem,Nat.reduceAdd,q0,ix,zG];exact hk
def AVk(G:AY)(pb:Nat)(H:Heap)(n:Nat)(A:Nat->Prop)(s':S)(e:Ex)(k:KV):Prop:=∀H' n' c,Fr G pb H n H' n' s'->ER G H' (λid=>A id∨Rg n n' id) c e->k (.agg c) H' n'
theorem AAG{H0 H:Heap}{n0 n r:Nat}{c L0:LV}{e:Ex}{A:Nat->Prop}(x:Fr G pb H0 n0 H n s')(gr:T.get H r=some (one L0))(hl:L0.length=11)(hr:n0<=r)(he:ER G H (λid=>A id∨(Rg n0 n id/\id≠r)) c e)(hA:∀id,A id->id<n0)
 (hk:AVk G pb H0 n0 A s' e k):Df 11 (.ptr r 0) (.agg c) H n λ_ H n=>Ip (EI [.cn (.ptr r 0) 11] G H) λl=>k (Hr l) H n:=by
 refine DI gr hl he.len (by omega) λH1 g1 s1=>?_
 rw[ED (m:=11) g1 (by omega) he.len]
 simp only[go_sem]
 exact hk _ _ _ (x.st hr s1) (he.mono (λid h=>h.imp (λh=>h) λh=>h.1) λid h=>s1 id (by rcases h with h|h;have:=hA id h;omega;exact h.2))
theorem ALv{rec:PM Ex}{f:Nat}{e e':Ex}{c:LV}{A:Nat->Prop}{line col:Nat}(hr:AHy G pb rec)(hA:∀id,A id->pb<id/\id<n)(hx:ER G H A c e)(h:YH G H pb s)(hb:pb<n)(hm:TQ rec f e s=some (e',s'))(hk:AVk G pb H n A s' e' k):
 Runs F G Uo [.ptr pb 0,.agg c,.agg [.int .i64 (.ofNat line) 0,.int .i64 (.ofNat col) 0]] H n k:=by
 refine Am (s:=ar3 (KN lfp G)) Ns (by obtain⟨h,o⟩:=eH Ap G;rw[Ns]at h;cases h;exact o) ?_
 show KN lfp G (Runs F G) (.ptr pb 0) (.agg c) (.agg [.int .i64 (.ofNat line) 0,.int .i64 (.ofNat col) 0]) H n k
 delta KN
 unfold TQ at hm
 rw[Option.bind_eq_some_iff]at hm
 obtain⟨⟨b,t⟩,h1,hm⟩:=hm
 have hm:(bif b then some ((.mk 13 0 [] [] false [e]:Ex),t)else(Eo 3 t).bind λq=>bif Hq [Au] q.2 then(XF rec f q.2).bind λa=>some (.mk 8 0 q.1 [] false (e::a.1),a.2)else some (.mk 7 0 q.1 [] false [e],q.2))=some (e',s'):=hm
 have x:=Fr.refl h hb
 refine D5 λH1 f1 g1=>?_
 have x:=x.al f1
 refine D5 λH2 f2 g2=>?_
 have x:=x.al f2
 have g1:=f2.get g1 (by omega)
 refine BG rfl λH3 f3 g3=>?_
 have x:=x.al f3
 have g1:=f3.get g1 (by omega)
 have g2:=f3.get g2 (by omega)
 have hx:ER G H3 A c e:=hx.mono (λid h=>h) λid h=>x.f.same id (hA id h).2 (by have:=(hA id h).1;omega)
 rw[show V.str 6 114849160783212=sB G7 from rfl]
 refine NV x.p x.lt h1 λH4 n4 y=>?_
 have x:=x.tr y
 have hn4:=y.le
 have g1:=y.get g1 (by omega) hb
 have g2:=y.get g2 (by omega) (by omega)
 have g3:=y.get g3 (by omega) (by omega)
 have hx:ER G H4 A c e:=hx.mono (λid h=>h) λid h=>y.f.same id (by have:=(hA id h).2;omega) (by have:=(hA id h).1;omega)
 have mkOne:∀{H6:Heap} {m:Nat} {kd:Nat} {nm:Bs},ER G H6 A c e->n<=m->m≠n+1+1->El G H6 (.sl m 0 1 1 11) 11 [c]->ER G H6 (λid=>A id∨(Rg n (m+1) id/\id≠n+1+1)) (iC kd 0 nm [] false line col (.sl m 0 1 1 11)) (.mk kd 0 nm [] false [e]):=by
  intro H6 m kd nm hx h1 h2 hel
  exact .mk kd 0 nm [] false line col hel (gy (by omega)) (λid hid=>.inr (by cases Iq hid;exact⟨⟨h1,by omega⟩,h2⟩)) (.cons (hx.mono (λid h=>.inl h) λid h=>rfl) .nil)
 cases b with
 |true=>
  cases hm
  rw[Bq,Ah (m:=2) g2 (by omega) rfl,BA,Ah (m:=11) g1 (by omega) hx.len,BA]
  refine O3 (G:=G) (vs:=[.agg c]) rfl (by omega) (λv hv=>by simp at hv;subst hv;exact hx.ok) λH6 f6 _ hel=>?_
  have x:=x.al f6
  have hx:ER G H6 A c e:=hx.mono (λid h=>h) λid h=>f6.same id (by have:=(hA id h).2;omega)
  refine AB AHD ?_
  exact AAG x (f6.get g3 (by omega)) rfl (by omega) (mkOne (kd:=13) (nm:=[]) hx (by omega) (by omega) hel) (λid h=>(hA id h).2) hk
 |false=>
  rw[cond_false,Option.bind_eq_some_iff]at hm
  obtain⟨⟨nm,t2⟩,h2,hm⟩:=hm
  have hm:(bif Hq [Au] t2 then(XF rec f t2).bind λa=>some ((.mk 8 0 nm [] false (e::a.1):Ex),a.2)else some (.mk 7 0 nm [] false [e],t2))=some (e',s'):=hm
  rw[Bg]
  refine ZU x.p x.lt h2 λH5 n5 y=>?_
  have x:=x.tr y
  have hn5:=y.le
  have g1:=y.get g1 (by omega) hb
  have g2:=y.get g2 (by omega) (by omega)
  have g3:=y.get g3 (by omega) (by omega)
  have hx:ER G H5 A c e:=hx.mono (λid h=>h) λid h=>y.f.same id (by have:=(hA id h).2;omega) (by have:=(hA id h).1;omega)
  refine oO (ws:=[Au]) x.p x.lt rfl (by show 1<=1000;omega) λH6 n6 y=>?_
  have x:=x.tr y
  have hn6:=y.le
  have g1:=y.get g1 (by omega) hb
  have g2:=y.get g2 (by omega) (by omega)
  have g3:=y.get g3 (by omega) (by omega)
  have hx:ER G H6 A c e:=hx.mono (λid h=>h) λid h=>y.f.same id (by have:=(hA id h).2;omega) (by have:=(hA id h).1;omega)
  rw[Qv,BA]
  cases hi:Hq [Au] t2 with
  |false=>
   rw[hi]at hm
   cases hm
   rw[Bool.not_false,Bq,Ah (m:=2) g2 (by omega) rfl,BA,Ah (m:=11) g1 (by omega) hx.len,BA]
   refine O3 (G:=G) (vs:=[.agg c]) rfl (by omega) (λv hv=>by simp at hv;subst hv;exact hx.ok) λH7 f7 _ hel=>?_
   have x:=x.al f7
   have hx:ER G H7 A c e:=hx.mono (λid h=>h) λid h=>f7.same id (by have:=(hA id h).2;omega)
   refine AB AEr ?_
   exact AAG x (f7.get g3 (by omega)) rfl (by omega) (mkOne (kd:=7) (nm:=nm) hx (by omega) (by omega) hel) (λid h=>(hA id h).2) hk
  |true=>
   rw[hi,cond_true,Option.bind_eq_some_iff]at hm
   obtain⟨⟨es,t3⟩,h3,hm⟩:=hm
   cases hm
   rw[Bool.not_true,Bg,Ah (m:=2) g2 (by omega) rfl,BA,Ah (m:=11) g1 (by omega) hx.len,BA]
   refine O3 (G:=G) (vs:=[.agg c]) rfl (by omega) (λv hv=>by simp at hv;subst hv;exact hx.ok) λH7 f7 hb7 hel=>?_
   have x:=x.al f7
   have hx:ER G H7 A c e:=hx.mono (λid h=>h) λid h=>f7.same id (by have:=(hA id h).2;omega)
   have g1:=f7.get g1 (by omega)
   have g2:=f7.get g2 (by omega)
   have g3:=f7.get g3 (by omega)
   refine ALP hr x.p x.lt h3 λH8 n8 v y hes hle=>?_
   have x:=x.tr y
   have hn8:=y.le
   have g1:=y.get g1 (by omega) hb
   have g2:=y.get g2 (by omega) (by omega)
   have g3:=y.get g3 (by omega) (by omega)
   have hx:ER G H8 A c e:=hx.mono (λid h=>h) λid h=>y.f.same id (by have:=(hA id h).2;omega) (by have:=(hA id h).1;omega)
   rw[Ah (m:=2) g2 (by omega) rfl,BA,Ah (m:=11) g1 (by omega) hx.len,BA]
   refine Dv (WZ ..) (Dv hx.vs ?_)
   obtain⟨cs,he1,he2,he3,he4,he5,he6⟩:=hes
   obtain⟨t7,hb7⟩:=hb7
   have hel8:El G H8 (.sl n6 0 1 1 11) 11 [c]:=hel.same λid hid=>by cases Iq hid;exact y.f.same _ (by omega) (by omega)
   refine AGd (by omega) ((y.f.same _ (by omega) (by omega)).trans hb7) (by omega) hel8.2 he1.2 ?_ ?_
   ·have:=he6.len;rw[this];omega
   intro v' H9 n9 hel9 hs9 hn9 hv'
   have x:Fr G pb H n H9 n9 t3:=⟨⟨by omega,λid hid hp=>(hs9 id (by omega)).trans (x.f.same id hid hp)⟩,x.p.same λid hid=>hs9 id (by omega),hb⟩
   have g2:=(hs9 (n+1) (by omega)).trans g2
   have g3:=(hs9 (n+1+1) (by omega)).trans g3
   rw[Ah (m:=2) g2 (by omega) rfl,BA]
   refine Dv (WZ ..) ?_
   have hcs:QW G H9 (λid=>A id∨(Rg n n9 id/\id≠n+1+1)) ([c]++cs) (e::es):=by
    refine QW.cons (hx.mono (λid h=>.inl h) λid h=>hs9 id (by have:=(hA id h).2;omega)) ?_
    exact he6.mono (λid h=>.inr ⟨⟨by have:=h.1;omega,by have:=h.2;omega⟩,by have:=h.1;omega⟩) λid h=>hs9 id h.2
   have fin:∀w:V,El G H9 w 11 ([c]++cs)->KS w->(∀id,w.Ry=some id->n6<=id/\id<n9)->ER G H9 (λid=>A id∨(Rg n n9 id/\id≠n+1+1)) (iC 8 0 nm [] false line col w) (.mk 8 0 nm [] false (e::es)):=λw h1 h2 h3=>
    .mk 8 0 nm [] false line col h1 h2 (λid hid=>.inr ⟨⟨by have:=(h3 id hid).1;omega,(h3 id hid).2⟩,by have:=(h3 id hid).1;omega⟩) hcs
   rcases hv' with⟨l,rfl,hl1⟩|⟨l,rfl,hn9'⟩
   ·refine AB AEr ?_
    exact AAG x g3 rfl (by omega) (fin _ hel9 (gy hl1) λid hid=>by cases Iq hid;omega) (λid h=>(hA id h).2) hk
   ·refine AB ASa ?_
    exact AAG x g3 rfl (by omega) (fin _ hel9 (AIV ..) λid hid=>by cases qE hid;omega) (λid h=>(hA id h).2) hk
end
end Go.PQ
