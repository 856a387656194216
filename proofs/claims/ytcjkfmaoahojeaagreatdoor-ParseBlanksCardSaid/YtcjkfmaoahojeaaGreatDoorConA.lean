/- Part of a proof; nothing is assumed. -/
import Derived.Test.YtcjkfmaoahojeaaGreatDoorWalk
import Derived.Test.YtcjkfmaoahojeaaGreatDoorPlainR
set_option linter.unusedVariables false
set_option linter.unusedSimpArgs false
namespace Go.PQ
open Go.Eng
abbrev Bs:=List UInt8
def SX:Bs:=[97,115]
def fJ:Bs:=[98,111,111,108]
def OE:Bs:=[99,108,97,115,115]
def EL:Bs:=[101,108,115,101]
def Fv:Bs:=[101,120,116,101,110,100,115]
def RG:Bs:=[102,97,108,115,101]
def PY:Bs:=[102,105,101,108,100]
def Jr:Bs:=[105,102]
def vM:Bs:=[105,110,116]
def QU:Bs:=[105,115]
def Hr:Bs:=[108,101,110,103,116,104]
def O0:Bs:=[108,101,116]
def E5:Bs:=[109,101,116,104,111,100]
def Ih:Bs:=[110,101,119]
def Qh:Bs:=[110,117,108,108]
def Fp:Bs:=[112,114,105,110,116]
def Eo:Bs:=[114,101,116,117,114,110]
def F9:Bs:=[115,116,97,116,105,99]
def WH:Bs:=[116,104,105,115]
def Vm:Bs:=[116,114,117,101]
def Fe:Bs:=[119,104,105,108,101]
def Yk:Bs:=[61,61]
def nJ:Bs:=[33,61]
def nD:Bs:=[60,61]
def NP:Bs:=[38,38]
def YQ:Bs:=[124,124]
def Zt:Bs:=[43]
def Dv:Bs:=[45]
def XZ:Bs:=[42]
def Sv:Bs:=[47]
def qF:Bs:=[37]
def V9:Bs:=[60]
def EG:Bs:=[61]
def Iq:Bs:=[33]
def BG:Bs:=[40]
def BH:Bs:=[41]
def GL:Bs:=[91]
def F8:Bs:=[93]
def OC:Bs:=[123]
def m_rc:Bs:=[125]
def Aw:Bs:=[59]
def Ce:Bs:=[44]
def DI:Bs:=[46]
theorem AbG:V.str 2 29537=sB SX:=rfl
theorem AKn:V.str 4 1819242338=sB fJ:=rfl
theorem ASM:V.str 5 495857003619=sB OE:=rfl
theorem AWP:V.str 4 1702063205=sB EL:=rfl
theorem AN5:V.str 7 32480047633037413=sB Fv:=rfl
theorem ATf:V.str 5 435728179558=sB RG:=rfl
theorem ATq:V.str 5 431315315046=sB PY:=rfl
theorem AbN:V.str 2 26217=sB Jr:=rfl
theorem AOy:V.str 3 7630441=sB vM:=rfl
theorem AaZ:V.str 2 29545=sB QU:=rfl
theorem AOc:V.str 6 114849160783212=sB Hr:=rfl
theorem AZP:V.str 3 7628140=sB O0:=rfl
theorem AOh:V.str 6 110429656606061=sB E5:=rfl
theorem AZt:V.str 3 7824750=sB Ih:=rfl
theorem AWR:V.str 4 1819047278=sB Qh:=rfl
theorem ARt:V.str 5 500068610672=sB Fp:=rfl
theorem AO0:V.str 6 121437875889522=sB Eo:=rfl
theorem AOU:V.str 6 109304575259763=sB F9:=rfl
theorem AVn:V.str 4 1936287860=sB WH:=rfl
theorem AWr:V.str 4 1702195828=sB Vm:=rfl
theorem ATz:V.str 5 435610544247=sB Fe:=rfl
theorem AYz:V.str 2 9766=sB NP:=rfl
theorem AaJ:V.str 2 31868=sB YQ:=rfl
theorem AZZ:V.str 1 41=sB BH:=rfl
theorem AbU:V.str 1 91=sB GL:=rfl
theorem AYh:V.str 1 125=sB m_rc:=rfl
def Tt:List Bs:=[SX,fJ,OE,EL,Fv,RG,PY,Jr,vM,QU,Hr,O0,E5,Ih,Qh,Fp,Eo,F9,WH,Vm,Fe]
def FM:List Bs:=[Yk,nJ,nD,NP,YQ,Zt,Dv,XZ,Sv,qF,V9,EG,Iq,BG,BH,GL,F8,OC,m_rc,Aw,Ce,DI]
def great(c:UInt8):Bool:=decide (65<=c.toNat)&&decide (c.toNat<=90)
def small(c:UInt8):Bool:=decide (97<=c.toNat)&&decide (c.toNat<=122)
def digit(c:UInt8):Bool:=decide (48<=c.toNat)&&decide (c.toNat<=57)
def inner(c:UInt8):Bool:=great c||(small c||(digit c||decide (c.toNat=95)))
def blank(c:UInt8):Bool:=decide (c.toNat=32)||(decide (c.toNat=9)||(decide (c.toNat=10)||decide (c.toNat=13)))
def pre(p l:Bs):Bool:=decide (p.length<=l.length)&&decide (l.take p.length=p)
def Dc:Bool->Bs->Bs
 |_,[]=>[]
 |true,c::t=>bif decide (c.toNat=10)then Dc false t else Dc true t
 |false,c::t=>bif blank c then Dc false t else bif pre [47,47] (c::t)then Dc true t else c::t
structure Tok where
 kind:Nat
 text:Bs
 num:Nat
def Qi:Tok:=⟨0,[],0⟩
def iP:Nat->Bs->Option Nat
 |n,[]=>some n
 |n,c::l=>bif decide (288230376151711744<n*10+(c.toNat-48))then none else iP (n*10+(c.toNat-48)) l
def eG(t:Tok):Nat×Tok:=bif decide (40<t.text.length)then(4,Qi)else(0,t)
def JI:Bs->Nat×Tok
 |[]=>(0,Qi)
 |c::l=>
  bif great c then eG ⟨2,(c::l).takeWhile inner,0⟩else
  bif small c then eG ⟨bif decide ((c::l).takeWhile inner∈Tt)then 1 else 3,(c::l).takeWhile inner,0⟩else
  bif digit c then(match iP 0 ((c::l).takeWhile digit)with|none=>(22,Qi)|some n=>(0,⟨4,(c::l).takeWhile digit,n⟩))else
  match FM.find? (λm=>pre m (c::l))with|none=>(20,Qi)|some m=>(0,⟨5,m,0⟩)
def zW:Nat->Bs->Nat×List Tok
 |0,_=>(0,[])
 |f+1,r=>
  bif decide ((JI (Dc false r)).1=0)then
   bif decide ((JI (Dc false r)).2.kind=0)then(0,[(JI (Dc false r)).2])
   else((zW f ((Dc false r).drop (JI (Dc false r)).2.text.length)).1,(JI (Dc false r)).2::(zW f ((Dc false r).drop (JI (Dc false r)).2.text.length)).2)
  else((JI (Dc false r)).1,[])
def zV(s:Bs):Nat×List Tok:=bif decide (65536<s.length)then(4,[])else zW (s.length+1) s
end Go.PQ
namespace Go.PQ
open Go.Eng
set_option maxRecDepth 100000
section
variable{G:AV}{H:Heap}{n:Nat}{k:KV}
theorem AMu{c:UInt8}(hk:k (.bool (great c)) H n):Runs F G rE [.int .u8 (.ofNat c.toNat) 0] H n k:=by
 refine Am (s:=Ho (cu lfp G)) jk (by obtain⟨h,o⟩:=AHL Ap G;rw[jk]at h;cases h;exact o) ?_
 show cu lfp G (Runs F G) (.int .u8 (.ofNat c.toNat) 0) H n k
 delta cu
 unfold great at hk
 simp only[go_sem,mO,vO]
 cases h:decide (65<=c.toNat)<;>rw[h]at hk<;>simp only[go_sem,vO]<;>exact hk
theorem ALi{c:UInt8}(hk:k (.bool (small c)) H n):Runs F G qB [.int .u8 (.ofNat c.toNat) 0] H n k:=by
 refine Am (s:=Ho (dR lfp G)) jY (by obtain⟨h,o⟩:=AGz Ap G;rw[jY]at h;cases h;exact o) ?_
 show dR lfp G (Runs F G) (.int .u8 (.ofNat c.toNat) 0) H n k
 delta dR
 unfold small at hk
 simp only[go_sem,mO,vO]
 cases h:decide (97<=c.toNat)<;>rw[h]at hk<;>simp only[go_sem,vO]<;>exact hk
theorem AGD{c:UInt8}(hk:k (.bool (digit c)) H n):Runs F G bH [.int .u8 (.ofNat c.toNat) 0] H n k:=by
 refine Am (s:=Ho (dO lfp G)) jI (by obtain⟨h,o⟩:=AGn Ap G;rw[jI]at h;cases h;exact o) ?_
 show dO lfp G (Runs F G) (.int .u8 (.ofNat c.toNat) 0) H n k
 delta dO
 unfold digit at hk
 simp only[go_sem,mO,vO]
 cases h:decide (48<=c.toNat)<;>rw[h]at hk<;>simp only[go_sem,vO]<;>exact hk
theorem AMq{c:UInt8}(hk:k (.bool (inner c)) H n):Runs F G oZ [.int .u8 (.ofNat c.toNat) 0] H n k:=by
 refine Am (s:=Ho (bT lfp G)) lC (by obtain⟨h,o⟩:=AG3 Ap G;rw[lC]at h;cases h;exact o) ?_
 show bT lfp G (Runs F G) (.int .u8 (.ofNat c.toNat) 0) H n k
 delta bT
 unfold inner at hk
 refine AMu ?_
 cases h1:great c with
 |true=>rw[h1]at hk;simp only[go_sem];exact hk
 |false=>
  rw[h1]at hk;simp only[go_sem]
  refine ALi ?_
  cases h2:small c with
  |true=>rw[h2]at hk;simp only[go_sem];exact hk
  |false=>
   rw[h2]at hk;simp only[go_sem]
   refine AGD ?_
   cases h3:digit c with
   |true=>rw[h3]at hk;simp only[go_sem];exact hk
   |false=>rw[h3]at hk;simp only[go_sem,Xx];exact hk
theorem ACF{p l:Bs}(hk:k (.bool (pre p l)) H n):Runs F G Oe [sB l,sB p] H n k:=by
 refine Am (s:=QD (Oi lfp G)) SE (by obtain⟨h,o⟩:=qJ Ap G;rw[SE]at h;cases h;exact o) ?_
 show Oi lfp G (Runs F G) (sB l) (sB p) H n k
 delta Oi
 refine Am (s:=QD (FV lfp G)) II (by obtain⟨h,o⟩:=VU Ap G;rw[II]at h;cases h;exact o) ?_
 show FV lfp G (Runs F G) (sB l) (sB p) H n k
 delta FV
 unfold pre at hk
 simp only[go_sem,O8,mO]
 cases h:decide (p.length<=l.length)with
 |true=>
  have hle:=of_decide_eq_true h
  rw[h]at hk;simp only[go_sem,O8,AaN hle,AH6];exact hk
 |false=>rw[h]at hk;simp only[go_sem];exact hk
theorem AIR{l:Bs}{b:Nat}(hb:b<256)(hk:k (.int .i64 (AAk b l 0) 0) H n):Runs F G UE [sB l,.int .u8 (.ofNat b) 0] H n k:=by
 refine Am (s:=QD (Og lfp G)) RP (by obtain⟨h,o⟩:=pX Ap G;rw[RP]at h;cases h;exact o) ?_
 show Og lfp G (Runs F G) (sB l) (.int .u8 (.ofNat b) 0) H n k
 delta Og
 refine Am (s:=QD (FP lfp G)) IK (by obtain⟨h,o⟩:=VY Ap G;rw[IK]at h;cases h;exact o) ?_
 show FP lfp G (Runs F G) (sB l) (.int .u8 (.ofNat b) 0) H n k
 delta FP
 simp only[go_sem,AaH hb]
 exact hk
theorem ASn{l:Bs}(hk:k (.bool (decide (l∈Tt))) H n):Runs F G ACI [sB l] H n k:=by
 refine Am (s:=Ho (bK lfp G)) jJ (by obtain⟨h,o⟩:=AHY Ap G;rw[jJ]at h;cases h;exact o) ?_
 show bK lfp G (Runs F G) (sB l) H n k
 delta bK
 have e:decide (l∈Tt)=Tt.any λw=>decide (l=w):=by rw[Bool.eq_iff_iff];simp
 rw[e]at hk
 unfold Tt at hk
 simp only[AbG,AKn,ASM,AWP,AN5,ATf,ATq,AbN,AOy,AaZ,AOc,AZP,AOh,AZt,AWR,ARt,AO0,AOU,AVn,AWr,ATz]
 have fin:∀b:Bool,k (.bool b) H n->Bo lfp G (Runs F G) k (.bool b) H n:=by
  intro b hb
  delta Bo
  cases b<;>exact hb
 repeat' (
  rw[AH6,Au]
  rw[List.any_cons]at hk
  refine(λ(b:Bool) (P Q:Prop) (h1:b=true->P) (h2:b=false->Q)=>(by cases b;exact h2 rfl;exact h1 rfl:Ac (.bool b) true P Q)) _ _ _ (λhb=>?_) (λhb=>?_)
  ·rw[hb]at hk;first|(rw[hb];exact fin _ hk)|exact hk
  rw[hb,Bool.false_or]at hk)
 exact hk
theorem AMT{a b:Nat}(h:a*b<9223372036854775808):B2.ev .mul (.int .i64 (.ofNat a) 0) (.int .i64 (.ofNat b) 0)=some (.int .i64 (.ofNat (a*b)) 0):=by
 show some (V.int .i64 (Vz .i64 (Int.mul (.ofNat a) (.ofNat b))) 0)=_
 have e:Int.mul (.ofNat a) (.ofNat b)=.ofNat (a*b):=rfl
 rw[X7,e,gK (by show(-9223372036854775808:Int)<=((a*b:Nat):Int);omega) (by show((a*b:Nat):Int)<_;omega)]
theorem AWv{a b:Nat}(hb:b<=a)(h:a<256):B2.ev .sub (.int .u8 (.ofNat a) 0) (.int .u8 (.ofNat b) 0)=some (.int .u8 (.ofNat (a-b)) 0):=by
 show some (V.int .u8 (Vz .u8 (AGo (.ofNat a) (Int.neg (.ofNat b)))) 0)=_
 rw[AAU]
 have e:Int.ofNat a+Int.neg (Int.ofNat b)=Int.ofNat (a-b):=by show(a:Int)+ -(b:Int)=((a-b:Nat):Int);omega
 rw[e]
 have:inr .u8 (.ofNat (a-b))=true:=by show Nat.blt (a-b) 256=true;rw[Nat.blt_eq];omega
 unfold Vz;rw[this]
theorem AQi{q:IntKind}{a:Nat}(h:a<9223372036854775808):AA1 .i64 (.int q (.ofNat a) 0)=some (.int .i64 (.ofNat a) 0):=by
 show some (V.int .i64 (Vz .i64 (.ofNat a)) 0)=_
 rw[X7,gK (by show(-9223372036854775808:Int)<=((a:Nat):Int);omega) (by show((a:Nat):Int)<_;omega)]
def AV8:Option Nat->V
 |none=>.J4 [.int .i64 (.ofNat 0) 0,.bool false]
 |some m=>.J4 [.int .i64 (.ofNat m) 0,.bool true]
theorem ANO{l:Bs}{i:Nat}(h:i<l.length):(PE l)[i]? =some [V.int .u8 (.ofNat (l[i]).toNat) 0]:=by simp[PE,h]
theorem AQo{l:Bs}(hl:∀c∈l,digit c=true)(hs:l.length<=65536)(hk:∀H',Kp H n H' (n+1)->k (AV8 (iP 0 l)) H' (n+1)):Runs F G AAG [sB l] H n k:=by
 refine Am (s:=Ho (Zk lfp G)) eP (by obtain⟨h,o⟩:=AFD Ap G;rw[eP]at h;cases h;exact o) ?_
 show Zk lfp G (Runs F G) (sB l) H n k
 delta Zk
 obtain⟨R,hR⟩:∃R,iP 0 l=R:=⟨_,rfl⟩
 rw[hR]at hk
 refine AUI (G:=G) λH1 v f1 hv=>?_
 simp only[go_sem,hv.len,show(PE l).length=l.length from List.length_map ..]
 refine EP (N:=l.length) (J:=λj q=>∃a,q=(.int .i64 (.ofNat a) 0,v,.int .i64 (.ofNat l.length) 0,.int .i64 (.ofNat j) 0,H1,n+1)/\a<=288230376151711744/\iP a (l.drop j)=R) ?_ ?_ ⟨0,rfl,by omega,hR⟩
 ·rintro I j q hlt ⟨a,rfl,ha,he⟩ ih
  show QN lfp G (Runs F G) k I (.int .i64 (.ofNat a) 0) v (.int .i64 (.ofNat l.length) 0) (.int .i64 (.ofNat j) 0) H1 (n+1)
  delta QN
  obtain⟨p,hp,hld⟩:=hv.at (ANO hlt)
  rw[List.drop_eq_getElem_cons hlt]at he
  have hd:=hl _ (List.getElem_mem hlt)
  generalize l[j]=c at hld he hd
  simp only[digit,Bool.and_eq_true,decide_eq_true_eq]at hd
  unfold iP at he
  simp only[go_sem,ES,hlt,decide_true,hp,aI hld,AMT (show a*10<9223372036854775808 by omega),AWv hd.1 (show c.toNat<256 by omega),AQi (show c.toNat-48<9223372036854775808 by omega),Ef (show a*10+(c.toNat-48)<9223372036854775808 by omega),Ls]
  cases h:decide (288230376151711744<a*10+(c.toNat-48))with
  |true=>rw[h]at he;simp only[go_sem];have:=hk _ f1;rw[<-he]at this;exact this
  |false=>
   rw[h]at he;simp only[go_sem,Ef (show j+1<9223372036854775808 by omega)]
   exact ih _ ⟨_,rfl,by simpa using h,he⟩
 ·rintro I q ⟨a,rfl,ha,he⟩
  show QN lfp G (Runs F G) k I (.int .i64 (.ofNat a) 0) v (.int .i64 (.ofNat l.length) 0) (.int .i64 (.ofNat l.length) 0) H1 (n+1)
  delta QN
  rw[List.drop_eq_nil_of_le (Nat.le_refl _)]at he
  simp only[go_sem,ES,Nat.lt_irrefl,decide_false]
  delta Yj
  have:=hk _ f1
  rw[<-he]at this
  exact this
end
def LAt(H:Heap)(lb:Nat)(s:Bs)(a:Nat):Prop:=∃line col:Nat,1<=line/\1<=col/\line<=a+1/\col<=a+1/\
 T.get H lb=some (one [sB s,.int .i64 (.ofNat a) 0,.int .i64 (.ofNat line) 0,.int .i64 (.ofNat col) 0])
theorem APa(q r:IntKind)(a b:Int)(z w:V):Bh [z,w] [(0,1,.c (.int q a 0)),(1,1,.c (.int r b 0))]=some (.agg [.int q a 0,.int r b 0]):=rfl
section
variable{G:AV}{H:Heap}{n lb a:Nat}{s:Bs}{k:KV}
theorem LAt.kp{H':Heap}{n':Nat}(h:LAt H lb s a)(hl:lb<n)(f:Kp H n H' n'):LAt H' lb s a:=by
 obtain⟨line,col,h1,h2,h3,h4,hg⟩:=h
 exact⟨line,col,h1,h2,h3,h4,f.get hg hl⟩
theorem AK0{m:Nat}(h:LAt H lb s a)(hm:a+m<=s.length)(hs:s.length<=65536)(hk:∀H',Kx lb H n H' n->LAt H' lb s (a+m)->k (.J4 []) H' n):
 Runs F G Kv [.ptr lb 0,.int .i64 (.ofNat m) 0] H n k:=by
 refine Am (s:=QD (Sz lfp G)) Ve (by obtain⟨h,o⟩:=zq Ap G;rw[Ve]at h;cases h;exact o) ?_
 show Sz lfp G (Runs F G) (.ptr lb 0) (.int .i64 (.ofNat m) 0) H n k
 delta Sz
 refine EP (N:=m) (J:=λj q=>∃H',q=(.ptr lb 0,.int .i64 (.ofNat m) 0,.int .i64 (.ofNat j) 0,H',n)/\Kx lb H n H' n/\LAt H' lb s (a+j)) ?_ ?_ ⟨H,rfl,Kx.refl ..,h⟩
 ·rintro I j q hlt ⟨H1,rfl,f1,line,col,h1,h2,h3,h4,hg⟩ ih
  show KR lfp G (Runs F G) k I (.ptr lb 0) (.int .i64 (.ofNat m) 0) (.int .i64 (.ofNat j) 0) H1 n
  delta KR
  simp only[go_sem,ES,hlt,decide_true,Nat.reduceAdd,AQ (off:=3) hg (v:=.int .i64 (.ofNat col) 0) rfl,Ef (show col+1<9223372036854775808 by omega)]
  refine Ej hg rfl rfl (by omega) (by show 3+1<=4;omega) λH2 hg2 s2=>?_
  have hg2:T.get H2 lb=some (one [sB s,.int .i64 (.ofNat (a+j)) 0,.int .i64 (.ofNat line) 0,.int .i64 (.ofNat (col+1)) 0]):=hg2
  simp only[go_sem,Nat.reduceAdd,AQ (off:=0) hg2 (v:=sB s) rfl,AQ (off:=1) hg2 (v:=.int .i64 (.ofNat (a+j)) 0) rfl,AGA (show a+j<s.length by omega),Xx]
  have f2:Kx lb H n H2 n:=f1.trans ⟨Nat.le_refl _,λid _ hb=>s2 id hb⟩
  have fin:∀(H3:Heap) (line col:Nat),Kx lb H n H3 n->1<=line->1<=col->line<=a+j+2->col<=a+j+2->
   T.get H3 lb=some (one [sB s,.int .i64 (.ofNat (a+j)) 0,.int .i64 (.ofNat line) 0,.int .i64 (.ofNat col) 0])->
   Jc lfp G (Runs F G) k I (.ptr lb 0) (.int .i64 (.ofNat m) 0) (.int .i64 (.ofNat j) 0) H3 n:=by
   intro H3 line col f3 h1 h2 h3 h4 hg3
   delta Jc
   simp only[go_sem,Nat.reduceAdd,AQ (off:=1) hg3 (v:=.int .i64 (.ofNat (a+j)) 0) rfl,Ef (show a+j+1<9223372036854775808 by omega)]
   refine Ej hg3 rfl rfl (by omega) (by show 1+1<=4;omega) λH4 hg4 s4=>?_
   simp only[go_sem,Ef (show j+1<9223372036854775808 by omega)]
   exact ih _ ⟨_,rfl,f3.trans ⟨Nat.le_refl _,λid _ hb=>s4 id hb⟩,line,col,h1,h2,by omega,by omega,hg4⟩
  cases hc:decide ((s[a+j]).toNat=10)with
  |true=>
   simp only[go_sem,Nat.reduceAdd,AQ (off:=2) hg2 (v:=.int .i64 (.ofNat line) 0) rfl,Ef (show line+1<9223372036854775808 by omega),APa]
   refine Ej hg2 rfl rfl (by omega) (by show 2+2<=4;omega) λH3 hg3 s3=>?_
   exact fin H3 (line+1) 1 (f2.trans ⟨Nat.le_refl _,λid _ hb=>s3 id hb⟩) (by omega) (by omega) (by omega) (by omega) hg3
  |false=>
   simp only[go_sem]
   exact fin H2 line (col+1) f2 (by omega) (by omega) (by omega) (by omega) hg2
 ·rintro I q ⟨H1,rfl,f1,h⟩
  show KR lfp G (Runs F G) k I (.ptr lb 0) (.int .i64 (.ofNat m) 0) (.int .i64 (.ofNat m) 0) H1 n
  delta KR
  simp only[go_sem,ES,Nat.lt_irrefl,decide_false]
  exact hk _ f1 h
def toEnd:Bs->Nat
 |[]=>0
 |c::l=>bif decide (c.toNat=10)then 0 else toEnd l+1
theorem AIW:∀l:Bs,toEnd l<=l.length
 |[]=>Nat.le_refl _
 |c::l=>by
  have:=AIW l
  unfold toEnd
  cases decide (c.toNat=10)<;>simp[this]
theorem AFQ:∀(l:Bs) (i:Nat),AAk 10 l i=if toEnd l=l.length then-1 else((i+toEnd l:Nat):Int)
 |[],i=>rfl
 |c::l,i=>by
  have ih:=AFQ l (i+1)
  rw[show AAk 10 (c::l) i=bif decide (c.toNat=10)then .ofNat i else AAk 10 l (i+1)from rfl,show toEnd (c::l)=bif decide (c.toNat=10)then 0 else toEnd l+1 from rfl]
  cases h:decide (c.toNat=10)with
  |true=>simp
  |false=>
   simp only[cond_false,ih,List.length_cons,Nat.add_right_cancel_iff]
   split
   ·rfl
   ·congr 1;omega
theorem AJL:∀l:Bs,Dc true l=Dc false (l.drop (toEnd l))
 |[]=>rfl
 |c::l=>by
  rw[show Dc true (c::l)=bif decide (c.toNat=10)then Dc false l else Dc true l from rfl,show toEnd (c::l)=bif decide (c.toNat=10)then 0 else toEnd l+1 from rfl]
  cases h:decide (c.toNat=10)with
  |true=>
   have hb:blank c=true:=by simp only[blank,h,Bool.or_true,Bool.true_or]
   simp[Dc,hb]
  |false=>simp only[cond_false,List.drop_succ_cons];exact AJL l
theorem qA:∀(b:Bool) (l:Bs),(Dc b l).length<=l.length
 |_,[]=>by simp[Dc]
 |true,c::l=>by
  rw[show Dc true (c::l)=bif decide (c.toNat=10)then Dc false l else Dc true l from rfl]
  have h1:=qA false l;have h2:=qA true l
  cases decide (c.toNat=10)<;>simp<;>omega
 |false,c::l=>by
  rw[show Dc false (c::l)=bif blank c then Dc false l else bif pre [47,47] (c::l)then Dc true l else c::l from rfl]
  have h1:=qA false l;have h2:=qA true l
  cases blank c<;>cases pre [47,47] (c::l)<;>simp<;>omega
theorem AY7:V.str 2 12079=sB [47,47]:=rfl
theorem AWX(h:LAt H lb s a)(ha:a<=s.length)(hs:s.length<=65536)(hk:∀H' a',Kx lb H n H' n->LAt H' lb s a'->a'<=s.length->s.drop a'=Dc false (s.drop a)->k (.J4 []) H' n):
 Runs F G jD [.ptr lb 0] H n k:=by
 refine Am (s:=Ho (Sj lfp G)) Vs (by obtain⟨h,o⟩:=zO Ap G;rw[Vs]at h;cases h;exact o) ?_
 show Sj lfp G (Runs F G) (.ptr lb 0) H n k
 delta Sj
 obtain⟨R,hR⟩:∃R,Dc false (s.drop a)=R:=⟨_,rfl⟩
 rw[hR]at hk
 refine O3 (J:=λm q=>∃H' a',m=s.length-a'/\q=(.ptr lb 0,H',n)/\Kx lb H n H' n/\LAt H' lb s a'/\a'<=s.length/\Dc false (s.drop a')=R) ?_ (m:=s.length-a) ⟨H,a,rfl,rfl,Kx.refl ..,h,ha,hR⟩
 rintro I m q ⟨H1,b,rfl,rfl,f1,h1,hb,hR⟩ ih
 show UA lfp G (Runs F G) k I (.ptr lb 0) H1 n
 delta UA
 obtain⟨line,col,_,_,_,_,hg⟩:=id h1
 have e0:AX (.ptr lb 0) G H1=some (sB s):=AQ hg rfl
 have e1:AX (.ptr lb 1) G H1=some (.int .i64 (.ofNat b) 0):=AQ hg rfl
 simp only[go_sem,Nat.reduceAdd,e0,e1,O8,ES]
 rcases Nat.lt_or_ge b s.length with hlt|hge
 ·simp only[hlt,decide_true,go_sem,Nat.reduceAdd,e0,e1,AGA hlt,Xx]
  have hR':=hR
  rw[List.drop_eq_getElem_cons hlt,show ∀(c:UInt8) (l:Bs),Dc false (c::l)=bif blank c then Dc false l else bif pre [47,47] (c::l)then Dc true l else c::l from λ_ _=>rfl,<-List.drop_eq_getElem_cons hlt]at hR'
  have step1:blank s[b]=true->Runs F G Kv [.ptr lb 0,.int .i64 (.ofNat 1) 0] H1 n λ_ H n=>I (.ptr lb 0,H,n):=by
   intro hbl
   rw[hbl]at hR'
   refine AK0 h1 (by omega) hs λH2 f2 h2=>ih (s.length-(b+1)) _ (by omega) ⟨H2,b+1,rfl,rfl,f1.trans f2,h2,by omega,hR'⟩
  have fin:∀m',b+m'<=s.length->0<m'->Dc false (s.drop (b+m'))=R->Fh lfp G (Runs F G) k I (.ptr lb 0) (.int .i64 (.ofNat m') 0) H1 n:=by
   intro m' h2 h3 h4
   delta Fh
   exact AK0 h1 h2 hs λH2 f2 h2=>ih (s.length-(b+m')) _ (by omega) ⟨H2,b+m',rfl,rfl,f1.trans f2,h2,by omega,h4⟩
  have step2:blank s[b]=false->Runs F G Oe [sB (s.drop b),sB [47,47]] H1 n λv35 H n=>Ac v35 true (AP (Bj (.ptr lb 0)) λv36=>
   AP (AU 0 v36) λv37=>AP (AX v37 G H) λv38=>AP (Bj (.ptr lb 0)) λv39=>AP (AU 1 v39) λv40=>AP (AX v40 G H) λv41=>AP (Zr v38 E0 (some (.c v41)) none) λv42=>
   Runs F G UE [v42,(.int .u8 (.ofNat 10) 0)] H n λv43 H n=>
   AP (B2.ev .lss v43 (.int .i64 (.ofNat 0) 0)) λv46=>
   Ac v46 true (AP (Bj (.ptr lb 0)) λv47=>AP (AU 0 v47) λv48=>AP (AX v48 G H) λv49=>AP (N8 v49) λv50=>AP (Bj (.ptr lb 0)) λv51=>AP (AU 1 v51) λv52=>AP (AX v52 G H) λv53=>
   AP (B2.ev .sub v50 v53) λv54=>Fh lfp G (Runs F G) k I (.ptr lb 0) v54 H n) (Fh lfp G (Runs F G) k I (.ptr lb 0) v43 H n)) (k (.J4 []) H n):=by
   intro hbl
   rw[hbl]at hR'
   refine ACF ?_
   cases hp:pre [47,47] (s.drop b)with
   |false=>
    rw[hp]at hR'
    simp only[go_sem]
    exact hk _ _ f1 h1 hb hR'
   |true=>
    rw[hp,cond_false,cond_true,AJL,List.drop_drop]at hR'
    have hne:(s[b]).toNat≠10:=by
     intro e
     simp[blank,e]at hbl
    simp only[go_sem,Nat.reduceAdd,e0,e1,ALA hb]
    refine AIR (by omega) ?_
    have hte:toEnd (s.drop b)=toEnd (s.drop (b+1))+1:=by
     rw[List.drop_eq_getElem_cons hlt,show toEnd (s[b]::s.drop (b+1))=bif decide ((s[b]).toNat=10)then 0 else toEnd (s.drop (b+1))+1 from rfl,decide_eq_false hne];rfl
    have hle:=AIW (s.drop b)
    rw[AFQ]
    rw[List.length_drop]at hle⊢
    rw[show b+1+toEnd (s.drop (b+1))=b+toEnd (s.drop b)by omega]at hR'
    split
    ·rename_i he
     have e:B2.ev .lss (.int .i64 (-1) 0) (.int .i64 (.ofNat 0) 0)=some (.bool true):=rfl
     simp only[go_sem,e,Nat.reduceAdd,e0,e1,O8,vS hb (show s.length<9223372036854775808 by omega)]
     rw[he]at hR'
     exact fin _ (by omega) (by omega) hR'
    ·rw[Nat.zero_add]
     have e:B2.ev .lss (.int .i64 ((toEnd (s.drop b):Nat):Int) 0) (.int .i64 (.ofNat 0) 0)=some (.bool false):=by
      refine(ES .i64 _ _).trans ?_
      simp
     simp only[go_sem,e]
     exact fin (toEnd (s.drop b)) (by omega) (by omega) hR'
  cases c1:decide ((s[b]).toNat=32)with
  |true=>simp only[go_sem];exact step1 (by simp[blank,c1])
  |false=>
   simp only[go_sem,Xx]
   cases c2:decide ((s[b]).toNat=9)with
   |true=>simp only[go_sem];exact step1 (by simp[blank,c2])
   |false=>
    simp only[go_sem,Xx]
    cases c3:decide ((s[b]).toNat=10)with
    |true=>simp only[go_sem];exact step1 (by simp[blank,c3])
    |false=>
     simp only[go_sem,Xx]
     cases c4:decide ((s[b]).toNat=13)with
     |true=>simp only[go_sem];exact step1 (by simp[blank,c4])
     |false=>
      simp only[go_sem,Nat.reduceAdd,e0,e1,ALA hb,AY7]
      exact step2 (by simp[blank,c1,c2,c3,c4])
 ·have:b=s.length:=by omega
  subst this
  simp only[Nat.lt_irrefl,decide_false,go_sem]
  rw[List.drop_eq_nil_of_le (Nat.le_refl _),show Dc false []=[]from rfl]at hR
  exact hk _ _ f1 h1 (Nat.le_refl _) (by rw[List.drop_eq_nil_of_le (Nat.le_refl _)];exact hR)
theorem AIs(g:UInt8->Bool):∀l:Bs,(l.takeWhile g).length<=l.length
 |[]=>Nat.le_refl _
 |c::l=>by have:=AIs g l;rw[List.takeWhile_cons];split<;>simp<;>omega
theorem AMC(g:UInt8->Bool):∀l:Bs,l.take (l.takeWhile g).length=l.takeWhile g
 |[]=>rfl
 |c::l=>by rw[List.takeWhile_cons];split; · simp[AMC g l]
           ·rfl
def AWU(G:AV)(f:Nat)(g:UInt8->Bool):Prop:=∀(c:UInt8) (H:Heap) (n:Nat) (k:KV),k (.bool (g c)) H n->Runs F G f [.int .u8 (.ofNat c.toNat) 0] H n k
theorem APr{f:Nat}{g:UInt8->Bool}(hf:AWU G f g)(h:LAt H lb s a)(ha:a<=s.length)(hs:s.length<=65536)(hk:k (sB ((s.drop a).takeWhile g)) H n):
 Runs F G Ui [.ptr lb 0,.fn f [] []] H n k:=by
 refine Am (s:=QD (Uf lfp G)) XD (by obtain⟨h,o⟩:=ABD Ap G;rw[XD]at h;cases h;exact o) ?_
 show Uf lfp G (Runs F G) (.ptr lb 0) (.fn f [] []) H n k
 delta Uf
 obtain⟨line,col,_,_,_,_,hg⟩:=id h
 have e0:AX (.ptr lb 0) G H=some (sB s):=AQ hg rfl
 have e1:AX (.ptr lb 1) G H=some (.int .i64 (.ofNat a) 0):=AQ hg rfl
 refine O3 (J:=λm q=>∃j,m=s.length-(a+j)/\q=(.ptr lb 0,.fn f [] [],.int .i64 (.ofNat j) 0,H,n)/\a+j<=s.length/\j+((s.drop (a+j)).takeWhile g).length=((s.drop a).takeWhile g).length) ?_ (m:=s.length-a)
  ⟨0,rfl,rfl,ha,by simp⟩
 rintro I m q ⟨j,rfl,rfl,hj,he⟩ ih
 show Tz lfp G (Runs F G) k I (.ptr lb 0) (.fn f [] []) (.int .i64 (.ofNat j) 0) H n
 delta Tz
 have fin:j=((s.drop a).takeWhile g).length->Px lfp G (Runs F G) k (.ptr lb 0) (.int .i64 (.ofNat j) 0) H n:=by
  intro hj2
  delta Px
  simp only[go_sem,Nat.reduceAdd,e0,e1,Ef (show a+j<9223372036854775808 by omega),AQl (show a<=a+j by omega) hj]
  rw[show a+j-a=j by omega,hj2,AMC]
  exact hk
 simp only[go_sem,Nat.reduceAdd,e0,e1,O8,Ef (show a+j<9223372036854775808 by omega),ES]
 rcases Nat.lt_or_ge (a+j) s.length with hlt|hge
 ·simp only[hlt,decide_true,go_sem,Nat.reduceAdd,e0,e1,Ef (show a+j<9223372036854775808 by omega),AGA hlt,uQ]
  rw[List.drop_eq_getElem_cons hlt,List.takeWhile_cons]at he
  refine hf _ _ _ _ ?_
  cases hc:g s[a+j]with
  |true=>
   rw[hc]at he
   simp only[go_sem,Ef (show j+1<9223372036854775808 by omega)]
   exact ih (s.length-(a+(j+1))) _ (by omega) ⟨j+1,rfl,rfl,by omega,by rw[show a+(j+1)=a+j+1 by omega,<-he];simp;omega⟩
  |false=>
   rw[hc]at he
   simp only[go_sem]
   exact fin (by simpa using he)
 ·have:¬a+j<s.length:=by omega
  simp only[this,decide_false,go_sem]
  rw[List.drop_eq_nil_of_le hge]at he
  exact fin (by simpa using he)
end
def VR(t:Tok)(line col:Nat):LV:=[.int .i64 (.ofNat t.kind) 0,sB t.text,.int .i64 (.ofNat t.num) 0,.int .i64 (.ofNat line) 0,.int .i64 (.ofNat col) 0]
def ABZ(t:Tok):Nat×Tok:=bif decide (t.kind=0)then(20,Qi)else bif decide (40<t.text.length)&& !decide (t.kind=4)then(4,Qi)else(0,t)
def X4(G:AV):Prop:=G 0 0 22=some (FM.map sB)
def AJB(k:KV)(H:Heap)(n lb:Nat)(s:Bs)(a:Nat)(r:Nat×Tok):Prop:=∀(H':Heap) (n':Nat) (c:LV),Kx lb H n H' n'->LAt H' lb s (a+r.2.text.length)->c.length=5->(r.1=0->∃line col,1<=line/\1<=col/\c=VR r.2 line col)->
 k (.J4 [.agg c,.int .i64 (.ofNat r.1) 0]) H' n'
section
variable{G:AV}{H:Heap}{n lb a:Nat}{s:Bs}{k:KV}
theorem AHe{z0 z1 z2 z3 z4:V}:Bh [z0,z1,z2,z3,z4] []=some (.agg [z0,z1,z2,z3,z4]):=rfl
theorem ASv{z0 z1 z2 z3 z4 a b:V}:Bh [z0,z1,z2,z3,z4] [(3,2,.c (.agg [a,b]))]=some (.agg [z0,z1,z2,a,b]):=rfl
theorem AH8{H0:Heap}{n0 p q:Nat}{t:Tok}{line col:Nat}{z0 z1 z2 z3 z4:V}(f0:Kx lb H0 n0 H n)(hp:T.get H p=some (one [z0,z1,z2,z3,z4]))(hq:T.get H q=some (one (VR t line col)))(hpq:p≠q)(hpl:p≠lb)(hql:q≠lb)
 (hp0:n0<=p) (hpn:p<n) (hqn:q<n) (h:LAt H lb s a) (ha:a+t.text.length<=s.length) (hs:s.length<=65536) (h1:1<=line) (h2:1<=col) (hk:AJB k H0 n0 lb s a (ABZ t)):
 D9 lfp G (Runs F G) k (.ptr lb 0) (.ptr p 0) (.ptr q 0) H n:=by
 delta D9
 have q0:AX (.ptr q 0) G H=some (.int .i64 (.ofNat t.kind) 0):=AQ hq rfl
 have q1:AX (.ptr q 1) G H=some (sB t.text):=AQ hq rfl
 unfold ABZ at hk
 simp only[go_sem,Nat.reduceAdd,q0,Xx]
 have zz:∀e:Nat,AJB k H0 n0 lb s a (e,Qi)->e≠0->CP 5 (.ptr p 0) (.agg [.int .i64 (.ofNat 0) 0,.str 0 0,.int .i64 (.ofNat 0) 0,.int .i64 (.ofNat 0) 0,.int .i64 (.ofNat 0) 0]) H n λ_ H n=>
  IV (D6 [.cn (.ptr p 0) 5,.t (.int .i64 (.ofNat e) 0)] G H) λl=>k (GN l) H n:=by
  intro e hk he
  rw[ZX (m:=5) hp (by omega) rfl rfl,DX (m:=5) (T.DJ ..) (by omega) rfl]
  simp only[go_sem]
  obtain⟨line,col,x1,x2,x3,x4,hg⟩:=h
  refine hk _ _ _ ⟨f0.le,λid hid hb=>?_⟩ ⟨line,col,x1,x2,x3,x4,?_⟩ rfl (λh=>absurd h he)
  ·rw[T.BA _ _ (by omega)];exact f0.same id hid hb
  ·rw[T.BA _ _ hpl];exact hg
 cases c1:decide (t.kind=0)with
 |true=>
  rw[c1]at hk
  simp only[go_sem,AHe]
  exact zz 20 hk (by omega)
 |false=>
  rw[c1]at hk
  simp only[go_sem,Nat.reduceAdd,q1,O8,Ls]
  have fin:AJB k H0 n0 lb s a (0,t)->Runs F G Kv [.ptr lb 0,.int .i64 (.ofNat t.text.length) 0] H n λ_ H n=>AP (BF 5 (.ptr q 0) G H) λv45=>
   CP 5 (.ptr p 0) v45 H n λv46 H n=>IV (D6 [.cn (.ptr p 0) 5,.t (.int .i64 (.ofNat 0) 0)] G H) λl=>k (GN l) H n:=by
   intro hk
   refine AK0 h ha hs λH2 f2 h2=>?_
   have hq2:T.get H2 q=_:=f2.get hq hqn hql
   have hp2:T.get H2 p=_:=f2.get hp hpn hpl
   rw[Ai (m:=5) hq2 (by omega) rfl,Au,ZX (m:=5) hp2 (by omega) rfl rfl,DX (m:=5) (T.DJ ..) (by omega) rfl]
   simp only[go_sem]
   have f3:=f0.trans f2
   obtain⟨l1,c1,x1,x2,x3,x4,hg⟩:=h2
   refine hk _ _ _ ⟨f3.le,λid hid hb=>?_⟩ ⟨l1,c1,x1,x2,x3,x4,?_⟩ rfl λ_=>⟨line,col,h1,h2,rfl⟩
   ·rw[T.BA _ _ (by omega)];exact f3.same id hid hb
   ·rw[T.BA _ _ hpl];exact hg
  cases c2:decide (40<t.text.length)with
  |false=>
   rw[c2]at hk
   simp only[go_sem,Nat.reduceAdd,q1,O8]
   exact fin hk
  |true=>
   rw[c2]at hk
   simp only[go_sem,Nat.reduceAdd,q0,YX]
   cases c3:decide (t.kind=4)with
   |true=>
    rw[c3]at hk
    simp only[Bool.not_true,go_sem,Nat.reduceAdd,q1,O8]
    exact fin hk
   |false=>
    rw[c3]at hk
    simp only[Bool.not_false,go_sem,AHe]
    exact zz 4 hk (by omega)
theorem OZ{m o id:Nat}{L:LV}(h:T.get H id=some (one L))(hm:0<m)(hl:o+m<=L.length):BF m (.ptr id o) G H=some (.agg ((L.drop o).take m)):=ML h hm hl
theorem AXO(hG:X4 G)(h:LAt H lb s a)(ha:a<=s.length)(hs:s.length<=65536)(hlb:lb<n)(hk:AJB k H n lb s a (JI (s.drop a))):
 Runs F G gW [.ptr lb 0] H n k:=by
 refine Am (s:=Ho (TI lfp G)) Vw (by obtain⟨h,o⟩:=zu Ap G;rw[Vw]at h;cases h;exact o) ?_
 show TI lfp G (Runs F G) (.ptr lb 0) H n k
 delta TI
 obtain⟨line,col,x1,x2,x3,x4,hg⟩:=id h
 have hne:lb≠n:=by omega
 have hne1:lb≠n+1:=by omega
 have d0:AX (.ptr lb 0) G H=some (sB s):=AQ hg rfl
 have d1:AX (.ptr lb 1) G H=some (.int .i64 (.ofNat a) 0):=AQ hg rfl
 have e2:BF 2 (.ptr lb 2) G H=some (.agg [.int .i64 (.ofNat line) 0,.int .i64 (.ofNat col) 0]):=OZ hg (by omega) (by show 2+2<=4;omega)
 simp only[go_sem,Nat.reduceAdd,hne,hne1,e2,ASv]
 rw[T.set_set]
 have f1:Kp H n (T.set (T.set H n (one [.int .i64 (.ofNat 0) 0,.str 0 0,.int .i64 (.ofNat 0) 0,.int .i64 (.ofNat 0) 0,.int .i64 (.ofNat 0) 0])) (n+1) (one [.int .i64 (.ofNat 0) 0,.str 0 0,.int .i64 (.ofNat 0) 0,.int .i64 (.ofNat line) 0,.int .i64 (.ofNat col) 0])) (n+1+1):=
  ((Kp.refl H n).new (m:=n+1) _ (Nat.le_refl _) (by omega)).new _ (by omega) (by omega)
 have g1:=(T.BA (T.set H n (one [V.int .i64 (.ofNat 0) 0,.str 0 0,.int .i64 (.ofNat 0) 0,.int .i64 (.ofNat 0) 0,.int .i64 (.ofNat 0) 0])) (one [.int .i64 (.ofNat 0) 0,.str 0 0,.int .i64 (.ofNat 0) 0,.int .i64 (.ofNat line) 0,.int .i64 (.ofNat col) 0]) (show n+1≠n by omega)).trans (T.DJ ..)
 have g2:=T.DJ (T.set H n (one [V.int .i64 (.ofNat 0) 0,.str 0 0,.int .i64 (.ofNat 0) 0,.int .i64 (.ofNat 0) 0,.int .i64 (.ofNat 0) 0])) (n+1) (one [V.int .i64 (.ofNat 0) 0,.str 0 0,.int .i64 (.ofNat 0) 0,.int .i64 (.ofNat line) 0,.int .i64 (.ofNat col) 0])
 generalize T.set (T.set H n (one [V.int .i64 (.ofNat 0) 0,.str 0 0,.int .i64 (.ofNat 0) 0,.int .i64 (.ofNat 0) 0,.int .i64 (.ofNat 0) 0])) (n+1) (one [V.int .i64 (.ofNat 0) 0,.str 0 0,.int .i64 (.ofNat 0) 0,.int .i64 (.ofNat line) 0,.int .i64 (.ofNat col) 0])=H1 at f1 g1 g2⊢
 have h:=h.kp hlb f1
 have hg:=f1.get hg hlb
 have e0:AX (.ptr lb 0) G H1=some (sB s):=AQ hg rfl
 have e1:AX (.ptr lb 1) G H1=some (.int .i64 (.ofNat a) 0):=AQ hg rfl
 simp only[go_sem,d0,d1,O8,Xx]
 have g2:T.get H1 (n+1)=some (one (VR Qi line col)):=g2
 rcases Nat.lt_or_ge a s.length with hlt|hge
 case inr=>
  have:a=s.length:=by omega
  subst this
  simp only[decide_true,go_sem]
  rw[List.drop_eq_nil_of_le (Nat.le_refl _)]at hk
  rw[ZX (m:=5) g1 (by omega) rfl rfl,DX (m:=5) (T.DJ ..) (by omega) rfl]
  simp only[go_sem]
  obtain⟨l1,c1,y1,y2,y3,y4,hg⟩:=h
  refine hk _ _ _ ((f1.set _ (Nat.le_refl _)).kx) ⟨l1,c1,y1,y2,y3,y4,?_⟩ rfl λ_=>⟨line,col,x1,x2,rfl⟩
  rw[T.BA _ _ (by omega)];exact hg
 case inl=>
 have hd:=List.drop_eq_getElem_cons hlt
 simp only[show decide (a=s.length)=false by simp;omega,go_sem,Nat.reduceAdd,d0,d1,AGA hlt]
 rw[hd,show ∀(c:UInt8) (l:Bs),JI (c::l)=(bif great c then eG ⟨2,(c::l).takeWhile inner,0⟩else
  bif small c then eG ⟨bif decide ((c::l).takeWhile inner∈Tt)then 1 else 3,(c::l).takeWhile inner,0⟩else
  bif digit c then(match iP 0 ((c::l).takeWhile digit)with|none=>(22,Qi)|some n=>(0,⟨4,(c::l).takeWhile digit,n⟩))else
  match FM.find? (λm=>pre m (c::l))with|none=>(20,Qi)|some m=>(0,⟨5,m,0⟩))from λ_ _=>rfl,<-hd]at hk
 have f0:=f1.kx (b:=lb)
 have hq:n+1≠lb:=by omega
 have ALQ:∀{H2:Heap} {t:Tok} {kd:Nat} {P:KV},T.get H2 (n+1)=some (one (VR t line col))->(∀H3,T.get H3 (n+1)=some (one (VR {t with kind:=kd} line col))->(∀j,j≠n+1->T.get H3 j=T.get H2 j)->P .undef H3 (n+1+1))->
  CP 1 (.ptr (n+1) 0) (.int .i64 (.ofNat kd) 0) H2 (n+1+1) P:=by
  intro H2 t kd P hg hP
  exact Ej hg rfl rfl (by omega) (by show 0+1<=5;omega) λH3 g3 s3=>hP H3 g3 s3
 have ASf:∀{H2:Heap} {t:Tok} {tx:Bs} {P:KV},T.get H2 (n+1)=some (one (VR t line col))->(∀H3,T.get H3 (n+1)=some (one (VR {t with text:=tx} line col))->(∀j,j≠n+1->T.get H3 j=T.get H2 j)->P .undef H3 (n+1+1))->
  CP 1 (.ptr (n+1) 1) (sB tx) H2 (n+1+1) P:=by
  intro H2 t tx P hg hP
  exact Ej hg rfl rfl (by omega) (by show 1+1<=5;omega) λH3 g3 s3=>hP H3 g3 s3
 have AcJ:∀{H2:Heap} {t:Tok} {nu:Nat} {P:KV},T.get H2 (n+1)=some (one (VR t line col))->(∀H3,T.get H3 (n+1)=some (one (VR {t with num:=nu} line col))->(∀j,j≠n+1->T.get H3 j=T.get H2 j)->P .undef H3 (n+1+1))->
  CP 1 (.ptr (n+1) 2) (.int .i64 (.ofNat nu) 0) H2 (n+1+1) P:=by
  intro H2 t nu P hg hP
  exact Ej hg rfl rfl (by omega) (by show 2+1<=5;omega) λH3 g3 s3=>hP H3 g3 s3
 have AEm:∀{H2 H3:Heap},Kx lb H n H2 (n+1+1)/\T.get H2 n=T.get H1 n/\LAt H2 lb s a->(∀j,j≠n+1->T.get H3 j=T.get H2 j)->Kx lb H n H3 (n+1+1)/\T.get H3 n=T.get H1 n/\LAt H3 lb s a:=by
  intro H2 H3 ⟨x,y,z⟩ hs
  obtain⟨l1,c1,y1,y2,y3,y4,hg⟩:=z
  exact⟨⟨by omega,λid hid hb=>(hs id (by omega)).trans (x.same id hid hb)⟩,(hs n (by omega)).trans y,l1,c1,y1,y2,y3,y4,(hs lb (by omega)).trans hg⟩
 have b0:Kx lb H n H1 (n+1+1)/\T.get H1 n=T.get H1 n/\LAt H1 lb s a:=⟨f0,rfl,h⟩
 have fin:∀{H2:Heap} {t:Tok},Kx lb H n H2 (n+1+1)/\T.get H2 n=T.get H1 n/\LAt H2 lb s a->T.get H2 (n+1)=some (one (VR t line col))->a+t.text.length<=s.length->AJB k H n lb s a (ABZ t)->
  D9 lfp G (Runs F G) k (.ptr lb 0) (.ptr n 0) (.ptr (n+1) 0) H2 (n+1+1):=λb g ht hk=>
  AH8 b.1 (b.2.1.trans g1) g (by omega) (by omega) hq (by omega) (by omega) (by omega) b.2.2 ht hs x1 x2 hk
 have hin:=AIs inner (s.drop a)
 have hdi:=AIs digit (s.drop a)
 rw[List.length_drop]at hin hdi
 refine AMu ?_
 cases k1:great s[a]with
 |true=>
  rw[k1]at hk
  simp only[go_sem]
  refine APr (f:=oZ) (λc H n k hk=>AMq hk) h ha hs ?_
  refine ALQ g2 λH2 g s2=>?_
  refine ASf g λH3 g s3=>?_
  refine fin (AEm (AEm b0 s2) s3) g (by show a+(List.takeWhile inner (s.drop a)).length<=_;omega) ?_
  have e:ABZ ⟨2,(s.drop a).takeWhile inner,0⟩=eG ⟨2,(s.drop a).takeWhile inner,0⟩:=by simp[ABZ,eG]
  exact e▸hk
 |false=>
  rw[k1]at hk
  simp only[go_sem]
  refine ALi ?_
  cases k2:small s[a]with
  |true=>
   rw[k2]at hk
   simp only[go_sem]
   refine APr (f:=oZ) (λc H n k hk=>AMq hk) h ha hs ?_
   refine ALQ g2 λH2 g s2=>?_
   refine ASf g λH3 g s3=>?_
   have q1:AX (.ptr (n+1) 1) G H3=some (sB ((s.drop a).takeWhile inner)):=AQ g rfl
   simp only[go_sem,Nat.reduceAdd,q1]
   refine ASn ?_
   cases k3:decide ((s.drop a).takeWhile inner∈Tt)with
   |true=>
    rw[k3]at hk
    simp only[go_sem,Nat.reduceAdd]
    refine ALQ g λH4 g s4=>?_
    refine fin (AEm (AEm (AEm b0 s2) s3) s4) g (by show a+(List.takeWhile inner (s.drop a)).length<=_;omega) ?_
    have e:ABZ ⟨1,(s.drop a).takeWhile inner,0⟩=eG ⟨1,(s.drop a).takeWhile inner,0⟩:=by simp[ABZ,eG]
    exact e▸hk
   |false=>
    rw[k3]at hk
    simp only[go_sem]
    refine fin (AEm (AEm b0 s2) s3) g (by show a+(List.takeWhile inner (s.drop a)).length<=_;omega) ?_
    have e:ABZ ⟨3,(s.drop a).takeWhile inner,0⟩=eG ⟨3,(s.drop a).takeWhile inner,0⟩:=by simp[ABZ,eG]
    exact e▸hk
  |false=>
   rw[k2]at hk
   simp only[go_sem]
   refine AGD ?_
   cases k3:digit s[a]with
   |true=>
    rw[k3]at hk
    simp only[go_sem]
    refine APr (f:=bH) (λc H n k hk=>AGD hk) h ha hs ?_
    refine ALQ g2 λH2 g s2=>?_
    refine ASf g λH3 g s3=>?_
    have q1:AX (.ptr (n+1) 1) G H3=some (sB ((s.drop a).takeWhile digit)):=AQ g rfl
    simp only[go_sem,Nat.reduceAdd,q1]
    have b3:=AEm (AEm b0 s2) s3
    have htw:∀c∈(s.drop a).takeWhile digit,digit c=true:=λc hc=>by
     have:=List.all_takeWhile (l:=s.drop a) (p:=digit);exact List.all_eq_true.1 this c hc
    refine AQo htw (by omega) λH4 f4=>?_
    have g4:=f4.get g (by omega)
    have b4:=b3.1.trans f4.kx
    have gn:=f4.get (b3.2.1.trans g1) (by omega)
    have h4:=b3.2.2.kp (n:=n+1+1) (by omega) f4
    cases hnum:iP 0 ((s.drop a).takeWhile digit)with
    |none=>
     rw[hnum]at hk
     simp only[AV8,go_sem,Nat.reduceAdd]
     refine Ej g4 rfl rfl (by omega) (by show 2+1<=5;omega) λH5 g5 s5=>?_
     have e:Vb (.bool false)=some (.bool true):=rfl
     simp only[go_sem,e,AHe]
     have gn5:=(s5 n (by omega)).trans gn
     rw[ZX (m:=5) gn5 (by omega) rfl rfl,DX (m:=5) (T.DJ ..) (by omega) rfl]
     simp only[go_sem]
     obtain⟨l1,c1,y1,y2,y3,y4,hg⟩:=h4
     refine hk _ _ _ ⟨by omega,λid hid hb=>?_⟩ ⟨l1,c1,y1,y2,y3,y4,?_⟩ rfl λh=>by cases h
     ·rw[T.BA _ _ (by omega),s5 _ (by omega)];exact b4.same id hid hb
     ·rw[T.BA _ _ (by omega),s5 _ (by omega)];exact hg
    |some nu=>
     rw[hnum]at hk
     simp only[AV8,go_sem,Nat.reduceAdd]
     refine Ej g4 rfl rfl (by omega) (by show 2+1<=5;omega) λH5 g5 s5=>?_
     have e:Vb (.bool true)=some (.bool false):=rfl
     simp only[go_sem,e]
     have gn5:=(s5 n (by omega)).trans gn
     have g5:T.get H5 (n+1)=some (one (VR ⟨4,(s.drop a).takeWhile digit,nu⟩ line col)):=g5
     have b5:Kx lb H n H5 (n+1+1+1):=⟨b4.le,λid hid hb=>(s5 id (by omega)).trans (b4.same id hid hb)⟩
     obtain⟨l1,c1,y1,y2,y3,y4,hg⟩:=h4
     refine AH8 b5 gn5 g5 (by omega) (by omega) hq (by omega) (by omega) (by omega) ⟨l1,c1,y1,y2,y3,y4,(s5 _ (by omega)).trans hg⟩ (by show a+(List.takeWhile digit (s.drop a)).length<=_;omega) hs x1 x2 ?_
     have e:ABZ ⟨4,(s.drop a).takeWhile digit,nu⟩=(0,⟨4,(s.drop a).takeWhile digit,nu⟩):=by simp[ABZ]
     exact e▸hk
   |false=>
    rw[k3]at hk
    simp only[go_sem]
    have e80:BF 22 (.Xa 0 0) G H1=some (.agg (FM.map sB)):=by
     show QT (G 0 0 22) (λL=>some (.agg L))=_
     rw[hG];rfl
    simp only[go_sem,e80]
    obtain⟨R,hR⟩:∃R,FM.find? (λm=>pre m (s.drop a))=R:=⟨_,rfl⟩
    rw[hR]at hk
    refine EP (N:=22) (J:=λj q=>q=(.ptr lb 0,.ptr n 0,.ptr (n+1) 0,.agg (FM.map sB),.int .i64 (.ofNat j) 0,H1,n+1+1)/\(FM.drop j).find? (λm=>pre m (s.drop a))=R) ?_ ?_ ⟨rfl,hR⟩
    ·rintro I j q hlt ⟨rfl,hR⟩ ih
     show Jm lfp G (Runs F G) k I (.ptr lb 0) (.ptr n 0) (.ptr (n+1) 0) (.agg (FM.map sB)) (.int .i64 (.ofNat j) 0) H1 (n+1+1)
     delta Jm
     have hj:j<FM.length:=hlt
     rw[List.drop_eq_getElem_cons hj,List.find?_cons]at hR
     have hlen:(FM[j]).length<=2:=by
      have:∀m∈FM,m.length<=2:=by decide
      exact this _ (List.getElem_mem hj)
     have hix:AUx 22 (.agg (FM.map sB)) (.int .i64 (.ofNat j) 0)=some (sB FM[j]):=by
      show BP (Nat.blt j 22) (nth (FM.map sB) j)=_
      rw[show Nat.blt j 22=true by rw[Nat.blt_eq];exact hlt,jK]
      show(FM.map sB)[j]? =_
      simp[hj]
     generalize FM[j]=m at hR hlen hix
     simp only[go_sem,ES,hlt,decide_true,hix,Nat.reduceAdd,e0,e1,ALA ha]
     refine ACF ?_
     cases hp:pre m (s.drop a)with
     |true=>
      rw[hp]at hR
      subst hR
      simp only[go_sem,Nat.reduceAdd]
      refine ALQ g2 λH2 g s2=>?_
      refine ASf g λH3 g s3=>?_
      have hle:m.length<=s.length-a:=by
       unfold pre at hp
       rw[List.length_drop]at hp
       simp only[Bool.and_eq_true,decide_eq_true_eq]at hp
       exact hp.1
      refine fin (AEm (AEm b0 s2) s3) g (by show a+m.length<=_;omega) ?_
      have e:ABZ ⟨5,m,0⟩=(0,⟨5,m,0⟩):=by
       have:¬40<m.length:=by omega
       simp[ABZ,this]
      exact e▸hk
     |false=>
      rw[hp]at hR
      simp only[go_sem,Ef (show j+1<9223372036854775808 by omega)]
      exact ih _ ⟨rfl,hR⟩
    ·rintro I q ⟨rfl,hR⟩
     show Jm lfp G (Runs F G) k I (.ptr lb 0) (.ptr n 0) (.ptr (n+1) 0) (.agg (FM.map sB)) (.int .i64 (.ofNat 22) 0) H1 (n+1+1)
     delta Jm
     rw[show FM.drop 22=[]from rfl]at hR
     subst hR
     simp only[go_sem,ES,Nat.lt_irrefl,decide_false]
     exact fin b0 g2 (by show a+0<=_;omega) hk
end
def AMI(c:LV)(t:Tok):Prop:=∃line col,1<=line/\1<=col/\c=VR t line col
theorem ADm(c:UInt8)(l:Bs):JI (c::l)=(bif great c then eG ⟨2,(c::l).takeWhile inner,0⟩else
 bif small c then eG ⟨bif decide ((c::l).takeWhile inner∈Tt)then 1 else 3,(c::l).takeWhile inner,0⟩else
 bif digit c then(match iP 0 ((c::l).takeWhile digit)with|none=>(22,Qi)|some n=>(0,⟨4,(c::l).takeWhile digit,n⟩))else
 match FM.find? (λm=>pre m (c::l))with|none=>(20,Qi)|some m=>(0,⟨5,m,0⟩)):=rfl
theorem AQj:∀r:Bs,(JI r).2.text.length<=r.length
 |[]=>Nat.le_refl _
 |c::l=>by
  have h1:=AIs inner (c::l)
  have h2:=AIs digit (c::l)
  have hc:∀t:Tok,t.text.length<=(c::l).length->(eG t).2.text.length<=(c::l).length:=by
   intro t ht;unfold eG;cases decide (40<t.text.length)
   ·exact ht
   ·exact Nat.zero_le _
  rw[ADm]
  cases great c
  case true=>exact hc ⟨2,_,0⟩ h1
  cases small c
  case true=>exact hc ⟨_,_,0⟩ h1
  cases digit c
  case true=>
   simp only[cond_true,cond_false]
   cases iP 0 ((c::l).takeWhile digit)with
   |none=>exact Nat.zero_le _
   |some n=>exact h2
  simp only[cond_false]
  cases hf:FM.find? (λm=>pre m (c::l))with
  |none=>exact Nat.zero_le _
  |some m=>
   have:=List.find?_some hf
   simp only[pre,Bool.and_eq_true,decide_eq_true_eq]at this
   exact this.1
theorem ANt:∀r:Bs,(JI r).1=0->(JI r).2.kind≠0->0<(JI r).2.text.length
 |[]=>λ_ h=>absurd rfl h
 |c::l=>by
  have hc:∀t:Tok,0<t.text.length->(eG t).1=0->0<(eG t).2.text.length:=by
   intro t ht;unfold eG;cases decide (40<t.text.length)
   ·exact λ_=>ht
   ·intro h;cases h
  have tw:∀g:UInt8->Bool,g c=true->0<((c::l).takeWhile g).length:=λg h=>by rw[List.takeWhile_cons,h];simp
  rw[ADm]
  cases h1:great c
  case true=>exact λh _=>hc ⟨2,_,0⟩ (tw inner (by simp[inner,h1])) h
  cases h2:small c
  case true=>exact λh _=>hc ⟨_,_,0⟩ (tw inner (by simp[inner,h2])) h
  cases h3:digit c
  case true=>
   simp only[cond_true,cond_false]
   cases iP 0 ((c::l).takeWhile digit)with
   |none=>intro h;cases h
   |some n=>exact λ_ _=>tw digit h3
  simp only[cond_false]
  cases hf:FM.find? (λm=>pre m (c::l))with
  |none=>intro h;cases h
  |some m=>
   intro _ _
   have h4:∀m∈FM,0<m.length:=by decide
   exact h4 m (List.mem_of_find?_eq_some hf)
def AYI(G:AV)(k:KV)(H:Heap)(n:Nat)(r:Nat×List Tok):Prop:=∀(H':Heap) (n':Nat) (v:V) (c:LV),Kp H n H' n'->
 (r.1=0->(∃cs id,v=.O5 id 0 cs.length 5/\n<=id/\id<n'/\El G H' v 5 cs/\Pw AMI cs r.2)/\c=[.int .i64 (.ofNat 0) 0,.int .i64 (.ofNat 0) 0,.int .i64 (.ofNat 0) 0])->
 (r.1≠0->∃line col,1<=line/\1<=col/\c=[.int .i64 (.ofNat r.1) 0,.int .i64 (.ofNat line) 0,.int .i64 (.ofNat col) 0])->k (.J4 [v,.agg c]) H' n'
theorem AK2{z0 z1 z2 a b:V}(e:Int):Bh [z0,z1,z2] [(0,1,.c (.int .i64 e 0)),(1,2,.c (.agg [a,b]))]=some (.agg [.int .i64 e 0,a,b]):=rfl
theorem AVU{z0 z1 z2:V}:Bh [z0,z1,z2] []=some (.agg [z0,z1,z2]):=rfl
theorem AX1{z0 z1 z2 z3 a b:V}(s:Bs):Bh [z0,z1,z2,z3] [(0,1,.c (sB s)),(2,2,.c (.agg [a,b]))]=some (.agg [sB s,z1,a,b]):=rfl
section
variable{G:AV}{H:Heap}{n:Nat}{s:Bs}{k:KV}
theorem AU0(hG:X4 G)(hk:AYI G k H n (zV s)):Runs F G ABu [sB s] H n k:=by
 refine Am (s:=Ho (uG lfp G)) wI (by obtain⟨h,o⟩:=ALT Ap G;rw[wI]at h;cases h;exact o) ?_
 show uG lfp G (Runs F G) (sB s) H n k
 delta uG
 unfold zV at hk
 simp only[go_sem,Nat.reduceAdd,APa,AX1,O8,Ls]
 have f1:Kp H n (T.set (T.set H n (one [.int .i64 (.ofNat 0) 0,.int .i64 (.ofNat 0) 0,.int .i64 (.ofNat 0) 0])) (n+1) (one [sB s,.int .i64 (.ofNat 0) 0,.int .i64 (.ofNat 1) 0,.int .i64 (.ofNat 1) 0])) (n+1+1):=
  ((Kp.refl H n).new (m:=n+1) _ (Nat.le_refl _) (by omega)).new _ (by omega) (by omega)
 have g1:=(T.BA (T.set H n (one [V.int .i64 (.ofNat 0) 0,.int .i64 (.ofNat 0) 0,.int .i64 (.ofNat 0) 0])) (one [sB s,.int .i64 (.ofNat 0) 0,.int .i64 (.ofNat 1) 0,.int .i64 (.ofNat 1) 0]) (show n+1≠n by omega)).trans (T.DJ ..)
 have g2:=T.DJ (T.set H n (one [V.int .i64 (.ofNat 0) 0,.int .i64 (.ofNat 0) 0,.int .i64 (.ofNat 0) 0])) (n+1) (one [sB s,.int .i64 (.ofNat 0) 0,.int .i64 (.ofNat 1) 0,.int .i64 (.ofNat 1) 0])
 generalize T.set (T.set H n (one [V.int .i64 (.ofNat 0) 0,.int .i64 (.ofNat 0) 0,.int .i64 (.ofNat 0) 0])) (n+1) (one [sB s,.int .i64 (.ofNat 0) 0,.int .i64 (.ofNat 1) 0,.int .i64 (.ofNat 1) 0])=H1 at f1 g1 g2⊢
 cases hs:decide (65536<s.length)with
 |true=>
  rw[hs]at hk
  simp only[go_sem,Nat.reduceAdd]
  rw[OZ (m:=2) (o:=2) g2 (by omega) (by show 2+2<=4;omega)]
  simp only[go_sem,List.drop_succ_cons,List.drop_zero,List.take_succ_cons,List.take_zero,AK2]
  rw[ZX (m:=3) g1 (by omega) rfl rfl,DX (m:=3) (T.DJ ..) (by omega) rfl]
  simp only[go_sem]
  exact hk _ _ _ _ (f1.set _ (Nat.le_refl _)) (λh=>by cases h) λ_=>⟨1,1,by omega,by omega,rfl⟩
 |false=>
  rw[hs,cond_false]at hk
  have hs:s.length<=65536:=by simpa using hs
  simp only[go_sem]
  refine O3 (J:=λm q=>∃H' n' a v cs xs f,m=s.length-a/\q=(.ptr n 0,.ptr (n+1) 0,v,H',n')/\Kp H n H' n'/\n+2<=n'/\T.get H' n=some (one [.int .i64 (.ofNat 0) 0,.int .i64 (.ofNat 0) 0,.int .i64 (.ofNat 0) 0])/\LAt H' (n+1) s a/\
   a<=s.length/\Own G H' (n+2) n' 5 v cs/\Pw AMI cs xs/\cs.length<=a/\s.length-a<f/\AYI G k H n ((zW f (s.drop a)).1,xs++(zW f (s.drop a)).2)) ?_ (m:=s.length)
   ⟨H1,n+1+1,0,.Ae,[],[],s.length+1,rfl,rfl,f1,by omega,g1,⟨1,1,by omega,by omega,by omega,by omega,g2⟩,by omega,Xp,.nil,by simp,by omega,hk⟩
  rintro I m q ⟨H2,n2,a,v,cs,xs,f,rfl,rfl,f2,hn2,g0,hl,ha,ho,hx,hcs,hf,hk⟩ ih
  show fC lfp G (Runs F G) k I (.ptr n 0) (.ptr (n+1) 0) v H2 n2
  delta fC
  refine AWX hl ha hs λH3 a3 f3 hl3 ha3 hd3=>?_
  refine AXO hG hl3 ha3 hs (by omega) ?_
  obtain⟨f,rfl⟩:∃g,f=g+1:=⟨f-1,by omega⟩
  rw[hd3]
  have hlexF:zW (f+1) (s.drop a)=bif decide ((JI (Dc false (s.drop a))).1=0)then
   bif decide ((JI (Dc false (s.drop a))).2.kind=0)then(0,[(JI (Dc false (s.drop a))).2])
   else((zW f ((Dc false (s.drop a)).drop (JI (Dc false (s.drop a))).2.text.length)).1,(JI (Dc false (s.drop a))).2::(zW f ((Dc false (s.drop a)).drop (JI (Dc false (s.drop a))).2.text.length)).2)
   else((JI (Dc false (s.drop a))).1,[]):=rfl
  rw[hlexF,<-hd3]at hk
  have hle:=AQj (s.drop a3)
  have hpos:=ANt (s.drop a3)
  rw[List.length_drop]at hle
  rw[<-hd3]
  intro H4 n4 c f4 hl4 hcl ht
  generalize JI (s.drop a3)=R at hk hle hpos hl4 ht
  obtain⟨e,t⟩:=R
  simp only[go_sem,Nat.reduceAdd]
  obtain⟨c0,c1,c2,c3,c4,rfl⟩:∃c0 c1 c2 c3 c4,c=[c0,c1,c2,c3,c4]:=by
   match c,hcl with
   |[c0,c1,c2,c3,c4],_=>exact⟨c0,c1,c2,c3,c4,rfl⟩
  have f24:=f3.trans f4
  have hn4:=f24.le
  have g04:T.get H4 n=_:=f24.get g0 (by omega) (by omega)
  have ho4:=ho.kx f24 (by omega)
  have f4':Kp H n H4 n4:=⟨by have:=f2.le;omega,λid hid=>(f24.same id (by omega) (by omega)).trans (f2.same id hid)⟩
  simp only[go_sem,Nat.reduceAdd]
  rw[T.set_set]
  have f5:Kp H4 n4 (T.set H4 n4 (one [c0,c1,c2,c3,c4])) (n4+1):=(Kp.refl _ _).new _ (Nat.le_refl _) (by omega)
  have g5:=T.DJ H4 n4 (one [c0,c1,c2,c3,c4])
  generalize T.set H4 n4 (one [c0,c1,c2,c3,c4])=H5 at f5 g5⊢
  have g05:=f5.get g04 (by omega)
  have f5':=f4'.trans f5
  have hl5:=hl4.kp (n:=n4) (by omega) f5
  simp only[YX]
  cases he:decide (e=0)with
  |false=>
   have he':e≠0:=by simpa using he
   rw[he,cond_false]at hk
   obtain⟨line,col,y1,y2,y3,y4,hg⟩:=hl5
   simp only[Bool.not_false,go_sem,Nat.reduceAdd]
   rw[OZ (m:=2) (o:=2) hg (by omega) (by show 2+2<=4;omega)]
   simp only[go_sem,List.drop_succ_cons,List.drop_zero,List.take_succ_cons,List.take_zero,AK2]
   rw[ZX (m:=3) g05 (by omega) rfl rfl,DX (m:=3) (T.DJ ..) (by omega) rfl]
   simp only[go_sem]
   exact hk _ _ _ _ (f5'.set _ (Nat.le_refl _)) (λh=>absurd h he') λ_=>⟨line,col,y1,y2,rfl⟩
  |true=>
   have he':e=0:=by simpa using he
   subst he'
   rw[he,cond_true]at hk
   obtain⟨line,col,y1,y2,hc⟩:=ht rfl
   rw[hc]at g5⊢
   simp only[Bool.not_true,go_sem]
   refine J9 (G:=G) (vs:=[.agg (VR t line col)]) rfl (by omega) (λv hv=>by simp at hv;subst hv;exact⟨rfl,rfl⟩) λH6 f6 _ hel=>?_
   have ho6:=(ho4.kp f5).kp f6
   refine ho6.gr.app (by omega) ho6.lo hel.2 (by show(cs.length+1)*48<=_;omega) ?_ (λh=>by cases h)
   intro v' H7 hgr hsame hlo
   have hgr:Gr G H7 (n+2) 5 v' (cs++[VR t line col]):=hgr
   have f7:Kp H n H7 (n4+1+1+1):=⟨by have:=f5'.le;omega,λid hid=>(hsame id (by have:=f5'.le;omega) (λh=>by have:=ho6.ge h;omega)).trans ((f6.same id (by have:=f5'.le;omega)).trans (f5'.same id hid))⟩
   have g7:∀{id:Nat} {b:Rl},id<n+2->T.get H5 id=some b->T.get H7 id=some b:=λhid h=>(hsame _ (by omega) (λh=>by have:=ho6.ge h;omega)).trans ((f6.same _ (by omega)).trans h)
   have g57:T.get H7 n4=some (one (VR t line col)):=(hsame n4 (by omega) (λh=>by have:=ho4.lo _ h;omega)).trans ((f6.same n4 (by omega)).trans g5)
   have q0:AX (.ptr n4 0) G H7=some (.int .i64 (.ofNat t.kind) 0):=AQ g57 rfl
   have hel7:El G H7 v' 5 (cs++[VR t line col]):=hgr.el (by omega)
   have hpw:Pw AMI (cs++[VR t line col]) (xs++[t]):=hx.app (.cons ⟨line,col,y1,y2,rfl⟩ .nil)
   simp only[go_sem,Nat.reduceAdd,q0,Xx]
   cases hkd:decide (t.kind=0)with
   |true=>
    rw[hkd,cond_true]at hk
    simp only[go_sem,AVU]
    rw[ZX (m:=3) (g7 (by omega) g05) (by omega) rfl rfl,DX (m:=3) (T.DJ ..) (by omega) rfl]
    simp only[go_sem]
    have f8:=f7.set (one [V.int .i64 (.ofNat 0) 0,.int .i64 (.ofNat 0) 0,.int .i64 (.ofNat 0) 0]) (Nat.le_refl n)
    refine hk _ _ _ _ f8 (λ_=>⟨?_,rfl⟩) (λh=>absurd rfl h)
    have hel8:El G (T.set H7 n (one [V.int .i64 (.ofNat 0) 0,.int .i64 (.ofNat 0) 0,.int .i64 (.ofNat 0) 0])) v' 5 (cs++[VR t line col]):=hel7.same λid hid=>T.BA _ _ (by have:=(hgr.lo hid).1;omega)
    generalize hcs':cs++[VR t line col]=cs' at hgr hel7 hel8 hpw
    cases hgr with
    |nil=>simp at hcs'
    |O5 hg hc ht hid=>
     rename_i id c tt
     exact⟨_,id,rfl,by omega,by have:=hlo id rfl;omega,hel8,hpw⟩
   |false=>
    rw[hkd,cond_false]at hk
    have hkd':t.kind≠0:=by simpa using hkd
    have hp0:0<t.text.length:=hpos rfl hkd'
    have hle:t.text.length<=s.length-a3:=hle
    have hlen:(s.drop a3).length=(Dc false (s.drop a)).length:=by rw[hd3]
    have hsk:=qA false (s.drop a)
    rw[List.length_drop]at hlen hsk
    simp only[go_sem]
    have hl7:LAt H7 (n+1) s (a3+t.text.length):=by
     obtain⟨line,col,y1,y2,y3,y4,hg⟩:=hl5
     exact⟨line,col,y1,y2,y3,y4,g7 (by omega) hg⟩
    refine ih (s.length-(a3+t.text.length)) _ (by omega) ⟨H7,n4+1+1+1,a3+t.text.length,v',cs++[VR t line col],xs++[t],f,rfl,rfl,f7,by omega,g7 (by omega) g05,hl7,by omega,⟨hgr,hlo⟩,hpw,?_,by omega,?_⟩
    ·rw[List.length_append];show cs.length+1<=_;omega
    ·rw[List.append_assoc,<-List.drop_drop];exact hk
end
structure S where
 t:Tok
 r:List Tok
 deep:Nat
 e:Nat
abbrev PM(α:Type):=S->Option (α×S)
def S.ok(s:S):Bool:=decide (s.e=0)
def Gy(e:Nat)(s:S):S:=bif s.ok then{s with e:=e}else s
def Vp(w:Bs)(s:S):Bool:=s.ok&&((decide (s.t.kind=1)||decide (s.t.kind=5))&&decide (s.t.text=w))
def Kw(ws:List Bs)(s:S):Bool:=ws.any λw=>Vp w s
def N7(s:S):Option S:=bif decide (s.t.kind=0)then some s else match s.r with|[]=>none|t::r=>some {s with t:=t,r:=r}
def C9(w:Bs):PM Bool:=λs=>bif Vp w s then(N7 s).bind λs'=>some (true,s')else some (false,s)
def CJ:List Bs->S->Option S
 |[],s=>some s
 |w::ws,s=>(C9 w s).bind λp=>CJ ws (bif p.1 then p.2 else Gy 21 p.2)
def Jp(k:Nat):PM Bs:=λs=>bif s.ok&&decide (s.t.kind=k)then(N7 s).bind λs'=>some (s.t.text,s')else some ([],Gy 21 s)
def UJ(s:S):Option S:=bif decide (s.deep<1000000)then some (bif decide (100<s.deep+1)then Gy 3 {s with deep:=s.deep+1}else{s with deep:=s.deep+1})else none
def lX(s:S):Option S:=match s.deep with|0=>none|d+1=>bif decide (d<1000000)then some {s with deep:=d}else none
def GZ(n:Nat)(s:S):S:=bif decide (200<n)then Gy 4 s else s
structure Ty where
 nm:Bs
 arr:Bool
def ACX:PM Ty:=λs=>(C9 vM s).bind λp=>bif p.1 then some (⟨vM,false⟩,p.2)else
 (C9 fJ p.2).bind λp=>bif p.1 then some (⟨fJ,false⟩,p.2)else(Jp 2 p.2).bind λp=>some (⟨p.1,false⟩,p.2)
def fQ:PM Ty:=λs=>(ACX s).bind λp=>(C9 GL p.2).bind λq=>bif q.1 then(CJ [F8] q.2).bind λs=>some (⟨p.1.nm,true⟩,s)else some (p.1,q.2)
inductive Ex where
 |mk (kind num:Nat) (nm:Bs) (ty:Bs) (arr:Bool) (kids:List Ex)
def Ex.kind:Ex->Nat|.mk k _ _ _ _ _=>k
def lK(k:Nat)(w:Bs)(nx:PM Ex):Nat->Ex->PM Ex
 |0,_,_=>none
 |f+1,e,s=>bif Kw [w] s then(N7 s).bind λs1=>(nx s1).bind λp=>lK k w nx f (.mk k 0 [] [] false [e,p.1]) p.2 else some (e,s)
def either(k:Nat)(w:Bs)(nx:PM Ex)(f:Nat):PM Ex:=λs=>(nx s).bind λp=>lK k w nx f p.1 p.2
def wZ(ws:List Bs)(nx:PM Ex):Nat->Ex->PM Ex
 |0,_,_=>none
 |f+1,e,s=>bif Kw ws s then(N7 s).bind λs1=>(nx s1).bind λp=>wZ ws nx f (.mk 16 0 s.t.text [] false [e,p.1]) p.2 else some (e,s)
def signs(ws:List Bs)(nx:PM Ex)(f:Nat):PM Ex:=λs=>(nx s).bind λp=>wZ ws nx f p.1 p.2
def sumP(un:PM Ex)(f:Nat):PM Ex:=signs [Zt,Dv] (signs [XZ,Sv,qF] un f) f
def compared(un:PM Ex)(f:Nat):PM Ex:=λs=>(sumP un f s).bind λp=>
 bif Kw [Yk,nJ,V9,nD] p.2 then(N7 p.2).bind λs1=>(sumP un f s1).bind λq=>some (.mk 16 0 p.2.t.text [] false [p.1,q.1],q.2)else some (p.1,p.2)
def asL:Nat->Ex->PM Ex
 |0,_,_=>none
 |f+1,e,s=>bif Kw [SX,QU] s then(N7 s).bind λs1=>(Jp 2 s1).bind λp=>asL f (.mk (bif decide (s.t.text=QU)then 20 else 19) 0 [] p.1 false [e]) p.2 else some (e,s)
def VF(rec:PM Ex):Nat->List Ex->PM (List Ex)
 |0,_,_=>none
 |f+1,out,s=>bif s.ok then(C9 BH s).bind λp=>bif p.1 then some (out,p.2)else
  (bif decide (0<out.length)then CJ [Ce] p.2 else some p.2).bind λs1=>(rec s1).bind λq=>VF rec f (out++[q.1]) (GZ (out.length+1) q.2)
  else some (out,s)
def dU(rec:PM Ex)(f:Nat):PM (List Ex):=λs=>(CJ [BG] s).bind λs1=>VF rec f [] s1
def ZY(rec:PM Ex)(f:Nat)(e:Ex):PM Ex:=λs=>(C9 Hr s).bind λp=>bif p.1 then some (.mk 13 0 [] [] false [e],p.2)else
 (Jp 3 p.2).bind λq=>bif Kw [BG] q.2 then(dU rec f q.2).bind λa=>some (.mk 8 0 q.1 [] false (e::a.1),a.2)else some (.mk 7 0 q.1 [] false [e],q.2)
def xH(t:Ty):Bool:= !t.arr&&(match t.nm with|[]=>false|c::_=>great c)
def WA(rec:PM Ex)(f:Nat):PM Ex:=λs=>
 bif !s.ok then some (.mk 0 0 [] [] false [],s)else
 bif decide (s.t.kind=4)then(N7 s).bind λs1=>some (.mk 1 s.t.num [] [] false [],s1)else
 bif decide (s.t.kind=3)then(N7 s).bind λs1=>some (.mk 6 0 s.t.text [] false [],s1)else
 bif decide (s.t.kind=2)then(N7 s).bind λs1=>(CJ [DI] s1).bind λs2=>(Jp 3 s2).bind λq=>(dU rec f q.2).bind λa=>some (.mk 9 0 q.1 s.t.text false a.1,a.2)else
 (C9 Vm s).bind λp=>bif p.1 then some (.mk 2 0 [] [] false [],p.2)else
 (C9 RG p.2).bind λp=>bif p.1 then some (.mk 3 0 [] [] false [],p.2)else
 (C9 Qh p.2).bind λp=>bif p.1 then some (.mk 4 0 [] [] false [],p.2)else
 (C9 WH p.2).bind λp=>bif p.1 then some (.mk 5 0 [] [] false [],p.2)else
 (C9 Ih p.2).bind λp=>bif p.1 then
  ((ACX p.2).bind λb=>(C9 GL b.2).bind λq=>bif q.1 then(rec q.2).bind λx=>(CJ [F8] x.2).bind λs1=>some (.mk 11 0 [] b.1.nm b.1.arr [x.1],s1)
   else some (.mk 10 0 [] b.1.nm b.1.arr [],bif xH b.1 then q.2 else Gy 21 q.2))else
 (C9 BG p.2).bind λp=>bif p.1 then(rec p.2).bind λx=>(CJ [BH] x.2).bind λs1=>some (x.1,s1)else
 some (.mk 0 0 [] [] false [],Gy 21 p.2)
def Oz(rec:PM Ex):Nat->Ex->PM Ex
 |0,_,_=>none
 |f+1,e,s=>(C9 GL s).bind λp=>bif p.1 then(rec p.2).bind λq=>(CJ [F8] q.2).bind λs1=>Oz rec f (.mk 12 0 [] [] false [e,q.1]) s1 else
  (C9 DI p.2).bind λp=>bif p.1 then(ZY rec f e p.2).bind λq=>Oz rec f q.1 q.2 else some (e,p.2)
def XH(rec:PM Ex)(f:Nat):PM Ex:=λs=>(WA rec f s).bind λp=>Oz rec f p.1 p.2
def unary(rec:PM Ex):Nat->PM Ex
 |0,_=>none
 |f+1,s=>bif Kw [Dv] s then(UJ s).bind λs1=>(N7 s1).bind λs2=>(unary rec f s2).bind λp=>(lX p.2).bind λs'=>some (.mk 14 0 [] [] false [p.1],s')else
  bif Kw [Iq] s then(UJ s).bind λs1=>(N7 s1).bind λs2=>(unary rec f s2).bind λp=>(lX p.2).bind λs'=>some (.mk 15 0 [] [] false [p.1],s')else
  (XH rec f s).bind λp=>asL f p.1 p.2
def AIM(rec:PM Ex)(f:Nat):PM Ex:=λs=>(UJ s).bind λs1=>(either 18 YQ (either 17 NP (compared (unary rec f) f) f) f s1).bind λp=>(lX p.2).bind λs'=>some (p.1,s')
def expr:Nat->PM Ex
 |0,_=>none
 |f+1,s=>AIM (expr f) f s
inductive St where
 |mk (does:Nat) (nm:Bs) (ty:Ty) (es:List Ex) (th el:List St)
def Ri(st:PM St):Nat->List St->PM (List St)
 |0,_,_=>none
 |f+1,out,s=>bif s.ok then(C9 m_rc s).bind λp=>bif p.1 then some (out,p.2)else(st p.2).bind λq=>bif decide (out.length<1000000)then Ri st f (out++[q.1]) q.2 else none
  else some (out,s)
def Gv(st:PM St)(f:Nat):PM (List St):=λs=>(UJ s).bind λs1=>(CJ [OC] s1).bind λs2=>(Ri st f [] s2).bind λp=>(lX p.2).bind λs'=>some (p.1,s')
def JY:Ty:=⟨[],false⟩
def o7(f:Nat):PM St:=λs=>(expr f s).bind λp=>bif Kw [EG] p.2 then
 (CJ [EG] (bif decide (p.1.kind=6)||(decide (p.1.kind=7)||decide (p.1.kind=12))then p.2 else Gy 21 p.2)).bind λs1=>(expr f s1).bind λq=>some (.mk 2 [] JY [p.1,q.1] [] [],q.2)
 else some (.mk 3 [] JY [p.1] [] [],bif decide (p.1.kind=8)||decide (p.1.kind=9)then p.2 else Gy 21 p.2)
def endP(st:St)(s:S):Option (St×S):=(CJ [Aw] s).bind λs1=>some (st,s1)
def zQ(st ch:PM St)(f:Nat):PM St:=λs=>(UJ s).bind λs1=>(CJ [Jr] s1).bind λs2=>(expr f s2).bind λc=>(Gv st f c.2).bind λt=>
 (C9 EL t.2).bind λp=>(bif p.1 then(bif Kw [Jr] p.2 then(ch p.2).bind λx=>some ([x.1],x.2)else Gv st f p.2)else some ([],p.2)).bind λx=>
 (lX x.2).bind λs'=>some (.mk 4 [] JY [c.1] t.1 x.1,s')
def Z7(st ch:PM St)(f:Nat):PM St:=λs=>(C9 O0 s).bind λp=>bif p.1 then
 (fQ p.2).bind λt=>(Jp 3 t.2).bind λn=>(CJ [EG] n.2).bind λs1=>(expr f s1).bind λx=>endP (.mk 1 n.1 t.1 [x.1] [] []) x.2 else
 bif Kw [Jr] p.2 then ch p.2 else
 (C9 Fe p.2).bind λp=>bif p.1 then(expr f p.2).bind λc=>(Gv st f c.2).bind λt=>some (.mk 5 [] JY [c.1] t.1 [],t.2)else
 (C9 Eo p.2).bind λp=>bif p.1 then(expr f p.2).bind λx=>endP (.mk 6 [] JY [x.1] [] []) x.2 else
 (C9 Fp p.2).bind λp=>bif p.1 then(expr f p.2).bind λx=>endP (.mk 7 [] JY [x.1] [] []) x.2 else
 (o7 f p.2).bind λx=>endP x.1 x.2
def sc:Nat->Bool->PM St
 |0,_,_=>none
 |f+1,b,s=>bif b then zQ (sc f false) (sc f true) f s else Z7 (sc f false) (sc f true) f s
structure Va where
 nm:Bs
 ty:Ty
structure Me where
 nm:Bs
 st:Bool
 ps:List Va
 ret:Ty
 body:List St
structure Cl where
 nm:Bs
 sup:Bs
 fs:List Va
 ms:List Me
def JW:Nat->List Va->PM (List Va)
 |0,_,_=>none
 |f+1,out,s=>bif s.ok then(C9 BH s).bind λp=>bif p.1 then some (out,p.2)else
  (bif decide (0<out.length)then CJ [Ce] p.2 else some p.2).bind λs1=>(fQ s1).bind λt=>(Jp 3 t.2).bind λn=>JW f (out++[⟨n.1,t.1⟩]) (GZ (out.length+1) n.2)
  else some (out,s)
def ZV(f:Nat):PM Me:=λs=>(C9 F9 s).bind λp=>(CJ [E5] p.2).bind λs1=>(fQ s1).bind λt=>(Jp 3 t.2).bind λn=>(CJ [BG] n.2).bind λs2=>
 (JW f [] s2).bind λps=>(Gv (sc f false) f ps.2).bind λb=>some (⟨n.1,p.1,ps.1,t.1,b.1⟩,b.2)
def Hl(f:Nat):Nat->List Va->List Me->PM (List Va×List Me)
 |0,_,_,_=>none
 |g+1,fs,ms,s=>bif s.ok then(C9 m_rc s).bind λp=>bif p.1 then some ((fs,ms),p.2)else
  (C9 PY p.2).bind λp=>bif p.1 then(fQ p.2).bind λt=>(Jp 3 t.2).bind λn=>(CJ [Aw] (GZ (fs.length+1) n.2)).bind λs1=>Hl f g (fs++[⟨n.1,t.1⟩]) ms s1 else
  bif Kw [F9,E5] p.2 then(ZV f p.2).bind λm=>Hl f g fs (ms++[m.1]) (GZ (ms.length+1) m.2)else
  Hl f g fs ms (Gy 21 p.2)
  else some ((fs,ms),s)
def ALS(f:Nat):PM Cl:=λs=>(CJ [OE] s).bind λs1=>(Jp 2 s1).bind λn=>(C9 Fv n.2).bind λp=>(bif p.1 then Jp 2 p.2 else some ([],p.2)).bind λu=>(CJ [OC] u.2).bind λs2=>
 (Hl f f [] [] s2).bind λx=>some (⟨n.1,u.1,x.1.1,x.1.2⟩,bif x.2.ok&& !decide (x.2.t.kind=0)then Gy 21 x.2 else x.2)
def AHE(f:Nat):List Tok->Option (Cl×Nat)
 |[]=>none
 |t::r=>(ALS f ⟨t,r,0,0⟩).bind λp=>some (p.1,p.2.e)
theorem AJe{e:Option V}{P:V->Prop}{b:Bool}(h:P (.J4 [])):Bd (.J4 []) b e P:=h
theorem Em{id o l c z i:Nat}(h:(V.sl id o l c z).Qa=some i):i=id:=by cases h;rfl
theorem jq{id o l z i:Nat}(h:(V.O5 id o l z).Qa=some i):i=id:=by cases h;rfl
inductive aP(G:AV)(H:Heap)(pb:Nat)(s:S):Prop where
 |mk {tid off line col:Nat} {cs:D5} (hg:T.get H pb=some (one [.O5 tid off cs.length 5,.int .i64 (.ofNat s.deep) 0,.int .i64 (.ofNat s.e) 0,.int .i64 (.ofNat line) 0,.int .i64 (.ofNat col) 0]))
  (he:El G H (.O5 tid off cs.length 5) 5 cs) (ht:Pw AMI cs (s.t::s.r)) (hp:s.e≠0->1<=line/\1<=col) (hl:tid<pb)
section
variable{G:AV}{H H':Heap}{n n' pb:Nat}{s s':S}{k:KV}
theorem aP.same(h:aP G H pb s)(hs:∀id,id<=pb->T.get H' id=T.get H id):aP G H' pb s:=by
 cases h with
 |mk hg he ht hp hl=>exact .mk ((hs _ (Nat.le_refl _)).trans hg) (he.same λid hid=>by cases hid;exact hs _ (by omega)) ht hp hl
theorem aP.kp(h:aP G H pb s)(f:Kp H n H' n')(hb:pb<n):aP G H' pb s:=h.same λid hid=>f.same id (by omega)
theorem aP.e(h:aP G H pb s):AX (.ptr pb 2) G H=some (.int .i64 (.ofNat s.e) 0):=by cases h with|mk hg=>exact AQ hg rfl
theorem aP.deep(h:aP G H pb s):AX (.ptr pb 1) G H=some (.int .i64 (.ofNat s.deep) 0):=by cases h with|mk hg=>exact AQ hg rfl
theorem aP.tok(h:aP G H pb s):∃v tid o line col,AX (.ptr pb 0) G H=some v/\BO 5 v (.int .i64 (.ofNat 0) 0)=some (.ptr tid o)/\1<=line/\1<=col/\BF 5 (.ptr tid o) G H=some (.agg (VR s.t line col))/\
 AX (.ptr tid o) G H=some (.int .i64 (.ofNat s.t.kind) 0)/\AX (.ptr tid (o+1)) G H=some (sB s.t.text)/\BF 2 (.ptr tid (o+3)) G H=some (.agg [.int .i64 (.ofNat line) 0,.int .i64 (.ofNat col) 0]):=by
 cases h with
 |mk hg he ht hp hl=>
  rename_i tid off l1 c1 cs
  cases ht with
  |cons h t=>
   rename_i c cs
   obtain⟨line,col,x1,x2,rfl⟩:=h
   have h2:=AOf he
   have h3:=(P8 _ _ h2).2 0 _ rfl
   rw[Nat.add_zero]at h3
   have sub:∀o m,0<m->o+m<=5->mW H tid (off*5+o) m=some (((VR s.t line col).drop o).take m):=λo m h1 h2=>AMD h3 rfl h1 h2
   refine⟨_,tid,off*5,line,col,AQ hg rfl,?_,x1,x2,?_,?_,?_,?_⟩
   ·show BP (band (Nat.beq 5 5) (Nat.blt 0 (cs.length+1))) (Dz ((off+0)*5) λo=>some (.ptr tid o))=_
    rw[show Nat.blt 0 (cs.length+1)=true by rw[Nat.blt_eq];omega,CB];rfl
   ·rw[AFk];show QT (mW H tid (off*5) 5) _=_;rw[h3];rfl
   ·rw[ACG];show QT (mW H tid (off*5+0) 1) _=_;rw[sub 0 1 (by omega) (by omega)];rfl
   ·rw[ACG];show QT (mW H tid (off*5+1) 1) _=_;rw[sub 1 1 (by omega) (by omega)];rfl
   ·rw[AFk];show QT (mW H tid (off*5+3) 2) _=_;rw[sub 3 2 (by omega) (by omega)];rfl
theorem ANj(h:aP G H pb s)(hk:k (.bool s.ok) H n):Runs F G EY [.ptr pb 0] H n k:=by
 refine Am (s:=Ho (RH lfp G)) VE (by obtain⟨h,o⟩:=yK Ap G;rw[VE]at h;cases h;exact o) ?_
 show RH lfp G (Runs F G) (.ptr pb 0) H n k
 delta RH
 simp only[go_sem,Nat.reduceAdd,h.e,Xx]
 exact hk
theorem AQT{e:Nat}(h:aP G H pb s)(hk:∀H',Kx pb H n H' n->aP G H' pb (Gy e s)->k (.J4 []) H' n):Runs F G DU [.ptr pb 0,.int .i64 (.ofNat e) 0] H n k:=by
 refine Am (s:=QD (OM lfp G)) Rz (by obtain⟨h,o⟩:=pK Ap G;rw[Rz]at h;cases h;exact o) ?_
 show OM lfp G (Runs F G) (.ptr pb 0) (.int .i64 (.ofNat e) 0) H n k
 delta OM
 unfold Gy at hk
 simp only[go_sem,Nat.reduceAdd,h.e,Xx]
 rw[show decide (s.e=0)=s.ok from rfl]
 cases ho:s.ok with
 |false=>
  rw[ho]at hk
  simp only[go_sem]
  exact hk _ (Kx.refl ..) h
 |true=>
  rw[ho]at hk
  obtain⟨v,tid,o,line,col,e0,e1,x1,x2,e2,e3,e4,e5⟩:=h.tok
  simp only[go_sem,Nat.reduceAdd,Nat.add_zero,e0,e1,e5,AK2]
  cases h with
  |mk hg he ht hp hl=>
   refine Ej hg rfl rfl (by omega) (by show 2+3<=5;omega) λH1 g1 s1=>?_
   exact hk _ ⟨Nat.le_refl _,λid _ hb=>s1 id hb⟩ (.mk g1 (he.same λid hid=>by cases hid;exact s1 _ (by omega)) ht (λ_=>⟨x1,x2⟩) hl)
def wsC(ws:List Bs):D5:=ws.map λw=>[sB w]
theorem AM0(ws:List Bs):(wsC ws).length=ws.length:=List.length_map ..
theorem AKC{ws:List Bs}{i:Nat}(h:i<ws.length):(wsC ws)[i]? =some [sB ws[i]]:=by simp[wsC,h]
theorem AZQ{ws:List Bs}{v:V}(h:aP G H pb s)(hv:El G H v 1 (wsC ws))(hw:ws.length<=1000)(hk:k (.bool (Kw ws s)) H n):Runs F G Dw [.ptr pb 0,v] H n k:=by
 refine Am (s:=QD (Qp lfp G)) U3 (by obtain⟨h,o⟩:=xK Ap G;rw[U3]at h;cases h;exact o) ?_
 show Qp lfp G (Runs F G) (.ptr pb 0) v H n k
 delta Qp
 unfold Kw at hk
 simp only[go_sem,hv.len,AM0]
 obtain⟨w,tid,o,line,col,e0,e1,x1,x2,e2,e3,e4,e5⟩:=h.tok
 obtain⟨R,hR⟩:∃R,(ws.any λw=>Vp w s)=R:=⟨_,rfl⟩
 rw[hR]at hk
 refine EP (N:=ws.length) (J:=λj q=>q=(.ptr pb 0,v,.int .i64 (.ofNat ws.length) 0,.int .i64 (.ofNat j) 0,H,n)/\((ws.drop j).any λw=>Vp w s)=R) ?_ ?_ ⟨rfl,hR⟩
 ·rintro I j q hlt ⟨rfl,hR⟩ ih
  show Je lfp G (Runs F G) k I (.ptr pb 0) v (.int .i64 (.ofNat ws.length) 0) (.int .i64 (.ofNat j) 0) H n
  delta Je
  obtain⟨p,hp,hld⟩:=hv.at (AKC hlt)
  rw[List.drop_eq_getElem_cons hlt,List.any_cons]at hR
  generalize ws[j]=m at hld hR
  simp only[go_sem,ES,hlt,decide_true,hp,aI hld]
  refine ANj h ?_
  have go1:Vp m s=false->I (.ptr pb 0,v,.int .i64 (.ofNat ws.length) 0,.int .i64 (.ofNat (j+1)) 0,H,n):=λh1=>by
   rw[h1,Bool.false_or]at hR
   exact ih _ ⟨rfl,hR⟩
  have ej:=Ef (show j+1<9223372036854775808 by omega)
  cases h1:s.ok with
  |false=>
   repeat (first|with_reducible refine AE1 ?_|with_reducible refine AJe ?_|with_reducible refine AFA ?_)
   simp only[go_sem,ej]
   exact go1 (by simp[Vp,h1])
  |true=>
   simp only[go_sem,Nat.reduceAdd,Nat.add_zero,e0,e1,e3,Xx]
   cases h2:decide (s.t.kind=1)with
   |true=>
    repeat (first|with_reducible refine yu ?_|with_reducible refine AJe ?_)
    simp only[go_sem,Nat.reduceAdd,Nat.add_zero,e0,e1,e4,AH6]
    cases h3:decide (s.t.text=m)with
    |true=>
     rw[show Vp m s=true by simp[Vp,h1,h2,h3],Bool.true_or]at hR
     subst hR
     simp only[go_sem];exact hk
    |false=>simp only[go_sem,ej];exact go1 (by simp[Vp,h3])
   |false=>
    simp only[go_sem,Nat.reduceAdd,Nat.add_zero,e0,e1,e3,Xx]
    cases h4:decide (s.t.kind=5)with
    |true=>
     simp only[go_sem,Nat.reduceAdd,Nat.add_zero,e0,e1,e4,AH6]
     cases h3:decide (s.t.text=m)with
     |true=>
      rw[show Vp m s=true by simp[Vp,h1,h4,h3],Bool.true_or]at hR
      subst hR
      simp only[go_sem];exact hk
     |false=>simp only[go_sem,ej];exact go1 (by simp[Vp,h3])
    |false=>
     repeat (first|with_reducible refine AE1 ?_|with_reducible refine AJe ?_|with_reducible refine AFA ?_|with_reducible refine AAH ?_)
     simp only[go_sem,ej];exact go1 (by simp[Vp,h2,h4])
 ·rintro I q ⟨rfl,hR⟩
  show Je lfp G (Runs F G) k I (.ptr pb 0) v (.int .i64 (.ofNat ws.length) 0) (.int .i64 (.ofNat ws.length) 0) H n
  delta Je
  rw[List.drop_eq_nil_of_le (Nat.le_refl _)]at hR
  subst hR
  simp only[go_sem,ES,Nat.lt_irrefl,decide_false]
  delta SB
  exact hk
theorem AQZ{l:LV}{i:Nat}{v:V}(h:l[i]? =some v):ATr i (.agg l)=some v:=by
 show nth l i=_
 rw[jK,h]
structure Fr(G:AV)(pb:Nat)(H0:Heap)(n0:Nat)(H:Heap)(n:Nat)(s:S):Prop where
 f:Kx pb H0 n0 H n
 p:aP G H pb s
 b:pb<n0
theorem Fr.lt{H0:Heap}{n0:Nat}(x:Fr G pb H0 n0 H n s):pb<n:=Nat.lt_of_lt_of_le x.b x.f.le
theorem Fr.le{H0:Heap}{n0:Nat}(x:Fr G pb H0 n0 H n s):n0<=n:=x.f.le
theorem Fr.refl(h:aP G H pb s)(hb:pb<n):Fr G pb H n H n s:=⟨Kx.refl ..,h,hb⟩
theorem Fr.al{H0:Heap}{n0:Nat}(x:Fr G pb H0 n0 H n s)(f:Kp H n H' n'):Fr G pb H0 n0 H' n' s:=⟨x.f.trans f.kx,x.p.kp f x.lt,x.b⟩
theorem Fr.st{H0:Heap}{n0 b:Nat}(x:Fr G pb H0 n0 H n s)(hb:n0<=b)(e:∀j,j≠b->T.get H' j=T.get H j):Fr G pb H0 n0 H' n s:=
 ⟨⟨x.f.le,λid hid hp=>(e id (by omega)).trans (x.f.same id hid hp)⟩,x.p.same λid hid=>e id (by have:=x.b;omega),x.b⟩
theorem Fr.tr{H0:Heap}{n0:Nat}(x:Fr G pb H0 n0 H n s)(y:Fr G pb H n H' n' s'):Fr G pb H0 n0 H' n' s':=⟨x.f.trans y.f,y.p,x.b⟩
theorem Fr.get{b:Nat}{L:LV}(y:Fr G pb H n H' n' s')(g:T.get H b=some (one L))(h1:b<n)(h2:pb<b):T.get H' b=some (one L):=y.f.get g h1 (by omega)
theorem CG{m b:Nat}{L0 L:LV}{P:KV}(g:T.get H b=some (one L0))(h0:L0.length=m)(h1:L.length=m)(hm:0<m)(h:∀H',T.get H' b=some (one L)->(∀j,j≠b->T.get H' j=T.get H j)->P .undef H' n):
 CP m (.ptr b 0) (.agg L) H n P:=by
 rw[ZX g hm h0 h1];exact h _ (T.DJ ..) λj hj=>T.BA _ _ (Ne.symm hj)
theorem eF(h:aP G H pb s)(hb:pb<n)(hm:N7 s=some s')(hk:∀H' n' line col,1<=line->1<=col->Fr G pb H n H' n' s'->k (.agg (VR s.t line col)) H' n'):Runs F G Df [.ptr pb 0] H n k:=by
 refine Am (s:=Ho (Oh lfp G)) Ro (by obtain⟨h,o⟩:=qx Ap G;rw[Ro]at h;cases h;exact o) ?_
 show Oh lfp G (Runs F G) (.ptr pb 0) H n k
 delta Oh
 have x:=Fr.refl h hb
 refine Az rfl λH1 f1 g1=>?_
 have x:=x.al f1
 obtain⟨v,tid,o,line,col,e0,e1,x1,x2,e2,e3,e4,e5⟩:=x.p.tok
 simp only[go_sem,Nat.reduceAdd,Nat.add_zero,e0,e1,e2]
 refine AY2 rfl rfl (by omega) λH3 f3 g3=>?_
 have x:=x.al f3
 have g1:=f3.get g1 (by omega)
 have q0:AX (.ptr (n+1) 0) G H3=some (.int .i64 (.ofNat s.t.kind) 0):=AQ g3 rfl
 have fin:∀{H4:Heap},Fr G pb H n H4 (n+1+1) s'->T.get H4 n=some (one [.int .i64 (.ofNat 0) 0,.str 0 0,.int .i64 (.ofNat 0) 0,.int .i64 (.ofNat 0) 0,.int .i64 (.ofNat 0) 0])->T.get H4 (n+1)=some (one (VR s.t line col))->
  Ic lfp G (Runs F G) k (.ptr n 0) (.ptr (n+1) 0) H4 (n+1+1):=by
  intro H4 x g1 g3
  delta Ic
  rw[Ai (m:=5) g3 (by omega) rfl,Au]
  refine CG g1 rfl rfl (by omega) λH5 g5 s5=>?_
  rw[DX (m:=5) g5 (by omega) rfl]
  simp only[go_sem]
  exact hk _ _ _ _ x1 x2 (x.st (Nat.le_refl _) s5)
 unfold N7 at hm
 simp only[go_sem,Nat.reduceAdd,q0,YX]
 cases hd:decide (s.t.kind=0)with
 |true=>
  rw[hd]at hm
  cases hm
  simp only[Bool.not_true,go_sem]
  exact fin x g1 g3
 |false=>
  rw[hd,cond_false]at hm
  simp only[Bool.not_false,go_sem]
  have hp3:=x.p
  cases hp3 with
  |mk hg he ht hp hl=>
   rename_i tid off l1 c1 cs
   cases hr:s.r with
   |nil=>rw[hr]at hm;cases hm
   |cons t r=>
    rw[hr]at hm ht
    cases hm
    cases ht with
    |cons ha ht=>
     rename_i a cs
     have e0:AX (.ptr pb 0) G H3=some (.O5 tid off (cs.length+1) 5):=AQ hg rfl
     simp only[go_sem,Nat.reduceAdd,e0,AMY]
     refine Ej hg rfl rfl (by omega) (by show 0+1<=5;omega) λH4 g4 s4=>?_
     refine fin ⟨⟨x.le,λid hid hp=>(s4 id hp).trans (x.f.same id hid hp)⟩,?_,hb⟩ ((s4 _ (by omega)).trans g1) ((s4 _ (by omega)).trans g3)
     exact .mk (s:={s with t:=t,r:=r}) g4 ((APh he).same λid hid=>by cases jq hid;exact s4 _ (by omega)) ht hp hl
end
section
variable{G:AV}{H:Heap}{n pb:Nat}{s s':S}{k:KV}
theorem dW{ws:List Bs}{m:Nat}{P:KV}{Z:LV}(hm:ws.length=m)(h:∀H',Kp H n H' (n+1)->El G H' (.sl n 0 m m 1) 1 (wsC ws)->P (.sl n 0 m m 1) H' (n+1)):DY (Aj 1 m Z (ADW 0 (ws.map sB)) E0) H n P:=by
 refine J9 (G:=G) (vs:=ws.map sB) (by rw[List.length_map];exact hm) (by omega) (λv hv=>?_) λH' f _ hel=>h H' f ?_
 ·obtain⟨w,_,rfl⟩:=List.mem_map.1 hv;exact⟨rfl,rfl⟩
 ·rw[List.map_map]at hel;exact hel
theorem vT{ws:List Bs}{m:Nat}{P:KV}{Z:LV}(h:aP G H pb s)(hb:pb<n)(hm:ws.length=m)(hw:ws.length<=1000)(hk:∀H' n',Fr G pb H n H' n' s->P (.bool (Kw ws s)) H' n'):
 DY (Aj 1 m Z (ADW 0 (ws.map sB)) E0) H n λv H n=>Runs F G Dw [.ptr pb 0,v] H n P:=by
 refine dW (G:=G) hm λH1 f1 hel=>?_
 have x:=(Fr.refl h hb).al f1
 exact AZQ x.p hel hw (hk _ _ x)
theorem Oq{w:Bs}{b:Bool}(h:aP G H pb s)(hb:pb<n)(hm:C9 w s=some (b,s'))(hk:∀H' n',Fr G pb H n H' n' s'->k (.bool b) H' n'):Runs F G Ak [.ptr pb 0,sB w] H n k:=by
 refine Am (s:=QD (OV lfp G)) SK (by obtain⟨h,o⟩:=sV Ap G;rw[SK]at h;cases h;exact o) ?_
 show OV lfp G (Runs F G) (.ptr pb 0) (sB w) H n k
 delta OV
 refine vT (ws:=[w]) h hb rfl (by show 1<=1000;omega) λH1 n1 x=>?_
 unfold C9 at hm
 rw[show Kw [w] s=Vp w s by simp[Kw]]
 cases ho:Vp w s with
 |false=>
  rw[ho]at hm
  cases hm
  simp only[go_sem,MF,Bool.not_false]
  exact hk _ _ x
 |true=>
  rw[ho,cond_true,Option.bind_eq_some_iff]at hm
  obtain⟨s2,h2,hm⟩:=hm
  cases hm
  simp only[go_sem,MF,Bool.not_true]
  exact eF x.p x.lt h2 λH2 n2 _ _ _ _ y=>hk _ _ (x.tr y)
theorem AW9{ws:List Bs}{id o l c:Nat}(h:aP G H pb s)(hb:pb<n)(hv:El G H (.sl id o l c 1) 1 (wsC ws))(hid:id<n)(hip:pb<id)(hw:ws.length<=1000)(hm:CJ ws s=some s')(hk:∀H' n',Fr G pb H n H' n' s'->k (.J4 []) H' n'):
 Runs F G BN [.ptr pb 0,.sl id o l c 1] H n k:=by
 refine Am (s:=QD (OH lfp G)) RY (by obtain⟨h,o⟩:=qM Ap G;rw[RY]at h;cases h;exact o) ?_
 show OH lfp G (Runs F G) (.ptr pb 0) (.sl id o l c 1) H n k
 delta OH
 simp only[hv.len,AM0,go_sem]
 refine EP (N:=ws.length) (J:=λj q=>∃H' n' t,q=(.ptr pb 0,.sl id o l c 1,.int .i64 (.ofNat ws.length) 0,.int .i64 (.ofNat j) 0,H',n')/\Fr G pb H n H' n' t/\CJ (ws.drop j) t=some s') ?_ ?_ ⟨H,n,s,rfl,Fr.refl h hb,hm⟩
 ·rintro I j q hlt ⟨H1,n1,t,rfl,x,hm⟩ ih
  show Ij lfp G (Runs F G) k I (.ptr pb 0) (.sl id o l c 1) (.int .i64 (.ofNat ws.length) 0) (.int .i64 (.ofNat j) 0) H1 n1
  delta Ij
  have hv1:El G H1 (.sl id o l c 1) 1 (wsC ws):=hv.same λi hi=>by cases Em hi;exact x.f.same id hid (by omega)
  obtain⟨p,hp,hld⟩:=hv1.at (AKC hlt)
  rw[List.drop_eq_getElem_cons hlt,show ∀(w:Bs) ws (s:S),CJ (w::ws) s=(C9 w s).bind λp=>CJ ws (bif p.1 then p.2 else Gy 21 p.2)from λ_ _ _=>rfl,Option.bind_eq_some_iff]at hm
  obtain⟨⟨b,t2⟩,h2,hm⟩:=hm
  have hm:CJ (ws.drop (j+1)) (bif b then t2 else Gy 21 t2)=some s':=hm
  generalize ws[j]=m at hld h2
  simp only[go_sem,ES,hlt,decide_true,hp,aI hld]
  refine Oq x.p x.lt h2 λH2 n2 y=>?_
  have x:=x.tr y
  simp only[go_sem,MF]
  cases b with
  |true=>
   simp only[go_sem,Bool.not_true]
   delta Ik
   simp only[go_sem,Ef (show j+1<9223372036854775808 by omega)]
   exact ih _ ⟨_,_,_,rfl,x,hm⟩
  |false=>
   simp only[go_sem,Bool.not_false]
   refine AQT x.p λH3 f3 p3=>?_
   delta Ik
   simp only[go_sem,Ef (show j+1<9223372036854775808 by omega)]
   exact ih _ ⟨_,_,_,rfl,⟨x.f.trans f3,p3,x.b⟩,hm⟩
 ·rintro I q ⟨H1,n1,t,rfl,x,hm⟩
  show Ij lfp G (Runs F G) k I (.ptr pb 0) (.sl id o l c 1) (.int .i64 (.ofNat ws.length) 0) (.int .i64 (.ofNat ws.length) 0) H1 n1
  delta Ij
  rw[List.drop_eq_nil_of_le (Nat.le_refl _)]at hm
  cases hm
  simp only[go_sem,ES,Nat.lt_irrefl,decide_false]
  exact hk _ _ x
theorem LM{ws:List Bs}{m:Nat}{P:KV}{Z:LV}(h:aP G H pb s)(hb:pb<n)(hm:ws.length=m)(hw:ws.length<=1000)(he:CJ ws s=some s')(hk:∀H' n',Fr G pb H n H' n' s'->P (.J4 []) H' n'):
 DY (Aj 1 m Z (ADW 0 (ws.map sB)) E0) H n λv H n=>Runs F G BN [.ptr pb 0,v] H n P:=by
 refine dW (G:=G) hm λH1 f1 hel=>?_
 have x:=(Fr.refl h hb).al f1
 exact AW9 x.p x.lt hel (by omega) hb hw he λH2 n2 y=>hk _ _ (x.tr y)
theorem kQ{e:Nat}(h:aP G H pb s)(hb:pb<n)(hk:∀H' n',Fr G pb H n H' n' (Gy e s)->k (.J4 []) H' n'):Runs F G DU [.ptr pb 0,.int .i64 (.ofNat e) 0] H n k:=
 AQT h λH1 f p=>hk _ _ ⟨f,p,hb⟩
theorem fU{kd:Nat}{l:Bs}(h:aP G H pb s)(hb:pb<n)(hm:Jp kd s=some (l,s'))(hk:∀H' n',Fr G pb H n H' n' s'->k (sB l) H' n'):Runs F G D7 [.ptr pb 0,.int .i64 (.ofNat kd) 0] H n k:=by
 refine Am (s:=QD (OQ lfp G)) RV (by obtain⟨h,o⟩:=rF Ap G;rw[RV]at h;cases h;exact o) ?_
 show OQ lfp G (Runs F G) (.ptr pb 0) (.int .i64 (.ofNat kd) 0) H n k
 delta OQ
 refine ANj h ?_
 unfold Jp at hm
 have bad:Jp kd s=some ([],Gy 21 s)->Runs F G DU [.ptr pb 0,.int .i64 (.ofNat 21) 0] H n λ_ H n=>k (.str 0 0) H n:=λhb'=>by
  unfold Jp at hb'
  rw[hb']at hm
  cases hm
  exact kQ h hb λH1 n1 x=>hk _ _ x
 have good:(N7 s).bind (λs'=>some (s.t.text,s'))=some (l,s')->Runs F G Df [.ptr pb 0] H n λv14 H n=>AP (ATr 1 v14) λv15=>k v15 H n:=λhm=>by
  rw[Option.bind_eq_some_iff]at hm
  obtain⟨s2,h2,hm⟩:=hm
  cases hm
  refine eF h hb h2 λH2 n2 line col _ _ y=>?_
  rw[AQZ (show(VR s.t line col)[1]? =some (sB s.t.text)from rfl),Au]
  exact hk _ _ y
 obtain⟨v,tid,o,line,col,e0,e1,x1,x2,e2,e3,e4,e5⟩:=h.tok
 cases ho:s.ok with
 |false=>
  simp only[MF,Bool.not_false,go_sem]
  repeat (first|with_reducible refine yu ?_|with_reducible refine AJe ?_)
  exact bad (by unfold Jp;rw[ho];rfl)
 |true=>
  simp only[MF,Bool.not_true,go_sem,Nat.reduceAdd,Nat.add_zero,e0,e1,e3,YX]
  cases hd:decide (s.t.kind=kd)with
  |false=>
   simp only[Bool.not_false,go_sem]
   exact bad (by unfold Jp;rw[ho,hd];rfl)
  |true=>
   rw[ho,hd]at hm
   simp only[Bool.not_true,go_sem]
   exact good hm
theorem AHf(h:aP G H pb s)(hb:pb<n)(hm:UJ s=some s')(hk:∀H' n' q,Fr G pb H n H' n' s'->n<=q->q<n'->T.get H' q=some (one [.ptr pb 0])->k (.fn CS [] [.ptr q 0]) H' n'):Runs F G KI [.ptr pb 0] H n k:=by
 refine Am (s:=Ho (OO lfp G)) Rw (by obtain⟨h,o⟩:=sD Ap G;rw[Rw]at h;cases h;exact o) ?_
 show OO lfp G (Runs F G) (.ptr pb 0) H n k
 delta OO
 have x:=Fr.refl h hb
 refine AJm rfl λH1 f1 g1=>?_
 have x:=x.al f1
 have g1:T.get H1 n=some (one [.ptr pb 0]):=g1
 have q1:AX (.ptr n 0) G H1=some (.ptr pb 0):=AQ g1 rfl
 unfold UJ at hm
 cases hd:decide (s.deep<1000000)with
 |false=>rw[hd]at hm;cases hm
 |true=>
  rw[hd,cond_true]at hm
  have hd:=of_decide_eq_true hd
  simp only[go_sem,Nat.reduceAdd,q1,x.p.deep,Ef (show s.deep+1<9223372036854775808 by omega)]
  have hp1:=x.p
  cases hp1 with
  |mk hg he ht hp hl=>
   refine Ej hg rfl rfl (by omega) (by show 1+1<=5;omega) λH2 g2 s2=>?_
   have q1:AX (.ptr n 0) G H2=some (.ptr pb 0):=AQ ((s2 n (by omega)).trans g1) rfl
   have p2:aP G H2 pb {s with deep:=s.deep+1}:=.mk (s:={s with deep:=s.deep+1}) g2 (he.same λid hid=>by cases jq hid;exact s2 _ (by omega)) ht hp hl
   have x:Fr G pb H n H2 (n+1) {s with deep:=s.deep+1}:=⟨⟨x.le,λid hid hp=>(s2 id hp).trans (x.f.same id hid hp)⟩,p2,hb⟩
   have e2:AX (.ptr pb 1) G H2=some (.int .i64 (.ofNat (s.deep+1)) 0):=p2.deep
   simp only[go_sem,Nat.reduceAdd,q1,e2,Ls]
   cases AI6:decide (100<s.deep+1)with
   |false=>
    rw[AI6]at hm
    cases hm
    simp only[go_sem]
    delta IZ
    exact hk _ _ n x (Nat.le_refl _) (by omega) ((s2 n (by omega)).trans g1)
   |true=>
    rw[AI6]at hm
    cases hm
    simp only[go_sem,q1]
    refine kQ x.p x.lt λH3 n3 y=>?_
    delta IZ
    exact hk _ _ n (x.tr y) (Nat.le_refl _) (by have:=y.le;omega) (y.get ((s2 n (by omega)).trans g1) (by omega) hb)
theorem AR7{q:Nat}{P:Heap->Nat->Prop}(h:aP G H pb s)(hb:pb<n)(hq:T.get H q=some (one [.ptr pb 0]))(hm:lX s=some s')(hk:∀H' n',Fr G pb H n H' n' s'->P H' n'):
 O7 CS (uY (.J4 [.fn CS [] [.ptr q 0]])) (Runs F G) H n P:=by
 show En (Nat.beq CS CS) (Runs F G CS [.ptr q 0] H n λ_ H n=>P H n)
 rw[show Nat.beq CS CS=true from Nat.beq_refl _,qR]
 generalize hk':(λ_ H n=>P H n:KV)=k
 refine Am (s:=Ho (LZ lfp G)) Eu (by obtain⟨h,o⟩:=lM Ap G;rw[Eu]at h;cases h;exact o) ?_
 show LZ lfp G (Runs F G) (.ptr q 0) H n k
 delta LZ
 subst hk'
 unfold lX at hm
 cases hd:s.deep with
 |zero=>rw[hd]at hm;cases hm
 |succ d=>
  rw[hd]at hm
  have hm:(bif decide (d<1000000)then some {s with deep:=d}else none)=some s':=hm
  cases hlt:decide (d<1000000)
  ·rw[hlt]at hm;cases hm
  rw[hlt,cond_true]at hm
  have hlt:=of_decide_eq_true hlt
  cases hm
  have q1:AX (.ptr q 0) G H=some (.ptr pb 0):=AQ hq rfl
  have q2:=h.deep
  rw[hd]at q2
  have hbig:d+1<9223372036854775808:=by omega
  simp only[go_sem,Nat.reduceAdd,q1,q2,AV9 hbig]
  cases h with
  |mk hg he ht hp hl=>
   refine Ej hg rfl rfl (by omega) (by show 1+1<=5;omega) λH2 g2 s2=>?_
   exact hk _ _ ⟨⟨Nat.le_refl _,λid hid hp=>s2 id hp⟩,.mk (s:={s with deep:=d}) g2 (he.same λid hid=>by cases jq hid;exact s2 _ (by omega)) ht hp hl,hb⟩
def tyC(t:Ty):LV:=[sB t.nm,.bool t.arr]
theorem APD{z0 z1:V}(l:Bs):Bh [z0,z1] [(0,1,.c (sB l))]=some (.agg [sB l,z1]):=rfl
theorem ADh{l:Bs}(hk:∀H',Kp H n H' (n+1)->k (.agg [sB l,.bool false]) H' (n+1)):Runs F G Vx [sB l] H n k:=by
 refine Am (s:=Ho (aA lfp G)) gQ (by obtain⟨h,o⟩:=AGC Ap G;rw[gQ]at h;cases h;exact o) ?_
 show aA lfp G (Runs F G) (sB l) H n k
 delta aA
 simp only[go_sem,APD]
 exact hk _ (((Kp.refl H n).new (m:=n+1) _ (Nat.le_refl _) (by omega)).new _ (Nat.le_refl _) (Nat.le_refl _))
theorem ANd(hk:∀H',Kp H n H' (n+1)->k (.agg [sB vM,.bool false]) H' (n+1)):Runs F G AFa [] H n k:=by
 refine Am (s:=ar0 (uH lfp G)) wo (by obtain⟨h,o⟩:=AKY Ap G;rw[wo]at h;cases h;exact o) ?_
 show uH lfp G (Runs F G) H n k
 delta uH
 simp only[AOy,go_sem,APD]
 exact hk _ (((Kp.refl H n).new (m:=n+1) _ (Nat.le_refl _) (by omega)).new _ (Nat.le_refl _) (Nat.le_refl _))
theorem AK5(hk:∀H',Kp H n H' (n+1)->k (.agg [sB fJ,.bool false]) H' (n+1)):Runs F G ADc [] H n k:=by
 refine Am (s:=ar0 (jO lfp G)) rO (by obtain⟨h,o⟩:=AIe Ap G;rw[rO]at h;cases h;exact o) ?_
 show jO lfp G (Runs F G) H n k
 delta jO
 simp only[AKn,go_sem,APD]
 exact hk _ (((Kp.refl H n).new (m:=n+1) _ (Nat.le_refl _) (by omega)).new _ (Nat.le_refl _) (Nat.le_refl _))
theorem AHc{m:Nat}(h:aP G H pb s)(hb:pb<n)(hk:∀H' n',Fr G pb H n H' n' (GZ m s)->k (.J4 []) H' n'):Runs F G KP [.ptr pb 0,.int .i64 (.ofNat m) 0] H n k:=by
 refine Am (s:=QD (OT lfp G)) Rq (by obtain⟨h,o⟩:=sW Ap G;rw[Rq]at h;cases h;exact o) ?_
 show OT lfp G (Runs F G) (.ptr pb 0) (.int .i64 (.ofNat m) 0) H n k
 delta OT
 unfold GZ at hk
 simp only[go_sem,Ls]
 cases hd:decide (200<m)with
 |false=>rw[hd]at hk;simp only[go_sem];exact hk _ _ (Fr.refl h hb)
 |true=>rw[hd]at hk;simp only[go_sem];exact kQ h hb hk
theorem AQa{t:Ty}(h:aP G H pb s)(hb:pb<n)(hm:ACX s=some (t,s'))(hk:∀H' n',Fr G pb H n H' n' s'->k (.agg (tyC t)) H' n'):Runs F G Tj [.ptr pb 0] H n k:=by
 refine Am (s:=Ho (OU lfp G)) RQ (by obtain⟨h,o⟩:=qL Ap G;rw[RQ]at h;cases h;exact o) ?_
 show OU lfp G (Runs F G) (.ptr pb 0) H n k
 delta OU
 have x:=Fr.refl h hb
 refine Az rfl λH1 f1 g1=>?_
 have x:=x.al f1
 unfold ACX at hm
 rw[Option.bind_eq_some_iff]at hm
 obtain⟨⟨b,s2⟩,h2,hm⟩:=hm
 have hm:(bif b then some (⟨vM,false⟩,s2)else(C9 fJ s2).bind λp=>bif p.1 then some (⟨fJ,false⟩,p.2)else(Jp 2 p.2).bind λp=>some (⟨p.1,false⟩,p.2))=some (t,s'):=hm
 rw[AOy,AKn]
 have fin:∀{H2:Heap} {n2:Nat} {l:Bs},Fr G pb H n H2 n2 s'->T.get H2 n=some (one [.str 0 0,.bool false])->t=⟨l,false⟩->CP 2 (.ptr n 0) (.agg [sB l,.bool false]) H2 n2 λv4 H n_1=>IV (D6 [.cn (.ptr n 0) 2] G H) λl=>k (GN l) H n_1:=by
  intro H2 n2 l x g ht
  subst ht
  refine CG g rfl rfl (by omega) λH3 g3 s3=>?_
  rw[DX (m:=2) g3 (by omega) rfl]
  simp only[go_sem]
  exact hk _ _ (x.st (Nat.le_refl _) s3)
 refine Oq x.p x.lt h2 λH2 n2 y=>?_
 have x:=x.tr y
 have g1:=y.get g1 (by omega) hb
 cases b with
 |true=>
  cases hm
  simp only[go_sem]
  exact ANd λH3 f3=>fin (x.al f3) (f3.get g1 (by have:=y.le;omega)) rfl
 |false=>
  rw[cond_false,Option.bind_eq_some_iff]at hm
  obtain⟨⟨b,s3⟩,h3,hm⟩:=hm
  simp only[go_sem]
  have hn:=y.le
  refine Oq x.p x.lt h3 λH3 n3 y=>?_
  have x:=x.tr y
  have g1:=y.get g1 (by omega) hb
  have hn2:=y.le
  cases b with
  |true=>
   cases hm
   simp only[go_sem]
   exact AK5 λH3 f3=>fin (x.al f3) (f3.get g1 (by omega)) rfl
  |false=>
   rw[cond_false,Option.bind_eq_some_iff]at hm
   obtain⟨⟨l,s4⟩,h4,hm⟩:=hm
   cases hm
   simp only[go_sem]
   refine fU x.p x.lt h4 λH4 n4 y=>?_
   have x:=x.tr y
   have g1:=y.get g1 (by omega) hb
   have hn3:=y.le
   exact ADh λH3 f3=>fin (x.al f3) (f3.get g1 (by omega)) rfl
theorem AL7{t:Ty}(h:aP G H pb s)(hb:pb<n)(hm:fQ s=some (t,s'))(hk:∀H' n',Fr G pb H n H' n' s'->k (.agg (tyC t)) H' n'):Runs F G LC [.ptr pb 0] H n k:=by
 refine Am (s:=Ho (PV lfp G)) Tv (by obtain⟨h,o⟩:=vH Ap G;rw[Tv]at h;cases h;exact o) ?_
 show PV lfp G (Runs F G) (.ptr pb 0) H n k
 delta PV
 have x:=Fr.refl h hb
 refine Az rfl λH1 f1 g1=>?_
 have x:=x.al f1
 unfold fQ at hm
 rw[Option.bind_eq_some_iff]at hm
 obtain⟨⟨t1,s2⟩,h2,hm⟩:=hm
 rw[Option.bind_eq_some_iff]at hm
 obtain⟨⟨b,s3⟩,h3,hm⟩:=hm
 have hm:(bif b then(CJ [F8] s3).bind λs=>some ((⟨t1.nm,true⟩:Ty),s)else some (t1,s3))=some (t,s'):=hm
 refine AQa x.p x.lt h2 λH2 n2 y=>?_
 have x:=x.tr y
 have g1:=y.get g1 (by omega) hb
 have hn:=y.le
 refine Az rfl λH3 f3 g3=>?_
 have x:=x.al f3
 have g1:=f3.get g1 (by omega)
 refine CG (L:=tyC t1) g3 rfl rfl (by omega) λH4 g3 s4=>?_
 have x:=x.st (by omega) s4
 have g1:=(s4 n (by omega)).trans g1
 have fin:∀{H5:Heap} {n5:Nat},Fr G pb H n H5 n5 s'->T.get H5 n=some (one [.str 0 0,.bool false])->T.get H5 n2=some (one (tyC t))->JD lfp G (Runs F G) k (.ptr n 0) (.ptr n2 0) H5 n5:=by
  intro H5 n5 x g1 g3
  delta JD
  rw[Ai (m:=2) g3 (by omega) rfl,Au]
  refine CG g1 rfl rfl (by omega) λH6 g6 s6=>?_
  rw[DX (m:=2) g6 (by omega) rfl]
  simp only[go_sem]
  exact hk _ _ (x.st (Nat.le_refl _) s6)
 rw[AbU]
 refine Oq x.p x.lt h3 λH5 n5 y=>?_
 have x:=x.tr y
 have g1:=y.get g1 (by omega) hb
 have g3:=y.get g3 (by omega) (by omega)
 have hn5:=y.le
 cases b with
 |false=>
  cases hm
  simp only[go_sem]
  exact fin x g1 g3
 |true=>
  rw[cond_true,Option.bind_eq_some_iff]at hm
  obtain⟨s4,h4,hm⟩:=hm
  cases hm
  simp only[go_sem]
  refine LM (ws:=[F8]) x.p x.lt rfl (by show 1<=1000;omega) h4 λH6 n6 y=>?_
  have x:=x.tr y
  have g1:=y.get g1 (by omega) hb
  have g3:=y.get g3 (by omega) (by omega)
  refine Ej g3 rfl rfl (by omega) (by show 1+1<=2;omega) λH7 g7 s7=>?_
  exact fin (x.st (by omega) s7) ((s7 n (by omega)).trans g1) g7
end
def Ti(kind num:Nat)(nm ty:Bs)(arr:Bool)(line col:Nat)(v:V):LV:=
 [.int .i64 (.ofNat kind) 0,.int .i64 (.ofNat line) 0,.int .i64 (.ofNat col) 0,.int .i64 (.ofNat num) 0,sB nm,sB ty,.bool arr,v,.str 0 0,.bool false,.str 0 0]
def KS(v:V):Prop:=PL v v=true/\(∀id o m c e,v=.sl id o m c e->m<=c)/\∀b o m c e,v≠.rsl b o m c e
mutual
inductive EO(G:AV)(H:Heap)(A:Nat->Prop):LV->Ex->Prop where
 |mk (kind num:Nat) (nm ty:Bs) (arr:Bool) (line col:Nat) {v:V} {cs:D5} {kids:List Ex} (he:El G H v 11 cs) (hv:KS v) (ha:∀id,v.Qa=some id->A id) (hc:O4 G H A cs kids):
  EO G H A (Ti kind num nm ty arr line col v) (.mk kind num nm ty arr kids)
inductive O4(G:AV)(H:Heap)(A:Nat->Prop):D5->List Ex->Prop where
 |nil:O4 G H A [] []
 |cons {c:LV} {e:Ex} {cs:D5} {es:List Ex} (h:EO G H A c e) (t:O4 G H A cs es):O4 G H A (c::cs) (e::es)
end
mutual
theorem EO.mono{G:AV}{H H':Heap}{A B:Nat->Prop}(hA:∀id,A id->B id)(hs:∀id,A id->T.get H' id=T.get H id):∀{c:LV} {e:Ex},EO G H A c e->EO G H' B c e
 |_,_,.mk kind num nm ty arr line col he hv ha hc=>.mk kind num nm ty arr line col (he.same λid hid=>hs id (ha id hid)) hv (λid hid=>hA id (ha id hid)) (O4.mono hA hs hc)
theorem O4.mono{G:AV}{H H':Heap}{A B:Nat->Prop}(hA:∀id,A id->B id)(hs:∀id,A id->T.get H' id=T.get H id):∀{cs:D5} {es:List Ex},O4 G H A cs es->O4 G H' B cs es
 |_,_,.nil=>.nil
 |_,_,.cons h t=>.cons (EO.mono hA hs h) (O4.mono hA hs t)
end
theorem O4.app{G:AV}{H:Heap}{A:Nat->Prop}:∀{cs:D5} {es:List Ex} {cs':D5} {es':List Ex},O4 G H A cs es->O4 G H A cs' es'->O4 G H A (cs++cs') (es++es')
 |_,_,_,_,.nil,h=>h
 |_,_,_,_,.cons h t,h'=>.cons h (t.app h')
theorem O4.len{G:AV}{H:Heap}{A:Nat->Prop}:∀{cs:D5} {es:List Ex},O4 G H A cs es->cs.length=es.length
 |_,_,.nil=>rfl
 |_,_,.cons h t=>by simp[t.len]
theorem kS(q:IntKind)(a:Int):PL (.int q a 0) (.int q a 0)=true:=by simp[PL,ALr,CU,XL,fD]
theorem AEH(l c:Nat):PL (.str l c) (.str l c)=true:=by simp[PL,AMN,CU]
theorem lF(b:Bool):PL (.bool b) (.bool b)=true:=by cases b<;>rfl
theorem AFS(a b c d e:Nat):PL (.sl a b c d e) (.sl a b c d e)=true:=by simp[PL,ATR,CU]
theorem AP6(a b c d:Nat):PL (.O5 a b c d) (.O5 a b c d)=true:=by simp[PL,AMH,CU]
theorem Wy{a b c d e:Nat}(h:c<=d):KS (.sl a b c d e):=⟨AFS ..,λ_ _ _ _ _ h'=>(by cases h';exact h),by simp⟩
theorem AKU(a b c d:Nat):KS (.O5 a b c d):=⟨AP6 ..,λ_ _ _ _ _ h=>(by cases h),by simp⟩
theorem dB:KS .Ae:=⟨rfl,λ_ _ _ _ _ h=>(by cases h),by simp⟩
theorem vsL:∀L:LV,(∀v∈L,PL v v=true)->ABl L L=true
 |[],_=>rfl
 |v::L,h=>by
  show band (PL v v) (ABl L L)=true
  rw[h v (List.mem_cons_self ..),vsL L λw hw=>h w (List.mem_cons_of_mem _ hw)];rfl
theorem AEB{L:LV}(h:∀v∈L,PL v v=true):BU (.agg L) (.agg L)=true:=vsL L h
theorem Yt(line col:Nat):BU (.agg [.int .i64 (.ofNat line) 0,.int .i64 (.ofNat col) 0]) (.agg [.int .i64 (.ofNat line) 0,.int .i64 (.ofNat col) 0])=true:=
 AEB λv hv=>by simp at hv;rcases hv with rfl|rfl<;>exact kS ..
theorem VK(l:Bs):BU (sB l) (sB l)=true:=AEH ..
section
variable{G:AV}{H:Heap}{A:Nat->Prop}{c:LV}{e:Ex}
theorem EO.len(h:EO G H A c e):c.length=11:=by cases h;rfl
theorem EO.kd(h:EO G H A c e):c[0]? =some (.int .i64 (.ofNat e.kind) 0):=by cases h;rfl
theorem EO.vs(h:EO G H A c e):BU (.agg c) (.agg c)=true:=by
 cases h with
 |mk kind num nm ty arr line col he hv ha hc=>
  refine AEB λv hv'=>?_
  simp only[Ti,List.mem_cons,List.not_mem_nil,or_false]at hv'
  rcases hv' with rfl|rfl|rfl|rfl|rfl|rfl|rfl|rfl|rfl|rfl|rfl<;>first|exact kS .. |exact AEH .. |exact lF .. |exact hv.1
end
def Rg(a b:Nat):Nat->Prop:=λid=>a<=id/\id<b
def Al(a b x:Nat):Nat->Prop:=λid=>a<id/\id<b/\id≠x
theorem Cc{v:V}{P:Prop}(h:BU v v=true)(hp:P):En (BU v v) P:=by rw[h];exact hp
abbrev exZ:LV:=[.int .i64 (.ofNat 0) 0,.int .i64 (.ofNat 0) 0,.int .i64 (.ofNat 0) 0,.int .i64 (.ofNat 0) 0,.str 0 0,.str 0 0,.bool false,.Ae,.str 0 0,.bool false,.str 0 0]
def ExK(G:AV)(pb:Nat)(H:Heap)(n:Nat)(s':S)(e:Ex)(k:KV):Prop:=∀H' n' c,Fr G pb H n H' n' s'->EO G H' (Rg n n') c e->k (.agg c) H' n'
def Bxs(H:Heap)(n pb:Nat)(bs:List Nat):Prop:=∀b∈bs,pb<b/\b<n/\T.get H b=some (one [.ptr pb 0])
theorem Bxs.fr{G:AV}{H H':Heap}{n n' pb:Nat}{s':S}{bs:List Nat}(h:Bxs H n pb bs)(y:Fr G pb H n H' n' s'):Bxs H' n' pb bs:=λb hb=>by
 obtain⟨h1,h2,h3⟩:=h b hb
 exact⟨h1,Nat.lt_of_lt_of_le h2 y.le,y.get h3 h2 h1⟩
theorem Bxs.nil{H:Heap}{n pb:Nat}:Bxs H n pb []:=λ_ h=>by cases h
def FnC(G:AV)(pb:Nat)(bs:List Nat)(m:PM Ex)(v:V):Prop:=∀(s:S) (H:Heap) (n:Nat) (s':S) (e:Ex) (k:KV),aP G H pb s->pb<n->Bxs H n pb bs->m s=some (e,s')->ExK G pb H n s' e k->FW v [] (Runs F G) H n k
theorem AKZ{kd:Nat}{x y:V}{id o l c:Nat}:Bh exZ [(0,1,.c (.int .i64 (.ofNat kd) 0)),(1,2,.c (.agg [x,y])),(7,1,.c (.sl id o l c 11))]=
 some (.agg [.int .i64 (.ofNat kd) 0,x,y,.int .i64 (.ofNat 0) 0,.str 0 0,.str 0 0,.bool false,.sl id o l c 11,.str 0 0,.bool false,.str 0 0]):=rfl
section
variable{G:AV}{H:Heap}{n pb:Nat}{s s':S}{k:KV}
theorem yQ{H0 H:Heap}{n0 n r b:Nat}{c L0:LV}{e:Ex}{A:Nat->Prop}(x:Fr G pb H0 n0 H n s')(gr:T.get H r=some (one L0))(hl:L0.length=11)(gb:T.get H b=some (one c))(hr:n0<=r)(he:EO G H A c e)
 (hA:∀id,A id->n0<=id/\id<n/\id≠r) (hk:ExK G pb H0 n0 s' e k):
 AP (BF 11 (.ptr b 0) G H) λv6=>CP 11 (.ptr r 0) v6 H n λ_ H n=>IV (D6 [.cn (.ptr r 0) 11] G H) λl=>k (GN l) H n:=by
 rw[Ai (m:=11) gb (by omega) he.len,Au]
 refine CG gr hl he.len (by omega) λH1 g1 s1=>?_
 rw[DX (m:=11) g1 (by omega) he.len]
 simp only[go_sem]
 exact hk _ _ _ (x.st hr s1) (he.mono (λid h=>⟨(hA id h).1,(hA id h).2.1⟩) λid h=>s1 id (hA id h).2.2)
theorem AIv{bs:List Nat}{m:PM Ex}{v:V}{kd f:Nat}{w:Bs}{e:Ex}(hf:FnC G pb bs m v)(hbs:Bxs H n pb bs)(h:aP G H pb s)(hb:pb<n)(hm:either kd w m f s=some (e,s'))(hk:ExK G pb H n s' e k):
 Runs F G QY [.ptr pb 0,.int .i64 (.ofNat kd) 0,sB w,v] H n k:=by
 refine Am (s:=ar4 (Lh lfp G)) PZ (by obtain⟨h,o⟩:=jM Ap G;rw[PZ]at h;cases h;exact o) ?_
 show Lh lfp G (Runs F G) (.ptr pb 0) (.int .i64 (.ofNat kd) 0) (sB w) v H n k
 delta Lh
 have x:=Fr.refl h hb
 refine Az rfl λH1 f1 g1=>?_
 have x:=x.al f1
 unfold either at hm
 rw[Option.bind_eq_some_iff]at hm
 obtain⟨⟨e1,s1⟩,h1,hm⟩:=hm
 have hm:lK kd w m f e1 s1=some (e,s'):=hm
 refine hf s H1 (n+1) s1 e1 _ x.p x.lt (hbs.fr x) h1 λH2 n2 c y hx=>?_
 have x:=x.tr y
 have g1:=y.get g1 (by omega) hb
 have hn2:=y.le
 refine Az rfl λH3 f3 g3=>?_
 have x:=x.al f3
 have g1:=f3.get g1 (by omega)
 refine CG g3 rfl hx.len (by omega) λH4 g4 s4=>?_
 have x:=x.st (by omega) s4
 have g1:=(s4 n (by omega)).trans g1
 have hx:EO G H4 (Al n (n2+1) n2) c e1:=hx.mono (λid h=>⟨by have:=h.1;omega,by have:=h.2;omega,by have:=h.2;omega⟩) λid h=>(s4 id (by have:=h.2;omega)).trans (f3.same id h.2)
 refine O3 (J:=λg q=>∃H' n' t c e1,q=(.ptr pb 0,.int .i64 (.ofNat kd) 0,sB w,v,.ptr n 0,.ptr n2 0,H',n')/\Fr G pb H n H' n' t/\n2<n'/\T.get H' n=some (one exZ)/\T.get H' n2=some (one c)/\EO G H' (Al n n' n2) c e1/\lK kd w m g e1 t=some (e,s')) ?_ (m:=f)
  ⟨H4,n2+1,s1,c,e1,rfl,x,by omega,g1,g4,hx,hm⟩
 rintro I g q ⟨H5,n5,t,c,e1,rfl,x,hn5,g1,g4,hx,hm⟩ ih
 show Nz lfp G (Runs F G) k I (.ptr pb 0) (.int .i64 (.ofNat kd) 0) (sB w) v (.ptr n 0) (.ptr n2 0) H5 n5
 delta Nz
 cases g with
 |zero=>cases hm
 |succ g=>
  have hm:(bif Kw [w] t then(N7 t).bind λs1=>(m s1).bind λp=>lK kd w m g (.mk kd 0 [] [] false [e1,p.1]) p.2 else some (e1,t))=some (e,s'):=hm
  refine vT (ws:=[w]) x.p x.lt rfl (by show 1<=1000;omega) λH6 n6 y=>?_
  have x:=x.tr y
  have hn6:=y.le
  have g1:=y.get g1 (by omega) hb
  have g4:=y.get g4 (by omega) (by omega)
  have hx:EO G H6 (Al n n6 n2) c e1:=hx.mono (λid h=>⟨h.1,by have:=h.2.1;omega,h.2.2⟩) λid h=>y.f.same id h.2.1 (by have:=h.1;omega)
  cases hi:Kw [w] t with
  |false=>
   rw[hi]at hm
   cases hm
   simp only[go_sem]
   delta Ns
   exact yQ x g1 rfl g4 (Nat.le_refl _) hx (λid h=>⟨by have:=h.1;omega,h.2.1,by have:=h.1;omega⟩) hk
  |true=>
   rw[hi,cond_true,Option.bind_eq_some_iff]at hm
   obtain⟨t1,h1,hm⟩:=hm
   rw[Option.bind_eq_some_iff]at hm
   obtain⟨⟨e2,t2⟩,h2,hm⟩:=hm
   rw[Ah]
   refine eF x.p x.lt h1 λH7 n7 line col _ _ y=>?_
   have x:=x.tr y
   have hn7:=y.le
   have g1:=y.get g1 (by omega) hb
   have g4:=y.get g4 (by omega) (by omega)
   have hx:EO G H7 (Al n n7 n2) c e1:=hx.mono (λid h=>⟨h.1,by have:=h.2.1;omega,h.2.2⟩) λid h=>y.f.same id h.2.1 (by have:=h.1;omega)
   rw[show AYu 3 2 (.agg (VR t.t line col))=some (.agg [.int .i64 (.ofNat line) 0,.int .i64 (.ofNat col) 0])from rfl,Au]
   refine Az rfl λH8 f8 g8=>?_
   have x:=x.al f8
   refine CG g8 rfl (L:=[.int .i64 (.ofNat line) 0,.int .i64 (.ofNat col) 0]) rfl (by omega) λH9 g9 s9=>?_
   have x:=x.st (by omega) s9
   have g1:=(s9 n (by omega)).trans (f8.get g1 (by omega))
   have g4:=(s9 n2 (by omega)).trans (f8.get g4 (by omega))
   have hx:EO G H9 (Al n n7 n2) c e1:=hx.mono (λid h=>h) λid h=>(s9 id (by have:=h.2.1;omega)).trans (f8.same id h.2.1)
   rw[Ai (m:=2) g9 (by omega) rfl,Au,Ai (m:=11) g4 (by omega) hx.len,Au]
   refine hf _ H9 (n7+1) _ _ _ x.p x.lt (hbs.fr x) h2 λH10 n10 c2 y hx2=>?_
   have x:=x.tr y
   have hn10:=y.le
   have g1:=y.get g1 (by omega) hb
   have g4:=y.get g4 (by omega) (by omega)
   have g9:=y.get g9 (by omega) (by omega)
   rw[Ai (m:=2) g9 (by omega) rfl,Au,Ai (m:=11) g4 (by omega) hx.len]
   refine Cc (Yt ..) (Cc hx.vs ?_)
   refine J9 (G:=G) (vs:=[.agg c,.agg c2]) rfl (by omega) (λv hv=>by simp at hv;rcases hv with rfl|rfl;exact⟨rfl,hx.len⟩;exact⟨rfl,hx2.len⟩) λH11 f11 _ hel=>?_
   have x:=x.al f11
   have g1:=f11.get g1 (by omega)
   have g4:=f11.get g4 (by omega)
   rw[AKZ,Au]
   refine CG g4 hx.len rfl (by omega) λH12 g12 s12=>?_
   have x:=x.st (by omega) s12
   refine ih g _ (by omega) ⟨H12,n10+1,t2,_,.mk kd 0 [] [] false [e1,e2],rfl,x,by omega,(s12 n (by omega)).trans g1,g12,?_,hm⟩
   refine .mk kd 0 [] [] false line col (hel.same λid hid=>s12 id (by cases Em hid;omega)) (Wy (by omega)) (λid hid=>⟨by cases Em hid;omega,by cases Em hid;omega,by cases Em hid;omega⟩) ?_
   refine .cons (hx.mono (λid h=>⟨h.1,by have:=h.2.1;omega,h.2.2⟩) λid h=>?_) (.cons (hx2.mono (λid h=>⟨by have:=h.1;omega,by have:=h.2;omega,by have:=h.1;omega⟩) λid h=>?_) .nil)
   ·have h1:=h.1;have h2:=h.2.1
    exact(s12 id h.2.2).trans ((f11.same id (by omega)).trans (y.f.same id (by omega) (by omega)))
   ·have h1:=h.1;have h2:=h.2
    exact(s12 id (by omega)).trans (f11.same id h2)
end
theorem AHg{kd:Nat}{x y:V}{nm:Bs}{id o l c:Nat}:Bh exZ [(0,1,.c (.int .i64 (.ofNat kd) 0)),(1,2,.c (.agg [x,y])),(4,1,.c (sB nm)),(7,1,.c (.sl id o l c 11))]=
 some (.agg [.int .i64 (.ofNat kd) 0,x,y,.int .i64 (.ofNat 0) 0,sB nm,.str 0 0,.bool false,.sl id o l c 11,.str 0 0,.bool false,.str 0 0]):=rfl
section
variable{G:AV}{H:Heap}{n pb:Nat}{s s':S}{k:KV}
theorem ALO{H0 H:Heap}{n0 n r:Nat}{c L0:LV}{e:Ex}{A:Nat->Prop}(x:Fr G pb H0 n0 H n s')(gr:T.get H r=some (one L0))(hl:L0.length=11)(hr:n0<=r)(he:EO G H A c e)
 (hA:∀id,A id->n0<=id/\id<n/\id≠r) (hk:ExK G pb H0 n0 s' e k):
 CP 11 (.ptr r 0) (.agg c) H n λ_ H n=>IV (D6 [.cn (.ptr r 0) 11] G H) λl=>k (GN l) H n:=by
 refine CG gr hl he.len (by omega) λH1 g1 s1=>?_
 rw[DX (m:=11) g1 (by omega) he.len]
 simp only[go_sem]
 exact hk _ _ _ (x.st hr s1) (he.mono (λid h=>⟨(hA id h).1,(hA id h).2.1⟩) λid h=>s1 id (hA id h).2.2)
theorem AMd{bs:List Nat}{ws:List Bs}{m:PM Ex}{v:V}{i o l cp f:Nat}{e:Ex}(hf:FnC G pb bs m v)(hbs:Bxs H n pb bs)(hv:El G H (.sl i o l cp 1) 1 (wsC ws))(hin:i<n)(hip:pb<i)(hw:ws.length<=1000)
 (h:aP G H pb s) (hb:pb<n) (hm:signs ws m f s=some (e,s')) (hk:ExK G pb H n s' e k):
 Runs F G SA [.ptr pb 0,v,.sl i o l cp 1] H n k:=by
 refine Am (s:=ar3 (MW lfp G)) QW (by obtain⟨h,o⟩:=nT Ap G;rw[QW]at h;cases h;exact o) ?_
 show MW lfp G (Runs F G) (.ptr pb 0) v (.sl i o l cp 1) H n k
 delta MW
 have x:=Fr.refl h hb
 refine Az rfl λH1 f1 g1=>?_
 have x:=x.al f1
 unfold signs at hm
 rw[Option.bind_eq_some_iff]at hm
 obtain⟨⟨e1,s1⟩,h1,hm⟩:=hm
 have hm:wZ ws m f e1 s1=some (e,s'):=hm
 refine hf s H1 (n+1) s1 e1 _ x.p x.lt (hbs.fr x) h1 λH2 n2 c y hx=>?_
 have x:=x.tr y
 have g1:=y.get g1 (by omega) hb
 have hn2:=y.le
 refine Az rfl λH3 f3 g3=>?_
 have x:=x.al f3
 have g1:=f3.get g1 (by omega)
 refine CG g3 rfl hx.len (by omega) λH4 g4 s4=>?_
 have x:=x.st (by omega) s4
 have g1:=(s4 n (by omega)).trans g1
 have hx:EO G H4 (Al n (n2+1) n2) c e1:=hx.mono (λid h=>⟨by have:=h.1;omega,by have:=h.2;omega,by have:=h.2;omega⟩) λid h=>(s4 id (by have:=h.2;omega)).trans (f3.same id h.2)
 refine O3 (J:=λg q=>∃H' n' t c e1,q=(.ptr pb 0,v,.sl i o l cp 1,.ptr n 0,.ptr n2 0,H',n')/\Fr G pb H n H' n' t/\n2<n'/\T.get H' n=some (one exZ)/\T.get H' n2=some (one c)/\EO G H' (Al n n' n2) c e1/\wZ ws m g e1 t=some (e,s')) ?_ (m:=f)
  ⟨H4,n2+1,s1,c,e1,rfl,x,by omega,g1,g4,hx,hm⟩
 rintro I g q ⟨H5,n5,t,c,e1,rfl,x,hn5,g1,g4,hx,hm⟩ ih
 show Ot lfp G (Runs F G) k I (.ptr pb 0) v (.sl i o l cp 1) (.ptr n 0) (.ptr n2 0) H5 n5
 delta Ot
 cases g with
 |zero=>cases hm
 |succ g=>
  have hm:(bif Kw ws t then(N7 t).bind λs1=>(m s1).bind λp=>wZ ws m g (.mk 16 0 t.t.text [] false [e1,p.1]) p.2 else some (e1,t))=some (e,s'):=hm
  refine AZQ x.p (hv.same λj hj=>by cases Em hj;exact x.f.same _ hin (by omega)) hw ?_
  cases hi:Kw ws t with
  |false=>
   rw[hi]at hm
   cases hm
   rw[Aq]
   delta Ox
   exact yQ x g1 rfl g4 (Nat.le_refl _) hx (λid h=>⟨by have:=h.1;omega,h.2.1,by have:=h.1;omega⟩) hk
  |true=>
   rw[hi,cond_true,Option.bind_eq_some_iff]at hm
   obtain⟨t1,h1,hm⟩:=hm
   rw[Option.bind_eq_some_iff]at hm
   obtain⟨⟨e2,t2⟩,h2,hm⟩:=hm
   rw[Ah]
   refine eF x.p x.lt h1 λH7 n7 line col _ _ y=>?_
   have x:=x.tr y
   have hn7:=y.le
   have g1:=y.get g1 (by omega) hb
   have g4:=y.get g4 (by omega) (by omega)
   have hx:EO G H7 (Al n n7 n2) c e1:=hx.mono (λid h=>⟨h.1,by have:=h.2.1;omega,h.2.2⟩) λid h=>y.f.same id h.2.1 (by have:=h.1;omega)
   refine Az rfl λH8 f8 g8=>?_
   have x:=x.al f8
   refine CG g8 rfl (L:=VR t.t line col) rfl (by omega) λH9 g9 s9=>?_
   have x:=x.st (by omega) s9
   have g1:=(s9 n (by omega)).trans (f8.get g1 (by omega))
   have g4:=(s9 n2 (by omega)).trans (f8.get g4 (by omega))
   have hx:EO G H9 (Al n n7 n2) c e1:=hx.mono (λid h=>h) λid h=>(s9 id (by have:=h.2.1;omega)).trans (f8.same id h.2.1)
   rw[AZ,Au,AZ]
   simp only[Nat.zero_add]
   rw[OZ (m:=2) (o:=3) g9 (by omega) (by show 3+2<=5;omega),Au,Au,AQ (off:=1) g9 (v:=sB t.t.text) rfl,Au,Ai (m:=11) g4 (by omega) hx.len,Au]
   refine hf _ H9 (n7+1) _ _ _ x.p x.lt (hbs.fr x) h2 λH10 n10 c2 y hx2=>?_
   have x:=x.tr y
   have hn10:=y.le
   have g1:=y.get g1 (by omega) hb
   have g4:=y.get g4 (by omega) (by omega)
   have g9:=y.get g9 (by omega) (by omega)
   rw[OZ (m:=2) (o:=3) g9 (by omega) (by show 3+2<=5;omega),Au,AQ (off:=1) g9 (v:=sB t.t.text) rfl,Au,Ai (m:=11) g4 (by omega) hx.len]
   refine Cc (Yt ..) (Cc (VK _) (Cc hx.vs ?_))
   refine J9 (G:=G) (vs:=[.agg c,.agg c2]) rfl (by omega) (λv hv=>by simp at hv;rcases hv with rfl|rfl;exact⟨rfl,hx.len⟩;exact⟨rfl,hx2.len⟩) λH11 f11 _ hel=>?_
   have x:=x.al f11
   have g1:=f11.get g1 (by omega)
   have g4:=f11.get g4 (by omega)
   refine(show ∀{P:V->Prop},P _->AP (Bh exZ [(0,1,.c (.int .i64 (.ofNat 16) 0)),(1,2,.c (.agg [.int .i64 (.ofNat line) 0,.int .i64 (.ofNat col) 0])),(4,1,.c (sB t.t.text)),(7,1,.c (.sl n10 0 2 2 11))]) P from λh=>by rw[AHg];exact h) ?_
   refine CG g4 hx.len rfl (by omega) λH12 g12 s12=>?_
   have x:=x.st (by omega) s12
   refine ih g _ (by omega) ⟨H12,n10+1,t2,_,.mk 16 0 t.t.text [] false [e1,e2],rfl,x,by omega,(s12 n (by omega)).trans g1,g12,?_,hm⟩
   refine .mk 16 0 t.t.text [] false line col (hel.same λid hid=>s12 id (by cases Em hid;omega)) (Wy (by omega)) (λid hid=>⟨by cases Em hid;omega,by cases Em hid;omega,by cases Em hid;omega⟩) ?_
   refine .cons (hx.mono (λid h=>⟨h.1,by have:=h.2.1;omega,h.2.2⟩) λid h=>?_) (.cons (hx2.mono (λid h=>⟨by have:=h.1;omega,by have:=h.2;omega,by have:=h.1;omega⟩) λid h=>?_) .nil)
   ·have h1:=h.1;have h2:=h.2.1
    exact(s12 id h.2.2).trans ((f11.same id (by omega)).trans (y.f.same id (by omega) (by omega)))
   ·have h1:=h.1;have h2:=h.2
    exact(s12 id (by omega)).trans (f11.same id h2)
end
section
variable{G:AV}{pb:Nat}
theorem one1{H:Heap}{n b:Nat}(h:Bxs H n pb [b]):pb<b/\b<n/\T.get H b=some (one [.ptr pb 0]):=h b (List.mem_cons_self ..)
theorem AVT{un:PM Ex}{f b:Nat}(hf:FnC G pb [] un (.fn Dj [.ptr pb 0] [])):FnC G pb [b] (signs [XZ,Sv,qF] un f) (.fn KY [] [.ptr b 0]):=by
 intro s H n s' e k h hb hbs hm hk
 rw[uQ]
 show Runs F G KY [.ptr b 0] H n k
 refine Am (s:=Ho (IE lfp G)) KH (by obtain⟨h,o⟩:=Yx Ap G;rw[KH]at h;cases h;exact o) ?_
 show IE lfp G (Runs F G) (.ptr b 0) H n k
 delta IE
 obtain⟨b1,b2,b3⟩:=one1 hbs
 have x:=Fr.refl h hb
 refine Az rfl λH1 f1 g1=>?_
 have x:=x.al f1
 have b3:=f1.get b3 b2
 have q:AX (.ptr b 0) G H1=some (.ptr pb 0):=AQ b3 rfl
 rw[q,Au,Au]
 refine dW (G:=G) (ws:=[XZ,Sv,qF]) rfl λH2 f2 hel=>?_
 have x:=x.al f2
 have g1:=f2.get g1 (by omega)
 refine AMd hf Bxs.nil hel (by omega) (by omega) (by show 3<=1000;omega) x.p x.lt hm λH3 n3 c y hx=>?_
 have hn:=y.le
 exact ALO (x.tr y) (y.get g1 (by omega) hb) rfl (Nat.le_refl _) hx (λid h=>⟨by have:=h.1;omega,h.2,by have:=h.1;omega⟩) hk
theorem AU7{un:PM Ex}{f b:Nat}(hf:FnC G pb [] un (.fn Dj [.ptr pb 0] [])):FnC G pb [b] (sumP un f) (.fn Iz [] [.ptr b 0]):=by
 intro s H n s' e k h hb hbs hm hk
 rw[uQ]
 show Runs F G Iz [.ptr b 0] H n k
 refine Am (s:=Ho (I4 lfp G)) LG (by obtain⟨h,o⟩:=aF Ap G;rw[LG]at h;cases h;exact o) ?_
 show I4 lfp G (Runs F G) (.ptr b 0) H n k
 delta I4
 obtain⟨b1,b2,b3⟩:=one1 hbs
 have x:=Fr.refl h hb
 refine Az rfl λH1 f1 g1=>?_
 have x:=x.al f1
 have b3:=f1.get b3 b2
 have q:AX (.ptr b 0) G H1=some (.ptr pb 0):=AQ b3 rfl
 rw[q,Au]
 refine dW (G:=G) (ws:=[Zt,Dv]) rfl λH2 f2 hel=>?_
 have x:=x.al f2
 have g1:=f2.get g1 (by omega)
 refine AMd (AVT hf) (λj hj=>by simp at hj;subst hj;exact⟨b1,by omega,f2.get b3 (by omega)⟩) hel (by omega) (by omega) (by show 2<=1000;omega) x.p x.lt hm λH3 n3 c y hx=>?_
 have hn:=y.le
 exact ALO (x.tr y) (y.get g1 (by omega) hb) rfl (Nat.le_refl _) hx (λid h=>⟨by have:=h.1;omega,h.2,by have:=h.1;omega⟩) hk
theorem AKs{un:PM Ex}{f:Nat}(hf:FnC G pb [] un (.fn Dj [.ptr pb 0] [])):FnC G pb [] (compared un f) (.fn Om [.ptr pb 0] []):=by
 intro s H n s' e k h hb hbs hm hk
 rw[uQ]
 show Runs F G Om [.ptr pb 0] H n k
 refine Am (s:=Ho (J7 lfp G)) Nq (by obtain⟨h,o⟩:=eY Ap G;rw[Nq]at h;cases h;exact o) ?_
 show J7 lfp G (Runs F G) (.ptr pb 0) H n k
 delta J7
 unfold compared at hm
 rw[Option.bind_eq_some_iff]at hm
 obtain⟨⟨e1,t⟩,h1,hm⟩:=hm
 have hm:(bif Kw [Yk,nJ,V9,nD] t then(N7 t).bind λs1=>(sumP un f s1).bind λq=>some (.mk 16 0 t.t.text [] false [e1,q.1],q.2)else some (e1,t))=some (e,s'):=hm
 have x:=Fr.refl h hb
 refine AJm rfl λH0 f0 g0=>?_
 have x:=x.al f0
 have g0:T.get H0 n=some (one [.ptr pb 0]):=g0
 refine Az rfl λH1 f1 g1=>?_
 have x:=x.al f1
 have g0:=f1.get g0 (by omega)
 refine AU7 (b:=n) hf _ H1 (n+1+1) _ _ _ x.p x.lt (λj hj=>by simp at hj;subst hj;exact⟨hb,by omega,g0⟩) h1 λH2 n2 c y hx=>?_
 have x:=x.tr y
 have g0:=y.get g0 (by omega) hb
 have g1:=y.get g1 (by omega) (by omega)
 have hn2:=y.le
 refine Az rfl λH3 f3 g3=>?_
 have x:=x.al f3
 have g0:=f3.get g0 (by omega)
 have g1:=f3.get g1 (by omega)
 refine CG g3 rfl hx.len (by omega) λH4 g4 s4=>?_
 have x:=x.st (by omega) s4
 have g0:=(s4 n (by omega)).trans g0
 have g1:=(s4 (n+1) (by omega)).trans g1
 have hx:EO G H4 (Al (n+1) (n2+1) n2) c e1:=hx.mono (λid h=>⟨by have:=h.1;omega,by have:=h.2;omega,by have:=h.2;omega⟩) λid h=>(s4 id (by have:=h.2;omega)).trans (f3.same id h.2)
 have q:AX (.ptr n 0) G H4=some (.ptr pb 0):=AQ g0 rfl
 rw[q,Au]
 refine vT (ws:=[Yk,nJ,V9,nD]) x.p x.lt rfl (by show 4<=1000;omega) λH6 n6 y=>?_
 have x:=x.tr y
 have hn6:=y.le
 have g0:=y.get g0 (by omega) hb
 have g1:=y.get g1 (by omega) (by omega)
 have g4:=y.get g4 (by omega) (by omega)
 have hx:EO G H6 (Al (n+1) n6 n2) c e1:=hx.mono (λid h=>⟨h.1,by have:=h.2.1;omega,h.2.2⟩) λid h=>y.f.same id h.2.1 (by have:=h.1;omega)
 cases hi:Kw [Yk,nJ,V9,nD] t with
 |false=>
  rw[hi]at hm
  cases hm
  rw[Aq]
  delta Fj
  exact yQ x g1 rfl g4 (by omega) hx (λid h=>⟨by have:=h.1;omega,h.2.1,by have:=h.1;omega⟩) hk
 |true=>
  rw[hi,cond_true,Option.bind_eq_some_iff]at hm
  obtain⟨t1,h1,hm⟩:=hm
  rw[Option.bind_eq_some_iff]at hm
  obtain⟨⟨e2,t2⟩,h2,hm⟩:=hm
  cases hm
  have q:AX (.ptr n 0) G H6=some (.ptr pb 0):=AQ g0 rfl
  rw[Ah,q,Au]
  refine eF x.p x.lt h1 λH7 n7 line col _ _ y=>?_
  have x:=x.tr y
  have hn7:=y.le
  have g0:=y.get g0 (by omega) hb
  have g1:=y.get g1 (by omega) (by omega)
  have g4:=y.get g4 (by omega) (by omega)
  have hx:EO G H7 (Al (n+1) n7 n2) c e1:=hx.mono (λid h=>⟨h.1,by have:=h.2.1;omega,h.2.2⟩) λid h=>y.f.same id h.2.1 (by have:=h.1;omega)
  refine Az rfl λH8 f8 g8=>?_
  have x:=x.al f8
  refine CG g8 rfl (L:=VR t.t line col) rfl (by omega) λH9 g9 s9=>?_
  have x:=x.st (by omega) s9
  have g0:=(s9 n (by omega)).trans (f8.get g0 (by omega))
  have g1:=(s9 (n+1) (by omega)).trans (f8.get g1 (by omega))
  have g4:=(s9 n2 (by omega)).trans (f8.get g4 (by omega))
  have hx:EO G H9 (Al (n+1) n7 n2) c e1:=hx.mono (λid h=>h) λid h=>(s9 id (by have:=h.2.1;omega)).trans (f8.same id h.2.1)
  rw[AZ,Au,AZ]
  simp only[Nat.zero_add]
  rw[OZ (m:=2) (o:=3) g9 (by omega) (by show 3+2<=5;omega),Au,Au,AQ (off:=1) g9 (v:=sB t.t.text) rfl,Au,Ai (m:=11) g4 (by omega) hx.len,Au]
  refine AU7 (b:=n) hf _ H9 (n7+1) _ _ _ x.p x.lt (λj hj=>by simp at hj;subst hj;exact⟨hb,by omega,g0⟩) h2 λH10 n10 c2 y hx2=>?_
  have x:=x.tr y
  have hn10:=y.le
  have g1:=y.get g1 (by omega) (by omega)
  have g4:=y.get g4 (by omega) (by omega)
  have g9:=y.get g9 (by omega) (by omega)
  rw[OZ (m:=2) (o:=3) g9 (by omega) (by show 3+2<=5;omega),Au,AQ (off:=1) g9 (v:=sB t.t.text) rfl,Au,Ai (m:=11) g4 (by omega) hx.len]
  refine Cc (Yt ..) (Cc (VK _) (Cc hx.vs ?_))
  refine J9 (G:=G) (vs:=[.agg c,.agg c2]) rfl (by omega) (λv hv=>by simp at hv;rcases hv with rfl|rfl;exact⟨rfl,hx.len⟩;exact⟨rfl,hx2.len⟩) λH11 f11 _ hel=>?_
  have x:=x.al f11
  have g1:=f11.get g1 (by omega)
  have g4:=f11.get g4 (by omega)
  refine(show ∀{P:V->Prop},P _->AP (Bh exZ [(0,1,.c (.int .i64 (.ofNat 16) 0)),(1,2,.c (.agg [.int .i64 (.ofNat line) 0,.int .i64 (.ofNat col) 0])),(4,1,.c (sB t.t.text)),(7,1,.c (.sl n10 0 2 2 11))]) P from λh=>by rw[AHg];exact h) ?_
  refine CG g4 hx.len rfl (by omega) λH12 g12 s12=>?_
  have x:=x.st (by omega) s12
  delta Fj
  refine yQ (A:=Al (n+1) (n10+1) n2) (e:=.mk 16 0 t.t.text [] false [e1,e2]) x ((s12 (n+1) (by omega)).trans g1) rfl g12 (by omega) ?_ (λid h=>⟨by have:=h.1;omega,h.2.1,by have:=h.1;omega⟩) hk
  refine .mk 16 0 t.t.text [] false line col (hel.same λid hid=>s12 id (by cases Em hid;omega)) (Wy (by omega)) (λid hid=>⟨by cases Em hid;omega,by cases Em hid;omega,by cases Em hid;omega⟩) ?_
  refine .cons (hx.mono (λid h=>⟨h.1,by have:=h.2.1;omega,h.2.2⟩) λid h=>?_) (.cons (hx2.mono (λid h=>⟨by have:=h.1;omega,by have:=h.2;omega,by have:=h.1;omega⟩) λid h=>?_) .nil)
  ·have h1:=h.1;have h2:=h.2.1
   exact(s12 id h.2.2).trans ((f11.same id (by omega)).trans (y.f.same id (by omega) (by omega)))
  ·have h1:=h.1;have h2:=h.2
   exact(s12 id (by omega)).trans (f11.same id h2)
theorem ATd{un:PM Ex}{f b:Nat}(hf:FnC G pb [] un (.fn Dj [.ptr pb 0] [])):FnC G pb [b] (either 17 NP (compared un f) f) (.fn Qg [] [.ptr b 0]):=by
 intro s H n s' e k h hb hbs hm hk
 rw[uQ]
 show Runs F G Qg [.ptr b 0] H n k
 refine Am (s:=Ho (Le lfp G)) PW (by obtain⟨h,o⟩:=lQ Ap G;rw[PW]at h;cases h;exact o) ?_
 show Le lfp G (Runs F G) (.ptr b 0) H n k
 delta Le
 obtain⟨b1,b2,b3⟩:=one1 hbs
 have x:=Fr.refl h hb
 refine Az rfl λH1 f1 g1=>?_
 have x:=x.al f1
 have b3:=f1.get b3 b2
 have q:AX (.ptr b 0) G H1=some (.ptr pb 0):=AQ b3 rfl
 rw[q,Au,Au,AYz]
 refine AIv (AKs hf) Bxs.nil x.p x.lt hm λH3 n3 c y hx=>?_
 have hn:=y.le
 exact ALO (x.tr y) (y.get g1 (by omega) hb) rfl (Nat.le_refl _) hx (λid h=>⟨by have:=h.1;omega,h.2,by have:=h.1;omega⟩) hk
theorem ASm{rec:PM Ex}{f:Nat}{s s':S}{H:Heap}{n:Nat}{e:Ex}{k:KV}(hf:FnC G pb [] (unary rec f) (.fn Dj [.ptr pb 0] []))(h:aP G H pb s)(hb:pb<n)(hm:AIM rec f s=some (e,s'))(hk:ExK G pb H n s' e k):
 Runs F G Ci [.ptr pb 0] H n k:=by
 refine Am (s:=Ho (OI lfp G)) RN (by obtain⟨h,o⟩:=ru Ap G;rw[RN]at h;cases h;exact o) ?_
 show OI lfp G (Runs F G) (.ptr pb 0) H n k
 delta OI
 unfold AIM at hm
 rw[Option.bind_eq_some_iff]at hm
 obtain⟨s1,h1,hm⟩:=hm
 rw[Option.bind_eq_some_iff]at hm
 obtain⟨⟨e1,s2⟩,h2,hm⟩:=hm
 rw[Option.bind_eq_some_iff]at hm
 obtain⟨s3,h3,hm⟩:=hm
 cases hm
 have x:=Fr.refl h hb
 refine AJm rfl λH0 f0 g0=>?_
 have x:=x.al f0
 have g0:T.get H0 n=some (one [.ptr pb 0]):=g0
 refine Az rfl λH1 f1 g1=>?_
 have x:=x.al f1
 have g0:=f1.get g0 (by omega)
 have q:AX (.ptr n 0) G H1=some (.ptr pb 0):=AQ g0 rfl
 rw[q,Au]
 refine AHf x.p x.lt h1 λH2 n2 q y hq1 hq2 hq3=>?_
 have x:=x.tr y
 have g0:=y.get g0 (by omega) hb
 have g1:=y.get g1 (by omega) (by omega)
 rw[ADQ]
 have q':AX (.ptr n 0) G H2=some (.ptr pb 0):=AQ g0 rfl
 rw[q',Au,AaJ]
 refine AIv (ATd (b:=n) hf) (λj hj=>by simp at hj;subst hj;exact⟨hb,by omega,g0⟩) x.p x.lt h2 λH3 n3 c y hx=>?_
 have x:=x.tr y
 have g1:=y.get g1 (by omega) (by omega)
 have hq3:=y.get hq3 hq2 (by omega)
 have hn3:=y.le
 refine CG g1 rfl hx.len (by omega) λH4 g4 s4=>?_
 have x:=x.st (by omega) s4
 have hx:EO G H4 (Rg n2 n3) c e1:=hx.mono (λid h=>h) λid h=>s4 id (by have:=h.1;omega)
 refine AR7 x.p x.lt ((s4 q (by omega)).trans hq3) h3 λH5 n5 y=>?_
 have x:=x.tr y
 have g4:=y.get g4 (by omega) (by omega)
 have hn5:=y.le
 rw[DX (m:=11) g4 (by omega) hx.len]
 simp only[go_sem]
 exact hk _ _ _ x (hx.mono (λid h=>⟨by have:=h.1;omega,by have:=h.2;omega⟩) λid h=>y.f.same id h.2 (by have:=h.1;omega))
end
theorem AIV{G:AV}{H:Heap}{n id m z bs:Nat}{t:T LV}{w:V}{LS NS:D5}{k:KV}(hz:0<z)(hb:T.get H id=some (.arr z m t))(hid:id<n)(h:elems (.sl id 0 m m z) G H z=some LS)
 (hw:elems w G H z=some NS) (hr:(m+NS.length)*bs<=140737488355328)
 (hk:∀v' H' n',El G H' v' z (LS++NS)->(∀j,j<n->T.get H' j=T.get H j)->n<=n'->((∃l,v'=.sl id 0 l m z/\l<=m)∨∃l,v'=.O5 n 0 l z/\n<n')->k v' H' n'):X0 z bs (.sl id 0 m m z) w G H n k:=by
 unfold X0
 rw[hw,vW]
 have h2:(Bool.rec (motive:=λ_=>Option D5) none (DK H id z m 0) (Nat.beq z z):Option D5)=some LS:=h
 rw[Es]at h2
 have h2:DK H id z m 0=some LS:=h2
 obtain⟨hl,hat⟩:=P8 _ _ h2
 have e0:AJf (.sl id 0 m m z) G z bs NS H n k=Bool.rec (motive:=λ_=>Prop) (IV (DK H id z m 0) λOS=>PK z bs OS NS H n k) (IV (T.get H id) λb=>ADw id 0 m m z (m+NS.length) NS H n k b) (Nat.ble (m+NS.length) m):=by
  show En (Nat.beq z z) (Ea (Nat.add m (len NS)) λneed=>Bool.rec (motive:=λ_=>Prop) (IV (DK H id z m 0) λOS=>PK z bs OS NS H n k) (IV (T.get H id) λb=>ADw id 0 m m z need NS H n k b) (Nat.ble need m))=_
  rw[Es,qR,CO,len_eq];rfl
 rw[e0]
 by_cases hN:NS.length=0
 ·have:NS=[]:=List.length_eq_zero_iff.1 hN
  subst this
  rw[show Nat.ble (m+([]:D5).length) m=true by rw[Nat.ble_eq];exact Nat.le_refl _]
  show IV (T.get H id) (λb=>ADw id 0 m m z (m+0) [] H n k b)
  rw[hb,vW]
  show En (band (Nat.beq z z) (Nat.ble (Nat.add 0 (m+0)) m)) (k (.sl id 0 (m+0) m z) (T.set H id (.arr z m t)) n)
  rw[Es,show Nat.ble (Nat.add 0 (m+0)) m=true by rw[Nat.ble_eq];show 0+m<=m;omega]
  have hs:∀j,T.get (T.set H id (.arr z m t)) j=T.get H j:=λj=>by
   rw[T.Ry];split
   ·rename_i e;subst e;exact hb.symm
   ·rfl
  rw[List.append_nil]at hk
  exact hk _ _ _ ((show El G H (.sl id 0 m m z) z LS from⟨rfl,h⟩).same λj _=>hs j) (λj _=>hs j) (Nat.le_refl _) (.inl ⟨_,rfl,Nat.le_refl _⟩)
 ·rw[show Nat.ble (m+NS.length) m=false by rw[Bool.eq_false_iff];intro hc;rw[Nat.ble_eq]at hc;omega]
  show IV (DK H id z m 0) (λOS=>PK z bs OS NS H n k)
  rw[h2,vW]
  show Ea (Nat.add (len LS) (len NS)) (λneed=>En (Qk need bs) (Ea n λn=>k (.O5 n 0 need z) (T.set H n (.arr z need (GH NS (len LS) (GH LS 0 .e)))) (Nat.succ n)))
  rw[CO,CO,len_eq,len_eq,show Qk (Nat.add LS.length NS.length) bs=true from Zm (by rw[hl];exact hr),qR]
  have e:Nat.add LS.length NS.length=(LS++NS).length:=by rw[List.length_append];rfl
  rw[e]
  refine hk _ _ _ (Gr.el (m:=n) (.O5 (LS:=LS++NS) (T.DJ ..) (Nat.le_refl _) (λi L hi=>?_) (Nat.le_refl _)) hz) (λj hj=>T.BA _ _ (by omega)) (by omega) (.inr ⟨_,rfl,by omega⟩)
  rw[FY,FY]
  by_cases hlt:i<LS.length
  ·rw[if_neg (by omega),if_pos ⟨Nat.zero_le _,by omega⟩]
   rw[List.getElem?_append_left hlt]at hi
   exact hi
  ·rw[List.getElem?_append_right (by omega)]at hi
   have hlt2:=(List.getElem?_eq_some_iff.1 hi).1
   rw[if_pos ⟨by omega,by omega⟩];exact hi
theorem ADS{G:AV}{H:Heap}{m n z bs:Nat}{v w:V}{LS NS:D5}{k:KV}(h:Gr G H m z v LS)(hm:m<=n)(hn:∀id,v.Qa=some id->id<n)(hw:elems w G H z=some NS)
 (hb:(LS.length+NS.length)*bs<=140737488355328)
 (hk:∀v' H',Gr G H' m z v' (LS++NS)->(∀id,id<n->v.Qa≠some id->T.get H' id=T.get H id)->(∀id,v'.Qa=some id->id=n)->k v' H' (n+1))
 (hk0:NS=[]->k v H n):X0 z bs v w G H n k:=by
 unfold X0
 rw[hw,vW]
 cases h with
 |nil=>
  cases NS with
  |nil=>exact hk0 rfl
  |cons a NS=>
   show PK z bs [] (a::NS) H n k
   unfold PK
   rw[CO,CO,len_eq,len_eq,show Qk (Nat.add ([]:D5).length (a::NS).length) bs=true from Zm hb,qR]
   have e:Nat.add ([]:D5).length (a::NS).length=(a::NS).length:=Nat.zero_add _
   rw[e]
   refine hk _ _ ?_ (λid hid _=>T.BA _ _ (by omega)) (λid hid=>by cases hid;rfl)
   refine .O5 (LS:=a::NS) (T.DJ ..) (Nat.le_refl _) (λi L hi=>?_) hm
   show T.get (GH (a::NS) 0 .e) i=some L
   have hlt:=(List.getElem?_eq_some_iff.1 hi).1
   rw[FY,if_pos ⟨Nat.zero_le _,by omega⟩];exact hi
 |O5 hg hc ht hid=>
  rename_i id c t
  show En (Nat.beq z z) _
  rw[Es,qR]
  cases NS with
  |nil=>exact hk0 rfl
  |cons a NS=>
   show IV (T.get H id) (λb=>bG id 0 LS.length z bs (a::NS) H n k b)
   rw[hg,vW]
   rw[AJp (Zm hb) hc,show LS.length+(a::NS).length=(LS++a::NS).length by rw[List.length_append]]
   refine hk _ _ ?_ (λj hj hne=>?_) (λj hj=>by cases hj;rfl)
   ·refine .O5 (LS:=LS++a::NS) (T.DJ ..) (Nat.le_refl _) (λi L hi=>?_) hm
    rw[FY]
    by_cases hlt:i<LS.length
    ·rw[if_neg (by omega)]
     rw[List.getElem?_append_left hlt]at hi
     exact ht i L hi
    ·rw[List.getElem?_append_right (by omega)]at hi
     have hlt2:=(List.getElem?_eq_some_iff.1 hi).1
     rw[if_pos ⟨by omega,by omega⟩];exact hi
   ·rw[T.BA _ _ (by omega),T.BA _ _ (by intro e;subst e;exact hne rfl)]
def fO(G:AV)(H:Heap)(A:Nat->Prop)(v:V)(es:List Ex):Prop:=∃cs,El G H v 11 cs/\KS v/\kD v=true/\CZ v=[v]/\(∀id,v.Qa=some id->A id)/\O4 G H A cs es
def EsK(G:AV)(pb:Nat)(H:Heap)(n:Nat)(s':S)(es:List Ex)(k:KV):Prop:=∀H' n' v,Fr G pb H n H' n' s'->fO G H' (Rg n n') v es->es.length<=201->k v H' n'
def AKc(G:AV)(pb:Nat)(rec:PM Ex):Prop:=∀(s:S) (H:Heap) (n:Nat) (s':S) (e:Ex) (k:KV),aP G H pb s->pb<n->rec s=some (e,s')->ExK G pb H n s' e k->Runs F G Ci [.ptr pb 0] H n k
theorem QL{G:AV}{H:Heap}{m z:Nat}{v:V}{LS:D5}(h:Gr G H m z v LS):KS v/\kD v=true/\CZ v=[v]:=by
 cases h with
 |nil=>exact⟨dB,rfl,rfl⟩
 |O5=>exact⟨AKU ..,rfl,rfl⟩
section
variable{G:AV}{pb:Nat}{H:Heap}{n:Nat}{s s':S}
theorem AAE{w:Bs}{B E:Heap->Nat->Prop}(h:aP G H pb s)(hb:pb<n)(h0:s.ok=false->E H n)
 (h1:s.ok=true->∃b s',C9 w s=some (b,s')/\∀H' n',Fr G pb H n H' n' s'->bif b then E H' n' else B H' n'):
 Runs F G EY [.ptr pb 0] H n λv5 H n=>Bd v5 true (some (.ptr pb 0)) λv6=>UO v5 true (Runs F G Ak [v6,sB w] H n) H n λv7 H n=>Bd v5 true (Vb v7) λv8=>AP (DZ v5 v8 (.bool false)) λv9=>Ac v9 true (B H n) (E H n):=by
 refine ANj h ?_
 cases ho:s.ok with
 |false=>simp only[go_sem];exact h0 ho
 |true=>
  obtain⟨b,s',h2,h3⟩:=h1 ho
  simp only[go_sem]
  refine Oq h hb h2 λH' n' y=>?_
  have:=h3 H' n' y
  cases b<;>simp only[go_sem,MF,Bool.not_true,Bool.not_false]<;>exact this
theorem EO.ok{A:Nat->Prop}{c:LV}{e:Ex}(h:EO G H A c e):kD (.agg c)=true/\(CZ (.agg c)).length=11:=⟨rfl,h.len⟩
theorem ARN{rec:PM Ex}{f:Nat}{es:List Ex}{k:KV}(hr:AKc G pb rec)(h:aP G H pb s)(hb:pb<n)(hm:dU rec f s=some (es,s'))(hk:EsK G pb H n s' es k):Runs F G Tq [.ptr pb 0] H n k:=by
 refine Am (s:=Ho (Oj lfp G)) Rj (by obtain⟨h,o⟩:=tu Ap G;rw[Rj]at h;cases h;exact o) ?_
 show Oj lfp G (Runs F G) (.ptr pb 0) H n k
 delta Oj
 unfold dU at hm
 rw[Option.bind_eq_some_iff]at hm
 obtain⟨s1,h1,hm⟩:=hm
 refine LM (ws:=[BG]) h hb rfl (by show 1<=1000;omega) h1 λH1 n1 x=>?_
 refine O3 (J:=λg q=>∃H' n' t v cs out,q=(.ptr pb 0,v,H',n')/\Fr G pb H n H' n' t/\Own G H' n n' 11 v cs/\O4 G H' (λid=>n<=id/\id<n'/\v.Qa≠some id) cs out/\(t.ok=true->out.length<=200)/\out.length<=201/\VF rec g out t=some (es,s')) ?_ (m:=f)
  ⟨H1,n1,s1,.Ae,[],[],rfl,x,Xp,.nil,λ_=>Nat.zero_le _,Nat.zero_le _,hm⟩
 rintro I g q ⟨H2,n2,t,v,cs,out,rfl,x,ho,hc,hle,hle2,hm⟩ ih
 show Pv lfp G (Runs F G) k I (.ptr pb 0) v H2 n2
 delta Pv
 cases g with
 |zero=>cases hm
 |succ g=>
  have hm:(bif t.ok then(C9 BH t).bind λp=>bif p.1 then some (out,p.2)else
   (bif decide (0<out.length)then CJ [Ce] p.2 else some p.2).bind λs1=>(rec s1).bind λq=>VF rec g (out++[q.1]) (GZ (out.length+1) q.2)
   else some (out,t))=some (es,s'):=hm
  have hn2:=x.le
  have fin:∀{H3:Heap} {n3:Nat} {t3:S},Fr G pb H2 n2 H3 n3 t3->some (out,t3)=some (es,s')->Ku lfp G (Runs F G) k v H3 n3:=by
   intro H3 n3 t3 y he
   cases he
   delta Ku
   have ho3:=ho.kx y.f x.b
   refine hk _ _ _ (x.tr y) ⟨cs,ho3.el (by omega),(QL ho3.gr).1,(QL ho3.gr).2.1,(QL ho3.gr).2.2,λid hid=>⟨ho3.ge hid,ho3.lo id hid⟩,?_⟩ hle2
   exact hc.mono (λid h=>⟨h.1,by have:=h.2.1;have:=y.le;omega⟩) λid h=>y.f.same id h.2.1 (by have:=h.1;have:=x.b;omega)
  rw[AZZ]
  refine AAE x.p x.lt (λhf=>fin (Fr.refl x.p x.lt) (by rw[hf]at hm;exact hm)) λht=>?_
  rw[ht,cond_true,Option.bind_eq_some_iff]at hm
  obtain⟨⟨b,t2⟩,h2,hm⟩:=hm
  refine⟨b,t2,h2,λH3 n3 y=>?_⟩
  cases b with
  |true=>exact fin y hm
  |false=>
   show AP (lenV v) _
   have hm:((bif decide (0<out.length)then CJ [Ce] t2 else some t2).bind λs1=>(rec s1).bind λq=>VF rec g (out++[q.1]) (GZ (out.length+1) q.2))=some (es,s'):=hm
   rw[Option.bind_eq_some_iff]at hm
   obtain⟨t3,h3,hm⟩:=hm
   rw[Option.bind_eq_some_iff]at hm
   obtain⟨⟨e,t4⟩,h4,hm⟩:=hm
   have hlen:=hle ht
   have body:∀{H4:Heap} {n4:Nat},Fr G pb H2 n2 H4 n4 t3->Ht lfp G (Runs F G) k I (.ptr pb 0) v H4 n4:=by
    intro H4 n4 y
    delta Ht
    have ho4:=ho.kx y.f x.b
    have hc4:O4 G H4 (λid=>n<=id/\id<n4/\v.Qa≠some id) cs out:=hc.mono (λid h=>⟨h.1,by have:=h.2.1;have:=y.le;omega,h.2.2⟩) λid h=>y.f.same id h.2.1 (by have:=h.1;have:=x.b;omega)
    have x:=x.tr y
    refine hr _ _ _ _ _ _ x.p x.lt h4 λH5 n5 c y hx=>?_
    have hn4:=x.le
    have hpb:=x.b
    have x:=x.tr y
    have ho5:=ho4.kx y.f hpb
    have hc5:O4 G H5 (λid=>n<=id/\id<n4/\v.Qa≠some id) cs out:=hc4.mono (λid h=>h) λid h=>y.f.same id h.2.1 (by have:=h.1;omega)
    have hn5:=y.le
    refine J9 (G:=G) (vs:=[.agg c]) rfl (by omega) (λv hv=>by simp at hv;subst hv;exact hx.ok) λH6 f6 _ hel=>?_
    have x:=x.al f6
    have ho6:=ho5.kp f6
    refine ADS ho6.gr (by omega) ho6.lo hel.2 (by have:=hc.len;show(cs.length+1)*136<=_;omega) ?_ (λh=>by cases h)
    intro v' H7 hgr hsame hlo
    have hgr:Gr G H7 n 11 v' (cs++[c]):=hgr
    have f7:Fr G pb H n H7 (n5+1+1) t4:=⟨⟨by omega,λid hid hp=>(hsame id (by omega) (λh=>by have:=ho6.ge h;omega)).trans (x.f.same id hid hp)⟩,x.p.same λid hid=>hsame id (by omega) (λh=>by have:=ho6.ge h;omega),hpb⟩
    have hv4:∀id,v.Qa=some id->id<n4:=ho4.lo
    rw[(hgr.el (by omega)).len,Au,List.length_append,show cs.length+[c].length=out.length+1 by rw[hc.len];rfl]
    refine AHc f7.p f7.lt λH8 n8 y8=>?_
    have hn8:=y8.le
    refine ih g (_,_,H8,n8) (by omega) ⟨H8,n8,_,v',cs++[c],out++[e],rfl,f7.tr y8,?_,?_,?_,by rw[List.length_append];show out.length+1<=201;omega,hm⟩
    ·exact(show Own G H7 n (n5+1+1) 11 v' (cs++[c])from⟨hgr,λid hid=>by have:=hlo id hid;omega⟩).kx y8.f hpb
    ·refine(hc5.mono (λid h=>⟨h.1,by have:=h.2.1;omega,λhv=>by have:=hlo id hv;have:=h.2.1;omega⟩) λid h=>?_).app (.cons (hx.mono (λid h=>⟨by have:=h.1;omega,by have:=h.2;omega,λhv=>by have:=hlo id hv;have:=h.2;omega⟩) λid h=>?_) .nil)
     ·have h1:=h.1;have h2:=h.2.1
      exact(y8.f.same id (by omega) (by omega)).trans ((hsame id (by omega) h.2.2).trans (f6.same id (by omega)))
     ·have h1:=h.1;have h2:=h.2
      exact(y8.f.same id (by omega) (by omega)).trans ((hsame id (by omega) (λhv=>by have:=hv4 id hv;omega)).trans (f6.same id (by omega)))
    ·intro hok
     rw[List.length_append]
     unfold GZ at hok
     cases hd:decide (200<out.length+1)with
     |false=>have:=of_decide_eq_false hd;show out.length+1<=200;omega
     |true=>
      rw[hd]at hok
      exfalso
      unfold Gy at hok
      cases ho:t4.ok with
      |false=>rw[ho]at hok;simp[ho]at hok
      |true=>rw[ho]at hok;cases hok
   have hv3:=(ho.kx y.f x.b).el (by omega)
   rw[hv3.len,Au,hc.len,Ls,Au]
   cases hd:decide (0<out.length)with
   |false=>
    rw[hd]at h3
    cases h3
    rw[Aq]
    exact body y
   |true=>
    rw[hd]at h3
    have h3:CJ [Ce] t2=some t3:=h3
    rw[Ah]
    exact LM (ws:=[Ce]) y.p (by have:=y.le;have:=x.lt;omega) rfl (by show 1<=1000;omega) h3 λH4 n4 y4=>body (y.tr y4)
end
theorem AVe{kd:Nat}{x y:V}{nm:Bs}{id o l:Nat}:Bh exZ [(0,1,.c (.int .i64 (.ofNat kd) 0)),(1,2,.c (.agg [x,y])),(4,1,.c (sB nm)),(7,1,.c (.O5 id o l 11))]=
 some (.agg [.int .i64 (.ofNat kd) 0,x,y,.int .i64 (.ofNat 0) 0,sB nm,.str 0 0,.bool false,.O5 id o l 11,.str 0 0,.bool false,.str 0 0]):=rfl
theorem AXP{x y:V}:Bh exZ [(1,2,.c (.agg [x,y]))]=
 some (.agg [.int .i64 (.ofNat 0) 0,x,y,.int .i64 (.ofNat 0) 0,.str 0 0,.str 0 0,.bool false,.Ae,.str 0 0,.bool false,.str 0 0]):=rfl
theorem AB{e:Option V}{v:V}{P:V->Prop}(h:e=some v)(hp:P v):AP e P:=by rw[h];exact hp
section
variable{G:AV}{pb:Nat}{H:Heap}{n:Nat}{s s':S}{k:KV}
theorem AR4{t:Ty}(hk:∀H',Kp H n H' (n+1)->k (.bool (xH t)) H' (n+1)):Runs F G iV [.agg (tyC t)] H n k:=by
 refine Am (s:=Ho (TG lfp G)) V5 (by obtain⟨h,o⟩:=AAD Ap G;rw[V5]at h;cases h;exact o) ?_
 show TG lfp G (Runs F G) (.agg (tyC t)) H n k
 delta TG
 refine Dk λH1 f1 g1=>?_
 have q0:AX (.ptr n 0) G H1=some (sB t.nm):=AQ g1 rfl
 have q1:AX (.ptr n 1) G H1=some (.bool t.arr):=AQ g1 rfl
 have ne0:∀l:Bs,EZ (.one .str) true (sB l) (.str 0 0)=some (.bool (!decide (l=[]))):=λl=>ARr l []
 have hk:=hk _ f1
 unfold xH at hk
 simp only[go_sem,Nat.reduceAdd,q1,MF]
 cases ha:t.arr with
 |true=>
  rw[ha]at hk
  simp only[Bool.not_true]
  repeat (first|with_reducible refine AE1 ?_|with_reducible refine AJe ?_|with_reducible refine AFA ?_)
  exact hk
 |false=>
  rw[ha]at hk
  simp only[Bool.not_false,go_sem,Nat.reduceAdd,q0,ne0]
  cases hn:t.nm with
  |nil=>
   rw[hn]at hk
   simp only[decide_true,Bool.not_true]
   repeat (first|with_reducible refine AE1 ?_|with_reducible refine AJe ?_|with_reducible refine AFA ?_)
   exact hk
  |cons c l=>
   rw[hn]at hk q0
   have hk:k (.bool (great c)) H1 (n+1):=hk
   unfold great at hk
   have ix:Kz (sB (c::l)) (.int .i64 (.ofNat 0) 0)=some (.int .u8 (.ofNat c.toNat) 0):=AGA (l:=c::l) (i:=0) (by simp)
   simp only[show decide (c::l=[])=false from rfl,Bool.not_false,go_sem,Nat.reduceAdd,q0,ix,mO]
   cases h1:decide (65<=c.toNat)with
   |false=>rw[h1]at hk;simp only[go_sem];exact hk
   |true=>rw[h1]at hk;simp only[go_sem,Nat.reduceAdd,q0,ix,vO];exact hk
def AYq(G:AV)(pb:Nat)(H:Heap)(n:Nat)(A:Nat->Prop)(s':S)(e:Ex)(k:KV):Prop:=∀H' n' c,Fr G pb H n H' n' s'->EO G H' (λid=>A id∨Rg n n' id) c e->k (.agg c) H' n'
theorem ADB{H0 H:Heap}{n0 n r:Nat}{c L0:LV}{e:Ex}{A:Nat->Prop}(x:Fr G pb H0 n0 H n s')(gr:T.get H r=some (one L0))(hl:L0.length=11)(hr:n0<=r)(he:EO G H (λid=>A id∨(Rg n0 n id/\id≠r)) c e)(hA:∀id,A id->id<n0)
 (hk:AYq G pb H0 n0 A s' e k):CP 11 (.ptr r 0) (.agg c) H n λ_ H n=>IV (D6 [.cn (.ptr r 0) 11] G H) λl=>k (GN l) H n:=by
 refine CG gr hl he.len (by omega) λH1 g1 s1=>?_
 rw[DX (m:=11) g1 (by omega) he.len]
 simp only[go_sem]
 exact hk _ _ _ (x.st hr s1) (he.mono (λid h=>h.imp (λh=>h) λh=>h.1) λid h=>s1 id (by rcases h with h|h;have:=hA id h;omega;exact h.2))
theorem APZ{rec:PM Ex}{f:Nat}{e e':Ex}{c:LV}{A:Nat->Prop}{line col:Nat}(hr:AKc G pb rec)(hA:∀id,A id->pb<id/\id<n)(hx:EO G H A c e)(h:aP G H pb s)(hb:pb<n)(hm:ZY rec f e s=some (e',s'))(hk:AYq G pb H n A s' e' k):
 Runs F G Wn [.ptr pb 0,.agg c,.agg [.int .i64 (.ofNat line) 0,.int .i64 (.ofNat col) 0]] H n k:=by
 refine Am (s:=ar3 (Lm lfp G)) Pz (by obtain⟨h,o⟩:=kW Ap G;rw[Pz]at h;cases h;exact o) ?_
 show Lm lfp G (Runs F G) (.ptr pb 0) (.agg c) (.agg [.int .i64 (.ofNat line) 0,.int .i64 (.ofNat col) 0]) H n k
 delta Lm
 unfold ZY at hm
 rw[Option.bind_eq_some_iff]at hm
 obtain⟨⟨b,t⟩,h1,hm⟩:=hm
 have hm:(bif b then some ((.mk 13 0 [] [] false [e]:Ex),t)else(Jp 3 t).bind λq=>bif Kw [BG] q.2 then(dU rec f q.2).bind λa=>some (.mk 8 0 q.1 [] false (e::a.1),a.2)else some (.mk 7 0 q.1 [] false [e],q.2))=some (e',s'):=hm
 have x:=Fr.refl h hb
 refine Dk λH1 f1 g1=>?_
 have x:=x.al f1
 refine Dk λH2 f2 g2=>?_
 have x:=x.al f2
 have g1:=f2.get g1 (by omega)
 refine Az rfl λH3 f3 g3=>?_
 have x:=x.al f3
 have g1:=f3.get g1 (by omega)
 have g2:=f3.get g2 (by omega)
 have hx:EO G H3 A c e:=hx.mono (λid h=>h) λid h=>x.f.same id (hA id h).2 (by have:=(hA id h).1;omega)
 rw[show V.str 6 114849160783212=sB Hr from rfl]
 refine Oq x.p x.lt h1 λH4 n4 y=>?_
 have x:=x.tr y
 have hn4:=y.le
 have g1:=y.get g1 (by omega) hb
 have g2:=y.get g2 (by omega) (by omega)
 have g3:=y.get g3 (by omega) (by omega)
 have hx:EO G H4 A c e:=hx.mono (λid h=>h) λid h=>y.f.same id (by have:=(hA id h).2;omega) (by have:=(hA id h).1;omega)
 have mkOne:∀{H6:Heap} {m:Nat} {kd:Nat} {nm:Bs},EO G H6 A c e->n<=m->m≠n+1+1->El G H6 (.sl m 0 1 1 11) 11 [c]->EO G H6 (λid=>A id∨(Rg n (m+1) id/\id≠n+1+1)) (Ti kd 0 nm [] false line col (.sl m 0 1 1 11)) (.mk kd 0 nm [] false [e]):=by
  intro H6 m kd nm hx h1 h2 hel
  exact .mk kd 0 nm [] false line col hel (Wy (by omega)) (λid hid=>.inr (by cases Em hid;exact⟨⟨h1,by omega⟩,h2⟩)) (.cons (hx.mono (λid h=>.inl h) λid h=>rfl) .nil)
 cases b with
 |true=>
  cases hm
  rw[Ah,Ai (m:=2) g2 (by omega) rfl,Au,Ai (m:=11) g1 (by omega) hx.len,Au]
  refine J9 (G:=G) (vs:=[.agg c]) rfl (by omega) (λv hv=>by simp at hv;subst hv;exact hx.ok) λH6 f6 _ hel=>?_
  have x:=x.al f6
  have hx:EO G H6 A c e:=hx.mono (λid h=>h) λid h=>f6.same id (by have:=(hA id h).2;omega)
  refine AB AKZ ?_
  exact ADB x (f6.get g3 (by omega)) rfl (by omega) (mkOne (kd:=13) (nm:=[]) hx (by omega) (by omega) hel) (λid h=>(hA id h).2) hk
 |false=>
  rw[cond_false,Option.bind_eq_some_iff]at hm
  obtain⟨⟨nm,t2⟩,h2,hm⟩:=hm
  have hm:(bif Kw [BG] t2 then(dU rec f t2).bind λa=>some ((.mk 8 0 nm [] false (e::a.1):Ex),a.2)else some (.mk 7 0 nm [] false [e],t2))=some (e',s'):=hm
  rw[Aq]
  refine fU x.p x.lt h2 λH5 n5 y=>?_
  have x:=x.tr y
  have hn5:=y.le
  have g1:=y.get g1 (by omega) hb
  have g2:=y.get g2 (by omega) (by omega)
  have g3:=y.get g3 (by omega) (by omega)
  have hx:EO G H5 A c e:=hx.mono (λid h=>h) λid h=>y.f.same id (by have:=(hA id h).2;omega) (by have:=(hA id h).1;omega)
  refine vT (ws:=[BG]) x.p x.lt rfl (by show 1<=1000;omega) λH6 n6 y=>?_
  have x:=x.tr y
  have hn6:=y.le
  have g1:=y.get g1 (by omega) hb
  have g2:=y.get g2 (by omega) (by omega)
  have g3:=y.get g3 (by omega) (by omega)
  have hx:EO G H6 A c e:=hx.mono (λid h=>h) λid h=>y.f.same id (by have:=(hA id h).2;omega) (by have:=(hA id h).1;omega)
  rw[MF,Au]
  cases hi:Kw [BG] t2 with
  |false=>
   rw[hi]at hm
   cases hm
   rw[Bool.not_false,Ah,Ai (m:=2) g2 (by omega) rfl,Au,Ai (m:=11) g1 (by omega) hx.len,Au]
   refine J9 (G:=G) (vs:=[.agg c]) rfl (by omega) (λv hv=>by simp at hv;subst hv;exact hx.ok) λH7 f7 _ hel=>?_
   have x:=x.al f7
   have hx:EO G H7 A c e:=hx.mono (λid h=>h) λid h=>f7.same id (by have:=(hA id h).2;omega)
   refine AB AHg ?_
   exact ADB x (f7.get g3 (by omega)) rfl (by omega) (mkOne (kd:=7) (nm:=nm) hx (by omega) (by omega) hel) (λid h=>(hA id h).2) hk
  |true=>
   rw[hi,cond_true,Option.bind_eq_some_iff]at hm
   obtain⟨⟨es,t3⟩,h3,hm⟩:=hm
   cases hm
   rw[Bool.not_true,Aq,Ai (m:=2) g2 (by omega) rfl,Au,Ai (m:=11) g1 (by omega) hx.len,Au]
   refine J9 (G:=G) (vs:=[.agg c]) rfl (by omega) (λv hv=>by simp at hv;subst hv;exact hx.ok) λH7 f7 hb7 hel=>?_
   have x:=x.al f7
   have hx:EO G H7 A c e:=hx.mono (λid h=>h) λid h=>f7.same id (by have:=(hA id h).2;omega)
   have g1:=f7.get g1 (by omega)
   have g2:=f7.get g2 (by omega)
   have g3:=f7.get g3 (by omega)
   refine ARN hr x.p x.lt h3 λH8 n8 v y hes hle=>?_
   have x:=x.tr y
   have hn8:=y.le
   have g1:=y.get g1 (by omega) hb
   have g2:=y.get g2 (by omega) (by omega)
   have g3:=y.get g3 (by omega) (by omega)
   have hx:EO G H8 A c e:=hx.mono (λid h=>h) λid h=>y.f.same id (by have:=(hA id h).2;omega) (by have:=(hA id h).1;omega)
   rw[Ai (m:=2) g2 (by omega) rfl,Au,Ai (m:=11) g1 (by omega) hx.len,Au]
   refine Cc (Yt ..) (Cc hx.vs ?_)
   obtain⟨cs,he1,he2,he3,he4,he5,he6⟩:=hes
   obtain⟨t7,hb7⟩:=hb7
   have hel8:El G H8 (.sl n6 0 1 1 11) 11 [c]:=hel.same λid hid=>by cases Em hid;exact y.f.same _ (by omega) (by omega)
   refine AIV (by omega) ((y.f.same _ (by omega) (by omega)).trans hb7) (by omega) hel8.2 he1.2 ?_ ?_
   ·have:=he6.len;rw[this];omega
   intro v' H9 n9 hel9 hs9 hn9 hv'
   have x:Fr G pb H n H9 n9 t3:=⟨⟨by omega,λid hid hp=>(hs9 id (by omega)).trans (x.f.same id hid hp)⟩,x.p.same λid hid=>hs9 id (by omega),hb⟩
   have g2:=(hs9 (n+1) (by omega)).trans g2
   have g3:=(hs9 (n+1+1) (by omega)).trans g3
   rw[Ai (m:=2) g2 (by omega) rfl,Au]
   refine Cc (Yt ..) ?_
   have hcs:O4 G H9 (λid=>A id∨(Rg n n9 id/\id≠n+1+1)) ([c]++cs) (e::es):=by
    refine O4.cons (hx.mono (λid h=>.inl h) λid h=>hs9 id (by have:=(hA id h).2;omega)) ?_
    exact he6.mono (λid h=>.inr ⟨⟨by have:=h.1;omega,by have:=h.2;omega⟩,by have:=h.1;omega⟩) λid h=>hs9 id h.2
   have fin:∀w:V,El G H9 w 11 ([c]++cs)->KS w->(∀id,w.Qa=some id->n6<=id/\id<n9)->EO G H9 (λid=>A id∨(Rg n n9 id/\id≠n+1+1)) (Ti 8 0 nm [] false line col w) (.mk 8 0 nm [] false (e::es)):=λw h1 h2 h3=>
    .mk 8 0 nm [] false line col h1 h2 (λid hid=>.inr ⟨⟨by have:=(h3 id hid).1;omega,(h3 id hid).2⟩,by have:=(h3 id hid).1;omega⟩) hcs
   rcases hv' with⟨l,rfl,hl1⟩|⟨l,rfl,hn9'⟩
   ·refine AB AHg ?_
    exact ADB x g3 rfl (by omega) (fin _ hel9 (Wy hl1) λid hid=>by cases Em hid;omega) (λid h=>(hA id h).2) hk
   ·refine AB AVe ?_
    exact ADB x g3 rfl (by omega) (fin _ hel9 (AKU ..) λid hid=>by cases jq hid;omega) (λid h=>(hA id h).2) hk
end
end Go.PQ
