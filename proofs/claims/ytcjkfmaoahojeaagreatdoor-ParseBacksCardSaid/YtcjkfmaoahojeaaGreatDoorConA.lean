/- Part of a proof; nothing is assumed. -/
import Derived.Test.YtcjkfmaoahojeaaGreatDoorWalk
import Derived.Test.YtcjkfmaoahojeaaGreatDoorPlainR
set_option linter.unusedVariables false
set_option linter.unusedSimpArgs false
namespace Go.PQ
open Go.Eng
abbrev Bs:=List UInt8
def UC:Bs:=[97,115]
def dX:Bs:=[98,111,111,108]
def OM:Bs:=[99,108,97,115,115]
def Ec:Bs:=[101,108,115,101]
def I9:Bs:=[101,120,116,101,110,100,115]
def UM:Bs:=[102,97,108,115,101]
def O5:Bs:=[102,105,101,108,100]
def KI:Bs:=[105,102]
def uf:Bs:=[105,110,116]
def Qv:Bs:=[105,115]
def Io:Bs:=[108,101,110,103,116,104]
def P5:Bs:=[108,101,116]
def Ep:Bs:=[109,101,116,104,111,100]
def Jb:Bs:=[110,101,119]
def TS:Bs:=[110,117,108,108]
def Gu:Bs:=[112,114,105,110,116]
def E8:Bs:=[114,101,116,117,114,110]
def Ip:Bs:=[115,116,97,116,105,99]
def Yd:Bs:=[116,104,105,115]
def YT:Bs:=[116,114,117,101]
def Fz:Bs:=[119,104,105,108,101]
def YK:Bs:=[61,61]
def lg:Bs:=[33,61]
def lW:Bs:=[60,61]
def Ob:Bs:=[38,38]
def ZP:Bs:=[124,124]
def Zp:Bs:=[43]
def Dz:Bs:=[45]
def WZ:Bs:=[42]
def SN:Bs:=[47]
def pz:Bs:=[37]
def VR:Bs:=[60]
def EM:Bs:=[61]
def JA:Bs:=[33]
def BJ:Bs:=[40]
def BM:Bs:=[41]
def Hq:Bs:=[91]
def G6:Bs:=[93]
def Nu:Bs:=[123]
def m_rc:Bs:=[125]
def BD:Bs:=[59]
def DK:Bs:=[44]
def DX:Bs:=[46]
theorem Aac:V.str 2 29537=sB UC:=rfl
theorem AKM:V.str 4 1819242338=sB dX:=rfl
theorem AR7:V.str 5 495857003619=sB OM:=rfl
theorem AWl:V.str 4 1702063205=sB Ec:=rfl
theorem ANB:V.str 7 32480047633037413=sB I9:=rfl
theorem ASL:V.str 5 435728179558=sB UM:=rfl
theorem ASZ:V.str 5 431315315046=sB O5:=rfl
theorem AZk:V.str 2 26217=sB KI:=rfl
theorem APp:V.str 3 7630441=sB uf:=rfl
theorem AaS:V.str 2 29545=sB Qv:=rfl
theorem AP3:V.str 6 114849160783212=sB Io:=rfl
theorem AYT:V.str 3 7628140=sB P5:=rfl
theorem APM:V.str 6 110429656606061=sB Ep:=rfl
theorem AX4:V.str 3 7824750=sB Jb:=rfl
theorem AVq:V.str 4 1819047278=sB TS:=rfl
theorem ASC:V.str 5 500068610672=sB Gu:=rfl
theorem AOO:V.str 6 121437875889522=sB E8:=rfl
theorem APc:V.str 6 109304575259763=sB Ip:=rfl
theorem AWx:V.str 4 1936287860=sB Yd:=rfl
theorem AUf:V.str 4 1702195828=sB YT:=rfl
theorem ASD:V.str 5 435610544247=sB Fz:=rfl
theorem AXu:V.str 2 9766=sB Ob:=rfl
theorem AaH:V.str 2 31868=sB ZP:=rfl
theorem AY5:V.str 1 41=sB BM:=rfl
theorem Aaf:V.str 1 91=sB Hq:=rfl
theorem AXm:V.str 1 125=sB m_rc:=rfl
def TN:List Bs:=[UC,dX,OM,Ec,I9,UM,O5,KI,uf,Qv,Io,P5,Ep,Jb,TS,Gu,E8,Ip,Yd,YT,Fz]
def FI:List Bs:=[YK,lg,lW,Ob,ZP,Zp,Dz,WZ,SN,pz,VR,EM,JA,BJ,BM,Hq,G6,Nu,m_rc,BD,DK,DX]
def great(c:UInt8):Bool:=decide (65<=c.toNat)&&decide (c.toNat<=90)
def small(c:UInt8):Bool:=decide (97<=c.toNat)&&decide (c.toNat<=122)
def digit(c:UInt8):Bool:=decide (48<=c.toNat)&&decide (c.toNat<=57)
def inner(c:UInt8):Bool:=great c||(small c||(digit c||decide (c.toNat=95)))
def blank(c:UInt8):Bool:=decide (c.toNat=32)||(decide (c.toNat=9)||(decide (c.toNat=10)||decide (c.toNat=13)))
def pre(p l:Bs):Bool:=decide (p.length<=l.length)&&decide (l.take p.length=p)
def Dx:Bool->Bs->Bs
 |_,[]=>[]
 |true,c::t=>bif decide (c.toNat=10)then Dx false t else Dx true t
 |false,c::t=>bif blank c then Dx false t else bif pre [47,47] (c::t)then Dx true t else c::t
structure Tok where
 kind:Nat
 text:Bs
 num:Nat
def YW:Tok:=⟨0,[],0⟩
def fK:Nat->Bs->Option Nat
 |n,[]=>some n
 |n,c::l=>bif decide (288230376151711744<n*10+(c.toNat-48))then none else fK (n*10+(c.toNat-48)) l
def dG(t:Tok):Nat×Tok:=bif decide (40<t.text.length)then(4,YW)else(0,t)
def JB:Bs->Nat×Tok
 |[]=>(0,YW)
 |c::l=>
  bif great c then dG ⟨2,(c::l).takeWhile inner,0⟩else
  bif small c then dG ⟨bif decide ((c::l).takeWhile inner∈TN)then 1 else 3,(c::l).takeWhile inner,0⟩else
  bif digit c then(match fK 0 ((c::l).takeWhile digit)with|none=>(22,YW)|some n=>(0,⟨4,(c::l).takeWhile digit,n⟩))else
  match FI.find? (λm=>pre m (c::l))with|none=>(20,YW)|some m=>(0,⟨5,m,0⟩)
def zK:Nat->Bs->Nat×List Tok
 |0,_=>(0,[])
 |f+1,r=>
  bif decide ((JB (Dx false r)).1=0)then
   bif decide ((JB (Dx false r)).2.kind=0)then(0,[(JB (Dx false r)).2])
   else((zK f ((Dx false r).drop (JB (Dx false r)).2.text.length)).1,(JB (Dx false r)).2::(zK f ((Dx false r).drop (JB (Dx false r)).2.text.length)).2)
  else((JB (Dx false r)).1,[])
def AEB(s:Bs):Nat×List Tok:=bif decide (65536<s.length)then(4,[])else zK (s.length+1) s
end Go.PQ
namespace Go.PQ
open Go.Eng
set_option maxRecDepth 100000
section
variable{G:AV}{H:Heap}{n:Nat}{k:KV}
theorem ALl{c:UInt8}(hk:k (.bool (great c)) H n):Runs F G pK [.int .u8 (.ofNat c.toNat) 0] H n k:=by
 refine Am (s:=Gw (bH lfp G)) kL (by obtain⟨h,o⟩:=AGm Ap G;rw[kL]at h;cases h;exact o) ?_
 show bH lfp G (Runs F G) (.int .u8 (.ofNat c.toNat) 0) H n k
 delta bH
 unfold great at hk
 simp only[go_sem,ku,uw]
 cases h:decide (65<=c.toNat)<;>rw[h]at hk<;>simp only[go_sem,uw]<;>exact hk
theorem ALy{c:UInt8}(hk:k (.bool (small c)) H n):Runs F G oD [.int .u8 (.ofNat c.toNat) 0] H n k:=by
 refine Am (s:=Gw (bg lfp G)) jO (by obtain⟨h,o⟩:=AGa Ap G;rw[jO]at h;cases h;exact o) ?_
 show bg lfp G (Runs F G) (.int .u8 (.ofNat c.toNat) 0) H n k
 delta bg
 unfold small at hk
 simp only[go_sem,ku,uw]
 cases h:decide (97<=c.toNat)<;>rw[h]at hk<;>simp only[go_sem,uw]<;>exact hk
theorem AGd{c:UInt8}(hk:k (.bool (digit c)) H n):Runs F G ak [.int .u8 (.ofNat c.toNat) 0] H n k:=by
 refine Am (s:=Gw (aX lfp G)) kJ (by obtain⟨h,o⟩:=AGp Ap G;rw[kJ]at h;cases h;exact o) ?_
 show aX lfp G (Runs F G) (.int .u8 (.ofNat c.toNat) 0) H n k
 delta aX
 unfold digit at hk
 simp only[go_sem,ku,uw]
 cases h:decide (48<=c.toNat)<;>rw[h]at hk<;>simp only[go_sem,uw]<;>exact hk
theorem ALw{c:UInt8}(hk:k (.bool (inner c)) H n):Runs F G qR [.int .u8 (.ofNat c.toNat) 0] H n k:=by
 refine Am (s:=Gw (bQ lfp G)) jT (by obtain⟨h,o⟩:=AGs Ap G;rw[jT]at h;cases h;exact o) ?_
 show bQ lfp G (Runs F G) (.int .u8 (.ofNat c.toNat) 0) H n k
 delta bQ
 unfold inner at hk
 refine ALl ?_
 cases h1:great c with
 |true=>rw[h1]at hk;simp only[go_sem];exact hk
 |false=>
  rw[h1]at hk;simp only[go_sem]
  refine ALy ?_
  cases h2:small c with
  |true=>rw[h2]at hk;simp only[go_sem];exact hk
  |false=>
   rw[h2]at hk;simp only[go_sem]
   refine AGd ?_
   cases h3:digit c with
   |true=>rw[h3]at hk;simp only[go_sem];exact hk
   |false=>rw[h3]at hk;simp only[go_sem,YX];exact hk
theorem ACE{p l:Bs}(hk:k (.bool (pre p l)) H n):Runs F G OD [sB l,sB p] H n k:=by
 refine Am (s:=QS (OJ lfp G)) RH (by obtain⟨h,o⟩:=sQ Ap G;rw[RH]at h;cases h;exact o) ?_
 show OJ lfp G (Runs F G) (sB l) (sB p) H n k
 delta OJ
 refine Am (s:=QS (E5 lfp G)) Ho (by obtain⟨h,o⟩:=VA Ap G;rw[Ho]at h;cases h;exact o) ?_
 show E5 lfp G (Runs F G) (sB l) (sB p) H n k
 delta E5
 unfold pre at hk
 simp only[go_sem,Pm,ku]
 cases h:decide (p.length<=l.length)with
 |true=>
  have hle:=of_decide_eq_true h
  rw[h]at hk;simp only[go_sem,Pm,AZp hle,AH4];exact hk
 |false=>rw[h]at hk;simp only[go_sem];exact hk
theorem AH5{l:Bs}{b:Nat}(hb:b<256)(hk:k (.int .i64 (yx b l 0) 0) H n):Runs F G TR [sB l,.int .u8 (.ofNat b) 0] H n k:=by
 refine Am (s:=QS (OU lfp G)) Rn (by obtain⟨h,o⟩:=oJ Ap G;rw[Rn]at h;cases h;exact o) ?_
 show OU lfp G (Runs F G) (sB l) (.int .u8 (.ofNat b) 0) H n k
 delta OU
 refine Am (s:=QS (FB lfp G)) Hl (by obtain⟨h,o⟩:=VB Ap G;rw[Hl]at h;cases h;exact o) ?_
 show FB lfp G (Runs F G) (sB l) (.int .u8 (.ofNat b) 0) H n k
 delta FB
 simp only[go_sem,AZo hb]
 exact hk
theorem ARH{l:Bs}(hk:k (.bool (decide (l∈TN))) H n):Runs F G ACH [sB l] H n k:=by
 refine Am (s:=Gw (aO lfp G)) iW (by obtain⟨h,o⟩:=AHL Ap G;rw[iW]at h;cases h;exact o) ?_
 show aO lfp G (Runs F G) (sB l) H n k
 delta aO
 have e:decide (l∈TN)=TN.any λw=>decide (l=w):=by rw[Bool.eq_iff_iff];simp
 rw[e]at hk
 unfold TN at hk
 simp only[Aac,AKM,AR7,AWl,ANB,ASL,ASZ,AZk,APp,AaS,AP3,AYT,APM,AX4,AVq,ASC,AOO,APc,AWx,AUf,ASD]
 have fin:∀b:Bool,k (.bool b) H n->Bh lfp G (Runs F G) k (.bool b) H n:=by
  intro b hb
  delta Bh
  cases b<;>exact hb
 repeat' (
  rw[AH4,Aw]
  rw[List.any_cons]at hk
  refine(λ(b:Bool) (P Q:Prop) (h1:b=true->P) (h2:b=false->Q)=>(by cases b;exact h2 rfl;exact h1 rfl:Ac (.bool b) true P Q)) _ _ _ (λhb=>?_) (λhb=>?_)
  ·rw[hb]at hk;first|(rw[hb];exact fin _ hk)|exact hk
  rw[hb,Bool.false_or]at hk)
 exact hk
theorem ALh{a b:Nat}(h:a*b<9223372036854775808):B2.ev .mul (.int .i64 (.ofNat a) 0) (.int .i64 (.ofNat b) 0)=some (.int .i64 (.ofNat (a*b)) 0):=by
 show some (V.int .i64 (Vd .i64 (Int.mul (.ofNat a) (.ofNat b))) 0)=_
 have e:Int.mul (.ofNat a) (.ofNat b)=.ofNat (a*b):=rfl
 rw[YA,e,gZ (by show(-9223372036854775808:Int)<=((a*b:Nat):Int);omega) (by show((a*b:Nat):Int)<_;omega)]
theorem AVF{a b:Nat}(hb:b<=a)(h:a<256):B2.ev .sub (.int .u8 (.ofNat a) 0) (.int .u8 (.ofNat b) 0)=some (.int .u8 (.ofNat (a-b)) 0):=by
 show some (V.int .u8 (Vd .u8 (AG6 (.ofNat a) (Int.neg (.ofNat b)))) 0)=_
 rw[zL]
 have e:Int.ofNat a+Int.neg (Int.ofNat b)=Int.ofNat (a-b):=by show(a:Int)+ -(b:Int)=((a-b:Nat):Int);omega
 rw[e]
 have:inr .u8 (.ofNat (a-b))=true:=by show Nat.blt (a-b) 256=true;rw[Nat.blt_eq];omega
 unfold Vd;rw[this]
theorem APB{q:IntKind}{a:Nat}(h:a<9223372036854775808):ABN .i64 (.int q (.ofNat a) 0)=some (.int .i64 (.ofNat a) 0):=by
 show some (V.int .i64 (Vd .i64 (.ofNat a)) 0)=_
 rw[YA,gZ (by show(-9223372036854775808:Int)<=((a:Nat):Int);omega) (by show((a:Nat):Int)<_;omega)]
def AUo:Option Nat->V
 |none=>.Jq [.int .i64 (.ofNat 0) 0,.bool false]
 |some m=>.Jq [.int .i64 (.ofNat m) 0,.bool true]
theorem ANQ{l:Bs}{i:Nat}(h:i<l.length):(PL l)[i]? =some [V.int .u8 (.ofNat (l[i]).toNat) 0]:=by simp[PL,h]
theorem APE{l:Bs}(hl:∀c∈l,digit c=true)(hs:l.length<=65536)(hk:∀H',Kp H n H' (n+1)->k (AUo (fK 0 l)) H' (n+1)):Runs F G zD [sB l] H n k:=by
 refine Am (s:=Gw (ZO lfp G)) dN (by obtain⟨h,o⟩:=AEf Ap G;rw[dN]at h;cases h;exact o) ?_
 show ZO lfp G (Runs F G) (sB l) H n k
 delta ZO
 obtain⟨R,hR⟩:∃R,fK 0 l=R:=⟨_,rfl⟩
 rw[hR]at hk
 refine AR6 (G:=G) λH1 v f1 hv=>?_
 simp only[go_sem,hv.len,show(PL l).length=l.length from List.length_map ..]
 refine ER (N:=l.length) (J:=λj q=>∃a,q=(.int .i64 (.ofNat a) 0,v,.int .i64 (.ofNat l.length) 0,.int .i64 (.ofNat j) 0,H1,n+1)/\a<=288230376151711744/\fK a (l.drop j)=R) ?_ ?_ ⟨0,rfl,by omega,hR⟩
 ·rintro I j q hlt ⟨a,rfl,ha,he⟩ ih
  show Pq lfp G (Runs F G) k I (.int .i64 (.ofNat a) 0) v (.int .i64 (.ofNat l.length) 0) (.int .i64 (.ofNat j) 0) H1 (n+1)
  delta Pq
  obtain⟨p,hp,hld⟩:=hv.at (ANQ hlt)
  rw[List.drop_eq_getElem_cons hlt]at he
  have hd:=hl _ (List.getElem_mem hlt)
  generalize l[j]=c at hld he hd
  simp only[digit,Bool.and_eq_true,decide_eq_true_eq]at hd
  unfold fK at he
  simp only[go_sem,ES,hlt,decide_true,hp,dV hld,ALh (show a*10<9223372036854775808 by omega),AVF hd.1 (show c.toNat<256 by omega),APB (show c.toNat-48<9223372036854775808 by omega),Ee (show a*10+(c.toNat-48)<9223372036854775808 by omega),MJ]
  cases h:decide (288230376151711744<a*10+(c.toNat-48))with
  |true=>rw[h]at he;simp only[go_sem];have:=hk _ f1;rw[<-he]at this;exact this
  |false=>
   rw[h]at he;simp only[go_sem,Ee (show j+1<9223372036854775808 by omega)]
   exact ih _ ⟨_,rfl,by simpa using h,he⟩
 ·rintro I q ⟨a,rfl,ha,he⟩
  show Pq lfp G (Runs F G) k I (.int .i64 (.ofNat a) 0) v (.int .i64 (.ofNat l.length) 0) (.int .i64 (.ofNat l.length) 0) H1 (n+1)
  delta Pq
  rw[List.drop_eq_nil_of_le (Nat.le_refl _)]at he
  simp only[go_sem,ES,Nat.lt_irrefl,decide_false]
  delta Yc
  have:=hk _ f1
  rw[<-he]at this
  exact this
end
def LAt(H:Heap)(lb:Nat)(s:Bs)(a:Nat):Prop:=∃line col:Nat,1<=line/\1<=col/\line<=a+1/\col<=a+1/\
 T.get H lb=some (one [sB s,.int .i64 (.ofNat a) 0,.int .i64 (.ofNat line) 0,.int .i64 (.ofNat col) 0])
theorem AN2(q r:IntKind)(a b:Int)(z w:V):Bl [z,w] [(0,1,.c (.int q a 0)),(1,1,.c (.int r b 0))]=some (.agg [.int q a 0,.int r b 0]):=rfl
section
variable{G:AV}{H:Heap}{n lb a:Nat}{s:Bs}{k:KV}
theorem LAt.kp{H':Heap}{n':Nat}(h:LAt H lb s a)(hl:lb<n)(f:Kp H n H' n'):LAt H' lb s a:=by
 obtain⟨line,col,h1,h2,h3,h4,hg⟩:=h
 exact⟨line,col,h1,h2,h3,h4,f.get hg hl⟩
theorem AKp{m:Nat}(h:LAt H lb s a)(hm:a+m<=s.length)(hs:s.length<=65536)(hk:∀H',Kx lb H n H' n->LAt H' lb s (a+m)->k (.Jq []) H' n):
 Runs F G KZ [.ptr lb 0,.int .i64 (.ofNat m) 0] H n k:=by
 refine Am (s:=QS (SS lfp G)) Vf (by obtain⟨h,o⟩:=AAE Ap G;rw[Vf]at h;cases h;exact o) ?_
 show SS lfp G (Runs F G) (.ptr lb 0) (.int .i64 (.ofNat m) 0) H n k
 delta SS
 refine ER (N:=m) (J:=λj q=>∃H',q=(.ptr lb 0,.int .i64 (.ofNat m) 0,.int .i64 (.ofNat j) 0,H',n)/\Kx lb H n H' n/\LAt H' lb s (a+j)) ?_ ?_ ⟨H,rfl,Kx.refl ..,h⟩
 ·rintro I j q hlt ⟨H1,rfl,f1,line,col,h1,h2,h3,h4,hg⟩ ih
  show KC lfp G (Runs F G) k I (.ptr lb 0) (.int .i64 (.ofNat m) 0) (.int .i64 (.ofNat j) 0) H1 n
  delta KC
  simp only[go_sem,ES,hlt,decide_true,Nat.reduceAdd,AQ (off:=3) hg (v:=.int .i64 (.ofNat col) 0) rfl,Ee (show col+1<9223372036854775808 by omega)]
  refine Eb hg rfl rfl (by omega) (by show 3+1<=4;omega) λH2 hg2 s2=>?_
  have hg2:T.get H2 lb=some (one [sB s,.int .i64 (.ofNat (a+j)) 0,.int .i64 (.ofNat line) 0,.int .i64 (.ofNat (col+1)) 0]):=hg2
  simp only[go_sem,Nat.reduceAdd,AQ (off:=0) hg2 (v:=sB s) rfl,AQ (off:=1) hg2 (v:=.int .i64 (.ofNat (a+j)) 0) rfl,AEz (show a+j<s.length by omega),YX]
  have f2:Kx lb H n H2 n:=f1.trans ⟨Nat.le_refl _,λid _ hb=>s2 id hb⟩
  have fin:∀(H3:Heap) (line col:Nat),Kx lb H n H3 n->1<=line->1<=col->line<=a+j+2->col<=a+j+2->
   T.get H3 lb=some (one [sB s,.int .i64 (.ofNat (a+j)) 0,.int .i64 (.ofNat line) 0,.int .i64 (.ofNat col) 0])->
   Jh lfp G (Runs F G) k I (.ptr lb 0) (.int .i64 (.ofNat m) 0) (.int .i64 (.ofNat j) 0) H3 n:=by
   intro H3 line col f3 h1 h2 h3 h4 hg3
   delta Jh
   simp only[go_sem,Nat.reduceAdd,AQ (off:=1) hg3 (v:=.int .i64 (.ofNat (a+j)) 0) rfl,Ee (show a+j+1<9223372036854775808 by omega)]
   refine Eb hg3 rfl rfl (by omega) (by show 1+1<=4;omega) λH4 hg4 s4=>?_
   simp only[go_sem,Ee (show j+1<9223372036854775808 by omega)]
   exact ih _ ⟨_,rfl,f3.trans ⟨Nat.le_refl _,λid _ hb=>s4 id hb⟩,line,col,h1,h2,by omega,by omega,hg4⟩
  cases hc:decide ((s[a+j]).toNat=10)with
  |true=>
   simp only[go_sem,Nat.reduceAdd,AQ (off:=2) hg2 (v:=.int .i64 (.ofNat line) 0) rfl,Ee (show line+1<9223372036854775808 by omega),AN2]
   refine Eb hg2 rfl rfl (by omega) (by show 2+2<=4;omega) λH3 hg3 s3=>?_
   exact fin H3 (line+1) 1 (f2.trans ⟨Nat.le_refl _,λid _ hb=>s3 id hb⟩) (by omega) (by omega) (by omega) (by omega) hg3
  |false=>
   simp only[go_sem]
   exact fin H2 line (col+1) f2 (by omega) (by omega) (by omega) (by omega) hg2
 ·rintro I q ⟨H1,rfl,f1,h⟩
  show KC lfp G (Runs F G) k I (.ptr lb 0) (.int .i64 (.ofNat m) 0) (.int .i64 (.ofNat m) 0) H1 n
  delta KC
  simp only[go_sem,ES,Nat.lt_irrefl,decide_false]
  exact hk _ f1 h
def toEnd:Bs->Nat
 |[]=>0
 |c::l=>bif decide (c.toNat=10)then 0 else toEnd l+1
theorem AHr:∀l:Bs,toEnd l<=l.length
 |[]=>Nat.le_refl _
 |c::l=>by
  have:=AHr l
  unfold toEnd
  cases decide (c.toNat=10)<;>simp[this]
theorem AE4:∀(l:Bs) (i:Nat),yx 10 l i=if toEnd l=l.length then-1 else((i+toEnd l:Nat):Int)
 |[],i=>rfl
 |c::l,i=>by
  have ih:=AE4 l (i+1)
  rw[show yx 10 (c::l) i=bif decide (c.toNat=10)then .ofNat i else yx 10 l (i+1)from rfl,show toEnd (c::l)=bif decide (c.toNat=10)then 0 else toEnd l+1 from rfl]
  cases h:decide (c.toNat=10)with
  |true=>simp
  |false=>
   simp only[cond_false,ih,List.length_cons,Nat.add_right_cancel_iff]
   split
   ·rfl
   ·congr 1;omega
theorem AHg:∀l:Bs,Dx true l=Dx false (l.drop (toEnd l))
 |[]=>rfl
 |c::l=>by
  rw[show Dx true (c::l)=bif decide (c.toNat=10)then Dx false l else Dx true l from rfl,show toEnd (c::l)=bif decide (c.toNat=10)then 0 else toEnd l+1 from rfl]
  cases h:decide (c.toNat=10)with
  |true=>
   have hb:blank c=true:=by simp only[blank,h,Bool.or_true,Bool.true_or]
   simp[Dx,hb]
  |false=>simp only[cond_false,List.drop_succ_cons];exact AHg l
theorem oz:∀(b:Bool) (l:Bs),(Dx b l).length<=l.length
 |_,[]=>by simp[Dx]
 |true,c::l=>by
  rw[show Dx true (c::l)=bif decide (c.toNat=10)then Dx false l else Dx true l from rfl]
  have h1:=oz false l;have h2:=oz true l
  cases decide (c.toNat=10)<;>simp<;>omega
 |false,c::l=>by
  rw[show Dx false (c::l)=bif blank c then Dx false l else bif pre [47,47] (c::l)then Dx true l else c::l from rfl]
  have h1:=oz false l;have h2:=oz true l
  cases blank c<;>cases pre [47,47] (c::l)<;>simp<;>omega
theorem AYt:V.str 2 12079=sB [47,47]:=rfl
theorem AWt(h:LAt H lb s a)(ha:a<=s.length)(hs:s.length<=65536)(hk:∀H' a',Kx lb H n H' n->LAt H' lb s a'->a'<=s.length->s.drop a'=Dx false (s.drop a)->k (.Jq []) H' n):
 Runs F G fJ [.ptr lb 0] H n k:=by
 refine Am (s:=Gw (SH lfp G)) VI (by obtain⟨h,o⟩:=AAP Ap G;rw[VI]at h;cases h;exact o) ?_
 show SH lfp G (Runs F G) (.ptr lb 0) H n k
 delta SH
 obtain⟨R,hR⟩:∃R,Dx false (s.drop a)=R:=⟨_,rfl⟩
 rw[hR]at hk
 refine OY (J:=λm q=>∃H' a',m=s.length-a'/\q=(.ptr lb 0,H',n)/\Kx lb H n H' n/\LAt H' lb s a'/\a'<=s.length/\Dx false (s.drop a')=R) ?_ (m:=s.length-a) ⟨H,a,rfl,rfl,Kx.refl ..,h,ha,hR⟩
 rintro I m q ⟨H1,b,rfl,rfl,f1,h1,hb,hR⟩ ih
 show TP lfp G (Runs F G) k I (.ptr lb 0) H1 n
 delta TP
 obtain⟨line,col,_,_,_,_,hg⟩:=id h1
 have e0:AX (.ptr lb 0) G H1=some (sB s):=AQ hg rfl
 have e1:AX (.ptr lb 1) G H1=some (.int .i64 (.ofNat b) 0):=AQ hg rfl
 simp only[go_sem,Nat.reduceAdd,e0,e1,Pm,ES]
 rcases Nat.lt_or_ge b s.length with hlt|hge
 ·simp only[hlt,decide_true,go_sem,Nat.reduceAdd,e0,e1,AEz hlt,YX]
  have hR':=hR
  rw[List.drop_eq_getElem_cons hlt,show ∀(c:UInt8) (l:Bs),Dx false (c::l)=bif blank c then Dx false l else bif pre [47,47] (c::l)then Dx true l else c::l from λ_ _=>rfl,<-List.drop_eq_getElem_cons hlt]at hR'
  have step1:blank s[b]=true->Runs F G KZ [.ptr lb 0,.int .i64 (.ofNat 1) 0] H1 n λ_ H n=>I (.ptr lb 0,H,n):=by
   intro hbl
   rw[hbl]at hR'
   refine AKp h1 (by omega) hs λH2 f2 h2=>ih (s.length-(b+1)) _ (by omega) ⟨H2,b+1,rfl,rfl,f1.trans f2,h2,by omega,hR'⟩
  have fin:∀m',b+m'<=s.length->0<m'->Dx false (s.drop (b+m'))=R->FU lfp G (Runs F G) k I (.ptr lb 0) (.int .i64 (.ofNat m') 0) H1 n:=by
   intro m' h2 h3 h4
   delta FU
   exact AKp h1 h2 hs λH2 f2 h2=>ih (s.length-(b+m')) _ (by omega) ⟨H2,b+m',rfl,rfl,f1.trans f2,h2,by omega,h4⟩
  have step2:blank s[b]=false->Runs F G OD [sB (s.drop b),sB [47,47]] H1 n λv35 H n=>Ac v35 true (AP (Bj (.ptr lb 0)) λv36=>
   AP (AU 0 v36) λv37=>AP (AX v37 G H) λv38=>AP (Bj (.ptr lb 0)) λv39=>AP (AU 1 v39) λv40=>AP (AX v40 G H) λv41=>AP (Zy v38 E0 (some (.c v41)) none) λv42=>
   Runs F G TR [v42,(.int .u8 (.ofNat 10) 0)] H n λv43 H n=>
   AP (B2.ev .lss v43 (.int .i64 (.ofNat 0) 0)) λv46=>
   Ac v46 true (AP (Bj (.ptr lb 0)) λv47=>AP (AU 0 v47) λv48=>AP (AX v48 G H) λv49=>AP (OZ v49) λv50=>AP (Bj (.ptr lb 0)) λv51=>AP (AU 1 v51) λv52=>AP (AX v52 G H) λv53=>
   AP (B2.ev .sub v50 v53) λv54=>FU lfp G (Runs F G) k I (.ptr lb 0) v54 H n) (FU lfp G (Runs F G) k I (.ptr lb 0) v43 H n)) (k (.Jq []) H n):=by
   intro hbl
   rw[hbl]at hR'
   refine ACE ?_
   cases hp:pre [47,47] (s.drop b)with
   |false=>
    rw[hp]at hR'
    simp only[go_sem]
    exact hk _ _ f1 h1 hb hR'
   |true=>
    rw[hp,cond_false,cond_true,AHg,List.drop_drop]at hR'
    have hne:(s[b]).toNat≠10:=by
     intro e
     simp[blank,e]at hbl
    simp only[go_sem,Nat.reduceAdd,e0,e1,AKa hb]
    refine AH5 (by omega) ?_
    have hte:toEnd (s.drop b)=toEnd (s.drop (b+1))+1:=by
     rw[List.drop_eq_getElem_cons hlt,show toEnd (s[b]::s.drop (b+1))=bif decide ((s[b]).toNat=10)then 0 else toEnd (s.drop (b+1))+1 from rfl,decide_eq_false hne];rfl
    have hle:=AHr (s.drop b)
    rw[AE4]
    rw[List.length_drop]at hle⊢
    rw[show b+1+toEnd (s.drop (b+1))=b+toEnd (s.drop b)by omega]at hR'
    split
    ·rename_i he
     have e:B2.ev .lss (.int .i64 (-1) 0) (.int .i64 (.ofNat 0) 0)=some (.bool true):=rfl
     simp only[go_sem,e,Nat.reduceAdd,e0,e1,Pm,uh hb (show s.length<9223372036854775808 by omega)]
     rw[he]at hR'
     exact fin _ (by omega) (by omega) hR'
    ·rw[Nat.zero_add]
     have e:B2.ev .lss (.int .i64 ((toEnd (s.drop b):Nat):Int) 0) (.int .i64 (.ofNat 0) 0)=some (.bool false):=by
      refine(ES .i64 _ _).trans ?_
      simp
     simp only[go_sem,e]
     exact fin (toEnd (s.drop b)) (by omega) (by omega) hR'
  cases c1:decide ((s[b]).toNat=32)with
  |true=>simp only[go_sem];exact step1 (by simp[blank,c1])
  |false=>
   simp only[go_sem,YX]
   cases c2:decide ((s[b]).toNat=9)with
   |true=>simp only[go_sem];exact step1 (by simp[blank,c2])
   |false=>
    simp only[go_sem,YX]
    cases c3:decide ((s[b]).toNat=10)with
    |true=>simp only[go_sem];exact step1 (by simp[blank,c3])
    |false=>
     simp only[go_sem,YX]
     cases c4:decide ((s[b]).toNat=13)with
     |true=>simp only[go_sem];exact step1 (by simp[blank,c4])
     |false=>
      simp only[go_sem,Nat.reduceAdd,e0,e1,AKa hb,AYt]
      exact step2 (by simp[blank,c1,c2,c3,c4])
 ·have:b=s.length:=by omega
  subst this
  simp only[Nat.lt_irrefl,decide_false,go_sem]
  rw[List.drop_eq_nil_of_le (Nat.le_refl _),show Dx false []=[]from rfl]at hR
  exact hk _ _ f1 h1 (Nat.le_refl _) (by rw[List.drop_eq_nil_of_le (Nat.le_refl _)];exact hR)
theorem AIs(g:UInt8->Bool):∀l:Bs,(l.takeWhile g).length<=l.length
 |[]=>Nat.le_refl _
 |c::l=>by have:=AIs g l;rw[List.takeWhile_cons];split<;>simp<;>omega
theorem ALY(g:UInt8->Bool):∀l:Bs,l.take (l.takeWhile g).length=l.takeWhile g
 |[]=>rfl
 |c::l=>by rw[List.takeWhile_cons];split; · simp[ALY g l]
           ·rfl
def AXH(G:AV)(f:Nat)(g:UInt8->Bool):Prop:=∀(c:UInt8) (H:Heap) (n:Nat) (k:KV),k (.bool (g c)) H n->Runs F G f [.int .u8 (.ofNat c.toNat) 0] H n k
theorem AO7{f:Nat}{g:UInt8->Bool}(hf:AXH G f g)(h:LAt H lb s a)(ha:a<=s.length)(hs:s.length<=65536)(hk:k (sB ((s.drop a).takeWhile g)) H n):
 Runs F G UN [.ptr lb 0,.fn f [] []] H n k:=by
 refine Am (s:=QS (Ua lfp G)) Wp (by obtain⟨h,o⟩:=ABS Ap G;rw[Wp]at h;cases h;exact o) ?_
 show Ua lfp G (Runs F G) (.ptr lb 0) (.fn f [] []) H n k
 delta Ua
 obtain⟨line,col,_,_,_,_,hg⟩:=id h
 have e0:AX (.ptr lb 0) G H=some (sB s):=AQ hg rfl
 have e1:AX (.ptr lb 1) G H=some (.int .i64 (.ofNat a) 0):=AQ hg rfl
 refine OY (J:=λm q=>∃j,m=s.length-(a+j)/\q=(.ptr lb 0,.fn f [] [],.int .i64 (.ofNat j) 0,H,n)/\a+j<=s.length/\j+((s.drop (a+j)).takeWhile g).length=((s.drop a).takeWhile g).length) ?_ (m:=s.length-a)
  ⟨0,rfl,rfl,ha,by simp⟩
 rintro I m q ⟨j,rfl,rfl,hj,he⟩ ih
 show TV lfp G (Runs F G) k I (.ptr lb 0) (.fn f [] []) (.int .i64 (.ofNat j) 0) H n
 delta TV
 have fin:j=((s.drop a).takeWhile g).length->O0 lfp G (Runs F G) k (.ptr lb 0) (.int .i64 (.ofNat j) 0) H n:=by
  intro hj2
  delta O0
  simp only[go_sem,Nat.reduceAdd,e0,e1,Ee (show a+j<9223372036854775808 by omega),AQH (show a<=a+j by omega) hj]
  rw[show a+j-a=j by omega,hj2,ALY]
  exact hk
 simp only[go_sem,Nat.reduceAdd,e0,e1,Pm,Ee (show a+j<9223372036854775808 by omega),ES]
 rcases Nat.lt_or_ge (a+j) s.length with hlt|hge
 ·simp only[hlt,decide_true,go_sem,Nat.reduceAdd,e0,e1,Ee (show a+j<9223372036854775808 by omega),AEz hlt,tK]
  rw[List.drop_eq_getElem_cons hlt,List.takeWhile_cons]at he
  refine hf _ _ _ _ ?_
  cases hc:g s[a+j]with
  |true=>
   rw[hc]at he
   simp only[go_sem,Ee (show j+1<9223372036854775808 by omega)]
   exact ih (s.length-(a+(j+1))) _ (by omega) ⟨j+1,rfl,rfl,by omega,by rw[show a+(j+1)=a+j+1 by omega,<-he];simp;omega⟩
  |false=>
   rw[hc]at he
   simp only[go_sem]
   exact fin (by simpa using he)
 ·have:¬a+j<s.length:=by omega
  simp only[this,decide_false,go_sem]
  rw[List.drop_eq_nil_of_le hge]at he
  exact fin (by simpa using he)
end
def U8(t:Tok)(line col:Nat):LV:=[.int .i64 (.ofNat t.kind) 0,sB t.text,.int .i64 (.ofNat t.num) 0,.int .i64 (.ofNat line) 0,.int .i64 (.ofNat col) 0]
def AAu(t:Tok):Nat×Tok:=bif decide (t.kind=0)then(20,YW)else bif decide (40<t.text.length)&& !decide (t.kind=4)then(4,YW)else(0,t)
def Zz(G:AV):Prop:=G 0 0 22=some (FI.map sB)
def AHc(k:KV)(H:Heap)(n lb:Nat)(s:Bs)(a:Nat)(r:Nat×Tok):Prop:=∀(H':Heap) (n':Nat) (c:LV),Kx lb H n H' n'->LAt H' lb s (a+r.2.text.length)->c.length=5->(r.1=0->∃line col,1<=line/\1<=col/\c=U8 r.2 line col)->
 k (.Jq [.agg c,.int .i64 (.ofNat r.1) 0]) H' n'
section
variable{G:AV}{H:Heap}{n lb a:Nat}{s:Bs}{k:KV}
theorem AGQ{z0 z1 z2 z3 z4:V}:Bl [z0,z1,z2,z3,z4] []=some (.agg [z0,z1,z2,z3,z4]):=rfl
theorem ASP{z0 z1 z2 z3 z4 a b:V}:Bl [z0,z1,z2,z3,z4] [(3,2,.c (.agg [a,b]))]=some (.agg [z0,z1,z2,a,b]):=rfl
theorem AH2{H0:Heap}{n0 p q:Nat}{t:Tok}{line col:Nat}{z0 z1 z2 z3 z4:V}(f0:Kx lb H0 n0 H n)(hp:T.get H p=some (one [z0,z1,z2,z3,z4]))(hq:T.get H q=some (one (U8 t line col)))(hpq:p≠q)(hpl:p≠lb)(hql:q≠lb)
 (hp0:n0<=p) (hpn:p<n) (hqn:q<n) (h:LAt H lb s a) (ha:a+t.text.length<=s.length) (hs:s.length<=65536) (h1:1<=line) (h2:1<=col) (hk:AHc k H0 n0 lb s a (AAu t)):
 D7 lfp G (Runs F G) k (.ptr lb 0) (.ptr p 0) (.ptr q 0) H n:=by
 delta D7
 have q0:AX (.ptr q 0) G H=some (.int .i64 (.ofNat t.kind) 0):=AQ hq rfl
 have q1:AX (.ptr q 1) G H=some (sB t.text):=AQ hq rfl
 unfold AAu at hk
 simp only[go_sem,Nat.reduceAdd,q0,YX]
 have zz:∀e:Nat,AHc k H0 n0 lb s a (e,YW)->e≠0->CQ 5 (.ptr p 0) (.agg [.int .i64 (.ofNat 0) 0,.str 0 0,.int .i64 (.ofNat 0) 0,.int .i64 (.ofNat 0) 0,.int .i64 (.ofNat 0) 0]) H n λ_ H n=>
  Hu (Du [.cn (.ptr p 0) 5,.t (.int .i64 (.ofNat e) 0)] G H) λl=>k (Fj l) H n:=by
  intro e hk he
  rw[ZI (m:=5) hp (by omega) rfl rfl,DU (m:=5) (T.C9 ..) (by omega) rfl]
  simp only[go_sem]
  obtain⟨line,col,x1,x2,x3,x4,hg⟩:=h
  refine hk _ _ _ ⟨f0.le,λid hid hb=>?_⟩ ⟨line,col,x1,x2,x3,x4,?_⟩ rfl (λh=>absurd h he)
  ·rw[T.Au _ _ (by omega)];exact f0.same id hid hb
  ·rw[T.Au _ _ hpl];exact hg
 cases c1:decide (t.kind=0)with
 |true=>
  rw[c1]at hk
  simp only[go_sem,AGQ]
  exact zz 20 hk (by omega)
 |false=>
  rw[c1]at hk
  simp only[go_sem,Nat.reduceAdd,q1,Pm,MJ]
  have fin:AHc k H0 n0 lb s a (0,t)->Runs F G KZ [.ptr lb 0,.int .i64 (.ofNat t.text.length) 0] H n λ_ H n=>AP (A8 5 (.ptr q 0) G H) λv45=>
   CQ 5 (.ptr p 0) v45 H n λv46 H n=>Hu (Du [.cn (.ptr p 0) 5,.t (.int .i64 (.ofNat 0) 0)] G H) λl=>k (Fj l) H n:=by
   intro hk
   refine AKp h ha hs λH2 f2 h2=>?_
   have hq2:T.get H2 q=_:=f2.get hq hqn hql
   have hp2:T.get H2 p=_:=f2.get hp hpn hpl
   rw[Ai (m:=5) hq2 (by omega) rfl,Aw,ZI (m:=5) hp2 (by omega) rfl rfl,DU (m:=5) (T.C9 ..) (by omega) rfl]
   simp only[go_sem]
   have f3:=f0.trans f2
   obtain⟨l1,c1,x1,x2,x3,x4,hg⟩:=h2
   refine hk _ _ _ ⟨f3.le,λid hid hb=>?_⟩ ⟨l1,c1,x1,x2,x3,x4,?_⟩ rfl λ_=>⟨line,col,h1,h2,rfl⟩
   ·rw[T.Au _ _ (by omega)];exact f3.same id hid hb
   ·rw[T.Au _ _ hpl];exact hg
  cases c2:decide (40<t.text.length)with
  |false=>
   rw[c2]at hk
   simp only[go_sem,Nat.reduceAdd,q1,Pm]
   exact fin hk
  |true=>
   rw[c2]at hk
   simp only[go_sem,Nat.reduceAdd,q0,ZR]
   cases c3:decide (t.kind=4)with
   |true=>
    rw[c3]at hk
    simp only[Bool.not_true,go_sem,Nat.reduceAdd,q1,Pm]
    exact fin hk
   |false=>
    rw[c3]at hk
    simp only[Bool.not_false,go_sem,AGQ]
    exact zz 4 hk (by omega)
theorem OQ{m o id:Nat}{L:LV}(h:T.get H id=some (one L))(hm:0<m)(hl:o+m<=L.length):A8 m (.ptr id o) G H=some (.agg ((L.drop o).take m)):=NQ h hm hl
theorem AUP(hG:Zz G)(h:LAt H lb s a)(ha:a<=s.length)(hs:s.length<=65536)(hlb:lb<n)(hk:AHc k H n lb s a (JB (s.drop a))):
 Runs F G fE [.ptr lb 0] H n k:=by
 refine Am (s:=Gw (Rx lfp G)) VZ (by obtain⟨h,o⟩:=yY Ap G;rw[VZ]at h;cases h;exact o) ?_
 show Rx lfp G (Runs F G) (.ptr lb 0) H n k
 delta Rx
 obtain⟨line,col,x1,x2,x3,x4,hg⟩:=id h
 have hne:lb≠n:=by omega
 have hne1:lb≠n+1:=by omega
 have d0:AX (.ptr lb 0) G H=some (sB s):=AQ hg rfl
 have d1:AX (.ptr lb 1) G H=some (.int .i64 (.ofNat a) 0):=AQ hg rfl
 have e2:A8 2 (.ptr lb 2) G H=some (.agg [.int .i64 (.ofNat line) 0,.int .i64 (.ofNat col) 0]):=OQ hg (by omega) (by show 2+2<=4;omega)
 simp only[go_sem,Nat.reduceAdd,hne,hne1,e2,ASP]
 rw[T.set_set]
 have f1:Kp H n (T.set (T.set H n (one [.int .i64 (.ofNat 0) 0,.str 0 0,.int .i64 (.ofNat 0) 0,.int .i64 (.ofNat 0) 0,.int .i64 (.ofNat 0) 0])) (n+1) (one [.int .i64 (.ofNat 0) 0,.str 0 0,.int .i64 (.ofNat 0) 0,.int .i64 (.ofNat line) 0,.int .i64 (.ofNat col) 0])) (n+1+1):=
  ((Kp.refl H n).new (m:=n+1) _ (Nat.le_refl _) (by omega)).new _ (by omega) (by omega)
 have g1:=(T.Au (T.set H n (one [V.int .i64 (.ofNat 0) 0,.str 0 0,.int .i64 (.ofNat 0) 0,.int .i64 (.ofNat 0) 0,.int .i64 (.ofNat 0) 0])) (one [.int .i64 (.ofNat 0) 0,.str 0 0,.int .i64 (.ofNat 0) 0,.int .i64 (.ofNat line) 0,.int .i64 (.ofNat col) 0]) (show n+1≠n by omega)).trans (T.C9 ..)
 have g2:=T.C9 (T.set H n (one [V.int .i64 (.ofNat 0) 0,.str 0 0,.int .i64 (.ofNat 0) 0,.int .i64 (.ofNat 0) 0,.int .i64 (.ofNat 0) 0])) (n+1) (one [V.int .i64 (.ofNat 0) 0,.str 0 0,.int .i64 (.ofNat 0) 0,.int .i64 (.ofNat line) 0,.int .i64 (.ofNat col) 0])
 generalize T.set (T.set H n (one [V.int .i64 (.ofNat 0) 0,.str 0 0,.int .i64 (.ofNat 0) 0,.int .i64 (.ofNat 0) 0,.int .i64 (.ofNat 0) 0])) (n+1) (one [V.int .i64 (.ofNat 0) 0,.str 0 0,.int .i64 (.ofNat 0) 0,.int .i64 (.ofNat line) 0,.int .i64 (.ofNat col) 0])=H1 at f1 g1 g2⊢
 have h:=h.kp hlb f1
 have hg:=f1.get hg hlb
 have e0:AX (.ptr lb 0) G H1=some (sB s):=AQ hg rfl
 have e1:AX (.ptr lb 1) G H1=some (.int .i64 (.ofNat a) 0):=AQ hg rfl
 simp only[go_sem,d0,d1,Pm,YX]
 have g2:T.get H1 (n+1)=some (one (U8 YW line col)):=g2
 rcases Nat.lt_or_ge a s.length with hlt|hge
 case inr=>
  have:a=s.length:=by omega
  subst this
  simp only[decide_true,go_sem]
  rw[List.drop_eq_nil_of_le (Nat.le_refl _)]at hk
  rw[ZI (m:=5) g1 (by omega) rfl rfl,DU (m:=5) (T.C9 ..) (by omega) rfl]
  simp only[go_sem]
  obtain⟨l1,c1,y1,y2,y3,y4,hg⟩:=h
  refine hk _ _ _ ((f1.set _ (Nat.le_refl _)).kx) ⟨l1,c1,y1,y2,y3,y4,?_⟩ rfl λ_=>⟨line,col,x1,x2,rfl⟩
  rw[T.Au _ _ (by omega)];exact hg
 case inl=>
 have hd:=List.drop_eq_getElem_cons hlt
 simp only[show decide (a=s.length)=false by simp;omega,go_sem,Nat.reduceAdd,d0,d1,AEz hlt]
 rw[hd,show ∀(c:UInt8) (l:Bs),JB (c::l)=(bif great c then dG ⟨2,(c::l).takeWhile inner,0⟩else
  bif small c then dG ⟨bif decide ((c::l).takeWhile inner∈TN)then 1 else 3,(c::l).takeWhile inner,0⟩else
  bif digit c then(match fK 0 ((c::l).takeWhile digit)with|none=>(22,YW)|some n=>(0,⟨4,(c::l).takeWhile digit,n⟩))else
  match FI.find? (λm=>pre m (c::l))with|none=>(20,YW)|some m=>(0,⟨5,m,0⟩))from λ_ _=>rfl,<-hd]at hk
 have f0:=f1.kx (b:=lb)
 have hq:n+1≠lb:=by omega
 have AKU:∀{H2:Heap} {t:Tok} {kd:Nat} {P:KV},T.get H2 (n+1)=some (one (U8 t line col))->(∀H3,T.get H3 (n+1)=some (one (U8 {t with kind:=kd} line col))->(∀j,j≠n+1->T.get H3 j=T.get H2 j)->P .undef H3 (n+1+1))->
  CQ 1 (.ptr (n+1) 0) (.int .i64 (.ofNat kd) 0) H2 (n+1+1) P:=by
  intro H2 t kd P hg hP
  exact Eb hg rfl rfl (by omega) (by show 0+1<=5;omega) λH3 g3 s3=>hP H3 g3 s3
 have ATd:∀{H2:Heap} {t:Tok} {tx:Bs} {P:KV},T.get H2 (n+1)=some (one (U8 t line col))->(∀H3,T.get H3 (n+1)=some (one (U8 {t with text:=tx} line col))->(∀j,j≠n+1->T.get H3 j=T.get H2 j)->P .undef H3 (n+1+1))->
  CQ 1 (.ptr (n+1) 1) (sB tx) H2 (n+1+1) P:=by
  intro H2 t tx P hg hP
  exact Eb hg rfl rfl (by omega) (by show 1+1<=5;omega) λH3 g3 s3=>hP H3 g3 s3
 have Abh:∀{H2:Heap} {t:Tok} {nu:Nat} {P:KV},T.get H2 (n+1)=some (one (U8 t line col))->(∀H3,T.get H3 (n+1)=some (one (U8 {t with num:=nu} line col))->(∀j,j≠n+1->T.get H3 j=T.get H2 j)->P .undef H3 (n+1+1))->
  CQ 1 (.ptr (n+1) 2) (.int .i64 (.ofNat nu) 0) H2 (n+1+1) P:=by
  intro H2 t nu P hg hP
  exact Eb hg rfl rfl (by omega) (by show 2+1<=5;omega) λH3 g3 s3=>hP H3 g3 s3
 have ADI:∀{H2 H3:Heap},Kx lb H n H2 (n+1+1)/\T.get H2 n=T.get H1 n/\LAt H2 lb s a->(∀j,j≠n+1->T.get H3 j=T.get H2 j)->Kx lb H n H3 (n+1+1)/\T.get H3 n=T.get H1 n/\LAt H3 lb s a:=by
  intro H2 H3 ⟨x,y,z⟩ hs
  obtain⟨l1,c1,y1,y2,y3,y4,hg⟩:=z
  exact⟨⟨by omega,λid hid hb=>(hs id (by omega)).trans (x.same id hid hb)⟩,(hs n (by omega)).trans y,l1,c1,y1,y2,y3,y4,(hs lb (by omega)).trans hg⟩
 have b0:Kx lb H n H1 (n+1+1)/\T.get H1 n=T.get H1 n/\LAt H1 lb s a:=⟨f0,rfl,h⟩
 have fin:∀{H2:Heap} {t:Tok},Kx lb H n H2 (n+1+1)/\T.get H2 n=T.get H1 n/\LAt H2 lb s a->T.get H2 (n+1)=some (one (U8 t line col))->a+t.text.length<=s.length->AHc k H n lb s a (AAu t)->
  D7 lfp G (Runs F G) k (.ptr lb 0) (.ptr n 0) (.ptr (n+1) 0) H2 (n+1+1):=λb g ht hk=>
  AH2 b.1 (b.2.1.trans g1) g (by omega) (by omega) hq (by omega) (by omega) (by omega) b.2.2 ht hs x1 x2 hk
 have hin:=AIs inner (s.drop a)
 have hdi:=AIs digit (s.drop a)
 rw[List.length_drop]at hin hdi
 refine ALl ?_
 cases k1:great s[a]with
 |true=>
  rw[k1]at hk
  simp only[go_sem]
  refine AO7 (f:=qR) (λc H n k hk=>ALw hk) h ha hs ?_
  refine AKU g2 λH2 g s2=>?_
  refine ATd g λH3 g s3=>?_
  refine fin (ADI (ADI b0 s2) s3) g (by show a+(List.takeWhile inner (s.drop a)).length<=_;omega) ?_
  have e:AAu ⟨2,(s.drop a).takeWhile inner,0⟩=dG ⟨2,(s.drop a).takeWhile inner,0⟩:=by simp[AAu,dG]
  exact e▸hk
 |false=>
  rw[k1]at hk
  simp only[go_sem]
  refine ALy ?_
  cases k2:small s[a]with
  |true=>
   rw[k2]at hk
   simp only[go_sem]
   refine AO7 (f:=qR) (λc H n k hk=>ALw hk) h ha hs ?_
   refine AKU g2 λH2 g s2=>?_
   refine ATd g λH3 g s3=>?_
   have q1:AX (.ptr (n+1) 1) G H3=some (sB ((s.drop a).takeWhile inner)):=AQ g rfl
   simp only[go_sem,Nat.reduceAdd,q1]
   refine ARH ?_
   cases k3:decide ((s.drop a).takeWhile inner∈TN)with
   |true=>
    rw[k3]at hk
    simp only[go_sem,Nat.reduceAdd]
    refine AKU g λH4 g s4=>?_
    refine fin (ADI (ADI (ADI b0 s2) s3) s4) g (by show a+(List.takeWhile inner (s.drop a)).length<=_;omega) ?_
    have e:AAu ⟨1,(s.drop a).takeWhile inner,0⟩=dG ⟨1,(s.drop a).takeWhile inner,0⟩:=by simp[AAu,dG]
    exact e▸hk
   |false=>
    rw[k3]at hk
    simp only[go_sem]
    refine fin (ADI (ADI b0 s2) s3) g (by show a+(List.takeWhile inner (s.drop a)).length<=_;omega) ?_
    have e:AAu ⟨3,(s.drop a).takeWhile inner,0⟩=dG ⟨3,(s.drop a).takeWhile inner,0⟩:=by simp[AAu,dG]
    exact e▸hk
  |false=>
   rw[k2]at hk
   simp only[go_sem]
   refine AGd ?_
   cases k3:digit s[a]with
   |true=>
    rw[k3]at hk
    simp only[go_sem]
    refine AO7 (f:=ak) (λc H n k hk=>AGd hk) h ha hs ?_
    refine AKU g2 λH2 g s2=>?_
    refine ATd g λH3 g s3=>?_
    have q1:AX (.ptr (n+1) 1) G H3=some (sB ((s.drop a).takeWhile digit)):=AQ g rfl
    simp only[go_sem,Nat.reduceAdd,q1]
    have b3:=ADI (ADI b0 s2) s3
    have htw:∀c∈(s.drop a).takeWhile digit,digit c=true:=λc hc=>by
     have:=List.all_takeWhile (l:=s.drop a) (p:=digit);exact List.all_eq_true.1 this c hc
    refine APE htw (by omega) λH4 f4=>?_
    have g4:=f4.get g (by omega)
    have b4:=b3.1.trans f4.kx
    have gn:=f4.get (b3.2.1.trans g1) (by omega)
    have h4:=b3.2.2.kp (n:=n+1+1) (by omega) f4
    cases hnum:fK 0 ((s.drop a).takeWhile digit)with
    |none=>
     rw[hnum]at hk
     simp only[AUo,go_sem,Nat.reduceAdd]
     refine Eb g4 rfl rfl (by omega) (by show 2+1<=5;omega) λH5 g5 s5=>?_
     have e:VJ (.bool false)=some (.bool true):=rfl
     simp only[go_sem,e,AGQ]
     have gn5:=(s5 n (by omega)).trans gn
     rw[ZI (m:=5) gn5 (by omega) rfl rfl,DU (m:=5) (T.C9 ..) (by omega) rfl]
     simp only[go_sem]
     obtain⟨l1,c1,y1,y2,y3,y4,hg⟩:=h4
     refine hk _ _ _ ⟨by omega,λid hid hb=>?_⟩ ⟨l1,c1,y1,y2,y3,y4,?_⟩ rfl λh=>by cases h
     ·rw[T.Au _ _ (by omega),s5 _ (by omega)];exact b4.same id hid hb
     ·rw[T.Au _ _ (by omega),s5 _ (by omega)];exact hg
    |some nu=>
     rw[hnum]at hk
     simp only[AUo,go_sem,Nat.reduceAdd]
     refine Eb g4 rfl rfl (by omega) (by show 2+1<=5;omega) λH5 g5 s5=>?_
     have e:VJ (.bool true)=some (.bool false):=rfl
     simp only[go_sem,e]
     have gn5:=(s5 n (by omega)).trans gn
     have g5:T.get H5 (n+1)=some (one (U8 ⟨4,(s.drop a).takeWhile digit,nu⟩ line col)):=g5
     have b5:Kx lb H n H5 (n+1+1+1):=⟨b4.le,λid hid hb=>(s5 id (by omega)).trans (b4.same id hid hb)⟩
     obtain⟨l1,c1,y1,y2,y3,y4,hg⟩:=h4
     refine AH2 b5 gn5 g5 (by omega) (by omega) hq (by omega) (by omega) (by omega) ⟨l1,c1,y1,y2,y3,y4,(s5 _ (by omega)).trans hg⟩ (by show a+(List.takeWhile digit (s.drop a)).length<=_;omega) hs x1 x2 ?_
     have e:AAu ⟨4,(s.drop a).takeWhile digit,nu⟩=(0,⟨4,(s.drop a).takeWhile digit,nu⟩):=by simp[AAu]
     exact e▸hk
   |false=>
    rw[k3]at hk
    simp only[go_sem]
    have e80:A8 22 (.XJ 0 0) G H1=some (.agg (FI.map sB)):=by
     show Pz (G 0 0 22) (λL=>some (.agg L))=_
     rw[hG];rfl
    simp only[go_sem,e80]
    obtain⟨R,hR⟩:∃R,FI.find? (λm=>pre m (s.drop a))=R:=⟨_,rfl⟩
    rw[hR]at hk
    refine ER (N:=22) (J:=λj q=>q=(.ptr lb 0,.ptr n 0,.ptr (n+1) 0,.agg (FI.map sB),.int .i64 (.ofNat j) 0,H1,n+1+1)/\(FI.drop j).find? (λm=>pre m (s.drop a))=R) ?_ ?_ ⟨rfl,hR⟩
    ·rintro I j q hlt ⟨rfl,hR⟩ ih
     show JW lfp G (Runs F G) k I (.ptr lb 0) (.ptr n 0) (.ptr (n+1) 0) (.agg (FI.map sB)) (.int .i64 (.ofNat j) 0) H1 (n+1+1)
     delta JW
     have hj:j<FI.length:=hlt
     rw[List.drop_eq_getElem_cons hj,List.find?_cons]at hR
     have hlen:(FI[j]).length<=2:=by
      have:∀m∈FI,m.length<=2:=by decide
      exact this _ (List.getElem_mem hj)
     have hix:ATr 22 (.agg (FI.map sB)) (.int .i64 (.ofNat j) 0)=some (sB FI[j]):=by
      show BO (Nat.blt j 22) (nth (FI.map sB) j)=_
      rw[show Nat.blt j 22=true by rw[Nat.blt_eq];exact hlt,iq]
      show(FI.map sB)[j]? =_
      simp[hj]
     generalize FI[j]=m at hR hlen hix
     simp only[go_sem,ES,hlt,decide_true,hix,Nat.reduceAdd,e0,e1,AKa ha]
     refine ACE ?_
     cases hp:pre m (s.drop a)with
     |true=>
      rw[hp]at hR
      subst hR
      simp only[go_sem,Nat.reduceAdd]
      refine AKU g2 λH2 g s2=>?_
      refine ATd g λH3 g s3=>?_
      have hle:m.length<=s.length-a:=by
       unfold pre at hp
       rw[List.length_drop]at hp
       simp only[Bool.and_eq_true,decide_eq_true_eq]at hp
       exact hp.1
      refine fin (ADI (ADI b0 s2) s3) g (by show a+m.length<=_;omega) ?_
      have e:AAu ⟨5,m,0⟩=(0,⟨5,m,0⟩):=by
       have:¬40<m.length:=by omega
       simp[AAu,this]
      exact e▸hk
     |false=>
      rw[hp]at hR
      simp only[go_sem,Ee (show j+1<9223372036854775808 by omega)]
      exact ih _ ⟨rfl,hR⟩
    ·rintro I q ⟨rfl,hR⟩
     show JW lfp G (Runs F G) k I (.ptr lb 0) (.ptr n 0) (.ptr (n+1) 0) (.agg (FI.map sB)) (.int .i64 (.ofNat 22) 0) H1 (n+1+1)
     delta JW
     rw[show FI.drop 22=[]from rfl]at hR
     subst hR
     simp only[go_sem,ES,Nat.lt_irrefl,decide_false]
     exact fin b0 g2 (by show a+0<=_;omega) hk
end
def ALS(c:LV)(t:Tok):Prop:=∃line col,1<=line/\1<=col/\c=U8 t line col
theorem ADg(c:UInt8)(l:Bs):JB (c::l)=(bif great c then dG ⟨2,(c::l).takeWhile inner,0⟩else
 bif small c then dG ⟨bif decide ((c::l).takeWhile inner∈TN)then 1 else 3,(c::l).takeWhile inner,0⟩else
 bif digit c then(match fK 0 ((c::l).takeWhile digit)with|none=>(22,YW)|some n=>(0,⟨4,(c::l).takeWhile digit,n⟩))else
 match FI.find? (λm=>pre m (c::l))with|none=>(20,YW)|some m=>(0,⟨5,m,0⟩)):=rfl
theorem AO0:∀r:Bs,(JB r).2.text.length<=r.length
 |[]=>Nat.le_refl _
 |c::l=>by
  have h1:=AIs inner (c::l)
  have h2:=AIs digit (c::l)
  have hc:∀t:Tok,t.text.length<=(c::l).length->(dG t).2.text.length<=(c::l).length:=by
   intro t ht;unfold dG;cases decide (40<t.text.length)
   ·exact ht
   ·exact Nat.zero_le _
  rw[ADg]
  cases great c
  case true=>exact hc ⟨2,_,0⟩ h1
  cases small c
  case true=>exact hc ⟨_,_,0⟩ h1
  cases digit c
  case true=>
   simp only[cond_true,cond_false]
   cases fK 0 ((c::l).takeWhile digit)with
   |none=>exact Nat.zero_le _
   |some n=>exact h2
  simp only[cond_false]
  cases hf:FI.find? (λm=>pre m (c::l))with
  |none=>exact Nat.zero_le _
  |some m=>
   have:=List.find?_some hf
   simp only[pre,Bool.and_eq_true,decide_eq_true_eq]at this
   exact this.1
theorem AM1:∀r:Bs,(JB r).1=0->(JB r).2.kind≠0->0<(JB r).2.text.length
 |[]=>λ_ h=>absurd rfl h
 |c::l=>by
  have hc:∀t:Tok,0<t.text.length->(dG t).1=0->0<(dG t).2.text.length:=by
   intro t ht;unfold dG;cases decide (40<t.text.length)
   ·exact λ_=>ht
   ·intro h;cases h
  have tw:∀g:UInt8->Bool,g c=true->0<((c::l).takeWhile g).length:=λg h=>by rw[List.takeWhile_cons,h];simp
  rw[ADg]
  cases h1:great c
  case true=>exact λh _=>hc ⟨2,_,0⟩ (tw inner (by simp[inner,h1])) h
  cases h2:small c
  case true=>exact λh _=>hc ⟨_,_,0⟩ (tw inner (by simp[inner,h2])) h
  cases h3:digit c
  case true=>
   simp only[cond_true,cond_false]
   cases fK 0 ((c::l).takeWhile digit)with
   |none=>intro h;cases h
   |some n=>exact λ_ _=>tw digit h3
  simp only[cond_false]
  cases hf:FI.find? (λm=>pre m (c::l))with
  |none=>intro h;cases h
  |some m=>
   intro _ _
   have h4:∀m∈FI,0<m.length:=by decide
   exact h4 m (List.mem_of_find?_eq_some hf)
def AYP(G:AV)(k:KV)(H:Heap)(n:Nat)(r:Nat×List Tok):Prop:=∀(H':Heap) (n':Nat) (v:V) (c:LV),Kp H n H' n'->
 (r.1=0->(∃cs id,v=.QF id 0 cs.length 5/\n<=id/\id<n'/\El G H' v 5 cs/\Pw ALS cs r.2)/\c=[.int .i64 (.ofNat 0) 0,.int .i64 (.ofNat 0) 0,.int .i64 (.ofNat 0) 0])->
 (r.1≠0->∃line col,1<=line/\1<=col/\c=[.int .i64 (.ofNat r.1) 0,.int .i64 (.ofNat line) 0,.int .i64 (.ofNat col) 0])->k (.Jq [v,.agg c]) H' n'
theorem AKc{z0 z1 z2 a b:V}(e:Int):Bl [z0,z1,z2] [(0,1,.c (.int .i64 e 0)),(1,2,.c (.agg [a,b]))]=some (.agg [.int .i64 e 0,a,b]):=rfl
theorem AVV{z0 z1 z2:V}:Bl [z0,z1,z2] []=some (.agg [z0,z1,z2]):=rfl
theorem AWd{z0 z1 z2 z3 a b:V}(s:Bs):Bl [z0,z1,z2,z3] [(0,1,.c (sB s)),(2,2,.c (.agg [a,b]))]=some (.agg [sB s,z1,a,b]):=rfl
section
variable{G:AV}{H:Heap}{n:Nat}{s:Bs}{k:KV}
theorem AZE(hG:Zz G)(hk:AYP G k H n (AEB s)):Runs F G AFd [sB s] H n k:=by
 refine Am (s:=Gw (tN lfp G)) xA (by obtain⟨h,o⟩:=AJV Ap G;rw[xA]at h;cases h;exact o) ?_
 show tN lfp G (Runs F G) (sB s) H n k
 delta tN
 unfold AEB at hk
 simp only[go_sem,Nat.reduceAdd,AN2,AWd,Pm,MJ]
 have f1:Kp H n (T.set (T.set H n (one [.int .i64 (.ofNat 0) 0,.int .i64 (.ofNat 0) 0,.int .i64 (.ofNat 0) 0])) (n+1) (one [sB s,.int .i64 (.ofNat 0) 0,.int .i64 (.ofNat 1) 0,.int .i64 (.ofNat 1) 0])) (n+1+1):=
  ((Kp.refl H n).new (m:=n+1) _ (Nat.le_refl _) (by omega)).new _ (by omega) (by omega)
 have g1:=(T.Au (T.set H n (one [V.int .i64 (.ofNat 0) 0,.int .i64 (.ofNat 0) 0,.int .i64 (.ofNat 0) 0])) (one [sB s,.int .i64 (.ofNat 0) 0,.int .i64 (.ofNat 1) 0,.int .i64 (.ofNat 1) 0]) (show n+1≠n by omega)).trans (T.C9 ..)
 have g2:=T.C9 (T.set H n (one [V.int .i64 (.ofNat 0) 0,.int .i64 (.ofNat 0) 0,.int .i64 (.ofNat 0) 0])) (n+1) (one [sB s,.int .i64 (.ofNat 0) 0,.int .i64 (.ofNat 1) 0,.int .i64 (.ofNat 1) 0])
 generalize T.set (T.set H n (one [V.int .i64 (.ofNat 0) 0,.int .i64 (.ofNat 0) 0,.int .i64 (.ofNat 0) 0])) (n+1) (one [sB s,.int .i64 (.ofNat 0) 0,.int .i64 (.ofNat 1) 0,.int .i64 (.ofNat 1) 0])=H1 at f1 g1 g2⊢
 cases hs:decide (65536<s.length)with
 |true=>
  rw[hs]at hk
  simp only[go_sem,Nat.reduceAdd]
  rw[OQ (m:=2) (o:=2) g2 (by omega) (by show 2+2<=4;omega)]
  simp only[go_sem,List.drop_succ_cons,List.drop_zero,List.take_succ_cons,List.take_zero,AKc]
  rw[ZI (m:=3) g1 (by omega) rfl rfl,DU (m:=3) (T.C9 ..) (by omega) rfl]
  simp only[go_sem]
  exact hk _ _ _ _ (f1.set _ (Nat.le_refl _)) (λh=>by cases h) λ_=>⟨1,1,by omega,by omega,rfl⟩
 |false=>
  rw[hs,cond_false]at hk
  have hs:s.length<=65536:=by simpa using hs
  simp only[go_sem]
  refine OY (J:=λm q=>∃H' n' a v cs xs f,m=s.length-a/\q=(.ptr n 0,.ptr (n+1) 0,v,H',n')/\Kp H n H' n'/\n+2<=n'/\T.get H' n=some (one [.int .i64 (.ofNat 0) 0,.int .i64 (.ofNat 0) 0,.int .i64 (.ofNat 0) 0])/\LAt H' (n+1) s a/\
   a<=s.length/\Own G H' (n+2) n' 5 v cs/\Pw ALS cs xs/\cs.length<=a/\s.length-a<f/\AYP G k H n ((zK f (s.drop a)).1,xs++(zK f (s.drop a)).2)) ?_ (m:=s.length)
   ⟨H1,n+1+1,0,.Ad,[],[],s.length+1,rfl,rfl,f1,by omega,g1,⟨1,1,by omega,by omega,by omega,by omega,g2⟩,by omega,XP,.nil,by simp,by omega,hk⟩
  rintro I m q ⟨H2,n2,a,v,cs,xs,f,rfl,rfl,f2,hn2,g0,hl,ha,ho,hx,hcs,hf,hk⟩ ih
  show dF lfp G (Runs F G) k I (.ptr n 0) (.ptr (n+1) 0) v H2 n2
  delta dF
  refine AWt hl ha hs λH3 a3 f3 hl3 ha3 hd3=>?_
  refine AUP hG hl3 ha3 hs (by omega) ?_
  obtain⟨f,rfl⟩:∃g,f=g+1:=⟨f-1,by omega⟩
  rw[hd3]
  have hlexF:zK (f+1) (s.drop a)=bif decide ((JB (Dx false (s.drop a))).1=0)then
   bif decide ((JB (Dx false (s.drop a))).2.kind=0)then(0,[(JB (Dx false (s.drop a))).2])
   else((zK f ((Dx false (s.drop a)).drop (JB (Dx false (s.drop a))).2.text.length)).1,(JB (Dx false (s.drop a))).2::(zK f ((Dx false (s.drop a)).drop (JB (Dx false (s.drop a))).2.text.length)).2)
   else((JB (Dx false (s.drop a))).1,[]):=rfl
  rw[hlexF,<-hd3]at hk
  have hle:=AO0 (s.drop a3)
  have hpos:=AM1 (s.drop a3)
  rw[List.length_drop]at hle
  rw[<-hd3]
  intro H4 n4 c f4 hl4 hcl ht
  generalize JB (s.drop a3)=R at hk hle hpos hl4 ht
  obtain⟨e,t⟩:=R
  simp only[go_sem,Nat.reduceAdd]
  obtain⟨c0,c1,c2,c3,c4,rfl⟩:∃c0 c1 c2 c3 c4,c=[c0,c1,c2,c3,c4]:=by
   match c,hcl with
   |[c0,c1,c2,c3,c4],_=>exact⟨c0,c1,c2,c3,c4,rfl⟩
  have f24:=f3.trans f4
  have hn4:=f24.le
  have g04:T.get H4 n=_:=f24.get g0 (by omega) (by omega)
  have ho4:=ho.kx f24 (by omega)
  have f4':Kp H n H4 n4:=⟨by have:=f2.le;omega,λid hid=>(f24.same id (by omega) (by omega)).trans (f2.same id hid)⟩
  simp only[go_sem,Nat.reduceAdd]
  rw[T.set_set]
  have f5:Kp H4 n4 (T.set H4 n4 (one [c0,c1,c2,c3,c4])) (n4+1):=(Kp.refl _ _).new _ (Nat.le_refl _) (by omega)
  have g5:=T.C9 H4 n4 (one [c0,c1,c2,c3,c4])
  generalize T.set H4 n4 (one [c0,c1,c2,c3,c4])=H5 at f5 g5⊢
  have g05:=f5.get g04 (by omega)
  have f5':=f4'.trans f5
  have hl5:=hl4.kp (n:=n4) (by omega) f5
  simp only[ZR]
  cases he:decide (e=0)with
  |false=>
   have he':e≠0:=by simpa using he
   rw[he,cond_false]at hk
   obtain⟨line,col,y1,y2,y3,y4,hg⟩:=hl5
   simp only[Bool.not_false,go_sem,Nat.reduceAdd]
   rw[OQ (m:=2) (o:=2) hg (by omega) (by show 2+2<=4;omega)]
   simp only[go_sem,List.drop_succ_cons,List.drop_zero,List.take_succ_cons,List.take_zero,AKc]
   rw[ZI (m:=3) g05 (by omega) rfl rfl,DU (m:=3) (T.C9 ..) (by omega) rfl]
   simp only[go_sem]
   exact hk _ _ _ _ (f5'.set _ (Nat.le_refl _)) (λh=>absurd h he') λ_=>⟨line,col,y1,y2,rfl⟩
  |true=>
   have he':e=0:=by simpa using he
   subst he'
   rw[he,cond_true]at hk
   obtain⟨line,col,y1,y2,hc⟩:=ht rfl
   rw[hc]at g5⊢
   simp only[Bool.not_true,go_sem]
   refine Ju (G:=G) (vs:=[.agg (U8 t line col)]) rfl (by omega) (λv hv=>by simp at hv;subst hv;exact⟨rfl,rfl⟩) λH6 f6 _ hel=>?_
   have ho6:=(ho4.kp f5).kp f6
   refine ho6.gr.app (by omega) ho6.lo hel.2 (by show(cs.length+1)*48<=_;omega) ?_ (λh=>by cases h)
   intro v' H7 hgr hsame hlo
   have hgr:Gr G H7 (n+2) 5 v' (cs++[U8 t line col]):=hgr
   have f7:Kp H n H7 (n4+1+1+1):=⟨by have:=f5'.le;omega,λid hid=>(hsame id (by have:=f5'.le;omega) (λh=>by have:=ho6.ge h;omega)).trans ((f6.same id (by have:=f5'.le;omega)).trans (f5'.same id hid))⟩
   have g7:∀{id:Nat} {b:RQ},id<n+2->T.get H5 id=some b->T.get H7 id=some b:=λhid h=>(hsame _ (by omega) (λh=>by have:=ho6.ge h;omega)).trans ((f6.same _ (by omega)).trans h)
   have g57:T.get H7 n4=some (one (U8 t line col)):=(hsame n4 (by omega) (λh=>by have:=ho4.lo _ h;omega)).trans ((f6.same n4 (by omega)).trans g5)
   have q0:AX (.ptr n4 0) G H7=some (.int .i64 (.ofNat t.kind) 0):=AQ g57 rfl
   have hel7:El G H7 v' 5 (cs++[U8 t line col]):=hgr.el (by omega)
   have hpw:Pw ALS (cs++[U8 t line col]) (xs++[t]):=hx.app (.cons ⟨line,col,y1,y2,rfl⟩ .nil)
   simp only[go_sem,Nat.reduceAdd,q0,YX]
   cases hkd:decide (t.kind=0)with
   |true=>
    rw[hkd,cond_true]at hk
    simp only[go_sem,AVV]
    rw[ZI (m:=3) (g7 (by omega) g05) (by omega) rfl rfl,DU (m:=3) (T.C9 ..) (by omega) rfl]
    simp only[go_sem]
    have f8:=f7.set (one [V.int .i64 (.ofNat 0) 0,.int .i64 (.ofNat 0) 0,.int .i64 (.ofNat 0) 0]) (Nat.le_refl n)
    refine hk _ _ _ _ f8 (λ_=>⟨?_,rfl⟩) (λh=>absurd rfl h)
    have hel8:El G (T.set H7 n (one [V.int .i64 (.ofNat 0) 0,.int .i64 (.ofNat 0) 0,.int .i64 (.ofNat 0) 0])) v' 5 (cs++[U8 t line col]):=hel7.same λid hid=>T.Au _ _ (by have:=(hgr.lo hid).1;omega)
    generalize hcs':cs++[U8 t line col]=cs' at hgr hel7 hel8 hpw
    cases hgr with
    |nil=>simp at hcs'
    |QF hg hc ht hid=>
     rename_i id c tt
     exact⟨_,id,rfl,by omega,by have:=hlo id rfl;omega,hel8,hpw⟩
   |false=>
    rw[hkd,cond_false]at hk
    have hkd':t.kind≠0:=by simpa using hkd
    have hp0:0<t.text.length:=hpos rfl hkd'
    have hle:t.text.length<=s.length-a3:=hle
    have hlen:(s.drop a3).length=(Dx false (s.drop a)).length:=by rw[hd3]
    have hsk:=oz false (s.drop a)
    rw[List.length_drop]at hlen hsk
    simp only[go_sem]
    have hl7:LAt H7 (n+1) s (a3+t.text.length):=by
     obtain⟨line,col,y1,y2,y3,y4,hg⟩:=hl5
     exact⟨line,col,y1,y2,y3,y4,g7 (by omega) hg⟩
    refine ih (s.length-(a3+t.text.length)) _ (by omega) ⟨H7,n4+1+1+1,a3+t.text.length,v',cs++[U8 t line col],xs++[t],f,rfl,rfl,f7,by omega,g7 (by omega) g05,hl7,by omega,⟨hgr,hlo⟩,hpw,?_,by omega,?_⟩
    ·rw[List.length_append];show cs.length+1<=_;omega
    ·rw[List.append_assoc,<-List.drop_drop];exact hk
end
structure S where
 t:Tok
 r:List Tok
 deep:Nat
 e:Nat
abbrev PM(α:Type):=S->Option (α×S)
def S.ok(s:S):Bool:=decide (s.e=0)
def GR(e:Nat)(s:S):S:=bif s.ok then{s with e:=e}else s
def Vg(w:Bs)(s:S):Bool:=s.ok&&((decide (s.t.kind=1)||decide (s.t.kind=5))&&decide (s.t.text=w))
def Ko(ws:List Bs)(s:S):Bool:=ws.any λw=>Vg w s
def Np(s:S):Option S:=bif decide (s.t.kind=0)then some s else match s.r with|[]=>none|t::r=>some {s with t:=t,r:=r}
def Ci(w:Bs):PM Bool:=λs=>bif Vg w s then(Np s).bind λs'=>some (true,s')else some (false,s)
def CG:List Bs->S->Option S
 |[],s=>some s
 |w::ws,s=>(Ci w s).bind λp=>CG ws (bif p.1 then p.2 else GR 21 p.2)
def JZ(k:Nat):PM Bs:=λs=>bif s.ok&&decide (s.t.kind=k)then(Np s).bind λs'=>some (s.t.text,s')else some ([],GR 21 s)
def UE(s:S):Option S:=bif decide (s.deep<1000000)then some (bif decide (100<s.deep+1)then GR 3 {s with deep:=s.deep+1}else{s with deep:=s.deep+1})else none
def jG(s:S):Option S:=match s.deep with|0=>none|d+1=>bif decide (d<1000000)then some {s with deep:=d}else none
def F8(n:Nat)(s:S):S:=bif decide (200<n)then GR 4 s else s
structure Ty where
 nm:Bs
 arr:Bool
def ABr:PM Ty:=λs=>(Ci uf s).bind λp=>bif p.1 then some (⟨uf,false⟩,p.2)else
 (Ci dX p.2).bind λp=>bif p.1 then some (⟨dX,false⟩,p.2)else(JZ 2 p.2).bind λp=>some (⟨p.1,false⟩,p.2)
def dn:PM Ty:=λs=>(ABr s).bind λp=>(Ci Hq p.2).bind λq=>bif q.1 then(CG [G6] q.2).bind λs=>some (⟨p.1.nm,true⟩,s)else some (p.1,q.2)
inductive Ex where
 |mk (kind num:Nat) (nm:Bs) (ty:Bs) (arr:Bool) (kids:List Ex)
def Ex.kind:Ex->Nat|.mk k _ _ _ _ _=>k
def jh(k:Nat)(w:Bs)(nx:PM Ex):Nat->Ex->PM Ex
 |0,_,_=>none
 |f+1,e,s=>bif Ko [w] s then(Np s).bind λs1=>(nx s1).bind λp=>jh k w nx f (.mk k 0 [] [] false [e,p.1]) p.2 else some (e,s)
def either(k:Nat)(w:Bs)(nx:PM Ex)(f:Nat):PM Ex:=λs=>(nx s).bind λp=>jh k w nx f p.1 p.2
def wR(ws:List Bs)(nx:PM Ex):Nat->Ex->PM Ex
 |0,_,_=>none
 |f+1,e,s=>bif Ko ws s then(Np s).bind λs1=>(nx s1).bind λp=>wR ws nx f (.mk 16 0 s.t.text [] false [e,p.1]) p.2 else some (e,s)
def signs(ws:List Bs)(nx:PM Ex)(f:Nat):PM Ex:=λs=>(nx s).bind λp=>wR ws nx f p.1 p.2
def sumP(un:PM Ex)(f:Nat):PM Ex:=signs [Zp,Dz] (signs [WZ,SN,pz] un f) f
def compared(un:PM Ex)(f:Nat):PM Ex:=λs=>(sumP un f s).bind λp=>
 bif Ko [YK,lg,VR,lW] p.2 then(Np p.2).bind λs1=>(sumP un f s1).bind λq=>some (.mk 16 0 p.2.t.text [] false [p.1,q.1],q.2)else some (p.1,p.2)
def asL:Nat->Ex->PM Ex
 |0,_,_=>none
 |f+1,e,s=>bif Ko [UC,Qv] s then(Np s).bind λs1=>(JZ 2 s1).bind λp=>asL f (.mk (bif decide (s.t.text=Qv)then 20 else 19) 0 [] p.1 false [e]) p.2 else some (e,s)
def Uz(rec:PM Ex):Nat->List Ex->PM (List Ex)
 |0,_,_=>none
 |f+1,out,s=>bif s.ok then(Ci BM s).bind λp=>bif p.1 then some (out,p.2)else
  (bif decide (0<out.length)then CG [DK] p.2 else some p.2).bind λs1=>(rec s1).bind λq=>Uz rec f (out++[q.1]) (F8 (out.length+1) q.2)
  else some (out,s)
def bK(rec:PM Ex)(f:Nat):PM (List Ex):=λs=>(CG [BJ] s).bind λs1=>Uz rec f [] s1
def ZE(rec:PM Ex)(f:Nat)(e:Ex):PM Ex:=λs=>(Ci Io s).bind λp=>bif p.1 then some (.mk 13 0 [] [] false [e],p.2)else
 (JZ 3 p.2).bind λq=>bif Ko [BJ] q.2 then(bK rec f q.2).bind λa=>some (.mk 8 0 q.1 [] false (e::a.1),a.2)else some (.mk 7 0 q.1 [] false [e],q.2)
def wL(t:Ty):Bool:= !t.arr&&(match t.nm with|[]=>false|c::_=>great c)
def VW(rec:PM Ex)(f:Nat):PM Ex:=λs=>
 bif !s.ok then some (.mk 0 0 [] [] false [],s)else
 bif decide (s.t.kind=4)then(Np s).bind λs1=>some (.mk 1 s.t.num [] [] false [],s1)else
 bif decide (s.t.kind=3)then(Np s).bind λs1=>some (.mk 6 0 s.t.text [] false [],s1)else
 bif decide (s.t.kind=2)then(Np s).bind λs1=>(CG [DX] s1).bind λs2=>(JZ 3 s2).bind λq=>(bK rec f q.2).bind λa=>some (.mk 9 0 q.1 s.t.text false a.1,a.2)else
 (Ci YT s).bind λp=>bif p.1 then some (.mk 2 0 [] [] false [],p.2)else
 (Ci UM p.2).bind λp=>bif p.1 then some (.mk 3 0 [] [] false [],p.2)else
 (Ci TS p.2).bind λp=>bif p.1 then some (.mk 4 0 [] [] false [],p.2)else
 (Ci Yd p.2).bind λp=>bif p.1 then some (.mk 5 0 [] [] false [],p.2)else
 (Ci Jb p.2).bind λp=>bif p.1 then
  ((ABr p.2).bind λb=>(Ci Hq b.2).bind λq=>bif q.1 then(rec q.2).bind λx=>(CG [G6] x.2).bind λs1=>some (.mk 11 0 [] b.1.nm b.1.arr [x.1],s1)
   else some (.mk 10 0 [] b.1.nm b.1.arr [],bif wL b.1 then q.2 else GR 21 q.2))else
 (Ci BJ p.2).bind λp=>bif p.1 then(rec p.2).bind λx=>(CG [BM] x.2).bind λs1=>some (x.1,s1)else
 some (.mk 0 0 [] [] false [],GR 21 p.2)
def Ot(rec:PM Ex):Nat->Ex->PM Ex
 |0,_,_=>none
 |f+1,e,s=>(Ci Hq s).bind λp=>bif p.1 then(rec p.2).bind λq=>(CG [G6] q.2).bind λs1=>Ot rec f (.mk 12 0 [] [] false [e,q.1]) s1 else
  (Ci DX p.2).bind λp=>bif p.1 then(ZE rec f e p.2).bind λq=>Ot rec f q.1 q.2 else some (e,p.2)
def Wx(rec:PM Ex)(f:Nat):PM Ex:=λs=>(VW rec f s).bind λp=>Ot rec f p.1 p.2
def unary(rec:PM Ex):Nat->PM Ex
 |0,_=>none
 |f+1,s=>bif Ko [Dz] s then(UE s).bind λs1=>(Np s1).bind λs2=>(unary rec f s2).bind λp=>(jG p.2).bind λs'=>some (.mk 14 0 [] [] false [p.1],s')else
  bif Ko [JA] s then(UE s).bind λs1=>(Np s1).bind λs2=>(unary rec f s2).bind λp=>(jG p.2).bind λs'=>some (.mk 15 0 [] [] false [p.1],s')else
  (Wx rec f s).bind λp=>asL f p.1 p.2
def AHw(rec:PM Ex)(f:Nat):PM Ex:=λs=>(UE s).bind λs1=>(either 18 ZP (either 17 Ob (compared (unary rec f) f) f) f s1).bind λp=>(jG p.2).bind λs'=>some (p.1,s')
def expr:Nat->PM Ex
 |0,_=>none
 |f+1,s=>AHw (expr f) f s
inductive St where
 |mk (does:Nat) (nm:Bs) (ty:Ty) (es:List Ex) (th el:List St)
def Rj(st:PM St):Nat->List St->PM (List St)
 |0,_,_=>none
 |f+1,out,s=>bif s.ok then(Ci m_rc s).bind λp=>bif p.1 then some (out,p.2)else(st p.2).bind λq=>bif decide (out.length<1000000)then Rj st f (out++[q.1]) q.2 else none
  else some (out,s)
def GU(st:PM St)(f:Nat):PM (List St):=λs=>(UE s).bind λs1=>(CG [Nu] s1).bind λs2=>(Rj st f [] s2).bind λp=>(jG p.2).bind λs'=>some (p.1,s')
def JO:Ty:=⟨[],false⟩
def rC(f:Nat):PM St:=λs=>(expr f s).bind λp=>bif Ko [EM] p.2 then
 (CG [EM] (bif decide (p.1.kind=6)||(decide (p.1.kind=7)||decide (p.1.kind=12))then p.2 else GR 21 p.2)).bind λs1=>(expr f s1).bind λq=>some (.mk 2 [] JO [p.1,q.1] [] [],q.2)
 else some (.mk 3 [] JO [p.1] [] [],bif decide (p.1.kind=8)||decide (p.1.kind=9)then p.2 else GR 21 p.2)
def endP(st:St)(s:S):Option (St×S):=(CG [BD] s).bind λs1=>some (st,s1)
def zk(st ch:PM St)(f:Nat):PM St:=λs=>(UE s).bind λs1=>(CG [KI] s1).bind λs2=>(expr f s2).bind λc=>(GU st f c.2).bind λt=>
 (Ci Ec t.2).bind λp=>(bif p.1 then(bif Ko [KI] p.2 then(ch p.2).bind λx=>some ([x.1],x.2)else GU st f p.2)else some ([],p.2)).bind λx=>
 (jG x.2).bind λs'=>some (.mk 4 [] JO [c.1] t.1 x.1,s')
def Zg(st ch:PM St)(f:Nat):PM St:=λs=>(Ci P5 s).bind λp=>bif p.1 then
 (dn p.2).bind λt=>(JZ 3 t.2).bind λn=>(CG [EM] n.2).bind λs1=>(expr f s1).bind λx=>endP (.mk 1 n.1 t.1 [x.1] [] []) x.2 else
 bif Ko [KI] p.2 then ch p.2 else
 (Ci Fz p.2).bind λp=>bif p.1 then(expr f p.2).bind λc=>(GU st f c.2).bind λt=>some (.mk 5 [] JO [c.1] t.1 [],t.2)else
 (Ci E8 p.2).bind λp=>bif p.1 then(expr f p.2).bind λx=>endP (.mk 6 [] JO [x.1] [] []) x.2 else
 (Ci Gu p.2).bind λp=>bif p.1 then(expr f p.2).bind λx=>endP (.mk 7 [] JO [x.1] [] []) x.2 else
 (rC f p.2).bind λx=>endP x.1 x.2
def sc:Nat->Bool->PM St
 |0,_,_=>none
 |f+1,b,s=>bif b then zk (sc f false) (sc f true) f s else Zg (sc f false) (sc f true) f s
structure Va where
 nm:Bs
 ty:Ty
structure Me where
 nm:Bs
 st:Bool
 ps:List Va
 ret:Ty
 body:List St
structure Cl where
 nm:Bs
 sup:Bs
 fs:List Va
 ms:List Me
def JH:Nat->List Va->PM (List Va)
 |0,_,_=>none
 |f+1,out,s=>bif s.ok then(Ci BM s).bind λp=>bif p.1 then some (out,p.2)else
  (bif decide (0<out.length)then CG [DK] p.2 else some p.2).bind λs1=>(dn s1).bind λt=>(JZ 3 t.2).bind λn=>JH f (out++[⟨n.1,t.1⟩]) (F8 (out.length+1) n.2)
  else some (out,s)
def ZA(f:Nat):PM Me:=λs=>(Ci Ip s).bind λp=>(CG [Ep] p.2).bind λs1=>(dn s1).bind λt=>(JZ 3 t.2).bind λn=>(CG [BJ] n.2).bind λs2=>
 (JH f [] s2).bind λps=>(GU (sc f false) f ps.2).bind λb=>some (⟨n.1,p.1,ps.1,t.1,b.1⟩,b.2)
def Gy(f:Nat):Nat->List Va->List Me->PM (List Va×List Me)
 |0,_,_,_=>none
 |g+1,fs,ms,s=>bif s.ok then(Ci m_rc s).bind λp=>bif p.1 then some ((fs,ms),p.2)else
  (Ci O5 p.2).bind λp=>bif p.1 then(dn p.2).bind λt=>(JZ 3 t.2).bind λn=>(CG [BD] (F8 (fs.length+1) n.2)).bind λs1=>Gy f g (fs++[⟨n.1,t.1⟩]) ms s1 else
  bif Ko [Ip,Ep] p.2 then(ZA f p.2).bind λm=>Gy f g fs (ms++[m.1]) (F8 (ms.length+1) m.2)else
  Gy f g fs ms (GR 21 p.2)
  else some ((fs,ms),s)
def AJg(f:Nat):PM Cl:=λs=>(CG [OM] s).bind λs1=>(JZ 2 s1).bind λn=>(Ci I9 n.2).bind λp=>(bif p.1 then JZ 2 p.2 else some ([],p.2)).bind λu=>(CG [Nu] u.2).bind λs2=>
 (Gy f f [] [] s2).bind λx=>some (⟨n.1,u.1,x.1.1,x.1.2⟩,bif x.2.ok&& !decide (x.2.t.kind=0)then GR 21 x.2 else x.2)
def AG9(f:Nat):List Tok->Option (Cl×Nat)
 |[]=>none
 |t::r=>(AJg f ⟨t,r,0,0⟩).bind λp=>some (p.1,p.2.e)
theorem AH6{e:Option V}{P:V->Prop}{b:Bool}(h:P (.Jq [])):Bc (.Jq []) b e P:=h
theorem En{id o l c z i:Nat}(h:(V.sl id o l c z).QU=some i):i=id:=by cases h;rfl
theorem wK{id o l z i:Nat}(h:(V.QF id o l z).QU=some i):i=id:=by cases h;rfl
inductive ZX(G:AV)(H:Heap)(pb:Nat)(s:S):Prop where
 |mk {tid off line col:Nat} {cs:Dv} (hg:T.get H pb=some (one [.QF tid off cs.length 5,.int .i64 (.ofNat s.deep) 0,.int .i64 (.ofNat s.e) 0,.int .i64 (.ofNat line) 0,.int .i64 (.ofNat col) 0]))
  (he:El G H (.QF tid off cs.length 5) 5 cs) (ht:Pw ALS cs (s.t::s.r)) (hp:s.e≠0->1<=line/\1<=col) (hl:tid<pb)
section
variable{G:AV}{H H':Heap}{n n' pb:Nat}{s s':S}{k:KV}
theorem ZX.same(h:ZX G H pb s)(hs:∀id,id<=pb->T.get H' id=T.get H id):ZX G H' pb s:=by
 cases h with
 |mk hg he ht hp hl=>exact .mk ((hs _ (Nat.le_refl _)).trans hg) (he.same λid hid=>by cases hid;exact hs _ (by omega)) ht hp hl
theorem ZX.kp(h:ZX G H pb s)(f:Kp H n H' n')(hb:pb<n):ZX G H' pb s:=h.same λid hid=>f.same id (by omega)
theorem ZX.e(h:ZX G H pb s):AX (.ptr pb 2) G H=some (.int .i64 (.ofNat s.e) 0):=by cases h with|mk hg=>exact AQ hg rfl
theorem ZX.deep(h:ZX G H pb s):AX (.ptr pb 1) G H=some (.int .i64 (.ofNat s.deep) 0):=by cases h with|mk hg=>exact AQ hg rfl
theorem ZX.tok(h:ZX G H pb s):∃v tid o line col,AX (.ptr pb 0) G H=some v/\BN 5 v (.int .i64 (.ofNat 0) 0)=some (.ptr tid o)/\1<=line/\1<=col/\A8 5 (.ptr tid o) G H=some (.agg (U8 s.t line col))/\
 AX (.ptr tid o) G H=some (.int .i64 (.ofNat s.t.kind) 0)/\AX (.ptr tid (o+1)) G H=some (sB s.t.text)/\A8 2 (.ptr tid (o+3)) G H=some (.agg [.int .i64 (.ofNat line) 0,.int .i64 (.ofNat col) 0]):=by
 cases h with
 |mk hg he ht hp hl=>
  rename_i tid off l1 c1 cs
  cases ht with
  |cons h t=>
   rename_i c cs
   obtain⟨line,col,x1,x2,rfl⟩:=h
   have h2:=AQj he
   have h3:=(O6 _ _ h2).2 0 _ rfl
   rw[Nat.add_zero]at h3
   have sub:∀o m,0<m->o+m<=5->lC H tid (off*5+o) m=some (((U8 s.t line col).drop o).take m):=λo m h1 h2=>ALG h3 rfl h1 h2
   refine⟨_,tid,off*5,line,col,AQ hg rfl,?_,x1,x2,?_,?_,?_,?_⟩
   ·show BO (band (Nat.beq 5 5) (Nat.blt 0 (cs.length+1))) (Dy ((off+0)*5) λo=>some (.ptr tid o))=_
    rw[show Nat.blt 0 (cs.length+1)=true by rw[Nat.blt_eq];omega,Bv];rfl
   ·rw[AFF];show Pz (lC H tid (off*5) 5) _=_;rw[h3];rfl
   ·rw[ABx];show Pz (lC H tid (off*5+0) 1) _=_;rw[sub 0 1 (by omega) (by omega)];rfl
   ·rw[ABx];show Pz (lC H tid (off*5+1) 1) _=_;rw[sub 1 1 (by omega) (by omega)];rfl
   ·rw[AFF];show Pz (lC H tid (off*5+3) 2) _=_;rw[sub 3 2 (by omega) (by omega)];rfl
theorem ANH(h:ZX G H pb s)(hk:k (.bool s.ok) H n):Runs F G EL [.ptr pb 0] H n k:=by
 refine Am (s:=Gw (Qr lfp G)) Us (by obtain⟨h,o⟩:=xO Ap G;rw[Us]at h;cases h;exact o) ?_
 show Qr lfp G (Runs F G) (.ptr pb 0) H n k
 delta Qr
 simp only[go_sem,Nat.reduceAdd,h.e,YX]
 exact hk
theorem APZ{e:Nat}(h:ZX G H pb s)(hk:∀H',Kx pb H n H' n->ZX G H' pb (GR e s)->k (.Jq []) H' n):Runs F G DN [.ptr pb 0,.int .i64 (.ofNat e) 0] H n k:=by
 refine Am (s:=QS (OG lfp G)) RG (by obtain⟨h,o⟩:=ny Ap G;rw[RG]at h;cases h;exact o) ?_
 show OG lfp G (Runs F G) (.ptr pb 0) (.int .i64 (.ofNat e) 0) H n k
 delta OG
 unfold GR at hk
 simp only[go_sem,Nat.reduceAdd,h.e,YX]
 rw[show decide (s.e=0)=s.ok from rfl]
 cases ho:s.ok with
 |false=>
  rw[ho]at hk
  simp only[go_sem]
  exact hk _ (Kx.refl ..) h
 |true=>
  rw[ho]at hk
  obtain⟨v,tid,o,line,col,e0,e1,x1,x2,e2,e3,e4,e5⟩:=h.tok
  simp only[go_sem,Nat.reduceAdd,Nat.add_zero,e0,e1,e5,AKc]
  cases h with
  |mk hg he ht hp hl=>
   refine Eb hg rfl rfl (by omega) (by show 2+3<=5;omega) λH1 g1 s1=>?_
   exact hk _ ⟨Nat.le_refl _,λid _ hb=>s1 id hb⟩ (.mk g1 (he.same λid hid=>by cases hid;exact s1 _ (by omega)) ht (λ_=>⟨x1,x2⟩) hl)
def wsC(ws:List Bs):Dv:=ws.map λw=>[sB w]
theorem ALm(ws:List Bs):(wsC ws).length=ws.length:=List.length_map ..
theorem AKD{ws:List Bs}{i:Nat}(h:i<ws.length):(wsC ws)[i]? =some [sB ws[i]]:=by simp[wsC,h]
theorem AXa{ws:List Bs}{v:V}(h:ZX G H pb s)(hv:El G H v 1 (wsC ws))(hw:ws.length<=1000)(hk:k (.bool (Ko ws s)) H n):Runs F G Dl [.ptr pb 0,v] H n k:=by
 refine Am (s:=QS (Qu lfp G)) Uo (by obtain⟨h,o⟩:=xU Ap G;rw[Uo]at h;cases h;exact o) ?_
 show Qu lfp G (Runs F G) (.ptr pb 0) v H n k
 delta Qu
 unfold Ko at hk
 simp only[go_sem,hv.len,ALm]
 obtain⟨w,tid,o,line,col,e0,e1,x1,x2,e2,e3,e4,e5⟩:=h.tok
 obtain⟨R,hR⟩:∃R,(ws.any λw=>Vg w s)=R:=⟨_,rfl⟩
 rw[hR]at hk
 refine ER (N:=ws.length) (J:=λj q=>q=(.ptr pb 0,v,.int .i64 (.ofNat ws.length) 0,.int .i64 (.ofNat j) 0,H,n)/\((ws.drop j).any λw=>Vg w s)=R) ?_ ?_ ⟨rfl,hR⟩
 ·rintro I j q hlt ⟨rfl,hR⟩ ih
  show Jf lfp G (Runs F G) k I (.ptr pb 0) v (.int .i64 (.ofNat ws.length) 0) (.int .i64 (.ofNat j) 0) H n
  delta Jf
  obtain⟨p,hp,hld⟩:=hv.at (AKD hlt)
  rw[List.drop_eq_getElem_cons hlt,List.any_cons]at hR
  generalize ws[j]=m at hld hR
  simp only[go_sem,ES,hlt,decide_true,hp,dV hld]
  refine ANH h ?_
  have go1:Vg m s=false->I (.ptr pb 0,v,.int .i64 (.ofNat ws.length) 0,.int .i64 (.ofNat (j+1)) 0,H,n):=λh1=>by
   rw[h1,Bool.false_or]at hR
   exact ih _ ⟨rfl,hR⟩
  have ej:=Ee (show j+1<9223372036854775808 by omega)
  cases h1:s.ok with
  |false=>
   repeat (first|with_reducible refine AEm ?_|with_reducible refine AH6 ?_|with_reducible refine AEp ?_)
   simp only[go_sem,ej]
   exact go1 (by simp[Vg,h1])
  |true=>
   simp only[go_sem,Nat.reduceAdd,Nat.add_zero,e0,e1,e3,YX]
   cases h2:decide (s.t.kind=1)with
   |true=>
    repeat (first|with_reducible refine xW ?_|with_reducible refine AH6 ?_)
    simp only[go_sem,Nat.reduceAdd,Nat.add_zero,e0,e1,e4,AH4]
    cases h3:decide (s.t.text=m)with
    |true=>
     rw[show Vg m s=true by simp[Vg,h1,h2,h3],Bool.true_or]at hR
     subst hR
     simp only[go_sem];exact hk
    |false=>simp only[go_sem,ej];exact go1 (by simp[Vg,h3])
   |false=>
    simp only[go_sem,Nat.reduceAdd,Nat.add_zero,e0,e1,e3,YX]
    cases h4:decide (s.t.kind=5)with
    |true=>
     simp only[go_sem,Nat.reduceAdd,Nat.add_zero,e0,e1,e4,AH4]
     cases h3:decide (s.t.text=m)with
     |true=>
      rw[show Vg m s=true by simp[Vg,h1,h4,h3],Bool.true_or]at hR
      subst hR
      simp only[go_sem];exact hk
     |false=>simp only[go_sem,ej];exact go1 (by simp[Vg,h3])
    |false=>
     repeat (first|with_reducible refine AEm ?_|with_reducible refine AH6 ?_|with_reducible refine AEp ?_|with_reducible refine zx ?_)
     simp only[go_sem,ej];exact go1 (by simp[Vg,h2,h4])
 ·rintro I q ⟨rfl,hR⟩
  show Jf lfp G (Runs F G) k I (.ptr pb 0) v (.int .i64 (.ofNat ws.length) 0) (.int .i64 (.ofNat ws.length) 0) H n
  delta Jf
  rw[List.drop_eq_nil_of_le (Nat.le_refl _)]at hR
  subst hR
  simp only[go_sem,ES,Nat.lt_irrefl,decide_false]
  delta Rl
  exact hk
theorem APA{l:LV}{i:Nat}{v:V}(h:l[i]? =some v):ATN i (.agg l)=some v:=by
 show nth l i=_
 rw[iq,h]
structure Fr(G:AV)(pb:Nat)(H0:Heap)(n0:Nat)(H:Heap)(n:Nat)(s:S):Prop where
 f:Kx pb H0 n0 H n
 p:ZX G H pb s
 b:pb<n0
theorem Fr.lt{H0:Heap}{n0:Nat}(x:Fr G pb H0 n0 H n s):pb<n:=Nat.lt_of_lt_of_le x.b x.f.le
theorem Fr.le{H0:Heap}{n0:Nat}(x:Fr G pb H0 n0 H n s):n0<=n:=x.f.le
theorem Fr.refl(h:ZX G H pb s)(hb:pb<n):Fr G pb H n H n s:=⟨Kx.refl ..,h,hb⟩
theorem Fr.al{H0:Heap}{n0:Nat}(x:Fr G pb H0 n0 H n s)(f:Kp H n H' n'):Fr G pb H0 n0 H' n' s:=⟨x.f.trans f.kx,x.p.kp f x.lt,x.b⟩
theorem Fr.st{H0:Heap}{n0 b:Nat}(x:Fr G pb H0 n0 H n s)(hb:n0<=b)(e:∀j,j≠b->T.get H' j=T.get H j):Fr G pb H0 n0 H' n s:=
 ⟨⟨x.f.le,λid hid hp=>(e id (by omega)).trans (x.f.same id hid hp)⟩,x.p.same λid hid=>e id (by have:=x.b;omega),x.b⟩
theorem Fr.tr{H0:Heap}{n0:Nat}(x:Fr G pb H0 n0 H n s)(y:Fr G pb H n H' n' s'):Fr G pb H0 n0 H' n' s':=⟨x.f.trans y.f,y.p,x.b⟩
theorem Fr.get{b:Nat}{L:LV}(y:Fr G pb H n H' n' s')(g:T.get H b=some (one L))(h1:b<n)(h2:pb<b):T.get H' b=some (one L):=y.f.get g h1 (by omega)
theorem CB{m b:Nat}{L0 L:LV}{P:KV}(g:T.get H b=some (one L0))(h0:L0.length=m)(h1:L.length=m)(hm:0<m)(h:∀H',T.get H' b=some (one L)->(∀j,j≠b->T.get H' j=T.get H j)->P .undef H' n):
 CQ m (.ptr b 0) (.agg L) H n P:=by
 rw[ZI g hm h0 h1];exact h _ (T.C9 ..) λj hj=>T.Au _ _ (Ne.symm hj)
theorem dB(h:ZX G H pb s)(hb:pb<n)(hm:Np s=some s')(hk:∀H' n' line col,1<=line->1<=col->Fr G pb H n H' n' s'->k (.agg (U8 s.t line col)) H' n'):Runs F G DY [.ptr pb 0] H n k:=by
 refine Am (s:=Gw (OI lfp G)) RJ (by obtain⟨h,o⟩:=sH Ap G;rw[RJ]at h;cases h;exact o) ?_
 show OI lfp G (Runs F G) (.ptr pb 0) H n k
 delta OI
 have x:=Fr.refl h hb
 refine Az rfl λH1 f1 g1=>?_
 have x:=x.al f1
 obtain⟨v,tid,o,line,col,e0,e1,x1,x2,e2,e3,e4,e5⟩:=x.p.tok
 simp only[go_sem,Nat.reduceAdd,Nat.add_zero,e0,e1,e2]
 refine AYz rfl rfl (by omega) λH3 f3 g3=>?_
 have x:=x.al f3
 have g1:=f3.get g1 (by omega)
 have q0:AX (.ptr (n+1) 0) G H3=some (.int .i64 (.ofNat s.t.kind) 0):=AQ g3 rfl
 have fin:∀{H4:Heap},Fr G pb H n H4 (n+1+1) s'->T.get H4 n=some (one [.int .i64 (.ofNat 0) 0,.str 0 0,.int .i64 (.ofNat 0) 0,.int .i64 (.ofNat 0) 0,.int .i64 (.ofNat 0) 0])->T.get H4 (n+1)=some (one (U8 s.t line col))->
  IJ lfp G (Runs F G) k (.ptr n 0) (.ptr (n+1) 0) H4 (n+1+1):=by
  intro H4 x g1 g3
  delta IJ
  rw[Ai (m:=5) g3 (by omega) rfl,Aw]
  refine CB g1 rfl rfl (by omega) λH5 g5 s5=>?_
  rw[DU (m:=5) g5 (by omega) rfl]
  simp only[go_sem]
  exact hk _ _ _ _ x1 x2 (x.st (Nat.le_refl _) s5)
 unfold Np at hm
 simp only[go_sem,Nat.reduceAdd,q0,ZR]
 cases hd:decide (s.t.kind=0)with
 |true=>
  rw[hd]at hm
  cases hm
  simp only[Bool.not_true,go_sem]
  exact fin x g1 g3
 |false=>
  rw[hd,cond_false]at hm
  simp only[Bool.not_false,go_sem]
  have hp3:=x.p
  cases hp3 with
  |mk hg he ht hp hl=>
   rename_i tid off l1 c1 cs
   cases hr:s.r with
   |nil=>rw[hr]at hm;cases hm
   |cons t r=>
    rw[hr]at hm ht
    cases hm
    cases ht with
    |cons ha ht=>
     rename_i a cs
     have e0:AX (.ptr pb 0) G H3=some (.QF tid off (cs.length+1) 5):=AQ hg rfl
     simp only[go_sem,Nat.reduceAdd,e0,AL0]
     refine Eb hg rfl rfl (by omega) (by show 0+1<=5;omega) λH4 g4 s4=>?_
     refine fin ⟨⟨x.le,λid hid hp=>(s4 id hp).trans (x.f.same id hid hp)⟩,?_,hb⟩ ((s4 _ (by omega)).trans g1) ((s4 _ (by omega)).trans g3)
     exact .mk (s:={s with t:=t,r:=r}) g4 ((AN7 he).same λid hid=>by cases wK hid;exact s4 _ (by omega)) ht hp hl
end
section
variable{G:AV}{H:Heap}{n pb:Nat}{s s':S}{k:KV}
theorem jW{ws:List Bs}{m:Nat}{P:KV}{Z:LV}(hm:ws.length=m)(h:∀H',Kp H n H' (n+1)->El G H' (.sl n 0 m m 1) 1 (wsC ws)->P (.sl n 0 m m 1) H' (n+1)):DW (Aj 1 m Z (AEN 0 (ws.map sB)) E0) H n P:=by
 refine Ju (G:=G) (vs:=ws.map sB) (by rw[List.length_map];exact hm) (by omega) (λv hv=>?_) λH' f _ hel=>h H' f ?_
 ·obtain⟨w,_,rfl⟩:=List.mem_map.1 hv;exact⟨rfl,rfl⟩
 ·rw[List.map_map]at hel;exact hel
theorem uV{ws:List Bs}{m:Nat}{P:KV}{Z:LV}(h:ZX G H pb s)(hb:pb<n)(hm:ws.length=m)(hw:ws.length<=1000)(hk:∀H' n',Fr G pb H n H' n' s->P (.bool (Ko ws s)) H' n'):
 DW (Aj 1 m Z (AEN 0 (ws.map sB)) E0) H n λv H n=>Runs F G Dl [.ptr pb 0,v] H n P:=by
 refine jW (G:=G) hm λH1 f1 hel=>?_
 have x:=(Fr.refl h hb).al f1
 exact AXa x.p hel hw (hk _ _ x)
theorem Oe{w:Bs}{b:Bool}(h:ZX G H pb s)(hb:pb<n)(hm:Ci w s=some (b,s'))(hk:∀H' n',Fr G pb H n H' n' s'->k (.bool b) H' n'):Runs F G Ak [.ptr pb 0,sB w] H n k:=by
 refine Am (s:=QS (OC lfp G)) Q8 (by obtain⟨h,o⟩:=oG Ap G;rw[Q8]at h;cases h;exact o) ?_
 show OC lfp G (Runs F G) (.ptr pb 0) (sB w) H n k
 delta OC
 refine uV (ws:=[w]) h hb rfl (by show 1<=1000;omega) λH1 n1 x=>?_
 unfold Ci at hm
 rw[show Ko [w] s=Vg w s by simp[Ko]]
 cases ho:Vg w s with
 |false=>
  rw[ho]at hm
  cases hm
  simp only[go_sem,Lh,Bool.not_false]
  exact hk _ _ x
 |true=>
  rw[ho,cond_true,Option.bind_eq_some_iff]at hm
  obtain⟨s2,h2,hm⟩:=hm
  cases hm
  simp only[go_sem,Lh,Bool.not_true]
  exact dB x.p x.lt h2 λH2 n2 _ _ _ _ y=>hk _ _ (x.tr y)
theorem AXC{ws:List Bs}{id o l c:Nat}(h:ZX G H pb s)(hb:pb<n)(hv:El G H (.sl id o l c 1) 1 (wsC ws))(hid:id<n)(hip:pb<id)(hw:ws.length<=1000)(hm:CG ws s=some s')(hk:∀H' n',Fr G pb H n H' n' s'->k (.Jq []) H' n'):
 Runs F G BL [.ptr pb 0,.sl id o l c 1] H n k:=by
 refine Am (s:=QS (OL lfp G)) Qx (by obtain⟨h,o⟩:=pF Ap G;rw[Qx]at h;cases h;exact o) ?_
 show OL lfp G (Runs F G) (.ptr pb 0) (.sl id o l c 1) H n k
 delta OL
 simp only[hv.len,ALm,go_sem]
 refine ER (N:=ws.length) (J:=λj q=>∃H' n' t,q=(.ptr pb 0,.sl id o l c 1,.int .i64 (.ofNat ws.length) 0,.int .i64 (.ofNat j) 0,H',n')/\Fr G pb H n H' n' t/\CG (ws.drop j) t=some s') ?_ ?_ ⟨H,n,s,rfl,Fr.refl h hb,hm⟩
 ·rintro I j q hlt ⟨H1,n1,t,rfl,x,hm⟩ ih
  show IQ lfp G (Runs F G) k I (.ptr pb 0) (.sl id o l c 1) (.int .i64 (.ofNat ws.length) 0) (.int .i64 (.ofNat j) 0) H1 n1
  delta IQ
  have hv1:El G H1 (.sl id o l c 1) 1 (wsC ws):=hv.same λi hi=>by cases En hi;exact x.f.same id hid (by omega)
  obtain⟨p,hp,hld⟩:=hv1.at (AKD hlt)
  rw[List.drop_eq_getElem_cons hlt,show ∀(w:Bs) ws (s:S),CG (w::ws) s=(Ci w s).bind λp=>CG ws (bif p.1 then p.2 else GR 21 p.2)from λ_ _ _=>rfl,Option.bind_eq_some_iff]at hm
  obtain⟨⟨b,t2⟩,h2,hm⟩:=hm
  have hm:CG (ws.drop (j+1)) (bif b then t2 else GR 21 t2)=some s':=hm
  generalize ws[j]=m at hld h2
  simp only[go_sem,ES,hlt,decide_true,hp,dV hld]
  refine Oe x.p x.lt h2 λH2 n2 y=>?_
  have x:=x.tr y
  simp only[go_sem,Lh]
  cases b with
  |true=>
   simp only[go_sem,Bool.not_true]
   delta IL
   simp only[go_sem,Ee (show j+1<9223372036854775808 by omega)]
   exact ih _ ⟨_,_,_,rfl,x,hm⟩
  |false=>
   simp only[go_sem,Bool.not_false]
   refine APZ x.p λH3 f3 p3=>?_
   delta IL
   simp only[go_sem,Ee (show j+1<9223372036854775808 by omega)]
   exact ih _ ⟨_,_,_,rfl,⟨x.f.trans f3,p3,x.b⟩,hm⟩
 ·rintro I q ⟨H1,n1,t,rfl,x,hm⟩
  show IQ lfp G (Runs F G) k I (.ptr pb 0) (.sl id o l c 1) (.int .i64 (.ofNat ws.length) 0) (.int .i64 (.ofNat ws.length) 0) H1 n1
  delta IQ
  rw[List.drop_eq_nil_of_le (Nat.le_refl _)]at hm
  cases hm
  simp only[go_sem,ES,Nat.lt_irrefl,decide_false]
  exact hk _ _ x
theorem LC{ws:List Bs}{m:Nat}{P:KV}{Z:LV}(h:ZX G H pb s)(hb:pb<n)(hm:ws.length=m)(hw:ws.length<=1000)(he:CG ws s=some s')(hk:∀H' n',Fr G pb H n H' n' s'->P (.Jq []) H' n'):
 DW (Aj 1 m Z (AEN 0 (ws.map sB)) E0) H n λv H n=>Runs F G BL [.ptr pb 0,v] H n P:=by
 refine jW (G:=G) hm λH1 f1 hel=>?_
 have x:=(Fr.refl h hb).al f1
 exact AXC x.p x.lt hel (by omega) hb hw he λH2 n2 y=>hk _ _ (x.tr y)
theorem jL{e:Nat}(h:ZX G H pb s)(hb:pb<n)(hk:∀H' n',Fr G pb H n H' n' (GR e s)->k (.Jq []) H' n'):Runs F G DN [.ptr pb 0,.int .i64 (.ofNat e) 0] H n k:=
 APZ h λH1 f p=>hk _ _ ⟨f,p,hb⟩
theorem dR{kd:Nat}{l:Bs}(h:ZX G H pb s)(hb:pb<n)(hm:JZ kd s=some (l,s'))(hk:∀H' n',Fr G pb H n H' n' s'->k (sB l) H' n'):Runs F G Dw [.ptr pb 0,.int .i64 (.ofNat kd) 0] H n k:=by
 refine Am (s:=QS (N7 lfp G)) RX (by obtain⟨h,o⟩:=pW Ap G;rw[RX]at h;cases h;exact o) ?_
 show N7 lfp G (Runs F G) (.ptr pb 0) (.int .i64 (.ofNat kd) 0) H n k
 delta N7
 refine ANH h ?_
 unfold JZ at hm
 have bad:JZ kd s=some ([],GR 21 s)->Runs F G DN [.ptr pb 0,.int .i64 (.ofNat 21) 0] H n λ_ H n=>k (.str 0 0) H n:=λhb'=>by
  unfold JZ at hb'
  rw[hb']at hm
  cases hm
  exact jL h hb λH1 n1 x=>hk _ _ x
 have good:(Np s).bind (λs'=>some (s.t.text,s'))=some (l,s')->Runs F G DY [.ptr pb 0] H n λv14 H n=>AP (ATN 1 v14) λv15=>k v15 H n:=λhm=>by
  rw[Option.bind_eq_some_iff]at hm
  obtain⟨s2,h2,hm⟩:=hm
  cases hm
  refine dB h hb h2 λH2 n2 line col _ _ y=>?_
  rw[APA (show(U8 s.t line col)[1]? =some (sB s.t.text)from rfl),Aw]
  exact hk _ _ y
 obtain⟨v,tid,o,line,col,e0,e1,x1,x2,e2,e3,e4,e5⟩:=h.tok
 cases ho:s.ok with
 |false=>
  simp only[Lh,Bool.not_false,go_sem]
  repeat (first|with_reducible refine xW ?_|with_reducible refine AH6 ?_)
  exact bad (by unfold JZ;rw[ho];rfl)
 |true=>
  simp only[Lh,Bool.not_true,go_sem,Nat.reduceAdd,Nat.add_zero,e0,e1,e3,ZR]
  cases hd:decide (s.t.kind=kd)with
  |false=>
   simp only[Bool.not_false,go_sem]
   exact bad (by unfold JZ;rw[ho,hd];rfl)
  |true=>
   rw[ho,hd]at hm
   simp only[Bool.not_true,go_sem]
   exact good hm
theorem AF9(h:ZX G H pb s)(hb:pb<n)(hm:UE s=some s')(hk:∀H' n' q,Fr G pb H n H' n' s'->n<=q->q<n'->T.get H' q=some (one [.ptr pb 0])->k (.fn CS [] [.ptr q 0]) H' n'):Runs F G KG [.ptr pb 0] H n k:=by
 refine Am (s:=Gw (Ny lfp G)) Q5 (by obtain⟨h,o⟩:=qZ Ap G;rw[Q5]at h;cases h;exact o) ?_
 show Ny lfp G (Runs F G) (.ptr pb 0) H n k
 delta Ny
 have x:=Fr.refl h hb
 refine AHq rfl λH1 f1 g1=>?_
 have x:=x.al f1
 have g1:T.get H1 n=some (one [.ptr pb 0]):=g1
 have q1:AX (.ptr n 0) G H1=some (.ptr pb 0):=AQ g1 rfl
 unfold UE at hm
 cases hd:decide (s.deep<1000000)with
 |false=>rw[hd]at hm;cases hm
 |true=>
  rw[hd,cond_true]at hm
  have hd:=of_decide_eq_true hd
  simp only[go_sem,Nat.reduceAdd,q1,x.p.deep,Ee (show s.deep+1<9223372036854775808 by omega)]
  have hp1:=x.p
  cases hp1 with
  |mk hg he ht hp hl=>
   refine Eb hg rfl rfl (by omega) (by show 1+1<=5;omega) λH2 g2 s2=>?_
   have q1:AX (.ptr n 0) G H2=some (.ptr pb 0):=AQ ((s2 n (by omega)).trans g1) rfl
   have p2:ZX G H2 pb {s with deep:=s.deep+1}:=.mk (s:={s with deep:=s.deep+1}) g2 (he.same λid hid=>by cases wK hid;exact s2 _ (by omega)) ht hp hl
   have x:Fr G pb H n H2 (n+1) {s with deep:=s.deep+1}:=⟨⟨x.le,λid hid hp=>(s2 id hp).trans (x.f.same id hid hp)⟩,p2,hb⟩
   have e2:AX (.ptr pb 1) G H2=some (.int .i64 (.ofNat (s.deep+1)) 0):=p2.deep
   simp only[go_sem,Nat.reduceAdd,q1,e2,MJ]
   cases AJK:decide (100<s.deep+1)with
   |false=>
    rw[AJK]at hm
    cases hm
    simp only[go_sem]
    delta IK
    exact hk _ _ n x (Nat.le_refl _) (by omega) ((s2 n (by omega)).trans g1)
   |true=>
    rw[AJK]at hm
    cases hm
    simp only[go_sem,q1]
    refine jL x.p x.lt λH3 n3 y=>?_
    delta IK
    exact hk _ _ n (x.tr y) (Nat.le_refl _) (by have:=y.le;omega) (y.get ((s2 n (by omega)).trans g1) (by omega) hb)
theorem ASj{q:Nat}{P:Heap->Nat->Prop}(h:ZX G H pb s)(hb:pb<n)(hq:T.get H q=some (one [.ptr pb 0]))(hm:jG s=some s')(hk:∀H' n',Fr G pb H n H' n' s'->P H' n'):
 Oy CS (uG (.Jq [.fn CS [] [.ptr q 0]])) (Runs F G) H n P:=by
 show Ed (Nat.beq CS CS) (Runs F G CS [.ptr q 0] H n λ_ H n=>P H n)
 rw[show Nat.beq CS CS=true from Nat.beq_refl _,ou]
 generalize hk':(λ_ H n=>P H n:KV)=k
 refine Am (s:=Gw (Lc lfp G)) Ej (by obtain⟨h,o⟩:=je Ap G;rw[Ej]at h;cases h;exact o) ?_
 show Lc lfp G (Runs F G) (.ptr q 0) H n k
 delta Lc
 subst hk'
 unfold jG at hm
 cases hd:s.deep with
 |zero=>rw[hd]at hm;cases hm
 |succ d=>
  rw[hd]at hm
  have hm:(bif decide (d<1000000)then some {s with deep:=d}else none)=some s':=hm
  cases hlt:decide (d<1000000)
  ·rw[hlt]at hm;cases hm
  rw[hlt,cond_true]at hm
  have hlt:=of_decide_eq_true hlt
  cases hm
  have q1:AX (.ptr q 0) G H=some (.ptr pb 0):=AQ hq rfl
  have q2:=h.deep
  rw[hd]at q2
  have hbig:d+1<9223372036854775808:=by omega
  simp only[go_sem,Nat.reduceAdd,q1,q2,AUj hbig]
  cases h with
  |mk hg he ht hp hl=>
   refine Eb hg rfl rfl (by omega) (by show 1+1<=5;omega) λH2 g2 s2=>?_
   exact hk _ _ ⟨⟨Nat.le_refl _,λid hid hp=>s2 id hp⟩,.mk (s:={s with deep:=d}) g2 (he.same λid hid=>by cases wK hid;exact s2 _ (by omega)) ht hp hl,hb⟩
def tyC(t:Ty):LV:=[sB t.nm,.bool t.arr]
theorem APl{z0 z1:V}(l:Bs):Bl [z0,z1] [(0,1,.c (sB l))]=some (.agg [sB l,z1]):=rfl
theorem ADN{l:Bs}(hk:∀H',Kp H n H' (n+1)->k (.agg [sB l,.bool false]) H' (n+1)):Runs F G VK [sB l] H n k:=by
 refine Am (s:=Gw (Zr lfp G)) gI (by obtain⟨h,o⟩:=AFX Ap G;rw[gI]at h;cases h;exact o) ?_
 show Zr lfp G (Runs F G) (sB l) H n k
 delta Zr
 simp only[go_sem,APl]
 exact hk _ (((Kp.refl H n).new (m:=n+1) _ (Nat.le_refl _) (by omega)).new _ (Nat.le_refl _) (Nat.le_refl _))
theorem AMg(hk:∀H',Kp H n H' (n+1)->k (.agg [sB uf,.bool false]) H' (n+1)):Runs F G AFc [] H n k:=by
 refine Am (s:=ar0 (sZ lfp G)) xX (by obtain⟨h,o⟩:=AKB Ap G;rw[xX]at h;cases h;exact o) ?_
 show sZ lfp G (Runs F G) H n k
 delta sZ
 simp only[APp,go_sem,APl]
 exact hk _ (((Kp.refl H n).new (m:=n+1) _ (Nat.le_refl _) (by omega)).new _ (Nat.le_refl _) (Nat.le_refl _))
theorem AJi(hk:∀H',Kp H n H' (n+1)->k (.agg [sB dX,.bool false]) H' (n+1)):Runs F G AEP [] H n k:=by
 refine Am (s:=ar0 (jU lfp G)) rU (by obtain⟨h,o⟩:=AHW Ap G;rw[rU]at h;cases h;exact o) ?_
 show jU lfp G (Runs F G) H n k
 delta jU
 simp only[AKM,go_sem,APl]
 exact hk _ (((Kp.refl H n).new (m:=n+1) _ (Nat.le_refl _) (by omega)).new _ (Nat.le_refl _) (Nat.le_refl _))
theorem AFv{m:Nat}(h:ZX G H pb s)(hb:pb<n)(hk:∀H' n',Fr G pb H n H' n' (F8 m s)->k (.Jq []) H' n'):Runs F G KH [.ptr pb 0,.int .i64 (.ofNat m) 0] H n k:=by
 refine Am (s:=QS (OA lfp G)) RZ (by obtain⟨h,o⟩:=pU Ap G;rw[RZ]at h;cases h;exact o) ?_
 show OA lfp G (Runs F G) (.ptr pb 0) (.int .i64 (.ofNat m) 0) H n k
 delta OA
 unfold F8 at hk
 simp only[go_sem,MJ]
 cases hd:decide (200<m)with
 |false=>rw[hd]at hk;simp only[go_sem];exact hk _ _ (Fr.refl h hb)
 |true=>rw[hd]at hk;simp only[go_sem];exact jL h hb hk
theorem AQF{t:Ty}(h:ZX G H pb s)(hb:pb<n)(hm:ABr s=some (t,s'))(hk:∀H' n',Fr G pb H n H' n' s'->k (.agg (tyC t)) H' n'):Runs F G TM [.ptr pb 0] H n k:=by
 refine Am (s:=Gw (Nw lfp G)) Ro (by obtain⟨h,o⟩:=pJ Ap G;rw[Ro]at h;cases h;exact o) ?_
 show Nw lfp G (Runs F G) (.ptr pb 0) H n k
 delta Nw
 have x:=Fr.refl h hb
 refine Az rfl λH1 f1 g1=>?_
 have x:=x.al f1
 unfold ABr at hm
 rw[Option.bind_eq_some_iff]at hm
 obtain⟨⟨b,s2⟩,h2,hm⟩:=hm
 have hm:(bif b then some (⟨uf,false⟩,s2)else(Ci dX s2).bind λp=>bif p.1 then some (⟨dX,false⟩,p.2)else(JZ 2 p.2).bind λp=>some (⟨p.1,false⟩,p.2))=some (t,s'):=hm
 rw[APp,AKM]
 have fin:∀{H2:Heap} {n2:Nat} {l:Bs},Fr G pb H n H2 n2 s'->T.get H2 n=some (one [.str 0 0,.bool false])->t=⟨l,false⟩->CQ 2 (.ptr n 0) (.agg [sB l,.bool false]) H2 n2 λv4 H n_1=>Hu (Du [.cn (.ptr n 0) 2] G H) λl=>k (Fj l) H n_1:=by
  intro H2 n2 l x g ht
  subst ht
  refine CB g rfl rfl (by omega) λH3 g3 s3=>?_
  rw[DU (m:=2) g3 (by omega) rfl]
  simp only[go_sem]
  exact hk _ _ (x.st (Nat.le_refl _) s3)
 refine Oe x.p x.lt h2 λH2 n2 y=>?_
 have x:=x.tr y
 have g1:=y.get g1 (by omega) hb
 cases b with
 |true=>
  cases hm
  simp only[go_sem]
  exact AMg λH3 f3=>fin (x.al f3) (f3.get g1 (by have:=y.le;omega)) rfl
 |false=>
  rw[cond_false,Option.bind_eq_some_iff]at hm
  obtain⟨⟨b,s3⟩,h3,hm⟩:=hm
  simp only[go_sem]
  have hn:=y.le
  refine Oe x.p x.lt h3 λH3 n3 y=>?_
  have x:=x.tr y
  have g1:=y.get g1 (by omega) hb
  have hn2:=y.le
  cases b with
  |true=>
   cases hm
   simp only[go_sem]
   exact AJi λH3 f3=>fin (x.al f3) (f3.get g1 (by omega)) rfl
  |false=>
   rw[cond_false,Option.bind_eq_some_iff]at hm
   obtain⟨⟨l,s4⟩,h4,hm⟩:=hm
   cases hm
   simp only[go_sem]
   refine dR x.p x.lt h4 λH4 n4 y=>?_
   have x:=x.tr y
   have g1:=y.get g1 (by omega) hb
   have hn3:=y.le
   exact ADN λH3 f3=>fin (x.al f3) (f3.get g1 (by omega)) rfl
theorem AL3{t:Ty}(h:ZX G H pb s)(hb:pb<n)(hm:dn s=some (t,s'))(hk:∀H' n',Fr G pb H n H' n' s'->k (.agg (tyC t)) H' n'):Runs F G Kt [.ptr pb 0] H n k:=by
 refine Am (s:=Gw (PZ lfp G)) TQ (by obtain⟨h,o⟩:=tu Ap G;rw[TQ]at h;cases h;exact o) ?_
 show PZ lfp G (Runs F G) (.ptr pb 0) H n k
 delta PZ
 have x:=Fr.refl h hb
 refine Az rfl λH1 f1 g1=>?_
 have x:=x.al f1
 unfold dn at hm
 rw[Option.bind_eq_some_iff]at hm
 obtain⟨⟨t1,s2⟩,h2,hm⟩:=hm
 rw[Option.bind_eq_some_iff]at hm
 obtain⟨⟨b,s3⟩,h3,hm⟩:=hm
 have hm:(bif b then(CG [G6] s3).bind λs=>some ((⟨t1.nm,true⟩:Ty),s)else some (t1,s3))=some (t,s'):=hm
 refine AQF x.p x.lt h2 λH2 n2 y=>?_
 have x:=x.tr y
 have g1:=y.get g1 (by omega) hb
 have hn:=y.le
 refine Az rfl λH3 f3 g3=>?_
 have x:=x.al f3
 have g1:=f3.get g1 (by omega)
 refine CB (L:=tyC t1) g3 rfl rfl (by omega) λH4 g3 s4=>?_
 have x:=x.st (by omega) s4
 have g1:=(s4 n (by omega)).trans g1
 have fin:∀{H5:Heap} {n5:Nat},Fr G pb H n H5 n5 s'->T.get H5 n=some (one [.str 0 0,.bool false])->T.get H5 n2=some (one (tyC t))->Iy lfp G (Runs F G) k (.ptr n 0) (.ptr n2 0) H5 n5:=by
  intro H5 n5 x g1 g3
  delta Iy
  rw[Ai (m:=2) g3 (by omega) rfl,Aw]
  refine CB g1 rfl rfl (by omega) λH6 g6 s6=>?_
  rw[DU (m:=2) g6 (by omega) rfl]
  simp only[go_sem]
  exact hk _ _ (x.st (Nat.le_refl _) s6)
 rw[Aaf]
 refine Oe x.p x.lt h3 λH5 n5 y=>?_
 have x:=x.tr y
 have g1:=y.get g1 (by omega) hb
 have g3:=y.get g3 (by omega) (by omega)
 have hn5:=y.le
 cases b with
 |false=>
  cases hm
  simp only[go_sem]
  exact fin x g1 g3
 |true=>
  rw[cond_true,Option.bind_eq_some_iff]at hm
  obtain⟨s4,h4,hm⟩:=hm
  cases hm
  simp only[go_sem]
  refine LC (ws:=[G6]) x.p x.lt rfl (by show 1<=1000;omega) h4 λH6 n6 y=>?_
  have x:=x.tr y
  have g1:=y.get g1 (by omega) hb
  have g3:=y.get g3 (by omega) (by omega)
  refine Eb g3 rfl rfl (by omega) (by show 1+1<=2;omega) λH7 g7 s7=>?_
  exact fin (x.st (by omega) s7) ((s7 n (by omega)).trans g1) g7
end
def TF(kind num:Nat)(nm ty:Bs)(arr:Bool)(line col:Nat)(v:V):LV:=
 [.int .i64 (.ofNat kind) 0,.int .i64 (.ofNat line) 0,.int .i64 (.ofNat col) 0,.int .i64 (.ofNat num) 0,sB nm,sB ty,.bool arr,v,.str 0 0,.bool false,.str 0 0]
def KS(v:V):Prop:=Oz v v=true/\(∀id o m c e,v=.sl id o m c e->m<=c)/\∀b o m c e,v≠.rsl b o m c e
mutual
inductive EJ(G:AV)(H:Heap)(A:Nat->Prop):LV->Ex->Prop where
 |mk (kind num:Nat) (nm ty:Bs) (arr:Bool) (line col:Nat) {v:V} {cs:Dv} {kids:List Ex} (he:El G H v 11 cs) (hv:KS v) (ha:∀id,v.QU=some id->A id) (hc:Ou G H A cs kids):
  EJ G H A (TF kind num nm ty arr line col v) (.mk kind num nm ty arr kids)
inductive Ou(G:AV)(H:Heap)(A:Nat->Prop):Dv->List Ex->Prop where
 |nil:Ou G H A [] []
 |cons {c:LV} {e:Ex} {cs:Dv} {es:List Ex} (h:EJ G H A c e) (t:Ou G H A cs es):Ou G H A (c::cs) (e::es)
end
mutual
theorem EJ.mono{G:AV}{H H':Heap}{A B:Nat->Prop}(hA:∀id,A id->B id)(hs:∀id,A id->T.get H' id=T.get H id):∀{c:LV} {e:Ex},EJ G H A c e->EJ G H' B c e
 |_,_,.mk kind num nm ty arr line col he hv ha hc=>.mk kind num nm ty arr line col (he.same λid hid=>hs id (ha id hid)) hv (λid hid=>hA id (ha id hid)) (Ou.mono hA hs hc)
theorem Ou.mono{G:AV}{H H':Heap}{A B:Nat->Prop}(hA:∀id,A id->B id)(hs:∀id,A id->T.get H' id=T.get H id):∀{cs:Dv} {es:List Ex},Ou G H A cs es->Ou G H' B cs es
 |_,_,.nil=>.nil
 |_,_,.cons h t=>.cons (EJ.mono hA hs h) (Ou.mono hA hs t)
end
theorem Ou.app{G:AV}{H:Heap}{A:Nat->Prop}:∀{cs:Dv} {es:List Ex} {cs':Dv} {es':List Ex},Ou G H A cs es->Ou G H A cs' es'->Ou G H A (cs++cs') (es++es')
 |_,_,_,_,.nil,h=>h
 |_,_,_,_,.cons h t,h'=>.cons h (t.app h')
theorem Ou.len{G:AV}{H:Heap}{A:Nat->Prop}:∀{cs:Dv} {es:List Ex},Ou G H A cs es->cs.length=es.length
 |_,_,.nil=>rfl
 |_,_,.cons h t=>by simp[t.len]
theorem jB(q:IntKind)(a:Int):Oz (.int q a 0) (.int q a 0)=true:=by simp[Oz,AL4,CW,Wi,dK]
theorem AEG(l c:Nat):Oz (.str l c) (.str l c)=true:=by simp[Oz,ALU,CW]
theorem iP(b:Bool):Oz (.bool b) (.bool b)=true:=by cases b<;>rfl
theorem AFD(a b c d e:Nat):Oz (.sl a b c d e) (.sl a b c d e)=true:=by simp[Oz,ASl,CW]
theorem AOL(a b c d:Nat):Oz (.QF a b c d) (.QF a b c d)=true:=by simp[Oz,ALx,CW]
theorem WC{a b c d e:Nat}(h:c<=d):KS (.sl a b c d e):=⟨AFD ..,λ_ _ _ _ _ h'=>(by cases h';exact h),by simp⟩
theorem AJs(a b c d:Nat):KS (.QF a b c d):=⟨AOL ..,λ_ _ _ _ _ h=>(by cases h),by simp⟩
theorem cO:KS .Ad:=⟨rfl,λ_ _ _ _ _ h=>(by cases h),by simp⟩
theorem vsL:∀L:LV,(∀v∈L,Oz v v=true)->AAz L L=true
 |[],_=>rfl
 |v::L,h=>by
  show band (Oz v v) (AAz L L)=true
  rw[h v (List.mem_cons_self ..),vsL L λw hw=>h w (List.mem_cons_of_mem _ hw)];rfl
theorem ADL{L:LV}(h:∀v∈L,Oz v v=true):BR (.agg L) (.agg L)=true:=vsL L h
theorem YS(line col:Nat):BR (.agg [.int .i64 (.ofNat line) 0,.int .i64 (.ofNat col) 0]) (.agg [.int .i64 (.ofNat line) 0,.int .i64 (.ofNat col) 0])=true:=
 ADL λv hv=>by simp at hv;rcases hv with rfl|rfl<;>exact jB ..
theorem U0(l:Bs):BR (sB l) (sB l)=true:=AEG ..
section
variable{G:AV}{H:Heap}{A:Nat->Prop}{c:LV}{e:Ex}
theorem EJ.len(h:EJ G H A c e):c.length=11:=by cases h;rfl
theorem EJ.kd(h:EJ G H A c e):c[0]? =some (.int .i64 (.ofNat e.kind) 0):=by cases h;rfl
theorem EJ.vs(h:EJ G H A c e):BR (.agg c) (.agg c)=true:=by
 cases h with
 |mk kind num nm ty arr line col he hv ha hc=>
  refine ADL λv hv'=>?_
  simp only[TF,List.mem_cons,List.not_mem_nil,or_false]at hv'
  rcases hv' with rfl|rfl|rfl|rfl|rfl|rfl|rfl|rfl|rfl|rfl|rfl<;>first|exact jB .. |exact AEG .. |exact iP .. |exact hv.1
end
def Rg(a b:Nat):Nat->Prop:=λid=>a<=id/\id<b
def Al(a b x:Nat):Nat->Prop:=λid=>a<id/\id<b/\id≠x
theorem Cc{v:V}{P:Prop}(h:BR v v=true)(hp:P):Ed (BR v v) P:=by rw[h];exact hp
abbrev exZ:LV:=[.int .i64 (.ofNat 0) 0,.int .i64 (.ofNat 0) 0,.int .i64 (.ofNat 0) 0,.int .i64 (.ofNat 0) 0,.str 0 0,.str 0 0,.bool false,.Ad,.str 0 0,.bool false,.str 0 0]
def ExK(G:AV)(pb:Nat)(H:Heap)(n:Nat)(s':S)(e:Ex)(k:KV):Prop:=∀H' n' c,Fr G pb H n H' n' s'->EJ G H' (Rg n n') c e->k (.agg c) H' n'
def Bxs(H:Heap)(n pb:Nat)(bs:List Nat):Prop:=∀b∈bs,pb<b/\b<n/\T.get H b=some (one [.ptr pb 0])
theorem Bxs.fr{G:AV}{H H':Heap}{n n' pb:Nat}{s':S}{bs:List Nat}(h:Bxs H n pb bs)(y:Fr G pb H n H' n' s'):Bxs H' n' pb bs:=λb hb=>by
 obtain⟨h1,h2,h3⟩:=h b hb
 exact⟨h1,Nat.lt_of_lt_of_le h2 y.le,y.get h3 h2 h1⟩
theorem Bxs.nil{H:Heap}{n pb:Nat}:Bxs H n pb []:=λ_ h=>by cases h
def FnC(G:AV)(pb:Nat)(bs:List Nat)(m:PM Ex)(v:V):Prop:=∀(s:S) (H:Heap) (n:Nat) (s':S) (e:Ex) (k:KV),ZX G H pb s->pb<n->Bxs H n pb bs->m s=some (e,s')->ExK G pb H n s' e k->FM v [] (Runs F G) H n k
theorem AKy{kd:Nat}{x y:V}{id o l c:Nat}:Bl exZ [(0,1,.c (.int .i64 (.ofNat kd) 0)),(1,2,.c (.agg [x,y])),(7,1,.c (.sl id o l c 11))]=
 some (.agg [.int .i64 (.ofNat kd) 0,x,y,.int .i64 (.ofNat 0) 0,.str 0 0,.str 0 0,.bool false,.sl id o l c 11,.str 0 0,.bool false,.str 0 0]):=rfl
section
variable{G:AV}{H:Heap}{n pb:Nat}{s s':S}{k:KV}
theorem xE{H0 H:Heap}{n0 n r b:Nat}{c L0:LV}{e:Ex}{A:Nat->Prop}(x:Fr G pb H0 n0 H n s')(gr:T.get H r=some (one L0))(hl:L0.length=11)(gb:T.get H b=some (one c))(hr:n0<=r)(he:EJ G H A c e)
 (hA:∀id,A id->n0<=id/\id<n/\id≠r) (hk:ExK G pb H0 n0 s' e k):
 AP (A8 11 (.ptr b 0) G H) λv6=>CQ 11 (.ptr r 0) v6 H n λ_ H n=>Hu (Du [.cn (.ptr r 0) 11] G H) λl=>k (Fj l) H n:=by
 rw[Ai (m:=11) gb (by omega) he.len,Aw]
 refine CB gr hl he.len (by omega) λH1 g1 s1=>?_
 rw[DU (m:=11) g1 (by omega) he.len]
 simp only[go_sem]
 exact hk _ _ _ (x.st hr s1) (he.mono (λid h=>⟨(hA id h).1,(hA id h).2.1⟩) λid h=>s1 id (hA id h).2.2)
theorem AHj{bs:List Nat}{m:PM Ex}{v:V}{kd f:Nat}{w:Bs}{e:Ex}(hf:FnC G pb bs m v)(hbs:Bxs H n pb bs)(h:ZX G H pb s)(hb:pb<n)(hm:either kd w m f s=some (e,s'))(hk:ExK G pb H n s' e k):
 Runs F G QX [.ptr pb 0,.int .i64 (.ofNat kd) 0,sB w,v] H n k:=by
 refine Am (s:=ar4 (LM lfp G)) O4 (by obtain⟨h,o⟩:=kN Ap G;rw[O4]at h;cases h;exact o) ?_
 show LM lfp G (Runs F G) (.ptr pb 0) (.int .i64 (.ofNat kd) 0) (sB w) v H n k
 delta LM
 have x:=Fr.refl h hb
 refine Az rfl λH1 f1 g1=>?_
 have x:=x.al f1
 unfold either at hm
 rw[Option.bind_eq_some_iff]at hm
 obtain⟨⟨e1,s1⟩,h1,hm⟩:=hm
 have hm:jh kd w m f e1 s1=some (e,s'):=hm
 refine hf s H1 (n+1) s1 e1 _ x.p x.lt (hbs.fr x) h1 λH2 n2 c y hx=>?_
 have x:=x.tr y
 have g1:=y.get g1 (by omega) hb
 have hn2:=y.le
 refine Az rfl λH3 f3 g3=>?_
 have x:=x.al f3
 have g1:=f3.get g1 (by omega)
 refine CB g3 rfl hx.len (by omega) λH4 g4 s4=>?_
 have x:=x.st (by omega) s4
 have g1:=(s4 n (by omega)).trans g1
 have hx:EJ G H4 (Al n (n2+1) n2) c e1:=hx.mono (λid h=>⟨by have:=h.1;omega,by have:=h.2;omega,by have:=h.2;omega⟩) λid h=>(s4 id (by have:=h.2;omega)).trans (f3.same id h.2)
 refine OY (J:=λg q=>∃H' n' t c e1,q=(.ptr pb 0,.int .i64 (.ofNat kd) 0,sB w,v,.ptr n 0,.ptr n2 0,H',n')/\Fr G pb H n H' n' t/\n2<n'/\T.get H' n=some (one exZ)/\T.get H' n2=some (one c)/\EJ G H' (Al n n' n2) c e1/\jh kd w m g e1 t=some (e,s')) ?_ (m:=f)
  ⟨H4,n2+1,s1,c,e1,rfl,x,by omega,g1,g4,hx,hm⟩
 rintro I g q ⟨H5,n5,t,c,e1,rfl,x,hn5,g1,g4,hx,hm⟩ ih
 show Nc lfp G (Runs F G) k I (.ptr pb 0) (.int .i64 (.ofNat kd) 0) (sB w) v (.ptr n 0) (.ptr n2 0) H5 n5
 delta Nc
 cases g with
 |zero=>cases hm
 |succ g=>
  have hm:(bif Ko [w] t then(Np t).bind λs1=>(m s1).bind λp=>jh kd w m g (.mk kd 0 [] [] false [e1,p.1]) p.2 else some (e1,t))=some (e,s'):=hm
  refine uV (ws:=[w]) x.p x.lt rfl (by show 1<=1000;omega) λH6 n6 y=>?_
  have x:=x.tr y
  have hn6:=y.le
  have g1:=y.get g1 (by omega) hb
  have g4:=y.get g4 (by omega) (by omega)
  have hx:EJ G H6 (Al n n6 n2) c e1:=hx.mono (λid h=>⟨h.1,by have:=h.2.1;omega,h.2.2⟩) λid h=>y.f.same id h.2.1 (by have:=h.1;omega)
  cases hi:Ko [w] t with
  |false=>
   rw[hi]at hm
   cases hm
   simp only[go_sem]
   delta NV
   exact xE x g1 rfl g4 (Nat.le_refl _) hx (λid h=>⟨by have:=h.1;omega,h.2.1,by have:=h.1;omega⟩) hk
  |true=>
   rw[hi,cond_true,Option.bind_eq_some_iff]at hm
   obtain⟨t1,h1,hm⟩:=hm
   rw[Option.bind_eq_some_iff]at hm
   obtain⟨⟨e2,t2⟩,h2,hm⟩:=hm
   rw[Ah]
   refine dB x.p x.lt h1 λH7 n7 line col _ _ y=>?_
   have x:=x.tr y
   have hn7:=y.le
   have g1:=y.get g1 (by omega) hb
   have g4:=y.get g4 (by omega) (by omega)
   have hx:EJ G H7 (Al n n7 n2) c e1:=hx.mono (λid h=>⟨h.1,by have:=h.2.1;omega,h.2.2⟩) λid h=>y.f.same id h.2.1 (by have:=h.1;omega)
   rw[show AYm 3 2 (.agg (U8 t.t line col))=some (.agg [.int .i64 (.ofNat line) 0,.int .i64 (.ofNat col) 0])from rfl,Aw]
   refine Az rfl λH8 f8 g8=>?_
   have x:=x.al f8
   refine CB g8 rfl (L:=[.int .i64 (.ofNat line) 0,.int .i64 (.ofNat col) 0]) rfl (by omega) λH9 g9 s9=>?_
   have x:=x.st (by omega) s9
   have g1:=(s9 n (by omega)).trans (f8.get g1 (by omega))
   have g4:=(s9 n2 (by omega)).trans (f8.get g4 (by omega))
   have hx:EJ G H9 (Al n n7 n2) c e1:=hx.mono (λid h=>h) λid h=>(s9 id (by have:=h.2.1;omega)).trans (f8.same id h.2.1)
   rw[Ai (m:=2) g9 (by omega) rfl,Aw,Ai (m:=11) g4 (by omega) hx.len,Aw]
   refine hf _ H9 (n7+1) _ _ _ x.p x.lt (hbs.fr x) h2 λH10 n10 c2 y hx2=>?_
   have x:=x.tr y
   have hn10:=y.le
   have g1:=y.get g1 (by omega) hb
   have g4:=y.get g4 (by omega) (by omega)
   have g9:=y.get g9 (by omega) (by omega)
   rw[Ai (m:=2) g9 (by omega) rfl,Aw,Ai (m:=11) g4 (by omega) hx.len]
   refine Cc (YS ..) (Cc hx.vs ?_)
   refine Ju (G:=G) (vs:=[.agg c,.agg c2]) rfl (by omega) (λv hv=>by simp at hv;rcases hv with rfl|rfl;exact⟨rfl,hx.len⟩;exact⟨rfl,hx2.len⟩) λH11 f11 _ hel=>?_
   have x:=x.al f11
   have g1:=f11.get g1 (by omega)
   have g4:=f11.get g4 (by omega)
   rw[AKy,Aw]
   refine CB g4 hx.len rfl (by omega) λH12 g12 s12=>?_
   have x:=x.st (by omega) s12
   refine ih g _ (by omega) ⟨H12,n10+1,t2,_,.mk kd 0 [] [] false [e1,e2],rfl,x,by omega,(s12 n (by omega)).trans g1,g12,?_,hm⟩
   refine .mk kd 0 [] [] false line col (hel.same λid hid=>s12 id (by cases En hid;omega)) (WC (by omega)) (λid hid=>⟨by cases En hid;omega,by cases En hid;omega,by cases En hid;omega⟩) ?_
   refine .cons (hx.mono (λid h=>⟨h.1,by have:=h.2.1;omega,h.2.2⟩) λid h=>?_) (.cons (hx2.mono (λid h=>⟨by have:=h.1;omega,by have:=h.2;omega,by have:=h.1;omega⟩) λid h=>?_) .nil)
   ·have h1:=h.1;have h2:=h.2.1
    exact(s12 id h.2.2).trans ((f11.same id (by omega)).trans (y.f.same id (by omega) (by omega)))
   ·have h1:=h.1;have h2:=h.2
    exact(s12 id (by omega)).trans (f11.same id h2)
end
theorem AGh{kd:Nat}{x y:V}{nm:Bs}{id o l c:Nat}:Bl exZ [(0,1,.c (.int .i64 (.ofNat kd) 0)),(1,2,.c (.agg [x,y])),(4,1,.c (sB nm)),(7,1,.c (.sl id o l c 11))]=
 some (.agg [.int .i64 (.ofNat kd) 0,x,y,.int .i64 (.ofNat 0) 0,sB nm,.str 0 0,.bool false,.sl id o l c 11,.str 0 0,.bool false,.str 0 0]):=rfl
section
variable{G:AV}{H:Heap}{n pb:Nat}{s s':S}{k:KV}
theorem AKZ{H0 H:Heap}{n0 n r:Nat}{c L0:LV}{e:Ex}{A:Nat->Prop}(x:Fr G pb H0 n0 H n s')(gr:T.get H r=some (one L0))(hl:L0.length=11)(hr:n0<=r)(he:EJ G H A c e)
 (hA:∀id,A id->n0<=id/\id<n/\id≠r) (hk:ExK G pb H0 n0 s' e k):
 CQ 11 (.ptr r 0) (.agg c) H n λ_ H n=>Hu (Du [.cn (.ptr r 0) 11] G H) λl=>k (Fj l) H n:=by
 refine CB gr hl he.len (by omega) λH1 g1 s1=>?_
 rw[DU (m:=11) g1 (by omega) he.len]
 simp only[go_sem]
 exact hk _ _ _ (x.st hr s1) (he.mono (λid h=>⟨(hA id h).1,(hA id h).2.1⟩) λid h=>s1 id (hA id h).2.2)
theorem AL1{bs:List Nat}{ws:List Bs}{m:PM Ex}{v:V}{i o l cp f:Nat}{e:Ex}(hf:FnC G pb bs m v)(hbs:Bxs H n pb bs)(hv:El G H (.sl i o l cp 1) 1 (wsC ws))(hin:i<n)(hip:pb<i)(hw:ws.length<=1000)
 (h:ZX G H pb s) (hb:pb<n) (hm:signs ws m f s=some (e,s')) (hk:ExK G pb H n s' e k):
 Runs F G RU [.ptr pb 0,v,.sl i o l cp 1] H n k:=by
 refine Am (s:=ar3 (MQ lfp G)) QG (by obtain⟨h,o⟩:=nO Ap G;rw[QG]at h;cases h;exact o) ?_
 show MQ lfp G (Runs F G) (.ptr pb 0) v (.sl i o l cp 1) H n k
 delta MQ
 have x:=Fr.refl h hb
 refine Az rfl λH1 f1 g1=>?_
 have x:=x.al f1
 unfold signs at hm
 rw[Option.bind_eq_some_iff]at hm
 obtain⟨⟨e1,s1⟩,h1,hm⟩:=hm
 have hm:wR ws m f e1 s1=some (e,s'):=hm
 refine hf s H1 (n+1) s1 e1 _ x.p x.lt (hbs.fr x) h1 λH2 n2 c y hx=>?_
 have x:=x.tr y
 have g1:=y.get g1 (by omega) hb
 have hn2:=y.le
 refine Az rfl λH3 f3 g3=>?_
 have x:=x.al f3
 have g1:=f3.get g1 (by omega)
 refine CB g3 rfl hx.len (by omega) λH4 g4 s4=>?_
 have x:=x.st (by omega) s4
 have g1:=(s4 n (by omega)).trans g1
 have hx:EJ G H4 (Al n (n2+1) n2) c e1:=hx.mono (λid h=>⟨by have:=h.1;omega,by have:=h.2;omega,by have:=h.2;omega⟩) λid h=>(s4 id (by have:=h.2;omega)).trans (f3.same id h.2)
 refine OY (J:=λg q=>∃H' n' t c e1,q=(.ptr pb 0,v,.sl i o l cp 1,.ptr n 0,.ptr n2 0,H',n')/\Fr G pb H n H' n' t/\n2<n'/\T.get H' n=some (one exZ)/\T.get H' n2=some (one c)/\EJ G H' (Al n n' n2) c e1/\wR ws m g e1 t=some (e,s')) ?_ (m:=f)
  ⟨H4,n2+1,s1,c,e1,rfl,x,by omega,g1,g4,hx,hm⟩
 rintro I g q ⟨H5,n5,t,c,e1,rfl,x,hn5,g1,g4,hx,hm⟩ ih
 show Oj lfp G (Runs F G) k I (.ptr pb 0) v (.sl i o l cp 1) (.ptr n 0) (.ptr n2 0) H5 n5
 delta Oj
 cases g with
 |zero=>cases hm
 |succ g=>
  have hm:(bif Ko ws t then(Np t).bind λs1=>(m s1).bind λp=>wR ws m g (.mk 16 0 t.t.text [] false [e1,p.1]) p.2 else some (e1,t))=some (e,s'):=hm
  refine AXa x.p (hv.same λj hj=>by cases En hj;exact x.f.same _ hin (by omega)) hw ?_
  cases hi:Ko ws t with
  |false=>
   rw[hi]at hm
   cases hm
   rw[Aq]
   delta Om
   exact xE x g1 rfl g4 (Nat.le_refl _) hx (λid h=>⟨by have:=h.1;omega,h.2.1,by have:=h.1;omega⟩) hk
  |true=>
   rw[hi,cond_true,Option.bind_eq_some_iff]at hm
   obtain⟨t1,h1,hm⟩:=hm
   rw[Option.bind_eq_some_iff]at hm
   obtain⟨⟨e2,t2⟩,h2,hm⟩:=hm
   rw[Ah]
   refine dB x.p x.lt h1 λH7 n7 line col _ _ y=>?_
   have x:=x.tr y
   have hn7:=y.le
   have g1:=y.get g1 (by omega) hb
   have g4:=y.get g4 (by omega) (by omega)
   have hx:EJ G H7 (Al n n7 n2) c e1:=hx.mono (λid h=>⟨h.1,by have:=h.2.1;omega,h.2.2⟩) λid h=>y.f.same id h.2.1 (by have:=h.1;omega)
   refine Az rfl λH8 f8 g8=>?_
   have x:=x.al f8
   refine CB g8 rfl (L:=U8 t.t line col) rfl (by omega) λH9 g9 s9=>?_
   have x:=x.st (by omega) s9
   have g1:=(s9 n (by omega)).trans (f8.get g1 (by omega))
   have g4:=(s9 n2 (by omega)).trans (f8.get g4 (by omega))
   have hx:EJ G H9 (Al n n7 n2) c e1:=hx.mono (λid h=>h) λid h=>(s9 id (by have:=h.2.1;omega)).trans (f8.same id h.2.1)
   rw[Aa,Aw,Aa]
   simp only[Nat.zero_add]
   rw[OQ (m:=2) (o:=3) g9 (by omega) (by show 3+2<=5;omega),Aw,Aw,AQ (off:=1) g9 (v:=sB t.t.text) rfl,Aw,Ai (m:=11) g4 (by omega) hx.len,Aw]
   refine hf _ H9 (n7+1) _ _ _ x.p x.lt (hbs.fr x) h2 λH10 n10 c2 y hx2=>?_
   have x:=x.tr y
   have hn10:=y.le
   have g1:=y.get g1 (by omega) hb
   have g4:=y.get g4 (by omega) (by omega)
   have g9:=y.get g9 (by omega) (by omega)
   rw[OQ (m:=2) (o:=3) g9 (by omega) (by show 3+2<=5;omega),Aw,AQ (off:=1) g9 (v:=sB t.t.text) rfl,Aw,Ai (m:=11) g4 (by omega) hx.len]
   refine Cc (YS ..) (Cc (U0 _) (Cc hx.vs ?_))
   refine Ju (G:=G) (vs:=[.agg c,.agg c2]) rfl (by omega) (λv hv=>by simp at hv;rcases hv with rfl|rfl;exact⟨rfl,hx.len⟩;exact⟨rfl,hx2.len⟩) λH11 f11 _ hel=>?_
   have x:=x.al f11
   have g1:=f11.get g1 (by omega)
   have g4:=f11.get g4 (by omega)
   refine(show ∀{P:V->Prop},P _->AP (Bl exZ [(0,1,.c (.int .i64 (.ofNat 16) 0)),(1,2,.c (.agg [.int .i64 (.ofNat line) 0,.int .i64 (.ofNat col) 0])),(4,1,.c (sB t.t.text)),(7,1,.c (.sl n10 0 2 2 11))]) P from λh=>by rw[AGh];exact h) ?_
   refine CB g4 hx.len rfl (by omega) λH12 g12 s12=>?_
   have x:=x.st (by omega) s12
   refine ih g _ (by omega) ⟨H12,n10+1,t2,_,.mk 16 0 t.t.text [] false [e1,e2],rfl,x,by omega,(s12 n (by omega)).trans g1,g12,?_,hm⟩
   refine .mk 16 0 t.t.text [] false line col (hel.same λid hid=>s12 id (by cases En hid;omega)) (WC (by omega)) (λid hid=>⟨by cases En hid;omega,by cases En hid;omega,by cases En hid;omega⟩) ?_
   refine .cons (hx.mono (λid h=>⟨h.1,by have:=h.2.1;omega,h.2.2⟩) λid h=>?_) (.cons (hx2.mono (λid h=>⟨by have:=h.1;omega,by have:=h.2;omega,by have:=h.1;omega⟩) λid h=>?_) .nil)
   ·have h1:=h.1;have h2:=h.2.1
    exact(s12 id h.2.2).trans ((f11.same id (by omega)).trans (y.f.same id (by omega) (by omega)))
   ·have h1:=h.1;have h2:=h.2
    exact(s12 id (by omega)).trans (f11.same id h2)
end
section
variable{G:AV}{pb:Nat}
theorem one1{H:Heap}{n b:Nat}(h:Bxs H n pb [b]):pb<b/\b<n/\T.get H b=some (one [.ptr pb 0]):=h b (List.mem_cons_self ..)
theorem AUw{un:PM Ex}{f b:Nat}(hf:FnC G pb [] un (.fn Df [.ptr pb 0] [])):FnC G pb [b] (signs [WZ,SN,pz] un f) (.fn KQ [] [.ptr b 0]):=by
 intro s H n s' e k h hb hbs hm hk
 rw[tK]
 show Runs F G KQ [.ptr b 0] H n k
 refine Am (s:=Gw (Hf lfp G)) Jz (by obtain⟨h,o⟩:=YP Ap G;rw[Jz]at h;cases h;exact o) ?_
 show Hf lfp G (Runs F G) (.ptr b 0) H n k
 delta Hf
 obtain⟨b1,b2,b3⟩:=one1 hbs
 have x:=Fr.refl h hb
 refine Az rfl λH1 f1 g1=>?_
 have x:=x.al f1
 have b3:=f1.get b3 b2
 have q:AX (.ptr b 0) G H1=some (.ptr pb 0):=AQ b3 rfl
 rw[q,Aw,Aw]
 refine jW (G:=G) (ws:=[WZ,SN,pz]) rfl λH2 f2 hel=>?_
 have x:=x.al f2
 have g1:=f2.get g1 (by omega)
 refine AL1 hf Bxs.nil hel (by omega) (by omega) (by show 3<=1000;omega) x.p x.lt hm λH3 n3 c y hx=>?_
 have hn:=y.le
 exact AKZ (x.tr y) (y.get g1 (by omega) hb) rfl (Nat.le_refl _) hx (λid h=>⟨by have:=h.1;omega,h.2,by have:=h.1;omega⟩) hk
theorem AT4{un:PM Ex}{f b:Nat}(hf:FnC G pb [] un (.fn Df [.ptr pb 0] [])):FnC G pb [b] (sumP un f) (.fn Ig [] [.ptr b 0]):=by
 intro s H n s' e k h hb hbs hm hk
 rw[tK]
 show Runs F G Ig [.ptr b 0] H n k
 refine Am (s:=Gw (Ij lfp G)) Kr (by obtain⟨h,o⟩:=Zh Ap G;rw[Kr]at h;cases h;exact o) ?_
 show Ij lfp G (Runs F G) (.ptr b 0) H n k
 delta Ij
 obtain⟨b1,b2,b3⟩:=one1 hbs
 have x:=Fr.refl h hb
 refine Az rfl λH1 f1 g1=>?_
 have x:=x.al f1
 have b3:=f1.get b3 b2
 have q:AX (.ptr b 0) G H1=some (.ptr pb 0):=AQ b3 rfl
 rw[q,Aw]
 refine jW (G:=G) (ws:=[Zp,Dz]) rfl λH2 f2 hel=>?_
 have x:=x.al f2
 have g1:=f2.get g1 (by omega)
 refine AL1 (AUw hf) (λj hj=>by simp at hj;subst hj;exact⟨b1,by omega,f2.get b3 (by omega)⟩) hel (by omega) (by omega) (by show 2<=1000;omega) x.p x.lt hm λH3 n3 c y hx=>?_
 have hn:=y.le
 exact AKZ (x.tr y) (y.get g1 (by omega) hb) rfl (Nat.le_refl _) hx (λid h=>⟨by have:=h.1;omega,h.2,by have:=h.1;omega⟩) hk
theorem AK7{un:PM Ex}{f:Nat}(hf:FnC G pb [] un (.fn Df [.ptr pb 0] [])):FnC G pb [] (compared un f) (.fn Oo [.ptr pb 0] []):=by
 intro s H n s' e k h hb hbs hm hk
 rw[tK]
 show Runs F G Oo [.ptr pb 0] H n k
 refine Am (s:=Gw (Jv lfp G)) NU (by obtain⟨h,o⟩:=eX Ap G;rw[NU]at h;cases h;exact o) ?_
 show Jv lfp G (Runs F G) (.ptr pb 0) H n k
 delta Jv
 unfold compared at hm
 rw[Option.bind_eq_some_iff]at hm
 obtain⟨⟨e1,t⟩,h1,hm⟩:=hm
 have hm:(bif Ko [YK,lg,VR,lW] t then(Np t).bind λs1=>(sumP un f s1).bind λq=>some (.mk 16 0 t.t.text [] false [e1,q.1],q.2)else some (e1,t))=some (e,s'):=hm
 have x:=Fr.refl h hb
 refine AHq rfl λH0 f0 g0=>?_
 have x:=x.al f0
 have g0:T.get H0 n=some (one [.ptr pb 0]):=g0
 refine Az rfl λH1 f1 g1=>?_
 have x:=x.al f1
 have g0:=f1.get g0 (by omega)
 refine AT4 (b:=n) hf _ H1 (n+1+1) _ _ _ x.p x.lt (λj hj=>by simp at hj;subst hj;exact⟨hb,by omega,g0⟩) h1 λH2 n2 c y hx=>?_
 have x:=x.tr y
 have g0:=y.get g0 (by omega) hb
 have g1:=y.get g1 (by omega) (by omega)
 have hn2:=y.le
 refine Az rfl λH3 f3 g3=>?_
 have x:=x.al f3
 have g0:=f3.get g0 (by omega)
 have g1:=f3.get g1 (by omega)
 refine CB g3 rfl hx.len (by omega) λH4 g4 s4=>?_
 have x:=x.st (by omega) s4
 have g0:=(s4 n (by omega)).trans g0
 have g1:=(s4 (n+1) (by omega)).trans g1
 have hx:EJ G H4 (Al (n+1) (n2+1) n2) c e1:=hx.mono (λid h=>⟨by have:=h.1;omega,by have:=h.2;omega,by have:=h.2;omega⟩) λid h=>(s4 id (by have:=h.2;omega)).trans (f3.same id h.2)
 have q:AX (.ptr n 0) G H4=some (.ptr pb 0):=AQ g0 rfl
 rw[q,Aw]
 refine uV (ws:=[YK,lg,VR,lW]) x.p x.lt rfl (by show 4<=1000;omega) λH6 n6 y=>?_
 have x:=x.tr y
 have hn6:=y.le
 have g0:=y.get g0 (by omega) hb
 have g1:=y.get g1 (by omega) (by omega)
 have g4:=y.get g4 (by omega) (by omega)
 have hx:EJ G H6 (Al (n+1) n6 n2) c e1:=hx.mono (λid h=>⟨h.1,by have:=h.2.1;omega,h.2.2⟩) λid h=>y.f.same id h.2.1 (by have:=h.1;omega)
 cases hi:Ko [YK,lg,VR,lW] t with
 |false=>
  rw[hi]at hm
  cases hm
  rw[Aq]
  delta FV
  exact xE x g1 rfl g4 (by omega) hx (λid h=>⟨by have:=h.1;omega,h.2.1,by have:=h.1;omega⟩) hk
 |true=>
  rw[hi,cond_true,Option.bind_eq_some_iff]at hm
  obtain⟨t1,h1,hm⟩:=hm
  rw[Option.bind_eq_some_iff]at hm
  obtain⟨⟨e2,t2⟩,h2,hm⟩:=hm
  cases hm
  have q:AX (.ptr n 0) G H6=some (.ptr pb 0):=AQ g0 rfl
  rw[Ah,q,Aw]
  refine dB x.p x.lt h1 λH7 n7 line col _ _ y=>?_
  have x:=x.tr y
  have hn7:=y.le
  have g0:=y.get g0 (by omega) hb
  have g1:=y.get g1 (by omega) (by omega)
  have g4:=y.get g4 (by omega) (by omega)
  have hx:EJ G H7 (Al (n+1) n7 n2) c e1:=hx.mono (λid h=>⟨h.1,by have:=h.2.1;omega,h.2.2⟩) λid h=>y.f.same id h.2.1 (by have:=h.1;omega)
  refine Az rfl λH8 f8 g8=>?_
  have x:=x.al f8
  refine CB g8 rfl (L:=U8 t.t line col) rfl (by omega) λH9 g9 s9=>?_
  have x:=x.st (by omega) s9
  have g0:=(s9 n (by omega)).trans (f8.get g0 (by omega))
  have g1:=(s9 (n+1) (by omega)).trans (f8.get g1 (by omega))
  have g4:=(s9 n2 (by omega)).trans (f8.get g4 (by omega))
  have hx:EJ G H9 (Al (n+1) n7 n2) c e1:=hx.mono (λid h=>h) λid h=>(s9 id (by have:=h.2.1;omega)).trans (f8.same id h.2.1)
  rw[Aa,Aw,Aa]
  simp only[Nat.zero_add]
  rw[OQ (m:=2) (o:=3) g9 (by omega) (by show 3+2<=5;omega),Aw,Aw,AQ (off:=1) g9 (v:=sB t.t.text) rfl,Aw,Ai (m:=11) g4 (by omega) hx.len,Aw]
  refine AT4 (b:=n) hf _ H9 (n7+1) _ _ _ x.p x.lt (λj hj=>by simp at hj;subst hj;exact⟨hb,by omega,g0⟩) h2 λH10 n10 c2 y hx2=>?_
  have x:=x.tr y
  have hn10:=y.le
  have g1:=y.get g1 (by omega) (by omega)
  have g4:=y.get g4 (by omega) (by omega)
  have g9:=y.get g9 (by omega) (by omega)
  rw[OQ (m:=2) (o:=3) g9 (by omega) (by show 3+2<=5;omega),Aw,AQ (off:=1) g9 (v:=sB t.t.text) rfl,Aw,Ai (m:=11) g4 (by omega) hx.len]
  refine Cc (YS ..) (Cc (U0 _) (Cc hx.vs ?_))
  refine Ju (G:=G) (vs:=[.agg c,.agg c2]) rfl (by omega) (λv hv=>by simp at hv;rcases hv with rfl|rfl;exact⟨rfl,hx.len⟩;exact⟨rfl,hx2.len⟩) λH11 f11 _ hel=>?_
  have x:=x.al f11
  have g1:=f11.get g1 (by omega)
  have g4:=f11.get g4 (by omega)
  refine(show ∀{P:V->Prop},P _->AP (Bl exZ [(0,1,.c (.int .i64 (.ofNat 16) 0)),(1,2,.c (.agg [.int .i64 (.ofNat line) 0,.int .i64 (.ofNat col) 0])),(4,1,.c (sB t.t.text)),(7,1,.c (.sl n10 0 2 2 11))]) P from λh=>by rw[AGh];exact h) ?_
  refine CB g4 hx.len rfl (by omega) λH12 g12 s12=>?_
  have x:=x.st (by omega) s12
  delta FV
  refine xE (A:=Al (n+1) (n10+1) n2) (e:=.mk 16 0 t.t.text [] false [e1,e2]) x ((s12 (n+1) (by omega)).trans g1) rfl g12 (by omega) ?_ (λid h=>⟨by have:=h.1;omega,h.2.1,by have:=h.1;omega⟩) hk
  refine .mk 16 0 t.t.text [] false line col (hel.same λid hid=>s12 id (by cases En hid;omega)) (WC (by omega)) (λid hid=>⟨by cases En hid;omega,by cases En hid;omega,by cases En hid;omega⟩) ?_
  refine .cons (hx.mono (λid h=>⟨h.1,by have:=h.2.1;omega,h.2.2⟩) λid h=>?_) (.cons (hx2.mono (λid h=>⟨by have:=h.1;omega,by have:=h.2;omega,by have:=h.1;omega⟩) λid h=>?_) .nil)
  ·have h1:=h.1;have h2:=h.2.1
   exact(s12 id h.2.2).trans ((f11.same id (by omega)).trans (y.f.same id (by omega) (by omega)))
  ·have h1:=h.1;have h2:=h.2
   exact(s12 id (by omega)).trans (f11.same id h2)
theorem ARW{un:PM Ex}{f b:Nat}(hf:FnC G pb [] un (.fn Df [.ptr pb 0] [])):FnC G pb [b] (either 17 Ob (compared un f) f) (.fn QM [] [.ptr b 0]):=by
 intro s H n s' e k h hb hbs hm hk
 rw[tK]
 show Runs F G QM [.ptr b 0] H n k
 refine Am (s:=Gw (LW lfp G)) PY (by obtain⟨h,o⟩:=jH Ap G;rw[PY]at h;cases h;exact o) ?_
 show LW lfp G (Runs F G) (.ptr b 0) H n k
 delta LW
 obtain⟨b1,b2,b3⟩:=one1 hbs
 have x:=Fr.refl h hb
 refine Az rfl λH1 f1 g1=>?_
 have x:=x.al f1
 have b3:=f1.get b3 b2
 have q:AX (.ptr b 0) G H1=some (.ptr pb 0):=AQ b3 rfl
 rw[q,Aw,Aw,AXu]
 refine AHj (AK7 hf) Bxs.nil x.p x.lt hm λH3 n3 c y hx=>?_
 have hn:=y.le
 exact AKZ (x.tr y) (y.get g1 (by omega) hb) rfl (Nat.le_refl _) hx (λid h=>⟨by have:=h.1;omega,h.2,by have:=h.1;omega⟩) hk
theorem ASm{rec:PM Ex}{f:Nat}{s s':S}{H:Heap}{n:Nat}{e:Ex}{k:KV}(hf:FnC G pb [] (unary rec f) (.fn Df [.ptr pb 0] []))(h:ZX G H pb s)(hb:pb<n)(hm:AHw rec f s=some (e,s'))(hk:ExK G pb H n s' e k):
 Runs F G Ce [.ptr pb 0] H n k:=by
 refine Am (s:=Gw (OB lfp G)) Rf (by obtain⟨h,o⟩:=og Ap G;rw[Rf]at h;cases h;exact o) ?_
 show OB lfp G (Runs F G) (.ptr pb 0) H n k
 delta OB
 unfold AHw at hm
 rw[Option.bind_eq_some_iff]at hm
 obtain⟨s1,h1,hm⟩:=hm
 rw[Option.bind_eq_some_iff]at hm
 obtain⟨⟨e1,s2⟩,h2,hm⟩:=hm
 rw[Option.bind_eq_some_iff]at hm
 obtain⟨s3,h3,hm⟩:=hm
 cases hm
 have x:=Fr.refl h hb
 refine AHq rfl λH0 f0 g0=>?_
 have x:=x.al f0
 have g0:T.get H0 n=some (one [.ptr pb 0]):=g0
 refine Az rfl λH1 f1 g1=>?_
 have x:=x.al f1
 have g0:=f1.get g0 (by omega)
 have q:AX (.ptr n 0) G H1=some (.ptr pb 0):=AQ g0 rfl
 rw[q,Aw]
 refine AF9 x.p x.lt h1 λH2 n2 q y hq1 hq2 hq3=>?_
 have x:=x.tr y
 have g0:=y.get g0 (by omega) hb
 have g1:=y.get g1 (by omega) (by omega)
 rw[ACt]
 have q':AX (.ptr n 0) G H2=some (.ptr pb 0):=AQ g0 rfl
 rw[q',Aw,AaH]
 refine AHj (ARW (b:=n) hf) (λj hj=>by simp at hj;subst hj;exact⟨hb,by omega,g0⟩) x.p x.lt h2 λH3 n3 c y hx=>?_
 have x:=x.tr y
 have g1:=y.get g1 (by omega) (by omega)
 have hq3:=y.get hq3 hq2 (by omega)
 have hn3:=y.le
 refine CB g1 rfl hx.len (by omega) λH4 g4 s4=>?_
 have x:=x.st (by omega) s4
 have hx:EJ G H4 (Rg n2 n3) c e1:=hx.mono (λid h=>h) λid h=>s4 id (by have:=h.1;omega)
 refine ASj x.p x.lt ((s4 q (by omega)).trans hq3) h3 λH5 n5 y=>?_
 have x:=x.tr y
 have g4:=y.get g4 (by omega) (by omega)
 have hn5:=y.le
 rw[DU (m:=11) g4 (by omega) hx.len]
 simp only[go_sem]
 exact hk _ _ _ x (hx.mono (λid h=>⟨by have:=h.1;omega,by have:=h.2;omega⟩) λid h=>y.f.same id h.2 (by have:=h.1;omega))
end
theorem AJE{G:AV}{H:Heap}{n id m z bs:Nat}{t:T LV}{w:V}{LS NS:Dv}{k:KV}(hz:0<z)(hb:T.get H id=some (.arr z m t))(hid:id<n)(h:elems (.sl id 0 m m z) G H z=some LS)
 (hw:elems w G H z=some NS) (hr:(m+NS.length)*bs<=140737488355328)
 (hk:∀v' H' n',El G H' v' z (LS++NS)->(∀j,j<n->T.get H' j=T.get H j)->n<=n'->((∃l,v'=.sl id 0 l m z/\l<=m)∨∃l,v'=.QF n 0 l z/\n<n')->k v' H' n'):Xx z bs (.sl id 0 m m z) w G H n k:=by
 unfold Xx
 rw[hw,uq]
 have h2:(Bool.rec (motive:=λ_=>Option Dv) none (DF H id z m 0) (Nat.beq z z):Option Dv)=some LS:=h
 rw[Eh]at h2
 have h2:DF H id z m 0=some LS:=h2
 obtain⟨hl,hat⟩:=O6 _ _ h2
 have e0:AI8 (.sl id 0 m m z) G z bs NS H n k=Bool.rec (motive:=λ_=>Prop) (Hu (DF H id z m 0) λOS=>O3 z bs OS NS H n k) (Hu (T.get H id) λb=>ADQ id 0 m m z (m+NS.length) NS H n k b) (Nat.ble (m+NS.length) m):=by
  show Ed (Nat.beq z z) (ET (Nat.add m (len NS)) λneed=>Bool.rec (motive:=λ_=>Prop) (Hu (DF H id z m 0) λOS=>O3 z bs OS NS H n k) (Hu (T.get H id) λb=>ADQ id 0 m m z need NS H n k b) (Nat.ble need m))=_
  rw[Eh,ou,CJ,len_eq];rfl
 rw[e0]
 by_cases hN:NS.length=0
 ·have:NS=[]:=List.length_eq_zero_iff.1 hN
  subst this
  rw[show Nat.ble (m+([]:Dv).length) m=true by rw[Nat.ble_eq];exact Nat.le_refl _]
  show Hu (T.get H id) (λb=>ADQ id 0 m m z (m+0) [] H n k b)
  rw[hb,uq]
  show Ed (band (Nat.beq z z) (Nat.ble (Nat.add 0 (m+0)) m)) (k (.sl id 0 (m+0) m z) (T.set H id (.arr z m t)) n)
  rw[Eh,show Nat.ble (Nat.add 0 (m+0)) m=true by rw[Nat.ble_eq];show 0+m<=m;omega]
  have hs:∀j,T.get (T.set H id (.arr z m t)) j=T.get H j:=λj=>by
   rw[T.RY];split
   ·rename_i e;subst e;exact hb.symm
   ·rfl
  rw[List.append_nil]at hk
  exact hk _ _ _ ((show El G H (.sl id 0 m m z) z LS from⟨rfl,h⟩).same λj _=>hs j) (λj _=>hs j) (Nat.le_refl _) (.inl ⟨_,rfl,Nat.le_refl _⟩)
 ·rw[show Nat.ble (m+NS.length) m=false by rw[Bool.eq_false_iff];intro hc;rw[Nat.ble_eq]at hc;omega]
  show Hu (DF H id z m 0) (λOS=>O3 z bs OS NS H n k)
  rw[h2,uq]
  show ET (Nat.add (len LS) (len NS)) (λneed=>Ed (QK need bs) (ET n λn=>k (.QF n 0 need z) (T.set H n (.arr z need (Fh NS (len LS) (Fh LS 0 .e)))) (Nat.succ n)))
  rw[CJ,CJ,len_eq,len_eq,show QK (Nat.add LS.length NS.length) bs=true from ZU (by rw[hl];exact hr),ou]
  have e:Nat.add LS.length NS.length=(LS++NS).length:=by rw[List.length_append];rfl
  rw[e]
  refine hk _ _ _ (Gr.el (m:=n) (.QF (LS:=LS++NS) (T.C9 ..) (Nat.le_refl _) (λi L hi=>?_) (Nat.le_refl _)) hz) (λj hj=>T.Au _ _ (by omega)) (by omega) (.inr ⟨_,rfl,by omega⟩)
  rw[FN,FN]
  by_cases hlt:i<LS.length
  ·rw[if_neg (by omega),if_pos ⟨Nat.zero_le _,by omega⟩]
   rw[List.getElem?_append_left hlt]at hi
   exact hi
  ·rw[List.getElem?_append_right (by omega)]at hi
   have hlt2:=(List.getElem?_eq_some_iff.1 hi).1
   rw[if_pos ⟨by omega,by omega⟩];exact hi
theorem ACu{G:AV}{H:Heap}{m n z bs:Nat}{v w:V}{LS NS:Dv}{k:KV}(h:Gr G H m z v LS)(hm:m<=n)(hn:∀id,v.QU=some id->id<n)(hw:elems w G H z=some NS)
 (hb:(LS.length+NS.length)*bs<=140737488355328)
 (hk:∀v' H',Gr G H' m z v' (LS++NS)->(∀id,id<n->v.QU≠some id->T.get H' id=T.get H id)->(∀id,v'.QU=some id->id=n)->k v' H' (n+1))
 (hk0:NS=[]->k v H n):Xx z bs v w G H n k:=by
 unfold Xx
 rw[hw,uq]
 cases h with
 |nil=>
  cases NS with
  |nil=>exact hk0 rfl
  |cons a NS=>
   show O3 z bs [] (a::NS) H n k
   unfold O3
   rw[CJ,CJ,len_eq,len_eq,show QK (Nat.add ([]:Dv).length (a::NS).length) bs=true from ZU hb,ou]
   have e:Nat.add ([]:Dv).length (a::NS).length=(a::NS).length:=Nat.zero_add _
   rw[e]
   refine hk _ _ ?_ (λid hid _=>T.Au _ _ (by omega)) (λid hid=>by cases hid;rfl)
   refine .QF (LS:=a::NS) (T.C9 ..) (Nat.le_refl _) (λi L hi=>?_) hm
   show T.get (Fh (a::NS) 0 .e) i=some L
   have hlt:=(List.getElem?_eq_some_iff.1 hi).1
   rw[FN,if_pos ⟨Nat.zero_le _,by omega⟩];exact hi
 |QF hg hc ht hid=>
  rename_i id c t
  show Ed (Nat.beq z z) _
  rw[Eh,ou]
  cases NS with
  |nil=>exact hk0 rfl
  |cons a NS=>
   show Hu (T.get H id) (λb=>aJ id 0 LS.length z bs (a::NS) H n k b)
   rw[hg,uq]
   rw[AIx (ZU hb) hc,show LS.length+(a::NS).length=(LS++a::NS).length by rw[List.length_append]]
   refine hk _ _ ?_ (λj hj hne=>?_) (λj hj=>by cases hj;rfl)
   ·refine .QF (LS:=LS++a::NS) (T.C9 ..) (Nat.le_refl _) (λi L hi=>?_) hm
    rw[FN]
    by_cases hlt:i<LS.length
    ·rw[if_neg (by omega)]
     rw[List.getElem?_append_left hlt]at hi
     exact ht i L hi
    ·rw[List.getElem?_append_right (by omega)]at hi
     have hlt2:=(List.getElem?_eq_some_iff.1 hi).1
     rw[if_pos ⟨by omega,by omega⟩];exact hi
   ·rw[T.Au _ _ (by omega),T.Au _ _ (by intro e;subst e;exact hne rfl)]
def dU(G:AV)(H:Heap)(A:Nat->Prop)(v:V)(es:List Ex):Prop:=∃cs,El G H v 11 cs/\KS v/\jq v=true/\Cb v=[v]/\(∀id,v.QU=some id->A id)/\Ou G H A cs es
def EsK(G:AV)(pb:Nat)(H:Heap)(n:Nat)(s':S)(es:List Ex)(k:KV):Prop:=∀H' n' v,Fr G pb H n H' n' s'->dU G H' (Rg n n') v es->es.length<=201->k v H' n'
def AJ3(G:AV)(pb:Nat)(rec:PM Ex):Prop:=∀(s:S) (H:Heap) (n:Nat) (s':S) (e:Ex) (k:KV),ZX G H pb s->pb<n->rec s=some (e,s')->ExK G pb H n s' e k->Runs F G Ce [.ptr pb 0] H n k
theorem QC{G:AV}{H:Heap}{m z:Nat}{v:V}{LS:Dv}(h:Gr G H m z v LS):KS v/\jq v=true/\Cb v=[v]:=by
 cases h with
 |nil=>exact⟨cO,rfl,rfl⟩
 |QF=>exact⟨AJs ..,rfl,rfl⟩
section
variable{G:AV}{pb:Nat}{H:Heap}{n:Nat}{s s':S}
theorem zG{w:Bs}{B E:Heap->Nat->Prop}(h:ZX G H pb s)(hb:pb<n)(h0:s.ok=false->E H n)
 (h1:s.ok=true->∃b s',Ci w s=some (b,s')/\∀H' n',Fr G pb H n H' n' s'->bif b then E H' n' else B H' n'):
 Runs F G EL [.ptr pb 0] H n λv5 H n=>Bc v5 true (some (.ptr pb 0)) λv6=>Uk v5 true (Runs F G Ak [v6,sB w] H n) H n λv7 H n=>Bc v5 true (VJ v7) λv8=>AP (DV v5 v8 (.bool false)) λv9=>Ac v9 true (B H n) (E H n):=by
 refine ANH h ?_
 cases ho:s.ok with
 |false=>simp only[go_sem];exact h0 ho
 |true=>
  obtain⟨b,s',h2,h3⟩:=h1 ho
  simp only[go_sem]
  refine Oe h hb h2 λH' n' y=>?_
  have:=h3 H' n' y
  cases b<;>simp only[go_sem,Lh,Bool.not_true,Bool.not_false]<;>exact this
theorem EJ.ok{A:Nat->Prop}{c:LV}{e:Ex}(h:EJ G H A c e):jq (.agg c)=true/\(Cb (.agg c)).length=11:=⟨rfl,h.len⟩
theorem AOE{rec:PM Ex}{f:Nat}{es:List Ex}{k:KV}(hr:AJ3 G pb rec)(h:ZX G H pb s)(hb:pb<n)(hm:bK rec f s=some (es,s'))(hk:EsK G pb H n s' es k):Runs F G TK [.ptr pb 0] H n k:=by
 refine Am (s:=Gw (OW lfp G)) Qy (by obtain⟨h,o⟩:=qL Ap G;rw[Qy]at h;cases h;exact o) ?_
 show OW lfp G (Runs F G) (.ptr pb 0) H n k
 delta OW
 unfold bK at hm
 rw[Option.bind_eq_some_iff]at hm
 obtain⟨s1,h1,hm⟩:=hm
 refine LC (ws:=[BJ]) h hb rfl (by show 1<=1000;omega) h1 λH1 n1 x=>?_
 refine OY (J:=λg q=>∃H' n' t v cs out,q=(.ptr pb 0,v,H',n')/\Fr G pb H n H' n' t/\Own G H' n n' 11 v cs/\Ou G H' (λid=>n<=id/\id<n'/\v.QU≠some id) cs out/\(t.ok=true->out.length<=200)/\out.length<=201/\Uz rec g out t=some (es,s')) ?_ (m:=f)
  ⟨H1,n1,s1,.Ad,[],[],rfl,x,XP,.nil,λ_=>Nat.zero_le _,Nat.zero_le _,hm⟩
 rintro I g q ⟨H2,n2,t,v,cs,out,rfl,x,ho,hc,hle,hle2,hm⟩ ih
 show PV lfp G (Runs F G) k I (.ptr pb 0) v H2 n2
 delta PV
 cases g with
 |zero=>cases hm
 |succ g=>
  have hm:(bif t.ok then(Ci BM t).bind λp=>bif p.1 then some (out,p.2)else
   (bif decide (0<out.length)then CG [DK] p.2 else some p.2).bind λs1=>(rec s1).bind λq=>Uz rec g (out++[q.1]) (F8 (out.length+1) q.2)
   else some (out,t))=some (es,s'):=hm
  have hn2:=x.le
  have fin:∀{H3:Heap} {n3:Nat} {t3:S},Fr G pb H2 n2 H3 n3 t3->some (out,t3)=some (es,s')->KP lfp G (Runs F G) k v H3 n3:=by
   intro H3 n3 t3 y he
   cases he
   delta KP
   have ho3:=ho.kx y.f x.b
   refine hk _ _ _ (x.tr y) ⟨cs,ho3.el (by omega),(QC ho3.gr).1,(QC ho3.gr).2.1,(QC ho3.gr).2.2,λid hid=>⟨ho3.ge hid,ho3.lo id hid⟩,?_⟩ hle2
   exact hc.mono (λid h=>⟨h.1,by have:=h.2.1;have:=y.le;omega⟩) λid h=>y.f.same id h.2.1 (by have:=h.1;have:=x.b;omega)
  rw[AY5]
  refine zG x.p x.lt (λhf=>fin (Fr.refl x.p x.lt) (by rw[hf]at hm;exact hm)) λht=>?_
  rw[ht,cond_true,Option.bind_eq_some_iff]at hm
  obtain⟨⟨b,t2⟩,h2,hm⟩:=hm
  refine⟨b,t2,h2,λH3 n3 y=>?_⟩
  cases b with
  |true=>exact fin y hm
  |false=>
   show AP (lenV v) _
   have hm:((bif decide (0<out.length)then CG [DK] t2 else some t2).bind λs1=>(rec s1).bind λq=>Uz rec g (out++[q.1]) (F8 (out.length+1) q.2))=some (es,s'):=hm
   rw[Option.bind_eq_some_iff]at hm
   obtain⟨t3,h3,hm⟩:=hm
   rw[Option.bind_eq_some_iff]at hm
   obtain⟨⟨e,t4⟩,h4,hm⟩:=hm
   have hlen:=hle ht
   have body:∀{H4:Heap} {n4:Nat},Fr G pb H2 n2 H4 n4 t3->G7 lfp G (Runs F G) k I (.ptr pb 0) v H4 n4:=by
    intro H4 n4 y
    delta G7
    have ho4:=ho.kx y.f x.b
    have hc4:Ou G H4 (λid=>n<=id/\id<n4/\v.QU≠some id) cs out:=hc.mono (λid h=>⟨h.1,by have:=h.2.1;have:=y.le;omega,h.2.2⟩) λid h=>y.f.same id h.2.1 (by have:=h.1;have:=x.b;omega)
    have x:=x.tr y
    refine hr _ _ _ _ _ _ x.p x.lt h4 λH5 n5 c y hx=>?_
    have hn4:=x.le
    have hpb:=x.b
    have x:=x.tr y
    have ho5:=ho4.kx y.f hpb
    have hc5:Ou G H5 (λid=>n<=id/\id<n4/\v.QU≠some id) cs out:=hc4.mono (λid h=>h) λid h=>y.f.same id h.2.1 (by have:=h.1;omega)
    have hn5:=y.le
    refine Ju (G:=G) (vs:=[.agg c]) rfl (by omega) (λv hv=>by simp at hv;subst hv;exact hx.ok) λH6 f6 _ hel=>?_
    have x:=x.al f6
    have ho6:=ho5.kp f6
    refine ACu ho6.gr (by omega) ho6.lo hel.2 (by have:=hc.len;show(cs.length+1)*136<=_;omega) ?_ (λh=>by cases h)
    intro v' H7 hgr hsame hlo
    have hgr:Gr G H7 n 11 v' (cs++[c]):=hgr
    have f7:Fr G pb H n H7 (n5+1+1) t4:=⟨⟨by omega,λid hid hp=>(hsame id (by omega) (λh=>by have:=ho6.ge h;omega)).trans (x.f.same id hid hp)⟩,x.p.same λid hid=>hsame id (by omega) (λh=>by have:=ho6.ge h;omega),hpb⟩
    have hv4:∀id,v.QU=some id->id<n4:=ho4.lo
    rw[(hgr.el (by omega)).len,Aw,List.length_append,show cs.length+[c].length=out.length+1 by rw[hc.len];rfl]
    refine AFv f7.p f7.lt λH8 n8 y8=>?_
    have hn8:=y8.le
    refine ih g (_,_,H8,n8) (by omega) ⟨H8,n8,_,v',cs++[c],out++[e],rfl,f7.tr y8,?_,?_,?_,by rw[List.length_append];show out.length+1<=201;omega,hm⟩
    ·exact(show Own G H7 n (n5+1+1) 11 v' (cs++[c])from⟨hgr,λid hid=>by have:=hlo id hid;omega⟩).kx y8.f hpb
    ·refine(hc5.mono (λid h=>⟨h.1,by have:=h.2.1;omega,λhv=>by have:=hlo id hv;have:=h.2.1;omega⟩) λid h=>?_).app (.cons (hx.mono (λid h=>⟨by have:=h.1;omega,by have:=h.2;omega,λhv=>by have:=hlo id hv;have:=h.2;omega⟩) λid h=>?_) .nil)
     ·have h1:=h.1;have h2:=h.2.1
      exact(y8.f.same id (by omega) (by omega)).trans ((hsame id (by omega) h.2.2).trans (f6.same id (by omega)))
     ·have h1:=h.1;have h2:=h.2
      exact(y8.f.same id (by omega) (by omega)).trans ((hsame id (by omega) (λhv=>by have:=hv4 id hv;omega)).trans (f6.same id (by omega)))
    ·intro hok
     rw[List.length_append]
     unfold F8 at hok
     cases hd:decide (200<out.length+1)with
     |false=>have:=of_decide_eq_false hd;show out.length+1<=200;omega
     |true=>
      rw[hd]at hok
      exfalso
      unfold GR at hok
      cases ho:t4.ok with
      |false=>rw[ho]at hok;simp[ho]at hok
      |true=>rw[ho]at hok;cases hok
   have hv3:=(ho.kx y.f x.b).el (by omega)
   rw[hv3.len,Aw,hc.len,MJ,Aw]
   cases hd:decide (0<out.length)with
   |false=>
    rw[hd]at h3
    cases h3
    rw[Aq]
    exact body y
   |true=>
    rw[hd]at h3
    have h3:CG [DK] t2=some t3:=h3
    rw[Ah]
    exact LC (ws:=[DK]) y.p (by have:=y.le;have:=x.lt;omega) rfl (by show 1<=1000;omega) h3 λH4 n4 y4=>body (y.tr y4)
end
theorem AUp{kd:Nat}{x y:V}{nm:Bs}{id o l:Nat}:Bl exZ [(0,1,.c (.int .i64 (.ofNat kd) 0)),(1,2,.c (.agg [x,y])),(4,1,.c (sB nm)),(7,1,.c (.QF id o l 11))]=
 some (.agg [.int .i64 (.ofNat kd) 0,x,y,.int .i64 (.ofNat 0) 0,sB nm,.str 0 0,.bool false,.QF id o l 11,.str 0 0,.bool false,.str 0 0]):=rfl
theorem AU9{x y:V}:Bl exZ [(1,2,.c (.agg [x,y]))]=
 some (.agg [.int .i64 (.ofNat 0) 0,x,y,.int .i64 (.ofNat 0) 0,.str 0 0,.str 0 0,.bool false,.Ad,.str 0 0,.bool false,.str 0 0]):=rfl
theorem AB{e:Option V}{v:V}{P:V->Prop}(h:e=some v)(hp:P v):AP e P:=by rw[h];exact hp
section
variable{G:AV}{pb:Nat}{H:Heap}{n:Nat}{s s':S}{k:KV}
theorem ARa{t:Ty}(hk:∀H',Kp H n H' (n+1)->k (.bool (wL t)) H' (n+1)):Runs F G gJ [.agg (tyC t)] H n k:=by
 refine Am (s:=Gw (Ry lfp G)) Vh (by obtain⟨h,o⟩:=AAL Ap G;rw[Vh]at h;cases h;exact o) ?_
 show Ry lfp G (Runs F G) (.agg (tyC t)) H n k
 delta Ry
 refine Di λH1 f1 g1=>?_
 have q0:AX (.ptr n 0) G H1=some (sB t.nm):=AQ g1 rfl
 have q1:AX (.ptr n 1) G H1=some (.bool t.arr):=AQ g1 rfl
 have ne0:∀l:Bs,EU (.one .str) true (sB l) (.str 0 0)=some (.bool (!decide (l=[]))):=λl=>ASf l []
 have hk:=hk _ f1
 unfold wL at hk
 simp only[go_sem,Nat.reduceAdd,q1,Lh]
 cases ha:t.arr with
 |true=>
  rw[ha]at hk
  simp only[Bool.not_true]
  repeat (first|with_reducible refine AEm ?_|with_reducible refine AH6 ?_|with_reducible refine AEp ?_)
  exact hk
 |false=>
  rw[ha]at hk
  simp only[Bool.not_false,go_sem,Nat.reduceAdd,q0,ne0]
  cases hn:t.nm with
  |nil=>
   rw[hn]at hk
   simp only[decide_true,Bool.not_true]
   repeat (first|with_reducible refine AEm ?_|with_reducible refine AH6 ?_|with_reducible refine AEp ?_)
   exact hk
  |cons c l=>
   rw[hn]at hk q0
   have hk:k (.bool (great c)) H1 (n+1):=hk
   unfold great at hk
   have ix:Ku (sB (c::l)) (.int .i64 (.ofNat 0) 0)=some (.int .u8 (.ofNat c.toNat) 0):=AEz (l:=c::l) (i:=0) (by simp)
   simp only[show decide (c::l=[])=false from rfl,Bool.not_false,go_sem,Nat.reduceAdd,q0,ix,ku]
   cases h1:decide (65<=c.toNat)with
   |false=>rw[h1]at hk;simp only[go_sem];exact hk
   |true=>rw[h1]at hk;simp only[go_sem,Nat.reduceAdd,q0,ix,uw];exact hk
def AYf(G:AV)(pb:Nat)(H:Heap)(n:Nat)(A:Nat->Prop)(s':S)(e:Ex)(k:KV):Prop:=∀H' n' c,Fr G pb H n H' n' s'->EJ G H' (λid=>A id∨Rg n n' id) c e->k (.agg c) H' n'
theorem ACv{H0 H:Heap}{n0 n r:Nat}{c L0:LV}{e:Ex}{A:Nat->Prop}(x:Fr G pb H0 n0 H n s')(gr:T.get H r=some (one L0))(hl:L0.length=11)(hr:n0<=r)(he:EJ G H (λid=>A id∨(Rg n0 n id/\id≠r)) c e)(hA:∀id,A id->id<n0)
 (hk:AYf G pb H0 n0 A s' e k):CQ 11 (.ptr r 0) (.agg c) H n λ_ H n=>Hu (Du [.cn (.ptr r 0) 11] G H) λl=>k (Fj l) H n:=by
 refine CB gr hl he.len (by omega) λH1 g1 s1=>?_
 rw[DU (m:=11) g1 (by omega) he.len]
 simp only[go_sem]
 exact hk _ _ _ (x.st hr s1) (he.mono (λid h=>h.imp (λh=>h) λh=>h.1) λid h=>s1 id (by rcases h with h|h;have:=hA id h;omega;exact h.2))
theorem AO3{rec:PM Ex}{f:Nat}{e e':Ex}{c:LV}{A:Nat->Prop}{line col:Nat}(hr:AJ3 G pb rec)(hA:∀id,A id->pb<id/\id<n)(hx:EJ G H A c e)(h:ZX G H pb s)(hb:pb<n)(hm:ZE rec f e s=some (e',s'))(hk:AYf G pb H n A s' e' k):
 Runs F G WM [.ptr pb 0,.agg c,.agg [.int .i64 (.ofNat line) 0,.int .i64 (.ofNat col) 0]] H n k:=by
 refine Am (s:=ar3 (LG lfp G)) PN (by obtain⟨h,o⟩:=kU Ap G;rw[PN]at h;cases h;exact o) ?_
 show LG lfp G (Runs F G) (.ptr pb 0) (.agg c) (.agg [.int .i64 (.ofNat line) 0,.int .i64 (.ofNat col) 0]) H n k
 delta LG
 unfold ZE at hm
 rw[Option.bind_eq_some_iff]at hm
 obtain⟨⟨b,t⟩,h1,hm⟩:=hm
 have hm:(bif b then some ((.mk 13 0 [] [] false [e]:Ex),t)else(JZ 3 t).bind λq=>bif Ko [BJ] q.2 then(bK rec f q.2).bind λa=>some (.mk 8 0 q.1 [] false (e::a.1),a.2)else some (.mk 7 0 q.1 [] false [e],q.2))=some (e',s'):=hm
 have x:=Fr.refl h hb
 refine Di λH1 f1 g1=>?_
 have x:=x.al f1
 refine Di λH2 f2 g2=>?_
 have x:=x.al f2
 have g1:=f2.get g1 (by omega)
 refine Az rfl λH3 f3 g3=>?_
 have x:=x.al f3
 have g1:=f3.get g1 (by omega)
 have g2:=f3.get g2 (by omega)
 have hx:EJ G H3 A c e:=hx.mono (λid h=>h) λid h=>x.f.same id (hA id h).2 (by have:=(hA id h).1;omega)
 rw[show V.str 6 114849160783212=sB Io from rfl]
 refine Oe x.p x.lt h1 λH4 n4 y=>?_
 have x:=x.tr y
 have hn4:=y.le
 have g1:=y.get g1 (by omega) hb
 have g2:=y.get g2 (by omega) (by omega)
 have g3:=y.get g3 (by omega) (by omega)
 have hx:EJ G H4 A c e:=hx.mono (λid h=>h) λid h=>y.f.same id (by have:=(hA id h).2;omega) (by have:=(hA id h).1;omega)
 have mkOne:∀{H6:Heap} {m:Nat} {kd:Nat} {nm:Bs},EJ G H6 A c e->n<=m->m≠n+1+1->El G H6 (.sl m 0 1 1 11) 11 [c]->EJ G H6 (λid=>A id∨(Rg n (m+1) id/\id≠n+1+1)) (TF kd 0 nm [] false line col (.sl m 0 1 1 11)) (.mk kd 0 nm [] false [e]):=by
  intro H6 m kd nm hx h1 h2 hel
  exact .mk kd 0 nm [] false line col hel (WC (by omega)) (λid hid=>.inr (by cases En hid;exact⟨⟨h1,by omega⟩,h2⟩)) (.cons (hx.mono (λid h=>.inl h) λid h=>rfl) .nil)
 cases b with
 |true=>
  cases hm
  rw[Ah,Ai (m:=2) g2 (by omega) rfl,Aw,Ai (m:=11) g1 (by omega) hx.len,Aw]
  refine Ju (G:=G) (vs:=[.agg c]) rfl (by omega) (λv hv=>by simp at hv;subst hv;exact hx.ok) λH6 f6 _ hel=>?_
  have x:=x.al f6
  have hx:EJ G H6 A c e:=hx.mono (λid h=>h) λid h=>f6.same id (by have:=(hA id h).2;omega)
  refine AB AKy ?_
  exact ACv x (f6.get g3 (by omega)) rfl (by omega) (mkOne (kd:=13) (nm:=[]) hx (by omega) (by omega) hel) (λid h=>(hA id h).2) hk
 |false=>
  rw[cond_false,Option.bind_eq_some_iff]at hm
  obtain⟨⟨nm,t2⟩,h2,hm⟩:=hm
  have hm:(bif Ko [BJ] t2 then(bK rec f t2).bind λa=>some ((.mk 8 0 nm [] false (e::a.1):Ex),a.2)else some (.mk 7 0 nm [] false [e],t2))=some (e',s'):=hm
  rw[Aq]
  refine dR x.p x.lt h2 λH5 n5 y=>?_
  have x:=x.tr y
  have hn5:=y.le
  have g1:=y.get g1 (by omega) hb
  have g2:=y.get g2 (by omega) (by omega)
  have g3:=y.get g3 (by omega) (by omega)
  have hx:EJ G H5 A c e:=hx.mono (λid h=>h) λid h=>y.f.same id (by have:=(hA id h).2;omega) (by have:=(hA id h).1;omega)
  refine uV (ws:=[BJ]) x.p x.lt rfl (by show 1<=1000;omega) λH6 n6 y=>?_
  have x:=x.tr y
  have hn6:=y.le
  have g1:=y.get g1 (by omega) hb
  have g2:=y.get g2 (by omega) (by omega)
  have g3:=y.get g3 (by omega) (by omega)
  have hx:EJ G H6 A c e:=hx.mono (λid h=>h) λid h=>y.f.same id (by have:=(hA id h).2;omega) (by have:=(hA id h).1;omega)
  rw[Lh,Aw]
  cases hi:Ko [BJ] t2 with
  |false=>
   rw[hi]at hm
   cases hm
   rw[Bool.not_false,Ah,Ai (m:=2) g2 (by omega) rfl,Aw,Ai (m:=11) g1 (by omega) hx.len,Aw]
   refine Ju (G:=G) (vs:=[.agg c]) rfl (by omega) (λv hv=>by simp at hv;subst hv;exact hx.ok) λH7 f7 _ hel=>?_
   have x:=x.al f7
   have hx:EJ G H7 A c e:=hx.mono (λid h=>h) λid h=>f7.same id (by have:=(hA id h).2;omega)
   refine AB AGh ?_
   exact ACv x (f7.get g3 (by omega)) rfl (by omega) (mkOne (kd:=7) (nm:=nm) hx (by omega) (by omega) hel) (λid h=>(hA id h).2) hk
  |true=>
   rw[hi,cond_true,Option.bind_eq_some_iff]at hm
   obtain⟨⟨es,t3⟩,h3,hm⟩:=hm
   cases hm
   rw[Bool.not_true,Aq,Ai (m:=2) g2 (by omega) rfl,Aw,Ai (m:=11) g1 (by omega) hx.len,Aw]
   refine Ju (G:=G) (vs:=[.agg c]) rfl (by omega) (λv hv=>by simp at hv;subst hv;exact hx.ok) λH7 f7 hb7 hel=>?_
   have x:=x.al f7
   have hx:EJ G H7 A c e:=hx.mono (λid h=>h) λid h=>f7.same id (by have:=(hA id h).2;omega)
   have g1:=f7.get g1 (by omega)
   have g2:=f7.get g2 (by omega)
   have g3:=f7.get g3 (by omega)
   refine AOE hr x.p x.lt h3 λH8 n8 v y hes hle=>?_
   have x:=x.tr y
   have hn8:=y.le
   have g1:=y.get g1 (by omega) hb
   have g2:=y.get g2 (by omega) (by omega)
   have g3:=y.get g3 (by omega) (by omega)
   have hx:EJ G H8 A c e:=hx.mono (λid h=>h) λid h=>y.f.same id (by have:=(hA id h).2;omega) (by have:=(hA id h).1;omega)
   rw[Ai (m:=2) g2 (by omega) rfl,Aw,Ai (m:=11) g1 (by omega) hx.len,Aw]
   refine Cc (YS ..) (Cc hx.vs ?_)
   obtain⟨cs,he1,he2,he3,he4,he5,he6⟩:=hes
   obtain⟨t7,hb7⟩:=hb7
   have hel8:El G H8 (.sl n6 0 1 1 11) 11 [c]:=hel.same λid hid=>by cases En hid;exact y.f.same _ (by omega) (by omega)
   refine AJE (by omega) ((y.f.same _ (by omega) (by omega)).trans hb7) (by omega) hel8.2 he1.2 ?_ ?_
   ·have:=he6.len;rw[this];omega
   intro v' H9 n9 hel9 hs9 hn9 hv'
   have x:Fr G pb H n H9 n9 t3:=⟨⟨by omega,λid hid hp=>(hs9 id (by omega)).trans (x.f.same id hid hp)⟩,x.p.same λid hid=>hs9 id (by omega),hb⟩
   have g2:=(hs9 (n+1) (by omega)).trans g2
   have g3:=(hs9 (n+1+1) (by omega)).trans g3
   rw[Ai (m:=2) g2 (by omega) rfl,Aw]
   refine Cc (YS ..) ?_
   have hcs:Ou G H9 (λid=>A id∨(Rg n n9 id/\id≠n+1+1)) ([c]++cs) (e::es):=by
    refine Ou.cons (hx.mono (λid h=>.inl h) λid h=>hs9 id (by have:=(hA id h).2;omega)) ?_
    exact he6.mono (λid h=>.inr ⟨⟨by have:=h.1;omega,by have:=h.2;omega⟩,by have:=h.1;omega⟩) λid h=>hs9 id h.2
   have fin:∀w:V,El G H9 w 11 ([c]++cs)->KS w->(∀id,w.QU=some id->n6<=id/\id<n9)->EJ G H9 (λid=>A id∨(Rg n n9 id/\id≠n+1+1)) (TF 8 0 nm [] false line col w) (.mk 8 0 nm [] false (e::es)):=λw h1 h2 h3=>
    .mk 8 0 nm [] false line col h1 h2 (λid hid=>.inr ⟨⟨by have:=(h3 id hid).1;omega,(h3 id hid).2⟩,by have:=(h3 id hid).1;omega⟩) hcs
   rcases hv' with⟨l,rfl,hl1⟩|⟨l,rfl,hn9'⟩
   ·refine AB AGh ?_
    exact ACv x g3 rfl (by omega) (fin _ hel9 (WC hl1) λid hid=>by cases En hid;omega) (λid h=>(hA id h).2) hk
   ·refine AB AUp ?_
    exact ACv x g3 rfl (by omega) (fin _ hel9 (AJs ..) λid hid=>by cases wK hid;omega) (λid h=>(hA id h).2) hk
end
end Go.PQ
