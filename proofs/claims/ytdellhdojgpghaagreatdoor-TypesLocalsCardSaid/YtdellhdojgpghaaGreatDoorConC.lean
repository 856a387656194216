/- Part of a proof; nothing is assumed. -/
import Derived.Test.YtdellhdojgpghaaGreatDoorWalk
import Derived.Test.YtdellhdojgpghaaGreatDoorPlainR
set_option linter.unusedVariables false
set_option linter.unusedSimpArgs false
namespace Go.PQ
open Go.Bj
abbrev Bs:=List UInt8
def AKW:Bs:=[97,115]
def AAI:Bs:=[98,111,111,108]
def kV:Bs:=[99,108,97,115,115]
def zC:Bs:=[101,108,115,101]
def vk:Bs:=[101,120,116,101,110,100,115]
def AEQ:Bs:=[102,97,108,115,101]
def vg:Bs:=[102,105,101,108,100]
def dX:Bs:=[105,102]
def G5:Bs:=[105,110,116]
def ADw:Bs:=[105,115]
def AAk:Bs:=[108,101,110,103,116,104]
def aH:Bs:=[108,101,116]
def Il:Bs:=[109,101,116,104,111,100]
def AO8:Bs:=[110,101,119]
def AJZ:Bs:=[110,117,108,108]
def jl:Bs:=[112,114,105,110,116]
def Pg:Bs:=[114,101,116,117,114,110]
def S9:Bs:=[115,116,97,116,105,99]
def AJS:Bs:=[116,104,105,115]
def Zm:Bs:=[116,114,117,101]
def ABd:Bs:=[119,104,105,108,101]
def pz:Bs:=[61,61]
def ADK:Bs:=[33,61]
def ADM:Bs:=[60,61]
def AAy:Bs:=[38,38]
def ANl:Bs:=[124,124]
def AGJ:Bs:=[43]
def Kz:Bs:=[45]
def zq:Bs:=[42]
def Yq:Bs:=[47]
def AE5:Bs:=[37]
def dh:Bs:=[60]
def PV:Bs:=[61]
def XH:Bs:=[33]
def VZ:Bs:=[40]
def Ov:Bs:=[41]
def zF:Bs:=[91]
def ACm:Bs:=[93]
def Rz:Bs:=[123]
def m_rc:Bs:=[125]
def Gz:Bs:=[59]
def LX:Bs:=[44]
def ug:Bs:=[46]
theorem Aca:V.str 2 29537=sB AKW:=rfl
theorem AMq:V.str 4 1819242338=sB AAI:=rfl
theorem AUc:V.str 5 495857003619=sB kV:=rfl
theorem AX8:V.str 4 1702063205=sB zC:=rfl
theorem APy:V.str 7 32480047633037413=sB vk:=rfl
theorem ATy:V.str 5 435728179558=sB AEQ:=rfl
theorem AVx:V.str 5 431315315046=sB vg:=rfl
theorem Acs:V.str 2 26217=sB dX:=rfl
theorem AR6:V.str 3 7630441=sB G5:=rfl
theorem Acv:V.str 2 29545=sB ADw:=rfl
theorem AS9:V.str 6 114849160783212=sB AAk:=rfl
theorem AZz:V.str 3 7628140=sB aH:=rfl
theorem ARQ:V.str 6 110429656606061=sB Il:=rfl
theorem AZ3:V.str 3 7824750=sB AO8:=rfl
theorem AYN:V.str 4 1819047278=sB AJZ:=rfl
theorem AVk:V.str 5 500068610672=sB jl:=rfl
theorem ASh:V.str 6 121437875889522=sB Pg:=rfl
theorem ATd:V.str 6 109304575259763=sB S9:=rfl
theorem AX3:V.str 4 1936287860=sB AJS:=rfl
theorem AXv:V.str 4 1702195828=sB Zm:=rfl
theorem AT2:V.str 5 435610544247=sB ABd:=rfl
theorem AZ7:V.str 2 9766=sB AAy:=rfl
theorem AcU:V.str 2 31868=sB ANl:=rfl
theorem Aa9:V.str 1 41=sB Ov:=rfl
theorem Ac1:V.str 1 91=sB zF:=rfl
theorem AbK:V.str 1 125=sB m_rc:=rfl
def Rt:List Bs:=[AKW,AAI,kV,zC,vk,AEQ,vg,dX,G5,ADw,AAk,aH,Il,AO8,AJZ,jl,Pg,S9,AJS,Zm,ABd]
def Eu:List Bs:=[pz,ADK,ADM,AAy,ANl,AGJ,Kz,zq,Yq,AE5,dh,PV,XH,VZ,Ov,zF,ACm,Rz,m_rc,Gz,LX,ug]
def great(c:UInt8):Bool:=decide (65<=c.toNat)&&decide (c.toNat<=90)
def small(c:UInt8):Bool:=decide (97<=c.toNat)&&decide (c.toNat<=122)
def digit(c:UInt8):Bool:=decide (48<=c.toNat)&&decide (c.toNat<=57)
def inner(c:UInt8):Bool:=great c||(small c||(digit c||decide (c.toNat=95)))
def blank(c:UInt8):Bool:=decide (c.toNat=32)||(decide (c.toNat=9)||(decide (c.toNat=10)||decide (c.toNat=13)))
def pre(p l:Bs):Bool:=decide (p.length<=l.length)&&decide (l.take p.length=p)
def DJ:Bool->Bs->Bs
 |_,[]=>[]
 |true,c::t=>bif decide (c.toNat=10)then DJ false t else DJ true t
 |false,c::t=>bif blank c then DJ false t else bif pre [47,47] (c::t)then DJ true t else c::t
structure Tok where
 kind:Nat
 text:Bs
 num:Nat
def Q7:Tok:=⟨0,[],0⟩
def ACC:Nat->Bs->Option Nat
 |n,[]=>some n
 |n,c::l=>bif decide (288230376151711744<n*10+(c.toNat-48))then none else ACC (n*10+(c.toNat-48)) l
def dS(t:Tok):Nat×Tok:=bif decide (40<t.text.length)then(4,Q7)else(0,t)
def Iq:Bs->Nat×Tok
 |[]=>(0,Q7)
 |c::l=>
  bif great c then dS ⟨2,(c::l).takeWhile inner,0⟩else
  bif small c then dS ⟨bif decide ((c::l).takeWhile inner∈Rt)then 1 else 3,(c::l).takeWhile inner,0⟩else
  bif digit c then(match ACC 0 ((c::l).takeWhile digit)with|none=>(22,Q7)|some n=>(0,⟨4,(c::l).takeWhile digit,n⟩))else
  match Eu.find? (λm=>pre m (c::l))with|none=>(20,Q7)|some m=>(0,⟨5,m,0⟩)
def AA5:Nat->Bs->Nat×List Tok
 |0,_=>(0,[])
 |f+1,r=>
  bif decide ((Iq (DJ false r)).1=0)then
   bif decide ((Iq (DJ false r)).2.kind=0)then(0,[(Iq (DJ false r)).2])
   else((AA5 f ((DJ false r).drop (Iq (DJ false r)).2.text.length)).1,(Iq (DJ false r)).2::(AA5 f ((DJ false r).drop (Iq (DJ false r)).2.text.length)).2)
  else((Iq (DJ false r)).1,[])
def AGz(s:Bs):Nat×List Tok:=bif decide (65536<s.length)then(4,[])else AA5 (s.length+1) s
end Go.PQ
namespace Go.PQ
open Go.RL
open Go.Bj
set_option maxRecDepth 100000
section
variable{G:AV}{H:Heap}{n:Nat}{k:KV}
theorem AOG{c:UInt8}(hk:k (.bool (great c)) H n):Runs F G qX [.int .u8 (.ofNat c.toNat) 0] H n k:=by
 refine go1 (AIu Aq G) ?_
 delta ADr
 unfold great at hk
 simp only[go_sem,AFm,qN]
 cases h:decide (65<=c.toNat)<;>rw[h]at hk<;>simp only[go_sem,qN]<;>exact hk
theorem AOF{c:UInt8}(hk:k (.bool (small c)) H n):Runs F G qV [.int .u8 (.ofNat c.toNat) 0] H n k:=by
 refine go1 (AJz Aq G) ?_
 delta ADE
 unfold small at hk
 simp only[go_sem,AFm,qN]
 cases h:decide (97<=c.toNat)<;>rw[h]at hk<;>simp only[go_sem,qN]<;>exact hk
theorem AJh{c:UInt8}(hk:k (.bool (digit c)) H n):Runs F G aj [.int .u8 (.ofNat c.toNat) 0] H n k:=by
 refine go1 (AIY Aq G) ?_
 delta ADI
 unfold digit at hk
 simp only[go_sem,AFm,qN]
 cases h:decide (48<=c.toNat)<;>rw[h]at hk<;>simp only[go_sem,qN]<;>exact hk
theorem APC{c:UInt8}(hk:k (.bool (inner c)) H n):Runs F G uo [.int .u8 (.ofNat c.toNat) 0] H n k:=by
 refine go1 (AIT Aq G) ?_
 delta AC9
 unfold inner at hk
 refine AOG ?_
 cases h1:great c with
 |true=>rw[h1]at hk;simp only[go_sem];exact hk
 |false=>
  rw[h1]at hk;simp only[go_sem]
  refine AOF ?_
  cases h2:small c with
  |true=>rw[h2]at hk;simp only[go_sem];exact hk
  |false=>
   rw[h2]at hk;simp only[go_sem]
   refine AJh ?_
   cases h3:digit c with
   |true=>rw[h3]at hk;simp only[go_sem];exact hk
   |false=>rw[h3]at hk;simp only[go_sem,xg];exact hk
theorem ADf{p l:Bs}(hk:k (.bool (pre p l)) H n):Runs F G Ny [sB l,sB p] H n k:=by
 refine go2 (uZ Aq G) ?_
 delta YL
 refine go2 (Uk Aq G) ?_
 delta L9
 unfold pre at hk
 simp only[go_sem,yS,AFm]
 cases h:decide (p.length<=l.length)with
 |true=>
  have hle:=of_decide_eq_true h
  rw[h]at hk;simp only[go_sem,yS,AcH hle,AQv];exact hk
 |false=>rw[h]at hk;simp only[go_sem];exact hk
theorem AKc{l:Bs}{b:Nat}(hb:b<256)(hk:k (.int .i64 (ABh b l 0) 0) H n):Runs F G SA [sB l,.int .u8 (.ofNat b) 0] H n k:=by
 refine go2 (sZ Aq G) ?_
 delta YG
 refine go2 (UH Aq G) ?_
 delta NH
 simp only[go_sem,AdS hb]
 exact hk
theorem AUC{l:Bs}(hk:k (.bool (decide (l∈Rt))) H n):Runs F G ADN [sB l] H n k:=by
 refine go1 (AIW Aq G) ?_
 delta AC2
 have e:decide (l∈Rt)=Rt.any λw=>decide (l=w):=by rw[Bool.eq_iff_iff];simp
 rw[e]at hk
 unfold Rt at hk
 simp only[Aca,AMq,AUc,AX8,APy,ATy,AVx,Acs,AR6,Acv,AS9,AZz,ARQ,AZ3,AYN,AVk,ASh,ATd,AX3,AXv,AT2]
 have fin:∀b:Bool,k (.bool b) H n->Bc lfp G (Runs F G) k (.bool b) H n:=by
  intro b hb
  delta Bc
  cases b<;>exact hb
 repeat' (
  rw[AQv,AU]
  rw[List.any_cons]at hk
  refine(λ(b:Bool) (P Q:Prop) (h1:b=true->P) (h2:b=false->Q)=>(by cases b;exact h2 rfl;exact h1 rfl:Ac (.bool b) true P Q)) _ _ _ (λhb=>?_) (λhb=>?_)
  ·rw[hb]at hk;first|(rw[hb];exact fin _ hk)|exact hk
  rw[hb,Bool.false_or]at hk)
 exact hk
theorem AbP{a b:Nat}(h:a*b<9223372036854775808):B2.ev .mul (.int .i64 (.ofNat a) 0) (.int .i64 (.ofNat b) 0)=some (.int .i64 (.ofNat (a*b)) 0):=by
 show some (V.int .i64 (YP .i64 (Int.mul (.ofNat a) (.ofNat b))) 0)=_
 have e:Int.mul (.ofNat a) (.ofNat b)=.ofNat (a*b):=rfl
 rw[Qn,e,RG (by show(-9223372036854775808:Int)<=((a*b:Nat):Int);omega) (by show((a*b:Nat):Int)<_;omega)]
theorem AYD{a b:Nat}(hb:b<=a)(h:a<256):B2.ev .sub (.int .u8 (.ofNat a) 0) (.int .u8 (.ofNat b) 0)=some (.int .u8 (.ofNat (a-b)) 0):=by
 show some (V.int .u8 (YP .u8 (AFv (.ofNat a) (Int.neg (.ofNat b)))) 0)=_
 rw[kH]
 have e:Int.ofNat a+Int.neg (Int.ofNat b)=Int.ofNat (a-b):=by show(a:Int)+ -(b:Int)=((a-b:Nat):Int);omega
 rw[e]
 have:inr .u8 (.ofNat (a-b))=true:=by show Nat.blt (a-b) 256=true;rw[Nat.blt_eq];omega
 unfold YP;rw[this]
theorem AbI{q:IntKind}{a:Nat}(h:a<9223372036854775808):AS5 .i64 (.int q (.ofNat a) 0)=some (.int .i64 (.ofNat a) 0):=by
 show some (V.int .i64 (YP .i64 (.ofNat a)) 0)=_
 rw[Qn,RG (by show(-9223372036854775808:Int)<=((a:Nat):Int);omega) (by show((a:Nat):Int)<_;omega)]
def AYn:Option Nat->V
 |none=>.EI [.int .i64 (.ofNat 0) 0,.bool false]
 |some m=>.EI [.int .i64 (.ofNat m) 0,.bool true]
theorem AQX{l:Bs}{i:Nat}(h:i<l.length):(yZ l)[i]? =some [V.int .u8 (.ofNat (l[i]).toNat) 0]:=by simp[yZ,h]
theorem ATC{l:Bs}(hl:∀c∈l,digit c=true)(hs:l.length<=65536)(hk:∀H',Kp H n H' (n+1)->k (AYn (ACC 0 l)) H' (n+1)):Runs F G ABO [sB l] H n k:=by
 refine go1 (AGm Aq G) ?_
 delta ABD
 obtain⟨R,hR⟩:∃R,ACC 0 l=R:=⟨_,rfl⟩
 rw[hR]at hk
 refine AVs (G:=G) λH1 v f1 hv=>?_
 simp only[go_sem,hv.len,show(yZ l).length=l.length from List.length_map ..]
 refine CG (N:=l.length) (J:=λj q=>∃a,q=(.int .i64 (.ofNat a) 0,v,.int .i64 (.ofNat l.length) 0,.int .i64 (.ofNat j) 0,H1,n+1)/\a<=288230376151711744/\ACC a (l.drop j)=R) ?_ ?_ ⟨0,rfl,by omega,hR⟩
 ·rintro I j q hlt ⟨a,rfl,ha,he⟩ ih
  show PO lfp G (Runs F G) k I (.int .i64 (.ofNat a) 0) v (.int .i64 (.ofNat l.length) 0) (.int .i64 (.ofNat j) 0) H1 (n+1)
  delta PO
  obtain⟨p,hp,hld⟩:=hv.at (AQX hlt)
  rw[List.drop_eq_getElem_cons hlt]at he
  have hd:=hl _ (List.getElem_mem hlt)
  generalize l[j]=c at hld he hd
  simp only[digit,Bool.and_eq_true,decide_eq_true_eq]at hd
  unfold ACC at he
  simp only[go_sem,FP,hlt,decide_true,hp,Zz hld,AbP (show a*10<9223372036854775808 by omega),AYD hd.1 (show c.toNat<256 by omega),AbI (show c.toNat-48<9223372036854775808 by omega),Vu (show a*10+(c.toNat-48)<9223372036854775808 by omega),AAs]
  cases h:decide (288230376151711744<a*10+(c.toNat-48))with
  |true=>rw[h]at he;simp only[go_sem];have:=hk _ f1;rw[<-he]at this;exact this
  |false=>
   rw[h]at he;simp only[go_sem,Vu (show j+1<9223372036854775808 by omega)]
   exact ih _ ⟨_,rfl,by simpa using h,he⟩
 ·rintro I q ⟨a,rfl,ha,he⟩
  show PO lfp G (Runs F G) k I (.int .i64 (.ofNat a) 0) v (.int .i64 (.ofNat l.length) 0) (.int .i64 (.ofNat l.length) 0) H1 (n+1)
  delta PO
  rw[List.drop_eq_nil_of_le (Nat.le_refl _)]at he
  simp only[go_sem,FP,Nat.lt_irrefl,decide_false]
  delta Xy
  have:=hk _ f1
  rw[<-he]at this
  exact this
end
open Go.Bj
set_option maxRecDepth 100000
def LAt(H:Heap)(lb:Nat)(s:Bs)(a:Nat):Prop:=∃line col:Nat,1<=line/\1<=col/\line<=a+1/\col<=a+1/\
 T.get H lb=some (one [sB s,.int .i64 (.ofNat a) 0,.int .i64 (.ofNat line) 0,.int .i64 (.ofNat col) 0])
theorem ASU(q r:IntKind)(a b:Int)(z w:V):BN [z,w] [(0,1,.c (.int q a 0)),(1,1,.c (.int r b 0))]=some (.agg [.int q a 0,.int r b 0]):=rfl
section
variable{G:AV}{H:Heap}{n lb a:Nat}{s:Bs}{k:KV}
theorem LAt.kp{H':Heap}{n':Nat}(h:LAt H lb s a)(hl:lb<n)(f:Kp H n H' n'):LAt H' lb s a:=by
 obtain⟨line,col,h1,h2,h3,h4,hg⟩:=h
 exact⟨line,col,h1,h2,h3,h4,f.get hg hl⟩
theorem ANZ{m:Nat}(h:LAt H lb s a)(hm:a+m<=s.length)(hs:s.length<=65536)(hk:∀H',Kx lb H n H' n->LAt H' lb s (a+m)->k (.EI []) H' n):
 Runs F G KN [.ptr lb 0,.int .i64 (.ofNat m) 0] H n k:=by
 refine go2 (AAz Aq G) ?_
 delta eF
 refine CG (N:=m) (J:=λj q=>∃H',q=(.ptr lb 0,.int .i64 (.ofNat m) 0,.int .i64 (.ofNat j) 0,H',n)/\Kx lb H n H' n/\LAt H' lb s (a+j)) ?_ ?_ ⟨H,rfl,Kx.refl ..,h⟩
 ·rintro I j q hlt ⟨H1,rfl,f1,line,col,h1,h2,h3,h4,hg⟩ ih
  show Js lfp G (Runs F G) k I (.ptr lb 0) (.int .i64 (.ofNat m) 0) (.int .i64 (.ofNat j) 0) H1 n
  delta Js
  simp only[go_sem,FP,hlt,decide_true,Nat.reduceAdd,AX (off:=3) hg (v:=.int .i64 (.ofNat col) 0) rfl,Vu (show col+1<9223372036854775808 by omega)]
  refine Em hg rfl rfl (by omega) (by show 3+1<=4;omega) λH2 hg2 s2=>?_
  have hg2:T.get H2 lb=some (one [sB s,.int .i64 (.ofNat (a+j)) 0,.int .i64 (.ofNat line) 0,.int .i64 (.ofNat (col+1)) 0]):=hg2
  simp only[go_sem,Nat.reduceAdd,AX (off:=0) hg2 (v:=sB s) rfl,AX (off:=1) hg2 (v:=.int .i64 (.ofNat (a+j)) 0) rfl,AKL (show a+j<s.length by omega),xg]
  have f2:Kx lb H n H2 n:=f1.trans ⟨Nat.le_refl _,λid _ hb=>s2 id hb⟩
  have fin:∀(H3:Heap) (line col:Nat),Kx lb H n H3 n->1<=line->1<=col->line<=a+j+2->col<=a+j+2->
   T.get H3 lb=some (one [sB s,.int .i64 (.ofNat (a+j)) 0,.int .i64 (.ofNat line) 0,.int .i64 (.ofNat col) 0])->
   JI lfp G (Runs F G) k I (.ptr lb 0) (.int .i64 (.ofNat m) 0) (.int .i64 (.ofNat j) 0) H3 n:=by
   intro H3 line col f3 h1 h2 h3 h4 hg3
   delta JI
   simp only[go_sem,Nat.reduceAdd,AX (off:=1) hg3 (v:=.int .i64 (.ofNat (a+j)) 0) rfl,Vu (show a+j+1<9223372036854775808 by omega)]
   refine Em hg3 rfl rfl (by omega) (by show 1+1<=4;omega) λH4 hg4 s4=>?_
   simp only[go_sem,Vu (show j+1<9223372036854775808 by omega)]
   exact ih _ ⟨_,rfl,f3.trans ⟨Nat.le_refl _,λid _ hb=>s4 id hb⟩,line,col,h1,h2,by omega,by omega,hg4⟩
  cases hc:decide ((s[a+j]).toNat=10)with
  |true=>
   simp only[go_sem,Nat.reduceAdd,AX (off:=2) hg2 (v:=.int .i64 (.ofNat line) 0) rfl,Vu (show line+1<9223372036854775808 by omega),ASU]
   refine Em hg2 rfl rfl (by omega) (by show 2+2<=4;omega) λH3 hg3 s3=>?_
   exact fin H3 (line+1) 1 (f2.trans ⟨Nat.le_refl _,λid _ hb=>s3 id hb⟩) (by omega) (by omega) (by omega) (by omega) hg3
  |false=>
   simp only[go_sem]
   exact fin H2 line (col+1) f2 (by omega) (by omega) (by omega) (by omega) hg2
 ·rintro I q ⟨H1,rfl,f1,h⟩
  show Js lfp G (Runs F G) k I (.ptr lb 0) (.int .i64 (.ofNat m) 0) (.int .i64 (.ofNat m) 0) H1 n
  delta Js
  simp only[go_sem,FP,Nat.lt_irrefl,decide_false]
  exact hk _ f1 h
def toEnd:Bs->Nat
 |[]=>0
 |c::l=>bif decide (c.toNat=10)then 0 else toEnd l+1
theorem AKU:∀l:Bs,toEnd l<=l.length
 |[]=>Nat.le_refl _
 |c::l=>by
  have:=AKU l
  unfold toEnd
  cases decide (c.toNat=10)<;>simp[this]
theorem AHf:∀(l:Bs) (i:Nat),ABh 10 l i=if toEnd l=l.length then-1 else((i+toEnd l:Nat):Int)
 |[],i=>rfl
 |c::l,i=>by
  have ih:=AHf l (i+1)
  rw[show ABh 10 (c::l) i=bif decide (c.toNat=10)then .ofNat i else ABh 10 l (i+1)from rfl,show toEnd (c::l)=bif decide (c.toNat=10)then 0 else toEnd l+1 from rfl]
  cases h:decide (c.toNat=10)with
  |true=>simp
  |false=>
   simp only[cond_false,ih,List.length_cons,Nat.add_right_cancel_iff]
   split
   ·rfl
   ·congr 1;omega
theorem ALO:∀l:Bs,DJ true l=DJ false (l.drop (toEnd l))
 |[]=>rfl
 |c::l=>by
  rw[show DJ true (c::l)=bif decide (c.toNat=10)then DJ false l else DJ true l from rfl,show toEnd (c::l)=bif decide (c.toNat=10)then 0 else toEnd l+1 from rfl]
  cases h:decide (c.toNat=10)with
  |true=>
   have hb:blank c=true:=by simp only[blank,h,Bool.or_true,Bool.true_or]
   simp[DJ,hb]
  |false=>simp only[cond_false,List.drop_succ_cons];exact ALO l
theorem uj:∀(b:Bool) (l:Bs),(DJ b l).length<=l.length
 |_,[]=>by simp[DJ]
 |true,c::l=>by
  rw[show DJ true (c::l)=bif decide (c.toNat=10)then DJ false l else DJ true l from rfl]
  have h1:=uj false l;have h2:=uj true l
  cases decide (c.toNat=10)<;>simp<;>omega
 |false,c::l=>by
  rw[show DJ false (c::l)=bif blank c then DJ false l else bif pre [47,47] (c::l)then DJ true l else c::l from rfl]
  have h1:=uj false l;have h2:=uj true l
  cases blank c<;>cases pre [47,47] (c::l)<;>simp<;>omega
theorem AbE:V.str 2 12079=sB [47,47]:=rfl
theorem AYA(h:LAt H lb s a)(ha:a<=s.length)(hs:s.length<=65536)(hk:∀H' a',Kx lb H n H' n->LAt H' lb s a'->a'<=s.length->s.drop a'=DJ false (s.drop a)->k (.EI []) H' n):
 Runs F G eX [.ptr lb 0] H n k:=by
 refine go1 (AAj Aq G) ?_
 delta gY
 obtain⟨R,hR⟩:∃R,DJ false (s.drop a)=R:=⟨_,rfl⟩
 rw[hR]at hk
 refine FB (J:=λm q=>∃H' a',m=s.length-a'/\q=(.ptr lb 0,H',n)/\Kx lb H n H' n/\LAt H' lb s a'/\a'<=s.length/\DJ false (s.drop a')=R) ?_ (m:=s.length-a) ⟨H,a,rfl,rfl,Kx.refl ..,h,ha,hR⟩
 rintro I m q ⟨H1,b,rfl,rfl,f1,h1,hb,hR⟩ ih
 show SB lfp G (Runs F G) k I (.ptr lb 0) H1 n
 delta SB
 obtain⟨line,col,_,_,_,_,hg⟩:=id h1
 have e0:Aa (.ptr lb 0) G H1=some (sB s):=AX hg rfl
 have e1:Aa (.ptr lb 1) G H1=some (.int .i64 (.ofNat b) 0):=AX hg rfl
 simp only[go_sem,Nat.reduceAdd,e0,e1,yS,FP]
 rcases Nat.lt_or_ge b s.length with hlt|hge
 ·simp only[hlt,decide_true,go_sem,Nat.reduceAdd,e0,e1,AKL hlt,xg]
  have hR':=hR
  rw[List.drop_eq_getElem_cons hlt,show ∀(c:UInt8) (l:Bs),DJ false (c::l)=bif blank c then DJ false l else bif pre [47,47] (c::l)then DJ true l else c::l from λ_ _=>rfl,<-List.drop_eq_getElem_cons hlt]at hR'
  have step1:blank s[b]=true->Runs F G KN [.ptr lb 0,.int .i64 (.ofNat 1) 0] H1 n λ_ H n=>I (.ptr lb 0,H,n):=by
   intro hbl
   rw[hbl]at hR'
   refine ANZ h1 (by omega) hs λH2 f2 h2=>ih (s.length-(b+1)) _ (by omega) ⟨H2,b+1,rfl,rfl,f1.trans f2,h2,by omega,hR'⟩
  have fin:∀m',b+m'<=s.length->0<m'->DJ false (s.drop (b+m'))=R->FD lfp G (Runs F G) k I (.ptr lb 0) (.int .i64 (.ofNat m') 0) H1 n:=by
   intro m' h2 h3 h4
   delta FD
   exact ANZ h1 h2 hs λH2 f2 h2=>ih (s.length-(b+m')) _ (by omega) ⟨H2,b+m',rfl,rfl,f1.trans f2,h2,by omega,h4⟩
  have step2:blank s[b]=false->Runs F G Ny [sB (s.drop b),sB [47,47]] H1 n λv35 H n=>Ac v35 true (AP (Ae (.ptr lb 0)) λv36=>
   AP (AQ 0 v36) λv37=>AP (Aa v37 G H) λv38=>AP (Ae (.ptr lb 0)) λv39=>AP (AQ 1 v39) λv40=>AP (Aa v40 G H) λv41=>AP (gV v38 E0 (some (.c v41)) none) λv42=>
   Runs F G SA [v42,(.int .u8 (.ofNat 10) 0)] H n λv43 H n=>
   AP (B2.ev .lss v43 (.int .i64 (.ofNat 0) 0)) λv46=>
   Ac v46 true (AP (Ae (.ptr lb 0)) λv47=>AP (AQ 0 v47) λv48=>AP (Aa v48 G H) λv49=>AP (ZY v49) λv50=>AP (Ae (.ptr lb 0)) λv51=>AP (AQ 1 v51) λv52=>AP (Aa v52 G H) λv53=>
   AP (B2.ev .sub v50 v53) λv54=>FD lfp G (Runs F G) k I (.ptr lb 0) v54 H n) (FD lfp G (Runs F G) k I (.ptr lb 0) v43 H n)) (k (.EI []) H n):=by
   intro hbl
   rw[hbl]at hR'
   refine ADf ?_
   cases hp:pre [47,47] (s.drop b)with
   |false=>
    rw[hp]at hR'
    simp only[go_sem]
    exact hk _ _ f1 h1 hb hR'
   |true=>
    rw[hp,cond_false,cond_true,ALO,List.drop_drop]at hR'
    have hne:(s[b]).toNat≠10:=by
     intro e
     simp[blank,e]at hbl
    simp only[go_sem,Nat.reduceAdd,e0,e1,AMm hb]
    refine AKc (by omega) ?_
    have hte:toEnd (s.drop b)=toEnd (s.drop (b+1))+1:=by
     rw[List.drop_eq_getElem_cons hlt,show toEnd (s[b]::s.drop (b+1))=bif decide ((s[b]).toNat=10)then 0 else toEnd (s.drop (b+1))+1 from rfl,decide_eq_false hne];rfl
    have hle:=AKU (s.drop b)
    rw[AHf]
    rw[List.length_drop]at hle⊢
    rw[show b+1+toEnd (s.drop (b+1))=b+toEnd (s.drop b)by omega]at hR'
    split
    ·rename_i he
     have e:B2.ev .lss (.int .i64 (-1) 0) (.int .i64 (.ofNat 0) 0)=some (.bool true):=rfl
     simp only[go_sem,e,Nat.reduceAdd,e0,e1,yS,Abm hb (show s.length<9223372036854775808 by omega)]
     rw[he]at hR'
     exact fin _ (by omega) (by omega) hR'
    ·rw[Nat.zero_add]
     have e:B2.ev .lss (.int .i64 ((toEnd (s.drop b):Nat):Int) 0) (.int .i64 (.ofNat 0) 0)=some (.bool false):=by
      refine(FP .i64 _ _).trans ?_
      simp
     simp only[go_sem,e]
     exact fin (toEnd (s.drop b)) (by omega) (by omega) hR'
  cases c1:decide ((s[b]).toNat=32)with
  |true=>simp only[go_sem];exact step1 (by simp[blank,c1])
  |false=>
   simp only[go_sem,xg]
   cases c2:decide ((s[b]).toNat=9)with
   |true=>simp only[go_sem];exact step1 (by simp[blank,c2])
   |false=>
    simp only[go_sem,xg]
    cases c3:decide ((s[b]).toNat=10)with
    |true=>simp only[go_sem];exact step1 (by simp[blank,c3])
    |false=>
     simp only[go_sem,xg]
     cases c4:decide ((s[b]).toNat=13)with
     |true=>simp only[go_sem];exact step1 (by simp[blank,c4])
     |false=>
      simp only[go_sem,Nat.reduceAdd,e0,e1,AMm hb,AbE]
      exact step2 (by simp[blank,c1,c2,c3,c4])
 ·have:b=s.length:=by omega
  subst this
  simp only[Nat.lt_irrefl,decide_false,go_sem]
  rw[List.drop_eq_nil_of_le (Nat.le_refl _),show DJ false []=[]from rfl]at hR
  exact hk _ _ f1 h1 (Nat.le_refl _) (by rw[List.drop_eq_nil_of_le (Nat.le_refl _)];exact hR)
theorem AKm(g:UInt8->Bool):∀l:Bs,(l.takeWhile g).length<=l.length
 |[]=>Nat.le_refl _
 |c::l=>by have:=AKm g l;rw[List.takeWhile_cons];split<;>simp<;>omega
theorem AOL(g:UInt8->Bool):∀l:Bs,l.take (l.takeWhile g).length=l.takeWhile g
 |[]=>rfl
 |c::l=>by rw[List.takeWhile_cons];split; · simp[AOL g l]
           ·rfl
def AX0(G:AV)(f:Nat)(g:UInt8->Bool):Prop:=∀(c:UInt8) (H:Heap) (n:Nat) (k:KV),k (.bool (g c)) H n->Runs F G f [.int .u8 (.ofNat c.toNat) 0] H n k
theorem ASB{f:Nat}{g:UInt8->Bool}(hf:AX0 G f g)(h:LAt H lb s a)(ha:a<=s.length)(hs:s.length<=65536)(hk:k (sB ((s.drop a).takeWhile g)) H n):
 Runs F G TB [.ptr lb 0,.fn f [] []] H n k:=by
 refine go2 (ACV Aq G) ?_
 delta lK
 obtain⟨line,col,_,_,_,_,hg⟩:=id h
 have e0:Aa (.ptr lb 0) G H=some (sB s):=AX hg rfl
 have e1:Aa (.ptr lb 1) G H=some (.int .i64 (.ofNat a) 0):=AX hg rfl
 refine FB (J:=λm q=>∃j,m=s.length-(a+j)/\q=(.ptr lb 0,.fn f [] [],.int .i64 (.ofNat j) 0,H,n)/\a+j<=s.length/\j+((s.drop (a+j)).takeWhile g).length=((s.drop a).takeWhile g).length) ?_ (m:=s.length-a)
  ⟨0,rfl,rfl,ha,by simp⟩
 rintro I m q ⟨j,rfl,rfl,hj,he⟩ ih
 show SC lfp G (Runs F G) k I (.ptr lb 0) (.fn f [] []) (.int .i64 (.ofNat j) 0) H n
 delta SC
 have fin:j=((s.drop a).takeWhile g).length->O8 lfp G (Runs F G) k (.ptr lb 0) (.int .i64 (.ofNat j) 0) H n:=by
  intro hj2
  delta O8
  simp only[go_sem,Nat.reduceAdd,e0,e1,Vu (show a+j<9223372036854775808 by omega),Aa0 (show a<=a+j by omega) hj]
  rw[show a+j-a=j by omega,hj2,AOL]
  exact hk
 simp only[go_sem,Nat.reduceAdd,e0,e1,yS,Vu (show a+j<9223372036854775808 by omega),FP]
 rcases Nat.lt_or_ge (a+j) s.length with hlt|hge
 ·simp only[hlt,decide_true,go_sem,Nat.reduceAdd,e0,e1,Vu (show a+j<9223372036854775808 by omega),AKL hlt,vw]
  rw[List.drop_eq_getElem_cons hlt,List.takeWhile_cons]at he
  refine hf _ _ _ _ ?_
  cases hc:g s[a+j]with
  |true=>
   rw[hc]at he
   simp only[go_sem,Vu (show j+1<9223372036854775808 by omega)]
   exact ih (s.length-(a+(j+1))) _ (by omega) ⟨j+1,rfl,rfl,by omega,by rw[show a+(j+1)=a+j+1 by omega,<-he];simp;omega⟩
  |false=>
   rw[hc]at he
   simp only[go_sem]
   exact fin (by simpa using he)
 ·have:¬a+j<s.length:=by omega
  simp only[this,decide_false,go_sem]
  rw[List.drop_eq_nil_of_le hge]at he
  exact fin (by simpa using he)
end
open Go.Bj
set_option maxRecDepth 100000
def UK(t:Tok)(line col:Nat):LV:=[.int .i64 (.ofNat t.kind) 0,sB t.text,.int .i64 (.ofNat t.num) 0,.int .i64 (.ofNat line) 0,.int .i64 (.ofNat col) 0]
def ACT(t:Tok):Nat×Tok:=bif decide (t.kind=0)then(20,Q7)else bif decide (40<t.text.length)&& !decide (t.kind=4)then(4,Q7)else(0,t)
def Ur(G:AV):Prop:=G 0 0 22=some (Eu.map sB)
def ALI(k:KV)(H:Heap)(n lb:Nat)(s:Bs)(a:Nat)(r:Nat×Tok):Prop:=∀(H':Heap) (n':Nat) (c:LV),Kx lb H n H' n'->LAt H' lb s (a+r.2.text.length)->c.length=5->(r.1=0->∃line col,1<=line/\1<=col/\c=UK r.2 line col)->
 k (.EI [.agg c,.int .i64 (.ofNat r.1) 0]) H' n'
section
variable{G:AV}{H:Heap}{n lb a:Nat}{s:Bs}{k:KV}
theorem AIR{z0 z1 z2 z3 z4:V}:BN [z0,z1,z2,z3,z4] []=some (.agg [z0,z1,z2,z3,z4]):=rfl
theorem AVI{z0 z1 z2 z3 z4 a b:V}:BN [z0,z1,z2,z3,z4] [(3,2,.c (.agg [a,b]))]=some (.agg [z0,z1,z2,a,b]):=rfl
theorem ALr{H0:Heap}{n0 p q:Nat}{t:Tok}{line col:Nat}{z0 z1 z2 z3 z4:V}(f0:Kx lb H0 n0 H n)(hp:T.get H p=some (one [z0,z1,z2,z3,z4]))(hq:T.get H q=some (one (UK t line col)))(hpq:p≠q)(hpl:p≠lb)(hql:q≠lb)
 (hp0:n0<=p) (hpn:p<n) (hqn:q<n) (h:LAt H lb s a) (ha:a+t.text.length<=s.length) (hs:s.length<=65536) (h1:1<=line) (h2:1<=col) (hk:ALI k H0 n0 lb s a (ACT t)):
 DW lfp G (Runs F G) k (.ptr lb 0) (.ptr p 0) (.ptr q 0) H n:=by
 delta DW
 have q0:Aa (.ptr q 0) G H=some (.int .i64 (.ofNat t.kind) 0):=AX hq rfl
 have q1:Aa (.ptr q 1) G H=some (sB t.text):=AX hq rfl
 unfold ACT at hk
 simp only[go_sem,Nat.reduceAdd,q0,xg]
 have zz:∀e:Nat,ALI k H0 n0 lb s a (e,Q7)->e≠0->Bd 5 (.ptr p 0) (.agg [.int .i64 (.ofNat 0) 0,.str 0 0,.int .i64 (.ofNat 0) 0,.int .i64 (.ofNat 0) 0,.int .i64 (.ofNat 0) 0]) H n λ_ H n=>
  EN (CP [.cn (.ptr p 0) 5,.t (.int .i64 (.ofNat e) 0)] G H) λl=>k (EG l) H n:=by
  intro e hk he
  rw[IY (m:=5) hp (by omega) rfl rfl,BU (m:=5) (T.Au ..) (by omega) rfl]
  simp only[go_sem]
  obtain⟨line,col,x1,x2,x3,x4,hg⟩:=h
  refine hk _ _ _ ⟨f0.le,λid hid hb=>?_⟩ ⟨line,col,x1,x2,x3,x4,?_⟩ rfl (λh=>absurd h he)
  ·rw[T.Ad _ _ (by omega)];exact f0.same id hid hb
  ·rw[T.Ad _ _ hpl];exact hg
 cases c1:decide (t.kind=0)with
 |true=>
  rw[c1]at hk
  simp only[go_sem,AIR]
  exact zz 20 hk (by omega)
 |false=>
  rw[c1]at hk
  simp only[go_sem,Nat.reduceAdd,q1,yS,AAs]
  have fin:ALI k H0 n0 lb s a (0,t)->Runs F G KN [.ptr lb 0,.int .i64 (.ofNat t.text.length) 0] H n λ_ H n=>AP (Ah 5 (.ptr q 0) G H) λv45=>
   Bd 5 (.ptr p 0) v45 H n λv46 H n=>EN (CP [.cn (.ptr p 0) 5,.t (.int .i64 (.ofNat 0) 0)] G H) λl=>k (EG l) H n:=by
   intro hk
   refine ANZ h ha hs λH2 f2 h2=>?_
   have hq2:T.get H2 q=_:=f2.get hq hqn hql
   have hp2:T.get H2 p=_:=f2.get hp hpn hpl
   rw[Aw (m:=5) hq2 (by omega) rfl,AU,IY (m:=5) hp2 (by omega) rfl rfl,BU (m:=5) (T.Au ..) (by omega) rfl]
   simp only[go_sem]
   have f3:=f0.trans f2
   obtain⟨l1,c1,x1,x2,x3,x4,hg⟩:=h2
   refine hk _ _ _ ⟨f3.le,λid hid hb=>?_⟩ ⟨l1,c1,x1,x2,x3,x4,?_⟩ rfl λ_=>⟨line,col,h1,h2,rfl⟩
   ·rw[T.Ad _ _ (by omega)];exact f3.same id hid hb
   ·rw[T.Ad _ _ hpl];exact hg
  cases c2:decide (40<t.text.length)with
  |false=>
   rw[c2]at hk
   simp only[go_sem,Nat.reduceAdd,q1,yS]
   exact fin hk
  |true=>
   rw[c2]at hk
   simp only[go_sem,Nat.reduceAdd,q0,AAg]
   cases c3:decide (t.kind=4)with
   |true=>
    rw[c3]at hk
    simp only[Bool.not_true,go_sem,Nat.reduceAdd,q1,yS]
    exact fin hk
   |false=>
    rw[c3]at hk
    simp only[Bool.not_false,go_sem,AIR]
    exact zz 4 hk (by omega)
theorem QK{m o id:Nat}{L:LV}(h:T.get H id=some (one L))(hm:0<m)(hl:o+m<=L.length):Ah m (.ptr id o) G H=some (.agg ((L.drop o).take m)):=Dz h hm hl
theorem AYb(hG:Ur G)(h:LAt H lb s a)(ha:a<=s.length)(hs:s.length<=65536)(hlb:lb<n)(hk:ALI k H n lb s a (Iq (s.drop a))):
 Runs F G fF [.ptr lb 0] H n k:=by
 refine go1 (ABg Aq G) ?_
 delta iT
 obtain⟨line,col,x1,x2,x3,x4,hg⟩:=id h
 have hne:lb≠n:=by omega
 have hne1:lb≠n+1:=by omega
 have d0:Aa (.ptr lb 0) G H=some (sB s):=AX hg rfl
 have d1:Aa (.ptr lb 1) G H=some (.int .i64 (.ofNat a) 0):=AX hg rfl
 have e2:Ah 2 (.ptr lb 2) G H=some (.agg [.int .i64 (.ofNat line) 0,.int .i64 (.ofNat col) 0]):=QK hg (by omega) (by show 2+2<=4;omega)
 simp only[go_sem,Nat.reduceAdd,hne,hne1,e2,AVI]
 rw[T.set_set]
 have f1:Kp H n (T.set (T.set H n (one [.int .i64 (.ofNat 0) 0,.str 0 0,.int .i64 (.ofNat 0) 0,.int .i64 (.ofNat 0) 0,.int .i64 (.ofNat 0) 0])) (n+1) (one [.int .i64 (.ofNat 0) 0,.str 0 0,.int .i64 (.ofNat 0) 0,.int .i64 (.ofNat line) 0,.int .i64 (.ofNat col) 0])) (n+1+1):=
  ((Kp.refl H n).new (m:=n+1) _ (Nat.le_refl _) (by omega)).new _ (by omega) (by omega)
 have g1:=(T.Ad (T.set H n (one [V.int .i64 (.ofNat 0) 0,.str 0 0,.int .i64 (.ofNat 0) 0,.int .i64 (.ofNat 0) 0,.int .i64 (.ofNat 0) 0])) (one [.int .i64 (.ofNat 0) 0,.str 0 0,.int .i64 (.ofNat 0) 0,.int .i64 (.ofNat line) 0,.int .i64 (.ofNat col) 0]) (show n+1≠n by omega)).trans (T.Au ..)
 have g2:=T.Au (T.set H n (one [V.int .i64 (.ofNat 0) 0,.str 0 0,.int .i64 (.ofNat 0) 0,.int .i64 (.ofNat 0) 0,.int .i64 (.ofNat 0) 0])) (n+1) (one [V.int .i64 (.ofNat 0) 0,.str 0 0,.int .i64 (.ofNat 0) 0,.int .i64 (.ofNat line) 0,.int .i64 (.ofNat col) 0])
 generalize T.set (T.set H n (one [V.int .i64 (.ofNat 0) 0,.str 0 0,.int .i64 (.ofNat 0) 0,.int .i64 (.ofNat 0) 0,.int .i64 (.ofNat 0) 0])) (n+1) (one [V.int .i64 (.ofNat 0) 0,.str 0 0,.int .i64 (.ofNat 0) 0,.int .i64 (.ofNat line) 0,.int .i64 (.ofNat col) 0])=H1 at f1 g1 g2⊢
 have h:=h.kp hlb f1
 have hg:=f1.get hg hlb
 have e0:Aa (.ptr lb 0) G H1=some (sB s):=AX hg rfl
 have e1:Aa (.ptr lb 1) G H1=some (.int .i64 (.ofNat a) 0):=AX hg rfl
 simp only[go_sem,d0,d1,yS,xg]
 have g2:T.get H1 (n+1)=some (one (UK Q7 line col)):=g2
 rcases Nat.lt_or_ge a s.length with hlt|hge
 case inr=>
  have:a=s.length:=by omega
  subst this
  simp only[decide_true,go_sem]
  rw[List.drop_eq_nil_of_le (Nat.le_refl _)]at hk
  rw[IY (m:=5) g1 (by omega) rfl rfl,BU (m:=5) (T.Au ..) (by omega) rfl]
  simp only[go_sem]
  obtain⟨l1,c1,y1,y2,y3,y4,hg⟩:=h
  refine hk _ _ _ ((f1.set _ (Nat.le_refl _)).kx) ⟨l1,c1,y1,y2,y3,y4,?_⟩ rfl λ_=>⟨line,col,x1,x2,rfl⟩
  rw[T.Ad _ _ (by omega)];exact hg
 case inl=>
 have hd:=List.drop_eq_getElem_cons hlt
 simp only[show decide (a=s.length)=false by simp;omega,go_sem,Nat.reduceAdd,d0,d1,AKL hlt]
 rw[hd,show ∀(c:UInt8) (l:Bs),Iq (c::l)=(bif great c then dS ⟨2,(c::l).takeWhile inner,0⟩else
  bif small c then dS ⟨bif decide ((c::l).takeWhile inner∈Rt)then 1 else 3,(c::l).takeWhile inner,0⟩else
  bif digit c then(match ACC 0 ((c::l).takeWhile digit)with|none=>(22,Q7)|some n=>(0,⟨4,(c::l).takeWhile digit,n⟩))else
  match Eu.find? (λm=>pre m (c::l))with|none=>(20,Q7)|some m=>(0,⟨5,m,0⟩))from λ_ _=>rfl,<-hd]at hk
 have f0:=f1.kx (b:=lb)
 have hq:n+1≠lb:=by omega
 have Zl:∀{H2:Heap} {t:Tok} {kd:Nat} {P:KV},T.get H2 (n+1)=some (one (UK t line col))->(∀H3,T.get H3 (n+1)=some (one (UK {t with kind:=kd} line col))->(∀j,j≠n+1->T.get H3 j=T.get H2 j)->P .undef H3 (n+1+1))->
  Bd 1 (.ptr (n+1) 0) (.int .i64 (.ofNat kd) 0) H2 (n+1+1) P:=by
  intro H2 t kd P hg hP
  exact Em hg rfl rfl (by omega) (by show 0+1<=5;omega) λH3 g3 s3=>hP H3 g3 s3
 have AUi:∀{H2:Heap} {t:Tok} {tx:Bs} {P:KV},T.get H2 (n+1)=some (one (UK t line col))->(∀H3,T.get H3 (n+1)=some (one (UK {t with text:=tx} line col))->(∀j,j≠n+1->T.get H3 j=T.get H2 j)->P .undef H3 (n+1+1))->
  Bd 1 (.ptr (n+1) 1) (sB tx) H2 (n+1+1) P:=by
  intro H2 t tx P hg hP
  exact Em hg rfl rfl (by omega) (by show 1+1<=5;omega) λH3 g3 s3=>hP H3 g3 s3
 have Aep:∀{H2:Heap} {t:Tok} {nu:Nat} {P:KV},T.get H2 (n+1)=some (one (UK t line col))->(∀H3,T.get H3 (n+1)=some (one (UK {t with num:=nu} line col))->(∀j,j≠n+1->T.get H3 j=T.get H2 j)->P .undef H3 (n+1+1))->
  Bd 1 (.ptr (n+1) 2) (.int .i64 (.ofNat nu) 0) H2 (n+1+1) P:=by
  intro H2 t nu P hg hP
  exact Em hg rfl rfl (by omega) (by show 2+1<=5;omega) λH3 g3 s3=>hP H3 g3 s3
 have AF4:∀{H2 H3:Heap},Kx lb H n H2 (n+1+1)/\T.get H2 n=T.get H1 n/\LAt H2 lb s a->(∀j,j≠n+1->T.get H3 j=T.get H2 j)->Kx lb H n H3 (n+1+1)/\T.get H3 n=T.get H1 n/\LAt H3 lb s a:=by
  intro H2 H3 ⟨x,y,z⟩ hs
  obtain⟨l1,c1,y1,y2,y3,y4,hg⟩:=z
  exact⟨⟨by omega,λid hid hb=>(hs id (by omega)).trans (x.same id hid hb)⟩,(hs n (by omega)).trans y,l1,c1,y1,y2,y3,y4,(hs lb (by omega)).trans hg⟩
 have b0:Kx lb H n H1 (n+1+1)/\T.get H1 n=T.get H1 n/\LAt H1 lb s a:=⟨f0,rfl,h⟩
 have fin:∀{H2:Heap} {t:Tok},Kx lb H n H2 (n+1+1)/\T.get H2 n=T.get H1 n/\LAt H2 lb s a->T.get H2 (n+1)=some (one (UK t line col))->a+t.text.length<=s.length->ALI k H n lb s a (ACT t)->
  DW lfp G (Runs F G) k (.ptr lb 0) (.ptr n 0) (.ptr (n+1) 0) H2 (n+1+1):=λb g ht hk=>
  ALr b.1 (b.2.1.trans g1) g (by omega) (by omega) hq (by omega) (by omega) (by omega) b.2.2 ht hs x1 x2 hk
 have hin:=AKm inner (s.drop a)
 have hdi:=AKm digit (s.drop a)
 rw[List.length_drop]at hin hdi
 refine AOG ?_
 cases k1:great s[a]with
 |true=>
  rw[k1]at hk
  simp only[go_sem]
  refine ASB (f:=uo) (λc H n k hk=>APC hk) h ha hs ?_
  refine Zl g2 λH2 g s2=>?_
  refine AUi g λH3 g s3=>?_
  refine fin (AF4 (AF4 b0 s2) s3) g (by show a+(List.takeWhile inner (s.drop a)).length<=_;omega) ?_
  have e:ACT ⟨2,(s.drop a).takeWhile inner,0⟩=dS ⟨2,(s.drop a).takeWhile inner,0⟩:=by simp[ACT,dS]
  exact e▸hk
 |false=>
  rw[k1]at hk
  simp only[go_sem]
  refine AOF ?_
  cases k2:small s[a]with
  |true=>
   rw[k2]at hk
   simp only[go_sem]
   refine ASB (f:=uo) (λc H n k hk=>APC hk) h ha hs ?_
   refine Zl g2 λH2 g s2=>?_
   refine AUi g λH3 g s3=>?_
   have q1:Aa (.ptr (n+1) 1) G H3=some (sB ((s.drop a).takeWhile inner)):=AX g rfl
   simp only[go_sem,Nat.reduceAdd,q1]
   refine AUC ?_
   cases k3:decide ((s.drop a).takeWhile inner∈Rt)with
   |true=>
    rw[k3]at hk
    simp only[go_sem,Nat.reduceAdd]
    refine Zl g λH4 g s4=>?_
    refine fin (AF4 (AF4 (AF4 b0 s2) s3) s4) g (by show a+(List.takeWhile inner (s.drop a)).length<=_;omega) ?_
    have e:ACT ⟨1,(s.drop a).takeWhile inner,0⟩=dS ⟨1,(s.drop a).takeWhile inner,0⟩:=by simp[ACT,dS]
    exact e▸hk
   |false=>
    rw[k3]at hk
    simp only[go_sem]
    refine fin (AF4 (AF4 b0 s2) s3) g (by show a+(List.takeWhile inner (s.drop a)).length<=_;omega) ?_
    have e:ACT ⟨3,(s.drop a).takeWhile inner,0⟩=dS ⟨3,(s.drop a).takeWhile inner,0⟩:=by simp[ACT,dS]
    exact e▸hk
  |false=>
   rw[k2]at hk
   simp only[go_sem]
   refine AJh ?_
   cases k3:digit s[a]with
   |true=>
    rw[k3]at hk
    simp only[go_sem]
    refine ASB (f:=aj) (λc H n k hk=>AJh hk) h ha hs ?_
    refine Zl g2 λH2 g s2=>?_
    refine AUi g λH3 g s3=>?_
    have q1:Aa (.ptr (n+1) 1) G H3=some (sB ((s.drop a).takeWhile digit)):=AX g rfl
    simp only[go_sem,Nat.reduceAdd,q1]
    have b3:=AF4 (AF4 b0 s2) s3
    have htw:∀c∈(s.drop a).takeWhile digit,digit c=true:=λc hc=>by
     have:=List.all_takeWhile (l:=s.drop a) (p:=digit);exact List.all_eq_true.1 this c hc
    refine ATC htw (by omega) λH4 f4=>?_
    have g4:=f4.get g (by omega)
    have b4:=b3.1.trans f4.kx
    have gn:=f4.get (b3.2.1.trans g1) (by omega)
    have h4:=b3.2.2.kp (n:=n+1+1) (by omega) f4
    cases hnum:ACC 0 ((s.drop a).takeWhile digit)with
    |none=>
     rw[hnum]at hk
     simp only[AYn,go_sem,Nat.reduceAdd]
     refine Em g4 rfl rfl (by omega) (by show 2+1<=5;omega) λH5 g5 s5=>?_
     have e:KP (.bool false)=some (.bool true):=rfl
     simp only[go_sem,e,AIR]
     have gn5:=(s5 n (by omega)).trans gn
     rw[IY (m:=5) gn5 (by omega) rfl rfl,BU (m:=5) (T.Au ..) (by omega) rfl]
     simp only[go_sem]
     obtain⟨l1,c1,y1,y2,y3,y4,hg⟩:=h4
     refine hk _ _ _ ⟨by omega,λid hid hb=>?_⟩ ⟨l1,c1,y1,y2,y3,y4,?_⟩ rfl λh=>by cases h
     ·rw[T.Ad _ _ (by omega),s5 _ (by omega)];exact b4.same id hid hb
     ·rw[T.Ad _ _ (by omega),s5 _ (by omega)];exact hg
    |some nu=>
     rw[hnum]at hk
     simp only[AYn,go_sem,Nat.reduceAdd]
     refine Em g4 rfl rfl (by omega) (by show 2+1<=5;omega) λH5 g5 s5=>?_
     have e:KP (.bool true)=some (.bool false):=rfl
     simp only[go_sem,e]
     have gn5:=(s5 n (by omega)).trans gn
     have g5:T.get H5 (n+1)=some (one (UK ⟨4,(s.drop a).takeWhile digit,nu⟩ line col)):=g5
     have b5:Kx lb H n H5 (n+1+1+1):=⟨b4.le,λid hid hb=>(s5 id (by omega)).trans (b4.same id hid hb)⟩
     obtain⟨l1,c1,y1,y2,y3,y4,hg⟩:=h4
     refine ALr b5 gn5 g5 (by omega) (by omega) hq (by omega) (by omega) (by omega) ⟨l1,c1,y1,y2,y3,y4,(s5 _ (by omega)).trans hg⟩ (by show a+(List.takeWhile digit (s.drop a)).length<=_;omega) hs x1 x2 ?_
     have e:ACT ⟨4,(s.drop a).takeWhile digit,nu⟩=(0,⟨4,(s.drop a).takeWhile digit,nu⟩):=by simp[ACT]
     exact e▸hk
   |false=>
    rw[k3]at hk
    simp only[go_sem]
    have e80:Ah 22 (.gptr 0 0) G H1=some (.agg (Eu.map sB)):=by
     show PY (G 0 0 22) (λL=>some (.agg L))=_
     rw[hG];rfl
    simp only[go_sem,e80]
    obtain⟨R,hR⟩:∃R,Eu.find? (λm=>pre m (s.drop a))=R:=⟨_,rfl⟩
    rw[hR]at hk
    refine CG (N:=22) (J:=λj q=>q=(.ptr lb 0,.ptr n 0,.ptr (n+1) 0,.agg (Eu.map sB),.int .i64 (.ofNat j) 0,H1,n+1+1)/\(Eu.drop j).find? (λm=>pre m (s.drop a))=R) ?_ ?_ ⟨rfl,hR⟩
    ·rintro I j q hlt ⟨rfl,hR⟩ ih
     show JB lfp G (Runs F G) k I (.ptr lb 0) (.ptr n 0) (.ptr (n+1) 0) (.agg (Eu.map sB)) (.int .i64 (.ofNat j) 0) H1 (n+1+1)
     delta JB
     have hj:j<Eu.length:=hlt
     rw[List.drop_eq_getElem_cons hj,List.find?_cons]at hR
     have hlen:(Eu[j]).length<=2:=by
      have:∀m∈Eu,m.length<=2:=by decide
      exact this _ (List.getElem_mem hj)
     have hix:AW8 22 (.agg (Eu.map sB)) (.int .i64 (.ofNat j) 0)=some (sB Eu[j]):=by
      show BF (Nat.blt j 22) (nth (Eu.map sB) j)=_
      rw[show Nat.blt j 22=true by rw[Nat.blt_eq];exact hlt,kQ]
      show(Eu.map sB)[j]? =_
      simp[hj]
     generalize Eu[j]=m at hR hlen hix
     simp only[go_sem,FP,hlt,decide_true,hix,Nat.reduceAdd,e0,e1,AMm ha]
     refine ADf ?_
     cases hp:pre m (s.drop a)with
     |true=>
      rw[hp]at hR
      subst hR
      simp only[go_sem,Nat.reduceAdd]
      refine Zl g2 λH2 g s2=>?_
      refine AUi g λH3 g s3=>?_
      have hle:m.length<=s.length-a:=by
       unfold pre at hp
       rw[List.length_drop]at hp
       simp only[Bool.and_eq_true,decide_eq_true_eq]at hp
       exact hp.1
      refine fin (AF4 (AF4 b0 s2) s3) g (by show a+m.length<=_;omega) ?_
      have e:ACT ⟨5,m,0⟩=(0,⟨5,m,0⟩):=by
       have:¬40<m.length:=by omega
       simp[ACT,this]
      exact e▸hk
     |false=>
      rw[hp]at hR
      simp only[go_sem,Vu (show j+1<9223372036854775808 by omega)]
      exact ih _ ⟨rfl,hR⟩
    ·rintro I q ⟨rfl,hR⟩
     show JB lfp G (Runs F G) k I (.ptr lb 0) (.ptr n 0) (.ptr (n+1) 0) (.agg (Eu.map sB)) (.int .i64 (.ofNat 22) 0) H1 (n+1+1)
     delta JB
     rw[show Eu.drop 22=[]from rfl]at hR
     subst hR
     simp only[go_sem,FP,Nat.lt_irrefl,decide_false]
     exact fin b0 g2 (by show a+0<=_;omega) hk
end
open Go.Bj
set_option maxRecDepth 100000
def AOS(c:LV)(t:Tok):Prop:=∃line col,1<=line/\1<=col/\c=UK t line col
theorem AF2(c:UInt8)(l:Bs):Iq (c::l)=(bif great c then dS ⟨2,(c::l).takeWhile inner,0⟩else
 bif small c then dS ⟨bif decide ((c::l).takeWhile inner∈Rt)then 1 else 3,(c::l).takeWhile inner,0⟩else
 bif digit c then(match ACC 0 ((c::l).takeWhile digit)with|none=>(22,Q7)|some n=>(0,⟨4,(c::l).takeWhile digit,n⟩))else
 match Eu.find? (λm=>pre m (c::l))with|none=>(20,Q7)|some m=>(0,⟨5,m,0⟩)):=rfl
theorem ASY:∀r:Bs,(Iq r).2.text.length<=r.length
 |[]=>Nat.le_refl _
 |c::l=>by
  have h1:=AKm inner (c::l)
  have h2:=AKm digit (c::l)
  have hc:∀t:Tok,t.text.length<=(c::l).length->(dS t).2.text.length<=(c::l).length:=by
   intro t ht;unfold dS;cases decide (40<t.text.length)
   ·exact ht
   ·exact Nat.zero_le _
  rw[AF2]
  cases great c
  case true=>exact hc ⟨2,_,0⟩ h1
  cases small c
  case true=>exact hc ⟨_,_,0⟩ h1
  cases digit c
  case true=>
   simp only[cond_true,cond_false]
   cases ACC 0 ((c::l).takeWhile digit)with
   |none=>exact Nat.zero_le _
   |some n=>exact h2
  simp only[cond_false]
  cases hf:Eu.find? (λm=>pre m (c::l))with
  |none=>exact Nat.zero_le _
  |some m=>
   have:=List.find?_some hf
   simp only[pre,Bool.and_eq_true,decide_eq_true_eq]at this
   exact this.1
theorem AQJ:∀r:Bs,(Iq r).1=0->(Iq r).2.kind≠0->0<(Iq r).2.text.length
 |[]=>λ_ h=>absurd rfl h
 |c::l=>by
  have hc:∀t:Tok,0<t.text.length->(dS t).1=0->0<(dS t).2.text.length:=by
   intro t ht;unfold dS;cases decide (40<t.text.length)
   ·exact λ_=>ht
   ·intro h;cases h
  have tw:∀g:UInt8->Bool,g c=true->0<((c::l).takeWhile g).length:=λg h=>by rw[List.takeWhile_cons,h];simp
  rw[AF2]
  cases h1:great c
  case true=>exact λh _=>hc ⟨2,_,0⟩ (tw inner (by simp[inner,h1])) h
  cases h2:small c
  case true=>exact λh _=>hc ⟨_,_,0⟩ (tw inner (by simp[inner,h2])) h
  cases h3:digit c
  case true=>
   simp only[cond_true,cond_false]
   cases ACC 0 ((c::l).takeWhile digit)with
   |none=>intro h;cases h
   |some n=>exact λ_ _=>tw digit h3
  simp only[cond_false]
  cases hf:Eu.find? (λm=>pre m (c::l))with
  |none=>intro h;cases h
  |some m=>
   intro _ _
   have h4:∀m∈Eu,0<m.length:=by decide
   exact h4 m (List.mem_of_find?_eq_some hf)
def Abn(G:AV)(k:KV)(H:Heap)(n:Nat)(r:Nat×List Tok):Prop:=∀(H':Heap) (n':Nat) (v:V) (c:LV),Kp H n H' n'->
 (r.1=0->(∃cs id,v=.G6 id 0 cs.length 5/\n<=id/\id<n'/\El G H' v 5 cs/\Pw AOS cs r.2)/\c=[.int .i64 (.ofNat 0) 0,.int .i64 (.ofNat 0) 0,.int .i64 (.ofNat 0) 0])->
 (r.1≠0->∃line col,1<=line/\1<=col/\c=[.int .i64 (.ofNat r.1) 0,.int .i64 (.ofNat line) 0,.int .i64 (.ofNat col) 0])->k (.EI [v,.agg c]) H' n'
theorem AN5{z0 z1 z2 a b:V}(e:Int):BN [z0,z1,z2] [(0,1,.c (.int .i64 e 0)),(1,2,.c (.agg [a,b]))]=some (.agg [.int .i64 e 0,a,b]):=rfl
theorem AY2{z0 z1 z2:V}:BN [z0,z1,z2] []=some (.agg [z0,z1,z2]):=rfl
theorem AXi{z0 z1 z2 z3 a b:V}(s:Bs):BN [z0,z1,z2,z3] [(0,1,.c (sB s)),(2,2,.c (.agg [a,b]))]=some (.agg [sB s,z1,a,b]):=rfl
section
variable{G:AV}{H:Heap}{n:Nat}{s:Bs}{k:KV}
theorem AZl(hG:Ur G)(hk:Abn G k H n (AGz s)):Runs F G AHX [sB s] H n k:=by
 refine go1 (ANN Aq G) ?_
 delta AHk
 unfold AGz at hk
 simp only[go_sem,Nat.reduceAdd,ASU,AXi,yS,AAs]
 have f1:Kp H n (T.set (T.set H n (one [.int .i64 (.ofNat 0) 0,.int .i64 (.ofNat 0) 0,.int .i64 (.ofNat 0) 0])) (n+1) (one [sB s,.int .i64 (.ofNat 0) 0,.int .i64 (.ofNat 1) 0,.int .i64 (.ofNat 1) 0])) (n+1+1):=
  ((Kp.refl H n).new (m:=n+1) _ (Nat.le_refl _) (by omega)).new _ (by omega) (by omega)
 have g1:=(T.Ad (T.set H n (one [V.int .i64 (.ofNat 0) 0,.int .i64 (.ofNat 0) 0,.int .i64 (.ofNat 0) 0])) (one [sB s,.int .i64 (.ofNat 0) 0,.int .i64 (.ofNat 1) 0,.int .i64 (.ofNat 1) 0]) (show n+1≠n by omega)).trans (T.Au ..)
 have g2:=T.Au (T.set H n (one [V.int .i64 (.ofNat 0) 0,.int .i64 (.ofNat 0) 0,.int .i64 (.ofNat 0) 0])) (n+1) (one [sB s,.int .i64 (.ofNat 0) 0,.int .i64 (.ofNat 1) 0,.int .i64 (.ofNat 1) 0])
 generalize T.set (T.set H n (one [V.int .i64 (.ofNat 0) 0,.int .i64 (.ofNat 0) 0,.int .i64 (.ofNat 0) 0])) (n+1) (one [sB s,.int .i64 (.ofNat 0) 0,.int .i64 (.ofNat 1) 0,.int .i64 (.ofNat 1) 0])=H1 at f1 g1 g2⊢
 cases hs:decide (65536<s.length)with
 |true=>
  rw[hs]at hk
  simp only[go_sem,Nat.reduceAdd]
  rw[QK (m:=2) (o:=2) g2 (by omega) (by show 2+2<=4;omega)]
  simp only[go_sem,List.drop_succ_cons,List.drop_zero,List.take_succ_cons,List.take_zero,AN5]
  rw[IY (m:=3) g1 (by omega) rfl rfl,BU (m:=3) (T.Au ..) (by omega) rfl]
  simp only[go_sem]
  exact hk _ _ _ _ (f1.set _ (Nat.le_refl _)) (λh=>by cases h) λ_=>⟨1,1,by omega,by omega,rfl⟩
 |false=>
  rw[hs,cond_false]at hk
  have hs:s.length<=65536:=by simpa using hs
  simp only[go_sem]
  refine FB (J:=λm q=>∃H' n' a v cs xs f,m=s.length-a/\q=(.ptr n 0,.ptr (n+1) 0,v,H',n')/\Kp H n H' n'/\n+2<=n'/\T.get H' n=some (one [.int .i64 (.ofNat 0) 0,.int .i64 (.ofNat 0) 0,.int .i64 (.ofNat 0) 0])/\LAt H' (n+1) s a/\
   a<=s.length/\Own G H' (n+2) n' 5 v cs/\Pw AOS cs xs/\cs.length<=a/\s.length-a<f/\Abn G k H n ((AA5 f (s.drop a)).1,xs++(AA5 f (s.drop a)).2)) ?_ (m:=s.length)
   ⟨H1,n+1+1,0,.Af,[],[],s.length+1,rfl,rfl,f1,by omega,g1,⟨1,1,by omega,by omega,by omega,by omega,g2⟩,by omega,vN,.nil,by simp,by omega,hk⟩
  rintro I m q ⟨H2,n2,a,v,cs,xs,f,rfl,rfl,f2,hn2,g0,hl,ha,ho,hx,hcs,hf,hk⟩ ih
  show dW lfp G (Runs F G) k I (.ptr n 0) (.ptr (n+1) 0) v H2 n2
  delta dW
  refine AYA hl ha hs λH3 a3 f3 hl3 ha3 hd3=>?_
  refine AYb hG hl3 ha3 hs (by omega) ?_
  obtain⟨f,rfl⟩:∃g,f=g+1:=⟨f-1,by omega⟩
  rw[hd3]
  have hlexF:AA5 (f+1) (s.drop a)=bif decide ((Iq (DJ false (s.drop a))).1=0)then
   bif decide ((Iq (DJ false (s.drop a))).2.kind=0)then(0,[(Iq (DJ false (s.drop a))).2])
   else((AA5 f ((DJ false (s.drop a)).drop (Iq (DJ false (s.drop a))).2.text.length)).1,(Iq (DJ false (s.drop a))).2::(AA5 f ((DJ false (s.drop a)).drop (Iq (DJ false (s.drop a))).2.text.length)).2)
   else((Iq (DJ false (s.drop a))).1,[]):=rfl
  rw[hlexF,<-hd3]at hk
  have hle:=ASY (s.drop a3)
  have hpos:=AQJ (s.drop a3)
  rw[List.length_drop]at hle
  rw[<-hd3]
  intro H4 n4 c f4 hl4 hcl ht
  generalize Iq (s.drop a3)=R at hk hle hpos hl4 ht
  obtain⟨e,t⟩:=R
  simp only[go_sem,Nat.reduceAdd]
  obtain⟨c0,c1,c2,c3,c4,rfl⟩:∃c0 c1 c2 c3 c4,c=[c0,c1,c2,c3,c4]:=by
   match c,hcl with
   |[c0,c1,c2,c3,c4],_=>exact⟨c0,c1,c2,c3,c4,rfl⟩
  have f24:=f3.trans f4
  have hn4:=f24.le
  have g04:T.get H4 n=_:=f24.get g0 (by omega) (by omega)
  have ho4:=ho.kx f24 (by omega)
  have f4':Kp H n H4 n4:=⟨by have:=f2.le;omega,λid hid=>(f24.same id (by omega) (by omega)).trans (f2.same id hid)⟩
  simp only[go_sem,Nat.reduceAdd]
  rw[T.set_set]
  have f5:Kp H4 n4 (T.set H4 n4 (one [c0,c1,c2,c3,c4])) (n4+1):=(Kp.refl _ _).new _ (Nat.le_refl _) (by omega)
  have g5:=T.Au H4 n4 (one [c0,c1,c2,c3,c4])
  generalize T.set H4 n4 (one [c0,c1,c2,c3,c4])=H5 at f5 g5⊢
  have g05:=f5.get g04 (by omega)
  have f5':=f4'.trans f5
  have hl5:=hl4.kp (n:=n4) (by omega) f5
  simp only[AAg]
  cases he:decide (e=0)with
  |false=>
   have he':e≠0:=by simpa using he
   rw[he,cond_false]at hk
   obtain⟨line,col,y1,y2,y3,y4,hg⟩:=hl5
   simp only[Bool.not_false,go_sem,Nat.reduceAdd]
   rw[QK (m:=2) (o:=2) hg (by omega) (by show 2+2<=4;omega)]
   simp only[go_sem,List.drop_succ_cons,List.drop_zero,List.take_succ_cons,List.take_zero,AN5]
   rw[IY (m:=3) g05 (by omega) rfl rfl,BU (m:=3) (T.Au ..) (by omega) rfl]
   simp only[go_sem]
   exact hk _ _ _ _ (f5'.set _ (Nat.le_refl _)) (λh=>absurd h he') λ_=>⟨line,col,y1,y2,rfl⟩
  |true=>
   have he':e=0:=by simpa using he
   subst he'
   rw[he,cond_true]at hk
   obtain⟨line,col,y1,y2,hc⟩:=ht rfl
   rw[hc]at g5⊢
   simp only[Bool.not_true,go_sem]
   refine Ld (G:=G) (vs:=[.agg (UK t line col)]) rfl (by omega) (λv hv=>by simp at hv;subst hv;exact⟨rfl,rfl⟩) λH6 f6 _ hel=>?_
   have ho6:=(ho4.kp f5).kp f6
   refine ho6.gr.app (by omega) ho6.lo hel.2 (by show(cs.length+1)*48<=_;omega) ?_ (λh=>by cases h)
   intro v' H7 hgr hsame hlo
   have hgr:Gr G H7 (n+2) 5 v' (cs++[UK t line col]):=hgr
   have f7:Kp H n H7 (n4+1+1+1):=⟨by have:=f5'.le;omega,λid hid=>(hsame id (by have:=f5'.le;omega) (λh=>by have:=ho6.ge h;omega)).trans ((f6.same id (by have:=f5'.le;omega)).trans (f5'.same id hid))⟩
   have g7:∀{id:Nat} {b:Qc},id<n+2->T.get H5 id=some b->T.get H7 id=some b:=λhid h=>(hsame _ (by omega) (λh=>by have:=ho6.ge h;omega)).trans ((f6.same _ (by omega)).trans h)
   have g57:T.get H7 n4=some (one (UK t line col)):=(hsame n4 (by omega) (λh=>by have:=ho4.lo _ h;omega)).trans ((f6.same n4 (by omega)).trans g5)
   have q0:Aa (.ptr n4 0) G H7=some (.int .i64 (.ofNat t.kind) 0):=AX g57 rfl
   have hel7:El G H7 v' 5 (cs++[UK t line col]):=hgr.el (by omega)
   have hpw:Pw AOS (cs++[UK t line col]) (xs++[t]):=hx.app (.cons ⟨line,col,y1,y2,rfl⟩ .nil)
   simp only[go_sem,Nat.reduceAdd,q0,xg]
   cases hkd:decide (t.kind=0)with
   |true=>
    rw[hkd,cond_true]at hk
    simp only[go_sem,AY2]
    rw[IY (m:=3) (g7 (by omega) g05) (by omega) rfl rfl,BU (m:=3) (T.Au ..) (by omega) rfl]
    simp only[go_sem]
    have f8:=f7.set (one [V.int .i64 (.ofNat 0) 0,.int .i64 (.ofNat 0) 0,.int .i64 (.ofNat 0) 0]) (Nat.le_refl n)
    refine hk _ _ _ _ f8 (λ_=>⟨?_,rfl⟩) (λh=>absurd rfl h)
    have hel8:El G (T.set H7 n (one [V.int .i64 (.ofNat 0) 0,.int .i64 (.ofNat 0) 0,.int .i64 (.ofNat 0) 0])) v' 5 (cs++[UK t line col]):=hel7.same λid hid=>T.Ad _ _ (by have:=(hgr.lo hid).1;omega)
    generalize hcs':cs++[UK t line col]=cs' at hgr hel7 hel8 hpw
    cases hgr with
    |nil=>simp at hcs'
    |G6 hg hc ht hid=>
     rename_i id c tt
     exact⟨_,id,rfl,by omega,by have:=hlo id rfl;omega,hel8,hpw⟩
   |false=>
    rw[hkd,cond_false]at hk
    have hkd':t.kind≠0:=by simpa using hkd
    have hp0:0<t.text.length:=hpos rfl hkd'
    have hle:t.text.length<=s.length-a3:=hle
    have hlen:(s.drop a3).length=(DJ false (s.drop a)).length:=by rw[hd3]
    have hsk:=uj false (s.drop a)
    rw[List.length_drop]at hlen hsk
    simp only[go_sem]
    have hl7:LAt H7 (n+1) s (a3+t.text.length):=by
     obtain⟨line,col,y1,y2,y3,y4,hg⟩:=hl5
     exact⟨line,col,y1,y2,y3,y4,g7 (by omega) hg⟩
    refine ih (s.length-(a3+t.text.length)) _ (by omega) ⟨H7,n4+1+1+1,a3+t.text.length,v',cs++[UK t line col],xs++[t],f,rfl,rfl,f7,by omega,g7 (by omega) g05,hl7,by omega,⟨hgr,hlo⟩,hpw,?_,by omega,?_⟩
    ·rw[List.length_append];show cs.length+1<=_;omega
    ·rw[List.append_assoc,<-List.drop_drop];exact hk
end
end Go.PQ
namespace Go.PQ
open Go.Bj
structure S where
 t:Tok
 r:List Tok
 deep:Nat
 e:Nat
abbrev PM(α:Type):=S->Option (α×S)
def S.ok(s:S):Bool:=decide (s.e=0)
def Jt(e:Nat)(s:S):S:=bif s.ok then{s with e:=e}else s
def QX(w:Bs)(s:S):Bool:=s.ok&&((decide (s.t.kind=1)||decide (s.t.kind=5))&&decide (s.t.text=w))
def WZ(ws:List Bs)(s:S):Bool:=ws.any λw=>QX w s
def Qj(s:S):Option S:=bif decide (s.t.kind=0)then some s else match s.r with|[]=>none|t::r=>some {s with t:=t,r:=r}
def Dk(w:Bs):PM Bool:=λs=>bif QX w s then(Qj s).bind λs'=>some (true,s')else some (false,s)
def D7:List Bs->S->Option S
 |[],s=>some s
 |w::ws,s=>(Dk w s).bind λp=>D7 ws (bif p.1 then p.2 else Jt 21 p.2)
def Jh(k:Nat):PM Bs:=λs=>bif s.ok&&decide (s.t.kind=k)then(Qj s).bind λs'=>some (s.t.text,s')else some ([],Jt 21 s)
def aY(s:S):Option S:=bif decide (s.deep<1000000)then some (bif decide (100<s.deep+1)then Jt 3 {s with deep:=s.deep+1}else{s with deep:=s.deep+1})else none
def upS(s:S):Option S:=match s.deep with|0=>none|d+1=>bif decide (d<1000000)then some {s with deep:=d}else none
def Ls(n:Nat)(s:S):S:=bif decide (200<n)then Jt 4 s else s
structure Ty where
 nm:Bs
 arr:Bool
def ALU:PM Ty:=λs=>(Dk G5 s).bind λp=>bif p.1 then some (⟨G5,false⟩,p.2)else
 (Dk AAI p.2).bind λp=>bif p.1 then some (⟨AAI,false⟩,p.2)else(Jh 2 p.2).bind λp=>some (⟨p.1,false⟩,p.2)
def wV:PM Ty:=λs=>(ALU s).bind λp=>(Dk zF p.2).bind λq=>bif q.1 then(D7 [ACm] q.2).bind λs=>some (⟨p.1.nm,true⟩,s)else some (p.1,q.2)
inductive Ex where
 |mk (kind num:Nat) (nm:Bs) (ty:Bs) (arr:Bool) (kids:List Ex)
def Ex.kind:Ex->Nat|.mk k _ _ _ _ _=>k
def vX(k:Nat)(w:Bs)(nx:PM Ex):Nat->Ex->PM Ex
 |0,_,_=>none
 |f+1,e,s=>bif WZ [w] s then(Qj s).bind λs1=>(nx s1).bind λp=>vX k w nx f (.mk k 0 [] [] false [e,p.1]) p.2 else some (e,s)
def either(k:Nat)(w:Bs)(nx:PM Ex)(f:Nat):PM Ex:=λs=>(nx s).bind λp=>vX k w nx f p.1 p.2
def ACi(ws:List Bs)(nx:PM Ex):Nat->Ex->PM Ex
 |0,_,_=>none
 |f+1,e,s=>bif WZ ws s then(Qj s).bind λs1=>(nx s1).bind λp=>ACi ws nx f (.mk 16 0 s.t.text [] false [e,p.1]) p.2 else some (e,s)
def signs(ws:List Bs)(nx:PM Ex)(f:Nat):PM Ex:=λs=>(nx s).bind λp=>ACi ws nx f p.1 p.2
def sumP(un:PM Ex)(f:Nat):PM Ex:=signs [AGJ,Kz] (signs [zq,Yq,AE5] un f) f
def compared(un:PM Ex)(f:Nat):PM Ex:=λs=>(sumP un f s).bind λp=>
 bif WZ [pz,ADK,dh,ADM] p.2 then(Qj p.2).bind λs1=>(sumP un f s1).bind λq=>some (.mk 16 0 p.2.t.text [] false [p.1,q.1],q.2)else some (p.1,p.2)
def asL:Nat->Ex->PM Ex
 |0,_,_=>none
 |f+1,e,s=>bif WZ [AKW,ADw] s then(Qj s).bind λs1=>(Jh 2 s1).bind λp=>asL f (.mk (bif decide (s.t.text=ADw)then 20 else 19) 0 [] p.1 false [e]) p.2 else some (e,s)
def AKx(rec:PM Ex):Nat->List Ex->PM (List Ex)
 |0,_,_=>none
 |f+1,out,s=>bif s.ok then(Dk Ov s).bind λp=>bif p.1 then some (out,p.2)else
  (bif decide (0<out.length)then D7 [LX] p.2 else some p.2).bind λs1=>(rec s1).bind λq=>AKx rec f (out++[q.1]) (Ls (out.length+1) q.2)
  else some (out,s)
def AHG(rec:PM Ex)(f:Nat):PM (List Ex):=λs=>(D7 [VZ] s).bind λs1=>AKx rec f [] s1
def ABe(rec:PM Ex)(f:Nat)(e:Ex):PM Ex:=λs=>(Dk AAk s).bind λp=>bif p.1 then some (.mk 13 0 [] [] false [e],p.2)else
 (Jh 3 p.2).bind λq=>bif WZ [VZ] q.2 then(AHG rec f q.2).bind λa=>some (.mk 8 0 q.1 [] false (e::a.1),a.2)else some (.mk 7 0 q.1 [] false [e],q.2)
def AE1(t:Ty):Bool:= !t.arr&&(match t.nm with|[]=>false|c::_=>great c)
def AEi(rec:PM Ex)(f:Nat):PM Ex:=λs=>
 bif !s.ok then some (.mk 0 0 [] [] false [],s)else
 bif decide (s.t.kind=4)then(Qj s).bind λs1=>some (.mk 1 s.t.num [] [] false [],s1)else
 bif decide (s.t.kind=3)then(Qj s).bind λs1=>some (.mk 6 0 s.t.text [] false [],s1)else
 bif decide (s.t.kind=2)then(Qj s).bind λs1=>(D7 [ug] s1).bind λs2=>(Jh 3 s2).bind λq=>(AHG rec f q.2).bind λa=>some (.mk 9 0 q.1 s.t.text false a.1,a.2)else
 (Dk Zm s).bind λp=>bif p.1 then some (.mk 2 0 [] [] false [],p.2)else
 (Dk AEQ p.2).bind λp=>bif p.1 then some (.mk 3 0 [] [] false [],p.2)else
 (Dk AJZ p.2).bind λp=>bif p.1 then some (.mk 4 0 [] [] false [],p.2)else
 (Dk AJS p.2).bind λp=>bif p.1 then some (.mk 5 0 [] [] false [],p.2)else
 (Dk AO8 p.2).bind λp=>bif p.1 then
  ((ALU p.2).bind λb=>(Dk zF b.2).bind λq=>bif q.1 then(rec q.2).bind λx=>(D7 [ACm] x.2).bind λs1=>some (.mk 11 0 [] b.1.nm b.1.arr [x.1],s1)
   else some (.mk 10 0 [] b.1.nm b.1.arr [],bif AE1 b.1 then q.2 else Jt 21 q.2))else
 (Dk VZ p.2).bind λp=>bif p.1 then(rec p.2).bind λx=>(D7 [Ov] x.2).bind λs1=>some (x.1,s1)else
 some (.mk 0 0 [] [] false [],Jt 21 p.2)
def jT(rec:PM Ex):Nat->Ex->PM Ex
 |0,_,_=>none
 |f+1,e,s=>(Dk zF s).bind λp=>bif p.1 then(rec p.2).bind λq=>(D7 [ACm] q.2).bind λs1=>jT rec f (.mk 12 0 [] [] false [e,q.1]) s1 else
  (Dk ug p.2).bind λp=>bif p.1 then(ABe rec f e p.2).bind λq=>jT rec f q.1 q.2 else some (e,p.2)
def pY(rec:PM Ex)(f:Nat):PM Ex:=λs=>(AEi rec f s).bind λp=>jT rec f p.1 p.2
def unary(rec:PM Ex):Nat->PM Ex
 |0,_=>none
 |f+1,s=>bif WZ [Kz] s then(aY s).bind λs1=>(Qj s1).bind λs2=>(unary rec f s2).bind λp=>(upS p.2).bind λs'=>some (.mk 14 0 [] [] false [p.1],s')else
  bif WZ [XH] s then(aY s).bind λs1=>(Qj s1).bind λs2=>(unary rec f s2).bind λp=>(upS p.2).bind λs'=>some (.mk 15 0 [] [] false [p.1],s')else
  (pY rec f s).bind λp=>asL f p.1 p.2
def ALf(rec:PM Ex)(f:Nat):PM Ex:=λs=>(aY s).bind λs1=>(either 18 ANl (either 17 AAy (compared (unary rec f) f) f) f s1).bind λp=>(upS p.2).bind λs'=>some (p.1,s')
def expr:Nat->PM Ex
 |0,_=>none
 |f+1,s=>ALf (expr f) f s
inductive St where
 |mk (does:Nat) (nm:Bs) (ty:Ty) (es:List Ex) (th el:List St)
def J3(st:PM St):Nat->List St->PM (List St)
 |0,_,_=>none
 |f+1,out,s=>bif s.ok then(Dk m_rc s).bind λp=>bif p.1 then some (out,p.2)else(st p.2).bind λq=>bif decide (out.length<1000000)then J3 st f (out++[q.1]) q.2 else none
  else some (out,s)
def Zx(st:PM St)(f:Nat):PM (List St):=λs=>(aY s).bind λs1=>(D7 [Rz] s1).bind λs2=>(J3 st f [] s2).bind λp=>(upS p.2).bind λs'=>some (p.1,s')
def fK:Ty:=⟨[],false⟩
def ACc(f:Nat):PM St:=λs=>(expr f s).bind λp=>bif WZ [PV] p.2 then
 (D7 [PV] (bif decide (p.1.kind=6)||(decide (p.1.kind=7)||decide (p.1.kind=12))then p.2 else Jt 21 p.2)).bind λs1=>(expr f s1).bind λq=>some (.mk 2 [] fK [p.1,q.1] [] [],q.2)
 else some (.mk 3 [] fK [p.1] [] [],bif decide (p.1.kind=8)||decide (p.1.kind=9)then p.2 else Jt 21 p.2)
def endP(st:St)(s:S):Option (St×S):=(D7 [Gz] s).bind λs1=>some (st,s1)
def AEB(st ch:PM St)(f:Nat):PM St:=λs=>(aY s).bind λs1=>(D7 [dX] s1).bind λs2=>(expr f s2).bind λc=>(Zx st f c.2).bind λt=>
 (Dk zC t.2).bind λp=>(bif p.1 then(bif WZ [dX] p.2 then(ch p.2).bind λx=>some ([x.1],x.2)else Zx st f p.2)else some ([],p.2)).bind λx=>
 (upS x.2).bind λs'=>some (.mk 4 [] fK [c.1] t.1 x.1,s')
def AFy(st ch:PM St)(f:Nat):PM St:=λs=>(Dk aH s).bind λp=>bif p.1 then
 (wV p.2).bind λt=>(Jh 3 t.2).bind λn=>(D7 [PV] n.2).bind λs1=>(expr f s1).bind λx=>endP (.mk 1 n.1 t.1 [x.1] [] []) x.2 else
 bif WZ [dX] p.2 then ch p.2 else
 (Dk ABd p.2).bind λp=>bif p.1 then(expr f p.2).bind λc=>(Zx st f c.2).bind λt=>some (.mk 5 [] fK [c.1] t.1 [],t.2)else
 (Dk Pg p.2).bind λp=>bif p.1 then(expr f p.2).bind λx=>endP (.mk 6 [] fK [x.1] [] []) x.2 else
 (Dk jl p.2).bind λp=>bif p.1 then(expr f p.2).bind λx=>endP (.mk 7 [] fK [x.1] [] []) x.2 else
 (ACc f p.2).bind λx=>endP x.1 x.2
def sc:Nat->Bool->PM St
 |0,_,_=>none
 |f+1,b,s=>bif b then AEB (sc f false) (sc f true) f s else AFy (sc f false) (sc f true) f s
structure Va where
 nm:Bs
 ty:Ty
structure Me where
 nm:Bs
 st:Bool
 ps:List Va
 ret:Ty
 body:List St
structure Cl where
 nm:Bs
 sup:Bs
 fs:List Va
 ms:List Me
def N8:Nat->List Va->PM (List Va)
 |0,_,_=>none
 |f+1,out,s=>bif s.ok then(Dk Ov s).bind λp=>bif p.1 then some (out,p.2)else
  (bif decide (0<out.length)then D7 [LX] p.2 else some p.2).bind λs1=>(wV s1).bind λt=>(Jh 3 t.2).bind λn=>N8 f (out++[⟨n.1,t.1⟩]) (Ls (out.length+1) n.2)
  else some (out,s)
def Yn(f:Nat):PM Me:=λs=>(Dk S9 s).bind λp=>(D7 [Il] p.2).bind λs1=>(wV s1).bind λt=>(Jh 3 t.2).bind λn=>(D7 [VZ] n.2).bind λs2=>
 (N8 f [] s2).bind λps=>(Zx (sc f false) f ps.2).bind λb=>some (⟨n.1,p.1,ps.1,t.1,b.1⟩,b.2)
def NU(f:Nat):Nat->List Va->List Me->PM (List Va×List Me)
 |0,_,_,_=>none
 |g+1,fs,ms,s=>bif s.ok then(Dk m_rc s).bind λp=>bif p.1 then some ((fs,ms),p.2)else
  (Dk vg p.2).bind λp=>bif p.1 then(wV p.2).bind λt=>(Jh 3 t.2).bind λn=>(D7 [Gz] (Ls (fs.length+1) n.2)).bind λs1=>NU f g (fs++[⟨n.1,t.1⟩]) ms s1 else
  bif WZ [S9,Il] p.2 then(Yn f p.2).bind λm=>NU f g fs (ms++[m.1]) (Ls (ms.length+1) m.2)else
  NU f g fs ms (Jt 21 p.2)
  else some ((fs,ms),s)
def ANq(f:Nat):PM Cl:=λs=>(D7 [kV] s).bind λs1=>(Jh 2 s1).bind λn=>(Dk vk n.2).bind λp=>(bif p.1 then Jh 2 p.2 else some ([],p.2)).bind λu=>(D7 [Rz] u.2).bind λs2=>
 (NU f f [] [] s2).bind λx=>some (⟨n.1,u.1,x.1.1,x.1.2⟩,bif x.2.ok&& !decide (x.2.t.kind=0)then Jt 21 x.2 else x.2)
def AJB(f:Nat):List Tok->Option (Cl×Nat)
 |[]=>none
 |t::r=>(ANq f ⟨t,r,0,0⟩).bind λp=>some (p.1,p.2.e)
end Go.PQ
namespace Go.PQ
open Go.RL
open Go.Bj
set_option maxRecDepth 100000
theorem AKM{e:Option V}{P:V->Prop}{b:Bool}(h:P (.EI [])):BX (.EI []) b e P:=h
theorem JM{id o l c z i:Nat}(h:(V.sl id o l c z).Dl=some i):i=id:=by cases h;rfl
theorem yc{id o l z i:Nat}(h:(V.G6 id o l z).Dl=some i):i=id:=by cases h;rfl
inductive ZR(G:AV)(H:Heap)(pb:Nat)(s:S):Prop where
 |mk {tid off line col:Nat} {cs:CJ} (hg:T.get H pb=some (one [.G6 tid off cs.length 5,.int .i64 (.ofNat s.deep) 0,.int .i64 (.ofNat s.e) 0,.int .i64 (.ofNat line) 0,.int .i64 (.ofNat col) 0]))
  (he:El G H (.G6 tid off cs.length 5) 5 cs) (ht:Pw AOS cs (s.t::s.r)) (hp:s.e≠0->1<=line/\1<=col) (hl:tid<pb)
section
variable{G:AV}{H H':Heap}{n n' pb:Nat}{s s':S}{k:KV}
theorem ZR.same(h:ZR G H pb s)(hs:∀id,id<=pb->T.get H' id=T.get H id):ZR G H' pb s:=by
 cases h with
 |mk hg he ht hp hl=>exact .mk ((hs _ (Nat.le_refl _)).trans hg) (he.same λid hid=>by cases hid;exact hs _ (by omega)) ht hp hl
theorem ZR.kp(h:ZR G H pb s)(f:Kp H n H' n')(hb:pb<n):ZR G H' pb s:=h.same λid hid=>f.same id (by omega)
theorem ZR.e(h:ZR G H pb s):Aa (.ptr pb 2) G H=some (.int .i64 (.ofNat s.e) 0):=by cases h with|mk hg=>exact AX hg rfl
theorem ZR.deep(h:ZR G H pb s):Aa (.ptr pb 1) G H=some (.int .i64 (.ofNat s.deep) 0):=by cases h with|mk hg=>exact AX hg rfl
theorem ZR.tok(h:ZR G H pb s):∃v tid o line col,Aa (.ptr pb 0) G H=some v/\BJ 5 v (.int .i64 (.ofNat 0) 0)=some (.ptr tid o)/\1<=line/\1<=col/\Ah 5 (.ptr tid o) G H=some (.agg (UK s.t line col))/\
 Aa (.ptr tid o) G H=some (.int .i64 (.ofNat s.t.kind) 0)/\Aa (.ptr tid (o+1)) G H=some (sB s.t.text)/\Ah 2 (.ptr tid (o+3)) G H=some (.agg [.int .i64 (.ofNat line) 0,.int .i64 (.ofNat col) 0]):=by
 cases h with
 |mk hg he ht hp hl=>
  rename_i tid off l1 c1 cs
  cases ht with
  |cons h t=>
   rename_i c cs
   obtain⟨line,col,x1,x2,rfl⟩:=h
   have h2:=AQ5 he
   have h3:=(Kr _ _ h2).2 0 _ rfl
   rw[Nat.add_zero]at h3
   have sub:∀o m,0<m->o+m<=5->aB H tid (off*5+o) m=some (((UK s.t line col).drop o).take m):=λo m h1 h2=>AOx h3 rfl h1 h2
   refine⟨_,tid,off*5,line,col,AX hg rfl,?_,x1,x2,?_,?_,?_,?_⟩
   ·show BF (band (Nat.beq 5 5) (Nat.blt 0 (cs.length+1))) (CW ((off+0)*5) λo=>some (.ptr tid o))=_
    rw[show Nat.blt 0 (cs.length+1)=true by rw[Nat.blt_eq];omega,BP];rfl
   ·rw[AHZ];show PY (aB H tid (off*5) 5) _=_;rw[h3];rfl
   ·rw[ADs];show PY (aB H tid (off*5+0) 1) _=_;rw[sub 0 1 (by omega) (by omega)];rfl
   ·rw[ADs];show PY (aB H tid (off*5+1) 1) _=_;rw[sub 1 1 (by omega) (by omega)];rfl
   ·rw[AHZ];show PY (aB H tid (off*5+3) 2) _=_;rw[sub 3 2 (by omega) (by omega)];rfl
theorem AP2(h:ZR G H pb s)(hk:k (.bool s.ok) H n):Runs F G D6 [.ptr pb 0] H n k:=by
 refine go1 (zL Aq G) ?_
 delta bK
 simp only[go_sem,Nat.reduceAdd,h.e,xg]
 exact hk
theorem ARp{e:Nat}(h:ZR G H pb s)(hk:∀H',Kx pb H n H' n->ZR G H' pb (Jt e s)->k (.EI []) H' n):Runs F G CS [.ptr pb 0,.int .i64 (.ofNat e) 0] H n k:=by
 refine go2 (uM Aq G) ?_
 delta YE
 unfold Jt at hk
 simp only[go_sem,Nat.reduceAdd,h.e,xg]
 rw[show decide (s.e=0)=s.ok from rfl]
 cases ho:s.ok with
 |false=>
  rw[ho]at hk
  simp only[go_sem]
  exact hk _ (Kx.refl ..) h
 |true=>
  rw[ho]at hk
  obtain⟨v,tid,o,line,col,e0,e1,x1,x2,e2,e3,e4,e5⟩:=h.tok
  simp only[go_sem,Nat.reduceAdd,Nat.add_zero,e0,e1,e5,AN5]
  cases h with
  |mk hg he ht hp hl=>
   refine Em hg rfl rfl (by omega) (by show 2+3<=5;omega) λH1 g1 s1=>?_
   exact hk _ ⟨Nat.le_refl _,λid _ hb=>s1 id hb⟩ (.mk g1 (he.same λid hid=>by cases hid;exact s1 _ (by omega)) ht (λ_=>⟨x1,x2⟩) hl)
def wsC(ws:List Bs):CJ:=ws.map λw=>[sB w]
theorem APW(ws:List Bs):(wsC ws).length=ws.length:=List.length_map ..
theorem AMd{ws:List Bs}{i:Nat}(h:i<ws.length):(wsC ws)[i]? =some [sB ws[i]]:=by simp[wsC,h]
theorem AbH{ws:List Bs}{v:V}(h:ZR G H pb s)(hv:El G H v 1 (wsC ws))(hw:ws.length<=1000)(hk:k (.bool (WZ ws s)) H n):Runs F G Cm [.ptr pb 0,v] H n k:=by
 refine go2 (zx Aq G) ?_
 delta bV
 unfold WZ at hk
 simp only[go_sem,hv.len,APW]
 obtain⟨w,tid,o,line,col,e0,e1,x1,x2,e2,e3,e4,e5⟩:=h.tok
 obtain⟨R,hR⟩:∃R,(ws.any λw=>QX w s)=R:=⟨_,rfl⟩
 rw[hR]at hk
 refine CG (N:=ws.length) (J:=λj q=>q=(.ptr pb 0,v,.int .i64 (.ofNat ws.length) 0,.int .i64 (.ofNat j) 0,H,n)/\((ws.drop j).any λw=>QX w s)=R) ?_ ?_ ⟨rfl,hR⟩
 ·rintro I j q hlt ⟨rfl,hR⟩ ih
  show JG lfp G (Runs F G) k I (.ptr pb 0) v (.int .i64 (.ofNat ws.length) 0) (.int .i64 (.ofNat j) 0) H n
  delta JG
  obtain⟨p,hp,hld⟩:=hv.at (AMd hlt)
  rw[List.drop_eq_getElem_cons hlt,List.any_cons]at hR
  generalize ws[j]=m at hld hR
  simp only[go_sem,FP,hlt,decide_true,hp,Zz hld]
  refine AP2 h ?_
  have go1:QX m s=false->I (.ptr pb 0,v,.int .i64 (.ofNat ws.length) 0,.int .i64 (.ofNat (j+1)) 0,H,n):=λh1=>by
   rw[h1,Bool.false_or]at hR
   exact ih _ ⟨rfl,hR⟩
  have ej:=Vu (show j+1<9223372036854775808 by omega)
  cases h1:s.ok with
  |false=>
   repeat (first|with_reducible refine AJQ ?_|with_reducible refine AKM ?_|with_reducible refine xP ?_)
   simp only[go_sem,ej]
   exact go1 (by simp[QX,h1])
  |true=>
   simp only[go_sem,Nat.reduceAdd,Nat.add_zero,e0,e1,e3,xg]
   cases h2:decide (s.t.kind=1)with
   |true=>
    repeat (first|with_reducible refine uO ?_|with_reducible refine AKM ?_)
    simp only[go_sem,Nat.reduceAdd,Nat.add_zero,e0,e1,e4,AQv]
    cases h3:decide (s.t.text=m)with
    |true=>
     rw[show QX m s=true by simp[QX,h1,h2,h3],Bool.true_or]at hR
     subst hR
     simp only[go_sem];exact hk
    |false=>simp only[go_sem,ej];exact go1 (by simp[QX,h3])
   |false=>
    simp only[go_sem,Nat.reduceAdd,Nat.add_zero,e0,e1,e3,xg]
    cases h4:decide (s.t.kind=5)with
    |true=>
     simp only[go_sem,Nat.reduceAdd,Nat.add_zero,e0,e1,e4,AQv]
     cases h3:decide (s.t.text=m)with
     |true=>
      rw[show QX m s=true by simp[QX,h1,h4,h3],Bool.true_or]at hR
      subst hR
      simp only[go_sem];exact hk
     |false=>simp only[go_sem,ej];exact go1 (by simp[QX,h3])
    |false=>
     repeat (first|with_reducible refine AJQ ?_|with_reducible refine AKM ?_|with_reducible refine xP ?_|with_reducible refine AL4 ?_)
     simp only[go_sem,ej];exact go1 (by simp[QX,h2,h4])
 ·rintro I q ⟨rfl,hR⟩
  show JG lfp G (Runs F G) k I (.ptr pb 0) v (.int .i64 (.ofNat ws.length) 0) (.int .i64 (.ofNat ws.length) 0) H n
  delta JG
  rw[List.drop_eq_nil_of_le (Nat.le_refl _)]at hR
  subst hR
  simp only[go_sem,FP,Nat.lt_irrefl,decide_false]
  delta Qz
  exact hk
theorem ATG{l:LV}{i:Nat}{v:V}(h:l[i]? =some v):AU3 i (.agg l)=some v:=by
 show nth l i=_
 rw[kQ,h]
structure Fr(G:AV)(pb:Nat)(H0:Heap)(n0:Nat)(H:Heap)(n:Nat)(s:S):Prop where
 f:Kx pb H0 n0 H n
 p:ZR G H pb s
 b:pb<n0
theorem Fr.lt{H0:Heap}{n0:Nat}(x:Fr G pb H0 n0 H n s):pb<n:=Nat.lt_of_lt_of_le x.b x.f.le
theorem Fr.le{H0:Heap}{n0:Nat}(x:Fr G pb H0 n0 H n s):n0<=n:=x.f.le
theorem Fr.refl(h:ZR G H pb s)(hb:pb<n):Fr G pb H n H n s:=⟨Kx.refl ..,h,hb⟩
theorem Fr.al{H0:Heap}{n0:Nat}(x:Fr G pb H0 n0 H n s)(f:Kp H n H' n'):Fr G pb H0 n0 H' n' s:=⟨x.f.trans f.kx,x.p.kp f x.lt,x.b⟩
theorem Fr.st{H0:Heap}{n0 b:Nat}(x:Fr G pb H0 n0 H n s)(hb:n0<=b)(e:∀j,j≠b->T.get H' j=T.get H j):Fr G pb H0 n0 H' n s:=
 ⟨⟨x.f.le,λid hid hp=>(e id (by omega)).trans (x.f.same id hid hp)⟩,x.p.same λid hid=>e id (by have:=x.b;omega),x.b⟩
theorem Fr.tr{H0:Heap}{n0:Nat}(x:Fr G pb H0 n0 H n s)(y:Fr G pb H n H' n' s'):Fr G pb H0 n0 H' n' s':=⟨x.f.trans y.f,y.p,x.b⟩
theorem Fr.get{b:Nat}{L:LV}(y:Fr G pb H n H' n' s')(g:T.get H b=some (one L))(h1:b<n)(h2:pb<b):T.get H' b=some (one L):=y.f.get g h1 (by omega)
theorem Bf{m b:Nat}{L0 L:LV}{P:KV}(g:T.get H b=some (one L0))(h0:L0.length=m)(h1:L.length=m)(hm:0<m)(h:∀H',T.get H' b=some (one L)->(∀j,j≠b->T.get H' j=T.get H j)->P .undef H' n):
 Bd m (.ptr b 0) (.agg L) H n P:=by
 rw[IY g hm h0 h1];exact h _ (T.Au ..) λj hj=>T.Ad _ _ (Ne.symm hj)
theorem dn(h:ZR G H pb s)(hb:pb<n)(hm:Qj s=some s')(hk:∀H' n' line col,1<=line->1<=col->Fr G pb H n H' n' s'->k (.agg (UK s.t line col)) H' n'):Runs F G Cc [.ptr pb 0] H n k:=by
 refine go1 (rV Aq G) ?_
 delta Yk
 have x:=Fr.refl h hb
 refine Ar rfl λH1 f1 g1=>?_
 have x:=x.al f1
 obtain⟨v,tid,o,line,col,e0,e1,x1,x2,e2,e3,e4,e5⟩:=x.p.tok
 simp only[go_sem,Nat.reduceAdd,Nat.add_zero,e0,e1,e2]
 refine AZ6 rfl rfl (by omega) λH3 f3 g3=>?_
 have x:=x.al f3
 have g1:=f3.get g1 (by omega)
 have q0:Aa (.ptr (n+1) 0) G H3=some (.int .i64 (.ofNat s.t.kind) 0):=AX g3 rfl
 have fin:∀{H4:Heap},Fr G pb H n H4 (n+1+1) s'->T.get H4 n=some (one [.int .i64 (.ofNat 0) 0,.str 0 0,.int .i64 (.ofNat 0) 0,.int .i64 (.ofNat 0) 0,.int .i64 (.ofNat 0) 0])->T.get H4 (n+1)=some (one (UK s.t line col))->
  Hl lfp G (Runs F G) k (.ptr n 0) (.ptr (n+1) 0) H4 (n+1+1):=by
  intro H4 x g1 g3
  delta Hl
  rw[Aw (m:=5) g3 (by omega) rfl,AU]
  refine Bf g1 rfl rfl (by omega) λH5 g5 s5=>?_
  rw[BU (m:=5) g5 (by omega) rfl]
  simp only[go_sem]
  exact hk _ _ _ _ x1 x2 (x.st (Nat.le_refl _) s5)
 unfold Qj at hm
 simp only[go_sem,Nat.reduceAdd,q0,AAg]
 cases hd:decide (s.t.kind=0)with
 |true=>
  rw[hd]at hm
  cases hm
  simp only[Bool.not_true,go_sem]
  exact fin x g1 g3
 |false=>
  rw[hd,cond_false]at hm
  simp only[Bool.not_false,go_sem]
  have hp3:=x.p
  cases hp3 with
  |mk hg he ht hp hl=>
   rename_i tid off l1 c1 cs
   cases hr:s.r with
   |nil=>rw[hr]at hm;cases hm
   |cons t r=>
    rw[hr]at hm ht
    cases hm
    cases ht with
    |cons ha ht=>
     rename_i a cs
     have e0:Aa (.ptr pb 0) G H3=some (.G6 tid off (cs.length+1) 5):=AX hg rfl
     simp only[go_sem,Nat.reduceAdd,e0,AVt]
     refine Em hg rfl rfl (by omega) (by show 0+1<=5;omega) λH4 g4 s4=>?_
     refine fin ⟨⟨x.le,λid hid hp=>(s4 id hp).trans (x.f.same id hid hp)⟩,?_,hb⟩ ((s4 _ (by omega)).trans g1) ((s4 _ (by omega)).trans g3)
     exact .mk (s:={s with t:=t,r:=r}) g4 ((ARN he).same λid hid=>by cases yc hid;exact s4 _ (by omega)) ht hp hl
end
open Go.Bj
set_option maxRecDepth 100000
section
variable{G:AV}{H:Heap}{n pb:Nat}{s s':S}{k:KV}
theorem ABB{ws:List Bs}{m:Nat}{P:KV}{Z:LV}(hm:ws.length=m)(h:∀H',Kp H n H' (n+1)->El G H' (.sl n 0 m m 1) 1 (wsC ws)->P (.sl n 0 m m 1) H' (n+1)):CB (Aj 1 m Z (iP 0 (ws.map sB)) E0) H n P:=by
 refine Ld (G:=G) (vs:=ws.map sB) (by rw[List.length_map];exact hm) (by omega) (λv hv=>?_) λH' f _ hel=>h H' f ?_
 ·obtain⟨w,_,rfl⟩:=List.mem_map.1 hv;exact⟨rfl,rfl⟩
 ·rw[List.map_map]at hel;exact hel
theorem yO{ws:List Bs}{m:Nat}{P:KV}{Z:LV}(h:ZR G H pb s)(hb:pb<n)(hm:ws.length=m)(hw:ws.length<=1000)(hk:∀H' n',Fr G pb H n H' n' s->P (.bool (WZ ws s)) H' n'):
 CB (Aj 1 m Z (iP 0 (ws.map sB)) E0) H n λv H n=>Runs F G Cm [.ptr pb 0,v] H n P:=by
 refine ABB (G:=G) hm λH1 f1 hel=>?_
 have x:=(Fr.refl h hb).al f1
 exact AbH x.p hel hw (hk _ _ x)
theorem OI{w:Bs}{b:Bool}(h:ZR G H pb s)(hb:pb<n)(hm:Dk w s=some (b,s'))(hk:∀H' n',Fr G pb H n H' n' s'->k (.bool b) H' n'):Runs F G Am [.ptr pb 0,sB w] H n k:=by
 refine go2 (uQ Aq G) ?_
 delta YD
 refine yO (ws:=[w]) h hb rfl (by show 1<=1000;omega) λH1 n1 x=>?_
 unfold Dk at hm
 rw[show WZ [w] s=QX w s by simp[WZ]]
 cases ho:QX w s with
 |false=>
  rw[ho]at hm
  cases hm
  simp only[go_sem,Du,Bool.not_false]
  exact hk _ _ x
 |true=>
  rw[ho,cond_true,Option.bind_eq_some_iff]at hm
  obtain⟨s2,h2,hm⟩:=hm
  cases hm
  simp only[go_sem,Du,Bool.not_true]
  exact dn x.p x.lt h2 λH2 n2 _ _ _ _ y=>hk _ _ (x.tr y)
theorem AXL{ws:List Bs}{id o l c:Nat}(h:ZR G H pb s)(hb:pb<n)(hv:El G H (.sl id o l c 1) 1 (wsC ws))(hid:id<n)(hip:pb<id)(hw:ws.length<=1000)(hm:D7 ws s=some s')(hk:∀H' n',Fr G pb H n H' n' s'->k (.EI []) H' n'):
 Runs F G BK [.ptr pb 0,.sl id o l c 1] H n k:=by
 refine go2 (tu Aq G) ?_
 delta YH
 simp only[hv.len,APW,go_sem]
 refine CG (N:=ws.length) (J:=λj q=>∃H' n' t,q=(.ptr pb 0,.sl id o l c 1,.int .i64 (.ofNat ws.length) 0,.int .i64 (.ofNat j) 0,H',n')/\Fr G pb H n H' n' t/\D7 (ws.drop j) t=some s') ?_ ?_ ⟨H,n,s,rfl,Fr.refl h hb,hm⟩
 ·rintro I j q hlt ⟨H1,n1,t,rfl,x,hm⟩ ih
  show Hq lfp G (Runs F G) k I (.ptr pb 0) (.sl id o l c 1) (.int .i64 (.ofNat ws.length) 0) (.int .i64 (.ofNat j) 0) H1 n1
  delta Hq
  have hv1:El G H1 (.sl id o l c 1) 1 (wsC ws):=hv.same λi hi=>by cases JM hi;exact x.f.same id hid (by omega)
  obtain⟨p,hp,hld⟩:=hv1.at (AMd hlt)
  rw[List.drop_eq_getElem_cons hlt,show ∀(w:Bs) ws (s:S),D7 (w::ws) s=(Dk w s).bind λp=>D7 ws (bif p.1 then p.2 else Jt 21 p.2)from λ_ _ _=>rfl,Option.bind_eq_some_iff]at hm
  obtain⟨⟨b,t2⟩,h2,hm⟩:=hm
  have hm:D7 (ws.drop (j+1)) (bif b then t2 else Jt 21 t2)=some s':=hm
  generalize ws[j]=m at hld h2
  simp only[go_sem,FP,hlt,decide_true,hp,Zz hld]
  refine OI x.p x.lt h2 λH2 n2 y=>?_
  have x:=x.tr y
  simp only[go_sem,Du]
  cases b with
  |true=>
   simp only[go_sem,Bool.not_true]
   delta Hg
   simp only[go_sem,Vu (show j+1<9223372036854775808 by omega)]
   exact ih _ ⟨_,_,_,rfl,x,hm⟩
  |false=>
   simp only[go_sem,Bool.not_false]
   refine ARp x.p λH3 f3 p3=>?_
   delta Hg
   simp only[go_sem,Vu (show j+1<9223372036854775808 by omega)]
   exact ih _ ⟨_,_,_,rfl,⟨x.f.trans f3,p3,x.b⟩,hm⟩
 ·rintro I q ⟨H1,n1,t,rfl,x,hm⟩
  show Hq lfp G (Runs F G) k I (.ptr pb 0) (.sl id o l c 1) (.int .i64 (.ofNat ws.length) 0) (.int .i64 (.ofNat ws.length) 0) H1 n1
  delta Hq
  rw[List.drop_eq_nil_of_le (Nat.le_refl _)]at hm
  cases hm
  simp only[go_sem,FP,Nat.lt_irrefl,decide_false]
  exact hk _ _ x
theorem LW{ws:List Bs}{m:Nat}{P:KV}{Z:LV}(h:ZR G H pb s)(hb:pb<n)(hm:ws.length=m)(hw:ws.length<=1000)(he:D7 ws s=some s')(hk:∀H' n',Fr G pb H n H' n' s'->P (.EI []) H' n'):
 CB (Aj 1 m Z (iP 0 (ws.map sB)) E0) H n λv H n=>Runs F G BK [.ptr pb 0,v] H n P:=by
 refine ABB (G:=G) hm λH1 f1 hel=>?_
 have x:=(Fr.refl h hb).al f1
 exact AXL x.p x.lt hel (by omega) hb hw he λH2 n2 y=>hk _ _ (x.tr y)
theorem kJ{e:Nat}(h:ZR G H pb s)(hb:pb<n)(hk:∀H' n',Fr G pb H n H' n' (Jt e s)->k (.EI []) H' n'):Runs F G CS [.ptr pb 0,.int .i64 (.ofNat e) 0] H n k:=
 ARp h λH1 f p=>hk _ _ ⟨f,p,hb⟩
theorem dJ{kd:Nat}{l:Bs}(h:ZR G H pb s)(hb:pb<n)(hm:Jh kd s=some (l,s'))(hk:∀H' n',Fr G pb H n H' n' s'->k (sB l) H' n'):Runs F G DI [.ptr pb 0,.int .i64 (.ofNat kd) 0] H n k:=by
 refine go2 (uI Aq G) ?_
 delta YZ
 refine AP2 h ?_
 unfold Jh at hm
 have bad:Jh kd s=some ([],Jt 21 s)->Runs F G CS [.ptr pb 0,.int .i64 (.ofNat 21) 0] H n λ_ H n=>k (.str 0 0) H n:=λhb'=>by
  unfold Jh at hb'
  rw[hb']at hm
  cases hm
  exact kJ h hb λH1 n1 x=>hk _ _ x
 have good:(Qj s).bind (λs'=>some (s.t.text,s'))=some (l,s')->Runs F G Cc [.ptr pb 0] H n λv14 H n=>AP (AU3 1 v14) λv15=>k v15 H n:=λhm=>by
  rw[Option.bind_eq_some_iff]at hm
  obtain⟨s2,h2,hm⟩:=hm
  cases hm
  refine dn h hb h2 λH2 n2 line col _ _ y=>?_
  rw[ATG (show(UK s.t line col)[1]? =some (sB s.t.text)from rfl),AU]
  exact hk _ _ y
 obtain⟨v,tid,o,line,col,e0,e1,x1,x2,e2,e3,e4,e5⟩:=h.tok
 cases ho:s.ok with
 |false=>
  simp only[Du,Bool.not_false,go_sem]
  repeat (first|with_reducible refine uO ?_|with_reducible refine AKM ?_)
  exact bad (by unfold Jh;rw[ho];rfl)
 |true=>
  simp only[Du,Bool.not_true,go_sem,Nat.reduceAdd,Nat.add_zero,e0,e1,e3,AAg]
  cases hd:decide (s.t.kind=kd)with
  |false=>
   simp only[Bool.not_false,go_sem]
   exact bad (by unfold Jh;rw[ho,hd];rfl)
  |true=>
   rw[ho,hd]at hm
   simp only[Bool.not_true,go_sem]
   exact good hm
theorem AID(h:ZR G H pb s)(hb:pb<n)(hm:aY s=some s')(hk:∀H' n' q,Fr G pb H n H' n' s'->n<=q->q<n'->T.get H' q=some (one [.ptr pb 0])->k (.fn Bo [] [.ptr q 0]) H' n'):Runs F G Jo [.ptr pb 0] H n k:=by
 refine go1 (uF Aq G) ?_
 delta YO
 have x:=Fr.refl h hb
 refine APU rfl λH1 f1 g1=>?_
 have x:=x.al f1
 have g1:T.get H1 n=some (one [.ptr pb 0]):=g1
 have q1:Aa (.ptr n 0) G H1=some (.ptr pb 0):=AX g1 rfl
 unfold aY at hm
 cases hd:decide (s.deep<1000000)with
 |false=>rw[hd]at hm;cases hm
 |true=>
  rw[hd,cond_true]at hm
  have hd:=of_decide_eq_true hd
  simp only[go_sem,Nat.reduceAdd,q1,x.p.deep,Vu (show s.deep+1<9223372036854775808 by omega)]
  have hp1:=x.p
  cases hp1 with
  |mk hg he ht hp hl=>
   refine Em hg rfl rfl (by omega) (by show 1+1<=5;omega) λH2 g2 s2=>?_
   have q1:Aa (.ptr n 0) G H2=some (.ptr pb 0):=AX ((s2 n (by omega)).trans g1) rfl
   have p2:ZR G H2 pb {s with deep:=s.deep+1}:=.mk (s:={s with deep:=s.deep+1}) g2 (he.same λid hid=>by cases yc hid;exact s2 _ (by omega)) ht hp hl
   have x:Fr G pb H n H2 (n+1) {s with deep:=s.deep+1}:=⟨⟨x.le,λid hid hp=>(s2 id hp).trans (x.f.same id hid hp)⟩,p2,hb⟩
   have e2:Aa (.ptr pb 1) G H2=some (.int .i64 (.ofNat (s.deep+1)) 0):=p2.deep
   simp only[go_sem,Nat.reduceAdd,q1,e2,AAs]
   cases h100:decide (100<s.deep+1)with
   |false=>
    rw[h100]at hm
    cases hm
    simp only[go_sem]
    delta Hu
    exact hk _ _ n x (Nat.le_refl _) (by omega) ((s2 n (by omega)).trans g1)
   |true=>
    rw[h100]at hm
    cases hm
    simp only[go_sem,q1]
    refine kJ x.p x.lt λH3 n3 y=>?_
    delta Hu
    exact hk _ _ n (x.tr y) (Nat.le_refl _) (by have:=y.le;omega) (y.get ((s2 n (by omega)).trans g1) (by omega) hb)
theorem AUN{q:Nat}{P:Heap->Nat->Prop}(h:ZR G H pb s)(hb:pb<n)(hq:T.get H q=some (one [.ptr pb 0]))(hm:upS s=some s')(hk:∀H' n',Fr G pb H n H' n' s'->P H' n'):
 Oe Bo (xC (.EI [.fn Bo [] [.ptr q 0]])) (Runs F G) H n P:=by
 show EJ (Nat.beq Bo Bo) (Runs F G Bo [.ptr q 0] H n λ_ H n=>P H n)
 rw[show Nat.beq Bo Bo=true from Nat.beq_refl _,UF]
 generalize hk':(λ_ H n=>P H n:KV)=k
 refine go1 (kN Aq G) ?_
 delta V3
 subst hk'
 unfold upS at hm
 cases hd:s.deep with
 |zero=>rw[hd]at hm;cases hm
 |succ d=>
  rw[hd]at hm
  have hm:(bif decide (d<1000000)then some {s with deep:=d}else none)=some s':=hm
  cases hlt:decide (d<1000000)
  ·rw[hlt]at hm;cases hm
  rw[hlt,cond_true]at hm
  have hlt:=of_decide_eq_true hlt
  cases hm
  have q1:Aa (.ptr q 0) G H=some (.ptr pb 0):=AX hq rfl
  have q2:=h.deep
  rw[hd]at q2
  have hbig:d+1<9223372036854775808:=by omega
  simp only[go_sem,Nat.reduceAdd,q1,q2,AJN hbig]
  cases h with
  |mk hg he ht hp hl=>
   refine Em hg rfl rfl (by omega) (by show 1+1<=5;omega) λH2 g2 s2=>?_
   exact hk _ _ ⟨⟨Nat.le_refl _,λid hid hp=>s2 id hp⟩,.mk (s:={s with deep:=d}) g2 (he.same λid hid=>by cases yc hid;exact s2 _ (by omega)) ht hp hl,hb⟩
def tyC(t:Ty):LV:=[sB t.nm,.bool t.arr]
theorem ASn{z0 z1:V}(l:Bs):BN [z0,z1] [(0,1,.c (sB l))]=some (.agg [sB l,z1]):=rfl
theorem AEz{l:Bs}(hk:∀H',Kp H n H' (n+1)->k (.agg [sB l,.bool false]) H' (n+1)):Runs F G XV [sB l] H n k:=by
 refine go1 (AHK Aq G) ?_
 delta AGG
 simp only[go_sem,ASn]
 exact hk _ (((Kp.refl H n).new (m:=n+1) _ (Nat.le_refl _) (by omega)).new _ (Nat.le_refl _) (Nat.le_refl _))
theorem AQd(hk:∀H',Kp H n H' (n+1)->k (.agg [sB G5,.bool false]) H' (n+1)):Runs F G Lp [] H n k:=by
 refine go0 (AFO Aq G) ?_
 delta AB9
 simp only[AR6,go_sem,ASn]
 exact hk _ (((Kp.refl H n).new (m:=n+1) _ (Nat.le_refl _) (by omega)).new _ (Nat.le_refl _) (Nat.le_refl _))
theorem AMJ(hk:∀H',Kp H n H' (n+1)->k (.agg [sB AAI,.bool false]) H' (n+1)):Runs F G KO [] H n k:=by
 refine go0 (ADc Aq G) ?_
 delta zJ
 simp only[AMq,go_sem,ASn]
 exact hk _ (((Kp.refl H n).new (m:=n+1) _ (Nat.le_refl _) (by omega)).new _ (Nat.le_refl _) (Nat.le_refl _))
theorem AIk{m:Nat}(h:ZR G H pb s)(hb:pb<n)(hk:∀H' n',Fr G pb H n H' n' (Ls m s)->k (.EI []) H' n'):Runs F G Jg [.ptr pb 0,.int .i64 (.ofNat m) 0] H n k:=by
 refine go2 (rD Aq G) ?_
 delta YJ
 unfold Ls at hk
 simp only[go_sem,AAs]
 cases hd:decide (200<m)with
 |false=>rw[hd]at hk;simp only[go_sem];exact hk _ _ (Fr.refl h hb)
 |true=>rw[hd]at hk;simp only[go_sem];exact kJ h hb hk
theorem ASt{t:Ty}(h:ZR G H pb s)(hb:pb<n)(hm:ALU s=some (t,s'))(hk:∀H' n',Fr G pb H n H' n' s'->k (.agg (tyC t)) H' n'):Runs F G Rn [.ptr pb 0] H n k:=by
 refine go1 (tJ Aq G) ?_
 delta YU
 have x:=Fr.refl h hb
 refine Ar rfl λH1 f1 g1=>?_
 have x:=x.al f1
 unfold ALU at hm
 rw[Option.bind_eq_some_iff]at hm
 obtain⟨⟨b,s2⟩,h2,hm⟩:=hm
 have hm:(bif b then some (⟨G5,false⟩,s2)else(Dk AAI s2).bind λp=>bif p.1 then some (⟨AAI,false⟩,p.2)else(Jh 2 p.2).bind λp=>some (⟨p.1,false⟩,p.2))=some (t,s'):=hm
 rw[AR6,AMq]
 have fin:∀{H2:Heap} {n2:Nat} {l:Bs},Fr G pb H n H2 n2 s'->T.get H2 n=some (one [.str 0 0,.bool false])->t=⟨l,false⟩->Bd 2 (.ptr n 0) (.agg [sB l,.bool false]) H2 n2 λv4 H n_1=>EN (CP [.cn (.ptr n 0) 2] G H) λl=>k (EG l) H n_1:=by
  intro H2 n2 l x g ht
  subst ht
  refine Bf g rfl rfl (by omega) λH3 g3 s3=>?_
  rw[BU (m:=2) g3 (by omega) rfl]
  simp only[go_sem]
  exact hk _ _ (x.st (Nat.le_refl _) s3)
 refine OI x.p x.lt h2 λH2 n2 y=>?_
 have x:=x.tr y
 have g1:=y.get g1 (by omega) hb
 cases b with
 |true=>
  cases hm
  simp only[go_sem]
  exact AQd λH3 f3=>fin (x.al f3) (f3.get g1 (by have:=y.le;omega)) rfl
 |false=>
  rw[cond_false,Option.bind_eq_some_iff]at hm
  obtain⟨⟨b,s3⟩,h3,hm⟩:=hm
  simp only[go_sem]
  have hn:=y.le
  refine OI x.p x.lt h3 λH3 n3 y=>?_
  have x:=x.tr y
  have g1:=y.get g1 (by omega) hb
  have hn2:=y.le
  cases b with
  |true=>
   cases hm
   simp only[go_sem]
   exact AMJ λH3 f3=>fin (x.al f3) (f3.get g1 (by omega)) rfl
  |false=>
   rw[cond_false,Option.bind_eq_some_iff]at hm
   obtain⟨⟨l,s4⟩,h4,hm⟩:=hm
   cases hm
   simp only[go_sem]
   refine dJ x.p x.lt h4 λH4 n4 y=>?_
   have x:=x.tr y
   have g1:=y.get g1 (by omega) hb
   have hn3:=y.le
   exact AEz λH3 f3=>fin (x.al f3) (f3.get g1 (by omega)) rfl
theorem AOM{t:Ty}(h:ZR G H pb s)(hb:pb<n)(hm:wV s=some (t,s'))(hk:∀H' n',Fr G pb H n H' n' s'->k (.agg (tyC t)) H' n'):Runs F G KQ [.ptr pb 0] H n k:=by
 refine go1 (yD Aq G) ?_
 delta ZA
 have x:=Fr.refl h hb
 refine Ar rfl λH1 f1 g1=>?_
 have x:=x.al f1
 unfold wV at hm
 rw[Option.bind_eq_some_iff]at hm
 obtain⟨⟨t1,s2⟩,h2,hm⟩:=hm
 rw[Option.bind_eq_some_iff]at hm
 obtain⟨⟨b,s3⟩,h3,hm⟩:=hm
 have hm:(bif b then(D7 [ACm] s3).bind λs=>some ((⟨t1.nm,true⟩:Ty),s)else some (t1,s3))=some (t,s'):=hm
 refine ASt x.p x.lt h2 λH2 n2 y=>?_
 have x:=x.tr y
 have g1:=y.get g1 (by omega) hb
 have hn:=y.le
 refine Ar rfl λH3 f3 g3=>?_
 have x:=x.al f3
 have g1:=f3.get g1 (by omega)
 refine Bf (L:=tyC t1) g3 rfl rfl (by omega) λH4 g3 s4=>?_
 have x:=x.st (by omega) s4
 have g1:=(s4 n (by omega)).trans g1
 have fin:∀{H5:Heap} {n5:Nat},Fr G pb H n H5 n5 s'->T.get H5 n=some (one [.str 0 0,.bool false])->T.get H5 n2=some (one (tyC t))->Ii lfp G (Runs F G) k (.ptr n 0) (.ptr n2 0) H5 n5:=by
  intro H5 n5 x g1 g3
  delta Ii
  rw[Aw (m:=2) g3 (by omega) rfl,AU]
  refine Bf g1 rfl rfl (by omega) λH6 g6 s6=>?_
  rw[BU (m:=2) g6 (by omega) rfl]
  simp only[go_sem]
  exact hk _ _ (x.st (Nat.le_refl _) s6)
 rw[Ac1]
 refine OI x.p x.lt h3 λH5 n5 y=>?_
 have x:=x.tr y
 have g1:=y.get g1 (by omega) hb
 have g3:=y.get g3 (by omega) (by omega)
 have hn5:=y.le
 cases b with
 |false=>
  cases hm
  simp only[go_sem]
  exact fin x g1 g3
 |true=>
  rw[cond_true,Option.bind_eq_some_iff]at hm
  obtain⟨s4,h4,hm⟩:=hm
  cases hm
  simp only[go_sem]
  refine LW (ws:=[ACm]) x.p x.lt rfl (by show 1<=1000;omega) h4 λH6 n6 y=>?_
  have x:=x.tr y
  have g1:=y.get g1 (by omega) hb
  have g3:=y.get g3 (by omega) (by omega)
  refine Em g3 rfl rfl (by omega) (by show 1+1<=2;omega) λH7 g7 s7=>?_
  exact fin (x.st (by omega) s7) ((s7 n (by omega)).trans g1) g7
end
end Go.PQ
