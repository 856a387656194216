/- Part of a proof; nothing is assumed. -/
import Derived.Test.YtcjkfmaoahojeaaGreatDoorLawA
import Derived.Test.YtcjkfmaoahojeaaGreatDoorCode
import Derived.Test.YtcjkfmaoahojeaaGreatDoorWalk
import Derived.Test.YtcjkfmaoahojeaaGreatDoorConE
import Derived.Test.YtcjkfmaoahojeaaGreatDoorRows
import Derived.LaidMore
import Derived.SevenTiedAt
set_option linter.unusedVariables false
set_option linter.unusedSimpArgs false
namespace Go.PQ
open Go.Eng
def ANa:LV:=(List.range 20).map λi=>.int .u64 (.ofNat (10^i)) 0
theorem ASP:∀i,i<20->(ANa.drop i).take 1=[V.int .u64 (.ofNat (10^i)) 0]:=λi h=>by
 have hl:i<ANa.length:=h
 rw[List.drop_eq_getElem_cons hl]
 simp[ANa]
end Go.PQ
namespace Go.Proofs.YtcjkfmaoahojeaaGreatDoor
open Go Go.Eng Go.ChangeShapes Go.WideShapes Go.RowKit
set_option maxRecDepth 100000
theorem Aaz:ownKnob Tryz.prog.godebug=none:=by kernel_rfl
theorem AV1:Tryz.prog.globalNamed "kiln/lex.marks" =some 0:=by kernel_rfl
theorem AXl:(Tryz.prog.globals[0]?).map (·.type)=some 112:=by kernel_rfl
theorem AbK:Tryz.prog.globalNamed "internal/strconv.uint64pow10" =some 2:=by kernel_rfl
theorem AaP:(Tryz.prog.globals[2]?).map (·.type)=some 148:=by kernel_rfl
theorem laidOut:laidOutB Tryz.prog=true:=by kernel_rfl
theorem ALB:ABi Tryz.prog 5 112=true:=by kernel_rfl
theorem ANX:gZ 5 (Rows.laid_kiln_lex_marks (H:=Unit))=some (Go.PQ.FM.map sB):=by kernel_rfl
theorem APY:ABi Tryz.prog 5 148=true:=by kernel_rfl
theorem AR5:gZ 5 (Rows.laid_internal_strconv_uint64pow10 (H:=Unit))=some Go.PQ.ANa:=by kernel_rfl
abbrev APH:List (String×DataW Unit):=[("math/bits.deBruijn32tab",Rows.laid_math_bits_deBruijn32tab),("math/bits.deBruijn64tab",Rows.laid_math_bits_deBruijn64tab),("internal/strconv.uint64pow10",Rows.laid_internal_strconv_uint64pow10),("kiln/lex.marks",Rows.laid_kiln_lex_marks)]
theorem of_laid{W:World}(h:laidMetH Tryz.prog APH W):Go.PQ.X4 (Ql W)/\Go.PQ.kM (Ql W):=by
 rw[MakeChecks.laidMetH_plain _ _ _ (by kernel_rfl)]at h
 obtain⟨ps,⟨_,_,_,_,_,_,_,_,_,_,⟨_,_,_,_,_,_,_,_,_,_,⟨g1,t1,cs1,f1,p1,q1,hg1,ht1,hv1,hd1,⟨g0,t0,cs0,f0,p0,q0,hg0,ht0,hv0,hd0,_,_⟩,_⟩,_⟩,_⟩,_,_⟩:=h
 obtain rfl:=Option.some.inj (AV1.symm.trans hg0)
 obtain rfl:=Option.some.inj (AXl.symm.trans ht0)
 obtain rfl:=Option.some.inj (AbK.symm.trans hg1)
 obtain rfl:=Option.some.inj (AaP.symm.trans ht1)
 obtain⟨hr,h1⟩:=jP f0 hd0 ANX ALB
 obtain⟨hr',h1'⟩:=jP f1 hd1 AR5 APY
 refine⟨?_,λi hi=>?_⟩
 ·have hl:(Go.PQ.FM.map sB).length=22:=rfl
  show Ql W 0 0 22=_
  rw[AEv (tab:=Go.PQ.FM.map sB) (λi=>by have:=World.var?_cell hg0 hv0 i;simpa using this) hr h1 (by rfl) (by omega)]
  rfl
 ·have hl:Go.PQ.ANa.length=20:=rfl
  rw[AEv (tab:=Go.PQ.ANa) (λi=>by have:=World.var?_cell hg1 hv1 i;simpa using this) hr' h1' (by rfl) (by omega),Go.PQ.ASP i hi]
theorem door_met(os:Os)(args:Array Value):laidMetH Tryz.prog APH ((World.doorLaid Tryz.prog 400 os).forCall (λ_ _=>0) ⟨#[],args,[]⟩).memory:=
 laidMetH_of_parts3 (fuel:=8) (laidMet_of_run' 8 (by kernel_rfl) (by kernel_rfl)) (by kernel_rfl) (by kernel_rfl)
theorem ASe{t:TypeId}(h:t=3∨t=27):Tryz.prog.wantsStandIn t=false:=by
 rcases h with h|h<;>subst h<;>kernel_rfl
theorem AYo:∀t∈[2,3,4,9,23,24,25,27,45,47,48,50,53,55,59,85,87],ARn Tryz.prog [2,3,4,9,23,24,25,27,45,47,48,50,53,55,59,85,87] t=true:=λt ht=>
 List.all_eq_true.1 (show List.all [2,3,4,9,23,24,25,27,45,47,48,50,53,55,59,85,87] (λt=>ARn Tryz.prog [2,3,4,9,23,24,25,27,45,47,48,50,53,55,59,85,87] t)=true by kernel_rfl) t ht
section
variable{P:Program}{G:AV}{d t:Nat}{L:LV}
theorem zG{k:IntKind}(hu:P.underlying t=some (.int k))(h:UC P G d t L):∃n,L=[.int k n 0]:=by
 cases d with
 |zero=>exact h.elim
 |succ d=>unfold UC at h;rw[hu]at h;exact h
theorem AIT(hu:P.underlying t=some .bool)(h:UC P G d t L):∃b,L=[.bool b]:=by
 cases d with
 |zero=>exact h.elim
 |succ d=>unfold UC at h;rw[hu]at h;exact h
theorem dN(hu:P.underlying t=some .string)(h:UC P G d t L):∃s:List UInt8,s.length<=reachBytes/\L=[sB s]:=by
 cases d with
 |zero=>exact h.elim
 |succ d=>unfold UC at h;rw[hu]at h;exact h
theorem qV{e:TypeId}{z:Nat}(hu:P.underlying t=some (.slice e))(hz:P.cellsOf e=z)(h:UC P G d t L):∃d' v LS,d=d'+1/\L=[v]/\BU v v=true/\(∀H,El G H v z LS)/\LS.length<9223372036854775808/\∀L∈LS,UC P G d' e L:=by
 cases d with
 |zero=>exact h.elim
 |succ d=>
  unfold UC at h;rw[hu]at h
  obtain⟨v,LS,h1,h2,h3,h4,h5⟩:=h
  subst hz
  refine⟨d,v,LS,rfl,h1,?_,h3,by unfold maxLen at h4;omega,λL hL=>(h5 L hL).2⟩
  rcases h2 with⟨rfl,_⟩|⟨b,o,c,rfl,_⟩
  ·rfl
  ·show PL (.rsl b o LS.length c 0) (.rsl b o LS.length c 0)=true
   simp[PL,AM1,CU]
theorem vY{fs:Array Field}(hu:P.underlying t=some (.struct fs))(h:UC P G d t L):∃d',d=d'+1/\AEI (UC P G d') (fs.toList.map (·.type)) L:=by
 cases d with
 |zero=>exact h.elim
 |succ d=>unfold UC at h;rw[hu]at h;exact⟨d,rfl,h⟩
end
section
variable{G:AV}{d:Nat}{L:LV}
theorem ADH(h:UC Tryz.prog G d 23 L):∃a b,L=[.int .i64 a 0,.int .i64 b 0]:=by
 obtain⟨d',rfl,h⟩:=vY Tryz.underlying23 h
 have h:AEI (UC Tryz.prog G d') [3,3] L:=h
 obtain⟨L0,R0,rfl,h0,L1,R1,rfl,h1,h2⟩:=h
 have h2:R1=[]:=h2
 subst h2
 obtain⟨a,rfl⟩:=zG Tryz.underlying3 h0
 obtain⟨b,rfl⟩:=zG Tryz.underlying3 h1
 exact⟨a,b,rfl⟩
theorem AEe(h:UC Tryz.prog G d 47 L):∃(s:List UInt8) (b:Bool),s.length<=reachBytes/\L=[sB s,.bool b]:=by
 obtain⟨d',rfl,h⟩:=vY Tryz.underlying47 h
 have h:AEI (UC Tryz.prog G d') [9,4] L:=h
 obtain⟨L0,R0,rfl,h0,L1,R1,rfl,h1,h2⟩:=h
 have h2:R1=[]:=h2
 subst h2
 obtain⟨a,ha,rfl⟩:=dN Tryz.underlying9 h0
 obtain⟨b,rfl⟩:=AIT Tryz.underlying4 h1
 exact⟨a,b,ha,rfl⟩
theorem cells50:Tryz.prog.cellsOf 50=11:=by kernel_rfl
theorem AHB:Tryz.prog.cellsOf 87=9:=by kernel_rfl
theorem cells55:Tryz.prog.cellsOf 55=8:=by kernel_rfl
theorem cells59:Tryz.prog.cellsOf 59=3:=by kernel_rfl
theorem jR{n:Nat}(h:n<=reachBytes):n<=Go.PQ.bigS:=by unfold reachBytes at h;unfold Go.PQ.bigS;omega
theorem AZT:∀(N d:Nat) (L:LV),d<=N->UC Tryz.prog G d 50 L->Go.PQ.XE G L:=by
 intro N
 induction N with
 |zero=>
  intro d L hd h
  obtain rfl:d=0:=by omega
  exact h.elim
 |succ N ih=>
  intro d L hd h
  obtain⟨d',rfl,h⟩:=vY Tryz.underlying50 h
  have h:AEI (UC Tryz.prog G d') [45,23,2,9,47,48,47,9] L:=h
  obtain⟨L0,R0,rfl,h0,L1,R1,rfl,h1,L2,R2,rfl,h2,L3,R3,rfl,h3,L4,R4,rfl,h4,L5,R5,rfl,h5,L6,R6,rfl,h6,L7,R7,rfl,h7,h8⟩:=h
  have h8:R7=[]:=h8
  subst h8
  obtain⟨kd,rfl⟩:=zG Tryz.underlying45 h0
  obtain⟨l,c,rfl⟩:=ADH h1
  obtain⟨nu,rfl⟩:=zG Tryz.underlying2 h2
  obtain⟨nm,hn,rfl⟩:=dN Tryz.underlying9 h3
  obtain⟨ty,ar,ht,rfl⟩:=AEe h4
  obtain⟨d2,v,LS,rfl,rfl,_,hel,hl,hk⟩:=qV Tryz.underlying48 cells50 h5
  obtain⟨t2,a2,_,rfl⟩:=AEe h6
  obtain⟨n3,_,rfl⟩:=dN Tryz.underlying9 h7
  exact .mk (jR hn) (jR ht) hel hl λM hM=>ih d2 M (by omega) (hk M hM)
theorem AZa:∀(N d:Nat) (L:LV),d<=N->UC Tryz.prog G d 87 L->Go.PQ.XS G L:=by
 intro N
 induction N with
 |zero=>
  intro d L hd h
  obtain rfl:d=0:=by omega
  exact h.elim
 |succ N ih=>
  intro d L hd h
  obtain⟨d',rfl,h⟩:=vY Tryz.underlying87 h
  have h:AEI (UC Tryz.prog G d') [85,23,9,47,48,53,53] L:=h
  obtain⟨L0,R0,rfl,h0,L1,R1,rfl,h1,L2,R2,rfl,h2,L3,R3,rfl,h3,L4,R4,rfl,h4,L5,R5,rfl,h5,L6,R6,rfl,h6,h8⟩:=h
  have h8:R6=[]:=h8
  subst h8
  obtain⟨does,rfl⟩:=zG Tryz.underlying85 h0
  obtain⟨l,c,rfl⟩:=ADH h1
  obtain⟨nm,hn,rfl⟩:=dN Tryz.underlying9 h2
  obtain⟨ty,ar,ht,rfl⟩:=AEe h3
  obtain⟨d2,ve,es,rfl,rfl,_,hel,hl,hk⟩:=qV Tryz.underlying48 cells50 h4
  obtain⟨d3,vt,ts,e3,rfl,_,hel3,hl3,hk3⟩:=qV Tryz.underlying53 AHB h5
  obtain⟨d4,vl,ls,e4,rfl,_,hel4,hl4,hk4⟩:=qV Tryz.underlying53 AHB h6
  exact .mk (jR hn) (jR ht) hel hl (λM hM=>AZT _ _ M (Nat.le_refl _) (hk M hM)) hel3 hl3 (λM hM=>ih d3 M (by omega) (hk3 M hM)) hel4 hl4 λM hM=>ih d4 M (by omega) (hk4 M hM)
theorem AU2(h:UC Tryz.prog G d 59 L):Go.PQ.XV L:=by
 obtain⟨d',rfl,h⟩:=vY Tryz.underlying59 h
 have h:AEI (UC Tryz.prog G d') [9,47] L:=h
 obtain⟨L0,R0,rfl,h0,L1,R1,rfl,h1,h2⟩:=h
 have h2:R1=[]:=h2
 subst h2
 obtain⟨nm,hn,rfl⟩:=dN Tryz.underlying9 h0
 obtain⟨ty,ar,ht,rfl⟩:=AEe h1
 exact .mk (jR hn) (jR ht)
theorem AYb(h:UC Tryz.prog G d 55 L):Go.PQ.XM G L:=by
 obtain⟨d',rfl,h⟩:=vY Tryz.underlying55 h
 have h:AEI (UC Tryz.prog G d') [23,9,4,24,47,53] L:=h
 obtain⟨L0,R0,rfl,h0,L1,R1,rfl,h1,L2,R2,rfl,h2,L3,R3,rfl,h3,L4,R4,rfl,h4,L5,R5,rfl,h5,h8⟩:=h
 have h8:R5=[]:=h8
 subst h8
 obtain⟨l,c,rfl⟩:=ADH h0
 obtain⟨nm,hn,rfl⟩:=dN Tryz.underlying9 h1
 obtain⟨st,rfl⟩:=AIT Tryz.underlying4 h2
 obtain⟨d2,vp,ps,rfl,rfl,kp,hel,hl,hk⟩:=qV Tryz.underlying24 cells59 h3
 obtain⟨ty,ar,ht,rfl⟩:=AEe h4
 obtain⟨d3,vb,bs,e3,rfl,kb,hel3,hl3,hk3⟩:=qV Tryz.underlying53 AHB h5
 exact .mk (jR hn) (jR ht) hel hl (λM hM=>AU2 (hk M hM)) kp hel3 hl3 (λM hM=>AZa _ _ M (Nat.le_refl _) (hk3 M hM)) kb
theorem AZu(h:UC Tryz.prog G d 27 L):Go.PQ.XC G L:=by
 obtain⟨d',rfl,h⟩:=vY Tryz.underlying27 h
 have h:AEI (UC Tryz.prog G d') [23,9,9,24,25] L:=h
 obtain⟨L0,R0,rfl,h0,L1,R1,rfl,h1,L2,R2,rfl,h2,L3,R3,rfl,h3,L4,R4,rfl,h4,h8⟩:=h
 have h8:R4=[]:=h8
 subst h8
 obtain⟨l,c,rfl⟩:=ADH h0
 obtain⟨nm,hn,rfl⟩:=dN Tryz.underlying9 h1
 obtain⟨sup,hs,rfl⟩:=dN Tryz.underlying9 h2
 obtain⟨d2,vf,fs,rfl,rfl,_,hel,hl,hk⟩:=qV Tryz.underlying24 cells59 h3
 obtain⟨d3,vm,ms,e3,rfl,_,hel3,hl3,hk3⟩:=qV Tryz.underlying25 cells55 h4
 exact .mk (jR hn) (by unfold reachBytes at hs;omega) hel hl (λM hM=>AU2 (hk M hM)) hel3 hl3 (λM hM=>AYb (hk3 M hM))
end
end Go.Proofs.YtcjkfmaoahojeaaGreatDoor
