/- Part of a proof; nothing is assumed. -/
import Derived.Test.YtldgkimnlbkddaaGreatDoorLawA
import Derived.Test.YtldgkimnlbkddaaGreatDoorCode
import Derived.Test.YtldgkimnlbkddaaGreatDoorRows
import Derived.LaidMore
import Derived.SevenTiedAt
set_option linter.unusedVariables false
set_option linter.unusedSimpArgs false
namespace Go.RL
open Go.Bf
def tab:LV:=[.str 0 0,.int .i32 (.ofNat 0) 0,.str 3 7630441,.int .i32 (.ofNat 110) 0,.str 4 1819047278,.int .i32 (.ofNat 0) 0,.str 5 465490374508,.int .i32 (.ofNat 108) 0,.str 5 435711603827,.int .i32 (.ofNat 108) 0,.str 3 6579297,.int .i32 (.ofNat 0) 0,.str 3 6452595,.int .i32 (.ofNat 0) 0,.str 3 7107949,.int .i32 (.ofNat 0) 0,.str 3 7760228,.int .i32 (.ofNat 0) 0,.str 3 6582125,.int .i32 (.ofNat 0) 0,.str 4 1936942444,.int .i32 (.ofNat 0) 0,.str 4 1953722221,.int .i32 (.ofNat 0) 0,.str 4 1701667187,.int .i32 (.ofNat 0) 0,.str 5 491327616111,.int .i32 (.ofNat 0) 0,.str 3 6776174,.int .i32 (.ofNat 0) 0,.str 3 7630702,.int .i32 (.ofNat 0) 0,.str 3 7628135,.int .i32 (.ofNat 102) 0,.str 3 7632240,.int .i32 (.ofNat 102) 0,.str 3 7824750,.int .i32 (.ofNat 99) 0,.str 5 521325933153,.int .i32 (.ofNat 116) 0,.str 4 1684107116,.int .i32 (.ofNat 116) 0,.str 4 1702257011,.int .i32 (.ofNat 116) 0,.str 6 114849160783212,.int .i32 (.ofNat 0) 0,.str 4 1953718627,.int .i32 (.ofNat 99) 0,.str 2 29545,.int .i32 (.ofNat 99) 0,.str 4 1819042147,.int .i32 (.ofNat 109) 0,.str 6 109304575259763,.int .i32 (.ofNat 109) 0,.str 4 1886221674,.int .i32 (.ofNat 106) 0,.str 6 126939460038261,.int .i32 (.ofNat 106) 0,.str 6 121437875889522,.int .i32 (.ofNat 0) 0,.str 5 500068610672,.int .i32 (.ofNat 0) 0,.str 3 7368560,.int .i32 (.ofNat 0) 0,.str 4 1819242338,.int .i32 (.ofNat 98) 0]
theorem Acg:∀c,c<33->(tab.drop (c*2+1)).take 1=[V.int .i32 (.ofNat (APg.getD c 0)) 0]:=λc d=>
 match c,d with
 |0,_=>rfl
 |1,_=>rfl
 |2,_=>rfl
 |3,_=>rfl
 |4,_=>rfl
 |5,_=>rfl
 |6,_=>rfl
 |7,_=>rfl
 |8,_=>rfl
 |9,_=>rfl
 |10,_=>rfl
 |11,_=>rfl
 |12,_=>rfl
 |13,_=>rfl
 |14,_=>rfl
 |15,_=>rfl
 |16,_=>rfl
 |17,_=>rfl
 |18,_=>rfl
 |19,_=>rfl
 |20,_=>rfl
 |21,_=>rfl
 |22,_=>rfl
 |23,_=>rfl
 |24,_=>rfl
 |25,_=>rfl
 |26,_=>rfl
 |27,_=>rfl
 |28,_=>rfl
 |29,_=>rfl
 |30,_=>rfl
 |31,_=>rfl
 |32,_=>rfl
 |n+33,h=>absurd h (by omega)
end Go.RL
namespace Go.Proofs.YtldgkimnlbkddaaGreatDoor
open Go Go.Bf Go.ChangeShapes Go.WideShapes Go.RowKit
set_option maxRecDepth 100000
theorem AhP:ownKnob Tryz.prog.godebug=none:=by kernel_rfl
theorem AaF:Tryz.prog.globalNamed "kiln/op.shapes" =some 0:=by kernel_rfl
theorem AZI:(Tryz.prog.globals[0]?).map (·.type)=some 229:=by kernel_rfl
theorem AdL:Tryz.prog.globalNamed "kiln/lex.marks" =some 1:=by kernel_rfl
theorem Ad6:(Tryz.prog.globals[1]?).map (·.type)=some 242:=by kernel_rfl
theorem laidOut:laidOutB Tryz.prog=true:=by kernel_rfl
theorem AQz:AG7 Tryz.prog 5 229=true:=by kernel_rfl
theorem AR7:pO 5 (Rows.laid_kiln_op_shapes (H:=Unit))=some Go.RL.tab:=by kernel_rfl
theorem AS5:AG7 Tryz.prog 5 242=true:=by kernel_rfl
theorem AVH:pO 5 (Rows.laid_kiln_lex_marks (H:=Unit))=some Go.RL.AG5:=by kernel_rfl
abbrev AY3:List (String×DataW Unit):=[("kiln/op.shapes",Rows.laid_kiln_op_shapes),("kiln/lex.marks",Rows.laid_kiln_lex_marks)]
theorem of_laid{W:World}(h:laidMetH Tryz.prog AY3 W):Go.RL.zX (O9 W)/\Go.RL.AFE (O9 W):=by
 rw[MakeChecks.laidMetH_plain _ _ _ (by kernel_rfl)]at h
 obtain⟨F,⟨G,H,w,x,I,q0,d,g,k,hd0,⟨J,K,y,A,L,q1,f,m,p,q,_,_⟩,_⟩,_,_⟩:=h
 obtain rfl:=Option.some.inj (AaF.symm.trans d)
 obtain rfl:=Option.some.inj (AZI.symm.trans g)
 obtain rfl:=Option.some.inj (AdL.symm.trans f)
 obtain rfl:=Option.some.inj (Ad6.symm.trans m)
 obtain⟨B,C⟩:=rV x hd0 AR7 AQz
 obtain⟨u,v⟩:=rV A q AVH AS5
 have M:Go.RL.tab.length=66:=rfl
 have D:Go.RL.AG5.length=22:=rfl
 refine⟨λc E=>?_,?_⟩
 ·rw[AKU (tab:=Go.RL.tab) (λi=>by have:=World.var?_cell d k i;simpa using this) B C (by rfl) (by omega)]
  rw[Go.RL.Acg c E]
 ·show O9 W 1 0 22=_
  rw[AKU (tab:=Go.RL.AG5) (λi=>by have:=World.var?_cell f p i;simpa using this) u v (by rfl) (by omega)]
  rfl
theorem door_met(os:Os)(args:Array Value):laidMetH Tryz.prog AY3 ((World.doorLaid Tryz.prog 400 os).forCall (λ_ _=>0) ⟨#[],args,[]⟩).memory:=
 laidMetH_of_parts3 (fuel:=8) (laidMet_of_run' 8 (by kernel_rfl) (by kernel_rfl)) (by kernel_rfl) (by kernel_rfl)
theorem AYb{t:TypeId}(h:t=22∨t=2∨t=3):Tryz.prog.wantsStandIn t=false:=by
 rcases h with h|h|h<;>subst h<;>kernel_rfl
theorem ATH:zY Tryz.prog 12 22=some (.sl 10 Go.RL.ASQ):=by kernel_rfl
theorem AZq{P:Program}{w:World}{r:Reach}{base:Nat}{t e:TypeId}{v:Value}(d:P.underlying t=some (.slice e))(h:Value.okWide P w r base t v):
 v.cells.toList=[v]:=by
 unfold Value.okWide at h
 rw[d]at h
 have f:Cell.okWide P w r base t v:=h
 unfold Cell.okWide at f
 rw[d]at f
 have g:Cell.ok P w r base t v:=by
  cases v<;>exact f
 unfold Cell.ok at g
 rw[d]at g
 cases v with
 |slice a l c=>rfl
 |_=>exact(show False from g).elim
theorem AWc{H:Type}{enc:TypeId×Value->H}{W:World}{r:Reach}{k:Nat}{f:Value}{m:DataW H}{p:List MemPlace}(q:Value.okWide Tryz.prog W r k 22 f)(u:DataW.Trod enc Tryz.prog W 0 (λ_=>true) true 22 f m p):
 ∃d:List Go.RL.Fl,RSl (toV f) d.length/\∀H n,Go.RL.WI (O9 W) H n (toV f) d:=by
 obtain⟨g,i⟩:=u
 rw[AZq Tryz.underlying22 q]at i
 obtain⟨v,d,e,w,x⟩:=Go.RL.ASk (AGq g i ATH).1
 have e:toV f=v:=by injection e
 subst e
 exact⟨d,w,x⟩
end Go.Proofs.YtldgkimnlbkddaaGreatDoor
