/- Part of a proof; nothing is assumed. -/
import Derived.Test.YtibbhhkcjjeclaaDoorArgs
import Derived.Test.YtibbhhkcjjeclaaDoorCode
import Derived.Test.YtibbhhkcjjeclaaDoorConA
import Derived.Test.YtibbhhkcjjeclaaDoorRows
import Derived.LaidMore
import Derived.SevenTiedAt
set_option linter.unusedVariables false
set_option linter.unusedSimpArgs false
namespace Go.RL
open Go.Bh
def tab:LV:=[.str 0 0,.int .i32 (.ofNat 0) 0,.str 3 7630441,.int .i32 (.ofNat 110) 0,.str 4 1819047278,.int .i32 (.ofNat 0) 0,.str 5 465490374508,.int .i32 (.ofNat 108) 0,.str 5 435711603827,.int .i32 (.ofNat 108) 0,.str 3 6579297,.int .i32 (.ofNat 0) 0,.str 3 6452595,.int .i32 (.ofNat 0) 0,.str 3 7107949,.int .i32 (.ofNat 0) 0,.str 3 7760228,.int .i32 (.ofNat 0) 0,.str 3 6582125,.int .i32 (.ofNat 0) 0,.str 4 1936942444,.int .i32 (.ofNat 0) 0,.str 4 1953722221,.int .i32 (.ofNat 0) 0,.str 4 1701667187,.int .i32 (.ofNat 0) 0,.str 5 491327616111,.int .i32 (.ofNat 0) 0,.str 3 6776174,.int .i32 (.ofNat 0) 0,.str 3 7630702,.int .i32 (.ofNat 0) 0,.str 3 7628135,.int .i32 (.ofNat 102) 0,.str 3 7632240,.int .i32 (.ofNat 102) 0,.str 3 7824750,.int .i32 (.ofNat 99) 0,.str 5 521325933153,.int .i32 (.ofNat 116) 0,.str 4 1684107116,.int .i32 (.ofNat 116) 0,.str 4 1702257011,.int .i32 (.ofNat 116) 0,.str 6 114849160783212,.int .i32 (.ofNat 0) 0,.str 4 1953718627,.int .i32 (.ofNat 99) 0,.str 2 29545,.int .i32 (.ofNat 99) 0,.str 4 1819042147,.int .i32 (.ofNat 109) 0,.str 6 109304575259763,.int .i32 (.ofNat 109) 0,.str 4 1886221674,.int .i32 (.ofNat 106) 0,.str 6 126939460038261,.int .i32 (.ofNat 106) 0,.str 6 121437875889522,.int .i32 (.ofNat 0) 0,.str 5 500068610672,.int .i32 (.ofNat 0) 0,.str 3 7368560,.int .i32 (.ofNat 0) 0,.str 4 1819242338,.int .i32 (.ofNat 98) 0]
theorem AQA:∀c,c<33->(tab.drop (c*2+1)).take 1=[V.int .i32 (.ofNat (AE5.getD c 0)) 0]:=λc hc=>
 match c,hc with
 |0,_=>rfl
 |1,_=>rfl
 |2,_=>rfl
 |3,_=>rfl
 |4,_=>rfl
 |5,_=>rfl
 |6,_=>rfl
 |7,_=>rfl
 |8,_=>rfl
 |9,_=>rfl
 |10,_=>rfl
 |11,_=>rfl
 |12,_=>rfl
 |13,_=>rfl
 |14,_=>rfl
 |15,_=>rfl
 |16,_=>rfl
 |17,_=>rfl
 |18,_=>rfl
 |19,_=>rfl
 |20,_=>rfl
 |21,_=>rfl
 |22,_=>rfl
 |23,_=>rfl
 |24,_=>rfl
 |25,_=>rfl
 |26,_=>rfl
 |27,_=>rfl
 |28,_=>rfl
 |29,_=>rfl
 |30,_=>rfl
 |31,_=>rfl
 |32,_=>rfl
 |n+33,h=>absurd h (by omega)
end Go.RL
namespace Go.Proofs.YtibbhhkcjjeclaaDoor
open Go Go.Bh Go.ChangeShapes Go.WideShapes Go.RowKit
set_option maxRecDepth 100000
theorem AUk:ownKnob Tryd.prog.godebug=none:=by kernel_rfl
theorem ANX:Tryd.prog.globalNamed "kiln/op.shapes" =some 0:=by kernel_rfl
theorem AMz:(Tryd.prog.globals[0]?).map (·.type)=some 149:=by kernel_rfl
theorem laidOut:laidOutB Tryd.prog=true:=by kernel_rfl
theorem AFu:AAJ Tryd.prog 5 149=true:=by kernel_rfl
theorem AGY:gJ 5 (Rows.laid_kiln_op_shapes (H:=Unit))=some Go.RL.tab:=by kernel_rfl
abbrev AJq:List (String×DataW Unit):=[("kiln/op.shapes",Rows.laid_kiln_op_shapes)]
theorem of_laid{W:World}(h:laidMetH Tryd.prog AJq W):Go.RL.gV (Qo W):=by
 rw[MakeChecks.laidMetH_plain _ _ _ (by kernel_rfl)]at h
 obtain⟨ps,⟨g0,t0,cs0,f0,p0,q0,hg0,ht0,hv0,hd0,_,_⟩,_,_⟩:=h
 obtain rfl:=Option.some.inj (ANX.symm.trans hg0)
 obtain rfl:=Option.some.inj (AMz.symm.trans ht0)
 obtain⟨hr,h1⟩:=pR f0 hd0 AGY AFu
 intro c hc
 have hl:Go.RL.tab.length=66:=rfl
 rw[AHJ (tab:=Go.RL.tab) (λi=>by have:=World.var?_cell hg0 hv0 i;simpa using this) hr h1 (by rfl) (by omega)]
 rw[Go.RL.AQA c hc]
theorem door_met(os:Os)(args:Array Value):laidMetH Tryd.prog AJq ((World.doorLaid Tryd.prog 400 os).forCall (λ_ _=>0) ⟨#[],args,[]⟩).memory:=
 laidMetH_of_parts3 (fuel:=8) (laidMet_of_run' 8 (by kernel_rfl) (by kernel_rfl)) (by kernel_rfl) (by kernel_rfl)
theorem AMV{P:Program}{w:World}{r:Reach}{base:Nat}{t e:TypeId}{v:Value}(ht:P.underlying t=some (.slice e))(h:Value.okWide P w r base t v):
 v.cells.toList=[v]:=by
 unfold Value.okWide at h
 rw[ht]at h
 have h1:Cell.okWide P w r base t v:=h
 unfold Cell.okWide at h1
 rw[ht]at h1
 have h2:Cell.ok P w r base t v:=by
  cases v<;>exact h1
 unfold Cell.ok at h2
 rw[ht]at h2
 cases v with
 |slice a l c=>rfl
 |_=>exact(show False from h2).elim
theorem AJQ:lJ Tryd.prog 12 102=some (.sl 1 (.int .i64)):=by kernel_rfl
theorem AM8{H:Type}{enc:TypeId×Value->H}{W:World}{r:Reach}{b0:Nat}{v0:Value}{d0:DataW H}{p:List MemPlace}(k0:Value.okWide Tryd.prog W r b0 102 v0)(h0:DataW.Trod enc Tryd.prog W 0 (λ_=>true) true 102 v0 d0 p):
 ∃xs:List Int,(∀n,Go.RL.Lo (toV v0) n)/\∀H,El (Qo W) H (toV v0) 1 (xs.map λx=>[V.int .i64 x 0]):=by
 obtain⟨fuel,hf⟩:=h0
 rw[AMV Tryd.underlying102 k0]at hf
 obtain⟨v,LS,e,hr,hel,hle,hall⟩:=(uT fuel hf AJQ).1
 have e:toV v0=v:=by injection e
 subst e
 obtain⟨xs,rfl,-⟩:=Go.RL.AK3 (g:=λa:Int=>[V.int .i64 a 0]) (R:=λ_=>True) (LS:=LS) λL hL=>by
  obtain⟨m,rfl⟩:=(hall L hL).2;exact⟨m,rfl,trivial⟩
 exact⟨xs,λn=>hr.lo,hel⟩
end Go.Proofs.YtibbhhkcjjeclaaDoor
namespace Go.Proofs.YtibbhhkcjjeclaaDoor
open Go Go.Bh
theorem AKY{t:TypeId}(h:t=22∨t=2∨t=3∨t=102):Tryd.prog.wantsStandIn t=false:=by
 rcases h with h|h|h|h<;>subst h<;>kernel_rfl
end Go.Proofs.YtibbhhkcjjeclaaDoor
