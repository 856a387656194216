/- Part of a proof; nothing is assumed. -/
import Derived.Test.YtlhlldpfafhpbaaGreatDoorLaw
import Derived.Test.YtlhlldpfafhpbaaGreatDoorRows
import Derived.LaidMore
import Derived.SevenTiedAt
set_option linter.unusedVariables false
set_option linter.unusedSimpArgs false
namespace Go.Proofs.YtlhlldpfafhpbaaGreatDoor
open Go Go.BN Go.ChangeShapes Go.WideShapes Go.RowKit
set_option maxRecDepth 100000
abbrev AXq:ownKnob Tryz.prog.godebug=none:=o5
abbrev APV:Tryz.prog.globalNamed "kiln/op.shapes" =some 0:=o5
abbrev AQD:(Tryz.prog.globals[0]?).map (·.type)=some 171:=o5
abbrev laidOut:laidOutB Tryz.prog=true:=o5
abbrev AFs:tH Tryz.prog 5 171=true:=o5
abbrev AHT:ZH 5 (Rows.laid_kiln_op_shapes (H:=Unit))=some Go.RL.wD:=o5
abbrev ALg:List (String×DataW Unit):=[("kiln/op.shapes",Rows.laid_kiln_op_shapes)]
variable{W:World}
abbrev of_laid(h:laidMetH Tryz.prog ALg W):Go.RL.dZ (Kc W):=by
 rw[MakeChecks.laidMetH_plain _ _ _ o5]at h;have⟨v,⟨w,x,m,p,y,q0,d,f,g,k,_,_⟩,_⟩:=h;obtain rfl:=e_ (APV.symm.trans d);obtain rfl:=e_ (AQD.symm.trans f);have⟨q,u⟩:=ci p k AHT AFs;have A:Go.RL.wD.length=66:=rfl;exact Go.RL.AAu.op λo B=>by rw[xt (tab:=Go.RL.wD) (λi=>by have:=World.var?_cell d g i;simpa using this) q u (by rfl) a6]
abbrev door_met(os:Os)(args:aAr):laidMetH Tryz.prog ALg ((World.doorLaid Tryz.prog 400 os).forCall (λ_ _=>0) ⟨#[],args,[]⟩).memory:=
 laidMetH_of_parts3 (fuel:=8) (laidMet_of_run' 8 o5 o5) o5 o5
variable{t:TypeId}
abbrev fA(h:t=22∨t=4):Tryz.prog.wantsStandIn t=false:=by rcases h with rfl|rfl<;>kernel_rfl
abbrev ABr:∀{LS:Bh},(∀L∈LS,∃a:Int,L=[V.int .i64 a 0])->∃xs:List Int,LS=Go.RL.ints xs
 |[],_=>⟨[],rfl⟩
 |L::LS,h=>by obtain⟨a,rfl⟩:=h L (u_ ..);obtain⟨xs,rfl⟩:=ABr λM d=>h M (c_ _ d);exact⟨a::xs,rfl⟩
variable{r:Reach}
abbrev AOZ{P:Program}{w:World}{base:Nat}{e:TypeId}{v:Value}(d:P.underlying t=some (.slice e))(h:Value.okWide P w r base t v):
 v.cells.toList=[v]:=by
 unfold Value.okWide at h;rw[d]at h;have f:Cell.okWide P w r base t v:=h;unfold Cell.okWide at f;rw[d]at f;have g:Cell.ok P w r base t v:=by cases v<;>exact f
 unfold Cell.ok at g;rw[d]at g;cases v with
 |slice a l c=>rfl
 |_=>exact(show False from g).elim
abbrev AJv:iC Tryz.prog 12 22=some (.sl 1 (.int .i64)):=o5
abbrev AQG{H:Type}{enc:TypeId×Value->H}{k:Nat}{v0:Value}{m:DataW H}{p:List MemPlace}(q:Value.okWide Tryz.prog W r k 22 v0)(u:DataW.Trod enc Tryz.prog W 0 (λ_=>true) true 22 v0 m p):
 ∃xs:List Int,(∀H,El (Kc W) H (xj v0) 1 (Go.RL.ints xs))/\(xj v0=.AT∨∃b o l c z,xj v0=.rsl b o l c z):=by
 have⟨d,i⟩:=u;rw[AOZ Tryz.underlying22 q]at i;have⟨v,A,e,w,g,x,f⟩:=(sN d i AJv).1;have e:xj v0=v:=by injection e
 subst e;obtain⟨xs,rfl⟩:=ABr λL y=>(f L y).2;refine⟨xs,g,?_⟩;rcases w with⟨h,_⟩|⟨b,o,c,h,_⟩
 .exact .inl h
 .exact .inr ⟨_,_,_,_,_,h⟩
end Go.Proofs.YtlhlldpfafhpbaaGreatDoor
