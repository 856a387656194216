/- Part of a proof; nothing is assumed. -/
import Derived.Test.YtlhlldpfafhpbaaGreatDoorLaw
import Derived.Test.YtlhlldpfafhpbaaGreatDoorRows
import Derived.LaidMore
import Derived.SevenTiedAt
set_option linter.unusedVariables false
set_option linter.unusedSimpArgs false
namespace Go.Proofs.YtlhlldpfafhpbaaGreatDoor
open Go Go.BN Go.ChangeShapes Go.WideShapes Go.RowKit
set_option maxRecDepth 100000
abbrev AXq:ownKnob Tryz.prog.godebug=none:=o5
abbrev APV:Tryz.prog.globalNamed "kiln/op.shapes" =some 0:=o5
abbrev AQD:(Tryz.prog.globals[0]?).map (·.type)=some 171:=o5
abbrev ATl:Tryz.prog.globalNamed "kiln/lex.marks" =some 2:=o5
abbrev ATx:(Tryz.prog.globals[2]?).map (·.type)=some 260:=o5
abbrev laidOut:laidOutB Tryz.prog=true:=o5
abbrev AFs:tH Tryz.prog 5 171=true:=o5
abbrev AHT:ZH 5 (Rows.laid_kiln_op_shapes (H:=Unit))=some Go.RL.opT:=o5
abbrev AH5:tH Tryz.prog 5 260=true:=o5
abbrev AJ4:ZH 5 (Rows.laid_kiln_lex_marks (H:=Unit))=some Go.RL.uS:=o5
abbrev ALg:List (String×DataW Unit):=[("math/bits.deBruijn32tab",Rows.laid_math_bits_deBruijn32tab),("math/bits.deBruijn64tab",Rows.laid_math_bits_deBruijn64tab),("internal/strconv.uint64pow10",Rows.laid_internal_strconv_uint64pow10),("kiln/op.shapes",Rows.laid_kiln_op_shapes),("kiln/lex.marks",Rows.laid_kiln_lex_marks)]
variable{W:World}
abbrev of_laid(h:laidMetH Tryz.prog ALg W):Go.RL.AAu (Kc W)/\Go.RL.qA (Kc W):=by
 rw[MakeChecks.laidMetH_plain _ _ _ o5]at h;have⟨F,⟨_,_,_,_,_,_,_,_,_,_,⟨_,_,_,_,_,_,_,_,_,_,⟨_,_,_,_,_,_,_,_,_,_,⟨G,H,x,y,I,q0,d,g,k,m,⟨J,K,A,B,L,q1,f,p,q,u,_,_⟩,_⟩,_⟩,_⟩,_⟩,_,_⟩:=h;obtain rfl:=e_ (APV.symm.trans d);obtain rfl:=e_ (AQD.symm.trans g);obtain rfl:=e_ (ATl.symm.trans f);obtain rfl:=e_ (ATx.symm.trans p);have⟨C,D⟩:=ci y m AHT AFs;have⟨v,w⟩:=ci B u AJ4 AH5;have M:Go.RL.opT.length=66:=rfl;have E:Go.RL.uS.length=22:=rfl;refine⟨λo N=>?_,?_⟩
 .rw[xt (tab:=Go.RL.opT) (λi=>by have:=World.var?_cell d k i;simpa using this) C D (by rfl) a6]
 .show Kc W 2 0 22=_;rw[xt (tab:=Go.RL.uS) (λi=>by have:=World.var?_cell f q i;simpa using this) v w (by rfl) a6];rfl
abbrev door_met(os:Os)(args:aAr):laidMetH Tryz.prog ALg ((World.doorLaid Tryz.prog 400 os).forCall (λ_ _=>0) ⟨#[],args,[]⟩).memory:=
 laidMetH_of_parts3 (fuel:=8) (laidMet_of_run' 8 o5 o5) o5 o5
variable{t:TypeId}
abbrev APC(h:t=22):Tryz.prog.wantsStandIn t=false:=by subst h;kernel_rfl
abbrev ABr:∀{LS:Bh},(∀L∈LS,∃a:Int,L=[V.int .i64 a 0])->∃xs:List Int,LS=Go.RL.ints xs
 |[],_=>⟨[],rfl⟩
 |L::LS,h=>by obtain⟨a,rfl⟩:=h L (u_ ..);obtain⟨xs,rfl⟩:=ABr λM d=>h M (c_ _ d);exact⟨a::xs,rfl⟩
variable{r:Reach}
abbrev AOZ{P:Program}{w:World}{base:Nat}{e:TypeId}{v:Value}(d:P.underlying t=some (.slice e))(h:Value.okWide P w r base t v):
 v.cells.toList=[v]:=by
 unfold Value.okWide at h;rw[d]at h;have f:Cell.okWide P w r base t v:=h;unfold Cell.okWide at f;rw[d]at f;have g:Cell.ok P w r base t v:=by cases v<;>exact f
 unfold Cell.ok at g;rw[d]at g;cases v with
 |slice a l c=>rfl
 |_=>exact(show False from g).elim
abbrev AJv:iC Tryz.prog 12 22=some (.sl 1 (.int .i64)):=o5
abbrev AQG{H:Type}{enc:TypeId×Value->H}{k:Nat}{v0:Value}{m:DataW H}{p:List MemPlace}(q:Value.okWide Tryz.prog W r k 22 v0)(u:DataW.Trod enc Tryz.prog W 0 (λ_=>true) true 22 v0 m p):
 ∃xs:List Int,(∀H,El (Kc W) H (xj v0) 1 (Go.RL.ints xs))/\(xj v0=.AT∨∃b o l c z,xj v0=.rsl b o l c z):=by
 have⟨d,i⟩:=u;rw[AOZ Tryz.underlying22 q]at i;have⟨v,A,e,w,g,x,f⟩:=(sN d i AJv).1;have e:xj v0=v:=by injection e
 subst e;obtain⟨xs,rfl⟩:=ABr λL y=>(f L y).2;refine⟨xs,g,?_⟩;rcases w with⟨h,_⟩|⟨b,o,c,h,_⟩
 .exact .inl h
 .exact .inr ⟨_,_,_,_,_,h⟩
end Go.Proofs.YtlhlldpfafhpbaaGreatDoor
