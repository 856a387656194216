/- Part of a proof; nothing is assumed. -/
import Derived.Test.YtcjkfmaoahojeaaDoorLawA
import Derived.Test.YtcjkfmaoahojeaaDoorCode
import Derived.Test.YtcjkfmaoahojeaaDoorRows
import Derived.LaidMore
import Derived.SevenTiedAt
set_option linter.unusedVariables false
set_option linter.unusedSimpArgs false
namespace Go.PQ
open Go.Eng
def AKS:LV:=(List.range 20).map λi=>.int .u64 (.ofNat (10^i)) 0
theorem AOw:∀i,i<20->(AKS.drop i).take 1=[V.int .u64 (.ofNat (10^i)) 0]:=λi h=>by
 have hl:i<AKS.length:=h
 rw[List.drop_eq_getElem_cons hl]
 simp[AKS]
end Go.PQ
namespace Go.Proofs.YtcjkfmaoahojeaaDoor
open Go Go.Eng Go.ChangeShapes Go.WideShapes Go.RowKit
set_option maxRecDepth 100000
theorem AXs:ownKnob Tryd.prog.godebug=none:=by kernel_rfl
theorem AUZ:Tryd.prog.globalNamed "kiln/lex.marks" =some 0:=by kernel_rfl
theorem ASF:(Tryd.prog.globals[0]?).map (·.type)=some 124:=by kernel_rfl
theorem AXX:Tryd.prog.globalNamed "internal/strconv.uint64pow10" =some 1:=by kernel_rfl
theorem AXJ:(Tryd.prog.globals[1]?).map (·.type)=some 129:=by kernel_rfl
theorem laidOut:laidOutB Tryd.prog=true:=by kernel_rfl
theorem AG6:vY Tryd.prog 5 124=true:=by kernel_rfl
theorem AJs:aT 5 (Rows.laid_kiln_lex_marks (H:=Unit))=some (Go.PQ.EX.map sB):=by kernel_rfl
theorem AM3:vY Tryd.prog 5 129=true:=by kernel_rfl
theorem AQI:aT 5 (Rows.laid_internal_strconv_uint64pow10 (H:=Unit))=some Go.PQ.AKS:=by kernel_rfl
abbrev AMW:List (String×DataW Unit):=[("math/bits.deBruijn32tab",Rows.laid_math_bits_deBruijn32tab),("math/bits.deBruijn64tab",Rows.laid_math_bits_deBruijn64tab),("internal/strconv.uint64pow10",Rows.laid_internal_strconv_uint64pow10),("kiln/lex.marks",Rows.laid_kiln_lex_marks)]
theorem of_laid{W:World}(h:laidMetH Tryd.prog AMW W):Go.PQ.Xx (VU W)/\Go.PQ.dZ (VU W):=by
 rw[MakeChecks.laidMetH_plain _ _ _ (by kernel_rfl)]at h
 obtain⟨ps,⟨_,_,_,_,_,_,_,_,_,_,⟨_,_,_,_,_,_,_,_,_,_,⟨g1,t1,cs1,f1,p1,q1,hg1,ht1,hv1,hd1,⟨g0,t0,cs0,f0,p0,q0,hg0,ht0,hv0,hd0,_,_⟩,_⟩,_⟩,_⟩,_,_⟩:=h
 obtain rfl:=Option.some.inj (AUZ.symm.trans hg0)
 obtain rfl:=Option.some.inj (ASF.symm.trans ht0)
 obtain rfl:=Option.some.inj (AXX.symm.trans hg1)
 obtain rfl:=Option.some.inj (AXJ.symm.trans ht1)
 obtain⟨hr,h1⟩:=fA f0 hd0 AJs AG6
 obtain⟨hr',h1'⟩:=fA f1 hd1 AQI AM3
 refine⟨?_,λi hi=>?_⟩
 ·have hl:(Go.PQ.EX.map sB).length=22:=rfl
  show VU W 0 0 22=_
  rw[AAy (tab:=Go.PQ.EX.map sB) (λi=>by have:=World.var?_cell hg0 hv0 i;simpa using this) hr h1 (by rfl) (by omega)]
  rfl
 ·have hl:Go.PQ.AKS.length=20:=rfl
  rw[AAy (tab:=Go.PQ.AKS) (λi=>by have:=World.var?_cell hg1 hv1 i;simpa using this) hr' h1' (by rfl) (by omega),Go.PQ.AOw i hi]
theorem door_met(os:Os)(args:Array Value):laidMetH Tryd.prog AMW ((World.doorLaid Tryd.prog 400 os).forCall (λ_ _=>0) ⟨#[],args,[]⟩).memory:=
 laidMetH_of_parts3 (fuel:=8) (laidMet_of_run' 8 (by kernel_rfl) (by kernel_rfl)) (by kernel_rfl) (by kernel_rfl)
end Go.Proofs.YtcjkfmaoahojeaaDoor
