/- Part of a proof; nothing is assumed. -/
import Derived.Test.YtbcanmhagkiccaaGreatDoorPlainR
import Derived.Test.YtbcanmhagkiccaaGreatDoorCode
import Derived.Test.YtbcanmhagkiccaaGreatDoorEngF
set_option linter.unusedVariables false
set_option linter.unusedSimpArgs false
noncomputable section
namespace Go.R5.VD
open Go.Eng Go.R5
set_option maxRecDepth 100000
def r0:X:=.r q0
def r1:X:=.r q1
def r2:X:=.r q2
def r7:X:=.r q7
def r8:X:=.r q8
def r9:X:=.r q9
def r10:X:=.r q10
def r12:X:=.r q12
def r13:X:=.r q13
def r14:X:=.r Vh
def r16:X:=.r q16
def r29:X:=.r q29
def r38:X:=.r q38
def r64:X:=.r q64
def r71:X:=.r q71
def lf:AF:=.mk 3 (.seq (.ops [.mk (.to q6) .no (.n (.mv (.c (.bool false))))])
 (.seq (.seq (.ops [.mk .ps .no (.e (.call 4 [])),
  .mk (.to q16) .no (.n (.not (.s 0)))])
  (.cond r16 (.seq (.ops [.mk (.to q6) .no (.n (.mv (.c (.bool false))))])
   .ret)
   .skip))
  (.seq (.ops [.mk .ps .no (.n (.bin .and r0 (.c (.int .i64 (.ofNat 31) 0)))),
   .mk (.to q0) .no (.n (.mv (.s 0)))])
   (.seq (.ops [.mk .ps .no (.n (.bin .and r1 (.c (.int .i64 (.ofNat 63) 0)))),
    .mk .ps .no (.n (.bin .sub (.s 0) (.c (.int .i64 (.ofNat 16) 0)))),
    .mk (.to q1) .no (.n (.mv (.s 0)))])
    (.seq (.ops [.mk .ps .no (.a (.Hg 1 1 [(.str 0 0)] [(0,(.c (.str 243 778793508293005568590558788535233579046775261399117975477625734979254972841077608435405969544689378881418437476596906350529856728120864491748224306435186760761586341880590451957988443922194329746730602567105741798751684838786895570344856641199336935491944242811604704027461256665167531794464050563983985302369100198390457498849241244277454073330345997217138702796027344541214060357856758415907751494272730415864666677156854527909587960606124997267642812782812116684403731861830096387367796611548429824382348277535512934579332729086128505773890675324324182531290061951730804093488295011)))])),
     .mk .ps .no (.e (.call 5 [(.s 0)])),
     .mk .ps .no (.n (.ext (.s 0) 0)),
     .mk .ps .no (.n (.ext (.s 1) 1)),
     .mk .ps .no (.n (.ext (.s 2) 2)),
     .mk (.to q7) .no (.n (.mv (.s 2))),
     .mk (.to q8) .no (.n (.mv (.s 1))),
     .mk (.to q9) .no (.n (.mv (.s 0)))])
     (.seq (.seq (.ops [.mk (.to q29) .no (.n (.not r9))])
      (.cond r29 (.seq (.ops [.mk (.to q6) .no (.n (.mv (.c (.bool false))))])
       .ret)
       .skip))
      (.seq (.ops [.mk .ps .no (.e (.call 6 [r8,r7])),
       .mk .ps .no (.n (.ext (.s 0) 0)),
       .mk .ps .no (.n (.ext (.s 1) 1)),
       .mk .ps .no (.n (.ext (.s 2) 2)),
       .mk (.to q10) .no (.n (.mv (.s 2))),
       .mk (.to q12) .no (.n (.mv (.s 0)))])
       (.seq (.seq (.ops [.mk (.to q38) .no (.n (.not r12))])
        (.cond r38 (.seq (.ops [.mk (.to q6) .no (.n (.mv (.c (.bool false))))])
         .ret)
         .skip))
        (.seq (.ops [.mk .ps .no (.a (.Hg 1 3 [(.int .i64 (.ofNat 0) 0)] [(0,r0),(1,r1),(2,r2)])),
         .mk .ps .no (.n (.build [(.int .i64 (.ofNat 0) 0),(.int .i64 (.ofNat 0) 0),(.int .i64 (.ofNat 0) 0)] [(0,1,(.c (.int .i64 (.ofNat 2000) 0))),(1,1,(.c (.int .i64 (.ofNat 40) 0))),(2,1,(.c (.int .i64 (.ofNat 1) 0)))])),
         .mk .ps .no (.e (.call 7 [r10,(.c (.str 1 65)),(.c (.str 1 109)),(.s 1),(.s 0)])),
         .mk .ps .no (.n (.ext (.s 0) 0)),
         .mk .ps .no (.n (.ext (.s 1) 1)),
         .mk (.to q13) .no (.a (.alloc 3 [[(.int .i64 (.ofNat 0) 0),(.int .i64 (.ofNat 0) 0),.Ae]])),
         .mk .no .no (.e (.st 3 r13 (.s 1))),
         .mk (.to Vh) .no (.n (.mv (.s 0)))])
         (.seq (.seq (.ops [.mk .ps .no (.n (.eq (.one .int) true r14 (.c (.int .i64 (.ofNat 0) 0)))),
          .mk .ps (.on (.s 0) false) (.n (.Dh 2 r13)),
          .mk .ps (.on (.s 1) false) (.n (.ld1 (.s 0))),
          .mk .ps (.on (.s 2) false) (.n (.jM (.s 0))),
          .mk .ps (.on (.s 3) false) (.n (.eq (.one .int) true (.s 0) (.c (.int .i64 (.ofNat 1) 0)))),
          .mk .ps .no (.n (.pick (.s 4) (.c (.bool true)) (.s 0))),
          .mk .ps (.on (.s 0) false) (.n (.Dh 2 r13)),
          .mk .ps (.on (.s 1) false) (.n (.ld1 (.s 0))),
          .mk .ps (.on (.s 2) false) (.n (.fO 1 (.s 0) (.c (.int .i64 (.ofNat 0) 0)))),
          .mk .ps (.on (.s 3) false) (.n (.ld1 (.s 0))),
          .mk .ps (.on (.s 4) false) (.n (.mv r0)),
          .mk .ps (.on (.s 5) false) (.n (.eq (.one .int) true (.s 1) (.s 0))),
          .mk (.to q64) .no (.n (.pick (.s 6) (.c (.bool true)) (.s 0)))])
          (.cond r64 (.seq (.ops [.mk (.to q6) .no (.n (.mv (.c (.bool false))))])
           .ret)
           .skip))
          (.seq (.seq (.ops [.mk .ps .no (.n (.bin .lss r1 (.c (.int .i64 (.ofNat 0) 0)))),
           .mk .ps (.on (.s 0) false) (.n (.mv r1)),
           .mk .ps (.on (.s 1) false) (.n (.mv r0)),
           .mk .ps (.on (.s 2) false) (.n (.bin .geq (.s 1) (.s 0))),
           .mk (.to q71) .no (.n (.pick (.s 3) (.c (.bool true)) (.s 0)))])
           (.cond r71 (.seq (.ops [.mk .ps .no (.n (.Dh 0 r13)),
            .mk .ps .no (.n (.ld1 (.s 0))),
            .mk .ps .no (.n (.eq (.one .int) false (.s 0) (.c (.int .i64 (.ofNat 2) 0)))),
            .mk .ps (.on (.s 0) true) (.n (.Dh 1 r13)),
            .mk .ps (.on (.s 1) true) (.n (.ld1 (.s 0))),
            .mk .ps (.on (.s 2) true) (.n (.eq (.one .int) false (.s 0) (.c (.int .i64 (.ofNat 0) 0)))),
            .mk .ps .no (.n (.pick (.s 3) (.s 0) (.c (.bool false)))),
            .mk (.to q6) .no (.n (.mv (.s 0)))])
            .ret)
            .skip))
           (.seq (.ops [.mk .ps .no (.n (.Dh 0 r13)),
            .mk .ps .no (.n (.ld1 (.s 0))),
            .mk .ps .no (.n (.eq (.one .int) false (.s 0) (.c (.int .i64 (.ofNat 0) 0)))),
            .mk .ps (.on (.s 0) true) (.n (.Dh 1 r13)),
            .mk .ps (.on (.s 1) true) (.n (.ld1 (.s 0))),
            .mk .ps (.on (.s 2) true) (.n (.mv r0)),
            .mk .ps (.on (.s 3) true) (.n (.mv r0)),
            .mk .ps (.on (.s 4) true) (.n (.bin .sub (.s 0) (.c (.int .i64 (.ofNat 1) 0)))),
            .mk .ps (.on (.s 5) true) (.n (.bin .mul (.s 2) (.s 0))),
            .mk .ps (.on (.s 6) true) (.n (.bin .quo (.s 0) (.c (.int .i64 (.ofNat 2) 0)))),
            .mk .ps (.on (.s 7) true) (.n (.mv r1)),
            .mk .ps (.on (.s 8) true) (.n (.bin .sub (.s 1) (.s 0))),
            .mk .ps (.on (.s 9) true) (.n (.mv r2)),
            .mk .ps (.on (.s 10) true) (.n (.bin .add (.s 1) (.s 0))),
            .mk .ps (.on (.s 11) true) (.n (.eq (.one .int) false (.s 9) (.s 0))),
            .mk .ps .no (.n (.pick (.s 12) (.s 0) (.c (.bool false)))),
            .mk (.to q6) .no (.n (.mv (.s 0)))])
            .ret))))))))))))
 [.tmp q6] .no 0
theorem AWb:T.get F 3=some lf:=by kernel_rfl
def AY3(lp:Aa)(G:AQ)(call callB:AP)(z0:Int)(z1:Int)(z2:Int)(x0:Nat)(x1:Nat)(u0:Int)(H:Heap)(n:Nat)(k:KV):Prop:=
 call 4 [] H n λv1 H n=>
 AB (Ba v1) λv2=>
 AV v2 true (k (.bool false) H n) (Adi u0 (B2.ev .sub (.int .i64 (.ofNat x1) 0) (.int .i64 (.ofNat 16) 0)) <|
 Ap (Ah 1 1 [(.str 0 0)] [(0,.c (.str 243 778793508293005568590558788535233579046775261399117975477625734979254972841077608435405969544689378881418437476596906350529856728120864491748224306435186760761586341880590451957988443922194329746730602567105741798751684838786895570344856641199336935491944242811604704027461256665167531794464050563983985302369100198390457498849241244277454073330345997217138702796027344541214060357856758415907751494272730415864666677156854527909587960606124997267642812782812116684403731861830096387367796611548429824382348277535512934579332729086128505773890675324324182531290061951730804093488295011))] E0) H n λv4 H n=>
 call 5 [v4] H n λv5 H n=>
 AB (BG v5 0) λv6=>
 AB (BG v5 1) λv7=>
 AB (BG v5 2) λv8=>
 AB (Ba v8) λv9=>
 AV v9 true (k (.bool false) H n) (call 6 [v7,v6] H n λv10 H n=>
 AB (BG v10 0) λv11=>
 AB (BG v10 1) λv12=>
 AB (BG v10 2) λv13=>
 AB (Ba v13) λv14=>
 AV v14 true (k (.bool false) H n) (Ap (Ah 1 3 [(.int .i64 (.ofNat 0) 0)] [(0,.c (.int .i64 (.ofNat x0) 0)),(1,.c (.int .i64 u0 0)),(2,.c (.int .i64 z2 0))] E0) H n λv15 H n=>
 AB (Aw [(.int .i64 (.ofNat 0) 0),(.int .i64 (.ofNat 0) 0),(.int .i64 (.ofNat 0) 0)] [(0,1,.c (.int .i64 (.ofNat 2000) 0)),(1,1,.c (.int .i64 (.ofNat 40) 0)),(2,1,.c (.int .i64 (.ofNat 1) 0))]) λv16=>
 callB 7 [v11,(.str 1 65),(.str 1 109),v15,v16] H n λv17 H n=>
 AB (BG v17 0) λv18=>
 AB (BG v17 1) λv19=>
 Ap (Ag 3 [[(.int .i64 (.ofNat 0) 0),(.int .i64 (.ofNat 0) 0),.Ae]] E0) H n λv20 H n=>
 Au 3 v20 v18 H n λv21 H n=>
 AB (Az (.one .int) true v19 (.int .i64 (.ofNat 0) 0)) λv22=>
 Ai v22 false (AL 2 v20) λv23=>
 Ai v22 false (AY v23 G H) λv24=>
 Ai v22 false (lenV v24) λv25=>
 Ai v22 false (Az (.one .int) true v25 (.int .i64 (.ofNat 1) 0)) λv26=>
 AB (Am v22 (.bool true) v26) λv27=>
 Ai v27 false (AL 2 v20) λv28=>
 Ai v27 false (AY v28 G H) λv29=>
 Ai v27 false (Ad 1 v29 (.int .i64 (.ofNat 0) 0)) λv30=>
 Ai v27 false (AY v30 G H) λv31=>
 Ai v27 false (some (.int .i64 (.ofNat x0) 0)) λv32=>
 Ai v27 false (Az (.one .int) true v31 v32) λv33=>
 AB (Am v27 (.bool true) v33) λv34=>
 AV v34 true (k (.bool false) H n) (AB (B2.ev .lss (.int .i64 u0 0) (.int .i64 (.ofNat 0) 0)) λv35=>
 Ai v35 false (some (.int .i64 u0 0)) λv36=>
 Ai v35 false (some (.int .i64 (.ofNat x0) 0)) λv37=>
 Ai v35 false (B2.ev .geq v36 v37) λv38=>
 AB (Am v35 (.bool true) v38) λv39=>
 AV v39 true (AB (AL 0 v20) λv40=>
 AB (AY v40 G H) λv41=>
 AB (Az (.one .int) false v41 (.int .i64 (.ofNat 2) 0)) λv42=>
 Ai v42 true (AL 1 v20) λv43=>
 Ai v42 true (AY v43 G H) λv44=>
 Ai v42 true (Az (.one .int) false v44 (.int .i64 (.ofNat 0) 0)) λv45=>
 AB (Am v42 v45 (.bool false)) λv46=>
 k v46 H n) (AB (AL 0 v20) λv47=>
 AB (AY v47 G H) λv48=>
 AB (Az (.one .int) false v48 (.int .i64 (.ofNat 0) 0)) λv49=>
 Ai v49 true (AL 1 v20) λv50=>
 Ai v49 true (AY v50 G H) λv51=>
 Ai v49 true (some (.int .i64 (.ofNat x0) 0)) λv52=>
 Ai v49 true (some (.int .i64 (.ofNat x0) 0)) λv53=>
 Ai v49 true (B2.ev .sub v53 (.int .i64 (.ofNat 1) 0)) λv54=>
 Ai v49 true (B2.ev .mul v52 v54) λv55=>
 Ai v49 true (B2.ev .quo v55 (.int .i64 (.ofNat 2) 0)) λv56=>
 Ai v49 true (some (.int .i64 u0 0)) λv57=>
 Ai v49 true (B2.ev .sub v56 v57) λv58=>
 Ai v49 true (some (.int .i64 z2 0)) λv59=>
 Ai v49 true (B2.ev .add v58 v59) λv60=>
 AZh v49 true true (Az (.one .int) false v51 v60) λv61=>
 AB (Am v49 v61 (.bool false)) λv62=>
 k v62 H n)))))
theorem AbW{lp:Aa}(hL:Ar lp){G:AQ}{call callB callE:AP}(z0:Int)(z1:Int)(z2:Int)(x0:Nat)(x1:Nat)(u0:Int)(ex0:MB z0 31=x0)(ex1:MB z1 63=x1)(hle:Bc call callE)(hleB:Bc callB callE)(hd:BI callE){H:Heap}{n:Nat}{k:KV}(h:AY3 lp G call callB z0 z1 z2 x0 x1 u0 H n k):Gs lf G callE [(.int .i64 z0 0),(.int .i64 z1 0),(.int .i64 z2 0)] H n k:=by
 delta AY3 at h
 refine mY rfl ?_
 refine CS ?_
 refine DZ ?_
 refine Iy (a:=(.bool false)) (EN rfl) ?_
 refine o0 ?_
 refine CS ?_
 refine CS ?_
 refine DZ ?_
 refine jC hle hd h (Gn xs0) λv1 H n h=>?_
 refine V3 h (ABa rfl) λv2 h=>?_
 refine o0 ?_
 refine GK h (xr sm) (λh=>?_) (λh=>?_)
 ·refine CS ?_
  refine DZ ?_
  refine Iy (a:=(.bool false)) (EN rfl) ?_
  refine o0 ?_
  refine UF ?_
  exact Ji (rsT sm rs0) h
 ·refine Fa ?_
  refine CS ?_
  refine DZ ?_
  refine Aaz (a:=(.int .i64 (.ofNat x0) 0)) (km3 (by decide) ex0 (xr (ne rfl (ne rfl rfl)))) ?_
  refine Iy (a:=(.int .i64 (.ofNat x0) 0)) (EN rfl) ?_
  refine o0 ?_
  refine CS ?_
  refine DZ ?_
  refine Aaz (a:=(.int .i64 (.ofNat x1) 0)) (km3 (by decide) ex1 (xr (ne rfl (ne rfl (ne rfl rfl))))) ?_
  refine Ci (AL9 h) (F5 rfl rfl) λv3 h=>?_
  obtain⟨rfl,h⟩:=h
  refine Iy (a:=(.int .i64 u0 0)) (EN rfl) ?_
  refine o0 ?_
  refine CS ?_
  refine DZ ?_
  refine Ac8 h (SE (pbS rfl pb0)) λv4 H n h=>?_
  refine jC hle hd h (Gn (Vy rfl xs0)) λv5 H n h=>?_
  refine Ci h (OB rfl) λv6 h=>?_
  refine Ci h (OB rfl) λv7 h=>?_
  refine Ci h (OB rfl) λv8 h=>?_
  refine Iy (a:=v6) (EN rfl) ?_
  refine Iy (a:=v7) (EN rfl) ?_
  refine Iy (a:=v8) (EN rfl) ?_
  refine o0 ?_
  refine CS ?_
  refine CS ?_
  refine DZ ?_
  refine V3 h (ABa (xr sm)) λv9 h=>?_
  refine o0 ?_
  refine GK h (xr sm) (λh=>?_) (λh=>?_)
  ·refine CS ?_
   refine DZ ?_
   refine Iy (a:=(.bool false)) (EN rfl) ?_
   refine o0 ?_
   refine UF ?_
   exact Ji (rsT sm rs0) h
  ·refine Fa ?_
   refine CS ?_
   refine DZ ?_
   refine jC hle hd h (Gn (Vy (xr (ne rfl (ne rfl sm))) (Vy (xr (ne rfl (ne rfl (ne rfl sm)))) xs0))) λv10 H n h=>?_
   refine Ci h (OB rfl) λv11 h=>?_
   refine Ci h (OB rfl) λv12 h=>?_
   refine Ci h (OB rfl) λv13 h=>?_
   refine Iy (a:=v11) (EN rfl) ?_
   refine Iy (a:=v13) (EN rfl) ?_
   refine o0 ?_
   refine CS ?_
   refine CS ?_
   refine DZ ?_
   refine V3 h (ABa (xr sm)) λv14 h=>?_
   refine o0 ?_
   refine GK h (xr sm) (λh=>?_) (λh=>?_)
   ·refine CS ?_
    refine DZ ?_
    refine Iy (a:=(.bool false)) (EN rfl) ?_
    refine o0 ?_
    refine UF ?_
    exact Ji (rsT sm rs0) h
   ·refine Fa ?_
    refine CS ?_
    refine DZ ?_
    refine Ac8 h (SE (pbS (xr (ne rfl (ne rfl (ne rfl (ne rfl (ne rfl (ne rfl (ne rfl (ne rfl sm))))))))) (pbS (xr (ne rfl (ne rfl (ne rfl (ne rfl (ne rfl (ne rfl (ne rfl sm)))))))) (pbS (xr (ne rfl (ne rfl (ne rfl (ne rfl (ne rfl (ne rfl (ne rfl (ne rfl (ne rfl (ne rfl (ne rfl rfl)))))))))))) pb0)))) λv15 H n h=>?_
    refine Ci h (AO2 (psS rfl (psS rfl (psS rfl ps0)))) λv16 h=>?_
    refine jC hleB hd h (Gn (Vy (xr (ne rfl (ne rfl sm))) (Vy rfl (Vy rfl (Vy rfl (Vy rfl xs0)))))) λv17 H n h=>?_
    refine Ci h (OB rfl) λv18 h=>?_
    refine Ci h (OB rfl) λv19 h=>?_
    refine AZ3 h Oz λv20 H n h=>?_
    refine xZ hle hd h (iw (xr sm) rfl) λv21 H n h=>?_
    refine Iy (a:=v19) (EN rfl) ?_
    refine o0 ?_
    refine CS ?_
    refine CS ?_
    refine DZ ?_
    refine Ci h (k_eq (xr sm) rfl) λv22 h=>?_
    refine Dc h rfl (Bz (xr (ne rfl sm))) λv23 h=>?_
    refine Dc h rfl (EP rfl) λv24 h=>?_
    refine Dc h rfl (Sl rfl) λv25 h=>?_
    refine Dc h rfl (k_eq rfl rfl) λv26 h=>?_
    refine Ci h (MP rfl rfl rfl) λv27 h=>?_
    refine Dc h rfl (Bz (xr (ne rfl sm))) λv28 h=>?_
    refine Dc h rfl (EP rfl) λv29 h=>?_
    refine Dc h rfl (Zp rfl rfl) λv30 h=>?_
    refine Dc h rfl (EP rfl) λv31 h=>?_
    refine Dc h rfl (EN (xr (ne rfl (ne rfl (ne rfl (ne rfl (ne rfl (ne rfl (ne rfl (ne rfl (ne rfl (ne rfl sm)))))))))))) λv32 h=>?_
    refine Dc h rfl (k_eq rfl rfl) λv33 h=>?_
    refine V3 h (MP rfl rfl rfl) λv34 h=>?_
    refine o0 ?_
    refine GK h (xr sm) (λh=>?_) (λh=>?_)
    ·refine CS ?_
     refine DZ ?_
     refine Iy (a:=(.bool false)) (EN rfl) ?_
     refine o0 ?_
     refine UF ?_
     exact Ji (rsT sm rs0) h
    ·refine Fa ?_
     refine CS ?_
     refine CS ?_
     refine DZ ?_
     refine Ci h (F5 (xr (ne rfl (ne rfl (ne rfl (ne rfl (ne rfl (ne rfl (ne rfl (ne rfl (ne rfl (ne rfl sm))))))))))) rfl) λv35 h=>?_
     refine Dc h rfl (EN (xr (ne rfl (ne rfl (ne rfl (ne rfl (ne rfl (ne rfl (ne rfl (ne rfl (ne rfl (ne rfl sm)))))))))))) λv36 h=>?_
     refine Dc h rfl (EN (xr (ne rfl (ne rfl (ne rfl (ne rfl (ne rfl (ne rfl (ne rfl (ne rfl (ne rfl (ne rfl (ne rfl sm))))))))))))) λv37 h=>?_
     refine Dc h rfl (F5 rfl rfl) λv38 h=>?_
     refine V3 h (MP rfl rfl rfl) λv39 h=>?_
     refine o0 ?_
     refine GK h (xr sm) (λh=>?_) (λh=>?_)
     ·refine CS ?_
      refine DZ ?_
      refine Ci h (Bz (xr (ne rfl (ne rfl (ne rfl sm))))) λv40 h=>?_
      refine Ci h (EP rfl) λv41 h=>?_
      refine Ci h (k_eq rfl rfl) λv42 h=>?_
      refine Dc h rfl (Bz (xr (ne rfl (ne rfl (ne rfl sm))))) λv43 h=>?_
      refine Dc h rfl (EP rfl) λv44 h=>?_
      refine Dc h rfl (k_eq rfl rfl) λv45 h=>?_
      refine Ci h (MP rfl rfl rfl) λv46 h=>?_
      refine Iy (a:=v46) (EN rfl) ?_
      refine o0 ?_
      refine UF ?_
      exact Ji (rsT sm rs0) h
     ·refine Fa ?_
      refine CS ?_
      refine DZ ?_
      refine Ci h (Bz (xr (ne rfl (ne rfl (ne rfl sm))))) λv47 h=>?_
      refine Ci h (EP rfl) λv48 h=>?_
      refine Ci h (k_eq rfl rfl) λv49 h=>?_
      refine Dc h rfl (Bz (xr (ne rfl (ne rfl (ne rfl sm))))) λv50 h=>?_
      refine Dc h rfl (EP rfl) λv51 h=>?_
      refine Dc h rfl (EN (xr (ne rfl (ne rfl (ne rfl (ne rfl (ne rfl (ne rfl (ne rfl (ne rfl (ne rfl (ne rfl (ne rfl (ne rfl sm)))))))))))))) λv52 h=>?_
      refine Dc h rfl (EN (xr (ne rfl (ne rfl (ne rfl (ne rfl (ne rfl (ne rfl (ne rfl (ne rfl (ne rfl (ne rfl (ne rfl (ne rfl sm)))))))))))))) λv53 h=>?_
      refine Dc h rfl (F5 rfl rfl) λv54 h=>?_
      refine Dc h rfl (F5 rfl rfl) λv55 h=>?_
      refine Dc h rfl (F5 rfl rfl) λv56 h=>?_
      refine Dc h rfl (EN (xr (ne rfl (ne rfl (ne rfl (ne rfl (ne rfl (ne rfl (ne rfl (ne rfl (ne rfl (ne rfl (ne rfl sm))))))))))))) λv57 h=>?_
      refine Dc h rfl (F5 rfl rfl) λv58 h=>?_
      refine Dc h rfl (EN (xr (ne rfl (ne rfl (ne rfl (ne rfl (ne rfl (ne rfl (ne rfl (ne rfl (ne rfl (ne rfl (ne rfl (ne rfl (ne rfl (ne rfl (ne rfl rfl))))))))))))))))) λv59 h=>?_
      refine Dc h rfl (F5 rfl rfl) λv60 h=>?_
      refine Dc (ALS h) rfl (k_eq rfl rfl) λv61 h=>?_
      refine Ci h (MP rfl rfl rfl) λv62 h=>?_
      refine Iy (a:=v62) (EN rfl) ?_
      refine o0 ?_
      refine UF ?_
      exact Ji (rsT sm rs0) h
end Go.R5.VD
namespace Go.R5.UW19
open Go.Eng Go.R5
set_option maxRecDepth 100000
def r0:X:=.r q0
def r2:X:=.r q2
def r3:X:=.r q3
def r4:X:=.r q4
def r5:X:=.r q5
def r11:X:=.r q11
def r22:X:=.r q22
def r37:X:=.r q37
def r42:X:=.r q42
def r43:X:=.r q43
def r44:X:=.r q44
def r45:X:=.r q45
def r46:X:=.r q46
def r47:X:=.r q47
def r48:X:=.r q48
def r49:X:=.r q49
def r50:X:=.r q50
def r51:X:=.r q51
def r52:X:=.r q52
def r56:X:=.r q56
def r57:X:=.r q57
def r58:X:=.r q58
def r59:X:=.r q59
def r60:X:=.r q60
def r61:X:=.r q61
def r62:X:=.r q62
def r63:X:=.r q63
def r64:X:=.r q64
def r65:X:=.r q65
def r66:X:=.r q66
def r76:X:=.r q76
def r86:X:=.r q86
def r87:X:=.r q87
def r88:X:=.r q88
def r89:X:=.r q89
def r90:X:=.r q90
def r91:X:=.r q91
def r92:X:=.r q92
def r93:X:=.r q93
def r94:X:=.r q94
def r95:X:=.r q95
def r96:X:=.r q96
def r97:X:=.r q97
def r98:X:=.r q98
def r99:X:=.r q99
def Af9:X:=.r ALZ
def Afp:X:=.r AG7
def AfI:X:=.r AK4
def AgH:X:=.r AIZ
def AgE:X:=.r oh
def Aft:X:=.r ADZ
def AGa:AF:=.mk 1 (.seq (.ops [.mk (.to q2) .no (.a (.alloc 2 [[(.int .i64 (.ofNat 0) 0),.Bh]]))])
 (.seq (.ops [.mk (.to q3) .no (.a (.alloc 2 [[(.int .i64 (.ofNat 0) 0),.Bh]]))])
  (.seq .skip
   (.seq (.block 0 (.loop (.seq (.seq (.ops [.mk .ps .no (.n (.ER r0)),
    .mk .ps .no (.n (.Dh 7 (.s 0))),
    .mk .ps .no (.n (.ld1 (.s 0))),
    .mk .ps .no (.n (.jM (.s 0))),
    .mk (.to q11) .no (.n (.bin .gtr (.s 0) (.c (.int .i64 (.ofNat 0) 0))))])
    (.cond r11 .skip
     (.exit 0)))
    (.block 1 (.seq (.seq (.ops [.mk .ps .no (.n (.ER r0)),
     .mk .ps .no (.n (.Dh 5 (.s 0))),
     .mk .ps .no (.n (.ld1 (.s 0))),
     .mk .ps .no (.n (.eq (.one .int) true (.s 0) (.c (.int .i64 (.ofNat 0) 0)))),
     .mk .ps (.on (.s 0) false) (.n (.mv r0)),
     .mk .ps (.on (.s 1) false) (.n (.ER (.s 0))),
     .mk .ps (.on (.s 2) false) (.n (.Dh 6 (.s 0))),
     .mk .ps (.on (.s 3) false) (.n (.ld1 (.s 0))),
     .mk (.to q22) .no (.n (.pick (.s 4) (.c (.bool true)) (.s 0)))])
     (.cond r22 (.exit 0)
      .skip))
     (.seq (.seq (.ops [.mk .ps .no (.n (.ER r0)),
      .mk .ps .no (.n (.Dh 1 (.s 0))),
      .mk .ps .no (.n (.Dh 0 (.s 0))),
      .mk .ps .no (.n (.ld1 (.s 0))),
      .mk .ps .no (.n (.bin .sub (.s 0) (.c (.int .i64 (.ofNat 1) 0)))),
      .mk .ps .no (.n (.ER r0)),
      .mk .ps .no (.n (.Dh 1 (.s 0))),
      .mk .ps .no (.n (.Dh 0 (.s 0))),
      .mk .no .no (.e (.st 1 (.s 0) (.s 3)))])
      (.seq (.ops [.mk .ps .no (.n (.ER r0)),
       .mk .ps .no (.n (.Dh 1 (.s 0))),
       .mk .ps .no (.n (.Dh 0 (.s 0))),
       .mk .ps .no (.n (.ld1 (.s 0))),
       .mk (.to q37) .no (.n (.bin .lss (.s 0) (.c (.int .i64 (.ofNat 0) 0))))])
       (.cond r37 (.seq (.ops [.mk .ps .no (.e (.call 41 [r0,(.c (.int .i64 (.ofNat 5) 0))]))])
        (.exit 0))
        .skip)))
      (.seq (.ops [.mk .ps .no (.e (.call 42 [r0])),
       .mk (.to q4) .no (.n (.mv (.s 0)))])
       (.seq (.seq (.reg [.op (.mk (.to q42) .no (.n (.mv r4))),
        .op (.mk (.to q43) .no (.n (.ER r42))),
        .op (.mk (.to q44) .no (.n (.Dh 13 r43))),
        .op (.mk (.to q45) .no (.n (.ld1 r44))),
        .op (.mk (.to q46) .no (.n (.mv r4))),
        .op (.mk (.to q47) .no (.n (.ER r46))),
        .op (.mk (.to q48) .no (.n (.Dh 10 r47))),
        .op (.mk (.to q49) .no (.n (.Dh 2 r48))),
        .op (.mk (.to q50) .no (.n (.ld1 r49))),
        .op (.mk (.to q51) .no (.n (.jM r50))),
        .op (.mk (.to q52) .no (.n (.bin .geq r45 r51)))])
        (.cond r52 (.seq (.ops [.mk .ps .no (.n (.ER r0)),
         .mk .ps .no (.n (.Dh 6 (.s 0))),
         .mk .no .no (.e (.st 1 (.s 0) (.c (.bool true))))])
         (.exit 0))
         .skip))
        (.seq (.reg [.op (.mk (.to q56) .no (.n (.mv r4))),
         .op (.mk (.to q57) .no (.n (.ER r56))),
         .op (.mk (.to q58) .no (.n (.Dh 10 r57))),
         .op (.mk (.to q59) .no (.n (.Dh 2 r58))),
         .op (.mk (.to q60) .no (.n (.ld1 r59))),
         .op (.mk (.to q61) .no (.n (.mv r4))),
         .op (.mk (.to q62) .no (.n (.ER r61))),
         .op (.mk (.to q63) .no (.n (.Dh 13 r62))),
         .op (.mk (.to q64) .no (.n (.ld1 r63))),
         .op (.mk (.to q65) .no (.n (.fO 2 r60 r64))),
         .op (.mk (.to q66) .no (.n (.ldn 2 r65))),
         .op (.mk (.to q5) .no (.a (.alloc 2 [[(.int .i64 (.ofNat 0) 0),(.int .i64 (.ofNat 0) 0)]]))),
         .op (.mk .no .no (.e (.st 2 r5 r66)))])
         (.seq (.ops [.mk .ps .no (.n (.ER r4)),
          .mk .ps .no (.n (.Dh 13 (.s 0))),
          .mk .ps .no (.n (.ld1 (.s 0))),
          .mk .ps .no (.n (.bin .add (.s 0) (.c (.int .i64 (.ofNat 1) 0)))),
          .mk .ps .no (.n (.ER r4)),
          .mk .ps .no (.n (.Dh 13 (.s 0))),
          .mk .no .no (.e (.st 1 (.s 0) (.s 2)))])
          (.seq (.seq (.ops [.mk .ps .no (.n (.Dh 0 r5)),
           .mk .ps .no (.n (.ld1 (.s 0))),
           .mk (.to q76) .no (.n (.eq (.one .int) true (.s 0) (.c (.int .i64 (.ofNat 29) 0))))])
           (.cond r76 (.seq (.ops [.mk .ps .no (.n (.ldn 2 r5)),
            .mk .ps .no (.e (.call 43 [r0,r4,(.s 0)]))])
            (.exit 1))
            .skip))
           (.seq (.ops [.mk .ps .no (.e (.call 44 [r0,r4,(.c (.int .i64 (.ofNat 1) 0))])),
            .mk .ps .no (.n (.fO 2 (.s 0) (.c (.int .i64 (.ofNat 0) 0)))),
            .mk .ps .no (.n (.ldn 2 (.s 0))),
            .mk .no .no (.e (.st 2 r3 (.s 0)))])
            (.seq (.reg [.op (.mk (.to q86) .no (.n (.mv r0))),
             .op (.mk (.to q87) .no (.n (.mv r0))),
             .op (.mk (.to q88) .no (.n (.ER r87))),
             .op (.mk (.to q89) .no (.n (.Dh 7 r88))),
             .op (.mk (.to q90) .no (.n (.ld1 r89))),
             .op (.mk (.to q91) .no (.n (.mv r0))),
             .op (.mk (.to q92) .no (.n (.ER r91))),
             .op (.mk (.to q93) .no (.n (.Dh 7 r92))),
             .op (.mk (.to q94) .no (.n (.ld1 r93))),
             .op (.mk (.to q95) .no (.n (.jM r94))),
             .op (.mk (.to q96) .no (.n (.bin .sub r95 (.c (.int .i64 (.ofNat 1) 0))))),
             .op (.mk (.to q97) .no (.n (.slc 16 r90 none (some r96) none))),
             .op (.mk (.to q98) .no (.n (.ER r86))),
             .op (.mk (.to q99) .no (.n (.Dh 7 r98))),
             .op (.mk .no .no (.e (.st 1 r99 r97)))])
             (.seq (.ops [.mk .ps .no (.n (.ER r0)),
              .mk .ps .no (.n (.Dh 7 (.s 0))),
              .mk .ps .no (.n (.ld1 (.s 0))),
              .mk .ps .no (.n (.jM (.s 0))),
              .mk (.to ALZ) .no (.n (.bin .gtr (.s 0) (.c (.int .i64 (.ofNat 0) 0))))])
              (.cond Af9 (.reg [.op (.mk (.to AG7) .no (.n (.mv r0))),
               .op (.mk (.to AK4) .no (.n (.mv r0))),
               .op (.mk (.to oh) .no (.n (.ldn 2 r3))),
               .op (.mk (.to ADZ) .no (.a (.Hg 2 1 [(.int .i64 (.ofNat 0) 0),.Bh] [(0,AgE)]))),
               .op (.mk (.to AIZ) .no (.e (.call 42 [AfI]))),
               .re oh .no (.ldn 2 r3),
               .op (.mk (.to AJz) .no (.e (.call 45 [Afp,AgH,Aft])))])
               .skip)))))))))))))))
    (.seq (.ops [.mk .ps .no (.n (.ldn 2 r3)),
     .mk .no .no (.e (.st 2 r2 (.s 0)))])
     .ret)))))
 [.celln q2 2] .no 0
theorem ATb:T.get F 19=some AGa:=by kernel_rfl
def G5(lp:Aa)(G:AQ)(call:AP)(k:KV)(v1:V)(v2:V)(H:Heap)(n:Nat):Prop:=
 AB (Ac 2 v2 G H) λv4=>
 Au 2 v1 v4 H n λv5 H n=>
 CJ (BF [.cn v1 2] G H) λl=>k (BQ l) H n
def VF(lp:Aa)(G:AQ)(call:AP)(k:KV)(a0:V)(v1:V)(v2:V)(ih6:(Heap×Nat)->Prop)(H:Heap)(n:Nat):Prop:=
 AB (AX a0) λv7=>
 AB (AL 7 v7) λv8=>
 AB (AY v8 G H) λv9=>
 AB (lenV v9) λv10=>
 AB (B2.ev .gtr v10 (.int .i64 (.ofNat 0) 0)) λv11=>
 AV v11 true (AB (AX a0) λv12=>
 AB (AL 5 v12) λv13=>
 AB (AY v13 G H) λv14=>
 AB (Az (.one .int) true v14 (.int .i64 (.ofNat 0) 0)) λv15=>
 Ai v15 false (some a0) λv16=>
 Ai v15 false (AX v16) λv17=>
 Ai v15 false (AL 6 v17) λv18=>
 Ai v15 false (AY v18 G H) λv19=>
 AB (Am v15 (.bool true) v19) λv20=>
 AV v20 true (G5 lp G call k v1 v2 H n) (AB (AX a0) λv21=>
 AB (AL 1 v21) λv22=>
 AB (AL 0 v22) λv23=>
 AB (AY v23 G H) λv24=>
 AB (B2.ev .sub v24 (.int .i64 (.ofNat 1) 0)) λv25=>
 AB (AX a0) λv26=>
 AB (AL 1 v26) λv27=>
 AB (AL 0 v27) λv28=>
 Au 1 v28 v25 H n λv29 H n=>
 AB (AX a0) λv30=>
 AB (AL 1 v30) λv31=>
 AB (AL 0 v31) λv32=>
 AB (AY v32 G H) λv33=>
 AB (B2.ev .lss v33 (.int .i64 (.ofNat 0) 0)) λv34=>
 AV v34 true (call 41 [a0,(.int .i64 (.ofNat 5) 0)] H n λv35 H n=>
 G5 lp G call k v1 v2 H n) (call 42 [a0] H n λv36 H n=>
 AB (AX v36) λv37=>
 AB (AL 13 v37) λv38=>
 AB (AY v38 G H) λv39=>
 AB (AX v36) λv40=>
 AB (AL 10 v40) λv41=>
 AB (AL 2 v41) λv42=>
 AB (AY v42 G H) λv43=>
 AB (lenV v43) λv44=>
 AB (B2.ev .geq v39 v44) λv45=>
 AV v45 true (AB (AX a0) λv46=>
 AB (AL 6 v46) λv47=>
 Au 1 v47 (.bool true) H n λv48 H n=>
 G5 lp G call k v1 v2 H n) (AB (AX v36) λv49=>
 AB (AL 10 v49) λv50=>
 AB (AL 2 v50) λv51=>
 AB (AY v51 G H) λv52=>
 AB (AX v36) λv53=>
 AB (AL 13 v53) λv54=>
 AB (AY v54 G H) λv55=>
 AB (Ad 2 v52 v55) λv56=>
 AB (Ac 2 v56 G H) λv57=>
 Ap (Ag 2 [[(.int .i64 (.ofNat 0) 0),(.int .i64 (.ofNat 0) 0)]] E0) H n λv58 H n=>
 Au 2 v58 v57 H n λv59 H n=>
 AB (AX v36) λv60=>
 AB (AL 13 v60) λv61=>
 AB (AY v61 G H) λv62=>
 AB (B2.ev .add v62 (.int .i64 (.ofNat 1) 0)) λv63=>
 AB (AX v36) λv64=>
 AB (AL 13 v64) λv65=>
 Au 1 v65 v63 H n λv66 H n=>
 AB (AL 0 v58) λv67=>
 AB (AY v67 G H) λv68=>
 AB (Az (.one .int) true v68 (.int .i64 (.ofNat 29) 0)) λv69=>
 AV v69 true (AB (Ac 2 v58 G H) λv70=>
 call 43 [a0,v36,v70] H n λv71 H n=>
 ih6 (H,n)) (call 44 [a0,v36,(.int .i64 (.ofNat 1) 0)] H n λv72 H n=>
 AB (Ad 2 v72 (.int .i64 (.ofNat 0) 0)) λv73=>
 AB (Ac 2 v73 G H) λv74=>
 Au 2 v2 v74 H n λv75 H n=>
 AB (AX a0) λv76=>
 AB (AL 7 v76) λv77=>
 AB (AY v77 G H) λv78=>
 AB (AX a0) λv79=>
 AB (AL 7 v79) λv80=>
 AB (AY v80 G H) λv81=>
 AB (lenV v81) λv82=>
 AB (B2.ev .sub v82 (.int .i64 (.ofNat 1) 0)) λv83=>
 AB (Gl 16 v78 E0 none (some (.c v83)) none) λv84=>
 AB (AX a0) λv85=>
 AB (AL 7 v85) λv86=>
 Au 1 v86 v84 H n λv87 H n=>
 AB (AX a0) λv88=>
 AB (AL 7 v88) λv89=>
 AB (AY v89 G H) λv90=>
 AB (lenV v90) λv91=>
 AB (B2.ev .gtr v91 (.int .i64 (.ofNat 0) 0)) λv92=>
 AV v92 true (AB (Ac 2 v2 G H) λv93=>
 Ap (Ah 2 1 [(.int .i64 (.ofNat 0) 0),.Bh] [(0,.c v93)] E0) H n λv94 H n=>
 call 42 [a0] H n λv95 H n=>
 AB (Ac 2 v2 G H) λv=>AcA (A8 v v93) <|
 call 45 [a0,v95,v94] H n λv96 H n=>
 ih6 (H,n)) (ih6 (H,n))))))) (G5 lp G call k v1 v2 H n)
def ABz(lp:Aa)(G:AQ)(call:AP)(a0:V)(H:Heap)(n:Nat)(k:KV):Prop:=
 Ap (Ag 2 [[(.int .i64 (.ofNat 0) 0),.Bh]] E0) H n λv1 H n=>
 Ap (Ag 2 [[(.int .i64 (.ofNat 0) 0),.Bh]] E0) H n λv2 H n=>
 lp (Heap×Nat) (λih s=>VF lp G call k a0 v1 v2 ih s.1 s.2) (H,n)
theorem AY9{lp:Aa}(hL:Ar lp)(G:AQ):Jy G AGa (CQ (ABz lp G)):=by
 intro call callE hle hd
 refine λl H n k h0=>?_
 obtain⟨a0,rfl,h⟩:=aK h0
 clear h0
 delta ABz at h
 refine mY rfl ?_
 refine CS ?_
 refine DZ ?_
 refine AZ3 h Oz λv1 H n h=>?_
 refine o0 ?_
 refine CS ?_
 refine DZ ?_
 refine AZ3 h Oz λv2 H n h=>?_
 refine o0 ?_
 refine CS ?_
 refine Fa ?_
 refine AX7 (λR H n=>rg R q2=v1/\rg R q3=v2/\G5 lp G call k v1 v2 H n) ?_ λj3=>?_
 ·rintro R H n ⟨f2,f3,h⟩
  delta G5 at h
  refine CS ?_
  refine DZ ?_
  refine Ci h (Wy (xr f3)) λv4 h=>?_
  refine xZ hle hd h (iw (xr f2) rfl) λv5 H n h=>?_
  refine o0 ?_
  refine UF ?_
  exact Ji (rsN f2 rs0) h
 ·refine oL ?_
  refine AYI hL (λs R H n=>rg R q0=a0/\rg R q2=v1/\rg R q3=v2/\H=s.1/\n=s.2) h ⟨(ne rfl (ne rfl rfl)),(ne rfl sm),sm,rfl,rfl⟩ ?_
  rintro ih6 I6 hI6 ⟨H,n⟩ R H0 n0 ⟨f0,f2,f3,eH,eN⟩ h
  replace h:VF lp G call k a0 v1 v2 ih6 H n:=h
  obtain rfl:H0=H:=eH
  obtain rfl:n0=n:=eN
  delta VF at h
  refine CS ?_
  refine CS ?_
  refine DZ ?_
  refine Ci h (Dk (xr f0)) λv7 h=>?_
  refine Ci h (Bz rfl) λv8 h=>?_
  refine Ci h (EP rfl) λv9 h=>?_
  refine Ci h (Sl rfl) λv10 h=>?_
  refine V3 h (F5 rfl rfl) λv11 h=>?_
  refine o0 ?_
  refine GK h (xr sm) (λh=>?_) (λh=>?_)
  ·refine Fa ?_
   refine oL ?_
   refine CS ?_
   refine CS ?_
   refine DZ ?_
   refine Ci h (Dk (xr (ne rfl f0))) λv12 h=>?_
   refine Ci h (Bz rfl) λv13 h=>?_
   refine Ci h (EP rfl) λv14 h=>?_
   refine Ci h (k_eq rfl rfl) λv15 h=>?_
   refine Dc h rfl (EN (xr (ne rfl f0))) λv16 h=>?_
   refine Dc h rfl (Dk rfl) λv17 h=>?_
   refine Dc h rfl (Bz rfl) λv18 h=>?_
   refine Dc h rfl (EP rfl) λv19 h=>?_
   refine V3 h (MP rfl rfl rfl) λv20 h=>?_
   refine o0 ?_
   refine GK h (xr sm) (λh=>?_) (λh=>?_)
   ·refine Td ?_
    refine zS rfl ?_
    refine J6 ?_
    exact j3 _ _ _ ⟨(ne rfl (ne rfl f2)),(ne rfl (ne rfl f3)),h⟩
   ·refine Fa ?_
    refine CS ?_
    refine CS ?_
    refine DZ ?_
    refine Ci h (Dk (xr (ne rfl (ne rfl f0)))) λv21 h=>?_
    refine Ci h (Bz rfl) λv22 h=>?_
    refine Ci h (Bz rfl) λv23 h=>?_
    refine Ci h (EP rfl) λv24 h=>?_
    refine Ci h (F5 rfl rfl) λv25 h=>?_
    refine Ci h (Dk (xr (ne rfl (ne rfl f0)))) λv26 h=>?_
    refine Ci h (Bz rfl) λv27 h=>?_
    refine Ci h (Bz rfl) λv28 h=>?_
    refine xZ hle hd h (iw rfl rfl) λv29 H n h=>?_
    refine o0 ?_
    refine CS ?_
    refine DZ ?_
    refine Ci h (Dk (xr (ne rfl (ne rfl f0)))) λv30 h=>?_
    refine Ci h (Bz rfl) λv31 h=>?_
    refine Ci h (Bz rfl) λv32 h=>?_
    refine Ci h (EP rfl) λv33 h=>?_
    refine V3 h (F5 rfl rfl) λv34 h=>?_
    refine o0 ?_
    refine GK h (xr sm) (λh=>?_) (λh=>?_)
    ·refine CS ?_
     refine DZ ?_
     refine jC hle hd h (Gn (Vy (xr (ne rfl (ne rfl (ne rfl f0)))) (Vy rfl xs0))) λv35 H n h=>?_
     refine o0 ?_
     refine Td ?_
     refine zS rfl ?_
     refine J6 ?_
     exact j3 _ _ _ ⟨(ne rfl (ne rfl (ne rfl f2))),(ne rfl (ne rfl (ne rfl f3))),h⟩
    ·refine Fa ?_
     refine CS ?_
     refine DZ ?_
     refine jC hle hd h (Gn (Vy (xr (ne rfl (ne rfl (ne rfl f0)))) xs0)) λv36 H n h=>?_
     refine Iy (a:=v36) (EN rfl) ?_
     refine o0 ?_
     refine CS ?_
     refine CS ?_
     refine mF ?_
     refine bY (a:=v36) (EN (xr sm)) ?_
     refine Ee h (Dk (xr sm)) λv37 h=>?_
     refine Ee h (Bz (xr sm)) λv38 h=>?_
     refine Ee h (EP (xr sm)) λv39 h=>?_
     refine bY (a:=v36) (EN (xr (ne rfl (ne rfl (ne rfl (ne rfl sm)))))) ?_
     refine Ee h (Dk (xr sm)) λv40 h=>?_
     refine Ee h (Bz (xr sm)) λv41 h=>?_
     refine Ee h (Bz (xr sm)) λv42 h=>?_
     refine Ee h (EP (xr sm)) λv43 h=>?_
     refine Ee h (Sl (xr sm)) λv44 h=>?_
     refine Ee h (F5 (xr (ne rfl (ne rfl (ne rfl (ne rfl (ne rfl (ne rfl sm))))))) (xr sm)) λv45 h=>?_
     refine i0 ?_
     refine GK h (xr sm) (λh=>?_) (λh=>?_)
     ·refine CS ?_
      refine DZ ?_
      refine Ci h (Dk (xr (ne rfl (ne rfl (ne rfl (ne rfl (ne rfl (ne rfl (ne rfl (ne rfl (ne rfl (ne rfl (ne rfl (ne rfl (ne rfl (ne rfl (ne rfl f0))))))))))))))))) λv46 h=>?_
      refine Ci h (Bz rfl) λv47 h=>?_
      refine xZ hle hd h (iw rfl rfl) λv48 H n h=>?_
      refine o0 ?_
      refine Td ?_
      refine zS rfl ?_
      refine J6 ?_
      exact j3 _ _ _ ⟨(ne rfl (ne rfl (ne rfl (ne rfl (ne rfl (ne rfl (ne rfl (ne rfl (ne rfl (ne rfl (ne rfl (ne rfl (ne rfl (ne rfl (ne rfl f2))))))))))))))),(ne rfl (ne rfl (ne rfl (ne rfl (ne rfl (ne rfl (ne rfl (ne rfl (ne rfl (ne rfl (ne rfl (ne rfl (ne rfl (ne rfl (ne rfl f3))))))))))))))),h⟩
     ·refine Fa ?_
      refine CS ?_
      refine mF ?_
      refine bY (a:=v36) (EN (xr (ne rfl (ne rfl (ne rfl (ne rfl (ne rfl (ne rfl (ne rfl (ne rfl (ne rfl (ne rfl (ne rfl sm))))))))))))) ?_
      refine Ee h (Dk (xr sm)) λv49 h=>?_
      refine Ee h (Bz (xr sm)) λv50 h=>?_
      refine Ee h (Bz (xr sm)) λv51 h=>?_
      refine Ee h (EP (xr sm)) λv52 h=>?_
      refine bY (a:=v36) (EN (xr (ne rfl (ne rfl (ne rfl (ne rfl (ne rfl (ne rfl (ne rfl (ne rfl (ne rfl (ne rfl (ne rfl (ne rfl (ne rfl (ne rfl (ne rfl (ne rfl sm)))))))))))))))))) ?_
      refine Ee h (Dk (xr sm)) λv53 h=>?_
      refine Ee h (Bz (xr sm)) λv54 h=>?_
      refine Ee h (EP (xr sm)) λv55 h=>?_
      refine Ee h (Zp (xr (ne rfl (ne rfl (ne rfl (ne rfl sm))))) (xr sm)) λv56 h=>?_
      refine Ee h (Wy (xr sm)) λv57 h=>?_
      refine Ab6 h Oz λv58 H n h=>?_
      refine Abq hle hd h (iw (xr sm) (xr (ne rfl sm))) λv59 H n h=>?_
      refine i0 ?_
      refine CS ?_
      refine DZ ?_
      refine Ci h (Dk (xr (ne rfl (ne rfl (ne rfl (ne rfl (ne rfl (ne rfl (ne rfl (ne rfl (ne rfl (ne rfl (ne rfl (ne rfl (ne rfl (ne rfl (ne rfl (ne rfl (ne rfl (ne rfl (ne rfl (ne rfl (ne rfl (ne rfl (ne rfl sm))))))))))))))))))))))))) λv60 h=>?_
      refine Ci h (Bz rfl) λv61 h=>?_
      refine Ci h (EP rfl) λv62 h=>?_
      refine Ci h (F5 rfl rfl) λv63 h=>?_
      refine Ci h (Dk (xr (ne rfl (ne rfl (ne rfl (ne rfl (ne rfl (ne rfl (ne rfl (ne rfl (ne rfl (ne rfl (ne rfl (ne rfl (ne rfl (ne rfl (ne rfl (ne rfl (ne rfl (ne rfl (ne rfl (ne rfl (ne rfl (ne rfl (ne rfl sm))))))))))))))))))))))))) λv64 h=>?_
      refine Ci h (Bz rfl) λv65 h=>?_
      refine xZ hle hd h (iw rfl rfl) λv66 H n h=>?_
      refine o0 ?_
      refine CS ?_
      refine CS ?_
      refine DZ ?_
      refine Ci h (Bz (xr sm)) λv67 h=>?_
      refine Ci h (EP rfl) λv68 h=>?_
      refine V3 h (k_eq rfl rfl) λv69 h=>?_
      refine o0 ?_
      refine GK h (xr sm) (λh=>?_) (λh=>?_)
      ·refine CS ?_
       refine DZ ?_
       refine Ci h (Wy (xr (ne rfl sm))) λv70 h=>?_
       refine jC hle hd h (Gn (Vy (xr (ne rfl (ne rfl (ne rfl (ne rfl (ne rfl (ne rfl (ne rfl (ne rfl (ne rfl (ne rfl (ne rfl (ne rfl (ne rfl (ne rfl (ne rfl (ne rfl (ne rfl (ne rfl (ne rfl (ne rfl (ne rfl (ne rfl (ne rfl (ne rfl (ne rfl (ne rfl (ne rfl (ne rfl f0))))))))))))))))))))))))))))) (Vy (xr (ne rfl (ne rfl (ne rfl (ne rfl (ne rfl (ne rfl (ne rfl (ne rfl (ne rfl (ne rfl (ne rfl (ne rfl (ne rfl (ne rfl (ne rfl (ne rfl (ne rfl (ne rfl (ne rfl (ne rfl (ne rfl (ne rfl (ne rfl (ne rfl sm))))))))))))))))))))))))) (Vy rfl xs0)))) λv71 H n h=>?_
       refine o0 ?_
       refine Td ?_
       refine J6 ?_
       exact hI6 (H,n) _ _ _ ⟨(ne rfl (ne rfl (ne rfl (ne rfl (ne rfl (ne rfl (ne rfl (ne rfl (ne rfl (ne rfl (ne rfl (ne rfl (ne rfl (ne rfl (ne rfl (ne rfl (ne rfl (ne rfl (ne rfl (ne rfl (ne rfl (ne rfl (ne rfl (ne rfl (ne rfl (ne rfl (ne rfl (ne rfl f0)))))))))))))))))))))))))))),(ne rfl (ne rfl (ne rfl (ne rfl (ne rfl (ne rfl (ne rfl (ne rfl (ne rfl (ne rfl (ne rfl (ne rfl (ne rfl (ne rfl (ne rfl (ne rfl (ne rfl (ne rfl (ne rfl (ne rfl (ne rfl (ne rfl (ne rfl (ne rfl (ne rfl (ne rfl (ne rfl (ne rfl f2)))))))))))))))))))))))))))),(ne rfl (ne rfl (ne rfl (ne rfl (ne rfl (ne rfl (ne rfl (ne rfl (ne rfl (ne rfl (ne rfl (ne rfl (ne rfl (ne rfl (ne rfl (ne rfl (ne rfl (ne rfl (ne rfl (ne rfl (ne rfl (ne rfl (ne rfl (ne rfl (ne rfl (ne rfl (ne rfl (ne rfl f3)))))))))))))))))))))))))))),rfl,rfl⟩ h
      ·refine Fa ?_
       refine CS ?_
       refine DZ ?_
       refine jC hle hd h (Gn (Vy (xr (ne rfl (ne rfl (ne rfl (ne rfl (ne rfl (ne rfl (ne rfl (ne rfl (ne rfl (ne rfl (ne rfl (ne rfl (ne rfl (ne rfl (ne rfl (ne rfl (ne rfl (ne rfl (ne rfl (ne rfl (ne rfl (ne rfl (ne rfl (ne rfl (ne rfl (ne rfl (ne rfl (ne rfl f0))))))))))))))))))))))))))))) (Vy (xr (ne rfl (ne rfl (ne rfl (ne rfl (ne rfl (ne rfl (ne rfl (ne rfl (ne rfl (ne rfl (ne rfl (ne rfl (ne rfl (ne rfl (ne rfl (ne rfl (ne rfl (ne rfl (ne rfl (ne rfl (ne rfl (ne rfl (ne rfl (ne rfl sm))))))))))))))))))))))))) (Vy rfl xs0)))) λv72 H n h=>?_
       refine Ci h (Zp rfl rfl) λv73 h=>?_
       refine Ci h (Wy rfl) λv74 h=>?_
       refine xZ hle hd h (iw (xr (ne rfl (ne rfl (ne rfl (ne rfl (ne rfl (ne rfl (ne rfl (ne rfl (ne rfl (ne rfl (ne rfl (ne rfl (ne rfl (ne rfl (ne rfl (ne rfl (ne rfl (ne rfl (ne rfl (ne rfl (ne rfl (ne rfl (ne rfl (ne rfl (ne rfl (ne rfl (ne rfl (ne rfl f3))))))))))))))))))))))))))))) rfl) λv75 H n h=>?_
       refine o0 ?_
       refine CS ?_
       refine mF ?_
       refine bY (a:=a0) (EN (xr (ne rfl (ne rfl (ne rfl (ne rfl (ne rfl (ne rfl (ne rfl (ne rfl (ne rfl (ne rfl (ne rfl (ne rfl (ne rfl (ne rfl (ne rfl (ne rfl (ne rfl (ne rfl (ne rfl (ne rfl (ne rfl (ne rfl (ne rfl (ne rfl (ne rfl (ne rfl (ne rfl (ne rfl f0)))))))))))))))))))))))))))))) ?_
       refine bY (a:=a0) (EN (xr (ne rfl (ne rfl (ne rfl (ne rfl (ne rfl (ne rfl (ne rfl (ne rfl (ne rfl (ne rfl (ne rfl (ne rfl (ne rfl (ne rfl (ne rfl (ne rfl (ne rfl (ne rfl (ne rfl (ne rfl (ne rfl (ne rfl (ne rfl (ne rfl (ne rfl (ne rfl (ne rfl (ne rfl (ne rfl f0))))))))))))))))))))))))))))))) ?_
       refine Ee h (Dk (xr sm)) λv76 h=>?_
       refine Ee h (Bz (xr sm)) λv77 h=>?_
       refine Ee h (EP (xr sm)) λv78 h=>?_
       refine bY (a:=a0) (EN (xr (ne rfl (ne rfl (ne rfl (ne rfl (ne rfl (ne rfl (ne rfl (ne rfl (ne rfl (ne rfl (ne rfl (ne rfl (ne rfl (ne rfl (ne rfl (ne rfl (ne rfl (ne rfl (ne rfl (ne rfl (ne rfl (ne rfl (ne rfl (ne rfl (ne rfl (ne rfl (ne rfl (ne rfl (ne rfl (ne rfl (ne rfl (ne rfl (ne rfl f0))))))))))))))))))))))))))))))))))) ?_
       refine Ee h (Dk (xr sm)) λv79 h=>?_
       refine Ee h (Bz (xr sm)) λv80 h=>?_
       refine Ee h (EP (xr sm)) λv81 h=>?_
       refine Ee h (Sl (xr sm)) λv82 h=>?_
       refine Ee h (F5 (xr sm) rfl) λv83 h=>?_
       refine Ee h (Aae (xr (ne rfl (ne rfl (ne rfl (ne rfl (ne rfl (ne rfl sm))))))) ox0 (oxS (xr sm)) ox0) λv84 h=>?_
       refine Ee h (Dk (xr (ne rfl (ne rfl (ne rfl (ne rfl (ne rfl (ne rfl (ne rfl (ne rfl (ne rfl (ne rfl (ne rfl sm))))))))))))) λv85 h=>?_
       refine Ee h (Bz (xr sm)) λv86 h=>?_
       refine Abq hle hd h (iw (xr sm) (xr (ne rfl (ne rfl sm)))) λv87 H n h=>?_
       refine i0 ?_
       refine CS ?_
       refine DZ ?_
       refine Ci h (Dk (xr (ne rfl (ne rfl (ne rfl (ne rfl (ne rfl (ne rfl (ne rfl (ne rfl (ne rfl (ne rfl (ne rfl (ne rfl (ne rfl (ne rfl (ne rfl (ne rfl (ne rfl (ne rfl (ne rfl (ne rfl (ne rfl (ne rfl (ne rfl (ne rfl (ne rfl (ne rfl (ne rfl (ne rfl (ne rfl (ne rfl (ne rfl (ne rfl (ne rfl (ne rfl (ne rfl (ne rfl (ne rfl (ne rfl (ne rfl (ne rfl (ne rfl (ne rfl f0)))))))))))))))))))))))))))))))))))))))))))) λv88 h=>?_
       refine Ci h (Bz rfl) λv89 h=>?_
       refine Ci h (EP rfl) λv90 h=>?_
       refine Ci h (Sl rfl) λv91 h=>?_
       refine V3 h (F5 rfl rfl) λv92 h=>?_
       refine o0 ?_
       refine GK h (xr sm) (λh=>?_) (λh=>?_)
       ·refine mF ?_
        refine bY (a:=a0) (EN (xr (ne rfl (ne rfl (ne rfl (ne rfl (ne rfl (ne rfl (ne rfl (ne rfl (ne rfl (ne rfl (ne rfl (ne rfl (ne rfl (ne rfl (ne rfl (ne rfl (ne rfl (ne rfl (ne rfl (ne rfl (ne rfl (ne rfl (ne rfl (ne rfl (ne rfl (ne rfl (ne rfl (ne rfl (ne rfl (ne rfl (ne rfl (ne rfl (ne rfl (ne rfl (ne rfl (ne rfl (ne rfl (ne rfl (ne rfl (ne rfl (ne rfl (ne rfl (ne rfl f0))))))))))))))))))))))))))))))))))))))))))))) ?_
        refine bY (a:=a0) (EN (xr (ne rfl (ne rfl (ne rfl (ne rfl (ne rfl (ne rfl (ne rfl (ne rfl (ne rfl (ne rfl (ne rfl (ne rfl (ne rfl (ne rfl (ne rfl (ne rfl (ne rfl (ne rfl (ne rfl (ne rfl (ne rfl (ne rfl (ne rfl (ne rfl (ne rfl (ne rfl (ne rfl (ne rfl (ne rfl (ne rfl (ne rfl (ne rfl (ne rfl (ne rfl (ne rfl (ne rfl (ne rfl (ne rfl (ne rfl (ne rfl (ne rfl (ne rfl (ne rfl (ne rfl f0)))))))))))))))))))))))))))))))))))))))))))))) ?_
        refine Ee h (Wy (xr (ne rfl (ne rfl (ne rfl (ne rfl (ne rfl (ne rfl (ne rfl (ne rfl (ne rfl (ne rfl (ne rfl (ne rfl (ne rfl (ne rfl (ne rfl (ne rfl (ne rfl (ne rfl (ne rfl (ne rfl (ne rfl (ne rfl (ne rfl (ne rfl (ne rfl (ne rfl (ne rfl (ne rfl (ne rfl (ne rfl (ne rfl (ne rfl (ne rfl (ne rfl (ne rfl (ne rfl (ne rfl (ne rfl (ne rfl (ne rfl (ne rfl (ne rfl (ne rfl (ne rfl (ne rfl f3))))))))))))))))))))))))))))))))))))))))))))))) λv93 h=>?_
        refine Ab6 h (SE (pbS (xr sm) pb0)) λv94 H n h=>?_
        refine AbO hle hd h (Gn (Vy (xr (ne rfl (ne rfl sm))) xs0)) λv95 H n h=>?_
        refine ire (ANh h) (ne rfl (ne rfl sm)) (Wy (xr (ne rfl (ne rfl (ne rfl (ne rfl (ne rfl (ne rfl (ne rfl (ne rfl (ne rfl (ne rfl (ne rfl (ne rfl (ne rfl (ne rfl (ne rfl (ne rfl (ne rfl (ne rfl (ne rfl (ne rfl (ne rfl (ne rfl (ne rfl (ne rfl (ne rfl (ne rfl (ne rfl (ne rfl (ne rfl (ne rfl (ne rfl (ne rfl (ne rfl (ne rfl (ne rfl (ne rfl (ne rfl (ne rfl (ne rfl (ne rfl (ne rfl (ne rfl (ne rfl (ne rfl (ne rfl (ne rfl (ne rfl (ne rfl f3)))))))))))))))))))))))))))))))))))))))))))))))))) λh=>?_
        refine AbO hle hd h (Gn (Vy (xr (ne rfl (ne rfl (ne rfl (ne rfl sm))))) (Vy (xr sm) (Vy (xr (ne rfl sm)) xs0)))) λv96 H n h=>?_
        refine i0 ?_
        exact hI6 (H,n) _ _ _ ⟨(ne rfl (ne rfl (ne rfl (ne rfl (ne rfl (ne rfl (ne rfl (ne rfl (ne rfl (ne rfl (ne rfl (ne rfl (ne rfl (ne rfl (ne rfl (ne rfl (ne rfl (ne rfl (ne rfl (ne rfl (ne rfl (ne rfl (ne rfl (ne rfl (ne rfl (ne rfl (ne rfl (ne rfl (ne rfl (ne rfl (ne rfl (ne rfl (ne rfl (ne rfl (ne rfl (ne rfl (ne rfl (ne rfl (ne rfl (ne rfl (ne rfl (ne rfl (ne rfl (ne rfl (ne rfl (ne rfl (ne rfl (ne rfl (ne rfl f0))))))))))))))))))))))))))))))))))))))))))))))))),(ne rfl (ne rfl (ne rfl (ne rfl (ne rfl (ne rfl (ne rfl (ne rfl (ne rfl (ne rfl (ne rfl (ne rfl (ne rfl (ne rfl (ne rfl (ne rfl (ne rfl (ne rfl (ne rfl (ne rfl (ne rfl (ne rfl (ne rfl (ne rfl (ne rfl (ne rfl (ne rfl (ne rfl (ne rfl (ne rfl (ne rfl (ne rfl (ne rfl (ne rfl (ne rfl (ne rfl (ne rfl (ne rfl (ne rfl (ne rfl (ne rfl (ne rfl (ne rfl (ne rfl (ne rfl (ne rfl (ne rfl (ne rfl (ne rfl f2))))))))))))))))))))))))))))))))))))))))))))))))),(ne rfl (ne rfl (ne rfl (ne rfl (ne rfl (ne rfl (ne rfl (ne rfl (ne rfl (ne rfl (ne rfl (ne rfl (ne rfl (ne rfl (ne rfl (ne rfl (ne rfl (ne rfl (ne rfl (ne rfl (ne rfl (ne rfl (ne rfl (ne rfl (ne rfl (ne rfl (ne rfl (ne rfl (ne rfl (ne rfl (ne rfl (ne rfl (ne rfl (ne rfl (ne rfl (ne rfl (ne rfl (ne rfl (ne rfl (ne rfl (ne rfl (ne rfl (ne rfl (ne rfl (ne rfl (ne rfl (ne rfl (ne rfl (ne rfl f3))))))))))))))))))))))))))))))))))))))))))))))))),rfl,rfl⟩ h
       ·refine Fa ?_
        exact hI6 (H,n) _ _ _ ⟨(ne rfl (ne rfl (ne rfl (ne rfl (ne rfl (ne rfl (ne rfl (ne rfl (ne rfl (ne rfl (ne rfl (ne rfl (ne rfl (ne rfl (ne rfl (ne rfl (ne rfl (ne rfl (ne rfl (ne rfl (ne rfl (ne rfl (ne rfl (ne rfl (ne rfl (ne rfl (ne rfl (ne rfl (ne rfl (ne rfl (ne rfl (ne rfl (ne rfl (ne rfl (ne rfl (ne rfl (ne rfl (ne rfl (ne rfl (ne rfl (ne rfl (ne rfl (ne rfl f0))))))))))))))))))))))))))))))))))))))))))),(ne rfl (ne rfl (ne rfl (ne rfl (ne rfl (ne rfl (ne rfl (ne rfl (ne rfl (ne rfl (ne rfl (ne rfl (ne rfl (ne rfl (ne rfl (ne rfl (ne rfl (ne rfl (ne rfl (ne rfl (ne rfl (ne rfl (ne rfl (ne rfl (ne rfl (ne rfl (ne rfl (ne rfl (ne rfl (ne rfl (ne rfl (ne rfl (ne rfl (ne rfl (ne rfl (ne rfl (ne rfl (ne rfl (ne rfl (ne rfl (ne rfl (ne rfl (ne rfl f2))))))))))))))))))))))))))))))))))))))))))),(ne rfl (ne rfl (ne rfl (ne rfl (ne rfl (ne rfl (ne rfl (ne rfl (ne rfl (ne rfl (ne rfl (ne rfl (ne rfl (ne rfl (ne rfl (ne rfl (ne rfl (ne rfl (ne rfl (ne rfl (ne rfl (ne rfl (ne rfl (ne rfl (ne rfl (ne rfl (ne rfl (ne rfl (ne rfl (ne rfl (ne rfl (ne rfl (ne rfl (ne rfl (ne rfl (ne rfl (ne rfl (ne rfl (ne rfl (ne rfl (ne rfl (ne rfl (ne rfl f3))))))))))))))))))))))))))))))))))))))))))),rfl,rfl⟩ h
  ·refine Td ?_
   refine J6 ?_
   exact j3 _ _ _ ⟨(ne rfl f2),(ne rfl f3),h⟩
end Go.R5.UW19
set_option maxRecDepth 100000
namespace Go.R5.VD
open Go.Eng Go.R5
def pre(G:AQ)(call:AP)(P0:Prop)(k:KV)(K:V->Heap->Nat->Prop)(H:Heap)(n:Nat):Prop:=
 call 4 [] H n λv1 H n=>
 AB (Ba v1) λv2=>
 AV v2 true (k (.bool false) H n) (P0/\
 Ap (Ah 1 1 [(.str 0 0)] [(0,.c (.str 243 778793508293005568590558788535233579046775261399117975477625734979254972841077608435405969544689378881418437476596906350529856728120864491748224306435186760761586341880590451957988443922194329746730602567105741798751684838786895570344856641199336935491944242811604704027461256665167531794464050563983985302369100198390457498849241244277454073330345997217138702796027344541214060357856758415907751494272730415864666677156854527909587960606124997267642812782812116684403731861830096387367796611548429824382348277535512934579332729086128505773890675324324182531290061951730804093488295011))] E0) H n λv4 H n=>
 call 5 [v4] H n λv5 H n=>
 AB (BG v5 0) λv6=>
 AB (BG v5 1) λv7=>
 AB (BG v5 2) λv8=>
 AB (Ba v8) λv9=>
 AV v9 true (k (.bool false) H n) (call 6 [v7,v6] H n λv10 H n=>
 AB (BG v10 0) λv11=>
 AB (BG v10 1) λv12=>
 AB (BG v10 2) λv13=>
 AB (Ba v13) λv14=>
 AV v14 true (k (.bool false) H n) (K v11 H n)))
def post(lp:Aa)(G:AQ)(callB:AP)(z2:Int)(x0:Nat)(u0:Int)(k:KV)(v11:V)(H:Heap)(n:Nat):Prop:=
 Ap (Ah 1 3 [(.int .i64 (.ofNat 0) 0)] [(0,.c (.int .i64 (.ofNat x0) 0)),(1,.c (.int .i64 u0 0)),(2,.c (.int .i64 z2 0))] E0) H n λv15 H n=>
 AB (Aw [(.int .i64 (.ofNat 0) 0),(.int .i64 (.ofNat 0) 0),(.int .i64 (.ofNat 0) 0)] [(0,1,.c (.int .i64 (.ofNat 2000) 0)),(1,1,.c (.int .i64 (.ofNat 40) 0)),(2,1,.c (.int .i64 (.ofNat 1) 0))]) λv16=>
 callB 7 [v11,(.str 1 65),(.str 1 109),v15,v16] H n λv17 H n=>
 AB (BG v17 0) λv18=>
 AB (BG v17 1) λv19=>
 Ap (Ag 3 [[(.int .i64 (.ofNat 0) 0),(.int .i64 (.ofNat 0) 0),.Ae]] E0) H n λv20 H n=>
 Au 3 v20 v18 H n λv21 H n=>
 AB (Az (.one .int) true v19 (.int .i64 (.ofNat 0) 0)) λv22=>
 Ai v22 false (AL 2 v20) λv23=>
 Ai v22 false (AY v23 G H) λv24=>
 Ai v22 false (lenV v24) λv25=>
 Ai v22 false (Az (.one .int) true v25 (.int .i64 (.ofNat 1) 0)) λv26=>
 AB (Am v22 (.bool true) v26) λv27=>
 Ai v27 false (AL 2 v20) λv28=>
 Ai v27 false (AY v28 G H) λv29=>
 Ai v27 false (Ad 1 v29 (.int .i64 (.ofNat 0) 0)) λv30=>
 Ai v27 false (AY v30 G H) λv31=>
 Ai v27 false (some (.int .i64 (.ofNat x0) 0)) λv32=>
 Ai v27 false (Az (.one .int) true v31 v32) λv33=>
 AB (Am v27 (.bool true) v33) λv34=>
 AV v34 true (k (.bool false) H n) (AB (B2.ev .lss (.int .i64 u0 0) (.int .i64 (.ofNat 0) 0)) λv35=>
 Ai v35 false (some (.int .i64 u0 0)) λv36=>
 Ai v35 false (some (.int .i64 (.ofNat x0) 0)) λv37=>
 Ai v35 false (B2.ev .geq v36 v37) λv38=>
 AB (Am v35 (.bool true) v38) λv39=>
 AV v39 true (AB (AL 0 v20) λv40=>
 AB (AY v40 G H) λv41=>
 AB (Az (.one .int) false v41 (.int .i64 (.ofNat 2) 0)) λv42=>
 Ai v42 true (AL 1 v20) λv43=>
 Ai v42 true (AY v43 G H) λv44=>
 Ai v42 true (Az (.one .int) false v44 (.int .i64 (.ofNat 0) 0)) λv45=>
 AB (Am v42 v45 (.bool false)) λv46=>
 k v46 H n) (AB (AL 0 v20) λv47=>
 AB (AY v47 G H) λv48=>
 AB (Az (.one .int) false v48 (.int .i64 (.ofNat 0) 0)) λv49=>
 Ai v49 true (AL 1 v20) λv50=>
 Ai v49 true (AY v50 G H) λv51=>
 Ai v49 true (some (.int .i64 (.ofNat x0) 0)) λv52=>
 Ai v49 true (some (.int .i64 (.ofNat x0) 0)) λv53=>
 Ai v49 true (B2.ev .sub v53 (.int .i64 (.ofNat 1) 0)) λv54=>
 Ai v49 true (B2.ev .mul v52 v54) λv55=>
 Ai v49 true (B2.ev .quo v55 (.int .i64 (.ofNat 2) 0)) λv56=>
 Ai v49 true (some (.int .i64 u0 0)) λv57=>
 Ai v49 true (B2.ev .sub v56 v57) λv58=>
 Ai v49 true (some (.int .i64 z2 0)) λv59=>
 Ai v49 true (B2.ev .add v58 v59) λv60=>
 AZh v49 true true (Az (.one .int) false v51 v60) λv61=>
 AB (Am v49 v61 (.bool false)) λv62=>
 k v62 H n))
def Sub(x1:Nat)(u0:Int):Prop:=B2.ev .sub (.int .i64 (.ofNat x1) 0) (.int .i64 (.ofNat 16) 0)=some (.int .i64 u0 0)
theorem split(lp:Aa)(G:AQ)(call callB:AP)(z0 z1 z2:Int)(x0 x1:Nat)(u0:Int)(H:Heap)(n:Nat)(k:KV):
 AY3 lp G call callB z0 z1 z2 x0 x1 u0 H n k=pre G call (Sub x1 u0) k (post lp G callB z2 x0 u0 k) H n:=by kernel_rfl
theorem AFy{G:AQ}{call callE:AP}(hle:Bc call callE)(hd:BI callE){P P':Prop}{k:KV}{K K':V->Heap->Nat->Prop}{H:Heap}{n:Nat}(hP:P->P')(hK:∀v H n,K v H n->K' v H n)
 (h:pre G call P k K H n):pre G callE P' k K' H n:=by
 delta pre at h⊢
 refine NK hle hd h λv1 H n h=>?_
 refine CP h λv2 h=>?_
 refine FC h (λh=>h) λh=>⟨hP h.1,?_⟩
 replace h:=h.2
 refine Dw (o:=.Hg 1 1 _ _) (E:=E0) h λv4 H n h=>?_
 refine NK hle hd h λv5 H n h=>?_
 refine CP h λv6 h=>?_
 refine CP h λv7 h=>?_
 refine CP h λv8 h=>?_
 refine CP h λv9 h=>?_
 refine FC h (λh=>h) λh=>?_
 refine NK hle hd h λv10 H n h=>?_
 refine CP h λv11 h=>?_
 refine CP h λv12 h=>?_
 refine CP h λv13 h=>?_
 refine CP h λv14 h=>?_
 exact FC h (λh=>h) λh=>hK _ _ _ h
def fs3:T SF:=T.set (FS (lpF 3000) G0) 19 (CQ (UW19.ABz (lpF 3000) G0))
theorem AT9:KQ F G0 fs3:=(ASS (aI 3000) G0).set UW19.ATb (UW19.AY9 (aI 3000) G0)
def po(z:Int)(n:Nat)(u:Int):V->Heap->Nat->Prop:=post (lpF 3000) G0 (Oj fs3 3000) z n u OX
def pr(K:V->Heap->Nat->Prop):Prop:=pre G0 (Oj (FS (lpF 3000) G0) 3000) True OX K .e 0
def BX(z:Int)(n:Nat)(a k:Nat)(v:V)(H:Heap)(m:Nat):Prop:=Nat.rec (motive:=λ_=>Nat->Prop) (λ_=>True) (λ_ g a=>po z n (.ofNat a) v H m/\g (Nat.succ a)) k a
def W(a b:Int):Int:=KN .i64 (kP a b)
def chain(x:Int)(a k:Nat):Nat->Int->Int:=Nat.rec (motive:=λ_=>Nat->Int->Int) (λ_ s=>s) (λ_ g i s=>g (Nat.succ i) (W s (Bool.rec (Int.ofNat i) x (Nat.beq i a)))) k
def Sum(x:Int)(n a:Nat):Int:=chain x a n 0 (.ofNat 0)
def Eqs(x:Int)(n a:Nat):Prop:=Az (.one .int) false (.int .i64 (Sum x n a) 0) (.int .i64 (W (.ofNat (n*(n-1)/2-a)) x) 0)=some (.bool true)/\True
def BR(x:Int)(n:Nat)(a k:Nat):Prop:=Nat.rec (motive:=λ_=>Nat->Prop) (λ_=>True) (λ_ g a=>Eqs x n a/\g (Nat.succ a)) k a
end Go.R5.VD
