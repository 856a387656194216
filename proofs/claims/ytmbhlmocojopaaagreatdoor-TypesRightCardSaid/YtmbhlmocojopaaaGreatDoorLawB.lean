/- Part of a proof; nothing is assumed. -/
import Derived.Test.YtmbhlmocojopaaaGreatDoorLawA
set_option linter.unusedVariables false
set_option linter.unusedSimpArgs false
namespace Go.RL
open Go.DK
set_option maxRecDepth 100000
structure Mx(G:AX)(R:Rk)(vv:V)(Γ:List DJ)(al:V)(H0:Heap)(n0:Nat)(L:LV)(C:Ty)(u:V)(gs:List Ty)(H:Heap)(n:Nat):Prop where
 ra:RAt G H n R vv Γ al
 f:Kb R.b H0 n0 H n
 g3:T.get H n0=some (one L)
 g4:T.get H (n0+1)=some (one [.str 0 0,.bool false])
 g5:T.get H (n0+2)=some (one fz)
 g6:T.get H (n0+3)=some (one C.cells)
 el:El G H u 2 (gs.map Ty.cells)
 lo:∀id,u.D9=some id->id<n/\id≠R.b
 bn:R.b<n0
 nn:n0+4<=n
section
variable{G:AX}{R:Rk}{vv al:V}{Γ:List DJ}{H0 H H':Heap}{n0 n n':Nat}{L:LV}{C t:Ty}{u:V}{gs:List Ty}{k:KV}{kind num:Nat}{nm:St}{ty of:Ty}{own ow:St}{line col:Nat}{v:V}
theorem Mx.kb(x:Mx G R vv Γ al H0 n0 L C u gs H n)(f:Kb R.b H n H' n'):Mx G R vv Γ al H0 n0 L C u gs H' n':=by
 have hb:=x.bn
 have hn:=x.nn
 have hf:=f.le
 exact⟨x.ra.kb f,x.f.trans f,f.get x.g3 (by omega) (by omega),f.get x.g4 (by omega) (by omega),f.get x.g5 (by omega) (by omega),f.get x.g6 (by omega) (by omega),
  x.el.same λid h=>f.same id (x.lo id h).1 (x.lo id h).2,λid h=>⟨Nat.lt_of_lt_of_le (x.lo id h).1 hf,(x.lo id h).2⟩,hb,by omega⟩
theorem Mx.kp(x:Mx G R vv Γ al H0 n0 L C u gs H n)(f:Kp H n H' n'):Mx G R vv Γ al H0 n0 L C u gs H' n':=x.kb (f.kb x.ra.tab.bn)
theorem Mx.fin(x:Mx G R vv Γ al H0 n0 L C u gs H n){t:Ty}(hk:XL G R H0 n0 t k):
 BL 2 (.ptr (n0+1) 0) t.v H n λ_ H n=>BL 3 (.ptr (n0+2) 0) (.agg fz) H n λ_ H n=>Dz (BA [.cn (.ptr (n0+1) 0) 2,.cn (.ptr (n0+2) 0) 3] G H) λl=>k (CG l) H n:=by
 have hn:=x.nn
 have hb:=x.bn
 refine Bq (L:=[t.nm.v,.bool t.arr]) x.g4 rfl rfl (by omega) λH1 g1 s1=>?_
 refine Bq (L:=fz) ((s1 (n0+2) (by omega)).trans x.g5) rfl rfl (by omega) λH2 g2 s2=>?_
 rw[Cm (m:=2) ((s2 (n0+1) (by omega)).trans g1) (by omega) rfl,Cm (m:=3) g2 (by omega) rfl]
 simp only[go_sem]
 exact hk _ _ ⟨x.f.le,λid h1 h2=>(s2 id (by omega)).trans ((s1 id (by omega)).trans (x.f.same id h1 h2)),λh=>((x.f.seen h).same (s1 _ (by omega))).same (s2 _ (by omega))⟩
theorem Aav(x:Mx G R vv Γ al H0 n0 (LM kind num nm ty of own line col v) C u gs H n):Ad 2 (.ptr n0 (0+1)) G H=some (bU line col):=Dh (off:=0+1) (m:=2) x.g3 (by omega) (by show 0+1+2<=11;omega)
theorem AYM(x:Mx G R vv Γ al H0 n0 (LM kind num nm ty of own line col v) C u gs H n):AY (.ptr n0 (0+4)) G H=some nm.v:=AV (off:=0+4) x.g3 rfl
theorem AZx(x:Mx G R vv Γ al H0 n0 (LM kind num nm ty of own line col v) C u gs H n):AY (.ptr n0 0) G H=some (.int .i64 (.ofNat kind) 0):=AV (off:=0) x.g3 rfl
theorem AV6(o:ROk G R)(x:Mx G R vv Γ al H0 n0 (LM kind num nm ty of own line col v) C u gs H n){m:Nat}{s:Ej}{wp:V}(hm:n0+4<=m)(hmn:m<n)(g:T.get H m=some (one (s.cells wp)))(hu:Vs G H n wp s.ps)(hgs:∀t∈gs,t.nm.ok)(hln:gs.length<=100000)(hfit:Z5 R.tb gs s.ps=true)(hk:XL G R H0 n0 s.ret k):
 lfp (V×V×V×V×V×V×V×V×V×Heap×Nat) (J9 lfp G (Runs F G) k) (.ptr R.rb 0,.ptr n0 0,.ptr (n0+1) 0,.ptr (n0+2) 0,u,.ptr m 0,u,.int .i64 (.ofNat gs.length) 0,.int .i64 (.ofNat 0) 0,H,n):=by
 have hpl:=kX hfit
 refine CP (N:=gs.length) (J:=λj q=>∃H' n',q=(.ptr R.rb 0,.ptr n0 0,.ptr (n0+1) 0,.ptr (n0+2) 0,u,.ptr m 0,u,.int .i64 (.ofNat gs.length) 0,.int .i64 (.ofNat j) 0,H',n')/\Mx G R vv Γ al H0 n0 (LM kind num nm ty of own line col v) C u gs H' n'/\m<n'/\T.get H' m=some (one (s.cells wp))/\Vs G H' n' wp s.ps) ?_ ?_ ⟨H,n,rfl,x,hmn,g,hu⟩
 ·rintro I j q hlt ⟨H1,n1,rfl,x1,hm1,g1,hu1⟩ ih
  show Fb lfp G (Runs F G) k I (.ptr R.rb 0) (.ptr n0 0) (.ptr (n0+1) 0) (.ptr (n0+2) 0) u (.ptr m 0) u (.int .i64 (.ofNat gs.length) 0) (.int .i64 (.ofNat j) 0) H1 n1
  delta Fb
  have hltp:j<s.ps.length:=by omega
  have hcx:(gs.map Ty.cells)[j]? =some gs[j].cells:=by rw[List.getElem?_map,List.getElem?_eq_getElem hlt];rfl
  have hcp:(tys s.ps)[j]? =some s.ps[j].cells:=by unfold tys;rw[List.getElem?_map,List.getElem?_eq_getElem hltp];rfl
  have hft:=AIp hfit (List.getElem?_eq_getElem hlt) (List.getElem?_eq_getElem hltp)
  have hok1:=hgs _ (List.getElem_mem hlt)
  have hok2:=hu1.ok _ (List.getElem_mem hltp)
  obtain⟨p,hpp,hld⟩:=x1.el.at hcx
  generalize gs[j]=a at hld hft hok1
  generalize s.ps[j]=b at hcp hft hok2
  rw[Dl,AQ,decide_eq_true hlt,A8]
  refine AB hpp (AB (DW hld) ?_)
  refine Au rfl λH2 f2 g2=>?_
  refine Bq (L:=a.cells) g2 rfl rfl (by omega) λH3 g3 s3=>?_
  have f13:Kp H1 n1 H3 (n1+1):=⟨f2.le,λid hid=>(s3 id (by omega)).trans (f2.same id hid)⟩
  have x3:=x1.kp f13
  have hu3:=hu1.ke ((f13.kb (b:=R.b) x1.ra.tab.bn).ke x1.ra.tab.seen)
  have gm:=f13.get g1 (by omega)
  rw[BU,AQ,Dk,AQ]
  refine AB x3.ra.ldt (AB (BI (m:=2) g3 (by omega) rfl) ?_)
  rw[Ae,AQ]
  refine AB (AV (off:=0+2) gm (v:=wp) rfl) ?_
  obtain⟨q,hq,hlq⟩:=hu3.el.at hcp
  refine AB hq (AB (DW hlq) ?_)
  refine AIi (x:=a) (y:=b) x3.ra.tab (Nat.le_refl _) o.F.tl hok1 hok2 λH4 n4 f4=>?_
  have hn4:=f4.le
  have hbm:=x1.bn
  rw[hft,Ef,AQ]
  show Aa (.bool false) true _ _
  rw[Ai,Eu (by omega),AQ]
  exact ih _ ⟨H4,n4,rfl,x3.kb f4,by omega,f4.get gm (by omega) (by omega),hu3.ke (f4.ke x3.ra.tab.seen)⟩
 ·rintro I q ⟨H1,n1,rfl,x1,hm1,g1,hu1⟩
  show Fb lfp G (Runs F G) k I (.ptr R.rb 0) (.ptr n0 0) (.ptr (n0+1) 0) (.ptr (n0+2) 0) u (.ptr m 0) u (.int .i64 (.ofNat gs.length) 0) (.int .i64 (.ofNat gs.length) 0) H1 n1
  delta Fb
  rw[Dl,AQ,decide_eq_false (Nat.lt_irrefl _),Ai]
  delta LY
  have q3:∀{H':Heap},T.get H' m=some (one (s.cells wp))->Ad 2 (.ptr m (0+3)) G H'=some s.ret.v:=λg=>Dh (off:=0+3) (m:=2) g (by omega) (by show 0+3+2<=5;omega)
  rw[Ae,AQ]
  refine AB (q3 g1) ?_
  refine AHb λH2 n2 f2=>?_
  exact AB (q3 (f2.get g1 (by omega))) (Bd (jk _) ((x1.kp f2).fin hk))
theorem AYh(o:ROk G R)(x:Mx G R vv Γ al H0 n0 (LM kind num nm ty of own line col v) C u gs H n)(hC:C.nm.ok)(hkn:BO R.tb C=true)(hgs:∀t∈gs,t.nm.ok)(hln:gs.length<=100000)
 (hw:kind=7/\UF R.tb C.nm nm=some (ow,t)∨kind≠7/\∃s,Iu R.tb C.nm nm (decide (kind=9))=some (ow,s)/\Z5 R.tb gs s.ps=true/\t=s.ret) (hk:XL G R H0 n0 t k):
 GU lfp G (Runs F G) k (.ptr R.rb 0) (.ptr n0 0) (.ptr (n0+1) 0) (.ptr (n0+2) 0) (.ptr (n0+3) 0) u H n:=by
 delta GU
 have hb0:=x.bn
 have hn0:=x.nn
 rw[BU,AQ,Dk,AQ]
 refine AB x.ra.ldt (AB (BI (m:=2) x.g6 (by omega) rfl) ?_)
 refine TD (G:=G) (vs:=[C.v]) rfl (by omega) (λv hv=>by simp at hv;subst hv;exact⟨rfl,rfl⟩) λH1 f1 _ hel=>?_
 have x1:=x.kp f1
 refine X3 (xs:=[C]) x1.ra.tab ⟨hel,λid hid=>by cases hid;omega,by unfold big;exact(by decide:1<9223372036854775808),λt ht=>by rw[List.mem_singleton.1 ht];exact hC⟩ λH2 n2 f2=>?_
 rw[show[C].all (BO R.tb)=true by simp[hkn],Ef,AQ]
 show Aa (.bool false) true _ _
 refine tF ?_
 have x2:=x1.kb f2
 rw[Dk,AQ]
 refine AB (AZx x2) ?_
 rcases hw with⟨rfl,hf⟩|⟨h7,s,hms,hfit,rfl⟩
 ·refine dS (tT ?_)
  rw[AQ,Dk,AQ]
  refine AB x2.ra.ldt ?_
  rw[Dk,AQ]
  refine AB (AV (off:=0) x2.g6 (v:=C.nm.v) rfl) ?_
  rw[Ae,AQ]
  refine AB (AYM x2) ?_
  refine Au rfl λH3 f3 g3=>?_
  have x3:=x2.kp f3
  refine AFD (c:=C.nm) (s:=nm) x3.ra.tab o.F.tl λH4 n4 f4=>?_
  have hn4:=f4.le
  have x4:=x3.kb f4
  have hb2:=x2.ra.tab.bn
  rw[hf,O5,AQ,O7,AQ,xJ,AQ]
  refine Bq (L:=t.cells) (f4.get g3 (by omega) (by omega)) rfl rfl (by omega) λH5 g5 s5=>?_
  have x5:=x2.kb (H':=H5) (n':=n4) ⟨by omega,λid h1 h2=>(s5 id (by omega)).trans ((f4.same id (by omega) h2).trans (f3.same id h1)),λhs=>(f4.seen (hs.same (f3.same _ hb2))).same (s5 _ (by omega))⟩
  refine AB (BI (m:=2) g5 (by omega) rfl) ?_
  rw[Ae,AQ]
  refine AB (Aav x5) ?_
  refine ZX λH6 n6 f6=>?_
  exact AB (BI (m:=2) (f6.get g5 (by omega)) (by omega) rfl) (Bd (jk t) ((x5.kp f6).fin hk))
 ·refine Jo h7 (tF ?_)
  rw[AQ,Dk,AQ]
  refine AB x2.ra.ldt ?_
  rw[Dk,AQ]
  refine AB (AV (off:=0) x2.g6 (v:=C.nm.v) rfl) ?_
  rw[Ae,AQ]
  refine AB (AYM x2) ?_
  first|rw[Dk,AQ]|rw[AQ]
  refine AB (AZx x2) (AB (CY ..) ?_)
  refine Au rfl λH3 f3 g3=>?_
  have x3:=x2.kp f3
  have hb2:=x2.ra.tab.bn
  refine ALr (c:=C.nm) (s:=nm) (x2.ra.tab.kb ((f3.kb hb2).low (Nat.le_refl _))) (by omega) o.F.tl λH4 n4 sv f4 hsv=>?_
  have hn4:=f4.le
  rw[hms]at hsv⊢
  obtain⟨wp,rfl,hu⟩:=hsv
  have hu:Vs G H4 n2 wp s.ps:=hu
  rw[O5,AQ,O7,AQ,xJ,AQ]
  refine Bq (L:=s.cells wp) (f4.get g3 (by omega) (by omega)) rfl rfl (by omega) λH5 g5 s5=>?_
  have x5:=x2.kb (H':=H5) (n':=n4) ⟨by omega,λid h1 h2=>(s5 id (by omega)).trans ((f4.same id (by omega) h2).trans (f3.same id h1)),λhs=>(f4.seen (hs.same (f3.same _ hb2))).same (s5 _ (by omega))⟩
  have hu5:Vs G H5 n4 wp s.ps:=⟨hu.el.same λid hid=>s5 id (by have:=hu.lo id hid;omega),λid hid=>by have:=hu.lo id hid;omega,hu.lt,hu.ok⟩
  refine AB (Ef ..) ?_
  show Aa (.bool false) true _ _
  refine tF ?_
  have hlen:=x5.el.len
  rw[List.length_map]at hlen
  refine AB hlen ?_
  rw[Ae,AQ]
  refine AB (AV (off:=0+2) g5 (v:=wp) rfl) ?_
  have hlp:=hu5.el.len
  rw[ACK]at hlp
  refine AB hlp (AB (lS ..) ?_)
  rw[decide_eq_true (kX hfit)]
  show Aa (.bool false) true _ _
  refine tF (AB hlen ?_)
  have hn2:=f2.le
  exact AV6 o x5 (m:=n2) (by have:=x2.nn;omega) (by omega) g5 hu5 hgs hln hfit hk
end
section
variable{G:AX}{R:Rk}{vv al:V}{Γ:List DJ}{H0 H H':Heap}{n0 n n':Nat}{L:LV}{C t:Ty}{u w:V}{gs ts:List Ty}{k:KV}{kind num:Nat}{nm:St}{ty of:Ty}{own ow:St}{line col:Nat}{v:V}{ret:Ty}
def Rk.X(R:Rk)(ret:Ty):Kx:=⟨R.tb,R.cls,R.st,ret⟩
def Rk.K(R:Rk):Kq:=⟨3,3,0,1,2,R.tb,0,0,R.cls,(0,0),.Ag,.Ag⟩
def Rk.M(R:Rk)(ret:Ty):Km:=⟨0,0,(0,0),R.st,.Ag,ret,.Ag⟩
theorem ROk.ko(o:ROk G R):Yg G R.K:=⟨by show 3<=3;omega,by show 0<3;omega,by show 1<3;omega,by show 2<3;omega,o.F.ar,o.F.tn,o.F.tl,o.cls,o.G⟩
theorem APX(o:ROk G R)(ra:RAt G H n R vv Γ al)(hel:El G H w 2 (ts.map Ty.cells))(hks:KS w)(hlo:∀id,w.D9=some id->id<n/\id≠R.b)(hmb:kind=7∨kind=8∨kind=9)(hgs:∀t∈ts,t.nm.ok)(hty:ty.nm.ok)(hln:ts.length<=100000)
 (htp:Xu (R.X ret) Γ kind nm ty ts=some (t,own)) (hk:XL G R H n t k):Runs F G Us [.ptr R.rb 0,.agg (LM kind num nm ty of ow line col v),w] H n k:=by
 refine go3 (dA BK G) ?_
 delta Uk
 have hb:=ra.tab.bn
 refine DY λH1 f1 g1=>?_
 refine Au rfl λH2 f2 g2=>?_
 refine Au rfl λH3 f3 g3=>?_
 have f13:=(f1.trans f2).trans f3
 have g1:=f3.get (f2.get g1 (by omega)) (by omega)
 have g2:=f3.get g2 (by omega)
 rw[Ae,AQ]
 refine AB (v:=ty.v) (Dh (off:=0+5) (m:=2) g1 (by omega) (by show 0+5+2<=11;omega)) ?_
 refine Au rfl λH4 f4 g4=>?_
 refine Bq (L:=ty.cells) g4 rfl rfl (by omega) λH5 g5 s5=>?_
 have k5:∀id,id<n+1+1+1->T.get H5 id=T.get H3 id:=λid h=>(s5 id (by omega)).trans (f4.same id h)
 have f05:Kp H n H5 (n+1+1+1+1):=⟨by omega,λid hid=>(k5 id (by omega)).trans (f13.same id hid)⟩
 have mk:∀{H6:Heap} {n6:Nat} {C:Ty} {u:V} {gs:List Ty},n+4<=n6->(∀id,id<n+3->T.get H6 id=T.get H5 id)->T.get H6 (n+3)=some (one C.cells)->El G H6 u 2 (gs.map Ty.cells)->u.D9=w.D9->
  Mx G R vv Γ al H n (LM kind num nm ty of ow line col v) C u gs H6 n6:=λ{H6 n6 C u gs} h1 h2 h3 h4 h5=>
  have f:Kp H n H6 n6:=⟨by omega,λid hid=>(h2 id (by omega)).trans (f05.same id hid)⟩
  ⟨ra.kp f,f.kb hb,(h2 n (by omega)).trans ((k5 n (by omega)).trans g1),(h2 (n+1) (by omega)).trans ((k5 (n+1) (by omega)).trans g2),(h2 (n+2) (by omega)).trans ((k5 (n+2) (by omega)).trans g3),h3,h4,λid hid=>by
   rw[h5]at hid;have:=hlo id hid;exact⟨by omega,this.2⟩,hb,h1⟩
 first|rw[Ae,AQ]|rw[Dk,AQ]
 refine AB (AV (off:=0+0) ((k5 n (by omega)).trans g1) (v:=.int .i64 (.ofNat kind) 0) rfl) (AB (lS ..) ?_)
 have ACx:=hel.same (H':=H5) λid hid=>f05.same id (hlo id hid).1
 by_cases h9:kind=9
 ·subst h9
  rw[show decide (9=9)=true from rfl]
  show Aa (.bool false) true _ _
  refine tF ?_
  have h:PE (R.X ret) ty nm true ts=some (t,own):=htp
  unfold PE at h
  cases hkn:BO R.tb ty with
  |false=>rw[show BO (R.X ret).tb ty=false from hkn]at h;cases h
  |true=>
   rw[show BO (R.X ret).tb ty=true from hkn]at h
   cases hm:Iu R.tb ty.nm nm true with
   |none=>rw[show Iu (R.X ret).tb ty.nm nm true=none from hm]at h;cases h
   |some q=>
    obtain⟨oo,s⟩:=q
    rw[show Iu (R.X ret).tb ty.nm nm true=some (oo,s)from hm]at h
    obtain⟨e1,e2⟩:=Eb (show TL (Z5 R.tb ts s.ps) s.ret oo=some (t,own)from h)
    cases e2
    exact AYh (C:=ty) (ow:=own) o (mk (by omega) (λ_ _=>rfl) g5 ACx rfl) hty hkn hgs hln (.inr ⟨by decide,s,hm,e1,rfl⟩) hk
 ·rw[decide_eq_false h9]
  show Aa (.bool true) true _ _
  refine tT ?_
  obtain⟨c,gs,rfl⟩:∃c gs,ts=c::gs:=by
   rcases hmb with rfl|rfl|rfl
   ·rcases ts with _|⟨a,l⟩
    ·cases htp
    ·exact⟨a,l,rfl⟩
   ·rcases ts with _|⟨a,l⟩
    ·cases htp
    ·exact⟨a,l,rfl⟩
   ·exact absurd rfl h9
  obtain⟨p0,q0,k0⟩:=AGI o.G ACx (i:=0) (t:=c) rfl
  refine AB k0.ip (AB (k0.ld H5 ACx).1 ?_)
  refine Bq (L:=c.cells) g5 rfl rfl (by omega) λH6 g6 s6=>?_
  have hel6:=ACx.same (H':=H6) λid hid=>s6 id (by have:=hlo id hid;omega)
  obtain⟨u,hu,helu,hsu⟩:=El.tail (c:=c.cells) (cs:=gs.map Ty.cells) hel6 hks
  refine AB hu (AB (BI (m:=2) g6 (by omega) rfl) ?_)
  have hcok:=hgs c (List.mem_cons_self ..)
  refine ACB (l:=c.nm.1) (c:=c.nm.2) (arr:=c.arr) hcok λH7 n7 f7=>?_
  have hn7:=f7.le
  rw[List.length_cons]at hln
  have x7:Mx G R vv Γ al H n (LM kind num nm ty of ow line col v) c u gs H7 n7:=(mk (n6:=n+1+1+1+1) (by omega) (λid h=>s6 id (by omega)) g6 helu hsu).kp f7
  have hcl:c.cls=isClass c.nm.1 c.nm.2 c.arr:=rfl
  have fin:c.cls=true/\BO R.tb c=true/\(kind=7/\UF R.tb c.nm nm=some (own,t)∨kind≠7/\∃s,Iu R.tb c.nm nm (decide (kind=9))=some (own,s)/\Z5 R.tb gs s.ps=true/\t=s.ret):=by
   rcases hmb with rfl|rfl|rfl
   ·rcases gs with _|⟨b,l⟩
    ·have h:(bif c.cls&&BO R.tb c then(UF R.tb c.nm nm).map λp=>(p.2,p.1)else none)=some (t,own):=htp
     cases hc:c.cls&&BO R.tb c with
     |false=>rw[hc]at h;cases h
     |true=>
      rw[hc]at h
      rw[Bool.and_eq_true]at hc
      obtain⟨p,h1,h2⟩:=Option.map_eq_some_iff.1 (show(UF R.tb c.nm nm).map (λp=>(p.2,p.1))=some (t,own)from h)
      cases h2
      exact⟨hc.1,hc.2,.inl ⟨rfl,h1⟩⟩
    ·cases htp
   ·have h:(bif c.cls then PE (R.X ret) c nm false gs else none)=some (t,own):=htp
    cases hc:c.cls with
    |false=>rw[hc]at h;cases h
    |true=>
     rw[hc]at h
     have h:PE (R.X ret) c nm false gs=some (t,own):=h
     unfold PE at h
     cases hkn:BO R.tb c with
     |false=>rw[show BO (R.X ret).tb c=false from hkn]at h;cases h
     |true=>
      rw[show BO (R.X ret).tb c=true from hkn]at h
      cases hm:Iu R.tb c.nm nm false with
      |none=>rw[show Iu (R.X ret).tb c.nm nm false=none from hm]at h;cases h
      |some q=>
       obtain⟨oo,s⟩:=q
       rw[show Iu (R.X ret).tb c.nm nm false=some (oo,s)from hm]at h
       obtain⟨e1,e2⟩:=Eb (show TL (Z5 R.tb gs s.ps) s.ret oo=some (t,own)from h)
       cases e2
       exact⟨rfl,rfl,.inr ⟨by decide,s,hm,e1,rfl⟩⟩
   ·exact absurd rfl h9
  rw[<-hcl,fin.1,Ef,AQ]
  show Aa (.bool false) true _ _
  exact tF (AYh o x7 hcok fin.2.1 (λt ht=>hgs t (List.mem_cons_of_mem _ ht)) (by omega) fin.2.2 hk)
theorem AQu(o:ROk G R)(x:Ex G R vv Γ al H0 n0 (LM kind num nm ty of ow line col v) w ts H n)(hmb:kind=7∨kind=8∨kind=9)(hgs:∀t∈ts,t.nm.ok)(hty:ty.nm.ok)(hln:ts.length<=100000)
 (htp:Xu (R.X ret) Γ kind nm ty ts=some (t,own)) (hk:XL G R H0 n0 t k):J23 G R n0 kind k H n:=by
 refine AEt (by omega) (by omega) (by omega) (by omega) ?_
 rw[decide_eq_false (by omega)]
 delta APJ EH
 refine tF (Jo (by omega) (tF ?_))
 delta Nr
 have hb:=x.bn
 refine AB (BI (m:=11) x.g3 (by omega) rfl) (AB (x_w x) ?_)
 refine APX (ret:=ret) o x.ra x.el x.sk.ks (λid hid=>by have:=x.sk.own hid;omega) hmb hgs hty hln htp λH1 n1 f1=>?_
 rw[O5,AQ,O7,AQ]
 exact(x.kb f1).fin hk
end
def ANc(G:AX)(R:Rk)(ret:Ty)(vv al:V)(Γ:List DJ)(e:Te):Prop:=∀(H:Heap) (n:Nat) (A:Nat->Prop) (l:LV) (k:KV),RAt G H n R vv Γ al->FQ G H A l e->(∀id,A id->id<n/\id≠R.b)->ckE (R.X ret) Γ e=some e->XL G R H n e.of k->Runs F G P5 [.ptr R.rb 0,.agg l] H n k
section
variable{G:AX}{R:Rk}{vv al:V}{Γ:List DJ}{H0 H H':Heap}{n0 n n':Nat}{L:LV}{C t:Ty}{u w:V}{gs ts:List Ty}{k:KV}{kind num:Nat}{nm:St}{ty of:Ty}{own ow:St}{line col:Nat}{v:V}{ret:Ty}{cs:Dy}
theorem AcN(o:ROk G R)(hln:Γ.length<=100000)(x:Ex G R vv Γ al H0 n0 (LM kind num nm ty of ow line col v) w ts H n)(s:Ps G R H0 n0 v cs)(hcs:cs.length=ts.length)(hgs:∀t∈ts,t.nm.ok)(hty:ty.nm.ok)(hls:ts.length<=100000)
 (htp:Xu (R.X ret) Γ kind nm ty ts=some (t,own)) (hk:XL G R H0 n0 t k):
 CW lfp G (Runs F G) k (.ptr R.rb 0) (.ptr n0 0) (.ptr (n0+1) 0) (.ptr (n0+2) 0) (.ptr (n0+4) 0) H n:=by
 match kind,htp,x with
 |0,h,x=>cases h
 |1,h,x=>
  rcases ts with _|⟨a,l⟩
  ·cases h;exact e_1 x hk
  ·cases h
 |2,h,x=>
  rcases ts with _|⟨a,l⟩
  ·cases h;exact e_2 x hk
  ·cases h
 |3,h,x=>
  rcases ts with _|⟨a,l⟩
  ·cases h;exact e_3 x hk
  ·cases h
 |4,h,x=>
  rcases ts with _|⟨a,l⟩
  ·cases h;exact vg x (by decide) (by decide) (by decide) (e_4 x hk)
  ·cases h
 |5,h,x=>
  rcases ts with _|⟨a,l⟩
  ·obtain⟨e1,e2⟩:=Eb (show TL (!(R.X ret).st) ⟨(R.X ret).cls,false⟩ (0,0)=some (t,own)from h)
   cases e2
   exact vg x (by decide) (by decide) (by decide) (e_5 x (by simpa[Rk.X]using e1) hk)
  ·cases h
 |6,h,x=>
  rcases ts with _|⟨a,l⟩
  ·obtain⟨t',h1,h2⟩:=Option.map_eq_some_iff.1 (show(FP nm Γ).map (λt=>(t,((0,0):St)))=some (t,own)from h)
   cases h2
   exact vg x (by decide) (by decide) (by decide) (e_6 x hln h1 hk)
  ·cases h
 |7,h,x=>exact vg x (by decide) (by decide) (by decide) (AQu (ret:=ret) o x (.inl rfl) hgs hty hls h hk)
 |8,h,x=>exact vg x (by decide) (by decide) (by decide) (AQu (ret:=ret) o x (.inr (.inl rfl)) hgs hty hls h hk)
 |9,h,x=>exact vg x (by decide) (by decide) (by decide) (AQu (ret:=ret) o x (.inr (.inr rfl)) hgs hty hls h hk)
 |10,h,x=>
  rcases ts with _|⟨a,l⟩
  ·obtain⟨e1,e2⟩:=Eb (show TL (BO R.tb ty) ty (0,0)=some (t,own)from h)
   cases e2
   exact vg x (by decide) (by decide) (by decide) (AcT x hty e1 hk)
  ·cases h
 |11,h,x=>
  rcases ts with _|⟨a,_|⟨b,l⟩⟩
  ·cases h
  ·obtain⟨e1,e2⟩:=Eb (show TL (a.is Cb&&BO R.tb ty) ⟨ty.nm,true⟩ (0,0)=some (t,own)from h)
   cases e2
   rw[Bool.and_eq_true]at e1
   exact vg x (by decide) (by decide) (by decide) (Abg x hls (by show(a.is Cb&&true)=true;rw[e1.1];rfl) hty e1.2 hk)
  ·cases h
 |12,h,x=>
  rcases ts with _|⟨a,_|⟨b,_|⟨c,l⟩⟩⟩
  ·cases h
  ·cases h
  ·obtain⟨e1,e2⟩:=Eb (show TL (a.arr&&b.is Cb) (AHg a) (0,0)=some (t,own)from h)
   cases e2
   rw[Bool.and_eq_true]at e1
   exact vg x (by decide) (by decide) (by decide) (Aaz o.G x s hcs e1.1 e1.2 hk)
  ·cases h
 |13,h,x=>
  rcases ts with _|⟨a,_|⟨b,l⟩⟩
  ·cases h
  ·obtain⟨e1,e2⟩:=Eb (show TL a.arr Cb (0,0)=some (t,own)from h)
   cases e2
   exact vg x (by decide) (by decide) (by decide) (AcD o.G x s hcs e1 hk)
  ·cases h
 |14,h,x=>
  rcases ts with _|⟨a,_|⟨b,l⟩⟩
  ·cases h
  ·obtain⟨e1,e2⟩:=Eb (show TL (a.is Cb) Cb (0,0)=some (t,own)from h)
   cases e2
   exact vg x (by decide) (by decide) (by decide) (Abe x hls (by show(a.is Cb&&true)=true;rw[e1];rfl) hk)
  ·cases h
 |15,h,x=>
  rcases ts with _|⟨a,_|⟨b,l⟩⟩
  ·cases h
  ·obtain⟨e1,e2⟩:=Eb (show TL (a.is BM) BM (0,0)=some (t,own)from h)
   cases e2
   exact vg x (by decide) (by decide) (by decide) (ASY x (.inl rfl) hls (by show(a.is BM&&true)=true;rw[e1];rfl) hk)
  ·cases h
 |16,h,x=>
  rcases ts with _|⟨a,_|⟨b,_|⟨c,l⟩⟩⟩
  ·cases h
  ·cases h
  ·refine vg x (by decide) (by decide) (by decide) (AEt (by decide) (by decide) (by decide) (by decide) ?_)
   rw[show decide (16=19∨16=20)=false by decide]
   exact Aao (own:=own) (ow:=ow) o.G x (hgs a (by simp)) (hgs b (by simp)) h hk
  ·cases h
 |17,h,x=>
  rcases ts with _|⟨a,_|⟨b,_|⟨c,l⟩⟩⟩
  ·cases h
  ·cases h
  ·obtain⟨e1,e2⟩:=Eb (show TL (a.is BM&&b.is BM) BM (0,0)=some (t,own)from h)
   cases e2
   rw[Bool.and_eq_true]at e1
   exact vg x (by decide) (by decide) (by decide) (ASY x (.inr (.inl rfl)) hls (by show(a.is BM&&(b.is BM&&true))=true;rw[e1.1,e1.2];rfl) hk)
  ·cases h
 |18,h,x=>
  rcases ts with _|⟨a,_|⟨b,_|⟨c,l⟩⟩⟩
  ·cases h
  ·cases h
  ·obtain⟨e1,e2⟩:=Eb (show TL (a.is BM&&b.is BM) BM (0,0)=some (t,own)from h)
   cases e2
   rw[Bool.and_eq_true]at e1
   exact vg x (by decide) (by decide) (by decide) (ASY x (.inr (.inr rfl)) hls (by show(a.is BM&&(b.is BM&&true))=true;rw[e1.1,e1.2];rfl) hk)
  ·cases h
 |19,h,x=>
  rcases ts with _|⟨a,_|⟨b,l⟩⟩
  ·cases h
  ·obtain⟨e1,e2⟩:=Eb (show TL ((a.cls||a.is IE)&&BO R.tb ty) ty (0,0)=some (t,own)from h)
   cases e2
   rw[Bool.and_eq_true]at e1
   refine vg x (by decide) (by decide) (by decide) (AEt (by decide) (by decide) (by decide) (by decide) ?_)
   rw[show decide (19=19∨19=20)=true by decide]
   exact AZM o.G x (hgs a (by simp)) e1.1 hty e1.2 hk
  ·cases h
 |20,h,x=>
  rcases ts with _|⟨a,_|⟨b,l⟩⟩
  ·cases h
  ·obtain⟨e1,e2⟩:=Eb (show TL ((a.cls||a.is IE)&&BO R.tb ty) BM (0,0)=some (t,own)from h)
   cases e2
   rw[Bool.and_eq_true]at e1
   refine vg x (by decide) (by decide) (by decide) (AEt (by decide) (by decide) (by decide) (by decide) ?_)
   rw[show decide (20=19∨20=20)=true by decide]
   exact AZM o.G x (hgs a (by simp)) e1.1 hty e1.2 hk
  ·cases h
 |k+21,h,x=>cases h
end
section
variable{G:AX}{R:Rk}{vv al:V}{Γ:List DJ}{ret:Ty}
theorem ANK(o:ROk G R)(hΓ:∀f∈Γ,f.ty.nm.ok)(hln:Γ.length<=100000){kind num:Nat}{nm:St}{ty of:Ty}{own:St}{kids:List Te}(ih:∀e∈kids,ANc G R ret vv al Γ e):ANc G R ret vv al Γ (.mk kind num nm ty of own kids):=by
 intro H n A l k ra ht hA hck hk
 refine go2 (kZ BK G) ?_
 delta WC
 obtain⟨ks,p,h1,h2,h3,h0⟩:=ABO hck
 injection h3 with _ _ _ _ h5 h6 h7
 subst h5 h6 h7
 unfold gdE at h0
 rw[Bool.and_eq_true]at h0
 have hty:ty.nm.ok:=AIn h0.1
 have hks:=ACs (K:=R.K) (M:=R.M ret) o.ko hΓ h1
 have hls:(kids.map Te.of).length<=1001:=(AE4 (K:=R.K) (M:=R.M ret) o.ko hΓ hty _ _ (λt ht=>by obtain⟨e,he,rfl⟩:=List.mem_map.1 ht;exact hks e he) h2).2
 rw[List.length_map]at hls
 have hb:=ra.tab.bn
 cases ht with
 |mk _ _ _ _ _ _ line col he hv ha hc=>
 rename_i v cs
 have hcl:=hc.len
 refine DY λH1 f1 g1=>?_
 refine Au rfl λH2 f2 g2=>?_
 refine Au rfl λH3 f3 g3=>?_
 refine ACT (by omega) λH4 f4 g4=>?_
 obtain⟨t4,g4⟩:=g4
 refine Au rfl λH5 f5 g5=>?_
 refine Ib (off:=0) (m:=1) (v:=.sl (n+1+1+1) 0 0 0 2) g5 rfl rfl (by omega) (by show 0+1<=1;omega) λH6 g6 s6=>?_
 have f05:=(((f1.trans f2).trans f3).trans f4).trans f5
 have f06:Kp H n H6 (n+1+1+1+1+1):=⟨f05.le,λid hid=>(s6 id (by omega)).trans (f05.same id hid)⟩
 have g1:T.get H6 n=_:=(s6 n (by omega)).trans (((((f2.trans f3).trans f4).trans f5)).get g1 (by omega))
 have g2:T.get H6 (n+1)=_:=(s6 (n+1) (by omega)).trans (((f3.trans f4).trans f5).get g2 (by omega))
 have g3:T.get H6 (n+2)=_:=(s6 (n+2) (by omega)).trans ((f4.trans f5).get g3 (by omega))
 have g4:T.get H6 (n+3)=_:=(s6 (n+3) (by omega)).trans (f5.get g4 (by omega))
 have x6:Ex G R vv Γ al H n (LM kind num nm ty p.1 p.2 line col v) (.sl (n+1+1+1) 0 0 0 2) [] H6 (n+1+1+1+1+1):=
  ⟨ra.kp f06,f06.kb hb,g1,g2,g3,g6,.emp g4 ⟨by omega,by omega,by omega⟩,hb,by omega⟩
 have ps:Ps G R H n v cs:=⟨λH' n' f=>he.same λid hid=>f.same id (hA id (ha id hid)).1 (hA id (ha id hid)).2,(by
  have:=hv.1
  cases v<;>first|exact this|(cases he.2;done)|(cases he.1;done)),λi hi=>by
  obtain⟨l,hl⟩:∃e,kids[i]? =some e:=⟨_,List.getElem?_eq_getElem (by omega)⟩
  obtain⟨c,hc1,hc2⟩:=hc.at hl
  cases hc2 with
  |mk _ _ _ _ _ _ l c=>exact⟨_,l,c,hc1,rfl,rfl⟩⟩
 rw[Ae,AQ]
 refine AB (APP x6) ?_
 have hlen:=(ps.el _ _ x6.f).len
 rw[hcl]at hlen
 refine AB hlen ?_
 refine CP (N:=kids.length) (J:=λj q=>∃H' n' w,q=(.ptr R.rb 0,.ptr n 0,.ptr (n+1) 0,.ptr (n+1+1) 0,.ptr (n+1+1+1+1) 0,v,.int .i64 (.ofNat kids.length) 0,.int .i64 (.ofNat j) 0,H',n')/\Ex G R vv Γ al H n (LM kind num nm ty p.1 p.2 line col v) w ((kids.take j).map Te.of) H' n') ?_ ?_ ⟨H6,_,_,rfl,x6⟩
 ·rintro I j q hlt ⟨H7,n7,w,rfl,x7⟩ ihl
  show GZ lfp G (Runs F G) k I (.ptr R.rb 0) (.ptr n 0) (.ptr (n+1) 0) (.ptr (n+1+1) 0) (.ptr (n+1+1+1+1) 0) v (.int .i64 (.ofNat kids.length) 0) (.int .i64 (.ofNat j) 0) H7 n7
  delta GZ
  have hget:=List.getElem?_eq_getElem hlt
  have htake:=take_snoc hget
  have hce:=(ACu h1 hget)
  have hmem:=List.getElem_mem hlt
  have hc7:=Gh.mono (H':=H7) (B:=A) (λ_ h=>h) (λid hid=>x7.f.same id (hA id hid).1 (hA id hid).2) hc
  obtain⟨lj,hlj,hej⟩:=hc7.at hget
  obtain⟨e',he1,he2⟩:=hce
  rw[hget]at he1
  cases he1
  have hj:=ih _ hmem
  generalize kids[j]=e at hej he2 hj htake
  obtain⟨q,hq,hld⟩:=(ps.el _ _ x7.f).at hlj
  rw[Dl,AQ,decide_eq_true hlt,A8]
  refine AB hq (AB (DW hld) ?_)
  refine Au rfl λH8 f8 g8=>?_
  refine Bq g8 rfl hej.len (by omega) λH9 g9 s9=>?_
  have f79:Kp H7 n7 H9 (n7+1):=⟨f8.le,λid hid=>(s9 id (by omega)).trans (f8.same id hid)⟩
  have x9:=x7.kp f79
  have hn7:=x7.nn
  have hn:n<=n7:=x7.f.le
  refine AB (BI (m:=11) g9 (by omega) hej.len) ?_
  refine hj H9 (n7+1) A lj _ x9.ra (hej.mono (λ_ h=>h) λid hid=>f79.same id (by have:=hA id hid;omega)) (λid hid=>by have:=hA id hid;exact⟨by omega,this.2⟩) he2 λHa na fa=>?_
  have xa:=x9.kb fa
  have hna:=fa.le
  rw[O5,AQ,O7,AQ]
  refine Au rfl λHb fb gb=>?_
  refine Au rfl λHc fc gc=>?_
  have gb:=fc.get gb (by omega)
  refine Bq (L:=e.of.cells) gb rfl rfl (by omega) λHd gd sd=>?_
  refine Bq (L:=fz) ((sd (na+1) (by omega)).trans gc) rfl rfl (by omega) λHe ge se=>?_
  have gd:T.get He na=_:=(se na (by omega)).trans gd
  have fae:Kp Ha na He (na+1+1):=⟨by omega,λid hid=>(se id (by omega)).trans ((sd id (by omega)).trans ((fc.same id (by omega)).trans (fb.same id hid)))⟩
  have xe:=xa.kp fae
  rw[Ae,AQ]
  refine AB (AV (off:=0+0) ge (v:=.int .i64 (.ofNat 0) 0) rfl) (AB (lS ..) ?_)
  show Aa (.bool false) true _ _
  refine tF ?_
  refine AB (x_w xe) (AB (BI (m:=2) gd (by omega) rfl) ?_)
  refine xe.sk.app (bs:=24) (c:=e.of.v) (m:=0) (λid hid=>by have:=xe.sk.own hid;omega) (by omega) rfl rfl (by rw[List.length_map,List.length_map,List.length_take];omega) λw' Hf hsf samef hsid=>?_
  have hskf:=hsf (λid=>n+3<=id/\id<na+1+1+2/\id≠n+4) ⟨by omega,by omega,by omega⟩
  have kf:∀id,id<n+3∨id=n+4->T.get Hf id=T.get He id:=λid h=>samef id (by omega) λe=>by have:=xe.sk.own e;omega
  refine Ib (off:=0) (m:=1) (v:=w') ((kf (n+4) (.inr rfl)).trans xe.g6) hskf.ok.1 (by rw[hskf.ok.2.1];rfl) (by omega) (by show 0+1<=1;omega) λHg gg sg=>?_
  rw[hskf.ok.2.1]at gg
  rw[Eu (by omega),AQ]
  have kg:∀id,id<n+3->T.get Hg id=T.get He id:=λid h=>(sg id (by omega)).trans (kf id (.inl h))
  have fg:Kb R.b H n Hg (na+1+1+2):=⟨by omega,λid h1 h2=>(kg id (by omega)).trans (xe.f.same id h1 h2),λhs=>(xe.f.seen hs).same (kg _ (by omega))⟩
  refine ihl _ ⟨Hg,na+1+1+2,w',rfl,⟨ra.kb fg,fg,(kg n (by omega)).trans xe.g3,(kg (n+1) (by omega)).trans xe.g4,(kg (n+2) (by omega)).trans xe.g5,gg,?_,hb,by omega⟩⟩
  rw[htake,List.map_append,List.map_append]
  exact hskf.PW (λid hid=>hskf.own hid) λid hid=>sg id (by have:=hskf.own hid;omega)
 ·rintro I q ⟨H7,n7,w,rfl,x7⟩
  show GZ lfp G (Runs F G) k I (.ptr R.rb 0) (.ptr n 0) (.ptr (n+1) 0) (.ptr (n+1+1) 0) (.ptr (n+1+1+1+1) 0) v (.int .i64 (.ofNat kids.length) 0) (.int .i64 (.ofNat kids.length) 0) H7 n7
  delta GZ
  rw[Dl,AQ,decide_eq_false (Nat.lt_irrefl _),Ai]
  rw[List.take_of_length_le (Nat.le_refl _)]at x7
  exact AcN (ret:=ret) o hln x7 ps (by rw[hcl,List.length_map]) (λt ht=>by obtain⟨e,he,rfl⟩:=List.mem_map.1 ht;exact hks e he) hty (by rw[List.length_map];omega) h2 hk
mutual
theorem ANk(o:ROk G R)(hΓ:∀f∈Γ,f.ty.nm.ok)(hln:Γ.length<=100000):∀e,ANc G R ret vv al Γ e
 |.mk _ _ _ _ _ _ kids=>ANK o hΓ hln (AK0 o hΓ hln kids)
theorem AK0(o:ROk G R)(hΓ:∀f∈Γ,f.ty.nm.ok)(hln:Γ.length<=100000):∀es:List Te,∀e∈es,ANc G R ret vv al Γ e
 |[]=>λe h=>by cases h
 |a::l=>by
  have ha:=ANk o hΓ hln a
  have hl:=AK0 o hΓ hln l
  intro e he
  rcases List.mem_cons.1 he with rfl|he
  ·exact ha
  ·exact hl e he
end
end
theorem oz(t:Ty):t.is t=true:=by unfold Ty.is;simp
def AKw(G:AX)(R:Rk)(ret:Ty)(vv al:V)(Γ:List DJ)(e:Te):Prop:=∀(H:Heap) (n:Nat) (A:Nat->Prop) (l:LV) (k:KV),RAt G H n R vv Γ al->FQ G H A l e->(∀id,A id->id<n/\id≠R.b)->ckE (R.X ret) Γ e=some e->(∀H' n',Kb R.b H n H' n'->k (.bool true) H' n')->Runs F G OW [.ptr R.rb 0,.agg l] H n k
theorem AWo{G:AX}(hG:jS G){H:Heap}{v:V}{cs:Dy}{i:Nat}{l:LV}{x:V}(h:El G H v 11 cs)(hi:cs[i]? =some l)(hl:l.length=11)(hx:l[8]? =some x):∃p q8 q80,Az 11 v (.int .i64 (.ofNat i) 0)=some p/\AU 8 p=some q8/\AU 0 q8=some q80/\∀H',El G H' v 11 cs->AY q80 G H'=some x:=by
 have hln:((l.drop 8).take 2).length=2:=by rw[List.length_take,List.length_drop];omega
 have h8x:((l.drop 8).take 2)[0]? =some x:=by rw[List.getElem?_take,if_pos (by omega),List.getElem?_drop];exact hx
 obtain⟨p,hp,hld⟩:=h.at hi
 obtain⟨q8,h8,hl8⟩:=gI hG hld hl (o:=8) (m:=2) (by omega) (by omega)
 obtain⟨q80,h80,_⟩:=Vu hG hl8 hln (o:=0) h8x
 refine⟨p,q8,q80,hp,h8,h80,λH' h'=>?_⟩
 obtain⟨p',hp',hld'⟩:=h'.at hi
 rw[hp]at hp';cases hp'
 obtain⟨r8,e8,g8⟩:=gI hG hld' hl (o:=8) (m:=2) (by omega) (by omega)
 rw[h8]at e8;cases e8
 obtain⟨r9,e9,g9⟩:=Vu hG g8 hln (o:=0) h8x
 rw[h80]at e9;cases e9
 exact g9
section
variable{G:AX}{R:Rk}{vv al:V}{Γ:List DJ}{ret:Ty}{kind num:Nat}{nm:St}{ty of:Ty}{own:St}{kids:List Te}{line col:Nat}{v:V}{H0 H:Heap}{n0 n:Nat}{cs:Dy}{k:KV}{A:Nat->Prop}
theorem AXf(ih:∀e∈kids,AKw G R ret vv al Γ e)(ra:RAt G H0 n0 R vv Γ al)(f:Kb R.b H0 n0 H n)(g:T.get H n0=some (one (LM kind num nm ty of own line col v)))(hn:n0+1<=n)(he:El G H0 v 11 cs)(ha:∀id,v.D9=some id->A id)(hc:Gh G H0 A cs kids)(hA:∀id,A id->id<n0/\id≠R.b)
 (hck:uS (R.X ret) Γ kids=some kids) (hls:kids.length<=1001) (hk:∀H' n',Kb R.b H0 n0 H' n'->k (.bool true) H' n'):Di lfp G (Runs F G) k (.ptr R.rb 0) (.ptr n0 0) own.v H n:=by
 delta Di
 rw[Ae,AQ]
 refine AB (AV (off:=0+10) g (v:=own.v) rfl) (AB (AW6 ..) ?_)
 rw[show decide (own.1=own.1/\own.2=own.2)=true by simp]
 show Aa (.bool false) true _ _
 refine tF ?_
 rw[Ae,AQ]
 refine AB (AV (off:=0+7) g (v:=v) rfl) ?_
 have hlen:=(he.same (H':=H) λid hid=>f.same id (hA id (ha id hid)).1 (hA id (ha id hid)).2).len
 rw[hc.len]at hlen
 refine AB hlen ?_
 refine CP (N:=kids.length) (J:=λj q=>∃H' n',q=(.ptr R.rb 0,v,.int .i64 (.ofNat kids.length) 0,.int .i64 (.ofNat j) 0,H',n')/\Kb R.b H0 n0 H' n') ?_ ?_ ⟨H,n,rfl,f⟩
 ·rintro I j q hlt ⟨H1,n1,rfl,f1⟩ ihl
  show Fa lfp G (Runs F G) k I (.ptr R.rb 0) v (.int .i64 (.ofNat kids.length) 0) (.int .i64 (.ofNat j) 0) H1 n1
  delta Fa
  have hget:=List.getElem?_eq_getElem hlt
  obtain⟨e',he1,he2⟩:=ACu hck hget
  rw[hget]at he1
  cases he1
  have hj:=ih _ (List.getElem_mem hlt)
  have he':=he.same (H':=H1) λid hid=>f1.same id (hA id (ha id hid)).1 (hA id (ha id hid)).2
  have hc1:=Gh.mono (H':=H1) (B:=A) (λ_ h=>h) (λid hid=>f1.same id (hA id hid).1 (hA id hid).2) hc
  obtain⟨l,hl,hx⟩:=hc1.at hget
  generalize kids[j]=e at hx he2 hj
  obtain⟨p,hp,hld⟩:=he'.at hl
  have hn1:=f1.le
  have hb:=ra.tab.bn
  rw[Dl,AQ,decide_eq_true hlt,A8]
  refine AB hp (AB (DW hld) ?_)
  refine Au rfl λH2 f2 g2=>?_
  refine Bq g2 rfl hx.len (by omega) λH3 g3 s3=>?_
  have f13:Kp H1 n1 H3 (n1+1):=⟨f2.le,λid hid=>(s3 id (by omega)).trans (f2.same id hid)⟩
  have f3:=f1.trans (f13.kb (b:=R.b) (by omega))
  refine AB (BI (m:=11) g3 (by omega) hx.len) ?_
  refine hj H3 (n1+1) A l _ (ra.kb f3) (hx.mono (λ_ h=>h) λid hid=>f13.same id (by have:=hA id hid;omega)) (λid hid=>by have:=hA id hid;exact⟨by omega,this.2⟩) he2 λH4 n4 f4=>?_
  refine AB (Ef ..) ?_
  show Aa (.bool false) true _ _
  rw[Ai,Eu (by omega),AQ]
  exact ihl _ ⟨H4,n4,rfl,f3.trans f4⟩
 ·rintro I q ⟨H1,n1,rfl,f1⟩
  show Fa lfp G (Runs F G) k I (.ptr R.rb 0) v (.int .i64 (.ofNat kids.length) 0) (.int .i64 (.ofNat kids.length) 0) H1 n1
  delta Fa
  rw[Dl,AQ,decide_eq_false (Nat.lt_irrefl _),Ai]
  delta La
  exact hk _ _ f1
theorem AJY(o:ROk G R)(hΓ:∀f∈Γ,f.ty.nm.ok)(hln:Γ.length<=100000)(ih:∀e∈kids,AKw G R ret vv al Γ e):AKw G R ret vv al Γ (.mk kind num nm ty of own kids):=by
 intro H n A l k ra ht hA hck hk
 refine go2 (dZ BK G) ?_
 delta Um
 have hex:=ANk (ret:=ret) (vv:=vv) (al:=al) o hΓ hln (.mk kind num nm ty of own kids)
 have hck0:=hck
 obtain⟨ks,p,h1,h2,h3,h0⟩:=ABO hck
 injection h3 with _ _ _ _ h5 h6 h7
 subst h5 h6 h7
 unfold gdE at h0
 rw[Bool.and_eq_true]at h0
 have hty:ty.nm.ok:=AIn h0.1
 have hks:=ACs (K:=R.K) (M:=R.M ret) o.ko hΓ h1
 have hls:(kids.map Te.of).length<=1001:=(AE4 (K:=R.K) (M:=R.M ret) o.ko hΓ hty _ _ (λt ht=>by obtain⟨e,he,rfl⟩:=List.mem_map.1 ht;exact hks e he) h2).2
 rw[List.length_map]at hls
 have hb:=ra.tab.bn
 cases ht with
 |mk _ _ _ _ _ _ line col he hv ha hc=>
 rename_i v cs
 refine DY λH1 f1 g1=>?_
 have tea:FQ G H1 A (LM kind num nm ty p.1 p.2 line col v) (.mk kind num nm ty p.1 p.2 kids):=FQ.mono (H:=H) (λ_ h=>h) (λid hid=>f1.same id (hA id hid).1) (.mk kind num nm ty p.1 p.2 line col he hv ha hc)
 refine AB (BI (m:=11) g1 (by omega) rfl) ?_
 refine hex H1 (n+1) A _ _ (ra.kp f1) tea (λid hid=>by have:=hA id hid;exact⟨by omega,this.2⟩) hck0 λH2 n2 f2=>?_
 have hn2:=f2.le
 have g2:=f2.get g1 (by omega) (by omega)
 rw[O5,AQ,O7,AQ]
 refine Au rfl λH3 f3 g3=>?_
 refine Au rfl λH4 f4 g4=>?_
 have g3:=f4.get g3 (by omega)
 refine Bq (L:=p.1.cells) g3 rfl rfl (by omega) λH5 g5 s5=>?_
 refine Bq (L:=fz) ((s5 (n2+1) (by omega)).trans g4) rfl rfl (by omega) λH6 g6 s6=>?_
 have g5:T.get H6 n2=_:=(s6 n2 (by omega)).trans g5
 have f26:Kp H2 n2 H6 (n2+1+1):=⟨by omega,λid hid=>(s6 id (by omega)).trans ((s5 id (by omega)).trans ((f4.same id (by omega)).trans (f3.same id hid)))⟩
 have g:=f26.get g2 (by omega)
 have f06:Kb R.b H n H6 (n2+1+1):=((f1.kb hb).trans f2).trans (f26.kb (by omega))
 rw[Ae,AQ]
 refine AB (AV (off:=0+0) g6 (v:=.int .i64 (.ofNat 0) 0) rfl) (AB (lS ..) ?_)
 show Ba (.bool false) false _ _
 refine XE (Ae ..) (XE (a:=p.1.v) (Dh (off:=0+8) (m:=2) g (by omega) (by show 0+8+2<=11;omega)) (XE (a:=p.1.v) (BI (m:=2) g5 (by omega) rfl) (XE (AOf p.1 p.1) (lZ ?_))))
 rw[oz]
 show Aa (.bool false) true _ _
 refine tF ?_
 first|rw[Ae,AQ]|rw[Dk,AQ]|rw[AQ]
 refine AB (AV (off:=0+0) g (v:=.int .i64 (.ofNat kind) 0) rfl) ?_
 have ra6:=ra.kb f06
 have he6:=he.same (H':=H6) λid hid=>f06.same id (hA id (ha id hid)).1 (hA id (ha id hid)).2
 have qk:∀{H':Heap},T.get H' n=some (one (LM kind num nm ty p.1 p.2 line col v))->AY (.ptr n (0+7)) G H'=some v:=λg=>AV (off:=0+7) g rfl
 have qn:∀{H':Heap},T.get H' n=some (one (LM kind num nm ty p.1 p.2 line col v))->AY (.ptr n (0+4)) G H'=some nm.v:=λg=>AV (off:=0+4) g rfl
 have AZW:∀{c:Ty} {gs:List Ty},kids.map Te.of=c::gs->∃pp q8 q80,Az 11 v (.int .i64 (.ofNat 0) 0)=some pp/\AU 8 pp=some q8/\AU 0 q8=some q80/\AY q80 G H6=some c.nm.v:=by
  intro c gs hm
  rcases kids with _|⟨e0,l0⟩
  ·cases hm
  ·injection hm with hm _
   obtain⟨c0,hc1,hc2⟩:=hc.at (i:=0) (e:=e0) rfl
   cases hc2 with
   |mk k1 n1 m1 t1 o1 w1 l1 c1=>
    obtain⟨pp,q8,q80,i1,i2,i3,i4⟩:=AWo o.G (x:=o1.nm.v) he6 hc1 rfl rfl
    have hm:o1=c:=hm
    subst hm
    exact⟨pp,q8,q80,i1,i2,i3,i4 _ he6⟩
 have fin:∀{H7:Heap} {n7:Nat},Kb R.b H6 (n2+1+1) H7 n7->Di lfp G (Runs F G) k (.ptr R.rb 0) (.ptr n 0) p.2.v H7 n7:=λ{H7 n7} f7=>
  AXf (A:=A) ih ra (f06.trans f7) (f7.get g (by omega) (by omega)) (by have:=f7.le;omega) he ha hc hA h1 hls hk
 by_cases k7:kind=7
 ·subst k7
  refine dS (tT ?_)
  generalize hks':kids.map Te.of=ts at h2
  rcases ts with _|⟨c,_|⟨b,l0⟩⟩
  ·cases h2
  ·have h:(bif c.cls&&BO R.tb c then(UF R.tb c.nm nm).map λp=>(p.2,p.1)else none)=some p:=h2
   cases hcc:c.cls&&BO R.tb c with
   |false=>rw[hcc]at h;cases h
   |true=>
    rw[hcc]at h
    obtain⟨q,hq,e2⟩:=Option.map_eq_some_iff.1 (show(UF R.tb c.nm nm).map (λp=>(p.2,p.1))=some p from h)
    subst e2
    obtain⟨pp,q8,q80,i1,i2,i3,i4⟩:=AZW hks'
    rw[BU,AQ,Dk,AQ]
    refine AB ra6.ldt ?_
    rw[Ae,AQ]
    refine AB (qk g) (AB i1 (AB i2 (AB i3 (AB i4 ?_))))
    rw[Ae,AQ]
    refine AB (qn g) ?_
    refine AFD (c:=c.nm) (s:=nm) ra6.tab o.F.tl λH7 n7 f7=>?_
    rw[hq,O5,AQ,O7,AQ,xJ,AQ]
    exact fin f7
  ·cases h2
 refine Jo k7 (tF ?_)
 by_cases k8:kind=8
 ·subst k8
  refine dS (tT ?_)
  generalize hks':kids.map Te.of=ts at h2
  rcases ts with _|⟨c,gs⟩
  ·cases h2
  ·have h:(bif c.cls then PE (R.X ret) c nm false gs else none)=some p:=h2
   cases hcc:c.cls with
   |false=>rw[hcc]at h;cases h
   |true=>
    rw[hcc]at h
    have h:PE (R.X ret) c nm false gs=some p:=h
    unfold PE at h
    cases hkn:BO R.tb c with
    |false=>rw[show BO (R.X ret).tb c=false from hkn]at h;cases h
    |true=>
     rw[show BO (R.X ret).tb c=true from hkn]at h
     cases hm:Iu R.tb c.nm nm false with
     |none=>rw[show Iu (R.X ret).tb c.nm nm false=none from hm]at h;cases h
     |some q=>
      obtain⟨oo,s⟩:=q
      rw[show Iu (R.X ret).tb c.nm nm false=some (oo,s)from hm]at h
      obtain⟨_,e2⟩:=Eb (show TL (Z5 R.tb gs s.ps) s.ret oo=some p from h)
      subst e2
      obtain⟨pp,q8,q80,i1,i2,i3,i4⟩:=AZW hks'
      rw[BU,AQ,Dk,AQ]
      refine AB ra6.ldt ?_
      rw[Ae,AQ]
      refine AB (qk g) (AB i1 (AB i2 (AB i3 (AB i4 ?_))))
      rw[Ae,AQ]
      refine AB (qn g) ?_
      refine AFT (c:=c.nm) (s:=nm) ra6.tab o.F.tl λH7 n7 sv f7 _=>?_
      rw[hm,O5,AQ,O7,AQ,xJ,AQ]
      exact fin f7
 refine Jo k8 (tF ?_)
 by_cases k9:kind=9
 ·subst k9
  refine dS (tT ?_)
  have h:PE (R.X ret) ty nm true (kids.map Te.of)=some p:=h2
  unfold PE at h
  cases hkn:BO R.tb ty with
  |false=>rw[show BO (R.X ret).tb ty=false from hkn]at h;cases h
  |true=>
   rw[show BO (R.X ret).tb ty=true from hkn]at h
   cases hm:Iu R.tb ty.nm nm true with
   |none=>rw[show Iu (R.X ret).tb ty.nm nm true=none from hm]at h;cases h
   |some q=>
    obtain⟨oo,s⟩:=q
    rw[show Iu (R.X ret).tb ty.nm nm true=some (oo,s)from hm]at h
    obtain⟨_,e2⟩:=Eb (show TL (Z5 R.tb (kids.map Te.of) s.ps) s.ret oo=some p from h)
    subst e2
    rw[BU,AQ,Dk,AQ]
    refine AB ra6.ldt ?_
    rw[Ae,AQ,Ae,AQ]
    refine AB (AV (off:=0+5+0) g (v:=ty.nm.v) rfl) ?_
    first|rw[Ae,AQ]|rw[AQ]
    refine AB (qn g) ?_
    refine AFT (c:=ty.nm) (s:=nm) ra6.tab o.F.tl λH7 n7 sv f7 _=>?_
    rw[hm,O5,AQ,O7,AQ,xJ,AQ]
    exact fin f7
 refine Jo k9 (tF ?_)
 have hown:p.2=(0,0):=by
  rcases AFY _ _ h2 with h|h
  ·unfold mbr at h;simp[k7,k8,k9]at h
  ·exact h
 have:=fin (Kb.refl R.b H6 (n2+1+1))
 rw[hown]at this
 exact this
mutual
theorem AIR(o:ROk G R)(hΓ:∀f∈Γ,f.ty.nm.ok)(hln:Γ.length<=100000):∀e,AKw G R ret vv al Γ e
 |.mk _ _ _ _ _ _ kids=>AJY o hΓ hln (AGb o hΓ hln kids)
theorem AGb(o:ROk G R)(hΓ:∀f∈Γ,f.ty.nm.ok)(hln:Γ.length<=100000):∀es:List Te,∀e∈es,AKw G R ret vv al Γ e
 |[]=>λe h=>by cases h
 |a::l=>by
  have ha:=AIR o hΓ hln a
  have hl:=AGb o hΓ hln l
  intro e he
  rcases List.mem_cons.1 he with rfl|he
  ·exact ha
  ·exact hl e he
end
end
def AWC(Γ:List DJ):Tt->List DJ
 |.mk does nm ty _ _ _=>bif decide (does=1)then Γ++[⟨nm,ty⟩]else Γ
mutual
def mkS(x:Kx)(Γ:List DJ):Tt->Prop
 |.mk does nm ty es th el=>uS x Γ es=some es/\es.length<=100000/\th.length<=1000/\el.length<=1000/\(does=1->BO x.tb ty=true)/\rQ x (bif decide (does=1)then Γ++[⟨nm,ty⟩]else Γ) th/\rQ x (bif decide (does=1)then Γ++[⟨nm,ty⟩]else Γ) el
def rQ(x:Kx)(Γ:List DJ):List Tt->Prop
 |[]=>True
 |s::l=>Γ.length<=200/\mkS x Γ s/\rQ x (AWC Γ s) l
end
theorem AQM{x:Kx}{does:Nat}{nm:St}{ty:Ty}{es:List Ty}{g g1:Gs}(h:AHD x does nm ty es g=some g1):g1.1=(bif decide (does=1)then g.1++[⟨nm,ty⟩]else g.1)/\g1.2=(bif decide (does=1)then g.2+1 else g.2)/\(does=1->g.2<200):=by
 have same:∀{b:Bool},(bif b then some g else none)=some g1->g1=g:=λ{b} h=>by cases b;cases h;cases h;rfl
 match does,h with
 |0,h=>cases h
 |1,h=>
  rcases es with _|⟨a,_|⟨b,l⟩⟩<;>try (cases h;done)
  have h:(bif fitsT x.tb a ty then AAH ⟨nm,ty⟩ g else none)=some g1:=h
  cases hf:fitsT x.tb a ty with
  |false=>rw[hf]at h;cases h
  |true=>
   rw[hf]at h
   have h:(bif (FP nm g.1).isNone&&decide (g.2<200)then some (g.1++[⟨nm,ty⟩],g.2+1)else none)=some g1:=h
   cases hb:(FP nm g.1).isNone&&decide (g.2<200)with
   |false=>rw[hb]at h;cases h
   |true=>
    rw[hb]at h
    cases h
    rw[Bool.and_eq_true]at hb
    exact⟨rfl,rfl,λ_=>of_decide_eq_true hb.2⟩
 |2,h=>
  rcases es with _|⟨a,_|⟨b,_|⟨c,l⟩⟩⟩<;>try (cases h;done)
  have:=same h;subst this;exact⟨rfl,rfl,λh=>by cases h⟩
 |3,h=>
  rcases es with _|⟨a,_|⟨b,l⟩⟩<;>try (cases h;done)
  cases h;exact⟨rfl,rfl,λh=>by cases h⟩
 |4,h=>
  rcases es with _|⟨a,_|⟨b,l⟩⟩<;>try (cases h;done)
  have:=same h;subst this;exact⟨rfl,rfl,λh=>by cases h⟩
 |5,h=>
  rcases es with _|⟨a,_|⟨b,l⟩⟩<;>try (cases h;done)
  have:=same h;subst this;exact⟨rfl,rfl,λh=>by cases h⟩
 |6,h=>
  rcases es with _|⟨a,_|⟨b,l⟩⟩<;>try (cases h;done)
  have:=same h;subst this;exact⟨rfl,rfl,λh=>by cases h⟩
 |7,h=>
  rcases es with _|⟨a,_|⟨b,l⟩⟩<;>try (cases h;done)
  have:=same h;subst this;exact⟨rfl,rfl,λh=>by cases h⟩
 |k+8,h=>cases h
mutual
theorem ATW{x:Kx}:∀{s:Tt} {g:Gs} {r:Tt×Gs},g.1.length<=g.2->g.2<=200->ckS x s g=some r->mkS x g.1 r.1/\r.2.1=AWC g.1 r.1/\r.2.1.length<=r.2.2/\r.2.2<=200
 |.mk does nm ty es th el,g,r,hg,hn,h=>by
  obtain⟨hkn,es',g1,h1,h2,h3⟩:=AEx h
  obtain⟨a1,a2,a3⟩:=AQM h2
  have hes:=AKY _ _ h2
  rw[List.length_map]at hes
  have hg1:g1.1.length<=g1.2/\g1.2<=200:=by
   rw[a1,a2]
   cases hd:decide (does=1)with
   |true=>have:=a3 (of_decide_eq_true hd);simp only[cond_true,List.length_append,List.length_singleton];omega
   |false=>simp only[cond_false];omega
  by_cases hd:does=4∨does=5
  ·have hd1:decide (does=1)=false:=decide_eq_false (by omega)
   rcases h3 with⟨_,⟨z1,z2⟩,p,q,h3,h4,rfl⟩|⟨hn',_⟩
   ·obtain⟨b1,b2,b3⟩:=AFI hg1.1 hg1.2 h3
    obtain⟨c1,c2,c3⟩:=AFI (g:=(g1.1,p.2)) b2 b3 h4
    refine⟨?_,?_,c2,c3⟩
    ·show mkS x g.1 (.mk does nm ty es' p.1 q.1)
     unfold mkS
     rw[hd1]
     rw[hd1]at a1
     have a1:g1.1=g.1:=a1
     refine⟨yF h1,hes,?_,?_,hkn,?_,?_⟩
     ·have:=(ACU h3);omega
     ·have:=(ACU h4);omega
     ·show rQ x g.1 p.1;rw[<-a1];exact b1
     ·show rQ x g.1 q.1;rw[<-a1];exact c1
    ·show g1.1=(bif decide (does=1)then g.1++[⟨nm,ty⟩]else g.1)
     exact a1
   ·exact absurd hd hn'
  ·obtain⟨e1,e2⟩:=AJ9 h hd
   rcases h3 with⟨hn',_⟩|⟨_,rfl⟩
   ·exact absurd hn' hd
   ·subst e1 e2
    refine⟨?_,a1,hg1.1,hg1.2⟩
    show mkS x g.1 (.mk does nm ty es' [] [])
    unfold mkS
    refine⟨yF h1,hes,by simp,by simp,hkn,?_,?_⟩<;>(unfold rQ;trivial)
theorem AFI{x:Kx}:∀{l:List Tt} {g:Gs} {r:List Tt×Nat},g.1.length<=g.2->g.2<=200->iG x l g=some r->rQ x g.1 r.1/\g.1.length<=r.2/\r.2<=200
 |[],g,r,hg,hn,h=>by
  rw[iG]at h
  cases h
  exact⟨by unfold rQ;trivial,hg,hn⟩
 |s::l,g,(b',a),hg,hn,h=>by
  obtain⟨s',g1,l',h1,h2,rfl⟩:=ACG h
  obtain⟨m1,m2,m3,m4⟩:=ATW hg hn h1
  obtain⟨b1,b2,b3⟩:=AFI m3 m4 h2
  obtain⟨Δ,hΔ⟩:=AN2 h1
  have hΔ:g1.1=g.1++Δ:=hΔ
  have m2:g1.1=AWC g.1 s':=m2
  refine⟨?_,?_,b3⟩
  ·show rQ x g.1 (s'::l')
   unfold rQ
   exact⟨by omega,m1,by rw[<-m2];exact b1⟩
  ·have b2:g1.1.length<=a:=b2
   show g.1.length<=a
   rw[hΔ,List.length_append]at b2;omega
theorem ACU{x:Kx}:∀{l:List Tt} {g:Gs} {r:List Tt×Nat},iG x l g=some r->r.1.length=l.length
 |[],g,r,h=>by rw[ANj h]
 |s::l,g,(b',a),h=>by
  obtain⟨s',g1,l',h1,h2,rfl⟩:=ACG h
  have:l'.length=l.length:=ACU h2
  show(s'::l').length=_
  rw[List.length_cons,List.length_cons,this]
end
structure Kv(R:Rk)(v:V)(H:Heap)(n:Nat)(H':Heap)(n':Nat):Prop where
 le:n<=n'
 same:∀id,id<n->id≠R.b->id≠R.rb->v.D9≠some id->T.get H' id=T.get H id
 seen:MI H R.b->MI H' R.b
structure RSt(G:AX)(H:Heap)(n:Nat)(R:Rk)(m0:Nat)(vv:V)(Γ:List DJ)(al:V):Prop where
 g:T.get H R.rb=some (one (R.cells vv al))
 tab:TabAt G H m0 R.t R.a R.b R.tb
 sk:Sk H 3 (λid=>m0<=id/\id<n/\id≠R.rb) vv (Γ.map QZ)
 mr:m0<=R.rb
 rn:R.rb<n
section
variable{G:AX}{R:Rk}{m0:Nat}{vv vv' al:V}{Γ:List DJ}{H H' H'':Heap}{n n' n'':Nat}{k:KV}{ret:Ty}
theorem Kv.refl(R:Rk)(v:V)(H:Heap)(n:Nat):Kv R v H n H n:=⟨Nat.le_refl _,λ_ _ _ _ _=>rfl,λh=>h⟩
theorem Kv.trans{v v':V}(x:Kv R v H n H' n')(y:Kv R v' H' n' H'' n'')(h:Sd n v v'):Kv R v H n H'' n'':=
 ⟨Nat.le_trans x.le y.le,λid hid hb hk hv=>(y.same id (Nat.lt_of_lt_of_le hid x.le) hb hk (by
  rcases h with h|h
  ·rw[h];exact hv
  ·intro e;have:=h id e;omega)).trans (x.same id hid hb hk hv),λh=>y.seen (x.seen h)⟩
theorem Kb.kv(v:V)(f:Kb R.b H n H' n'):Kv R v H n H' n':=⟨f.le,λid h hb _ _=>f.same id h hb,f.seen⟩
theorem RSt.bm(h:RSt G H n R m0 vv Γ al):R.b<m0:=h.tab.bn
theorem RSt.ra(h:RSt G H n R m0 vv Γ al):RAt G H n R vv Γ al:=
 ⟨h.g,h.tab.up (by have:=h.mr;have:=h.rn;omega),h.sk.el (by omega),λid hid=>by have:=h.sk.own hid;have:=h.bm;omega,h.rn,by have:=h.bm;have:=h.mr;omega⟩
theorem RSt.kb(h:RSt G H n R m0 vv Γ al)(f:Kb R.b H n H' n'):RSt G H' n' R m0 vv Γ al:=by
 have:=h.bm;have:=h.mr;have:=h.rn
 exact⟨f.get h.g h.rn (by omega),h.tab.kb (f.low (by omega)),h.sk.mono (λid hid=>by have:=f.le;omega) λid hid=>f.same id hid.2.1 (by omega),h.mr,by have:=f.le;omega⟩
theorem RSt.kp(h:RSt G H n R m0 vv Γ al)(f:Kp H n H' n'):RSt G H' n' R m0 vv Γ al:=h.kb (f.kb (by have:=h.bm;have:=h.mr;have:=h.rn;omega))
def BSp(G:AX)(R:Rk)(ret:Ty)(m0:Nat)(al:V)(b:List Tt):Prop:=∀(H:Heap) (n:Nat) (A:Nat->Prop) (v vv:V) (Γ:List DJ) (k:KV),RSt G H n R m0 vv Γ al->U9 G H A v b->(∀id,A id->id<m0/\id≠R.b)->rQ (R.X ret) Γ b->b.length<=1000->(∀f∈Γ,f.ty.nm.ok)->
 (∀H' n' vv',Kv R vv H n H' n'->RSt G H' n' R m0 vv' Γ al->Sd n vv vv'->k (.bool true) H' n')->Runs F G Ih [.ptr R.rb 0,v] H n k
def AOA(G:AX)(R:Rk)(ret:Ty)(m0:Nat)(al:V):Tt->Prop
 |.mk _ _ _ _ th el=>BSp G R ret m0 al th/\BSp G R ret m0 al el
theorem RSt.put(h:RSt G H n R m0 vv Γ al){H1:Heap}{n1:Nat}{Γ':List DJ}(hn:n<=n1)(hs:∀id,id<n->id≠R.rb->vv.D9≠some id->T.get H1 id=T.get H id)(g:T.get H1 R.rb=some (one (R.cells vv' al)))(sk:Sk H1 3 (λid=>m0<=id/\id<n1/\id≠R.rb) vv' (Γ'.map QZ)):RSt G H1 n1 R m0 vv' Γ' al:=by
 have:=h.bm;have hm:=h.mr;have:=h.rn
 have nv:∀id,id<m0->vv.D9≠some id:=λid h1 e=>by have:=h.sk.own e;omega
 exact⟨g,h.tab.kb ⟨Nat.le_refl _,λid h1 _=>hs id (by omega) (by omega) (nv id h1),λhse=>hse.same (hs _ (by omega) (by omega) (nv _ h.bm))⟩,sk,h.mr,by omega⟩
theorem RSt.st{P:KV}(h:RSt G H n R m0 vv Γ al){w:V}{Γ':List DJ}{B:Nat->Prop}(sk:Sk H 3 B w (Γ'.map QZ))(hB:∀id,w.D9=some id->m0<=id/\id<n/\id≠R.rb)(hk:∀H',(∀id,id≠R.rb->T.get H' id=T.get H id)->RSt G H' n R m0 w Γ' al->P .undef H' n):BL 1 (.ptr R.rb (0+15)) w H n P:=by
 refine Ib (off:=0+15) (m:=1) (v:=w) h.g sk.ok.1 (by rw[sk.ok.2.1];rfl) (by omega) (by show 0+15+1<=17;omega) λH1 g1 s1=>?_
 rw[sk.ok.2.1]at g1
 exact hk H1 s1 (h.put (Nat.le_refl _) (λid _ h2 _=>s1 id h2) g1 (sk.PW (λid hid=>hB id hid) λid hid=>s1 id (by have:=hB id hid;omega)))
end
section
variable{G:AX}{R:Rk}{m0:Nat}{vv vv' al:V}{Γ:List DJ}{H H' H'':Heap}{n n' n'':Nat}{k:KV}{ret:Ty}{A:Nat->Prop}
theorem Kv.of{v:V}(le:n<=n')(s:∀id,id<n->id≠R.rb->v.D9≠some id->T.get H' id=T.get H id)(hb:R.b<n)(hbr:R.b≠R.rb)(hv:v.D9≠some R.b):Kv R v H n H' n':=⟨le,λid h1 _ h3 h4=>s id h1 h3 h4,λhs=>hs.same (s _ hb hbr hv)⟩
theorem AVl{I:(V×V×V×V×V×Heap×Nat)->Prop}{does line col:Nat}{nm:St}{ty:Ty}{es:List Te}{th el:List Tt}{ve vt vl a5 a15 a16 a17:V}{c:Nat}
 (h:RSt G H n R m0 vv Γ al) (hc:R.rb<c) (hcn:c<n) (hcv:vv.D9≠some c) (g:T.get H c=some (one (ttC does line col nm ty ve vt vl))) (hsub:AOA G R ret m0 al (.mk does nm ty es th el)) (ht:U9 G H A vt th) (hl:U9 G H A vl el) (hA:∀id,A id->id<m0/\id≠R.b)
 (m1:rQ (R.X ret) Γ th) (m2:rQ (R.X ret) Γ el) (z1:th.length<=1000) (z2:el.length<=1000) (hΓ:∀f∈Γ,f.ty.nm.ok)
 (hk:∀H' n' vv',Kv R vv H n H' n'->RSt G H' n' R m0 vv' Γ al->Sd n vv vv'->Ey lfp G (Runs F G) k I (.ptr R.rb 0) a5 a15 a16 a17 H' n'):
 Es lfp G (Runs F G) k I (.ptr R.rb 0) a5 (.ptr c 0) a15 a16 a17 H n:=by
 delta Es
 have hb:=h.bm
 have hm:=h.mr
 rw[Ae,AQ]
 refine AB (AV (off:=0+7) g (v:=vt) rfl) ?_
 refine hsub.1 H n A vt vv Γ _ h ht hA m1 z1 hΓ λH1 n1 w1 f1 h1 d1=>?_
 have hn1:=f1.le
 have nvm:∀{H:Heap} {n:Nat} {v:V},RSt G H n R m0 v Γ al->∀id,id<m0->v.D9≠some id:=λh id h1 e=>by have:=h.sk.own e;omega
 have g1:T.get H1 c=_:=(f1.same c hcn (by omega) (by omega) hcv).trans g
 refine AB (Ef ..) ?_
 show Ba (.bool false) false _ _
 refine XE rfl (XE (Ae ..) (XE (AV (off:=0+8) g1 (v:=vl) rfl) (AHC ?_)))
 have hl1:=hl.mono (H':=H1) (B:=A) (λ_ h=>h) λid hid=>f1.same id (by have:=hA id hid;have:=h.rn;omega) (hA id hid).2 (by have:=hA id hid;omega) (nvm h id (hA id hid).1)
 refine hsub.2 H1 n1 A vl w1 Γ _ h1 hl1 hA m2 z2 hΓ λH2 n2 w2 f2 h2 d2=>?_
 refine XE (Ef ..) (lZ ?_)
 show Aa (.bool false) true _ _
 refine tF ?_
 exact hk H2 n2 w2 (f1.trans f2 d1) h2 (d1.trans d2 hn1)
theorem ACz(o:ROk G R){b:List Tt}(ih:∀s∈b,AOA G R ret m0 al s):BSp G R ret m0 al b:=by
 intro H n A v vv Γ k h hv hA hmk hz hΓ hk
 refine go2 (Yt BK G) ?_
 delta RX
 obtain⟨cs,e1,-,-,-,e5,hts⟩:=hv
 have hcl:=hts.len
 have hb:=h.bm
 have hm:=h.mr
 have hrn:=h.rn
 have nvm:∀{H:Heap} {n:Nat} {v:V} {Γ:List DJ},RSt G H n R m0 v Γ al->∀id,id<m0->v.D9≠some id:=λh id h1 e=>by have:=h.sk.own e;omega
 have qv:∀{H:Heap} {n:Nat} {v:V} {Γ:List DJ},RSt G H n R m0 v Γ al->AY (.ptr R.rb (0+15)) G H=some v:=λh=>AV (off:=0+15) h.g rfl
 rw[BU,AQ,Ae,AQ]
 refine AB (qv h) ?_
 have hlen:=(h.sk.el (G:=G) (by omega)).len
 rw[List.length_map]at hlen
 refine AB hlen ?_
 have hlb:=e1.len
 rw[hcl]at hlb
 refine AB hlb ?_
 refine CP (N:=b.length) (J:=λj q=>∃H' n' vv' Γ',q=(.ptr R.rb 0,.int .i64 (.ofNat Γ.length) 0,v,.int .i64 (.ofNat b.length) 0,.int .i64 (.ofNat j) 0,H',n')/\Kv R vv H n H' n'/\RSt G H' n' R m0 vv' Γ' al/\Sd n vv vv'/\rQ (R.X ret) Γ' (b.drop j)/\(∃Δ,Γ'=Γ++Δ)/\∀f∈Γ',f.ty.nm.ok) ?_ ?_
  ⟨H,n,vv,Γ,rfl,Kv.refl ..,h,Sd.refl ..,hmk,⟨[],by simp⟩,hΓ⟩
 ·rintro I j q hlt ⟨H1,n1,v1,Γ1,rfl,f1,h1,d1,m1,⟨Δ,hΔ⟩,hΓ1⟩ ihl
  show Ew lfp G (Runs F G) k I (.ptr R.rb 0) (.int .i64 (.ofNat Γ.length) 0) v (.int .i64 (.ofNat b.length) 0) (.int .i64 (.ofNat j) 0) H1 n1
  delta Ew
  have hget:=List.getElem?_eq_getElem hlt
  have keep:∀id,A id->T.get H1 id=T.get H id:=λid hid=>f1.same id (by have:=hA id hid;omega) (hA id hid).2 (by have:=hA id hid;omega) (nvm h id (hA id hid).1)
  have e11:=e1.same (H':=H1) λid hid=>keep id (e5 id hid)
  have hts1:=IW.mono (H':=H1) (B:=A) (λ_ h=>h) keep hts
  obtain⟨l,hl,hst⟩:=hts1.at hget
  have hsub:=ih _ (List.getElem_mem hlt)
  rw[List.drop_eq_getElem_cons hlt]at m1
  generalize b[j]=s at hst hsub m1
  obtain⟨p,hp,hld⟩:=e11.at hl
  have hn1:=f1.le
  have hrn1:=h1.rn
  rw[Dl,AQ,decide_eq_true hlt,A8]
  refine AB hp (AB (DW hld) ?_)
  refine Au rfl λH2 f2 g2=>?_
  refine Bq g2 rfl hst.len (by omega) λH3 g3 s3=>?_
  have f13:Kp H1 n1 H3 (n1+1):=⟨f2.le,λid hid=>(s3 id (by omega)).trans (f2.same id hid)⟩
  have h3:=h1.kp f13
  have hst3:=hst.mono (H':=H3) (B:=A) (λ_ h=>h) λid hid=>f13.same id (by have:=hA id hid;omega)
  cases hst3 with
  |mk does nm ty line col he ht kt hat hct hel kl hal hcl'=>
  rename_i ve vt vl es th el ct cl2
  unfold rQ at m1
  obtain⟨mz,ms,mrest⟩:=m1
  unfold mkS at ms
  obtain⟨me,zes,zth,zel,mkn,mth,mel⟩:=ms
  obtain⟨ecs,ee1,-,-,-,ee5,hes⟩:=he
  have hecl:=hes.len
  rw[Ae,AQ]
  refine AB (AV (off:=0+6) g3 (v:=ve) rfl) ?_
  have hle:=ee1.len
  rw[hecl]at hle
  refine AB hle ?_
  have hb3:R.b<n1+1:=by omega
  refine CP (N:=es.length) (J:=λi q=>∃H' n',q=(.ptr R.rb 0,.int .i64 (.ofNat Γ.length) 0,.ptr n1 0,v,.int .i64 (.ofNat b.length) 0,.int .i64 (.ofNat j) 0,ve,.int .i64 (.ofNat es.length) 0,.int .i64 (.ofNat i) 0,H',n')/\Kb R.b H3 (n1+1) H' n') ?_ ?_ ⟨H3,n1+1,rfl,Kb.refl ..⟩
  ·rintro I2 i q hlt2 ⟨H4,n4,rfl,f4⟩ ih2
   show Et lfp G (Runs F G) k I I2 (.ptr R.rb 0) (.int .i64 (.ofNat Γ.length) 0) (.ptr n1 0) v (.int .i64 (.ofNat b.length) 0) (.int .i64 (.ofNat j) 0) ve (.int .i64 (.ofNat es.length) 0) (.int .i64 (.ofNat i) 0) H4 n4
   delta Et
   have hget2:=List.getElem?_eq_getElem hlt2
   obtain⟨e',he1,he2⟩:=ACu me hget2
   rw[hget2]at he1
   cases he1
   have k4:∀id,A id->T.get H4 id=T.get H3 id:=λid hid=>f4.same id (by have:=hA id hid;omega) (hA id hid).2
   have ee4:=ee1.same (H':=H4) λid hid=>k4 id (ee5 id hid)
   have hes4:=Gh.mono (H':=H4) (B:=A) (λ_ h=>h) k4 hes
   obtain⟨le,hle2,hx⟩:=hes4.at hget2
   generalize es[i]=e at hx he2
   obtain⟨p2,hp2,hld2⟩:=ee4.at hle2
   have hn4:=f4.le
   rw[Dl,AQ,decide_eq_true hlt2,A8]
   refine AB hp2 (AB (DW hld2) ?_)
   refine Au rfl λH5 f5 g5=>?_
   refine Bq g5 rfl hx.len (by omega) λH6 g6 s6=>?_
   have f46:Kp H4 n4 H6 (n4+1):=⟨f5.le,λid hid=>(s6 id (by omega)).trans (f5.same id hid)⟩
   have f36:=f4.trans (f46.kb (b:=R.b) (by omega))
   refine AB (BI (m:=11) g6 (by omega) hx.len) ?_
   refine AIR (ret:=ret) o hΓ1 (by omega) e H6 (n4+1) A le _ (h3.kb f36).ra (hx.mono (λ_ h=>h) λid hid=>f46.same id (by have:=hA id hid;omega)) (λid hid=>by have:=hA id hid;exact⟨by omega,this.2⟩) he2 λH7 n7 f7=>?_
   refine AB (Ef ..) ?_
   show Aa (.bool false) true _ _
   rw[Ai,Eu (by omega),AQ]
   exact ih2 _ ⟨H7,n7,rfl,f36.trans f7⟩
  ·rintro I2 q ⟨H4,n4,rfl,f4⟩
   show Et lfp G (Runs F G) k I I2 (.ptr R.rb 0) (.int .i64 (.ofNat Γ.length) 0) (.ptr n1 0) v (.int .i64 (.ofNat b.length) 0) (.int .i64 (.ofNat j) 0) ve (.int .i64 (.ofNat es.length) 0) (.int .i64 (.ofNat es.length) 0) H4 n4
   delta Et
   rw[Dl,AQ,decide_eq_false (Nat.lt_irrefl _),Ai]
   delta JW
   have hn4:=f4.le
   have h4:=h3.kb f4
   have g4:=f4.get g3 (by omega) (by omega)
   have k4:∀id,A id->T.get H4 id=T.get H3 id:=λid hid=>f4.same id (by have:=hA id hid;omega) (hA id hid).2
   have ht4:U9 G H4 A vt th:=⟨ct,ht.same λid hid=>k4 id (hat id hid),kt,(by cases vt<;>first|rfl|(cases ht.2;done)|(cases ht.1;done)),(by cases vt<;>first|rfl|(cases ht.2;done)|(cases ht.1;done)),hat,IW.mono (λ_ h=>h) k4 hct⟩
   have hl4:U9 G H4 A vl el:=⟨cl2,hel.same λid hid=>k4 id (hal id hid),kl,(by cases vl<;>first|rfl|(cases hel.2;done)|(cases hel.1;done)),(by cases vl<;>first|rfl|(cases hel.2;done)|(cases hel.1;done)),hal,IW.mono (λ_ h=>h) k4 hcl'⟩
   have f14:Kv R v1 H1 n1 H4 n4:=((f13.kb (b:=R.b) (by omega)).trans f4).kv v1
   have f04:=f1.trans f14 d1
   have v1o:∀id,v1.D9=some id->id<n1:=λid e=>(h1.sk.own e).2.1
   rw[Ae,AQ]
   refine AB (AV (off:=0+0) g4 (v:=.int .i64 (.ofNat does) 0) rfl) ?_
   rw[CY,AQ]
   have n1v:v1.D9≠some n1:=λe=>by have:=v1o _ e;omega
   have fin:∀{H5:Heap} {n5:Nat} {v5:V} {Γ5:List DJ},Kv R v1 H1 n1 H5 n5->RSt G H5 n5 R m0 v5 Γ5 al->Sd n1 v1 v5->rQ (R.X ret) Γ5 (b.drop (j+1))->(∃Δ,Γ5=Γ++Δ)->(∀f∈Γ5,f.ty.nm.ok)->
    Ey lfp G (Runs F G) k I (.ptr R.rb 0) (.int .i64 (.ofNat Γ.length) 0) v (.int .i64 (.ofNat b.length) 0) (.int .i64 (.ofNat j) 0) H5 n5:=by
    intro H5 n5 v5 Γ5 f5 h5 d5 m5 hΔ5 hΓ5
    delta Ey
    rw[Eu (by omega),AQ]
    exact ihl _ ⟨H5,n5,v5,Γ5,rfl,f1.trans f5 d1,h5,d1.trans d5 hn1,m5,hΔ5,hΓ5⟩
   cases hd:decide (does=1)with
   |false=>
    rw[hd]at mth mel
    have mrest:rQ (R.X ret) (bif decide (does=1)then Γ1++[⟨nm,ty⟩]else Γ1) (b.drop (j+1)):=mrest
    rw[hd]at mrest
    refine tF (AVl (A:=A) h4 (by omega) (by omega) n1v g4 hsub ht4 hl4 hA mth mel zth zel hΓ1 λH5 n5 v5 f5 h5 d5=>?_)
    have hn5:n1<=n4:=by omega
    exact fin (f14.trans f5 (.inl rfl)) h5 (by
     rcases d5 with d|d
     ·exact .inl d
     ·exact .inr λid e=>by have:=d id e;omega) mrest ⟨Δ,hΔ⟩ hΓ1
   |true=>
    rw[hd]at mth mel
    have mrest:rQ (R.X ret) (bif decide (does=1)then Γ1++[⟨nm,ty⟩]else Γ1) (b.drop (j+1)):=mrest
    rw[hd]at mrest
    have hty:=ADK (mkn (of_decide_eq_true hd))
    refine tT ?_
    rw[BU,AQ,Ae,AQ]
    refine AB (qv h4) ?_
    rw[Ae,AQ]
    refine AB (AV (off:=0+3) g4 (v:=nm.v) rfl) ?_
    rw[Ae,AQ]
    refine AB (Dh (off:=0+4) (m:=2) g4 (by omega) (by show 0+4+2<=9;omega)) ?_
    refine AB (v:=.agg (QZ ⟨nm,ty⟩)) rfl ?_
    refine h4.sk.app (bs:=40) (c:=.agg (QZ ⟨nm,ty⟩)) (m:=0) (λid hid=>(h4.sk.own hid).2.1) (by omega) rfl rfl (by rw[List.length_map];omega) λw H5 hs5 same5 hsid=>?_
    have hsk:=hs5 (λid=>m0<=id/\id<n4+2/\id≠R.rb) ⟨by omega,by omega,by omega⟩
    have g5:T.get H5 R.rb=_:=(same5 R.rb (by omega) λe=>by have:=(h1.sk.own e).2.2;omega).trans h4.g
    have hΓs:Γ1.map QZ++[Bl (.agg (QZ ⟨nm,ty⟩))]=(Γ1++[(⟨nm,ty⟩:DJ)]).map QZ:=by rw[List.map_append];rfl
    rw[hΓs]at hsk
    first|rw[BU,AQ,Ae,AQ]|rw[AQ,Ae,AQ]|rw[AQ,AQ]
    refine Ib (off:=0+15) (m:=1) (v:=w) g5 hsk.ok.1 (by rw[hsk.ok.2.1];rfl) (by omega) (by show 0+15+1<=17;omega) λH6 g6 s6=>?_
    rw[hsk.ok.2.1]at g6
    have k6:∀id,id<n4->id≠R.rb->v1.D9≠some id->T.get H6 id=T.get H4 id:=λid h1 h2 h3=>(s6 id h2).trans (same5 id h1 h3)
    have h6:RSt G H6 (n4+2) R m0 w (Γ1++[⟨nm,ty⟩]) al:=h4.put (by omega) k6 g6 (hsk.PW (λid hid=>hsk.own hid) λid hid=>s6 id (by have:=hsk.own hid;omega))
    have k6A:∀id,A id->T.get H6 id=T.get H4 id:=λid hid=>k6 id (by have:=hA id hid;omega) (by have:=hA id hid;omega) (nvm h1 id (hA id hid).1)
    have f46:Kv R v1 H4 n4 H6 (n4+2):=Kv.of (by omega) k6 (by omega) (by omega) (nvm h1 _ hb)
    have wn1:w.D9≠some n1:=λe=>by rw[hsid]at e;have:=Option.some.inj e;omega
    have hΓ6:∀f∈Γ1++[⟨nm,ty⟩],f.ty.nm.ok:=λf hf=>by
     rcases List.mem_append.1 hf with hf|hf
     ·exact hΓ1 f hf
     ·rw[List.mem_singleton.1 hf];exact hty
    refine AVl (A:=A) h6 (by omega) (by omega) wn1 ((k6 n1 (by omega) (by omega) n1v).trans g4) hsub (ht4.mono (λ_ h=>h) k6A) (hl4.mono (λ_ h=>h) k6A) hA mth mel zth zel hΓ6 λH7 n7 v7 f7 h7 d7=>?_
    have dw:Sd n1 v1 w:=.inr λid e=>by rw[hsid]at e;have:=Option.some.inj e;omega
    have f6':=f14.trans f46 (.inl rfl)
    exact fin (f6'.trans f7 dw) h7 (dw.trans d7 (by omega)) mrest ⟨Δ++[⟨nm,ty⟩],by rw[hΔ,List.append_assoc]⟩ hΓ6
 ·rintro I q ⟨H1,n1,v1,Γ1,rfl,f1,h1,d1,m1,⟨Δ,hΔ⟩,hΓ1⟩
  show Ew lfp G (Runs F G) k I (.ptr R.rb 0) (.int .i64 (.ofNat Γ.length) 0) v (.int .i64 (.ofNat b.length) 0) (.int .i64 (.ofNat b.length) 0) H1 n1
  delta Ew
  rw[Dl,AQ,decide_eq_false (Nat.lt_irrefl _),Ai]
  delta Jq
  rw[BU,AQ,Ae,AQ]
  refine AB (qv h1) ?_
  obtain⟨w,hw,hsid,hsk⟩:=h1.sk.cut (i:=Γ.length) (q:=.i64) (by rw[List.length_map,hΔ,List.length_append];omega)
  rw[<-List.map_take,hΔ,List.take_left']at hsk
  refine AB hw ?_
  first|rw[BU,AQ,Ae,AQ]|rw[AQ,AQ]|rw[AQ,Ae,AQ]
  refine h1.st hsk (λid e=>h1.sk.own (hsid▸e)) λH2 s2 h2=>?_
  have hn1:=f1.le
  have nb:v1.D9≠some R.b:=nvm h1 _ hb
  refine hk H2 n1 w (f1.trans (Kv.of (v:=v1) (Nat.le_refl _) (λid _ h2 _=>s2 id h2) (by omega) (by omega) nb) d1) h2 (d1.trans (.inl hsid) hn1)
  ·rfl
mutual
theorem AV4(o:ROk G R):∀s,AOA G R ret m0 al s
 |.mk _ _ _ _ th el=>⟨ACz o (AE6 o th),ACz o (AE6 o el)⟩
theorem AE6(o:ROk G R):∀b:List Tt,∀s∈b,AOA G R ret m0 al s
 |[]=>λe h=>by cases h
 |a::l=>by
  have ha:=AV4 o a
  have hl:=AE6 o l
  intro e he
  rcases List.mem_cons.1 he with rfl|he
  ·exact ha
  ·exact hl e he
end
theorem AXp(o:ROk G R)(b:List Tt):BSp G R ret m0 al b:=ACz o (AE6 o b)
end
structure One(tb:Tab)(c:Tc):Prop where
 ok:AHE c
 l1:Ie tb c.nm=some (EC c)
 h1:oG tb c.nm=0
 c1:∃c',ckC tb c=some c'
section
variable{G:AX}{H:Heap}{n:Nat}{k:KV}
theorem AUR(hG:jS G){v:V}{ls:Dy}{cs:List Tc}{P:Nat->Prop}(hel:El G H v 6 ls)(hlo:∀id,v.D9=some id->id<n)(hfc:gX G H P ls cs)(hP:∀id,P id->id<n)(hF:TbF (WS (cs.map EC)))
 (hls:∀(i:Nat) (c:Tc),cs[i]? =some c->∃l,ls[i]? =some l/\VR G H P l c/\One (WS (cs.map EC)) c) (hln:cs.length<=100)
 (hk:∀H' n' w ds,Kp H n H' n'->Sk H' 6 (λid=>n<=id/\id<n') w ds->ds.length=cs.length->(∀(i:Nat) (c:Tc),cs[i]? =some c->∃d x,ds[i]? =some d/\VR G H' (λid=>P id∨(n<=id/\id<n')) d x/\ckC (WS (cs.map EC)) c=some x)->k (.G5 [w,.bool true]) H' n'):
 Runs F G fZ [v] H n k:=by
 refine go1 (ABK BK G) ?_
 delta gq
 have hcl:=hfc.len
 refine ANx hel hlo hfc hP (λc hc=>by
  obtain⟨i,hi⟩:=List.mem_iff_getElem?.1 hc
  obtain⟨l,_,_,h⟩:=hls i c hi
  exact h.ok) hln λH1 n1 t a b f1 hb1 ht1=>?_
 generalize hT:WS (cs.map EC)=tb at hF hls hk ht1
 have hn1:=f1.le
 have hbn:=ht1.bn
 refine ACT (by omega) λH2 f2 g2=>?_
 obtain⟨t2,g2⟩:=g2
 have hel2:=(hel.same (H':=H2) λid hid=>(f1.trans f2).same id (hlo id hid)).len
 rw[hcl]at hel2
 refine AB hel2 ?_
 refine CP (N:=cs.length) (J:=λj q=>∃H' n' w ds,q=(.ptr t 0,w,v,.int .i64 (.ofNat cs.length) 0,.int .i64 (.ofNat j) 0,H',n')/\Kb b H1 n1 H' n'/\n1<=n'/\Sk H' 6 (λid=>n1<=id/\id<n') w ds/\ds.length=j/\
  (∀(i:Nat) (c:Tc),i<j->cs[i]? =some c->∃d x,ds[i]? =some d/\VR G H' (λid=>P id∨(n1<=id/\id<n'/\w.D9≠some id)) d x/\ckC tb c=some x)) ?_ ?_
  ⟨H2,n1+1,_,[],rfl,f2.kb hbn,by omega,.emp g2 ⟨by omega,by omega⟩,rfl,λi c h=>by omega⟩
 ·rintro I j q hlt ⟨H3,n3,w,ds,rfl,f3,hn3,sk3,hdl,hds⟩ ih
  show KD lfp G (Runs F G) k I (.ptr t 0) w v (.int .i64 (.ofNat cs.length) 0) (.int .i64 (.ofNat j) 0) H3 n3
  delta KD
  have keep:∀id,id<n->T.get H3 id=T.get H id:=λid hid=>(f3.same id (by omega) (by omega)).trans (f1.same id hid)
  have hget:=List.getElem?_eq_getElem hlt
  obtain⟨l,hl,hc,ho⟩:=hls j _ hget
  generalize cs[j]=c at hget hc ho
  have hel3:=hel.same (H':=H3) λid hid=>keep id (hlo id hid)
  obtain⟨p,hp,hld⟩:=hel3.at hl
  rw[Dl,AQ,decide_eq_true hlt,A8]
  refine AB hp (AB (DW hld) ?_)
  refine Au rfl λH4 f4 g4=>?_
  refine Bq g4 rfl hc.len (by omega) λH5 g5 s5=>?_
  have f35:Kp H3 n3 H5 (n3+1):=⟨f4.le,λid hid=>(s5 id (by omega)).trans (f4.same id hid)⟩
  refine AB (BI (m:=6) g5 (by omega) hc.len) ?_
  obtain⟨x,hx⟩:=ho.c1
  have hc5:=hc.mono (H':=H5) (B:=P) (λ_ h=>h) λid hid=>(f35.same id (by have:=hP id hid;omega)).trans (keep id (hP id hid))
  have ht5:=(ht1.kb f3).kb (f35.kb (b:=b) (by omega))
  refine AJh hG ht5 hF hc5 (λid hid=>by have:=hP id hid;omega) ho.ok ho.l1 ho.h1 hx λH6 n6 l' f6 q6=>?_
  have hn6:=f6.le
  rw[O5,AQ,O7,AQ]
  refine Au rfl λH7 f7 g7=>?_
  refine Au rfl λH8 f8 g8=>?_
  have g7:=f8.get g7 (by omega)
  refine Bq g7 rfl q6.len (by omega) λH9 g9 s9=>?_
  refine Bq (L:=fz) ((s9 (n6+1) (by omega)).trans g8) rfl rfl (by omega) λHa ga sa=>?_
  have g9:T.get Ha n6=_:=(sa n6 (by omega)).trans g9
  have f6a:Kp H6 n6 Ha (n6+1+1):=⟨by omega,λid hid=>(sa id (by omega)).trans ((s9 id (by omega)).trans ((f8.same id (by omega)).trans (f7.same id hid)))⟩
  rw[Ae,AQ]
  refine AB (AV (off:=0+0) ga (v:=.int .i64 (.ofNat 0) 0) rfl) (AB (lS ..) ?_)
  show Aa (.bool false) true _ _
  refine tF ?_
  refine AB (BI (m:=6) g9 (by omega) q6.len) ?_
  have f3a:Kb b H3 n3 Ha (n6+1+1):=((f35.kb (b:=b) (by omega)).trans f6).trans (f6a.kb (by omega))
  have ska:Sk Ha 6 (λid=>n1<=id/\id<n3) w ds:=sk3.mono (λ_ h=>h) λid h=>f3a.same id h.2 (by omega)
  refine ska.app (bs:=96) (c:=.agg l') (m:=0) (λid hid=>by have:=ska.own hid;omega) (by omega) rfl q6.len (by omega) λw' Hb hsb sameb hsid=>?_
  rw[Eu (by omega),AQ]
  have w'ne:∀id,id<n6+1+1->w'.D9≠some id:=λid h e=>by rw[hsid]at e;have:=Option.some.inj e;omega
  have wo:∀id,w.D9=some id->n1<=id/\id<n3:=λid e=>ska.own e
  refine ih _ ⟨Hb,n6+1+1+2,w',ds++[l'],rfl,⟨by omega,λid h1 h2=>(sameb id (by omega) λe=>by have:=wo _ e;omega).trans ((f3a.same id (by omega) h2).trans (f3.same id h1 h2)),λhs=>(f3a.seen (f3.seen hs)).same (sameb _ (by omega) λe=>by have:=wo _ e;omega)⟩,by omega,hsb _ ⟨by omega,by omega⟩,by rw[List.length_append,hdl];rfl,λi c2 hi hc2=>?_⟩
  by_cases e:i=j
  ·subst e
   rw[hget]at hc2
   cases hc2
   refine⟨l',x,by rw[List.getElem?_append_right (by omega),hdl];simp,?_,hx⟩
   refine(q6.mono (H':=Ha) (B:=λid=>P id∨(n3+1<=id/\id<n6)) (λ_ h=>h) λid hid=>f6a.same id (by rcases hid with h|h;have:=hP id h;omega;exact h.2)).mono (λid hid=>?_) λid hid=>sameb id (by rcases hid with h|h;have:=hP id h;omega;omega) λe=>by have:=wo _ e;rcases hid with h|h;have:=hP id h;omega;omega
   rcases hid with h|h
   ·exact .inl h
   ·exact .inr ⟨by omega,by omega,w'ne id (by omega)⟩
  ·obtain⟨d,y,h1,h2,h3⟩:=hds i c2 (by omega) hc2
   refine⟨d,y,by rw[List.getElem?_append_left (by have:=(List.getElem?_eq_some_iff.1 h1).1;omega)];exact h1,h2.mono (λid hid=>?_) (λid hid=>?_),h3⟩
   ·rcases hid with h|h
    ·exact .inl h
    ·exact .inr ⟨h.1,by omega,w'ne id (by omega)⟩
   ·rcases hid with h|h
    ·exact(sameb id (by have:=hP id h;omega) λe=>by have:=wo _ e;have:=hP id h;omega).trans (f3a.same id (by have:=hP id h;omega) (by have:=hP id h;omega))
    ·exact(sameb id (by omega) h.2.2).trans (f3a.same id h.2.1 (by omega))
 ·rintro I q ⟨H3,n3,w,ds,rfl,f3,hn3,sk3,hdl,hds⟩
  show KD lfp G (Runs F G) k I (.ptr t 0) w v (.int .i64 (.ofNat cs.length) 0) (.int .i64 (.ofNat cs.length) 0) H3 n3
  delta KD
  rw[Dl,AQ,decide_eq_false (Nat.lt_irrefl _),Ai]
  delta Ry
  refine hk H3 n3 w ds ⟨by omega,λid hid=>(f3.same id (by omega) (by omega)).trans (f1.same id hid)⟩ (sk3.mono (λid h=>⟨by omega,h.2⟩) λ_ _=>rfl) hdl λi c hc=>?_
  obtain⟨d,x,h1,h2,h3⟩:=hds i c (List.getElem?_eq_some_iff.1 hc).1 hc
  exact⟨d,x,h1,h2.mono (λid hid=>by rcases hid with h|h;exact .inl h;exact .inr ⟨by omega,h.2.1⟩) λ_ _=>rfl,h3⟩
end
set_option maxHeartbeats 0 in
theorem ALx(G:AX):run F (Gx G) 100 100 X6 [] .e 0 isT=True:=by kernel_rfl
theorem ASm{G:AX}{k:KV}(hM:ABZ G)(hk:∀H n,k (.bool true) H n):Runs F G X6 [] .e 0 k:=by
 have h:=of_eq_true (ALx G)
 rw[AZd hM]at h
 exact AO0 (λv H n hv=>by have:=ATD hv;subst this;exact hk H n) ⟨100,h⟩
theorem AS8{A B:Tc}(w:ANZ A B):TbF (WS ([A,B].map EC))/\One (WS ([A,B].map EC)) A/\One (WS ([A,B].map EC)) B:=by
 obtain⟨b1,f1,a1,c1⟩:=APC w
 exact⟨f1,⟨w.oa,by rw[w.na];exact a1,by rw[w.na];exact b1.Aa0,(b1.ck w).1⟩,⟨w.ob,by rw[w.nb];exact c1,by rw[w.nb];exact b1.Abp,(b1.ck w).2⟩⟩
theorem AUJ{tb:Tab}{cls:St}{m m':Tm}(h:ckM tb cls m=some m'):m'.nm=m.nm/\m'.st=m.st/\m'.ps=m.ps/\m'.ret=m.ret/\m'.body.length<=1000/\m.ps.length<=200/\rQ ⟨tb,cls,m.st,m.ret⟩ m.ps m'.body:=by
 unfold ckM at h
 cases hz:szB m.body with
 |false=>rw[hz]at h;cases h
 |true=>
  rw[hz]at h
  obtain⟨g,h1,h⟩:=Option.bind_eq_some_iff.1 (show((yM m.ps ([],0)).bind λg=>(iG ⟨tb,cls,m.st,m.ret⟩ m.body g).map λq=>({m with body:=q.1}:Tm))=some m' from h)
  obtain⟨q,h2,rfl⟩:=Option.map_eq_some_iff.1 h
  have hg:∀(l:List DJ) (g g':Gs),yM l g=some g'->g'.1=g.1++l:=by
   intro l
   induction l with
   |nil=>intro g g' h;cases h;simp
   |cons v l ih=>
    intro g g' h
    obtain⟨g1,e1,e2⟩:=Option.bind_eq_some_iff.1 (show(AAH v g).bind (yM l)=some g' from h)
    have:=ih _ _ e2
    unfold AAH at e1
    cases hb:(FP v.nm g.1).isNone&&decide (g.2<200)with
    |false=>rw[hb]at e1;cases e1
    |true=>
     rw[hb]at e1
     cases e1
     rw[this]
     simp
  have e1:g.1=m.ps:=by rw[hg _ _ _ h1];rfl
  obtain⟨i1,i2⟩:=AK8 h1
  have i1:0+m.ps.length=g.2:=i1
  have i3:m.ps.length<=200/\g.2<=200:=by
   rcases i2 with i2|i2
   ·rw[i2]at i1⊢;simp only[List.length_nil]at i1⊢;omega
   ·omega
  obtain⟨b1,b2,b3⟩:=AFI (x:=⟨tb,cls,m.st,m.ret⟩) (by rw[e1];omega) i3.2 h2
  have hz:=of_decide_eq_true hz
  refine⟨rfl,rfl,rfl,rfl,?_,i3.1,?_⟩
  ·show q.1.length<=1000
   rw[ACU h2];exact hz
  ·show rQ ⟨tb,cls,m.st,m.ret⟩ m.ps q.1
   rw[<-e1];exact b1
section
variable{G:AX}{H:Heap}{A:Nat->Prop}
theorem bJ.vs{l:LV}{m:Tm}(h:bJ G H A l m):Ar (.agg l) (.agg l)=true:=by
 cases h with
 |mk line col hp hb=>
  obtain⟨_,_,k2,_⟩:=hb
  refine AAZ λv hv=>?_
  simp only[tmC,List.mem_cons,List.not_mem_nil,or_false]at hv
  rcases hv with rfl|rfl|rfl|rfl|rfl|rfl|rfl|rfl<;>first|exact AAI .. |exact ny .. |exact AE1 .. |exact hp.2.1.1|exact k2.1
theorem VR.vs{l:LV}{c:Tc}(h:VR G H A l c):Ar (.agg l) (.agg l)=true:=by
 cases h with
 |mk line col hf hm=>
  obtain⟨_,_,k2,_⟩:=hm
  refine AAZ λv hv=>?_
  simp only[tcC,List.mem_cons,List.not_mem_nil,or_false]at hv
  rcases hv with rfl|rfl|rfl|rfl|rfl|rfl<;>first|exact AAI .. |exact ny .. |exact hf.2.1.1|exact k2.1
end
theorem AZu{G:AX}{H:Heap}{n:Nat}{v:V}{LS:Dy}{P:KV}(h:El G H v 3 LS)(hlt:∀id,v.D9=some id->id<n)(hb:LS.length<=100000)
 (hk:∀w H' n',Kp H n H' n'->n'<=n+2->Sk H' 3 (λid=>n<=id/\id<n') w LS->P w H' n') {t:T LV} (hg:T.get H n=some (.arr 3 0 t)):O8 3 40 (.sl n 0 0 0 3) v G H (n+1) P:=by
 cases LS with
 |nil=>exact ACX hg h.2 λH' hs=>hk _ _ _ ⟨by omega,λid hid=>hs id⟩ (by omega) (.emp ((hs _).trans hg) ⟨Nat.le_refl _,by omega⟩)
 |cons a NS=>
  refine xq (t:=t) (by omega) h.2 (by simp only[List.length_cons]at hb⊢;omega) λv' H' hgr hsame hlo=>?_
  refine hk _ _ _ ⟨by omega,λid hid=>hsame id (by omega)⟩ (by omega) ?_
  generalize hX:a::NS=X at hgr
  cases hgr with
  |nil=>cases hX
  |OT hg hc ht hid=>
   have e:=hlo _ rfl
   exact .OT hg hc ht ⟨by omega,by omega⟩
section
variable{G:AX}{H:Heap}{n:Nat}{k:KV}{A:Nat->Prop}
theorem AUp(hG:jS G){I:(V×V×V×V×V×Heap×Nat)->Prop}{m0 t a b c line col:Nat}{tb:Tab}{x c0:Tc}{vf vm a3 a28 a29 a30:V}(ht:TabAt G H m0 t a b tb)(hF:TbF tb)(hmc:m0<=c)(hcn:c<n)(g:T.get H c=some (one (tcC line col x.nm x.sup vf vm)))
 (hx:VR G H A (tcC line col x.nm x.sup vf vm) x) (hm:APp G H A vm x.ms) (hA:∀id,A id->id<m0/\id≠b) (hnm:x.nm.ok) (hck:ckC tb c0=some x) (hok:AHE c0)
 (hk:∀H' n',Kb b H n H' n'->I5 lfp G (Runs F G) k I a3 (.ptr t 0) a28 a29 a30 H' n'):
 lfp (V×V×V×V×V×V×V×V×V×Heap×Nat) (MN lfp G (Runs F G) k I) (a3,.ptr t 0,.ptr c 0,a28,a29,a30,vm,.int .i64 (.ofNat x.ms.length) 0,.int .i64 (.ofNat 0) 0,H,n):=by
 have hvs:=hx.vs
 obtain⟨ms',hms,rfl⟩:=Option.map_eq_some_iff.1 (show(yY tb c0.nm c0.ms).map (λms=>({c0 with ms:=ms}:Tc))=some x from hck)
 have hbn:=ht.bn
 have hml:=ABj hms
 have hlm:=hok.lm
 obtain⟨cs,e1,-,-,-,e5,hts⟩:=hm
 refine CP (N:=ms'.length) (J:=λj q=>∃H' n',q=(a3,.ptr t 0,.ptr c 0,a28,a29,a30,vm,.int .i64 (.ofNat ms'.length) 0,.int .i64 (.ofNat j) 0,H',n')/\Kb b H n H' n') ?_ ?_ ⟨H,n,rfl,Kb.refl ..⟩
 ·rintro I2 j q hlt ⟨H1,n1,rfl,f1⟩ ih
  show Gp lfp G (Runs F G) k I I2 a3 (.ptr t 0) (.ptr c 0) a28 a29 a30 vm (.int .i64 (.ofNat ms'.length) 0) (.int .i64 (.ofNat j) 0) H1 n1
  delta Gp
  have hn1:=f1.le
  have k1:∀id,A id->T.get H1 id=T.get H id:=λid hid=>f1.same id (by have:=hA id hid;omega) (hA id hid).2
  have hget:=List.getElem?_eq_getElem hlt
  have hts1:=Lp.mono (H':=H1) (B:=A) (λ_ h=>h) k1 hts
  obtain⟨lm,hl,hmt⟩:=hts1.at hget
  obtain⟨p,hp,hld⟩:=(e1.same (H':=H1) λid hid=>k1 id (e5 id hid)).at hl
  have hltm:j<c0.ms.length:=by omega
  obtain⟨m',he1,hcm⟩:=AJM hms (List.getElem?_eq_getElem hltm)
  rw[hget]at he1
  cases he1
  have hmo:=hok.ms _ (List.getElem_mem hltm)
  generalize c0.ms[j]=m at hcm hmo
  obtain⟨z1,z2,z3,z4,z5,z6,z7⟩:=AUJ hcm
  generalize ms'[j]=m' at hmt z1 z2 z3 z4 z5 z7
  rw[Dl,AQ,decide_eq_true hlt,A8]
  refine AB hp (AB (DW hld) ?_)
  have hmvs:=hmt.vs
  refine Au rfl λH2 f2 g2=>?_
  refine Bq g2 rfl hmt.len (by omega) λH3 g3 s3=>?_
  have f13:Kp H1 n1 H3 (n1+1):=⟨f2.le,λid hid=>(s3 id (by omega)).trans (f2.same id hid)⟩
  have gc:T.get H3 c=_:=f13.get (f1.get g hcn (by omega)) (by omega)
  refine AB (BI (m:=6) gc (by omega) rfl) (AB (BI (m:=8) g3 (by omega) hmt.len) ?_)
  refine ACT (by omega) λH4 f4 g4=>?_
  obtain⟨t4,g4⟩:=g4
  obtain⟨ml,mc,vp,vb,rfl,hps,hbd⟩:=hmt.inv
  rw[Ae,AQ]
  refine AB (AV (off:=0+4) (f4.get g3 (by omega)) (v:=vp) rfl) ?_
  have f14:=f13.trans f4
  have k4:∀id,A id->T.get H4 id=T.get H1 id:=λid hid=>f14.same id (by have:=hA id hid;omega)
  refine AZu (t:=t4) (hps.1.same λid hid=>k4 id (hps.2.2.2.2 id hid)) (λid hid=>by have:=hA id (hps.2.2.2.2 id hid);omega) (by rw[List.length_map,z3];omega) (λw H5 n5 f5 hn5 sk=>?_) g4
  have hn5':=f5.le
  have f15:Kp H1 n1 H5 n5:=⟨by omega,λid hid=>(f5.same id (by omega)).trans (f14.same id hid)⟩
  have g35:T.get H5 n1=_:=(f5.same n1 (by omega)).trans (f4.get g3 (by omega))
  have gc5:T.get H5 c=_:=(f5.same c (by omega)).trans (f4.get gc (by omega))
  refine AB (BI (m:=6) gc5 (by omega) rfl) (Bd hvs (AB (BI (m:=8) g35 (by omega) rfl) (Bd hmvs ?_)))
  have hw:w=.Ag∨(∃a b c d e,w=.sl a b c d e)∨∃a b c d,w=.OT a b c d:=by
   have sk:=sk
   generalize m'.ps.map QZ=LS at sk
   cases sk with
   |nil=>exact .inl rfl
   |emp=>exact .inr (.inl ⟨_,_,_,_,_,rfl⟩)
   |OT=>exact .inr (.inr ⟨_,_,_,_,rfl⟩)
  generalize hR:(⟨n5,t,a,b,tb,c0.nm,m'.st,(.int .i64 (.ofNat line) 0,.int .i64 (.ofNat col) 0,c0.sup.v,vf,vm),(.int .i64 (.ofNat ml) 0,.int .i64 (.ofNat mc) 0,m'.nm.v,vp,m'.ret.nm.v,.bool m'.ret.arr,vb)⟩:Rk)=R
  refine AB (v:=.agg (R.cells w (.int .i64 (.ofNat 0) 0))) (by subst hR;rcases hw with rfl|⟨_,_,_,_,_,rfl⟩|⟨_,_,_,_,rfl⟩<;>rfl) ?_
  refine DY λH6 f6 g6=>?_
  have f16:Kp H1 n1 H6 (n5+1):=f15.trans f6
  have rrb:R.rb=n5:=by rw[<-hR]
  have rt:R.t=t:=by rw[<-hR]
  have ra:R.a=a:=by rw[<-hR]
  have rbb:R.b=b:=by rw[<-hR]
  have rtb:R.tb=tb:=by rw[<-hR]
  have rX:R.X m'.ret=⟨tb,c0.nm,m.st,m.ret⟩:=by rw[<-hR,<-z2,<-z4];rfl
  have o:ROk G R:=⟨by rw[rtb];exact hF,by rw[<-hR];exact hnm,hG⟩
  have f06:Kb b H n H6 (n5+1):=f1.trans (f16.kb (by omega))
  have st:RSt G H6 (n5+1) R m0 w m'.ps (.int .i64 (.ofNat 0) 0):=⟨by rw[rrb];exact g6,by rw[rt,ra,rbb,rtb];exact ht.kb (f06.low (by omega)),sk.mono (λid h=>⟨by omega,by omega,by omega⟩) λid h=>f6.same id (by omega),by omega,by omega⟩
  rw[Ae,AQ]
  refine AB (AV (off:=0+7) (f6.get g35 (by omega)) (v:=vb) rfl) ?_
  rw[show V.ptr n5 0=.ptr R.rb 0 by rw[rrb]]
  refine AXp (ret:=m'.ret) o m'.body H6 (n5+1) A vb w m'.ps _ st (hbd.mono (λ_ h=>h) λid hid=>f16.same id (by have:=hA id hid;omega)) (λid hid=>by rw[rbb];exact hA id hid) (by rw[rX,z3];exact z7) z5 (by rw[z3];exact hmo.ps) λH7 n7 w7 f7 h7 d7=>?_
  have hn7:=f7.le
  refine AB (Ef ..) ?_
  show Aa (.bool false) true _ _
  rw[Ai,Eu (by omega),AQ]
  refine ih _ ⟨H7,n7,rfl,⟨by omega,λid h1 h2=>(f7.same id (by omega) (by rw[rbb];exact h2) (by omega) λe=>by have:=sk.own e;omega).trans (f06.same id h1 h2),λhs=>?_⟩⟩
  have:=f7.seen
  rw[rbb]at this
  exact this (f06.seen hs)
 ·rintro I2 q ⟨H1,n1,rfl,f1⟩
  show Gp lfp G (Runs F G) k I I2 a3 (.ptr t 0) (.ptr c 0) a28 a29 a30 vm (.int .i64 (.ofNat ms'.length) 0) (.int .i64 (.ofNat ms'.length) 0) H1 n1
  delta Gp
  rw[Dl,AQ,decide_eq_false (Nat.lt_irrefl _),Ai]
  exact hk _ _ f1
end
theorem VR.inv{G:AX}{H:Heap}{A:Nat->Prop}{l:LV}{c:Tc}(h:VR G H A l c):∃line col vf vm,l=tcC line col c.nm c.sup vf vm/\APp G H A vm c.ms:=by
 cases h with
 |mk line col hf hm=>exact⟨line,col,_,_,rfl,hm⟩
section
variable{G:AX}{k:KV}
theorem AMj(hG:jS G){H0:Heap}{n0 t a b:Nat}{tb:Tab}{v w:V}{ls ds:Dy}{cs:List Tc}{P A:Nat->Prop}(ht:TabAt G H0 n0 t a b tb)(hF:TbF tb)(hel:El G H0 v 6 ls)(hv:∀id,v.D9=some id->id<n0/\id≠b)(hel2:El G H0 w 6 ds)(hw:∀id,w.D9=some id->id<n0/\id≠b)(hA:∀id,A id->id<n0/\id≠b)(hP:∀id,P id->id<n0/\id≠b)
 (hls:∀(i:Nat) (c:Tc),cs[i]? =some c->∃l d x,ls[i]? =some l/\ds[i]? =some d/\VR G H0 P l c/\VR G H0 A d x/\ckC tb c=some x/\AHE c) (hdl:ds.length=cs.length) (hln:cs.length<=100) (hk:∀H' n',k (.bool true) H' n'):
 lfp (V×V×V×V×V×Heap×Nat) (MB lfp G (Runs F G) k) (v,.ptr t 0,w,.int .i64 (.ofNat cs.length) 0,.int .i64 (.ofNat 0) 0,H0,n0):=by
 have hbn:=ht.bn
 refine CP (N:=cs.length) (J:=λj q=>∃H' n',q=(v,.ptr t 0,w,.int .i64 (.ofNat cs.length) 0,.int .i64 (.ofNat j) 0,H',n')/\Kb b H0 n0 H' n') ?_ ?_ ⟨H0,n0,rfl,Kb.refl ..⟩
 ·rintro I j q hlt ⟨H1,n1,rfl,f1⟩ ih
  show Gn lfp G (Runs F G) k I v (.ptr t 0) w (.int .i64 (.ofNat cs.length) 0) (.int .i64 (.ofNat j) 0) H1 n1
  delta Gn
  have hn1:=f1.le
  obtain⟨l,d,x,hl,hd,hc,hx,hck,hok⟩:=hls j _ (List.getElem?_eq_getElem hlt)
  generalize cs[j]=c at hc hck hok
  obtain⟨p,hp,hld⟩:=(hel2.same (H':=H1) λid hid=>f1.same id (hw id hid).1 (hw id hid).2).at hd
  rw[Dl,AQ,decide_eq_true hlt,A8]
  refine AB hp (AB (DW hld) ?_)
  refine Au rfl λH2 f2 g2=>?_
  refine Bq g2 rfl hx.len (by omega) λH3 g3 s3=>?_
  have f13:Kp H1 n1 H3 (n1+1):=⟨f2.le,λid hid=>(s3 id (by omega)).trans (f2.same id hid)⟩
  have f03:Kb b H0 n0 H3 (n1+1):=f1.trans (f13.kb (by omega))
  refine AB (BI (m:=6) g3 (by omega) hx.len) ?_
  obtain⟨p2,hp2,hld2⟩:=(hel.same (H':=H3) λid hid=>f03.same id (hv id hid).1 (hv id hid).2).at hl
  refine AB hp2 (AB (DW hld2) ?_)
  have z:=ARB hF.ar hck
  have hx3:=hx.mono (H':=H3) (B:=A) (λ_ h=>h) λid hid=>f03.same id (hA id hid).1 (hA id hid).2
  refine ATZ (x:=x) (y:=c) z.1 (by rw[z.2.1];have:=hok.lf;omega) (by rw[z.2.2.1];have:=hok.lm;omega) z.2.2.2 hx3 (hc.mono (H':=H3) (B:=P) (λ_ h=>h) λid hid=>f03.same id (hP id hid).1 (hP id hid).2) (λid hid=>by have:=hA id hid;omega) (λid hid=>by have:=hP id hid;omega) λH4 n4 f4=>?_
  have hn4:=f4.le
  refine AB (Ef ..) ?_
  show Aa (.bool false) true _ _
  have f04:Kb b H0 n0 H4 n4:=f03.trans (f4.kb (by omega))
  have hx4:=hx3.mono (H':=H4) (B:=A) (λ_ h=>h) λid hid=>f4.same id (by have:=hA id hid;omega)
  obtain⟨line,col,vf,vm,rfl,hm4⟩:=hx4.inv
  have g4:=f4.get g3 (by omega)
  rw[Ai,Ae,AQ]
  refine AB (AV (off:=0+5) g4 (v:=vm) rfl) ?_
  have hm4':=hm4
  obtain⟨ms,e1,_,_,_,_,hts⟩:=hm4'
  have hlen:=e1.len
  rw[hts.len]at hlen
  refine AB hlen ?_
  have hnm:x.nm.ok:=by
   obtain⟨ms',_,rfl⟩:=Option.map_eq_some_iff.1 (show(yY tb c.nm c.ms).map (λms=>({c with ms:=ms}:Tc))=some x from hck)
   exact hok.nm
  refine AUp hG (m0:=n0) (c0:=c) (x:=x) (A:=A) (ht.kb (f04.low (Nat.le_refl _))) hF (by omega) (by omega) g4 hx4 hm4 hA hnm hck hok λH5 n5 f5=>?_
  delta I5
  rw[Eu (by omega),AQ]
  exact ih _ ⟨H5,n5,rfl,f04.trans f5⟩
 ·rintro I q ⟨H1,n1,rfl,f1⟩
  show Gn lfp G (Runs F G) k I v (.ptr t 0) w (.int .i64 (.ofNat cs.length) 0) (.int .i64 (.ofNat cs.length) 0) H1 n1
  delta Gn
  rw[Dl,AQ,decide_eq_false (Nat.lt_irrefl _),Ai]
  delta MZ
  exact hk _ _
end
section
variable{G:AX}{k:KV}
theorem AJV(hG:jS G)(hM:ABZ G){vp:V}{ps:List Int}(hp:∀H,El G H vp 1 (ints ps))(hvp:vp=.Ag∨∃b o l c z,vp=.rsl b o l c z)(hk:∀H' n',k (.bool true) H' n'):Runs F G pK [vp] .e 0 k:=by
 refine go1 (lD BK G) ?_
 delta WW
 refine ASm hM λH0 n0=>?_
 refine AB (Ef ..) ?_
 show Aa (.bool false) true _ _
 have hlen:(ints ps).length=ps.length:=List.length_map ..
 rw[Ai]
 refine AB (hp H0).len ?_
 rw[hlen,wz,AQ]
 cases h1:decide (200<ps.length)with
 |true=>rw[A8];exact hk _ _
 |false=>
 have h1:=of_decide_eq_false h1
 rw[Ai]
 refine APa ⟨ps,hp,by omega⟩ hvp λH2 n2 v lA lB A B f2 hel hks hok hvc hsid hA hB hm=>?_
 have hn2:=f2.le
 obtain⟨F1,B1,B2⟩:=AS8 hm.w
 have hR:∀id,Rg n0 n2 id->id<n2:=λid h=>h.2
 have fc:∀{H:Heap},(∀id,id<n2->T.get H id=T.get H2 id)->gX G H (Rg n0 n2) [lA,lB] [A,B]:=λh=>.cons (hA.mono (λ_ h=>h) λid hid=>h id hid.2).fc (.cons (hB.mono (λ_ h=>h) λid hid=>h id hid.2).fc .nil)
 refine AUR (cs:=[A,B]) hG hel (λid hid=>(hsid id hid).2) (fc λ_ _=>rfl) hR F1 (λi c hc=>?_) (by show 2<=100;omega) λH3 n3 w ds f3 sk hdl hds=>?_
 ·match i,hc with
  |0,hc=>cases hc;exact⟨lA,rfl,hA,B1⟩
  |1,hc=>cases hc;exact⟨lB,rfl,hB,B2⟩
  |i+2,hc=>simp at hc
 have hn3:=f3.le
 rw[O5,AQ,O7,AQ]
 refine AB (Ef ..) ?_
 show Aa (.bool false) true _ _
 rw[Ai]
 have hel3:=hel.same (H':=H3) λid hid=>f3.same id (hR id (hsid id hid))
 refine ANx (A:=Rg n0 n2) (cs:=[A,B]) hel3 (λid hid=>by have:=hR id (hsid id hid);omega) (fc λid hid=>f3.same id hid) (λid hid=>by have:=hR id hid;omega) (λc hc=>by simp at hc;rcases hc with rfl|rfl;exact B1.ok;exact B2.ok) (by show 2<=100;omega) λH4 n4 t a b f4 hb ht=>?_
 have hn4:=f4.le
 have sk4:=sk.mono (H':=H4) (λ_ h=>h) λid h=>f4.same id h.2
 have hlw:=(sk4.el (G:=G) (by omega)).len
 rw[hdl]at hlw
 refine AB hlw ?_
 refine AMj (cs:=[A,B]) (ls:=[lA,lB]) (ds:=ds) (P:=Rg n0 n2) (A:=λid=>Rg n0 n2 id∨(n2<=id/\id<n3)) hG ht F1 (hel3.same λid hid=>f4.same id (by have:=hR id (hsid id hid);omega)) (λid hid=>by have:=hR id (hsid id hid);omega) (sk4.el (by omega)) (λid hid=>by have:=sk4.own hid;omega) (λid hid=>by rcases hid with h|h;have:=hR id h;omega;omega) (λid hid=>by have:=hR id hid;omega) (λi c hc=>?_) hdl (by show 2<=100;omega) hk
 obtain⟨d,x,e1,e2,e3⟩:=hds i c hc
 have e2:=e2.mono (H':=H4) (λ_ h=>h) λid hid=>f4.same id (by rcases hid with h|h;have:=hR id h;omega;exact h.2)
 have k4:∀{l:LV} {c:Tc},VR G H2 (Rg n0 n2) l c->VR G H4 (Rg n0 n2) l c:=λh=>h.mono (λ_ h=>h) λid hid=>(f3.trans f4).same id (hR id hid)
 match i,hc with
 |0,hc=>cases hc;exact⟨lA,d,x,rfl,e1,k4 hA,e2,e3,B1.ok⟩
 |1,hc=>cases hc;exact⟨lB,d,x,rfl,e1,k4 hB,e2,e3,B2.ok⟩
 |i+2,hc=>simp at hc
end
end Go.RL
