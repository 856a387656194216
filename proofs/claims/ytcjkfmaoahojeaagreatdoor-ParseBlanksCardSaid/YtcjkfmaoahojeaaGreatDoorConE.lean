/- Part of a proof; nothing is assumed. -/
import Derived.Test.YtcjkfmaoahojeaaGreatDoorConD
import Derived.Test.YtcjkfmaoahojeaaGreatDoorLawA
import Derived.Test.YtcjkfmaoahojeaaGreatDoorWalk
import Derived.Test.YtcjkfmaoahojeaaGreatDoorConC
set_option linter.unusedVariables false
set_option linter.unusedSimpArgs false
namespace Go.PQ
open Go.Eng
set_option maxRecDepth 100000
def xsC(does l c:Int)(nm ty:Bs)(ar:Bool)(ve vt vl:V):LV:=[.int .i64 does 0,.int .i64 l 0,.int .i64 c 0,sB nm,sB ty,.bool ar,ve,vt,vl]
inductive XS(G:AV):LV->Prop where
 |mk {does l c:Int} {nm ty:Bs} {ar:Bool} {ve vt vl:V} {es ts ls:D5} (hn:nm.length<=bigS) (ht:ty.length<=bigS) (he:∀H,El G H ve 11 es) (hel:es.length<9223372036854775808) (hek:∀L∈es,XE G L)
  (hth:∀H,El G H vt 9 ts) (htl:ts.length<9223372036854775808) (htk:∀L∈ts,XS G L) (hls:∀H,El G H vl 9 ls) (hll:ls.length<9223372036854775808) (hlk:∀L∈ls,XS G L):XS G (xsC does l c nm ty ar ve vt vl)
theorem XS.len{G:AV}{L:LV}(h:XS G L):L.length=9:=by cases h;rfl
def FwS(G:AV):Nat->D5->Prop
 |0,LS=>LS.length<=10
 |m+1,LS=>LS.length<=10/\∀L∈LS,∀vt vl ts ls,L[7]? =some vt->L[8]? =some vl->(∀H,El G H vt 9 ts)->(∀H,El G H vl 9 ls)->FwS G m ts/\FwS G m ls
theorem FwS.len{G:AV}{m:Nat}{LS:D5}(h:FwS G m LS):LS.length<=10:=by
 cases m with
 |zero=>exact h
 |succ m=>exact h.1
theorem AIP{G:AV}{H:Heap}{id m z n:Nat}{t:T LV}{c c':LV}{cs:D5}{P:KV}(hz:0<z)(hg:T.get H id=some (.arr z m t))(h:El G H (.sl id 0 m m z) z (c::cs))(hn:c'.length=z)
 (hk:∀H',El G H' (.sl id 0 m m z) z (c'::cs)->(∀j,j≠id->T.get H' j=T.get H j)->P .undef H' n):CP z (.ptr id 0) (.agg c') H n P:=by
 have h2:(Bool.rec (motive:=λ_=>Option D5) none (DK H id z m 0) (Nat.beq z z):Option D5)=some (c::cs):=h.2
 rw[Es]at h2
 have h2:DK H id z m 0=some (c::cs):=h2
 obtain⟨hl,hat⟩:=P8 _ _ h2
 simp only[List.length_cons]at hl
 have get:∀i L,(c::cs)[i]? =some L->T.get t i=some L:=λi L hi=>by
  have hlt:=(List.getElem?_eq_some_iff.1 hi).1
  simp only[List.length_cons]at hlt
  have:=hat i L hi
  rw[Nat.zero_add,zf hg hz (by omega)]at this
  exact this
 rw[show V.ptr id 0=.ptr id (0*z)by rw[Nat.zero_mul]]
 refine AUs hg hz (by omega) (get 0 c rfl) rfl hn λH' g s=>hk H' ⟨rfl,?_⟩ s
 show(Bool.rec (motive:=λ_=>Option D5) none (DK H' id z m 0) (Nat.beq z z):Option D5)=some (c'::cs)
 rw[Es]
 refine iI m 0 (c'::cs) (by simp only[List.length_cons];omega) λi L hi=>?_
 have hlt:=(List.getElem?_eq_some_iff.1 hi).1
 simp only[List.length_cons]at hlt
 rw[Nat.zero_add,zf g hz (by omega)]
 cases i with
 |zero=>
  simp at hi;subst hi
  exact T.DJ ..
 |succ i=>
  rw[T.BA _ _ (by omega)]
  exact get (i+1) L (by simpa using hi)
structure Qt(H1:Heap)(n1:Nat)(L:LV)(H:Heap)(n:Nat)(out:LV):Prop where
 f:Kp H1 n1 H n
 lt:n1+2<=n
 ge:T.get H n1=some (one L)
 go:T.get H (n1+1)=some (one out)
theorem Qt.fr{H1 H H':Heap}{n1 n n':Nat}{L out:LV}(x:Qt H1 n1 L H n out)(hn:n<=n')(hs:∀id,id<n1+2->T.get H' id=T.get H id):Qt H1 n1 L H' n' out:=by
 have h1:=x.f.le
 have h2:=x.lt
 exact⟨⟨by omega,λid hid=>(hs id (by omega)).trans (x.f.same id hid)⟩,by omega,(hs _ (by omega)).trans x.ge,(hs _ (by omega)).trans x.go⟩
theorem Qt.kp{H1 H H':Heap}{n1 n n':Nat}{L out:LV}(x:Qt H1 n1 L H n out)(f:Kp H n H' n'):Qt H1 n1 L H' n' out:=x.fr f.le λid hid=>f.same id (by have:=x.lt;omega)
theorem rW{H1 H:Heap}{n1 n o m:Nat}{L out:LV}{v:V}{P:KV}(x:Qt H1 n1 L H n out)(hv:kD v=true)(hl:(CZ v).length=m)(hm:0<m)(ho:o+m<=out.length)
 (hk:∀H',Qt H1 n1 L H' n (out.take o++(CZ v++out.drop (o+m)))->(∀j,j≠n1+1->T.get H' j=T.get H j)->P .undef H' n):AP (AU o (.ptr (n1+1) 0)) λp=>CP m p v H n P:=by
 refine AB (v:=.ptr (n1+1) o) (by rw[AZ,Nat.zero_add]) ?_
 refine Ej x.go hv hl hm ho λH' g s=>hk H' ?_ s
 exact⟨⟨x.f.le,λid hid=>(s id (by omega)).trans (x.f.same id hid)⟩,x.lt,(s _ (by omega)).trans x.ge,g⟩
theorem neI{k i:Nat}{P:V->Prop}(h:P (.bool (!decide (k=i)))):AP (EZ (.one .int) true (.int .i64 (.ofNat k) 0) (.int .i64 (.ofNat i) 0)) P:=by rw[YX];exact h
section
variable{G:AV}{H:Heap}{n:Nat}{k:KV}
theorem AWC{i b:Nat}{L:LV}(hL:XS G L)(hb:T.get H b=some (one L))(hbn:b<n)(hk:RtK G H n 5 k):Runs F G EM [.int .i64 (.ofNat i) 0,.ptr b 0] H n k:=by
 refine Am (s:=QD (OJ lfp G)) Rx (by obtain⟨h,o⟩:=tK Ap G;rw[Rx]at h;cases h;exact o) ?_
 show OJ lfp G (Runs F G) (.int .i64 (.ofNat i) 0) (.ptr b 0) H n k
 delta OJ
 refine Az rfl λH1 f1 g1=>?_
 have hb:=f1.get hb hbn
 cases hL with
 | @mk does l c nm ty ar ve vt vl es ts ls hn ht he hel hek hth htl htk hls hll hlk=>
 have q:AX (.ptr b (0+6)) G H1=some ve:=AQ hb rfl
 refine AB (AZ ..) (AB q (AB (he H1).len (AB (ES ..) ?_)))
 cases hz:decide (i<es.length)with
 |true=>
  have hz:=of_decide_eq_true hz
  rw[Ah]
  obtain⟨p,hp,hld⟩:=(he H1).at (List.getElem?_eq_getElem hz)
  refine AB (AZ ..) (AB q (AB hp (AB (Jl hld) ?_)))
  refine ATP (hek _ (List.getElem_mem hz)) λH2 n2 c2 e2 f2 hg hx=>?_
  have g2:=f2.get g1 (by omega)
  refine CG g2 rfl hx.len (by omega) λH3 g3 s3=>?_
  rw[DX (m:=11) g3 (by omega) hx.len]
  simp only[go_sem]
  have hn2:=f2.le
  exact hk _ _ _ _ ⟨by omega,λid hid=>(s3 id (by omega)).trans ((f2.same id (by omega)).trans (f1.same id hid))⟩ hg (hx.mono (λid h=>⟨by have:=h.1;omega,h.2⟩) λid h=>s3 id (by have:=h.1;omega))
 |false=>
  rw[Aq]
  refine AB (v:=.agg (Ti 1 3 [] [] false 0 0 .Ae)) rfl ?_
  refine CG g1 rfl rfl (by omega) λH2 g2 s2=>?_
  rw[DX (m:=11) g2 (by omega) rfl]
  simp only[go_sem]
  exact hk _ _ _ _ ⟨by omega,λid hid=>(s2 id (by omega)).trans (f1.same id hid)⟩ (AP2.mono (Nat.zero_le _)) (.mk 1 3 [] [] false 0 0 yO dB (λid h=>by cases h) .nil)
theorem sg1{H1:Heap}{n1:Nat}{L:LV}{does line col:Nat}{nm:Bs}{ty:Ty}{vt vl:V}{Z:LV}{Q:KV}(x:Qt H1 n1 L H n (gI does line col nm ty .Ae vt vl))(hL:XS G L)
 (hk:∀H' n' m e c,Qt H1 n1 L H' n' (gI does line col nm ty (.sl m 0 1 1 11) vt vl)->Kp H n1 H' n'->n<=m->m<n'->GB 5 e->EO G H' (Rg n m) c e->El G H' (.sl m 0 1 1 11) 11 [c]->(∃t,T.get H' m=some (.arr 11 1 t))->(∀id,n1+1<id->id<n->T.get H' id=T.get H id)->Q .undef H' n'):
 FW (.fn EM [] [.ptr n1 0]) [.int .i64 (.ofNat 0) 0] (Runs F G) H n λv H n=>DY (Aj 11 1 Z [(0,.c v)] E0) H n λw H n=>AP (AU 6 (.ptr (n1+1) 0)) λp=>CP 1 p w H n Q:=by
 have hlt:=x.lt
 show Runs F G EM [.int .i64 (.ofNat 0) 0,.ptr n1 0] H n _
 refine AWC hL x.ge (by omega) λH2 n2 c e f2 hg hx=>?_
 have hn2:=f2.le
 refine J9 (G:=G) (vs:=[.agg c]) rfl (by omega) (λv hv=>by simp at hv;subst hv;exact⟨rfl,hx.len⟩) λH3 f3 hat hel=>?_
 refine rW (o:=6) (m:=1) ((x.kp f2).kp f3) rfl rfl (by omega) (by show 6+1<=9;omega) λH4 x4 s4=>?_
 obtain⟨t,ht⟩:=hat
 refine hk _ _ n2 e c x4 ⟨by omega,λid hid=>(s4 id (by omega)).trans ((f3.same id (by omega)).trans (f2.same id (by omega)))⟩ hn2 (by omega) hg (hx.mono (λ_ h=>h) λid h=>(s4 id (by have:=h.1;omega)).trans (f3.same id h.2)) (hel.same λid hid=>s4 id (by cases Em hid;omega)) ⟨t,(s4 _ (by omega)).trans ht⟩ λid h1 h2=>(s4 id (by omega)).trans ((f3.same id (by omega)).trans (f2.same id h2))
end
structure LJ(G:AV)(H0:Heap)(n0 m:Nat)(H:Heap)(n:Nat)(w:V)(cs:D5)(ss:List St):Prop where
 f:Kp H0 n0 H n
 ow:Ow G H n0 n 9 w cs
 cs:TA G H (λid=>n0<=id/\id<n/\w.Qa≠some id) cs ss
 gs:∀s∈ss,GS m s
def AWi(G:AV)(H0:Heap)(n0 m:Nat)(N:Nat)(k:KV):Prop:=∀H' n' w ss,Kp H0 n0 H' n'->PX G H' (Rg n0 n') w ss->ss.length=N->(∀s∈ss,GS m s)->k w H' n'
section
variable{G:AV}{k:KV}
theorem AZx{H0 H1 H:Heap}{n0 n1 n m j N:Nat}{w v:V}{cs:D5}{ss:List St}{L c:LV}{s:St}{I:(V×V×V×V×V×Heap×Nat)->Prop}{dv:V}(lj:LJ G H0 n0 m H1 n1 w cs ss)(hj:ss.length=j)(hj10:j<10)(x:Qt H1 n1 L H n c)(hs:MX G H (λid=>n1+1<id/\id<n) c s)(hg:GS m s)
 (ih:∀H' n' w' cs' ss',LJ G H0 n0 m H' n' w' cs' ss'->ss'.length=j+1->I (dv,w',v,.int .i64 (.ofNat N) 0,.int .i64 (.ofNat (j+1)) 0,H',n')):
 Bc lfp G (Runs F G) k I dv w (.ptr (n1+1) 0) v (.int .i64 (.ofNat N) 0) (.int .i64 (.ofNat j) 0) H n:=by
 show Bc lfp G (Runs F G) k I dv w (.ptr (n1+1) 0) v (.int .i64 (.ofNat N) 0) (.int .i64 (.ofNat j) 0) H n
 delta Bc
 have hlt:=x.lt
 have h01:=lj.f.le
 refine AB (Ai (m:=9) x.go (by omega) hs.len) ?_
 have ow:=lj.ow.frame (n':=n) (by omega) λid hid=>x.f.same id (by have:=lj.ow.at hid;omega)
 have hcl:=lj.cs.len
 refine AEL ow (by omega) (by omega) hs.len rfl (by omega) λw' H2 ow2 s2 hid2=>?_
 refine AB (Ef (by omega)) ?_
 refine ih H2 (n+2) w' (cs++[c]) (ss++[s]) ⟨⟨by omega,λid hid=>(s2 id (by omega) λh=>by have:=lj.ow.at h;omega).trans ((x.f.same id (by omega)).trans (lj.f.same id hid))⟩,ow2,?_,λy hy=>?_⟩ (by rw[List.length_append,hj];rfl)
 ·refine TA.app (lj.cs.mono (λid h=>⟨h.1,by have:=h.2.1;omega,λh'=>by have:=hid2 id h';have:=h.2.1;omega⟩) λid h=>(s2 id (by have:=h.2.1;omega) h.2.2).trans (x.f.same id h.2.1)) (.cons (hs.mono (λid h=>⟨by have:=h.1;omega,by have:=h.2;omega,λh'=>by have:=hid2 id h';have:=h.2;omega⟩) λid h=>s2 id h.2 λh'=>by have:=lj.ow.at h';have:=h.1;omega) .nil)
 ·rcases List.mem_append.1 hy with hy|hy
  ·exact lj.gs y hy
  ·simp at hy;subst hy;exact hg
theorem es1{H:Heap}{m:Nat}{c:LV}{e:Ex}{A:Nat->Prop}(hel:El G H (.sl m 0 1 1 11) 11 [c])(hx:EO G H A c e)(hm:A m):fO G H A (.sl m 0 1 1 11) [e]:=
 ⟨[c],hel,Wy (Nat.le_refl _),rfl,rfl,λid hid=>by cases Em hid;exact hm,.cons hx .nil⟩
theorem ALo{H:Heap}{A:Nat->Prop}{c:LV}{e:Ex}(h:EO G H A c e):c[0]? =some (.int .i64 (.ofNat e.kind) 0):=by cases h;rfl
def Aas(G:AV)(m:Nat):Prop:=m=0∨∃m',m=m'+1/\m'<1000/\∀{H0:Heap} {n0:Nat} {v:V} {LS:D5} {k:KV},(∀H,El G H v 9 LS)->(∀L∈LS,XS G L)->FwS G m' LS->AWi G H0 n0 m' LS.length k->Runs F G Jz [v,.int .i64 (.ofNat m') 0] H0 n0 k
theorem AMQ(hS:ADk G){m:Nat}(hm:Aas G m){H0:Heap}{n0:Nat}{v:V}{LS:D5}(hv:∀H,El G H v 9 LS)(hX:∀L∈LS,XS G L)(hF:FwS G m LS)(hk:AWi G H0 n0 m LS.length k):Runs F G Jz [v,.int .i64 (.ofNat m) 0] H0 n0 k:=by
 have h10:=hF.len
 refine Am (s:=QD (Qz lfp G)) Ux (by obtain⟨h,o⟩:=wY Ap G;rw[Ux]at h;cases h;exact o) ?_
 show Qz lfp G (Runs F G) v (.int .i64 (.ofNat m) 0) H0 n0 k
 delta Qz
 refine J9 (G:=G) (vs:=[]) rfl (by omega) (λv hv=>by cases hv) λHa fa hata hela=>?_
 obtain⟨ta,hta⟩:=hata
 refine AB (hv Ha).len ?_
 refine EP (N:=LS.length) (J:=λj q=>∃H' n' w cs ss,q=(.int .i64 (.ofNat m) 0,w,v,.int .i64 (.ofNat LS.length) 0,.int .i64 (.ofNat j) 0,H',n')/\LJ G H0 n0 m H' n' w cs ss/\ss.length=j) ?_ ?_
  ⟨Ha,n0+1,_,[],[],rfl,⟨fa,.inr ⟨n0,ta,rfl,hta,by omega,by omega,hela⟩,.nil,λ_ h=>by cases h⟩,rfl⟩
 ·rintro I j q hlt ⟨H1,n1,w,cs,ss,rfl,lj,hj⟩ ih
  show Jg lfp G (Runs F G) k I (.int .i64 (.ofNat m) 0) w v (.int .i64 (.ofNat LS.length) 0) (.int .i64 (.ofNat j) 0) H1 n1
  delta Jg
  have ih:∀H' n' w' cs' ss',LJ G H0 n0 m H' n' w' cs' ss'->ss'.length=j+1->I (.int .i64 (.ofNat m) 0,w',v,.int .i64 (.ofNat LS.length) 0,.int .i64 (.ofNat (j+1)) 0,H',n'):=λH' n' w' cs' ss' h1 h2=>ih _ ⟨H',n',w',cs',ss',rfl,h1,h2⟩
  obtain⟨p,hp,hld⟩:=(hv H1).at (List.getElem?_eq_getElem hlt)
  have hxL:=hX _ (List.getElem_mem hlt)
  have hfL:m=0∨∀vt vl ts ls,LS[j][7]? =some vt->LS[j][8]? =some vl->(∀H,El G H vt 9 ts)->(∀H,El G H vl 9 ls)->FwS G (m-1) ts/\FwS G (m-1) ls:=by
   cases m with
   |zero=>exact .inl rfl
   |succ m=>exact .inr (hF.2 _ (List.getElem_mem hlt))
  generalize LS[j]=L at hld hxL hfL
  rw[ES,Au,decide_eq_true hlt,Ah]
  refine AB hp (AB (Jl hld) ?_)
  refine Az rfl λH2 f2 g2=>?_
  refine CG g2 rfl hxL.len (by omega) λH3 g3 s3=>?_
  have f3:Kp H1 n1 H3 (n1+1):=⟨f2.le,λid hid=>(s3 id (by omega)).trans (f2.same id hid)⟩
  have hL0:=hxL
  cases hxL with
  | @mk does l c nm ty ar ve vt vl es ts ls hn ht he hel hek hth htl htk hls hll hlk=>
  unfold bigS at hn ht
  refine AB (AZ ..) (AB (v:=.int .i64 does 0) (AQ g3 rfl) (AB (v:=.agg [.int .i64 does 0,.int .i64 (.ofNat 0) 0,.int .i64 (.ofNat 0) 0,.str 0 0,.str 0 0,.bool false,.Ae,.Ae,.Ae]) rfl ?_))
  refine Az rfl λH4 f4 g4=>?_
  refine CG g4 rfl rfl (by omega) λH5 g5 s5=>?_
  have f5:Kp H3 (n1+1) H5 (n1+1+1):=⟨f4.le,λid hid=>(s5 id (by omega)).trans (f4.same id hid)⟩
  have x:Qt H1 n1 (xsC does l c nm ty ar ve vt vl) H5 (n1+2) [.int .i64 does 0,.int .i64 (.ofNat 0) 0,.int .i64 (.ofNat 0) 0,.str 0 0,.str 0 0,.bool false,.Ae,.Ae,.Ae]:=⟨f3.trans f5,by omega,f5.get g3 (by omega),g5⟩
  have xd:∀d,does=.ofNat d->Qt H1 n1 (xsC does l c nm ty ar ve vt vl) H5 (n1+2) (gI d 0 0 [] JY .Ae .Ae .Ae):=λd hd=>by subst hd;exact x
  refine AB (AZ ..) (AB (v:=.int .i64 does 0) (AQ x.ge rfl) ?_)
  clear f2 g2 f3 g3 s3 f4 g4 f5 g5 s5
  have fin:∀{H:Heap} {n:Nat} {cc:LV} {s:St},Qt H1 n1 (xsC does l c nm ty ar ve vt vl) H n cc->MX G H (λid=>n1+1<id/\id<n) cc s->GS m s->Bc lfp G (Runs F G) k I (.int .i64 (.ofNat m) 0) w (.ptr (n1+1) 0) v (.int .i64 (.ofNat LS.length) 0) (.int .i64 (.ofNat j) 0) H n:=λx hs hg=>AZx lj hj (by omega) x hs hg ih
  have mono:∀{H:Heap} {a b n:Nat} {c:LV} {e:Ex},EO G H (Rg a b) c e->n1+1<a->b<=n->EO G H (λid=>n1+1<id/\id<n) c e:=λh h1 h2=>h.mono (λid h=>⟨by have:=h.1;omega,by have:=h.2;omega⟩) λ_ _=>rfl
  refine eqI (λhd=>?_) (λh1=>?_)
  ·rw[Ah]
   have x:=xd _ hd
   subst hd
   refine AB (AZ ..) (AB (v:=sB nm) (AQ x.ge rfl) (AB (O8 nm) (AB (AZ ..) (AB (v:=.int .i64 (.ofNat 1) 0) (AQ x.ge rfl) (AB (Ef (by omega)) ?_)))))
   refine AAW λH6 u f6 hu6 hl6=>?_
   refine rW (o:=3) (m:=1) (x.kp f6) rfl rfl (by omega) (by show 3+1<=9;omega) λH7 x7 s7=>?_
   refine AB (AZ ..) (AB (v:=.agg [sB ty,.bool ar]) (ML x7.ge (by omega) (by show 4+2<=9;omega)) ?_)
   refine ALn (by omega) λH8 n8 u2 f8 hu8 hl8=>?_
   refine rW (o:=4) (m:=2) (x7.kp f8) rfl rfl (by omega) (by show 4+2<=9;omega) λH9 x9 s9=>?_
   have hn8:=f8.le
   have x9:Qt H1 n1 (xsC (.ofNat 1) l c nm ty ar ve vt vl) H9 n8 (gI 1 0 0 u ⟨u2,ar⟩ .Ae .Ae .Ae):=x9
   refine sg1 x9 hL0 λH10 n10 mm e c x10 f10 hm10 hm11 hg hx hel ht hsame=>?_
   exact fin x10 (MX.of (es1 hel (mono hx (by omega) (by omega)) ⟨by omega,hm11⟩) PX.nil PX.nil) (AZJ (ty:=⟨u2,ar⟩) hu6 hl6 hu8 hl8 hg)
  rw[Aq]
  refine eqI (λhd=>?_) (λh2=>?_)
  ·rw[Ah]
   have x:=xd _ hd
   show Runs F G EM [.int .i64 (.ofNat 0) 0,.ptr n1 0] H5 (n1+2) _
   refine AWC hL0 x.ge (by omega) λH6 n6 c1 e1 f6 hg1 hx1=>?_
   have x6:=x.kp f6
   have hn6:=f6.le
   show Runs F G EM [.int .i64 (.ofNat 1) 0,.ptr n1 0] H6 n6 _
   refine AWC hL0 x6.ge (by omega) λH7 n7 c2 e2 f7 hg2 hx2=>?_
   have hn7:=f7.le
   refine J9 (G:=G) (vs:=[.agg c1,.agg c2]) rfl (by omega) (λv hv=>by simp at hv;rcases hv with rfl|rfl;exact⟨rfl,hx1.len⟩;exact⟨rfl,hx2.len⟩) λH8 f8 hat hel=>?_
   refine rW (o:=6) (m:=1) ((x6.kp f7).kp f8) rfl rfl (by omega) (by show 6+1<=9;omega) λH9 x9 s9=>?_
   have x9:Qt H1 n1 (xsC does l c nm ty ar ve vt vl) H9 (n7+1) (gI 2 0 0 [] JY (.sl n7 0 2 2 11) .Ae .Ae):=x9
   obtain⟨t,ht⟩:=hat
   have ht:T.get H9 n7=some (.arr 11 2 t):=(s9 _ (by omega)).trans ht
   have hel:El G H9 (.sl n7 0 2 2 11) 11 [c1,c2]:=hel.same λid hid=>s9 id (by cases Em hid;omega)
   have hx1:EO G H9 (Rg (n1+2) n6) c1 e1:=hx1.mono (λ_ h=>h) λid h=>(s9 id (by have:=h.1;omega)).trans ((f8.same id (by have:=h.2;omega)).trans (f7.same id h.2))
   have hx2:EO G H9 (Rg n6 n7) c2 e2:=hx2.mono (λ_ h=>h) λid h=>(s9 id (by have:=h.1;omega)).trans (f8.same id h.2)
   refine AB (AZ ..) (AB (v:=.sl n7 0 2 2 11) (AQ x9.go rfl) ?_)
   obtain⟨p1,q1,a1,b1,d1⟩:=ABr hS hel (i:=0) (o:=0) rfl hx1.len (ALo hx1)
   refine AB a1 (AB b1 (AB d1 (neI ?_)))
   have good:(e1.kind=6∨e1.kind=7∨e1.kind=12)->Bc lfp G (Runs F G) k I (.int .i64 (.ofNat m) 0) w (.ptr (n1+1) 0) v (.int .i64 (.ofNat LS.length) 0) (.int .i64 (.ofNat j) 0) H9 (n7+1):=λhk=>
    fin x9 (MX.of ⟨[c1,c2],hel,Wy (Nat.le_refl _),rfl,rfl,λid hid=>by cases Em hid;exact⟨by omega,by omega⟩,.cons (mono hx1 (by omega) (by omega)) (.cons (mono hx2 (by omega) (by omega)) .nil)⟩ PX.nil PX.nil) (AQ1 hk hg1 hg2)
   by_cases k6:e1.kind=6
   ·simp only[go_sem,decide_eq_true k6,Bool.not_true]
    exact good (.inl k6)
   by_cases k7:e1.kind=7
   ·simp only[go_sem,YX,decide_eq_false k6,decide_eq_true k7,Bool.not_true,Bool.not_false]
    exact good (.inr (.inl k7))
   by_cases k12:e1.kind=12
   ·simp only[go_sem,YX,decide_eq_false k6,decide_eq_false k7,decide_eq_true k12,Bool.not_true,Bool.not_false]
    exact good (.inr (.inr k12))
   simp only[go_sem,YX,decide_eq_false k6,decide_eq_false k7,decide_eq_false k12,Bool.not_false,Nat.zero_add]
   refine AB (v:=.sl n7 0 2 2 11) (AQ x9.go rfl) ?_
   refine AAW λH10 u f10 hu hl2=>?_
   have x10:=x9.kp f10
   refine AB (v:=.sl n7 0 2 2 11) (AQ x10.go rfl) (Cc (AFS ..) ?_)
   refine AB (v:=.agg (Ti 6 0 u [] false 0 0 .Ae)) rfl ?_
   refine AB (AOw (i:=0) (by omega)) ?_
   refine AIP (c:=c1) (cs:=[c2]) (by omega) ((f10.same n7 (by omega)).trans ht) (hel.same λid hid=>f10.same id (by cases Em hid;omega)) rfl λH11 AD0 s11=>?_
   have x11:=x10.fr (Nat.le_refl _) λid hid=>s11 id (by omega)
   exact fin x11 (MX.of ⟨[Ti 6 0 u [] false 0 0 .Ae,c2],AD0,Wy (Nat.le_refl _),rfl,rfl,λid hid=>by cases Em hid;exact⟨by omega,by omega⟩,.cons (.mk 6 0 u [] false 0 0 yO dB (λid h=>by cases h) .nil) (.cons (mono (hx2.mono (λ_ h=>h) λid h=>(s11 id (by have:=h.2;omega)).trans (f10.same id (by have:=h.2;omega))) (by omega) (by omega)) .nil)⟩ PX.nil PX.nil) (AQ1 (.inl rfl) (AQm hu hl2) hg2)
  rw[Aq]
  refine eqI (λhd=>?_) (λh6=>?_)
  ·rw[Ah];delta Gi;rw[Ah]
   refine sg1 (xd _ hd) hL0 λH10 n10 mm e c x10 f10 hm10 hm11 hg hx hel ht hsame=>?_
   exact fin x10 (MX.of (es1 hel (mono hx (by omega) (by omega)) ⟨by omega,hm11⟩) PX.nil PX.nil) (AV2 hg)
  rw[Aq]
  refine eqI (λhd=>?_) (λh7=>?_)
  ·delta Gi;rw[Ah]
   refine sg1 (xd _ hd) hL0 λH10 n10 mm e c x10 f10 hm10 hm11 hg hx hel ht hsame=>?_
   exact fin x10 (MX.of (es1 hel (mono hx (by omega) (by omega)) ⟨by omega,hm11⟩) PX.nil PX.nil) (AXY hg)
  delta Gi
  rw[Aq]
  refine eqI (λhd=>?_) (λh4=>?_)
  ·rw[Ah];delta Gj;rw[Ah]
   refine sg1 (xd _ hd) hL0 λH6 n6 mm e c6 x6 f6 hm10 hm11 hg hx hel ht hsame=>?_
   have hes:fO G H6 (λid=>n1+1<id/\id<n6) (.sl mm 0 1 1 11) [e]:=es1 hel (mono hx (by omega) (by omega)) ⟨by omega,hm11⟩
   refine AB (Ls ..) ?_
   rcases hm with rfl|⟨m',rfl,hm',ihm⟩
   ·rw[decide_eq_false (Nat.lt_irrefl _),Aq]
    exact fin x6 (MX.of hes PX.nil PX.nil) (AX2 hg)
   rw[decide_eq_true (Nat.succ_pos m'),Ah]
   obtain⟨ft,fl⟩:=(hfL.resolve_left (by omega)) vt vl ts ls rfl rfl hth hls
   have ft:FwS G m' ts:=ft
   have fl:FwS G m' ls:=fl
   refine AB (AZ ..) (AB (v:=vt) (AQ x6.ge rfl) (AB (vS (by omega) (by omega)) ?_))
   rw[show m'+1-1=m' from rfl]
   refine ihm hth htk ft λH7 n7 w7 ss7 f7 hss7 hln7 hgs7=>?_
   have hn7:=f7.le
   have ow7:=hss7
   obtain⟨_,_,_,ok7,vc7,_,_⟩:=ow7
   refine rW (o:=7) (m:=1) (x6.kp f7) ok7 (by rw[vc7];rfl) (by omega) (by show 7+1<=9;omega) λH8 x8 s8=>?_
   rw[vc7]at x8
   have x8:Qt H1 n1 (xsC does l c nm ty ar ve vt vl) H8 n7 (gI 4 0 0 [] JY (.sl mm 0 1 1 11) w7 .Ae):=x8
   have hss8:PX G H8 (λid=>n1+1<id/\id<n7) w7 ss7:=hss7.mono (λid h=>⟨by have:=h.1;omega,h.2⟩) λid h=>s8 id (by have:=h.1;omega)
   have hes8:fO G H8 (λid=>n1+1<id/\id<n7) (.sl mm 0 1 1 11) [e]:=(hes.mono (λ_ h=>h) λid h=>(s8 id (by have:=h.1;omega)).trans (f7.same id h.2)).mono (λid h=>⟨h.1,by have:=h.2;omega⟩) λ_ _=>rfl
   refine AB (AZ ..) (AB (v:=.int .i64 does 0) (AQ x8.ge rfl) ?_)
   refine eqI (λ_=>?_) (λhd'=>absurd hd hd')
   rw[Ah]
   refine AB (AZ ..) (AB (v:=vl) (AQ x8.ge rfl) (AB (vS (by omega) (by omega)) ?_))
   rw[show m'+1-1=m' from rfl]
   refine ihm hls hlk fl λH9 n9 w9 ss9 f9 hss9 hln9 hgs9=>?_
   have hn9:=f9.le
   have ow9:=hss9
   obtain⟨_,_,_,ok9,vc9,_,_⟩:=ow9
   refine rW (o:=8) (m:=1) (x8.kp f9) ok9 (by rw[vc9];rfl) (by omega) (by show 8+1<=9;omega) λH10 x10 s10=>?_
   rw[vc9]at x10
   have x10:Qt H1 n1 (xsC does l c nm ty ar ve vt vl) H10 n9 (gI 4 0 0 [] JY (.sl mm 0 1 1 11) w7 w9):=x10
   have hss10:PX G H10 (λid=>n1+1<id/\id<n9) w7 ss7:=(hss8.mono (λ_ h=>h) λid h=>(s10 id (by have:=h.1;omega)).trans (f9.same id h.2)).mono (λid h=>⟨h.1,by have:=h.2;omega⟩) λ_ _=>rfl
   have hes10:fO G H10 (λid=>n1+1<id/\id<n9) (.sl mm 0 1 1 11) [e]:=(hes8.mono (λ_ h=>h) λid h=>(s10 id (by have:=h.1;omega)).trans (f9.same id h.2)).mono (λid h=>⟨h.1,by have:=h.2;omega⟩) λ_ _=>rfl
   have hss11:PX G H10 (λid=>n1+1<id/\id<n9) w9 ss9:=hss9.mono (λid h=>⟨by have:=h.1;omega,h.2⟩) λid h=>s10 id (by have:=h.1;omega)
   exact fin x10 (MX.of hes10 hss10 hss11) (AZr hg hgs7 (by rw[hln7];exact ft.len) hgs9 (by rw[hln9];exact fl.len))
  rw[Aq]
  refine eqI (λhd=>?_) (λh5=>?_)
  ·delta Gj;rw[Ah]
   refine sg1 (xd _ hd) hL0 λH6 n6 mm e c6 x6 f6 hm10 hm11 hg hx hel ht hsame=>?_
   have hes:fO G H6 (λid=>n1+1<id/\id<n6) (.sl mm 0 1 1 11) [e]:=es1 hel (mono hx (by omega) (by omega)) ⟨by omega,hm11⟩
   refine AB (Ls ..) ?_
   rcases hm with rfl|⟨m',rfl,hm',ihm⟩
   ·rw[decide_eq_false (Nat.lt_irrefl _),Aq]
    exact fin x6 (MX.of hes PX.nil PX.nil) (AVa hg)
   rw[decide_eq_true (Nat.succ_pos m'),Ah]
   obtain⟨ft,fl⟩:=(hfL.resolve_left (by omega)) vt vl ts ls rfl rfl hth hls
   have ft:FwS G m' ts:=ft
   have fl:FwS G m' ls:=fl
   refine AB (AZ ..) (AB (v:=vt) (AQ x6.ge rfl) (AB (vS (by omega) (by omega)) ?_))
   rw[show m'+1-1=m' from rfl]
   refine ihm hth htk ft λH7 n7 w7 ss7 f7 hss7 hln7 hgs7=>?_
   have hn7:=f7.le
   have ow7:=hss7
   obtain⟨_,_,_,ok7,vc7,_,_⟩:=ow7
   refine rW (o:=7) (m:=1) (x6.kp f7) ok7 (by rw[vc7];rfl) (by omega) (by show 7+1<=9;omega) λH8 x8 s8=>?_
   rw[vc7]at x8
   have x8:Qt H1 n1 (xsC does l c nm ty ar ve vt vl) H8 n7 (gI 5 0 0 [] JY (.sl mm 0 1 1 11) w7 .Ae):=x8
   have hss8:PX G H8 (λid=>n1+1<id/\id<n7) w7 ss7:=hss7.mono (λid h=>⟨by have:=h.1;omega,h.2⟩) λid h=>s8 id (by have:=h.1;omega)
   have hes8:fO G H8 (λid=>n1+1<id/\id<n7) (.sl mm 0 1 1 11) [e]:=(hes.mono (λ_ h=>h) λid h=>(s8 id (by have:=h.1;omega)).trans (f7.same id h.2)).mono (λid h=>⟨h.1,by have:=h.2;omega⟩) λ_ _=>rfl
   refine AB (AZ ..) (AB (v:=.int .i64 does 0) (AQ x8.ge rfl) ?_)
   refine eqI (λhd'=>?_) (λ_=>?_)
   ·rw[hd]at hd';cases hd'
   rw[Aq]
   exact fin x8 (MX.of hes8 hss8 PX.nil) (AYm hg hgs7 (by rw[hln7];exact ft.len))
  delta Gj
  rw[Aq]
  refine rW (o:=0) (m:=1) x rfl rfl (by omega) (by show 0+1<=9;omega) λH6 x6 s6=>?_
  have x6:Qt H1 n1 (xsC does l c nm ty ar ve vt vl) H6 (n1+2) (gI 3 0 0 [] JY .Ae .Ae .Ae):=x6
  refine sg1 x6 hL0 λH10 n10 mm e c1 x10 f10 hm10 hm11 hg hx hel ht hsame=>?_
  refine AB (AZ ..) (AB (v:=.sl mm 0 1 1 11) (AQ x10.go rfl) ?_)
  obtain⟨p1,q1,a1,b1,d1⟩:=ABr hS hel (i:=0) (o:=0) rfl hx.len (ALo hx)
  refine AB a1 (AB b1 (AB d1 (neI ?_)))
  have good:(e.kind=8∨e.kind=9)->Bc lfp G (Runs F G) k I (.int .i64 (.ofNat m) 0) w (.ptr (n1+1) 0) v (.int .i64 (.ofNat LS.length) 0) (.int .i64 (.ofNat j) 0) H10 n10:=λhk=>
   fin x10 (MX.of (es1 hel (mono hx (by omega) (by omega)) ⟨by omega,hm11⟩) PX.nil PX.nil) (AOq hk hg)
  by_cases k8:e.kind=8
  ·simp only[go_sem,decide_eq_true k8,Bool.not_true]
   exact good (.inl k8)
  by_cases k9:e.kind=9
  ·simp only[go_sem,YX,decide_eq_false k8,decide_eq_true k9,Bool.not_true,Bool.not_false]
   exact good (.inr k9)
  simp only[go_sem,YX,decide_eq_false k8,decide_eq_false k9,Bool.not_false,Nat.zero_add]
  obtain⟨t,ht⟩:=ht
  refine AB (v:=.sl mm 0 1 1 11) (AQ x10.go rfl) ?_
  refine ADd λH11 u f11 hu hl2=>?_
  have x11:=x10.kp f11
  refine AB (v:=.sl mm 0 1 1 11) (AQ x11.go rfl) (Cc (AFS ..) ?_)
  refine AP4 λH12 f12=>?_
  have x12:=x11.kp f12
  refine AB (v:=.sl mm 0 1 1 11) (AQ x12.go rfl) (Cc (AFS ..) ?_)
  refine AAW λH13 u2 f13 hu2 hl3=>?_
  have x13:=x12.kp f13
  refine AB (v:=.sl mm 0 1 1 11) (AQ x13.go rfl) (Cc (AFS ..) ?_)
  refine AB (v:=.agg (Ti 9 0 u2 u false 0 0 .Ae)) rfl ?_
  refine AB (AOw (i:=0) (by omega)) ?_
  have f13:=(f11.trans f12).trans f13
  refine AIP (c:=c1) (cs:=[]) (by omega) ((f13.same mm (by omega)).trans ht) (hel.same λid hid=>f13.same id (by cases Em hid;omega)) rfl λH14 hel14 s14=>?_
  have x14:=x13.fr (Nat.le_refl _) λid hid=>s14 id (by omega)
  exact fin x14 (MX.of (es1 hel14 (.mk 9 0 u2 u false 0 0 yO dB (λid h=>by cases h) .nil) ⟨by omega,by omega⟩) PX.nil PX.nil) (AOq (.inr rfl) (AMB hu2 hl3 hu hl2 (λx h=>by cases h) (Nat.zero_le _)))
 ·rintro I q ⟨H1,n1,w,cs,ss,rfl,lj,hj⟩
  show Jg lfp G (Runs F G) k I (.int .i64 (.ofNat m) 0) w v (.int .i64 (.ofNat LS.length) 0) (.int .i64 (.ofNat LS.length) 0) H1 n1
  delta Jg
  rw[ES,Au,decide_eq_false (Nat.lt_irrefl _),Aq]
  delta Rk
  exact hk _ _ _ _ lj.f ⟨cs,lj.ow.el (by omega),lj.ow.ok.1,lj.ow.ok.2.1,lj.ow.ok.2.2,λid hid=>lj.ow.at hid,lj.cs.mono (λid h=>⟨h.1,h.2.1⟩) λ_ _=>rfl⟩ hj lj.gs
theorem ASj(hS:ADk G):∀(m:Nat),m<1000->∀{H0:Heap} {n0:Nat} {v:V} {LS:D5} {k:KV},(∀H,El G H v 9 LS)->(∀L∈LS,XS G L)->FwS G m LS->AWi G H0 n0 m LS.length k->Runs F G Jz [v,.int .i64 (.ofNat m) 0] H0 n0 k:=by
 intro m
 induction m with
 |zero=>exact λ_ {_ _ _ _ _} hv hX hF hk=>AMQ hS (.inl rfl) hv hX hF hk
 |succ m ih=>exact λh {_ _ _ _ _} hv hX hF hk=>AMQ hS (.inr ⟨m,rfl,by omega,ih (by omega)⟩) hv hX hF hk
end
def xvC(nm ty:Bs)(ar:Bool):LV:=[sB nm,sB ty,.bool ar]
inductive XV:LV->Prop where
 |mk {nm ty:Bs} {ar:Bool} (hn:nm.length<=bigS) (ht:ty.length<=bigS):XV (xvC nm ty ar)
theorem XV.len{L:LV}(h:XV L):L.length=3:=by cases h;rfl
structure GV(v:Va):Prop where
 wr:WrV v
 nl:v.nm.length=2
 tl:v.ty.nm.length<=4
theorem AIj{G:AV}{H:Heap}{w:V}{z:Nat}{LS:D5}(h:El G H w z LS)(hk:KS w):w=.Ae∨(∃a b c d e,w=.sl a b c d e)∨∃a b c d,w=.O5 a b c d:=by
 cases w with
 |Ae=>exact .inl rfl
 |sl a b c d e=>exact .inr (.inl ⟨a,b,c,d,e,rfl⟩)
 |O5 a b c d=>exact .inr (.inr ⟨a,b,c,d,rfl⟩)
 |rsl a b c d e=>exact absurd rfl (hk.2.2 _ _ _ _ _)
 |str a b=>cases h.1
 |_=>cases h.2
theorem AXy{G:AV}{H:Heap}{w2 w3:V}{z z':Nat}{A B:D5}(h2:El G H w2 z A)(k2:KS w2)(h3:El G H w3 z' B)(k3:KS w3)(u u2:Bs)(st ar:Bool):
 Bh meZ [(2,1,.c (sB u)),(3,1,.c (.bool st)),(4,1,.c w2),(5,2,.c (.agg [sB u2,.bool ar])),(7,1,.c w3)]=some (.agg (meC 0 0 u st w2 ⟨u2,ar⟩ w3)):=by
 rcases AIj h2 k2 with rfl|⟨a,b,c,d,e,rfl⟩|⟨a,b,c,d,rfl⟩<;>rcases AIj h3 k3 with rfl|⟨a',b',c',d',e',rfl⟩|⟨a',b',c',d',rfl⟩<;>rfl
theorem AXT(l m:Bs)(b:Bool):Bh [.str 0 0,.str 0 0,.bool false] [(0,1,.c (sB l)),(1,2,.c (.agg [sB m,.bool b]))]=some (.agg [sB l,sB m,.bool b]):=rfl
section
variable{G:AV}{k:KV}
def VsK(G:AV)(H0:Heap)(n0 N:Nat)(k:KV):Prop:=∀H' n' w vs,Kp H0 n0 H' n'->ABX G H' (Rg n0 n') w vs->vs.length=N->(∀v∈vs,GV v)->k w H' n'
theorem vars_c{H0:Heap}{n0:Nat}{v:V}{LS:D5}(hv:∀H,El G H v 3 LS)(hX:∀L∈LS,XV L)(h10:LS.length<=10)(hk:VsK G H0 n0 LS.length k):Runs F G Il [v] H0 n0 k:=by
 refine Am (s:=Ho (Oc lfp G)) SG (by obtain⟨h,o⟩:=sQ Ap G;rw[SG]at h;cases h;exact o) ?_
 show Oc lfp G (Runs F G) v H0 n0 k
 delta Oc
 refine J9 (G:=G) (vs:=[]) rfl (by omega) (λv hv=>by cases hv) λHa fa hata hela=>?_
 obtain⟨ta,hta⟩:=hata
 refine AB (hv Ha).len ?_
 refine EP (N:=LS.length) (J:=λj q=>∃H' n' w vs,q=(w,v,.int .i64 (.ofNat LS.length) 0,.int .i64 (.ofNat j) 0,H',n')/\Kp H0 n0 H' n'/\Ow G H' n0 n' 3 w (vs.map vaC)/\vs.length=j/\∀x∈vs,GV x) ?_ ?_
  ⟨Ha,n0+1,_,[],rfl,fa,show Ow G Ha n0 (n0+1) 3 (.sl n0 0 0 0 3) []from .inr ⟨n0,ta,rfl,hta,by omega,by omega,hela⟩,rfl,λ_ h=>by cases h⟩
 ·rintro I j q hlt ⟨H1,n1,w,vs,rfl,f1,ow,hj,hg⟩ ih
  show Ib lfp G (Runs F G) k I w v (.int .i64 (.ofNat LS.length) 0) (.int .i64 (.ofNat j) 0) H1 n1
  delta Ib
  have h01:=f1.le
  obtain⟨p,hp,hld⟩:=(hv H1).at (List.getElem?_eq_getElem hlt)
  have hxL:=hX _ (List.getElem_mem hlt)
  generalize LS[j]=L at hld hxL
  rw[ES,Au,decide_eq_true hlt,Ah]
  refine AB hp (AB (Jl hld) ?_)
  refine Az rfl λH2 f2 g2=>?_
  refine CG g2 rfl hxL.len (by omega) λH3 g3 s3=>?_
  have f3:Kp H1 n1 H3 (n1+1):=⟨f2.le,λid hid=>(s3 id (by omega)).trans (f2.same id hid)⟩
  cases hxL with
  | @mk nm ty ar hn ht=>
  unfold bigS at hn ht
  refine AB (AZ ..) (AB (v:=sB nm) (AQ g3 rfl) (AB (O8 nm) (AB (AZ ..) (AB (v:=.agg [sB ty,.bool ar]) (ML g3 (by omega) (by show 1+2<=3;omega)) ?_))))
  refine AAW λH4 u f4 hu hl2=>?_
  have g4:=f4.get g3 (by omega)
  refine AB (v:=.agg [sB ty,.bool ar]) (ML g4 (by omega) (by show 1+2<=3;omega)) (Cc (AIC ⟨ty,ar⟩) ?_)
  refine ALn (by omega) λH5 n5 u2 f5 hu2 hl4=>?_
  refine AB (AXT u u2 ar) ?_
  have f5:=(f3.trans f4).trans f5
  have hn5:=f5.le
  refine AEL (c:=vaC ⟨u,⟨u2,ar⟩⟩) (ow.kp f5) (by omega) (by omega) rfl rfl (by rw[List.length_map];omega) λw' H6 ow6 s6 hid6=>?_
  refine AB (Ef (by omega)) ?_
  refine ih _ ⟨H6,n5+2,w',vs++[⟨u,⟨u2,ar⟩⟩],rfl,⟨by omega,λid hid=>(s6 id (by omega) λh=>by have:=ow.at h;omega).trans ((f5.same id (by omega)).trans (f1.same id hid))⟩,by rw[List.map_append];exact ow6,by rw[List.length_append,hj];rfl,λy hy=>?_⟩
  rcases List.mem_append.1 hy with hy|hy
  ·exact hg y hy
  ·simp at hy;subst hy;exact⟨⟨hu,hu2⟩,hl2,hl4⟩
 ·rintro I q ⟨H1,n1,w,vs,rfl,f1,ow,hj,hg⟩
  show Ib lfp G (Runs F G) k I w v (.int .i64 (.ofNat LS.length) 0) (.int .i64 (.ofNat LS.length) 0) H1 n1
  delta Ib
  rw[ES,Au,decide_eq_false (Nat.lt_irrefl _),Aq]
  delta Pq
  exact hk _ _ _ _ f1 ⟨ow.el (by omega),ow.ok.1,ow.ok.2.1,ow.ok.2.2,λid hid=>ow.at hid⟩ hj hg
def xmC(l c:Int)(nm:Bs)(st:Bool)(vp:V)(ty:Bs)(ar:Bool)(vb:V):LV:=[.int .i64 l 0,.int .i64 c 0,sB nm,.bool st,vp,sB ty,.bool ar,vb]
inductive XM(G:AV):LV->Prop where
 |mk {l c:Int} {nm:Bs} {st:Bool} {vp:V} {ty:Bs} {ar:Bool} {vb:V} {ps bs:D5} (hn:nm.length<=bigS) (ht:ty.length<=bigS) (hps:∀H,El G H vp 3 ps) (hpl:ps.length<9223372036854775808) (hpk:∀L∈ps,XV L) (kp:BU vp vp=true)
  (hbs:∀H,El G H vb 9 bs) (hbl:bs.length<9223372036854775808) (hbk:∀L∈bs,XS G L) (kb:BU vb vb=true):XM G (xmC l c nm st vp ty ar vb)
theorem XM.len{G:AV}{L:LV}(h:XM G L):L.length=8:=by cases h;rfl
def FwM(G:AV)(L:LV):Prop:=∀vp vb ps bs,L[4]? =some vp->L[7]? =some vb->(∀H,El G H vp 3 ps)->(∀H,El G H vb 9 bs)->ps.length<=8/\FwS G 3 bs
def xcC(l c:Int)(nm sup:Bs)(vf vm:V):LV:=[.int .i64 l 0,.int .i64 c 0,sB nm,sB sup,vf,vm]
inductive XC(G:AV):LV->Prop where
 |mk {l c:Int} {nm sup:Bs} {vf vm:V} {fs ms:D5} (hn:nm.length<=bigS) (hs:sup.length<=4611686018427387000) (hfs:∀H,El G H vf 3 fs) (hfl:fs.length<9223372036854775808) (hfk:∀L∈fs,XV L)
  (hms:∀H,El G H vm 8 ms) (hml:ms.length<9223372036854775808) (hmk:∀L∈ms,XM G L):XC G (xcC l c nm sup vf vm)
def FwC(G:AV)(L:LV):Prop:=∀vf vm fs ms,L[4]? =some vf->L[5]? =some vm->(∀H,El G H vf 3 fs)->(∀H,El G H vm 8 ms)->fs.length<=10/\ms.length<=10/\∀L∈ms,FwM G L
structure GM(m:Me):Prop where
 nm:kK m.nm=true
 nl:m.nm.length=2
 ret:aQ m.ret.nm=true
 rl:m.ret.nm.length<=4
 ps:∀p∈m.ps,GV p
 pn:m.ps.length<=8
 body:∀s∈m.body,GS 3 s
 bn:m.body.length<=10
structure GC(c:Cl):Prop where
 nm:WO c.nm=true
 nl:c.nm.length=2
 sup:c.sup=[]∨WO c.sup=true
 sl:c.sup.length<=2
 fs:∀f∈c.fs,GV f
 fn:c.fs.length<=10
 ms:∀m∈c.ms,GM m
 mn:c.ms.length<=10
def AYK(G:AV)(H0:Heap)(n0:Nat)(k:KV):Prop:=∀H' n' c x,Kp H0 n0 H' n'->GC x->XF G H' (Rg n0 n') c x->k (.agg c) H' n'
theorem AUf(hS:ADk G){H0 H:Heap}{n0 n ob:Nat}{l c:Int}{nm0 sup0 nm sup:Bs}{vf vm:V}{fs ms:D5}(f:Kp H0 n0 H n)(hob:n0+1<ob)(hlt:ob<n)(ge:T.get H n0=some (one (xcC l c nm0 sup0 vf vm)))(gr:T.get H (n0+1)=some (one clZ))(go:T.get H (ob)=some (one (clC 0 0 nm sup .Ae .Ae)))
 (hn:WO nm=true) (hn2:nm.length=2) (hs:sup=[]∨WO sup=true) (hs2:sup.length<=2) (hfs:∀H,El G H vf 3 fs) (hfk:∀L∈fs,XV L) (hms:∀H,El G H vm 8 ms) (hmk:∀L∈ms,XM G L) (hf10:fs.length<=10) (hm10:ms.length<=10) (hfm:∀L∈ms,FwM G L) (hk:AYK G H0 n0 k):
 Gl lfp G (Runs F G) k (.ptr n0 0) (.ptr (n0+1) 0) (.ptr (ob) 0) H n:=by
 show Gl lfp G (Runs F G) k (.ptr n0 0) (.ptr (n0+1) 0) (.ptr (ob) 0) H n
 delta Gl
 have h0:=f.le
 refine AB (AZ ..) (AB (v:=vf) (AQ ge rfl) ?_)
 show Runs F G Il [vf] H n _
 refine vars_c hfs hfk hf10 λH1 n1 w1 vs1 f1 hv1 hl1 hg1=>?_
 have hn1:=f1.le
 have ge:=f1.get ge (by omega)
 have gr:=f1.get gr (by omega)
 have go:=f1.get go (by omega)
 have f:=f.trans f1
 refine AB (AZ ..) ?_
 refine Ej (o:=0+4) (m:=1) go hv1.2.2.1 (by rw[hv1.2.2.2.1];rfl) (by omega) (by show 4+1<=6;omega) λH2 go s2=>?_
 rw[hv1.2.2.2.1]at go
 have go:T.get H2 (ob)=some (one (clC 0 0 nm sup w1 .Ae)):=go
 have ge:=(s2 n0 (by omega)).trans ge
 have gr:=(s2 (n0+1) (by omega)).trans gr
 have f:Kp H0 n0 H2 n1:=⟨f.le,λid hid=>(s2 id (by omega)).trans (f.same id hid)⟩
 have hv2:ABX G H2 (Rg n n1) w1 vs1:=hv1.mono (λ_ h=>h) λid h=>s2 id (by have:=h.1;omega)
 refine AB (AZ ..) (AB (v:=vm) (AQ ge rfl) (AB (hms H2).len ?_))
 refine EP (N:=ms.length) (J:=λj q=>∃H' n' w cs xs,q=(.ptr (n0+1) 0,.ptr (ob) 0,.fn Il [] [],vm,.int .i64 (.ofNat ms.length) 0,.int .i64 (.ofNat j) 0,H',n')/\Kp H0 n0 H' n'/\n1<=n'/\T.get H' (n0+1)=some (one clZ)/\T.get H' (ob)=some (one (clC 0 0 nm sup w1 w))/\ABX G H' (Rg n n1) w1 vs1/\
  Ow G H' n1 n' 8 w cs/\ZW G H' (λid=>n1<=id/\id<n'/\w.Qa≠some id) cs xs/\xs.length=j/\∀x∈xs,GM x) ?_ ?_ ⟨H2,n1,.Ae,[],[],rfl,f,Nat.le_refl _,gr,go,hv2,.inl Xp,.nil,rfl,λ_ h=>by cases h⟩
 ·rintro I j q hlt2 ⟨H3,n3,w,cs,xs,rfl,f3,hn3,gr,go,hvs,ow,hcs,hj,hgm⟩ ih
  show JC lfp G (Runs F G) k I (.ptr (n0+1) 0) (.ptr (ob) 0) (.fn Il [] []) vm (.int .i64 (.ofNat ms.length) 0) (.int .i64 (.ofNat j) 0) H3 n3
  delta JC
  obtain⟨p,hp,hld⟩:=(hms H3).at (List.getElem?_eq_getElem hlt2)
  have hxL:=hmk _ (List.getElem_mem hlt2)
  have hfL:=hfm _ (List.getElem_mem hlt2)
  generalize ms[j]=L at hld hxL hfL
  rw[ES,Au,decide_eq_true hlt2,Ah]
  refine AB hp (AB (Jl hld) ?_)
  refine Az rfl λH4 f4 g4=>?_
  refine CG g4 rfl hxL.len (by omega) λH5 g5 s5=>?_
  have f5:Kp H3 n3 H5 (n3+1):=⟨f4.le,λid hid=>(s5 id (by omega)).trans (f4.same id hid)⟩
  have go5:=f5.get go (by omega)
  cases hxL with
  | @mk ml mc mnm mst vp mty mar vb ps bs hmn hmt hps hpl hpk kp hbs hbl hbk kb=>
  unfold bigS at hmn hmt
  obtain⟨hp8,hb3⟩:=hfL vp vb ps bs rfl rfl hps hbs
  have vw:BU w w=true:=ow.vs (by omega)
  refine AB (AZ ..) (AB (v:=w) (AQ go5 rfl) ?_)
  refine AB (AZ ..) (AB (v:=sB mnm) (AQ g5 rfl) (AB (O8 mnm) ?_))
  refine AB (AZ ..) (AB (v:=.bool mst) (AQ g5 rfl) ?_)
  refine AB (AZ ..) (AB (v:=vp) (AQ g5 rfl) ?_)
  refine AB (AZ ..) (AB (v:=.agg [sB mty,.bool mar]) (ML g5 (by omega) (by show 5+2<=8;omega)) ?_)
  refine AB (AZ ..) (AB (v:=vb) (AQ g5 rfl) ?_)
  refine AAW λH6 u f6 hu hl2=>?_
  have go6:=f6.get go5 (by omega)
  have g6:=f6.get g5 (by omega)
  refine AB (v:=w) (AQ go6 rfl) (Cc vw ?_)
  refine AB (v:=.bool mst) (AQ g6 rfl) (Cc (lF mst) ?_)
  refine AB (v:=vp) (AQ g6 rfl) (Cc kp ?_)
  refine AB (v:=.agg [sB mty,.bool mar]) (ML g6 (by omega) (by show 5+2<=8;omega)) (Cc (AIC ⟨mty,mar⟩) ?_)
  refine AB (v:=vb) (AQ g6 rfl) (Cc kb ?_)
  show Runs F G Il [vp] H6 (n3+1+1) _
  refine vars_c hps hpk (by omega) λH7 n7 w7 vs7 f7 hv7 hl7 hg7=>?_
  have hn7:=f7.le
  have go7:=f7.get go6 (by omega)
  have g7:=f7.get g6 (by omega)
  refine AB (v:=w) (AQ go7 rfl) (Cc vw ?_)
  refine AB (v:=.bool mst) (AQ g7 rfl) (Cc (lF mst) ?_)
  refine AB (v:=.agg [sB mty,.bool mar]) (ML g7 (by omega) (by show 5+2<=8;omega)) (Cc (AIC ⟨mty,mar⟩) ?_)
  refine AB (v:=vb) (AQ g7 rfl) (Cc kb ?_)
  refine ALn (by omega) λH8 n8 u2 f8 hu2 hl4=>?_
  have hn8:=f8.le
  have go8:=f8.get go7 (by omega)
  have g8:=f8.get g7 (by omega)
  refine AB (v:=w) (AQ go8 rfl) (Cc vw ?_)
  refine AB (v:=.bool mst) (AQ g8 rfl) (Cc (lF mst) ?_)
  refine AB (v:=vb) (AQ g8 rfl) (Cc kb ?_)
  refine ASj hS 3 (by omega) hbs hbk hb3 λH9 n9 w9 ss9 f9 hs9 hl9 hg9=>?_
  have hn9:=f9.le
  have go9:=f9.get go8 (by omega)
  have g9:=f9.get g8 (by omega)
  refine AB (v:=w) (AQ go9 rfl) (Cc vw ?_)
  refine AB (v:=.bool mst) (AQ g9 rfl) (Cc (lF mst) ?_)
  have fa:Kp H3 n3 H9 n9:=(((f5.trans f6).trans f7).trans f8).trans f9
  have hv9:ABX G H9 (λid=>n3<id/\id<n9) w7 vs7:=(hv7.mono (λ_ h=>h) λid h=>(f8.trans f9).same id h.2).mono (λid h=>⟨by have:=h.1;omega,by have:=h.2;omega⟩) λ_ _=>rfl
  have hs9':PX G H9 (λid=>n3<id/\id<n9) w9 ss9:=hs9.mono (λid h=>⟨by have:=h.1;omega,h.2⟩) λ_ _=>rfl
  obtain⟨cs9,hel9,hk9,_⟩:=id hs9'
  refine AB (AXy hv9.1 hv9.2.1 hel9 hk9 u u2 mst mar) ?_
  have hcl:cs.length=xs.length:=hcs.len
  refine AEL (c:=meC 0 0 u mst w7 ⟨u2,mar⟩ w9) (ow.kp fa) (by omega) (by omega) rfl rfl (by omega) λw' H10 ow10 s10 hid10=>?_
  have f10:∀id,id<n1->T.get H10 id=T.get H3 id:=λid hid=>(s10 id (by omega) λh=>by have:=ow.at h;omega).trans (fa.same id (by omega))
  refine AB (AZ ..) ?_
  refine Ej (o:=0+5) (m:=1) ((f10 (ob) (by omega)).trans go) ow10.ok.2.1 (by rw[ow10.ok.2.2];rfl) (by omega) (by show 5+1<=6;omega) λH11 go11 s11=>?_
  rw[ow10.ok.2.2]at go11
  have go11:T.get H11 (ob)=some (one (clC 0 0 nm sup w1 w')):=go11
  refine AB (Ef (by omega)) ?_
  have hme:aY G H9 (λid=>n3<id/\id<n9) (meC 0 0 u mst w7 ⟨u2,mar⟩ w9) ⟨u,mst,vs7,⟨u2,mar⟩,ss9⟩:=.mk 0 0 hv9 hs9'
  refine ih _ ⟨H11,n9+2,w',cs++[meC 0 0 u mst w7 ⟨u2,mar⟩ w9],xs++[⟨u,mst,vs7,⟨u2,mar⟩,ss9⟩],rfl,⟨by omega,λid hid=>(s11 id (by omega)).trans ((f10 id (by omega)).trans (f3.same id hid))⟩,by omega,(s11 _ (by omega)).trans ((f10 _ (by omega)).trans gr),go11,
   hvs.mono (λ_ h=>h) λid h=>(s11 id (by have:=h.1;omega)).trans (f10 id h.2),ow10.frame (Nat.le_refl _) λid hid=>s11 id (by have:=hid10 id hid;omega),?_,by rw[List.length_append,hj];rfl,λy hy=>?_⟩
  ·refine ZW.app (hcs.mono (λid h=>⟨h.1,by have:=h.2.1;omega,λh'=>by have:=hid10 id h';have:=h.2.1;omega⟩) λid h=>?_) (.cons (hme.mono (λid h=>⟨by have:=h.1;omega,by have:=h.2;omega,λh'=>by have:=hid10 id h';have:=h.2;omega⟩) λid h=>?_) .nil)
   ·exact(s11 id (by have:=h.1;omega)).trans ((s10 id (by have:=h.2.1;omega) h.2.2).trans (fa.same id h.2.1))
   ·exact(s11 id (by have:=h.1;omega)).trans (s10 id h.2 λh'=>by have:=ow.at h';have:=h.1;omega)
  ·rcases List.mem_append.1 hy with hy|hy
   ·exact hgm y hy
   ·simp at hy;subst hy
    exact⟨hu,hl2,hu2,hl4,hg7,by show vs7.length<=8;omega,hg9,by show ss9.length<=10;rw[hl9];exact hb3.len⟩
 ·rintro I q ⟨H3,n3,w,cs,xs,rfl,f3,hn3,gr,go,hvs,ow,hcs,hj,hgm⟩
  show JC lfp G (Runs F G) k I (.ptr (n0+1) 0) (.ptr (ob) 0) (.fn Il [] []) vm (.int .i64 (.ofNat ms.length) 0) (.int .i64 (.ofNat ms.length) 0) H3 n3
  delta JC
  rw[ES,Au,decide_eq_false (Nat.lt_irrefl _),Aq]
  show Ld lfp G (Runs F G) k (.ptr (n0+1) 0) (.ptr (ob) 0) H3 n3
  delta Ld
  refine AB (Ai (m:=6) go (by omega) rfl) ?_
  refine CG gr rfl rfl (by omega) λH4 g4 s4=>?_
  rw[DX (m:=6) g4 (by omega) rfl]
  simp only[go_sem]
  refine hk _ _ _ ⟨nm,sup,vs1,xs⟩ ⟨f3.le,λid hid=>(s4 id (by omega)).trans (f3.same id hid)⟩ ⟨hn,hn2,hs,hs2,hg1,by show vs1.length<=10;omega,hgm,by show xs.length<=10;omega⟩
   (.mk 0 0 (hvs.mono (λid h=>⟨by have:=h.1;omega,by have:=h.2;omega⟩) λid h=>s4 id (by have:=h.1;omega)) ⟨cs,(ow.el (by omega)).same λid hid=>s4 id (by have:=ow.at hid;omega),ow.ok.1,ow.ok.2.1,ow.ok.2.2,λid hid=>by have:=ow.at hid;exact⟨by omega,by omega⟩,hcs.mono (λid h=>⟨by have:=h.1;omega,h.2.1⟩) λid h=>s4 id (by have:=h.1;omega)⟩)
theorem AKH(hS:ADk G){H:Heap}{n:Nat}{L:LV}(hL:XC G L)(hF:FwC G L)(hk:AYK G H n k):Runs F G dJ [.agg L] H n k:=by
 cases hL with
 | @mk l c nm sup vf vm fs ms hn hs hfs hfl hfk hms hml hmk=>
 unfold bigS at hn
 obtain⟨hf10,hm10,hfm⟩:=hF vf vm fs ms rfl rfl hfs hms
 refine Am (s:=Ho (Qw lfp G)) U1 (by obtain⟨h,o⟩:=wL Ap G;rw[U1]at h;cases h;exact o) ?_
 show Qw lfp G (Runs F G) (.agg (xcC l c nm sup vf vm)) H n k
 delta Qw
 refine Dk λH1 f1 g1=>?_
 refine Az rfl λH2 f2 g2=>?_
 have g1:=f2.get g1 (by omega)
 have f2:=f1.trans f2
 refine AB (AZ ..) (AB (v:=sB nm) (AQ g1 rfl) (AB (O8 nm) ?_))
 refine ADd λH3 u f3 hu hl2=>?_
 have g1:=f3.get g1 (by omega)
 have g2:=f3.get g2 (by omega)
 refine AB (v:=.agg (clC 0 0 u [] .Ae .Ae)) rfl ?_
 refine Az rfl λH4 f4 g4=>?_
 refine CG g4 rfl rfl (by omega) λH5 g5 s5=>?_
 have f5:Kp H3 (n+1+1+1) H5 (n+1+1+1+1):=⟨f4.le,λid hid=>(s5 id (by omega)).trans (f4.same id hid)⟩
 have g1:=f5.get g1 (by omega)
 have g2:=f5.get g2 (by omega)
 have f5:=(f2.trans f3).trans f5
 refine AB (AZ ..) (AB (v:=sB sup) (AQ g1 rfl) ?_)
 by_cases hz:sup=[]
 ·have e:EZ (.one .str) true (sB sup) (.str 0 0)=some (.bool false):=(ARr sup []).trans (by rw[decide_eq_true hz];rfl)
  rw[e,Au,Aq]
  exact AUf hS f5 (ob:=n+1+1+1) (by omega) (by omega) g1 g2 g5 hu hl2 (.inl rfl) (Nat.zero_le _) hfs hfk hms hmk hf10 hm10 hfm hk
 ·have e:EZ (.one .str) true (sB sup) (.str 0 0)=some (.bool true):=(ARr sup []).trans (by rw[decide_eq_false hz];rfl)
  rw[e,Au,Ah]
  refine AB (AZ ..) (AB (v:=sB sup) (AQ g1 rfl) (AB (O8 sup) (AB (Ef (by omega)) ?_)))
  refine ADd λH6 u2 f6 hu2 hl3=>?_
  have g1:=f6.get g1 (by omega)
  have g2:=f6.get g2 (by omega)
  have g5:=f6.get g5 (by omega)
  have f6:=f5.trans f6
  refine AB (AZ ..) ?_
  refine Ej (o:=0+3) (m:=1) g5 rfl rfl (by omega) (by show 3+1<=6;omega) λH7 g7 s7=>?_
  have g7:T.get H7 (n+1+1+1)=some (one (clC 0 0 u u2 .Ae .Ae)):=g7
  exact AUf hS (ob:=n+1+1+1) ⟨f6.le,λid hid=>(s7 id (by omega)).trans (f6.same id hid)⟩ (by omega) (by omega) ((s7 _ (by omega)).trans g1) ((s7 _ (by omega)).trans g2) g7 hu hl2 (.inr hu2) (by omega) hfs hfk hms hmk hf10 hm10 hfm hk
end
theorem su{G:AV}{H:Heap}{v:V}{z:Nat}{A B:D5}(h:El G H v z A)(h':El G H v z B):A=B:=Option.some.inj (h.2.symm.trans h'.2)
section
variable{G:AV}
def BK(H:Heap)(n:Nat)(k:KV):Prop:=∀H' n' b,Kp H n H' n'->k (.bool b) H' n'
theorem AZL{L:LV}(hL:XE G L):∀{H:Heap} {n d:Nat} {k:KV},BK H n k->Runs F G Ye [.agg L,.int .i64 (.ofNat d) 0] H n k:=by
 induction hL with
 | @mk kd l c nu nm ty ar v t2 a2 n3 LS hn ht hel hl hkids ihk=>
 intro H n d k hk
 refine Am (s:=QD (Uj lfp G)) XP (by obtain⟨h,o⟩:=ABU Ap G;rw[XP]at h;cases h;exact o) ?_
 show Uj lfp G (Runs F G) (.agg (xeC kd l c nu nm ty ar v t2 a2 n3)) (.int .i64 (.ofNat d) 0) H n k
 delta Uj
 refine Dk λH1 f1 g1=>?_
 have q7:AX (.ptr n 7) G H1=some v:=AQ g1 rfl
 have q4:AX (.ptr n 4) G H1=some (sB nm):=AQ g1 rfl
 have q5:AX (.ptr n 5) G H1=some (sB ty):=AQ g1 rfl
 refine AB (Ls ..) ?_
 cases h1:decide (10<d)with
 |true=>
  repeat (first|with_reducible refine yu ?_|with_reducible refine AAH ?_)
  rw[Ah];exact hk _ _ _ f1
 |false=>
 simp only[go_sem,Nat.reduceAdd,q7,(hel H1).len,Ls]
 cases h2:decide (5<LS.length)with
 |true=>
  repeat (first|with_reducible refine yu ?_|with_reducible refine AAH ?_)
  rw[Ah];exact hk _ _ _ f1
 |false=>
 simp only[go_sem,Nat.reduceAdd,q4,O8,Ls]
 cases h3:decide (40<nm.length)with
 |true=>
  repeat (first|with_reducible refine yu ?_|with_reducible refine AAH ?_)
  rw[Ah];exact hk _ _ _ f1
 |false=>
 simp only[go_sem,Nat.reduceAdd,q5,O8,Ls]
 cases h4:decide (40<ty.length)with
 |true=>
  rw[Ah];exact hk _ _ _ f1
 |false=>
 have h1:=of_decide_eq_false h1
 simp only[go_sem,Nat.reduceAdd,q7,(hel H1).len]
 refine EP (N:=LS.length) (J:=λj q=>∃H' n',q=(.int .i64 (.ofNat d) 0,v,.int .i64 (.ofNat LS.length) 0,.int .i64 (.ofNat j) 0,H',n')/\Kp H n H' n') ?_ ?_ ⟨H1,n+1,rfl,f1⟩
 ·rintro I j q hlt ⟨H2,n2,rfl,f2⟩ ih
  show KO lfp G (Runs F G) k I (.int .i64 (.ofNat d) 0) v (.int .i64 (.ofNat LS.length) 0) (.int .i64 (.ofNat j) 0) H2 n2
  delta KO
  obtain⟨p,hp,hld⟩:=(hel H2).at (List.getElem?_eq_getElem hlt)
  have hx:=hkids _ (List.getElem_mem hlt)
  have hi:= @ihk _ (List.getElem_mem hlt)
  generalize LS[j]=M at hld hx hi
  rw[ES,Au,decide_eq_true hlt,Ah]
  refine AB hp (AB (Jl hld) ?_)
  refine Az rfl λH3 f3 g3=>?_
  refine CG g3 rfl hx.len (by omega) λH4 g4 s4=>?_
  have f4:Kp H2 n2 H4 (n2+1):=⟨f3.le,λid hid=>(s4 id (by omega)).trans (f3.same id hid)⟩
  refine AB (Ai (m:=11) g4 (by omega) hx.len) (AB (Ef (by omega)) ?_)
  refine hi λH5 n5 b f5=>?_
  have f5:=(f2.trans f4).trans f5
  rw[MF,Au]
  cases b with
  |false=>rw[Bool.not_false,Ah];exact hk _ _ _ f5
  |true=>
   rw[Bool.not_true,Aq]
   exact AB (Ef (by omega)) (ih _ ⟨H5,n5,rfl,f5⟩)
 ·rintro I q ⟨H2,n2,rfl,f2⟩
  show KO lfp G (Runs F G) k I (.int .i64 (.ofNat d) 0) v (.int .i64 (.ofNat LS.length) 0) (.int .i64 (.ofNat LS.length) 0) H2 n2
  delta KO
  rw[ES,Au,decide_eq_false (Nat.lt_irrefl _),Aq]
  delta UD
  exact hk _ _ _ f2
def FK(G:AV)(LS:D5)(H:Heap)(n:Nat)(k:KV):Prop:=∀H' n' b,Kp H n H' n'->(b=true->∀m,FwS G m LS)->k (.bool b) H' n'
def FC(G:AV)(v:V)(LS:D5):Prop:=∀{H:Heap} {n d:Nat} {k:KV},FK G LS H n k->Runs F G MN [v,.int .i64 (.ofNat d) 0] H n k
def FwL(G:AV)(L:LV):Prop:=∀m vt vl ts ls,L[7]? =some vt->L[8]? =some vl->(∀H,El G H vt 9 ts)->(∀H,El G H vl 9 ls)->FwS G m ts/\FwS G m ls
def AUU(G:AV)(L:LV):Prop:=∀vt vl ts ls,L[7]? =some vt->L[8]? =some vl->(∀H,El G H vt 9 ts)->(∀H,El G H vl 9 ls)->FC G vt ts/\FC G vl ls
theorem AWV{LS:D5}(h10:LS.length<=10)(h:∀L∈LS,FwL G L):∀m,FwS G m LS
 |0=>h10
 |m+1=>⟨h10,λL hL vt vl ts ls h1 h2 h3 h4=>h L hL m vt vl ts ls h1 h2 h3 h4⟩
theorem ABe{v:V}{LS:D5}(hv:∀H,El G H v 9 LS)(hX:∀L∈LS,XS G L)(hN:∀L∈LS,AUU G L):FC G v LS:=by
 intro H n d k hk
 refine Am (s:=QD (NW lfp G)) QZ (by obtain⟨h,o⟩:=nY Ap G;rw[QZ]at h;cases h;exact o) ?_
 show NW lfp G (Runs F G) v (.int .i64 (.ofNat d) 0) H n k
 delta NW
 have bad:∀{H' n'},Kp H n H' n'->k (.bool false) H' n':=λf=>hk _ _ _ f λh=>by cases h
 refine AB (Ls ..) ?_
 cases h1:decide (5<d)with
 |true=>
  repeat (first|with_reducible refine yu ?_|with_reducible refine AAH ?_)
  rw[Ah];exact bad (Kp.refl ..)
 |false=>
 simp only[go_sem,(hv H).len,Ls]
 cases h2:decide (10<LS.length)with
 |true=>rw[Ah];exact bad (Kp.refl ..)
 |false=>
 have h1:=of_decide_eq_false h1
 have h2:=of_decide_eq_false h2
 simp only[go_sem,(hv H).len]
 refine EP (N:=LS.length) (J:=λj q=>∃H' n',q=(.int .i64 (.ofNat d) 0,v,.int .i64 (.ofNat LS.length) 0,.int .i64 (.ofNat j) 0,H',n')/\Kp H n H' n'/\∀L∈LS.take j,FwL G L) ?_ ?_ ⟨H,n,rfl,Kp.refl ..,λL h=>by cases h⟩
 ·rintro I j q hlt ⟨H2,n2,rfl,f2,hw⟩ ih
  show Hu lfp G (Runs F G) k I (.int .i64 (.ofNat d) 0) v (.int .i64 (.ofNat LS.length) 0) (.int .i64 (.ofNat j) 0) H2 n2
  delta Hu
  obtain⟨p,hp,hld⟩:=(hv H2).at (List.getElem?_eq_getElem hlt)
  have hx:=hX _ (List.getElem_mem hlt)
  have hn:=hN _ (List.getElem_mem hlt)
  have ih:∀H' n',Kp H n H' n'->FwL G LS[j]->I (.int .i64 (.ofNat d) 0,v,.int .i64 (.ofNat LS.length) 0,.int .i64 (.ofNat (j+1)) 0,H',n'):=λH' n' f h=>ih _ ⟨H',n',rfl,f,λL hL=>by
   rw[List.take_succ_eq_append_getElem hlt]at hL
   rcases List.mem_append.1 hL with hL|hL
   ·exact hw L hL
   ·simp at hL;subst hL;exact h⟩
  generalize LS[j]=M at hld hx hn ih
  rw[ES,Au,decide_eq_true hlt,Ah]
  refine AB hp (AB (Jl hld) ?_)
  refine Az rfl λH3 f3 g3=>?_
  refine CG g3 rfl hx.len (by omega) λH4 g4 s4=>?_
  have f4:Kp H2 n2 H4 (n2+1):=⟨f3.le,λid hid=>(s4 id (by omega)).trans (f3.same id hid)⟩
  cases hx with
  | @mk does l c nm ty ar ve vt vl es ts ls hn2 ht2 he hel hek hth htl htk hls hll hlk=>
  obtain⟨ct,cl⟩:=hn vt vl ts ls rfl rfl hth hls
  have f4:=f2.trans f4
  have q6:AX (.ptr n2 6) G H4=some ve:=AQ g4 rfl
  have q3:AX (.ptr n2 3) G H4=some (sB nm):=AQ g4 rfl
  have q4:AX (.ptr n2 4) G H4=some (sB ty):=AQ g4 rfl
  have q7:AX (.ptr n2 7) G H4=some vt:=AQ g4 rfl
  simp only[go_sem,Nat.reduceAdd,q6,(he H4).len,Ls]
  cases h3:decide (3<es.length)with
  |true=>
   repeat (first|with_reducible refine yu ?_|with_reducible refine AAe ?_|with_reducible refine AAH ?_)
   rw[Ah];exact bad f4
  |false=>
  simp only[go_sem,Nat.reduceAdd,q3,O8,Ls]
  cases h4:decide (40<nm.length)with
  |true=>
   repeat (first|with_reducible refine yu ?_|with_reducible refine AAe ?_|with_reducible refine AAH ?_)
   rw[Ah];exact bad f4
  |false=>
  simp only[go_sem,Nat.reduceAdd,q4,O8,Ls]
  cases h5:decide (40<ty.length)with
  |true=>
   repeat (first|with_reducible refine yu ?_|with_reducible refine AAe ?_|with_reducible refine AAH ?_)
   rw[Ah];exact bad f4
  |false=>
  simp only[go_sem,Nat.reduceAdd,q7,Ef (show d+1<9223372036854775808 by omega)]
  refine ct λH5 n5 b5 f5 hb5=>?_
  have g5:=f5.get g4 (by omega)
  have q8:AX (.ptr n2 8) G H5=some vl:=AQ g5 rfl
  have hn5:=f5.le
  have f5:=f4.trans f5
  rw[MF,Au]
  cases b5 with
  |false=>
   rw[Bool.not_false]
   repeat (first|with_reducible refine yu ?_|with_reducible refine AAe ?_|with_reducible refine AAH ?_)
   try rw[Ah]
   exact bad f5
  |true=>
  rw[Bool.not_true]
  simp only[go_sem,Nat.reduceAdd,q8,Ef (show d+1<9223372036854775808 by omega)]
  refine cl λH6 n6 b6 f6 hb6=>?_
  have g6:=f6.get g5 (by omega)
  have q6:AX (.ptr n2 6) G H6=some ve:=AQ g6 rfl
  have hn6:=f6.le
  have f6:=f5.trans f6
  rw[MF,Au]
  cases b6 with
  |false=>rw[Bool.not_false,Ah];exact bad f6
  |true=>
  rw[Bool.not_true,Aq]
  simp only[go_sem,Nat.reduceAdd,Nat.zero_add,q6,(he H6).len]
  have hFw:FwL G (xsC does l c nm ty ar ve vt vl):=λm vt' vl' ts' ls' e1 e2 e3 e4=>by
   cases e1;cases e2
   rw[su (e3 H) (hth H),su (e4 H) (hls H)]
   exact⟨hb5 rfl m,hb6 rfl m⟩
  refine EP (N:=es.length) (J:=λi q=>∃H' n',q=(.int .i64 (.ofNat d) 0,v,.int .i64 (.ofNat LS.length) 0,.int .i64 (.ofNat j) 0,ve,.int .i64 (.ofNat es.length) 0,.int .i64 (.ofNat i) 0,H',n')/\Kp H n H' n') ?_ ?_ ⟨H6,n6,rfl,f6⟩
  ·rintro I2 i q hlt2 ⟨H7,n7,rfl,f7⟩ ih2
   show Gs lfp G (Runs F G) k I I2 (.int .i64 (.ofNat d) 0) v (.int .i64 (.ofNat LS.length) 0) (.int .i64 (.ofNat j) 0) ve (.int .i64 (.ofNat es.length) 0) (.int .i64 (.ofNat i) 0) H7 n7
   delta Gs
   obtain⟨p,hp,hld⟩:=(he H7).at (List.getElem?_eq_getElem hlt2)
   have hx:=hek _ (List.getElem_mem hlt2)
   generalize es[i]=M at hld hx
   rw[ES,Au,decide_eq_true hlt2,Ah]
   refine AB hp (AB (Jl hld) ?_)
   refine Az rfl λH8 f8 g8=>?_
   refine CG g8 rfl hx.len (by omega) λH9 g9 s9=>?_
   have f9:Kp H7 n7 H9 (n7+1):=⟨f8.le,λid hid=>(s9 id (by omega)).trans (f8.same id hid)⟩
   refine AB (Ai (m:=11) g9 (by omega) hx.len) ?_
   refine AZL (d:=0) hx λH10 n10 b f10=>?_
   have f10:=(f7.trans f9).trans f10
   rw[MF,Au]
   cases b with
   |false=>rw[Bool.not_false,Ah];exact bad f10
   |true=>
    rw[Bool.not_true,Aq]
    exact AB (Ef (by omega)) (ih2 _ ⟨H10,n10,rfl,f10⟩)
  ·rintro I2 q ⟨H7,n7,rfl,f7⟩
   show Gs lfp G (Runs F G) k I I2 (.int .i64 (.ofNat d) 0) v (.int .i64 (.ofNat LS.length) 0) (.int .i64 (.ofNat j) 0) ve (.int .i64 (.ofNat es.length) 0) (.int .i64 (.ofNat es.length) 0) H7 n7
   delta Gs
   rw[ES,Au,decide_eq_false (Nat.lt_irrefl _),Aq]
   delta Nr
   exact AB (Ef (by omega)) (ih _ _ f7 hFw)
 ·rintro I q ⟨H2,n2,rfl,f2,hw⟩
  show Hu lfp G (Runs F G) k I (.int .i64 (.ofNat d) 0) v (.int .i64 (.ofNat LS.length) 0) (.int .i64 (.ofNat LS.length) 0) H2 n2
  delta Hu
  rw[ES,Au,decide_eq_false (Nat.lt_irrefl _),Aq]
  delta Ou
  rw[List.take_length]at hw
  exact hk _ _ _ f2 λ_=>AWV (by omega) hw
theorem AXN{L:LV}(hL:XS G L):AUU G L:=by
 induction hL with
 | @mk does l c nm ty ar ve vt vl es ts ls hn2 ht2 he hel hek hth htl htk hls hll hlk iht ihl=>
  intro vt' vl' ts' ls' e1 e2 e3 e4
  cases e1;cases e2
  rw[su (e3 .e) (hth .e),su (e4 .e) (hls .e)]
  exact⟨ABe hth htk iht,ABe hls hlk ihl⟩
theorem AKM{v:V}{LS:D5}(hv:∀H,El G H v 9 LS)(hX:∀L∈LS,XS G L):FC G v LS:=ABe hv hX λL hL=>AXN (hX L hL)
end
theorem zy(a:Ex):nL [a]=nE a:=by unfold nL;unfold nL;omega
theorem AP3(a b:Ex):nL [a,b]=nE a+nE b:=by unfold nL;rw[zy]
theorem ALk:∀{ks:List Ex},(∀x∈ks,nE x<=(textE x).length)->nL ks<=(Hf (ks.map textE)).length
 |[],_=>by rw[qO];exact Nat.zero_le _
 |a::l,h=>by
  have h1:=h a (List.mem_cons_self ..)
  have h2:∀l:List Ex,(∀x∈l,nE x<=(textE x).length)->nL l<=((l.map textE).flatMap λb=>Ce++([32]++b)).length:=by
   intro l
   induction l with
   |nil=>intro _;rw[qO];exact Nat.zero_le _
   |cons c l ih=>
    intro h
    have h3:=ih λx hx=>h x (List.mem_cons_of_mem _ hx)
    have h4:=h c (List.mem_cons_self ..)
    unfold nL
    simp only[List.map_cons,List.flatMap_cons,List.length_append];omega
  have h3:=h2 l λx hx=>h x (List.mem_cons_of_mem _ hx)
  unfold nL Hf
  simp only[List.map_cons,List.length_append];omega
theorem bF:∀f x,1<=yw f x
 |0,x=>by unfold yw;omega
 |f+1,x=>by unfold yw;split<;>omega
theorem dA{e:Ex}(h:Wr e):nE e<=(textE e).length:=by
 have hm:=Hy
 induction h with
 | @num n h=>rw[F7,qO,Ad];show _<=(Yo n).length;unfold Yo;rw[Vl];exact bF 20 n
 |tru=>rw[F7,qO,Ad];decide
 |fls=>rw[F7,qO,Ad];decide
 |nul=>rw[F7,qO,Ad];decide
 |ths=>rw[F7,qO,Ad];decide
 | @loc l h=>
  rw[F7,qO,Ad]
  show _<=l.length
  cases l with
  |nil=>cases h
  |cons a l=>simp only[List.length_cons];omega
 | @get l a h ha ih=>rw[F7,zy,Ad];show _<=(textE a++(DI++l)).length;simp only[List.length_append];omega
 | @call l a ks h ha hk hn ih ihk=>
  rw[F7,Ad]
  have:=ALk ihk
  show 1+nL (a::ks)<=(textE a++(DI++(l++(BG++(Hf (ks.map textE)++BH))))).length
  unfold nL
  simp only[List.length_append];omega
 | @stat l u ks h hu hk hn ihk=>
  rw[F7,Ad]
  have:=ALk ihk
  show 1+nL ks<=(u++(DI++(l++(BG++(Hf (ks.map textE)++BH))))).length
  simp only[List.length_append];omega
 | @new u hu=>rw[F7,qO,Ad];show _<=(BG++(Ih++([32]++(u++BH)))).length;simp only[List.length_append];omega
 | @arr u a hu ha ih=>rw[F7,zy,Ad];show _<=(Ih++([32]++(u++(GL++(textE a++F8))))).length;simp only[List.length_append];omega
 | @elm a b ha hb iha ihb=>rw[F7,AP3,Ad];show _<=(textE a++(GL++(textE b++F8))).length;simp only[List.length_append];omega
 | @len a ha ih=>rw[F7,zy,Ad];show _<=(textE a++(DI++Hr)).length;simp only[List.length_append];omega
 | @neg a ha ih=>rw[F7,zy,Ad];show _<=(BG++(Dv++(textE a++BH))).length;simp only[List.length_append];omega
 | @not a ha ih=>rw[F7,zy,Ad];show _<=(BG++(Iq++(textE a++BH))).length;simp only[List.length_append];omega
 | @bin o a b ho ha hb iha ihb=>rw[F7,AP3,Ad];show _<=(BG++(textE a++([32]++(o++([32]++(textE b++BH)))))).length;simp only[List.length_append];omega
 | @and a b ha hb iha ihb=>rw[F7,AP3,Ad];show _<=(BG++(textE a++([32]++(NP++([32]++(textE b++BH)))))).length;simp only[List.length_append];omega
 | @or a b ha hb iha ihb=>rw[F7,AP3,Ad];show _<=(BG++(textE a++([32]++(YQ++([32]++(textE b++BH)))))).length;simp only[List.length_append];omega
 | @asx u a hu ha ih=>rw[F7,zy,Ad];show _<=(BG++(textE a++([32]++(SX++([32]++(u++BH)))))).length;simp only[List.length_append];omega
 | @isx u a hu ha ih=>rw[F7,zy,Ad];show _<=(BG++(textE a++([32]++(QU++([32]++(u++BH)))))).length;simp only[List.length_append];omega
theorem ARH{t:Nat}:∀{l:List St},(∀s∈l,nS s<=(textS t s).length)->nSs l<=(l.map (textS t)).flatten.length
 |[],_=>by rw[ACU];exact Nat.zero_le _
 |a::l,h=>by
  have h1:=h a (List.mem_cons_self ..)
  have h2:=ARH (l:=l) λx hx=>h x (List.mem_cons_of_mem _ hx)
  rw[APv]
  simp only[List.map_cons,List.flatten_cons,List.length_append];omega
theorem AGf{t:Nat}{l:List St}(h:∀s∈l,nS s<=(textS (t+1) s).length):nSs l<=(HY t (l.map (textS (t+1)))).length:=by
 have:=ARH h
 unfold HY
 simp only[List.length_append];omega
theorem AQc{s:St}(h:WrS s):∀t,nS s<=(textS t s).length:=by
 have hw:=UL
 induction h with
 | @lt l ty e hl ht he=>intro t;have:=dA he;rw[ZG,zy,ACU,DT];show _<=(tabs t++(O0++([32]++(nG ty++([32]++(l++([32]++(EG++([32]++(textE e++(Aw++[10]))))))))))).length;simp only[List.length_append];omega
 | @put a b ha hk hb=>intro t;have:=dA ha;have:=dA hb;rw[ZG,AP3,ACU,DT];show _<=(tabs t++(textE a++([32]++(EG++([32]++(textE b++(Aw++[10]))))))).length;simp only[List.length_append];omega
 | @ask a ha hk=>intro t;have:=dA ha;rw[ZG,zy,ACU,DT];show _<=(tabs t++(textE a++(Aw++[10]))).length;simp only[List.length_append];omega
 | @ret a ha=>intro t;have:=dA ha;rw[ZG,zy,ACU,DT];show _<=(tabs t++(Eo++([32]++(textE a++(Aw++[10]))))).length;simp only[List.length_append];omega
 | @prt a ha=>intro t;have:=dA ha;rw[ZG,zy,ACU,DT];show _<=(tabs t++(Fp++([32]++(textE a++(Aw++[10]))))).length;simp only[List.length_append];omega
 | @loop c th hc ht iht=>intro t;have:=dA hc;have:=AGf (t:=t) λs hs=>iht s hs (t+1);rw[ZG,zy,ACU,DT];show _<=(tabs t++(Fe++([32]++(textE c++([32]++(HY t (th.map (textS (t+1)))++[10])))))).length;simp only[List.length_append];omega
 | @ite c th el hc ht he iht ihe=>
  intro t
  have:=dA hc
  have:=AGf (t:=t) λs hs=>iht s hs (t+1)
  have h2:=AGf (t:=t) λs hs=>ihe s hs (t+1)
  rw[ZG,zy,DT]
  have h3:nSs el<=(bif (el.map (textS (t+1))).isEmpty then([]:Bs)else[32]++(EL++([32]++HY t (el.map (textS (t+1)))))).length:=by
   cases el with
   |nil=>rw[ACU];exact Nat.zero_le _
   |cons y el=>show _<=([32]++(EL++([32]++HY t ((y::el).map (textS (t+1)))))).length;simp only[List.length_append];omega
  show _<=(tabs t++(Jr++([32]++(textE c++([32]++(HY t (th.map (textS (t+1)))++((bif (el.map (textS (t+1))).isEmpty then[]else[32]++(EL++([32]++HY t (el.map (textS (t+1))))))++[10]))))))).length
  simp only[List.length_append];omega
theorem ANe:∀ls:List Bs,ls.length<=(Hf ls).length+1
 |[]=>by decide
 |a::l=>by
  have h2:∀l:List Bs,l.length<=(l.flatMap λb=>Ce++([32]++b)).length:=by
   intro l
   induction l with
   |nil=>exact Nat.le_refl _
   |cons c l ih=>have:Ce.length=1:=rfl;simp only[List.flatMap_cons,List.length_append,List.length_cons];omega
  have:=h2 l
  unfold Hf
  simp only[List.length_append,List.length_cons];omega
theorem ATJ{m:Me}(h:WrM m):nM m<=(UK m).length:=by
 have h1:=AGf (t:=1) λs hs=>AQc (h.body s hs) 2
 have h2:=ANe (m.ps.map iw)
 rw[List.length_map]at h2
 have h3:BG.length=1/\E5.length=6:=⟨rfl,rfl⟩
 unfold nM UK
 simp only[List.length_append]at h1⊢
 have h4:(HY 1 (m.body.map (textS 2))).length=(HY 1 (m.body.map (textS (1+1)))).length:=rfl
 omega
theorem AJA:∀{l:List Me},(∀m∈l,WrM m)->nMs l<=(l.map UK).flatten.length
 |[],_=>Nat.zero_le _
 |a::l,h=>by
  have h1:=ATJ (h a (List.mem_cons_self ..))
  have h2:=AJA (l:=l) λx hx=>h x (List.mem_cons_of_mem _ hx)
  unfold nMs
  simp only[List.map_cons,List.flatten_cons,List.length_append];omega
theorem APy{c:Cl}(h:WrC c):nC c<=(XY c).length:=by
 have h1:=AJA h.ms
 have h2:∀l:List Va,l.length<=(l.map L8).flatten.length:=by
  intro l
  induction l with
  |nil=>exact Nat.le_refl _
  |cons c l ih=>
   have:1<=(L8 c).length:=by unfold L8;simp only[List.length_append,List.length_cons];omega
   simp only[List.map_cons,List.flatten_cons,List.length_append,List.length_cons];omega
 have h2:=h2 c.fs
 unfold nC XY
 simp only[List.length_append];omega
theorem GM.wr{m:Me}(h:GM m):WrM m:=⟨h.nm,h.ret,λp hp=>(h.ps p hp).wr,by have:=h.pn;omega,λs hs=>(h.body s hs).wr⟩
theorem GC.wr{c:Cl}(h:GC c):WrC c:=⟨h.nm,h.sup,λf hf=>(h.fs f hf).wr,by have:=h.fn;omega,λm hm=>(h.ms m hm).wr,by have:=h.mn;omega⟩
theorem GC.dp{c:Cl}(h:GC c):dC c<=100:=by
 unfold dC
 refine AC5 λx hx=>?_
 obtain⟨m,hm,rfl⟩:=List.mem_map.1 hx
 unfold dM
 have:=maxS (h.ms m hm).body
 omega
theorem AXr{m:Me}(h:GM m):(UK m).length<=8500000000:=by
 have h1:=ADA (f:=textS 2) (P:=SQ 3) (λs hs=>(h.body s hs).ln 2 (by omega)) h.bn
 have h2:=AJt (P:=9) (ls:=m.ps.map iw) (λb hb=>by
  obtain⟨p,hp,rfl⟩:=List.mem_map.1 hb
  have:=AGO (h.ps p hp).tl
  have:=(h.ps p hp).nl
  unfold iw
  simp only[List.length_append,List.length_cons,List.length_nil];omega)
 rw[List.length_map]at h2
 have h3:=AGO h.rl
 have h4:=h.nl
 have h5:=h.pn
 have h6:SQ 3=842100000:=by decide
 have hp:=AI3 m.st
 have h7:m.ps.length*(9+2)<=8*11:=Nat.mul_le_mul_right _ h5
 have h8:BG.length=1/\BH.length=1/\OC.length=1/\m_rc.length=1/\([10]:Bs).length=1/\([32]:Bs).length=1/\(tabs 1).length=1:=⟨rfl,rfl,rfl,rfl,rfl,rfl,rfl⟩
 rw[AEy]
 unfold headB HY
 simp only[List.length_append]
 omega
theorem AOK{c:Cl}(h:GC c):(XY c).length<=100000000000:=by
 have h1:=ADA (f:=UK) (λm hm=>AXr (h.ms m hm)) h.mn
 have h2:=ADA (f:=L8) (P:=20) (λf hf=>by
  have:=AGO (h.fs f hf).tl
  have:=(h.fs f hf).nl
  have:PY.length=5/\Aw.length=1:=⟨rfl,rfl⟩
  unfold L8
  simp only[List.length_append,List.length_cons,List.length_nil];omega) h.fn
 have h3:=h.nl
 have h4:=h.sl
 have h5:(bif c.sup.isEmpty then([]:Bs)else[32]++(Fv++([32]++c.sup))).length<=11:=by
  cases c.sup.isEmpty with
  |true=>exact Nat.zero_le _
  |false=>
   have:Fv.length=7:=rfl
   show([32]++(Fv++([32]++c.sup))).length<=11
   simp only[List.length_append,List.length_cons,List.length_nil];omega
 have h8:OC.length=1/\m_rc.length=1/\([10]:Bs).length=1/\([32]:Bs).length=1/\OE.length=5:=⟨rfl,rfl,rfl,rfl,rfl⟩
 unfold XY
 simp only[List.length_append]
 omega
theorem ANb{s:Bs}(hl:65536<s.length):kE 200000 s=some (none,4):=by
 unfold kE zV
 rw[decide_eq_true hl];rfl
def AO9(G:AV)(s:St):Prop:=∀(H:Heap) (n:Nat) (c1 c2:LV) (A B:Nat->Prop) (k:KV),MX G H A c1 s->MX G H B c2 s->(∀id,A id->id<n)->(∀id,B id->id<n)->(∀H' n',Kp H n H' n'->k (.bool true) H' n')->Runs F G MH [.agg c1,.agg c2] H n k
def APx(G:AV)(s:Me):Prop:=∀(H:Heap) (n:Nat) (c1 c2:LV) (A B:Nat->Prop) (k:KV),aY G H A c1 s->aY G H B c2 s->(∀id,A id->id<n)->(∀id,B id->id<n)->(∀H' n',Kp H n H' n'->k (.bool true) H' n')->Runs F G J5 [.agg c1,.agg c2] H n k
theorem AYx(q:IntKind)(x:Nat):EZ (.one .int) false (.int q (.ofNat x) 0) (.int q (.ofNat x) 0)=some (.bool true):=by rw[Xx,decide_eq_true rfl]
theorem APq(l:Bs):EZ (.one .str) false (sB l) (sB l)=some (.bool true):=(AH6 l l).trans (by simp)
theorem AYZ(b:Bool):EZ (.one .bool) false (.bool b) (.bool b)=some (.bool true):=by cases b<;>rfl
theorem AUR(t:Ty):EZ (.agg [.str,.bool]) false (.agg [sB t.nm,.bool t.arr]) (.agg [sB t.nm,.bool t.arr])=some (.bool true):=by rw[AQY];simp
section
variable{G:AV}{H:Heap}{n:Nat}{k:KV}
theorem ADt{l:List St}{v w:V}{cs ds:D5}{A B:Nat->Prop}(hv:El G H v 9 cs)(hw:El G H w 9 ds)(hva:∀id,v.Qa=some id->id<n)(hwa:∀id,w.Qa=some id->id<n)(hc:TA G H A cs l)(hd:TA G H B ds l)(hA:∀id,A id->id<n)(hB:∀id,B id->id<n)
 (hs:∀e∈l,AO9 G e) (hlen:l.length<4611686018427387904) (hk:∀H' n',Kp H n H' n'->k (.bool true) H' n'):Runs F G CX [v,w,.fn MH [] []] H n k:=by
 refine Am (s:=ar3 (Cb lfp G)) Du (by obtain⟨h,o⟩:=Ju Ap G;rw[Du]at h;cases h;exact o) ?_
 show Cb lfp G (Runs F G) v w (.fn MH [] []) H n k
 delta Cb
 refine AB hv.len (AB hw.len ?_)
 rw[YX,Au,hc.len,hd.len,decide_eq_true rfl,Bool.not_true,Aq]
 refine AB hv.len ?_
 rw[hc.len]
 refine EP (N:=l.length) (J:=λj q=>∃H' n',q=(w,.fn MH [] [],v,.int .i64 (.ofNat l.length) 0,.int .i64 (.ofNat j) 0,H',n')/\Kp H n H' n') ?_ ?_ ⟨H,n,rfl,Kp.refl ..⟩
 ·rintro I j q hlt ⟨H1,n1,rfl,f1⟩ ih
  show Ba lfp G (Runs F G) k I w (.fn MH [] []) v (.int .i64 (.ofNat l.length) 0) (.int .i64 (.ofNat j) 0) H1 n1
  delta Ba
  have hv1:=hv.kp hva f1
  have hw1:=hw.kp hwa f1
  have hc1:TA G H1 A cs l:=hc.mono (λ_ h=>h) λid h=>f1.same id (hA id h)
  have hd1:TA G H1 B ds l:=hd.mono (λ_ h=>h) λid h=>f1.same id (hB id h)
  obtain⟨c,hc2,hx⟩:=hc1.at (List.getElem?_eq_getElem hlt)
  obtain⟨d,hd2,hy⟩:=hd1.at (List.getElem?_eq_getElem hlt)
  have hse:=hs _ (List.getElem_mem hlt)
  generalize l[j]=e1 at hx hy hse
  have hn1:=f1.le
  obtain⟨p,hp,hld⟩:=hv1.at hc2
  rw[ES,Au,decide_eq_true hlt,Ah]
  refine AB hp (AB (Jl hld) ?_)
  refine Az rfl λH2 f2 g2=>?_
  refine CG g2 rfl hx.len (by omega) λH3 g2 t3=>?_
  have f3:Kp H1 n1 H3 (n1+1):=⟨f2.le,λid hid=>(t3 id (by omega)).trans (f2.same id hid)⟩
  obtain⟨p3,hp3,hld3⟩:=(hw1.kp (λid h=>Nat.lt_of_lt_of_le (hwa id h) hn1) f3).at hd2
  refine AB hp3 (AB (Jl hld3) ?_)
  refine Az rfl λH4 f4 g4=>?_
  have g2:=f4.get g2 (by omega)
  refine CG g4 rfl hy.len (by omega) λH5 g4 t5=>?_
  have g2:=(t5 n1 (by omega)).trans g2
  have f5:Kp H3 (n1+1) H5 (n1+1+1):=⟨f4.le,λid hid=>(t5 id (by omega)).trans (f4.same id hid)⟩
  have f5:=f3.trans f5
  refine AB (Ai (m:=9) g2 (by omega) hx.len) (AB (Ai (m:=9) g4 (by omega) hy.len) ?_)
  have fin:=f1.trans f5
  have hx:MX G H5 A c e1:=hx.mono (λ_ h=>h) λid h=>f5.same id (by have:=hA id h;omega)
  have hy:MX G H5 B d e1:=hy.mono (λ_ h=>h) λid h=>f5.same id (by have:=hB id h;omega)
  refine hse H5 _ c d A B _ hx hy (λid h=>by have:=hA id h;omega) (λid h=>by have:=hB id h;omega) λH6 n6 f6=>?_
  rw[MF,Au,Bool.not_true,Aq]
  refine AB (Ef (by omega)) ?_
  exact ih _ ⟨_,_,rfl,fin.trans f6⟩
 ·rintro I q ⟨H1,n1,rfl,f1⟩
  show Ba lfp G (Runs F G) k I w (.fn MH [] []) v (.int .i64 (.ofNat l.length) 0) (.int .i64 (.ofNat l.length) 0) H1 n1
  delta Ba
  rw[ES,Au,decide_eq_false (Nat.lt_irrefl _),Aq]
  delta Di
  exact hk _ _ f1
theorem AJ1{l:List Me}{v w:V}{cs ds:D5}{A B:Nat->Prop}(hv:El G H v 8 cs)(hw:El G H w 8 ds)(hva:∀id,v.Qa=some id->id<n)(hwa:∀id,w.Qa=some id->id<n)(hc:ZW G H A cs l)(hd:ZW G H B ds l)(hA:∀id,A id->id<n)(hB:∀id,B id->id<n)
 (hs:∀e∈l,APx G e) (hlen:l.length<4611686018427387904) (hk:∀H' n',Kp H n H' n'->k (.bool true) H' n'):Runs F G ET [v,w,.fn J5 [] []] H n k:=by
 refine Am (s:=ar3 (Bl lfp G)) DN (by obtain⟨h,o⟩:=IX Ap G;rw[DN]at h;cases h;exact o) ?_
 show Bl lfp G (Runs F G) v w (.fn J5 [] []) H n k
 delta Bl
 refine AB hv.len (AB hw.len ?_)
 rw[YX,Au,hc.len,hd.len,decide_eq_true rfl,Bool.not_true,Aq]
 refine AB hv.len ?_
 rw[hc.len]
 refine EP (N:=l.length) (J:=λj q=>∃H' n',q=(w,.fn J5 [] [],v,.int .i64 (.ofNat l.length) 0,.int .i64 (.ofNat j) 0,H',n')/\Kp H n H' n') ?_ ?_ ⟨H,n,rfl,Kp.refl ..⟩
 ·rintro I j q hlt ⟨H1,n1,rfl,f1⟩ ih
  show BM lfp G (Runs F G) k I w (.fn J5 [] []) v (.int .i64 (.ofNat l.length) 0) (.int .i64 (.ofNat j) 0) H1 n1
  delta BM
  have hv1:=hv.kp hva f1
  have hw1:=hw.kp hwa f1
  have hc1:ZW G H1 A cs l:=hc.mono (λ_ h=>h) λid h=>f1.same id (hA id h)
  have hd1:ZW G H1 B ds l:=hd.mono (λ_ h=>h) λid h=>f1.same id (hB id h)
  obtain⟨c,hc2,hx⟩:=hc1.at (List.getElem?_eq_getElem hlt)
  obtain⟨d,hd2,hy⟩:=hd1.at (List.getElem?_eq_getElem hlt)
  have hse:=hs _ (List.getElem_mem hlt)
  generalize l[j]=e1 at hx hy hse
  have hn1:=f1.le
  obtain⟨p,hp,hld⟩:=hv1.at hc2
  rw[ES,Au,decide_eq_true hlt,Ah]
  refine AB hp (AB (Jl hld) ?_)
  refine Az rfl λH2 f2 g2=>?_
  refine CG g2 rfl hx.len (by omega) λH3 g2 t3=>?_
  have f3:Kp H1 n1 H3 (n1+1):=⟨f2.le,λid hid=>(t3 id (by omega)).trans (f2.same id hid)⟩
  obtain⟨p3,hp3,hld3⟩:=(hw1.kp (λid h=>Nat.lt_of_lt_of_le (hwa id h) hn1) f3).at hd2
  refine AB hp3 (AB (Jl hld3) ?_)
  refine Az rfl λH4 f4 g4=>?_
  have g2:=f4.get g2 (by omega)
  refine CG g4 rfl hy.len (by omega) λH5 g4 t5=>?_
  have g2:=(t5 n1 (by omega)).trans g2
  have f5:Kp H3 (n1+1) H5 (n1+1+1):=⟨f4.le,λid hid=>(t5 id (by omega)).trans (f4.same id hid)⟩
  have f5:=f3.trans f5
  refine AB (Ai (m:=8) g2 (by omega) hx.len) (AB (Ai (m:=8) g4 (by omega) hy.len) ?_)
  have fin:=f1.trans f5
  have hx:aY G H5 A c e1:=hx.mono (λ_ h=>h) λid h=>f5.same id (by have:=hA id h;omega)
  have hy:aY G H5 B d e1:=hy.mono (λ_ h=>h) λid h=>f5.same id (by have:=hB id h;omega)
  refine hse H5 _ c d A B _ hx hy (λid h=>by have:=hA id h;omega) (λid h=>by have:=hB id h;omega) λH6 n6 f6=>?_
  rw[MF,Au,Bool.not_true,Aq]
  refine AB (Ef (by omega)) ?_
  exact ih _ ⟨_,_,rfl,fin.trans f6⟩
 ·rintro I q ⟨H1,n1,rfl,f1⟩
  show BM lfp G (Runs F G) k I w (.fn J5 [] []) v (.int .i64 (.ofNat l.length) 0) (.int .i64 (.ofNat l.length) 0) H1 n1
  delta BM
  rw[ES,Au,decide_eq_false (Nat.lt_irrefl _),Aq]
  delta DF
  exact hk _ _ f1
theorem AY3(x:Va):EZ (.agg [.str,.str,.bool]) true (.agg (vaC x)) (.agg (vaC x))=some (.bool false):=by
 obtain⟨nm,ty⟩:=x
 have h:(EK.agg [.str,.str,.bool]).eq (.agg [sB nm,sB ty.nm,.bool ty.arr]) (.agg [sB nm,sB ty.nm,.bool ty.arr])=some true:=
  show ACx [.str,.str,.bool] [sB nm,sB ty.nm,.bool ty.arr] [sB nm,sB ty.nm,.bool ty.arr]=_ from TK.2 ⟨_,_,AK7 _ _,TK.2 ⟨_,_,AK7 _ _,TK.2 ⟨_,true,APz _ _,rfl,rfl⟩,rfl⟩,by simp⟩
 show ofB (iY ((EK.agg [.str,.str,.bool]).eq (.agg [sB nm,sB ty.nm,.bool ty.arr]) (.agg [sB nm,sB ty.nm,.bool ty.arr])) λb=>some (Yi b))=_
 rw[h];rfl
theorem AMr{l:List Va}{v w:V}{A B:Nat->Prop}(hv:ABX G H A v l)(hw:ABX G H B w l)(hlen:l.length<4611686018427387904)(hk:k (.bool true) H n):Runs F G JG [v,w] H n k:=by
 obtain⟨hv,_⟩:=hv
 obtain⟨hw,_⟩:=hw
 refine Am (s:=QD (Fz lfp G)) Ir (by obtain⟨h,o⟩:=WR Ap G;rw[Ir]at h;cases h;exact o) ?_
 show Fz lfp G (Runs F G) v w H n k
 delta Fz
 refine AB hv.len (AB hw.len ?_)
 rw[YX,Au,decide_eq_true rfl,Bool.not_true,Aq]
 refine AB hv.len ?_
 rw[List.length_map]
 refine EP (N:=l.length) (J:=λj q=>q=(v,w,.int .i64 (.ofNat l.length) 0,.int .i64 (.ofNat j) 0,H,n)) ?_ ?_ rfl
 ·rintro I j q hlt rfl ih
  show EN lfp G (Runs F G) k I v w (.int .i64 (.ofNat l.length) 0) (.int .i64 (.ofNat j) 0) H n
  delta EN
  have hcx:(l.map vaC)[j]? =some (vaC l[j]):=by rw[List.getElem?_map,List.getElem?_eq_getElem hlt];rfl
  obtain⟨p,hp,hld⟩:=hv.at hcx
  obtain⟨p2,hp2,hld2⟩:=hw.at hcx
  rw[ES,Au,decide_eq_true hlt,Ah]
  refine AB hp (AB (Jl hld) (AB hp2 (AB (Jl hld2) ?_)))
  refine AB (AY3 l[j]) ?_
  rw[Aq]
  exact AB (Ef (by omega)) (ih _ rfl)
 ·rintro I q rfl
  show EN lfp G (Runs F G) k I v w (.int .i64 (.ofNat l.length) 0) (.int .i64 (.ofNat l.length) 0) H n
  delta EN
  rw[ES,Au,decide_eq_false (Nat.lt_irrefl _),Aq]
  delta IG
  exact hk
theorem AT6:∀(N:Nat),N<4611686018427387904->∀(s:St),nS s<=N->AO9 G s:=by
 intro N
 induction N with
 |zero=>intro _ s h;have:=AQV s;omega
 |succ N ih=>
  intro hbig s hN H n c1 c2 A B k h1 h2 hA hB hk
  refine Am (s:=QD (Ur lfp G)) Xb (by obtain⟨h,o⟩:=ABj Ap G;rw[Xb]at h;cases h;exact o) ?_
  show Ur lfp G (Runs F G) (.agg c1) (.agg c2) H n k
  delta Ur
  refine Dk λH1 f1 g1=>?_
  refine Dk λH2 f2 g2=>?_
  have g1:=f2.get g1 (by omega)
  have f2:=f1.trans f2
  have h1:MX G H2 A c1 s:=h1.mono (λ_ h=>h) λid h=>f2.same id (hA id h)
  have h2:MX G H2 B c2 s:=h2.mono (λ_ h=>h) λid h=>f2.same id (hB id h)
  obtain⟨kd,nm,ty,es,th,el⟩:=s
  rw[ZG]at hN
  obtain⟨l1,k1,ve,vt,vl,ct,cl,rfl,he,ht,kt,hta,hct,hel,kl,hela,hcl⟩:=h1.inv
  obtain⟨l2,k2,we,wt,wl,dt,dl,rfl,ge,gt,jt,gta,gct,gel,jl,gela,gcl⟩:=h2.inv
  have hA2:∀id,A id->id<n+1+1:=λid h=>by have:=hA id h;omega
  have hB2:∀id,B id->id<n+1+1:=λid h=>by have:=hB id h;omega
  have q0:AX (.ptr n 0) G H2=some _:=AQ g1 rfl
  have r0:AX (.ptr (n+1) 0) G H2=some _:=AQ g2 rfl
  have q3:AX (.ptr n 3) G H2=some _:=AQ g1 rfl
  have r3:AX (.ptr (n+1) 3) G H2=some _:=AQ g2 rfl
  have q6:AX (.ptr n 6) G H2=some _:=AQ g1 rfl
  have r6:AX (.ptr (n+1) 6) G H2=some _:=AQ g2 rfl
  have q7:AX (.ptr n 7) G H2=some _:=AQ g1 rfl
  have r7:AX (.ptr (n+1) 7) G H2=some _:=AQ g2 rfl
  have q8:AX (.ptr n 8) G H2=some _:=AQ g1 rfl
  have r8:AX (.ptr (n+1) 8) G H2=some _:=AQ g2 rfl
  simp only[go_sem,Nat.reduceAdd,q0,r0,AYx,q3,r3,APq]
  refine AB (v:=.agg [sB ty.nm,.bool ty.arr]) (ML g1 (by omega) (by show 4+2<=9;omega)) ?_
  refine AB (v:=.agg [sB ty.nm,.bool ty.arr]) (ML g2 (by omega) (by show 4+2<=9;omega)) ?_
  simp only[go_sem,Nat.reduceAdd,AUR,q6,r6]
  obtain⟨cs,hle,_,_,_,hva,hcs⟩:=he
  obtain⟨ds,gle,_,_,_,gva,gcs⟩:=ge
  have:=AEZ es
  refine ALs hle gle (λid h=>hA2 id (hva id h)) (λid h=>hB2 id (gva id h)) hcs gcs hA2 hB2 (λe he=>AXB N (by omega) e (by have:=AEt he;omega)) (by omega) λH3 n3 f3=>?_
  rw[vZ]
  have hn3:=f3.le
  have hA3:∀id,A id->id<n3:=λid h=>by have:=hA2 id h;omega
  have hB3:∀id,B id->id<n3:=λid h=>by have:=hB2 id h;omega
  have q7:AX (.ptr n 7) G H3=some _:=AQ (f3.get g1 (by omega)) rfl
  have r7:AX (.ptr (n+1) 7) G H3=some _:=AQ (f3.get g2 (by omega)) rfl
  have q8:AX (.ptr n 8) G H3=some _:=AQ (f3.get g1 (by omega)) rfl
  have r8:AX (.ptr (n+1) 8) G H3=some _:=AQ (f3.get g2 (by omega)) rfl
  simp only[go_sem,Nat.reduceAdd,q7,r7]
  have:=bM th
  refine ADt (ht.same λid hid=>f3.same id (hA2 id (hta id hid))) (gt.same λid hid=>f3.same id (hB2 id (gta id hid))) (λid h=>hA3 id (hta id h)) (λid h=>hB3 id (gta id h)) (hct.mono (λ_ h=>h) λid h=>f3.same id (hA2 id h)) (gct.mono (λ_ h=>h) λid h=>f3.same id (hB2 id h)) hA3 hB3 (λe he=>ih (by omega) e (by have:=Ul he;omega)) (by omega) λH4 n4 f4=>?_
  have f4:=f3.trans f4
  have hn4:=f4.le
  have hA4:∀id,A id->id<n4:=λid h=>by have:=hA2 id h;omega
  have hB4:∀id,B id->id<n4:=λid h=>by have:=hB2 id h;omega
  have q7:AX (.ptr n 7) G H4=some _:=AQ (f4.get g1 (by omega)) rfl
  have r7:AX (.ptr (n+1) 7) G H4=some _:=AQ (f4.get g2 (by omega)) rfl
  have q8:AX (.ptr n 8) G H4=some _:=AQ (f4.get g1 (by omega)) rfl
  have r8:AX (.ptr (n+1) 8) G H4=some _:=AQ (f4.get g2 (by omega)) rfl
  simp only[go_sem,Nat.reduceAdd,q8,r8]
  have:=bM el
  refine ADt (hel.same λid hid=>f4.same id (hA2 id (hela id hid))) (gel.same λid hid=>f4.same id (hB2 id (gela id hid))) (λid h=>hA4 id (hela id h)) (λid h=>hB4 id (gela id h)) (hcl.mono (λ_ h=>h) λid h=>f4.same id (hA2 id h)) (gcl.mono (λ_ h=>h) λid h=>f4.same id (hB2 id h)) hA4 hB4 (λe he=>ih (by omega) e (by have:=Ul he;omega)) (by omega) λH5 n5 f5=>?_
  try simp only[go_sem]
  exact hk _ _ (f2.trans (f4.trans f5))
theorem AUE{m:Me}(hN:nM m<4611686018427387904):APx G m:=by
 intro H n c1 c2 A B k h1 h2 hA hB hk
 refine Am (s:=QD (Qx lfp G)) Uy (by obtain⟨h,o⟩:=wQ Ap G;rw[Uy]at h;cases h;exact o) ?_
 show Qx lfp G (Runs F G) (.agg c1) (.agg c2) H n k
 delta Qx
 refine Dk λH1 f1 g1=>?_
 refine Dk λH2 f2 g2=>?_
 have g1:=f2.get g1 (by omega)
 have f2:=f1.trans f2
 have h1:aY G H2 A c1 m:=h1.mono (λ_ h=>h) λid h=>f2.same id (hA id h)
 have h2:aY G H2 B c2 m:=h2.mono (λ_ h=>h) λid h=>f2.same id (hB id h)
 unfold nM at hN
 obtain⟨l1,k1,vp,vb,rfl,hp,cs,hle,_,_,_,hva,hcs⟩:=h1.inv
 obtain⟨l2,k2,wp,wb,rfl,gp,ds,gle,_,_,_,gva,gcs⟩:=h2.inv
 have hA2:∀id,A id->id<n+1+1:=λid h=>by have:=hA id h;omega
 have hB2:∀id,B id->id<n+1+1:=λid h=>by have:=hB id h;omega
 have q2:AX (.ptr n 2) G H2=some _:=AQ g1 rfl
 have r2:AX (.ptr (n+1) 2) G H2=some _:=AQ g2 rfl
 have q3:AX (.ptr n 3) G H2=some _:=AQ g1 rfl
 have r3:AX (.ptr (n+1) 3) G H2=some _:=AQ g2 rfl
 have q4:AX (.ptr n 4) G H2=some _:=AQ g1 rfl
 have r4:AX (.ptr (n+1) 4) G H2=some _:=AQ g2 rfl
 have q7:AX (.ptr n 7) G H2=some _:=AQ g1 rfl
 have r7:AX (.ptr (n+1) 7) G H2=some _:=AQ g2 rfl
 simp only[go_sem,Nat.reduceAdd,q2,r2,APq,q3,r3,AYZ]
 refine AB (v:=.agg [sB m.ret.nm,.bool m.ret.arr]) (ML g1 (by omega) (by show 5+2<=8;omega)) ?_
 refine AB (v:=.agg [sB m.ret.nm,.bool m.ret.arr]) (ML g2 (by omega) (by show 5+2<=8;omega)) ?_
 simp only[go_sem,Nat.reduceAdd,AUR,q4,r4]
 refine AMr hp gp (by omega) ?_
 simp only[go_sem,Nat.reduceAdd,q7,r7]
 have:=bM m.body
 refine ADt hle gle (λid h=>hA2 id (hva id h)) (λid h=>hB2 id (gva id h)) hcs gcs hA2 hB2 (λe he=>AT6 (nSs m.body) (by omega) e (Ul he)) (by omega) λH3 n3 f3=>?_
 try simp only[go_sem]
 exact hk _ _ (f2.trans f3)
theorem ASR{x:Cl}{c1 c2:LV}{A B:Nat->Prop}(h1:XF G H A c1 x)(h2:XF G H B c2 x)(hA:∀id,A id->id<n)(hB:∀id,B id->id<n)(hN:nC x<4611686018427387904)(hk:∀H' n',Kp H n H' n'->k (.bool true) H' n'):Runs F G iQ [.agg c1,.agg c2] H n k:=by
 refine Am (s:=QD (SV lfp G)) WI (by obtain⟨h,o⟩:=AAR Ap G;rw[WI]at h;cases h;exact o) ?_
 show SV lfp G (Runs F G) (.agg c1) (.agg c2) H n k
 delta SV
 refine Dk λH1 f1 g1=>?_
 refine Dk λH2 f2 g2=>?_
 have g1:=f2.get g1 (by omega)
 have f2:=f1.trans f2
 have h1:XF G H2 A c1 x:=h1.mono (λ_ h=>h) λid h=>f2.same id (hA id h)
 have h2:XF G H2 B c2 x:=h2.mono (λ_ h=>h) λid h=>f2.same id (hB id h)
 unfold nC at hN
 obtain⟨l1,k1,vp,vb,rfl,hp,cs,hle,_,_,_,hva,hcs⟩:=h1.inv
 obtain⟨l2,k2,wp,wb,rfl,gp,ds,gle,_,_,_,gva,gcs⟩:=h2.inv
 have hA2:∀id,A id->id<n+1+1:=λid h=>by have:=hA id h;omega
 have hB2:∀id,B id->id<n+1+1:=λid h=>by have:=hB id h;omega
 have q2:AX (.ptr n 2) G H2=some _:=AQ g1 rfl
 have r2:AX (.ptr (n+1) 2) G H2=some _:=AQ g2 rfl
 have q3:AX (.ptr n 3) G H2=some _:=AQ g1 rfl
 have r3:AX (.ptr (n+1) 3) G H2=some _:=AQ g2 rfl
 have q4:AX (.ptr n 4) G H2=some _:=AQ g1 rfl
 have r4:AX (.ptr (n+1) 4) G H2=some _:=AQ g2 rfl
 have q5:AX (.ptr n 5) G H2=some _:=AQ g1 rfl
 have r5:AX (.ptr (n+1) 5) G H2=some _:=AQ g2 rfl
 simp only[go_sem,Nat.reduceAdd,q2,r2,APq,q3,r3,q4,r4]
 refine AMr hp gp (by omega) ?_
 simp only[go_sem,Nat.reduceAdd,q5,r5]
 have:=AGL x.ms
 refine AJ1 hle gle (λid h=>hA2 id (hva id h)) (λid h=>hB2 id (gva id h)) hcs gcs hA2 hB2 (λe he=>AUE (by have:=ADP he;omega)) (by omega) λH3 n3 f3=>?_
 try simp only[go_sem]
 exact hk _ _ (f2.trans f3)
end
section
variable{G:AV}{H:Heap}{n:Nat}{k:KV}
theorem ALN{L:LV}(hL:XC G L)(hk:∀H' n' b,Kp H n H' n'->(b=true->FwC G L)->k (.bool b) H' n'):Runs F G YA [.agg L] H n k:=by
 cases hL with
 | @mk l c nm sup vf vm fs ms hn hs hfs hfl hfk hms hml hmk=>
 unfold bigS at hn
 have bad:∀{H' n'},Kp H n H' n'->k (.bool false) H' n':=λf=>hk _ _ _ f λh=>by cases h
 refine Am (s:=Ho (MV lfp G)) QV (by obtain⟨h,o⟩:=ny Ap G;rw[QV]at h;cases h;exact o) ?_
 show MV lfp G (Runs F G) (.agg (xcC l c nm sup vf vm)) H n k
 delta MV
 refine Dk λH1 f1 g1=>?_
 have q4:AX (.ptr n 4) G H1=some vf:=AQ g1 rfl
 have q5:AX (.ptr n 5) G H1=some vm:=AQ g1 rfl
 have q2:AX (.ptr n 2) G H1=some (sB nm):=AQ g1 rfl
 have q3:AX (.ptr n 3) G H1=some (sB sup):=AQ g1 rfl
 simp only[go_sem,Nat.reduceAdd,q4,(hfs H1).len,Ls]
 cases h1:decide (10<fs.length)with
 |true=>
  repeat (first|with_reducible refine yu ?_|with_reducible refine AAe ?_|with_reducible refine AAH ?_)
  rw[Ah];exact bad f1
 |false=>
 simp only[go_sem,Nat.reduceAdd,q5,(hms H1).len,Ls]
 cases h2:decide (10<ms.length)with
 |true=>
  repeat (first|with_reducible refine yu ?_|with_reducible refine AAe ?_|with_reducible refine AAH ?_)
  rw[Ah];exact bad f1
 |false=>
 simp only[go_sem,Nat.reduceAdd,q2,q3,O8,Ef (show nm.length+sup.length<9223372036854775808 by omega),Ls]
 cases h3:decide (80<nm.length+sup.length)with
 |true=>rw[Ah];exact bad f1
 |false=>
 have h1:=of_decide_eq_false h1
 have h2:=of_decide_eq_false h2
 simp only[go_sem,Nat.reduceAdd,q5,(hms H1).len]
 refine EP (N:=ms.length) (J:=λj q=>∃H' n',q=(vm,.int .i64 (.ofNat ms.length) 0,.int .i64 (.ofNat j) 0,H',n')/\Kp H n H' n'/\∀L∈ms.take j,FwM G L) ?_ ?_ ⟨H1,n+1,rfl,f1,λL h=>by cases h⟩
 ·rintro I j q hlt ⟨H2,n2,rfl,f2,hw⟩ ih
  show Gx lfp G (Runs F G) k I vm (.int .i64 (.ofNat ms.length) 0) (.int .i64 (.ofNat j) 0) H2 n2
  delta Gx
  obtain⟨p,hp,hld⟩:=(hms H2).at (List.getElem?_eq_getElem hlt)
  have hx:=hmk _ (List.getElem_mem hlt)
  have ih:∀H' n',Kp H n H' n'->FwM G ms[j]->I (vm,.int .i64 (.ofNat ms.length) 0,.int .i64 (.ofNat (j+1)) 0,H',n'):=λH' n' f h=>ih _ ⟨H',n',rfl,f,λL hL=>by
   rw[List.take_succ_eq_append_getElem hlt]at hL
   rcases List.mem_append.1 hL with hL|hL
   ·exact hw L hL
   ·simp at hL;subst hL;exact h⟩
  generalize ms[j]=M at hld hx ih
  rw[ES,Au,decide_eq_true hlt,Ah]
  refine AB hp (AB (Jl hld) ?_)
  refine Az rfl λH3 f3 g3=>?_
  refine CG g3 rfl hx.len (by omega) λH4 g4 s4=>?_
  have f4:Kp H2 n2 H4 (n2+1):=⟨f3.le,λid hid=>(s4 id (by omega)).trans (f3.same id hid)⟩
  cases hx with
  | @mk ml mc mnm mst vp mty mar vb ps bs hmn hmt hps hpl hpk kp hbs hbl hbk kb=>
  have f4:=f2.trans f4
  have r4:AX (.ptr n2 4) G H4=some vp:=AQ g4 rfl
  have r2:AX (.ptr n2 2) G H4=some (sB mnm):=AQ g4 rfl
  have r7:AX (.ptr n2 7) G H4=some vb:=AQ g4 rfl
  simp only[go_sem,Nat.reduceAdd,r4,(hps H4).len,Ls]
  cases e3:decide (8<ps.length)with
  |true=>
   repeat (first|with_reducible refine yu ?_|with_reducible refine AAe ?_|with_reducible refine AAH ?_)
   rw[Ah];exact bad f4
  |false=>
  simp only[go_sem,Nat.reduceAdd,r2,O8,Ls]
  cases e4:decide (40<mnm.length)with
  |true=>
   repeat (first|with_reducible refine yu ?_|with_reducible refine AAe ?_|with_reducible refine AAH ?_)
   rw[Ah];exact bad f4
  |false=>
  simp only[go_sem,Nat.reduceAdd,r7]
  refine AKM hbs hbk λH5 n5 b5 f5 hb5=>?_
  have f5:=f4.trans f5
  rw[MF,Au]
  cases b5 with
  |false=>rw[Bool.not_false,Ah];exact bad f5
  |true=>
  rw[Bool.not_true,Aq]
  refine AB (Ef (by omega)) (ih _ _ f5 λvp' vb' ps' bs' e1 e2 e3' e4'=>?_)
  cases e1;cases e2
  rw[su (e3' H) (hps H),su (e4' H) (hbs H)]
  exact⟨by have:=of_decide_eq_false e3;omega,hb5 rfl 3⟩
 ·rintro I q ⟨H2,n2,rfl,f2,hw⟩
  show Gx lfp G (Runs F G) k I vm (.int .i64 (.ofNat ms.length) 0) (.int .i64 (.ofNat ms.length) 0) H2 n2
  delta Gx
  rw[ES,Au,decide_eq_false (Nat.lt_irrefl _),Aq]
  delta Nw
  rw[List.take_length]at hw
  refine hk _ _ _ f2 λ_ vf' vm' fs' ms' e1 e2 e3 e4=>?_
  cases e1;cases e2
  rw[su (e3 H) (hfs H),su (e4 H) (hms H)]
  exact⟨by omega,by omega,hw⟩
theorem AS3:EZ (.agg [.int,.int,.int]) false (.agg (aV 0 0 0)) (.agg (aV 0 0 0))=some (.bool true):=rfl
end
def yS(g:Nat->Bs):Nat->List Tok->Bs
 |_,[]=>[]
 |i,t::ts=>g i++(t.text++yS g (i+1) ts)
theorem AI8{g:Nat->Bs}(hg:∀i,Gap (g i))(hf:∀i,∃c l,g i=c::l/\free c=true):∀(ts:List Tok) (i:Nat),(∀t∈ts,Wf t)->Dp (yS g i (ts++[Qi])) (ts++[Qi])
 |[],i,_=>by
  show Dp (g i++(Qi.text++[])) [Qi]
  rw[show Qi.text++[]=[]from rfl,List.append_nil]
  exact AMG (hg i)
 |t::ts,i,h=>by
  have ih:=AI8 hg hf ts (i+1) λx hx=>h x (List.mem_cons_of_mem _ hx)
  refine AL1 (hg i) (h t (List.mem_cons_self ..)) (AQk ?_) ih
  obtain⟨c,l,hc,hfr⟩:=hf (i+1)
  cases ts with
  |nil=>show AK4 t (g (i+1)++_)=true;rw[hc];exact yB hfr
  |cons u ts=>show AK4 t (g (i+1)++_)=true;rw[hc];exact yB hfr
def WfL(ts:List Tok):Prop:=∀t∈ts,Wf t
theorem EX:WfL []:=λ_ h=>by cases h
theorem Cj{t:Tok}{ts:List Tok}(h:Wf t)(hs:WfL ts):WfL (t::ts):=λx hx=>by
 rcases List.mem_cons.1 hx with rfl|hx
 ·exact h
 ·exact hs x hx
theorem IU{a b:List Tok}(h:WfL a)(hs:WfL b):WfL (a++b):=λx hx=>by
 rcases List.mem_append.1 hx with hx|hx
 ·exact h x hx
 ·exact hs x hx
theorem ALq{α:Type}{f:α->List Tok}:∀{l:List α},(∀x∈l,WfL (f x))->WfL (l.map f).flatten
 |[],_=>EX
 |a::l,h=>IU (h a (List.mem_cons_self ..)) (ALq λx hx=>h x (List.mem_cons_of_mem _ hx))
theorem ah{m:Bs}(h:decide (m∈FM)=true):Wf (M m):=.mark (of_decide_eq_true h)
theorem AQu{α:Type}{f:α->List Tok}{l:List α}(h:∀x∈l,WfL (f x)):WfL (J8 (l.map f)):=by
 cases l with
 |nil=>exact EX
 |cons a l=>
  refine IU (h a (List.mem_cons_self ..)) ?_
  have:∀l:List α,(∀x∈l,WfL (f x))->WfL ((l.map f).flatMap λb=>M Ce::b):=by
   intro l
   induction l with
   |nil=>intro _;exact EX
   |cons c l ih=>
    intro h
    simp only[List.map_cons,List.flatMap_cons]
    exact IU (Cj (ah (by decide)) (h c (List.mem_cons_self ..))) (ih λx hx=>h x (List.mem_cons_of_mem _ hx))
  exact this l λx hx=>h x (List.mem_cons_of_mem _ hx)
theorem ALt{t:Ty}(h:aQ t.nm=true):WfL (tyK t):=by
 unfold tyK
 refine Cj (AAh h) ?_
 cases t.arr with
 |true=>exact Cj (ah (by decide)) (Cj (ah (by decide)) EX)
 |false=>exact EX
theorem wfE{e:Ex}(h:Wr e):WfL (tokE e):=by
 induction h with
 | @num n h=>rw[Ar];exact Cj (.num (AKG _) (jX _ _) (AIH h)) EX
 |tru=>rw[Ar];exact Cj (Dn (by decide)) EX
 |fls=>rw[Ar];exact Cj (Dn (by decide)) EX
 |nul=>rw[Ar];exact Cj (Dn (by decide)) EX
 |ths=>rw[Ar];exact Cj (Dn (by decide)) EX
 | @loc l h=>rw[Ar];exact Cj (AB1 h) EX
 | @get l a h ha ih=>rw[Ar];exact IU ih (Cj (ah (by decide)) (Cj (AB1 h) EX))
 | @call l a ks h ha hk hn ih ihk=>rw[Ar];exact IU ih (Cj (ah (by decide)) (Cj (AB1 h) (Cj (ah (by decide)) (IU (AQu ihk) (Cj (ah (by decide)) EX)))))
 | @stat l u ks h hu hk hn ihk=>rw[Ar];exact Cj (zC hu) (Cj (ah (by decide)) (Cj (AB1 h) (Cj (ah (by decide)) (IU (AQu ihk) (Cj (ah (by decide)) EX)))))
 | @new u hu=>rw[Ar];exact Cj (ah (by decide)) (Cj (Dn (by decide)) (Cj (zC hu) (Cj (ah (by decide)) EX)))
 | @arr u a hu ha ih=>rw[Ar];exact Cj (Dn (by decide)) (Cj (AAh hu) (Cj (ah (by decide)) (IU ih (Cj (ah (by decide)) EX))))
 | @elm a b ha hb iha ihb=>rw[Ar];exact IU iha (Cj (ah (by decide)) (IU ihb (Cj (ah (by decide)) EX)))
 | @len a ha ih=>rw[Ar];exact IU ih (Cj (ah (by decide)) (Cj (Dn (by decide)) EX))
 | @neg a ha ih=>rw[Ar];exact Cj (ah (by decide)) (Cj (ah (by decide)) (IU ih (Cj (ah (by decide)) EX)))
 | @not a ha ih=>rw[Ar];exact Cj (ah (by decide)) (Cj (ah (by decide)) (IU ih (Cj (ah (by decide)) EX)))
 | @bin o a b ho ha hb iha ihb=>rw[Ar];exact Cj (ah (by decide)) (IU iha (Cj (.mark (AFP ho)) (IU ihb (Cj (ah (by decide)) EX))))
 | @and a b ha hb iha ihb=>rw[Ar];exact Cj (ah (by decide)) (IU iha (Cj (ah (by decide)) (IU ihb (Cj (ah (by decide)) EX))))
 | @or a b ha hb iha ihb=>rw[Ar];exact Cj (ah (by decide)) (IU iha (Cj (ah (by decide)) (IU ihb (Cj (ah (by decide)) EX))))
 | @asx u a hu ha ih=>rw[Ar];exact Cj (ah (by decide)) (IU ih (Cj (Dn (by decide)) (Cj (zC hu) (Cj (ah (by decide)) EX))))
 | @isx u a hu ha ih=>rw[Ar];exact Cj (ah (by decide)) (IU ih (Cj (Dn (by decide)) (Cj (zC hu) (Cj (ah (by decide)) EX))))
theorem AHa{l:List St}(h:∀s∈l,WfL (Eh s)):WfL (MB (l.map Eh)):=Cj (ah (by decide)) (IU (ALq h) (Cj (ah (by decide)) EX))
theorem wfS{s:St}(h:WrS s):WfL (Eh s):=by
 have semi:WfL [M Aw]:=Cj (ah (by decide)) EX
 induction h with
 | @lt l ty e hl ht he=>rw[EU];exact Cj (Dn (by decide)) (IU (ALt ht) (Cj (AB1 hl) (Cj (ah (by decide)) (IU (wfE he) semi))))
 | @put a b ha hk hb=>rw[EU];exact IU (wfE ha) (Cj (ah (by decide)) (IU (wfE hb) semi))
 | @ask a ha hk=>rw[EU];exact IU (wfE ha) semi
 | @ret a ha=>rw[EU];exact Cj (Dn (by decide)) (IU (wfE ha) semi)
 | @prt a ha=>rw[EU];exact Cj (Dn (by decide)) (IU (wfE ha) semi)
 | @loop c th hc ht iht=>rw[EU];exact Cj (Dn (by decide)) (IU (wfE hc) (AHa iht))
 | @ite c th el hc ht he iht ihe=>
  rw[EU]
  refine Cj (Dn (by decide)) (IU (wfE hc) (IU (AHa iht) ?_))
  cases el with
  |nil=>exact EX
  |cons y el=>exact Cj (Dn (by decide)) (AHa ihe)
theorem wfM{m:Me}(h:WrM m):WfL (Qm m):=by
 unfold Qm
 refine IU ?_ (Cj (Dn (by decide)) (IU (ALt h.ret) (Cj (AB1 h.nm) (Cj (ah (by decide)) (IU (AQu λp hp=>IU (ALt (h.ps p hp).ty) (Cj (AB1 (h.ps p hp).nm) EX)) (Cj (ah (by decide)) (AHa λs hs=>wfS (h.body s hs))))))))
 cases m.st with
 |true=>exact Cj (Dn (by decide)) EX
 |false=>exact EX
theorem wfC{c:Cl}(h:WrC c):WfL (Rh c):=by
 unfold Rh
 refine Cj (Dn (by decide)) (Cj (zC h.nm) (IU ?_ (Cj (ah (by decide)) (IU (ALq λf hf=>Cj (Dn (by decide)) (IU (ALt (h.fs f hf).ty) (Cj (AB1 (h.fs f hf).nm) (Cj (ah (by decide)) EX)))) (IU (ALq λm hm=>wfM (h.ms m hm)) (Cj (ah (by decide)) EX))))))
 cases hs:c.sup.isEmpty with
 |true=>exact EX
 |false=>
  have hu:WO c.sup=true:=by
   rcases h.sup with h0|h0
   ·rw[h0]at hs;cases hs
   ·exact h0
  exact Cj (Dn (by decide)) (Cj (zC hu) EX)
theorem ANU{g:Nat->Bs}(hg:∀i,Gap (g i))(hf:∀i,∃c l,g i=c::l/\free c=true){x:Cl}(h:GC x)(h6:nC x<99000)(hl:(yS g 0 (Rh x++[Qi])).length<=65536):kE 200000 (yS g 0 (Rh x++[Qi]))=some (some x,0):=by
 have hw:=h.wr
 unfold kE
 rw[AMm (AI8 hg hf _ 0 (wfC hw)) hl]
 obtain⟨c',e,h1,h2,h3⟩:=ATH (f:=200000) hw (by omega) (by omega)
 have he:e=0:=by rcases h3 with h3|h3;exact h3.1;have:=h.dp;omega
 subst he
 show((AHE 200000 (Rh x++[Qi])).bind λp=>some (bif decide (p.2=0)then(some p.1,0)else(none,p.2)))=_
 rw[h1,h2 rfl];rfl
def TL:List Tok->Nat
 |[]=>0
 |t::ts=>t.text.length+TL ts
theorem PN:TL []=0:=rfl
theorem NT(t:Tok)(ts:List Tok):TL (t::ts)=t.text.length+TL ts:=rfl
theorem PU:∀a b:List Tok,TL (a++b)=TL a+TL b
 |[],b=>by rw[List.nil_append,PN,Nat.zero_add]
 |t::a,b=>by rw[List.cons_append,NT,NT,PU a b,Nat.add_assoc]
theorem tM(l:Bs):(M l).text.length=l.length:=rfl
theorem tW(l:Bs):(W l).text.length=l.length:=rfl
theorem tL'(l:Bs):(L l).text.length=l.length:=rfl
theorem tU(l:Bs):(U l).text.length=l.length:=rfl
theorem tN(l:Bs)(n:Nat):(N l n).text.length=l.length:=rfl
theorem tB(l:Bs):(U0 l).text.length=l.length:=by rw[uP]
theorem AVz{α:Type}{f:α->List Tok}{h:α->Bs}{l:List α}(hx:∀x∈l,TL (f x)<=(h x).length):TL (J8 (l.map f))<=(Hf (l.map h)).length:=by
 cases l with
 |nil=>exact Nat.zero_le _
 |cons a l=>
  have h1:=hx a (List.mem_cons_self ..)
  have:∀l:List α,(∀x∈l,TL (f x)<=(h x).length)->TL ((l.map f).flatMap λb=>M Ce::b)<=((l.map h).flatMap λb=>Ce++([32]++b)).length:=by
   intro l
   induction l with
   |nil=>intro _;exact Nat.zero_le _
   |cons c l ih=>
    intro hx
    have h2:=hx c (List.mem_cons_self ..)
    have h3:=ih λx h=>hx x (List.mem_cons_of_mem _ h)
    simp only[List.map_cons,List.flatMap_cons,PU,NT,tM,List.length_append];omega
  have h2:=this l λx h=>hx x (List.mem_cons_of_mem _ h)
  simp only[List.map_cons,J8,Hf,PU,List.length_append];omega
theorem ASG{α:Type}{f:α->List Tok}{h:α->Bs}:∀{l:List α},(∀x∈l,TL (f x)<=(h x).length)->TL (l.map f).flatten<=(l.map h).flatten.length
 |[],_=>Nat.zero_le _
 |a::l,hx=>by
  have h1:=hx a (List.mem_cons_self ..)
  have h2:=ASG (l:=l) λx h=>hx x (List.mem_cons_of_mem _ h)
  simp only[List.map_cons,List.flatten_cons,PU,List.length_append];omega
theorem AMk(t:Ty):TL (tyK t)<=(nG t).length:=by
 unfold tyK nG
 cases t.arr with
 |true=>show TL (U0 t.nm::[M GL,M F8])<=(t.nm++(GL++F8)).length;simp only[NT,PN,tB,tM,List.length_append];omega
 |false=>show TL [U0 t.nm]<=t.nm.length;simp only[NT,PN,tB];omega
theorem tlE{e:Ex}(h:Wr e):TL (tokE e)<=(textE e).length:=by
 induction h with
 | @num n h=>rw[Ar,Ad];show TL ([N (Yo n) n])<=(Yo n).length;simp only[PU,NT,PN,tM,tW,tL',tU,tN,tB,List.length_append];omega
 |tru=>rw[Ar,Ad];show TL ([W Vm])<=(Vm).length;simp only[PU,NT,PN,tM,tW,tL',tU,tN,tB,List.length_append];omega
 |fls=>rw[Ar,Ad];show TL ([W RG])<=(RG).length;simp only[PU,NT,PN,tM,tW,tL',tU,tN,tB,List.length_append];omega
 |nul=>rw[Ar,Ad];show TL ([W Qh])<=(Qh).length;simp only[PU,NT,PN,tM,tW,tL',tU,tN,tB,List.length_append];omega
 |ths=>rw[Ar,Ad];show TL ([W WH])<=(WH).length;simp only[PU,NT,PN,tM,tW,tL',tU,tN,tB,List.length_append];omega
 | @loc l h=>rw[Ar,Ad];show TL ([L l])<=(l).length;simp only[PU,NT,PN,tM,tW,tL',tU,tN,tB,List.length_append];omega
 | @get l a h ha ih=>rw[Ar,Ad];show TL (tokE a++[M DI,L l])<=(textE a++(DI++l)).length;simp only[PU,NT,PN,tM,tW,tL',tU,tN,tB,List.length_append];omega
 | @call l a ks h ha hk hn ih ihk=>rw[Ar,Ad];have:=AVz ihk;show TL (tokE a++M DI::L l::M BG::(J8 (ks.map tokE)++[M BH]))<=(textE a++(DI++(l++(BG++(Hf (ks.map textE)++BH))))).length;simp only[PU,NT,PN,tM,tW,tL',tU,tN,tB,List.length_append];omega
 | @stat l u ks h hu hk hn ihk=>rw[Ar,Ad];have:=AVz ihk;show TL (U u::M DI::L l::M BG::(J8 (ks.map tokE)++[M BH]))<=(u++(DI++(l++(BG++(Hf (ks.map textE)++BH))))).length;simp only[PU,NT,PN,tM,tW,tL',tU,tN,tB,List.length_append];omega
 | @new u hu=>rw[Ar,Ad];show TL ([M BG,W Ih,U u,M BH])<=(BG++(Ih++([32]++(u++BH)))).length;simp only[PU,NT,PN,tM,tW,tL',tU,tN,tB,List.length_append];omega
 | @arr u a hu ha ih=>rw[Ar,Ad];show TL (W Ih::U0 u::M GL::(tokE a++[M F8]))<=(Ih++([32]++(u++(GL++(textE a++F8))))).length;simp only[PU,NT,PN,tM,tW,tL',tU,tN,tB,List.length_append];omega
 | @elm a b ha hb iha ihb=>rw[Ar,Ad];show TL (tokE a++M GL::(tokE b++[M F8]))<=(textE a++(GL++(textE b++F8))).length;simp only[PU,NT,PN,tM,tW,tL',tU,tN,tB,List.length_append];omega
 | @len a ha ih=>rw[Ar,Ad];show TL (tokE a++[M DI,W Hr])<=(textE a++(DI++Hr)).length;simp only[PU,NT,PN,tM,tW,tL',tU,tN,tB,List.length_append];omega
 | @neg a ha ih=>rw[Ar,Ad];show TL (M BG::M Dv::(tokE a++[M BH]))<=(BG++(Dv++(textE a++BH))).length;simp only[PU,NT,PN,tM,tW,tL',tU,tN,tB,List.length_append];omega
 | @not a ha ih=>rw[Ar,Ad];show TL (M BG::M Iq::(tokE a++[M BH]))<=(BG++(Iq++(textE a++BH))).length;simp only[PU,NT,PN,tM,tW,tL',tU,tN,tB,List.length_append];omega
 | @bin o a b ho ha hb iha ihb=>rw[Ar,Ad];show TL (M BG::(tokE a++M o::(tokE b++[M BH])))<=(BG++(textE a++([32]++(o++([32]++(textE b++BH)))))).length;simp only[PU,NT,PN,tM,tW,tL',tU,tN,tB,List.length_append];omega
 | @and a b ha hb iha ihb=>rw[Ar,Ad];show TL (M BG::(tokE a++M NP::(tokE b++[M BH])))<=(BG++(textE a++([32]++(NP++([32]++(textE b++BH)))))).length;simp only[PU,NT,PN,tM,tW,tL',tU,tN,tB,List.length_append];omega
 | @or a b ha hb iha ihb=>rw[Ar,Ad];show TL (M BG::(tokE a++M YQ::(tokE b++[M BH])))<=(BG++(textE a++([32]++(YQ++([32]++(textE b++BH)))))).length;simp only[PU,NT,PN,tM,tW,tL',tU,tN,tB,List.length_append];omega
 | @asx u a hu ha ih=>rw[Ar,Ad];show TL (M BG::(tokE a++[W SX,U u,M BH]))<=(BG++(textE a++([32]++(SX++([32]++(u++BH)))))).length;simp only[PU,NT,PN,tM,tW,tL',tU,tN,tB,List.length_append];omega
 | @isx u a hu ha ih=>rw[Ar,Ad];show TL (M BG::(tokE a++[W QU,U u,M BH]))<=(BG++(textE a++([32]++(QU++([32]++(u++BH)))))).length;simp only[PU,NT,PN,tM,tW,tL',tU,tN,tB,List.length_append];omega
theorem AHV{t:Nat}{l:List St}(h:∀s∈l,TL (Eh s)<=(textS (t+1) s).length):TL (MB (l.map Eh))<=(HY t (l.map (textS (t+1)))).length:=by
 have:=ASG h
 unfold MB HY
 simp only[PU,NT,PN,tM,List.length_append];omega
theorem tlS{s:St}(h:WrS s):∀t,TL (Eh s)<=(textS t s).length:=by
 induction h with
 | @lt l ty a hl ht ha=>intro t;have:=tlE ha;have:=AMk ty;rw[EU,DT];show TL (W O0::(tyK ty++L l::M EG::(tokE a++[M Aw])))<=(tabs t++(O0++([32]++(nG ty++([32]++(l++([32]++(EG++([32]++(textE a++(Aw++[10]))))))))))).length;simp only[PU,NT,PN,tM,tW,tL',tU,tN,tB,List.length_append];omega
 | @put a b ha hk hb=>intro t;have:=tlE ha;have:=tlE hb;rw[EU,DT];show TL (tokE a++M EG::(tokE b++[M Aw]))<=(tabs t++(textE a++([32]++(EG++([32]++(textE b++(Aw++[10]))))))).length;simp only[PU,NT,PN,tM,tW,tL',tU,tN,tB,List.length_append];omega
 | @ask a ha hk=>intro t;have:=tlE ha;rw[EU,DT];show TL (tokE a++[M Aw])<=(tabs t++(textE a++(Aw++[10]))).length;simp only[PU,NT,PN,tM,tW,tL',tU,tN,tB,List.length_append];omega
 | @ret a ha=>intro t;have:=tlE ha;rw[EU,DT];show TL (W Eo::(tokE a++[M Aw]))<=(tabs t++(Eo++([32]++(textE a++(Aw++[10]))))).length;simp only[PU,NT,PN,tM,tW,tL',tU,tN,tB,List.length_append];omega
 | @prt a ha=>intro t;have:=tlE ha;rw[EU,DT];show TL (W Fp::(tokE a++[M Aw]))<=(tabs t++(Fp++([32]++(textE a++(Aw++[10]))))).length;simp only[PU,NT,PN,tM,tW,tL',tU,tN,tB,List.length_append];omega
 | @loop a th ha ht iht=>intro t;have:=tlE ha;have:=AHV (t:=t) λs hs=>iht s hs (t+1);rw[EU,DT];show TL (W Fe::(tokE a++MB (th.map Eh)))<=(tabs t++(Fe++([32]++(textE a++([32]++(HY t (th.map (textS (t+1)))++[10])))))).length;simp only[PU,NT,PN,tM,tW,tL',tU,tN,tB,List.length_append];omega
 | @ite a th el ha ht he iht ihe=>
  intro t
  have:=tlE ha
  have:=AHV (t:=t) λs hs=>iht s hs (t+1)
  have h2:=AHV (t:=t) λs hs=>ihe s hs (t+1)
  rw[EU,DT]
  have h3:TL (bif (el.map Eh).isEmpty then[]else W EL::MB (el.map Eh))<=(bif (el.map (textS (t+1))).isEmpty then([]:Bs)else[32]++(EL++([32]++HY t (el.map (textS (t+1)))))).length:=by
   cases el with
   |nil=>exact Nat.zero_le _
   |cons y el=>show TL (W EL::MB ((y::el).map Eh))<=([32]++(EL++([32]++HY t ((y::el).map (textS (t+1)))))).length;simp only[NT,tW,List.length_append];omega
  show TL (W Jr::(tokE a++(MB (th.map Eh)++bif (el.map Eh).isEmpty then[]else W EL::MB (el.map Eh))))<=(tabs t++(Jr++([32]++(textE a++([32]++(HY t (th.map (textS (t+1)))++((bif (el.map (textS (t+1))).isEmpty then[]else[32]++(EL++([32]++HY t (el.map (textS (t+1))))))++[10]))))))).length
  simp only[PU,NT,PN,tW,List.length_append];omega
theorem tlM{m:Me}(h:WrM m):TL (Qm m)<=(UK m).length:=by
 have h1:=AHV (t:=1) λs hs=>tlS (h.body s hs) 2
 have h2:=AMk m.ret
 have h3:=AVz (l:=m.ps) (f:=aX) (h:=iw) λp _=>by
  have:=AMk p.ty
  unfold aX iw
  simp only[PU,NT,PN,tL',List.length_append];omega
 have h4:TL (bif m.st then[W F9]else[])<=(bif m.st then F9++[32]else([]:Bs)).length:=by
  cases m.st with
  |true=>show TL [W F9]<=(F9++[32]).length;simp only[NT,PN,tW,List.length_append];omega
  |false=>exact Nat.zero_le _
 have h5:(HY 1 (m.body.map (textS (1+1)))).length=(HY 1 (m.body.map (textS 2))).length:=rfl
 unfold Qm UK
 simp only[PU,NT,PN,tM,tW,tL',List.length_append];omega
theorem tlC{c:Cl}(h:WrC c):TL (Rh c)<=(XY c).length:=by
 have h1:=ASG (l:=c.ms) (f:=Qm) (h:=UK) λm hm=>tlM (h.ms m hm)
 have h2:=ASG (l:=c.fs) (f:=Xf) (h:=L8) λf _=>by
  have:=AMk f.ty
  unfold Xf L8
  simp only[PU,NT,PN,tM,tW,tL',List.length_append];omega
 have h3:TL (bif c.sup.isEmpty then[]else[W Fv,U c.sup])<=(bif c.sup.isEmpty then([]:Bs)else[32]++(Fv++([32]++c.sup))).length:=by
  cases c.sup.isEmpty with
  |true=>exact Nat.zero_le _
  |false=>show TL [W Fv,U c.sup]<=([32]++(Fv++([32]++c.sup))).length;simp only[NT,PN,tW,tU,List.length_append];omega
 unfold Rh XY
 simp only[PU,NT,PN,tM,tW,tU,List.length_append];omega
theorem AMj:∀{ts:List Tok},WfL ts->ts.length<=TL ts
 |[],_=>Nat.le_refl _
 |t::ts,h=>by
  have h1:=(h t (List.mem_cons_self ..)).ne
  have h2:=AMj λx hx=>h x (List.mem_cons_of_mem _ hx)
  rw[NT,List.length_cons];omega
def AJj:List Bs:=[[32],[10],[9,47,47,32,120,10],[32,13,10,32]]
def AQN(a:Nat)(i:Nat):Nat:=aj (.ofNat (a+i)) 3
def uh(a:Nat)(i:Nat):Bs:=(AJj[AQN a i]?).getD [32]
theorem AMe(a i:Nat):AQN a i<=3:=(TP _ (m:=3) (by omega)).2
theorem xW(a i:Nat):uh a i=[32]∨uh a i=[10]∨uh a i=[9,47,47,32,120,10]∨uh a i=[32,13,10,32]:=by
 unfold uh
 have h:=AMe a i
 generalize AQN a i=j at h
 match j,h with
 |0,_=>exact .inl rfl
 |1,_=>exact .inr (.inl rfl)
 |2,_=>exact .inr (.inr (.inl rfl))
 |3,_=>exact .inr (.inr (.inr rfl))
theorem AQg(a i:Nat):Gap (uh a i):=by
 rcases xW a i with h|h|h|h<;>rw[h]
 ·exact Vu
 ·exact jC (by decide)
 ·exact AMv (a:=[9]) (jC (by decide)) (ASS (t:=[32,120]) (by decide))
 ·exact yF (by decide)
theorem ATx(a i:Nat):∃c l,uh a i=c::l/\free c=true:=by
 rcases xW a i with h|h|h|h<;>rw[h]<;>exact⟨_,_,rfl,by decide⟩
theorem AJH(a i:Nat):(uh a i).length<=6:=by
 rcases xW a i with h|h|h|h<;>rw[h]<;>decide
theorem AIy{g:Nat->Bs}(hg:∀i,(g i).length<=6):∀(ts:List Tok) (i:Nat),(yS g i ts).length<=6*ts.length+TL ts
 |[],i=>Nat.zero_le _
 |t::ts,i=>by
  have h1:=hg i
  have h2:=AIy hg ts (i+1)
  show(g i++(t.text++yS g (i+1) ts)).length<=_
  rw[NT]
  simp only[List.length_append,List.length_cons];omega
theorem AFO(g:Nat->Bs):∀(ts:List Tok) (i:Nat) (t:Tok),yS g i (ts++[t])=yS g i ts++(g (i+ts.length)++t.text)
 |[],i,t=>by show g i++(t.text++[])=[]++(g (i+0)++t.text);rw[List.append_nil];rfl
 |u::ts,i,t=>by
  show g i++(u.text++yS g (i+1) (ts++[t]))=(g i++(u.text++yS g (i+1) ts))++_
  rw[AFO g ts (i+1) t,List.length_cons,show i+1+ts.length=i+(ts.length+1)by omega]
  simp only[List.append_assoc]
theorem ASw(ts:List Tok)(j:Nat):TL (ts.take j)<=TL ts:=by
 have h:TL ts=TL (ts.take j)+TL (ts.drop j):=by rw[<-PU,List.take_append_drop]
 omega
section
variable{G:AV}{H:Heap}{n:Nat}{k:KV}
theorem AR1(hG:X4 G){b:Nat}{t:Bs}{c:LV}{x:Cl}{A:Nat->Prop}(gb:T.get H b=some (one c))(hb:b<n)(hx:XF G H A c x)(hA:∀id,A id->id<n)(hgc:GC x)(hN:nC x<99000)
 (ht:t.length<=65536->kE 200000 t=some (some x,0)) (hk:∀H' n',k (.bool true) H' n'):FU lfp G (Runs F G) k (.ptr b 0) (sB t) H n:=by
 show FU lfp G (Runs F G) k (.ptr b 0) (sB t) H n
 delta FU
 rcases Nat.lt_or_ge 65536 t.length with hlen|hlen
 ·refine AGc hG (ANb hlen) λH8 n8 c8 ft f8 hc hf=>?_
  have hc:c8=clZ:=hc
  subst hc
  obtain⟨line,col,rfl,_,_⟩:=hf
  rw[wG,Au,wz,Au]
  refine Az rfl λH9 f9 g9=>?_
  refine Az rfl λH10 f10 g10=>?_
  have g9:=f10.get g9 (by omega)
  refine CG g9 rfl rfl (by omega) λH11 g11 s11=>?_
  have g10:=(s11 (n8+1) (by omega)).trans g10
  refine CG (L:=aV 4 line col) g10 rfl rfl (by omega) λH12 g12 s12=>?_
  refine AB (O8 _) (AB (Ls ..) ?_)
  rw[decide_eq_true hlen]
  repeat (first|with_reducible refine yu ?_|with_reducible refine AAe ?_|with_reducible refine AAH ?_)
  first|exact hk _ _|(simp only[go_sem];exact hk _ _)
 ·refine AGc hG (ht hlen) λH8 n8 c8 ft f8 hc hf=>?_
  have hc8:XF G H8 (Rg n n8) c8 x:=hc.1
  obtain⟨line,col,rfl,_,hz⟩:=hf
  obtain⟨rfl,rfl⟩:=hz rfl
  have hn8:=f8.le
  have g8:=f8.get gb hb
  have hx8:XF G H8 A c x:=hx.mono (λ_ h=>h) λid h=>f8.same id (hA id h)
  rw[wG,Au,wz,Au]
  refine Az rfl λH9 f9 g9=>?_
  refine Az rfl λH10 f10 g10=>?_
  have g9:=f10.get g9 (by omega)
  refine CG g9 rfl hc8.len (by omega) λH11 g11 s11=>?_
  have g10:=(s11 (n8+1) (by omega)).trans g10
  refine CG (L:=aV 0 0 0) g10 rfl rfl (by omega) λH12 g12 s12=>?_
  have g11:=(s12 n8 (by omega)).trans g11
  have same:∀id,id<n8->T.get H12 id=T.get H8 id:=λid hid=>(s12 id (by omega)).trans ((s11 id (by omega)).trans ((f10.same id (by omega)).trans (f9.same id hid)))
  have g12x:=(same b (by omega)).trans g8
  refine AB (O8 _) (AB (Ls ..) ?_)
  rw[decide_eq_false (by omega)]
  have q1:BF 3 (.ptr (n8+1) 0) G H12=some (.agg (aV 0 0 0)):=Ai (m:=3) g12 (by omega) rfl
  have q2:BF 6 (.ptr n8 0) G H12=some (.agg c8):=Ai (m:=6) g11 (by omega) hc8.len
  have q3:BF 6 (.ptr b 0) G H12=some (.agg c):=Ai (m:=6) g12x (by omega) hx.len
  simp only[go_sem,q1,q2,q3,AKq,AS3]
  refine ASR (hc8.mono (λ_ h=>h) λid h=>same id h.2) (hx8.mono (λ_ h=>h) λid h=>same id (by have:=hA id h;omega)) (λid h=>by have:=h.2;omega) (λid h=>by have:=hA id h;omega) (by omega) λH13 n13 f13=>?_
  first|exact hk _ _|(simp only[go_sem];exact hk _ _)
end
section
variable{G:AV}{H:Heap}{n:Nat}{k:KV}
theorem AFE(hG:X4 G)(hP:kM G)(hS:ADk G){L:LV}{gap:Int}(hL:XC G L)(hk:∀H' n',k (.bool true) H' n'):Runs F G iq [.agg L,.int .i64 gap 0] H n k:=by
 have hLl:L.length=6:=by cases hL;rfl
 refine Am (s:=QD (KC lfp G)) Nu (by obtain⟨h,o⟩:=eu Ap G;rw[Nu]at h;cases h;exact o) ?_
 show KC lfp G (Runs F G) (.agg L) (.int .i64 gap 0) H n k
 delta KC
 refine Dk λH1 f1 g1=>?_
 refine AVk hG hS λH2 n2 f2=>?_
 have g1:=f2.get g1 (by omega)
 have hn2:=f2.le
 rw[MF,Au,Bool.not_true,Aq]
 refine AB (Ai (m:=6) g1 (by omega) hLl) ?_
 refine ALN hL λH3 n3 b f3 hb=>?_
 have g1:=f3.get g1 (by omega)
 have hn3:=f3.le
 rw[MF,Au]
 cases b with
 |false=>rw[Bool.not_false,Ah];exact hk _ _
 |true=>
 rw[Bool.not_true,Aq]
 refine AB (Ai (m:=6) g1 (by omega) hLl) ?_
 refine AKH hS hL (hb rfl) λH4 n4 c x f4 hgc hx=>?_
 have hn4:=f4.le
 refine Az rfl λH5 f5 g5=>?_
 refine CG g5 rfl hx.len (by omega) λH6 g6 s6=>?_
 have f6:Kp H4 n4 H6 (n4+1):=⟨f5.le,λid hid=>(s6 id (by omega)).trans (f5.same id hid)⟩
 have hx6:XF G H6 (Rg n3 n4) c x:=hx.mono (λ_ h=>h) λid h=>f6.same id h.2
 refine AB (Ai (m:=6) g6 (by omega) hx.len) ?_
 refine AIX hP hx6 (λid h=>by have:=h.2;omega) hgc.wr (AOK hgc) λH7 n7 f7=>?_
 have hn7:=f7.le
 have g7:=f7.get g6 (by omega)
 have hx7:XF G H7 (Rg n3 n4) c x:=hx6.mono (λ_ h=>h) λid h=>f7.same id (by have:=h.2;omega)
 refine AU0 hG ?_
 intro H8 n8 v ft f8 h0 h1
 have hn8:=f8.le
 have g8:=f8.get g7 (by omega)
 have hx8:XF G H8 (Rg n3 n4) c x:=hx7.mono (λ_ h=>h) λid h=>f8.same id (by have:=h.2;omega)
 rw[wG,Au,wz,Au]
 rcases Nat.lt_or_ge 65536 (XY x).length with hlen|hlen
 ·have e:zV (XY x)=(4,[]):=by unfold zV;rw[decide_eq_true hlen];rfl
  rw[e]at h0 h1
  obtain⟨line,col,_,_,rfl⟩:=h1 (by decide)
  refine Az rfl λH9 f9 g9=>?_
  refine CG (L:=aV 4 line col) g9 rfl rfl (by omega) λH10 g10 s10=>?_
  have f10:Kp H8 n8 H10 (n8+1):=⟨f9.le,λid hid=>(s10 id (by omega)).trans (f9.same id hid)⟩
  have g8:=f10.get g8 (by omega)
  have hx10:XF G H10 (Rg n3 n4) c x:=hx8.mono (λ_ h=>h) λid h=>f10.same id (by have:=h.2;omega)
  refine AB (AZ ..) (AB (v:=.int .i64 (.ofNat 4) 0) (AQ g10 rfl) ?_)
  rw[YX,Au,decide_eq_false (by omega),Bool.not_false,Ah]
  refine AB (AZ ..) (AB (v:=.int .i64 (.ofNat 4) 0) (AQ g10 rfl) ?_)
  rw[Xx,Au,decide_eq_true rfl]
  have q3:BF 6 (.ptr n4 0) G H10=some (.agg c):=Ai (m:=6) g8 (by omega) hx.len
  simp only[go_sem,q3]
  refine AIX hP hx10 (λid h=>by have:=h.2;omega) hgc.wr (AOK hgc) λH11 n11 f11=>?_
  simp only[go_sem,O8,Ls,decide_eq_true hlen]
  first|exact hk _ _|(simp only[go_sem];exact hk _ _)
 have hw:=hgc.wr
 have e:zV (XY x)=(0,Rh x++[Qi]):=AMm (AOA hw) hlen
 rw[e]at h0 h1
 obtain⟨⟨cs,tid,rfl,ht1,ht2,hel,htk⟩,rfl⟩:=h0 rfl
 have hN:nC x<99000:=by have:=APy hw;omega
 have hTL:TL (Rh x++[Qi])<=65536:=by
  have:=tlC hw
  rw[PU,NT,PN,show Qi.text.length=0 from rfl];omega
 have hTn:(Rh x++[Qi]).length<=65537:=by
  have h1:=AMj (wfC hw)
  have h2:=tlC hw
  rw[List.length_append];show _+1<=_;omega
 have hgap:=λa=>ANU (AQg a) (ATx a) hgc hN
 generalize Rh x++[Qi]=ts at htk hTL hTn hgap
 refine Az rfl λH9 f9 g9=>?_
 refine CG (L:=aV 0 0 0) g9 rfl rfl (by omega) λH10 g10 s10=>?_
 have f10:Kp H8 n8 H10 (n8+1):=⟨f9.le,λid hid=>(s10 id (by omega)).trans (f9.same id hid)⟩
 refine AB (AZ ..) (AB (v:=.int .i64 (.ofNat 0) 0) (AQ g10 rfl) ?_)
 rw[YX,Au,decide_eq_true rfl,Bool.not_true,Aq]
 refine dW (G:=G) (ws:=AJj) rfl λH11 f11 hgw=>?_
 have f11:=f10.trans f11
 have g11:=f11.get g8 (by omega)
 have AaS:XF G H11 (Rg n3 n4) c x:=hx8.mono (λ_ h=>h) λid h=>f11.same id (by have:=h.2;omega)
 have AD0:El G H11 (.O5 tid 0 cs.length 5) 5 cs:=hel.same λid hid=>f11.same id (by cases jq hid;exact ht2)
 have hcl:cs.length=ts.length:=htk.len
 refine AB AD0.len ?_
 rw[hcl]
 rw[hcl]at AD0
 have ha:=AB6 gap (m:=255) (by omega)
 have hu:aj gap 255<=255:=(TP gap (m:=255) (by omega)).2
 generalize aj gap 255=a at ha hu
 refine EP (N:=ts.length) (J:=λj q=>∃H' n',q=(.int .i64 gap 0,.ptr n4 0,.sl (n8+1) 0 4 4 1,sB (yS (uh a) 0 (ts.take j)),.O5 tid 0 ts.length 5,.int .i64 (.ofNat ts.length) 0,.int .i64 (.ofNat j) 0,H',n')/\Kp H11 (n8+1+1) H' n') ?_ ?_ ⟨H11,_,rfl,Kp.refl ..⟩
 ·rintro I j q hlt ⟨H12,n12,rfl,f12⟩ ih
  show FN lfp G (Runs F G) k I (.int .i64 gap 0) (.ptr n4 0) (.sl (n8+1) 0 4 4 1) (sB (yS (uh a) 0 (ts.take j))) (.O5 tid 0 ts.length 5) (.int .i64 (.ofNat ts.length) 0) (.int .i64 (.ofNat j) 0) H12 n12
  delta FN
  have hn12:=f12.le
  have hel12:El G H12 (.O5 tid 0 ts.length 5) 5 cs:=AD0.kp (λid hid=>by cases jq hid;omega) f12
  have hgw12:El G H12 (.sl (n8+1) 0 4 4 1) 1 (wsC AJj):=hgw.kp (λid hid=>by cases Em hid;omega) f12
  obtain⟨cx,hcx,line,col,_,_,hcxe⟩:=htk.at (List.getElem?_eq_getElem hlt)
  obtain⟨p,hp,hld⟩:=hel12.at hcx
  rw[ES,Au,decide_eq_true hlt,Ah]
  refine AB hp (AB (Jl hld) ?_)
  refine Az rfl λH13 f13 g13=>?_
  refine CG g13 rfl (by rw[hcxe];rfl) (by omega) λH14 g14 s14=>?_
  have f14:Kp H12 n12 H14 (n12+1):=⟨f13.le,λid hid=>(s14 id (by omega)).trans (f13.same id hid)⟩
  have hgw14:El G H14 (.sl (n8+1) 0 4 4 1) 1 (wsC AJj):=hgw12.kp (λid hid=>by cases Em hid;omega) f14
  refine AB ha (AB (Ef (by omega)) (AB (AB6 _ (m:=3) (by omega)) ?_))
  have h3:=AMe a j
  have hgx:(wsC AJj)[AQN a j]? =some [sB (uh a j)]:=by
   unfold uh
   generalize AQN a j=i at h3
   match i,h3 with
   |0,_=>rfl
   |1,_=>rfl
   |2,_=>rfl
   |3,_=>rfl
  obtain⟨p2,hp2,hld2⟩:=hgw14.at hgx
  refine AB hp2 (AB (aI hld2) ?_)
  have hl1:=AIy (AJH a) (ts.take j) 0
  have hl2:=ASw ts (j+1)
  rw[List.take_succ_eq_append_getElem hlt,PU,NT,PN]at hl2
  have hl3:(ts.take j).length<=65537:=by rw[List.length_take];omega
  have hl4:=AJH a j
  refine AB (BX (by omega)) ?_
  refine AB (AZ ..) (AB (v:=sB ts[j].text) (AQ g14 (by rw[hcxe];rfl)) ?_)
  refine AB (BX (by rw[List.length_append];omega)) (AB (Ef (by omega)) ?_)
  have e2:yS (uh a) 0 (ts.take j)++uh a j++ts[j].text=yS (uh a) 0 (ts.take (j+1)):=by
   rw[List.take_succ_eq_append_getElem hlt,AFO,List.append_assoc,Nat.zero_add,List.length_take,Nat.min_eq_left (by omega)]
  rw[e2]
  exact ih _ ⟨H14,n12+1,rfl,f12.trans f14⟩
 ·rintro I q ⟨H12,n12,rfl,f12⟩
  show FN lfp G (Runs F G) k I (.int .i64 gap 0) (.ptr n4 0) (.sl (n8+1) 0 4 4 1) (sB (yS (uh a) 0 (ts.take ts.length))) (.O5 tid 0 ts.length 5) (.int .i64 (.ofNat ts.length) 0) (.int .i64 (.ofNat ts.length) 0) H12 n12
  delta FN
  rw[ES,Au,decide_eq_false (Nat.lt_irrefl _),Aq,List.take_length]
  have hn12:=f12.le
  exact AR1 hG (f12.get g11 (by omega)) (by omega) (AaS.mono (λ_ h=>h) λid h=>f12.same id (by have:=h.2;omega)) (λid h=>by have:=h.2;omega) hgc hN (hgap a) hk
end
end Go.PQ
