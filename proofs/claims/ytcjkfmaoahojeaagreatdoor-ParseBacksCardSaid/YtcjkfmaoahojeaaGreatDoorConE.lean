/- Part of a proof; nothing is assumed. -/
import Derived.Test.YtcjkfmaoahojeaaGreatDoorConD
import Derived.Test.YtcjkfmaoahojeaaGreatDoorLawA
import Derived.Test.YtcjkfmaoahojeaaGreatDoorWalk
import Derived.Test.YtcjkfmaoahojeaaGreatDoorConC
set_option linter.unusedVariables false
set_option linter.unusedSimpArgs false
namespace Go.PQ
open Go.Eng
set_option maxRecDepth 100000
def xsC(does l c:Int)(nm ty:Bs)(ar:Bool)(ve vt vl:V):LV:=[.int .i64 does 0,.int .i64 l 0,.int .i64 c 0,sB nm,sB ty,.bool ar,ve,vt,vl]
inductive XS(G:AV):LV->Prop where
 |mk {does l c:Int} {nm ty:Bs} {ar:Bool} {ve vt vl:V} {es ts ls:Dv} (hn:nm.length<=bigS) (ht:ty.length<=bigS) (he:∀H,El G H ve 11 es) (hel:es.length<9223372036854775808) (hek:∀L∈es,XE G L)
  (hth:∀H,El G H vt 9 ts) (htl:ts.length<9223372036854775808) (htk:∀L∈ts,XS G L) (hls:∀H,El G H vl 9 ls) (hll:ls.length<9223372036854775808) (hlk:∀L∈ls,XS G L):XS G (xsC does l c nm ty ar ve vt vl)
theorem XS.len{G:AV}{L:LV}(h:XS G L):L.length=9:=by cases h;rfl
def FwS(G:AV):Nat->Dv->Prop
 |0,LS=>LS.length<=10
 |m+1,LS=>LS.length<=10/\∀L∈LS,∀vt vl ts ls,L[7]? =some vt->L[8]? =some vl->(∀H,El G H vt 9 ts)->(∀H,El G H vl 9 ls)->FwS G m ts/\FwS G m ls
theorem FwS.len{G:AV}{m:Nat}{LS:Dv}(h:FwS G m LS):LS.length<=10:=by
 cases m with
 |zero=>exact h
 |succ m=>exact h.1
theorem AHd{G:AV}{H:Heap}{id m z n:Nat}{t:T LV}{c c':LV}{cs:Dv}{P:KV}(hz:0<z)(hg:T.get H id=some (.arr z m t))(h:El G H (.sl id 0 m m z) z (c::cs))(hn:c'.length=z)
 (hk:∀H',El G H' (.sl id 0 m m z) z (c'::cs)->(∀j,j≠id->T.get H' j=T.get H j)->P .undef H' n):CQ z (.ptr id 0) (.agg c') H n P:=by
 have h2:(Bool.rec (motive:=λ_=>Option Dv) none (DF H id z m 0) (Nat.beq z z):Option Dv)=some (c::cs):=h.2
 rw[Eh]at h2
 have h2:DF H id z m 0=some (c::cs):=h2
 obtain⟨hl,hat⟩:=O6 _ _ h2
 simp only[List.length_cons]at hl
 have get:∀i L,(c::cs)[i]? =some L->T.get t i=some L:=λi L hi=>by
  have hlt:=(List.getElem?_eq_some_iff.1 hi).1
  simp only[List.length_cons]at hlt
  have:=hat i L hi
  rw[Nat.zero_add,AAN hg hz (by omega)]at this
  exact this
 rw[show V.ptr id 0=.ptr id (0*z)by rw[Nat.zero_mul]]
 refine AUO hg hz (by omega) (get 0 c rfl) rfl hn λH' g s=>hk H' ⟨rfl,?_⟩ s
 show(Bool.rec (motive:=λ_=>Option Dv) none (DF H' id z m 0) (Nat.beq z z):Option Dv)=some (c'::cs)
 rw[Eh]
 refine gV m 0 (c'::cs) (by simp only[List.length_cons];omega) λi L hi=>?_
 have hlt:=(List.getElem?_eq_some_iff.1 hi).1
 simp only[List.length_cons]at hlt
 rw[Nat.zero_add,AAN g hz (by omega)]
 cases i with
 |zero=>
  simp at hi;subst hi
  exact T.C9 ..
 |succ i=>
  rw[T.Au _ _ (by omega)]
  exact get (i+1) L (by simpa using hi)
structure Qt(H1:Heap)(n1:Nat)(L:LV)(H:Heap)(n:Nat)(out:LV):Prop where
 f:Kp H1 n1 H n
 lt:n1+2<=n
 ge:T.get H n1=some (one L)
 go:T.get H (n1+1)=some (one out)
theorem Qt.fr{H1 H H':Heap}{n1 n n':Nat}{L out:LV}(x:Qt H1 n1 L H n out)(hn:n<=n')(hs:∀id,id<n1+2->T.get H' id=T.get H id):Qt H1 n1 L H' n' out:=by
 have h1:=x.f.le
 have h2:=x.lt
 exact⟨⟨by omega,λid hid=>(hs id (by omega)).trans (x.f.same id hid)⟩,by omega,(hs _ (by omega)).trans x.ge,(hs _ (by omega)).trans x.go⟩
theorem Qt.kp{H1 H H':Heap}{n1 n n':Nat}{L out:LV}(x:Qt H1 n1 L H n out)(f:Kp H n H' n'):Qt H1 n1 L H' n' out:=x.fr f.le λid hid=>f.same id (by have:=x.lt;omega)
theorem rE{H1 H:Heap}{n1 n o m:Nat}{L out:LV}{v:V}{P:KV}(x:Qt H1 n1 L H n out)(hv:jq v=true)(hl:(Cb v).length=m)(hm:0<m)(ho:o+m<=out.length)
 (hk:∀H',Qt H1 n1 L H' n (out.take o++(Cb v++out.drop (o+m)))->(∀j,j≠n1+1->T.get H' j=T.get H j)->P .undef H' n):AP (AU o (.ptr (n1+1) 0)) λp=>CQ m p v H n P:=by
 refine AB (v:=.ptr (n1+1) o) (by rw[Aa,Nat.zero_add]) ?_
 refine Eb x.go hv hl hm ho λH' g s=>hk H' ?_ s
 exact⟨⟨x.f.le,λid hid=>(s id (by omega)).trans (x.f.same id hid)⟩,x.lt,(s _ (by omega)).trans x.ge,g⟩
theorem neI{k i:Nat}{P:V->Prop}(h:P (.bool (!decide (k=i)))):AP (EU (.one .int) true (.int .i64 (.ofNat k) 0) (.int .i64 (.ofNat i) 0)) P:=by rw[ZR];exact h
section
variable{G:AV}{H:Heap}{n:Nat}{k:KV}
theorem AVM{i b:Nat}{L:LV}(hL:XS G L)(hb:T.get H b=some (one L))(hbn:b<n)(hk:RtK G H n 5 k):Runs F G EH [.int .i64 (.ofNat i) 0,.ptr b 0] H n k:=by
 refine Am (s:=QS (OE lfp G)) Q9 (by obtain⟨h,o⟩:=oH Ap G;rw[Q9]at h;cases h;exact o) ?_
 show OE lfp G (Runs F G) (.int .i64 (.ofNat i) 0) (.ptr b 0) H n k
 delta OE
 refine Az rfl λH1 f1 g1=>?_
 have hb:=f1.get hb hbn
 cases hL with
 | @mk does l c nm ty ar ve vt vl es ts ls hn ht he hel hek hth htl htk hls hll hlk=>
 have q:AX (.ptr b (0+6)) G H1=some ve:=AQ hb rfl
 refine AB (Aa ..) (AB q (AB (he H1).len (AB (ES ..) ?_)))
 cases hz:decide (i<es.length)with
 |true=>
  have hz:=of_decide_eq_true hz
  rw[Ah]
  obtain⟨p,hp,hld⟩:=(he H1).at (List.getElem?_eq_getElem hz)
  refine AB (Aa ..) (AB q (AB hp (AB (J3 hld) ?_)))
  refine AS2 (hek _ (List.getElem_mem hz)) λH2 n2 c2 e2 f2 hg hx=>?_
  have g2:=f2.get g1 (by omega)
  refine CB g2 rfl hx.len (by omega) λH3 g3 s3=>?_
  rw[DU (m:=11) g3 (by omega) hx.len]
  simp only[go_sem]
  have hn2:=f2.le
  exact hk _ _ _ _ ⟨by omega,λid hid=>(s3 id (by omega)).trans ((f2.same id (by omega)).trans (f1.same id hid))⟩ hg (hx.mono (λid h=>⟨by have:=h.1;omega,h.2⟩) λid h=>s3 id (by have:=h.1;omega))
 |false=>
  rw[Aq]
  refine AB (v:=.agg (TF 1 3 [] [] false 0 0 .Ad)) rfl ?_
  refine CB g1 rfl rfl (by omega) λH2 g2 s2=>?_
  rw[DU (m:=11) g2 (by omega) rfl]
  simp only[go_sem]
  exact hk _ _ _ _ ⟨by omega,λid hid=>(s2 id (by omega)).trans (f1.same id hid)⟩ (AP7.mono (Nat.zero_le _)) (.mk 1 3 [] [] false 0 0 wH cO (λid h=>by cases h) .nil)
theorem sg1{H1:Heap}{n1:Nat}{L:LV}{does line col:Nat}{nm:Bs}{ty:Ty}{vt vl:V}{Z:LV}{Q:KV}(x:Qt H1 n1 L H n (eu does line col nm ty .Ad vt vl))(hL:XS G L)
 (hk:∀H' n' m e c,Qt H1 n1 L H' n' (eu does line col nm ty (.sl m 0 1 1 11) vt vl)->Kp H n1 H' n'->n<=m->m<n'->GB 5 e->EJ G H' (Rg n m) c e->El G H' (.sl m 0 1 1 11) 11 [c]->(∃t,T.get H' m=some (.arr 11 1 t))->(∀id,n1+1<id->id<n->T.get H' id=T.get H id)->Q .undef H' n'):
 FM (.fn EH [] [.ptr n1 0]) [.int .i64 (.ofNat 0) 0] (Runs F G) H n λv H n=>DW (Aj 11 1 Z [(0,.c v)] E0) H n λw H n=>AP (AU 6 (.ptr (n1+1) 0)) λp=>CQ 1 p w H n Q:=by
 have hlt:=x.lt
 show Runs F G EH [.int .i64 (.ofNat 0) 0,.ptr n1 0] H n _
 refine AVM hL x.ge (by omega) λH2 n2 c e f2 hg hx=>?_
 have hn2:=f2.le
 refine Ju (G:=G) (vs:=[.agg c]) rfl (by omega) (λv hv=>by simp at hv;subst hv;exact⟨rfl,hx.len⟩) λH3 f3 hat hel=>?_
 refine rE (o:=6) (m:=1) ((x.kp f2).kp f3) rfl rfl (by omega) (by show 6+1<=9;omega) λH4 x4 s4=>?_
 obtain⟨t,ht⟩:=hat
 refine hk _ _ n2 e c x4 ⟨by omega,λid hid=>(s4 id (by omega)).trans ((f3.same id (by omega)).trans (f2.same id (by omega)))⟩ hn2 (by omega) hg (hx.mono (λ_ h=>h) λid h=>(s4 id (by have:=h.1;omega)).trans (f3.same id h.2)) (hel.same λid hid=>s4 id (by cases En hid;omega)) ⟨t,(s4 _ (by omega)).trans ht⟩ λid h1 h2=>(s4 id (by omega)).trans ((f3.same id (by omega)).trans (f2.same id h2))
end
structure LJ(G:AV)(H0:Heap)(n0 m:Nat)(H:Heap)(n:Nat)(w:V)(cs:Dv)(ss:List St):Prop where
 f:Kp H0 n0 H n
 ow:Ow G H n0 n 9 w cs
 cs:Rz G H (λid=>n0<=id/\id<n/\w.QU≠some id) cs ss
 gs:∀s∈ss,GS m s
def AUl(G:AV)(H0:Heap)(n0 m:Nat)(N:Nat)(k:KV):Prop:=∀H' n' w ss,Kp H0 n0 H' n'->PE G H' (Rg n0 n') w ss->ss.length=N->(∀s∈ss,GS m s)->k w H' n'
section
variable{G:AV}{k:KV}
theorem AY2{H0 H1 H:Heap}{n0 n1 n m j N:Nat}{w v:V}{cs:Dv}{ss:List St}{L c:LV}{s:St}{I:(V×V×V×V×V×Heap×Nat)->Prop}{dv:V}(lj:LJ G H0 n0 m H1 n1 w cs ss)(hj:ss.length=j)(hj10:j<10)(x:Qt H1 n1 L H n c)(hs:NH G H (λid=>n1+1<id/\id<n) c s)(hg:GS m s)
 (ih:∀H' n' w' cs' ss',LJ G H0 n0 m H' n' w' cs' ss'->ss'.length=j+1->I (dv,w',v,.int .i64 (.ofNat N) 0,.int .i64 (.ofNat (j+1)) 0,H',n')):
 Ba lfp G (Runs F G) k I dv w (.ptr (n1+1) 0) v (.int .i64 (.ofNat N) 0) (.int .i64 (.ofNat j) 0) H n:=by
 show Ba lfp G (Runs F G) k I dv w (.ptr (n1+1) 0) v (.int .i64 (.ofNat N) 0) (.int .i64 (.ofNat j) 0) H n
 delta Ba
 have hlt:=x.lt
 have h01:=lj.f.le
 refine AB (Ai (m:=9) x.go (by omega) hs.len) ?_
 have ow:=lj.ow.frame (n':=n) (by omega) λid hid=>x.f.same id (by have:=lj.ow.at hid;omega)
 have hcl:=lj.cs.len
 refine AEA ow (by omega) (by omega) hs.len rfl (by omega) λw' H2 ow2 s2 hid2=>?_
 refine AB (Ee (by omega)) ?_
 refine ih H2 (n+2) w' (cs++[c]) (ss++[s]) ⟨⟨by omega,λid hid=>(s2 id (by omega) λh=>by have:=lj.ow.at h;omega).trans ((x.f.same id (by omega)).trans (lj.f.same id hid))⟩,ow2,?_,λy hy=>?_⟩ (by rw[List.length_append,hj];rfl)
 ·refine Rz.app (lj.cs.mono (λid h=>⟨h.1,by have:=h.2.1;omega,λh'=>by have:=hid2 id h';have:=h.2.1;omega⟩) λid h=>(s2 id (by have:=h.2.1;omega) h.2.2).trans (x.f.same id h.2.1)) (.cons (hs.mono (λid h=>⟨by have:=h.1;omega,by have:=h.2;omega,λh'=>by have:=hid2 id h';have:=h.2;omega⟩) λid h=>s2 id h.2 λh'=>by have:=lj.ow.at h';have:=h.1;omega) .nil)
 ·rcases List.mem_append.1 hy with hy|hy
  ·exact lj.gs y hy
  ·simp at hy;subst hy;exact hg
theorem es1{H:Heap}{m:Nat}{c:LV}{e:Ex}{A:Nat->Prop}(hel:El G H (.sl m 0 1 1 11) 11 [c])(hx:EJ G H A c e)(hm:A m):dU G H A (.sl m 0 1 1 11) [e]:=
 ⟨[c],hel,WC (Nat.le_refl _),rfl,rfl,λid hid=>by cases En hid;exact hm,.cons hx .nil⟩
theorem ALf{H:Heap}{A:Nat->Prop}{c:LV}{e:Ex}(h:EJ G H A c e):c[0]? =some (.int .i64 (.ofNat e.kind) 0):=by cases h;rfl
def AZ1(G:AV)(m:Nat):Prop:=m=0∨∃m',m=m'+1/\m'<1000/\∀{H0:Heap} {n0:Nat} {v:V} {LS:Dv} {k:KV},(∀H,El G H v 9 LS)->(∀L∈LS,XS G L)->FwS G m' LS->AUl G H0 n0 m' LS.length k->Runs F G Jw [v,.int .i64 (.ofNat m') 0] H0 n0 k
theorem AMD(hS:ADj G){m:Nat}(hm:AZ1 G m){H0:Heap}{n0:Nat}{v:V}{LS:Dv}(hv:∀H,El G H v 9 LS)(hX:∀L∈LS,XS G L)(hF:FwS G m LS)(hk:AUl G H0 n0 m LS.length k):Runs F G Jw [v,.int .i64 (.ofNat m) 0] H0 n0 k:=by
 have h10:=hF.len
 refine Am (s:=QS (Qh lfp G)) Uf (by obtain⟨h,o⟩:=xB Ap G;rw[Uf]at h;cases h;exact o) ?_
 show Qh lfp G (Runs F G) v (.int .i64 (.ofNat m) 0) H0 n0 k
 delta Qh
 refine Ju (G:=G) (vs:=[]) rfl (by omega) (λv hv=>by cases hv) λHa fa hata hela=>?_
 obtain⟨ta,hta⟩:=hata
 refine AB (hv Ha).len ?_
 refine ER (N:=LS.length) (J:=λj q=>∃H' n' w cs ss,q=(.int .i64 (.ofNat m) 0,w,v,.int .i64 (.ofNat LS.length) 0,.int .i64 (.ofNat j) 0,H',n')/\LJ G H0 n0 m H' n' w cs ss/\ss.length=j) ?_ ?_
  ⟨Ha,n0+1,_,[],[],rfl,⟨fa,.inr ⟨n0,ta,rfl,hta,by omega,by omega,hela⟩,.nil,λ_ h=>by cases h⟩,rfl⟩
 ·rintro I j q hlt ⟨H1,n1,w,cs,ss,rfl,lj,hj⟩ ih
  show JQ lfp G (Runs F G) k I (.int .i64 (.ofNat m) 0) w v (.int .i64 (.ofNat LS.length) 0) (.int .i64 (.ofNat j) 0) H1 n1
  delta JQ
  have ih:∀H' n' w' cs' ss',LJ G H0 n0 m H' n' w' cs' ss'->ss'.length=j+1->I (.int .i64 (.ofNat m) 0,w',v,.int .i64 (.ofNat LS.length) 0,.int .i64 (.ofNat (j+1)) 0,H',n'):=λH' n' w' cs' ss' h1 h2=>ih _ ⟨H',n',w',cs',ss',rfl,h1,h2⟩
  obtain⟨p,hp,hld⟩:=(hv H1).at (List.getElem?_eq_getElem hlt)
  have hxL:=hX _ (List.getElem_mem hlt)
  have hfL:m=0∨∀vt vl ts ls,LS[j][7]? =some vt->LS[j][8]? =some vl->(∀H,El G H vt 9 ts)->(∀H,El G H vl 9 ls)->FwS G (m-1) ts/\FwS G (m-1) ls:=by
   cases m with
   |zero=>exact .inl rfl
   |succ m=>exact .inr (hF.2 _ (List.getElem_mem hlt))
  generalize LS[j]=L at hld hxL hfL
  rw[ES,Aw,decide_eq_true hlt,Ah]
  refine AB hp (AB (J3 hld) ?_)
  refine Az rfl λH2 f2 g2=>?_
  refine CB g2 rfl hxL.len (by omega) λH3 g3 s3=>?_
  have f3:Kp H1 n1 H3 (n1+1):=⟨f2.le,λid hid=>(s3 id (by omega)).trans (f2.same id hid)⟩
  have hL0:=hxL
  cases hxL with
  | @mk does l c nm ty ar ve vt vl es ts ls hn ht he hel hek hth htl htk hls hll hlk=>
  unfold bigS at hn ht
  refine AB (Aa ..) (AB (v:=.int .i64 does 0) (AQ g3 rfl) (AB (v:=.agg [.int .i64 does 0,.int .i64 (.ofNat 0) 0,.int .i64 (.ofNat 0) 0,.str 0 0,.str 0 0,.bool false,.Ad,.Ad,.Ad]) rfl ?_))
  refine Az rfl λH4 f4 g4=>?_
  refine CB g4 rfl rfl (by omega) λH5 g5 s5=>?_
  have f5:Kp H3 (n1+1) H5 (n1+1+1):=⟨f4.le,λid hid=>(s5 id (by omega)).trans (f4.same id hid)⟩
  have x:Qt H1 n1 (xsC does l c nm ty ar ve vt vl) H5 (n1+2) [.int .i64 does 0,.int .i64 (.ofNat 0) 0,.int .i64 (.ofNat 0) 0,.str 0 0,.str 0 0,.bool false,.Ad,.Ad,.Ad]:=⟨f3.trans f5,by omega,f5.get g3 (by omega),g5⟩
  have xd:∀d,does=.ofNat d->Qt H1 n1 (xsC does l c nm ty ar ve vt vl) H5 (n1+2) (eu d 0 0 [] JO .Ad .Ad .Ad):=λd hd=>by subst hd;exact x
  refine AB (Aa ..) (AB (v:=.int .i64 does 0) (AQ x.ge rfl) ?_)
  clear f2 g2 f3 g3 s3 f4 g4 f5 g5 s5
  have fin:∀{H:Heap} {n:Nat} {cc:LV} {s:St},Qt H1 n1 (xsC does l c nm ty ar ve vt vl) H n cc->NH G H (λid=>n1+1<id/\id<n) cc s->GS m s->Ba lfp G (Runs F G) k I (.int .i64 (.ofNat m) 0) w (.ptr (n1+1) 0) v (.int .i64 (.ofNat LS.length) 0) (.int .i64 (.ofNat j) 0) H n:=λx hs hg=>AY2 lj hj (by omega) x hs hg ih
  have mono:∀{H:Heap} {a b n:Nat} {c:LV} {e:Ex},EJ G H (Rg a b) c e->n1+1<a->b<=n->EJ G H (λid=>n1+1<id/\id<n) c e:=λh h1 h2=>h.mono (λid h=>⟨by have:=h.1;omega,by have:=h.2;omega⟩) λ_ _=>rfl
  refine eqI (λhd=>?_) (λh1=>?_)
  ·rw[Ah]
   have x:=xd _ hd
   subst hd
   refine AB (Aa ..) (AB (v:=sB nm) (AQ x.ge rfl) (AB (Pm nm) (AB (Aa ..) (AB (v:=.int .i64 (.ofNat 1) 0) (AQ x.ge rfl) (AB (Ee (by omega)) ?_)))))
   refine zY λH6 u f6 hu6 hl6=>?_
   refine rE (o:=3) (m:=1) (x.kp f6) rfl rfl (by omega) (by show 3+1<=9;omega) λH7 x7 s7=>?_
   refine AB (Aa ..) (AB (v:=.agg [sB ty,.bool ar]) (NQ x7.ge (by omega) (by show 4+2<=9;omega)) ?_)
   refine ALo (by omega) λH8 n8 u2 f8 hu8 hl8=>?_
   refine rE (o:=4) (m:=2) (x7.kp f8) rfl rfl (by omega) (by show 4+2<=9;omega) λH9 x9 s9=>?_
   have hn8:=f8.le
   have x9:Qt H1 n1 (xsC (.ofNat 1) l c nm ty ar ve vt vl) H9 n8 (eu 1 0 0 u ⟨u2,ar⟩ .Ad .Ad .Ad):=x9
   refine sg1 x9 hL0 λH10 n10 mm e c x10 f10 hm10 hm11 hg hx hel ht hsame=>?_
   exact fin x10 (NH.of (es1 hel (mono hx (by omega) (by omega)) ⟨by omega,hm11⟩) PE.nil PE.nil) (AXs (ty:=⟨u2,ar⟩) hu6 hl6 hu8 hl8 hg)
  rw[Aq]
  refine eqI (λhd=>?_) (λh2=>?_)
  ·rw[Ah]
   have x:=xd _ hd
   show Runs F G EH [.int .i64 (.ofNat 0) 0,.ptr n1 0] H5 (n1+2) _
   refine AVM hL0 x.ge (by omega) λH6 n6 c1 e1 f6 hg1 hx1=>?_
   have x6:=x.kp f6
   have hn6:=f6.le
   show Runs F G EH [.int .i64 (.ofNat 1) 0,.ptr n1 0] H6 n6 _
   refine AVM hL0 x6.ge (by omega) λH7 n7 c2 e2 f7 hg2 hx2=>?_
   have hn7:=f7.le
   refine Ju (G:=G) (vs:=[.agg c1,.agg c2]) rfl (by omega) (λv hv=>by simp at hv;rcases hv with rfl|rfl;exact⟨rfl,hx1.len⟩;exact⟨rfl,hx2.len⟩) λH8 f8 hat hel=>?_
   refine rE (o:=6) (m:=1) ((x6.kp f7).kp f8) rfl rfl (by omega) (by show 6+1<=9;omega) λH9 x9 s9=>?_
   have x9:Qt H1 n1 (xsC does l c nm ty ar ve vt vl) H9 (n7+1) (eu 2 0 0 [] JO (.sl n7 0 2 2 11) .Ad .Ad):=x9
   obtain⟨t,ht⟩:=hat
   have ht:T.get H9 n7=some (.arr 11 2 t):=(s9 _ (by omega)).trans ht
   have hel:El G H9 (.sl n7 0 2 2 11) 11 [c1,c2]:=hel.same λid hid=>s9 id (by cases En hid;omega)
   have hx1:EJ G H9 (Rg (n1+2) n6) c1 e1:=hx1.mono (λ_ h=>h) λid h=>(s9 id (by have:=h.1;omega)).trans ((f8.same id (by have:=h.2;omega)).trans (f7.same id h.2))
   have hx2:EJ G H9 (Rg n6 n7) c2 e2:=hx2.mono (λ_ h=>h) λid h=>(s9 id (by have:=h.1;omega)).trans (f8.same id h.2)
   refine AB (Aa ..) (AB (v:=.sl n7 0 2 2 11) (AQ x9.go rfl) ?_)
   obtain⟨p1,q1,a1,b1,d1⟩:=ABJ hS hel (i:=0) (o:=0) rfl hx1.len (ALf hx1)
   refine AB a1 (AB b1 (AB d1 (neI ?_)))
   have good:(e1.kind=6∨e1.kind=7∨e1.kind=12)->Ba lfp G (Runs F G) k I (.int .i64 (.ofNat m) 0) w (.ptr (n1+1) 0) v (.int .i64 (.ofNat LS.length) 0) (.int .i64 (.ofNat j) 0) H9 (n7+1):=λhk=>
    fin x9 (NH.of ⟨[c1,c2],hel,WC (Nat.le_refl _),rfl,rfl,λid hid=>by cases En hid;exact⟨by omega,by omega⟩,.cons (mono hx1 (by omega) (by omega)) (.cons (mono hx2 (by omega) (by omega)) .nil)⟩ PE.nil PE.nil) (AQJ hk hg1 hg2)
   by_cases k6:e1.kind=6
   ·simp only[go_sem,decide_eq_true k6,Bool.not_true]
    exact good (.inl k6)
   by_cases k7:e1.kind=7
   ·simp only[go_sem,ZR,decide_eq_false k6,decide_eq_true k7,Bool.not_true,Bool.not_false]
    exact good (.inr (.inl k7))
   by_cases k12:e1.kind=12
   ·simp only[go_sem,ZR,decide_eq_false k6,decide_eq_false k7,decide_eq_true k12,Bool.not_true,Bool.not_false]
    exact good (.inr (.inr k12))
   simp only[go_sem,ZR,decide_eq_false k6,decide_eq_false k7,decide_eq_false k12,Bool.not_false,Nat.zero_add]
   refine AB (v:=.sl n7 0 2 2 11) (AQ x9.go rfl) ?_
   refine zY λH10 u f10 hu hl2=>?_
   have x10:=x9.kp f10
   refine AB (v:=.sl n7 0 2 2 11) (AQ x10.go rfl) (Cc (AFD ..) ?_)
   refine AB (v:=.agg (TF 6 0 u [] false 0 0 .Ad)) rfl ?_
   refine AB (AQC (i:=0) (by omega)) ?_
   refine AHd (c:=c1) (cs:=[c2]) (by omega) ((f10.same n7 (by omega)).trans ht) (hel.same λid hid=>f10.same id (by cases En hid;omega)) rfl λH11 hel11 s11=>?_
   have x11:=x10.fr (Nat.le_refl _) λid hid=>s11 id (by omega)
   exact fin x11 (NH.of ⟨[TF 6 0 u [] false 0 0 .Ad,c2],hel11,WC (Nat.le_refl _),rfl,rfl,λid hid=>by cases En hid;exact⟨by omega,by omega⟩,.cons (.mk 6 0 u [] false 0 0 wH cO (λid h=>by cases h) .nil) (.cons (mono (hx2.mono (λ_ h=>h) λid h=>(s11 id (by have:=h.2;omega)).trans (f10.same id (by have:=h.2;omega))) (by omega) (by omega)) .nil)⟩ PE.nil PE.nil) (AQJ (.inl rfl) (ANm hu hl2) hg2)
  rw[Aq]
  refine eqI (λhd=>?_) (λh6=>?_)
  ·rw[Ah];delta GN;rw[Ah]
   refine sg1 (xd _ hd) hL0 λH10 n10 mm e c x10 f10 hm10 hm11 hg hx hel ht hsame=>?_
   exact fin x10 (NH.of (es1 hel (mono hx (by omega) (by omega)) ⟨by omega,hm11⟩) PE.nil PE.nil) (AVk hg)
  rw[Aq]
  refine eqI (λhd=>?_) (λh7=>?_)
  ·delta GN;rw[Ah]
   refine sg1 (xd _ hd) hL0 λH10 n10 mm e c x10 f10 hm10 hm11 hg hx hel ht hsame=>?_
   exact fin x10 (NH.of (es1 hel (mono hx (by omega) (by omega)) ⟨by omega,hm11⟩) PE.nil PE.nil) (AXI hg)
  delta GN
  rw[Aq]
  refine eqI (λhd=>?_) (λh4=>?_)
  ·rw[Ah];delta GL;rw[Ah]
   refine sg1 (xd _ hd) hL0 λH6 n6 mm e c6 x6 f6 hm10 hm11 hg hx hel ht hsame=>?_
   have hes:dU G H6 (λid=>n1+1<id/\id<n6) (.sl mm 0 1 1 11) [e]:=es1 hel (mono hx (by omega) (by omega)) ⟨by omega,hm11⟩
   refine AB (MJ ..) ?_
   rcases hm with rfl|⟨m',rfl,hm',ihm⟩
   ·rw[decide_eq_false (Nat.lt_irrefl _),Aq]
    exact fin x6 (NH.of hes PE.nil PE.nil) (AWq hg)
   rw[decide_eq_true (Nat.succ_pos m'),Ah]
   obtain⟨ft,fl⟩:=(hfL.resolve_left (by omega)) vt vl ts ls rfl rfl hth hls
   have ft:FwS G m' ts:=ft
   have fl:FwS G m' ls:=fl
   refine AB (Aa ..) (AB (v:=vt) (AQ x6.ge rfl) (AB (uh (by omega) (by omega)) ?_))
   rw[show m'+1-1=m' from rfl]
   refine ihm hth htk ft λH7 n7 w7 ss7 f7 hss7 hln7 hgs7=>?_
   have hn7:=f7.le
   have ow7:=hss7
   obtain⟨_,_,_,ok7,vc7,_,_⟩:=ow7
   refine rE (o:=7) (m:=1) (x6.kp f7) ok7 (by rw[vc7];rfl) (by omega) (by show 7+1<=9;omega) λH8 x8 s8=>?_
   rw[vc7]at x8
   have x8:Qt H1 n1 (xsC does l c nm ty ar ve vt vl) H8 n7 (eu 4 0 0 [] JO (.sl mm 0 1 1 11) w7 .Ad):=x8
   have hss8:PE G H8 (λid=>n1+1<id/\id<n7) w7 ss7:=hss7.mono (λid h=>⟨by have:=h.1;omega,h.2⟩) λid h=>s8 id (by have:=h.1;omega)
   have hes8:dU G H8 (λid=>n1+1<id/\id<n7) (.sl mm 0 1 1 11) [e]:=(hes.mono (λ_ h=>h) λid h=>(s8 id (by have:=h.1;omega)).trans (f7.same id h.2)).mono (λid h=>⟨h.1,by have:=h.2;omega⟩) λ_ _=>rfl
   refine AB (Aa ..) (AB (v:=.int .i64 does 0) (AQ x8.ge rfl) ?_)
   refine eqI (λ_=>?_) (λhd'=>absurd hd hd')
   rw[Ah]
   refine AB (Aa ..) (AB (v:=vl) (AQ x8.ge rfl) (AB (uh (by omega) (by omega)) ?_))
   rw[show m'+1-1=m' from rfl]
   refine ihm hls hlk fl λH9 n9 w9 ss9 f9 hss9 hln9 hgs9=>?_
   have hn9:=f9.le
   have ow9:=hss9
   obtain⟨_,_,_,ok9,vc9,_,_⟩:=ow9
   refine rE (o:=8) (m:=1) (x8.kp f9) ok9 (by rw[vc9];rfl) (by omega) (by show 8+1<=9;omega) λH10 x10 s10=>?_
   rw[vc9]at x10
   have x10:Qt H1 n1 (xsC does l c nm ty ar ve vt vl) H10 n9 (eu 4 0 0 [] JO (.sl mm 0 1 1 11) w7 w9):=x10
   have hss10:PE G H10 (λid=>n1+1<id/\id<n9) w7 ss7:=(hss8.mono (λ_ h=>h) λid h=>(s10 id (by have:=h.1;omega)).trans (f9.same id h.2)).mono (λid h=>⟨h.1,by have:=h.2;omega⟩) λ_ _=>rfl
   have hes10:dU G H10 (λid=>n1+1<id/\id<n9) (.sl mm 0 1 1 11) [e]:=(hes8.mono (λ_ h=>h) λid h=>(s10 id (by have:=h.1;omega)).trans (f9.same id h.2)).mono (λid h=>⟨h.1,by have:=h.2;omega⟩) λ_ _=>rfl
   have hss11:PE G H10 (λid=>n1+1<id/\id<n9) w9 ss9:=hss9.mono (λid h=>⟨by have:=h.1;omega,h.2⟩) λid h=>s10 id (by have:=h.1;omega)
   exact fin x10 (NH.of hes10 hss10 hss11) (AY6 hg hgs7 (by rw[hln7];exact ft.len) hgs9 (by rw[hln9];exact fl.len))
  rw[Aq]
  refine eqI (λhd=>?_) (λh5=>?_)
  ·delta GL;rw[Ah]
   refine sg1 (xd _ hd) hL0 λH6 n6 mm e c6 x6 f6 hm10 hm11 hg hx hel ht hsame=>?_
   have hes:dU G H6 (λid=>n1+1<id/\id<n6) (.sl mm 0 1 1 11) [e]:=es1 hel (mono hx (by omega) (by omega)) ⟨by omega,hm11⟩
   refine AB (MJ ..) ?_
   rcases hm with rfl|⟨m',rfl,hm',ihm⟩
   ·rw[decide_eq_false (Nat.lt_irrefl _),Aq]
    exact fin x6 (NH.of hes PE.nil PE.nil) (AWR hg)
   rw[decide_eq_true (Nat.succ_pos m'),Ah]
   obtain⟨ft,fl⟩:=(hfL.resolve_left (by omega)) vt vl ts ls rfl rfl hth hls
   have ft:FwS G m' ts:=ft
   have fl:FwS G m' ls:=fl
   refine AB (Aa ..) (AB (v:=vt) (AQ x6.ge rfl) (AB (uh (by omega) (by omega)) ?_))
   rw[show m'+1-1=m' from rfl]
   refine ihm hth htk ft λH7 n7 w7 ss7 f7 hss7 hln7 hgs7=>?_
   have hn7:=f7.le
   have ow7:=hss7
   obtain⟨_,_,_,ok7,vc7,_,_⟩:=ow7
   refine rE (o:=7) (m:=1) (x6.kp f7) ok7 (by rw[vc7];rfl) (by omega) (by show 7+1<=9;omega) λH8 x8 s8=>?_
   rw[vc7]at x8
   have x8:Qt H1 n1 (xsC does l c nm ty ar ve vt vl) H8 n7 (eu 5 0 0 [] JO (.sl mm 0 1 1 11) w7 .Ad):=x8
   have hss8:PE G H8 (λid=>n1+1<id/\id<n7) w7 ss7:=hss7.mono (λid h=>⟨by have:=h.1;omega,h.2⟩) λid h=>s8 id (by have:=h.1;omega)
   have hes8:dU G H8 (λid=>n1+1<id/\id<n7) (.sl mm 0 1 1 11) [e]:=(hes.mono (λ_ h=>h) λid h=>(s8 id (by have:=h.1;omega)).trans (f7.same id h.2)).mono (λid h=>⟨h.1,by have:=h.2;omega⟩) λ_ _=>rfl
   refine AB (Aa ..) (AB (v:=.int .i64 does 0) (AQ x8.ge rfl) ?_)
   refine eqI (λhd'=>?_) (λ_=>?_)
   ·rw[hd]at hd';cases hd'
   rw[Aq]
   exact fin x8 (NH.of hes8 hss8 PE.nil) (AYo hg hgs7 (by rw[hln7];exact ft.len))
  delta GL
  rw[Aq]
  refine rE (o:=0) (m:=1) x rfl rfl (by omega) (by show 0+1<=9;omega) λH6 x6 s6=>?_
  have x6:Qt H1 n1 (xsC does l c nm ty ar ve vt vl) H6 (n1+2) (eu 3 0 0 [] JO .Ad .Ad .Ad):=x6
  refine sg1 x6 hL0 λH10 n10 mm e c1 x10 f10 hm10 hm11 hg hx hel ht hsame=>?_
  refine AB (Aa ..) (AB (v:=.sl mm 0 1 1 11) (AQ x10.go rfl) ?_)
  obtain⟨p1,q1,a1,b1,d1⟩:=ABJ hS hel (i:=0) (o:=0) rfl hx.len (ALf hx)
  refine AB a1 (AB b1 (AB d1 (neI ?_)))
  have good:(e.kind=8∨e.kind=9)->Ba lfp G (Runs F G) k I (.int .i64 (.ofNat m) 0) w (.ptr (n1+1) 0) v (.int .i64 (.ofNat LS.length) 0) (.int .i64 (.ofNat j) 0) H10 n10:=λhk=>
   fin x10 (NH.of (es1 hel (mono hx (by omega) (by omega)) ⟨by omega,hm11⟩) PE.nil PE.nil) (AOl hk hg)
  by_cases k8:e.kind=8
  ·simp only[go_sem,decide_eq_true k8,Bool.not_true]
   exact good (.inl k8)
  by_cases k9:e.kind=9
  ·simp only[go_sem,ZR,decide_eq_false k8,decide_eq_true k9,Bool.not_true,Bool.not_false]
   exact good (.inr k9)
  simp only[go_sem,ZR,decide_eq_false k8,decide_eq_false k9,Bool.not_false,Nat.zero_add]
  obtain⟨t,ht⟩:=ht
  refine AB (v:=.sl mm 0 1 1 11) (AQ x10.go rfl) ?_
  refine AEa λH11 u f11 hu hl2=>?_
  have x11:=x10.kp f11
  refine AB (v:=.sl mm 0 1 1 11) (AQ x11.go rfl) (Cc (AFD ..) ?_)
  refine AQR λH12 f12=>?_
  have x12:=x11.kp f12
  refine AB (v:=.sl mm 0 1 1 11) (AQ x12.go rfl) (Cc (AFD ..) ?_)
  refine zY λH13 u2 f13 hu2 hl3=>?_
  have x13:=x12.kp f13
  refine AB (v:=.sl mm 0 1 1 11) (AQ x13.go rfl) (Cc (AFD ..) ?_)
  refine AB (v:=.agg (TF 9 0 u2 u false 0 0 .Ad)) rfl ?_
  refine AB (AQC (i:=0) (by omega)) ?_
  have f13:=(f11.trans f12).trans f13
  refine AHd (c:=c1) (cs:=[]) (by omega) ((f13.same mm (by omega)).trans ht) (hel.same λid hid=>f13.same id (by cases En hid;omega)) rfl λH14 hel14 s14=>?_
  have x14:=x13.fr (Nat.le_refl _) λid hid=>s14 id (by omega)
  exact fin x14 (NH.of (es1 hel14 (.mk 9 0 u2 u false 0 0 wH cO (λid h=>by cases h) .nil) ⟨by omega,by omega⟩) PE.nil PE.nil) (AOl (.inr rfl) (ALs hu2 hl3 hu hl2 (λx h=>by cases h) (Nat.zero_le _)))
 ·rintro I q ⟨H1,n1,w,cs,ss,rfl,lj,hj⟩
  show JQ lfp G (Runs F G) k I (.int .i64 (.ofNat m) 0) w v (.int .i64 (.ofNat LS.length) 0) (.int .i64 (.ofNat LS.length) 0) H1 n1
  delta JQ
  rw[ES,Aw,decide_eq_false (Nat.lt_irrefl _),Aq]
  delta Qz
  exact hk _ _ _ _ lj.f ⟨cs,lj.ow.el (by omega),lj.ow.ok.1,lj.ow.ok.2.1,lj.ow.ok.2.2,λid hid=>lj.ow.at hid,lj.cs.mono (λid h=>⟨h.1,h.2.1⟩) λ_ _=>rfl⟩ hj lj.gs
theorem ASQ(hS:ADj G):∀(m:Nat),m<1000->∀{H0:Heap} {n0:Nat} {v:V} {LS:Dv} {k:KV},(∀H,El G H v 9 LS)->(∀L∈LS,XS G L)->FwS G m LS->AUl G H0 n0 m LS.length k->Runs F G Jw [v,.int .i64 (.ofNat m) 0] H0 n0 k:=by
 intro m
 induction m with
 |zero=>exact λ_ {_ _ _ _ _} hv hX hF hk=>AMD hS (.inl rfl) hv hX hF hk
 |succ m ih=>exact λh {_ _ _ _ _} hv hX hF hk=>AMD hS (.inr ⟨m,rfl,by omega,ih (by omega)⟩) hv hX hF hk
end
def xvC(nm ty:Bs)(ar:Bool):LV:=[sB nm,sB ty,.bool ar]
inductive XV:LV->Prop where
 |mk {nm ty:Bs} {ar:Bool} (hn:nm.length<=bigS) (ht:ty.length<=bigS):XV (xvC nm ty ar)
theorem XV.len{L:LV}(h:XV L):L.length=3:=by cases h;rfl
structure GV(v:Va):Prop where
 wr:WrV v
 nl:v.nm.length=2
 tl:v.ty.nm.length<=4
theorem AIP{G:AV}{H:Heap}{w:V}{z:Nat}{LS:Dv}(h:El G H w z LS)(hk:KS w):w=.Ad∨(∃a b c d e,w=.sl a b c d e)∨∃a b c d,w=.QF a b c d:=by
 cases w with
 |Ad=>exact .inl rfl
 |sl a b c d e=>exact .inr (.inl ⟨a,b,c,d,e,rfl⟩)
 |QF a b c d=>exact .inr (.inr ⟨a,b,c,d,rfl⟩)
 |rsl a b c d e=>exact absurd rfl (hk.2.2 _ _ _ _ _)
 |str a b=>cases h.1
 |_=>cases h.2
theorem AUi{G:AV}{H:Heap}{w2 w3:V}{z z':Nat}{A B:Dv}(h2:El G H w2 z A)(k2:KS w2)(h3:El G H w3 z' B)(k3:KS w3)(u u2:Bs)(st ar:Bool):
 Bl meZ [(2,1,.c (sB u)),(3,1,.c (.bool st)),(4,1,.c w2),(5,2,.c (.agg [sB u2,.bool ar])),(7,1,.c w3)]=some (.agg (meC 0 0 u st w2 ⟨u2,ar⟩ w3)):=by
 rcases AIP h2 k2 with rfl|⟨a,b,c,d,e,rfl⟩|⟨a,b,c,d,rfl⟩<;>rcases AIP h3 k3 with rfl|⟨a',b',c',d',e',rfl⟩|⟨a',b',c',d',rfl⟩<;>rfl
theorem AUy(l m:Bs)(b:Bool):Bl [.str 0 0,.str 0 0,.bool false] [(0,1,.c (sB l)),(1,2,.c (.agg [sB m,.bool b]))]=some (.agg [sB l,sB m,.bool b]):=rfl
section
variable{G:AV}{k:KV}
def VsK(G:AV)(H0:Heap)(n0 N:Nat)(k:KV):Prop:=∀H' n' w vs,Kp H0 n0 H' n'->ABe G H' (Rg n0 n') w vs->vs.length=N->(∀v∈vs,GV v)->k w H' n'
theorem vars_c{H0:Heap}{n0:Nat}{v:V}{LS:Dv}(hv:∀H,El G H v 3 LS)(hX:∀L∈LS,XV L)(h10:LS.length<=10)(hk:VsK G H0 n0 LS.length k):Runs F G IY [v] H0 n0 k:=by
 refine Am (s:=Gw (Nv lfp G)) Rh (by obtain⟨h,o⟩:=qo Ap G;rw[Rh]at h;cases h;exact o) ?_
 show Nv lfp G (Runs F G) v H0 n0 k
 delta Nv
 refine Ju (G:=G) (vs:=[]) rfl (by omega) (λv hv=>by cases hv) λHa fa hata hela=>?_
 obtain⟨ta,hta⟩:=hata
 refine AB (hv Ha).len ?_
 refine ER (N:=LS.length) (J:=λj q=>∃H' n' w vs,q=(w,v,.int .i64 (.ofNat LS.length) 0,.int .i64 (.ofNat j) 0,H',n')/\Kp H0 n0 H' n'/\Ow G H' n0 n' 3 w (vs.map vaC)/\vs.length=j/\∀x∈vs,GV x) ?_ ?_
  ⟨Ha,n0+1,_,[],rfl,fa,show Ow G Ha n0 (n0+1) 3 (.sl n0 0 0 0 3) []from .inr ⟨n0,ta,rfl,hta,by omega,by omega,hela⟩,rfl,λ_ h=>by cases h⟩
 ·rintro I j q hlt ⟨H1,n1,w,vs,rfl,f1,ow,hj,hg⟩ ih
  show IG lfp G (Runs F G) k I w v (.int .i64 (.ofNat LS.length) 0) (.int .i64 (.ofNat j) 0) H1 n1
  delta IG
  have h01:=f1.le
  obtain⟨p,hp,hld⟩:=(hv H1).at (List.getElem?_eq_getElem hlt)
  have hxL:=hX _ (List.getElem_mem hlt)
  generalize LS[j]=L at hld hxL
  rw[ES,Aw,decide_eq_true hlt,Ah]
  refine AB hp (AB (J3 hld) ?_)
  refine Az rfl λH2 f2 g2=>?_
  refine CB g2 rfl hxL.len (by omega) λH3 g3 s3=>?_
  have f3:Kp H1 n1 H3 (n1+1):=⟨f2.le,λid hid=>(s3 id (by omega)).trans (f2.same id hid)⟩
  cases hxL with
  | @mk nm ty ar hn ht=>
  unfold bigS at hn ht
  refine AB (Aa ..) (AB (v:=sB nm) (AQ g3 rfl) (AB (Pm nm) (AB (Aa ..) (AB (v:=.agg [sB ty,.bool ar]) (NQ g3 (by omega) (by show 1+2<=3;omega)) ?_))))
  refine zY λH4 u f4 hu hl2=>?_
  have g4:=f4.get g3 (by omega)
  refine AB (v:=.agg [sB ty,.bool ar]) (NQ g4 (by omega) (by show 1+2<=3;omega)) (Cc (AI5 ⟨ty,ar⟩) ?_)
  refine ALo (by omega) λH5 n5 u2 f5 hu2 hl4=>?_
  refine AB (AUy u u2 ar) ?_
  have f5:=(f3.trans f4).trans f5
  have hn5:=f5.le
  refine AEA (c:=vaC ⟨u,⟨u2,ar⟩⟩) (ow.kp f5) (by omega) (by omega) rfl rfl (by rw[List.length_map];omega) λw' H6 ow6 s6 hid6=>?_
  refine AB (Ee (by omega)) ?_
  refine ih _ ⟨H6,n5+2,w',vs++[⟨u,⟨u2,ar⟩⟩],rfl,⟨by omega,λid hid=>(s6 id (by omega) λh=>by have:=ow.at h;omega).trans ((f5.same id (by omega)).trans (f1.same id hid))⟩,by rw[List.map_append];exact ow6,by rw[List.length_append,hj];rfl,λy hy=>?_⟩
  rcases List.mem_append.1 hy with hy|hy
  ·exact hg y hy
  ·simp at hy;subst hy;exact⟨⟨hu,hu2⟩,hl2,hl4⟩
 ·rintro I q ⟨H1,n1,w,vs,rfl,f1,ow,hj,hg⟩
  show IG lfp G (Runs F G) k I w v (.int .i64 (.ofNat LS.length) 0) (.int .i64 (.ofNat LS.length) 0) H1 n1
  delta IG
  rw[ES,Aw,decide_eq_false (Nat.lt_irrefl _),Aq]
  delta PW
  exact hk _ _ _ _ f1 ⟨ow.el (by omega),ow.ok.1,ow.ok.2.1,ow.ok.2.2,λid hid=>ow.at hid⟩ hj hg
def xmC(l c:Int)(nm:Bs)(st:Bool)(vp:V)(ty:Bs)(ar:Bool)(vb:V):LV:=[.int .i64 l 0,.int .i64 c 0,sB nm,.bool st,vp,sB ty,.bool ar,vb]
inductive XM(G:AV):LV->Prop where
 |mk {l c:Int} {nm:Bs} {st:Bool} {vp:V} {ty:Bs} {ar:Bool} {vb:V} {ps bs:Dv} (hn:nm.length<=bigS) (ht:ty.length<=bigS) (hps:∀H,El G H vp 3 ps) (hpl:ps.length<9223372036854775808) (hpk:∀L∈ps,XV L) (kp:BR vp vp=true)
  (hbs:∀H,El G H vb 9 bs) (hbl:bs.length<9223372036854775808) (hbk:∀L∈bs,XS G L) (kb:BR vb vb=true):XM G (xmC l c nm st vp ty ar vb)
theorem XM.len{G:AV}{L:LV}(h:XM G L):L.length=8:=by cases h;rfl
def FwM(G:AV)(L:LV):Prop:=∀vp vb ps bs,L[4]? =some vp->L[7]? =some vb->(∀H,El G H vp 3 ps)->(∀H,El G H vb 9 bs)->ps.length<=8/\FwS G 3 bs
def xcC(l c:Int)(nm sup:Bs)(vf vm:V):LV:=[.int .i64 l 0,.int .i64 c 0,sB nm,sB sup,vf,vm]
inductive XC(G:AV):LV->Prop where
 |mk {l c:Int} {nm sup:Bs} {vf vm:V} {fs ms:Dv} (hn:nm.length<=bigS) (hs:sup.length<=4611686018427387000) (hfs:∀H,El G H vf 3 fs) (hfl:fs.length<9223372036854775808) (hfk:∀L∈fs,XV L)
  (hms:∀H,El G H vm 8 ms) (hml:ms.length<9223372036854775808) (hmk:∀L∈ms,XM G L):XC G (xcC l c nm sup vf vm)
def FwC(G:AV)(L:LV):Prop:=∀vf vm fs ms,L[4]? =some vf->L[5]? =some vm->(∀H,El G H vf 3 fs)->(∀H,El G H vm 8 ms)->fs.length<=10/\ms.length<=10/\∀L∈ms,FwM G L
structure GM(m:Me):Prop where
 nm:iy m.nm=true
 nl:m.nm.length=2
 ret:eG m.ret.nm=true
 rl:m.ret.nm.length<=4
 ps:∀p∈m.ps,GV p
 pn:m.ps.length<=8
 body:∀s∈m.body,GS 3 s
 bn:m.body.length<=10
structure GC(c:Cl):Prop where
 nm:Ws c.nm=true
 nl:c.nm.length=2
 sup:c.sup=[]∨Ws c.sup=true
 sl:c.sup.length<=2
 fs:∀f∈c.fs,GV f
 fn:c.fs.length<=10
 ms:∀m∈c.ms,GM m
 mn:c.ms.length<=10
def AYI(G:AV)(H0:Heap)(n0:Nat)(k:KV):Prop:=∀H' n' c x,Kp H0 n0 H' n'->GC x->Zt G H' (Rg n0 n') c x->k (.agg c) H' n'
theorem AT6(hS:ADj G){H0 H:Heap}{n0 n ob:Nat}{l c:Int}{nm0 sup0 nm sup:Bs}{vf vm:V}{fs ms:Dv}(f:Kp H0 n0 H n)(hob:n0+1<ob)(hlt:ob<n)(ge:T.get H n0=some (one (xcC l c nm0 sup0 vf vm)))(gr:T.get H (n0+1)=some (one clZ))(go:T.get H (ob)=some (one (clC 0 0 nm sup .Ad .Ad)))
 (hn:Ws nm=true) (hn2:nm.length=2) (hs:sup=[]∨Ws sup=true) (hs2:sup.length<=2) (hfs:∀H,El G H vf 3 fs) (hfk:∀L∈fs,XV L) (hms:∀H,El G H vm 8 ms) (hmk:∀L∈ms,XM G L) (hf10:fs.length<=10) (hm10:ms.length<=10) (hfm:∀L∈ms,FwM G L) (hk:AYI G H0 n0 k):
 GI lfp G (Runs F G) k (.ptr n0 0) (.ptr (n0+1) 0) (.ptr (ob) 0) H n:=by
 show GI lfp G (Runs F G) k (.ptr n0 0) (.ptr (n0+1) 0) (.ptr (ob) 0) H n
 delta GI
 have h0:=f.le
 refine AB (Aa ..) (AB (v:=vf) (AQ ge rfl) ?_)
 show Runs F G IY [vf] H n _
 refine vars_c hfs hfk hf10 λH1 n1 w1 vs1 f1 hv1 hl1 hg1=>?_
 have hn1:=f1.le
 have ge:=f1.get ge (by omega)
 have gr:=f1.get gr (by omega)
 have go:=f1.get go (by omega)
 have f:=f.trans f1
 refine AB (Aa ..) ?_
 refine Eb (o:=0+4) (m:=1) go hv1.2.2.1 (by rw[hv1.2.2.2.1];rfl) (by omega) (by show 4+1<=6;omega) λH2 go s2=>?_
 rw[hv1.2.2.2.1]at go
 have go:T.get H2 (ob)=some (one (clC 0 0 nm sup w1 .Ad)):=go
 have ge:=(s2 n0 (by omega)).trans ge
 have gr:=(s2 (n0+1) (by omega)).trans gr
 have f:Kp H0 n0 H2 n1:=⟨f.le,λid hid=>(s2 id (by omega)).trans (f.same id hid)⟩
 have hv2:ABe G H2 (Rg n n1) w1 vs1:=hv1.mono (λ_ h=>h) λid h=>s2 id (by have:=h.1;omega)
 refine AB (Aa ..) (AB (v:=vm) (AQ ge rfl) (AB (hms H2).len ?_))
 refine ER (N:=ms.length) (J:=λj q=>∃H' n' w cs xs,q=(.ptr (n0+1) 0,.ptr (ob) 0,.fn IY [] [],vm,.int .i64 (.ofNat ms.length) 0,.int .i64 (.ofNat j) 0,H',n')/\Kp H0 n0 H' n'/\n1<=n'/\T.get H' (n0+1)=some (one clZ)/\T.get H' (ob)=some (one (clC 0 0 nm sup w1 w))/\ABe G H' (Rg n n1) w1 vs1/\
  Ow G H' n1 n' 8 w cs/\ZH G H' (λid=>n1<=id/\id<n'/\w.QU≠some id) cs xs/\xs.length=j/\∀x∈xs,GM x) ?_ ?_ ⟨H2,n1,.Ad,[],[],rfl,f,Nat.le_refl _,gr,go,hv2,.inl XP,.nil,rfl,λ_ h=>by cases h⟩
 ·rintro I j q hlt2 ⟨H3,n3,w,cs,xs,rfl,f3,hn3,gr,go,hvs,ow,hcs,hj,hgm⟩ ih
  show Ir lfp G (Runs F G) k I (.ptr (n0+1) 0) (.ptr (ob) 0) (.fn IY [] []) vm (.int .i64 (.ofNat ms.length) 0) (.int .i64 (.ofNat j) 0) H3 n3
  delta Ir
  obtain⟨p,hp,hld⟩:=(hms H3).at (List.getElem?_eq_getElem hlt2)
  have hxL:=hmk _ (List.getElem_mem hlt2)
  have hfL:=hfm _ (List.getElem_mem hlt2)
  generalize ms[j]=L at hld hxL hfL
  rw[ES,Aw,decide_eq_true hlt2,Ah]
  refine AB hp (AB (J3 hld) ?_)
  refine Az rfl λH4 f4 g4=>?_
  refine CB g4 rfl hxL.len (by omega) λH5 g5 s5=>?_
  have f5:Kp H3 n3 H5 (n3+1):=⟨f4.le,λid hid=>(s5 id (by omega)).trans (f4.same id hid)⟩
  have go5:=f5.get go (by omega)
  cases hxL with
  | @mk ml mc mnm mst vp mty mar vb ps bs hmn hmt hps hpl hpk kp hbs hbl hbk kb=>
  unfold bigS at hmn hmt
  obtain⟨hp8,hb3⟩:=hfL vp vb ps bs rfl rfl hps hbs
  have vw:BR w w=true:=ow.vs (by omega)
  refine AB (Aa ..) (AB (v:=w) (AQ go5 rfl) ?_)
  refine AB (Aa ..) (AB (v:=sB mnm) (AQ g5 rfl) (AB (Pm mnm) ?_))
  refine AB (Aa ..) (AB (v:=.bool mst) (AQ g5 rfl) ?_)
  refine AB (Aa ..) (AB (v:=vp) (AQ g5 rfl) ?_)
  refine AB (Aa ..) (AB (v:=.agg [sB mty,.bool mar]) (NQ g5 (by omega) (by show 5+2<=8;omega)) ?_)
  refine AB (Aa ..) (AB (v:=vb) (AQ g5 rfl) ?_)
  refine zY λH6 u f6 hu hl2=>?_
  have go6:=f6.get go5 (by omega)
  have g6:=f6.get g5 (by omega)
  refine AB (v:=w) (AQ go6 rfl) (Cc vw ?_)
  refine AB (v:=.bool mst) (AQ g6 rfl) (Cc (iP mst) ?_)
  refine AB (v:=vp) (AQ g6 rfl) (Cc kp ?_)
  refine AB (v:=.agg [sB mty,.bool mar]) (NQ g6 (by omega) (by show 5+2<=8;omega)) (Cc (AI5 ⟨mty,mar⟩) ?_)
  refine AB (v:=vb) (AQ g6 rfl) (Cc kb ?_)
  show Runs F G IY [vp] H6 (n3+1+1) _
  refine vars_c hps hpk (by omega) λH7 n7 w7 vs7 f7 hv7 hl7 hg7=>?_
  have hn7:=f7.le
  have go7:=f7.get go6 (by omega)
  have g7:=f7.get g6 (by omega)
  refine AB (v:=w) (AQ go7 rfl) (Cc vw ?_)
  refine AB (v:=.bool mst) (AQ g7 rfl) (Cc (iP mst) ?_)
  refine AB (v:=.agg [sB mty,.bool mar]) (NQ g7 (by omega) (by show 5+2<=8;omega)) (Cc (AI5 ⟨mty,mar⟩) ?_)
  refine AB (v:=vb) (AQ g7 rfl) (Cc kb ?_)
  refine ALo (by omega) λH8 n8 u2 f8 hu2 hl4=>?_
  have hn8:=f8.le
  have go8:=f8.get go7 (by omega)
  have g8:=f8.get g7 (by omega)
  refine AB (v:=w) (AQ go8 rfl) (Cc vw ?_)
  refine AB (v:=.bool mst) (AQ g8 rfl) (Cc (iP mst) ?_)
  refine AB (v:=vb) (AQ g8 rfl) (Cc kb ?_)
  refine ASQ hS 3 (by omega) hbs hbk hb3 λH9 n9 w9 ss9 f9 hs9 hl9 hg9=>?_
  have hn9:=f9.le
  have go9:=f9.get go8 (by omega)
  have g9:=f9.get g8 (by omega)
  refine AB (v:=w) (AQ go9 rfl) (Cc vw ?_)
  refine AB (v:=.bool mst) (AQ g9 rfl) (Cc (iP mst) ?_)
  have fa:Kp H3 n3 H9 n9:=(((f5.trans f6).trans f7).trans f8).trans f9
  have hv9:ABe G H9 (λid=>n3<id/\id<n9) w7 vs7:=(hv7.mono (λ_ h=>h) λid h=>(f8.trans f9).same id h.2).mono (λid h=>⟨by have:=h.1;omega,by have:=h.2;omega⟩) λ_ _=>rfl
  have hs9':PE G H9 (λid=>n3<id/\id<n9) w9 ss9:=hs9.mono (λid h=>⟨by have:=h.1;omega,h.2⟩) λ_ _=>rfl
  obtain⟨cs9,hel9,hk9,_⟩:=id hs9'
  refine AB (AUi hv9.1 hv9.2.1 hel9 hk9 u u2 mst mar) ?_
  have hcl:cs.length=xs.length:=hcs.len
  refine AEA (c:=meC 0 0 u mst w7 ⟨u2,mar⟩ w9) (ow.kp fa) (by omega) (by omega) rfl rfl (by omega) λw' H10 ow10 s10 hid10=>?_
  have f10:∀id,id<n1->T.get H10 id=T.get H3 id:=λid hid=>(s10 id (by omega) λh=>by have:=ow.at h;omega).trans (fa.same id (by omega))
  refine AB (Aa ..) ?_
  refine Eb (o:=0+5) (m:=1) ((f10 (ob) (by omega)).trans go) ow10.ok.2.1 (by rw[ow10.ok.2.2];rfl) (by omega) (by show 5+1<=6;omega) λH11 go11 s11=>?_
  rw[ow10.ok.2.2]at go11
  have go11:T.get H11 (ob)=some (one (clC 0 0 nm sup w1 w')):=go11
  refine AB (Ee (by omega)) ?_
  have hme:aB G H9 (λid=>n3<id/\id<n9) (meC 0 0 u mst w7 ⟨u2,mar⟩ w9) ⟨u,mst,vs7,⟨u2,mar⟩,ss9⟩:=.mk 0 0 hv9 hs9'
  refine ih _ ⟨H11,n9+2,w',cs++[meC 0 0 u mst w7 ⟨u2,mar⟩ w9],xs++[⟨u,mst,vs7,⟨u2,mar⟩,ss9⟩],rfl,⟨by omega,λid hid=>(s11 id (by omega)).trans ((f10 id (by omega)).trans (f3.same id hid))⟩,by omega,(s11 _ (by omega)).trans ((f10 _ (by omega)).trans gr),go11,
   hvs.mono (λ_ h=>h) λid h=>(s11 id (by have:=h.1;omega)).trans (f10 id h.2),ow10.frame (Nat.le_refl _) λid hid=>s11 id (by have:=hid10 id hid;omega),?_,by rw[List.length_append,hj];rfl,λy hy=>?_⟩
  ·refine ZH.app (hcs.mono (λid h=>⟨h.1,by have:=h.2.1;omega,λh'=>by have:=hid10 id h';have:=h.2.1;omega⟩) λid h=>?_) (.cons (hme.mono (λid h=>⟨by have:=h.1;omega,by have:=h.2;omega,λh'=>by have:=hid10 id h';have:=h.2;omega⟩) λid h=>?_) .nil)
   ·exact(s11 id (by have:=h.1;omega)).trans ((s10 id (by have:=h.2.1;omega) h.2.2).trans (fa.same id h.2.1))
   ·exact(s11 id (by have:=h.1;omega)).trans (s10 id h.2 λh'=>by have:=ow.at h';have:=h.1;omega)
  ·rcases List.mem_append.1 hy with hy|hy
   ·exact hgm y hy
   ·simp at hy;subst hy
    exact⟨hu,hl2,hu2,hl4,hg7,by show vs7.length<=8;omega,hg9,by show ss9.length<=10;rw[hl9];exact hb3.len⟩
 ·rintro I q ⟨H3,n3,w,cs,xs,rfl,f3,hn3,gr,go,hvs,ow,hcs,hj,hgm⟩
  show Ir lfp G (Runs F G) k I (.ptr (n0+1) 0) (.ptr (ob) 0) (.fn IY [] []) vm (.int .i64 (.ofNat ms.length) 0) (.int .i64 (.ofNat ms.length) 0) H3 n3
  delta Ir
  rw[ES,Aw,decide_eq_false (Nat.lt_irrefl _),Aq]
  show Ky lfp G (Runs F G) k (.ptr (n0+1) 0) (.ptr (ob) 0) H3 n3
  delta Ky
  refine AB (Ai (m:=6) go (by omega) rfl) ?_
  refine CB gr rfl rfl (by omega) λH4 g4 s4=>?_
  rw[DU (m:=6) g4 (by omega) rfl]
  simp only[go_sem]
  refine hk _ _ _ ⟨nm,sup,vs1,xs⟩ ⟨f3.le,λid hid=>(s4 id (by omega)).trans (f3.same id hid)⟩ ⟨hn,hn2,hs,hs2,hg1,by show vs1.length<=10;omega,hgm,by show xs.length<=10;omega⟩
   (.mk 0 0 (hvs.mono (λid h=>⟨by have:=h.1;omega,by have:=h.2;omega⟩) λid h=>s4 id (by have:=h.1;omega)) ⟨cs,(ow.el (by omega)).same λid hid=>s4 id (by have:=ow.at hid;omega),ow.ok.1,ow.ok.2.1,ow.ok.2.2,λid hid=>by have:=ow.at hid;exact⟨by omega,by omega⟩,hcs.mono (λid h=>⟨by have:=h.1;omega,h.2.1⟩) λid h=>s4 id (by have:=h.1;omega)⟩)
theorem AJz(hS:ADj G){H:Heap}{n:Nat}{L:LV}(hL:XC G L)(hF:FwC G L)(hk:AYI G H n k):Runs F G bD [.agg L] H n k:=by
 cases hL with
 | @mk l c nm sup vf vm fs ms hn hs hfs hfl hfk hms hml hmk=>
 unfold bigS at hn
 obtain⟨hf10,hm10,hfm⟩:=hF vf vm fs ms rfl rfl hfs hms
 refine Am (s:=Gw (Qd lfp G)) Ue (by obtain⟨h,o⟩:=yD Ap G;rw[Ue]at h;cases h;exact o) ?_
 show Qd lfp G (Runs F G) (.agg (xcC l c nm sup vf vm)) H n k
 delta Qd
 refine Di λH1 f1 g1=>?_
 refine Az rfl λH2 f2 g2=>?_
 have g1:=f2.get g1 (by omega)
 have f2:=f1.trans f2
 refine AB (Aa ..) (AB (v:=sB nm) (AQ g1 rfl) (AB (Pm nm) ?_))
 refine AEa λH3 u f3 hu hl2=>?_
 have g1:=f3.get g1 (by omega)
 have g2:=f3.get g2 (by omega)
 refine AB (v:=.agg (clC 0 0 u [] .Ad .Ad)) rfl ?_
 refine Az rfl λH4 f4 g4=>?_
 refine CB g4 rfl rfl (by omega) λH5 g5 s5=>?_
 have f5:Kp H3 (n+1+1+1) H5 (n+1+1+1+1):=⟨f4.le,λid hid=>(s5 id (by omega)).trans (f4.same id hid)⟩
 have g1:=f5.get g1 (by omega)
 have g2:=f5.get g2 (by omega)
 have f5:=(f2.trans f3).trans f5
 refine AB (Aa ..) (AB (v:=sB sup) (AQ g1 rfl) ?_)
 by_cases hz:sup=[]
 ·have e:EU (.one .str) true (sB sup) (.str 0 0)=some (.bool false):=(ASf sup []).trans (by rw[decide_eq_true hz];rfl)
  rw[e,Aw,Aq]
  exact AT6 hS f5 (ob:=n+1+1+1) (by omega) (by omega) g1 g2 g5 hu hl2 (.inl rfl) (Nat.zero_le _) hfs hfk hms hmk hf10 hm10 hfm hk
 ·have e:EU (.one .str) true (sB sup) (.str 0 0)=some (.bool true):=(ASf sup []).trans (by rw[decide_eq_false hz];rfl)
  rw[e,Aw,Ah]
  refine AB (Aa ..) (AB (v:=sB sup) (AQ g1 rfl) (AB (Pm sup) (AB (Ee (by omega)) ?_)))
  refine AEa λH6 u2 f6 hu2 hl3=>?_
  have g1:=f6.get g1 (by omega)
  have g2:=f6.get g2 (by omega)
  have g5:=f6.get g5 (by omega)
  have f6:=f5.trans f6
  refine AB (Aa ..) ?_
  refine Eb (o:=0+3) (m:=1) g5 rfl rfl (by omega) (by show 3+1<=6;omega) λH7 g7 s7=>?_
  have g7:T.get H7 (n+1+1+1)=some (one (clC 0 0 u u2 .Ad .Ad)):=g7
  exact AT6 hS (ob:=n+1+1+1) ⟨f6.le,λid hid=>(s7 id (by omega)).trans (f6.same id hid)⟩ (by omega) (by omega) ((s7 _ (by omega)).trans g1) ((s7 _ (by omega)).trans g2) g7 hu hl2 (.inr hu2) (by omega) hfs hfk hms hmk hf10 hm10 hfm hk
end
theorem oK{G:AV}{H:Heap}{v:V}{z:Nat}{A B:Dv}(h:El G H v z A)(h':El G H v z B):A=B:=Option.some.inj (h.2.symm.trans h'.2)
section
variable{G:AV}
def BK(H:Heap)(n:Nat)(k:KV):Prop:=∀H' n' b,Kp H n H' n'->k (.bool b) H' n'
theorem AZG{L:LV}(hL:XE G L):∀{H:Heap} {n d:Nat} {k:KV},BK H n k->Runs F G YZ [.agg L,.int .i64 (.ofNat d) 0] H n k:=by
 induction hL with
 | @mk kd l c nu nm ty ar v t2 a2 n3 LS hn ht hel hl hkids ihk=>
 intro H n d k hk
 refine Am (s:=QS (UO lfp G)) XD (by obtain⟨h,o⟩:=ABY Ap G;rw[XD]at h;cases h;exact o) ?_
 show UO lfp G (Runs F G) (.agg (xeC kd l c nu nm ty ar v t2 a2 n3)) (.int .i64 (.ofNat d) 0) H n k
 delta UO
 refine Di λH1 f1 g1=>?_
 have q7:AX (.ptr n 7) G H1=some v:=AQ g1 rfl
 have q4:AX (.ptr n 4) G H1=some (sB nm):=AQ g1 rfl
 have q5:AX (.ptr n 5) G H1=some (sB ty):=AQ g1 rfl
 refine AB (MJ ..) ?_
 cases h1:decide (10<d)with
 |true=>
  repeat (first|with_reducible refine xW ?_|with_reducible refine zx ?_)
  rw[Ah];exact hk _ _ _ f1
 |false=>
 simp only[go_sem,Nat.reduceAdd,q7,(hel H1).len,MJ]
 cases h2:decide (5<LS.length)with
 |true=>
  repeat (first|with_reducible refine xW ?_|with_reducible refine zx ?_)
  rw[Ah];exact hk _ _ _ f1
 |false=>
 simp only[go_sem,Nat.reduceAdd,q4,Pm,MJ]
 cases h3:decide (40<nm.length)with
 |true=>
  repeat (first|with_reducible refine xW ?_|with_reducible refine zx ?_)
  rw[Ah];exact hk _ _ _ f1
 |false=>
 simp only[go_sem,Nat.reduceAdd,q5,Pm,MJ]
 cases h4:decide (40<ty.length)with
 |true=>
  rw[Ah];exact hk _ _ _ f1
 |false=>
 have h1:=of_decide_eq_false h1
 simp only[go_sem,Nat.reduceAdd,q7,(hel H1).len]
 refine ER (N:=LS.length) (J:=λj q=>∃H' n',q=(.int .i64 (.ofNat d) 0,v,.int .i64 (.ofNat LS.length) 0,.int .i64 (.ofNat j) 0,H',n')/\Kp H n H' n') ?_ ?_ ⟨H1,n+1,rfl,f1⟩
 ·rintro I j q hlt ⟨H2,n2,rfl,f2⟩ ih
  show J9 lfp G (Runs F G) k I (.int .i64 (.ofNat d) 0) v (.int .i64 (.ofNat LS.length) 0) (.int .i64 (.ofNat j) 0) H2 n2
  delta J9
  obtain⟨p,hp,hld⟩:=(hel H2).at (List.getElem?_eq_getElem hlt)
  have hx:=hkids _ (List.getElem_mem hlt)
  have hi:= @ihk _ (List.getElem_mem hlt)
  generalize LS[j]=M at hld hx hi
  rw[ES,Aw,decide_eq_true hlt,Ah]
  refine AB hp (AB (J3 hld) ?_)
  refine Az rfl λH3 f3 g3=>?_
  refine CB g3 rfl hx.len (by omega) λH4 g4 s4=>?_
  have f4:Kp H2 n2 H4 (n2+1):=⟨f3.le,λid hid=>(s4 id (by omega)).trans (f3.same id hid)⟩
  refine AB (Ai (m:=11) g4 (by omega) hx.len) (AB (Ee (by omega)) ?_)
  refine hi λH5 n5 b f5=>?_
  have f5:=(f2.trans f4).trans f5
  rw[Lh,Aw]
  cases b with
  |false=>rw[Bool.not_false,Ah];exact hk _ _ _ f5
  |true=>
   rw[Bool.not_true,Aq]
   exact AB (Ee (by omega)) (ih _ ⟨H5,n5,rfl,f5⟩)
 ·rintro I q ⟨H2,n2,rfl,f2⟩
  show J9 lfp G (Runs F G) k I (.int .i64 (.ofNat d) 0) v (.int .i64 (.ofNat LS.length) 0) (.int .i64 (.ofNat LS.length) 0) H2 n2
  delta J9
  rw[ES,Aw,decide_eq_false (Nat.lt_irrefl _),Aq]
  delta TL
  exact hk _ _ _ f2
def FK(G:AV)(LS:Dv)(H:Heap)(n:Nat)(k:KV):Prop:=∀H' n' b,Kp H n H' n'->(b=true->∀m,FwS G m LS)->k (.bool b) H' n'
def FC(G:AV)(v:V)(LS:Dv):Prop:=∀{H:Heap} {n d:Nat} {k:KV},FK G LS H n k->Runs F G L8 [v,.int .i64 (.ofNat d) 0] H n k
def FwL(G:AV)(L:LV):Prop:=∀m vt vl ts ls,L[7]? =some vt->L[8]? =some vl->(∀H,El G H vt 9 ts)->(∀H,El G H vl 9 ls)->FwS G m ts/\FwS G m ls
def ATq(G:AV)(L:LV):Prop:=∀vt vl ts ls,L[7]? =some vt->L[8]? =some vl->(∀H,El G H vt 9 ts)->(∀H,El G H vl 9 ls)->FC G vt ts/\FC G vl ls
theorem AVA{LS:Dv}(h10:LS.length<=10)(h:∀L∈LS,FwL G L):∀m,FwS G m LS
 |0=>h10
 |m+1=>⟨h10,λL hL vt vl ts ls h1 h2 h3 h4=>h L hL m vt vl ts ls h1 h2 h3 h4⟩
theorem ABQ{v:V}{LS:Dv}(hv:∀H,El G H v 9 LS)(hX:∀L∈LS,XS G L)(hN:∀L∈LS,ATq G L):FC G v LS:=by
 intro H n d k hk
 refine Am (s:=QS (L9 lfp G)) QW (by obtain⟨h,o⟩:=nG Ap G;rw[QW]at h;cases h;exact o) ?_
 show L9 lfp G (Runs F G) v (.int .i64 (.ofNat d) 0) H n k
 delta L9
 have bad:∀{H' n'},Kp H n H' n'->k (.bool false) H' n':=λf=>hk _ _ _ f λh=>by cases h
 refine AB (MJ ..) ?_
 cases h1:decide (5<d)with
 |true=>
  repeat (first|with_reducible refine xW ?_|with_reducible refine zx ?_)
  rw[Ah];exact bad (Kp.refl ..)
 |false=>
 simp only[go_sem,(hv H).len,MJ]
 cases h2:decide (10<LS.length)with
 |true=>rw[Ah];exact bad (Kp.refl ..)
 |false=>
 have h1:=of_decide_eq_false h1
 have h2:=of_decide_eq_false h2
 simp only[go_sem,(hv H).len]
 refine ER (N:=LS.length) (J:=λj q=>∃H' n',q=(.int .i64 (.ofNat d) 0,v,.int .i64 (.ofNat LS.length) 0,.int .i64 (.ofNat j) 0,H',n')/\Kp H n H' n'/\∀L∈LS.take j,FwL G L) ?_ ?_ ⟨H,n,rfl,Kp.refl ..,λL h=>by cases h⟩
 ·rintro I j q hlt ⟨H2,n2,rfl,f2,hw⟩ ih
  show He lfp G (Runs F G) k I (.int .i64 (.ofNat d) 0) v (.int .i64 (.ofNat LS.length) 0) (.int .i64 (.ofNat j) 0) H2 n2
  delta He
  obtain⟨p,hp,hld⟩:=(hv H2).at (List.getElem?_eq_getElem hlt)
  have hx:=hX _ (List.getElem_mem hlt)
  have hn:=hN _ (List.getElem_mem hlt)
  have ih:∀H' n',Kp H n H' n'->FwL G LS[j]->I (.int .i64 (.ofNat d) 0,v,.int .i64 (.ofNat LS.length) 0,.int .i64 (.ofNat (j+1)) 0,H',n'):=λH' n' f h=>ih _ ⟨H',n',rfl,f,λL hL=>by
   rw[List.take_succ_eq_append_getElem hlt]at hL
   rcases List.mem_append.1 hL with hL|hL
   ·exact hw L hL
   ·simp at hL;subst hL;exact h⟩
  generalize LS[j]=M at hld hx hn ih
  rw[ES,Aw,decide_eq_true hlt,Ah]
  refine AB hp (AB (J3 hld) ?_)
  refine Az rfl λH3 f3 g3=>?_
  refine CB g3 rfl hx.len (by omega) λH4 g4 s4=>?_
  have f4:Kp H2 n2 H4 (n2+1):=⟨f3.le,λid hid=>(s4 id (by omega)).trans (f3.same id hid)⟩
  cases hx with
  | @mk does l c nm ty ar ve vt vl es ts ls hn2 ht2 he hel hek hth htl htk hls hll hlk=>
  obtain⟨ct,cl⟩:=hn vt vl ts ls rfl rfl hth hls
  have f4:=f2.trans f4
  have q6:AX (.ptr n2 6) G H4=some ve:=AQ g4 rfl
  have q3:AX (.ptr n2 3) G H4=some (sB nm):=AQ g4 rfl
  have q4:AX (.ptr n2 4) G H4=some (sB ty):=AQ g4 rfl
  have q7:AX (.ptr n2 7) G H4=some vt:=AQ g4 rfl
  simp only[go_sem,Nat.reduceAdd,q6,(he H4).len,MJ]
  cases h3:decide (3<es.length)with
  |true=>
   repeat (first|with_reducible refine xW ?_|with_reducible refine AAR ?_|with_reducible refine zx ?_)
   rw[Ah];exact bad f4
  |false=>
  simp only[go_sem,Nat.reduceAdd,q3,Pm,MJ]
  cases h4:decide (40<nm.length)with
  |true=>
   repeat (first|with_reducible refine xW ?_|with_reducible refine AAR ?_|with_reducible refine zx ?_)
   rw[Ah];exact bad f4
  |false=>
  simp only[go_sem,Nat.reduceAdd,q4,Pm,MJ]
  cases h5:decide (40<ty.length)with
  |true=>
   repeat (first|with_reducible refine xW ?_|with_reducible refine AAR ?_|with_reducible refine zx ?_)
   rw[Ah];exact bad f4
  |false=>
  simp only[go_sem,Nat.reduceAdd,q7,Ee (show d+1<9223372036854775808 by omega)]
  refine ct λH5 n5 b5 f5 hb5=>?_
  have g5:=f5.get g4 (by omega)
  have q8:AX (.ptr n2 8) G H5=some vl:=AQ g5 rfl
  have hn5:=f5.le
  have f5:=f4.trans f5
  rw[Lh,Aw]
  cases b5 with
  |false=>
   rw[Bool.not_false]
   repeat (first|with_reducible refine xW ?_|with_reducible refine AAR ?_|with_reducible refine zx ?_)
   try rw[Ah]
   exact bad f5
  |true=>
  rw[Bool.not_true]
  simp only[go_sem,Nat.reduceAdd,q8,Ee (show d+1<9223372036854775808 by omega)]
  refine cl λH6 n6 b6 f6 hb6=>?_
  have g6:=f6.get g5 (by omega)
  have q6:AX (.ptr n2 6) G H6=some ve:=AQ g6 rfl
  have hn6:=f6.le
  have f6:=f5.trans f6
  rw[Lh,Aw]
  cases b6 with
  |false=>rw[Bool.not_false,Ah];exact bad f6
  |true=>
  rw[Bool.not_true,Aq]
  simp only[go_sem,Nat.reduceAdd,Nat.zero_add,q6,(he H6).len]
  have hFw:FwL G (xsC does l c nm ty ar ve vt vl):=λm vt' vl' ts' ls' e1 e2 e3 e4=>by
   cases e1;cases e2
   rw[oK (e3 H) (hth H),oK (e4 H) (hls H)]
   exact⟨hb5 rfl m,hb6 rfl m⟩
  refine ER (N:=es.length) (J:=λi q=>∃H' n',q=(.int .i64 (.ofNat d) 0,v,.int .i64 (.ofNat LS.length) 0,.int .i64 (.ofNat j) 0,ve,.int .i64 (.ofNat es.length) 0,.int .i64 (.ofNat i) 0,H',n')/\Kp H n H' n') ?_ ?_ ⟨H6,n6,rfl,f6⟩
  ·rintro I2 i q hlt2 ⟨H7,n7,rfl,f7⟩ ih2
   show GZ lfp G (Runs F G) k I I2 (.int .i64 (.ofNat d) 0) v (.int .i64 (.ofNat LS.length) 0) (.int .i64 (.ofNat j) 0) ve (.int .i64 (.ofNat es.length) 0) (.int .i64 (.ofNat i) 0) H7 n7
   delta GZ
   obtain⟨p,hp,hld⟩:=(he H7).at (List.getElem?_eq_getElem hlt2)
   have hx:=hek _ (List.getElem_mem hlt2)
   generalize es[i]=M at hld hx
   rw[ES,Aw,decide_eq_true hlt2,Ah]
   refine AB hp (AB (J3 hld) ?_)
   refine Az rfl λH8 f8 g8=>?_
   refine CB g8 rfl hx.len (by omega) λH9 g9 s9=>?_
   have f9:Kp H7 n7 H9 (n7+1):=⟨f8.le,λid hid=>(s9 id (by omega)).trans (f8.same id hid)⟩
   refine AB (Ai (m:=11) g9 (by omega) hx.len) ?_
   refine AZG (d:=0) hx λH10 n10 b f10=>?_
   have f10:=(f7.trans f9).trans f10
   rw[Lh,Aw]
   cases b with
   |false=>rw[Bool.not_false,Ah];exact bad f10
   |true=>
    rw[Bool.not_true,Aq]
    exact AB (Ee (by omega)) (ih2 _ ⟨H10,n10,rfl,f10⟩)
  ·rintro I2 q ⟨H7,n7,rfl,f7⟩
   show GZ lfp G (Runs F G) k I I2 (.int .i64 (.ofNat d) 0) v (.int .i64 (.ofNat LS.length) 0) (.int .i64 (.ofNat j) 0) ve (.int .i64 (.ofNat es.length) 0) (.int .i64 (.ofNat es.length) 0) H7 n7
   delta GZ
   rw[ES,Aw,decide_eq_false (Nat.lt_irrefl _),Aq]
   delta NZ
   exact AB (Ee (by omega)) (ih _ _ f7 hFw)
 ·rintro I q ⟨H2,n2,rfl,f2,hw⟩
  show He lfp G (Runs F G) k I (.int .i64 (.ofNat d) 0) v (.int .i64 (.ofNat LS.length) 0) (.int .i64 (.ofNat LS.length) 0) H2 n2
  delta He
  rw[ES,Aw,decide_eq_false (Nat.lt_irrefl _),Aq]
  delta Oc
  rw[List.take_length]at hw
  exact hk _ _ _ f2 λ_=>AVA (by omega) hw
theorem AVH{L:LV}(hL:XS G L):ATq G L:=by
 induction hL with
 | @mk does l c nm ty ar ve vt vl es ts ls hn2 ht2 he hel hek hth htl htk hls hll hlk iht ihl=>
  intro vt' vl' ts' ls' e1 e2 e3 e4
  cases e1;cases e2
  rw[oK (e3 .e) (hth .e),oK (e4 .e) (hls .e)]
  exact⟨ABQ hth htk iht,ABQ hls hlk ihl⟩
theorem AKk{v:V}{LS:Dv}(hv:∀H,El G H v 9 LS)(hX:∀L∈LS,XS G L):FC G v LS:=ABQ hv hX λL hL=>AVH (hX L hL)
end
theorem yP(a:Ex):nL [a]=nE a:=by unfold nL;unfold nL;omega
theorem APt(a b:Ex):nL [a,b]=nE a+nE b:=by unfold nL;rw[yP]
theorem ALu:∀{ks:List Ex},(∀x∈ks,nE x<=(textE x).length)->nL ks<=(IZ (ks.map textE)).length
 |[],_=>by rw[rG];exact Nat.zero_le _
 |a::l,h=>by
  have h1:=h a (List.mem_cons_self ..)
  have h2:∀l:List Ex,(∀x∈l,nE x<=(textE x).length)->nL l<=((l.map textE).flatMap λb=>DK++([32]++b)).length:=by
   intro l
   induction l with
   |nil=>intro _;rw[rG];exact Nat.zero_le _
   |cons c l ih=>
    intro h
    have h3:=ih λx hx=>h x (List.mem_cons_of_mem _ hx)
    have h4:=h c (List.mem_cons_self ..)
    unfold nL
    simp only[List.map_cons,List.flatMap_cons,List.length_append];omega
  have h3:=h2 l λx hx=>h x (List.mem_cons_of_mem _ hx)
  unfold nL IZ
  simp only[List.map_cons,List.length_append];omega
theorem aV:∀f x,1<=yG f x
 |0,x=>by unfold yG;omega
 |f+1,x=>by unfold yG;split<;>omega
theorem bM{e:Ex}(h:Wr e):nE e<=(textE e).length:=by
 have hm:=G5
 induction h with
 | @num n h=>rw[Fb,rG,Ae];show _<=(Zw n).length;unfold Zw;rw[VU];exact aV 20 n
 |tru=>rw[Fb,rG,Ae];decide
 |fls=>rw[Fb,rG,Ae];decide
 |nul=>rw[Fb,rG,Ae];decide
 |ths=>rw[Fb,rG,Ae];decide
 | @loc l h=>
  rw[Fb,rG,Ae]
  show _<=l.length
  cases l with
  |nil=>cases h
  |cons a l=>simp only[List.length_cons];omega
 | @get l a h ha ih=>rw[Fb,yP,Ae];show _<=(textE a++(DX++l)).length;simp only[List.length_append];omega
 | @call l a ks h ha hk hn ih ihk=>
  rw[Fb,Ae]
  have:=ALu ihk
  show 1+nL (a::ks)<=(textE a++(DX++(l++(BJ++(IZ (ks.map textE)++BM))))).length
  unfold nL
  simp only[List.length_append];omega
 | @stat l u ks h hu hk hn ihk=>
  rw[Fb,Ae]
  have:=ALu ihk
  show 1+nL ks<=(u++(DX++(l++(BJ++(IZ (ks.map textE)++BM))))).length
  simp only[List.length_append];omega
 | @new u hu=>rw[Fb,rG,Ae];show _<=(BJ++(Jb++([32]++(u++BM)))).length;simp only[List.length_append];omega
 | @arr u a hu ha ih=>rw[Fb,yP,Ae];show _<=(Jb++([32]++(u++(Hq++(textE a++G6))))).length;simp only[List.length_append];omega
 | @elm a b ha hb iha ihb=>rw[Fb,APt,Ae];show _<=(textE a++(Hq++(textE b++G6))).length;simp only[List.length_append];omega
 | @len a ha ih=>rw[Fb,yP,Ae];show _<=(textE a++(DX++Io)).length;simp only[List.length_append];omega
 | @neg a ha ih=>rw[Fb,yP,Ae];show _<=(BJ++(Dz++(textE a++BM))).length;simp only[List.length_append];omega
 | @not a ha ih=>rw[Fb,yP,Ae];show _<=(BJ++(JA++(textE a++BM))).length;simp only[List.length_append];omega
 | @bin o a b ho ha hb iha ihb=>rw[Fb,APt,Ae];show _<=(BJ++(textE a++([32]++(o++([32]++(textE b++BM)))))).length;simp only[List.length_append];omega
 | @and a b ha hb iha ihb=>rw[Fb,APt,Ae];show _<=(BJ++(textE a++([32]++(Ob++([32]++(textE b++BM)))))).length;simp only[List.length_append];omega
 | @or a b ha hb iha ihb=>rw[Fb,APt,Ae];show _<=(BJ++(textE a++([32]++(ZP++([32]++(textE b++BM)))))).length;simp only[List.length_append];omega
 | @asx u a hu ha ih=>rw[Fb,yP,Ae];show _<=(BJ++(textE a++([32]++(UC++([32]++(u++BM)))))).length;simp only[List.length_append];omega
 | @isx u a hu ha ih=>rw[Fb,yP,Ae];show _<=(BJ++(textE a++([32]++(Qv++([32]++(u++BM)))))).length;simp only[List.length_append];omega
theorem APr{t:Nat}:∀{l:List St},(∀s∈l,nS s<=(textS t s).length)->nSs l<=(l.map (textS t)).flatten.length
 |[],_=>by rw[ABp];exact Nat.zero_le _
 |a::l,h=>by
  have h1:=h a (List.mem_cons_self ..)
  have h2:=APr (l:=l) λx hx=>h x (List.mem_cons_of_mem _ hx)
  rw[AQO]
  simp only[List.map_cons,List.flatten_cons,List.length_append];omega
theorem AGl{t:Nat}{l:List St}(h:∀s∈l,nS s<=(textS (t+1) s).length):nSs l<=(I4 t (l.map (textS (t+1)))).length:=by
 have:=APr h
 unfold I4
 simp only[List.length_append];omega
theorem AO9{s:St}(h:WrS s):∀t,nS s<=(textS t s).length:=by
 have hw:=UG
 induction h with
 | @lt l ty e hl ht he=>intro t;have:=bM he;rw[Y3,yP,ABp,D6];show _<=(tabs t++(P5++([32]++(sG ty++([32]++(l++([32]++(EM++([32]++(textE e++(BD++[10]))))))))))).length;simp only[List.length_append];omega
 | @put a b ha hk hb=>intro t;have:=bM ha;have:=bM hb;rw[Y3,APt,ABp,D6];show _<=(tabs t++(textE a++([32]++(EM++([32]++(textE b++(BD++[10]))))))).length;simp only[List.length_append];omega
 | @ask a ha hk=>intro t;have:=bM ha;rw[Y3,yP,ABp,D6];show _<=(tabs t++(textE a++(BD++[10]))).length;simp only[List.length_append];omega
 | @ret a ha=>intro t;have:=bM ha;rw[Y3,yP,ABp,D6];show _<=(tabs t++(E8++([32]++(textE a++(BD++[10]))))).length;simp only[List.length_append];omega
 | @prt a ha=>intro t;have:=bM ha;rw[Y3,yP,ABp,D6];show _<=(tabs t++(Gu++([32]++(textE a++(BD++[10]))))).length;simp only[List.length_append];omega
 | @loop c th hc ht iht=>intro t;have:=bM hc;have:=AGl (t:=t) λs hs=>iht s hs (t+1);rw[Y3,yP,ABp,D6];show _<=(tabs t++(Fz++([32]++(textE c++([32]++(I4 t (th.map (textS (t+1)))++[10])))))).length;simp only[List.length_append];omega
 | @ite c th el hc ht he iht ihe=>
  intro t
  have:=bM hc
  have:=AGl (t:=t) λs hs=>iht s hs (t+1)
  have h2:=AGl (t:=t) λs hs=>ihe s hs (t+1)
  rw[Y3,yP,D6]
  have h3:nSs el<=(bif (el.map (textS (t+1))).isEmpty then([]:Bs)else[32]++(Ec++([32]++I4 t (el.map (textS (t+1)))))).length:=by
   cases el with
   |nil=>rw[ABp];exact Nat.zero_le _
   |cons y el=>show _<=([32]++(Ec++([32]++I4 t ((y::el).map (textS (t+1)))))).length;simp only[List.length_append];omega
  show _<=(tabs t++(KI++([32]++(textE c++([32]++(I4 t (th.map (textS (t+1)))++((bif (el.map (textS (t+1))).isEmpty then[]else[32]++(Ec++([32]++I4 t (el.map (textS (t+1))))))++[10]))))))).length
  simp only[List.length_append];omega
theorem ANJ:∀ls:List Bs,ls.length<=(IZ ls).length+1
 |[]=>by decide
 |a::l=>by
  have h2:∀l:List Bs,l.length<=(l.flatMap λb=>DK++([32]++b)).length:=by
   intro l
   induction l with
   |nil=>exact Nat.le_refl _
   |cons c l ih=>have:DK.length=1:=rfl;simp only[List.flatMap_cons,List.length_append,List.length_cons];omega
  have:=h2 l
  unfold IZ
  simp only[List.length_append,List.length_cons];omega
theorem ATE{m:Me}(h:WrM m):nM m<=(WH m).length:=by
 have h1:=AGl (t:=1) λs hs=>AO9 (h.body s hs) 2
 have h2:=ANJ (m.ps.map mW)
 rw[List.length_map]at h2
 have h3:BJ.length=1/\Ep.length=6:=⟨rfl,rfl⟩
 unfold nM WH
 simp only[List.length_append]at h1⊢
 have h4:(I4 1 (m.body.map (textS 2))).length=(I4 1 (m.body.map (textS (1+1)))).length:=rfl
 omega
theorem AIe:∀{l:List Me},(∀m∈l,WrM m)->nMs l<=(l.map WH).flatten.length
 |[],_=>Nat.zero_le _
 |a::l,h=>by
  have h1:=ATE (h a (List.mem_cons_self ..))
  have h2:=AIe (l:=l) λx hx=>h x (List.mem_cons_of_mem _ hx)
  unfold nMs
  simp only[List.map_cons,List.flatten_cons,List.length_append];omega
theorem AIJ{c:Cl}(h:WrC c):nC c<=(Zb c).length:=by
 have h1:=AIe h.ms
 have h2:∀l:List Va,l.length<=(l.map Oq).flatten.length:=by
  intro l
  induction l with
  |nil=>exact Nat.le_refl _
  |cons c l ih=>
   have:1<=(Oq c).length:=by unfold Oq;simp only[List.length_append,List.length_cons];omega
   simp only[List.map_cons,List.flatten_cons,List.length_append,List.length_cons];omega
 have h2:=h2 c.fs
 unfold nC Zb
 simp only[List.length_append];omega
theorem GM.wr{m:Me}(h:GM m):WrM m:=⟨h.nm,h.ret,λp hp=>(h.ps p hp).wr,by have:=h.pn;omega,λs hs=>(h.body s hs).wr⟩
theorem GC.wr{c:Cl}(h:GC c):WrC c:=⟨h.nm,h.sup,λf hf=>(h.fs f hf).wr,by have:=h.fn;omega,λm hm=>(h.ms m hm).wr,by have:=h.mn;omega⟩
theorem GC.dp{c:Cl}(h:GC c):dC c<=100:=by
 unfold dC
 refine ACd λx hx=>?_
 obtain⟨m,hm,rfl⟩:=List.mem_map.1 hx
 unfold dM
 have:=maxS (h.ms m hm).body
 omega
theorem AXF{m:Me}(h:GM m):(WH m).length<=8500000000:=by
 have h1:=ACz (f:=textS 2) (P:=SQ 3) (λs hs=>(h.body s hs).ln 2 (by omega)) h.bn
 have h2:=AH9 (P:=9) (ls:=m.ps.map mW) (λb hb=>by
  obtain⟨p,hp,rfl⟩:=List.mem_map.1 hb
  have:=AF4 (h.ps p hp).tl
  have:=(h.ps p hp).nl
  unfold mW
  simp only[List.length_append,List.length_cons,List.length_nil];omega)
 rw[List.length_map]at h2
 have h3:=AF4 h.rl
 have h4:=h.nl
 have h5:=h.pn
 have h6:SQ 3=842100000:=by decide
 have hp:=AHs m.st
 have h7:m.ps.length*(9+2)<=8*11:=Nat.mul_le_mul_right _ h5
 have h8:BJ.length=1/\BM.length=1/\Nu.length=1/\m_rc.length=1/\([10]:Bs).length=1/\([32]:Bs).length=1/\(tabs 1).length=1:=⟨rfl,rfl,rfl,rfl,rfl,rfl,rfl⟩
 rw[ADm]
 unfold headB I4
 simp only[List.length_append]
 omega
theorem AVa{c:Cl}(h:GC c):(Zb c).length<=100000000000:=by
 have h1:=ACz (f:=WH) (λm hm=>AXF (h.ms m hm)) h.mn
 have h2:=ACz (f:=Oq) (P:=20) (λf hf=>by
  have:=AF4 (h.fs f hf).tl
  have:=(h.fs f hf).nl
  have:O5.length=5/\BD.length=1:=⟨rfl,rfl⟩
  unfold Oq
  simp only[List.length_append,List.length_cons,List.length_nil];omega) h.fn
 have h3:=h.nl
 have h4:=h.sl
 have h5:(bif c.sup.isEmpty then([]:Bs)else[32]++(I9++([32]++c.sup))).length<=11:=by
  cases c.sup.isEmpty with
  |true=>exact Nat.zero_le _
  |false=>
   have:I9.length=7:=rfl
   show([32]++(I9++([32]++c.sup))).length<=11
   simp only[List.length_append,List.length_cons,List.length_nil];omega
 have h8:Nu.length=1/\m_rc.length=1/\([10]:Bs).length=1/\([32]:Bs).length=1/\OM.length=5:=⟨rfl,rfl,rfl,rfl,rfl⟩
 unfold Zb
 simp only[List.length_append]
 omega
theorem AJ9{x:Cl}(h:GC x)(hl:(Zb x).length<=65536):qc 200000 (Zb x)=some (some x,0):=by
 have hw:=h.wr
 have hn:=AIJ hw
 unfold qc
 rw[ASG (ANL hw) hl]
 obtain⟨c',e,h1,h2,h3⟩:=ATO (f:=200000) hw (by omega) (by omega)
 have he:e=0:=by rcases h3 with h3|h3;exact h3.1;have:=h.dp;omega
 subst he
 show((AG9 200000 (wE x++[YW])).bind λp=>some (bif decide (p.2=0)then(some p.1,0)else(none,p.2)))=_
 rw[h1,h2 rfl];rfl
theorem AMy{s:Bs}(hl:65536<s.length):qc 200000 s=some (none,4):=by
 unfold qc AEB
 rw[decide_eq_true hl];rfl
def AQn(G:AV)(s:St):Prop:=∀(H:Heap) (n:Nat) (c1 c2:LV) (A B:Nat->Prop) (k:KV),NH G H A c1 s->NH G H B c2 s->(∀id,A id->id<n)->(∀id,B id->id<n)->(∀H' n',Kp H n H' n'->k (.bool true) H' n')->Runs F G Lp [.agg c1,.agg c2] H n k
def APR(G:AV)(s:Me):Prop:=∀(H:Heap) (n:Nat) (c1 c2:LV) (A B:Nat->Prop) (k:KV),aB G H A c1 s->aB G H B c2 s->(∀id,A id->id<n)->(∀id,B id->id<n)->(∀H' n',Kp H n H' n'->k (.bool true) H' n')->Runs F G Jy [.agg c1,.agg c2] H n k
theorem AYd(q:IntKind)(x:Nat):EU (.one .int) false (.int q (.ofNat x) 0) (.int q (.ofNat x) 0)=some (.bool true):=by rw[YX,decide_eq_true rfl]
theorem AQK(l:Bs):EU (.one .str) false (sB l) (sB l)=some (.bool true):=(AH4 l l).trans (by simp)
theorem AYN(b:Bool):EU (.one .bool) false (.bool b) (.bool b)=some (.bool true):=by cases b<;>rfl
theorem AT2(t:Ty):EU (.agg [.str,.bool]) false (.agg [sB t.nm,.bool t.arr]) (.agg [sB t.nm,.bool t.arr])=some (.bool true):=by rw[ANi];simp
section
variable{G:AV}{H:Heap}{n:Nat}{k:KV}
theorem ADK{l:List St}{v w:V}{cs ds:Dv}{A B:Nat->Prop}(hv:El G H v 9 cs)(hw:El G H w 9 ds)(hva:∀id,v.QU=some id->id<n)(hwa:∀id,w.QU=some id->id<n)(hc:Rz G H A cs l)(hd:Rz G H B ds l)(hA:∀id,A id->id<n)(hB:∀id,B id->id<n)
 (hs:∀e∈l,AQn G e) (hlen:l.length<4611686018427387904) (hk:∀H' n',Kp H n H' n'->k (.bool true) H' n'):Runs F G CY [v,w,.fn Lp [] []] H n k:=by
 refine Am (s:=ar3 (CX lfp G)) Dk (by obtain⟨h,o⟩:=Jl Ap G;rw[Dk]at h;cases h;exact o) ?_
 show CX lfp G (Runs F G) v w (.fn Lp [] []) H n k
 delta CX
 refine AB hv.len (AB hw.len ?_)
 rw[ZR,Aw,hc.len,hd.len,decide_eq_true rfl,Bool.not_true,Aq]
 refine AB hv.len ?_
 rw[hc.len]
 refine ER (N:=l.length) (J:=λj q=>∃H' n',q=(w,.fn Lp [] [],v,.int .i64 (.ofNat l.length) 0,.int .i64 (.ofNat j) 0,H',n')/\Kp H n H' n') ?_ ?_ ⟨H,n,rfl,Kp.refl ..⟩
 ·rintro I j q hlt ⟨H1,n1,rfl,f1⟩ ih
  show BU lfp G (Runs F G) k I w (.fn Lp [] []) v (.int .i64 (.ofNat l.length) 0) (.int .i64 (.ofNat j) 0) H1 n1
  delta BU
  have hv1:=hv.kp hva f1
  have hw1:=hw.kp hwa f1
  have hc1:Rz G H1 A cs l:=hc.mono (λ_ h=>h) λid h=>f1.same id (hA id h)
  have hd1:Rz G H1 B ds l:=hd.mono (λ_ h=>h) λid h=>f1.same id (hB id h)
  obtain⟨c,hc2,hx⟩:=hc1.at (List.getElem?_eq_getElem hlt)
  obtain⟨d,hd2,hy⟩:=hd1.at (List.getElem?_eq_getElem hlt)
  have hse:=hs _ (List.getElem_mem hlt)
  generalize l[j]=e1 at hx hy hse
  have hn1:=f1.le
  obtain⟨p,hp,hld⟩:=hv1.at hc2
  rw[ES,Aw,decide_eq_true hlt,Ah]
  refine AB hp (AB (J3 hld) ?_)
  refine Az rfl λH2 f2 g2=>?_
  refine CB g2 rfl hx.len (by omega) λH3 g2 t3=>?_
  have f3:Kp H1 n1 H3 (n1+1):=⟨f2.le,λid hid=>(t3 id (by omega)).trans (f2.same id hid)⟩
  obtain⟨p3,hp3,hld3⟩:=(hw1.kp (λid h=>Nat.lt_of_lt_of_le (hwa id h) hn1) f3).at hd2
  refine AB hp3 (AB (J3 hld3) ?_)
  refine Az rfl λH4 f4 g4=>?_
  have g2:=f4.get g2 (by omega)
  refine CB g4 rfl hy.len (by omega) λH5 g4 t5=>?_
  have g2:=(t5 n1 (by omega)).trans g2
  have f5:Kp H3 (n1+1) H5 (n1+1+1):=⟨f4.le,λid hid=>(t5 id (by omega)).trans (f4.same id hid)⟩
  have f5:=f3.trans f5
  refine AB (Ai (m:=9) g2 (by omega) hx.len) (AB (Ai (m:=9) g4 (by omega) hy.len) ?_)
  have fin:=f1.trans f5
  have hx:NH G H5 A c e1:=hx.mono (λ_ h=>h) λid h=>f5.same id (by have:=hA id h;omega)
  have hy:NH G H5 B d e1:=hy.mono (λ_ h=>h) λid h=>f5.same id (by have:=hB id h;omega)
  refine hse H5 _ c d A B _ hx hy (λid h=>by have:=hA id h;omega) (λid h=>by have:=hB id h;omega) λH6 n6 f6=>?_
  rw[Lh,Aw,Bool.not_true,Aq]
  refine AB (Ee (by omega)) ?_
  exact ih _ ⟨_,_,rfl,fin.trans f6⟩
 ·rintro I q ⟨H1,n1,rfl,f1⟩
  show BU lfp G (Runs F G) k I w (.fn Lp [] []) v (.int .i64 (.ofNat l.length) 0) (.int .i64 (.ofNat l.length) 0) H1 n1
  delta BU
  rw[ES,Aw,decide_eq_false (Nat.lt_irrefl _),Aq]
  delta DZ
  exact hk _ _ f1
theorem AJe{l:List Me}{v w:V}{cs ds:Dv}{A B:Nat->Prop}(hv:El G H v 8 cs)(hw:El G H w 8 ds)(hva:∀id,v.QU=some id->id<n)(hwa:∀id,w.QU=some id->id<n)(hc:ZH G H A cs l)(hd:ZH G H B ds l)(hA:∀id,A id->id<n)(hB:∀id,B id->id<n)
 (hs:∀e∈l,APR G e) (hlen:l.length<4611686018427387904) (hk:∀H' n',Kp H n H' n'->k (.bool true) H' n'):Runs F G EP [v,w,.fn Jy [] []] H n k:=by
 refine Am (s:=ar3 (Bg lfp G)) DI (by obtain⟨h,o⟩:=IB Ap G;rw[DI]at h;cases h;exact o) ?_
 show Bg lfp G (Runs F G) v w (.fn Jy [] []) H n k
 delta Bg
 refine AB hv.len (AB hw.len ?_)
 rw[ZR,Aw,hc.len,hd.len,decide_eq_true rfl,Bool.not_true,Aq]
 refine AB hv.len ?_
 rw[hc.len]
 refine ER (N:=l.length) (J:=λj q=>∃H' n',q=(w,.fn Jy [] [],v,.int .i64 (.ofNat l.length) 0,.int .i64 (.ofNat j) 0,H',n')/\Kp H n H' n') ?_ ?_ ⟨H,n,rfl,Kp.refl ..⟩
 ·rintro I j q hlt ⟨H1,n1,rfl,f1⟩ ih
  show BH lfp G (Runs F G) k I w (.fn Jy [] []) v (.int .i64 (.ofNat l.length) 0) (.int .i64 (.ofNat j) 0) H1 n1
  delta BH
  have hv1:=hv.kp hva f1
  have hw1:=hw.kp hwa f1
  have hc1:ZH G H1 A cs l:=hc.mono (λ_ h=>h) λid h=>f1.same id (hA id h)
  have hd1:ZH G H1 B ds l:=hd.mono (λ_ h=>h) λid h=>f1.same id (hB id h)
  obtain⟨c,hc2,hx⟩:=hc1.at (List.getElem?_eq_getElem hlt)
  obtain⟨d,hd2,hy⟩:=hd1.at (List.getElem?_eq_getElem hlt)
  have hse:=hs _ (List.getElem_mem hlt)
  generalize l[j]=e1 at hx hy hse
  have hn1:=f1.le
  obtain⟨p,hp,hld⟩:=hv1.at hc2
  rw[ES,Aw,decide_eq_true hlt,Ah]
  refine AB hp (AB (J3 hld) ?_)
  refine Az rfl λH2 f2 g2=>?_
  refine CB g2 rfl hx.len (by omega) λH3 g2 t3=>?_
  have f3:Kp H1 n1 H3 (n1+1):=⟨f2.le,λid hid=>(t3 id (by omega)).trans (f2.same id hid)⟩
  obtain⟨p3,hp3,hld3⟩:=(hw1.kp (λid h=>Nat.lt_of_lt_of_le (hwa id h) hn1) f3).at hd2
  refine AB hp3 (AB (J3 hld3) ?_)
  refine Az rfl λH4 f4 g4=>?_
  have g2:=f4.get g2 (by omega)
  refine CB g4 rfl hy.len (by omega) λH5 g4 t5=>?_
  have g2:=(t5 n1 (by omega)).trans g2
  have f5:Kp H3 (n1+1) H5 (n1+1+1):=⟨f4.le,λid hid=>(t5 id (by omega)).trans (f4.same id hid)⟩
  have f5:=f3.trans f5
  refine AB (Ai (m:=8) g2 (by omega) hx.len) (AB (Ai (m:=8) g4 (by omega) hy.len) ?_)
  have fin:=f1.trans f5
  have hx:aB G H5 A c e1:=hx.mono (λ_ h=>h) λid h=>f5.same id (by have:=hA id h;omega)
  have hy:aB G H5 B d e1:=hy.mono (λ_ h=>h) λid h=>f5.same id (by have:=hB id h;omega)
  refine hse H5 _ c d A B _ hx hy (λid h=>by have:=hA id h;omega) (λid h=>by have:=hB id h;omega) λH6 n6 f6=>?_
  rw[Lh,Aw,Bool.not_true,Aq]
  refine AB (Ee (by omega)) ?_
  exact ih _ ⟨_,_,rfl,fin.trans f6⟩
 ·rintro I q ⟨H1,n1,rfl,f1⟩
  show BH lfp G (Runs F G) k I w (.fn Jy [] []) v (.int .i64 (.ofNat l.length) 0) (.int .i64 (.ofNat l.length) 0) H1 n1
  delta BH
  rw[ES,Aw,decide_eq_false (Nat.lt_irrefl _),Aq]
  delta Cm
  exact hk _ _ f1
theorem AY9(x:Va):EU (.agg [.str,.str,.bool]) true (.agg (vaC x)) (.agg (vaC x))=some (.bool false):=by
 obtain⟨nm,ty⟩:=x
 have h:(EK.agg [.str,.str,.bool]).eq (.agg [sB nm,sB ty.nm,.bool ty.arr]) (.agg [sB nm,sB ty.nm,.bool ty.arr])=some true:=
  show ACW [.str,.str,.bool] [sB nm,sB ty.nm,.bool ty.arr] [sB nm,sB ty.nm,.bool ty.arr]=_ from SG.2 ⟨_,_,AKv _ _,SG.2 ⟨_,_,AKv _ _,SG.2 ⟨_,true,AOm _ _,rfl,rfl⟩,rfl⟩,by simp⟩
 show ofB (gB ((EK.agg [.str,.str,.bool]).eq (.agg [sB nm,sB ty.nm,.bool ty.arr]) (.agg [sB nm,sB ty.nm,.bool ty.arr])) λb=>some (YN b))=_
 rw[h];rfl
theorem ALV{l:List Va}{v w:V}{A B:Nat->Prop}(hv:ABe G H A v l)(hw:ABe G H B w l)(hlen:l.length<4611686018427387904)(hk:k (.bool true) H n):Runs F G I5 [v,w] H n k:=by
 obtain⟨hv,_⟩:=hv
 obtain⟨hw,_⟩:=hw
 refine Am (s:=QS (FZ lfp G)) Ia (by obtain⟨h,o⟩:=V4 Ap G;rw[Ia]at h;cases h;exact o) ?_
 show FZ lfp G (Runs F G) v w H n k
 delta FZ
 refine AB hv.len (AB hw.len ?_)
 rw[ZR,Aw,decide_eq_true rfl,Bool.not_true,Aq]
 refine AB hv.len ?_
 rw[List.length_map]
 refine ER (N:=l.length) (J:=λj q=>q=(v,w,.int .i64 (.ofNat l.length) 0,.int .i64 (.ofNat j) 0,H,n)) ?_ ?_ rfl
 ·rintro I j q hlt rfl ih
  show EI lfp G (Runs F G) k I v w (.int .i64 (.ofNat l.length) 0) (.int .i64 (.ofNat j) 0) H n
  delta EI
  have hcx:(l.map vaC)[j]? =some (vaC l[j]):=by rw[List.getElem?_map,List.getElem?_eq_getElem hlt];rfl
  obtain⟨p,hp,hld⟩:=hv.at hcx
  obtain⟨p2,hp2,hld2⟩:=hw.at hcx
  rw[ES,Aw,decide_eq_true hlt,Ah]
  refine AB hp (AB (J3 hld) (AB hp2 (AB (J3 hld2) ?_)))
  refine AB (AY9 l[j]) ?_
  rw[Aq]
  exact AB (Ee (by omega)) (ih _ rfl)
 ·rintro I q rfl
  show EI lfp G (Runs F G) k I v w (.int .i64 (.ofNat l.length) 0) (.int .i64 (.ofNat l.length) 0) H n
  delta EI
  rw[ES,Aw,decide_eq_false (Nat.lt_irrefl _),Aq]
  delta Hr
  exact hk
theorem ARS:∀(N:Nat),N<4611686018427387904->∀(s:St),nS s<=N->AQn G s:=by
 intro N
 induction N with
 |zero=>intro _ s h;have:=AN9 s;omega
 |succ N ih=>
  intro hbig s hN H n c1 c2 A B k h1 h2 hA hB hk
  refine Am (s:=QS (UH lfp G)) XL (by obtain⟨h,o⟩:=ABV Ap G;rw[XL]at h;cases h;exact o) ?_
  show UH lfp G (Runs F G) (.agg c1) (.agg c2) H n k
  delta UH
  refine Di λH1 f1 g1=>?_
  refine Di λH2 f2 g2=>?_
  have g1:=f2.get g1 (by omega)
  have f2:=f1.trans f2
  have h1:NH G H2 A c1 s:=h1.mono (λ_ h=>h) λid h=>f2.same id (hA id h)
  have h2:NH G H2 B c2 s:=h2.mono (λ_ h=>h) λid h=>f2.same id (hB id h)
  obtain⟨kd,nm,ty,es,th,el⟩:=s
  rw[Y3]at hN
  obtain⟨l1,k1,ve,vt,vl,ct,cl,rfl,he,ht,kt,hta,hct,hel,kl,hela,hcl⟩:=h1.inv
  obtain⟨l2,k2,we,wt,wl,dt,dl,rfl,ge,gt,jt,gta,gct,gel,jl,gela,gcl⟩:=h2.inv
  have hA2:∀id,A id->id<n+1+1:=λid h=>by have:=hA id h;omega
  have hB2:∀id,B id->id<n+1+1:=λid h=>by have:=hB id h;omega
  have q0:AX (.ptr n 0) G H2=some _:=AQ g1 rfl
  have r0:AX (.ptr (n+1) 0) G H2=some _:=AQ g2 rfl
  have q3:AX (.ptr n 3) G H2=some _:=AQ g1 rfl
  have r3:AX (.ptr (n+1) 3) G H2=some _:=AQ g2 rfl
  have q6:AX (.ptr n 6) G H2=some _:=AQ g1 rfl
  have r6:AX (.ptr (n+1) 6) G H2=some _:=AQ g2 rfl
  have q7:AX (.ptr n 7) G H2=some _:=AQ g1 rfl
  have r7:AX (.ptr (n+1) 7) G H2=some _:=AQ g2 rfl
  have q8:AX (.ptr n 8) G H2=some _:=AQ g1 rfl
  have r8:AX (.ptr (n+1) 8) G H2=some _:=AQ g2 rfl
  simp only[go_sem,Nat.reduceAdd,q0,r0,AYd,q3,r3,AQK]
  refine AB (v:=.agg [sB ty.nm,.bool ty.arr]) (NQ g1 (by omega) (by show 4+2<=9;omega)) ?_
  refine AB (v:=.agg [sB ty.nm,.bool ty.arr]) (NQ g2 (by omega) (by show 4+2<=9;omega)) ?_
  simp only[go_sem,Nat.reduceAdd,AT2,q6,r6]
  obtain⟨cs,hle,_,_,_,hva,hcs⟩:=he
  obtain⟨ds,gle,_,_,_,gva,gcs⟩:=ge
  have:=ADV es
  refine ALA hle gle (λid h=>hA2 id (hva id h)) (λid h=>hB2 id (gva id h)) hcs gcs hA2 hB2 (λe he=>AU7 N (by omega) e (by have:=ADO he;omega)) (by omega) λH3 n3 f3=>?_
  rw[vZ]
  have hn3:=f3.le
  have hA3:∀id,A id->id<n3:=λid h=>by have:=hA2 id h;omega
  have hB3:∀id,B id->id<n3:=λid h=>by have:=hB2 id h;omega
  have q7:AX (.ptr n 7) G H3=some _:=AQ (f3.get g1 (by omega)) rfl
  have r7:AX (.ptr (n+1) 7) G H3=some _:=AQ (f3.get g2 (by omega)) rfl
  have q8:AX (.ptr n 8) G H3=some _:=AQ (f3.get g1 (by omega)) rfl
  have r8:AX (.ptr (n+1) 8) G H3=some _:=AQ (f3.get g2 (by omega)) rfl
  simp only[go_sem,Nat.reduceAdd,q7,r7]
  have:=aW th
  refine ADK (ht.same λid hid=>f3.same id (hA2 id (hta id hid))) (gt.same λid hid=>f3.same id (hB2 id (gta id hid))) (λid h=>hA3 id (hta id h)) (λid h=>hB3 id (gta id h)) (hct.mono (λ_ h=>h) λid h=>f3.same id (hA2 id h)) (gct.mono (λ_ h=>h) λid h=>f3.same id (hB2 id h)) hA3 hB3 (λe he=>ih (by omega) e (by have:=UL he;omega)) (by omega) λH4 n4 f4=>?_
  have f4:=f3.trans f4
  have hn4:=f4.le
  have hA4:∀id,A id->id<n4:=λid h=>by have:=hA2 id h;omega
  have hB4:∀id,B id->id<n4:=λid h=>by have:=hB2 id h;omega
  have q7:AX (.ptr n 7) G H4=some _:=AQ (f4.get g1 (by omega)) rfl
  have r7:AX (.ptr (n+1) 7) G H4=some _:=AQ (f4.get g2 (by omega)) rfl
  have q8:AX (.ptr n 8) G H4=some _:=AQ (f4.get g1 (by omega)) rfl
  have r8:AX (.ptr (n+1) 8) G H4=some _:=AQ (f4.get g2 (by omega)) rfl
  simp only[go_sem,Nat.reduceAdd,q8,r8]
  have:=aW el
  refine ADK (hel.same λid hid=>f4.same id (hA2 id (hela id hid))) (gel.same λid hid=>f4.same id (hB2 id (gela id hid))) (λid h=>hA4 id (hela id h)) (λid h=>hB4 id (gela id h)) (hcl.mono (λ_ h=>h) λid h=>f4.same id (hA2 id h)) (gcl.mono (λ_ h=>h) λid h=>f4.same id (hB2 id h)) hA4 hB4 (λe he=>ih (by omega) e (by have:=UL he;omega)) (by omega) λH5 n5 f5=>?_
  try simp only[go_sem]
  exact hk _ _ (f2.trans (f4.trans f5))
theorem ARd{m:Me}(hN:nM m<4611686018427387904):APR G m:=by
 intro H n c1 c2 A B k h1 h2 hA hB hk
 refine Am (s:=QS (Qm lfp G)) Ux (by obtain⟨h,o⟩:=vI Ap G;rw[Ux]at h;cases h;exact o) ?_
 show Qm lfp G (Runs F G) (.agg c1) (.agg c2) H n k
 delta Qm
 refine Di λH1 f1 g1=>?_
 refine Di λH2 f2 g2=>?_
 have g1:=f2.get g1 (by omega)
 have f2:=f1.trans f2
 have h1:aB G H2 A c1 m:=h1.mono (λ_ h=>h) λid h=>f2.same id (hA id h)
 have h2:aB G H2 B c2 m:=h2.mono (λ_ h=>h) λid h=>f2.same id (hB id h)
 unfold nM at hN
 obtain⟨l1,k1,vp,vb,rfl,hp,cs,hle,_,_,_,hva,hcs⟩:=h1.inv
 obtain⟨l2,k2,wp,wb,rfl,gp,ds,gle,_,_,_,gva,gcs⟩:=h2.inv
 have hA2:∀id,A id->id<n+1+1:=λid h=>by have:=hA id h;omega
 have hB2:∀id,B id->id<n+1+1:=λid h=>by have:=hB id h;omega
 have q2:AX (.ptr n 2) G H2=some _:=AQ g1 rfl
 have r2:AX (.ptr (n+1) 2) G H2=some _:=AQ g2 rfl
 have q3:AX (.ptr n 3) G H2=some _:=AQ g1 rfl
 have r3:AX (.ptr (n+1) 3) G H2=some _:=AQ g2 rfl
 have q4:AX (.ptr n 4) G H2=some _:=AQ g1 rfl
 have r4:AX (.ptr (n+1) 4) G H2=some _:=AQ g2 rfl
 have q7:AX (.ptr n 7) G H2=some _:=AQ g1 rfl
 have r7:AX (.ptr (n+1) 7) G H2=some _:=AQ g2 rfl
 simp only[go_sem,Nat.reduceAdd,q2,r2,AQK,q3,r3,AYN]
 refine AB (v:=.agg [sB m.ret.nm,.bool m.ret.arr]) (NQ g1 (by omega) (by show 5+2<=8;omega)) ?_
 refine AB (v:=.agg [sB m.ret.nm,.bool m.ret.arr]) (NQ g2 (by omega) (by show 5+2<=8;omega)) ?_
 simp only[go_sem,Nat.reduceAdd,AT2,q4,r4]
 refine ALV hp gp (by omega) ?_
 simp only[go_sem,Nat.reduceAdd,q7,r7]
 have:=aW m.body
 refine ADK hle gle (λid h=>hA2 id (hva id h)) (λid h=>hB2 id (gva id h)) hcs gcs hA2 hB2 (λe he=>ARS (nSs m.body) (by omega) e (UL he)) (by omega) λH3 n3 f3=>?_
 try simp only[go_sem]
 exact hk _ _ (f2.trans f3)
theorem ASM{x:Cl}{c1 c2:LV}{A B:Nat->Prop}(h1:Zt G H A c1 x)(h2:Zt G H B c2 x)(hA:∀id,A id->id<n)(hB:∀id,B id->id<n)(hN:nC x<4611686018427387904)(hk:∀H' n',Kp H n H' n'->k (.bool true) H' n'):Runs F G fB [.agg c1,.agg c2] H n k:=by
 refine Am (s:=QS (Sr lfp G)) Vm (by obtain⟨h,o⟩:=AAK Ap G;rw[Vm]at h;cases h;exact o) ?_
 show Sr lfp G (Runs F G) (.agg c1) (.agg c2) H n k
 delta Sr
 refine Di λH1 f1 g1=>?_
 refine Di λH2 f2 g2=>?_
 have g1:=f2.get g1 (by omega)
 have f2:=f1.trans f2
 have h1:Zt G H2 A c1 x:=h1.mono (λ_ h=>h) λid h=>f2.same id (hA id h)
 have h2:Zt G H2 B c2 x:=h2.mono (λ_ h=>h) λid h=>f2.same id (hB id h)
 unfold nC at hN
 obtain⟨l1,k1,vp,vb,rfl,hp,cs,hle,_,_,_,hva,hcs⟩:=h1.inv
 obtain⟨l2,k2,wp,wb,rfl,gp,ds,gle,_,_,_,gva,gcs⟩:=h2.inv
 have hA2:∀id,A id->id<n+1+1:=λid h=>by have:=hA id h;omega
 have hB2:∀id,B id->id<n+1+1:=λid h=>by have:=hB id h;omega
 have q2:AX (.ptr n 2) G H2=some _:=AQ g1 rfl
 have r2:AX (.ptr (n+1) 2) G H2=some _:=AQ g2 rfl
 have q3:AX (.ptr n 3) G H2=some _:=AQ g1 rfl
 have r3:AX (.ptr (n+1) 3) G H2=some _:=AQ g2 rfl
 have q4:AX (.ptr n 4) G H2=some _:=AQ g1 rfl
 have r4:AX (.ptr (n+1) 4) G H2=some _:=AQ g2 rfl
 have q5:AX (.ptr n 5) G H2=some _:=AQ g1 rfl
 have r5:AX (.ptr (n+1) 5) G H2=some _:=AQ g2 rfl
 simp only[go_sem,Nat.reduceAdd,q2,r2,AQK,q3,r3,q4,r4]
 refine ALV hp gp (by omega) ?_
 simp only[go_sem,Nat.reduceAdd,q5,r5]
 have:=AF6 x.ms
 refine AJe hle gle (λid h=>hA2 id (hva id h)) (λid h=>hB2 id (gva id h)) hcs gcs hA2 hB2 (λe he=>ARd (by have:=AC2 he;omega)) (by omega) λH3 n3 f3=>?_
 try simp only[go_sem]
 exact hk _ _ (f2.trans f3)
end
section
variable{G:AV}{H:Heap}{n:Nat}{k:KV}
theorem AJY{L:LV}(hL:XC G L)(hk:∀H' n' b,Kp H n H' n'->(b=true->FwC G L)->k (.bool b) H' n'):Runs F G Xm [.agg L] H n k:=by
 cases hL with
 | @mk l c nm sup vf vm fs ms hn hs hfs hfl hfk hms hml hmk=>
 unfold bigS at hn
 have bad:∀{H' n'},Kp H n H' n'->k (.bool false) H' n':=λf=>hk _ _ _ f λh=>by cases h
 refine Am (s:=Gw (MP lfp G)) QV (by obtain⟨h,o⟩:=nI Ap G;rw[QV]at h;cases h;exact o) ?_
 show MP lfp G (Runs F G) (.agg (xcC l c nm sup vf vm)) H n k
 delta MP
 refine Di λH1 f1 g1=>?_
 have q4:AX (.ptr n 4) G H1=some vf:=AQ g1 rfl
 have q5:AX (.ptr n 5) G H1=some vm:=AQ g1 rfl
 have q2:AX (.ptr n 2) G H1=some (sB nm):=AQ g1 rfl
 have q3:AX (.ptr n 3) G H1=some (sB sup):=AQ g1 rfl
 simp only[go_sem,Nat.reduceAdd,q4,(hfs H1).len,MJ]
 cases h1:decide (10<fs.length)with
 |true=>
  repeat (first|with_reducible refine xW ?_|with_reducible refine AAR ?_|with_reducible refine zx ?_)
  rw[Ah];exact bad f1
 |false=>
 simp only[go_sem,Nat.reduceAdd,q5,(hms H1).len,MJ]
 cases h2:decide (10<ms.length)with
 |true=>
  repeat (first|with_reducible refine xW ?_|with_reducible refine AAR ?_|with_reducible refine zx ?_)
  rw[Ah];exact bad f1
 |false=>
 simp only[go_sem,Nat.reduceAdd,q2,q3,Pm,Ee (show nm.length+sup.length<9223372036854775808 by omega),MJ]
 cases h3:decide (80<nm.length+sup.length)with
 |true=>rw[Ah];exact bad f1
 |false=>
 have h1:=of_decide_eq_false h1
 have h2:=of_decide_eq_false h2
 simp only[go_sem,Nat.reduceAdd,q5,(hms H1).len]
 refine ER (N:=ms.length) (J:=λj q=>∃H' n',q=(vm,.int .i64 (.ofNat ms.length) 0,.int .i64 (.ofNat j) 0,H',n')/\Kp H n H' n'/\∀L∈ms.take j,FwM G L) ?_ ?_ ⟨H1,n+1,rfl,f1,λL h=>by cases h⟩
 ·rintro I j q hlt ⟨H2,n2,rfl,f2,hw⟩ ih
  show Gf lfp G (Runs F G) k I vm (.int .i64 (.ofNat ms.length) 0) (.int .i64 (.ofNat j) 0) H2 n2
  delta Gf
  obtain⟨p,hp,hld⟩:=(hms H2).at (List.getElem?_eq_getElem hlt)
  have hx:=hmk _ (List.getElem_mem hlt)
  have ih:∀H' n',Kp H n H' n'->FwM G ms[j]->I (vm,.int .i64 (.ofNat ms.length) 0,.int .i64 (.ofNat (j+1)) 0,H',n'):=λH' n' f h=>ih _ ⟨H',n',rfl,f,λL hL=>by
   rw[List.take_succ_eq_append_getElem hlt]at hL
   rcases List.mem_append.1 hL with hL|hL
   ·exact hw L hL
   ·simp at hL;subst hL;exact h⟩
  generalize ms[j]=M at hld hx ih
  rw[ES,Aw,decide_eq_true hlt,Ah]
  refine AB hp (AB (J3 hld) ?_)
  refine Az rfl λH3 f3 g3=>?_
  refine CB g3 rfl hx.len (by omega) λH4 g4 s4=>?_
  have f4:Kp H2 n2 H4 (n2+1):=⟨f3.le,λid hid=>(s4 id (by omega)).trans (f3.same id hid)⟩
  cases hx with
  | @mk ml mc mnm mst vp mty mar vb ps bs hmn hmt hps hpl hpk kp hbs hbl hbk kb=>
  have f4:=f2.trans f4
  have r4:AX (.ptr n2 4) G H4=some vp:=AQ g4 rfl
  have r2:AX (.ptr n2 2) G H4=some (sB mnm):=AQ g4 rfl
  have r7:AX (.ptr n2 7) G H4=some vb:=AQ g4 rfl
  simp only[go_sem,Nat.reduceAdd,r4,(hps H4).len,MJ]
  cases e3:decide (8<ps.length)with
  |true=>
   repeat (first|with_reducible refine xW ?_|with_reducible refine AAR ?_|with_reducible refine zx ?_)
   rw[Ah];exact bad f4
  |false=>
  simp only[go_sem,Nat.reduceAdd,r2,Pm,MJ]
  cases e4:decide (40<mnm.length)with
  |true=>
   repeat (first|with_reducible refine xW ?_|with_reducible refine AAR ?_|with_reducible refine zx ?_)
   rw[Ah];exact bad f4
  |false=>
  simp only[go_sem,Nat.reduceAdd,r7]
  refine AKk hbs hbk λH5 n5 b5 f5 hb5=>?_
  have f5:=f4.trans f5
  rw[Lh,Aw]
  cases b5 with
  |false=>rw[Bool.not_false,Ah];exact bad f5
  |true=>
  rw[Bool.not_true,Aq]
  refine AB (Ee (by omega)) (ih _ _ f5 λvp' vb' ps' bs' e1 e2 e3' e4'=>?_)
  cases e1;cases e2
  rw[oK (e3' H) (hps H),oK (e4' H) (hbs H)]
  exact⟨by have:=of_decide_eq_false e3;omega,hb5 rfl 3⟩
 ·rintro I q ⟨H2,n2,rfl,f2,hw⟩
  show Gf lfp G (Runs F G) k I vm (.int .i64 (.ofNat ms.length) 0) (.int .i64 (.ofNat ms.length) 0) H2 n2
  delta Gf
  rw[ES,Aw,decide_eq_false (Nat.lt_irrefl _),Aq]
  delta Nj
  rw[List.take_length]at hw
  refine hk _ _ _ f2 λ_ vf' vm' fs' ms' e1 e2 e3 e4=>?_
  cases e1;cases e2
  rw[oK (e3 H) (hfs H),oK (e4 H) (hms H)]
  exact⟨by omega,by omega,hw⟩
theorem ASF:EU (.agg [.int,.int,.int]) false (.agg (fQ 0 0 0)) (.agg (fQ 0 0 0))=some (.bool true):=rfl
theorem AGi(hG:Zz G)(hP:jy G)(hS:ADj G){L:LV}(hL:XC G L)(hk:∀H' n',k (.bool true) H' n'):Runs F G iZ [.agg L] H n k:=by
 have hLl:L.length=6:=by cases hL;rfl
 refine Am (s:=Gw (KL lfp G)) Oa (by obtain⟨h,o⟩:=gq Ap G;rw[Oa]at h;cases h;exact o) ?_
 show KL lfp G (Runs F G) (.agg L) H n k
 delta KL
 refine Di λH1 f1 g1=>?_
 refine AV9 hG hS λH2 n2 f2=>?_
 have g1:=f2.get g1 (by omega)
 have hn2:=f2.le
 rw[Lh,Aw,Bool.not_true,Aq]
 refine AB (Ai (m:=6) g1 (by omega) hLl) ?_
 refine AJY hL λH3 n3 b f3 hb=>?_
 have g1:=f3.get g1 (by omega)
 have hn3:=f3.le
 rw[Lh,Aw]
 cases b with
 |false=>rw[Bool.not_false,Ah];exact hk _ _
 |true=>
 rw[Bool.not_true,Aq]
 refine AB (Ai (m:=6) g1 (by omega) hLl) ?_
 refine AJz hS hL (hb rfl) λH4 n4 c x f4 hgc hx=>?_
 have hn4:=f4.le
 refine Az rfl λH5 f5 g5=>?_
 refine CB g5 rfl hx.len (by omega) λH6 g6 s6=>?_
 have f6:Kp H4 n4 H6 (n4+1):=⟨f5.le,λid hid=>(s6 id (by omega)).trans (f5.same id hid)⟩
 have hx6:Zt G H6 (Rg n3 n4) c x:=hx.mono (λ_ h=>h) λid h=>f6.same id h.2
 refine AB (Ai (m:=6) g6 (by omega) hx.len) ?_
 refine ANn hP hx6 (λid h=>by have:=h.2;omega) hgc.wr (AVa hgc) λH7 n7 f7=>?_
 have hn7:=f7.le
 have g7:=f7.get g6 (by omega)
 have hx7:Zt G H7 (Rg n3 n4) c x:=hx6.mono (λ_ h=>h) λid h=>f7.same id (by have:=h.2;omega)
 rcases Nat.lt_or_ge 65536 (Zb x).length with hlen|hlen
 ·refine AGk hG (AMy hlen) λH8 n8 c8 ft f8 hc hf=>?_
  have hc:c8=clZ:=hc
  subst hc
  obtain⟨line,col,rfl,_,_⟩:=hf
  rw[AAm,Aw,AAr,Aw]
  refine Az rfl λH9 f9 g9=>?_
  refine Az rfl λH10 f10 g10=>?_
  have g9:=f10.get g9 (by omega)
  refine CB g9 rfl rfl (by omega) λH11 g11 s11=>?_
  have g10:=(s11 (n8+1) (by omega)).trans g10
  refine CB (L:=fQ 4 line col) g10 rfl rfl (by omega) λH12 g12 s12=>?_
  refine AB (Pm _) (AB (MJ ..) ?_)
  rw[decide_eq_true hlen]
  repeat (first|with_reducible refine xW ?_|with_reducible refine AAR ?_|with_reducible refine zx ?_)
  first|exact hk _ _|(simp only[go_sem];exact hk _ _)
 ·refine AGk hG (AJ9 hgc hlen) λH8 n8 c8 ft f8 hc hf=>?_
  have hc8:Zt G H8 (Rg n7 n8) c8 x:=hc.1
  obtain⟨line,col,rfl,_,hz⟩:=hf
  obtain⟨rfl,rfl⟩:=hz rfl
  have hn8:=f8.le
  have g8:=f8.get g7 (by omega)
  have hx8:Zt G H8 (Rg n3 n4) c x:=hx7.mono (λ_ h=>h) λid h=>f8.same id (by have:=h.2;omega)
  rw[AAm,Aw,AAr,Aw]
  refine Az rfl λH9 f9 g9=>?_
  refine Az rfl λH10 f10 g10=>?_
  have g9:=f10.get g9 (by omega)
  refine CB g9 rfl hc8.len (by omega) λH11 g11 s11=>?_
  have g10:=(s11 (n8+1) (by omega)).trans g10
  refine CB (L:=fQ 0 0 0) g10 rfl rfl (by omega) λH12 g12 s12=>?_
  have g11:=(s12 n8 (by omega)).trans g11
  have same:∀id,id<n8->T.get H12 id=T.get H8 id:=λid hid=>(s12 id (by omega)).trans ((s11 id (by omega)).trans ((f10.same id (by omega)).trans (f9.same id hid)))
  have g12x:=(same n4 (by omega)).trans g8
  refine AB (Pm _) (AB (MJ ..) ?_)
  rw[decide_eq_false (by omega)]
  have q1:A8 3 (.ptr (n8+1) 0) G H12=some (.agg (fQ 0 0 0)):=Ai (m:=3) g12 (by omega) rfl
  have q2:A8 6 (.ptr n8 0) G H12=some (.agg c8):=Ai (m:=6) g11 (by omega) hc8.len
  have q3:A8 6 (.ptr n4 0) G H12=some (.agg c):=Ai (m:=6) g12x (by omega) hx.len
  simp only[go_sem,q1,q2,q3,AJU,ASF]
  have hnc:=AIJ hgc.wr
  refine ASM (hc8.mono (λ_ h=>h) λid h=>same id h.2) (hx8.mono (λ_ h=>h) λid h=>same id (by have:=h.2;omega)) (λid h=>by have:=h.2;omega) (λid h=>by have:=h.2;omega) (by omega) λH13 n13 f13=>?_
  first|exact hk _ _|(simp only[go_sem];exact hk _ _)
end
end Go.PQ
