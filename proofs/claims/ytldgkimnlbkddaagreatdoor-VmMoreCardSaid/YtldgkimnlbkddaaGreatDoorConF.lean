/- Part of a proof; nothing is assumed. -/
import Derived.Test.YtldgkimnlbkddaaGreatDoorConE
import Derived.Test.YtldgkimnlbkddaaGreatDoorConD
import Derived.Test.YtldgkimnlbkddaaGreatDoorConC
import Derived.Test.YtldgkimnlbkddaaGreatDoorWalk
import Derived.Test.YtldgkimnlbkddaaGreatDoorConB
set_option linter.unusedVariables false
set_option linter.unusedSimpArgs false
namespace Go.RL
open Go.Bf
set_option maxRecDepth 100000
structure Cf where
 L:LV
 wc:V
 lb:Nat
 sv:V
structure Mv where
 kb:Nat
 i:Nat
 t:Nat
 a:Nat
 b:Nat
 fm:Nat
 vn:V
 fs:Tab
 ff:List (St×Fl)
structure Vw where
 own:Nat->Nat
 ov:V
 fv:V
 ob:Nat->Nat
 pb:Nat->Nat
 cf:List Cf
def adr(ob:Nat->Nat):Nat->V
 |0=>.Bo
 |o+1=>.ptr (ob o) 0
def wcs(ob:Nat->Nat)(v:Cv):LV:=[.int .i64 v.n 0,adr ob v.o]
abbrev wv(ob:Nat->Nat)(v:Cv):V:=.agg (wcs ob v)
def wls(ob:Nat->Nat)(l:List Cv):EL:=l.map (wcs ob)
def Fr.cells(f:Fr)(c:Cf):LV:=c.L++[.int .i64 f.bd.locals 0,.int .i64 f.bd.stack 0,c.wc,.int .i64 (.ofNat f.pc) 0,.sl c.lb 0 f.loc.length f.loc.length 2,c.sv]
def Mv.cells(M:Mv)(W:Vw)(s:Vs):LV:=[.ptr M.i 0,.int .i64 s.steps 0,.int .i64 s.parts 0,.int .i64 s.deep 0,W.ov,.int .i64 (.ofNat s.trap) 0,.bool false,W.fv]
structure oz(M:Mv)(W:Vw)(G:AY)(H:Heap)(n:Nat)(j:Nat)(f:Fr)(c:Cf):Prop where
 len:c.L.length=10
 file:X7 G H M.kb (.agg c.L) f.fl
 code:O1 G H M.kb c.wc f.bd.code
 nl:(f.loc.length:Int)=f.bd.locals
 loc:(c.lb<n/\W.own c.lb=4*j+4)/\∃t,T.get H c.lb=some (.arr 2 f.loc.length t)/\∀k v,f.loc[k]? =some v->T.get t k=some (wcs W.ob v)
 stk:Sk H 2 (λid=>id<n/\W.own id=4*j+5) c.sv (wls W.ob f.stk.reverse)
 sm:f.stk.length<=1000/\f.bd.stack<=1000/\f.pc<=100000
def vW(M:Mv)(W:Vw)(G:AY)(H:Heap)(n:Nat):List Fr->List Cf->Prop
 |[],[]=>True
 |f::r,c::cr=>oz M W G H n r.length f c/\vW M W G H n r cr
 |_,_=>False
structure Vm(M:Mv)(W:Vw)(G:AY)(H:Heap)(n:Nat)(s:Vs):Prop where
 kn:M.kb<n
 ko:W.own M.kb=1
 lo:∀id,id<M.kb->W.own id=0
 hi:∀id,n<=id->W.own id=0
 img:NQ G H M.kb M.i M.t M.a M.b M.fm M.vn M.fs
 ff:FV G H M.kb M.fm M.ff
 fmn:M.fm<M.kb/\M.fm≠M.b
 box:T.get H M.kb=some (one (M.cells W s))
 out:Sk H 1 (λid=>id<n/\W.own id=2) W.ov (s.out.map λx=>[.int .i64 x 0])
 fv:Sk H 16 (λid=>id<n/\W.own id=3) W.fv (List.zipWith Fr.cells s.Ur W.cf).reverse
 Ur:vW M W G H n s.Ur W.cf
 ob:∀(i:Nat) (th:Th),s.hp[i]? =some th->(W.ob i<n/\W.own (W.ob i)=4*i+6)/\T.get H (W.ob i)=some (one [th.cls.v,.sl (W.pb i) 0 th.vals.length th.vals.length 2])
 pt:∀(i:Nat) (th:Th),s.hp[i]? =some th->(W.pb i<n/\W.own (W.pb i)=4*i+7)/\∃t,T.get H (W.pb i)=some (.arr 2 th.vals.length t)/\∀k v,th.vals[k]? =some v->T.get t k=some (wcs W.ob v)
 sz:(0<=s.parts/\s.parts<=2000)/\(-1<=s.steps/\s.steps<=5000)/\s.deep<=100/\(s.out.length:Int)+s.steps<=5000/\s.Ur.length<=100
 big:∀th∈s.hp,th.vals.length<=2000
structure Kz(M:Mv)(W:Vw)(H:Heap)(n:Nat)(W':Vw)(H':Heap)(n':Nat):Prop where
 le:n<=n'
 own:∀id,id<n->W'.own id=W.own id
 zero:∀id,id<n->W.own id=0->id≠M.b->T.get H' id=T.get H id
 seen:Js H M.b->Js H' M.b
section
variable{M:Mv}{W W' W'':Vw}{G:AY}{H H' H'':Heap}{n n' n'':Nat}{s s':Vs}{f:Fr}{r:List Fr}{c:Cf}{cr:List Cf}{j:Nat}
theorem Kz.refl:Kz M W H n W H n:=⟨Nat.le_refl _,λ_ _=>rfl,λ_ _ _ _=>rfl,λh=>h⟩
theorem Kz.trans(x:Kz M W H n W' H' n')(y:Kz M W' H' n' W'' H'' n''):Kz M W H n W'' H'' n'':=
 ⟨Nat.le_trans x.le y.le,λd h=>(y.own d (by have:=x.le;omega)).trans (x.own d h),λd f g i=>(y.zero d (by have:=x.le;omega) ((x.own d f).trans g) i).trans (x.zero d f g i),λh=>y.seen (x.seen h)⟩
theorem Vm.bk(h:Vm M W G H n s):M.b<M.kb:=h.img.tab.bn
theorem Vm.seen(h:Vm M W G H n s):Js H M.b:=h.img.tab.seen
theorem Kz.kb(x:Kz M W H n W' H' n')(h:Vm M W G H n s):Kb M.b H M.kb H' M.kb:=
 ⟨Nat.le_refl _,λd f g=>x.zero d (by have:=h.kn;omega) (h.lo d f) g,x.seen⟩
theorem oz.mono(h:oz M W G H n j f c)(A:n<=n')(i:Ke G H M.kb H' M.kb)(m:∀id,id<n->W.own id≠0->W'.own id=W.own id)(u:∀v,v∈f.loc∨v∈f.stk->adr W'.ob v.o=adr W.ob v.o)
 (e:∀id,id<n->(W.own id=4*j+4∨W.own id=4*j+5)->T.get H' id=T.get H id):oz M W' G H' n' j f c:=by
 have g:∀v,v∈f.loc∨v∈f.stk->wcs W'.ob v=wcs W.ob v:=λv d=>by unfold wcs;rw[u v d]
 obtain⟨⟨p,q⟩,t,w,x⟩:=h.loc
 refine⟨h.len,h.file.ke i,h.code.ke i,h.nl,⟨⟨by omega,(m _ p (by omega)).trans q⟩,t,(e _ p (.inl q)).trans w,λk v d=>by rw[g v (.inl (List.mem_of_getElem? d))];exact x k v d⟩,?_,h.sm⟩
 have y:wls W'.ob f.stk.reverse=wls W.ob f.stk.reverse:=List.map_congr_left λv d=>g v (.inr (List.mem_reverse.1 d))
 rw[y]
 exact h.stk.mono (λid h=>⟨by omega,(m _ h.1 (by omega)).trans h.2⟩) λid h=>e id h.1 (.inr h.2)
theorem vW.mono(i:n<=n')(k:Ke G H M.kb H' M.kb)(m:∀id,id<n->W.own id≠0->W'.own id=W.own id):∀{r:List Fr} {cr:List Cf},vW M W G H n r cr->(∀f∈r,∀v,v∈f.loc∨v∈f.stk->adr W'.ob v.o=adr W.ob v.o)->
 (∀id,id<n->4<=W.own id->W.own id<4*r.length+4->(W.own id%4=0∨W.own id%4=1)->T.get H' id=T.get H id)->vW M W' G H' n' r cr
 |[],[],_,_,_=>trivial
 |[],_::_,h,_,_=>h.elim
 |_::_,[],h,_,_=>h.elim
 |f::r,c::cr,h,p,e=>
  ⟨h.1.mono i k m (p f (List.mem_cons_self ..)) λid d q=>e id d (by omega) (by rw[List.length_cons];omega) (by omega),
   vW.mono i k m h.2 (λg u=>p g (List.mem_cons_of_mem _ u)) λid d q x w=>e id d q (by rw[List.length_cons];omega) w⟩
theorem Vm.mono(h:Vm M W G H n s)(p:n<=n')(g:Kb M.b H M.kb H' M.kb)(e:∀id,id<n->W.own id≠0->T.get H' id=T.get H id):Vm M W G H' n' s:=by
 have ke:Ke G H M.kb H' M.kb:=g.ke h.seen
 refine⟨by have:=h.kn;omega,h.ko,h.lo,λid q=>h.hi id (by omega),h.img.kb g,h.ff.ke ke (g.same _ h.fmn.1 h.fmn.2),h.fmn,(e _ h.kn (by rw[h.ko];omega)).trans h.box,h.out.mono (λid h=>⟨by omega,h.2⟩) (λid h=>e id h.1 (by omega)),
  h.fv.mono (λid h=>⟨by omega,h.2⟩) (λid h=>e id h.1 (by omega)),h.Ur.mono p ke (λ_ _ _=>rfl) (λ_ _ _ _=>rfl) λid d f _ _=>e id d (by omega),λi th k=>?_,λi th k=>?_,h.sz,h.big⟩
 ·obtain⟨⟨d,f⟩,m⟩:=h.ob i th k
  exact⟨⟨by omega,f⟩,(e _ d (by omega)).trans m⟩
 ·obtain⟨⟨d,f⟩,t,m,u⟩:=h.pt i th k
  exact⟨⟨by omega,f⟩,t,(e _ d (by omega)).trans m,u⟩
theorem Vm.kb(h:Vm M W G H n s)(f:Kb M.b H n H' n'):Vm M W G H' n' s/\Kz M W H n W H' n':=by
 have i:=h.bk
 have p:=h.kn
 refine⟨h.mono f.le (f.low (by omega)) λd g k=>f.same d g λq=>k (by rw[q];exact h.lo _ i),f.le,λ_ _=>rfl,λd g _ m=>f.same d g m,f.seen⟩
theorem Vm.kp(h:Vm M W G H n s)(f:Kp H n H' n'):Vm M W G H' n' s/\Kz M W H n W H' n':=h.kb (f.kb (b:=M.b) (by have:=h.bk;have:=h.kn;omega))
theorem Vm.ASe(h:Vm M W G H n s){i:Nat}(hi:W.own i=0)(f:M.kb<=i)(e:∀id,id≠i->T.get H' id=T.get H id):Vm M W G H' n s:=by
 have g:=h.bk
 exact h.mono (Nat.le_refl _) ⟨Nat.le_refl _,λid k _=>e id (by omega),λq=>q.same (e _ (by omega))⟩ λid _ d=>e id λq=>d (by rw[q];exact hi)
theorem Vm.Acm(h:Vm M W G H n s)(hs:s'.hp=s.hp/\s'.Ur=s.Ur/\s'.out=s.out)(A:T.get H' M.kb=some (one (M.cells W s')))(e:∀id,id≠M.kb->T.get H' id=T.get H id)
 (x:(0<=s'.parts/\s'.parts<=2000)/\(-1<=s'.steps/\s'.steps<=s.steps)/\s'.deep=s.deep):Vm M W G H' n s'/\Kz M W H n W H' n:=by
 obtain⟨k,m,y⟩:=hs
 have D:=h.bk
 have d:∀id,W.own id≠1->T.get H' id=T.get H id:=λid p=>e id λq=>by rw[q,h.ko]at p;omega
 have u:Kb M.b H M.kb H' M.kb:=⟨Nat.le_refl _,λid f _=>e id (by omega),λq=>q.same (e _ (by omega))⟩
 have ke:Ke G H M.kb H' M.kb:=u.ke h.seen
 have v:=h.sz
 refine⟨⟨h.kn,h.ko,h.lo,h.hi,h.img.kb u,h.ff.ke ke (u.same _ h.fmn.1 h.fmn.2),h.fmn,A,by rw[y];exact h.out.mono (λid h=>h) (λid h=>d id (by omega)),by rw[m];exact h.fv.mono (λid h=>h) (λid h=>d id (by omega)),
  by rw[m];exact h.Ur.mono (Nat.le_refl _) ke (λ_ _ _=>rfl) (λ_ _ _ _=>rfl) λid f B _ _=>d id (by omega),λi th g=>?_,λi th g=>?_,⟨x.1,⟨x.2.1.1,by omega⟩,by omega,by rw[y];omega,by rw[m];exact v.2.2.2.2⟩,by rw[k];exact h.big⟩,
  Nat.le_refl _,λ_ _=>rfl,λid _ B _=>d id (by omega),λq=>q.same (e _ (by omega))⟩
 ·rw[k]at g
  obtain⟨f,w⟩:=h.ob i th g
  exact⟨f,(d _ (by omega)).trans w⟩
 ·rw[k]at g
  obtain⟨f,t,w,C⟩:=h.pt i th g
  exact⟨f,t,(d _ (by omega)).trans w,C⟩
theorem Vm.ATn{P:KV}{v:V}{o:Nat}(h:Vm M W G H n s)(hs:s'.hp=s.hp/\s'.Ur=s.Ur/\s'.out=s.out)(g:Zp v=true)(d:A8 v=[v])(u:o<8)(i:(M.cells W s).take o++([v]++(M.cells W s).drop (o+1))=M.cells W s')
 (k:(0<=s'.parts/\s'.parts<=2000)/\(-1<=s'.steps/\s'.steps<=s.steps)/\s'.deep=s.deep)
 (m:∀H',Vm M W G H' n s'->Kz M W H n W H' n->P .undef H' n):Bz 1 (.ptr M.kb o) v H n P:=by
 refine vC h.box g (by rw[d];rfl) (by omega) (by show o+1<=8;omega) λp f q=>?_
 rw[d,i]at f
 obtain⟨q1,q2⟩:=h.Acm hs f q k
 exact m p q1 q2
end
theorem AWv{H:Heap}{id e c i o n:Nat}{t:T LV}{L:LV}{v:V}{P:KV}(f:T.get H id=some (.arr e c t))(x:1<e)(d:o<e)(hi:i<c)(g:T.get t i=some L)(y:L.length=e)(k:Zp v=true)(m:A8 v=[v])
 (h:∀H',T.get H' id=some (.arr e c (T.set t i (L.set o v)))->(∀j,j≠id->T.get H' j=T.get H j)->P .undef H' n):Bz 1 (.ptr id (i*e+o)) v H n P:=by
 have hd:(i*e+o)/e=i:=by rw[Nat.mul_comm,Nat.mul_add_div (by omega),Nat.div_eq_of_lt d,Nat.add_zero]
 have p:(i*e+o)%e=o:=by rw[Nat.mul_comm,Nat.mul_add_mod,Nat.mod_eq_of_lt d]
 have u:stH H id (i*e+o) 1 [v]=some (T.set H id (.arr e c (T.set t i (L.set o v)))):=by
  unfold stH
  rw[f]
  show BO (stB e c t (i*e+o) 1 [v]) _=_
  unfold stB
  rw[show Nat.div (i*e+o) e=i from hd,show Nat.blt i c=true by rw[Nat.blt_eq];exact hi]
  show BO (BO (T.get t i) (stC [v] e c t (i*e+o) 1)) _=_
  rw[g,Ud]
  unfold stC
  rw[show Nat.div (i*e+o) e=i from hd,show Nat.mod (i*e+o) e=o from p,show Nat.beq 1 e=false by rw[Bool.eq_false_iff];intro q;rw[beq_iff]at q;omega]
  show BO (Bool.rec none (some (Nu.arr e c (T.set t i (AP4 [v] o L)))) (Nat.ble (o+1) e):Option Nu) _=_
  rw[show Nat.ble (o+1) e=true by rw[Nat.ble_eq];omega,AJN]
  show some _=some _
  rw[List.set_eq_take_append_cons_drop,if_pos (by omega)];rfl
 unfold Bz
 rw[k,m,len_eq]
 show Ji (band true (Nat.beq 1 1)) (Gu (stH H id (i*e+o) 1 [v]) λH=>P .undef H n)
 rw[u]
 exact h _ (T.Ag ..) λj w=>T.Ac _ _ (Ne.symm w)
theorem AZr{G:AY}{H:Heap}{id e c i o:Nat}{t:T LV}{L:LV}{v:V}(f:T.get H id=some (.arr e c t))(hi:i<c)(g:T.get t i=some L)(k:L.length=e)(d:L[o]? =some v):AX (.ptr id (i*e+o)) G H=some v:=by
 have p:=(List.getElem?_eq_some_iff.1 d).1
 have h:=AUG (o:=o) (m:=1) ((bI f (by omega) hi).trans g) k (by omega) (by omega)
 rw[AUq,show ldP (.ptr id (i*e+o)) G H 1=mY H id (i*e+o) 1 from rfl,h]
 rw[List.take_one]
 show Va (some _) _=_
 rw[AJT,AAT,List.head?_drop,d];rfl
section
variable{M:Mv}{W W' W'':Vw}{G:AY}{H H' H'':Heap}{n n' n'':Nat}{s s':Vs}{f f':Fr}{r:List Fr}{c c':Cf}{cr:List Cf}{fb:Nat}
theorem oz.ANq{j:Nat}(h:oz M W G H n j f c):(f.cells c).length=16:=by unfold Fr.cells;rw[List.length_append,h.len];rfl
theorem vW.len:∀{r:List Fr} {cr:List Cf},vW M W G H n r cr->cr.length=r.length
 |[],[],_=>rfl
 |[],_::_,h=>h.elim
 |_::_,[],h=>h.elim
 |_::r,_::cr,h=>by rw[List.length_cons,List.length_cons,vW.len h.2]
theorem Vm.split(h:Vm M W G H n (s.top r f)):∃c cr,W.cf=c::cr/\oz M W G H n r.length f c/\vW M W G H n r cr:=by
 have h:=h.Ur
 generalize W.cf=l at h
 cases l with
 |nil=>exact h.elim
 |cons c cr=>exact⟨c,cr,rfl,h.1,h.2⟩
structure Tf(M:Mv)(W:Vw)(G:AY)(H:Heap)(n:Nat)(f:Fr)(r:List Fr)(c:Cf)(cr:List Cf)(fb:Nat):Prop where
 cf:W.cf=c::cr
 at':oz M W G H n r.length f c
 low:vW M W G H n r cr
 fv:W.fv=.F9 fb 0 (r.length+1) 16
 fbn:fb<n/\W.own fb=3
 blk:∃cap t,T.get H fb=some (.arr 16 cap t)/\r.length+1<=cap/\T.get t r.length=some (f.cells c)/\∀(i:Nat) (L:LV),i<r.length->(List.zipWith Fr.cells r cr).reverse[i]? =some L->T.get t i=some L
theorem Ac4(h:cr.length=r.length):(List.zipWith Fr.cells r cr).reverse.length=r.length:=by rw[List.length_reverse,List.length_zipWith,h];omega
theorem Vm.tf(h:Vm M W G H n (s.top r f)):∃c cr fb,Tf M W G H n f r c cr fb:=by
 obtain⟨c,cr,e,y,p⟩:=h.split
 have q:=Ac4 p.len
 have d:Sk H 16 (λu=>u<n/\W.own u=3) W.fv (List.zipWith Fr.cells (f::r) (c::cr)).reverse:=by rw[<-e];exact h.fv
 rw[List.zipWith_cons_cons,List.reverse_cons]at d
 generalize hX:(List.zipWith Fr.cells r cr).reverse++[f.cells c]=X at d
 have g:X.length=r.length+1:=by rw[<-hX,List.length_append,q];rfl
 have k:∃v,v=W.fv:=⟨_,rfl⟩
 obtain⟨v,w⟩:=k
 rw[<-w]at d
 cases d with
 |nil=>cases g
 |emp=>cases g
 |F9 A D x B=>
  rename_i fb m t
  refine⟨c,cr,fb,e,y,p,by rw[<-w,g],B,m,t,A,by omega,x _ _ ?_,λi L E C=>x i L ?_⟩
  ·rw[<-hX,List.getElem?_append_right (by omega),q,Nat.sub_self];rfl
  ·rw[<-hX,List.getElem?_append_left (by omega)];exact C
theorem Tf.ld(h:Tf M W G H n f r c cr fb){o:Nat}{v:V}(d:(f.cells c)[o]? =some v):AX (.ptr fb (r.length*16+o)) G H=some v:=by
 obtain⟨g,t,i,m,k,-⟩:=h.blk
 exact AZr i (by omega) k h.at'.ANq d
theorem oz.cell{j o:Nat}{v:V}(h:oz M W G H n j f c)(d:([.int .i64 f.bd.locals 0,.int .i64 f.bd.stack 0,c.wc,.int .i64 (.ofNat f.pc) 0,.sl c.lb 0 f.loc.length f.loc.length 2,c.sv]:LV)[o]? =some v):(f.cells c)[10+o]? =some v:=by
 unfold Fr.cells
 rw[List.getElem?_append_right (by rw[h.len];omega),h.len,Nat.add_sub_cancel_left];exact d
theorem oz.ATf{j o:Nat}{v:V}(h:oz M W G H n j f c)(d:c.L[o]? =some v):(f.cells c)[o]? =some v:=by
 unfold Fr.cells
 rw[List.getElem?_append_left (List.getElem?_eq_some_iff.1 d).1];exact d
theorem Vm.Aco(h:Vm M W G H n (s.top r f))(t:Tf M W G H n f r c cr fb)(Q:n<=n')(R:W'.ov=W.ov/\W'.ob=W.ob/\W'.pb=W.pb/\W'.cf=c'::cr/\W'.fv=W.fv)(k:∀id,id<n->W'.own id=W.own id)(v:∀id,n'<=id->W'.own id=0)
 (w:oz M W' G H' n' r.length f' c') (m:∃q t,T.get H' fb=some (.arr 16 q t)/\r.length+1<=q/\T.get t r.length=some (f'.cells c')/\∀(i:Nat) (L:LV),i<r.length->(List.zipWith Fr.cells r cr).reverse[i]? =some L->T.get t i=some L)
 (B:Kb M.b H M.kb H' M.kb) (e:∀id,id<n->W.own id≠0->W.own id≠3->W.own id≠4*r.length+4->W.own id≠4*r.length+5->T.get H' id=T.get H id):Vm M W' G H' n' (s.top r f')/\Tf M W' G H' n' f' r c' cr fb:=by
 obtain⟨J,C,K,D,E⟩:=R
 have ke:Ke G H M.kb H' M.kb:=B.ke h.seen
 have N:=h.kn
 have p:=t.low.mono (W':=W') Q ke (λid d _=>k id d) (λ_ _ _ _=>by rw[C]) λid d y A O=>e id d (by omega) (by omega) (by omega) (by omega)
 have P:=Ac4 t.low.len
 have g:=t.fbn
 refine⟨⟨by omega,(k _ N).trans h.ko,λid F=>(k id (by omega)).trans (h.lo id F),v,h.img.kb B,h.ff.ke ke (B.same _ h.fmn.1 h.fmn.2),h.fmn,?_,?_,?_,?_,λi th x=>?_,λi th x=>?_,h.sz,h.big⟩,D,w,p,E.trans t.fv,⟨by omega,(k _ g.1).trans g.2⟩,m⟩
 ·rw[e _ N (by rw[h.ko];omega) (by rw[h.ko];omega) (by rw[h.ko];omega) (by rw[h.ko];omega),h.box]
  unfold Mv.cells
  rw[J,E];rfl
 ·rw[J]
  exact h.out.mono (λid h=>⟨by omega,(k _ h.1).trans h.2⟩) λid h=>e id h.1 (by omega) (by omega) (by omega) (by omega)
 ·rw[D,E,t.fv]
  show Sk H' 16 _ _ (List.zipWith Fr.cells (f'::r) (c'::cr)).reverse
  rw[List.zipWith_cons_cons,List.reverse_cons]
  obtain⟨q,Z,S,b2,U,V⟩:=m
  have X:((List.zipWith Fr.cells r cr).reverse++[f'.cells c']).length=r.length+1:=by rw[List.length_append,P];rfl
  rw[<-X]
  refine .F9 S (by omega) (λi L u=>?_) ⟨by omega,(k _ g.1).trans g.2⟩
  by_cases x:i<r.length
  ·rw[List.getElem?_append_left (by omega)]at u
   exact V i L x u
  ·rw[List.getElem?_append_right (by omega),P]at u
   have I:=(List.getElem?_eq_some_iff.1 u).1
   have Y:i-r.length=0:=by simp at I;omega
   rw[Y]at u
   cases u
   rw[show i=r.length by omega];exact U
 ·rw[D]
  exact⟨w,p⟩
 ·obtain⟨⟨d,y⟩,A⟩:=h.ob i th x
  rw[C,K]
  exact⟨⟨by omega,(k _ d).trans y⟩,(e _ d (by omega) (by omega) (by omega) (by omega)).trans A⟩
 ·obtain⟨⟨d,y⟩,t,A,O⟩:=h.pt i th x
  rw[C,K]
  exact⟨⟨by omega,(k _ d).trans y⟩,t,(e _ d (by omega) (by omega) (by omega) (by omega)).trans A,O⟩
theorem Tf.st(h:Vm M W G H n (s.top r f))(t:Tf M W G H n f r c cr fb){o:Nat}{v:V}{P:KV}(A:o<16)(B:Zp v=true)(C:A8 v=[v])(m:(f.cells c).set o v=f'.cells c')
 (p:∀H',Ke G H M.kb H' M.kb->(∀id,id<n->W.own id≠0->W.own id≠3->T.get H' id=T.get H id)->oz M {W with cf:=c'::cr} G H' n r.length f' c')
 (D:∀H',Vm M {W with cf:=c'::cr} G H' n (s.top r f')->Tf M {W with cf:=c'::cr} G H' n f' r c' cr fb->Kz M W H n {W with cf:=c'::cr} H' n->P .undef H' n):Bz 1 (.ptr fb (r.length*16+o)) v H n P:=by
 obtain⟨u,R,E,F,I,J⟩:=t.blk
 have d:=t.fbn
 refine AWv E (by omega) A (by omega) I t.at'.ANq B C λk K w=>?_
 have N:=h.bk
 have g:Kb M.b H M.kb k M.kb:=⟨Nat.le_refl _,λid x _=>w id λq=>by have:=h.lo id x;rw[q,d.2]at this;omega,λq=>q.same (w _ λq=>by have:=h.lo _ N;rw[q,d.2]at this;omega)⟩
 have e:∀id,W.own id≠3->T.get k id=T.get H id:=λid x=>w id λq=>x (by rw[q];exact d.2)
 obtain⟨q1,q2⟩:=h.Aco (W':={W with cf:=c'::cr}) (H':=k) (n':=n) t (Nat.le_refl _) ⟨rfl,rfl,rfl,rfl,rfl⟩ (λ_ _=>rfl) h.hi (p k (g.ke h.seen) λid _ _ y=>e id y)
  ⟨u,_,K,F,by rw[T.Ag,m],λi L O Q=>by rw[T.Ac _ _ (by omega)];exact J i L O Q⟩ g λid _ _ y _ _=>e id y
 exact D k q1 q2 ⟨Nat.le_refl _,λ_ _=>rfl,λid _ S _=>e id (by omega),g.seen⟩
end
theorem AWy{G:AY}{H:Heap}{n:Nat}{v:V}{LS:EL}(h:El G H v 2 LS)(B:v=.Ad/\LS=[]∨CU .sl false v .Ad=some (.bool false))(m:∀d,v.XZ=some d->d<n)(C:LS.length<=100000){k:KV}
 (p:∀i H' n',Kp H n H' n'->El G H' i 2 LS->(∀d,i.XZ=some d->n<=d/\d<n')->k i H' n'):Runs F G Nq [v] H n k:=by
 refine go1 (Xh BF G) ?_
 delta Np
 rcases B with⟨rfl,rfl⟩|e
 ·simp only[go_sem,show CU .sl false .Ad .Ad=some (.bool true)from rfl]
  exact p _ _ _ (Kp.refl _ _) ⟨rfl,rfl⟩ λd q=>(by cases q)
 ·simp only[go_sem,e]
  rw[AWT]
  have x:=h.kp (n:=n) (n':=n+1) (H':=T.set H n (.arr 2 0 .e)) (λd f=>m d f) ((Kp.refl H n).new _ (Nat.le_refl _) (by omega))
  cases LS with
  |nil=>exact ARC (T.Ag ..) x.2 λH' y=>p _ _ _ ((Kp.refl H n).trans ⟨by omega,λd f=>by rw[y,T.Ac _ _ (by omega)]⟩) (Sk.el (A:=λ_=>True) (.emp ((y _).trans (T.Ag ..)) trivial) (by omega)) λd q=>by cases q;omega
  |cons a D=>
   refine AJK (t:=.e) (by omega) x.2 (by omega) λi H' u g w=>?_
   exact p _ _ _ ⟨by omega,λd f=>(g d (by omega)).trans (T.Ac _ _ (by omega))⟩ (u.el (by omega)) λd f=>by have:=w d f;omega
theorem Sk.cut{H:Heap}{z:Nat}{A:Nat->Prop}{v:V}{LS:EL}{i:Nat}(h:Sk H z A v LS)(q:0<z)(hi:i<=LS.length):(∃k,wB z v E0 (some (.c (.int .i64 (.ofNat i) 0))) none none=some k/\(∀G,El G H k z (LS.drop i))/\(k=.Ad/\LS.drop i=[]∨CU .sl false k .Ad=some (.bool false))/\k.XZ=v.XZ)/\
 ∃u,wB z v E0 none (some (.c (.int .i64 (.ofNat i) 0))) none=some u/\Sk H z A u (LS.take i):=by
 cases h with
 |nil=>
  have:i=0:=by simpa using hi
  subst this
  exact⟨⟨.Ad,rfl,λG=>⟨rfl,rfl⟩,.inl ⟨rfl,rfl⟩,rfl⟩,.Ad,rfl,.nil⟩
 |emp m p=>
  rename_i f t
  have:i=0:=by simpa using hi
  subst this
  have w:=Sk.emp (z:=z) m p
  refine⟨⟨.sl f 0 0 0 z,?_,λG=>w.el q,.inr rfl,rfl⟩,.sl f 0 0 0 z,?_,w⟩
  ·show BI (Nat.beq z z) _=_
   rw[Cm];rfl
  ·show BI (Nat.beq z z) _=_
   rw[Cm];rfl
 |F9 m C x p=>
  rename_i f c t
  have y:(LS.take i).length=i:=by rw[List.length_take];omega
  refine⟨⟨.F9 f i (LS.length-i) z,?_,λG=>AYz (bW _ _ _ (List.length_drop ..) λj L g=>?_),.inr rfl,rfl⟩,.F9 f 0 i z,?_,?_⟩
  ·show BI (Nat.beq z z) (BI (band (Nat.ble i LS.length) (Nat.ble LS.length LS.length)) (f3 (0+i) (LS.length-i) 0 λo d _=>.F9 f o d z))=_
   rw[Cm,show Nat.ble i LS.length=true by rw[Nat.ble_eq];omega,show Nat.ble LS.length LS.length=true by rw[Nat.ble_eq];omega]
   show Dx (0+i) (λa=>Dx (LS.length-i) λb=>Dx 0 λ_=>some (.F9 f a b z))=_
   rw[Bv,Bv,Bv,Nat.zero_add]
  ·rw[List.getElem?_drop]at g
   have B:=(List.getElem?_eq_some_iff.1 g).1
   rw[bI m q (by omega)];exact x _ L g
  ·show BI (Nat.beq z z) (BI (band (Nat.ble 0 i) (Nat.ble i LS.length)) (f3 0 (i-0) 0 λo d _=>.F9 f o d z))=_
   rw[Cm,show Nat.ble 0 i=true by rw[Nat.ble_eq];omega,show Nat.ble i LS.length=true by rw[Nat.ble_eq];omega]
   show Dx 0 (λa=>Dx (i-0) λb=>Dx 0 λ_=>some (.F9 f a b z))=_
   rw[Bv,Bv,Bv,Nat.sub_zero]
  ·have:=Sk.F9 (z:=z) (LS:=LS.take i) m (by rw[y];omega) (λj L g=>x j L (by rw[List.getElem?_take]at g;split at g;exact g;cases g)) p
   rw[y]at this;exact this
theorem Sk.app1{G:AY}{H:Heap}{n z I:Nat}{A:Nat->Prop}{v w:V}{LS:EL}{L:LV}{P:KV}(h:Sk H z A v LS)(J:∀id,v.XZ=some id->id<n)(x:elems w G H z=some [L])(y:(LS.length+1)*I<=140737488355328)
 (C:∀i H',(∀B:Nat->Prop,B n->Sk H' z B i (LS++[L]))->(∀id,id<n->v.XZ≠some id->T.get H' id=T.get H id)->P i H' (n+1)) (K:0<z):WV z I v w G H n P:=by
 have fin:∀{i:V} {k:Heap},Gr G k 0 z i (LS++[L])->(∀id,i.XZ=some id->id=n)->∀B:Nat->Prop,B n->Sk k z B i (LS++[L]):=by
  intro i k f g
  generalize hX:LS++[L]=X at f
  cases f with
  |nil=>simp at hX
  |F9 q M D E=>
   have e:=g _ rfl
   subst e
   exact λB N=>.F9 q M D N
 cases h with
 |nil=>exact AJG (m:=0) .nil (by omega) (λ_ h=>by cases h) x y (λi k f d g=>C i k (fin f g) λid p u=>d id p u) (λh=>by cases h)
 |emp q O=>
  rename_i id t
  exact AJK (t:=t) K x (by simpa using y) λi k f d g=>C i k (fin f g) λid p u=>d id p
 |F9 q F D O=>
  rename_i id c' t
  have E:=J id rfl
  exact AJG (m:=0) (.F9 q F D (Nat.zero_le _)) (by omega) (λj h=>by cases h;omega) x y (λi k f d g=>C i k (fin f g) λid p u=>d id p u) (λh=>by cases h)
section
variable{M:Mv}{W W' W'':Vw}{G:AY}{H H' H'':Heap}{n n' n'':Nat}{s s':Vs}{f f':Fr}{r:List Fr}{c c':Cf}{cr:List Cf}{fb:Nat}{k:KV}
theorem au(ob:Nat->Nat)(l:List Cv):(wls ob l).length=l.length:=List.length_map ..
theorem pop_inv{q:Nat}{ws:List Cv}(h:f.pop q=some (ws,f')):q<=f.stk.length/\ws=(f.stk.take q).reverse/\f'={f with stk:=f.stk.drop q}:=by
 unfold Fr.pop at h
 cases hd:decide (q<=f.stk.length)with
 |false=>rw[hd]at h;cases h
 |true=>rw[hd]at h;cases h;exact⟨of_decide_eq_true hd,rfl,rfl⟩
theorem push_inv{v:Cv}(h:f.push v=some f'):((f.stk.length+1:Nat):Int)<=f.bd.stack/\f'={f with stk:=v::f.stk}:=by
 unfold Fr.push at h
 cases hd:decide (((f.stk.length+1:Nat):Int)<=f.bd.stack)with
 |false=>rw[hd]at h;cases h
 |true=>rw[hd]at h;cases h;exact⟨of_decide_eq_true hd,rfl⟩
theorem oz.same{j:Nat}(h:oz M W G H n j f c)(g:Ke G H M.kb H' M.kb)(d:W'.own=W.own/\W'.ob=W.ob)(e:∀id,id<n->W.own id≠0->W.own id≠3->T.get H' id=T.get H id):oz M W' G H' n j f c:=
 h.mono (Nat.le_refl _) g (λ_ _ _=>by rw[d.1]) (λ_ _=>by rw[d.2]) λid i k=>e id i (by omega) (by omega)
theorem Wy{q:Nat}{ws:List Cv}(h:Vm M W G H n (s.top r f))(hp:W.fv=.F9 fb 0 (r.length+1) 16)(x:f.pop q=some (ws,f'))
 (hk:∀W' H' n' v,Vm M W' G H' n' (s.top r f')->Kz M W H n W' H' n'->W'.fv=W.fv->W'.ob=W.ob->W'.ov=W.ov/\W'.cf.map Cf.lb=W.cf.map Cf.lb->El G H' v 2 (wls W.ob ws)->(∀d,v.XZ=some d->n<=d/\d<n'/\W'.own d=0)->k v H' n'):
 Runs F G CW [.ptr M.kb 0,.ptr fb (r.length*16),.int .i64 (.ofNat q) 0] H n k:=by
 refine go3 (AF5 BF G) ?_
 delta oQ
 obtain⟨hq,rfl,rfl⟩:=pop_inv x
 obtain⟨c,cr,p,t⟩:=h.tf
 have:p=fb:=by have:=t.fv;rw[hp]at this;cases this;rfl
 subst this
 have E:=t.at'.sm
 have V:lenV c.sv=some (.int .i64 (.ofNat f.stk.length) 0):=by rw[(t.at'.stk.el (G:=G) (by omega)).len,au,List.length_reverse]
 have u:AX (.ptr p (r.length*16+15)) G H=some c.sv:=t.ld (t.at'.cell (o:=5) rfl)
 have cut:=t.at'.stk.cut (i:=f.stk.length-q) (by omega) (by rw[au,List.length_reverse];omega)
 obtain⟨⟨v1,e1,X,Y,e4⟩,I,e5,C⟩:=cut
 have J:(wls W.ob f.stk.reverse).drop (f.stk.length-q)=wls W.ob (f.stk.take q).reverse:=by
  unfold wls
  rw[<-List.map_drop,List.drop_reverse,show f.stk.length-(f.stk.length-q)=q by omega]
 have K:(wls W.ob f.stk.reverse).take (f.stk.length-q)=wls W.ob (f.stk.drop q).reverse:=by
  unfold wls
  rw[<-List.map_take,List.take_reverse,show f.stk.length-(f.stk.length-q)=q by omega]
 rw[J]at X Y
 rw[K]at C
 rw[DV,AP,Ah,AP,u,AP,V,AP,Tq,AP,decide_eq_false (by omega),BG,AP,Ah,AP,u,AP,V,AP,AKY hq (by omega),AP,AP,Ah,AP,u,AP,e1,AP]
 refine AWy (X G) Y (λd g=>?_) (by rw[au,List.length_reverse,List.length_take];omega) λZ H1 N O P m=>?_
 ·rw[e4]at g
  exact(t.at'.stk.own g).1
 ·obtain⟨h1,Q⟩:=h.kp O
  obtain⟨c',R,y,w⟩:=h1.tf
  have:y=p:=by have:=w.fv;rw[hp]at this;cases this;rfl
  subst this
  have S:c'::R=c::cr:=w.cf.symm.trans t.cf
  cases S
  have A:AX (.ptr y (r.length*16+15)) G H1=some c.sv:=w.ld (w.at'.cell (o:=5) rfl)
  have T:Sk H1 2 (λd=>d<N/\W.own d=4*r.length+5) I (wls W.ob (f.stk.drop q).reverse):=C.mono (λd h=>⟨by have:=O.le;omega,h.2⟩) λd h=>O.same d h.1
  have U:=w.at'.len
  rw[AP,Ah,AP,A,AP,e5,AP,AP,Ah,AP]
  refine Tf.st (c':=⟨c.L,c.wc,c.lb,I⟩) (f':={f with stk:=f.stk.drop q}) h1 w (o:=15) (by omega) C.ok.1 C.ok.2.1 ?_ (λH2 k2 s2=>?_) λH2 h2 t2 B=>?_
  ·unfold Fr.cells
   rw[List.set_append_right _ _ (by omega),U];rfl
  ·have:=w.at'.same (W':={W with cf:=⟨c.L,c.wc,c.lb,I⟩::cr}) k2 ⟨rfl,rfl⟩ s2
   exact⟨this.len,this.file,this.code,this.nl,this.loc,T.mono (λ_ h=>h) λd g=>s2 d g.1 (by omega) (by omega),by show(f.stk.drop q).length<=1000/\_;rw[List.length_drop];exact⟨by omega,E.2⟩⟩
  ·have D:∀d,Z.XZ=some d->n<=d/\d<N/\W.own d=0:=λd g=>⟨(m d g).1,(m d g).2,h.hi d (m d g).1⟩
   have hb:=h.bk
   have kn:=h.kn
   exact hk _ H2 N Z h2 (Q.trans B) rfl rfl ⟨rfl,by rw[t.cf];rfl⟩ (P.same λd g=>B.zero d (D d g).2.1 (D d g).2.2 (by have:=(D d g).1;omega)) D
theorem ZV{t:Nat}(h:Vm M W G H n s)(f:∀H',Vm M W G H' n (s.stop t)->Kz M W H n W H' n->k (.Dl []) H' n):Runs F G DF [.ptr M.kb 0,.int .i64 (.ofNat t) 0] H n k:=by
 refine go2 (AEv BF G) ?_
 delta iZ
 have d:=h.sz
 rw[DV,AP,Ah,AP]
 exact h.ATn (o:=0+5) (s':=s.stop t) ⟨rfl,rfl,rfl⟩ rfl rfl (by omega) rfl ⟨d.1,⟨d.2.1.1,Int.le_refl _⟩,rfl⟩ f
theorem AdN{ob:Nat->Nat}{b:Bool}(f:∀H' n',Kp H n H' n'->k (wv ob (XL b)) H' n'):Runs F G VP [.bool b] H n k:=by
 refine go1 (ASt BF G) ?_
 delta AM4
 have fin:∀{x:Int},(∀H' n',Kp H n H' n'->k (.agg [.int .i64 x 0,.Bo]) H' n')->∀{d:Heap},Kp H n d (n+1)->T.get d n=some (one [.int .i64 (.ofNat 0) 0,.Bo])->Bz 2 (.ptr n 0) (.agg [.int .i64 x 0,.Bo]) d (n+1) λ_ H n'=>Gu (ED [.cn (.ptr n 0) 2] G H) λl=>k (JF l) H n':=by
  intro x f d g i
  rw[FU (m:=2) i (by omega) rfl rfl,EN (m:=2) (T.Ag ..) (by omega) rfl]
  exact f _ _ ⟨by omega,λq p=>by rw[T.Ac _ _ (by omega),g.same q p]⟩
 refine Di rfl λd g i=>?_
 cases b with
 |true=>
  rw[BP,show BH [.int .i64 (.ofNat 0) 0,.Bo] [(0,1,.c (.int .i64 (.ofNat 1) 0))]=some (.agg [.int .i64 (.ofNat 1) 0,.Bo])from rfl,AP]
  exact fin f g i
 |false=>
  rw[BG,show BH [.int .i64 (.ofNat 0) 0,.Bo] []=some (.agg [.int .i64 (.ofNat 0) 0,.Bo])from rfl,AP]
  exact fin f g i
end
section
variable{M:Mv}{W W' W'':Vw}{G:AY}{H H' H'':Heap}{n n' n'':Nat}{s s':Vs}{f f':Fr}{r:List Fr}{c c':Cf}{cr:List Cf}{fb:Nat}{k:KV}
theorem Vm.tf2(h:Vm M W G H n (s.top r f))(hp:W.fv=.F9 fb 0 (r.length+1) 16):∃c cr,Tf M W G H n f r c cr fb:=by
 obtain⟨c,cr,d,t⟩:=h.tf
 have:d=fb:=by have:=t.fv;rw[hp]at this;cases this;rfl
 subst this
 exact⟨c,cr,t⟩
theorem AWY(ob:Nat->Nat)(v:Cv)(l:List Cv):wls ob (v::l).reverse=wls ob l.reverse++[wcs ob v]:=by
 rw[List.reverse_cons];exact List.map_append
theorem AUH{v:Cv}{w:V}(h:Vm M W G H n (s.top r f))(hp:W.fv=.F9 fb 0 (r.length+1) 16)(x:f.push v=some f')(hw:El G H w 2 [wcs W.ob v])
 (hk:∀W' H' n',Vm M W' G H' n' (s.top r f')->Kz M W H n W' H' n'->W'.fv=W.fv->W'.ob=W.ob->W'.pb=W.pb->k (.Dl []) H' n'):Runs F G Aq [.ptr M.kb 0,.ptr fb (r.length*16),w] H n k:=by
 refine go3 (ADC BF G) ?_
 delta jl
 obtain⟨O,rfl⟩:=push_inv x
 obtain⟨c,cr,t⟩:=h.tf2 hp
 have P:=t.at'.sm
 have Y:=h.bk
 have kn:=h.kn
 have A:=t.fbn
 rw[DV,AP,Ah,AP,show AX (.ptr fb (r.length*16+15)) G H=some c.sv from t.ld (t.at'.cell (o:=5) rfl),AP]
 refine t.at'.stk.app1 (G:=G) (λd p=>(t.at'.stk.own p).1) hw.2 (by rw[au,List.length_reverse];omega) (λI H1 m s1=>?_) (by omega)
 rw[<-AWY]at m
 have Z:∀d,d<n->W.own d≠4*r.length+5->T.get H1 d=T.get H d:=λd q1 q2=>s1 d q1 λe=>q2 (t.at'.stk.own e).2
 obtain⟨Q,tt,b1,b2,b3,b4⟩:=t.blk
 rw[AP,Ah,AP]
 have B:=(m (λ_=>True) trivial).ok
 refine AWv (o:=15) ((Z _ A.1 (by omega)).trans b1) (by omega) (by omega) (by omega) b3 t.at'.ANq B.1 B.2.1 λJ g2 s2=>?_
 obtain⟨u,g⟩:∃u:Vw,u={W with own:=λd=>if d=n then 4*r.length+5 else W.own d,cf:=⟨c.L,c.wc,c.lb,I⟩::cr}:=⟨_,rfl⟩
 have o1:u.own n=4*r.length+5:=by rw[g];exact if_pos rfl
 have K:∀d,d≠n->u.own d=W.own d:=λd q=>by rw[g];exact if_neg q
 have C:∀d,d<n->W.own d≠3->W.own d≠4*r.length+5->T.get J d=T.get H d:=λd q1 q2 q3=>(s2 d λe=>q2 (by rw[e];exact A.2)).trans (Z d q1 q3)
 have y:Kb M.b H M.kb J M.kb:=⟨Nat.le_refl _,λd q _=>C d (by omega) (by rw[h.lo d q];omega) (by rw[h.lo d q];omega),λq=>q.same (C _ (by omega) (by rw[h.lo _ Y];omega) (by rw[h.lo _ Y];omega))⟩
 have D:=t.at'.len
 have R:oz M u G J (n+1) r.length {f with stk:=v::f.stk} ⟨c.L,c.wc,c.lb,I⟩:=by
  have ke:=y.ke (G:=G) h.seen
  obtain⟨⟨l1,l2⟩,lt,l3,l4⟩:=t.at'.loc
  refine⟨D,t.at'.file.ke ke,t.at'.code.ke ke,t.at'.nl,⟨⟨by show c.lb<n+1;omega,(K _ (by show c.lb≠n;omega)).trans l2⟩,lt,(C _ l1 (by omega) (by omega)).trans l3,by rw[g];exact l4⟩,?_,by show(v::f.stk).length<=1000;rw[List.length_cons];omega,P.2⟩
  have:u.ob=W.ob:=by rw[g]
  rw[this]
  exact(m (λd=>d<n+1/\u.own d=4*r.length+5) ⟨Nat.lt_succ_self _,o1⟩).AHu (λd p=>(m (λd=>d<n+1/\u.own d=4*r.length+5) ⟨Nat.lt_succ_self _,o1⟩).own p) λd p=>s2 d λe=>by
   have:=(m (λd=>d=n) rfl).own p
   omega
 obtain⟨S,N⟩:=h.Aco (W':=u) (f':={f with stk:=v::f.stk}) (c':=⟨c.L,c.wc,c.lb,I⟩) (n':=n+1) t (by omega) ⟨by rw[g],by rw[g],by rw[g],by rw[g],by rw[g]⟩ (λd q=>K d (by omega)) (λd q=>(K d (by omega)).trans (h.hi d (by omega))) R
  ⟨Q,_,g2,b2,by
   rw[T.Ag]
   unfold Fr.cells
   rw[List.set_append_right _ _ (by omega),D];rfl,λi L hi hL=>by rw[T.Ac _ _ (by omega)];exact b4 i L hi hL⟩ y λd q1 q2 q3 q4 q5=>C d q1 q3 q5
 have U:Kz M W H n u J (n+1):=⟨by omega,λd q=>K d (by omega),λd q1 q2 q3=>C d q1 (by omega) (by omega),y.seen⟩
 have hl:lenV I=some (.int .i64 (.ofNat (f.stk.length+1)) 0):=by
  rw[((m (λ_=>True) trivial).el (G:=G) (by omega)).len,au,List.length_reverse];rfl
 have E:=S.sz
 rw[DV,AP,Ah,AP,AU (off:=0+6) S.box (v:=.bool false) rfl,AP]
 refine Ya rfl (Ya (DV ..) (Ya (Ah ..) (Ya (N.ld (o:=15) (N.at'.cell (o:=5) rfl)) (Ya hl (Ya rfl (Ya (DV ..) (Ya (Ah ..) (Ya (Ah ..) (Ya (N.ld (o:=11) (N.at'.cell (o:=1) rfl)) (Ya (AT3 ..) (pz ?_)))))))))))
 rw[decide_eq_false (by show ¬f.bd.stack<((f.stk.length+1:Nat):Int);omega),AP,Ah,AP]
 exact S.ATn (o:=0+6) (s':=s.top r {f with stk:=v::f.stk}) ⟨rfl,rfl,rfl⟩ rfl rfl (by omega) rfl ⟨E.1,⟨E.2.1.1,Int.le_refl _⟩,rfl⟩ λH3 h3 X=>hk u H3 _ h3 (U.trans X) (by rw[g]) (by rw[g]) (by rw[g])
theorem AW6{v:Cv}{Z:LV}(h:Vm M W G H n (s.top r f))(hp:W.fv=.F9 fb 0 (r.length+1) 16)(d:f.push v=some f')
 (q:∀W' H' n',Vm M W' G H' n' (s.top r f')->Kz M W H n W' H' n'->W'.fv=W.fv->k (.Dl []) H' n'):
 Bc (Ar 2 1 Z [(0,.c (wv W.ob v))] E0) H n λw H n=>Runs F G Aq [.ptr M.kb 0,.ptr fb (r.length*16),w] H n λ_ H n=>k (.Dl []) H n:=by
 refine ARa (G:=G) (vs:=[wv W.ob v]) rfl (by omega) (λx p=>by simp at p;subst p;exact⟨rfl,rfl⟩) λE u _ g=>?_
 obtain⟨y,i⟩:=h.kp u
 exact AUH y hp d g λA B C D m e _ _=>q A B C D (i.trans m) e
theorem Aby{x:Int}{Q:V->Heap->Nat->Prop}{ov:V}(h:Vm M W G H n s)(E:ov=W.ov)(hr:0<=s.steps)(d0:(s.out.length:Int)+1+s.steps<=5000)
 (hk:∀C D,(∀{P:KV},(∀W' v,Vm M W' G v (n+2) {s with out:=s.out++[x]}->Kz M W H n W' v (n+2)->W'.fv=W.fv->P .undef v (n+2))->Bz 1 (.ptr M.kb (0+4)) C D (n+2) P)->Q C D (n+2)):
 Bc (Ar 1 1 [(.int .i64 (.ofNat 0) 0)] [(0,.c (.int .i64 x 0))] E0) H n λw H n=>WV 1 8 ov w G H n Q:=by
 subst E
 have p:=h.sz
 have kn:=h.kn
 have R:=h.bk
 have F:(s.out.map λx=>([.int .i64 x 0]:LV)).length=s.out.length:=List.length_map ..
 refine h.out.app (G:=G) (m:=0) (c:=.int .i64 x 0) (λd g=>(h.out.own g).1) (by omega) rfl rfl (by rw[F];omega) λC D A s1 g=>?_
 have S:∀d,d<n->W.own d≠2->T.get D d=T.get H d:=λd q1 q2=>s1 d q1 λe=>q2 (h.out.own e).2
 refine hk C D λ{P} hP=>?_
 have I:=(A (λd=>d=n+1) rfl).ok
 refine vC ((S _ kn (by rw[h.ko];omega)).trans h.box) I.1 (by rw[I.2.1];rfl) (by omega) (by show 0+4+1<=8;omega) λv U X=>?_
 rw[I.2.1]at U
 obtain⟨k,f⟩:∃k:Vw,k={W with own:=λd=>if d=n+1 then 2 else W.own d,ov:=C}:=⟨_,rfl⟩
 have o1:k.own (n+1)=2:=by rw[f];exact if_pos rfl
 have y:∀d,d≠n+1->k.own d=W.own d:=λd q=>by rw[f];exact if_neg q
 have e2:∀d,d<n->W.own d≠2->d≠M.kb->T.get v d=T.get H d:=λd q1 q2 q3=>(X d q3).trans (S d q1 q2)
 have Y:k.fv=W.fv:=by rw[f]
 have J:k.ob=W.ob:=by rw[f]
 have Z:k.pb=W.pb:=by rw[f]
 have w4:k.cf=W.cf:=by rw[f]
 have B:∀d,d<n->W.own d≠2->W.own d≠1->T.get v d=T.get H d:=λd q1 q2 q3=>e2 d q1 q2 λe=>q3 (by rw[e];exact h.ko)
 have u:Kb M.b H M.kb v M.kb:=⟨Nat.le_refl _,λd q _=>B d (by omega) (by rw[h.lo d q];omega) (by rw[h.lo d q];omega),λq=>q.same (B _ (by omega) (by rw[h.lo _ R];omega) (by rw[h.lo _ R];omega))⟩
 have ke:=u.ke (G:=G) h.seen
 refine hP k v ⟨by omega,(y _ (by omega)).trans h.ko,λd q=>(y d (by omega)).trans (h.lo d q),λd q=>(y d (by omega)).trans (h.hi d (by omega)),h.img.kb u,h.ff.ke ke (u.same _ h.fmn.1 h.fmn.2),h.fmn,?_,?_,?_,?_,λi th K=>?_,λi th K=>?_,?_,h.big⟩
  ⟨by omega,λd q=>y d (by omega),λd q1 q2 _=>B d q1 (by omega) (by omega),u.seen⟩ Y
 ·rw[U]
  unfold Mv.cells
  rw[f];rfl
 ·rw[List.map_append]
  have:=A (λd=>d<n+2/\k.own d=2) ⟨by omega,o1⟩
  rw[show k.ov=C by rw[f]]
  exact this.AHu (λd g=>this.own g) λd g=>X d λe=>by
   have:=(A (λd=>d=n+1) rfl).own g
   omega
 ·rw[Y,w4]
  exact h.fv.mono (λd h=>⟨by omega,(y _ (by omega)).trans h.2⟩) λd h=>B d h.1 (by omega) (by omega)
 ·rw[w4]
  exact h.Ur.mono (by omega) ke (λd q _=>y d (by omega)) (λ_ _ _ _=>by rw[J]) λd q1 q2 _ _=>B d q1 (by omega) (by omega)
 ·obtain⟨⟨L,N⟩,O⟩:=h.ob i th K
  rw[J,Z]
  exact⟨⟨by omega,(y _ (by omega)).trans N⟩,(B _ L (by omega) (by omega)).trans O⟩
 ·obtain⟨⟨L,N⟩,t,O,h4⟩:=h.pt i th K
  rw[J,Z]
  exact⟨⟨by omega,(y _ (by omega)).trans N⟩,t,(B _ L (by omega) (by omega)).trans O,h4⟩
 ·refine⟨p.1,p.2.1,p.2.2.1,?_,p.2.2.2.2⟩
  show((s.out++[x]).length:Int)+s.steps<=5000
  rw[List.length_append]
  show((s.out.length+1:Nat):Int)+s.steps<=5000
  omega
end
section
variable{M:Mv}{W W' W'':Vw}{G:AY}{H H' H'':Heap}{n n' n'':Nat}{s s':Vs}{f f':Fr}{r:List Fr}{c c':Cf}{cr:List Cf}{fb:Nat}{k:KV}
theorem Vm.newObj(h:Vm M W G H n s)(A:Gd s){th:Th}{t:T LV}(B:∀v∈th.vals,v=PD)(P:th.vals.length<=2000)(e:∀id,id<n->T.get H' id=T.get H id)
 (Q:T.get H' n=some (.arr 2 th.vals.length t)) (R:∀i,i<th.vals.length->T.get t i=some [.int .i64 (.ofNat 0) 0,.Bo]) (S:T.get H' (n+1)=some (one [th.cls.v,.sl n 0 th.vals.length th.vals.length 2])):
 ∃W':Vw,Vm M W' G H' (n+2) {s with hp:=s.hp++[th]}/\Kz M W H n W' H' (n+2)/\W'.fv=W.fv/\W'.ob s.hp.length=n+1:=by
 have U:=h.kn
 have hb:=h.bk
 obtain⟨f,d⟩:∃f:Vw,f={W with own:=λid=>if id=n then 4*s.hp.length+7 else if id=n+1 then 4*s.hp.length+6 else W.own id,ob:=λi=>if i=s.hp.length then n+1 else W.ob i,pb:=λi=>if i=s.hp.length then n else W.pb i}:=⟨_,rfl⟩
 have X:f.own n=4*s.hp.length+7:=by rw[d];exact if_pos rfl
 have Y:f.own (n+1)=4*s.hp.length+6:=by
  rw[d]
  show(if _ then _ else _)=_
  rw[if_neg (by omega),if_pos rfl]
 have p:∀id,id≠n->id≠n+1->f.own id=W.own id:=λid q1 q2=>by
  rw[d]
  show(if _ then _ else _)=_
  rw[if_neg q1,if_neg q2]
 have y:∀i,i≠s.hp.length->f.ob i=W.ob i/\f.pb i=W.pb i:=λi q=>by rw[d];exact⟨if_neg q,if_neg q⟩
 have I:f.ob s.hp.length=n+1:=by rw[d];exact if_pos rfl
 have J:f.pb s.hp.length=n:=by rw[d];exact if_pos rfl
 have C:f.fv=W.fv:=by rw[d]
 have K:f.cf=W.cf:=by rw[d]
 have L:f.ov=W.ov:=by rw[d]
 have N:∀v:Cv,v.o<=s.hp.length->adr f.ob v.o=adr W.ob v.o:=λv q=>by
  cases Z:v.o with
  |zero=>rfl
  |succ o=>show V.ptr (f.ob o) 0=V.ptr (W.ob o) 0;rw[(y o (by omega)).1]
 have u:Kb M.b H M.kb H' M.kb:=⟨Nat.le_refl _,λid q _=>e id (by omega),λq=>q.same (e _ (by omega))⟩
 have ke:=u.ke (G:=G) h.seen
 have D:=h.sz
 have lt:∀id,W.own id≠0->id<n:=λid q=>by
  rcases Nat.lt_or_ge id n with E|E
  ·exact E
  ·exact absurd (h.hi id E) q
 have look:∀(i:Nat) (x:Th),(s.hp++[th])[i]? =some x->(i=s.hp.length/\x=th)∨(i<s.hp.length/\s.hp[i]? =some x):=λi x k=>by
  by_cases m:i<s.hp.length
  ·rw[List.getElem?_append_left m]at k;exact .inr ⟨m,k⟩
  ·rw[List.getElem?_append_right (by omega)]at k
   have:=(List.getElem?_eq_some_iff.1 k).1
   have hz:i-s.hp.length=0:=by simp at this;omega
   rw[hz]at k
   cases k
   exact .inl ⟨by omega,rfl⟩
 refine⟨f,⟨by omega,(p _ (by omega) (by omega)).trans h.ko,λid q=>(p id (by omega) (by omega)).trans (h.lo id q),λid q=>(p id (by omega) (by omega)).trans (h.hi id (by omega)),h.img.kb u,h.ff.ke ke (u.same _ h.fmn.1 h.fmn.2),h.fmn,?_,?_,?_,?_,λi x m=>?_,λi x m=>?_,D,λx k=>?_⟩,
  ⟨by omega,λid q=>p id (by omega) (by omega),λid q _ _=>e id q,u.seen⟩,C,I⟩
 ·rw[e _ U,h.box]
  unfold Mv.cells
  rw[C,L]
 ·rw[L]
  exact h.out.mono (λid h=>⟨by omega,(p _ (by omega) (by omega)).trans h.2⟩) λid h=>e id h.1
 ·rw[C,K]
  exact h.fv.mono (λid h=>⟨by omega,(p _ (by omega) (by omega)).trans h.2⟩) λid h=>e id h.1
 ·rw[K]
  exact h.Ur.mono (by omega) ke (λid q _=>p id (by omega) (by omega)) (λg O v B=>N v (B.elim ((A.fr g O).1 v) ((A.fr g O).2 v))) λid q _ _ _=>e id q
 ·rcases look i x m with⟨rfl,rfl⟩|⟨F,m⟩
  ·rw[I,J]
   exact⟨⟨by omega,Y⟩,S⟩
  ·obtain⟨⟨q1,q2⟩,q3⟩:=h.ob i x m
   rw[(y i (by omega)).1,(y i (by omega)).2]
   exact⟨⟨by omega,(p _ (by omega) (by omega)).trans q2⟩,(e _ q1).trans q3⟩
 ·rcases look i x m with⟨rfl,rfl⟩|⟨F,m⟩
  ·rw[J]
   refine⟨⟨by omega,X⟩,t,Q,λq v w=>?_⟩
   rw[B v (List.mem_of_getElem? w),R q (List.getElem?_eq_some_iff.1 w).1];rfl
  ·obtain⟨⟨q1,q2⟩,t2,q3,q4⟩:=h.pt i x m
   rw[(y i (by omega)).2]
   refine⟨⟨by omega,(p _ (by omega) (by omega)).trans q2⟩,t2,(e _ q1).trans q3,λq v w=>?_⟩
   have:=N v (A.hp x (List.mem_of_getElem? m) v (List.mem_of_getElem? w))
   unfold wcs
   rw[this]
   exact q4 q v w
 ·rcases List.mem_append.1 k with k|k
  ·exact h.big x k
  ·rw[List.mem_singleton.1 k];exact P
theorem APE(x:Int):B2.ev .lss (.int .i64 x 0) (.int .i64 (.ofNat 0) 0)=some (.bool (decide (x<0))):=APy ..
theorem AP6{m:Int}{th:List Cv->Th}{cls:St}(h:Vm M W G H n (s.top r f))(hp:W.fv=.F9 fb 0 (r.length+1) 16)(X:Gd (s.top r f))(u:XC s r f m th=some s')(y:∀J,(th J).cls=cls/\(th J).vals=J)
 (K:∀W' H' n',Vm M W' G H' n' s'->Kz M W H n W' H' n'->k (.Dl []) H' n'):Runs F G VB [.ptr M.kb 0,.ptr fb (r.length*16),cls.v,.int .i64 m 0] H n k:=by
 refine go4 (AB8 BF G) ?_
 delta fH
 unfold XC at u
 have A:=h.sz
 rw[APE,AP]
 cases hd:decide (m<0)with
 |true=>
  rw[hd]at u
  cases u
  rw[BP]
  exact ZV h λB C p=>K W B n C p
 |false=>
  rw[hd]at u
  simp only[cond_false]at u
  have Y:AX (.ptr M.kb (0+1+1)) G H=some (.int .i64 s.parts 0):=AU (off:=0+1+1) h.box rfl
  rw[BG,DV,AP,Ah,AP,Ah,AP,Y,AP,AQO,AP]
  cases w:decide (s.parts<=m)with
  |true=>
   rw[w]at u
   cases u
   rw[BP]
   exact ZV h λB C p=>K W B n C p
  |false=>
   rw[w]at u
   simp only[cond_false]at u
   obtain⟨q,rfl⟩:∃q:Nat,m=.ofNat q:=⟨m.toNat,by have:=of_decide_eq_false hd;show m=(m.toNat:Int);omega⟩
   have hq:(q:Int)<s.parts:=by have:=of_decide_eq_false w;have:¬s.parts<=(q:Int):=this;omega
   have d0:(s.top r f).parts=s.parts:=rfl
   have Z:(s.top r f).steps=s.steps:=rfl
   have d1:s.parts<=2000:=A.1.2
   obtain⟨g,hg,rfl⟩:=Option.map_eq_some_iff.1 u
   have D:B2.ev .sub (.int .i64 s.parts 0) (.int .i64 (.ofNat (q+1)) 0)=some (.int .i64 (s.parts-(q+1)) 0):=by
    show some (V.int .i64 (Z7 .i64 (AHI s.parts (Int.neg (.ofNat (q+1))))) 0)=_
    rw[UM,jv]
    have e:s.parts+Int.neg (Int.ofNat (q+1))=s.parts-(q+1):=by show s.parts+ -((q+1:Nat):Int)=_;omega
    rw[e,YF (by omega) (by omega)]
   rw[BG,AP,Ah,AP,Ah,AP,Y,AP,DI (by omega),AP,D,AP,AP,Ah,AP,Ah,AP]
   refine h.ATn (o:=0+1+1) (s':={s.top r f with parts:=s.parts-(q+1)}) ⟨rfl,rfl,rfl⟩ rfl rfl (by omega) rfl ⟨by show 0<=s.parts-(q+1)/\s.parts-(q+1)<=2000;omega,⟨A.2.1.1,Int.le_refl _⟩,rfl⟩ λB C p=>?_
   refine AaG (by omega) λH2 f2 ⟨tt,g2,L⟩=>?_
   rw[show BH [.str 0 0,.Ad] [(0,1,.c cls.v),(1,1,.c (.sl n 0 q q 2))]=some (.agg [cls.v,.sl n 0 q q 2])from rfl,AP]
   refine FT λN f3 g3=>?_
   have e3:∀x,x<n->T.get N x=T.get B x:=λx O=>(f3.same x (by omega)).trans (f2.same x O)
   have E:(th (List.replicate q PD)).vals=List.replicate q PD:=(y _).2
   have P:Gd {s.top r f with parts:=s.parts-(q+1)}:=⟨X.fr,X.hp⟩
   have d:(th (List.replicate q PD)).vals.length=q:=by rw[E,List.length_replicate]
   obtain⟨I,h4,Q,w4,b4⟩:=C.newObj P (th:=th (List.replicate q PD)) (t:=tt) (H':=N) (λv hv=>by rw[E]at hv;exact List.eq_of_mem_replicate hv) (by rw[d];omega) e3
    (by rw[d];exact(f3.same n (by omega)).trans g2) (λi hi=>L i (by rw[d]at hi;exact hi)) (by rw[d,(y _).1];exact g3)
   have R:V.agg [.int .i64 (.ofNat 0) 0,.ptr (n+1) 0]=wv I.ob ⟨0,s.hp.length+1⟩:=by
    show _=V.agg [.int .i64 (.ofNat 0) 0,.ptr (I.ob s.hp.length) 0]
    rw[show I.ob s.hp.length=n+1 from b4]
   rw[show BH [.int .i64 (.ofNat 0) 0,.Bo] [(1,1,.c (.ptr (n+1) 0))]=some (.agg [.int .i64 (.ofNat 0) 0,.ptr (n+1) 0])from rfl,AP,R]
   have S:Vm M I G N (n+2) (Vs.top {s with parts:=s.parts-(q+1),hp:=s.hp++[th (List.replicate q PD)]} r f):=h4
   exact AW6 S (w4.trans hp) hg λW5 H5 n5 h5 U _=>K W5 H5 n5 h5 ((p.trans Q).trans U)
theorem Vm.obj{i:Nat}{th:Th}(h:Vm M W G H n s)(hi:s.hp[i]? =some th):AX (.ptr (W.ob i) (0+0)) G H=some th.cls.v/\AX (.ptr (W.ob i) (0+1)) G H=some (.sl (W.pb i) 0 th.vals.length th.vals.length 2):=by
 obtain⟨-,d⟩:=h.ob i th hi
 exact⟨AU (off:=0+0) d rfl,AU (off:=0+1) d rfl⟩
theorem Vm.part{i q:Nat}{th:Th}{v:Cv}{u:IntKind}(h:Vm M W G H n s)(hi:s.hp[i]? =some th)(f:th.vals[q]? =some v):∃p,Ai 2 (.sl (W.pb i) 0 th.vals.length th.vals.length 2) (.int u (.ofNat q) 0)=some p/\Aj 2 p G H=some (wv W.ob v):=by
 obtain⟨-,t,g,k⟩:=h.pt i th hi
 have d:=(List.getElem?_eq_some_iff.1 f).1
 refine⟨_,AMV d,Bj (c:=wcs W.ob v) ?_⟩
 show mY H _ _ 2=_
 rw[Nat.zero_add,bI g (by omega) d]
 exact k q v f
theorem Vm.put{i q:Nat}{th:Th}{v:Cv}{u:IntKind}{P:KV}(h:Vm M W G H n s)(hi:s.hp[i]? =some th)(y:q<th.vals.length)
 (E:∀H',Vm M W G H' n {s with hp:=s.hp.set i {th with vals:=th.vals.set q v}}->Kz M W H n W H' n->P .undef H' n):
 AL (Ai 2 (.sl (W.pb i) 0 th.vals.length th.vals.length 2) (.int u (.ofNat q) 0)) λp=>Bz 2 p (wv W.ob v) H n P:=by
 obtain⟨⟨F,C⟩,O,I,D⟩:=h.pt i th hi
 have A:=(List.getElem?_eq_some_iff.1 hi).1
 rw[AMV y,AP,Nat.zero_add]
 refine APq I (by omega) y (D q _ (List.getElem?_eq_getElem y)) rfl rfl λH' J s'=>?_
 have K:=h.bk
 have e:∀d,W.own d≠4*i+7->T.get H' d=T.get H d:=λd B=>s' d λw=>B (by rw[w];exact C)
 have g:Kb M.b H M.kb H' M.kb:=⟨Nat.le_refl _,λd w _=>e d (by rw[h.lo d w];omega),λw=>w.same (e _ (by rw[h.lo _ K];omega))⟩
 have ke:=g.ke (G:=G) h.seen
 have look:∀(j:Nat) (x:Th),(s.hp.set i {th with vals:=th.vals.set q v})[j]? =some x->(j=i/\x={th with vals:=th.vals.set q v})∨(j≠i/\s.hp[j]? =some x):=λj x f=>by
  by_cases e:i=j
  ·subst e
   rw[List.getElem?_set_self A]at f
   exact .inl ⟨rfl,(Option.some.inj f).symm⟩
  ·rw[List.getElem?_set_ne e]at f
   exact .inr ⟨Ne.symm e,f⟩
 refine E H' ⟨h.kn,h.ko,h.lo,h.hi,h.img.kb g,h.ff.ke ke (g.same _ h.fmn.1 h.fmn.2),h.fmn,(e _ (by rw[h.ko];omega)).trans h.box,h.out.mono (λd h=>h) (λd h=>e d (by omega)),h.fv.mono (λd h=>h) (λd h=>e d (by omega)),
  h.Ur.mono (Nat.le_refl _) ke (λ_ _ _=>rfl) (λ_ _ _ _=>rfl) λd Q _ _ R=>e d (by omega),λj x f=>?_,λj x f=>?_,h.sz,λx f=>?_⟩ ⟨Nat.le_refl _,λ_ _=>rfl,λd _ w _=>e d (by omega),g.seen⟩
 ·rcases look j x f with⟨rfl,rfl⟩|⟨_,f⟩
  ·obtain⟨q1,q2⟩:=h.ob j th hi
   refine⟨q1,(e _ (by omega)).trans ?_⟩
   show _=some (one [th.cls.v,V.sl _ 0 (th.vals.set q v).length (th.vals.set q v).length 2])
   rw[List.length_set];exact q2
  ·obtain⟨q1,q2⟩:=h.ob j x f
   exact⟨q1,(e _ (by omega)).trans q2⟩
 ·rcases look j x f with⟨rfl,rfl⟩|⟨L,f⟩
  ·refine⟨⟨F,C⟩,_,by show _=some (Nu.arr 2 (th.vals.set q v).length _);rw[List.length_set];exact J,λm w k=>?_⟩
   have k:(th.vals.set q v)[m]? =some w:=k
   by_cases e:q=m
   ·subst e
    rw[List.getElem?_set_self y]at k
    cases k
    rw[T.Ag];rfl
   ·rw[List.getElem?_set_ne e]at k
    rw[T.Ac _ _ e];exact D m w k
  ·obtain⟨⟨q1,q2⟩,N,q3,q4⟩:=h.pt j x f
   exact⟨⟨q1,q2⟩,N,(e _ (by omega)).trans q3,q4⟩
 ·rcases List.mem_or_eq_of_mem_set f with f|rfl
  ·exact h.big x f
  ·show(th.vals.set q v).length<=2000
   rw[List.length_set];exact h.big th (List.mem_of_getElem? hi)
end
structure Wd(M:Mv)(G:AY)(E:Ev):Prop where
 g:Vz G
 len:M.fs.length<=1000
 sm:small M.fs
 fs:E.fs=M.fs
 fl:∀s,E.fl s=CY M.ff s
 bd:∀s f,CY M.ff s=some f->f.bodies.length=f.face.ms.length/\∀b∈f.bodies,b.locals<=401/\b.stack<=1000
section
variable{M:Mv}{W W' W'':Vw}{G:AY}{H H' H'':Heap}{n n' n'':Nat}{s s':Vs}{f f':Fr}{r:List Fr}{c c':Cf}{cr:List Cf}{fb:Nat}{k:KV}{E:Ev}
theorem Vm.AfF(h:Vm M W G H n s)(E:n<=n'){fr:Fr}{c:Cf}{v':V}{vid:Nat}{t:T LV}(w:c.L.length=10/\X7 G H M.kb (.agg c.L) fr.fl/\O1 G H M.kb c.wc fr.bd.code)(y:(fr.loc.length:Int)=fr.bd.locals)(p:fr.stk=[])(A:c.sv=.Ad)(B:fr.bd.stack<=1000/\fr.pc<=100000)
 (hl:s.Ur.length<100) (e:∀id,id<n->W.own id≠3->W.own id≠1->T.get H' id=T.get H id) (Q:T.get H' M.kb=some (one (M.cells {W with fv:=v'} s))) (F:Sk H' 16 (λid=>id=vid) v' ((List.zipWith Fr.cells s.Ur W.cf).reverse++[fr.cells c]))
 (R:n<=vid/\vid<n') (S:n<=c.lb/\c.lb<n') (U:c.lb≠vid) (X:T.get H' c.lb=some (.arr 2 fr.loc.length t)) (Y:∀(q:Nat) (v:Cv),fr.loc[q]? =some v->T.get t q=some (wcs W.ob v)):
 ∃W':Vw,Vm M W' G H' n' {s with Ur:=fr::s.Ur}/\Kz M W H n W' H' n':=by
 have Z:=h.kn
 have I:=h.bk
 obtain⟨f,d⟩:∃f:Vw,f={W with own:=λid=>if id=vid then 3 else if id=c.lb then 4*s.Ur.length+4 else W.own id,fv:=v',cf:=c::W.cf}:=⟨_,rfl⟩
 have o1:f.own vid=3:=by rw[d];exact if_pos rfl
 have o2:f.own c.lb=4*s.Ur.length+4:=by
  rw[d]
  show(if _ then _ else _)=_
  rw[if_neg U,if_pos rfl]
 have J:∀id,id≠vid->id≠c.lb->f.own id=W.own id:=λid q1 q2=>by
  rw[d]
  show(if _ then _ else _)=_
  rw[if_neg q1,if_neg q2]
 have m:∀id,id<n->f.own id=W.own id:=λid q=>J id (by omega) (by omega)
 have K:f.fv=v':=by rw[d]
 have N:f.cf=c::W.cf:=by rw[d]
 have O:f.ov=W.ov:=by rw[d]
 have u:f.ob=W.ob:=by rw[d]
 have P:f.pb=W.pb:=by rw[d]
 have g:Kb M.b H M.kb H' M.kb:=⟨Nat.le_refl _,λid q _=>e id (by omega) (by rw[h.lo id q];omega) (by rw[h.lo id q];omega),λq=>q.same (e _ (by omega) (by rw[h.lo _ I];omega) (by rw[h.lo _ I];omega))⟩
 have ke:=g.ke (G:=G) h.seen
 have k:=h.sz
 refine⟨f,⟨by omega,(m _ Z).trans h.ko,λid q=>(m id (by omega)).trans (h.lo id q),λid q=>(J id (by omega) (by omega)).trans (h.hi id (by omega)),h.img.kb g,h.ff.ke ke (g.same _ h.fmn.1 h.fmn.2),h.fmn,?_,?_,?_,?_,λi x C=>?_,λi x C=>?_,⟨k.1,k.2.1,k.2.2.1,k.2.2.2.1,by show(fr::s.Ur).length<=100;rw[List.length_cons];omega⟩,h.big⟩,
  ⟨E,m,λid q1 q2 _=>e id q1 (by omega) (by omega),g.seen⟩⟩
 ·rw[Q]
  unfold Mv.cells
  rw[K,O]
 ·rw[O]
  exact h.out.mono (λid h=>⟨by omega,(m _ h.1).trans h.2⟩) λid h=>e id h.1 (by omega) (by omega)
 ·rw[K,N]
  show Sk H' 16 _ v' (List.zipWith Fr.cells (fr::s.Ur) (c::W.cf)).reverse
  rw[List.zipWith_cons_cons,List.reverse_cons]
  exact F.AHu (λid D=>by have:=F.own D;subst this;exact⟨R.2,o1⟩) λ_ _=>rfl
 ·rw[N]
  refine⟨⟨w.1,w.2.1.ke ke,w.2.2.ke ke,y,⟨⟨S.2,o2⟩,t,X,by rw[u];exact Y⟩,?_,by rw[p];exact⟨Nat.zero_le _,B⟩⟩,h.Ur.mono E ke (λid q _=>m id q) (λ_ _ _ _=>by rw[u]) λid q1 q2 _ q4=>e id q1 (by omega) (by omega)⟩
  rw[A,p];exact .nil
 ·obtain⟨⟨q1,q2⟩,q3⟩:=h.ob i x C
  rw[u,P]
  exact⟨⟨by omega,(m _ q1).trans q2⟩,(e _ q1 (by omega) (by omega)).trans q3⟩
 ·obtain⟨⟨q1,q2⟩,t2,q3,q4⟩:=h.pt i x C
  rw[u,P]
  exact⟨⟨by omega,(m _ q1).trans q2⟩,t2,(e _ q1 (by omega) (by omega)).trans q3,q4⟩
theorem Vm.ASf(h:Vm M W G H n s):NQ G H n M.i M.t M.a M.b M.fm M.vn M.fs:=h.img.kb ⟨Nat.le_of_lt h.kn,λ_ _ _=>rfl,λq=>q⟩
theorem AQ4(D:Wd M G E){p:PM}{w va:V}{args:List Cv}(h:Vm M W G H n s)(hw:GY G H n w p.m.ps)(i6:El G H va 2 (wls W.ob args))(I:∀d,va.XZ=some d->d<n/\W.own d=0/\d≠M.b)(x:JZ E p args s=some s')
 (hk:∀W' H' n',Vm M W' G H' n' s'->Kz M W H n W' H' n'->k (.Dl []) H' n'):Runs F G Uo [.ptr M.kb 0,.agg (p.cells w),va] H n k:=by
 refine go3 (ACC BF G) ?_
 delta dB
 unfold JZ at x
 rw[D.fs]at x
 obtain⟨own,e1,x⟩:=Option.bind_eq_some_iff.1 x
 obtain⟨fl,U,x⟩:=Option.bind_eq_some_iff.1 x
 obtain⟨u,e3,x⟩:=Option.bind_eq_some_iff.1 x
 rw[D.fl]at U
 unfold AGp at e3
 obtain⟨j,e4,e5⟩:=Option.bind_eq_some_iff.1 e3
 obtain⟨m9,i7⟩:=D.bd own fl U
 have i8:=i7 u (List.mem_of_getElem? e5)
 cases J:decide (u.locals<(args.length:Int))with
 |true=>rw[J]at x;cases x
 |false=>
 rw[J]at x
 have m8:=of_decide_eq_false J
 have x:(bif decide (s.deep<=(s.Ur.length:Int))then some (s.stop 7)else some {s with Ur:=⟨fl,u,0,args++List.replicate (u.locals.toNat-args.length) PD,[]⟩::s.Ur})=some s':=x
 have hb:=h.bk
 have kn:=h.kn
 refine FT λH1 f1 g1=>?_
 obtain⟨h1,i9⟩:=h.kp f1
 have li:∀{H' n'},Vm M W G H' n' s->AX (.ptr M.kb (0+0)) G H'=some (.ptr M.i 0):=λh=>AU (off:=0+0) h.box rfl
 rw[DV,AP,Ah,AP,li h1,AP,CG (m:=6) g1 (by omega) rfl,AP]
 refine AXt h1.ASf D.len (p:=p) ⟨w,rfl,hw.ke ((f1.ke))⟩ λH2 n2 f2=>?_
 obtain⟨h2,k0⟩:=h1.kb f2
 have p0:=f2.le
 have g2:=f2.get g1 (by omega) (by omega)
 rw[e1]
 rw[show CS (.Dl [((some own).getD (0,0)).v,.bool (some own).isSome]) 0=some own.v from rfl,AP,show CS (.Dl [((some own).getD (0,0)).v,.bool (some own).isSome]) 1=some (.bool true)from rfl,AP,AP,Ah,AP,li h2,AP]
 have p1:=h.fmn
 refine ASO h2.ASf h2.ff (by have:=h2.kn;omega) (by have:=h2.kn;omega) (s:=own) λH3 X L f3 hL B _=>?_
 obtain⟨h3,k1⟩:=h2.kp f3
 have p2:=f3.le
 have g3:=f3.get g2 (by omega)
 rw[U]
 rw[show CS (.Dl [.agg L,.bool (some fl).isSome]) 0=some (.agg L)from rfl,AP,show CS (.Dl [.agg L,.bool (some fl).isSome]) 1=some (.bool true)from rfl,AP]
 have Y:=B fl U
 obtain⟨L',vf,vm,v0,v1,v2,v3,v4,vb,p3,ws,p4,d6,eL⟩:=Y
 have eL:=(V.agg.inj eL).trans d6.is
 clear d6
 refine Di rfl λH4 f4 g4=>?_
 refine Rn g4 rfl hL (by omega) λH5 g5 s5=>?_
 have f5:Kp H3 X H5 (X+1):=⟨by omega,λd g=>by rw[s5 _ (by omega),f4.same _ g]⟩
 obtain⟨h5,d7⟩:=h3.kp f5
 have k2:=f5.get g3 (by omega)
 rw[AP,Ah,AP,li h5,AP,Ah,AP,Ah,AP,AU (off:=0+0+0) k2 (v:=p.m.nm.v) rfl,AP]
 refine Di rfl λH6 f6 g6=>?_
 obtain⟨h6,p5⟩:=h5.kp f6
 refine Abw h6.ASf h6.ff (by have:=h6.kn;omega) (by have:=h6.kn;omega) (s:=own) (nm:=p.m.nm) (λf x=>(D.bd own f x).1) (λk3=>by have:=k3 fl U;rw[e4]at this;cases this) λf' j' p6 K q1 q2 q3 H7 y f7 Z=>?_
 rw[U]at q1
 cases q1
 rw[e4]at q2
 cases q2
 rw[e5]at q3
 cases q3
 obtain⟨h7,p7⟩:=h6.kp f7
 have p8:=f7.le
 rw[show CS (.Dl [.agg (u.cells K),.bool true]) 0=some (.agg (u.cells K))from rfl,AP,show CS (.Dl [.agg (u.cells K),.bool true]) 1=some (.bool true)from rfl,AP]
 refine Rn (f7.get g6 (by omega)) rfl rfl (by omega) λO g8 s8=>?_
 have k4:W.own (X+1)=0:=h.hi _ (by omega)
 have h8:=h7.ASe k4 (by omega) s8
 have d8:Kp H5 (X+1) O y:=⟨by omega,λd g=>by rw[s8 _ (by omega),f7.same _ (by omega),f6.same _ g]⟩
 have d0:Kz M W H n W O y:=(((i9.trans k0).trans k1).trans d7).trans (h5.kp d8).2
 have d9:El G O va 2 (wls W.ob args):=i6.same λd g=>d0.zero d (I d g).1 (I d g).2.1 (I d g).2.2
 have f0:lenV va=some (.int .i64 (.ofNat args.length) 0):=by rw[d9.len,au]
 have k5:O1 G O M.kb K u.code:=Z.ke ((⟨Nat.le_refl _,λd q _=>s8 d (by omega),λq=>q.same (s8 _ (by omega))⟩:Kb M.b H7 M.kb O M.kb).ke h7.seen)
 have k6:AX (.ptr M.kb (0+7)) G O=some W.fv:=AU (off:=0+7) h8.box rfl
 have k7:lenV W.fv=some (.int .i64 (.ofNat s.Ur.length) 0):=by
  rw[(h8.fv.el (G:=G) (by omega)).len,List.length_reverse,List.length_zipWith,h8.Ur.len,Nat.min_self]
 have k8:AX (.ptr M.kb (0+1+2)) G O=some (.int .i64 s.deep 0):=AU (off:=0+1+2) h8.box rfl
 have f8:AX (.ptr (X+1) (0+0)) G O=some (.int .i64 u.locals 0):=AU (off:=0+0) g8 rfl
 rw[show FK (.bool true)=some (.bool false)from rfl,AP]
 refine Ya (Ah ..) (Ya f8 (Ya rfl (Ya f0 (Ya (APy ..) (pz ?_)))))
 have g0:decide (u.locals<Int.ofNat args.length)=false:=J
 rw[g0,BG,AP,Ah,AP,k6,AP,k7,AP,AP,Ah,AP,Ah,AP,k8,AP,AQO,AP]
 have k9:decide (s.deep<=Int.ofNat s.Ur.length)=decide (s.deep<=(s.Ur.length:Int)):=rfl
 rw[k9]
 cases hd:decide (s.deep<=(s.Ur.length:Int))with
 |true=>
  rw[hd]at x
  cases x
  rw[BP]
  exact ZV h8 λH9 h9 g7=>hk W H9 y h9 (d0.trans g7)
 |false=>
  rw[hd]at x
  cases x
  obtain⟨N,hN⟩:∃N:Nat,u.locals=.ofNat N:=⟨u.locals.toNat,by show u.locals=(u.locals.toNat:Int);omega⟩
  have m0:u.locals=(N:Int):=hN
  have p9:=h.sz
  have q0:=of_decide_eq_false hd
  rw[BG,Ah,AP,f8,AP,hN]
  refine AaG (by omega) λH9 f9 ⟨tt,g9,m1⟩=>?_
  obtain⟨h9,g7⟩:=h8.kp f9
  have i0:El G H9 va 2 (wls W.ob args):=d9.same λd g=>f9.same d (by have:=(I d g).1;omega)
  refine AWq i0.2 g9 (by rw[au];omega) (by rw[au];omega) λP m2 Q=>?_
  have i1:W.own y=0:=h.hi _ (by omega)
  have A:=h9.ASe i1 (by omega) Q
  have gF:T.get P X=some (one [fl.face.nm.v,fl.face.sup.v,vf,vm,v0,v1,v2,v3,v4,vb]):=by
   rw[Q _ (by omega),f9.same _ (by omega),s8 _ (by omega),f7.same _ (by omega),f6.same _ (by omega),g5,eL]
  have gB:T.get P (X+1)=some (one (u.cells K)):=by rw[Q _ (by omega),f9.same _ (by omega),g8]
  have d1:AX (.ptr M.kb (0+7)) G P=some W.fv:=AU (off:=0+7) A.box rfl
  rw[AP,Ah,AP,d1,AP,CG (m:=10) gF (by omega) rfl,AP,CG (m:=3) gB (by omega) rfl,AP]
  rw[show BH [(.str 0 0),(.str 0 0),.Ad,.Ad,.Ad,.Ad,.Ad,.Ad,.Ad,.Ad,(.int .i64 (.ofNat 0) 0),(.int .i64 (.ofNat 0) 0),.Ad,(.int .i64 (.ofNat 0) 0),.Ad,.Ad] [(0,10,.c (.agg [fl.face.nm.v,fl.face.sup.v,vf,vm,v0,v1,v2,v3,v4,vb])),(10,3,.c (.agg (u.cells K))),(14,1,.c (.sl y 0 N N 2))]=
   some (.agg ([fl.face.nm.v,fl.face.sup.v,vf,vm,v0,v1,v2,v3,v4,vb]++[.int .i64 u.locals 0,.int .i64 u.stack 0,K,.int .i64 (.ofNat 0) 0,.sl y 0 N N 2,.Ad]))from rfl,AP]
  refine A.fv.app (G:=G) (m:=0) (c:=.agg ([fl.face.nm.v,fl.face.sup.v,vf,vm,v0,v1,v2,v3,v4,vb]++[.int .i64 u.locals 0,.int .i64 u.stack 0,K,.int .i64 (.ofNat 0) 0,.sl y 0 N N 2,.Ad])) (λd g=>(A.fv.own g).1) (by omega) rfl rfl (by
   rw[List.length_reverse,List.length_zipWith,A.Ur.len,Nat.min_self];omega) λv' m3 i2 m4 m5=>?_
  have d2:∀d,d<y+1->W.own d≠3->T.get m3 d=T.get P d:=λd q1 q2=>m4 d q1 λe=>q2 (A.fv.own e).2
  have d3:=(i2 (λ_=>True) trivial).ok
  rw[AP,Ah,AP]
  refine vC ((d2 _ (by omega) (by rw[h.ko];omega)).trans A.box) d3.1 (by rw[d3.2.1];rfl) (by omega) (by show 0+7+1<=8;omega) λd4 i3 d5=>?_
  rw[d3.2.1]at i3
  have R:(args++List.replicate (u.locals.toNat-args.length) PD).length=N:=by rw[List.length_append,List.length_replicate];omega
  have S:X7 G O M.kb (.agg [fl.face.nm.v,fl.face.sup.v,vf,vm,v0,v1,v2,v3,v4,vb]) fl:=by
   rw[<-eL]
   exact(B fl U).ke (((d7.trans (h5.kp d8).2).kb h3).ke h3.seen)
  have C:=i2 (λd=>d=y+1+1) rfl
  obtain⟨W2,m6,i4⟩:=h8.AfF (n':=y+1+2) (by omega) (fr:=⟨fl,u,0,args++List.replicate (u.locals.toNat-args.length) PD,[]⟩) (c:=⟨[fl.face.nm.v,fl.face.sup.v,vf,vm,v0,v1,v2,v3,v4,vb],K,y,.Ad⟩) (v':=v') (vid:=y+1+1) (t:=Et (wls W.ob args) 0 tt) (H':=d4)
   ⟨rfl,S,k5⟩ (by show((args++List.replicate (u.locals.toNat-args.length) PD).length:Int)=u.locals;rw[R];exact m0.symm) rfl rfl ⟨i8.2,Nat.zero_le _⟩ (by omega) (λd q1 q2 q3=>by rw[d5 d λe=>q3 (by rw[e];exact h.ko),d2 d (by omega) q2,Q d (by omega),f9.same d q1]) i3
   (by
    unfold Fr.cells
    rw[R]
    exact C.AHu (λd g=>C.own g) λd g=>d5 d (by have:=C.own g;omega)) ⟨by omega,by omega⟩ ⟨Nat.le_refl _,by show y<_;omega⟩ (by show y≠_;omega) (by show T.get d4 y=some (.arr 2 (args++List.replicate (u.locals.toNat-args.length) PD).length _);rw[R,d5 _ (by omega),d2 _ (by omega) (by omega)];exact m2) (λq v hq=>by
    rw[Ef,au]
    have hq:(args++List.replicate (u.locals.toNat-args.length) PD)[q]? =some v:=hq
    by_cases m7:q<args.length
    ·rw[if_pos ⟨Nat.zero_le _,by omega⟩,Nat.sub_zero]
     rw[List.getElem?_append_left m7]at hq
     unfold wls
     rw[List.getElem?_map,hq];rfl
    ·rw[if_neg (by omega)]
     have i5:=(List.getElem?_eq_some_iff.1 hq).1
     rw[R]at i5
     rw[List.getElem?_append_right (by omega)]at hq
     rw[m1 q i5,List.eq_of_mem_replicate (List.mem_of_getElem? hq)];rfl)
  exact hk W2 d4 _ m6 (d0.trans i4)
end
section
variable{G:AY}{H:Heap}
theorem AfP{p:Pool}{f g k d u:V}{ws:List V}{m i:Nat}(h:Fh G H m p f g k d u ws)(hi:i<p.fields.length):∃q,Ai 4 d (.int .i64 (.ofNat i) 0)=some q/\ldP q G H 4=some (p.fields.getD i fZ).cells:=by
 have e:p.fields.getD i fZ=p.fields[i]:=by rw[List.getD_eq_getElem?_getD,List.getElem?_eq_getElem hi];rfl
 rw[e]
 exact h.e3.at (i:=i) (c:=p.fields[i].cells) (by simp[hi])
theorem AfC{p:Pool}{f d g k u:V}{ws:List V}{m i:Nat}(h:Fh G H m p f d g k u ws)(hi:i<p.names.length):∃q,Ai 1 d (.int .i64 (.ofNat i) 0)=some q/\AX q G H=some (p.names.getD i (0,0)).v:=by
 have e:p.names.getD i (0,0)=p.names[i]:=by rw[List.getD_eq_getElem?_getD,List.getElem?_eq_getElem hi];rfl
 rw[e]
 obtain⟨q,w,x⟩:=h.e1.at (Sz hi)
 exact⟨q,w,Jv x⟩
theorem AfS{p:Pool}{k u v x f:V}{ws:List V}{m i:Nat}(h:Fh G H m p k u v x f ws)(hi:i<p.Bg.length):∃q w,Ai 6 f (.int .i64 (.ofNat i) 0)=some q/\Aj 6 q G H=some (.agg ((p.Bg.getD i mZ).cells w))/\ws[i]? =some w/\p.Bg[i]? =some (p.Bg.getD i mZ):=by
 have g:i<ws.length:=by rw[h.AHO];exact hi
 obtain⟨q,y,d⟩:=h.e4.at (i:=i) (c:=p.Bg[i].cells ws[i]) (by simp[List.getElem?_zipWith,hi,g])
 have e:p.Bg.getD i mZ=p.Bg[i]:=by rw[List.getD_eq_getElem?_getD,List.getElem?_eq_getElem hi];rfl
 rw[e]
 exact⟨q,ws[i],y,Bj d,List.getElem?_eq_getElem g,List.getElem?_eq_getElem hi⟩
end
def Oc(M:Mv)(W:Vw)(G:AY)(H:Heap)(n:Nat)(k:KV)(s':Vs):Prop:=∀W' H' n',Vm M W' G H' n' s'->Kz M W H n W' H' n'->k (.Dl []) H' n'
section
variable{M:Mv}{W W' W'':Vw}{G:AY}{H H' H'':Heap}{n n' n'':Nat}{s s':Vs}{f f':Fr}{r:List Fr}{c c':Cf}{cr:List Cf}{fb:Nat}{k:KV}{E:Ev}
theorem Oc.kz(o:Oc M W G H n k s')(x:Kz M W H n W' H' n'):Oc M W' G H' n' k s':=λd f g h kz=>o d f g h (x.trans kz)
theorem oz.pool{j:Nat}(h:oz M W G H n j f c):∃g i k m p ws,Fh G H M.kb f.fl.pool g i k m p ws/\c.L[4]? =some g/\c.L[5]? =some i/\c.L[6]? =some k/\c.L[7]? =some m/\c.L[8]? =some p:=by
 obtain⟨w,x,y,g,i,k,m,p,A,u,ws,v,d,q⟩:=h.file
 have q:=(V.agg.inj q).trans d.is
 rw[q]
 exact⟨g,i,k,m,p,ws,d.pool,rfl,rfl,rfl,rfl,rfl⟩
theorem iF(f:Vz G){ob:Nat->Nat}{v:V}{ws:List Cv}{i:Nat}{x:Cv}{u:IntKind}(h:El G H v 2 (wls ob ws))(hi:ws[i]? =some x):∃p,Ai 2 v (.int .i64 (.ofNat i) 0)=some p/\Aj 2 p G H=some (wv ob x)/\(∃q,AQ 0 p=some q/\AX q G H=some (.int .i64 x.n 0))/\∃q,AQ 1 p=some q/\AX q G H=some (adr ob x.o):=by
 obtain⟨p,g,d⟩:=h.at (i:=i) (c:=wcs ob x) (by unfold wls;rw[List.getElem?_map,hi];rfl)
 exact⟨p,g,Bj d,dD f (o:=0) (x:=.int .i64 x.n 0) d rfl rfl,dD f (o:=1) (x:=adr ob x.o) d rfl rfl⟩
theorem ATE(ob:Nat->Nat)(o:Nat):CU (.one .ptr) false (adr ob o) .Bo=some (.bool (decide (o=0))):=by cases o<;>rfl
theorem ASS(ob:Nat->Nat)(o:Nat):CU (.one .ptr) true (adr ob o) .Bo=some (.bool (!decide (o=0))):=by cases o<;>rfl
theorem AQS{a b:V}{id:Nat}(h:T.get H id=some (one [a,b])):TD H id=true:=by unfold TD;rw[h];rfl
theorem AXH(h:Vm M W G H n s){x y:Nat}(m:x<=s.hp.length)(p:y<=s.hp.length):AFl (TD H) (adr W.ob x) (adr W.ob y)=some (decide (x=y)):=by
 cases x with
 |zero=>cases y<;>rfl
 |succ x=>
  cases y with
  |zero=>rfl
  |succ y=>
   obtain⟨⟨-,f⟩,g⟩:=h.ob x s.hp[x] (List.getElem?_eq_getElem (by omega))
   obtain⟨⟨-,i⟩,k⟩:=h.ob y s.hp[y] (List.getElem?_eq_getElem (by omega))
   show Option.rec (motive:=λ_=>Option Bool) (ARx (TD H) (.ptr (W.ob x) 0) (.ptr (W.ob y) 0)) (λb=>some b) (Bool.rec none (some (Nat.beq 0 0)) (Nat.beq (W.ob x) (W.ob y)):Option Bool)=_
   by_cases e:x=y
   ·subst e
    rw[show Nat.beq (W.ob x) (W.ob x)=true by rw[beq_iff],decide_eq_true rfl];rfl
   ·have d:W.ob x≠W.ob y:=λq=>by rw[q,i]at f;omega
    rw[show Nat.beq (W.ob x) (W.ob y)=false by rw[Bool.eq_false_iff];intro q;rw[beq_iff]at q;exact d q]
    show Bool.rec (motive:=λ_=>Option Bool) none (some false) (band (Qq (Nat.beq (W.ob x) (W.ob y))) (band (TD H (W.ob x)) (TD H (W.ob y))))=_
    rw[AQS g,AQS k,show Nat.beq (W.ob x) (W.ob y)=false by rw[Bool.eq_false_iff];intro q;rw[beq_iff]at q;exact d q,decide_eq_false (by omega)];rfl
theorem AfH(h:Vm M W G H n s){a b:Cv}(f:a.o<=s.hp.length)(g:b.o<=s.hp.length):AXm [.int,.ptr] false (wv W.ob a) (wv W.ob b) H=some (.bool (decide (a.n=b.n)&&decide (a.o=b.o))):=by
 show ofB (Ld (Ld (some (ieq a.n b.n)) λr=>Ld (Ld (AFl (TD H) (adr W.ob a.o) (adr W.ob b.o)) λr=>Ld (some true) λd=>some (band r d)) λd=>some (band r d)) λb=>some b)=_
 rw[AXH h f g,U4,show(a.n==b.n)=decide (a.n=b.n)by rw[Bool.eq_iff_iff];simp]
 cases decide (a.n=b.n)<;>cases decide (a.o=b.o)<;>rfl
theorem AcY{a b:Int}(h:b≠0):∃x,B2.ev .quo (.int .i64 a 0) (.int .i64 b 0)=some (.int .i64 x 0):=by
 refine⟨IntKind.wrap .i64 (Int.tdiv a b),?_⟩
 show BI (band true (band true (Qq (ieq b 0)))) (mkI .i64 (Int.tdiv a b) 0)=_
 have:ieq b 0=false:=by rw[U4];exact beq_false_of_ne h
 rw[this]
 show mkI .i64 (Int.tdiv a b) 0=_
 rw[AQR]
theorem Adv{a b:Int}(h:b≠0):∃x,B2.ev .rem (.int .i64 a 0) (.int .i64 b 0)=some (.int .i64 x 0):=by
 have:ieq b 0=false:=by rw[U4];exact beq_false_of_ne h
 show ∃x,BI (band true (band true (Qq (ieq b 0)))) (mkN .i64 (Int.tmod a b) 0)=some (.int .i64 x 0)
 rw[this]
 exact⟨Int.tmod a b,rfl⟩
theorem AY1{o:B2}{a b x:Int}(h:B2.ev o (.int .i64 a 0) (.int .i64 b 0)=some (.int .i64 x 0)):i64 o a b=x:=by unfold i64;rw[h]
theorem ABB(x:Int):BH [.int .i64 (.ofNat 0) 0,.Bo] [(0,1,.c (.int .i64 x 0))]=some (.agg [.int .i64 x 0,.Bo]):=rfl
theorem AcI(ob:Nat->Nat)(x:Int):V.agg [.int .i64 x 0,.Bo]=wv ob ⟨x,0⟩:=rfl
theorem AG4{x:Int}{Z:LV}(h:Vm M W G H n (s.top r f))(hp:W.fv=.F9 fb 0 (r.length+1) 16)(hs:(f.push ⟨x,0⟩).map (s.top r)=some s')(i:Oc M W G H n k s'):
 Bc (Ar 2 1 Z [(0,.c (.agg [.int .i64 x 0,.Bo]))] E0) H n λw H n=>Runs F G Aq [.ptr M.kb 0,.ptr fb (r.length*16),w] H n λ_ H n=>k (.Dl []) H n:=by
 obtain⟨g,m,rfl⟩:=Option.map_eq_some_iff.1 hs
 rw[AcI W.ob]
 exact AW6 h hp m λp q u v d _=>i p q u v d
theorem ALX{v:Cv}{Z:LV}(h:Vm M W G H n (s.top r f))(hp:W.fv=.F9 fb 0 (r.length+1) 16)(hs:(f.push v).map (s.top r)=some s')(i:Oc M W G H n k s'):
 Bc (Ar 2 1 Z [(0,.c (wv W.ob v))] E0) H n λw H n=>Runs F G Aq [.ptr M.kb 0,.ptr fb (r.length*16),w] H n λ_ H n=>k (.Dl []) H n:=by
 obtain⟨g,m,rfl⟩:=Option.map_eq_some_iff.1 hs
 exact AW6 h hp m λp q u x d _=>i p q u x d
theorem AJj{b:Bool}{Z:LV}(h:Vm M W G H n (s.top r f))(hp:W.fv=.F9 fb 0 (r.length+1) 16)(hs:(f.push (XL b)).map (s.top r)=some s')(g:Oc M W G H n k s'):
 Runs F G VP [.bool b] H n λw H n=>Bc (Ar 2 1 Z [(0,.c w)] E0) H n λw H n=>Runs F G Aq [.ptr M.kb 0,.ptr fb (r.length*16),w] H n λ_ H n=>k (.Dl []) H n:=by
 refine AdN (ob:=W.ob) λp q i=>?_
 obtain⟨m,d⟩:=h.kp i
 exact ALX m hp hs (g.kz d)
theorem Adt(I:Vz G){q:Nat}{a b:Cv}{v:V}(h:Vm M W G H n (s.top r f))(hp:W.fv=.F9 fb 0 (r.length+1) 16)(hq:5<=q/\q<=13)(J:El G H v 2 (wls W.ob [a,b]))(T:a.o<=s.hp.length)(U:b.o<=s.hp.length)
 (hs:ADG (.ofNat q) [a,b] s r f=some s') (d:Oc M W G H n k s'):Runs F G oZ [.ptr M.kb 0,.ptr fb (r.length*16),.int .i64 (.ofNat q) 0,v] H n k:=by
 refine go4 (AF8 BF G) ?_
 delta oh
 obtain⟨p0,K,X,⟨q0,Y,Z⟩,-⟩:=iF (u:=.i64) I J (i:=0) (x:=a) rfl
 obtain⟨p1,L,l1,⟨q1,a1,b1⟩,-⟩:=iF (u:=.i64) I J (i:=1) (x:=b) rfl
 rw[K,AP,Y,AP,Z,AP,L,AP,a1,AP,b1,AP,ER,AP]
 have g:∀(o:B2) (x:Int),B2.ev o (.int .i64 a.n 0) (.int .i64 b.n 0)=some (.int .i64 x 0)->(f.push ⟨i64 o a.n b.n,0⟩).map (s.top r)=some s'->
  AL (B2.ev o (.int .i64 a.n 0) (.int .i64 b.n 0)) λv8=>AL (BH [(.int .i64 (.ofNat 0) 0),.Bo] [(0,1,.c v8)]) λv9=>Bc (Ar 2 1 [(.int .i64 (.ofNat 0) 0),.Bo] [(0,.c v9)] E0) H n λC H n=>
   Runs F G Aq [.ptr M.kb 0,.ptr fb (r.length*16),C] H n λd0 H n=>k (.Dl []) H n:=λo x N hs=>by
  rw[N,AP,ABB,AP]
  rw[AY1 N]at hs
  exact AG4 h hp hs d
 by_cases O:q=5
 ·subst O
  rw[decide_eq_true rfl,BP]
  exact g .add _ rfl hs
 rw[decide_eq_false O,BG,ER,AP]
 by_cases P:q=6
 ·subst P
  rw[decide_eq_true rfl,BP]
  exact g .sub _ rfl hs
 rw[decide_eq_false P,BG,ER,AP]
 by_cases Q:q=7
 ·subst Q
  rw[decide_eq_true rfl,BP]
  exact g .mul _ rfl hs
 rw[decide_eq_false Q,BG,ER,AP]
 by_cases m:q=10
 ·subst m
  rw[decide_eq_true rfl,BP,APy,AP]
  exact AJj h hp hs d
 rw[decide_eq_false m,BG,ER,AP]
 by_cases p:q=11
 ·subst p
  rw[decide_eq_true rfl,BP,AMq,AP]
  exact AJj h hp hs d
 rw[decide_eq_false p,BG,ER,AP]
 have same:(f.push (XL (decide (a.n=b.n)&&decide (a.o=b.o)))).map (s.top r)=some s'->Fz lfp G (Runs F G) k (.ptr M.kb 0) (.ptr fb (r.length*16)) (.int .i64 (.ofNat q) 0) v (.int .i64 a.n 0) (.int .i64 b.n 0) (.bool true) H n:=λhs=>by
  delta Fz
  rw[BP,K,AP,X,AP,L,AP,l1,AP,AfH h T U,AP]
  exact AJj h hp hs d
 by_cases w:q=12
 ·subst w
  rw[decide_eq_true rfl,BP]
  exact same hs
 rw[decide_eq_false w,BG,ER,AP]
 by_cases y:q=13
 ·subst y
  rw[decide_eq_true rfl]
  exact same hs
 rw[decide_eq_false y]
 delta Fz
 rw[BG,AHQ,AP]
 have stop:decide (b.n=0)=true->s'=(s.top r f).stop 3:=λe=>by
  rcases(by omega:q=8∨q=9)with rfl|rfl
  ·have hs:(bif decide (b.n=0)then some ((s.top r f).stop 3)else(f.push ⟨i64 .quo a.n b.n,0⟩).map (s.top r))=some s':=hs
   rw[e]at hs;exact(Option.some.inj hs).symm
  ·have hs:(bif decide (b.n=0)then some ((s.top r f).stop 3)else(f.push ⟨i64 .rem a.n b.n,0⟩).map (s.top r))=some s':=hs
   rw[e]at hs;exact(Option.some.inj hs).symm
 cases hd:decide (b.n=Int.ofNat 0)with
 |true=>
  rw[BP]
  refine ZV h λH1 R D=>?_
  rw[<-stop hd]at R
  exact d W H1 n R D
 |false=>
  have A:b.n≠0:=of_decide_eq_false hd
  have B:decide (b.n=0)=false:=hd
  rw[BG,ER,AP]
  by_cases S:q=8
  ·subst S
   have hs:(bif decide (b.n=0)then some ((s.top r f).stop 3)else(f.push ⟨i64 .quo a.n b.n,0⟩).map (s.top r))=some s':=hs
   rw[B]at hs
   obtain⟨x,E⟩:=AcY (a:=a.n) A
   rw[decide_eq_true rfl,BP]
   exact g .quo x E hs
  ·have h9:q=9:=by omega
   subst h9
   have hs:(bif decide (b.n=0)then some ((s.top r f).stop 3)else(f.push ⟨i64 .rem a.n b.n,0⟩).map (s.top r))=some s':=hs
   rw[B]at hs
   obtain⟨x,E⟩:=Adv (a:=a.n) A
   rw[decide_eq_false S,BG]
   exact g .rem x E hs
end
theorem AJc{d:CK}{H:Heap}{id:Nat}{f:ME}{q:Nat}{key v:V}{b:Nu}{n:Nat}{k:KV}(g:T.get H id=some (.map f q))(i:AL9 d key v f q=some b)(m:∀H',T.get H' id=some b->(∀j,j≠id->T.get H' j=T.get H j)->k .undef H' n):AOw d (.map id) key v H n k:=by
 show Gu (T.get H id) (λb=>Gu (AYH b (AL9 d key v)) λb=>k .undef (T.set H id b) n)
 rw[g,V8]
 show Gu (AL9 d key v f q) _
 rw[i,V8]
 exact m _ (T.Ag ..) λj p=>T.Ac _ _ (Ne.symm p)
section
variable{M:Mv}{W W' W'':Vw}{G:AY}{H H' H'':Heap}{n n' n'':Nat}{s s':Vs}{f f':Fr}{r:List Fr}{c c':Cf}{cr:List Cf}{fb:Nat}{k:KV}{E:Ev}
theorem Aff{q a b:Nat}{i:Option V}{p:V}{A B:Prop}(m:i=some p)(u:AX p G H=some (.int .i64 (.ofNat q) 0))(w:q=a∨q=b)(k:A):Ak (.bool (decide (q=a))) false i λv=>Ak (.bool (decide (q=a))) false (AX v G H) λd=>
 Ak (.bool (decide (q=a))) false (CU (.one .int) false d (.int .i64 (.ofNat b) 0)) λf=>AL (Aw (.bool (decide (q=a))) (.bool true) f) λg=>AZ g true A B:=by
 by_cases h:q=a
 ·rw[decide_eq_true h]
  repeat (first|with_reducible refine AEj ?_|with_reducible refine mQ ?_)
  rw[BP];exact k
 ·rw[decide_eq_false h]
  refine Ya m (Ya u (Ya (ER ..) (pz ?_)))
  rw[decide_eq_true (by omega),BP];exact k
theorem Ae2{q a b:Nat}{i:Option V}{p:V}{A B:Prop}(k:i=some p)(m:AX p G H=some (.int .i64 (.ofNat q) 0))(u:q≠a)(w:q≠b)(x:B):Ak (.bool (decide (q=a))) false i λv=>Ak (.bool (decide (q=a))) false (AX v G H) λd=>
 Ak (.bool (decide (q=a))) false (CU (.one .int) false d (.int .i64 (.ofNat b) 0)) λf=>AL (Aw (.bool (decide (q=a))) (.bool true) f) λg=>AZ g true A B:=by
 rw[decide_eq_false u]
 refine Ya k (Ya m (Ya (ER ..) (pz ?_)))
 rw[decide_eq_false w,BG];exact x
theorem AT5{o:Cv}(h:o.o≠0)(f:o.o<=s.hp.length):∃i th,o.o=i+1/\s.hp[i]? =some th/\o.th s=some th:=by
 have d:o.o-1<s.hp.length:=by omega
 refine⟨o.o-1,s.hp[o.o-1],by omega,List.getElem?_eq_getElem d,?_⟩
 unfold Cv.th
 rw[decide_eq_false h]
 exact List.getElem?_eq_getElem d
theorem AQe(Z:Vz G){q i:Nat}{g:Nat}{x:Int}{o:Cv}{ws:List Cv}{v:V}{b:Nat}{put:Option Cv}(h:Vm M W G H n (s.top r f))(hp:W.fv=.F9 fb 0 (r.length+1) 16)(gb:T.get H b=some (one (Ins.cells ⟨.ofNat q,.ofNat i⟩)))
 (hv:El G H v 2 (wls W.ob ws)) (h0:o.o≠0) (ho:o.o<=s.hp.length) (C:(q=17∨q=21)/\(∃y,put=some y/\ws[g-1]? =some y)/\1<=g/\g<=10∨(q≠17/\q≠21)/\put=none)
 (hs:LJ x put o s r f=some s') (D:Oc M W G H n k s'):
 IB lfp G (Runs F G) k (.ptr M.kb 0) (.ptr fb (r.length*16)) (.ptr b 0) (.int .i64 (.ofNat g) 0) v (adr W.ob o.o) (.int .i64 x 0) H n:=by
 delta IB
 obtain⟨j,th,Y,J,e3⟩:=AT5 h0 ho
 have K:adr W.ob o.o=.ptr (W.ob j) 0:=by rw[Y];rfl
 obtain⟨-,w⟩:=h.obj (i:=j) (th:=th) J
 have E:lenV (.sl (W.pb j) 0 th.vals.length th.vals.length 2)=some (.int .i64 (.ofNat th.vals.length) 0):=rfl
 unfold LJ at hs
 rw[e3]at hs
 simp only at hs
 rw[K,APE,AP]
 have d0:(decide (0<=x)&&decide (x<(th.vals.length:Int)))=false->AZ (.bool true) true (Runs F G DF [.ptr M.kb 0,.int .i64 (.ofNat 2) 0] H n λ_ H n=>k (.Dl []) H n) False:=λe=>by
  rw[e]at hs
  cases hs
  rw[BP]
  exact ZV h λA B d=>D W A n B d
 cases hd:decide (x<0)with
 |true=>
  have hx:=of_decide_eq_true hd
  rw[show(decide (0<=x)&&decide (x<(th.vals.length:Int)))=false by rw[decide_eq_false (by omega)];rfl]at hs
  cases hs
  repeat (first|with_reducible refine AEj ?_|with_reducible refine mQ ?_)
  rw[BP]
  exact ZV h λA B d=>D W A n B d
 |false=>
  have hx:=of_decide_eq_false hd
  obtain⟨m,rfl⟩:∃m:Nat,x=.ofNat m:=⟨x.toNat,by show x=(x.toNat:Int);omega⟩
  refine Ya rfl (Ya rfl (Ya (DV ..) (Ya (Ah ..) (Ya w (Ya E (Ya (AQO ..) (pz ?_)))))))
  have L:decide ((Int.ofNat th.vals.length)<=Int.ofNat m)=decide (th.vals.length<=m):=by rw[decide_eq_decide];show(th.vals.length:Int)<=(m:Int)↔_;omega
  rw[L]
  cases I:decide (th.vals.length<=m)with
  |true=>
   have N:=of_decide_eq_true I
   rw[show(decide (0<=(Int.ofNat m))&&decide ((Int.ofNat m)<(th.vals.length:Int)))=false by
    rw[show decide (Int.ofNat m<(th.vals.length:Int))=false from decide_eq_false (by show ¬((m:Int)<_);omega)];simp]at hs
   cases hs
   rw[BP]
   exact ZV h λA B d=>D W A n B d
  |false=>
   have N:=of_decide_eq_false I
   have O:m<th.vals.length:=by omega
   rw[show(decide (0<=(Int.ofNat m))&&decide ((Int.ofNat m)<(th.vals.length:Int)))=true by
    rw[show decide (Int.ofNat m<(th.vals.length:Int))=true from decide_eq_true (by show((m:Int)<_);omega),show decide (0<=Int.ofNat m)=true from decide_eq_true (by show(0:Int)<=(m:Int);omega)];rfl]at hs
   have P:AX (.ptr b (0+0)) G H=some (.int .i64 (.ofNat q) 0):=AU (off:=0+0) gb rfl
   rw[BG,Ah,AP,P,AP,ER,AP]
   rcases C with⟨hq,⟨y,rfl,hy⟩,Q,d1⟩|⟨⟨R,S⟩,rfl⟩
   ·have hs:some {s.top r f with hp:=s.hp.set (o.o-1) {th with vals:=th.vals.set (Int.ofNat m).toNat y}}=some s':=hs
    rw[Y,Nat.add_sub_cancel]at hs
    have hs:some {s.top r f with hp:=s.hp.set j {th with vals:=th.vals.set m y}}=some s':=hs
    cases hs
    obtain⟨p,U,X,-,-⟩:=iF (u:=.i64) Z hv hy
    refine Aff rfl P hq ?_
    rw[DV,AP,Ah,AP,w,AP,AKY Q (by omega),AP,U,AP,X,AP]
    exact h.put (i:=j) (q:=m) (v:=y) J O λA B d=>D W A n B d
   ·refine Ae2 rfl P R S ?_
    obtain⟨p,U,X⟩:=h.part (i:=j) (q:=m) (u:=.i64) (v:=th.vals[m]) J (List.getElem?_eq_getElem O)
    rw[DV,AP,Ah,AP,w,AP,U,AP,X,AP]
    have hs:(f.push (th.vals.getD m PD)).map (s.top r)=some s':=hs
    rw[show th.vals.getD m PD=th.vals[m]by rw[List.getD_eq_getElem?_getD,List.getElem?_eq_getElem O];rfl]at hs
    exact ALX h hp hs D
theorem AZc(D:Wd M G E){q i:Nat}(h:Vm M W G H n (s.top r f))(hp:W.fv=.F9 fb 0 (r.length+1) 16)(gd:Gd (s.top r f))(hq:q=16∨q=17∨q=20∨q=21)(hi:q=16∨q=17->i<f.fl.pool.fields.length)
 (hs:Jd E ⟨.ofNat q,.ofNat i⟩ s r f=some s') (hk:Oc M W G H n k s'):Runs F G jL [.ptr M.kb 0,.ptr fb (r.length*16),.agg (Ins.cells ⟨.ofNat q,.ofNat i⟩)] H n k:=by
 refine go3 (AEN BF G) ?_
 delta jy
 refine FT λZ f1 g1=>?_
 rw[AOF]
 have A:Kp Z (n+1) (T.set Z (n+1) (.map [] 0)) (n+1+1):=(Kp.refl _ _).new _ (Nat.le_refl _) (by omega)
 have g2:=T.Ag Z (n+1) (.map [] 0)
 generalize T.set Z (n+1) (.map [] 0)=H2 at A g2
 refine AJc g2 rfl λH3 g3 s3=>?_
 refine AJc g3 rfl λH4 g4 s4=>?_
 refine AJc g4 rfl λH5 g5 s5=>?_
 refine AJc g5 rfl λH6 g6 s6=>?_
 have f6:Kp Z (n+1) H6 (n+1+1):=⟨by omega,λY B=>by rw[s6 _ (by omega),s5 _ (by omega),s4 _ (by omega),s3 _ (by omega),A.same _ B]⟩
 have gb:=f6.get g1 (by omega)
 obtain⟨h6,d0⟩:=h.kp (f1.trans f6)
 clear A g2 g3 s3 g4 s4 g5 s5 s6 g1
 rw[Ah,AP,AU (off:=0+0) gb (v:=.int .i64 (.ofNat q) 0) rfl,AP]
 have i4:Gd (s.top r f):=gd
 obtain⟨i5,d9⟩:=gd.fr f (List.mem_cons_self ..)
 have f0:=hk.kz d0
 clear hk d0
 have look:∃m:Nat,ACi .int false (.int .i64 (.ofNat 0) 0) (.map (n+1)) (.int .i64 (.ofNat q) 0) H6=some (.int .i64 (.ofNat m) 0)/\m=(if q=16 then 1 else if q=21 then 3 else 2):=by
  unfold ACi Qc
  show ∃m:Nat,Option.rec (motive:=λ_=>(ME->Nat->Option V)->Option V) (λ_=>none) Adi (T.get H6 (n+1)) (λes x=>BO (vJ .int (.int .i64 (.ofNat q) 0) es 0) (ARJ false (.int .i64 (.ofNat 0) 0)))=_/\_
  rw[g6]
  rcases hq with rfl|rfl|rfl|rfl
  ·exact⟨1,rfl,rfl⟩
  ·exact⟨2,rfl,rfl⟩
  ·exact⟨2,rfl,rfl⟩
  ·exact⟨3,rfl,rfl⟩
 obtain⟨m,O,d⟩:=look
 clear g6
 rw[O,AP,ER,AP,decide_eq_false (by rw[d];split;omega;split<;>omega),BG]
 have key:∃ws A,f.pop m=some (ws,A)/\∃o,ws[0]? =some o/\((q=16∨q=17)->LJ (f.slot E (.ofNat i)) (if q=17 then some (ws.getD 1 PD)else none) o s r A=some s')/\((q=20∨q=21)->∃y,ws[1]? =some y/\LJ y.n (if q=21 then some (ws.getD 2 PD)else none) o s r A=some s')/\ws.length=m:=by
  have pl:∀{j:Nat} {ws:List Cv} {A:Fr},f.pop j=some (ws,A)->ws.length=j:=λf3=>by
   obtain⟨a,b,-⟩:=pop_inv f3
   rw[b,List.length_reverse,List.length_take];omega
  rcases hq with rfl|rfl|rfl|rfl
  ·obtain⟨⟨ws,A⟩,I,P⟩:=Option.bind_eq_some_iff.1 (show(f.pop 1).bind (λp=>LJ (f.slot E (.ofNat i)) none (hd0 p.1) s r p.2)=some s' from hs)
   have Q:=pl I
   match ws,Q with
   |[o],_=>exact⟨[o],A,by rw[d];exact I,o,rfl,λ_=>P,λe=>by omega,by rw[d];rfl⟩
  ·obtain⟨⟨ws,A⟩,I,P⟩:=Option.bind_eq_some_iff.1 (show(f.pop 2).bind (λp=>LJ (f.slot E (.ofNat i)) (some (p.1.getD 1 PD)) (hd0 p.1) s r p.2)=some s' from hs)
   have Q:=pl I
   match ws,Q with
   |[o,w],_=>exact⟨[o,w],A,by rw[d];exact I,o,rfl,λ_=>P,λe=>by omega,by rw[d];rfl⟩
  ·obtain⟨⟨ws,A⟩,I,P⟩:=Option.bind_eq_some_iff.1 (show(f.pop 2).bind (λp=>LJ (p.1.getD 1 PD).n none (hd0 p.1) s r p.2)=some s' from hs)
   have Q:=pl I
   match ws,Q with
   |[o,w],_=>exact⟨[o,w],A,by rw[d];exact I,o,rfl,λe=>by omega,λ_=>⟨w,rfl,P⟩,by rw[d];rfl⟩
  ·obtain⟨⟨ws,A⟩,I,P⟩:=Option.bind_eq_some_iff.1 (show(f.pop 3).bind (λp=>LJ (p.1.getD 1 PD).n (some (p.1.getD 2 PD)) (hd0 p.1) s r p.2)=some s' from hs)
   have Q:=pl I
   match ws,Q with
   |[o,w,y],_=>exact⟨[o,w,y],A,by rw[d];exact I,o,rfl,λe=>by omega,λ_=>⟨w,rfl,P⟩,by rw[d];rfl⟩
 obtain⟨ws,A,J,o,d1,k1,k2,d2⟩:=key
 obtain⟨f4,i6,i7⟩:=AEf J d9
 have f5:A.fl=f.fl:=by rw[(pop_inv J).2.2]
 have d3:n<n+1+1:=by omega
 have d4:W.own n=0:=h.hi n (Nat.le_refl _)
 have d5:n≠M.b:=by have:=h.bk;have:=h.kn;omega
 refine Wy h6 hp J λW7 H7 n7 v h7 L w7 f7 _ K R=>?_
 have C:=(L.zero n d3 d4 d5).trans gb
 have S:=f0.kz L
 have U:W7.fv=.F9 fb 0 (r.length+1) 16:=w7.trans hp
 rw[<-f7]at K
 have d6:o.o<=s.hp.length:=f4 o (List.mem_of_getElem? d1)
 obtain⟨p,a1,-,-,q1,a2,a3⟩:=iF (u:=.i64) D.g K d1
 rw[a1,AP,a2,AP,a3,AP,ATE,AP]
 cases hd:decide (o.o=0)with
 |true=>
  have h0:=of_decide_eq_true hd
  have g0:s'=(s.top r A).stop 1:=by
   have hn:o.th s=none:=by unfold Cv.th;rw[decide_eq_true h0];rfl
   rcases(by omega:(q=16∨q=17)∨(q=20∨q=21))with e|e
   ·have:=k1 e
    unfold LJ at this
    rw[hn]at this
    exact(Option.some.inj this).symm
   ·obtain⟨y,-,this⟩:=k2 e
    unfold LJ at this
    rw[hn]at this
    exact(Option.some.inj this).symm
  subst g0
  rw[BP]
  exact ZV h7 λH8 h8 g7=>S W7 H8 n7 h8 g7
 |false=>
  have h0:=of_decide_eq_false hd
  have d7:n<n7:=by have:=L.le;omega
  rw[BG,Ah,AP,AU (off:=0+0) C (v:=.int .i64 (.ofNat q) 0) rfl,AP,ER,AP]
  rcases(by omega:(q=16∨q=17)∨(q=20∨q=21))with e|e
  ·refine Aff rfl (AU (off:=0+0) C (v:=.int .i64 (.ofNat q) 0) rfl) e ?_
   obtain⟨c,cr,t⟩:=h7.tf2 U
   obtain⟨v0,v1,v2,v3,v4,vs,po,-,-,-,c7,-⟩:=t.at'.pool
   rw[f5]at po
   have i0:=hi e
   obtain⟨pf,x1,x2⟩:=AfP po i0
   rw[DV,AP,Ah,AP,Ah,AP,Ah,AP,show AX (.ptr fb (r.length*16+0+4+3)) G H7=some v3 from t.ld (o:=7) (t.at'.ATf c7),AP,AP,AU (off:=0+1) C (v:=.int .i64 (.ofNat i) 0) rfl,AP,x1,AP,Bj x2,AP]
   refine Di rfl λH8 f8 g8=>?_
   refine Rn g8 rfl rfl (by omega) λH9 g9 s9=>?_
   have f9:Kp H7 n7 H9 (n7+1):=⟨by omega,λY B=>by rw[s9 _ (by omega),f8.same _ B]⟩
   obtain⟨h9,i1⟩:=h7.kp f9
   have i8:=h7.kn
   have N:=k1 e
   have X:f.slot E (.ofNat i)=AKC M.fs (f.fl.pool.fields.getD i fZ).own (f.fl.pool.fields.getD i fZ).f.nm:=by rw[<-D.fs];rfl
   rw[X]at N
   generalize f.fl.pool.fields.getD i fZ=pf at*
   rw[DV,AP,Ah,AP,AU (off:=0+0) h9.box (v:=.ptr M.i 0) rfl,AP,Ah,AP,AU (off:=0+3) g9 (v:=pf.own.v) rfl,AP,Ah,AP,Ah,AP,AU (off:=0+0+0) g9 (v:=pf.f.nm.v) rfl,AP]
   refine AcL h9.ASf D.len D.sm λi9 k0 i2=>?_
   obtain⟨i3,d8⟩:=h9.kb i2
   have kz:=i1.trans d8
   refine AQe D.g (o:=o) (ws:=ws) (b:=n) (put:=if q=17 then some (ws.getD 1 PD)else none) i3 U ((kz.zero n d7 ((L.own n d3).trans d4) d5).trans C) (K.same λY B=>kz.zero Y (R Y B).2.1 (R Y B).2.2 (by have:=(R Y B).1;have:=h.bk;have:=h.kn;omega)) h0 d6 ?_ N (S.kz kz)
   rcases e with rfl|rfl
   ·exact .inr ⟨⟨by omega,by omega⟩,rfl⟩
   ·refine .inl ⟨.inl rfl,⟨_,rfl,?_⟩,by rw[d];decide,by rw[d];decide⟩
    have h2:m=2:=d
    rw[h2]at d2⊢
    rw[List.getD_eq_getElem?_getD,List.getElem?_eq_getElem (by omega)];rfl
  ·refine Ae2 rfl (AU (off:=0+0) C (v:=.int .i64 (.ofNat q) 0) rfl) (by omega) (by omega) ?_
   obtain⟨y,hy,N⟩:=k2 e
   obtain⟨p1,b1,-,⟨q2,b2,b3⟩,-⟩:=iF (u:=.i64) D.g K hy
   rw[b1,AP,b2,AP,b3,AP]
   refine AQe D.g (o:=o) (ws:=ws) (b:=n) (put:=if q=21 then some (ws.getD 2 PD)else none) h7 U C K h0 d6 ?_ N S
   rcases e with rfl|rfl
   ·exact .inr ⟨⟨by omega,by omega⟩,rfl⟩
   ·refine .inl ⟨.inr rfl,⟨_,rfl,?_⟩,by rw[d];decide,by rw[d];decide⟩
    have h2:m=3:=d
    rw[h2]at d2⊢
    rw[List.getD_eq_getElem?_getD,List.getElem?_eq_getElem (by omega)];rfl
end
end Go.RL
