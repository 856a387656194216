/- Part of a proof; nothing is assumed. -/
import Derived.Test.YtibbhhkcjjeclaaDoorConD
import Derived.Test.YtibbhhkcjjeclaaDoorConB
import Derived.Test.YtibbhhkcjjeclaaDoorWalk
import Derived.Test.YtibbhhkcjjeclaaDoorConA
set_option linter.unusedVariables false
set_option linter.unusedSimpArgs false
namespace Go.RL
open Go.Bv
set_option maxRecDepth 100000
end Go.RL
namespace Go.RL
open Go.Bv
set_option maxRecDepth 100000
theorem ABg:∀(cs:List Fc) (fs:Tab) (s:St) (c:Fc),(∀s c,Cj fs s=some c->c.nm=s)->Cj (XC fs cs) s=some c->c.nm=s
 |[],_,_,_,h,e=>h _ _ e
 |d::cs,fs,s,c,h,e=>ABg cs (Vp d.nm d fs) s c (λs c e=>by
  rw[Q8]at e
  by_cases hd:d.nm=s
  ·rw[if_pos hd]at e;cases e;exact hd
  ·rw[if_neg hd]at e;exact h s c e) e
theorem AMb{cs:List Fc}{s:St}{c:Fc}(e:Cj (Fh cs) s=some c):c.nm=s:=ABg cs [] s c (λ_ _ h=>by cases h) e
theorem P9:∀(BM:List Fl) (acc:List (St×Fl)),WH acc BM=0->∀f∈BM,OJ f=true
 |[],_,_,_,h=>by cases h
 |g::BM,acc,e,f,h=>by
  unfold WH at e
  cases hg:OJ g with
  |false=>rw[hg]at e;simp at e
  |true=>
   rw[hg]at e
   cases hl:(Cj acc g.face.nm).isSome with
   |true=>rw[hl]at e;simp at e
   |false=>
    rw[hl]at e
    rcases List.mem_cons.1 h with rfl|h
    ·exact hg
    ·exact P9 BM _ e f h
theorem ACS(t:Tab):∀(BM:List Fl),link2 t BM=0->∀f∈BM,QV t f.face.nm=0
 |[],_,_,h=>by cases h
 |g::BM,e,f,h=>by
  unfold link2 at e
  cases hg:QV t g.face.nm==0 with
  |false=>
   rw[hg]at e
   have e:QV t g.face.nm=0:=e
   rw[e]at hg;cases hg
  |true=>
   rw[hg]at e
   cases hp:gX t g.pool with
   |false=>rw[hp]at e;simp at e
   |true=>
    rw[hp]at e
    rcases List.mem_cons.1 h with rfl|h
    ·exact eq_of_beq hg
    ·exact ACS t BM e f h
theorem zB{t:Tab}{s:St}(h:QV t s=0):(above t s).2=true:=by
 unfold QV at h
 cases hl:Cj t s with
 |none=>rw[hl]at h;simp at h
 |some c=>
  rw[hl]at h
  cases ha:(above t s).2 with
  |true=>rfl
  |false=>
   simp only[ha]at h
   cases h0:decide (s.1=0/\s.2=0)<;>rw[h0]at h<;>try (simp at h;done)
   cases h1:jK ((Cj t (lastOf (above t s).1)).getD DI).sup (above t s).1<;>rw[h1]at h<;>simp at h
theorem EJ{BM:List Fl}(h:UD BM=0):BM.length<=200/\WH [] BM=0/\link2 (Fh (CS BM)) BM=0:=by
 unfold UD at h
 cases h1:decide (200<BM.length)with
 |true=>rw[h1]at h;simp at h
 |false=>
  rw[h1]at h
  have h1:=of_decide_eq_false h1
  cases h2:WH [] BM==0 with
  |false=>
   rw[h2]at h
   have h:WH [] BM=0:=h
   rw[h]at h2;cases h2
  |true=>
   rw[h2]at h
   exact⟨by omega,eq_of_beq h2,h⟩
theorem iI{BM:List Fl}{s:St}{c:Fc}(e:Cj (Fh (CS BM)) s=some c):∃f∈BM,f.face=c/\c.nm=s:=by
 obtain⟨f,hf,rfl⟩:=List.mem_map.1 (ADn e)
 exact⟨f,hf,rfl,AMb e⟩
theorem uJ{BM:List Fl}(h:UD BM=0):Whole (Fh (CS BM)):=λs c e=>by
 obtain⟨-,-,h2⟩:=EJ h
 obtain⟨f,hf,rfl,rfl⟩:=iI e
 exact zB (ACS _ _ h2 f hf)
theorem rP{BM:List Fl}(h:UD BM=0):Upper (Fh (CS BM)):=λs c e=>by
 obtain⟨-,h1,-⟩:=EJ h
 obtain⟨f,hf,rfl,rfl⟩:=iI e
 have:=P9 _ _ h1 f hf
 unfold OJ Ur at this
 simp only[Bool.and_eq_true]at this
 exact this.1.1
theorem qU:∀(cs:List Fl) (fs:List (St×Fl)) (s:St) (c:Fl),Cj (Uu fs cs) s=some c->(c∈cs/\c.face.nm=s)∨Cj fs s=some c
 |[],_,_,_,h=>.inr h
 |d::cs,fs,s,c,h=>by
  rcases qU cs _ s c h with h|h
  ·exact .inl ⟨List.mem_cons_of_mem _ h.1,h.2⟩
  ·rw[Q8]at h
   split at h
   ·rename_i e;cases h;exact .inl ⟨List.mem_cons_self ..,e⟩
   ·exact .inr h
theorem AKN{BM:List Fl}{s:St}{f:Fl}(h:Cj (UM BM) s=some f):f∈BM/\f.face.nm=s:=by
 rcases qU BM [] s f h with h|h
 ·exact h
 ·cases h
theorem oL:∀(cs:List Fl) (fs:List (St×Fl)) (s:St),(Cj fs s).isSome=true∨s∈KH cs->(Cj (Uu fs cs) s).isSome=true
 |[],_,_,h=>h.resolve_right List.not_mem_nil
 |d::cs,fs,s,h=>oL cs _ s (by
  rw[Q8]
  by_cases e:d.face.nm=s
  ·rw[if_pos e];exact .inl rfl
  ·rw[if_neg e]
   rcases h with h|h
   ·exact .inl h
   ·exact .inr ((List.mem_cons.1 h).resolve_left (Ne.symm e)))
theorem AIq{BM:List Fl}{s:St}(h:s∈KH BM):∃f,Cj (UM BM) s=some f:=Option.isSome_iff_exists.1 (oL BM [] s (.inr h))
theorem ADT{p:Pool}:∀{ms:List DK} {bs:List Bd} (j:Nat) (m:DK) (b:Bd),Xh p ms bs=true->ms[j]? =some m->bs[j]? =some b->rW p m b=true
 |[],_,_,_,_,_,h,_=>by simp at h
 |_::_,[],_,_,_,_,_,h=>by simp at h
 |x::ms,y::bs,0,m,b,h,h1,h2=>by
  simp only[List.getElem?_cons_zero,Option.some.injEq]at h1 h2
  subst h1;subst h2
  unfold Xh at h
  exact(Bool.and_eq_true .. ▸h).1
 |x::ms,y::bs,j+1,m,b,h,h1,h2=>by
  unfold Xh at h
  exact ADT j m b (Bool.and_eq_true .. ▸h).2 (by simpa using h1) (by simpa using h2)
theorem jR{f:Fl}(h:OJ f=true):f.bodies.length=f.face.ms.length/\∀(j:Nat) (m:DK) (bd:Bd),f.face.ms[j]? =some m->f.bodies[j]? =some bd->Rz f.pool m bd:=by
 unfold OJ at h
 simp only[Bool.and_eq_true,decide_eq_true_eq]at h
 exact⟨h.2.2.1,λj m bd h1 h2=>AIz (ADT j m bd h.2.2.2 h1 h2)⟩
theorem AN9{fs:Tab}{K:Nat}(a:Uc)(h:∀o∈a,AGl fs K o<=K):allH fs K a<=a.length*K:=by
 unfold allH
 induction a with
 |nil=>simp
 |cons o a ih=>
  have h1:=h o (List.mem_cons_self ..)
  have h2:=ih λx hx=>h x (List.mem_cons_of_mem _ hx)
  simp only[List.map_cons,List.sum_cons,List.length_cons,Nat.add_mul,Nat.one_mul];omega
theorem ASP{fs:Tab}{f:Fl}{m:DK}{bd:Bd}{c:St}(hw:Whole fs)(hu:Upper fs)(hfs:fs.length<=200)(h:Rz f.pool m bd):∃r,zo (cxF fs f m bd) (XG c m bd) r:=by
 have hN:0<bd.code.length:=by have:=h.c0;omega
 have hlen:(XG c m bd).loc.length=bd.locals.toNat:=by
  have h1:=ADy c m
  have h2:=h.lo
  show(iQ c m++m.ps++List.replicate _ CB).length=_
  simp only[List.length_append,List.length_replicate];omega
 have inv:Inv2 bd.locals.toNat bd.stack.toNat (at0 bd.code.length (XG c m bd)):=by
  refine⟨λi s hs=>?_,λi s hs=>?_⟩
  ·rw[(wW hN hs).2];exact hlen
  ·rw[(wW hN hs).2];exact Nat.zero_le _
 have hl:(at0 bd.code.length (XG c m bd)).length=bd.code.length:=AEj
 have ATt:2*allH fs (Ny fs bd.locals.toNat bd.stack.toNat) (at0 bd.code.length (XG c m bd))+[0].length<20000000000:=by
  have h1:=AN9 (fs:=fs) (K:=Ny fs bd.locals.toNat bd.stack.toNat) (at0 bd.code.length (XG c m bd)) λo ho=>by
   obtain⟨i,hi⟩:=List.getElem?_of_mem ho
   cases o with
   |none=>exact Nat.le_refl _
   |some s=>exact Nat.le_of_lt (AJj (inv.loc i s hi) (inv.stk i s hi))
  rw[hl]at h1
  have h2:Ny fs bd.locals.toNat bd.stack.toNat<=287206:=by
   unfold Ny
   have a1:=h.hi
   have a2:=h.s1
   have:(bd.locals.toNat+bd.stack.toNat)*(fs.length+5)<=1401*205:=Nat.mul_le_mul (by omega) (by omega)
   omega
  have h3:bd.code.length*Ny fs bd.locals.toNat bd.stack.toNat<=16384*287206:=Nat.mul_le_mul h.c1 h2
  show 2*_+1<_
  omega
 obtain⟨r,hr⟩:=ADQ (c:=cxF fs f m bd) hw hu (L:=bd.locals.toNat) 20000000000 (at0 bd.code.length (XG c m bd)) [0] ATt hl inv (λi hi=>by rw[List.mem_singleton.1 hi];exact⟨hN,_,AIk hN⟩)
 exact⟨r,20000000000,hr,by omega⟩
theorem AFP{BM:List Fl}(h:UD BM=0):(Fh (CS BM)).length<=200:=by
 have h1:=nV (CS BM) []
 have h2:=(EJ h).1
 unfold Fh
 rw[List.length_map]at h1
 simp only[List.length_nil,Nat.zero_add]at h1
 omega
def ou(BM:List Fl)(R:Fl->Nat->Int):Prop:=∀f∈BM,∀(j:Nat) (m:DK) (bd:Bd),f.face.ms[j]? =some m->f.bodies[j]? =some bd->zo (cxF (Fh (CS BM)) f m bd) (XG f.face.nm m bd) (R f j)
theorem ANC{BM:List Fl}(h:UD BM=0):∃R,ou BM R:=by
 classical
 refine⟨λf j=>if q:∃r,∃m bd,f.face.ms[j]? =some m/\f.bodies[j]? =some bd/\zo (cxF (Fh (CS BM)) f m bd) (XG f.face.nm m bd) r then q.choose else 0,λf hf j m bd h1 h2=>?_⟩
 have hb:=(jR (P9 _ _ (EJ h).2.1 f hf)).2 j m bd h1 h2
 obtain⟨r,hr⟩:=ASP (c:=f.face.nm) (uJ h) (rP h) (AFP h) hb
 have q:∃r,∃m bd,f.face.ms[j]? =some m/\f.bodies[j]? =some bd/\zo (cxF (Fh (CS BM)) f m bd) (XG f.face.nm m bd) r:=⟨r,m,bd,h1,h2,hr⟩
 simp only[dif_pos q]
 obtain⟨m',bd',e1,e2,hr'⟩:=q.choose_spec
 rw[h1]at e1;rw[h2]at e2
 cases e1;cases e2
 exact hr'
theorem ALk{G:AX}(hG:QG G){H:Heap}{n m i:Nat}{BM:List Fl}(hl:UD BM=0){R:Fl->Nat->Int}(hR:ou BM R)(hi:APq G H n m i BM){k:KV}
 (hk:∀H' n' b,m<=b->Kb b H n H' n'->APq G H' n' m i BM->k (.agg (vN (O1 R (UM BM) (KH BM)))) H' n'):Runs F G Vg [.ptr i 0] H n k:=by
 obtain⟨t,a,b,fm,vn,h1,h2,h3,h4,h5,h6,h7,h8,h9,h10,h11⟩:=hi.is
 have hp:=EJ hl
 refine AMj (R:=R) hG h1 (by have:=AFP hl;omega) h2 h3 h4 h5 h6 (by rw[List.length_map];omega) (λs hs=>AIq hs) (λs f hf=>?_) λH' n' f=>?_
 ·obtain⟨hm,-⟩:=AKN hf
  obtain⟨e1,e2⟩:=jR (P9 _ _ hp.2.1 f hm)
  exact⟨e1,λj m bd q1 q2=>⟨e2 j m bd q1 q2,hR f hm j m bd q1 q2⟩⟩
 ·have e:=f.ke (G:=G) h1.tab.seen
  refine hk H' n' b h10 f ⟨t,a,b,fm,vn,h1.kb f,h2.ke e (f.same _ h3 h4),Nat.lt_of_lt_of_le h3 f.le,h4,h5.ke h6 e,h6.mono f.le,h7,h8,h9,h10,h11⟩
theorem APh{c:Cx}{init:Ce}{r:Int}(hw:Whole c.fs)(hu:Upper c.fs)(hn:0<c.code.length)(h:zo c init r):(r<0↔∃A,Post c init A):=by
 obtain⟨fuel,hr,-⟩:=h
 obtain⟨h1,h2⟩:=AN7 hw hu hn hr
 rw[<-h1]
 constructor
 ·intro hr
  by_cases e:r= -1
  ·exact e
  ·obtain⟨j,hj,-⟩:=h2 e;omega
 ·intro e;omega
theorem ABQ:∀(l:List Fl) (a:List (St×Fl)) (s:St) (f:Fl),WH a l=0->Cj a s=some f->Cj (Uu a l) s=some f
 |[],_,_,_,_,h=>h
 |g::l,a,s,f,e,h=>by
  unfold WH at e
  cases hg:OJ g with
  |false=>rw[hg]at e;simp at e
  |true=>
   rw[hg]at e
   cases hl:(Cj a g.face.nm).isSome with
   |true=>rw[hl]at e;simp at e
   |false=>
    rw[hl]at e
    refine ABQ l _ s f e ?_
    rw[Q8]
    by_cases hs:g.face.nm=s
    ·rw[hs,h]at hl;cases hl
    ·rw[if_neg hs];exact h
theorem o7:∀(l:List Fl) (a:List (St×Fl)) (f:Fl),WH a l=0->f∈l->Cj (Uu a l) f.face.nm=some f
 |[],_,_,_,h=>by cases h
 |g::l,a,f,e,h=>by
  unfold WH at e
  cases hg:OJ g with
  |false=>rw[hg]at e;simp at e
  |true=>
   rw[hg]at e
   cases hl:(Cj a g.face.nm).isSome with
   |true=>rw[hl]at e;simp at e
   |false=>
    rw[hl]at e
    rcases List.mem_cons.1 h with rfl|h
    ·exact ABQ l _ _ _ e (by rw[Q8,if_pos rfl])
    ·exact o7 l _ f e h
theorem AAP{R:Nat->Int}:∀{ms:List DK} {j:Nat},firstM R ms j=none↔∀i,i<ms.length->R (j+i)<0
 |[],j=>by simp[firstM]
 |m::ms,j=>by
  unfold firstM
  cases h:decide (0<=R j)with
  |true=>
   have h:=of_decide_eq_true h
   simp only[cond_true]
   constructor
   ·intro h;cases h
   ·intro h2;have:=h2 0 (by simp);simp only[Nat.add_zero]at this;omega
  |false=>
   have h:=of_decide_eq_false h
   rw[cond_false,AAP]
   constructor
   ·intro h2 i hi
    cases i with
    |zero=>simp only[Nat.add_zero];omega
    |succ i=>have:=h2 i (by simpa using hi);rw[show j+(i+1)=j+1+i by omega];exact this
   ·intro h2 i hi
    have:=h2 (i+1) (by simpa using hi)
    rw[show j+1+i=j+(i+1)by omega];exact this
theorem lJ{R:Fl->Nat->Int}{ff:List (St×Fl)}:∀{ss:List St},O1 R ff ss=none↔∀s∈ss,∀f,Cj ff s=some f->firstM (R f) f.face.ms 0=none
 |[]=>by simp[O1]
 |s::ss=>by
  unfold O1
  cases hl:Cj ff s with
  |none=>
   simp only
   rw[lJ]
   constructor
   ·intro h x hx f hf
    rcases List.mem_cons.1 hx with rfl|hx
    ·rw[hl]at hf;cases hf
    ·exact h x hx f hf
   ·intro h x hx;exact h x (List.mem_cons_of_mem _ hx)
  |some f=>
   simp only
   cases hm:firstM (R f) f.face.ms 0 with
   |some p=>
    simp only
    constructor
    ·intro h;cases h
    ·intro h;have:=h s (List.mem_cons_self ..) f hl;rw[hm]at this;cases this
   |none=>
    simp only
    rw[lJ]
    constructor
    ·intro h x hx g hg
     rcases List.mem_cons.1 hx with rfl|hx
     ·rw[hl]at hg;cases hg;exact hm
     ·exact h x hx g hg
    ·intro h x hx;exact h x (List.mem_cons_of_mem _ hx)
theorem AJz{G:AX}{H:Heap}{n:Nat}{v:V}{c:Fc}(h:Vu G H n v c){k:KV}(hk:∀r H' n',Kp H n H' n'->k (.bool r) H' n'):Runs F G X5 [v] H n k:=by
 refine BL (s:=MZ (P6 lfp G)) WQ (by obtain⟨h,o⟩:=iF BK G;rw[WQ]at h;cases h;exact o) ?_
 show P6 lfp G (Runs F G) v H n k
 obtain⟨vf,vm,ws,h,rfl⟩:=h
 delta P6
 refine Ez λH1 f1 g1=>?_
 have hf1:=h.fs.kp f1
 have hm1:=h.ms.kp f1
 have hbig:=hf1.lt
 have hbig2:=hm1.lt
 simp only[go_sem,Nat.reduceAdd,AU (off:=2) g1 (v:=vf) rfl,hf1.len,Iw]
 cases h1:decide (12<c.fs.length)with
 |true=>simp only[go_sem];exact hk _ _ _ f1
 |false=>
 simp only[go_sem,Nat.reduceAdd,AU (off:=3) g1 (v:=vm) rfl,hm1.len',Iw]
 cases h2:decide (12<c.ms.length)with
 |true=>simp only[go_sem];exact hk _ _ _ f1
 |false=>
 simp only[go_sem,Nat.reduceAdd,AU (off:=0) g1 (v:=c.nm.v) rfl,Z8,Iw]
 cases h3:decide (60<c.nm.1)with
 |true=>simp only[go_sem];exact hk _ _ _ f1
 |false=>
 simp only[go_sem,Nat.reduceAdd,AU (off:=1) g1 (v:=c.sup.v) rfl,Z8,Iw]
 cases h4:decide (60<c.sup.1)with
 |true=>simp only[go_sem];exact hk _ _ _ f1
 |false=>
 simp only[go_sem,Nat.reduceAdd,AU (off:=2) g1 (v:=vf) rfl,hf1.len]
 refine BN (N:=c.fs.length) (J:=λj q=>∃H' n',q=(.ptr n 0,vf,.int .i64 (.ofNat c.fs.length) 0,.int .i64 (.ofNat j) 0,H',n')/\Kp H1 (n+1) H' n') ?_ ?_ ⟨H1,_,rfl,Kp.refl _ _⟩
 ·rintro I j q hlt ⟨H3,n3,rfl,f3⟩ ih
  show Ju lfp G (Runs F G) k I (.ptr n 0) vf (.int .i64 (.ofNat c.fs.length) 0) (.int .i64 (.ofNat j) 0) H3 n3
  delta Ju
  obtain⟨q,hp,hld⟩:=(hf1.kp f3).at hlt
  generalize c.fs[j]=m at hld
  unfold ku.cells at hld
  have h3n:=f3.le
  simp only[go_sem,Bh,hlt,decide_true,hp,Bq hld,Nat.reduceAdd,Z8,Iw]
  rw[T.set_set]
  have f4:=f3.new (m:=n3+1) (id:=n3) (one [m.nm.v,m.ty.nm.v,.bool m.ty.arr]) f3.le (by omega)
  have g4:=T.Ai H3 n3 (one [m.nm.v,m.ty.nm.v,.bool m.ty.arr])
  generalize T.set H3 n3 (one [m.nm.v,m.ty.nm.v,.bool m.ty.arr])=H4 at f4 g4
  cases h1:decide (60<m.nm.1)with
  |true=>simp only[go_sem];exact hk _ _ _ (f1.trans f4)
  |false=>
  simp only[go_sem,Nat.reduceAdd,AU (off:=1) g4 (v:=m.ty.nm.v) rfl,Z8,Iw]
  cases h1:decide (60<m.ty.nm.1)with
  |true=>simp only[go_sem];exact hk _ _ _ (f1.trans f4)
  |false=>
  simp only[go_sem,DJ (show j+1<9223372036854775808 by unfold big at hbig;omega)]
  exact ih _ ⟨_,_,rfl,f4⟩
 rintro I q ⟨H3,n3,rfl,f3⟩
 show Ju lfp G (Runs F G) k I (.ptr n 0) vf (.int .i64 (.ofNat c.fs.length) 0) (.int .i64 (.ofNat c.fs.length) 0) H3 n3
 delta Ju
 have hm3:=hm1.kp f3
 simp only[go_sem,Bh,Nat.lt_irrefl,decide_false]
 delta TN
 simp only[go_sem,Nat.reduceAdd,AU (off:=3) (f3.get g1 (by omega)) (v:=vm) rfl,hm3.len']
 refine BN (N:=c.ms.length) (J:=λj q=>∃H' n',q=(vm,.int .i64 (.ofNat c.ms.length) 0,.int .i64 (.ofNat j) 0,H',n')/\Kp H1 (n+1) H' n') ?_ ?_ ⟨H3,_,rfl,f3⟩
 ·rintro I j q hlt ⟨H3,n3,rfl,f3⟩ ih
  show Jk lfp G (Runs F G) k I vm (.int .i64 (.ofNat c.ms.length) 0) (.int .i64 (.ofNat j) 0) H3 n3
  delta Jk
  obtain⟨q,w,hp,hld,hw⟩:=(hm1.kp f3).at hlt
  generalize c.ms[j]=m at hld hw
  unfold DK.cells at hld
  have h3n:=f3.le
  simp only[go_sem,Bh,hlt,decide_true,hp,Bq hld,Nat.reduceAdd,Z8,Iw]
  rw[T.set_set]
  have f4':Kp H3 n3 (T.set H3 n3 (one [m.nm.v,.bool m.st,w,m.ret.nm.v,.bool m.ret.arr])) (n3+1):=(Kp.refl _ _).new _ (Nat.le_refl _) (by omega)
  have g4:=T.Ai H3 n3 (one [m.nm.v,.bool m.st,w,m.ret.nm.v,.bool m.ret.arr])
  generalize T.set H3 n3 (one [m.nm.v,.bool m.st,w,m.ret.nm.v,.bool m.ret.arr])=H4 at f4' g4
  have f4:=f3.trans f4'
  have hw4:=hw.kp f4'
  cases h1:decide (60<m.nm.1)with
  |true=>simp only[go_sem];exact hk _ _ _ (f1.trans f4)
  |false=>
  simp only[go_sem,Nat.reduceAdd,AU (off:=3) g4 (v:=m.ret.nm.v) rfl,Z8,Iw]
  cases h1:decide (60<m.ret.nm.1)with
  |true=>simp only[go_sem];exact hk _ _ _ (f1.trans f4)
  |false=>
  simp only[go_sem,Nat.reduceAdd,AU (off:=2) g4 (v:=w) rfl,hw4.len,Iw]
  cases h1:decide (10<m.ps.length)with
  |true=>simp only[go_sem];exact hk _ _ _ (f1.trans f4)
  |false=>
  simp only[go_sem,Nat.reduceAdd,AU (off:=2) g4 (v:=w) rfl,hw4.len]
  have hbig3:=hw4.lt
  refine BN (N:=m.ps.length) (J:=λi q=>∃H' n',q=(vm,.int .i64 (.ofNat c.ms.length) 0,.int .i64 (.ofNat j) 0,w,.int .i64 (.ofNat m.ps.length) 0,.int .i64 (.ofNat i) 0,H',n')/\Kp H4 (n3+1) H' n') ?_ ?_ ⟨H4,_,rfl,Kp.refl _ _⟩
  ·rintro I2 i q hlt ⟨H5,n5,rfl,f5⟩ ih2
   show Jw lfp G (Runs F G) k I I2 vm (.int .i64 (.ofNat c.ms.length) 0) (.int .i64 (.ofNat j) 0) w (.int .i64 (.ofNat m.ps.length) 0) (.int .i64 (.ofNat i) 0) H5 n5
   delta Jw
   obtain⟨q,hp,hld⟩:=(hw4.kp f5).el.at (UW hlt)
   generalize m.ps[i]=t at hld
   unfold Ty.cells at hld
   simp only[go_sem,Bh,hlt,decide_true,hp,Bq hld,Nat.reduceAdd,Z8,Iw]
   rw[T.set_set]
   have f6:=f5.new (m:=n5+1) (id:=n5) (one [t.nm.v,.bool t.arr]) f5.le (by omega)
   cases h1:decide (60<t.nm.1)with
   |true=>simp only[go_sem];exact hk _ _ _ (f1.trans (f4.trans f6))
   |false=>
   simp only[go_sem,DJ (show i+1<9223372036854775808 by unfold big at hbig3;omega)]
   exact ih2 _ ⟨_,_,rfl,f6⟩
  ·rintro I2 q ⟨H5,n5,rfl,f5⟩
   show Jw lfp G (Runs F G) k I I2 vm (.int .i64 (.ofNat c.ms.length) 0) (.int .i64 (.ofNat j) 0) w (.int .i64 (.ofNat m.ps.length) 0) (.int .i64 (.ofNat m.ps.length) 0) H5 n5
   delta Jw
   simp only[go_sem,Bh,Nat.lt_irrefl,decide_false]
   delta Sr
   simp only[go_sem,DJ (show j+1<9223372036854775808 by unfold big at hbig2;omega)]
   exact ih _ ⟨_,_,rfl,f4.trans f5⟩
 ·rintro I q ⟨H3,n3,rfl,f3⟩
  show Jk lfp G (Runs F G) k I vm (.int .i64 (.ofNat c.ms.length) 0) (.int .i64 (.ofNat c.ms.length) 0) H3 n3
  delta Jk
  simp only[go_sem,Bh,Nat.lt_irrefl,decide_false]
  delta TI
  exact hk _ _ _ (f1.trans f3)
theorem add_any(a b:Int):∃c,B2.ev .add (.int .i64 a 0) (.int .i64 b 0)=some (.int .i64 c 0):=⟨iH .i64 (ABa a b),rfl⟩
section
variable{G:AX}{H0 H:Heap}{n0 n e:Nat}{p:Pool}{bs:List Bd}{c0 c1 c2 c3 v0 v1 v2 v3 v4 vb:V}{ws bws:List V}{k:KV}
theorem AC9(hb:KP G H n vb bs bws)(ge:T.get H e=some (one [c0,c1,c2,c3,v0,v1,v2,v3,v4,vb]))(hk:∀r H' n',Kp H n H' n'->k (.bool r) H' n'):
 Nr lfp G (Runs F G) k (.ptr e 0) H n:=by
 delta Nr
 have hbig:=hb.lt
 have l4:lenV vb=some (.int .i64 (.ofNat bs.length) 0):=by rw[hb.el.len,List.length_zipWith,hb.len,Nat.min_self]
 simp only[go_sem,Nat.reduceAdd,AU (off:=9) ge (v:=vb) rfl,l4]
 refine BN (N:=bs.length) (J:=λj q=>∃H' n',q=(vb,.int .i64 (.ofNat bs.length) 0,.int .i64 (.ofNat j) 0,H',n')/\Kp H n H' n') ?_ ?_ ⟨H,_,rfl,Kp.refl _ _⟩
 ·rintro I j q hlt ⟨H3,n3,rfl,f3⟩ ih
  show Ji lfp G (Runs F G) k I vb (.int .i64 (.ofNat bs.length) 0) (.int .i64 (.ofNat j) 0) H3 n3
  delta Ji
  have hb3:=hb.kp f3
  have hw:j<bws.length:=by rw[hb.len];exact hlt
  obtain⟨q,hp',hld⟩:=hb3.el.at (i:=j) (c:=bs[j].cells bws[j]) (by rw[List.getElem?_zipWith];simp[hlt,hw])
  have hc:=hb3.at' j _ _ (List.getElem?_eq_getElem hlt) (List.getElem?_eq_getElem hw)
  generalize bs[j]=m at hld hc
  generalize bws[j]=w at hld hc
  unfold Bd.cells at hld
  have lw:lenV w=some (.int .i64 (.ofNat m.code.length) 0):=by rw[hc.el.len,List.length_map]
  simp only[go_sem,Nat.reduceAdd,Bh,hlt,decide_true,hp',Bq hld,lw,Iw]
  rw[T.set_set]
  have f4:=f3.new (m:=n3+1) (id:=n3) (one [.int .i64 m.locals 0,.int .i64 m.stack 0,w]) f3.le (by omega)
  cases h1:decide (60<m.code.length)with
  |true=>simp only[go_sem];exact hk _ _ _ f4
  |false=>
  simp only[go_sem,DJ (show j+1<9223372036854775808 by unfold big at hbig;omega)]
  exact ih _ ⟨_,_,rfl,f4⟩
 ·rintro I q ⟨H3,n3,rfl,f3⟩
  show Ji lfp G (Runs F G) k I vb (.int .i64 (.ofNat bs.length) 0) (.int .i64 (.ofNat bs.length) 0) H3 n3
  delta Ji
  simp only[go_sem,Bh,Nat.lt_irrefl,decide_false]
  delta TQ
  exact hk _ _ _ f3
theorem AE3(h:FD G H n p v0 v1 v2 v3 v4 ws)(hb:KP G H n vb bs bws)(he:e<n)(ge:T.get H e=some (one [c0,c1,c2,c3,v0,v1,v2,v3,v4,vb]))(hk:∀r H' n',Kp H n H' n'->k (.bool r) H' n'):
 Ns lfp G (Runs F G) k (.ptr e 0) H n:=by
 delta Ns
 have hbig:=h.b4
 have l4:lenV v4=some (.int .i64 (.ofNat p.CV.length) 0):=by rw[h.e4.len,List.length_zipWith,h.yF,Nat.min_self]
 simp only[go_sem,Nat.reduceAdd,AU (off:=8) ge (v:=v4) rfl,l4]
 refine BN (N:=p.CV.length) (J:=λj q=>∃H' n',q=(.ptr e 0,v4,.int .i64 (.ofNat p.CV.length) 0,.int .i64 (.ofNat j) 0,H',n')/\Kp H n H' n') ?_ ?_ ⟨H,_,rfl,Kp.refl _ _⟩
 ·rintro I j q hlt ⟨H3,n3,rfl,f3⟩ ih
  show Jv lfp G (Runs F G) k I (.ptr e 0) v4 (.int .i64 (.ofNat p.CV.length) 0) (.int .i64 (.ofNat j) 0) H3 n3
  delta Jv
  have h3:=h.kp f3
  have h3n:=f3.le
  have hw:j<ws.length:=by rw[h.yF];exact hlt
  obtain⟨q,hp',hld⟩:=h3.e4.at (i:=j) (c:=p.CV[j].cells ws[j]) (by rw[List.getElem?_zipWith];simp[hlt,hw])
  have hty:=h3.at4 j _ _ (List.getElem?_eq_getElem hlt) (List.getElem?_eq_getElem hw)
  have hok:=h3.o4 _ (List.getElem_mem hlt)
  generalize p.CV[j]=m at hld hty hok
  generalize ws[j]=w at hld hty
  unfold PM.cells at hld
  simp only[go_sem,Nat.reduceAdd,Bh,hlt,decide_true,hp',Bq hld,Z8,Iw]
  rw[T.set_set]
  have f4':Kp H3 n3 (T.set H3 n3 (one [m.m.nm.v,.bool m.m.st,w,m.m.ret.nm.v,.bool m.m.ret.arr,m.own.v])) (n3+1):=(Kp.refl _ _).new _ (Nat.le_refl _) (by omega)
  have g4:=T.Ai H3 n3 (one [m.m.nm.v,.bool m.m.st,w,m.m.ret.nm.v,.bool m.m.ret.arr,m.own.v])
  generalize T.set H3 n3 (one [m.m.nm.v,.bool m.m.st,w,m.m.ret.nm.v,.bool m.m.ret.arr,m.own.v])=H4 at f4' g4
  have f4:=f3.trans f4'
  cases h1:decide (60<m.own.1)with
  |true=>simp only[go_sem];exact hk _ _ _ f4
  |false=>
  simp only[go_sem,Nat.reduceAdd,show Ae 5 (.ptr n3 0) G H4=some (.agg [m.m.nm.v,.bool m.m.st,w,m.m.ret.nm.v,.bool m.m.ret.arr])from G7 g4 (by omega) (by show 5<=6;omega)]
  rw[xY (z:=5) (L:=[m.m.nm.v,.bool m.m.st,w,m.m.ret.nm.v,.bool m.m.ret.arr]) rfl]
  have hcap:=T.Ai H4 (n3+1) (.arr 5 1 (T.set (T.set .e 0 [.str 0 0,.bool false,.AZ,.str 0 0,.bool false]) 0 [m.m.nm.v,.bool m.m.st,w,m.m.ret.nm.v,.bool m.m.ret.arr]))
  have f5:Kp H4 (n3+1) (T.set H4 (n3+1) (.arr 5 1 (T.set (T.set .e 0 [.str 0 0,.bool false,.AZ,.str 0 0,.bool false]) 0 [m.m.nm.v,.bool m.m.st,w,m.m.ret.nm.v,.bool m.m.ret.arr]))) (n3+1+1):=(Kp.refl _ _).new _ (Nat.le_refl _) (by omega)
  generalize T.set H4 (n3+1) (.arr 5 1 (T.set (T.set .e 0 [.str 0 0,.bool false,.AZ,.str 0 0,.bool false]) 0 [m.m.nm.v,.bool m.m.st,w,m.m.ret.nm.v,.bool m.m.ret.arr]))=H5 at f5 hcap
  rw[show BA [.str 0 0,.str 0 0,.AZ,.AZ] [(3,1,.c (.sl (n3+1) 0 1 1 5))]=some (.agg [.str 0 0,.str 0 0,.AZ,.sl (n3+1) 0 1 1 5])from rfl,AB]
  refine AJz (c:=⟨(0,0),(0,0),[],[m.m]⟩) ⟨.AZ,.sl (n3+1) 0 1 1 5,[w],⟨rfl,⟨⟨rfl,rfl⟩,(λid h=>by cases h),(by show 0<big;decide),(λf h=>by cases h)⟩,⟨jS (by omega) rfl hcap,(λid h=>by cases h;omega),(by show 1<big;decide),rfl,?_,?_⟩,?_⟩,rfl⟩ λr H' n' f=>?_
  ·intro i m' w' h1 h2
   cases i with
   |zero=>simp at h1 h2;subst h1 h2;exact hty.kp (f4'.trans f5)
   |succ i=>simp at h1
  ·intro m' h;simp at h;subst h;exact⟨hok.1,hok.2.1⟩
  ·exact⟨λ_=>rfl,λ_=>rfl⟩
  ·have f6:=f4.trans (f5.trans f)
   simp only[go_sem,Bl]
   cases r with
   |false=>simp only[Bool.not_false,go_sem];exact hk _ _ _ f6
   |true=>
    simp only[Bool.not_true,go_sem,DJ (show j+1<9223372036854775808 by unfold big at hbig;omega)]
    exact ih _ ⟨_,_,rfl,f6⟩
 ·rintro I q ⟨H3,n3,rfl,f3⟩
  show Jv lfp G (Runs F G) k I (.ptr e 0) v4 (.int .i64 (.ofNat p.CV.length) 0) (.int .i64 (.ofNat p.CV.length) 0) H3 n3
  delta Jv
  simp only[go_sem,Bh,Nat.lt_irrefl,decide_false]
  exact AC9 (hb.kp f3) (f3.get ge he) λr H' n' f=>hk _ _ _ (f3.trans f)
theorem AHR(h:FD G H n p v0 v1 v2 v3 v4 ws)(hb:KP G H n vb bs bws)(he:e<n)(ge:T.get H e=some (one [c0,c1,c2,c3,v0,v1,v2,v3,v4,vb]))(hk:∀r H' n',Kp H n H' n'->k (.bool r) H' n'):
 NZ lfp G (Runs F G) k (.ptr e 0) H n:=by
 delta NZ
 have hbig:=h.b3
 have l3:lenV v3=some (.int .i64 (.ofNat p.fields.length) 0):=by rw[h.e3.len,List.length_map]
 simp only[go_sem,Nat.reduceAdd,AU (off:=7) ge (v:=v3) rfl,l3]
 refine BN (N:=p.fields.length) (J:=λj q=>∃H' n',q=(.ptr e 0,v3,.int .i64 (.ofNat p.fields.length) 0,.int .i64 (.ofNat j) 0,H',n')/\Kp H n H' n') ?_ ?_ ⟨H,_,rfl,Kp.refl _ _⟩
 ·rintro I j q hlt ⟨H3,n3,rfl,f3⟩ ih
  show Jy lfp G (Runs F G) k I (.ptr e 0) v3 (.int .i64 (.ofNat p.fields.length) 0) (.int .i64 (.ofNat j) 0) H3 n3
  delta Jy
  have h3:=h.kp f3
  have h3n:=f3.le
  obtain⟨q,hp',hld⟩:=h3.e3.at (i:=j) (c:=p.fields[j].cells) (by simp[hlt])
  generalize p.fields[j]=m at hld
  unfold PF.cells at hld
  obtain⟨x,hx⟩:=add_any (.ofNat m.f.nm.1) (.ofNat m.own.1)
  obtain⟨y,hy⟩:=add_any x (.ofNat m.f.ty.nm.1)
  simp only[go_sem,Nat.reduceAdd,Bh,hlt,decide_true,hp',Bq hld,Z8,hx,hy,ACZ]
  rw[T.set_set]
  have f4:=f3.new (m:=n3+1) (id:=n3) (one [m.f.nm.v,m.f.ty.nm.v,.bool m.f.ty.arr,m.own.v]) f3.le (by omega)
  cases h1:decide (Int.ofNat 120<y)with
  |true=>simp only[go_sem];exact hk _ _ _ f4
  |false=>
  simp only[go_sem,DJ (show j+1<9223372036854775808 by unfold big at hbig;omega)]
  exact ih _ ⟨_,_,rfl,f4⟩
 ·rintro I q ⟨H3,n3,rfl,f3⟩
  show Jy lfp G (Runs F G) k I (.ptr e 0) v3 (.int .i64 (.ofNat p.fields.length) 0) (.int .i64 (.ofNat p.fields.length) 0) H3 n3
  delta Jy
  have:=f3.le
  simp only[go_sem,Bh,Nat.lt_irrefl,decide_false]
  exact AE3 (h.kp f3) (hb.kp f3) (by omega) (f3.get ge he) λr H' n' f=>hk _ _ _ (f3.trans f)
theorem AEp(h:FD G H n p v0 v1 v2 v3 v4 ws)(hb:KP G H n vb bs bws)(he:e<n)(ge:T.get H e=some (one [c0,c1,c2,c3,v0,v1,v2,v3,v4,vb]))(hk:∀r H' n',Kp H n H' n'->k (.bool r) H' n'):
 Nc lfp G (Runs F G) k (.ptr e 0) H n:=by
 delta Nc
 have hbig:=h.t2.lt
 simp only[go_sem,Nat.reduceAdd,AU (off:=6) ge (v:=v2) rfl,h.t2.len]
 refine BN (N:=p.types.length) (J:=λj q=>∃H' n',q=(.ptr e 0,v2,.int .i64 (.ofNat p.types.length) 0,.int .i64 (.ofNat j) 0,H',n')/\Kp H n H' n') ?_ ?_ ⟨H,_,rfl,Kp.refl _ _⟩
 ·rintro I j q hlt ⟨H3,n3,rfl,f3⟩ ih
  show JK lfp G (Runs F G) k I (.ptr e 0) v2 (.int .i64 (.ofNat p.types.length) 0) (.int .i64 (.ofNat j) 0) H3 n3
  delta JK
  have h3:=h.kp f3
  have h3n:=f3.le
  obtain⟨q,hp',hld⟩:=h3.t2.el.at (UW hlt)
  generalize p.types[j]=m at hld
  unfold Ty.cells at hld
  simp only[go_sem,Nat.reduceAdd,Bh,hlt,decide_true,hp',Bq hld,Z8,Iw]
  rw[T.set_set]
  have f4:=f3.new (m:=n3+1) (id:=n3) (one [m.nm.v,.bool m.arr]) f3.le (by omega)
  cases h1:decide (60<m.nm.1)with
  |true=>simp only[go_sem];exact hk _ _ _ f4
  |false=>
  simp only[go_sem,DJ (show j+1<9223372036854775808 by unfold big at hbig;omega)]
  exact ih _ ⟨_,_,rfl,f4⟩
 ·rintro I q ⟨H3,n3,rfl,f3⟩
  show JK lfp G (Runs F G) k I (.ptr e 0) v2 (.int .i64 (.ofNat p.types.length) 0) (.int .i64 (.ofNat p.types.length) 0) H3 n3
  delta JK
  have:=f3.le
  simp only[go_sem,Bh,Nat.lt_irrefl,decide_false]
  exact AHR (h.kp f3) (hb.kp f3) (by omega) (f3.get ge he) λr H' n' f=>hk _ _ _ (f3.trans f)
end
theorem AOs{G:AX}{H:Heap}{n:Nat}{v:V}{f:Fl}(h:Vt G H n v f){k:KV}(hk:∀r H' n',Kp H n H' n'->k (.bool r) H' n'):Runs F G jf [v] H n k:=by
 refine BL (s:=MZ (P8 lfp G)) Wl (by obtain⟨h,o⟩:=eu BK G;rw[Wl]at h;cases h;exact o) ?_
 show P8 lfp G (Runs F G) v H n k
 obtain⟨L,vf,vm,v0,v1,v2,v3,v4,vb,mws,ws,bws,h,rfl⟩:=h
 obtain⟨rfl,hf,hp,hb⟩:=h
 delta P8
 refine Ez λH1 f1 g1=>?_
 rw[Ah,AB,show Ae 4 (.ptr n (0+0)) G H1=some (.agg [f.face.nm.v,f.face.sup.v,vf,vm])from G7 g1 (by omega) (by show 4<=10;omega),AB]
 refine AJz (c:=f.face) ⟨vf,vm,mws,hf.kp f1,rfl⟩ λr H2 n2 f2=>?_
 have f12:=f1.trans f2
 have h2n:=f2.le
 have hp2:=hp.kp f12
 have hb2:=hb.kp f12
 have g2:=f2.get g1 (by omega)
 have l0:lenV v0=some (.int .i64 (.ofNat f.pool.nums.length) 0):=by rw[hp2.e0.len,List.length_map]
 have l1:lenV v1=some (.int .i64 (.ofNat f.pool.names.length) 0):=by rw[hp2.e1.len,Gf]
 have l3:lenV v3=some (.int .i64 (.ofNat f.pool.fields.length) 0):=by rw[hp2.e3.len,List.length_map]
 have l4:lenV v4=some (.int .i64 (.ofNat f.pool.CV.length) 0):=by rw[hp2.e4.len,List.length_zipWith,hp2.yF,Nat.min_self]
 have lb:lenV vb=some (.int .i64 (.ofNat f.bodies.length) 0):=by rw[hb2.el.len,List.length_zipWith,hb2.len,Nat.min_self]
 simp only[Bl]
 cases r with
 |false=>
  simp only[Bool.not_false]
  rw[AB]
  repeat (first|with_reducible refine vF ?_|with_reducible refine kX ?_)
  simp only[go_sem];exact hk _ _ _ f12
 |true=>
 simp only[Bool.not_true,go_sem,Nat.reduceAdd,AU (off:=4) g2 (v:=v0) rfl,l0,Iw]
 cases h1:decide (20<f.pool.nums.length)with
 |true=>
  repeat (first|with_reducible refine vF ?_|with_reducible refine kX ?_)
  simp only[go_sem];exact hk _ _ _ f12
 |false=>
 simp only[go_sem,Nat.reduceAdd,AU (off:=5) g2 (v:=v1) rfl,l1,Iw]
 cases h1:decide (20<f.pool.names.length)with
 |true=>
  repeat (first|with_reducible refine vF ?_|with_reducible refine kX ?_)
  simp only[go_sem];exact hk _ _ _ f12
 |false=>
 simp only[go_sem,Nat.reduceAdd,AU (off:=6) g2 (v:=v2) rfl,hp2.t2.len,Iw]
 cases h1:decide (20<f.pool.types.length)with
 |true=>
  repeat (first|with_reducible refine vF ?_|with_reducible refine kX ?_)
  simp only[go_sem];exact hk _ _ _ f12
 |false=>
 simp only[go_sem,Nat.reduceAdd,AU (off:=7) g2 (v:=v3) rfl,l3,Iw]
 cases h1:decide (20<f.pool.fields.length)with
 |true=>
  repeat (first|with_reducible refine vF ?_|with_reducible refine kX ?_)
  simp only[go_sem];exact hk _ _ _ f12
 |false=>
 simp only[go_sem,Nat.reduceAdd,AU (off:=8) g2 (v:=v4) rfl,l4,Iw]
 cases h1:decide (20<f.pool.CV.length)with
 |true=>
  repeat (first|with_reducible refine vF ?_|with_reducible refine kX ?_)
  simp only[go_sem];exact hk _ _ _ f12
 |false=>
 simp only[go_sem,Nat.reduceAdd,AU (off:=9) g2 (v:=vb) rfl,lb,Iw]
 cases h1:decide (12<f.bodies.length)with
 |true=>
  repeat (first|with_reducible refine vF ?_|with_reducible refine kX ?_)
  simp only[go_sem];exact hk _ _ _ f12
 |false=>
 simp only[go_sem,Nat.reduceAdd,AU (off:=5) g2 (v:=v1) rfl,l1]
 have hbig:=hp2.b1
 refine BN (N:=f.pool.names.length) (J:=λj q=>∃H' n',q=(.ptr n 0,v1,.int .i64 (.ofNat f.pool.names.length) 0,.int .i64 (.ofNat j) 0,H',n')/\Kp H2 n2 H' n') ?_ ?_ ⟨H2,_,rfl,Kp.refl _ _⟩
 ·rintro I j q hlt ⟨H3,n3,rfl,f3⟩ ih
  show JE lfp G (Runs F G) k I (.ptr n 0) v1 (.int .i64 (.ofNat f.pool.names.length) 0) (.int .i64 (.ofNat j) 0) H3 n3
  delta JE
  have h3:=hp2.kp f3
  obtain⟨q,hp',hld⟩:=h3.e1.at (O4 hlt)
  generalize f.pool.names[j]=m at hld
  simp only[go_sem,Nat.reduceAdd,Bh,hlt,decide_true,hp',Lh hld,Z8,Iw]
  cases h1:decide (60<m.1)with
  |true=>simp only[go_sem];exact hk _ _ _ (f12.trans f3)
  |false=>
  simp only[go_sem,DJ (show j+1<9223372036854775808 by unfold big at hbig;omega)]
  exact ih _ ⟨_,_,rfl,f3⟩
 ·rintro I q ⟨H3,n3,rfl,f3⟩
  show JE lfp G (Runs F G) k I (.ptr n 0) v1 (.int .i64 (.ofNat f.pool.names.length) 0) (.int .i64 (.ofNat f.pool.names.length) 0) H3 n3
  delta JE
  have:=f3.le
  simp only[go_sem,Bh,Nat.lt_irrefl,decide_false]
  exact AEp (hp2.kp f3) (hb2.kp f3) (by omega) (f3.get g2 (by omega)) λr H' n' f=>hk _ _ _ (f12.trans (f3.trans f))
theorem APB{G:AX}{H:Heap}{n:Nat}{v:V}{BM:List Fl}(h:Jf G H n v BM){k:KV}(hk:∀r H' n',Kp H n H' n'->(r=true->BM.length<=8)->k (.bool r) H' n'):Runs F G je [v] H n k:=by
 refine BL (s:=MZ (Pj lfp G)) Wi (by obtain⟨h,o⟩:=iG BK G;rw[Wi]at h;cases h;exact o) ?_
 show Pj lfp G (Runs F G) v H n k
 delta Pj
 have hbig:=h.lt
 simp only[go_sem,h.len]
 refine BN (N:=BM.length) (J:=λj q=>∃H' n',q=(v,v,.int .i64 (.ofNat BM.length) 0,.int .i64 (.ofNat j) 0,H',n')/\Kp H n H' n') ?_ ?_ ⟨H,_,rfl,Kp.refl _ _⟩
 ·rintro I j q hlt ⟨H3,n3,rfl,f3⟩ ih
  show LJ lfp G (Runs F G) k I v v (.int .i64 (.ofNat BM.length) 0) (.int .i64 (.ofNat j) 0) H3 n3
  delta LJ
  obtain⟨q,vf,vm,v0,v1,v2,v3,v4,vb,mws,ws,bws,hp,hld,hfile⟩:=(h.ke f3.ke).at hlt
  generalize BM[j]=m at hld hfile
  simp only[go_sem,Nat.reduceAdd,Bh,hlt,decide_true,hp,Bq hld]
  rw[T.set_set]
  have f4':Kp H3 n3 (T.set H3 n3 (one [m.face.nm.v,m.face.sup.v,vf,vm,v0,v1,v2,v3,v4,vb])) (n3+1):=(Kp.refl _ _).new _ (Nat.le_refl _) (by omega)
  have g4:=T.Ai H3 n3 (one [m.face.nm.v,m.face.sup.v,vf,vm,v0,v1,v2,v3,v4,vb])
  generalize T.set H3 n3 (one [m.face.nm.v,m.face.sup.v,vf,vm,v0,v1,v2,v3,v4,vb])=H4 at f4' g4
  refine AOs (f:=m) ⟨_,vf,vm,v0,v1,v2,v3,v4,vb,mws,ws,bws,hfile.ke f4'.ke,rfl⟩ λr H5 n5 f5=>?_
  have f6:=f3.trans (f4'.trans f5)
  simp only[go_sem,Bl]
  cases r with
  |false=>simp only[Bool.not_false,go_sem];exact hk _ _ _ f6 (λh=>by cases h)
  |true=>
   simp only[Bool.not_true,go_sem,DJ (show j+1<9223372036854775808 by unfold big at hbig;omega)]
   exact ih _ ⟨_,_,rfl,f6⟩
 ·rintro I q ⟨H3,n3,rfl,f3⟩
  show LJ lfp G (Runs F G) k I v v (.int .i64 (.ofNat BM.length) 0) (.int .i64 (.ofNat BM.length) 0) H3 n3
  delta LJ
  simp only[go_sem,Bh,Nat.lt_irrefl,decide_false]
  delta Ud
  simp only[go_sem,h.len,ADs]
  refine hk _ _ _ f3 λh=>?_
  have:=of_decide_eq_true h
  show BM.length<=8
  have h2:(BM.length:Int)<=8:=this
  omega
noncomputable def AE5(G:AX):AX:=λb off m=>
 Bool.rec (motive:=λ_=>Option LV) (G b off m) (some [.int .i32 (.ofNat (AGP.getD (off/2) 0)) 0]) (band (Nat.beq b 0) (band (Nat.beq m 1) (band (Nat.beq (off%2) 1) (Nat.ble off 65))))
theorem ALi{G:AX}(hO:mF G):AE5 G=G:=by
 funext b off m
 unfold AE5
 cases hb:band (Nat.beq b 0) (band (Nat.beq m 1) (band (Nat.beq (off%2) 1) (Nat.ble off 65)))with
 |false=>rfl
 |true=>
  simp only[BP,Bool.and_eq_true,beq_iff,Nat.ble_eq]at hb
  obtain⟨rfl,rfl,h1,h2⟩:=hb
  have:=hO (off/2) (by omega)
  rw[show off/2*2+1=off by omega]at this
  exact this.symm
theorem AHi(G:AX):ASR (FS (lpF 300) (AE5 G)) 300 WX [] .e 0 isT=True:=by kernel_rfl
theorem ANU{G:AX}(hO:mF G){k:KV}(hk:∀H' n',k (.bool true) H' n'):Runs F G WX [] .e 0 k:=by
 have h:=AHi G
 rw[ALi hO]at h
 exact ALC (k:=isT) (λv H n hv=>by have:=AOX hv;subst this;exact hk H n) (AI9 (AUE (ASQ 300) G) 300 _ _ _ _ _ (of_eq_true h))
section
variable{a b:Tab}
end
def dX(cs:List Fc)(s:St):Option Fc:=cs.find? λc=>decide (c.nm=s)
theorem AF9{cs:List Fc}{s:St}(h:s∉cs.map (λc=>c.nm)):dX cs s=none:=by
 unfold dX
 rw[List.find?_eq_none]
 intro c hc hd
 exact h (List.mem_map.2 ⟨c,hc,of_decide_eq_true hd⟩)
theorem AAN:∀(cs:List Fc) (fs:Tab) (s:St),(cs.map λc=>c.nm).Nodup->Cj (XC fs cs) s=(match dX cs s with|some c=>some c|none=>Cj fs s)
 |[],_,_,_=>rfl
 |c::cs,fs,s,h=>by
  rw[List.map_cons,List.nodup_cons]at h
  show Cj (XC (Vp c.nm c fs) cs) s=_
  rw[AAN cs _ s h.2,Q8]
  unfold dX
  rw[List.find?_cons]
  by_cases e:c.nm=s
  ·subst e
   have:=AF9 h.1
   unfold dX at this
   rw[this]
   simp
  ·simp[e]
theorem AKk{cs:List Fc}(h:(cs.map λc=>c.nm).Nodup)(s:St):Cj (Fh cs) s=dX cs s:=by
 unfold Fh;rw[AAN cs [] s h];cases dX cs s<;>rfl
theorem AGr{cs:List Fc}(h:(cs.map λc=>c.nm).Nodup){s:St}{c:Fc}:dX cs s=some c↔c∈cs/\c.nm=s:=by
 induction cs with
 |nil=>simp[dX]
 |cons d cs ih=>
  rw[List.map_cons,List.nodup_cons]at h
  have ih:=ih h.2
  unfold dX at ih⊢
  rw[List.find?_cons]
  by_cases e:d.nm=s
  ·simp only[e,decide_true,Option.some.injEq,List.mem_cons]
   constructor
   ·rintro rfl;exact⟨.inl rfl,e⟩
   ·rintro⟨rfl|hc,h2⟩
    ·rfl
    ·exact absurd (List.mem_map.2 ⟨c,hc,h2.trans e.symm⟩) h.1
  ·simp only[e,decide_false,List.mem_cons]
   rw[ih]
   constructor
   ·rintro⟨h1,h2⟩;exact⟨.inr h1,h2⟩
   ·rintro⟨rfl|h1,h2⟩
    ·exact absurd h2 e
    ·exact⟨h1,h2⟩
theorem ACY:∀(BM:List Fl) (acc:List (St×Fl)),WH acc BM=0↔(∀f∈BM,OJ f=true)/\(KH BM).Nodup/\∀f∈BM,Cj acc f.face.nm=none
 |[],_=>by simp[WH]
 |f::fs,acc=>by
  unfold WH
  have ih:=ACY fs (Vp f.face.nm f acc)
  cases h1:OJ f with
  |false=>
   simp only[Bool.not_false,cond_true]
   constructor
   ·intro h;cases h
   ·intro h;have:=h.1 f (List.mem_cons_self ..);rw[h1]at this;cases this
  |true=>
   simp only[Bool.not_true,cond_false]
   cases h2:Cj acc f.face.nm with
   |some x=>
    simp only[Option.isSome_some,cond_true]
    constructor
    ·intro h;cases h
    ·intro h;have:=h.2.2 f (List.mem_cons_self ..);rw[h2]at this;cases this
   |none=>
    simp only[Option.isSome_none,cond_false]
    rw[ih]
    simp only[KH,List.map_cons,List.nodup_cons,List.mem_cons,forall_eq_or_imp,Q8]
    constructor
    ·rintro⟨a1,a2,a3⟩
     refine⟨⟨h1,a1⟩,⟨?_,a2⟩,h2,λg hg=>?_⟩
     ·intro hm
      obtain⟨g,hg,e⟩:=List.mem_map.1 hm
      have:=a3 g hg
      rw[if_pos e.symm]at this;cases this
     ·have:=a3 g hg
      split at this
      ·cases this
      ·exact this
    ·rintro⟨⟨_,a1⟩,⟨a4,a2⟩,_,a3⟩
     refine⟨a1,a2,λg hg=>?_⟩
     rw[if_neg]
     ·exact a3 g hg
     ·intro e;exact a4 (List.mem_map.2 ⟨g,hg,e.symm⟩)
structure Fit(BM:List Fl):Prop where
 len:BM.length<=200
 ok:∀f∈BM,OJ f=true
 apart:(KH BM).Nodup
 stand:∀f∈BM,QV (Fh (CS BM)) f.face.nm=0/\gX (Fh (CS BM)) f.pool=true
theorem AJE(f l1 c1 c2:Nat):AAT (f+1) l1 c1 0 c2=false:=rfl
theorem APS(f c1 l2 c2:Nat):AAT (f+1) 0 c1 (l2+1) c2=true:=rfl
theorem AJl(f l1 c1 l2 c2:Nat):AAT (f+1) (l1+1) c1 (l2+1) c2=if c1%256=c2%256 then AAT f l1 (c1/256) l2 (c2/256)else decide (c1%256<c2%256):=by
 show Bool.rec (motive:=λ_=>Bool) (Nat.blt (c1%256) (c2%256)) (AAT f l1 (c1/256) l2 (c2/256)) (Nat.beq (c1%256) (c2%256))=_
 by_cases h:c1%256=c2%256
 ·rw[if_pos h,show Nat.beq (c1%256) (c2%256)=true by simp[h]]
 ·rw[if_neg h,show Nat.beq (c1%256) (c2%256)=false by rw[Bool.eq_false_iff];simp[h]]
  show Nat.blt (c1%256) (c2%256)=_
  rw[Bool.eq_iff_iff,Nat.blt_eq];simp
theorem zF:∀(f l c:Nat),AAT f l c l c=false
 |0,_,_=>rfl
 |f+1,0,c=>rfl
 |f+1,l+1,c=>by rw[AJl,if_pos rfl];exact zF f l _
theorem AB9:∀(f g h l1 c1 l2 c2 l3 c3:Nat),l2<f->l3<g->l3<h->AAT f l1 c1 l2 c2=true->AAT g l2 c2 l3 c3=true->AAT h l1 c1 l3 c3=true
 |0,_,_,_,_,_,_,_,_,h,_,_,_,_=>by omega
 |_,0,_,_,_,_,_,_,_,_,h,_,_,_=>by omega
 |_,_,0,_,_,_,_,_,_,_,_,h,_,_=>by omega
 |f+1,g+1,h+1,l1,c1,0,c2,l3,c3,_,_,_,h1,_=>by rw[AJE]at h1;cases h1
 |f+1,g+1,h+1,l1,c1,l2+1,c2,0,c3,_,_,_,_,h2=>by rw[AJE]at h2;cases h2
 |f+1,g+1,h+1,0,c1,l2+1,c2,l3+1,c3,_,_,_,_,_=>APS ..
 |f+1,g+1,h+1,l1+1,c1,l2+1,c2,l3+1,c3,a1,a2,a3,h1,h2=>by
  rw[AJl]at h1 h2⊢
  by_cases e1:c1%256=c2%256
  ·rw[if_pos e1]at h1
   by_cases e2:c2%256=c3%256
   ·rw[if_pos e2]at h2
    rw[if_pos (e1.trans e2)]
    exact AB9 f g h _ _ _ _ _ _ (by omega) (by omega) (by omega) h1 h2
   ·rw[if_neg e2]at h2
    have:=of_decide_eq_true h2
    rw[if_neg (by omega)];exact decide_eq_true (by omega)
  ·rw[if_neg e1]at h1
   have:=of_decide_eq_true h1
   by_cases e2:c2%256=c3%256
   ·rw[if_neg (by omega)];exact decide_eq_true (by omega)
   ·rw[if_neg e2]at h2
    have:=of_decide_eq_true h2
    rw[if_neg (by omega)];exact decide_eq_true (by omega)
def ltS(a b:St):Prop:=slt a.1 a.2 b.1 b.2=true
theorem AIh(a:St):¬ltS a a:=by unfold ltS slt;rw[zF];simp
theorem AK1{a b c:St}(h:ltS a b)(h2:ltS b c):ltS a c:=AB9 _ _ _ _ _ _ _ _ _ (Nat.lt_succ_self _) (Nat.lt_succ_self _) (Nat.lt_succ_self _) h h2
theorem APj{a b:St}(h:(!leS a b)=true):ltS b a:=by
 unfold leS at h
 show slt b.1 b.2 a.1 a.2=true
 cases hs:slt b.1 b.2 a.1 a.2 with
 |true=>rfl
 |false=>rw[hs]at h;cases h
theorem ACC:∀(ms:List DK) (a:St),NU a ms=true->∀m∈ms,ltS a m.nm
 |[],_,_,m,h=>by cases h
 |x::ms,a,h,m,hm=>by
  unfold NU at h
  simp only[Bool.and_eq_true]at h
  have h0:=APj h.1
  rcases List.mem_cons.1 hm with rfl|hm
  ·exact h0
  ·exact AK1 h0 (ACC ms x.nm h.2.2.2.2.2 m hm)
theorem ABY:∀(ms:List DK) (a:St),NU a ms=true->∀m∈ms,RH m.nm ms=some m
 |[],_,_,m,h=>by cases h
 |x::ms,a,h,m,hm=>by
  unfold NU at h
  simp only[Bool.and_eq_true]at h
  unfold RH
  rcases List.mem_cons.1 hm with rfl|hm
  ·simp
  ·have hlt:=ACC ms x.nm h.2.2.2.2.2 m hm
   have hne:¬(x.nm.1=m.nm.1/\x.nm.2=m.nm.2):=λe=>by
    have e:x.nm=m.nm:=Prod.ext e.1 e.2
    rw[e]at hlt;exact AIh _ hlt
   rw[decide_eq_false hne]
   exact ABY ms x.nm h.2.2.2.2.2 m hm
theorem AA9:∀l:List Ty,gY l l=true
 |[]=>rfl
 |a::l=>by unfold gY Ty.is;rw[AA9 l];simp
theorem AKW(m:DK):m.same m=true:=by unfold DK.same Ty.is;rw[AA9];simp
theorem ABV:∀(m:Nat) (fs:Tab) (out:List St) (s:St),∃r,(IJ m fs out s).1=out++r
 |0,_,out,_=>⟨[],by simp[IJ]⟩
 |m+1,fs,out,s=>by
  unfold IJ
  cases decide (s.1=0/\s.2=0)with
  |true=>exact⟨[],by simp⟩
  |false=>
   simp only[cond_false]
   cases Cj fs s with
   |none=>exact⟨[],by simp⟩
   |some c=>
    show ∃r,(bif jK s out then(out,false)else IJ m fs (out++[s]) c.sup).1=out++r
    cases jK s out with
    |true=>exact⟨[],by simp⟩
    |false=>
     obtain⟨r,h⟩:=ABV m fs (out++[s]) c.sup
     exact⟨s::r,by simp only[cond_false];rw[h];simp⟩
theorem ACb{fs:Tab}{s:St}{c:Fc}(h:Cj fs s=some c)(h0:¬(s.1=0/\s.2=0)):∃r,(above fs s).1=s::r:=by
 unfold above IJ
 rw[decide_eq_false h0,h]
 show ∃r,(IJ fs.length fs [s] c.sup).1=s::r
 obtain⟨r,h⟩:=ABV fs.length fs [s] c.sup
 exact⟨r,h⟩
theorem Xn{f:Fl}(h:OJ f=true):Ur f.face=true:=by unfold OJ at h;rw[Bool.and_eq_true]at h;exact h.1
theorem ADq{c:Fc}(h:Ur c=true):¬(c.nm.1=0/\c.nm.2=0):=by
 unfold Ur at h
 simp only[Bool.and_eq_true]at h
 have:=h.1
 unfold oD upper at this
 simp at this
 omega
theorem AKR{c:Fc}(h:Ur c=true):NU (0,0) c.ms=true:=by
 unfold Ur at h
 simp only[Bool.and_eq_true]at h
 exact h.2.2.2.2.2.2.2
end Go.RL
