/- Part of a proof: texts VVH VVI VUB VVJ VVK LRF LRG LRH of the engine and what is proved with it; nothing is assumed. -/
import Derived.Test.YtibbhhkcjjeclaaDoorConD
import Derived.Test.YtibbhhkcjjeclaaDoorConB
import Derived.Test.YtibbhhkcjjeclaaDoorWalk
set_option linter.unusedVariables false
set_option linter.unusedSimpArgs false
namespace Go.RL
open Go.CS
set_option maxRecDepth 100000
end Go.RL
namespace Go.RL
open Go.CS
set_option maxRecDepth 100000
theorem ABL:∀(cs:List Fc) (fs:Tab) (s:St) (c:Fc),(∀s c,EO fs s=some c->c.nm=s)->EO (ZF fs cs) s=some c->c.nm=s
 |[],_,_,_,h,e=>h _ _ e
 |d::cs,fs,s,c,h,e=>ABL cs (VU d.nm d fs) s c (λs c e=>by
  rw[Uw]at e
  by_cases hd:d.nm=s
  ·rw[if_pos hd]at e;cases e;exact hd
  ·rw[if_neg hd]at e;exact h s c e) e
theorem ALR{cs:List Fc}{s:St}{c:Fc}(e:EO (J4 cs) s=some c):c.nm=s:=ABL cs [] s c (λ_ _ h=>by cases h) e
theorem kX:∀(fls:List Fl) (acc:List (St×Fl)),XZ acc fls=0->∀f∈fls,PK f=true
 |[],_,_,_,h=>by cases h
 |g::fls,acc,e,f,h=>by
  unfold XZ at e
  cases hg:PK g with
  |false=>rw[hg]at e;simp at e
  |true=>
   rw[hg]at e
   cases hl:(EO acc g.face.nm).isSome with
   |true=>rw[hl]at e;simp at e
   |false=>
    rw[hl]at e
    rcases List.mem_cons.1 h with rfl|h
    ·exact hg
    ·exact kX fls _ e f h
theorem AEe(t:Tab):∀(fls:List Fl),link2 t fls=0->∀f∈fls,Wp t f.face.nm=0
 |[],_,_,h=>by cases h
 |g::fls,e,f,h=>by
  unfold link2 at e
  cases hg:Wp t g.face.nm==0 with
  |false=>
   rw[hg]at e
   have e:Wp t g.face.nm=0:=e
   rw[e]at hg;cases hg
  |true=>
   rw[hg]at e
   cases hp:AEc t g.pool with
   |false=>rw[hp]at e;simp at e
   |true=>
    rw[hp]at e
    rcases List.mem_cons.1 h with rfl|h
    ·exact eq_of_beq hg
    ·exact AEe t fls e f h
theorem AFu{t:Tab}{s:St}(h:Wp t s=0):(above t s).2=true:=by
 unfold Wp at h
 cases hl:EO t s with
 |none=>rw[hl]at h;simp at h
 |some c=>
  rw[hl]at h
  cases ha:(above t s).2 with
  |true=>rfl
  |false=>
   simp only[ha]at h
   cases h0:decide (s.1=0/\s.2=0)<;>rw[h0]at h<;>try (simp at h;done)
   cases h1:iM ((EO t (lastOf (above t s).1)).getD Fp).sup (above t s).1<;>rw[h1]at h<;>simp at h
theorem TQ{fls:List Fl}(h:fV fls=0):fls.length<=200/\XZ [] fls=0/\link2 (J4 (EF fls)) fls=0:=by
 unfold fV at h
 cases h1:decide (200<fls.length)with
 |true=>rw[h1]at h;simp at h
 |false=>
  rw[h1]at h
  have h1:=of_decide_eq_false h1
  cases h2:XZ [] fls==0 with
  |false=>
   rw[h2]at h
   have h:XZ [] fls=0:=h
   rw[h]at h2;cases h2
  |true=>
   rw[h2]at h
   exact⟨by omega,eq_of_beq h2,h⟩
theorem ACd{fls:List Fl}{s:St}{c:Fc}(e:EO (J4 (EF fls)) s=some c):∃f∈fls,f.face=c/\c.nm=s:=by
 obtain⟨f,hf,rfl⟩:=List.mem_map.1 (ACE e)
 exact⟨f,hf,rfl,ALR e⟩
theorem AAH{fls:List Fl}(h:fV fls=0):Whole (J4 (EF fls)):=λs c e=>by
 obtain⟨-,-,h2⟩:=TQ h
 obtain⟨f,hf,rfl,rfl⟩:=ACd e
 exact AFu (AEe _ _ h2 f hf)
theorem AAP{fls:List Fl}(h:fV fls=0):Upper (J4 (EF fls)):=λs c e=>by
 obtain⟨-,h1,-⟩:=TQ h
 obtain⟨f,hf,rfl,rfl⟩:=ACd e
 have:=kX _ _ h1 f hf
 unfold PK Wh at this
 simp only[Bool.and_eq_true]at this
 exact this.1.1
theorem nU:∀(cs:List Fl) (fs:List (St×Fl)) (s:St) (c:Fl),EO (TB fs cs) s=some c->(c∈cs/\c.face.nm=s)∨EO fs s=some c
 |[],_,_,_,h=>.inr h
 |d::cs,fs,s,c,h=>by
  rcases nU cs _ s c h with h|h
  ·exact .inl ⟨List.mem_cons_of_mem _ h.1,h.2⟩
  ·rw[Uw]at h
   split at h
   ·rename_i e;cases h;exact .inl ⟨List.mem_cons_self ..,e⟩
   ·exact .inr h
theorem AI1{fls:List Fl}{s:St}{f:Fl}(h:EO (KH fls) s=some f):f∈fls/\f.face.nm=s:=by
 rcases nU fls [] s f h with h|h
 ·exact h
 ·cases h
theorem iw:∀(cs:List Fl) (fs:List (St×Fl)) (s:St),(EO fs s).isSome=true∨s∈IW cs->(EO (TB fs cs) s).isSome=true
 |[],_,_,h=>h.resolve_right List.not_mem_nil
 |d::cs,fs,s,h=>iw cs _ s (by
  rw[Uw]
  by_cases e:d.face.nm=s
  ·rw[if_pos e];exact .inl rfl
  ·rw[if_neg e]
   rcases h with h|h
   ·exact .inl h
   ·exact .inr ((List.mem_cons.1 h).resolve_left (Ne.symm e)))
theorem AHG{fls:List Fl}{s:St}(h:s∈IW fls):∃f,EO (KH fls) s=some f:=Option.isSome_iff_exists.1 (iw fls [] s (.inr h))
theorem AB9{p:Pool}:∀{ms:List ES} {bs:List Bd} (j:Nat) (m:ES) (b:Bd),WT p ms bs=true->ms[j]? =some m->bs[j]? =some b->pq p m b=true
 |[],_,_,_,_,_,h,_=>by simp at h
 |_::_,[],_,_,_,_,_,h=>by simp at h
 |x::ms,y::bs,0,m,b,h,h1,h2=>by
  simp only[List.getElem?_cons_zero,Option.some.injEq]at h1 h2
  subst h1;subst h2
  unfold WT at h
  exact(Bool.and_eq_true .. ▸h).1
 |x::ms,y::bs,j+1,m,b,h,h1,h2=>by
  unfold WT at h
  exact AB9 j m b (Bool.and_eq_true .. ▸h).2 (by simpa using h1) (by simpa using h2)
theorem o9{f:Fl}(h:PK f=true):f.bodies.length=f.face.ms.length/\∀(j:Nat) (m:ES) (bd:Bd),f.face.ms[j]? =some m->f.bodies[j]? =some bd->NQ f.pool m bd:=by
 unfold PK at h
 simp only[Bool.and_eq_true,decide_eq_true_eq]at h
 exact⟨h.2.2.1,λj m bd h1 h2=>AGA (AB9 j m bd h.2.2.2 h1 h2)⟩
theorem AMt{fs:Tab}{K:Nat}(a:JU)(h:∀o∈a,AEM fs K o<=K):allH fs K a<=a.length*K:=by
 unfold allH
 induction a with
 |nil=>simp
 |cons o a ih=>
  have h1:=h o (List.mem_cons_self ..)
  have h2:=ih λx hx=>h x (List.mem_cons_of_mem _ hx)
  simp only[List.map_cons,List.sum_cons,List.length_cons,Nat.add_mul,Nat.one_mul];omega
theorem AQ3{fs:Tab}{f:Fl}{m:ES}{bd:Bd}{c:St}(hw:Whole fs)(hu:Upper fs)(hfs:fs.length<=200)(h:NQ f.pool m bd):∃r,sS (cxF fs f m bd) (RY c m bd) r:=by
 have hN:0<bd.code.length:=by have:=h.c0;omega
 have hlen:(RY c m bd).loc.length=bd.locals.toNat:=by
  have h1:=lV c m
  have h2:=h.lo
  show(uq c m++m.ps++List.replicate _ BI).length=_
  simp only[List.length_append,List.length_replicate];omega
 have inv:Inv2 bd.locals.toNat bd.stack.toNat (at0 bd.code.length (RY c m bd)):=by
  refine⟨λi s hs=>?_,λi s hs=>?_⟩
  ·rw[(Rt hN hs).2];exact hlen
  ·rw[(Rt hN hs).2];exact Nat.zero_le _
 have hl:(at0 bd.code.length (RY c m bd)).length=bd.code.length:=uG
 have ATR:2*allH fs (Ji fs bd.locals.toNat bd.stack.toNat) (at0 bd.code.length (RY c m bd))+[0].length<20000000000:=by
  have h1:=AMt (fs:=fs) (K:=Ji fs bd.locals.toNat bd.stack.toNat) (at0 bd.code.length (RY c m bd)) λo ho=>by
   obtain⟨i,hi⟩:=List.getElem?_of_mem ho
   cases o with
   |none=>exact Nat.le_refl _
   |some s=>exact Nat.le_of_lt (AHo (inv.loc i s hi) (inv.stk i s hi))
  rw[hl]at h1
  have h2:Ji fs bd.locals.toNat bd.stack.toNat<=287206:=by
   unfold Ji
   have a1:=h.hi
   have a2:=h.s1
   have:(bd.locals.toNat+bd.stack.toNat)*(fs.length+5)<=1401*205:=Nat.mul_le_mul (by omega) (by omega)
   omega
  have h3:bd.code.length*Ji fs bd.locals.toNat bd.stack.toNat<=16384*287206:=Nat.mul_le_mul h.c1 h2
  show 2*_+1<_
  omega
 obtain⟨r,hr⟩:=ABz (c:=cxF fs f m bd) hw hu (L:=bd.locals.toNat) 20000000000 (at0 bd.code.length (RY c m bd)) [0] ATR hl inv (λi hi=>by rw[List.mem_singleton.1 hi];exact⟨hN,_,AGj hN⟩)
 exact⟨r,20000000000,hr,by omega⟩
theorem ACs{fls:List Fl}(h:fV fls=0):(J4 (EF fls)).length<=200:=by
 have h1:=kF (EF fls) []
 have h2:=(TQ h).1
 unfold J4
 rw[List.length_map]at h1
 simp only[List.length_nil,Nat.zero_add]at h1
 omega
def AHi(fls:List Fl)(R:Fl->Nat->Int):Prop:=∀f∈fls,∀(j:Nat) (m:ES) (bd:Bd),f.face.ms[j]? =some m->f.bodies[j]? =some bd->sS (cxF (J4 (EF fls)) f m bd) (RY f.face.nm m bd) (R f j)
theorem AJ7{fls:List Fl}(h:fV fls=0):∃R,AHi fls R:=by
 classical
 refine⟨λf j=>if q:∃r,∃m bd,f.face.ms[j]? =some m/\f.bodies[j]? =some bd/\sS (cxF (J4 (EF fls)) f m bd) (RY f.face.nm m bd) r then q.choose else 0,λf hf j m bd h1 h2=>?_⟩
 have hb:=(o9 (kX _ _ (TQ h).2.1 f hf)).2 j m bd h1 h2
 obtain⟨r,hr⟩:=AQ3 (c:=f.face.nm) (AAH h) (AAP h) (ACs h) hb
 have q:∃r,∃m bd,f.face.ms[j]? =some m/\f.bodies[j]? =some bd/\sS (cxF (J4 (EF fls)) f m bd) (RY f.face.nm m bd) r:=⟨r,m,bd,h1,h2,hr⟩
 simp only[dif_pos q]
 obtain⟨m',bd',e1,e2,hr'⟩:=q.choose_spec
 rw[h1]at e1;rw[h2]at e2
 cases e1;cases e2
 exact hr'
theorem AK2{G:AQ}(hG:Oh G){H:Heap}{n m i:Nat}{fls:List Fl}(hl:fV fls=0){R:Fl->Nat->Int}(hR:AHi fls R)(hi:ANV G H n m i fls){k:KV}
 (hk:∀H' n' b,m<=b->Kb b H n H' n'->ANV G H' n' m i fls->k (.agg (X8 (Lm R (KH fls) (IW fls)))) H' n'):Runs F G Ub [.ptr i 0] H n k:=by
 obtain⟨t,a,b,fm,vn,h1,h2,h3,h4,h5,h6,h7,h8,h9,h10,h11⟩:=hi.is
 have hp:=TQ hl
 refine ALO (R:=R) hG h1 (by have:=ACs hl;omega) h2 h3 h4 h5 h6 (by rw[List.length_map];omega) (λs hs=>AHG hs) (λs f hf=>?_) λH' n' f=>?_
 ·obtain⟨hm,-⟩:=AI1 hf
  obtain⟨e1,e2⟩:=o9 (kX _ _ hp.2.1 f hm)
  exact⟨e1,λj m bd q1 q2=>⟨e2 j m bd q1 q2,hR f hm j m bd q1 q2⟩⟩
 ·have e:=f.ke (G:=G) h1.tab.seen
  refine hk H' n' b h10 f ⟨t,a,b,fm,vn,h1.kb f,h2.ke e (f.same _ h3 h4),Nat.lt_of_lt_of_le h3 f.le,h4,h5.ke h6 e,h6.mono f.le,h7,h8,h9,h10,h11⟩
end Go.RL
namespace Go.RL
open Go.CS
set_option maxRecDepth 100000
theorem zJ:∀(l:List Fl) (a:List (St×Fl)) (s:St) (f:Fl),XZ a l=0->EO a s=some f->EO (TB a l) s=some f
 |[],_,_,_,_,h=>h
 |g::l,a,s,f,e,h=>by
  unfold XZ at e
  cases hg:PK g with
  |false=>rw[hg]at e;simp at e
  |true=>
   rw[hg]at e
   cases hl:(EO a g.face.nm).isSome with
   |true=>rw[hl]at e;simp at e
   |false=>
    rw[hl]at e
    refine zJ l _ s f e ?_
    rw[Uw]
    by_cases hs:g.face.nm=s
    ·rw[hs,h]at hl;cases hl
    ·rw[if_neg hs];exact h
theorem ACO:∀(l:List Fl) (a:List (St×Fl)) (f:Fl),XZ a l=0->f∈l->EO (TB a l) f.face.nm=some f
 |[],_,_,_,h=>by cases h
 |g::l,a,f,e,h=>by
  unfold XZ at e
  cases hg:PK g with
  |false=>rw[hg]at e;simp at e
  |true=>
   rw[hg]at e
   cases hl:(EO a g.face.nm).isSome with
   |true=>rw[hl]at e;simp at e
   |false=>
    rw[hl]at e
    rcases List.mem_cons.1 h with rfl|h
    ·exact zJ l _ _ _ e (by rw[Uw,if_pos rfl])
    ·exact ACO l _ f e h
theorem AHX{G:AQ}{H:Heap}{n:Nat}{v:V}{c:Fc}(h:UZ G H n v c){k:KV}(hk:∀r H' n',Kp H n H' n'->k (.bool r) H' n'):Runs F G Wq [v] H n k:=by
 refine BN (s:=KL (Ou lfp G)) VT (by obtain⟨h,o⟩:=bU BO G;rw[VT]at h;cases h;exact o) ?_
 show Ou lfp G (Runs F G) v H n k
 obtain⟨vf,vm,ws,h,rfl⟩:=h
 delta Ou
 refine F9 λH1 f1 g1=>?_
 have hf1:=h.fs.kp f1
 have hm1:=h.ms.kp f1
 have hbig:=hf1.lt
 have hbig2:=hm1.lt
 simp only[go_sem,Nat.reduceAdd,AU (off:=2) g1 (v:=vf) rfl,hf1.len,IL]
 cases h1:decide (12<c.fs.length)with
 |true=>simp only[go_sem];exact hk _ _ _ f1
 |false=>
 simp only[go_sem,Nat.reduceAdd,AU (off:=3) g1 (v:=vm) rfl,hm1.len',IL]
 cases h2:decide (12<c.ms.length)with
 |true=>simp only[go_sem];exact hk _ _ _ f1
 |false=>
 simp only[go_sem,Nat.reduceAdd,AU (off:=0) g1 (v:=c.nm.v) rfl,Yn,IL]
 cases h3:decide (60<c.nm.1)with
 |true=>simp only[go_sem];exact hk _ _ _ f1
 |false=>
 simp only[go_sem,Nat.reduceAdd,AU (off:=1) g1 (v:=c.sup.v) rfl,Yn,IL]
 cases h4:decide (60<c.sup.1)with
 |true=>simp only[go_sem];exact hk _ _ _ f1
 |false=>
 simp only[go_sem,Nat.reduceAdd,AU (off:=2) g1 (v:=vf) rfl,hf1.len]
 refine Bc (N:=c.fs.length) (J:=λj q=>∃H' n',q=(.ptr n 0,vf,.int .i64 (.ofNat c.fs.length) 0,.int .i64 (.ofNat j) 0,H',n')/\Kp H1 (n+1) H' n') ?_ ?_ ⟨H1,_,rfl,Kp.refl _ _⟩
 ·rintro I j q hlt ⟨H3,n3,rfl,f3⟩ ih
  show JO lfp G (Runs F G) k I (.ptr n 0) vf (.int .i64 (.ofNat c.fs.length) 0) (.int .i64 (.ofNat j) 0) H3 n3
  delta JO
  obtain⟨q,hp,hld⟩:=(hf1.kp f3).at hlt
  generalize c.fs[j]=m at hld
  unfold Fld.cells at hld
  have h3n:=f3.le
  simp only[go_sem,Bj,hlt,decide_true,hp,Bl hld,Nat.reduceAdd,Yn,IL]
  rw[T.set_set]
  have f4:=f3.new (m:=n3+1) (id:=n3) (one [m.nm.v,m.ty.nm.v,.bool m.ty.arr]) f3.le (by omega)
  have g4:=T.Ag H3 n3 (one [m.nm.v,m.ty.nm.v,.bool m.ty.arr])
  generalize T.set H3 n3 (one [m.nm.v,m.ty.nm.v,.bool m.ty.arr])=H4 at f4 g4
  cases h1:decide (60<m.nm.1)with
  |true=>simp only[go_sem];exact hk _ _ _ (f1.trans f4)
  |false=>
  simp only[go_sem,Nat.reduceAdd,AU (off:=1) g4 (v:=m.ty.nm.v) rfl,Yn,IL]
  cases h1:decide (60<m.ty.nm.1)with
  |true=>simp only[go_sem];exact hk _ _ _ (f1.trans f4)
  |false=>
  simp only[go_sem,Dl (show j+1<9223372036854775808 by unfold big at hbig;omega)]
  exact ih _ ⟨_,_,rfl,f4⟩
 rintro I q ⟨H3,n3,rfl,f3⟩
 show JO lfp G (Runs F G) k I (.ptr n 0) vf (.int .i64 (.ofNat c.fs.length) 0) (.int .i64 (.ofNat c.fs.length) 0) H3 n3
 delta JO
 have hm3:=hm1.kp f3
 simp only[go_sem,Bj,Nat.lt_irrefl,decide_false]
 delta Qz
 simp only[go_sem,Nat.reduceAdd,AU (off:=3) (f3.get g1 (by omega)) (v:=vm) rfl,hm3.len']
 refine Bc (N:=c.ms.length) (J:=λj q=>∃H' n',q=(vm,.int .i64 (.ofNat c.ms.length) 0,.int .i64 (.ofNat j) 0,H',n')/\Kp H1 (n+1) H' n') ?_ ?_ ⟨H3,_,rfl,f3⟩
 ·rintro I j q hlt ⟨H3,n3,rfl,f3⟩ ih
  show JA lfp G (Runs F G) k I vm (.int .i64 (.ofNat c.ms.length) 0) (.int .i64 (.ofNat j) 0) H3 n3
  delta JA
  obtain⟨q,w,hp,hld,hw⟩:=(hm1.kp f3).at hlt
  generalize c.ms[j]=m at hld hw
  unfold ES.cells at hld
  have h3n:=f3.le
  simp only[go_sem,Bj,hlt,decide_true,hp,Bl hld,Nat.reduceAdd,Yn,IL]
  rw[T.set_set]
  have f4':Kp H3 n3 (T.set H3 n3 (one [m.nm.v,.bool m.st,w,m.ret.nm.v,.bool m.ret.arr])) (n3+1):=(Kp.refl _ _).new _ (Nat.le_refl _) (by omega)
  have g4:=T.Ag H3 n3 (one [m.nm.v,.bool m.st,w,m.ret.nm.v,.bool m.ret.arr])
  generalize T.set H3 n3 (one [m.nm.v,.bool m.st,w,m.ret.nm.v,.bool m.ret.arr])=H4 at f4' g4
  have f4:=f3.trans f4'
  have hw4:=hw.kp f4'
  cases h1:decide (60<m.nm.1)with
  |true=>simp only[go_sem];exact hk _ _ _ (f1.trans f4)
  |false=>
  simp only[go_sem,Nat.reduceAdd,AU (off:=3) g4 (v:=m.ret.nm.v) rfl,Yn,IL]
  cases h1:decide (60<m.ret.nm.1)with
  |true=>simp only[go_sem];exact hk _ _ _ (f1.trans f4)
  |false=>
  simp only[go_sem,Nat.reduceAdd,AU (off:=2) g4 (v:=w) rfl,hw4.len,IL]
  cases h1:decide (10<m.ps.length)with
  |true=>simp only[go_sem];exact hk _ _ _ (f1.trans f4)
  |false=>
  simp only[go_sem,Nat.reduceAdd,AU (off:=2) g4 (v:=w) rfl,hw4.len]
  have hbig3:=hw4.lt
  refine Bc (N:=m.ps.length) (J:=λi q=>∃H' n',q=(vm,.int .i64 (.ofNat c.ms.length) 0,.int .i64 (.ofNat j) 0,w,.int .i64 (.ofNat m.ps.length) 0,.int .i64 (.ofNat i) 0,H',n')/\Kp H4 (n3+1) H' n') ?_ ?_ ⟨H4,_,rfl,Kp.refl _ _⟩
  ·rintro I2 i q hlt ⟨H5,n5,rfl,f5⟩ ih2
   show JL lfp G (Runs F G) k I I2 vm (.int .i64 (.ofNat c.ms.length) 0) (.int .i64 (.ofNat j) 0) w (.int .i64 (.ofNat m.ps.length) 0) (.int .i64 (.ofNat i) 0) H5 n5
   delta JL
   obtain⟨q,hp,hld⟩:=(hw4.kp f5).el.at (NT hlt)
   generalize m.ps[i]=t at hld
   unfold Ty.cells at hld
   simp only[go_sem,Bj,hlt,decide_true,hp,Bl hld,Nat.reduceAdd,Yn,IL]
   rw[T.set_set]
   have f6:=f5.new (m:=n5+1) (id:=n5) (one [t.nm.v,.bool t.arr]) f5.le (by omega)
   cases h1:decide (60<t.nm.1)with
   |true=>simp only[go_sem];exact hk _ _ _ (f1.trans (f4.trans f6))
   |false=>
   simp only[go_sem,Dl (show i+1<9223372036854775808 by unfold big at hbig3;omega)]
   exact ih2 _ ⟨_,_,rfl,f6⟩
  ·rintro I2 q ⟨H5,n5,rfl,f5⟩
   show JL lfp G (Runs F G) k I I2 vm (.int .i64 (.ofNat c.ms.length) 0) (.int .i64 (.ofNat j) 0) w (.int .i64 (.ofNat m.ps.length) 0) (.int .i64 (.ofNat m.ps.length) 0) H5 n5
   delta JL
   simp only[go_sem,Bj,Nat.lt_irrefl,decide_false]
   delta Q7
   simp only[go_sem,Dl (show j+1<9223372036854775808 by unfold big at hbig2;omega)]
   exact ih _ ⟨_,_,rfl,f4.trans f5⟩
 ·rintro I q ⟨H3,n3,rfl,f3⟩
  show JA lfp G (Runs F G) k I vm (.int .i64 (.ofNat c.ms.length) 0) (.int .i64 (.ofNat c.ms.length) 0) H3 n3
  delta JA
  simp only[go_sem,Bj,Nat.lt_irrefl,decide_false]
  delta RJ
  exact hk _ _ _ (f1.trans f3)
theorem add_any(a b:Int):∃c,B2.ev .add (.int .i64 a 0) (.int .i64 b 0)=some (.int .i64 c 0):=⟨jX .i64 (ABp a b),rfl⟩
section
variable{G:AQ}{H0 H:Heap}{n0 n e:Nat}{p:Pool}{bs:List Bd}{c0 c1 c2 c3 v0 v1 v2 v3 v4 vb:V}{ws bws:List V}{k:KV}
theorem ABi(hb:KY G H n vb bs bws)(ge:T.get H e=some (one [c0,c1,c2,c3,v0,v1,v2,v3,v4,vb]))(hk:∀r H' n',Kp H n H' n'->k (.bool r) H' n'):
 MC lfp G (Runs F G) k (.ptr e 0) H n:=by
 delta MC
 have hbig:=hb.lt
 have l4:lenV vb=some (.int .i64 (.ofNat bs.length) 0):=by rw[hb.el.len,List.length_zipWith,hb.len,Nat.min_self]
 simp only[go_sem,Nat.reduceAdd,AU (off:=9) ge (v:=vb) rfl,l4]
 refine Bc (N:=bs.length) (J:=λj q=>∃H' n',q=(vb,.int .i64 (.ofNat bs.length) 0,.int .i64 (.ofNat j) 0,H',n')/\Kp H n H' n') ?_ ?_ ⟨H,_,rfl,Kp.refl _ _⟩
 ·rintro I j q hlt ⟨H3,n3,rfl,f3⟩ ih
  show JI lfp G (Runs F G) k I vb (.int .i64 (.ofNat bs.length) 0) (.int .i64 (.ofNat j) 0) H3 n3
  delta JI
  have hb3:=hb.kp f3
  have hw:j<bws.length:=by rw[hb.len];exact hlt
  obtain⟨q,hp',hld⟩:=hb3.el.at (i:=j) (c:=bs[j].cells bws[j]) (by rw[List.getElem?_zipWith];simp[hlt,hw])
  have hc:=hb3.at' j _ _ (List.getElem?_eq_getElem hlt) (List.getElem?_eq_getElem hw)
  generalize bs[j]=m at hld hc
  generalize bws[j]=w at hld hc
  unfold Bd.cells at hld
  have lw:lenV w=some (.int .i64 (.ofNat m.code.length) 0):=by rw[hc.el.len,List.length_map]
  simp only[go_sem,Nat.reduceAdd,Bj,hlt,decide_true,hp',Bl hld,lw,IL]
  rw[T.set_set]
  have f4:=f3.new (m:=n3+1) (id:=n3) (one [.int .i64 m.locals 0,.int .i64 m.stack 0,w]) f3.le (by omega)
  cases h1:decide (60<m.code.length)with
  |true=>simp only[go_sem];exact hk _ _ _ f4
  |false=>
  simp only[go_sem,Dl (show j+1<9223372036854775808 by unfold big at hbig;omega)]
  exact ih _ ⟨_,_,rfl,f4⟩
 ·rintro I q ⟨H3,n3,rfl,f3⟩
  show JI lfp G (Runs F G) k I vb (.int .i64 (.ofNat bs.length) 0) (.int .i64 (.ofNat bs.length) 0) H3 n3
  delta JI
  simp only[go_sem,Bj,Nat.lt_irrefl,decide_false]
  delta Qw
  exact hk _ _ _ f3
theorem ADH(h:IG G H n p v0 v1 v2 v3 v4 ws)(hb:KY G H n vb bs bws)(he:e<n)(ge:T.get H e=some (one [c0,c1,c2,c3,v0,v1,v2,v3,v4,vb]))(hk:∀r H' n',Kp H n H' n'->k (.bool r) H' n'):
 MB lfp G (Runs F G) k (.ptr e 0) H n:=by
 delta MB
 have hbig:=h.b4
 have l4:lenV v4=some (.int .i64 (.ofNat p.Bv.length) 0):=by rw[h.e4.len,List.length_zipWith,h.vJ,Nat.min_self]
 simp only[go_sem,Nat.reduceAdd,AU (off:=8) ge (v:=v4) rfl,l4]
 refine Bc (N:=p.Bv.length) (J:=λj q=>∃H' n',q=(.ptr e 0,v4,.int .i64 (.ofNat p.Bv.length) 0,.int .i64 (.ofNat j) 0,H',n')/\Kp H n H' n') ?_ ?_ ⟨H,_,rfl,Kp.refl _ _⟩
 ·rintro I j q hlt ⟨H3,n3,rfl,f3⟩ ih
  show JF lfp G (Runs F G) k I (.ptr e 0) v4 (.int .i64 (.ofNat p.Bv.length) 0) (.int .i64 (.ofNat j) 0) H3 n3
  delta JF
  have h3:=h.kp f3
  have h3n:=f3.le
  have hw:j<ws.length:=by rw[h.vJ];exact hlt
  obtain⟨q,hp',hld⟩:=h3.e4.at (i:=j) (c:=p.Bv[j].cells ws[j]) (by rw[List.getElem?_zipWith];simp[hlt,hw])
  have hty:=h3.at4 j _ _ (List.getElem?_eq_getElem hlt) (List.getElem?_eq_getElem hw)
  have hok:=h3.o4 _ (List.getElem_mem hlt)
  generalize p.Bv[j]=m at hld hty hok
  generalize ws[j]=w at hld hty
  unfold PM.cells at hld
  simp only[go_sem,Nat.reduceAdd,Bj,hlt,decide_true,hp',Bl hld,Yn,IL]
  rw[T.set_set]
  have f4':Kp H3 n3 (T.set H3 n3 (one [m.m.nm.v,.bool m.m.st,w,m.m.ret.nm.v,.bool m.m.ret.arr,m.own.v])) (n3+1):=(Kp.refl _ _).new _ (Nat.le_refl _) (by omega)
  have g4:=T.Ag H3 n3 (one [m.m.nm.v,.bool m.m.st,w,m.m.ret.nm.v,.bool m.m.ret.arr,m.own.v])
  generalize T.set H3 n3 (one [m.m.nm.v,.bool m.m.st,w,m.m.ret.nm.v,.bool m.m.ret.arr,m.own.v])=H4 at f4' g4
  have f4:=f3.trans f4'
  cases h1:decide (60<m.own.1)with
  |true=>simp only[go_sem];exact hk _ _ _ f4
  |false=>
  simp only[go_sem,Nat.reduceAdd,show Af 5 (.ptr n3 0) G H4=some (.agg [m.m.nm.v,.bool m.m.st,w,m.m.ret.nm.v,.bool m.m.ret.arr])from F8 g4 (by omega) (by show 5<=6;omega)]
  rw[vg (z:=5) (L:=[m.m.nm.v,.bool m.m.st,w,m.m.ret.nm.v,.bool m.m.ret.arr]) rfl]
  have hcap:=T.Ag H4 (n3+1) (.arr 5 1 (T.set (T.set .e 0 [.str 0 0,.bool false,.Ae,.str 0 0,.bool false]) 0 [m.m.nm.v,.bool m.m.st,w,m.m.ret.nm.v,.bool m.m.ret.arr]))
  have f5:Kp H4 (n3+1) (T.set H4 (n3+1) (.arr 5 1 (T.set (T.set .e 0 [.str 0 0,.bool false,.Ae,.str 0 0,.bool false]) 0 [m.m.nm.v,.bool m.m.st,w,m.m.ret.nm.v,.bool m.m.ret.arr]))) (n3+1+1):=(Kp.refl _ _).new _ (Nat.le_refl _) (by omega)
  generalize T.set H4 (n3+1) (.arr 5 1 (T.set (T.set .e 0 [.str 0 0,.bool false,.Ae,.str 0 0,.bool false]) 0 [m.m.nm.v,.bool m.m.st,w,m.m.ret.nm.v,.bool m.m.ret.arr]))=H5 at f5 hcap
  rw[show BX [.str 0 0,.str 0 0,.Ae,.Ae] [(3,1,.c (.sl (n3+1) 0 1 1 5))]=some (.agg [.str 0 0,.str 0 0,.Ae,.sl (n3+1) 0 1 1 5])from rfl,AV]
  refine AHX (c:=⟨(0,0),(0,0),[],[m.m]⟩) ⟨.Ae,.sl (n3+1) 0 1 1 5,[w],⟨rfl,⟨⟨rfl,rfl⟩,(λid h=>by cases h),(by show 0<big;decide),(λf h=>by cases h)⟩,⟨cZ (by omega) rfl hcap,(λid h=>by cases h;omega),(by show 1<big;decide),rfl,?_,?_⟩,?_⟩,rfl⟩ λr H' n' f=>?_
  ·intro i m' w' h1 h2
   cases i with
   |zero=>simp at h1 h2;subst h1 h2;exact hty.kp (f4'.trans f5)
   |succ i=>simp at h1
  ·intro m' h;simp at h;subst h;exact⟨hok.1,hok.2.1⟩
  ·exact⟨λ_=>rfl,λ_=>rfl⟩
  ·have f6:=f4.trans (f5.trans f)
   simp only[go_sem,BL]
   cases r with
   |false=>simp only[Bool.not_false,go_sem];exact hk _ _ _ f6
   |true=>
    simp only[Bool.not_true,go_sem,Dl (show j+1<9223372036854775808 by unfold big at hbig;omega)]
    exact ih _ ⟨_,_,rfl,f6⟩
 ·rintro I q ⟨H3,n3,rfl,f3⟩
  show JF lfp G (Runs F G) k I (.ptr e 0) v4 (.int .i64 (.ofNat p.Bv.length) 0) (.int .i64 (.ofNat p.Bv.length) 0) H3 n3
  delta JF
  simp only[go_sem,Bj,Nat.lt_irrefl,decide_false]
  exact ABi (hb.kp f3) (f3.get ge he) λr H' n' f=>hk _ _ _ (f3.trans f)
theorem AEz(h:IG G H n p v0 v1 v2 v3 v4 ws)(hb:KY G H n vb bs bws)(he:e<n)(ge:T.get H e=some (one [c0,c1,c2,c3,v0,v1,v2,v3,v4,vb]))(hk:∀r H' n',Kp H n H' n'->k (.bool r) H' n'):
 MV lfp G (Runs F G) k (.ptr e 0) H n:=by
 delta MV
 have hbig:=h.b3
 have l3:lenV v3=some (.int .i64 (.ofNat p.fields.length) 0):=by rw[h.e3.len,List.length_map]
 simp only[go_sem,Nat.reduceAdd,AU (off:=7) ge (v:=v3) rfl,l3]
 refine Bc (N:=p.fields.length) (J:=λj q=>∃H' n',q=(.ptr e 0,v3,.int .i64 (.ofNat p.fields.length) 0,.int .i64 (.ofNat j) 0,H',n')/\Kp H n H' n') ?_ ?_ ⟨H,_,rfl,Kp.refl _ _⟩
 ·rintro I j q hlt ⟨H3,n3,rfl,f3⟩ ih
  show JD lfp G (Runs F G) k I (.ptr e 0) v3 (.int .i64 (.ofNat p.fields.length) 0) (.int .i64 (.ofNat j) 0) H3 n3
  delta JD
  have h3:=h.kp f3
  have h3n:=f3.le
  obtain⟨q,hp',hld⟩:=h3.e3.at (i:=j) (c:=p.fields[j].cells) (by simp[hlt])
  generalize p.fields[j]=m at hld
  unfold PF.cells at hld
  obtain⟨x,hx⟩:=add_any (.ofNat m.f.nm.1) (.ofNat m.own.1)
  obtain⟨y,hy⟩:=add_any x (.ofNat m.f.ty.nm.1)
  simp only[go_sem,Nat.reduceAdd,Bj,hlt,decide_true,hp',Bl hld,Yn,hx,hy,AHz]
  rw[T.set_set]
  have f4:=f3.new (m:=n3+1) (id:=n3) (one [m.f.nm.v,m.f.ty.nm.v,.bool m.f.ty.arr,m.own.v]) f3.le (by omega)
  cases h1:decide (Int.ofNat 120<y)with
  |true=>simp only[go_sem];exact hk _ _ _ f4
  |false=>
  simp only[go_sem,Dl (show j+1<9223372036854775808 by unfold big at hbig;omega)]
  exact ih _ ⟨_,_,rfl,f4⟩
 ·rintro I q ⟨H3,n3,rfl,f3⟩
  show JD lfp G (Runs F G) k I (.ptr e 0) v3 (.int .i64 (.ofNat p.fields.length) 0) (.int .i64 (.ofNat p.fields.length) 0) H3 n3
  delta JD
  have:=f3.le
  simp only[go_sem,Bj,Nat.lt_irrefl,decide_false]
  exact ADH (h.kp f3) (hb.kp f3) (by omega) (f3.get ge he) λr H' n' f=>hk _ _ _ (f3.trans f)
theorem AC6(h:IG G H n p v0 v1 v2 v3 v4 ws)(hb:KY G H n vb bs bws)(he:e<n)(ge:T.get H e=some (one [c0,c1,c2,c3,v0,v1,v2,v3,v4,vb]))(hk:∀r H' n',Kp H n H' n'->k (.bool r) H' n'):
 MP lfp G (Runs F G) k (.ptr e 0) H n:=by
 delta MP
 have hbig:=h.t2.lt
 simp only[go_sem,Nat.reduceAdd,AU (off:=6) ge (v:=v2) rfl,h.t2.len]
 refine Bc (N:=p.types.length) (J:=λj q=>∃H' n',q=(.ptr e 0,v2,.int .i64 (.ofNat p.types.length) 0,.int .i64 (.ofNat j) 0,H',n')/\Kp H n H' n') ?_ ?_ ⟨H,_,rfl,Kp.refl _ _⟩
 ·rintro I j q hlt ⟨H3,n3,rfl,f3⟩ ih
  show Ii lfp G (Runs F G) k I (.ptr e 0) v2 (.int .i64 (.ofNat p.types.length) 0) (.int .i64 (.ofNat j) 0) H3 n3
  delta Ii
  have h3:=h.kp f3
  have h3n:=f3.le
  obtain⟨q,hp',hld⟩:=h3.t2.el.at (NT hlt)
  generalize p.types[j]=m at hld
  unfold Ty.cells at hld
  simp only[go_sem,Nat.reduceAdd,Bj,hlt,decide_true,hp',Bl hld,Yn,IL]
  rw[T.set_set]
  have f4:=f3.new (m:=n3+1) (id:=n3) (one [m.nm.v,.bool m.arr]) f3.le (by omega)
  cases h1:decide (60<m.nm.1)with
  |true=>simp only[go_sem];exact hk _ _ _ f4
  |false=>
  simp only[go_sem,Dl (show j+1<9223372036854775808 by unfold big at hbig;omega)]
  exact ih _ ⟨_,_,rfl,f4⟩
 ·rintro I q ⟨H3,n3,rfl,f3⟩
  show Ii lfp G (Runs F G) k I (.ptr e 0) v2 (.int .i64 (.ofNat p.types.length) 0) (.int .i64 (.ofNat p.types.length) 0) H3 n3
  delta Ii
  have:=f3.le
  simp only[go_sem,Bj,Nat.lt_irrefl,decide_false]
  exact AEz (h.kp f3) (hb.kp f3) (by omega) (f3.get ge he) λr H' n' f=>hk _ _ _ (f3.trans f)
end
theorem AMI{G:AQ}{H:Heap}{n:Nat}{v:V}{f:Fl}(h:YJ G H n v f){k:KV}(hk:∀r H' n',Kp H n H' n'->k (.bool r) H' n'):Runs F G fK [v] H n k:=by
 refine BN (s:=KL (O1 lfp G)) Vd (by obtain⟨h,o⟩:=aT BO G;rw[Vd]at h;cases h;exact o) ?_
 show O1 lfp G (Runs F G) v H n k
 obtain⟨L,vf,vm,v0,v1,v2,v3,v4,vb,mws,ws,bws,h,rfl⟩:=h
 obtain⟨rfl,hf,hp,hb⟩:=h
 delta O1
 refine F9 λH1 f1 g1=>?_
 rw[BG,AV,show Af 4 (.ptr n (0+0)) G H1=some (.agg [f.face.nm.v,f.face.sup.v,vf,vm])from F8 g1 (by omega) (by show 4<=10;omega),AV]
 refine AHX (c:=f.face) ⟨vf,vm,mws,hf.kp f1,rfl⟩ λr H2 n2 f2=>?_
 have f12:=f1.trans f2
 have h2n:=f2.le
 have hp2:=hp.kp f12
 have hb2:=hb.kp f12
 have g2:=f2.get g1 (by omega)
 have l0:lenV v0=some (.int .i64 (.ofNat f.pool.nums.length) 0):=by rw[hp2.e0.len,List.length_map]
 have l1:lenV v1=some (.int .i64 (.ofNat f.pool.names.length) 0):=by rw[hp2.e1.len,JE]
 have l3:lenV v3=some (.int .i64 (.ofNat f.pool.fields.length) 0):=by rw[hp2.e3.len,List.length_map]
 have l4:lenV v4=some (.int .i64 (.ofNat f.pool.Bv.length) 0):=by rw[hp2.e4.len,List.length_zipWith,hp2.vJ,Nat.min_self]
 have lb:lenV vb=some (.int .i64 (.ofNat f.bodies.length) 0):=by rw[hb2.el.len,List.length_zipWith,hb2.len,Nat.min_self]
 simp only[BL]
 cases r with
 |false=>
  simp only[Bool.not_false]
  rw[AV]
  repeat (first|with_reducible refine ABY ?_|with_reducible refine ABe ?_)
  simp only[go_sem];exact hk _ _ _ f12
 |true=>
 simp only[Bool.not_true,go_sem,Nat.reduceAdd,AU (off:=4) g2 (v:=v0) rfl,l0,IL]
 cases h1:decide (20<f.pool.nums.length)with
 |true=>
  repeat (first|with_reducible refine ABY ?_|with_reducible refine ABe ?_)
  simp only[go_sem];exact hk _ _ _ f12
 |false=>
 simp only[go_sem,Nat.reduceAdd,AU (off:=5) g2 (v:=v1) rfl,l1,IL]
 cases h1:decide (20<f.pool.names.length)with
 |true=>
  repeat (first|with_reducible refine ABY ?_|with_reducible refine ABe ?_)
  simp only[go_sem];exact hk _ _ _ f12
 |false=>
 simp only[go_sem,Nat.reduceAdd,AU (off:=6) g2 (v:=v2) rfl,hp2.t2.len,IL]
 cases h1:decide (20<f.pool.types.length)with
 |true=>
  repeat (first|with_reducible refine ABY ?_|with_reducible refine ABe ?_)
  simp only[go_sem];exact hk _ _ _ f12
 |false=>
 simp only[go_sem,Nat.reduceAdd,AU (off:=7) g2 (v:=v3) rfl,l3,IL]
 cases h1:decide (20<f.pool.fields.length)with
 |true=>
  repeat (first|with_reducible refine ABY ?_|with_reducible refine ABe ?_)
  simp only[go_sem];exact hk _ _ _ f12
 |false=>
 simp only[go_sem,Nat.reduceAdd,AU (off:=8) g2 (v:=v4) rfl,l4,IL]
 cases h1:decide (20<f.pool.Bv.length)with
 |true=>
  repeat (first|with_reducible refine ABY ?_|with_reducible refine ABe ?_)
  simp only[go_sem];exact hk _ _ _ f12
 |false=>
 simp only[go_sem,Nat.reduceAdd,AU (off:=9) g2 (v:=vb) rfl,lb,IL]
 cases h1:decide (12<f.bodies.length)with
 |true=>
  repeat (first|with_reducible refine ABY ?_|with_reducible refine ABe ?_)
  simp only[go_sem];exact hk _ _ _ f12
 |false=>
 simp only[go_sem,Nat.reduceAdd,AU (off:=5) g2 (v:=v1) rfl,l1]
 have hbig:=hp2.b1
 refine Bc (N:=f.pool.names.length) (J:=λj q=>∃H' n',q=(.ptr n 0,v1,.int .i64 (.ofNat f.pool.names.length) 0,.int .i64 (.ofNat j) 0,H',n')/\Kp H2 n2 H' n') ?_ ?_ ⟨H2,_,rfl,Kp.refl _ _⟩
 ·rintro I j q hlt ⟨H3,n3,rfl,f3⟩ ih
  show Ic lfp G (Runs F G) k I (.ptr n 0) v1 (.int .i64 (.ofNat f.pool.names.length) 0) (.int .i64 (.ofNat j) 0) H3 n3
  delta Ic
  have h3:=hp2.kp f3
  obtain⟨q,hp',hld⟩:=h3.e1.at (Ro hlt)
  generalize f.pool.names[j]=m at hld
  simp only[go_sem,Nat.reduceAdd,Bj,hlt,decide_true,hp',QL hld,Yn,IL]
  cases h1:decide (60<m.1)with
  |true=>simp only[go_sem];exact hk _ _ _ (f12.trans f3)
  |false=>
  simp only[go_sem,Dl (show j+1<9223372036854775808 by unfold big at hbig;omega)]
  exact ih _ ⟨_,_,rfl,f3⟩
 ·rintro I q ⟨H3,n3,rfl,f3⟩
  show Ic lfp G (Runs F G) k I (.ptr n 0) v1 (.int .i64 (.ofNat f.pool.names.length) 0) (.int .i64 (.ofNat f.pool.names.length) 0) H3 n3
  delta Ic
  have:=f3.le
  simp only[go_sem,Bj,Nat.lt_irrefl,decide_false]
  exact AC6 (hp2.kp f3) (hb2.kp f3) (by omega) (f3.get g2 (by omega)) λr H' n' f=>hk _ _ _ (f12.trans (f3.trans f))
theorem AMw{G:AQ}{H:Heap}{n:Nat}{v:V}{fls:List Fl}(h:UQ G H n v fls){k:KV}(hk:∀r H' n',Kp H n H' n'->(r=true->fls.length<=8)->k (.bool r) H' n'):Runs F G gU [v] H n k:=by
 refine BN (s:=KL (Om lfp G)) VL (by obtain⟨h,o⟩:=bf BO G;rw[VL]at h;cases h;exact o) ?_
 show Om lfp G (Runs F G) v H n k
 delta Om
 have hbig:=h.lt
 simp only[go_sem,h.len]
 refine Bc (N:=fls.length) (J:=λj q=>∃H' n',q=(v,v,.int .i64 (.ofNat fls.length) 0,.int .i64 (.ofNat j) 0,H',n')/\Kp H n H' n') ?_ ?_ ⟨H,_,rfl,Kp.refl _ _⟩
 ·rintro I j q hlt ⟨H3,n3,rfl,f3⟩ ih
  show Jt lfp G (Runs F G) k I v v (.int .i64 (.ofNat fls.length) 0) (.int .i64 (.ofNat j) 0) H3 n3
  delta Jt
  obtain⟨q,vf,vm,v0,v1,v2,v3,v4,vb,mws,ws,bws,hp,hld,hfile⟩:=(h.ke f3.ke).at hlt
  generalize fls[j]=m at hld hfile
  simp only[go_sem,Nat.reduceAdd,Bj,hlt,decide_true,hp,Bl hld]
  rw[T.set_set]
  have f4':Kp H3 n3 (T.set H3 n3 (one [m.face.nm.v,m.face.sup.v,vf,vm,v0,v1,v2,v3,v4,vb])) (n3+1):=(Kp.refl _ _).new _ (Nat.le_refl _) (by omega)
  have g4:=T.Ag H3 n3 (one [m.face.nm.v,m.face.sup.v,vf,vm,v0,v1,v2,v3,v4,vb])
  generalize T.set H3 n3 (one [m.face.nm.v,m.face.sup.v,vf,vm,v0,v1,v2,v3,v4,vb])=H4 at f4' g4
  refine AMI (f:=m) ⟨_,vf,vm,v0,v1,v2,v3,v4,vb,mws,ws,bws,hfile.ke f4'.ke,rfl⟩ λr H5 n5 f5=>?_
  have f6:=f3.trans (f4'.trans f5)
  simp only[go_sem,BL]
  cases r with
  |false=>simp only[Bool.not_false,go_sem];exact hk _ _ _ f6 (λh=>by cases h)
  |true=>
   simp only[Bool.not_true,go_sem,Dl (show j+1<9223372036854775808 by unfold big at hbig;omega)]
   exact ih _ ⟨_,_,rfl,f6⟩
 ·rintro I q ⟨H3,n3,rfl,f3⟩
  show Jt lfp G (Runs F G) k I v v (.int .i64 (.ofNat fls.length) 0) (.int .i64 (.ofNat fls.length) 0) H3 n3
  delta Jt
  simp only[go_sem,Bj,Nat.lt_irrefl,decide_false]
  delta SV
  simp only[go_sem,h.len,AEE]
  refine hk _ _ _ f3 λh=>?_
  have:=of_decide_eq_true h
  show fls.length<=8
  have h2:(fls.length:Int)<=8:=this
  omega
end Go.RL
