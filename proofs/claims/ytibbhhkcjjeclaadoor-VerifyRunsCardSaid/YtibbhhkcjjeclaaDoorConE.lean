/- Part of a proof; nothing is assumed. -/
import Derived.Test.YtibbhhkcjjeclaaDoorConD
import Derived.Test.YtibbhhkcjjeclaaDoorConB
import Derived.Test.YtibbhhkcjjeclaaDoorWalk
import Derived.Test.YtibbhhkcjjeclaaDoorConA
set_option linter.unusedVariables false
set_option linter.unusedSimpArgs false
namespace Go.RL
open Go.Bh
set_option maxRecDepth 100000
end Go.RL
namespace Go.RL
open Go.Bh
set_option maxRecDepth 100000
theorem AAE:∀(cs:List Fc) (fs:Tab) (s:St) (c:Fc),(∀s c,Ci fs s=some c->c.nm=s)->Ci (Vu fs cs) s=some c->c.nm=s
 |[],_,_,_,h,e=>h _ _ e
 |d::cs,fs,s,c,h,e=>AAE cs (Uf d.nm d fs) s c (λs c e=>by
  rw[Qe]at e
  by_cases hd:d.nm=s
  ·rw[if_pos hd]at e;cases e;exact hd
  ·rw[if_neg hd]at e;exact h s c e) e
theorem AMB{cs:List Fc}{s:St}{c:Fc}(e:Ci (EL cs) s=some c):c.nm=s:=AAE cs [] s c (λ_ _ h=>by cases h) e
theorem Ql:∀(Bg:List Fl) (acc:List (St×Fl)),Ul acc Bg=0->∀f∈Bg,KZ f=true
 |[],_,_,_,h=>by cases h
 |g::Bg,acc,e,f,h=>by
  unfold Ul at e
  cases hg:KZ g with
  |false=>rw[hg]at e;simp at e
  |true=>
   rw[hg]at e
   cases hl:(Ci acc g.face.nm).isSome with
   |true=>rw[hl]at e;simp at e
   |false=>
    rw[hl]at e
    rcases List.mem_cons.1 h with rfl|h
    ·exact hg
    ·exact Ql Bg _ e f h
theorem ABV(t:Tab):∀(Bg:List Fl),link2 t Bg=0->∀f∈Bg,Lr t f.face.nm=0
 |[],_,_,h=>by cases h
 |g::Bg,e,f,h=>by
  unfold link2 at e
  cases hg:Lr t g.face.nm==0 with
  |false=>
   rw[hg]at e
   have e:Lr t g.face.nm=0:=e
   rw[e]at hg;cases hg
  |true=>
   rw[hg]at e
   cases hp:Yq t g.pool with
   |false=>rw[hp]at e;simp at e
   |true=>
    rw[hp]at e
    rcases List.mem_cons.1 h with rfl|h
    ·exact eq_of_beq hg
    ·exact ABV t Bg e f h
theorem wO{t:Tab}{s:St}(h:Lr t s=0):(above t s).2=true:=by
 unfold Lr at h
 cases hl:Ci t s with
 |none=>rw[hl]at h;simp at h
 |some c=>
  rw[hl]at h
  cases ha:(above t s).2 with
  |true=>rfl
  |false=>
   simp only[ha]at h
   cases h0:decide (s.1=0/\s.2=0)<;>rw[h0]at h<;>try (simp at h;done)
   cases h1:fC ((Ci t (lastOf (above t s).1)).getD DF).sup (above t s).1<;>rw[h1]at h<;>simp at h
theorem EU{Bg:List Fl}(h:O1 Bg=0):Bg.length<=200/\Ul [] Bg=0/\link2 (EL (CB Bg)) Bg=0:=by
 unfold O1 at h
 cases h1:decide (200<Bg.length)with
 |true=>rw[h1]at h;simp at h
 |false=>
  rw[h1]at h
  have h1:=of_decide_eq_false h1
  cases h2:Ul [] Bg==0 with
  |false=>
   rw[h2]at h
   have h:Ul [] Bg=0:=h
   rw[h]at h2;cases h2
  |true=>
   rw[h2]at h
   exact⟨by omega,eq_of_beq h2,h⟩
theorem dM{Bg:List Fl}{s:St}{c:Fc}(e:Ci (EL (CB Bg)) s=some c):∃f∈Bg,f.face=c/\c.nm=s:=by
 obtain⟨f,hf,rfl⟩:=List.mem_map.1 (AB1 e)
 exact⟨f,hf,rfl,AMB e⟩
theorem o8{Bg:List Fl}(h:O1 Bg=0):Whole (EL (CB Bg)):=λs c e=>by
 obtain⟨-,-,h2⟩:=EU h
 obtain⟨f,hf,rfl,rfl⟩:=dM e
 exact wO (ABV _ _ h2 f hf)
theorem ql{Bg:List Fl}(h:O1 Bg=0):Upper (EL (CB Bg)):=λs c e=>by
 obtain⟨-,h1,-⟩:=EU h
 obtain⟨f,hf,rfl,rfl⟩:=dM e
 have:=Ql _ _ h1 f hf
 unfold KZ Tf at this
 simp only[Bool.and_eq_true]at this
 exact this.1.1
theorem nT:∀(cs:List Fl) (fs:List (St×Fl)) (s:St) (c:Fl),Ci (UN fs cs) s=some c->(c∈cs/\c.face.nm=s)∨Ci fs s=some c
 |[],_,_,_,h=>.inr h
 |d::cs,fs,s,c,h=>by
  rcases nT cs _ s c h with h|h
  ·exact .inl ⟨List.mem_cons_of_mem _ h.1,h.2⟩
  ·rw[Qe]at h
   split at h
   ·rename_i e;cases h;exact .inl ⟨List.mem_cons_self ..,e⟩
   ·exact .inr h
theorem AIj{Bg:List Fl}{s:St}{f:Fl}(h:Ci (Xw Bg) s=some f):f∈Bg/\f.face.nm=s:=by
 rcases nT Bg [] s f h with h|h
 ·exact h
 ·cases h
theorem jU:∀(cs:List Fl) (fs:List (St×Fl)) (s:St),(Ci fs s).isSome=true∨s∈NC cs->(Ci (UN fs cs) s).isSome=true
 |[],_,_,h=>h.resolve_right List.not_mem_nil
 |d::cs,fs,s,h=>jU cs _ s (by
  rw[Qe]
  by_cases e:d.face.nm=s
  ·rw[if_pos e];exact .inl rfl
  ·rw[if_neg e]
   rcases h with h|h
   ·exact .inl h
   ·exact .inr ((List.mem_cons.1 h).resolve_left (Ne.symm e)))
theorem AG1{Bg:List Fl}{s:St}(h:s∈NC Bg):∃f,Ci (Xw Bg) s=some f:=Option.isSome_iff_exists.1 (jU Bg [] s (.inr h))
theorem ACF{p:Pool}:∀{ms:List DW} {bs:List Bd} (j:Nat) (m:DW) (b:Bd),WL p ms bs=true->ms[j]? =some m->bs[j]? =some b->qg p m b=true
 |[],_,_,_,_,_,h,_=>by simp at h
 |_::_,[],_,_,_,_,_,h=>by simp at h
 |x::ms,y::bs,0,m,b,h,h1,h2=>by
  simp only[List.getElem?_cons_zero,Option.some.injEq]at h1 h2
  subst h1;subst h2
  unfold WL at h
  exact(Bool.and_eq_true .. ▸h).1
 |x::ms,y::bs,j+1,m,b,h,h1,h2=>by
  unfold WL at h
  exact ACF j m b (Bool.and_eq_true .. ▸h).2 (by simpa using h1) (by simpa using h2)
theorem eG{f:Fl}(h:KZ f=true):f.bodies.length=f.face.ms.length/\∀(j:Nat) (m:DW) (bd:Bd),f.face.ms[j]? =some m->f.bodies[j]? =some bd->Qs f.pool m bd:=by
 unfold KZ at h
 simp only[Bool.and_eq_true,decide_eq_true_eq]at h
 exact⟨h.2.2.1,λj m bd h1 h2=>AHB (ACF j m bd h.2.2.2 h1 h2)⟩
theorem ANd{fs:Tab}{K:Nat}(a:TS)(h:∀o∈a,AF3 fs K o<=K):allH fs K a<=a.length*K:=by
 unfold allH
 induction a with
 |nil=>simp
 |cons o a ih=>
  have h1:=h o (List.mem_cons_self ..)
  have h2:=ih λx hx=>h x (List.mem_cons_of_mem _ hx)
  simp only[List.map_cons,List.sum_cons,List.length_cons,Nat.add_mul,Nat.one_mul];omega
theorem AP2{fs:Tab}{f:Fl}{m:DW}{bd:Bd}{c:St}(hw:Whole fs)(hu:Upper fs)(hfs:fs.length<=200)(h:Qs f.pool m bd):∃r,wK (cxF fs f m bd) (WU c m bd) r:=by
 have hN:0<bd.code.length:=by have:=h.c0;omega
 have hlen:(WU c m bd).loc.length=bd.locals.toNat:=by
  have h1:=ACP c m
  have h2:=h.lo
  show(dX c m++m.ps++List.replicate _ Bq).length=_
  simp only[List.length_append,List.length_replicate];omega
 have inv:Inv2 bd.locals.toNat bd.stack.toNat (at0 bd.code.length (WU c m bd)):=by
  refine⟨λi s hs=>?_,λi s hs=>?_⟩
  ·rw[(sK hN hs).2];exact hlen
  ·rw[(sK hN hs).2];exact Nat.zero_le _
 have hl:(at0 bd.code.length (WU c m bd)).length=bd.code.length:=AEE
 have AS1:2*allH fs (NM fs bd.locals.toNat bd.stack.toNat) (at0 bd.code.length (WU c m bd))+[0].length<20000000000:=by
  have h1:=ANd (fs:=fs) (K:=NM fs bd.locals.toNat bd.stack.toNat) (at0 bd.code.length (WU c m bd)) λo ho=>by
   obtain⟨i,hi⟩:=List.getElem?_of_mem ho
   cases o with
   |none=>exact Nat.le_refl _
   |some s=>exact Nat.le_of_lt (AIH (inv.loc i s hi) (inv.stk i s hi))
  rw[hl]at h1
  have h2:NM fs bd.locals.toNat bd.stack.toNat<=287206:=by
   unfold NM
   have a1:=h.hi
   have a2:=h.s1
   have:(bd.locals.toNat+bd.stack.toNat)*(fs.length+5)<=1401*205:=Nat.mul_le_mul (by omega) (by omega)
   omega
  have h3:bd.code.length*NM fs bd.locals.toNat bd.stack.toNat<=16384*287206:=Nat.mul_le_mul h.c1 h2
  show 2*_+1<_
  omega
 obtain⟨r,hr⟩:=AC3 (c:=cxF fs f m bd) hw hu (L:=bd.locals.toNat) 20000000000 (at0 bd.code.length (WU c m bd)) [0] AS1 hl inv (λi hi=>by rw[List.mem_singleton.1 hi];exact⟨hN,_,AGq hN⟩)
 exact⟨r,20000000000,hr,by omega⟩
theorem ADf{Bg:List Fl}(h:O1 Bg=0):(EL (CB Bg)).length<=200:=by
 have h1:=jm (CB Bg) []
 have h2:=(EU h).1
 unfold EL
 rw[List.length_map]at h1
 simp only[List.length_nil,Nat.zero_add]at h1
 omega
def ADA(Bg:List Fl)(R:Fl->Nat->Int):Prop:=∀f∈Bg,∀(j:Nat) (m:DW) (bd:Bd),f.face.ms[j]? =some m->f.bodies[j]? =some bd->wK (cxF (EL (CB Bg)) f m bd) (WU f.face.nm m bd) (R f j)
theorem ALz{Bg:List Fl}(h:O1 Bg=0):∃R,ADA Bg R:=by
 classical
 refine⟨λf j=>if q:∃r,∃m bd,f.face.ms[j]? =some m/\f.bodies[j]? =some bd/\wK (cxF (EL (CB Bg)) f m bd) (WU f.face.nm m bd) r then q.choose else 0,λf hf j m bd h1 h2=>?_⟩
 have hb:=(eG (Ql _ _ (EU h).2.1 f hf)).2 j m bd h1 h2
 obtain⟨r,hr⟩:=AP2 (c:=f.face.nm) (o8 h) (ql h) (ADf h) hb
 have q:∃r,∃m bd,f.face.ms[j]? =some m/\f.bodies[j]? =some bd/\wK (cxF (EL (CB Bg)) f m bd) (WU f.face.nm m bd) r:=⟨r,m,bd,h1,h2,hr⟩
 simp only[dif_pos q]
 obtain⟨m',bd',e1,e2,hr'⟩:=q.choose_spec
 rw[h1]at e1;rw[h2]at e2
 cases e1;cases e2
 exact hr'
theorem AKt{G:AX}(hG:QT G){H:Heap}{n m i:Nat}{Bg:List Fl}(hl:O1 Bg=0){R:Fl->Nat->Int}(hR:ADA Bg R)(hi:ANh G H n m i Bg){k:KV}
 (hk:∀H' n' b,m<=b->Kb b H n H' n'->ANh G H' n' m i Bg->k (.agg (tJ (Rl R (Xw Bg) (NC Bg)))) H' n'):Runs F G Us [.ptr i 0] H n k:=by
 obtain⟨t,a,b,fm,vn,h1,h2,h3,h4,h5,h6,h7,h8,h9,h10,h11⟩:=hi.is
 have hp:=EU hl
 refine ALo (R:=R) hG h1 (by have:=ADf hl;omega) h2 h3 h4 h5 h6 (by rw[List.length_map];omega) (λs hs=>AG1 hs) (λs f hf=>?_) λH' n' f=>?_
 ·obtain⟨hm,-⟩:=AIj hf
  obtain⟨e1,e2⟩:=eG (Ql _ _ hp.2.1 f hm)
  exact⟨e1,λj m bd q1 q2=>⟨e2 j m bd q1 q2,hR f hm j m bd q1 q2⟩⟩
 ·have e:=f.ke (G:=G) h1.tab.seen
  refine hk H' n' b h10 f ⟨t,a,b,fm,vn,h1.kb f,h2.ke e (f.same _ h3 h4),Nat.lt_of_lt_of_le h3 f.le,h4,h5.ke h6 e,h6.mono f.le,h7,h8,h9,h10,h11⟩
theorem AN9{c:Cx}{init:Ce}{r:Int}(hw:Whole c.fs)(hu:Upper c.fs)(hn:0<c.code.length)(h:wK c init r):(r<0↔∃A,Post c init A):=by
 obtain⟨fuel,hr,-⟩:=h
 obtain⟨h1,h2⟩:=AMv hw hu hn hr
 rw[<-h1]
 constructor
 ·intro hr
  by_cases e:r= -1
  ·exact e
  ·obtain⟨j,hj,-⟩:=h2 e;omega
 ·intro e;omega
theorem zQ:∀(l:List Fl) (a:List (St×Fl)) (s:St) (f:Fl),Ul a l=0->Ci a s=some f->Ci (UN a l) s=some f
 |[],_,_,_,_,h=>h
 |g::l,a,s,f,e,h=>by
  unfold Ul at e
  cases hg:KZ g with
  |false=>rw[hg]at e;simp at e
  |true=>
   rw[hg]at e
   cases hl:(Ci a g.face.nm).isSome with
   |true=>rw[hl]at e;simp at e
   |false=>
    rw[hl]at e
    refine zQ l _ s f e ?_
    rw[Qe]
    by_cases hs:g.face.nm=s
    ·rw[hs,h]at hl;cases hl
    ·rw[if_neg hs];exact h
theorem lN:∀(l:List Fl) (a:List (St×Fl)) (f:Fl),Ul a l=0->f∈l->Ci (UN a l) f.face.nm=some f
 |[],_,_,_,h=>by cases h
 |g::l,a,f,e,h=>by
  unfold Ul at e
  cases hg:KZ g with
  |false=>rw[hg]at e;simp at e
  |true=>
   rw[hg]at e
   cases hl:(Ci a g.face.nm).isSome with
   |true=>rw[hl]at e;simp at e
   |false=>
    rw[hl]at e
    rcases List.mem_cons.1 h with rfl|h
    ·exact zQ l _ _ _ e (by rw[Qe,if_pos rfl])
    ·exact lN l _ f e h
theorem xk{R:Nat->Int}:∀{ms:List DW} {j:Nat},firstM R ms j=none↔∀i,i<ms.length->R (j+i)<0
 |[],j=>by simp[firstM]
 |m::ms,j=>by
  unfold firstM
  cases h:decide (0<=R j)with
  |true=>
   have h:=of_decide_eq_true h
   simp only[cond_true]
   constructor
   ·intro h;cases h
   ·intro h2;have:=h2 0 (by simp);simp only[Nat.add_zero]at this;omega
  |false=>
   have h:=of_decide_eq_false h
   rw[cond_false,xk]
   constructor
   ·intro h2 i hi
    cases i with
    |zero=>simp only[Nat.add_zero];omega
    |succ i=>have:=h2 i (by simpa using hi);rw[show j+(i+1)=j+1+i by omega];exact this
   ·intro h2 i hi
    have:=h2 (i+1) (by simpa using hi)
    rw[show j+1+i=j+(i+1)by omega];exact this
theorem jO{R:Fl->Nat->Int}{ff:List (St×Fl)}:∀{ss:List St},Rl R ff ss=none↔∀s∈ss,∀f,Ci ff s=some f->firstM (R f) f.face.ms 0=none
 |[]=>by simp[Rl]
 |s::ss=>by
  unfold Rl
  cases hl:Ci ff s with
  |none=>
   simp only
   rw[jO]
   constructor
   ·intro h x hx f hf
    rcases List.mem_cons.1 hx with rfl|hx
    ·rw[hl]at hf;cases hf
    ·exact h x hx f hf
   ·intro h x hx;exact h x (List.mem_cons_of_mem _ hx)
  |some f=>
   simp only
   cases hm:firstM (R f) f.face.ms 0 with
   |some p=>
    simp only
    constructor
    ·intro h;cases h
    ·intro h;have:=h s (List.mem_cons_self ..) f hl;rw[hm]at this;cases this
   |none=>
    simp only
    rw[jO]
    constructor
    ·intro h x hx g hg
     rcases List.mem_cons.1 hx with rfl|hx
     ·rw[hl]at hg;cases hg;exact hm
     ·exact h x hx g hg
    ·intro h x hx;exact h x (List.mem_cons_of_mem _ hx)
end Go.RL
namespace Go.RL
open Go.Bh
set_option maxRecDepth 100000
section
variable{G:AX}{H0 H:Heap}{n0 n e:Nat}{p:Pool}{bs:List Bd}{c0 c1 c2 c3 v0 v1 v2 v3 v4 vb:V}{ws bws:List V}{k:KV}
end
end Go.RL
namespace Go.RL
open Go.Bh
set_option maxRecDepth 100000
noncomputable def ADq(G:AX):AX:=λb off m=>
 Bool.rec (motive:=λ_=>Option LV) (G b off m) (some [.int .i32 (.ofNat (AE5.getD (off/2) 0)) 0]) (band (Nat.beq b 0) (band (Nat.beq m 1) (band (Nat.beq (off%2) 1) (Nat.ble off 65))))
theorem AKZ{G:AX}(hO:gV G):ADq G=G:=by
 funext b off m
 unfold ADq
 cases hb:band (Nat.beq b 0) (band (Nat.beq m 1) (band (Nat.beq (off%2) 1) (Nat.ble off 65)))with
 |false=>rfl
 |true=>
  simp only[BM,Bool.and_eq_true,beq_iff,Nat.ble_eq]at hb
  obtain⟨rfl,rfl,h1,h2⟩:=hb
  have:=hO (off/2) (by omega)
  rw[show off/2*2+1=off by omega]at this
  exact this.symm
theorem AHa(G:AX):AQx (FS (lpF 300) (ADq G)) 300 Vb [] .e 0 isT=True:=by kernel_rfl
theorem ALh{G:AX}(hO:gV G){k:KV}(hk:∀H' n',k (.bool true) H' n'):Runs F G Vb [] .e 0 k:=by
 have h:=AHa G
 rw[AKZ hO]at h
 exact AJP (k:=isT) (λv H n hv=>by have:=ANe hv;subst this;exact hk H n) (AIh (AR9 (AQl 300) G) 300 _ _ _ _ _ (of_eq_true h))
section
variable{a b:Tab}
end
def aO(cs:List Fc)(s:St):Option Fc:=cs.find? λc=>decide (c.nm=s)
theorem AFY{cs:List Fc}{s:St}(h:s∉cs.map (λc=>c.nm)):aO cs s=none:=by
 unfold aO
 rw[List.find?_eq_none]
 intro c hc hd
 exact h (List.mem_map.2 ⟨c,hc,of_decide_eq_true hd⟩)
theorem x9:∀(cs:List Fc) (fs:Tab) (s:St),(cs.map λc=>c.nm).Nodup->Ci (Vu fs cs) s=(match aO cs s with|some c=>some c|none=>Ci fs s)
 |[],_,_,_=>rfl
 |c::cs,fs,s,h=>by
  rw[List.map_cons,List.nodup_cons]at h
  show Ci (Vu (Uf c.nm c fs) cs) s=_
  rw[x9 cs _ s h.2,Qe]
  unfold aO
  rw[List.find?_cons]
  by_cases e:c.nm=s
  ·subst e
   have:=AFY h.1
   unfold aO at this
   rw[this]
   simp
  ·simp[e]
theorem AJj{cs:List Fc}(h:(cs.map λc=>c.nm).Nodup)(s:St):Ci (EL cs) s=aO cs s:=by
 unfold EL;rw[x9 cs [] s h];cases aO cs s<;>rfl
theorem AEf{cs:List Fc}(h:(cs.map λc=>c.nm).Nodup){s:St}{c:Fc}:aO cs s=some c↔c∈cs/\c.nm=s:=by
 induction cs with
 |nil=>simp[aO]
 |cons d cs ih=>
  rw[List.map_cons,List.nodup_cons]at h
  have ih:=ih h.2
  unfold aO at ih⊢
  rw[List.find?_cons]
  by_cases e:d.nm=s
  ·simp only[e,decide_true,Option.some.injEq,List.mem_cons]
   constructor
   ·rintro rfl;exact⟨.inl rfl,e⟩
   ·rintro⟨rfl|hc,h2⟩
    ·rfl
    ·exact absurd (List.mem_map.2 ⟨c,hc,h2.trans e.symm⟩) h.1
  ·simp only[e,decide_false,List.mem_cons]
   rw[ih]
   constructor
   ·rintro⟨h1,h2⟩;exact⟨.inr h1,h2⟩
   ·rintro⟨rfl|h1,h2⟩
    ·exact absurd h2 e
    ·exact⟨h1,h2⟩
theorem zy:∀(Bg:List Fl) (acc:List (St×Fl)),Ul acc Bg=0↔(∀f∈Bg,KZ f=true)/\(NC Bg).Nodup/\∀f∈Bg,Ci acc f.face.nm=none
 |[],_=>by simp[Ul]
 |f::fs,acc=>by
  unfold Ul
  have ih:=zy fs (Uf f.face.nm f acc)
  cases h1:KZ f with
  |false=>
   simp only[Bool.not_false,cond_true]
   constructor
   ·intro h;cases h
   ·intro h;have:=h.1 f (List.mem_cons_self ..);rw[h1]at this;cases this
  |true=>
   simp only[Bool.not_true,cond_false]
   cases h2:Ci acc f.face.nm with
   |some x=>
    simp only[Option.isSome_some,cond_true]
    constructor
    ·intro h;cases h
    ·intro h;have:=h.2.2 f (List.mem_cons_self ..);rw[h2]at this;cases this
   |none=>
    simp only[Option.isSome_none,cond_false]
    rw[ih]
    simp only[NC,List.map_cons,List.nodup_cons,List.mem_cons,forall_eq_or_imp,Qe]
    constructor
    ·rintro⟨a1,a2,a3⟩
     refine⟨⟨h1,a1⟩,⟨?_,a2⟩,h2,λg hg=>?_⟩
     ·intro hm
      obtain⟨g,hg,e⟩:=List.mem_map.1 hm
      have:=a3 g hg
      rw[if_pos e.symm]at this;cases this
     ·have:=a3 g hg
      split at this
      ·cases this
      ·exact this
    ·rintro⟨⟨_,a1⟩,⟨a4,a2⟩,_,a3⟩
     refine⟨a1,a2,λg hg=>?_⟩
     rw[if_neg]
     ·exact a3 g hg
     ·intro e;exact a4 (List.mem_map.2 ⟨g,hg,e.symm⟩)
structure Fit(Bg:List Fl):Prop where
 len:Bg.length<=200
 ok:∀f∈Bg,KZ f=true
 apart:(NC Bg).Nodup
 stand:∀f∈Bg,Lr (EL (CB Bg)) f.face.nm=0/\Yq (EL (CB Bg)) f.pool=true
theorem AHp(f l1 c1 c2:Nat):yM (f+1) l1 c1 0 c2=false:=rfl
theorem AOL(f c1 l2 c2:Nat):yM (f+1) 0 c1 (l2+1) c2=true:=rfl
theorem AIT(f l1 c1 l2 c2:Nat):yM (f+1) (l1+1) c1 (l2+1) c2=if c1%256=c2%256 then yM f l1 (c1/256) l2 (c2/256)else decide (c1%256<c2%256):=by
 show Bool.rec (motive:=λ_=>Bool) (Nat.blt (c1%256) (c2%256)) (yM f l1 (c1/256) l2 (c2/256)) (Nat.beq (c1%256) (c2%256))=_
 by_cases h:c1%256=c2%256
 ·rw[if_pos h,show Nat.beq (c1%256) (c2%256)=true by simp[h]]
 ·rw[if_neg h,show Nat.beq (c1%256) (c2%256)=false by rw[Bool.eq_false_iff];simp[h]]
  show Nat.blt (c1%256) (c2%256)=_
  rw[Bool.eq_iff_iff,Nat.blt_eq];simp
theorem yC:∀(f l c:Nat),yM f l c l c=false
 |0,_,_=>rfl
 |f+1,0,c=>rfl
 |f+1,l+1,c=>by rw[AIT,if_pos rfl];exact yC f l _
theorem AAh:∀(f g h l1 c1 l2 c2 l3 c3:Nat),l2<f->l3<g->l3<h->yM f l1 c1 l2 c2=true->yM g l2 c2 l3 c3=true->yM h l1 c1 l3 c3=true
 |0,_,_,_,_,_,_,_,_,h,_,_,_,_=>by omega
 |_,0,_,_,_,_,_,_,_,_,h,_,_,_=>by omega
 |_,_,0,_,_,_,_,_,_,_,_,h,_,_=>by omega
 |f+1,g+1,h+1,l1,c1,0,c2,l3,c3,_,_,_,h1,_=>by rw[AHp]at h1;cases h1
 |f+1,g+1,h+1,l1,c1,l2+1,c2,0,c3,_,_,_,_,h2=>by rw[AHp]at h2;cases h2
 |f+1,g+1,h+1,0,c1,l2+1,c2,l3+1,c3,_,_,_,_,_=>AOL ..
 |f+1,g+1,h+1,l1+1,c1,l2+1,c2,l3+1,c3,a1,a2,a3,h1,h2=>by
  rw[AIT]at h1 h2⊢
  by_cases e1:c1%256=c2%256
  ·rw[if_pos e1]at h1
   by_cases e2:c2%256=c3%256
   ·rw[if_pos e2]at h2
    rw[if_pos (e1.trans e2)]
    exact AAh f g h _ _ _ _ _ _ (by omega) (by omega) (by omega) h1 h2
   ·rw[if_neg e2]at h2
    have:=of_decide_eq_true h2
    rw[if_neg (by omega)];exact decide_eq_true (by omega)
  ·rw[if_neg e1]at h1
   have:=of_decide_eq_true h1
   by_cases e2:c2%256=c3%256
   ·rw[if_neg (by omega)];exact decide_eq_true (by omega)
   ·rw[if_neg e2]at h2
    have:=of_decide_eq_true h2
    rw[if_neg (by omega)];exact decide_eq_true (by omega)
def ltS(a b:St):Prop:=slt a.1 a.2 b.1 b.2=true
theorem AHT(a:St):¬ltS a a:=by unfold ltS slt;rw[yC];simp
theorem AJS{a b c:St}(h:ltS a b)(h2:ltS b c):ltS a c:=AAh _ _ _ _ _ _ _ _ _ (Nat.lt_succ_self _) (Nat.lt_succ_self _) (Nat.lt_succ_self _) h h2
theorem AMr{a b:St}(h:(!leS a b)=true):ltS b a:=by
 unfold leS at h
 show slt b.1 b.2 a.1 a.2=true
 cases hs:slt b.1 b.2 a.1 a.2 with
 |true=>rfl
 |false=>rw[hs]at h;cases h
theorem AAn:∀(ms:List DW) (a:St),MR a ms=true->∀m∈ms,ltS a m.nm
 |[],_,_,m,h=>by cases h
 |x::ms,a,h,m,hm=>by
  unfold MR at h
  simp only[Bool.and_eq_true]at h
  have h0:=AMr h.1
  rcases List.mem_cons.1 hm with rfl|hm
  ·exact h0
  ·exact AJS h0 (AAn ms x.nm h.2.2.2.2.2 m hm)
theorem AAD:∀(ms:List DW) (a:St),MR a ms=true->∀m∈ms,Qi m.nm ms=some m
 |[],_,_,m,h=>by cases h
 |x::ms,a,h,m,hm=>by
  unfold MR at h
  simp only[Bool.and_eq_true]at h
  unfold Qi
  rcases List.mem_cons.1 hm with rfl|hm
  ·simp
  ·have hlt:=AAn ms x.nm h.2.2.2.2.2 m hm
   have hne:¬(x.nm.1=m.nm.1/\x.nm.2=m.nm.2):=λe=>by
    have e:x.nm=m.nm:=Prod.ext e.1 e.2
    rw[e]at hlt;exact AHT _ hlt
   rw[decide_eq_false hne]
   exact AAD ms x.nm h.2.2.2.2.2 m hm
theorem AAP:∀l:List Ty,bJ l l=true
 |[]=>rfl
 |a::l=>by unfold bJ Ty.is;rw[AAP l];simp
theorem AIy(m:DW):m.same m=true:=by unfold DW.same Ty.is;rw[AAP];simp
theorem ABG:∀(m:Nat) (fs:Tab) (out:List St) (s:St),∃r,(Hz m fs out s).1=out++r
 |0,_,out,_=>⟨[],by simp[Hz]⟩
 |m+1,fs,out,s=>by
  unfold Hz
  cases decide (s.1=0/\s.2=0)with
  |true=>exact⟨[],by simp⟩
  |false=>
   simp only[cond_false]
   cases Ci fs s with
   |none=>exact⟨[],by simp⟩
   |some c=>
    show ∃r,(bif fC s out then(out,false)else Hz m fs (out++[s]) c.sup).1=out++r
    cases fC s out with
    |true=>exact⟨[],by simp⟩
    |false=>
     obtain⟨r,h⟩:=ABG m fs (out++[s]) c.sup
     exact⟨s::r,by simp only[cond_false];rw[h];simp⟩
theorem AAU{fs:Tab}{s:St}{c:Fc}(h:Ci fs s=some c)(h0:¬(s.1=0/\s.2=0)):∃r,(above fs s).1=s::r:=by
 unfold above Hz
 rw[decide_eq_false h0,h]
 show ∃r,(Hz fs.length fs [s] c.sup).1=s::r
 obtain⟨r,h⟩:=ABG fs.length fs [s] c.sup
 exact⟨r,h⟩
theorem Zv{f:Fl}(h:KZ f=true):Tf f.face=true:=by unfold KZ at h;rw[Bool.and_eq_true]at h;exact h.1
theorem ACi{c:Fc}(h:Tf c=true):¬(c.nm.1=0/\c.nm.2=0):=by
 unfold Tf at h
 simp only[Bool.and_eq_true]at h
 have:=h.1
 unfold jL upper at this
 simp at this
 omega
theorem AIo{c:Fc}(h:Tf c=true):MR (0,0) c.ms=true:=by
 unfold Tf at h
 simp only[Bool.and_eq_true]at h
 exact h.2.2.2.2.2.2.2
end Go.RL
