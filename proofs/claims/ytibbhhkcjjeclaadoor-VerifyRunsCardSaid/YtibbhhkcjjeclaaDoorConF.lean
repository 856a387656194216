/- Part of a proof; nothing is assumed. -/
import Derived.Test.YtibbhhkcjjeclaaDoorConE
import Derived.Test.YtibbhhkcjjeclaaDoorConC
import Derived.Test.YtibbhhkcjjeclaaDoorConD
import Derived.Test.YtibbhhkcjjeclaaDoorConB
import Derived.Test.YtibbhhkcjjeclaaDoorWalk
set_option linter.unusedVariables false
set_option linter.unusedSimpArgs false
namespace Go.RL
open Go.Bh
set_option maxRecDepth 100000
def Chk(fs:Tab):Prop:=∀s c,Ci fs s=some c->Lr fs s=0
theorem ALy{Bg:List Fl}(h:O1 Bg=0):Chk (EL (CB Bg)):=λs c e=>by
 obtain⟨-,-,h2⟩:=EU h
 obtain⟨f,hf,rfl,rfl⟩:=dM e
 exact ABV _ _ h2 f hf
theorem AAl{fs:Tab}{sup:St}{r:Int}:∀{l:List lg},xW fs sup r l=0->r=0/\∀f∈l,VK fs sup f.nm=none
 |[],h=>⟨h,λ_ h=>by cases h⟩
 |f::l,h=>by
  unfold xW at h
  cases h1:[f.ty].all (Rj fs)with
  |false=>rw[h1]at h;cases h
  |true=>
   rw[h1]at h
   cases h2:(VK fs sup f.nm).isSome with
   |true=>rw[h2]at h;cases h
   |false=>
    rw[h2]at h
    obtain⟨e,ih⟩:=AAl (show xW fs sup r l=0 from h)
    refine⟨e,λg hg=>?_⟩
    rcases List.mem_cons.1 hg with rfl|hg
    ·cases h3:VK fs sup g.nm with
     |none=>rfl
     |some x=>rw[h3]at h2;cases h2
    ·exact ih g hg
theorem AG9{fs:Tab}{s:St}{c:Fc}(hl:Ci fs s=some c)(h:Lr fs s=0):∀f∈c.fs,VK fs c.sup f.nm=none:=by
 have ha:=wO h
 unfold Lr at h
 rw[hl]at h
 simp only[ha]at h
 cases h0:decide (s.1=0/\s.2=0)with
 |true=>rw[h0]at h;cases h
 |false=>
  rw[h0]at h
  cases h1:twice c with
  |true=>rw[h1]at h;simp at h
  |false=>
   rw[h1]at h
   exact(AAl (by simpa using h)).2
theorem AFC{s:St}:∀{l:List lg} {t:Ty},Z7 s l=some t->∃f∈l,f.nm=s/\f.ty=t
 |[],_,h=>by cases h
 |f::l,t,h=>by
  unfold Z7 at h
  cases hd:decide (f.nm.1=s.1/\f.nm.2=s.2)with
  |true=>
   rw[hd]at h
   have:=of_decide_eq_true hd
   cases h
   exact⟨f,List.mem_cons_self ..,Prod.ext this.1 this.2,rfl⟩
  |false=>
   rw[hd]at h
   obtain⟨g,hg,e⟩:=AFC (show Z7 s l=some t from h)
   exact⟨g,List.mem_cons_of_mem _ hg,e⟩
theorem Chain.look{fs:Tab}{s x:St}{l:List St}(t:Chain fs s l)(h:x∈l):∃d,Ci fs s=some d:=by
 cases t with
 |nil=>cases h
 |cons _ hl _=>exact⟨_,hl⟩
theorem AEv{fs:Tab}(hc:Chk fs)(hw:Whole fs){s:St}{r:St×Ty}:∀{c own:St} {l m:List St},Chain fs c l->own∈l->Chain fs own m->gX fs s m=some r->gX fs s l=some r
 |_,_,_,_,.nil,h,_,_=>by cases h
 |c,own,_,m,.cons (c:=fc) (l:=l) h0 hl t,h,hm,hr=>by
  rcases List.mem_cons.1 h with rfl|h
  ·rw[hm.det (.cons h0 hl t)]at hr;exact hr
  ·have ih:=AEv hc hw t h hm hr
   show(match Z7 s ((Ci fs c).getD DF).fs with|some t=>some (c,t)|none=>gX fs s l)=some r
   cases hf:Z7 s ((Ci fs c).getD DF).fs with
   |none=>exact ih
   |some x=>
    exfalso
    rw[hl]at hf
    obtain⟨f,hmem,e,-⟩:=AFC hf
    have:=AG9 hl (hc c fc hl) f hmem
    rw[e]at this
    unfold VK at this
    obtain⟨d,hd⟩:=t.look h
    rw[<-t.det (ET (hw _ _ hd)),ih]at this
    cases this
theorem AI4{fs:Tab}(hc:Chk fs)(hw:Whole fs){s c own:St}{r:St×Ty}(h:own∈(above fs c).1)(hr:VK fs own s=some r):VK fs c s=some r:=by
 obtain⟨d,hd⟩:=Jw h
 have h1:=ET (hw c d hd)
 obtain⟨e,he⟩:=h1.known h
 exact AEv hc hw h1 h (ET (hw own e he)) hr
def XD(fs:Tab)(l:List St):List lg:=l.flatMap λu=>((Ci fs u).getD DF).fs
theorem AFD{s:St}:∀{l:List lg} {t:Ty},Z7 s l=some t->∃(k:Nat) (f:lg),l[k]? =some f/\f.nm=s/\f.ty=t/\∀(j:Nat) (g:lg),j<k->l[j]? =some g->g.nm≠s
 |[],_,h=>by cases h
 |f::l,t,h=>by
  unfold Z7 at h
  cases hd:decide (f.nm.1=s.1/\f.nm.2=s.2)with
  |true=>
   rw[hd]at h
   have:=of_decide_eq_true hd
   cases h
   exact⟨0,f,rfl,Prod.ext this.1 this.2,rfl,λj g hj=>absurd hj (Nat.not_lt_zero _)⟩
  |false=>
   rw[hd]at h
   have hne:=of_decide_eq_false hd
   obtain⟨k,g,h1,h2,h3,h4⟩:=AFD (show Z7 s l=some t from h)
   refine⟨k+1,g,h1,h2,h3,λj x hj hx=>?_⟩
   cases j with
   |zero=>cases hx;exact λe=>hne (by rw[e];exact⟨rfl,rfl⟩)
   |succ j=>exact h4 j x (by omega) hx
theorem ACU{s:St}:∀{l:List lg},Z7 s l=none->∀g∈l,g.nm≠s
 |[],_,_,h=>by cases h
 |f::l,h,g,hg=>by
  unfold Z7 at h
  cases hd:decide (f.nm.1=s.1/\f.nm.2=s.2)with
  |true=>rw[hd]at h;cases h
  |false=>
   rw[hd]at h
   have hne:=of_decide_eq_false hd
   rcases List.mem_cons.1 hg with rfl|hg
   ·exact λe=>hne (by rw[e];exact⟨rfl,rfl⟩)
   ·exact ACU (show Z7 s l=none from h) g hg
theorem AB6{fs:Tab}{s:St}:∀{l:List St} {r:St×Ty},gX fs s l=some r->∃(k:Nat) (f:lg),(XD fs l)[k]? =some f/\f.nm=s/\f.ty=r.2/\∀(j:Nat) (g:lg),j<k->(XD fs l)[j]? =some g->g.nm≠s
 |[],_,h=>by cases h
 |c::cs,r,h=>by
  have h:(match Z7 s ((Ci fs c).getD DF).fs with|some t=>some (c,t)|none=>gX fs s cs)=some r:=h
  have e:XD fs (c::cs)=((Ci fs c).getD DF).fs++XD fs cs:=rfl
  rw[e]
  generalize((Ci fs c).getD DF).fs=l at*
  cases hf:Z7 s l with
  |some t=>
   rw[hf]at h
   cases h
   obtain⟨k,f,h1,h2,h3,h4⟩:=AFD hf
   have hk:=(List.getElem?_eq_some_iff.1 h1).1
   refine⟨k,f,by rw[List.getElem?_append_left hk];exact h1,h2,h3,λj g hj hg=>?_⟩
   rw[List.getElem?_append_left (by omega)]at hg
   exact h4 j g hj hg
  |none=>
   rw[hf]at h
   obtain⟨k,f,h1,h2,h3,h4⟩:=AB6 h
   refine⟨l.length+k,f,by rw[List.getElem?_append_right (by omega),Nat.add_sub_cancel_left];exact h1,h2,h3,λj g hj hg=>?_⟩
   by_cases hl:j<l.length
   ·rw[List.getElem?_append_left hl]at hg
    exact ACU hf g (List.mem_of_getElem? hg)
   ·rw[List.getElem?_append_right (by omega)]at hg
    exact h4 _ g (by omega) hg
theorem ACt{s:St}:∀{l:List DW} {m:DW},Qi s l=some m->m∈l
 |[],_,h=>by cases h
 |f::l,t,h=>by
  unfold Qi at h
  cases hd:decide (f.nm.1=s.1/\f.nm.2=s.2)with
  |true=>rw[hd]at h;cases h;exact List.mem_cons_self ..
  |false=>rw[hd]at h;exact List.mem_cons_of_mem _ (ACt (show Qi s l=some t from h))
theorem oW{fs:Tab}{p:PM}:∀{l:List St} {u:St},Yp fs p l=some u->u∈l/\∃m∈((Ci fs u).getD DF).ms,m.same p.m=true
 |[],_,h=>by cases h
 |c::cs,u,h=>by
  have h:(match Qi p.m.nm ((Ci fs c).getD DF).ms with|some o=>bif o.same p.m then some c else Yp fs p cs|none=>Yp fs p cs)=some u:=h
  cases hm:Qi p.m.nm ((Ci fs c).getD DF).ms with
  |none=>
   rw[hm]at h
   obtain⟨h1,h2⟩:=oW h
   exact⟨List.mem_cons_of_mem _ h1,h2⟩
  |some o=>
   rw[hm]at h
   cases hs:o.same p.m with
   |true=>
    simp only[hs,cond_true,Option.some.injEq]at h
    subst h
    exact⟨List.mem_cons_self ..,o,ACt hm,hs⟩
   |false=>
    simp only[hs,cond_false]at h
    obtain⟨h1,h2⟩:=oW h
    exact⟨List.mem_cons_of_mem _ h1,h2⟩
structure Cv where
 n:Int
 o:Nat
def Cv.cells(v:Cv):LV:=[.int .i64 v.n 0,.int .i64 (.ofNat v.o) 0]
abbrev Cv.v(v:Cv):V:=.agg v.cells
def iO:Cv:=⟨0,0⟩
structure Th where
 cls:St
 arr:Bool
 ty:Ty
 names:List St
 vals:List Cv
def TT(fs:Tab)(th:Th)(t:Ty):Prop:=if t.arr=true then th.arr=true/\th.ty=t else t.cls=true/\th.arr=false/\Gq fs th.cls t.nm=true
def VT(fs:Tab)(hs:List Th)(v:Cv)(t:Ty):Prop:=t.obj=true->v.o=0∨∃th,0<v.o/\hs[v.o-1]? =some th/\TT fs th t
theorem yg{fs:Tab}{hs:List Th}{t:Ty}{x:Int}:VT fs hs ⟨x,0⟩ t:=λ_=>.inl rfl
theorem fO{fs:Tab}{hs:List Th}{t:Ty}{v:Cv}(h:t.obj=false):VT fs hs v t:=λe=>by rw[h]at e;cases e
theorem ADu{fs:Tab}(hw:Whole fs)(hu:Upper fs){hs:List Th}{v:Cv}{a b:Ty}(h:fitsT fs a b=true)(hv:VT fs hs v a):VT fs hs v b:=by
 intro hb
 have ha:=X9 h hb
 rcases hv ha with h0|⟨th,h1,h2,h3⟩
 ·exact .inl h0
 rw[F9]at h
 rcases h with rfl|⟨rfl,-⟩|⟨hac,hbc,hbl⟩
 ·exact .inr ⟨th,h1,h2,h3⟩
 ·have h3:TT fs th CO:=h3
  unfold TT at h3
  rw[if_neg (by decide)]at h3
  rw[OT]at h3
  cases h3.1
 ·refine .inr ⟨th,h1,h2,?_⟩
  have e1:=sO hac
  have e2:=sO hbc
  unfold TT at h3⊢
  rw[if_neg (by rw[e1];decide)]at h3
  rw[if_neg (by rw[e2];decide)]
  exact⟨hbc,h3.2.1,yD hw h3.2.2 hbl⟩
def Ext(hs hs':List Th):Prop:=∀(i:Nat) (th:Th),hs[i]? =some th->∃th',hs'[i]? =some th'/\th'.cls=th.cls/\th'.arr=th.arr/\th'.ty=th.ty/\th'.names=th.names/\th'.vals.length=th.vals.length
theorem Ext.refl(hs:List Th):Ext hs hs:=λi th h=>⟨th,h,rfl,rfl,rfl,rfl,rfl⟩
theorem Ext.trans{a b c:List Th}(x:Ext a b)(y:Ext b c):Ext a c:=λi th h=>by
 obtain⟨t1,h1,a1,a2,a3,a4,a5⟩:=x i th h
 obtain⟨t2,h2,b1,b2,b3,b4,b5⟩:=y i t1 h1
 exact⟨t2,h2,b1.trans a1,b2.trans a2,b3.trans a3,b4.trans a4,b5.trans a5⟩
theorem VT.ext{fs:Tab}{hs hs':List Th}{v:Cv}{t:Ty}(h:VT fs hs v t)(e:Ext hs hs'):VT fs hs' v t:=λht=>by
 rcases h ht with h0|⟨th,h1,h2,h3⟩
 ·exact .inl h0
 ·obtain⟨th',g1,e1,e2,e3,-,-⟩:=e _ th h2
  refine .inr ⟨th',h1,g1,?_⟩
  unfold TT at*
  rw[e1,e2,e3];exact h3
structure ALu(fs:Tab)(hs:List Th)(th:Th):Prop where
 cls:th.arr=false->(∃c,Ci fs th.cls=some c)/\th.names=(XD fs (above fs th.cls).1).map (λf=>f.nm)/\th.vals.length=th.names.length/\∀(k:Nat) (v:Cv) (f:lg),th.vals[k]? =some v->(XD fs (above fs th.cls).1)[k]? =some f->VT fs hs v f.ty
 arr:th.arr=true->th.ty.arr=true/\th.names=[]/\∀v∈th.vals,VT fs hs v (Qn th.ty)
def AKQ(fs:Tab)(hs:List Th):Prop:=∀th∈hs,ALu fs hs th
theorem ALu.ext{fs:Tab}{hs hs':List Th}{th:Th}(h:ALu fs hs th)(e:Ext hs hs'):ALu fs hs' th:=
 ⟨λq=>by
  obtain⟨h1,h2,h3,h4⟩:=h.cls q
  exact⟨h1,h2,h3,λk v f a b=>(h4 k v f a b).ext e⟩,λq=>by
  obtain⟨h1,h2,h3⟩:=h.arr q
  exact⟨h1,h2,λv hv=>(h3 v hv).ext e⟩⟩
def TM(fs:Tab)(hs:List Th)(vs:List Cv)(ts:List Ty):Prop:=vs.length=ts.length/\∀(i:Nat) (v:Cv) (t:Ty),vs[i]? =some v->ts[i]? =some t->VT fs hs v t
theorem TM.ext{fs:Tab}{hs hs':List Th}{vs:List Cv}{ts:List Ty}(h:TM fs hs vs ts)(e:Ext hs hs'):TM fs hs' vs ts:=⟨h.1,λi v t a b=>(h.2 i v t a b).ext e⟩
theorem TM.nil{fs:Tab}{hs:List Th}:TM fs hs [] []:=⟨rfl,λi v t h=>by cases h⟩
theorem TM.cons{fs:Tab}{hs:List Th}{v:Cv}{t:Ty}{vs:List Cv}{ts:List Ty}(h:VT fs hs v t)(h2:TM fs hs vs ts):TM fs hs (v::vs) (t::ts):=
 ⟨by rw[List.length_cons,List.length_cons,h2.1],λi w u a b=>by
  cases i with
  |zero=>cases a;cases b;exact h
  |succ i=>exact h2.2 i w u a b⟩
theorem TM.inv{fs:Tab}{hs:List Th}{vs:List Cv}{t:Ty}{ts:List Ty}(h:TM fs hs vs (t::ts)):∃v r,vs=v::r/\VT fs hs v t/\TM fs hs r ts:=by
 cases vs with
 |nil=>have:=h.1;cases this
 |cons v r=>
  refine⟨v,r,rfl,h.2 0 v t rfl rfl,?_,λi w u a b=>h.2 (i+1) w u a b⟩
  have:=h.1
  simpa using this
theorem TM.le{fs:Tab}(hw:Whole fs)(hu:Upper fs){hs:List Th}:∀{vs:List Cv} {a b:List Ty},TM fs hs vs a->ZM (kW fs) a b->TM fs hs vs b
 |vs,[],_,h,.nil=>h
 |vs,a::l,b::m,h,.cons e t=>by
  obtain⟨v,r,rfl,h1,h2⟩:=h.inv
  exact .cons (ADu hw hu e h1) (h2.le hw hu t)
theorem TM.leL{fs:Tab}(hw:Whole fs)(hu:Upper fs){hs:List Th}:∀{vs:List Cv} {a b:List Ty},TM fs hs vs a->ZM (iQ fs) a b->TM fs hs vs b
 |vs,[],_,h,.nil=>h
 |vs,a::l,b::m,h,.cons e t=>by
  obtain⟨v,r,rfl,h1,h2⟩:=h.inv
  refine .cons ?_ (h2.leL hw hu t)
  rcases e with rfl|e
  ·exact fO ADm
  ·exact ADu hw hu e h1
theorem TM.get{fs:Tab}{hs:List Th}{vs:List Cv}{ts:List Ty}(h:TM fs hs vs ts){i:Nat}(hi:i<ts.length):∃v,vs[i]? =some v/\VT fs hs v ts[i]:=by
 have hi':i<vs.length:=by rw[h.1];exact hi
 exact⟨vs[i],List.getElem?_eq_getElem hi',h.2 i _ _ (List.getElem?_eq_getElem hi') (List.getElem?_eq_getElem hi)⟩
theorem TM.set{fs:Tab}{hs:List Th}{vs:List Cv}{ts:List Ty}(h:TM fs hs vs ts){i:Nat}{v:Cv}{t:Ty}(hv:VT fs hs v t):TM fs hs (vs.set i v) (ts.set i t):=by
 refine⟨by rw[List.length_set,List.length_set,h.1],λj w u a b=>?_⟩
 have hl:=h.1
 rw[List.getElem?_set]at a b
 by_cases e:i=j
 ·rw[if_pos e]at a b
  by_cases hj:i<vs.length
  ·rw[if_pos hj]at a
   rw[if_pos (by omega)]at b
   cases a;cases b;exact hv
  ·rw[if_neg hj]at a;cases a
 ·rw[if_neg e]at a b
  exact h.2 j w u a b
structure Mn where
 kb:Nat
 t:Nat
 a:Nat
 b:Nat
 fs:Tab
 vf:V
 Bg:List Fl
 deep:Int
structure Mw where
 own:Nat->Nat
 hv:V
 ov:V
 nv:Nat->V
 pb:Nat->Nat
structure Mst where
 steps:Int
 parts:Int
 calls:Int
 trap:Int
 hs:List Th
 outs:Int
def Mn.cells(M:Mn)(W:Mw)(s:Mst):LV:=[.ptr M.t 0,M.vf,.int .i64 s.steps 0,.int .i64 s.parts 0,.int .i64 M.deep 0,.bool false,.int .i64 s.trap 0,W.hv,W.ov,.int .i64 s.calls 0]
def Mw.pv(W:Mw)(i m:Nat):V:=.sl (W.pb i) 0 m m 2
structure Mm(M:Mn)(W:Mw)(G:AX)(H:Heap)(n:Nat)(s:Mst):Prop where
 kn:M.kb<n
 ko:W.own M.kb=1
 lo:∀id,id<M.kb->W.own id=0
 hi:∀id,n<=id->W.own id=0
 box:T.get H M.kb=some (one (M.cells W s))
 hp:∃LS:ER,Sk H 3 (λid=>id<n/\W.own id=2) W.hv LS/\LS.length=s.hs.length/\∀(i:Nat) (th:Th),s.hs[i]? =some th->LS[i]? =some [th.cls.v,W.nv i,W.pv i th.vals.length]
 out:∃LS:ER,Sk H 1 (λid=>id<n/\W.own id=3) W.ov LS/\(LS.length:Int)=s.outs
 nm:∀(i:Nat) (th:Th),s.hs[i]? =some th->El G H (W.nv i) 1 (strs th.names)/\(∀id,(W.nv i).XZ=some id->id<n/\W.own id=4)/\Wl (W.nv i)=true/\Aq (W.nv i)=[W.nv i]
 pt:∀(i:Nat) (th:Th),s.hs[i]? =some th->(W.pb i<n/\W.own (W.pb i)=5+i)/\∃tt,T.get H (W.pb i)=some (.arr 2 th.vals.length tt)/\∀(k:Nat) (v:Cv),th.vals[k]? =some v->T.get tt k=some v.cells
 sz:0<=s.parts/\(s.hs.length:Int)+s.parts<=1100/\ -1<=s.steps/\s.steps<=4100/\0<=s.calls/\s.calls+s.steps<=9000
 big:∀th∈s.hs,th.vals.length<=1100/\th.names.length<=1100
 ok:AKQ M.fs s.hs
 osz:s.outs+s.steps<=5000
section
variable{M:Mn}{W:Mw}{G:AX}{H H':Heap}{n n':Nat}{s s':Mst}
theorem Mm.mono(h:Mm M W G H n s)(hn:n<=n')(e:∀id,id<n->W.own id≠0->T.get H' id=T.get H id):Mm M W G H' n' s:=by
 refine⟨by have:=h.kn;omega,h.ko,h.lo,λid hid=>h.hi id (by omega),(e _ h.kn (by rw[h.ko];omega)).trans h.box,?_,?_,λi th hi=>?_,λi th hi=>?_,h.sz,h.big,h.ok,h.osz⟩
 ·obtain⟨LS,sk,h1,h2⟩:=h.hp
  exact⟨LS,sk.mono (λid h=>⟨by omega,h.2⟩) (λid h=>e id h.1 (by omega)),h1,h2⟩
 ·obtain⟨LS,sk,h1⟩:=h.out
  exact⟨LS,sk.mono (λid h=>⟨by omega,h.2⟩) (λid h=>e id h.1 (by omega)),h1⟩
 ·obtain⟨h1,h2,h3⟩:=h.nm i th hi
  exact⟨h1.same λid hid=>e id (h2 id hid).1 (by have:=h2 id hid;omega),λid hid=>⟨by have:=h2 id hid;omega,(h2 id hid).2⟩,h3⟩
 ·obtain⟨⟨h1,h2⟩,tt,h3,h4⟩:=h.pt i th hi
  exact⟨⟨by omega,h2⟩,tt,(e _ h1 (by omega)).trans h3,h4⟩
theorem Mm.APJ(h:Mm M W G H n s)(hs:s'.hs=s.hs)(gb:T.get H' M.kb=some (one (M.cells W s')))(e:∀id,id≠M.kb->T.get H' id=T.get H id)
 (sz:0<=s'.parts/\(s'.hs.length:Int)+s'.parts<=1100/\ -1<=s'.steps/\s'.steps<=4100/\0<=s'.calls/\s'.calls+s'.steps<=9000) (hst:s'.steps<=s.steps) (hou:s'.outs=s.outs):Mm M W G H' n s':=by
 have e':∀id,1<W.own id->T.get H' id=T.get H id:=λid hid=>e id λq=>by rw[q,h.ko]at hid;omega
 refine⟨h.kn,h.ko,h.lo,h.hi,gb,?_,?_,λi th hi=>?_,λi th hi=>?_,sz,by rw[hs];exact h.big,by rw[hs];exact h.ok,by have:=h.osz;omega⟩
 ·obtain⟨LS,sk,h1,h2⟩:=h.hp
  exact⟨LS,sk.mono (λid h=>h) (λid h=>e' id (by omega)),by rw[hs];exact h1,by rw[hs];exact h2⟩
 ·obtain⟨LS,sk,h1⟩:=h.out
  exact⟨LS,sk.mono (λid h=>h) (λid h=>e' id (by omega)),by omega⟩
 ·rw[hs]at hi
  obtain⟨h1,h2,h3⟩:=h.nm i th hi
  exact⟨h1.same λid hid=>e' id (by have:=h2 id hid;omega),h2,h3⟩
 ·rw[hs]at hi
  obtain⟨⟨h1,h2⟩,tt,h3,h4⟩:=h.pt i th hi
  exact⟨⟨h1,h2⟩,tt,(e' _ (by omega)).trans h3,h4⟩
theorem Mm.wU{P:KV}{x:Int}{o:Nat}(h:Mm M W G H n s)(hs:s'.hs=s.hs)(ho:o<10)(hc:(M.cells W s).take o++([.int .i64 x 0]++(M.cells W s).drop (o+1))=M.cells W s')
 (sz:0<=s'.parts/\(s'.hs.length:Int)+s'.parts<=1100/\ -1<=s'.steps/\s'.steps<=4100/\0<=s'.calls/\s'.calls+s'.steps<=9000) (hst:s'.steps<=s.steps) (hou:s'.outs=s.outs)
 (hk:∀H',Mm M W G H' n s'->(∀id,id≠M.kb->T.get H' id=T.get H id)->P .undef H' n'):Ba 1 (.ptr M.kb o) (.int .i64 x 0) H n' P:=by
 refine XM h.box rfl rfl (by omega) (by show o+1<=10;omega) λH1 g1 s1=>?_
 rw[show Aq (.int .i64 x 0)=[.int .i64 x 0]from rfl,hc]at g1
 exact hk H1 (h.APJ hs g1 s1 sz hst hou) s1
theorem Ext.put{hs:List Th}{i:Nat}{th:Th}{k:Nat}{v:Cv}(hi:hs[i]? =some th):Ext hs (hs.set i {th with vals:=th.vals.set k v}):=by
 have hlt:=(List.getElem?_eq_some_iff.1 hi).1
 intro j x hx
 by_cases e:i=j
 ·subst e
  rw[hi]at hx
  cases hx
  exact⟨_,List.getElem?_set_self hlt,rfl,rfl,rfl,rfl,List.length_set ..⟩
 ·exact⟨x,by rw[List.getElem?_set_ne e];exact hx,rfl,rfl,rfl,rfl,rfl⟩
theorem AKQ.put{fs:Tab}{hs:List Th}{i k:Nat}{th:Th}{v:Cv}(h:AKQ fs hs)(hi:hs[i]? =some th)
 (hv:(th.arr=false->∀f:lg,(XD fs (above fs th.cls).1)[k]? =some f->VT fs hs v f.ty)/\(th.arr=true->VT fs hs v (Qn th.ty))):AKQ fs (hs.set i {th with vals:=th.vals.set k v}):=by
 have e:=Ext.put (k:=k) (v:=v) hi
 have ho:=h th (List.mem_of_getElem? hi)
 intro x hx
 rcases List.mem_or_eq_of_mem_set hx with hx|rfl
 ·exact(h x hx).ext e
 ·refine ALu.ext (hs:=hs) ⟨λq=>?_,λq=>?_⟩ e
  ·obtain⟨h1,h2,h3,h4⟩:=ho.cls q
   refine⟨h1,h2,by rw[List.length_set];exact h3,λj w f ha hb=>?_⟩
   rw[List.getElem?_set]at ha
   by_cases ej:k=j
   ·rw[if_pos ej]at ha
    subst ej
    split at ha
    ·cases ha;exact hv.1 q f hb
    ·cases ha
   ·rw[if_neg ej]at ha
    exact h4 j w f ha hb
  ·obtain⟨h1,h2,h3⟩:=ho.arr q
   refine⟨h1,h2,λw hw=>?_⟩
   rcases List.mem_or_eq_of_mem_set hw with hw|rfl
   ·exact h3 w hw
   ·exact hv.2 q
theorem Mm.put{i k:Nat}{th:Th}{v:Cv}{q:IntKind}{P:KV}(h:Mm M W G H n s)(hi:s.hs[i]? =some th)(hk:k<th.vals.length)(hv:(th.arr=false->∀f:lg,(XD M.fs (above M.fs th.cls).1)[k]? =some f->VT M.fs s.hs v f.ty)/\(th.arr=true->VT M.fs s.hs v (Qn th.ty)))
 (hP:∀H',Mm M W G H' n {s with hs:=s.hs.set i {th with vals:=th.vals.set k v}}->(∀id,id≠W.pb i->T.get H' id=T.get H id)->P .undef H' n'):
 AP (Ag 2 (W.pv i th.vals.length) (.int q (.ofNat k) 0)) λp=>Ba 2 p v.v H n' P:=by
 obtain⟨⟨h1,h2⟩,tt,h3,h4⟩:=h.pt i th hi
 have hlt:=(List.getElem?_eq_some_iff.1 hi).1
 unfold Mw.pv
 rw[ABP hk,AB,Nat.zero_add]
 refine AEh h3 (by omega) hk (h4 k _ (List.getElem?_eq_getElem hk)) rfl rfl λH' g' s'=>hP H' ?_ s'
 have e':∀id,W.own id≠5+i->T.get H' id=T.get H id:=λid hid=>s' id λq=>hid (by rw[q];exact h2)
 have look:∀(j:Nat) (x:Th),(s.hs.set i {th with vals:=th.vals.set k v})[j]? =some x->(j=i/\x={th with vals:=th.vals.set k v})∨(j≠i/\s.hs[j]? =some x):=λj x hx=>by
  by_cases e:i=j
  ·subst e
   rw[List.getElem?_set_self hlt]at hx
   exact .inl ⟨rfl,(Option.some.inj hx).symm⟩
  ·rw[List.getElem?_set_ne e]at hx
   exact .inr ⟨Ne.symm e,hx⟩
 refine⟨h.kn,h.ko,h.lo,h.hi,(e' _ (by rw[h.ko];omega)).trans h.box,?_,?_,λj x hx=>?_,λj x hx=>?_,by simpa using h.sz,λx hx=>?_,h.ok.put hi hv,h.osz⟩
 ·obtain⟨LS,sk,q1,q2⟩:=h.hp
  refine⟨LS,sk.mono (λid h=>h) (λid h=>e' id (by omega)),by rw[List.length_set];exact q1,λj x hx=>?_⟩
  rcases look j x hx with⟨rfl,rfl⟩|⟨_,hx⟩
  ·show LS[j]? =some [th.cls.v,W.nv j,W.pv j (th.vals.set k v).length]
   rw[List.length_set];exact q2 j th hi
  ·exact q2 j x hx
 ·obtain⟨LS,sk,q1⟩:=h.out
  exact⟨LS,sk.mono (λid h=>h) (λid h=>e' id (by omega)),q1⟩
 ·rcases look j x hx with⟨rfl,rfl⟩|⟨_,hx⟩
  ·obtain⟨q1,q2,q3⟩:=h.nm j th hi
   exact⟨q1.same λid hid=>e' id (by have:=q2 id hid;omega),q2,q3⟩
  ·obtain⟨q1,q2,q3⟩:=h.nm j x hx
   exact⟨q1.same λid hid=>e' id (by have:=q2 id hid;omega),q2,q3⟩
 ·rcases look j x hx with⟨rfl,rfl⟩|⟨hne,hx⟩
  ·refine⟨⟨h1,h2⟩,_,by show _=some (O7.arr 2 (th.vals.set k v).length _);rw[List.length_set];exact g',λm w hm=>?_⟩
   have hm:(th.vals.set k v)[m]? =some w:=hm
   by_cases e:k=m
   ·subst e
    rw[List.getElem?_set_self hk]at hm
    cases hm
    rw[T.Ah];rfl
   ·rw[List.getElem?_set_ne e]at hm
    rw[T.Ac _ _ e];exact h4 m w hm
  ·obtain⟨⟨q1,q2⟩,t2,q3,q4⟩:=h.pt j x hx
   exact⟨⟨q1,q2⟩,t2,(e' _ (by omega)).trans q3,q4⟩
 ·rcases List.mem_or_eq_of_mem_set hx with hx|rfl
  ·exact h.big x hx
  ·have:=h.big th (List.mem_of_getElem? hi)
   exact⟨by show(th.vals.set k v).length<=1100;rw[List.length_set];exact this.1,this.2⟩
end
def Kz(W:Mw)(n0:Nat)(H H':Heap):Prop:=∀id,id<n0->W.own id=0->T.get H' id=T.get H id
section
variable{M:Mn}{W:Mw}{G:AX}{H H':Heap}{n n':Nat}{s s':Mst}{k:KV}
theorem Mm.kp(h:Mm M W G H n s)(f:Kp H n H' n'):Mm M W G H' n' s:=h.mono f.le λid h1 _=>f.same id h1
theorem dK:Ap [.int .i64 (.ofNat 0) 0,.int .i64 (.ofNat 0) 0] []=some iO.v:=rfl
theorem yE{r:Nat}{L:LV}{v:Cv}(g:T.get H r=some (one L))(hL:L.length=2)(hn:r<n){P:V->Heap->Nat->Prop}(h:∀H',(∀id,id≠r->T.get H' id=T.get H id)->P v.v H' n):
 Ba 2 (.ptr r 0) v.v H n λ_ H n=>Hw (Du [.cn (.ptr r 0) 2] G H) λl=>P (IC l) H n:=by
 show Ba 2 (.ptr r 0) (.agg v.cells) H n _
 rw[Gt (m:=2) g (by omega) hL rfl,Ei (m:=2) (T.Ah ..) (by omega) rfl]
 exact h _ λid hid=>T.Ac _ _ (Ne.symm hid)
theorem AL4{x:Nat}(h:Mm M W G H n s)(hx:x≠0)(hk:∀H' n' t,Mm M W G H' n' {s with trap:=t}->t≠0->n<=n'->Kz W n H H'->k iO.v H' n'):Runs F G BH [.ptr M.kb 0,.int .i64 (.ofNat x) 0] H n k:=by
 refine BN (s:=SC (GY lfp G)) MK (by obtain⟨h,o⟩:=SN BO G;rw[MK]at h;cases h;exact o) ?_
 show GY lfp G (Runs F G) (.ptr M.kb 0) (.int .i64 (.ofNat x) 0) H n k
 delta GY
 have kn:=h.kn
 refine BZ rfl λH1 f1 g1=>?_
 have h1:=h.kp f1
 have fin:∀{H2:Heap} {t:Int},Mm M W G H2 (n+1) {s with trap:=t}->t≠0->(∀id,id≠M.kb->T.get H2 id=T.get H1 id)->Es lfp G (Runs F G) k (.ptr n 0) H2 (n+1):=by
  intro H2 t h2 ht s2
  delta Es
  rw[dK,AB]
  refine yE ((s2 _ (by omega)).trans g1) rfl (by omega) λH3 s3=>?_
  refine hk H3 (n+1) t (h2.mono (Nat.le_refl _) λid h1 h2=>s3 id λe=>by rw[e,h.hi n (Nat.le_refl _)]at h2;exact h2 rfl) ht (by omega) λid hid ho=>?_
  rw[s3 id (by omega),s2 id λe=>by rw[e,h.ko]at ho;omega,f1.same id hid]
 rw[Dq,AB,Ae,AB,AU (off:=0+6) h1.box (v:=.int .i64 s.trap 0) rfl,AB,ah,AB]
 cases hd:decide (s.trap=Int.ofNat 0)with
 |true=>
  rw[BD,AB,Ae,AB]
  have hsz:=h.sz
  exact h1.wU (s':={s with trap:=.ofNat x}) rfl (by omega) rfl hsz (Int.le_refl _) rfl λH2 h2 s2=>fin h2 (by show(x:Int)≠0;omega) s2
 |false=>
  rw[BA]
  exact fin (t:=s.trap) h1 (λe=>by rw[e]at hd;exact absurd hd (by decide)) λ_ _=>rfl
theorem AKD{b:Bool}(hk:∀H' n' x,Kp H n H' n'->k (⟨x,0⟩:Cv).v H' n'):Runs F G Hy [.bool b] H n k:=by
 refine BN (s:=N9 (PI lfp G)) Vm (by obtain⟨h,o⟩:=dJ BO G;rw[Vm]at h;cases h;exact o) ?_
 show PI lfp G (Runs F G) (.bool b) H n k
 delta PI
 refine BZ rfl λH1 f1 g1=>?_
 cases b with
 |true=>
  rw[BD,show Ap [.int .i64 (.ofNat 0) 0,.int .i64 (.ofNat 0) 0] [(0,1,.c (.int .i64 (.ofNat 1) 0))]=some (⟨1,0⟩:Cv).v from rfl,AB]
  exact yE g1 rfl (by omega) λH3 s3=>hk _ _ 1 ⟨by omega,λid hid=>by rw[s3 id (by omega),f1.same id hid]⟩
 |false=>
  rw[BA,dK,AB]
  exact yE g1 rfl (by omega) λH3 s3=>hk _ _ 0 ⟨by omega,λid hid=>by rw[s3 id (by omega),f1.same id hid]⟩
theorem Ext.app{hs:List Th}{th:Th}:Ext hs (hs++[th]):=λi x hx=>⟨x,by rw[List.getElem?_append_left (List.getElem?_eq_some_iff.1 hx).1];exact hx,rfl,rfl,rfl,rfl,rfl⟩
theorem vW{x:Int}{y:Nat}(h1: -4611686018427387904<=x)(h2:x<4611686018427387904)(h3:y<4611686018427387904):B2.ev .sub (.int .i64 x 0) (.int .i64 (.ofNat y) 0)=some (.int .i64 (x-y) 0):=by
 show some (V.int .i64 (bT .i64 (ABD x (Int.neg (.ofNat y)))) 0)=_
 rw[SQ,fM]
 have e:x+Int.neg (Int.ofNat y)=x-(y:Int):=by show x+ -(y:Int)=_;omega
 rw[e,Vr (by omega) (by omega)]
theorem AKu{z z':Nat}{A:Nat->Prop}{nv:V}{LS:ER}(h:Sk H z A nv LS)(cls:St)(a b c d e:Nat):Ap [.str 0 0,.AY,.AY] [(0,1,.c cls.v),(1,1,.c nv),(2,1,.c (.sl a b c d e))]=some (.agg [cls.v,nv,.sl a b c d e]):=by
 cases h<;>rfl
theorem AM0{cls:St}{nv:V}{m n0:Nat}{ty:Ty}{arr:Bool}{names:List St}(h:Mm M W G H n s)(hn0:n0<=n)(hkb:M.kb<n0)(hnv:Sk H 1 (λid=>n0<=id/\id<n/\W.own id=0) nv (strs names))
 (hc:arr=false->(∃c,Ci M.fs cls=some c)/\names=(XD M.fs (above M.fs cls).1).map (λf=>f.nm)/\m=names.length) (ha:arr=true->ty.arr=true/\names=[])
 (hk0:∀H' n' t,Mm M W G H' n' {s with trap:=t}->t≠0->n<=n'->Kz W n0 H H'->k iO.v H' n')
 (hk1:∀W' H' n',Mm M W' G H' n' {s with parts:=s.parts-((m:Int)+1),hs:=s.hs++[⟨cls,arr,ty,names,List.replicate m iO⟩]}->n<=n'->(∀id,id<n0->W'.own id=W.own id)->Kz W n0 H H'->k (⟨0,s.hs.length+1⟩:Cv).v H' n'):
 Runs F G FW [.ptr M.kb 0,cls.v,nv,.int .i64 (.ofNat m) 0] H n k:=by
 refine BN (s:=ar4 (FV lfp G)) KD (by obtain⟨h,o⟩:=QM BO G;rw[KD]at h;cases h;exact o) ?_
 show FV lfp G (Runs F G) (.ptr M.kb 0) cls.v nv (.int .i64 (.ofNat m) 0) H n k
 delta FV
 have kn:=h.kn
 have hsz:=h.sz
 refine BZ rfl λH1 f1 g1=>?_
 have h1:=h.kp f1
 rw[Dq,AB,Ae,AB,Ae,AB,AU (off:=0+2+1) h1.box (v:=.int .i64 s.parts 0) rfl,AB,zV,AB]
 cases hd:decide (s.parts<=Int.ofNat m)with
 |true=>
  rw[BD]
  refine AL4 h1 (x:=6) (by omega) λH2 n2 t h2 ht hn2 kz2=>?_
  refine yE ((kz2 n (by omega) (h.hi n (Nat.le_refl _))).trans g1) rfl (by omega) λH3 s3=>?_
  exact hk0 H3 n2 t (h2.mono (Nat.le_refl _) λid _ ho=>s3 id λe=>by rw[e,h.hi n (Nat.le_refl _)]at ho;exact ho rfl) ht (by omega) λid hid ho=>by rw[s3 id (by omega),kz2 id (by omega) ho,f1.same id (by omega)]
 |false=>
  have hlt:(m:Int)<s.parts:=by have:=of_decide_eq_false hd;have:¬s.parts<=(m:Int):=this;omega
  rw[BA,AB,Ae,AB,Ae,AB,AU (off:=0+2+1) h1.box (v:=.int .i64 s.parts 0) rfl,AB,D7 (by omega),AB,vW (by omega) (by omega) (by omega),AB,AB,Ae,AB,Ae,AB]
  refine h1.wU (o:=0+2+1) (s':={s with parts:=s.parts-((m+1:Nat):Int)}) rfl (by omega) rfl ⟨by show 0<=s.parts-_;omega,by show(s.hs.length:Int)+(s.parts-_)<=_;omega,hsz.2.2⟩ (Int.le_refl _) rfl λH2 h2 s2=>?_
  have kz12:Kz W n H H2:=λid hid ho=>by rw[s2 id λe=>by rw[e,h.ko]at ho;omega,f1.same id hid]
  rw[AB,Ae,AB,AU (off:=0+7) h2.box (v:=W.hv) rfl,AB]
  refine ALN (by omega) λH3 f3 ⟨tt,g3,htt⟩=>?_
  have h3:=h2.kp f3
  have gr3:T.get H3 n=some (one [.int .i64 (.ofNat 0) 0,.int .i64 (.ofNat 0) 0]):=(f3.same _ (by omega)).trans ((s2 _ (by omega)).trans g1)
  have hnv3:Sk H3 1 (λid=>n0<=id/\id<n/\W.own id=0) nv (strs names):=hnv.mono (λid h=>h) λid h=>by rw[f3.same id (by omega),kz12 id h.2.1 h.2.2]
  rw[AKu (z':=0) hnv3,AB]
  obtain⟨LS,sk,hl1,hl2⟩:=h3.hp
  have hl1:LS.length=s.hs.length:=hl1
  refine sk.app (G:=G) (m:=0) (λid hid=>(sk.own hid).1) (by omega) rfl rfl (by omega) λv' H4 hv' s4 hid=>?_
  have hv4:=hv' (λid=>id=n+1+1+1) rfl
  have e4:∀id,id<n+1+1->W.own id≠2->T.get H4 id=T.get H3 id:=λid q1 q2=>s4 id q1 λe=>q2 (sk.own e).2
  rw[AB,Ae,AB]
  refine XM ((e4 _ (by omega) (by rw[h.ko];omega)).trans h3.box) hv4.ok.1 (by rw[hv4.ok.2.1];rfl) (by omega) (by show 0+7+1<=10;omega) λH5 g5 s5=>?_
  rw[hv4.ok.2.1]at g5
  have e5:∀id,id<n+1+1->id≠M.kb->W.own id≠2->T.get H5 id=T.get H3 id:=λid q1 q2 q3=>(s5 id q2).trans (e4 id q1 q3)
  have len5:lenV v'=some (.int .i64 (.ofNat (s.hs.length+1)) 0):=by rw[(hv4.el (G:=G) (by omega)).len,List.length_append,hl1];rfl
  let W':Mw:=⟨λid=>if id=n+1 then 5+s.hs.length else if id=n+1+1+1 then 2 else if nv.XZ=some id then 4 else W.own id,v',W.ov,λi=>if i=s.hs.length then nv else W.nv i,λi=>if i=s.hs.length then n+1 else W.pb i⟩
  have nvs:∀id,nv.XZ=some id->n0<=id/\id<n/\W.own id=0:=λid hid=>hnv.own hid
  have o1:W'.own (n+1)=5+s.hs.length:=if_pos rfl
  have o2:W'.own (n+1+1+1)=2:=by
   show(if _ then _ else _)=_
   rw[if_neg (by omega),if_pos rfl]
  have o3:∀id,nv.XZ=some id->W'.own id=4:=λid hid=>by
   have:=nvs id hid
   show(if _ then _ else _)=_
   rw[if_neg (by omega),if_neg (by omega),if_pos hid]
  have o4:∀id,id<n->nv.XZ≠some id->W'.own id=W.own id:=λid hid hne=>by
   show(if _ then _ else _)=_
   rw[if_neg (by omega),if_neg (by omega),if_neg hne]
  have o5:∀id,id<n->W.own id≠0->W'.own id=W.own id:=λid hid ho=>o4 id hid λe=>ho (nvs id e).2.2
  have look:∀(i:Nat) (x:Th),(s.hs++[(⟨cls,arr,ty,names,List.replicate m iO⟩:Th)])[i]? =some x->(i=s.hs.length/\x=⟨cls,arr,ty,names,List.replicate m iO⟩)∨(i<s.hs.length/\s.hs[i]? =some x):=λi x hx=>by
   by_cases hi:i<s.hs.length
   ·rw[List.getElem?_append_left hi]at hx;exact .inr ⟨hi,hx⟩
   ·rw[List.getElem?_append_right (by omega)]at hx
    have:=(List.getElem?_eq_some_iff.1 hx).1
    have hz:i-s.hs.length=0:=by simp at this;omega
    rw[hz]at hx
    cases hx
    exact .inl ⟨by omega,rfl⟩
  have keep:∀id,id<n->id≠M.kb->W.own id≠2->T.get H5 id=T.get H2 id:=λid q1 q2 q3=>by rw[e5 id (by omega) q2 q3,f3.same id (by omega)]
  have hnl:names.length<=1100:=by
   rcases Bool.eq_false_or_eq_true arr with q|q
   ·rw[(ha q).2];decide
   ·have:=(hc q).2.2;omega
  have hext:Ext s.hs (s.hs++[(⟨cls,arr,ty,names,List.replicate m iO⟩:Th)]):=Ext.app
  have hsn:Mm M W' G H5 (n+1+1+2) {s with parts:=s.parts-((m:Int)+1),hs:=s.hs++[⟨cls,arr,ty,names,List.replicate m iO⟩]}:=by
   refine⟨by omega,(o5 _ kn (by rw[h.ko];omega)).trans h.ko,λid hid=>?_,λid hid=>?_,g5,?_,?_,λi th hi=>?_,λi th hi=>?_,?_,λth hth=>?_,λth hth=>?_,h.osz⟩
   ·have hlo:=h.lo id hid
    rw[o4 id (by omega) λe=>by have:=nvs id e;omega];exact hlo
   ·show(if _ then _ else _)=_
    rw[if_neg (by omega),if_neg (by omega),if_neg λe=>by have:=nvs id e;omega]
    exact h.hi id (by omega)
   ·refine⟨LS++[[cls.v,nv,.sl (n+1) 0 m m 2]],(hv' (λid=>id<n+1+1+2/\W'.own id=2) ⟨by omega,o2⟩).AFK (λid q=>by rw[hid]at q;cases q;exact⟨by omega,o2⟩) (λid q=>by rw[hid]at q;cases q;exact s5 _ (by omega)),by simp[hl1],λi th hi=>?_⟩
    rcases look i th hi with⟨rfl,rfl⟩|⟨hlt,hi⟩
    ·rw[List.getElem?_append_right (by omega),hl1,Nat.sub_self]
     show some [cls.v,nv,_]=some [cls.v,(if s.hs.length=s.hs.length then nv else _),V.sl (if s.hs.length=s.hs.length then n+1 else _) 0 (List.replicate m iO).length (List.replicate m iO).length 2]
     rw[if_pos rfl,if_pos rfl,List.length_replicate]
    ·rw[List.getElem?_append_left (by omega),hl2 i th hi]
     show some [_,W.nv i,V.sl (W.pb i) 0 _ _ 2]=some [_,(if i=s.hs.length then nv else W.nv i),V.sl (if i=s.hs.length then n+1 else W.pb i) 0 _ _ 2]
     rw[if_neg (by omega),if_neg (by omega)]
   ·obtain⟨LO,so,ho⟩:=h3.out
    have lt:∀id,W.own id=3->id<n:=λid q=>by
     rcases Nat.lt_or_ge id n with h'|h'
     ·exact h'
     ·rw[h.hi id h']at q;omega
    exact⟨LO,so.mono (λid q=>⟨by omega,by rw[o5 id (lt id q.2) (by omega)];exact q.2⟩) (λid q=>e5 id (by omega) (λe=>by rw[e,h.ko]at q;omega) (by omega)),ho⟩
   ·rcases look i th hi with⟨rfl,rfl⟩|⟨hlt',hi⟩
    ·show El G H5 (if s.hs.length=s.hs.length then nv else _) 1 (strs names)/\(∀id,(if s.hs.length=s.hs.length then nv else W.nv _).XZ=some id->_)/\Wl (if s.hs.length=s.hs.length then nv else _)=true/\Aq (if s.hs.length=s.hs.length then nv else _)=[(if s.hs.length=s.hs.length then nv else _)]
     rw[if_pos rfl]
     exact⟨(hnv3.el (G:=G) (by omega)).same λid q=>by have:=nvs id q;exact e5 id (by omega) (by omega) (by omega),λid q=>⟨by have:=nvs id q;omega,o3 id q⟩,hnv3.ok.1,hnv3.ok.2.1⟩
    ·obtain⟨q1,q2,q3⟩:=h3.nm i th hi
     show El G H5 (if i=s.hs.length then nv else W.nv i) 1 (strs th.names)/\(∀id,(if i=s.hs.length then nv else W.nv i).XZ=some id->_)/\Wl (if i=s.hs.length then nv else W.nv i)=true/\Aq (if i=s.hs.length then nv else W.nv i)=[(if i=s.hs.length then nv else W.nv i)]
     rw[if_neg (by omega)]
     have lt:∀id,W.own id=4->id<n:=λid q=>by
      rcases Nat.lt_or_ge id n with h'|h'
      ·exact h'
      ·rw[h.hi id h']at q;omega
     exact⟨q1.same λid q=>by have:=q2 id q;exact e5 id (by omega) (λe=>by rw[e,h.ko]at this;omega) (by omega),λid q=>by have:=q2 id q;exact⟨by omega,by rw[o5 id (lt id this.2) (by omega)];exact this.2⟩,q3⟩
   ·rcases look i th hi with⟨rfl,rfl⟩|⟨hlt',hi⟩
    ·show((if s.hs.length=s.hs.length then n+1 else _)<_/\W'.own (if s.hs.length=s.hs.length then n+1 else _)=_)/\∃tt,T.get H5 (if s.hs.length=s.hs.length then n+1 else _)=some (O7.arr 2 (List.replicate m iO).length tt)/\∀(k:Nat) (v:Cv),(List.replicate m iO)[k]? =some v->T.get tt k=some v.cells
     rw[if_pos rfl,List.length_replicate]
     refine⟨⟨by omega,o1⟩,tt,(e5 _ (by omega) (by omega) (by rw[h.hi _ (by omega)];omega)).trans g3,λk v hv=>?_⟩
     obtain⟨q1,q2⟩:=List.getElem?_eq_some_iff.1 hv
     rw[List.getElem_replicate]at q2
     rw[List.length_replicate]at q1
     rw[<-q2];exact htt k q1
    ·obtain⟨⟨q1,q2⟩,t2,q3,q4⟩:=h3.pt i th hi
     show((if i=s.hs.length then n+1 else W.pb i)<_/\W'.own (if i=s.hs.length then n+1 else W.pb i)=_)/\∃tt,T.get H5 (if i=s.hs.length then n+1 else W.pb i)=some (O7.arr 2 th.vals.length tt)/\_
     rw[if_neg (by omega)]
     have lt:W.pb i<n:=by
      rcases Nat.lt_or_ge (W.pb i) n with h'|h'
      ·exact h'
      ·rw[h.hi _ h']at q2;omega
     exact⟨⟨by omega,by rw[o5 _ lt (by omega)];exact q2⟩,t2,(e5 _ (by omega) (λe=>by rw[e,h.ko]at q2;omega) (by omega)).trans q3,q4⟩
   ·refine⟨by show 0<=s.parts-_;omega,?_,hsz.2.2⟩
    show((s.hs++[_]).length:Int)+(s.parts-_)<=_
    rw[List.length_append]
    show((s.hs.length+1:Nat):Int)+_<=_
    omega
   ·rcases List.mem_append.1 hth with hth|hth
    ·exact h.big th hth
    ·rw[List.mem_singleton.1 hth]
     exact⟨by show(List.replicate m iO).length<=1100;rw[List.length_replicate];omega,hnl⟩
   ·rcases List.mem_append.1 hth with hth|hth
    ·exact(h.ok th hth).ext hext
    ·rw[List.mem_singleton.1 hth]
     refine⟨λq=>?_,λq=>?_⟩
     ·obtain⟨q1,q2,q3⟩:=hc q
      refine⟨q1,q2,by show(List.replicate m iO).length=_;rw[List.length_replicate];exact q3,λk v f hv _=>?_⟩
      rw[List.eq_of_mem_replicate (List.mem_of_getElem? hv)];exact yg
     ·obtain⟨q1,q2⟩:=ha q
      refine⟨q1,q2,λv hv=>?_⟩
      rw[List.eq_of_mem_replicate hv];exact yg
  have gr5:T.get H5 n=some (one [.int .i64 (.ofNat 0) 0,.int .i64 (.ofNat 0) 0]):=(e5 _ (by omega) (by omega) (by rw[h.hi _ (Nat.le_refl _)];omega)).trans gr3
  rw[AB,Ae,AB,AU (off:=0+7) g5 (v:=v') rfl,AB,len5,AB,show Ap [.int .i64 (.ofNat 0) 0,.int .i64 (.ofNat 0) 0] [(1,1,.c (.int .i64 (.ofNat (s.hs.length+1)) 0))]=some (⟨0,s.hs.length+1⟩:Cv).v from rfl,AB]
  refine yE gr5 rfl (by omega) λH6 s6=>?_
  refine hk1 W' H6 _ (hsn.mono (Nat.le_refl _) λid _ ho=>s6 id λe=>?_) (by omega) (λid hid=>o4 id (by omega) λe=>by have:=nvs id e;omega) λid hid ho=>?_
  ·rw[e]at ho
   refine ho ?_
   show(if _ then _ else _)=_
   rw[if_neg (by omega),if_neg (by omega),if_neg λe=>by have:=nvs n e;omega]
   exact h.hi n (Nat.le_refl _)
  ·rw[s6 id (by omega),e5 id (by omega) (λe=>by rw[e,h.ko]at ho;omega) (by omega),f3.same id (by omega),kz12 id (by omega) ho]
end
structure qy where
 N:Nat
 pb:Nat
 bb:Nat
 sb:Nat
 Pr:Nat->Prop
 mx:Int
 nl:Int
 wc:V
def cvs(l:List Cv):ER:=l.map Cv.cells
theorem Vw(l:List Cv):(cvs l).length=l.length:=List.length_map ..
structure Gm(M:Mn)(W:Mw)(D:qy)(G:AX)(H:Heap)(n:Nat)(s:Mst)(stk:List Cv):Prop where
 w:Mm M W G H n s
 tab:TabAt G H M.kb M.t M.a M.b M.fs
 nS:T.get H D.pb=some (one [.ptr M.kb 0])
 yR:T.get H D.bb=some (one [.int .i64 D.nl 0,.int .i64 D.mx 0,D.wc])
 AEM:∃v,T.get H D.sb=some (one [v])/\Sk H 2 (λid=>id<n/\W.own id=0/\D.N<=id/\¬D.Pr id) v (cvs stk.reverse)
 pr:∀id,D.Pr id->D.N<=id/\id<n/\W.own id=0
 pp:D.Pr D.pb/\D.Pr D.sb/\D.Pr D.bb/\D.pb≠D.sb/\D.bb≠D.sb
 kN:M.kb<D.N
structure Wn(M:Mn)(W:Mw)(D:qy)(H:Heap)(n:Nat)(W':Mw)(H':Heap)(n':Nat):Prop where
 le:n<=n'
 own:∀id,id<D.N->W'.own id=W.own id
 low:∀id,id<D.N->id≠M.b->W.own id=0->T.get H' id=T.get H id
 pr:∀id,D.Pr id->id≠D.sb->T.get H' id=T.get H id
 seen:Gv H M.b->Gv H' M.b
section
variable{M:Mn}{W W' W'':Mw}{D:qy}{G:AX}{H H' H'':Heap}{n n' n'':Nat}{s s':Mst}{k:KV}{stk:List Cv}
theorem Wn.refl:Wn M W D H n W H n:=⟨Nat.le_refl _,λ_ _=>rfl,λ_ _ _ _=>rfl,λ_ _ _=>rfl,λh=>h⟩
theorem Wn.trans(x:Wn M W D H n W' H' n')(y:Wn M W' D H' n' W'' H'' n''):Wn M W D H n W'' H'' n'':=
 ⟨Nat.le_trans x.le y.le,λid h=>(y.own id h).trans (x.own id h),λid h1 h2 h3=>(y.low id h1 h2 ((x.own id h1).trans h3)).trans (x.low id h1 h2 h3),λid h1 h2=>(y.pr id h1 h2).trans (x.pr id h1 h2),λh=>y.seen (x.seen h)⟩
theorem Gm.bk(h:Gm M W D G H n s stk):M.b<M.kb:=h.tab.bn
theorem Wn.kb(x:Wn M W D H n W' H' n')(h:Gm M W D G H n s stk):Kb M.b H M.kb H' M.kb:=
 ⟨Nat.le_refl _,λid h1 h2=>x.low id (by have:=h.kN;omega) h2 (h.w.lo id h1),x.seen⟩
theorem Gm.kb(h:Gm M W D G H n s stk)(f:Kb M.b H n H' n'):Gm M W D G H' n' s stk/\Wn M W D H n W H' n':=by
 have hb:=h.bk
 have kN:=h.kN
 have hle:=f.le
 have e:∀id,D.Pr id->T.get H' id=T.get H id:=λid hid=>by have:=h.pr id hid;exact f.same id (by omega) (by omega)
 obtain⟨v,g1,sk⟩:=h.AEM
 exact⟨⟨h.w.mono hle λid h1 h2=>f.same id h1 λq=>h2 (by rw[q];exact h.w.lo _ hb),h.tab.kb (f.low (by have:=h.w.kn;omega)),(e _ h.pp.1).trans h.nS,(e _ h.pp.2.2.1).trans h.yR,
  ⟨v,(e _ h.pp.2.1).trans g1,sk.mono (λid q=>⟨by omega,q.2⟩) λid q=>f.same id q.1 (by omega)⟩,λid hid=>⟨(h.pr id hid).1,by have:=h.pr id hid;omega,(h.pr id hid).2.2⟩,h.pp,h.kN⟩,
  ⟨hle,λ_ _=>rfl,λid h1 h2 _=>f.same id (by have:=(h.pr _ h.pp.1);omega) h2,λid h1 _=>e id h1,f.seen⟩⟩
theorem Gm.kp(h:Gm M W D G H n s stk)(f:Kp H n H' n'):Gm M W D G H' n' s stk/\Wn M W D H n W H' n':=h.kb (f.kb (b:=M.b) (by have:=h.bk;have:=h.w.kn;omega))
theorem Gm.world(h:Gm M W D G H n s stk)(hw:Mm M W' G H' n' s')(hn:n<=n')(ho:∀id,id<n->W.own id=0->W'.own id=0)(hoN:∀id,id<D.N->W'.own id=W.own id)(hz:∀id,id<n->W.own id=0->T.get H' id=T.get H id):
 Gm M W' D G H' n' s' stk/\Wn M W D H n W' H' n':=by
 have hb:=h.bk
 have kN:=h.kN
 have kn:=h.w.kn
 obtain⟨v,g1,sk⟩:=h.AEM
 have e:∀id,D.Pr id->T.get H' id=T.get H id:=λid hid=>by have:=h.pr id hid;exact hz id this.2.1 this.2.2
 have hp:=h.pr _ h.pp.1
 have lowb:=h.w.lo
 exact⟨⟨hw,h.tab.kb ⟨Nat.le_refl _,λid h1 h2=>hz id (by omega) (lowb id h1),λhs=>hs.same (hz _ (by omega) (lowb _ hb))⟩,(e _ h.pp.1).trans h.nS,(e _ h.pp.2.2.1).trans h.yR,⟨v,(e _ h.pp.2.1).trans g1,sk.mono (λid q=>⟨by omega,ho id q.1 q.2.1,q.2.2⟩) λid q=>hz id q.1 q.2.1⟩,
  λid hid=>by have:=h.pr id hid;exact⟨this.1,by omega,ho id this.2.1 this.2.2⟩,h.pp,h.kN⟩,⟨hn,hoN,λid h1 _ h3=>hz id (by omega) h3,λid h1 _=>e id h1,λhs=>hs.same (hz _ (by omega) (lowb _ hb))⟩⟩
theorem Gm.put{v':V}{s':List Cv}{P:KV}(h:Gm M W D G H n s stk)(hsk:Sk H 2 (λid=>id<n/\W.own id=0/\D.N<=id/\¬D.Pr id) v' (cvs s'.reverse))
 (hk:∀H',Gm M W D G H' n s s'->Wn M W D H n W H' n->T.get H' D.sb=some (one [v'])->(∀id,id≠D.sb->T.get H' id=T.get H id)->P .undef H' n):Ba 1 (.ptr D.sb 0) v' H n P:=by
 obtain⟨v,g1,sk⟩:=h.AEM
 have hs:=h.pr _ h.pp.2.1
 have kN:=h.kN
 have hb:=h.bk
 refine XM g1 hsk.ok.1 (by rw[hsk.ok.2.1];rfl) (by omega) (by show 0+1<=1;omega) λH1 g2 s2=>?_
 rw[hsk.ok.2.1]at g2
 have g2:T.get H1 D.sb=some (one [v']):=g2
 refine hk H1 ⟨h.w.mono (Nat.le_refl _) λid h1 h2=>s2 id λe=>h2 (by rw[e];exact hs.2.2),h.tab.kb ⟨Nat.le_refl _,λid h1 h2=>s2 id (by omega),λhq=>hq.same (s2 _ (by omega))⟩,(s2 _ h.pp.2.2.2.1).trans h.nS,(s2 _ h.pp.2.2.2.2).trans h.yR,⟨v',g2,hsk.mono (λid h=>h) λid hid=>s2 id λe=>hid.2.2.2 (by rw[e];exact h.pp.2.1)⟩,h.pr,h.pp,h.kN⟩
  ⟨Nat.le_refl _,λ_ _=>rfl,λid h1 h2 h3=>s2 id (by omega),λid h1 h2=>s2 id h2,λhs=>hs.same (s2 _ (by omega))⟩ g2 s2
theorem vO(t:Cv)(s:List Cv):cvs (t::s).reverse=cvs s.reverse++[t.cells]:=by
 rw[List.reverse_cons];exact List.map_append
theorem Qv{i:Nat}{t:Cv}(h:T.get H i=some (one t.cells)):Af 2 (.ptr i 0) G H=some t.v:=CV h (by omega) rfl
theorem AQo{v:Cv}{r:List Cv}(h:Gm M W D G H n s (v::r))(hlen:r.length<=1000000)(hk:∀H' n',Gm M W D G H' n' s r->Wn M W D H n W H' n'->k v.v H' n'):Runs F G BU [.ptr D.sb 0,.ptr D.pb 0] H n k:=by
 refine BN (s:=SC (Et lfp G)) Ju (by obtain⟨h,o⟩:=QD BO G;rw[Ju]at h;cases h;exact o) ?_
 show Et lfp G (Runs F G) (.ptr D.sb 0) (.ptr D.pb 0) H n k
 delta Et
 obtain⟨w,gs0,sk0⟩:=h.AEM
 have hpr:=h.pr
 have hs:=h.pr _ h.pp.2.1
 have kn:=h.w.kn
 have kN:=h.kN
 have hb:=h.bk
 refine BZ rfl λH1 f1 g1=>?_
 obtain⟨h1,kq1⟩:=h.kp f1
 have gs1:=(f1.same _ hs.2.1).trans gs0
 have sk1:Sk H1 2 (λid=>id<n/\W.own id=0/\D.N<=id/\¬D.Pr id) w (cvs (v::r).reverse):=sk0.mono (λ_ h=>h) λid h=>f1.same id h.1
 have hl:lenV w=some (.int .i64 (.ofNat (r.length+1)) 0):=by rw[(sk1.el (G:=G) (by omega)).len,Vw,List.length_reverse];rfl
 rw[AU (off:=0) gs1 (v:=w) rfl,AB,hl,AB,DR,AB,decide_eq_false (by omega),BA,AB,AB,hl,AB,AEN (by omega) (by omega),AB,Nat.add_sub_cancel]
 obtain⟨p,hp,hld⟩:=(sk1.el (G:=G) (by omega)).at (i:=r.length) (c:=v.cells) (by
  rw[vO,List.getElem?_append_right (by rw[Vw,List.length_reverse];omega),Vw,List.length_reverse,Nat.sub_self];rfl)
 have hld:Af 2 p G H1=some v.v:=DI hld
 rw[hp,AB,hld,AB]
 refine BZ rfl λH2 f2 g2=>?_
 show Ba 2 (.ptr (n+1) 0) (.agg v.cells) _ _ _
 rw[Gt (m:=2) g2 (by omega) rfl rfl]
 have g3:=T.Ah H2 (n+1) (one v.cells)
 have f3:Kp H1 (n+1) (T.set H2 (n+1) (one v.cells)) (n+1+1):=⟨by omega,λid hid=>by rw[T.Ac _ _ (by omega),f2.same _ hid]⟩
 generalize T.set H2 (n+1) (one v.cells)=H3 at g3 f3
 obtain⟨h3,gY⟩:=h1.kp f3
 have gs3:=(f3.same _ (by omega)).trans gs1
 have sk3:Sk H3 2 (λid=>id<n/\W.own id=0/\D.N<=id/\¬D.Pr id) w (cvs (v::r).reverse):=sk1.mono (λ_ h=>h) λid h=>f3.same id (by omega)
 obtain⟨v',hs1,hs2,hs3⟩:=sk3.pop (i:=r.length) (q:=.i64) (by rw[Vw,List.length_reverse];show r.length<r.length+1;omega)
 have e3:(cvs (v::r).reverse).take r.length=cvs r.reverse:=by
  rw[vO];exact List.take_left' (by rw[Vw,List.length_reverse])
 rw[e3]at hs3
 rw[AU (off:=0) gs3 (v:=w) rfl,AB,AB,hl,AB,AEN (by omega) (by omega),AB,Nat.add_sub_cancel,hs1,AB]
 refine h3.put (hs3.mono (λid q=>⟨by omega,q.2⟩) λ_ _=>rfl) λH4 h4 kq4 gs4 s4=>?_
 rw[Qv ((s4 _ (by omega)).trans g3),AB]
 refine yE ((s4 _ (by omega)).trans ((f3.same _ (by omega)).trans g1)) rfl (by omega) λH5 s5=>?_
 have hn0:W.own n=0:=h.w.hi n (Nat.le_refl _)
 have e5:∀id,D.Pr id->T.get H5 id=T.get H4 id:=λid hid=>s5 id (by have:=hpr id hid;omega)
 refine hk H5 _ ⟨h4.w.mono (Nat.le_refl _) λid _ h2=>s5 id λe=>h2 (by rw[e];exact hn0),h4.tab.kb ⟨Nat.le_refl _,λid q1 q2=>s5 id (by omega),λhq=>hq.same (s5 _ (by omega))⟩,(e5 _ h.pp.1).trans h4.nS,(e5 _ h.pp.2.2.1).trans h4.yR,
  ⟨v',(e5 _ h.pp.2.1).trans gs4,?_⟩,h4.pr,h.pp,h.kN⟩ (((kq1.trans gY).trans kq4).trans ⟨Nat.le_refl _,λ_ _=>rfl,λid q1 q2 q3=>s5 id (by have:=hpr _ h.pp.1;omega),λid q1 q2=>e5 id q1,λhq=>hq.same (s5 _ (by omega))⟩)
 exact hs3.mono (λid q=>⟨by omega,q.2⟩) λid q=>by rw[s5 id (by omega),s4 id λe=>q.2.2.2 (by rw[e];exact h.pp.2.1)]
theorem AOK{v:Cv}(h:Gm M W D G H n s stk)(hlen:stk.length<=1000000)(hmx:((stk.length+1:Nat):Int)<=D.mx)(hk:∀H' n',Gm M W D G H' n' s (v::stk)->Wn M W D H n W H' n'->k (.Di []) H' n'):
 Runs F G Dz [v.v,.ptr D.sb 0,.ptr D.bb 0,.ptr D.pb 0] H n k:=by
 refine BN (s:=ar4 (Ey lfp G)) Jl (by obtain⟨h,o⟩:=P8 BO G;rw[Jl]at h;cases h;exact o) ?_
 show Ey lfp G (Runs F G) v.v (.ptr D.sb 0) (.ptr D.bb 0) (.ptr D.pb 0) H n k
 delta Ey
 have hpr:=h.pr
 have hs:=h.pr _ h.pp.2.1
 have kn:=h.w.kn
 have kN:=h.kN
 have hb:=h.bk
 refine FZ λH1 f1 g1=>?_
 obtain⟨h1,kq1⟩:=h.kp f1
 obtain⟨w,gs1,sk1⟩:=h1.AEM
 rw[AU (off:=0) gs1 (v:=w) rfl,AB,Qv g1,AB]
 refine sk1.app (m:=0) (c:=v.v) (λid hid=>(sk1.own hid).1) (by omega) rfl rfl (by rw[Vw,List.length_reverse];omega) λv' H2 hv' s2 hid=>?_
 have hi1:∀id,n<=id->W.own id=0:=h.w.hi
 have e2:∀id,id<n+1->(id<D.N∨D.Pr id∨W.own id≠0)->T.get H2 id=T.get H1 id:=λid q1 q2=>s2 id q1 λe=>by
  have:=sk1.own e
  rcases q2 with q|q|q
  ·omega
  ·exact this.2.2.2 q
  ·exact q this.2.1
 have hv2:=hv' (λid=>id<n+1+2/\W.own id=0/\D.N<=id/\¬D.Pr id) ⟨by omega,hi1 _ (by omega),by omega,λe=>by have:=hpr _ e;omega⟩
 have hve:=hv2.ok
 refine XM ((e2 _ (by omega) (.inr (.inl h.pp.2.1))).trans gs1) hve.1 (by rw[hve.2.1];rfl) (by omega) (by show 0+1<=1;omega) λH3 g3 s3=>?_
 rw[hve.2.1]at g3
 have g3:T.get H3 D.sb=some (one [v']):=g3
 have e3:∀id,id<n+1->(id<D.N∨D.Pr id∨W.own id≠0)->id≠D.sb->T.get H3 id=T.get H1 id:=λid q1 q2 q3=>(s3 id q3).trans (e2 id q1 q2)
 have hpp:=h.pp
 have hp1:=hpr _ hpp.1
 have hp3:=hpr _ hpp.2.2.1
 have h3:Gm M W D G H3 (n+1+2) s (v::stk):=by
  refine⟨h1.w.mono (by omega) λid q1 q2=>e3 id q1 (.inr (.inr q2)) λe=>q2 (by rw[e];exact hs.2.2),h1.tab.kb ⟨Nat.le_refl _,λid q1 q2=>e3 id (by omega) (.inl (by omega)) (by omega),λhq=>hq.same (e3 _ (by omega) (.inl (by omega)) (by omega))⟩,
   (e3 _ (by omega) (.inr (.inl hpp.1)) hpp.2.2.2.1).trans h1.nS,(e3 _ (by omega) (.inr (.inl hpp.2.2.1)) hpp.2.2.2.2).trans h1.yR,⟨v',g3,?_⟩,λid hid=>by have:=hpr id hid;exact⟨this.1,by omega,this.2.2⟩,hpp,kN⟩
  rw[vO]
  exact hv2.mono (λ_ h=>h) λid q=>s3 id λe=>q.2.2.2 (by rw[e];exact hpp.2.1)
 have gY:Wn M W D H n W H3 (n+1+2):=kq1.trans ⟨by omega,λ_ _=>rfl,λid q1 q2 _=>e3 id (by omega) (.inl q1) (by omega),λid q1 q2=>e3 id (by have:=hpr id q1;omega) (.inr (.inl q1)) q2,λhq=>hq.same (e3 _ (by omega) (.inl (by omega)) (by omega))⟩
 have hl3:lenV v'=some (.int .i64 (.ofNat (stk.length+1)) 0):=by rw[(hv2.el (G:=G) (by omega)).len,List.length_append,Vw,List.length_reverse];rfl
 rw[AU (off:=0) g3 (v:=v') rfl,AB,hl3,AB,Ae,AB,AU (off:=0+1) h3.yR (v:=.int .i64 D.mx 0) rfl,AB,AC1,AB,decide_eq_false (by show ¬D.mx<((stk.length+1:Nat):Int);omega),BA]
 exact hk _ _ h3 gY
end
def Ez(D:qy):V:=.fn BU [] [.ptr D.sb 0,.ptr D.pb 0]
def Cj(D:qy):V:=.fn Dz [] [.ptr D.sb 0,.ptr D.bb 0,.ptr D.pb 0]
section
variable{M:Mn}{W W' W'':Mw}{D:qy}{G:AX}{H H' H'':Heap}{n n' n'':Nat}{s s':Mst}{k:KV}{stk:List Cv}
theorem Gm.pop{v:Cv}{r:List Cv}(h:Gm M W D G H n s (v::r))(hlen:r.length<=1000000)(hk:∀H' n',Gm M W D G H' n' s r->Wn M W D H n W H' n'->k v.v H' n'):BX (Ez D) [] (Runs F G) H n k:=by
 show Runs F G BU [.ptr D.sb 0,.ptr D.pb 0] H n k
 exact AQo h hlen hk
theorem Gm.push{v:Cv}(h:Gm M W D G H n s stk)(hlen:stk.length<=1000000)(hmx:((stk.length+1:Nat):Int)<=D.mx)(hk:∀H' n',Gm M W D G H' n' s (v::stk)->Wn M W D H n W H' n'->k (.Di []) H' n'):BX (Cj D) [v.v] (Runs F G) H n k:=by
 show Runs F G Dz [v.v,.ptr D.sb 0,.ptr D.bb 0,.ptr D.pb 0] H n k
 exact AOK h hlen hmx hk
theorem Gm.die{x:Nat}(h:Gm M W D G H n s stk)(hx:x≠0)(hk:∀H' n' t,Gm M W D G H' n' {s with trap:=t} stk->t≠0->Wn M W D H n W H' n'->k iO.v H' n'):Runs F G BH [.ptr M.kb 0,.int .i64 (.ofNat x) 0] H n k:=
 AL4 h.w hx λH' n' t hw ht hn kz=>by
  obtain⟨q1,q2⟩:=h.world hw hn (λ_ _ h=>h) (λ_ _=>rfl) kz
  exact hk H' n' t q1 ht q2
theorem AEi{a b:Int}(h:b≠0):∃x,B2.ev .quo (.int .i64 a 0) (.int .i64 b 0)=some (.int .i64 x 0):=by
 refine⟨IntKind.wrap .i64 (Int.tdiv a b),?_⟩
 show BK (band true (band true (Yk (ieq b 0)))) (mkI .i64 (Int.tdiv a b) 0)=_
 have:ieq b 0=false:=by rw[Tt];exact beq_false_of_ne h
 rw[this]
 show mkI .i64 (Int.tdiv a b) 0=_
 rw[AFT]
theorem AFZ(a b:Int):∃x,B2.ev .add (.int .i64 a 0) (.int .i64 b 0)=some (.int .i64 x 0):=⟨_,rfl⟩
theorem AE6(a b:Int):∃x,B2.ev .sub (.int .i64 a 0) (.int .i64 b 0)=some (.int .i64 x 0):=⟨_,rfl⟩
theorem AFm(a b:Int):∃x,B2.ev .mul (.int .i64 a 0) (.int .i64 b 0)=some (.int .i64 x 0):=⟨_,rfl⟩
theorem AC5(a b:Int):ABu (.int .i64 a 0) (.int .i64 b 0)=some (ieq a b):=rfl
theorem AIz(a b:Cv):∃x,CX (.agg [.int,.int]) false a.v b.v=some (.bool x):=by
 show ∃x,ofB (QW (QW (ABu (.int .i64 a.n 0) (.int .i64 b.n 0)) λr=>QW (QW (ABu (.int .i64 (.ofNat a.o) 0) (.int .i64 (.ofNat b.o) 0)) λr=>QW (some true) λr'=>some (band r r')) λr'=>some (band r r')) λb=>some b)=_
 rw[AC5,AC5]
 show ∃x,mkB _=_
 generalize band _ _=c
 cases c<;>exact⟨_,rfl⟩
theorem rM(x:Int):Ap [.int .i64 (.ofNat 0) 0,.int .i64 (.ofNat 0) 0] [(0,1,.c (.int .i64 x 0))]=some (⟨x,0⟩:Cv).v:=rfl
theorem ASG{c:Nat}{a b:Cv}(h:Gm M W D G H n s stk)(hc:5<=c/\c<=13)(hlen:stk.length<=1000000)(hmx:((stk.length+1:Nat):Int)<=D.mx)
 (hk0:∀H' n' t,Gm M W D G H' n' {s with trap:=t} stk->t≠0->Wn M W D H n W H' n'->k (.Di []) H' n')
 (hk1:∀H' n' x,Gm M W D G H' n' s (⟨x,0⟩::stk)->Wn M W D H n W H' n'->k (.Di []) H' n'):Runs F G UW [.ptr M.kb 0,.int .i64 (.ofNat c) 0,a.v,b.v,Cj D] H n k:=by
 refine BN (s:=ar5 (Gf lfp G)) MC (by obtain⟨h,o⟩:=Sj BO G;rw[MC]at h;cases h;exact o) ?_
 show Gf lfp G (Runs F G) (.ptr M.kb 0) (.int .i64 (.ofNat c) 0) a.v b.v (Cj D) H n k
 delta Gf
 refine FZ λH1 f1 g1=>?_
 refine FZ λH2 f2 g2=>?_
 have g1:=f2.get g1 (by omega)
 obtain⟨h2,kq2⟩:=h.kp (f1.trans f2)
 have la:AV (.ptr n (0+0)) G H2=some (.int .i64 a.n 0):=AU g1 rfl
 have lb:AV (.ptr (n+1) (0+0)) G H2=some (.int .i64 b.n 0):=AU g2 rfl
 have put:∀{x:Int} {H' n'},Gm M W D G H' n' s stk->Wn M W D H n W H' n'->BX (Cj D) [(⟨x,0⟩:Cv).v] (Runs F G) H' n' λ_ H n=>k (.Di []) H n:=λh' kq'=>
  h'.push hlen hmx λH3 n3 h3 gY=>hk1 _ _ _ h3 (kq'.trans gY)
 have yes:∀{x:Bool},Runs F G Hy [.bool x] H2 (n+1+1) λv H n=>BX (Cj D) [v] (Runs F G) H n λ_ H n=>k (.Di []) H n:=λ{x}=>
  AKD λH3 n3 y f3=>by
   obtain⟨h3,gY⟩:=h2.kp f3
   exact put h3 (kq2.trans gY)
 rw[DR,AB]
 by_cases h5:c=5
 ·obtain⟨x,hx⟩:=AFZ a.n b.n
  rw[decide_eq_true h5,BD,Ae,AB,la,AB,Ae,AB,lb,AB,hx,AB,rM,AB]
  exact put h2 kq2
 rw[decide_eq_false h5,BA,DR,AB]
 by_cases h6:c=6
 ·obtain⟨x,hx⟩:=AE6 a.n b.n
  rw[decide_eq_true h6,BD,Ae,AB,la,AB,Ae,AB,lb,AB,hx,AB,rM,AB]
  exact put h2 kq2
 rw[decide_eq_false h6,BA,DR,AB]
 by_cases h7:c=7
 ·obtain⟨x,hx⟩:=AFm a.n b.n
  rw[decide_eq_true h7,BD,Ae,AB,la,AB,Ae,AB,lb,AB,hx,AB,rM,AB]
  exact put h2 kq2
 rw[decide_eq_false h7,BA,DR,AB]
 have rest:∀x,x=(decide (c=8)||decide (c=9))->Eb lfp G (Runs F G) k (.ptr M.kb 0) (.int .i64 (.ofNat c) 0) (Cj D) (.ptr n 0) (.ptr (n+1) 0) (.int .i64 (.ofNat c) 0) (.bool x) H2 (n+1+1):=by
  rintro x rfl
  delta Eb
  cases hd:decide (c=8)||decide (c=9)with
  |true=>
   rw[BD,Ae,AB,lb,AB,ah,AB]
   cases h0:decide (b.n=Int.ofNat 0)with
   |true=>
    rw[BD]
    exact h2.die (by omega) λH3 n3 t h3 ht gY=>hk0 _ _ t h3 ht (kq2.trans gY)
   |false=>
    have hb0:b.n≠0:=of_decide_eq_false h0
    obtain⟨x,hx⟩:=AEi (a:=a.n) hb0
    have j37:∀y,Eh lfp G (Runs F G) k (Cj D) (.int .i64 y 0) H2 (n+1+1):=λy=>by
     delta Eh
     rw[rM,AB]
     exact put h2 kq2
    rw[BA,Ae,AB,la,AB,AB,lb,AB,hx,AB,DR,AB]
    cases h9:decide (c=9)with
    |true=>
     obtain⟨y,hy⟩:=AFm x b.n
     obtain⟨z,hz⟩:=AE6 a.n y
     rw[BD,AB,la,AB,AB,lb,AB,hy,AB,hz,AB]
     exact j37 z
    |false=>
     rw[BA]
     exact j37 x
  |false=>
   rw[Bool.or_eq_false_iff]at hd
   have h8:=of_decide_eq_false hd.1
   have h9:=of_decide_eq_false hd.2
   rw[BA,DR,AB]
   by_cases h10:c=10
   ·rw[decide_eq_true h10,BD,Ae,AB,la,AB,Ae,AB,lb,AB,ALV,AB]
    exact yes
   rw[decide_eq_false h10,BA,DR,AB]
   by_cases h11:c=11
   ·rw[decide_eq_true h11,BD,Ae,AB,la,AB,Ae,AB,lb,AB,AEl,AB]
    exact yes
   rw[decide_eq_false h11,BA,DR,AB]
   have j63:Ea lfp G (Runs F G) k (.ptr M.kb 0) (Cj D) (.ptr n 0) (.ptr (n+1) 0) (.bool true) H2 (n+1+1):=by
    delta Ea
    obtain⟨x,hx⟩:=AIz a b
    rw[BD,Qv g1,AB,Qv g2,AB,hx,AB]
    exact yes
   by_cases h12:c=12
   ·rw[decide_eq_true h12,BD]
    exact j63
   rw[decide_eq_false h12,BA,DR,AB,decide_eq_true (by omega)]
   exact j63
 by_cases h8:c=8
 ·rw[decide_eq_true h8,BD]
  exact rest _ (by simp[h8])
 rw[decide_eq_false h8,BA,DR,AB]
 exact rest _ (by simp[h8])
theorem Mm.thing(hG:QT G)(h:Mm M W G H n s){i:Nat}{th:Th}{q:IntKind}(hi:s.hs[i]? =some th):∃b o,Ag 3 W.hv (.int q (.ofNat i) 0)=some (.ptr b o)/\AV (.ptr b (o+0)) G H=some th.cls.v/\AV (.ptr b (o+1)) G H=some (W.nv i)/\AV (.ptr b (o+2)) G H=some (W.pv i th.vals.length):=by
 obtain⟨LS,sk,h1,h2⟩:=h.hp
 have hL:=h2 i th hi
 have hlt:=(List.getElem?_eq_some_iff.1 hL).1
 generalize W.hv=v at sk
 cases sk with
 |nil=>simp at hlt
 |emp=>simp at hlt
 |Qq hg hc ht ha=>
  rename_i id c t
  refine⟨id,i*3,(AKb hlt).trans (by rw[Nat.zero_add]),?_⟩
  have hl:jA (.ptr id (i*3)) G H 3=some [th.cls.v,W.nv i,W.pv i th.vals.length]:=by
   show Z4 H id (i*3) 3=_
   rw[V5 hg (by omega) (by omega)];exact ht i _ hL
  have key:∀(j:Nat) (x:V),[th.cls.v,W.nv i,W.pv i th.vals.length][j]? =some x->AV (.ptr id (i*3+j)) G H=some x:=λj x hx=>by
   obtain⟨p,hp,hp2⟩:=WI hG (o:=j) (x:=x) hl rfl hx
   rw[Ae]at hp
   cases hp;exact hp2
  exact⟨key 0 _ rfl,key 1 _ rfl,key 2 _ rfl⟩
theorem ALJ(hG:QT G){v:Cv}{i j:Nat}{th:Th}{nm:St}(h:Gm M W D G H n s stk)(hi:s.hs[i]? =some th)(hv:v.o=i+1)(hj:th.names[j]? =some nm)(hfst:∀(m:Nat) (x:St),m<j->th.names[m]? =some x->x≠nm)
 (hk:∀H' n',Gm M W D G H' n' s stk->Wn M W D H n W H' n'->k (.Di [.int .i64 (.ofNat j) 0,.bool true]) H' n'):Runs F G RX [.ptr M.kb 0,v.v,nm.v] H n k:=by
 refine BN (s:=ar3 (FQ lfp G)) KI (by obtain⟨h,o⟩:=QJ BO G;rw[KI]at h;cases h;exact o) ?_
 show FQ lfp G (Runs F G) (.ptr M.kb 0) v.v nm.v H n k
 delta FQ
 refine FZ λH1 f1 g1=>?_
 obtain⟨h1,kq1⟩:=h.kp f1
 obtain⟨b,o,hp,-,hn1,-⟩:=h1.w.thing (q:=.i64) hG hi
 have hbig:=(h.w.big th (List.mem_of_getElem? hi)).2
 have hlt:=(List.getElem?_eq_some_iff.1 hi).1
 have hsz:=h.w.sz
 obtain⟨el,-,-⟩:=h1.w.nm i th hi
 rw[Dq,AB,Ae,AB,AU (off:=0+7) h1.w.box (v:=W.hv) rfl,AB,Ae,AB,AU (off:=0+1) g1 (v:=.int .i64 (.ofNat v.o) 0) rfl,AB,AEN (by omega) (by omega),AB,show v.o-1=i by omega,hp,AB,Ae,AB,hn1,AB,el.len,Gz,AB]
 have hjl:=(List.getElem?_eq_some_iff.1 hj).1
 refine CJ (N:=th.names.length) (J:=λm st=>st=(.ptr M.kb 0,nm.v,W.nv i,.int .i64 (.ofNat th.names.length) 0,.int .i64 (.ofNat m) 0,H1,n+1)/\m<=j) ?_ ?_ ⟨rfl,Nat.zero_le _⟩
 ·rintro I m st hm ⟨rfl,hle⟩ ih
  show I9 lfp G (Runs F G) k I (.ptr M.kb 0) nm.v (W.nv i) (.int .i64 (.ofNat th.names.length) 0) (.int .i64 (.ofNat m) 0) H1 (n+1)
  delta I9
  obtain⟨q,hq,hld⟩:=el.at (QB hm)
  rw[SB,decide_eq_true hm,AB,BD,hq,AB,L6 hld,AB,show CX (.one .str) false (th.names[m]).v nm.v=some (.bool (decide ((th.names[m]).1=nm.1/\(th.names[m]).2=nm.2)))from zX ..,AB]
  by_cases e:m=j
  ·subst e
   have:th.names[m]=nm:=by rw[List.getElem?_eq_getElem hm]at hj;exact Option.some.inj hj
   rw[this,decide_eq_true ⟨rfl,rfl⟩,BD]
   exact hk _ _ h1 kq1
  ·have hne:=hfst m _ (by omega) (List.getElem?_eq_getElem hm)
   rw[decide_eq_false λq=>hne (Prod.ext q.1 q.2),BA,D7 (by omega),AB]
   exact ih _ ⟨rfl,by omega⟩
 ·rintro I st ⟨rfl,hle⟩
  omega
end
def qy.add(D:qy)(a b:Nat):qy:={D with Pr:=λid=>D.Pr id∨a<=id/\id<b}
section
variable{M:Mn}{W W' W'':Mw}{D:qy}{G:AX}{H H' H'':Heap}{n n' n'':Nat}{s s':Mst}{k:KV}{stk:List Cv}
theorem Gm.add(h:Gm M W D G H n s stk)(f:Kp H n H' n'):Gm M W (D.add n n') G H' n' s stk:=by
 obtain⟨h1,-⟩:=h.kp f
 obtain⟨v,g,sk⟩:=h.AEM
 have hp:=h.pr _ h.pp.1
 have hs:=h.pr _ h.pp.2.1
 have hle:=f.le
 refine⟨h1.w,h1.tab,h1.nS,h1.yR,⟨v,(f.same _ hs.2.1).trans g,sk.mono (λid q=>⟨by omega,q.2.1,q.2.2.1,?_⟩) λid q=>f.same id q.1⟩,λid q=>?_,⟨.inl h.pp.1,.inl h.pp.2.1,.inl h.pp.2.2.1,h.pp.2.2.2⟩,h.kN⟩
 ·rintro(q2|q2)
  ·exact q.2.2.2 q2
  ·omega
 ·rcases q with q|q
  ·have:=h.pr id q
   exact⟨this.1,by omega,this.2.2⟩
  ·exact⟨by show D.N<=id;omega,q.2,h.w.hi id q.1⟩
theorem Gm.weak{a b:Nat}(h:Gm M W (D.add a b) G H n s stk)(hp:D.Pr D.pb/\D.Pr D.sb/\D.Pr D.bb):Gm M W D G H n s stk:=by
 obtain⟨v,g,sk⟩:=h.AEM
 exact⟨h.w,h.tab,h.nS,h.yR,⟨v,g,sk.mono (λid q=>⟨q.1,q.2.1,q.2.2.1,λe=>q.2.2.2 (.inl e)⟩) λ_ _=>rfl⟩,λid q=>h.pr id (.inl q),⟨hp.1,hp.2.1,hp.2.2,h.pp.2.2.2⟩,h.kN⟩
theorem Wn.weak{a b:Nat}(x:Wn M W (D.add a b) H n W' H' n'):Wn M W D H n W' H' n':=
 ⟨x.le,x.own,x.low,λid q h=>x.pr id (.inl q) h,x.seen⟩
theorem Gm.stp{a b i:Nat}(h:Gm M W (D.add a b) G H n s stk)(hi:a<=i/\i<b)(hp:D.Pr D.pb/\D.Pr D.sb/\D.Pr D.bb)(hne:¬D.Pr i)(e:∀id,id≠i->T.get H' id=T.get H id):Gm M W (D.add a b) G H' n s stk/\Wn M W D H n W H' n:=by
 obtain⟨v,g,sk⟩:=h.AEM
 have hi':=h.pr i (.inr hi)
 have hN:D.N<=i:=hi'.1
 have hb:=h.bk
 have kN:M.kb<D.N:=h.kN
 have d1:D.pb≠i:=λq=>hne (by rw[<-q];exact hp.1)
 have d2:D.sb≠i:=λq=>hne (by rw[<-q];exact hp.2.1)
 have d3:D.bb≠i:=λq=>hne (by rw[<-q];exact hp.2.2)
 exact⟨⟨h.w.mono (Nat.le_refl _) λid _ q=>e id λr=>q (by rw[r];exact hi'.2.2),h.tab.kb ⟨Nat.le_refl _,λid q1 q2=>e id (by omega),λhq=>hq.same (e _ (by omega))⟩,(e _ d1).trans h.nS,(e _ d3).trans h.yR,⟨v,(e _ d2).trans g,sk.mono (λ_ q=>q) λid q=>e id λr=>q.2.2.2 (by rw[r];exact .inr hi)⟩,h.pr,h.pp,h.kN⟩,
  ⟨Nat.le_refl _,λ_ _=>rfl,λid q1 _ _=>e id (by omega),λid q _=>e id λr=>hne (by rw[<-r];exact q),λhq=>hq.same (e _ (by omega))⟩⟩
theorem Gm.cv{a b i:Nat}{L0:LV}{v:Cv}{P:KV}(h:Gm M W (D.add a b) G H n s stk)(hi:a<=i/\i<b)(hp:D.Pr D.pb/\D.Pr D.sb/\D.Pr D.bb)(hne:¬D.Pr i)(g:T.get H i=some (one L0))(h0:L0.length=2)
 (hk:∀H',Gm M W (D.add a b) G H' n s stk->Wn M W D H n W H' n->T.get H' i=some (one v.cells)->(∀id,id≠i->T.get H' id=T.get H id)->P .undef H' n):Ba 2 (.ptr i 0) v.v H n P:=by
 show Ba 2 (.ptr i 0) (.agg v.cells) H n P
 refine IU g h0 rfl (by omega) λH1 g1 s1=>?_
 obtain⟨q1,q2⟩:=h.stp hi hp hne s1
 exact hk H1 q1 q2 g1 s1
theorem TM.Dh{fs:Tab}(hw:Whole fs)(hu:Upper fs){hs:List Th}{vs:List Cv}{w:Ty}{ws ts r:List Ty}(h:TM fs hs vs ts)(e:Dh fs (w::ws) ts=some r):∃v vs' ts',vs=v::vs'/\ts.length=ts'.length+1/\VT fs hs v w/\TM fs hs vs' ts'/\Go.RL.Dh fs ws ts'=some r:=by
 cases ts with
 |nil=>cases e
 |cons t ts=>
  have e:(bif fitsT fs t w then Go.RL.Dh fs ws ts else none)=some r:=e
  cases hf:fitsT fs t w with
  |false=>rw[hf]at e;cases e
  |true=>
   rw[hf]at e
   obtain⟨v,vs',rfl,h1,h2⟩:=h.inv
   exact⟨v,vs',ts,rfl,rfl,ADu hw hu hf h1,h2,e⟩
theorem Vh{mx:Int}{t:Ty}{r ts:List Ty}(h:CW mx t r=some ts):ts=t::r/\((r.length+1:Nat):Int)<=mx:=by
 unfold CW at h
 cases hd:decide (((r.length+1:Nat):Int)<=mx)with
 |false=>rw[hd]at h;cases h
 |true=>rw[hd]at h;cases h;exact⟨rfl,of_decide_eq_true hd⟩
theorem Le{c:Cx}{l:List Ty}{st:Ce}{ts:List Ty}{o:Option (List Ty×Option Ty)}(h:(o.bind λe=>(Dh c.fs e.1 ts).bind λk=>(qc c.max e.2 k).map λk=>(⟨l,k⟩:Ce))=some st):
 ∃ws w r t2,o=some (ws,w)/\Dh c.fs ws ts=some r/\qc c.max w r=some t2/\st=⟨l,t2⟩:=by
 cases o with
 |none=>cases h
 |some e=>
  obtain⟨ws,w⟩:=e
  have h:((Dh c.fs ws ts).bind λk=>(qc c.max w k).map λk=>(⟨l,k⟩:Ce))=some st:=h
  cases hp:Dh c.fs ws ts with
  |none=>rw[hp]at h;cases h
  |some r=>
   rw[hp]at h
   have h:((qc c.max w r).map λk=>(⟨l,k⟩:Ce))=some st:=h
   cases hl:qc c.max w r with
   |none=>rw[hl]at h;cases h
   |some t2=>rw[hl]at h;cases h;exact⟨ws,w,r,t2,rfl,hp,hl,rfl⟩
def Md(M:Mn)(W:Mw)(D:qy)(G:AX)(H:Heap)(n:Nat)(s:Mst)(ts:List Ty)(k:KV):Prop:=
 ∀W' H' n' s' stk',Gm M W' D G H' n' s' stk'->Wn M W D H n W' H' n'->Ext s.hs s'.hs->s'.steps=s.steps->s'.calls=s.calls->(s'.trap=0->TM M.fs s'.hs stk' ts)->k (.Di []) H' n'
theorem Md.after{ts:List Ty}(d:Md M W D G H n s ts k)(x:Wn M W D H n W' H' n')(he:Ext s.hs s'.hs)(h1:s'.steps=s.steps)(h2:s'.calls=s.calls):Md M W' D G H' n' s' ts k:=
 λW2 H2 n2 s2 stk2 g x2 e q1 q2 q3=>d W2 H2 n2 s2 stk2 g (x.trans x2) (he.trans e) (q1.trans h1) (q2.trans h2) q3
theorem Md.kq{ts:List Ty}(d:Md M W D G H n s ts k)(x:Wn M W D H n W' H' n'):Md M W' D G H' n' s ts k:=d.after x (.refl _) rfl rfl
end
section
variable{M:Mn}{W W' W'':Mw}{D:qy}{G:AX}{H H' H'':Heap}{n n' n'':Nat}{s s':Mst}{k:KV}{stk:List Cv}
theorem AOw(hG:QT G){c i j n2 n10 n11 a b:Nat}{x:Int}{y':V}{v:Cv}{th:Th}{a13:V}(h:Gm M W (D.add a b) G H n s stk)(hp:D.Pr D.pb/\D.Pr D.sb/\D.Pr D.bb)(g7:T.get H n2=some (one (Ins.cells ⟨.ofNat c,.ofNat i⟩)))(g10:T.get H n10=some (one v.cells))(g11:T.get H n11=some (one [.int .i64 x 0,y']))
 (hj:s.hs[j]? =some th) (hia:Ag 3 W.hv (.int .i64 (.ofNat j) 0)=some a13) (hlen:stk.length<=1000000)
 (hdie:∀H' n' t,Gm M W D G H' n' {s with trap:=t} stk->t≠0->Wn M W D H n W H' n'->k (.Di []) H' n')
 (hput:c=17∨c=21->∀m:Nat,x=.ofNat m->m<th.vals.length->((th.arr=false->∀f:lg,(XD M.fs (above M.fs th.cls).1)[m]? =some f->VT M.fs s.hs v f.ty)/\(th.arr=true->VT M.fs s.hs v (Qn th.ty)))/\
  ∀H',Gm M W D G H' n {s with hs:=s.hs.set j {th with vals:=th.vals.set m v}} stk->Wn M W D H n W H' n->k (.Di []) H' n)
 (hget:¬(c=17∨c=21)->∀(m:Nat) (w:Cv),x=.ofNat m->th.vals[m]? =some w->((stk.length+1:Nat):Int)<=D.mx/\∀H' n',Gm M W D G H' n' s (w::stk)->Wn M W D H n W H' n'->k (.Di []) H' n'):
 D6 lfp G (Runs F G) k (.ptr M.kb 0) (Cj D) (.ptr n2 0) (.ptr n10 0) (.ptr n11 0) a13 H n:=by
 delta D6
 obtain⟨b1,o1,hp1,-,-,ld2⟩:=h.w.thing (q:=.i64) hG hj
 rw[hp1]at hia
 cases hia
 have la:AV (.ptr n11 (0+0)) G H=some (.int .i64 x 0):=AU g11 rfl
 have lc:AV (.ptr n2 (0+0)) G H=some (.int .i64 (.ofNat c) 0):=AU g7 rfl
 have hlv:lenV (W.pv j th.vals.length)=some (.int .i64 (.ofNat th.vals.length) 0):=rfl
 have die:Runs F G BH [.ptr M.kb 0,.int .i64 (.ofNat 2) 0] H n λ_ H n=>k (.Di []) H n:=h.die (by omega) λH3 n3 t h3 ht gY=>hdie H3 n3 t (h3.weak hp) ht gY.weak
 rw[Ae,AB,la,AB,AAr,AB]
 cases hd:decide (x<0)with
 |true=>
  repeat (first|with_reducible refine AKo ?_|with_reducible refine ABy ?_)
  rw[BD]
  exact die
 |false=>
  have h0:0<=x:=by have:=of_decide_eq_false hd;omega
  obtain⟨m,rfl⟩:∃m:Nat,x=.ofNat m:=⟨x.toNat,by show x=(x.toNat:Int);omega⟩
  refine wY rfl (wY la (wY rfl (wY (Dq ..) (wY (Ae ..) (wY ld2 (wY hlv (wY (zV ..) ?_)))))))
  rw[lS]
  show AZ (.bool (decide (Int.ofNat th.vals.length<=Int.ofNat m))) true _ _
  cases hd2:decide (Int.ofNat th.vals.length<=Int.ofNat m)with
  |true=>rw[BD];exact die
  |false=>
   have hm:m<th.vals.length:=by have:=of_decide_eq_false hd2;have:¬(th.vals.length:Int)<=(m:Int):=this;omega
   rw[BA,Ae,AB,lc,AB,DR,AB]
   have put:c=17∨c=21->(AP (Ad (.ptr b1 o1)) λv49=>
    AP (AQ 2 v49) λv50=>
    AP (AV v50 G H) λv51=>
    AP (AQ 0 (.ptr n11 0)) λv52=>
    AP (AV v52 G H) λv53=>
    AP (Af 2 (.ptr n10 0) G H) λv54=>
    AP (Ag 2 v51 v53) λv55=>
    Ba 2 v55 v54 H n λv56 H n=>
    k (.Di []) H n):=λhc=>by
     obtain⟨q1,q2⟩:=hput hc m rfl hm
     rw[Dq,AB,Ae,AB,ld2,AB,Ae,AB,la,AB,Qv g10,AB]
     refine h.w.put hj hm q1 λH3 h3 s3=>?_
     obtain⟨⟨q3,q4⟩,-⟩:=h.w.pt j th hj
     obtain⟨q5,q6⟩:=(h.weak hp).world h3 (Nat.le_refl _) (λ_ _ h=>h) (λ_ _=>rfl) λid q5 q6=>s3 id λe=>by rw[e,q4]at q6;omega
     exact q2 H3 q5 q6
   have get:¬(c=17∨c=21)->(AP (Ad (.ptr b1 o1)) λv57=>
    AP (AQ 2 v57) λv58=>
    AP (AV v58 G H) λv59=>
    AP (AQ 0 (.ptr n11 0)) λv60=>
    AP (AV v60 G H) λv61=>
    AP (Ag 2 v59 v61) λv62=>
    AP (Af 2 v62 G H) λv63=>
    BX (Cj D) [v63] (Runs F G) H n λv64 H n=>
    k (.Di []) H n):=λhc=>by
     obtain⟨q1,q2⟩:=hget hc m _ rfl (List.getElem?_eq_getElem hm)
     obtain⟨-,tt,q3,q4⟩:=h.w.pt j th hj
     have q4:=q4 m _ (List.getElem?_eq_getElem hm)
     rw[Dq,AB,Ae,AB,ld2,AB,Ae,AB,la,AB]
     unfold Mw.pv
     rw[ABP hm,AB,Nat.zero_add,DI (c:=th.vals[m].cells) (by show Z4 H _ _ 2=_;rw[V5 q3 (by omega) hm];exact q4),AB]
     exact(h.weak hp).push hlen q1 λH3 n3 h3 gY=>q2 H3 n3 h3 gY
   by_cases h17:c=17
   ·rw[decide_eq_true h17]
    repeat (first|with_reducible refine AKo ?_|with_reducible refine ABy ?_)
    rw[BD]
    exact put (.inl h17)
   rw[decide_eq_false h17]
   refine wY rfl (wY lc (wY (DR ..) ?_))
   rw[lS]
   show AZ (.bool (decide (c=21))) true _ _
   by_cases h21:c=21
   ·rw[decide_eq_true h21,BD]
    exact put (.inr h21)
   rw[decide_eq_false h21,BA]
   exact get λe=>by omega
end
structure Tabs(fs:Tab):Prop where
 w:Whole fs
 u:Upper fs
 c:Chk fs
 len:fs.length<=1000
 fl:∀s c,Ci fs s=some c->c.fs.length<=200
theorem AGS{fs:Tab}{f:PF}(h:eP fs f=true):∃r,VK fs f.own f.f.nm=some r/\r.2=f.f.ty/\∃c,Ci fs f.own=some c:=by
 unfold eP at h
 cases hf:VK fs f.own f.f.nm with
 |none=>rw[hf]at h;cases h
 |some r=>
  rw[hf]at h
  refine⟨r,rfl,Ty.Oh.1 h,?_⟩
  cases hl:Ci fs f.own with
  |some c=>exact⟨c,rfl⟩
  |none=>
   exfalso
   unfold VK above Hz at hf
   rw[hl]at hf
   simp only at hf
   cases hd:decide (f.own.fst=0/\f.own.snd=0)<;>rw[hd]at hf<;>cases hf
theorem AIe{fs:Tab}(TA:Tabs fs){s:St}{c:Fc}(h:Ci fs s=some c):(⟨s,false⟩:Ty).cls=true:=TA.u s c h
theorem vK{fs:Tab}{t:Ty}(ht:t.cls=true){hs:List Th}{v:Cv}(hv:VT fs hs v t)(h0:v.o≠0):∃j th,v.o=j+1/\hs[j]? =some th/\th.arr=false/\t.nm∈(above fs th.cls).1:=by
 rcases hv (by unfold Ty.obj;rw[ht];simp)with h|⟨th,h1,h2,h3⟩
 ·exact absurd h h0
 ·unfold TT at h3
  rw[if_neg (by rw[sO ht];decide)]at h3
  refine⟨v.o-1,th,by omega,h2,h3.2.1,?_⟩
  have:=h3.2.2
  unfold Gq at this
  rwa [Nv]at this
theorem ACv{fs:Tab}{t:Ty}(ht:t.arr=true){hs:List Th}{v:Cv}(hv:VT fs hs v t)(h0:v.o≠0):∃j th,v.o=j+1/\hs[j]? =some th/\th.arr=true/\th.ty=t:=by
 rcases hv (by unfold Ty.obj;rw[ht];rfl)with h|⟨th,h1,h2,h3⟩
 ·exact absurd h h0
 ·unfold TT at h3
  rw[if_pos ht]at h3
  exact⟨v.o-1,th,by omega,h2,h3⟩
theorem zx{fs:Tab}{hs:List Th}{v:Cv}(hv:VT fs hs v CO):v.o=0:=by
 rcases hv (by decide)with h|⟨th,h1,h2,h3⟩
 ·exact h
 ·unfold TT at h3
  rw[if_neg (by decide),OT]at h3
  cases h3.1
theorem AIw{fs:Tab}(TA:Tabs fs){f:PF}(hf:eP fs f=true){hs:List Th}{v:Cv}(hp:AKQ fs hs)(hv:VT fs hs v ⟨f.own,false⟩)(h0:v.o≠0):∃(j m:Nat) (th:Th),v.o=j+1/\hs[j]? =some th/\th.arr=false/\th.names[m]? =some f.f.nm/\
 (∀(q:Nat) (x:St),q<m->th.names[q]? =some x->x≠f.f.nm)/\(∀g:lg,(XD fs (above fs th.cls).1)[m]? =some g->g.ty=f.f.ty)/\∃g:lg,(XD fs (above fs th.cls).1)[m]? =some g:=by
 obtain⟨r,h1,h2,c,h3⟩:=AGS hf
 obtain⟨j,th,e,hj,ha,hm⟩:=vK (AIe TA h3) hv h0
 have h4:=AI4 TA.c TA.w hm h1
 obtain⟨m,g,g1,g2,g3,g4⟩:=AB6 (show gX fs f.f.nm (above fs th.cls).1=some r from h4)
 obtain⟨-,hn,-,-⟩:=(hp th (List.mem_of_getElem? hj)).cls ha
 refine⟨j,m,th,e,hj,ha,by rw[hn,List.getElem?_map,g1];exact congrArg some g2,λq x hq hx=>?_,λg' hg'=>by rw[g1]at hg';cases hg';rw[g3,h2],g,g1⟩
 rw[hn,List.getElem?_map]at hx
 cases hy:(XD fs (above fs th.cls).1)[q]? with
 |none=>rw[hy]at hx;cases hx
 |some y=>rw[hy]at hx;cases hx;exact g4 q y hq hy
section
variable{M:Mn}{W W' W'':Mw}{D:qy}{G:AX}{H H' H'':Heap}{n n' n'':Nat}{s s':Mst}{k:KV}{stk:List Cv}
theorem fname(hG:QT G){p:V}{f:PF}(h:jA p G H 4=some f.cells):∃p1 p2,AQ 0 p=some p1/\AQ 0 p1=some p2/\AV p2 G H=some f.f.nm.v:=by
 obtain⟨p1,h1,h2⟩:=AIU hG h rfl (o:=0) (m:=3) (by omega) (by omega)
 obtain⟨p2,h3,h4⟩:=WI hG h2 rfl (o:=0) (x:=f.f.nm.v) rfl
 exact⟨p1,p2,h1,h3,h4⟩
theorem ASs{p:Pool}{v0 v1 v2 v3 v4:V}{ws:List V}{m i:Nat}(h:Gp G H m p v0 v1 v2 v3 v4 ws)(hi:i<p.fields.length):∃q,Ag 4 v3 (.int .i64 (.ofNat i) 0)=some q/\jA q G H 4=some (p.fields.getD i fZ).cells:=by
 have e:p.fields.getD i fZ=p.fields[i]:=by rw[List.getD_eq_getElem?_getD,List.getElem?_eq_getElem hi];rfl
 rw[e]
 exact h.e3.at (i:=i) (c:=p.fields[i].cells) (by simp[hi])
theorem AR6(hG:QT G)(TA:Tabs M.fs){p:Pool}{v0 v1 v2 v3 v4:V}{ws:List V}{L:LV}{c i n1 n2 n10 n11 a b:Nat}{x:Int}{y':V}{o v:Cv}{w:Option Ty}{rt ts:List Ty}(h:Gm M W (D.add a b) G H n s (o::stk))(hp:D.Pr D.pb/\D.Pr D.sb/\D.Pr D.bb)(hpa:∀id,D.Pr id->id<a)
 (r1:a<=n1/\n1<b) (r2:a<=n2/\n2<b) (r10:a<=n10/\n10<b) (r11:a<=n11/\n11<b) (d1:n11≠n1/\n11≠n2/\n11≠n10)
 (g1:T.get H n1=some (one L)) (hL:L[7]? =some v3) (hpo:Gp G H M.kb p v0 v1 v2 v3 v4 ws) (hpt:Yq M.fs p=true)
 (g2:T.get H n2=some (one (Ins.cells ⟨.ofNat c,.ofNat i⟩))) (g10:T.get H n10=some (one v.cells)) (g11:T.get H n11=some (one [.int .i64 x 0,y']))
 (hlen:stk.length<=1000000) (hst:TM M.fs s.hs stk rt) (hl:qc D.mx w rt=some ts)
 (hT:(c=22/\w=some DV/\∃t,(t.arr=true∨t=CO)/\VT M.fs s.hs o t)∨
  ((c=16∨c=17)/\i<p.fields.length/\VT M.fs s.hs o ⟨(p.fields.getD i fZ).own,false⟩/\(c=16->w=some (p.fields.getD i fZ).f.ty)/\(c=17->w=none/\VT M.fs s.hs v (p.fields.getD i fZ).f.ty))∨
  ((c=20∨c=21)/\∃t,t.arr=true/\VT M.fs s.hs o t/\(c=20->w=some (Qn t))/\(c=21->w=none/\VT M.fs s.hs v (Qn t))))
 (d:Md M W D G H n s ts k):BQ lfp G (Runs F G) k (.ptr M.kb 0) (Ez D) (Cj D) (.ptr n1 0) (.ptr n2 0) (.ptr n10 0) (.ptr n11 0) H n:=by
 delta BQ
 have hne:∀id,a<=id->¬D.Pr id:=λid q r=>by have:=hpa id r;omega
 have hsb:D.sb<a:=hpa _ hp.2.1
 show BX (Ez (D.add a b)) [] (Runs F G) H n _
 refine h.pop hlen λH1 m1 h1 kq1=>?_
 have g1:=(kq1.pr n1 (.inr r1) (by show n1≠D.sb;omega)).trans g1
 have g2:=(kq1.pr n2 (.inr r2) (by show n2≠D.sb;omega)).trans g2
 have g10:=(kq1.pr n10 (.inr r10) (by show n10≠D.sb;omega)).trans g10
 have g11:=(kq1.pr n11 (.inr r11) (by show n11≠D.sb;omega)).trans g11
 have hpo:Gp G H1 M.kb p v0 v1 v2 v3 v4 ws:=hpo.ke ((kq1.kb h).ke h.tab.seen)
 have d:=d.kq kq1.weak
 clear kq1 h
 refine BZ rfl λH2 f2 _=>?_
 obtain⟨h2,kq2⟩:=h1.kp f2
 have gz:T.get H2 m1=some (one [.int .i64 (.ofNat 0) 0,.int .i64 (.ofNat 0) 0]):=by assumption
 show Ba 2 (.ptr m1 0) (.agg o.cells) _ _ _
 refine IU gz rfl rfl (by omega) λH3 g3 s3=>?_
 have f3:Kp H1 m1 H3 (m1+1):=⟨by omega,λid hid=>by rw[s3 _ (by omega),f2.same _ hid]⟩
 obtain⟨h3,gY⟩:=h1.kp f3
 have bl:b<=m1:=by
  have:=(h1.pr (b-1) (.inr (by omega))).2.1
  omega
 have g1:=(f3.same n1 (by omega)).trans g1
 have g2:=(f3.same n2 (by omega)).trans g2
 have g10:=(f3.same n10 (by omega)).trans g10
 have g11:=(f3.same n11 (by omega)).trans g11
 have hpo:Gp G H3 M.kb p v0 v1 v2 v3 v4 ws:=hpo.ke ((gY.kb h1).ke h1.tab.seen)
 have d:=d.kq gY.weak
 clear gY h1 f3 s3 gz h2 kq2 f2
 have lo:AV (.ptr m1 (0+1)) G H3=some (.int .i64 (.ofNat o.o) 0):=AU g3 rfl
 have lc:AV (.ptr n2 (0+0)) G H3=some (.int .i64 (.ofNat c) 0):=AU g2 rfl
 have li:AV (.ptr n2 (0+1)) G H3=some (.int .i64 (.ofNat i) 0):=AU g2 rfl
 have hsz:=h3.w.sz
 have sbx:T.get H3 M.kb=some (one (M.cells W s)):=h3.w.box
 rw[Dq,AB,Ae,AB,AU (off:=0+5) sbx (v:=.bool false) rfl,AB,BA,Ae,AB,lo,AB,DR,AB]
 by_cases h0:o.o=0
 ·rw[decide_eq_true h0,BD]
  refine h3.die (by omega) λH4 m4 t h4 ht kq4=>?_
  exact d _ _ _ _ _ (h4.weak hp) kq4.weak (.refl _) rfl rfl λe=>absurd e ht
 rw[decide_eq_false h0,BA,AB,Ae,AB,AU (off:=0+7) sbx (v:=W.hv) rfl,AB,AB,lo,AB]
 have die:∀H' n' t,Gm M W D G H' n' {s with trap:=t} stk->t≠0->Wn M W D H3 (m1+1) W H' n'->k (.Di []) H' n':=λH4 m4 t h4 ht kq4=>d _ _ _ _ _ h4 kq4 (.refl _) rfl rfl λe=>absurd e ht
 have obj:∀{j:Nat} {th:Th},o.o=j+1->s.hs[j]? =some th->∃b1 o1,B2.ev .sub (.int .i64 (.ofNat o.o) 0) (.int .i64 (.ofNat 1) 0)=some (.int .i64 (.ofNat j) 0)/\Ag 3 W.hv (.int .i64 (.ofNat j) 0)=some (.ptr b1 o1)/\AV (.ptr b1 (o1+2)) G H3=some (W.pv j th.vals.length):=λ{j th} e hj=>by
  obtain⟨b1,o1,q1,-,-,q2⟩:=h3.w.thing (q:=.i64) hG hj
  have:=(List.getElem?_eq_some_iff.1 hj).1
  exact⟨b1,o1,by rw[e,uP (by omega)],q1,q2⟩
 rcases hT with⟨rfl,rfl,t,ht,hv⟩|⟨hc,hi,hv,w1,w2⟩|⟨hc,t,ht,hv,w1,w2⟩
 ·rcases ht with ht|rfl
  ·obtain⟨j,th,e,hj,-,-⟩:=ACv ht hv h0
   obtain⟨b1,o1,q1,q2,q3⟩:=obj e hj
   obtain⟨rfl,hmx⟩:=Vh hl
   rw[q1,AB,q2,AB,Ae,AB,lc,AB,DR,AB,decide_eq_true rfl,BD,Dq,AB,Ae,AB,q3,AB,show lenV (W.pv j th.vals.length)=some (.int .i64 (.ofNat th.vals.length) 0)from rfl,AB,rM,AB]
   refine(h3.weak hp).push hlen (by rw[hst.1];exact hmx) λH4 m4 h4 kq4=>?_
   exact d _ _ _ _ _ h4 kq4 (.refl _) rfl rfl λ_=>.cons (fO (by decide)) hst
  ·exact absurd (zx hv) h0
 ·have hfo:eP M.fs (p.fields.getD i fZ)=true:=by
   unfold Yq at hpt
   simp only[Bool.and_eq_true,List.all_eq_true]at hpt
   refine hpt.2.2.1 _ ?_
   rw[List.getD_eq_getElem?_getD,List.getElem?_eq_getElem hi]
   exact List.getElem_mem hi
  obtain⟨q,hq,hld⟩:=ASs hpo hi
  generalize p.fields.getD i fZ=f at*
  obtain⟨j,m,th,e,hj,ha,hn1,hn2,hg1,g,hg2⟩:=AIw TA hfo h3.w.ok hv h0
  obtain⟨b1,o1,q1,q2,q3⟩:=obj e hj
  obtain⟨p1,p2,e1,e2,e3⟩:=fname hG hld
  have j74:DK lfp G (Runs F G) k (.ptr M.kb 0) (Cj D) (.ptr n1 0) (.ptr n2 0) (.ptr n10 0) (.ptr n11 0) (.ptr m1 0) (.ptr b1 o1) (.bool true) H3 (m1+1):=by
   delta DK
   rw[BD,Qv g3,AB,Ae,AB,Ae,AB,AU (off:=0+4+3) g1 (v:=v3) hL,AB,Ae,AB,li,AB,hq,AB,e1,AB,e2,AB,e3,AB]
   refine ALJ hG h3 hj e hn1 hn2 λH4 m4 h4 kq4=>?_
   have g2:=(kq4.pr n2 (.inr r2) (by show n2≠D.sb;omega)).trans g2
   have g10:=(kq4.pr n10 (.inr r10) (by show n10≠D.sb;omega)).trans g10
   have g11:=(kq4.pr n11 (.inr r11) (by show n11≠D.sb;omega)).trans g11
   rw[show Bl (.Di [.int .i64 (.ofNat m) 0,.bool true]) 0=some (.int .i64 (.ofNat m) 0)from rfl,AB,show Bl (.Di [.int .i64 (.ofNat m) 0,.bool true]) 1=some (.bool true)from rfl,AB,jW,AB]
   show AZ (.bool false) true _ _
   rw[BA,Ae,AB]
   refine XM g11 rfl rfl (by omega) (by show 0+0+1<=2;omega) λH5 g5 s5=>?_
   have g5:T.get H5 n11=some (one [.int .i64 (.ofNat m) 0,y']):=g5
   obtain⟨h5,kq5⟩:=h4.stp r11 hp (hne _ r11.1) s5
   have kq:=kq4.weak.trans kq5
   refine AOw hG h5 hp ((s5 _ d1.2.1.symm).trans g2) ((s5 _ d1.2.2.symm).trans g10) g5 hj q2 hlen (λH6 m6 t h6 ht kq6=>die _ _ t h6 ht (kq.trans kq6)) (λhc2 m2 em hm2=>?_) λhc2 m2 u em hm2=>?_
   ·have:m=m2:=by have:(m:Int)=m2:=em;omega
    subst this
    obtain⟨rfl,w3⟩:=w2 (by omega)
    refine⟨⟨λ_ g' hg'=>by rw[hg1 g' hg'];exact w3,λq=>by rw[ha]at q;cases q⟩,λH6 h6 kq6=>?_⟩
    cases hl
    exact d _ _ _ _ _ h6 (kq.trans kq6) (.put hj) rfl rfl λ_=>hst.ext (.put hj)
   ·have:m=m2:=by have:(m:Int)=m2:=em;omega
    subst this
    have hc16:c=16:=by omega
    rw[w1 hc16]at hl
    obtain⟨rfl,hmx⟩:=Vh hl
    refine⟨by rw[hst.1];exact hmx,λH6 m6 h6 kq6=>d _ _ _ _ _ h6 (kq.trans kq6) (.refl _) rfl rfl λ_=>.cons ?_ hst⟩
    rw[<-hg1 g hg2]
    exact((h3.w.ok th (List.mem_of_getElem? hj)).cls ha).2.2.2 m u g hm2 hg2
  rw[q1,AB,q2,AB,Ae,AB,lc,AB,DR,AB,decide_eq_false (by omega),BA,DR,AB]
  by_cases h16:c=16
  ·rw[decide_eq_true h16,BD]
   exact j74
  ·rw[decide_eq_false h16,BA,DR,AB,decide_eq_true (by omega)]
   exact j74
 ·obtain⟨j,th,e,hj,ha,hty⟩:=ACv ht hv h0
  obtain⟨b1,o1,q1,q2,q3⟩:=obj e hj
  rw[q1,AB,q2,AB,Ae,AB,lc,AB,DR,AB,decide_eq_false (by omega),BA,DR,AB,decide_eq_false (by omega),BA,DR,AB,decide_eq_false (by omega)]
  delta DK
  rw[BA]
  have hok:=(h3.w.ok th (List.mem_of_getElem? hj)).arr ha
  refine AOw hG h3 hp g2 g10 g11 hj q2 hlen die (λhc2 m2 em hm2=>?_) λhc2 m2 u em hm2=>?_
  ·obtain⟨rfl,w3⟩:=w2 (by omega)
   refine⟨⟨λq=>absurd (ha.symm.trans q) (by decide),λ_=>by rw[hty];exact w3⟩,λH6 h6 kq6=>?_⟩
   cases hl
   exact d _ _ _ _ _ h6 kq6 (.put hj) rfl rfl λ_=>hst.ext (.put hj)
  ·have hc20:c=20:=by omega
   rw[w1 hc20]at hl
   obtain⟨rfl,hmx⟩:=Vh hl
   refine⟨by rw[hst.1];exact hmx,λH6 m6 h6 kq6=>d _ _ _ _ _ h6 kq6 (.refl _) rfl rfl λ_=>.cons ?_ hst⟩
   rw[<-hty]
   exact hok.2.2 u (List.mem_of_getElem? hm2)
end
structure Bx4(H:Heap)(a:Nat)(L:LV)(c i:Nat)(v iv:Cv):Prop where
 g1:T.get H a=some (one L)
 g2:T.get H (a+1)=some (one (Ins.cells ⟨.ofNat c,.ofNat i⟩))
 g3:T.get H (a+2)=some (one v.cells)
 g4:T.get H (a+3)=some (one iv.cells)
structure Plm(M:Mn)(G:AX)(H:Heap)(p:Pool)(L:LV):Prop where
 len:L.length=10
 at':∃v0 v1 v2 v3 v4 ws,Gp G H M.kb p v0 v1 v2 v3 v4 ws/\L[4]? =some v0/\L[5]? =some v1/\L[7]? =some v3/\L[8]? =some v4
 ok:Yq M.fs p=true
 up:∀s∈p.names,upper s.1 s.2=true
structure Cxm(M:Mn)(D:qy)(p:Pool)(C:Cx):Prop where
 fs:C.fs=M.fs
 pool:C.pool=p
 max:C.max=D.mx
section
variable{M:Mn}{W W' W'':Mw}{D:qy}{G:AX}{H H' H'':Heap}{n n' n'':Nat}{s s':Mst}{k:KV}{stk:List Cv}
theorem Plm.kb{p:Pool}{L:LV}(h:Plm M G H p L)(f:Kb M.b H M.kb H' M.kb)(hs:Gv H M.b):Plm M G H' p L:=by
 obtain⟨v0,v1,v2,v3,v4,ws,q,e⟩:=h.at'
 exact⟨h.len,⟨v0,v1,v2,v3,v4,ws,q.ke (f.ke hs),e⟩,h.ok,h.up⟩
theorem Plm.kq{p:Pool}{L:LV}(h:Plm M G H p L)(hg:Gm M W D G H n s stk)(x:Wn M W D H n W' H' n'):Plm M G H' p L:=h.kb (x.kb hg) hg.tab.seen
theorem Bx4.kq{a b c i m m':Nat}{L:LV}{v iv:Cv}(h:Bx4 H a L c i v iv)(x:Wn M W (D.add a b) H m W' H' m')(hb:a+4<=b)(hs:D.sb<a):Bx4 H' a L c i v iv:=by
 have e:∀id,a<=id->id<b->T.get H' id=T.get H id:=λid q1 q2=>x.pr id (.inr ⟨q1,q2⟩) (by show id≠D.sb;omega)
 exact⟨(e _ (by omega) (by omega)).trans h.g1,(e _ (by omega) (by omega)).trans h.g2,(e _ (by omega) (by omega)).trans h.g3,(e _ (by omega) (by omega)).trans h.g4⟩
theorem AA7(hG:QT G)(TA:Tabs M.fs){p:Pool}{L:LV}{c i a b:Nat}{o v iv:Cv}{w:Option Ty}{rt ts:List Ty}(h:Gm M W (D.add a b) G H n s (o::stk))(hp:D.Pr D.pb/\D.Pr D.sb/\D.Pr D.bb)(hpa:∀id,D.Pr id->id<a)(hb:a+4<=b)
 (hx:Bx4 H a L c i v iv) (hpl:Plm M G H p L) (hlen:stk.length<=1000000) (hst:TM M.fs s.hs stk rt) (hl:qc D.mx w rt=some ts)
 (hT:(c=22/\w=some DV/\∃t,(t.arr=true∨t=CO)/\VT M.fs s.hs o t)∨
  ((c=16∨c=17)/\i<p.fields.length/\VT M.fs s.hs o ⟨(p.fields.getD i fZ).own,false⟩/\(c=16->w=some (p.fields.getD i fZ).f.ty)/\(c=17->w=none/\VT M.fs s.hs v (p.fields.getD i fZ).f.ty))∨
  ((c=20∨c=21)/\∃t,t.arr=true/\VT M.fs s.hs o t/\(c=20->w=some (Qn t))/\(c=21->w=none/\VT M.fs s.hs v (Qn t))))
 (d:Md M W D G H n s ts k):BQ lfp G (Runs F G) k (.ptr M.kb 0) (Ez D) (Cj D) (.ptr a 0) (.ptr (a+1) 0) (.ptr (a+2) 0) (.ptr (a+3) 0) H n:=by
 obtain⟨v0,v1,v2,v3,v4,ws,q,-,-,e,-⟩:=hpl.at'
 exact AR6 hG TA h hp hpa (by omega) (by omega) (by omega) (by omega) (by omega) hx.g1 e q hpl.ok hx.g2 hx.g3 hx.g4 hlen hst hl hT d
theorem ALS{c i a:Nat}{L:LV}{v iv:Cv}(hx:Bx4 H a L c i v iv)(hc:¬(c=20∨c=21))
 (hk:BQ lfp G (Runs F G) k (.ptr M.kb 0) (Ez D) (Cj D) (.ptr a 0) (.ptr (a+1) 0) (.ptr (a+2) 0) (.ptr (a+3) 0) H n):
 Aw lfp G (Runs F G) k (.ptr M.kb 0) (Ez D) (Cj D) (.ptr a 0) (.ptr (a+1) 0) (.ptr (a+2) 0) (.ptr (a+3) 0) H n:=by
 delta Aw
 have lc:AV (.ptr (a+1) (0+0)) G H=some (.int .i64 (.ofNat c) 0):=AU hx.g2 rfl
 rw[Ae,AB,lc,AB,DR,AB,decide_eq_false (by omega)]
 refine wY rfl (wY lc (wY (DR ..) ?_))
 rw[lS]
 show AZ (.bool (decide (c=21))) true _ _
 rw[decide_eq_false (by omega),BA]
 exact hk
theorem AO6{c i a b:Nat}{L:LV}{v iv jv:Cv}(h:Gm M W (D.add a b) G H n s (jv::stk))(hp:D.Pr D.pb/\D.Pr D.sb/\D.Pr D.bb)(hpa:∀id,D.Pr id->id<a)(hb:a+4<=b)(hx:Bx4 H a L c i v iv)(hc:c=20∨c=21)(hlen:stk.length<=1000000)
 (hk:∀H' n',Gm M W (D.add a b) G H' n' s stk->Wn M W D H n W H' n'->Bx4 H' a L c i v jv->BQ lfp G (Runs F G) k (.ptr M.kb 0) (Ez D) (Cj D) (.ptr a 0) (.ptr (a+1) 0) (.ptr (a+2) 0) (.ptr (a+3) 0) H' n'):
 Aw lfp G (Runs F G) k (.ptr M.kb 0) (Ez D) (Cj D) (.ptr a 0) (.ptr (a+1) 0) (.ptr (a+2) 0) (.ptr (a+3) 0) H n:=by
 delta Aw
 have lc:AV (.ptr (a+1) (0+0)) G H=some (.int .i64 (.ofNat c) 0):=AU hx.g2 rfl
 have hsb:=hpa _ hp.2.1
 have body:(BX (Ez D) [] (Runs F G) H n λv100 H n=>
  Ba 2 (.ptr (a+3) 0) v100 H n λv101 H n=>
  BQ lfp G (Runs F G) k (.ptr M.kb 0) (Ez D) (Cj D) (.ptr a 0) (.ptr (a+1) 0) (.ptr (a+2) 0) (.ptr (a+3) 0) H n):=by
  show BX (Ez (D.add a b)) [] (Runs F G) H n _
  refine h.pop hlen λH1 m1 h1 kq1=>?_
  have hx:=hx.kq kq1 hb hsb
  refine h1.cv (by omega) hp (λe=>by have:=hpa _ e;omega) hx.g4 rfl λH2 h2 kq2 g2 s2=>?_
  exact hk _ _ h2 (kq1.weak.trans kq2) ⟨(s2 _ (by omega)).trans hx.g1,(s2 _ (by omega)).trans hx.g2,(s2 _ (by omega)).trans hx.g3,g2⟩
 rw[Ae,AB,lc,AB,DR,AB]
 by_cases h20:c=20
 ·rw[decide_eq_true h20]
  repeat (first|with_reducible refine AKo ?_|with_reducible refine ABy ?_)
  rw[BD]
  exact body
 ·rw[decide_eq_false h20]
  refine wY rfl (wY lc (wY (DR ..) ?_))
  rw[lS]
  show AZ (.bool (decide (c=21))) true _ _
  rw[decide_eq_true (by omega),BD]
  exact body
theorem AM3(hG:QT G)(TA:Tabs M.fs){p:Pool}{L:LV}{C:Cx}{c i nl:Nat}{loc ts0:List Ty}{st:Ce}(h:Gm M W D G H n s stk)(hpl:Plm M G H p L)(hC:Cxm M D p C)(hc:c=16∨c=17∨c=20∨c=21∨c=22)(hin:ny p nl c i)
 (hlen:stk.length<=1000000) (hst:TM M.fs s.hs stk ts0) (hs:stepT C ⟨loc,ts0⟩ ⟨.ofNat c,.ofNat i⟩=some st) (d:Md M W D G H n s st.stk k):
 Runs F G RH [.ptr M.kb 0,.agg L,.agg (Ins.cells ⟨.ofNat c,.ofNat i⟩),Ez D,Cj D] H n k:=by
 refine BN (s:=ar5 (FT lfp G)) KG (by obtain⟨h,o⟩:=QO BO G;rw[KG]at h;cases h;exact o) ?_
 show FT lfp G (Runs F G) (.ptr M.kb 0) (.agg L) (.agg (Ins.cells ⟨.ofNat c,.ofNat i⟩)) (Ez D) (Cj D) H n k
 delta FT
 have hp:D.Pr D.pb/\D.Pr D.sb/\D.Pr D.bb:=⟨h.pp.1,h.pp.2.1,h.pp.2.2.1⟩
 have hpa:∀id,D.Pr id->id<n:=λid q=>(h.pr id q).2.1
 have hsb:=hpa _ hp.2.1
 refine FZ λH1 f1 g1=>?_
 refine FZ λH2 f2 g2=>?_
 rw[dK,AB]
 refine BZ rfl λH3 f3 g3=>?_
 show Ba 2 (.ptr (n+1+1) 0) (.agg iO.cells) _ _ _
 refine IU g3 rfl rfl (by omega) λH4 g4 s4=>?_
 rw[AB]
 refine BZ rfl λH5 f5 g5=>?_
 show Ba 2 (.ptr (n+1+1+1) 0) (.agg iO.cells) _ _ _
 refine IU g5 rfl rfl (by omega) λH6 g6 s6=>?_
 have f6:Kp H n H6 (n+4):=⟨by omega,λid hid=>by rw[s6 _ (by omega),f5.same _ (by omega),s4 _ (by omega),f3.same _ (by omega),f2.same _ (by omega),f1.same _ (by omega)]⟩
 have hx:Bx4 H6 n L c i iO iO:=⟨by rw[s6 _ (by omega),f5.same _ (by omega),s4 _ (by omega),f3.same _ (by omega)];exact f2.get g1 (by omega),by rw[s6 _ (by omega),f5.same _ (by omega),s4 _ (by omega)];exact f3.get g2 (by omega),by rw[s6 _ (by omega)];exact f5.get g4 (by omega),g6⟩
 clear f1 f2 f3 f5 g1 g2 g3 g4 g5 g6 s4 s6
 have h6:=h.add f6
 obtain⟨-,kq6⟩:=h.kp f6
 have hpl:=hpl.kq h kq6
 have d:=d.kq kq6
 have lc:AV (.ptr (n+1) (0+0)) G H6=some (.int .i64 (.ofNat c) 0):=AU hx.g2 rfl
 rw[Ae,AB,lc,AB,DR,AB]
 have no:¬(c=17∨c=21)->Aw lfp G (Runs F G) k (.ptr M.kb 0) (Ez D) (Cj D) (.ptr n 0) (.ptr (n+1) 0) (.ptr (n+2) 0) (.ptr (n+3) 0) H6 (n+4)->
  Aj (.bool (decide (c=17))) false (some (.ptr (n+1) (0+0))) (λv105=>Aj (.bool (decide (c=17))) false (AV v105 G H6) λv106=>
  Aj (.bool (decide (c=17))) false (CX (.one .int) false v106 (.int .i64 (.ofNat 21) 0)) λv107=>
  AP (BF (.bool (decide (c=17))) (.bool true) v107) λv108=>
  AZ v108 true (BX (Ez D) [] (Runs F G) H6 (n+4) λv109 H n'=>
  Ba 2 (.ptr (n+2) 0) v109 H n' λv110 H n'=>
  Aw lfp G (Runs F G) k (.ptr M.kb 0) (Ez D) (Cj D) (.ptr n 0) (.ptr (n+1) 0) (.ptr (n+2) 0) (.ptr (n+3) 0) H n') (Aw lfp G (Runs F G) k (.ptr M.kb 0) (Ez D) (Cj D) (.ptr n 0) (.ptr (n+1) 0) (.ptr (n+2) 0) (.ptr (n+3) 0) H6 (n+4))):=λhc hk=>by
   rw[decide_eq_false (by omega)]
   refine wY rfl (wY lc (wY (DR ..) ?_))
   rw[lS]
   show AZ (.bool (decide (c=21))) true _ _
   rw[decide_eq_false (by omega),BA]
   exact hk
 have yes:∀{v:Cv} {r:List Cv},stk=v::r->(c=17∨c=21)->(∀H' n',Gm M W (D.add n (n+4)) G H' n' s r->Wn M W D H6 (n+4) W H' n'->Bx4 H' n L c i v iO->Aw lfp G (Runs F G) k (.ptr M.kb 0) (Ez D) (Cj D) (.ptr n 0) (.ptr (n+1) 0) (.ptr (n+2) 0) (.ptr (n+3) 0) H' n')->
  Aj (.bool (decide (c=17))) false (some (.ptr (n+1) (0+0))) (λv105=>Aj (.bool (decide (c=17))) false (AV v105 G H6) λv106=>
  Aj (.bool (decide (c=17))) false (CX (.one .int) false v106 (.int .i64 (.ofNat 21) 0)) λv107=>
  AP (BF (.bool (decide (c=17))) (.bool true) v107) λv108=>
  AZ v108 true (BX (Ez D) [] (Runs F G) H6 (n+4) λv109 H n'=>
  Ba 2 (.ptr (n+2) 0) v109 H n' λv110 H n'=>
  Aw lfp G (Runs F G) k (.ptr M.kb 0) (Ez D) (Cj D) (.ptr n 0) (.ptr (n+1) 0) (.ptr (n+2) 0) (.ptr (n+3) 0) H n') (Aw lfp G (Runs F G) k (.ptr M.kb 0) (Ez D) (Cj D) (.ptr n 0) (.ptr (n+1) 0) (.ptr (n+2) 0) (.ptr (n+3) 0) H6 (n+4))):=λ{v r} e hc hk=>by
   subst e
   have body:(BX (Ez D) [] (Runs F G) H6 (n+4) λv109 H n'=>
    Ba 2 (.ptr (n+2) 0) v109 H n' λv110 H n'=>
    Aw lfp G (Runs F G) k (.ptr M.kb 0) (Ez D) (Cj D) (.ptr n 0) (.ptr (n+1) 0) (.ptr (n+2) 0) (.ptr (n+3) 0) H n'):=by
    show BX (Ez (D.add n (n+4))) [] (Runs F G) H6 (n+4) _
    refine h6.pop (by rw[List.length_cons]at hlen;omega) λH7 m7 h7 kq7=>?_
    have hx:=hx.kq kq7 (by omega) hsb
    refine h7.cv (by omega) hp (λe=>by have:=hpa _ e;omega) hx.g3 rfl λH8 h8 kq8 g8 s8=>?_
    exact hk _ _ h8 (kq7.weak.trans kq8) ⟨(s8 _ (by omega)).trans hx.g1,(s8 _ (by omega)).trans hx.g2,g8,(s8 _ (by omega)).trans hx.g4⟩
   by_cases h17:c=17
   ·rw[decide_eq_true h17]
    repeat (first|with_reducible refine AKo ?_|with_reducible refine ABy ?_)
    rw[BD]
    exact body
   ·rw[decide_eq_false h17]
    refine wY rfl (wY lc (wY (DR ..) ?_))
    rw[lS]
    show AZ (.bool (decide (c=21))) true _ _
    rw[decide_eq_true (by omega),BD]
    exact body
 have hi:C.pool=p:=hC.pool
 have hfs:C.fs=M.fs:=hC.fs
 have hmx:C.max=D.mx:=hC.max
 rcases hc with rfl|rfl|rfl|rfl|rfl
 ·obtain⟨ws,w,r,t2,e1,e2,e3,rfl⟩:=Le (c:=C) (ts:=ts0) (l:=loc) (o:=dn C ⟨.ofNat 16,.ofNat i⟩) hs
  cases e1
  rw[hfs]at e2
  obtain⟨o,r',ts',rfl,-,hv,hr,e2⟩:=hst.Dh TA.w TA.u e2
  cases e2
  rw[hmx]at e3
  have d:Md M W D G H6 (n+4) s t2 k:=d
  refine no (by omega) (ALS hx (by omega) (AA7 hG TA h6 hp hpa (by omega) hx hpl (by rw[List.length_cons]at hlen;omega) hr e3 (.inr (.inl ⟨.inl rfl,hin.fl (by omega),?_,λ_=>?_,λq=>by omega⟩)) d))
  ·rw[<-hi];exact hv
  ·rw[<-hi];rfl
 ·obtain⟨ws,w,r,t2,e1,e2,e3,rfl⟩:=Le (c:=C) (ts:=ts0) (l:=loc) (o:=dn C ⟨.ofNat 17,.ofNat i⟩) hs
  cases e1
  rw[hfs]at e2
  obtain⟨v,r',ts',rfl,-,hv,hr,e2⟩:=hst.Dh TA.w TA.u e2
  obtain⟨o,r'',ts'',rfl,-,ho,hr,e2⟩:=hr.Dh TA.w TA.u e2
  cases e2
  rw[hmx]at e3
  have d:Md M W D G H6 (n+4) s t2 k:=d
  refine yes rfl (by omega) λH7 m7 h7 kq7 hx7=>ALS hx7 (by omega) (AA7 hG TA h7 hp hpa (by omega) hx7 (hpl.kq (h6.weak hp) kq7) (by simp only[List.length_cons]at hlen;omega) hr e3 (.inr (.inl ⟨.inr rfl,hin.fl (by omega),?_,λq=>by omega,λ_=>⟨rfl,?_⟩⟩)) (d.kq kq7))
  ·rw[<-hi];exact ho
  ·rw[<-hi];exact hv
 ·obtain⟨ws,w,r,t2,e1,e2,e3,rfl⟩:=Le (c:=C) (ts:=ts0) (l:=loc) (o:=dn C ⟨.ofNat 20,.ofNat i⟩) hs
  have e1:(bif (C.ty (.ofNat i)).arr then some ([DV,C.ty (.ofNat i)],some (Qn (C.ty (.ofNat i))))else none)=some (ws,w):=e1
  cases ha:(C.ty (.ofNat i)).arr with
  |false=>rw[ha]at e1;cases e1
  |true=>
   rw[ha]at e1
   cases e1
   rw[hfs]at e2
   obtain⟨v,r',ts',rfl,-,hv,hr,e2⟩:=hst.Dh TA.w TA.u e2
   obtain⟨o,r'',ts'',rfl,-,ho,hr,e2⟩:=hr.Dh TA.w TA.u e2
   cases e2
   rw[hmx]at e3
   have d:Md M W D G H6 (n+4) s t2 k:=d
   exact no (by omega) (AO6 h6 hp hpa (by omega) hx (by omega) (by rw[List.length_cons]at hlen;omega) λH7 m7 h7 kq7 hx7=>AA7 hG TA h7 hp hpa (by omega) hx7 (hpl.kq (h6.weak hp) kq7) (by simp only[List.length_cons]at hlen;omega) hr e3 (.inr (.inr ⟨.inl rfl,_,ha,ho,λ_=>rfl,λq=>by omega⟩)) (d.kq kq7))
 ·obtain⟨ws,w,r,t2,e1,e2,e3,rfl⟩:=Le (c:=C) (ts:=ts0) (l:=loc) (o:=dn C ⟨.ofNat 21,.ofNat i⟩) hs
  have e1:(bif (C.ty (.ofNat i)).arr then some ([Qn (C.ty (.ofNat i)),DV,C.ty (.ofNat i)],none)else none)=some (ws,w):=e1
  cases ha:(C.ty (.ofNat i)).arr with
  |false=>rw[ha]at e1;cases e1
  |true=>
   rw[ha]at e1
   cases e1
   rw[hfs]at e2
   obtain⟨v,r',ts',rfl,-,hv,hr,e2⟩:=hst.Dh TA.w TA.u e2
   obtain⟨iv,r'',ts'',rfl,-,-,hr,e2⟩:=hr.Dh TA.w TA.u e2
   obtain⟨o,r3,ts3,rfl,-,ho,hr,e2⟩:=hr.Dh TA.w TA.u e2
   cases e2
   rw[hmx]at e3
   have d:Md M W D G H6 (n+4) s t2 k:=d
   exact yes rfl (by omega) λH7 m7 h7 kq7 hx7=>AO6 h7 hp hpa (by omega) hx7 (by omega) (by simp only[List.length_cons]at hlen⊢;omega) λH8 m8 h8 kq8 hx8=>AA7 hG TA h8 hp hpa (by omega) hx8 (hpl.kq (h6.weak hp) (kq7.trans kq8)) (by simp only[List.length_cons]at hlen;omega) hr e3 (.inr (.inr ⟨.inr rfl,_,ha,ho,λq=>by omega,λ_=>⟨rfl,hv⟩⟩)) (d.kq (kq7.trans kq8))
 ·cases ts0 with
  |nil=>have hs:(none:Option Ce)=some st:=hs;cases hs
  |cons t ts'=>
   have hs:(bif t.arr||t.is CO then(CW C.max DV ts').map λk=>(⟨loc,k⟩:Ce)else none)=some st:=hs
   obtain⟨o,r',rfl,ho,hr⟩:=hst.inv
   cases ht:t.arr||t.is CO with
   |false=>rw[ht]at hs;cases hs
   |true=>
    rw[ht,hmx]at hs
    have hs:(CW D.mx DV ts').map (λk=>(⟨loc,k⟩:Ce))=some st:=hs
    cases hps:CW D.mx DV ts' with
    |none=>rw[hps]at hs;cases hs
    |some t2=>
     rw[hps]at hs
     cases hs
     have d:Md M W D G H6 (n+4) s t2 k:=d
     refine no (by omega) (ALS hx (by omega) (AA7 hG TA h6 hp hpa (by omega) hx hpl (by rw[List.length_cons]at hlen;omega) hr (w:=some DV) hps (.inl ⟨rfl,rfl,t,?_,ho⟩) d))
     rw[Bool.or_eq_true]at ht
     rcases ht with q|q
     ·exact .inl q
     ·exact .inr (Ty.Oh.1 q)
end
structure Bx2(H:Heap)(a:Nat)(L:LV)(c i:Nat):Prop where
 g1:T.get H a=some (one L)
 g2:T.get H (a+1)=some (one (Ins.cells ⟨.ofNat c,.ofNat i⟩))
theorem ADs{fs:Tab}(TA:Tabs fs):∀l:List St,(XD fs l).length<=l.length*200
 |[]=>Nat.zero_le _
 |u::l=>by
  have ih:=ADs TA l
  have e:XD fs (u::l)=((Ci fs u).getD DF).fs++XD fs l:=rfl
  rw[e,List.length_append,List.length_cons]
  have:((Ci fs u).getD DF).fs.length<=200:=by
   cases hl:Ci fs u with
   |none=>exact Nat.zero_le _
   |some c=>exact TA.fl u c hl
  omega
section
variable{M:Mn}{W W' W'':Mw}{D:qy}{G:AX}{H H' H'':Heap}{n n' n'':Nat}{s s':Mst}{k:KV}{stk:List Cv}
theorem Bx2.kq{a b c i m m':Nat}{L:LV}(h:Bx2 H a L c i)(x:Wn M W (D.add a b) H m W' H' m')(hb:a+2<=b)(hs:D.sb<a):Bx2 H' a L c i:=by
 have e:∀id,a<=id->id<b->T.get H' id=T.get H id:=λid q1 q2=>x.pr id (.inr ⟨q1,q2⟩) (by show id≠D.sb;omega)
 exact⟨(e _ (by omega) (by omega)).trans h.g1,(e _ (by omega) (by omega)).trans h.g2⟩
theorem AOP(TA:Tabs M.fs){n0 m1 m2 t a b:Nat}{l:List St}{va v0:V}{x4 x6 x7:V}{Ls:LV}(ht:TabAt G H n0 t a b M.fs)(hb:b<n0)(hbox:T.get H M.kb=some (one (.ptr t 0::Ls)))(hkb:M.kb<n0/\M.kb≠b)(hn:n0<m1/\m1<=m2)
 (ho:Own G H m1 m2 1 va (strs l)) (hl:l.length<=1001) (h0:Sk H 1 (λid=>id=n0) v0 (strs []))
 (hk:∀H' n' v,Kb b H n0 H' n'->m2<=n'->Sk H' 1 (λid=>n0<=id/\id<n') v (strs ((XD M.fs l).map λf=>f.nm))->D8 lfp G (Runs F G) k (.ptr M.kb 0) x4 x6 x7 v H' n'):
 lfp (V×V×V×V×V×V×V×V×Heap×Nat) (FH lfp G (Runs F G) k) (.ptr M.kb 0,x4,x6,x7,v0,va,.int .i64 (.ofNat l.length) 0,.int .i64 (.ofNat 0) 0,H,m2):=by
 have hmax:=ADs TA l
 refine CJ (N:=l.length) (J:=λi st=>∃H' n' v out,st=(.ptr M.kb 0,x4,x6,x7,v,va,.int .i64 (.ofNat l.length) 0,.int .i64 (.ofNat i) 0,H',n')/\m2<=n'/\Kb b H n0 H' n'/\(∀id,m1<=id->id<m2->T.get H' id=T.get H id)/\
  Sk H' 1 (λid=>(id=n0∨m2<=id)/\id<n') v (strs out)/\out++(XD M.fs (l.drop i)).map (λf=>f.nm)=(XD M.fs l).map λf=>f.nm) ?_ ?_
  ⟨H,m2,v0,[],rfl,Nat.le_refl _,⟨by omega,λ_ _ _=>rfl,λh=>h⟩,λ_ _ _=>rfl,h0.mono (λid h=>⟨.inl h,by omega⟩) λ_ _=>rfl,rfl⟩
 ·rintro I i st hi ⟨H2,n2,v,out,rfl,hn2,f2,e2,sk2,R⟩ ih
  show D9 lfp G (Runs F G) k I (.ptr M.kb 0) x4 x6 x7 v va (.int .i64 (.ofNat l.length) 0) (.int .i64 (.ofNat i) 0) H2 n2
  delta D9
  have el2:El G H2 va 1 (strs l):=(ho.el (by omega)).same λid hid=>e2 id (ho.gr.lo hid).1 (ho.lo id hid)
  obtain⟨q,hq,hld⟩:=el2.at (QB hi)
  rw[List.drop_eq_getElem_cons hi]at R
  have ih:∀s',_->I s':=ih
  generalize l[i]=u at hld R
  have bx2:=(f2.same _ hkb.1 hkb.2).trans hbox
  rw[SB,decide_eq_true hi,AB,BD,hq,AB,L6 hld,AB,Dq,AB,Ae,AB,AU (off:=0+0) bx2 (v:=.ptr t 0) rfl,AB]
  have ht2:=ht.kb (f2.low (Nat.le_refl _))
  refine kC ht2 (by omega) λH3 n3 fv f3 hfv=>?_
  have hn3:=f3.le
  obtain⟨vf,vm,ws,hfa,rfl⟩:=hfv
  rw[show Bl (.Di [.agg [((Ci M.fs u).getD DF).nm.v,((Ci M.fs u).getD DF).sup.v,vf,vm],.bool (Ci M.fs u).isSome]) 0=some (.agg [((Ci M.fs u).getD DF).nm.v,((Ci M.fs u).getD DF).sup.v,vf,vm])from rfl,AB,
   show Bl (.Di [.agg [((Ci M.fs u).getD DF).nm.v,((Ci M.fs u).getD DF).sup.v,vf,vm],.bool (Ci M.fs u).isSome]) 1=some (.bool (Ci M.fs u).isSome)from rfl,AB]
  have R:out++((((Ci M.fs u).getD DF).fs++XD M.fs (l.drop (i+1))).map λf=>f.nm)=(XD M.fs l).map λf=>f.nm:=R
  generalize((Ci M.fs u).getD DF).nm.v=w0 at*
  generalize((Ci M.fs u).getD DF).sup.v=w1 at*
  have hff:=hfa.fs
  clear hfa
  generalize((Ci M.fs u).getD DF).fs=fl at*
  refine BZ rfl λH4 f4 g4=>?_
  refine IU g4 rfl rfl (by omega) λH5 g5 s5=>?_
  have f5:Kp H3 n3 H5 (n3+1):=⟨by omega,λid hid=>by rw[s5 _ (by omega),f4.same _ hid]⟩
  rw[Ae,AB,AU (off:=0+2) g5 (v:=vf) rfl,AB]
  have e5:∀id,id<n2->id≠b->T.get H5 id=T.get H2 id:=λid q1 q2=>by rw[f5.same _ (by omega),f3.same _ q1 q2]
  have f25:Kb b H n0 H5 (n3+1):=⟨by omega,λid q1 q2=>by rw[e5 id (by omega) q2,f2.same id q1 q2],λq=>(f3.seen (f2.seen q)).same (f5.same _ (by omega))⟩
  have hff5:Td G H5 n0 vf fl:=hff.kp ⟨Nat.le_refl _,λid q=>f5.same id (by omega)⟩
  have sk5:=sk2.mono (B:=λid=>(id=n0∨m2<=id)/\id<n3+1) (λid q=>by omega) λid q=>e5 id q.2 (by omega)
  have e25:∀id,m1<=id->id<m2->T.get H5 id=T.get H id:=λid q1 q2=>by rw[e5 id (by omega) (by omega),e2 id q1 q2]
  rw[hff.len,AB]
  clear f2 e2 sk2 f3 f4 f5 g4 g5 s5 e5 hff ht2 bx2 el2 hq hld
  refine CJ (N:=fl.length) (J:=λj st=>∃H' n' v out,st=(.ptr M.kb 0,x4,x6,x7,v,va,.int .i64 (.ofNat l.length) 0,.int .i64 (.ofNat i) 0,vf,.int .i64 (.ofNat fl.length) 0,.int .i64 (.ofNat j) 0,H',n')/\m2<=n'/\Kb b H n0 H' n'/\(∀id,m1<=id->id<m2->T.get H' id=T.get H id)/\Td G H' n0 vf fl/\
   Sk H' 1 (λid=>(id=n0∨m2<=id)/\id<n') v (strs out)/\out++((fl.drop j++XD M.fs (l.drop (i+1))).map λf=>f.nm)=(XD M.fs l).map λf=>f.nm) ?_ ?_
   ⟨H5,n3+1,v,out,rfl,by omega,f25,e25,hff5,sk5,R⟩
  ·clear R f25 hff5 sk5 e25
   rintro I2 j st hj ⟨H6,n6,v6,out6,rfl,hn6,f6,e6,hff6,sk6,R⟩ ih2
   show EF lfp G (Runs F G) k I I2 (.ptr M.kb 0) x4 x6 x7 v6 va (.int .i64 (.ofNat l.length) 0) (.int .i64 (.ofNat i) 0) vf (.int .i64 (.ofNat fl.length) 0) (.int .i64 (.ofNat j) 0) H6 n6
   delta EF
   obtain⟨q,hq,hld⟩:=hff6.el.at (i:=j) (c:=fl[j].cells) (by simp[hj])
   have hfl:=hff6.lt
   rw[List.drop_eq_getElem_cons hj]at R
   generalize fl[j]=g at hld R
   rw[SB,decide_eq_true hj,AB,BD,hq,AB,DI hld,AB]
   refine BZ rfl λH7 f7 g7=>?_
   refine IU g7 rfl rfl (by omega) λH8 g8 s8=>?_
   have f8:Kp H6 n6 H8 (n6+1):=⟨by omega,λid hid=>by rw[s8 _ (by omega),f7.same _ hid]⟩
   rw[Ae,AB,AU (off:=0+0) g8 (v:=g.nm.v) rfl,AB]
   have sk8:=sk6.mono (B:=λid=>(id=n0∨m2<=id)/\id<n6+1) (λid q=>by omega) λid q=>f8.same id q.2
   have hlo:out6.length<=200200:=by
    have:=congrArg List.length R
    simp only[List.length_append,List.length_map]at this
    omega
   refine sk8.app (G:=G) (m:=0) (c:=g.nm.v) (λid hid=>(sk8.own hid).2) (by omega) rfl rfl (by rw[Gz];omega) λv9 H9 hv9 s9 hid=>?_
   have e9:∀id,id<n6+1->id≠n0->id<m2->T.get H9 id=T.get H8 id:=λid q1 q2 q3=>s9 id q1 λe=>by have:=(sk8.own e).1;omega
   have e96:∀id,id≠n0->id<m2->T.get H9 id=T.get H6 id:=λid q2 q3=>by rw[e9 id (by omega) q2 q3,f8.same id (by omega)]
   rw[D7 (by have:fl.length<big:=hfl;unfold big at this;omega),AB]
   refine ih2 _ ⟨H9,n6+1+2,v9,out6++[g.nm],rfl,by omega,⟨by omega,λid q1 q2=>by rw[e96 id (by omega) (by omega),f6.same id q1 q2],λq=>(f6.seen q).same (e96 _ (by omega) (by omega))⟩,λid q1 q2=>by rw[e96 id (by omega) q2,e6 id q1 q2],?_,?_,?_⟩
   ·exact hff6.kp ⟨Nat.le_refl _,λid q=>e96 id (by omega) (by omega)⟩
   ·have e:strs (out6++[g.nm])=strs out6++[Aq g.nm.v]:=List.map_append
    rw[e]
    exact hv9 _ ⟨.inr (by omega),by omega⟩
   ·rw[List.append_assoc];exact R
  ·clear R f25 hff5 sk5 e25
   rintro I2 st ⟨H6,n6,v6,out6,rfl,hn6,f6,e6,hff6,sk6,R⟩
   show EF lfp G (Runs F G) k I I2 (.ptr M.kb 0) x4 x6 x7 v6 va (.int .i64 (.ofNat l.length) 0) (.int .i64 (.ofNat i) 0) vf (.int .i64 (.ofNat fl.length) 0) (.int .i64 (.ofNat fl.length) 0) H6 n6
   delta EF
   rw[SB,decide_eq_false (by omega),AB,BA]
   delta JB
   rw[D7 (by omega),AB]
   rw[List.drop_length]at R
   exact ih _ ⟨H6,n6,v6,out6,rfl,hn6,f6,e6,sk6,R⟩
 ·rintro I st ⟨H2,n2,v,out,rfl,hn2,f2,e2,sk2,R⟩
  show D9 lfp G (Runs F G) k I (.ptr M.kb 0) x4 x6 x7 v va (.int .i64 (.ofNat l.length) 0) (.int .i64 (.ofNat l.length) 0) H2 n2
  delta D9
  rw[SB,decide_eq_false (by omega),AB,BA]
  rw[List.drop_length]at R
  have R:out++[]=_:=R
  rw[List.append_nil]at R
  subst R
  exact hk _ _ _ f2 hn2 (sk2.mono (λid q=>by omega) λ_ _=>rfl)
end
section
variable{M:Mn}{W W' W'':Mw}{D:qy}{G:AX}{H H' H'':Heap}{n n' n'':Nat}{s s':Mst}{k:KV}{stk:List Cv}
theorem AEk{H2:Heap}{n2 m:Nat}{cls:St}{nv:V}{ty:Ty}{arr:Bool}{names:List St}(h:Gm M W D G H n s stk)(f:Kb M.b H n H2 n2)(hnv:Sk H2 1 (λid=>n<=id/\id<n2) nv (strs names))
 (hc:arr=false->(∃c,Ci M.fs cls=some c)/\names=(XD M.fs (above M.fs cls).1).map (λf=>f.nm)/\m=names.length) (ha:arr=true->ty.arr=true/\names=[])
 (hk:∀(W':Mw) (H':Heap) (n':Nat) (s':Mst) (v:Cv),Gm M W' D G H' n' s' stk->Wn M W D H n W' H' n'->Ext s.hs s'.hs->s'.steps=s.steps->s'.calls=s.calls->(s'.trap=0->∃th,0<v.o/\s'.hs[v.o-1]? =some th/\th.cls=cls/\th.arr=arr/\th.ty=ty)->k v.v H' n'):
 Runs F G FW [.ptr M.kb 0,cls.v,nv,.int .i64 (.ofNat m) 0] H2 n2 k:=by
 have hkb:=h.w.kn
 have hN:=h.kN
 have hpp:=h.pr _ h.pp.1
 have hb:=h.bk
 have hw2:=(h.kb f).1.w
 obtain⟨h2,kq2⟩:=h.kb (f.low (Nat.le_refl n))
 have hle:=f.le
 refine AM0 hw2 (n0:=n) hle hkb (hnv.mono (λid q=>⟨q.1,q.2,h.w.hi id q.1⟩) λ_ _=>rfl) hc ha (λH3 n3 t h3 ht hn3 kz3=>?_) λW3 H3 n3 h3 hn3 hown kz3=>?_
 ·obtain⟨q1,q2⟩:=h2.world h3 (by omega) (λ_ _ h=>h) (λ_ _=>rfl) kz3
  exact hk W H3 n3 _ iO q1 (kq2.trans q2) (.refl _) rfl rfl λe=>absurd e ht
 ·obtain⟨q1,q2⟩:=h2.world h3 (by omega) (λid q e=>by rw[hown id q];exact e) (λid q=>hown id (by omega)) kz3
  refine hk W3 H3 n3 _ ⟨0,s.hs.length+1⟩ q1 (kq2.trans q2) .app rfl rfl λ_=>⟨⟨cls,arr,ty,names,List.replicate m iO⟩,Nat.succ_pos _,?_,rfl,rfl,rfl⟩
  show(s.hs++[_])[s.hs.length+1-1]? =_
  rw[Nat.add_sub_cancel,List.getElem?_append_right (Nat.le_refl _),Nat.sub_self];rfl
theorem Gm.laid{t:Ty}{rt ts:List Ty}{v:Cv}{H0:Heap}{n0:Nat}{W0:Mw}{s0:Mst}(h:Gm M W D G H n s stk)(d:Md M W0 D G H0 n0 s0 ts k)(kq:Wn M W0 D H0 n0 W H n)(he:Ext s0.hs s.hs)(h1:s.steps=s0.steps)(h2:s.calls=s0.calls)(hlen:stk.length<=1000000)
 (hst:TM M.fs s0.hs stk rt) (hp:CW D.mx t rt=some ts) (hv:s.trap=0->VT M.fs s.hs v t):BX (Cj D) [v.v] (Runs F G) H n λ_ H n=>k (.Di []) H n:=by
 obtain⟨rfl,hmx⟩:=Vh hp
 exact h.push hlen (by rw[hst.1];exact hmx) λH3 n3 h3 gY=>d _ _ _ _ _ h3 (kq.trans gY) he h1 h2 λe=>.cons (hv e) (hst.ext he)
theorem AL2{p:Pool}{v0 v1 v2 v3 v4:V}{ws:List V}{m i:Nat}(h:Gp G H m p v0 v1 v2 v3 v4 ws)(hi:i<p.names.length):∃q,Ag 1 v1 (.int .i64 (.ofNat i) 0)=some q/\AV q G H=some (p.names.getD i (0,0)).v:=by
 have e:p.names.getD i (0,0)=p.names[i]:=by rw[List.getD_eq_getElem?_getD,List.getElem?_eq_getElem hi];rfl
 rw[e]
 obtain⟨q,h1,h2⟩:=h.e1.at (QB hi)
 exact⟨q,h1,L6 h2⟩
theorem mD(h:Mm M W G H n s):AV (.ptr M.kb (0+6)) G H=some (.int .i64 s.trap 0):=AU h.box rfl
theorem AS0{p:Pool}{L:LV}{c i a b:Nat}{H2:Heap}{n2:Nat}{nv:V}{rt ts:List Ty}(TA:Tabs M.fs)(h:Gm M W (D.add a b) G H n s stk)(hp:D.Pr D.pb/\D.Pr D.sb/\D.Pr D.bb)(f:Kb M.b H n H2 n2)(hab:M.b<a/\a+2<=n)(hx:Bx2 H a L c i)(hpl:Plm M G H p L)(hi:i<p.names.length)(hup:upper (p.names.getD i (0,0)).1 (p.names.getD i (0,0)).2=true)
 (hnv:Sk H2 1 (λid=>n<=id/\id<n2) nv (strs ((XD M.fs (above M.fs (p.names.getD i (0,0))).1).map λf=>f.nm))) (hlen:stk.length<=1000000)
 (hst:TM M.fs s.hs stk rt) (hpush:CW D.mx ⟨p.names.getD i (0,0),false⟩ rt=some ts) (d:Md M W D G H n s ts k):
 D8 lfp G (Runs F G) k (.ptr M.kb 0) (Cj D) (.ptr a 0) (.ptr (a+1) 0) nv H2 n2:=by
 delta D8
 obtain⟨v0,v1,v2,v3,v4,ws,po,-,e1,-,-⟩:=(hpl.kb ((f.low (by have:=h.w.kn;omega))) h.tab.seen).at'
 obtain⟨q,hq,hld⟩:=AL2 po hi
 have g1:=(f.same a (by omega) (by omega)).trans hx.g1
 have g2:=(f.same (a+1) (by omega) (by omega)).trans hx.g2
 have hkn:∃c,Ci M.fs (p.names.getD i (0,0))=some c:=by
  have:=hpl.ok
  unfold Yq at this
  simp only[Bool.and_eq_true,List.all_eq_true]at this
  have:=this.1 (p.names.getD i (0,0)) (by rw[List.getD_eq_getElem?_getD,List.getElem?_eq_getElem hi];exact List.getElem_mem hi) ⟨p.names.getD i (0,0),false⟩ (List.mem_cons_self ..)
  unfold Rj at this
  rw[Bool.and_eq_true,hup]at this
  exact Option.isSome_iff_exists.1 (by simpa using this.2)
 generalize p.names.getD i (0,0)=cl at*
 have hlen2:=ADs TA (above M.fs cl).1
 obtain⟨cf,hcf⟩:=hkn
 rw[Ae,AB,Ae,AB,AU (off:=0+4+1) g1 (v:=v1) e1,AB,Ae,AB,AU (off:=0+1) g2 (v:=.int .i64 (.ofNat i) 0) rfl,AB,hq,AB,hld,AB,(hnv.el (G:=G) (by omega)).len,Gz,AB]
 refine AEk h f hnv (arr:=false) (ty:=Bq) (λ_=>⟨⟨cf,hcf⟩,rfl,rfl⟩) (λq=>by cases q) λW3 H3 n3 s3 v h3 gY he hs1 hs2 hv=>?_
 ·refine BZ rfl λH4 f4 g4=>?_
  show Ba 2 (.ptr n3 0) (.agg v.cells) _ _ _
  refine IU g4 rfl rfl (by omega) λH5 g5 s5=>?_
  have f5:Kp H3 n3 H5 (n3+1):=⟨by omega,λid hid=>by rw[s5 _ (by omega),f4.same _ hid]⟩
  obtain⟨h5,kq5⟩:=h3.kp f5
  have kq:=gY.trans kq5
  rw[Dq,AB,Ae,AB,mD h5.w,AB,ah,AB]
  cases hd:decide (s3.trap=Int.ofNat 0)with
  |false=>
   rw[BA]
   exact d _ _ _ _ _ (h5.weak hp) kq.weak he hs1 hs2 λe=>by rw[e]at hd;exact absurd hd (by decide)
  |true=>
   rw[BD,Qv g5,AB]
   refine(h5.weak hp).laid d kq.weak he hs1 hs2 hlen hst hpush λe=>?_
   obtain⟨th,t1,t2,t3,t4,t5⟩:=hv e
   refine λ_=>.inr ⟨th,t1,t2,?_⟩
   unfold TT
   rw[if_neg (show ¬(⟨cl,false⟩:Ty).arr=true from Bool.false_ne_true)]
   refine⟨hup,t4,?_⟩
   rw[t3]
   unfold Gq
   rw[Nv]
   exact(ET (TA.w cl cf hcf)).hd λe=>by rw[e]at hup;exact absurd hup (by decide)
end
section
variable{M:Mn}{W W' W'':Mw}{D:qy}{G:AX}{H H' H'':Heap}{n n' n'':Nat}{s s':Mst}{k:KV}{stk:List Cv}
theorem new_c{p:Pool}{L:LV}{c i a b:Nat}{rt ts:List Ty}(TA:Tabs M.fs)(h:Gm M W (D.add a b) G H n s stk)(hp:D.Pr D.pb/\D.Pr D.sb/\D.Pr D.bb)(hab:M.kb<a/\a+2<=b/\b<=n)(hx:Bx2 H a L c i)(hpl:Plm M G H p L)(hi:i<p.names.length)(hup:upper (p.names.getD i (0,0)).1 (p.names.getD i (0,0)).2=true)
 (hlen:stk.length<=1000000) (hst:TM M.fs s.hs stk rt) (hpush:CW D.mx ⟨p.names.getD i (0,0),false⟩ rt=some ts) (d:Md M W D G H n s ts k):
 Bf (Az 1 0 [(.str 0 0)] [] E0) H n λv36 H n=>
 AP (Ad (.ptr M.kb 0)) λv37=>
 AP (AQ 0 v37) λv38=>
 AP (AV v38 G H) λv39=>
 AP (AQ 4 (.ptr a 0)) λv40=>
 AP (AQ 1 v40) λv41=>
 AP (AV v41 G H) λv42=>
 AP (AQ 1 (.ptr (a+1) 0)) λv43=>
 AP (AV v43 G H) λv44=>
 AP (Ag 1 v42 v44) λv45=>
 AP (AV v45 G H) λv46=>
 Runs F G Dj [v39,v46] H n λv47 H n=>
 AP (Bl v47 0) λv48=>
 AP (Bl v47 1) λv49=>
 AP (lenV v48) λv68=>
 lfp (V×V×V×V×V×V×V×V×Heap×Nat) (FH lfp G (Runs F G) k) (.ptr M.kb 0,Cj D,.ptr a 0,.ptr (a+1) 0,v36,v48,v68,(.int .i64 (.ofNat 0) 0),H,n):=by
 refine yB (G:=G) (vs:=[]) rfl (by omega) (λ_ h=>by cases h) λH1 f1 hg1 _=>?_
 obtain⟨t1,hg1⟩:=hg1
 have bk:=h.bk
 have hx1:Bx2 H1 a L c i:=⟨(f1.same _ (by omega)).trans hx.g1,(f1.same _ (by omega)).trans hx.g2⟩
 obtain⟨h1,kq1⟩:=h.kp f1
 obtain⟨v0,v1,v2,v3,v4,ws,po,-,e1,-,-⟩:=(hpl.kq h kq1).at'
 obtain⟨q,hq,hld⟩:=AL2 po hi
 rw[Dq,AB,Ae,AB,AU (off:=0+0) h1.w.box (v:=.ptr M.t 0) rfl,AB,Ae,AB,Ae,AB,AU (off:=0+4+1) hx1.g1 (v:=v1) e1,AB,Ae,AB,AU (off:=0+1) hx1.g2 (v:=.int .i64 (.ofNat i) 0) rfl,AB,hq,AB,hld,AB]
 have AQQ:TabAt G H1 (n+1) M.t M.a M.b M.fs:=h1.tab.kb ⟨by have:=h.w.kn;omega,λ_ _ _=>rfl,λh=>h⟩
 refine Zo AQQ TA.len λH2 n2 va f2 ho hl=>?_
 have hn2:=f2.le
 rw[show Bl (.Di [va,.bool (above M.fs (p.names.getD i (0,0))).2]) 0=some va from rfl,AB,show Bl (.Di [va,.bool (above M.fs (p.names.getD i (0,0))).2]) 1=some (.bool (above M.fs (p.names.getD i (0,0))).2)from rfl,AB,(ho.el (by omega)).len,Gz,AB]
 have f12:Kb M.b H n H2 n2:=⟨by omega,λid q1 q2=>by rw[f2.same id (by omega) q2,f1.same id q1],λq=>f2.seen (q.same (f1.same _ (by omega)))⟩
 refine AOP (n0:=n) (m1:=n+1) TA (h.tab.kb ⟨Nat.le_of_lt h.w.kn,λid q1 q2=>f12.same id (by have:=h.w.kn;omega) q2,f12.seen⟩) (by omega) ((f12.same _ h.w.kn (by omega)).trans h.w.box) ⟨h.w.kn,by omega⟩ ⟨by omega,hn2⟩ ho hl (.emp ((f2.same n (by omega) (by omega)).trans hg1) rfl) λH3 n3 v f3 hn3 sk=>?_
 exact AS0 TA h hp ((f12.low (Nat.le_refl n)).trans f3) ⟨by omega,by omega⟩ hx hpl hi hup sk hlen hst hpush d
theorem jV(x:Int):Ap [.int .i64 (.ofNat 0) 0,.int .i64 (.ofNat 0) 0] [(0,1,.c (.int .i64 x 0))]=some (⟨x,0⟩:Cv).v:=rfl
theorem ANi{rt ts:List Ty}{t:Ty}{v:Cv}(h:Gm M W D G H n s (v::stk))(hp:D.Pr D.pb/\D.Pr D.sb/\D.Pr D.bb)(ht:t.arr=true)
 (hlen:stk.length<=1000000) (hst:TM M.fs s.hs stk rt) (hpush:CW D.mx t rt=some ts) (d:Md M W D G H n s ts k):
 BX (Ez D) [] (Runs F G) H n λv98 H n=>
 AP (yL 0 v98) λv99=>
 AP (B2.ev .lss v99 (.int .i64 (.ofNat 0) 0)) λv100=>
 AZ v100 true (Runs F G BH [.ptr M.kb 0,(.int .i64 (.ofNat 2) 0)] H n λv101 H n=>
 k (.Di []) H n) (Runs F G FW [.ptr M.kb 0,(.str 0 0),.AY,v99] H n λv102 H n=>
 Bf (Ai 2 [[(.int .i64 (.ofNat 0) 0),(.int .i64 (.ofNat 0) 0)]] E0) H n λv103 H n=>
 Ba 2 v103 v102 H n λv104 H n=>
 AP (Ad (.ptr M.kb 0)) λv105=>
 AP (AQ 6 v105) λv106=>
 AP (AV v106 G H) λv107=>
 AP (CX (.one .int) false v107 (.int .i64 (.ofNat 0) 0)) λv108=>
 Aj v108 true (some (.ptr M.kb 0)) λv109=>
 Aj v108 true (Ad v109) λv110=>
 Aj v108 true (AQ 5 v110) λv111=>
 Aj v108 true (AV v111 G H) λv112=>
 Aj v108 true (F6 v112) λv113=>
 AP (BF v108 v113 (.bool false)) λv114=>
 AZ v114 true (AP (Af 2 v103 G H) λv115=>
 BX (Cj D) [v115] (Runs F G) H n λv116 H n=>
 k (.Di []) H n) (k (.Di []) H n)):=by
 refine h.pop hlen λH1 n1 h1 kq1=>?_
 have d:=d.kq kq1
 rw[show yL 0 v.v=some (.int .i64 v.n 0)from rfl,AB,AAr,AB]
 cases hd:decide (v.n<0)with
 |true=>
  rw[BD]
  exact h1.die (by omega) λH2 n2 t h2 ht kq2=>d _ _ _ _ _ h2 kq2 (.refl _) rfl rfl λe=>absurd e ht
 |false=>
  rw[BA]
  obtain⟨m,hm⟩:∃m:Nat,v.n=.ofNat m:=⟨v.n.toNat,by have:=of_decide_eq_false hd;show v.n=(v.n.toNat:Int);omega⟩
  rw[hm]
  have hm':v.n=(m:Int):=hm
  refine AEk (cls:=(0,0)) h1 (Kb.refl _ _ _) .nil (names:=[]) (arr:=true) (ty:=t) (λq=>by cases q) (λ_=>⟨ht,rfl⟩) λW3 H3 n3 s3 v h3 gY he hs1 hs2 hv=>?_
  refine BZ rfl λH4 f4 g4=>?_
  show Ba 2 (.ptr n3 0) (.agg v.cells) _ _ _
  refine IU g4 rfl rfl (by omega) λH5 g5 s5=>?_
  have f5:Kp H3 n3 H5 (n3+1):=⟨by omega,λid hid=>by rw[s5 _ (by omega),f4.same _ hid]⟩
  obtain⟨h5,kq5⟩:=h3.kp f5
  have kq:=gY.trans kq5
  rw[Dq,AB,Ae,AB,mD h5.w,AB,ah,AB]
  cases hd:decide (s3.trap=Int.ofNat 0)with
  |false=>
   repeat (first|with_reducible refine AMF ?_|with_reducible refine AIt ?_)
   rw[BA]
   exact d _ _ _ _ _ h5 kq he hs1 hs2 λe=>by rw[e]at hd;exact absurd hd (by decide)
  |true=>
   refine iH rfl (iH rfl (iH rfl (iH (AU (off:=0+5) h5.w.box (v:=.bool false) rfl) (iH (jW _) ?_))))
   refine ABy ?_
   show AZ (.bool true) true _ _
   rw[BD,Qv g5,AB]
   refine h5.laid d kq he hs1 hs2 hlen hst hpush λe=>?_
   obtain⟨th,t1,t2,t3,t4,t5⟩:=hv e
   refine λ_=>.inr ⟨th,t1,t2,?_⟩
   unfold TT
   rw[if_pos ht]
   exact⟨t4,t5⟩
theorem APt(hG:QT G){p:Pool}{L:LV}{c i a b:Nat}{rt:List Ty}{t:Ty}{x27:V}{ts:List Ty}{v:Cv}(TA:Tabs M.fs)(h:Gm M W (D.add a b) G H n s (v::stk))(hp:D.Pr D.pb/\D.Pr D.sb/\D.Pr D.bb)(hpa:D.sb<a)(hab:M.kb<a/\a+2<=b/\b<=n)(hx:Bx2 H a L c i)(hpl:Plm M G H p L)(hi:i<p.names.length)
 (hc:c=23∨c=24) (hlen:stk.length<=1000000) (hst:TM M.fs s.hs stk rt) (ht:t.cls=true∨t=CO) (hv:VT M.fs s.hs v t) (hpush:CW D.mx (bif decide (c=24)then FY else⟨p.names.getD i (0,0),false⟩) rt=some ts) (d:Md M W D G H n s ts k):
 CG lfp G (Runs F G) k (.ptr M.kb 0) (Ez D) (Cj D) (.ptr a 0) (.ptr (a+1) 0) x27 (.bool true) H n:=by
 delta CG
 rw[BD]
 show BX (Ez (D.add a b)) [] (Runs F G) H n _
 refine h.pop hlen λH1 n1 h1 kq1=>?_
 have hx:=hx.kq kq1 hab.2.1 hpa
 have hpl:=hpl.kq h kq1
 have d:=d.kq kq1.weak
 have hn1:=kq1.le
 clear kq1
 refine BZ rfl λH4 f4 g4=>?_
 show Ba 2 (.ptr n1 0) (.agg v.cells) _ _ _
 refine IU g4 rfl rfl (by omega) λH5 g5 s5=>?_
 have f5:Kp H1 n1 H5 (n1+1):=⟨by omega,λid hid=>by rw[s5 _ (by omega),f4.same _ hid]⟩
 have h6:=h1.add f5
 obtain⟨h5,kq5⟩:=h1.kp f5
 have hx:=hx.kq kq5 hab.2.1 hpa
 have hpl:=hpl.kq h1 kq5
 have d:=d.kq kq5.weak
 clear f4 g4 s5 f5 kq5
 have lo:AV (.ptr n1 (0+1)) G H5=some (.int .i64 (.ofNat v.o) 0):=AU g5 rfl
 have fin:∀{H6 n6} (y:Bool),Gm M W ((D.add a b).add n1 (n1+1)) G H6 n6 s stk->Wn M W ((D.add a b).add n1 (n1+1)) H5 (n1+1) W H6 n6->(y=true->c=23->VT M.fs s.hs v ⟨p.names.getD i (0,0),false⟩)->(y=false->v.o=0∨True)->y=y->
  AP (AQ 0 (.ptr (a+1) 0)) λv147=>
  AP (AV v147 G H6) λv148=>
  AP (CX (.one .int) false v148 (.int .i64 (.ofNat 24) 0)) λv149=>
  AZ v149 true (Runs F G Hy [.bool y] H6 n6 λv150 H n=>
  BX (Cj D) [v150] (Runs F G) H n λv151 H n=>
  k (.Di []) H n) (AP (AQ 1 (.ptr n1 0)) λv152=>
  AP (AV v152 G H6) λv153=>
  AP (B2.ev .gtr v153 (.int .i64 (.ofNat 0) 0)) λv154=>
  Aj v154 true (some (.bool y)) λv155=>
  Aj v154 true (F6 v155) λv156=>
  AP (BF v154 v156 (.bool false)) λv157=>
  AZ v157 true (Runs F G BH [.ptr M.kb 0,(.int .i64 (.ofNat 4) 0)] H6 n6 λv158 H n=>
  k (.Di []) H n) (AP (Af 2 (.ptr n1 0) G H6) λv159=>
  BX (Cj D) [v159] (Runs F G) H6 n6 λv160 H n=>
  k (.Di []) H n)):=by
  intro H6 n6 y h6 kq6 hy _ _
  have hxn:=h1.pr (a+1) (.inr ⟨by omega,by omega⟩)
  have hx6:=hx.kq kq6.weak hab.2.1 hpa
  have g6:=(kq6.pr n1 (.inr ⟨Nat.le_refl _,by omega⟩) (by show n1≠D.sb;omega)).trans g5
  have lo6:AV (.ptr n1 (0+1)) G H6=some (.int .i64 (.ofNat v.o) 0):=AU g6 rfl
  have hp':(D.add a b).Pr D.pb/\(D.add a b).Pr D.sb/\(D.add a b).Pr D.bb:=⟨.inl hp.1,.inl hp.2.1,.inl hp.2.2⟩
  have h6:=(h6.weak hp').weak hp
  have d:=d.kq kq6.weak.weak
  rw[Ae,AB,AU (off:=0+0) hx6.g2 (v:=.int .i64 (.ofNat c) 0) rfl,AB,DR,AB]
  rcases hc with rfl|rfl
  ·rw[decide_eq_false (by decide)]at hpush
   rw[decide_eq_false (by decide),BA,Ae,AB,lo6,AB,AC1,AB]
   have push:VT M.fs s.hs v ⟨p.names.getD i (0,0),false⟩->AP (Af 2 (.ptr n1 0) G H6) λv159=>
    BX (Cj D) [v159] (Runs F G) H6 n6 λv160 H n=>
    k (.Di []) H n:=λq=>by
     rw[Qv g6,AB]
     exact h6.laid d .refl (.refl _) rfl rfl hlen hst hpush λ_=>q
   by_cases h0:v.o=0
   ·rw[decide_eq_false (by show ¬(0:Int)<(v.o:Int);omega)]
    repeat (first|with_reducible refine AMF ?_|with_reducible refine AIt ?_)
    rw[BA]
    exact push λ_=>.inl h0
   ·rw[decide_eq_true (by show(0:Int)<(v.o:Int);omega)]
    refine iH rfl (iH (jW _) (ABy ?_))
    cases y with
    |true=>
     show AZ (.bool false) true _ _
     rw[BA]
     exact push (hy rfl rfl)
    |false=>
     show AZ (.bool true) true _ _
     rw[BD]
     exact h6.die (by omega) λH7 n7 t h7 ht kq7=>d _ _ _ _ _ h7 kq7 (.refl _) rfl rfl λe=>absurd e ht
  ·rw[decide_eq_true rfl]at hpush
   rw[decide_eq_true rfl,BD]
   refine AKD λH7 n7 x f7=>?_
   obtain⟨h7,kq7⟩:=h6.kp f7
   exact h7.laid d kq7 (.refl _) rfl rfl hlen hst hpush λ_=>fO (t:=FY) (by decide)
 rw[Ae,AB,lo,AB,AC1,AB]
 by_cases h0:v.o=0
 ·rw[decide_eq_false (by show ¬(0:Int)<(v.o:Int);omega)]
  repeat (first|with_reducible refine AMF ?_|with_reducible refine ARg ?_|with_reducible refine AIt ?_)
  exact fin false h6 .refl (λq=>by cases q) (λ_=>.inr trivial) rfl
 ·rw[decide_eq_true (by show(0:Int)<(v.o:Int);omega)]
  rcases ht with ht|rfl
  ·obtain⟨j,th,e,hj,ha,-⟩:=vK ht hv h0
   obtain⟨b1,o1,q1,q2,-,-⟩:=h5.w.thing (q:=.i64) hG hj
   obtain⟨v0,v1,v2,v3,v4,ws,po,-,e1,-,-⟩:=hpl.at'
   obtain⟨q,hq,hld⟩:=AL2 po hi
   have hjl:=(List.getElem?_eq_some_iff.1 hj).1
   have hsz:=h5.w.sz
   have sub:B2.ev .sub (.int .i64 (.ofNat v.o) 0) (.int .i64 (.ofNat 1) 0)=some (.int .i64 (.ofNat j) 0):=by rw[e,uP (by omega)]
   refine iH rfl (iH rfl (iH rfl (iH (AU (off:=0+0) h5.w.box (v:=.ptr M.t 0) rfl) (iH rfl (iH rfl (iH rfl (iH (AU (off:=0+7) h5.w.box (v:=W.hv) rfl) (iH rfl (iH lo (iH sub (iH q1 (iH (Ae ..) (iH q2 (iH rfl (iH rfl (iH (AU (off:=0+4+1) hx.g1 (v:=v1) e1) (iH rfl (iH (AU (off:=0+1) hx.g2 (v:=.int .i64 (.ofNat i) 0) rfl) (iH hq (iH hld ?_))))))))))))))))))))
   refine AUQ ?_
   refine ADi h5.tab (Nat.le_of_lt h5.w.kn) TA.len λH7 n7 f7=>?_
   refine ABy ?_
   obtain⟨h7,kq7⟩:=h6.kb f7
   refine fin (Gq M.fs th.cls (p.names.getD i (0,0))) h7 kq7 (λq _=>?_) (λ_=>.inr trivial) rfl
   refine λ_=>.inr ⟨th,by omega,by rw[e];exact hj,?_⟩
   unfold TT
   rw[if_neg (show ¬(⟨p.names.getD i (0,0),false⟩:Ty).arr=true from Bool.false_ne_true)]
   refine⟨?_,ha,q⟩
   unfold Gq at q
   rw[Nv]at q
   obtain⟨c1,hc1⟩:=Jw q
   obtain⟨c2,hc2⟩:=(ET (TA.w _ c1 hc1)).known q
   exact TA.u _ _ hc2
  ·exact absurd (zx hv) h0
end
section
variable{M:Mn}{W W' W'':Mw}{D:qy}{G:AX}{H H' H'':Heap}{n n' n'':Nat}{s s':Mst}{k:KV}{stk:List Cv}
theorem AJy(a:Int):∃x,ATC (.int .i64 a 0)=some (.int .i64 x 0):=⟨_,rfl⟩
theorem APo{c i a b:Nat}{L:LV}{x y:Cv}{t:Ty}{rt ts:List Ty}(h:Gm M W (D.add a b) G H n s (y::x::stk))(hp:D.Pr D.pb/\D.Pr D.sb/\D.Pr D.bb)(hpa:D.sb<a)(hab:M.kb<a/\a+2<=b/\b<=n)(hx:Bx2 H a L c i)
 (hc:5<=c/\c<=13) (hlen:stk.length+1<=1000000) (hst:TM M.fs s.hs stk rt) (hpush:CW D.mx t rt=some ts) (ht:t.obj=false) (d:Md M W D G H n s ts k):
 BI lfp G (Runs F G) k (.ptr M.kb 0) (Ez D) (Cj D) (.ptr a 0) (.ptr (a+1) 0) (.bool false) H n:=by
 delta BI
 rw[BA]
 show BX (Ez (D.add a b)) [] (Runs F G) H n _
 refine h.pop (by rw[List.length_cons];exact hlen) λH1 n1 h1 kq1=>?_
 have hx:=hx.kq kq1 hab.2.1 hpa
 have d:=d.kq kq1.weak
 have hn1:=kq1.le
 clear kq1
 refine BZ rfl λH4 f4 g4=>?_
 show Ba 2 (.ptr n1 0) (.agg y.cells) _ _ _
 refine IU g4 rfl rfl (by omega) λH5 g5 s5=>?_
 have f5:Kp H1 n1 H5 (n1+1):=⟨by omega,λid hid=>by rw[s5 _ (by omega),f4.same _ hid]⟩
 have h6:=h1.add f5
 obtain⟨h5,kq5⟩:=h1.kp f5
 have hx:=hx.kq kq5 hab.2.1 hpa
 have d:=d.kq kq5.weak
 clear f4 g4 s5 f5 kq5 h5
 show BX (Ez ((D.add a b).add n1 (n1+1))) [] (Runs F G) H5 _ _
 refine h6.pop (by omega) λH7 n7 h7 kq7=>?_
 have hx:=hx.kq kq7.weak hab.2.1 hpa
 have g7:=(kq7.pr n1 (.inr ⟨Nat.le_refl _,by omega⟩) (by show n1≠D.sb;omega)).trans g5
 have d:=d.kq kq7.weak.weak
 have hn7:=kq7.le
 clear kq7 g5 h6
 have hp':(D.add a b).Pr D.pb/\(D.add a b).Pr D.sb/\(D.add a b).Pr D.bb:=⟨.inl hp.1,.inl hp.2.1,.inl hp.2.2⟩
 have h7:=(h7.weak hp').weak hp
 refine BZ rfl λH8 f8 g8=>?_
 show Ba 2 (.ptr n7 0) (.agg x.cells) _ _ _
 refine IU g8 rfl rfl (by omega) λH9 g9 s9=>?_
 have f9:Kp H7 n7 H9 (n7+1):=⟨by omega,λid hid=>by rw[s9 _ (by omega),f8.same _ hid]⟩
 obtain⟨h9,kq9⟩:=h7.kp f9
 have d:=d.kq kq9
 have g7:=(f9.same n1 (by omega)).trans g7
 have gx:=(f9.same (a+1) (by omega)).trans hx.g2
 obtain⟨rfl,hmx⟩:=Vh hpush
 rw[Dq,AB,Ae,AB,AU (off:=0+5) h9.w.box (v:=.bool false) rfl,AB,jW,AB]
 show AZ (.bool true) true _ _
 rw[BD,Ae,AB,AU (off:=0+0) gx (v:=.int .i64 (.ofNat c) 0) rfl,AB,Qv g9,AB,Qv g7,AB]
 refine ASG h9 hc (by omega) (by rw[hst.1];exact hmx) (λH3 n3 t h3 ht gY=>d _ _ _ _ _ h3 gY (.refl _) rfl rfl λe=>absurd e ht) λH3 n3 x h3 gY=>d _ _ _ _ _ h3 gY (.refl _) rfl rfl λ_=>.cons (fO ht) hst
theorem AM5(hG:QT G)(TA:Tabs M.fs){p:Pool}{L:LV}{C:Cx}{c i nl:Nat}{loc ts0:List Ty}{st:Ce}(h:Gm M W D G H n s stk)(hpl:Plm M G H p L)(hC:Cxm M D p C)(hc:¬(c=3∨c=4∨c=25∨c=26∨c=27∨c=28∨c=29∨c=30∨c=31))(hin:ny p nl c i)(hnum:c=1->i<p.nums.length)
 (hlen:stk.length<=999999) (hst:TM M.fs s.hs stk ts0) (hs:stepT C ⟨loc,ts0⟩ ⟨.ofNat c,.ofNat i⟩=some st) (d:Md M W D G H n s st.stk k):
 Runs F G RP [.ptr M.kb 0,.agg L,.agg (Ins.cells ⟨.ofNat c,.ofNat i⟩),Ez D,Cj D] H n k:=by
 refine BN (s:=ar5 (FP lfp G)) J5 (by obtain⟨h,o⟩:=QN BO G;rw[J5]at h;cases h;exact o) ?_
 show FP lfp G (Runs F G) (.ptr M.kb 0) (.agg L) (.agg (Ins.cells ⟨.ofNat c,.ofNat i⟩)) (Ez D) (Cj D) H n k
 delta FP
 have hp:D.Pr D.pb/\D.Pr D.sb/\D.Pr D.bb:=⟨h.pp.1,h.pp.2.1,h.pp.2.2.1⟩
 have hsb:=(h.pr _ hp.2.1).2.1
 have hkn:=h.w.kn
 refine FZ λH1 f1 g1=>?_
 refine FZ λH2 f2 g2=>?_
 have hx:Bx2 H2 n L c i:=⟨f2.get g1 (by omega),g2⟩
 have f:=f1.trans f2
 have h2:=h.add f
 obtain⟨hD,kq⟩:=h.kp f
 have hpl:=hpl.kq h kq
 have d:=d.kq kq
 clear f1 f2 g1 g2 f kq h
 obtain⟨v0,v1,v2,v3,v4,ws,po,e0,e1,e3,e4⟩:=hpl.at'
 have lc:AV (.ptr (n+1) (0+0)) G H2=some (.int .i64 (.ofNat c) 0):=AU hx.g2 rfl
 have li:AV (.ptr (n+1) (0+1)) G H2=some (.int .i64 (.ofNat i) 0):=AU hx.g2 rfl
 have hfs:C.fs=M.fs:=hC.fs
 have hmx:C.max=D.mx:=hC.max
 have hpo:C.pool=p:=hC.pool
 have hlo:=hin.lo
 have hhi:=hin.hi
 rw[Ae,AB,lc,AB,DR,AB]
 by_cases h1:c=1
 ·subst h1
  obtain⟨w1,w,r,t2,q1,q2,q3,rfl⟩:=Le (c:=C) (ts:=ts0) (l:=loc) (o:=dn C ⟨.ofNat 1,.ofNat i⟩) hs
  cases q1
  cases q2
  rw[hmx]at q3
  have hi:=hnum rfl
  obtain⟨q,hq,hld⟩:=po.e0.at (i:=i) (c:=[.int .i64 p.nums[i] 0]) (by simp[hi])
  rw[decide_eq_true rfl,BD,Ae,AB,Ae,AB,AU (off:=0+4+0) hx.g1 (v:=v0) e0,AB,Ae,AB,li,AB,hq,AB,L6 hld,AB,jV,AB]
  exact hD.laid d .refl (.refl _) rfl rfl (by omega) hst q3 λ_=>fO (by decide)
 rw[decide_eq_false h1,BA,DR,AB]
 by_cases h32:c=32
 ·subst h32
  obtain⟨w1,w,r,t2,q1,q2,q3,rfl⟩:=Le (c:=C) (ts:=ts0) (l:=loc) (o:=dn C ⟨.ofNat 32,.ofNat i⟩) hs
  cases q1
  cases q2
  rw[hmx]at q3
  rw[decide_eq_true rfl,BD,Ae,AB,li,AB,jV,AB]
  exact hD.laid d .refl (.refl _) rfl rfl (by omega) hst q3 λ_=>fO (by decide)
 rw[decide_eq_false h32,BA,DR,AB]
 by_cases hc2:c=2
 ·subst hc2
  obtain⟨w1,w,r,t2,q1,q2,q3,rfl⟩:=Le (c:=C) (ts:=ts0) (l:=loc) (o:=dn C ⟨.ofNat 2,.ofNat i⟩) hs
  cases q1
  cases q2
  rw[hmx]at q3
  rw[decide_eq_true rfl,BD,dK,AB]
  exact hD.laid d .refl (.refl _) rfl rfl (by omega) hst q3 λ_=>yg
 rw[decide_eq_false hc2,BA,DR,AB]
 by_cases h14:c=14
 ·subst h14
  obtain⟨w1,w,r,t2,q1,q2,q3,rfl⟩:=Le (c:=C) (ts:=ts0) (l:=loc) (o:=dn C ⟨.ofNat 14,.ofNat i⟩) hs
  cases q1
  rw[hfs]at q2
  obtain⟨v,r',ts',rfl,-,hv,hr,q2⟩:=hst.Dh TA.w TA.u q2
  cases q2
  rw[hmx]at q3
  have hlen':r'.length<=1000000:=by rw[List.length_cons]at hlen;omega
  rw[decide_eq_true rfl,BD]
  refine hD.pop hlen' λH3 n3 h3 gY=>?_
  obtain⟨x,hx⟩:=AJy v.n
  rw[show yL 0 v.v=some (.int .i64 v.n 0)from rfl,AB,hx,AB,jV,AB]
  exact h3.laid (d.kq gY) .refl (.refl _) rfl rfl hlen' hr q3 λ_=>fO (by decide)
 rw[decide_eq_false h14,BA,DR,AB]
 by_cases h15:c=15
 ·subst h15
  obtain⟨w1,w,r,t2,q1,q2,q3,rfl⟩:=Le (c:=C) (ts:=ts0) (l:=loc) (o:=dn C ⟨.ofNat 15,.ofNat i⟩) hs
  cases q1
  rw[hfs]at q2
  obtain⟨v,r',ts',rfl,-,hv,hr,q2⟩:=hst.Dh TA.w TA.u q2
  cases q2
  rw[hmx]at q3
  have hlen':r'.length<=1000000:=by rw[List.length_cons]at hlen;omega
  rw[decide_eq_true rfl,BD]
  refine hD.pop hlen' λH3 n3 h3 gY=>?_
  rw[show yL 0 v.v=some (.int .i64 v.n 0)from rfl,AB,ah,AB]
  refine AKD λH4 n4 x f4=>?_
  obtain⟨h4,kq4⟩:=h3.kp f4
  exact h4.laid (d.kq (gY.trans kq4)) .refl (.refl _) rfl rfl hlen' hr q3 λ_=>fO (by decide)
 rw[decide_eq_false h15,BA,DR,AB]
 have hsub:n+2<=n+1+1:=by omega
 by_cases h18:c=18
 ·subst h18
  obtain⟨w1,w,r,t2,q1,q2,q3,rfl⟩:=Le (c:=C) (ts:=ts0) (l:=loc) (o:=dn C ⟨.ofNat 18,.ofNat i⟩) hs
  cases q1
  cases q2
  rw[hmx]at q3
  have hi:=hin.nm (by omega)
  have hup:upper (p.names.getD i (0,0)).1 (p.names.getD i (0,0)).2=true:=hpl.up _ (by rw[List.getD_eq_getElem?_getD,List.getElem?_eq_getElem hi];exact List.getElem_mem hi)
  rw[decide_eq_true rfl,BD]
  refine new_c TA h2 hp ⟨hkn,hsub,Nat.le_refl _⟩ hx hpl hi hup (by omega) hst (ts:=t2) ?_ d
  rw[<-hpo];exact q3
 rw[decide_eq_false h18,BA,DR,AB]
 by_cases h19:c=19
 ·subst h19
  obtain⟨w1,w,r,t2,q1,q2,q3,rfl⟩:=Le (c:=C) (ts:=ts0) (l:=loc) (o:=dn C ⟨.ofNat 19,.ofNat i⟩) hs
  have q1:(bif (C.ty (.ofNat i)).arr then some ([DV],some (C.ty (.ofNat i)))else none)=some (w1,w):=q1
  cases ha:(C.ty (.ofNat i)).arr with
  |false=>rw[ha]at q1;cases q1
  |true=>
   rw[ha]at q1
   cases q1
   rw[hfs]at q2
   obtain⟨v,r',ts',rfl,-,hv,hr,q2⟩:=hst.Dh TA.w TA.u q2
   cases q2
   rw[hmx]at q3
   have hlen':r'.length<=1000000:=by rw[List.length_cons]at hlen;omega
   rw[decide_eq_true rfl,BD]
   exact ANi hD hp ha hlen' hr q3 d
 rw[decide_eq_false h19,BA,DR,AB]
 have cast:c=23∨c=24->CG lfp G (Runs F G) k (.ptr M.kb 0) (Ez D) (Cj D) (.ptr n 0) (.ptr (n+1) 0) (.int .i64 (.ofNat c) 0) (.bool true) H2 (n+1+1):=λhc=>by
  cases ts0 with
  |nil=>rcases hc with rfl|rfl<;>(have hs:(none:Option Ce)=some st:=hs;cases hs)
  |cons t ts'=>
   have hs:(bif t.cls||t.is CO then(CW C.max (bif decide (c=24)then FY else C.cl (.ofNat i)) ts').map λk=>(⟨loc,k⟩:Ce)else none)=some st:=by
    rcases hc with rfl|rfl<;>exact hs
   obtain⟨v,r',rfl,hv,hr⟩:=hst.inv
   have hlen':r'.length<=1000000:=by rw[List.length_cons]at hlen;omega
   cases ht:t.cls||t.is CO with
   |false=>rw[ht]at hs;cases hs
   |true=>
    rw[ht,hmx]at hs
    have hs:(CW D.mx (bif decide (c=24)then FY else C.cl (.ofNat i)) ts').map (λk=>(⟨loc,k⟩:Ce))=some st:=hs
    cases hps:CW D.mx (bif decide (c=24)then FY else C.cl (.ofNat i)) ts' with
    |none=>rw[hps]at hs;cases hs
    |some t2=>
     rw[hps]at hs
     cases hs
     refine APt hG TA h2 hp hsb ⟨hkn,hsub,Nat.le_refl _⟩ hx hpl (hin.nm (by omega)) hc hlen' hr (t:=t) ?_ hv (ts:=t2) ?_ d
     ·rw[Bool.or_eq_true]at ht
      rcases ht with q|q
      ·exact .inl q
      ·exact .inr (Ty.Oh.1 q)
     ·rw[<-hpo];exact hps
 by_cases h23:c=23
 ·rw[decide_eq_true h23,BD]
  exact cast (.inl h23)
 rw[decide_eq_false h23,BA,DR,AB]
 by_cases h24:c=24
 ·rw[decide_eq_true h24]
  exact cast (.inr h24)
 rw[decide_eq_false h24]
 delta CG
 rw[BA,DR,AB]
 have parts:c=16∨c=17∨c=20∨c=21∨c=22->BI lfp G (Runs F G) k (.ptr M.kb 0) (Ez D) (Cj D) (.ptr n 0) (.ptr (n+1) 0) (.bool true) H2 (n+1+1):=λhc=>by
  delta BI
  rw[BD,CV hx.g1 (by omega) hpl.len,AB,CV (m:=2) hx.g2 (by omega) rfl,AB]
  exact AM3 hG TA hD hpl hC hc hin (by omega) hst hs d
 by_cases h16:c=16
 ·rw[decide_eq_true h16,BD]
  exact parts (by omega)
 rw[decide_eq_false h16,BA,DR,AB]
 by_cases h17:c=17
 ·rw[decide_eq_true h17,BD]
  exact parts (by omega)
 rw[decide_eq_false h17,BA,DR,AB]
 by_cases h20:c=20
 ·rw[decide_eq_true h20,BD]
  exact parts (by omega)
 rw[decide_eq_false h20,BA,DR,AB]
 by_cases h21:c=21
 ·rw[decide_eq_true h21,BD]
  exact parts (by omega)
 rw[decide_eq_false h21,BA,DR,AB]
 by_cases h22:c=22
 ·rw[decide_eq_true h22]
  exact parts (by omega)
 rw[decide_eq_false h22]
 have hc5:5<=c/\c<=13:=by omega
 obtain⟨x,y,r',ts',w,e,hr,hps,hw,-⟩:∃x y r' ts' w,stk=y::x::r'/\TM M.fs s.hs r' ts'/\CW D.mx w ts'=some st.stk/\w.obj=false/\True:=by
  by_cases h12:c=12∨c=13
  ·cases ts0 with
   |nil=>rcases h12 with rfl|rfl<;>(have hs:(none:Option Ce)=some st:=hs;cases hs)
   |cons a ts1=>
    cases ts1 with
    |nil=>rcases h12 with rfl|rfl<;>(have hs:(none:Option Ce)=some st:=hs;cases hs)
    |cons b ts2=>
     obtain⟨y,r1,rfl,-,hr⟩:=hst.inv
     obtain⟨x,r2,rfl,-,hr⟩:=hr.inv
     refine⟨x,y,r2,ts2,FY,rfl,hr,?_,by decide,trivial⟩
     have key:∀q:Bool,(bif q then(CW C.max FY ts2).map λk=>(⟨loc,k⟩:Ce)else none)=some st->CW D.mx FY ts2=some st.stk:=λq e=>by
      cases q with
      |false=>cases e
      |true=>
       rw[hmx]at e
       have e:(CW D.mx FY ts2).map (λk=>(⟨loc,k⟩:Ce))=some st:=e
       cases hps:CW D.mx FY ts2 with
       |none=>rw[hps]at e;cases e
       |some t2=>rw[hps]at e;cases e;rfl
     rcases h12 with rfl|rfl
     ·exact key (a.is b&& !a.obj) hs
     ·exact key (a.obj&&b.obj) hs
  ·obtain⟨w,hw,he⟩:∃w,Ty.obj w=false/\dn C ⟨.ofNat c,.ofNat i⟩=some ([DV,DV],some w):=by
    have:c=5∨c=6∨c=7∨c=8∨c=9∨c=10∨c=11:=by omega
    rcases this with rfl|rfl|rfl|rfl|rfl|rfl|rfl
    ·exact⟨DV,by decide,rfl⟩
    ·exact⟨DV,by decide,rfl⟩
    ·exact⟨DV,by decide,rfl⟩
    ·exact⟨DV,by decide,rfl⟩
    ·exact⟨DV,by decide,rfl⟩
    ·exact⟨FY,by decide,rfl⟩
    ·exact⟨FY,by decide,rfl⟩
   have hs:((dn C ⟨.ofNat c,.ofNat i⟩).bind λe=>(Dh C.fs e.1 ts0).bind λk=>(qc C.max e.2 k).map λk=>(⟨loc,k⟩:Ce))=some st:=by
    have:c=5∨c=6∨c=7∨c=8∨c=9∨c=10∨c=11:=by omega
    rcases this with rfl|rfl|rfl|rfl|rfl|rfl|rfl<;>exact hs
   obtain⟨w1,w2,r,t2,q1,q2,q3,rfl⟩:=Le hs
   rw[he]at q1
   cases q1
   rw[hfs]at q2
   obtain⟨y,r1,ts1,rfl,-,-,hr,q2⟩:=hst.Dh TA.w TA.u q2
   obtain⟨x,r2,ts2,rfl,-,-,hr,q2⟩:=hr.Dh TA.w TA.u q2
   cases q2
   rw[hmx]at q3
   exact⟨x,y,r2,_,w,rfl,hr,q3,hw,trivial⟩
 subst e
 exact APo h2 hp hsb ⟨hkn,hsub,Nat.le_refl _⟩ hx hc5 (by simp only[List.length_cons]at hlen;omega) hr hps hw d
end
end Go.RL
