/- Part of a proof; nothing is assumed. -/
import Derived.Test.YtldgkimnlbkddaaGreatDoorConB
import Derived.Test.YtldgkimnlbkddaaGreatDoorConD
set_option linter.unusedVariables false
set_option linter.unusedSimpArgs false
noncomputable section
namespace Go.RL
open Go.Bf
set_option maxRecDepth 100000
def Chk(fs:Tab):Prop:=∀s c,CY fs s=some c->Ul fs s=0
theorem AYU{fls:List Fl}(h:TB fls=0):Chk (EW (Bh fls)):=λs c e=>by
 obtain⟨-,-,d⟩:=DW h
 obtain⟨f,g,rfl,rfl⟩:=nZ e
 exact ALV _ _ d f g
def AOH(fs:Tab)(l:List St):List Fld:=l.flatMap λu=>((CY fs u).getD CJ).fs
structure Cv where
 n:Int
 o:Nat
def Cv.cells(v:Cv):LV:=[.int .i64 v.n 0,.int .i64 (.ofNat v.o) 0]
abbrev Cv.v(v:Cv):V:=.agg v.cells
def PD:Cv:=⟨0,0⟩
structure Th where
 cls:St
 arr:Bool
 ty:Ty
 names:List St
 vals:List Cv
def TT(fs:Tab)(th:Th)(t:Ty):Prop:=if t.arr=true then th.arr=true/\th.ty=t else t.cls=true/\th.arr=false/\Dk fs th.cls t.nm=true
def VT(fs:Tab)(hs:List Th)(v:Cv)(t:Ty):Prop:=t.obj=true->v.o=0∨∃th,0<v.o/\hs[v.o-1]? =some th/\TT fs th t
theorem bH{fs:Tab}{hs:List Th}{t:Ty}{x:Int}:VT fs hs ⟨x,0⟩ t:=λ_=>.inl rfl
theorem AJ3{fs:Tab}{hs:List Th}{t:Ty}{v:Cv}(h:t.obj=false):VT fs hs v t:=λe=>by rw[h]at e;cases e
theorem AJS{fs:Tab}(p:Whole fs)(B:Upper fs){hs:List Th}{v:Cv}{a b:Ty}(h:fitsT fs a b=true)(q:VT fs hs v a):VT fs hs v b:=by
 intro u
 have w:=fG h u
 rcases q w with x|⟨th,k,m,d⟩
 ·exact .inl x
 rw[FP]at h
 rcases h with rfl|⟨rfl,-⟩|⟨g,f,i⟩
 ·exact .inr ⟨th,k,m,d⟩
 ·have d:TT fs th CZ:=d
  unfold TT at d
  rw[if_neg (by decide)]at d
  rw[Ot]at d
  cases d.1
 ·refine .inr ⟨th,k,m,?_⟩
  have y:=ABJ g
  have A:=ABJ f
  unfold TT at d⊢
  rw[if_neg (by rw[y];decide)]at d
  rw[if_neg (by rw[A];decide)]
  exact⟨f,d.2.1,AIE p d.2.2 i⟩
def Ext(hs hs':List Th):Prop:=∀(i:Nat) (th:Th),hs[i]? =some th->∃th',hs'[i]? =some th'/\th'.cls=th.cls/\th'.arr=th.arr/\th'.ty=th.ty/\th'.names=th.names/\th'.vals.length=th.vals.length
theorem Ext.refl(hs:List Th):Ext hs hs:=λi th h=>⟨th,h,rfl,rfl,rfl,rfl,rfl⟩
theorem VT.ext{fs:Tab}{hs hs':List Th}{v:Cv}{t:Ty}(h:VT fs hs v t)(e:Ext hs hs'):VT fs hs' v t:=λf=>by
 rcases h f with g|⟨th,i,k,m⟩
 ·exact .inl g
 ·obtain⟨d,p,q,u,w,-,-⟩:=e _ th k
  refine .inr ⟨d,i,p,?_⟩
  unfold TT at*
  rw[q,u,w];exact m
def Rz(fs:Tab)(hs:List Th)(vs:List Cv)(ts:List Ty):Prop:=vs.length=ts.length/\∀(i:Nat) (v:Cv) (t:Ty),vs[i]? =some v->ts[i]? =some t->VT fs hs v t
theorem Rz.ext{fs:Tab}{hs hs':List Th}{vs:List Cv}{d:List Ty}(h:Rz fs hs vs d)(e:Ext hs hs'):Rz fs hs' vs d:=⟨h.1,λi v t a b=>(h.2 i v t a b).ext e⟩
theorem Rz.nil{fs:Tab}{hs:List Th}:Rz fs hs [] []:=⟨rfl,λi v t h=>by cases h⟩
theorem Rz.cons{fs:Tab}{hs:List Th}{v:Cv}{t:Ty}{vs:List Cv}{d:List Ty}(h:VT fs hs v t)(f:Rz fs hs vs d):Rz fs hs (v::vs) (t::d):=
 ⟨by rw[List.length_cons,List.length_cons,f.1],λi w u a b=>by
  cases i with
  |zero=>cases a;cases b;exact h
  |succ i=>exact f.2 i w u a b⟩
theorem Rz.inv{fs:Tab}{hs:List Th}{vs:List Cv}{t:Ty}{d:List Ty}(h:Rz fs hs vs (t::d)):∃v r,vs=v::r/\VT fs hs v t/\Rz fs hs r d:=by
 cases vs with
 |nil=>have:=h.1;cases this
 |cons v r=>
  refine⟨v,r,rfl,h.2 0 v t rfl rfl,?_,λi w u a b=>h.2 (i+1) w u a b⟩
  have:=h.1
  simpa using this
theorem Rz.le{fs:Tab}(d:Whole fs)(f:Upper fs){hs:List Th}:∀{vs:List Cv} {a b:List Ty},Rz fs hs vs a->iR (zT fs) a b->Rz fs hs vs b
 |vs,[],_,h,.nil=>h
 |vs,a::l,b::m,h,.cons e t=>by
  obtain⟨v,r,rfl,g,i⟩:=h.inv
  exact .cons (AJS d f e g) (i.le d f t)
theorem Rz.leL{fs:Tab}(d:Whole fs)(f:Upper fs){hs:List Th}:∀{vs:List Cv} {a b:List Ty},Rz fs hs vs a->iR (xQ fs) a b->Rz fs hs vs b
 |vs,[],_,h,.nil=>h
 |vs,a::l,b::m,h,.cons e t=>by
  obtain⟨v,r,rfl,g,i⟩:=h.inv
  refine .cons ?_ (i.leL d f t)
  rcases e with rfl|e
  ·exact AJ3 ANm
  ·exact AJS d f e g
theorem Rz.get{fs:Tab}{hs:List Th}{vs:List Cv}{f:List Ty}(h:Rz fs hs vs f){i:Nat}(hi:i<f.length):∃v,vs[i]? =some v/\VT fs hs v f[i]:=by
 have d:i<vs.length:=by rw[h.1];exact hi
 exact⟨vs[i],List.getElem?_eq_getElem d,h.2 i _ _ (List.getElem?_eq_getElem d) (List.getElem?_eq_getElem hi)⟩
theorem Rz.set{fs:Tab}{hs:List Th}{vs:List Cv}{d:List Ty}(h:Rz fs hs vs d){i:Nat}{v:Cv}{t:Ty}(g:VT fs hs v t):Rz fs hs (vs.set i v) (d.set i t):=by
 refine⟨by rw[List.length_set,List.length_set,h.1],λj w u a b=>?_⟩
 have k:=h.1
 rw[List.getElem?_set]at a b
 by_cases e:i=j
 ·rw[if_pos e]at a b
  by_cases f:i<vs.length
  ·rw[if_pos f]at a
   rw[if_pos (by omega)]at b
   cases a;cases b;exact g
  ·rw[if_neg f]at a;cases a
 ·rw[if_neg e]at a b
  exact h.2 j w u a b
structure Fr where
 fl:Fl
 bd:Bd
 pc:Nat
 loc:List Cv
 stk:List Cv
structure Vs where
 steps:Int
 parts:Int
 deep:Int
 out:List Int
 trap:Nat
 Ur:List Fr
 hp:List Th
def Vs.stop(s:Vs)(t:Nat):Vs:={s with trap:=t}
def i64(o:B2)(a b:Int):Int:=match B2.ev o (.int .i64 a 0) (.int .i64 b 0)with|some (.int _ x _)=>x|_=>0
def XL(b:Bool):Cv:=bif b then⟨1,0⟩else PD
def Fr.push(f:Fr)(c:Cv):Option Fr:=bif decide (((f.stk.length+1:Nat):Int)<=f.bd.stack)then some {f with stk:=c::f.stk}else none
def Fr.pop(f:Fr)(n:Nat):Option (List Cv×Fr):=bif decide (n<=f.stk.length)then some ((f.stk.take n).reverse,{f with stk:=f.stk.drop n})else none
def Vs.top(s:Vs)(r:List Fr)(f:Fr):Vs:={s with Ur:=f::r}
structure Ev where
 fs:Tab
 fl:St->Option Fl
def AGp(f:Fl)(s:St):Option Bd:=(ZN s f.face.ms 0).bind λi=>f.bodies[i]?
def JZ(E:Ev)(p:PM)(args:List Cv)(s:Vs):Option Vs:=
 (Qv E.fs p).bind λown=>(E.fl own).bind λfl=>(AGp fl p.m.nm).bind λb=>
  bif decide (b.locals<(args.length:Int))then none else
  bif decide (s.deep<=(s.Ur.length:Int))then some (s.stop 7)else
   some {s with Ur:=⟨fl,b,0,args++List.replicate (b.locals.toNat-args.length) PD,[]⟩::s.Ur}
def XC(s:Vs)(r:List Fr)(f:Fr)(n:Int)(th:List Cv->Th):Option Vs:=
 bif decide (n<0)then some ((s.top r f).stop 2)else
 bif decide (s.parts<=n)then some ((s.top r f).stop 6)else
  (f.push ⟨0,s.hp.length+1⟩).map λf=>{s.top r f with parts:=s.parts-(n+1),hp:=s.hp++[th (List.replicate n.toNat PD)]}
def Cv.th(v:Cv)(s:Vs):Option Th:=bif decide (v.o=0)then none else s.hp[v.o-1]?
def Vs.up(s:Vs)(x y z:Nat):Vs:={s with steps:=s.steps+x,parts:=s.parts+y,deep:=s.deep+z}
def AEw(t:Nat):Bool:=decide (t=5)||(decide (t=6)||decide (t=7))
def ACn(x y z:Nat)(o:List Int)(a b:Option Vs):Prop:=match a with
 |none=>True
 |some s=>(AEw s.trap=true/\s.out=o)∨b=some (s.up x y z)
section
variable{x y z:Nat}
theorem ALQ{E:Ev}{p:PM}{args:List Cv}{s:Vs}:ACn x y z s.out (JZ E p args s) (JZ E p args (s.up x y z)):=by
 unfold JZ
 cases Qv E.fs p with
 |none=>trivial
 |some own=>
  simp only[Option.bind_some]
  cases E.fl own with
  |none=>trivial
  |some fl=>
   simp only[Option.bind_some]
   cases AGp fl p.m.nm with
   |none=>trivial
   |some b=>
    simp only[Option.bind_some]
    cases f:decide (b.locals<(args.length:Int))with
    |true=>trivial
    |false=>
     simp only[cond_false]
     cases d:decide (s.deep<=(s.Ur.length:Int))with
     |true=>exact .inl ⟨rfl,rfl⟩
     |false=>
      have d:=of_decide_eq_false d
      rw[show decide ((s.up x y z).deep<=((s.up x y z).Ur.length:Int))=false from decide_eq_false (by show ¬(s.deep+z<=(s.Ur.length:Int));omega)]
      exact .inr rfl
theorem ARU{s:Vs}{r:List Fr}{f:Fr}{n:Int}{th:List Cv->Th}:ACn x y z s.out (XC s r f n th) (XC (s.up x y z) r f n th):=by
 unfold XC
 cases i:decide (n<0)with
 |true=>exact .inr rfl
 |false=>
  simp only[cond_false]
  cases d:decide (s.parts<=n)with
  |true=>exact .inl ⟨rfl,rfl⟩
  |false=>
   have d:=of_decide_eq_false d
   rw[show decide ((s.up x y z).parts<=n)=false from decide_eq_false (by show ¬(s.parts+y<=n);omega)]
   simp only[cond_false]
   show ACn x y z s.out ((f.push ⟨0,s.hp.length+1⟩).map _) ((f.push ⟨0,s.hp.length+1⟩).map _)
   cases f.push ⟨0,s.hp.length+1⟩with
   |none=>trivial
   |some g=>
    refine .inr ?_
    show some (Vs.mk _ _ _ _ _ _ _)=some (Vs.mk _ _ _ _ _ _ _)
    congr 2
    show s.parts+y-(n+1)=s.parts-(n+1)+y
    omega
end
def hd0(l:List Cv):Cv:=l.getD 0 PD
def ADG(c:Int)(w:List Cv)(s:Vs)(r:List Fr)(f:Fr):Option Vs:=match c with
 |5=>(f.push ⟨i64 .add (hd0 w).n (w.getD 1 PD).n,0⟩).map (s.top r)
 |6=>(f.push ⟨i64 .sub (hd0 w).n (w.getD 1 PD).n,0⟩).map (s.top r)
 |7=>(f.push ⟨i64 .mul (hd0 w).n (w.getD 1 PD).n,0⟩).map (s.top r)
 |10=>(f.push (XL (decide ((hd0 w).n<(w.getD 1 PD).n)))).map (s.top r)
 |11=>(f.push (XL (decide ((hd0 w).n<=(w.getD 1 PD).n)))).map (s.top r)
 |12=>(f.push (XL (decide ((hd0 w).n=(w.getD 1 PD).n)&&decide ((hd0 w).o=(w.getD 1 PD).o)))).map (s.top r)
 |13=>(f.push (XL (decide ((hd0 w).n=(w.getD 1 PD).n)&&decide ((hd0 w).o=(w.getD 1 PD).o)))).map (s.top r)
 |8=>bif decide ((w.getD 1 PD).n=0)then some ((s.top r f).stop 3)else(f.push ⟨i64 .quo (hd0 w).n (w.getD 1 PD).n,0⟩).map (s.top r)
 |_=>bif decide ((w.getD 1 PD).n=0)then some ((s.top r f).stop 3)else(f.push ⟨i64 .rem (hd0 w).n (w.getD 1 PD).n,0⟩).map (s.top r)
def LJ(at':Int)(put:Option Cv)(o:Cv)(s:Vs)(r:List Fr)(f:Fr):Option Vs:=match o.th s with
 |none=>some ((s.top r f).stop 1)
 |some th=>bif decide (0<=at')&&decide (at'<(th.vals.length:Int))then
  (match put with
  |some c=>some {s.top r f with hp:=s.hp.set (o.o-1) {th with vals:=th.vals.set at'.toNat c}}
  |none=>(f.push (th.vals.getD at'.toNat PD)).map (s.top r))else some ((s.top r f).stop 2)
def Fr.me(f:Fr)(i:Int):PM:=f.fl.pool.Bg.getD i.toNat mZ
def Fr.nm(f:Fr)(i:Int):St:=f.fl.pool.names.getD i.toNat (0,0)
def Fr.slot(E:Ev)(f:Fr)(i:Int):Int:=AKC E.fs (f.fl.pool.fields.getD i.toNat fZ).own (f.fl.pool.fields.getD i.toNat fZ).f.nm
def Jd(E:Ev)(x:Ins)(s:Vs)(r:List Fr)(f:Fr):Option Vs:=match x.code with
 |1=>(f.push ⟨f.fl.pool.nums.getD x.arg.toNat 0,0⟩).map (s.top r)
 |32=>(f.push ⟨x.arg,0⟩).map (s.top r)
 |2=>(f.push PD).map (s.top r)
 |3=>(f.push (f.loc.getD x.arg.toNat PD)).map (s.top r)
 |4=>(f.pop 1).map λp=>s.top r {p.2 with loc:=p.2.loc.set x.arg.toNat (hd0 p.1)}
 |27=>some (s.top r {f with pc:=x.arg.toNat})
 |28=>(f.pop 1).map λp=>s.top r (bif decide ((hd0 p.1).n=0)then{p.2 with pc:=x.arg.toNat}else p.2)
 |30=>(f.pop 1).map λp=>{s.top r p.2 with out:=s.out++[(hd0 p.1).n]}
 |31=>(f.pop 1).map λp=>s.top r p.2
 |14=>(f.pop 1).bind λp=>(p.2.push ⟨i64 .sub 0 (hd0 p.1).n,0⟩).map (s.top r)
 |15=>(f.pop 1).bind λp=>(p.2.push (XL (decide ((hd0 p.1).n=0)))).map (s.top r)
 |18=>XC s r f (sizeT E.fs (f.nm x.arg):Nat) λvs=>⟨f.nm x.arg,false,BU,[],vs⟩
 |19=>(f.pop 1).bind λp=>XC s r p.2 (hd0 p.1).n λvs=>⟨(0,0),true,f.fl.pool.types.getD x.arg.toNat BU,[],vs⟩
 |23=>(f.pop 1).bind λp=>match(hd0 p.1).th s with
  |none=>(p.2.push (hd0 p.1)).map (s.top r)
  |some th=>bif Dk E.fs th.cls (f.nm x.arg)then(p.2.push (hd0 p.1)).map (s.top r)else some ((s.top r p.2).stop 4)
 |24=>(f.pop 1).bind λp=>match(hd0 p.1).th s with
  |none=>(p.2.push (XL false)).map (s.top r)
  |some th=>(p.2.push (XL (Dk E.fs th.cls (f.nm x.arg)))).map (s.top r)
 |25=>(f.pop ((f.me x.arg).m.ps.length+1)).bind λp=>match(hd0 p.1).th s with
  |none=>some ((s.top r p.2).stop 1)
  |some th=>JZ E ⟨(f.me x.arg).m,th.cls⟩ p.1 (s.top r p.2)
 |26=>(f.pop (f.me x.arg).m.ps.length).bind λp=>JZ E (f.me x.arg) p.1 (s.top r p.2)
 |22=>(f.pop 1).bind λp=>match(hd0 p.1).th s with
  |none=>some ((s.top r p.2).stop 1)
  |some th=>(p.2.push ⟨(th.vals.length:Nat),0⟩).map (s.top r)
 |16=>(f.pop 1).bind λp=>LJ (f.slot E x.arg) none (hd0 p.1) s r p.2
 |17=>(f.pop 2).bind λp=>LJ (f.slot E x.arg) (some (p.1.getD 1 PD)) (hd0 p.1) s r p.2
 |20=>(f.pop 2).bind λp=>LJ (p.1.getD 1 PD).n none (hd0 p.1) s r p.2
 |21=>(f.pop 3).bind λp=>LJ (p.1.getD 1 PD).n (some (p.1.getD 2 PD)) (hd0 p.1) s r p.2
 |c=>(f.pop 2).bind λp=>ADG c p.1 s r p.2
section
variable{x y z:Nat}{α:Type}
theorem UZ{u:List Int}{o:Option α}{g h:α->Vs}(e:∀a,h a=(g a).up x y z):ACn x y z u (o.map g) (o.map h):=by
 cases o with
 |none=>trivial
 |some a=>exact .inr (congrArg some (e a))
theorem S9{u:List Int}{o:Option α}{g h:α->Option Vs}(e:∀a,ACn x y z u (g a) (h a)):ACn x y z u (o.bind g) (o.bind h):=by
 cases o with
 |none=>trivial
 |some a=>exact e a
theorem AdS{c:Int}{w:List Cv}{s:Vs}{r:List Fr}{f:Fr}:ACn x y z s.out (ADG c w s r f) (ADG c w (s.up x y z) r f):=by
 unfold ADG
 split<;>first
  |exact UZ λ_=>rfl
  |(cases decide ((w.getD 1 PD).n=0)with
   |true=>exact .inr rfl
   |false=>exact UZ λ_=>rfl)
theorem AZV{a:Int}{p:Option Cv}{o:Cv}{s:Vs}{r:List Fr}{f:Fr}:ACn x y z s.out (LJ a p o s r f) (LJ a p o (s.up x y z) r f):=by
 unfold LJ
 show ACn x y z s.out (match o.th s with|none=>_|some th=>_) (match o.th s with|none=>_|some th=>_)
 cases o.th s with
 |none=>exact .inr rfl
 |some th=>
  simp only
  cases decide (0<=a)&&decide (a<(th.vals.length:Int))with
  |false=>exact .inr rfl
  |true=>
   cases p with
   |some c=>exact .inr rfl
   |none=>exact UZ λ_=>rfl
end
section
variable{x y z:Nat}{E:Ev}
theorem AUu(v:Cv)(s:Vs):v.th (s.up x y z)=v.th s:=rfl
theorem step_up{i:Ins}{s:Vs}{r:List Fr}{f:Fr}:ACn x y z s.out (Jd E i s r f) (Jd E i (s.up x y z) r f):=by
 unfold Jd
 split<;>first
  |exact UZ λ_=>rfl
  |exact .inr rfl
  |exact ARU
  |exact S9 λ_=>UZ λ_=>rfl
  |exact S9 λ_=>ARU
  |exact S9 λ_=>AZV
  |exact S9 λ_=>AdS
  |exact S9 λp=>ALQ (s:=s.top r p.2)
  |skip
 ·refine S9 λp=>?_
  rw[AUu]
  cases(hd0 p.1).th s with
  |none=>exact UZ λ_=>rfl
  |some th=>
   simp only
   cases Dk E.fs th.cls (f.nm i.arg)with
   |true=>exact UZ λ_=>rfl
   |false=>exact .inr rfl
 ·refine S9 λp=>?_
  rw[AUu]
  cases(hd0 p.1).th s with
  |none=>exact UZ λ_=>rfl
  |some th=>exact UZ λ_=>rfl
 ·refine S9 λp=>?_
  rw[AUu]
  cases(hd0 p.1).th s with
  |none=>exact .inr rfl
  |some th=>exact ALQ (s:=s.top r p.2)
 ·refine S9 λp=>?_
  rw[AUu]
  cases(hd0 p.1).th s with
  |none=>exact .inr rfl
  |some th=>exact UZ λ_=>rfl
end
def Vs.tick(s:Vs)(fs:List Fr):Vs:={s with steps:=s.steps-1,Ur:=fs}
def lT(E:Ev):Nat->Vs->Cv->Option (Vs×Cv)
 |0,_,_=>none
 |g+1,s,l=>match s.Ur with
  |[]=>some (s,l)
  |f::r=>bif decide (s.trap=0)then
   bif decide (s.steps-1<0)then some ((s.tick s.Ur).stop 5,l)else
    (f.bd.code[f.pc]?).bind λi=>bif decide (i.code=29)then
     (({f with pc:=f.pc+1}:Fr).pop 1).bind λp=>match r with
      |[]=>lT E g (s.tick []) (hd0 p.1)
      |q::r=>(q.push (hd0 p.1)).bind λq=>lT E g (s.tick (q::r)) (hd0 p.1)
    else(Jd E i (s.tick s.Ur) r {f with pc:=f.pc+1}).bind λs=>lT E g s l
   else some (s,l)
def zi(a:List Int):Option Vs->Prop
 |none=>True
 |some s=>a<+:s.out
section
variable{E:Ev}{α:Type}{a:List Int}
theorem UY{o:Option α}{g:α->Vs}(e:∀x,a<+:(g x).out):zi a (o.map g):=by
 cases o with
 |none=>trivial
 |some x=>exact e x
theorem Sl{o:Option α}{g:α->Option Vs}(e:∀x,zi a (g x)):zi a (o.bind g):=by
 cases o with
 |none=>trivial
 |some x=>exact e x
theorem qX{b:Bool}{p q:Option Vs}(hp:zi a p)(d:zi a q):zi a (bif b then p else q):=by cases b;exact d;exact hp
theorem AJ9{p:PM}{args:List Cv}{s:Vs}:zi s.out (JZ E p args s):=
 Sl λ_=>Sl λ_=>Sl λ_=>qX trivial (qX (List.prefix_refl _) (List.prefix_refl _))
theorem ALb{s:Vs}{r:List Fr}{f:Fr}{n:Int}{th:List Cv->Th}:zi s.out (XC s r f n th):=
 qX (List.prefix_refl _) (qX (List.prefix_refl _) (UY λ_=>List.prefix_refl _))
theorem AXx{c:Int}{w:List Cv}{s:Vs}{r:List Fr}{f:Fr}:zi s.out (ADG c w s r f):=by
 unfold ADG
 split<;>first
  |exact UY λ_=>List.prefix_refl _
  |exact qX (List.prefix_refl _) (UY λ_=>List.prefix_refl _)
theorem AVa{i:Int}{p:Option Cv}{o:Cv}{s:Vs}{r:List Fr}{f:Fr}:zi s.out (LJ i p o s r f):=by
 unfold LJ
 cases o.th s with
 |none=>exact List.prefix_refl _
 |some th=>
  refine qX ?_ (List.prefix_refl _)
  cases p with
  |some c=>exact List.prefix_refl _
  |none=>exact UY λ_=>List.prefix_refl _
theorem AU8{i:Ins}{s:Vs}{r:List Fr}{f:Fr}:zi s.out (Jd E i s r f):=by
 unfold Jd
 split<;>first
  |exact UY λ_=>List.prefix_refl _
  |exact UY λ_=>List.prefix_append _ _
  |exact List.prefix_refl _
  |exact ALb
  |exact Sl λ_=>UY λ_=>List.prefix_refl _
  |exact Sl λ_=>ALb
  |exact Sl λ_=>AVa
  |exact Sl λ_=>AXx
  |exact Sl λp=>AJ9 (s:=s.top r p.2)
  |skip
 all_goals
  refine Sl λp=>?_
  cases(hd0 p.1).th s with
  |none=>first|exact List.prefix_refl _|exact UY λ_=>List.prefix_refl _
  |some th=>first|exact UY λ_=>List.prefix_refl _|exact AJ9 (s:=s.top r p.2)|exact qX (UY λ_=>List.prefix_refl _) (List.prefix_refl _)
end
def Wb(n:Nat)(l:List Cv):Prop:=∀v∈l,v.o<=n
structure Gd(s:Vs):Prop where
 fr:∀f∈s.Ur,Wb s.hp.length f.loc/\Wb s.hp.length f.stk
 hp:∀th∈s.hp,Wb s.hp.length th.vals
theorem Wb.mono{n m:Nat}{l:List Cv}(h:Wb n l)(d:n<=m):Wb m l:=λv f=>Nat.le_trans (h v f) d
theorem Wb.cons{n:Nat}{v:Cv}{l:List Cv}(h:v.o<=n)(f:Wb n l):Wb n (v::l):=λw d=>by
 rcases List.mem_cons.1 d with rfl|d
 ·exact h
 ·exact f w d
theorem Wb.app{n:Nat}{k l:List Cv}(h:Wb n k)(d:Wb n l):Wb n (k++l):=λw f=>(List.mem_append.1 f).elim (h w) (d w)
theorem Wb.zero{n k:Nat}:Wb n (List.replicate k PD):=λv d=>by rw[List.eq_of_mem_replicate d];exact Nat.zero_le _
theorem Wb.set{n i:Nat}{v:Cv}{l:List Cv}(h:Wb n l)(f:v.o<=n):Wb n (l.set i v):=λw d=>by
 rcases List.mem_or_eq_of_mem_set d with d|rfl
 ·exact h w d
 ·exact f
theorem Wb.get{n i:Nat}{l:List Cv}(h:Wb n l):(l.getD i PD).o<=n:=by
 rw[List.getD_eq_getElem?_getD]
 cases d:l[i]? with
 |none=>exact Nat.zero_le _
 |some v=>exact h v (List.mem_of_getElem? d)
theorem Gd.top{s:Vs}{r:List Fr}{f g:Fr}(h:Gd (s.top r f))(i:Wb s.hp.length g.loc)(k:Wb s.hp.length g.stk):Gd (s.top r g):=
 ⟨λx d=>by
  rcases List.mem_cons.1 d with rfl|d
  ·exact⟨i,k⟩
  ·exact h.fr x (List.mem_cons_of_mem _ d),h.hp⟩
theorem AEf{n k:Nat}{f:Fr}{p:List Cv×Fr}(h:f.pop k=some p)(hs:Wb n f.stk):Wb n p.1/\Wb n p.2.stk/\p.2.loc=f.loc:=by
 unfold Fr.pop at h
 cases hd:decide (k<=f.stk.length)with
 |false=>rw[hd]at h;cases h
 |true=>
  rw[hd]at h;cases h
  exact⟨λv d=>hs v (List.mem_of_mem_take (List.mem_reverse.1 d)),λv d=>hs v (List.mem_of_mem_drop d),rfl⟩
theorem ANl{n:Nat}{f g:Fr}{v:Cv}(h:f.push v=some g)(hs:Wb n f.stk)(d:v.o<=n):Wb n g.stk/\g.loc=f.loc:=by
 unfold Fr.push at h
 cases hd:decide (((f.stk.length+1:Nat):Int)<=f.bd.stack)with
 |false=>rw[hd]at h;cases h
 |true=>rw[hd]at h;cases h;exact⟨.cons d hs,rfl⟩
def GdO:Option Vs->Prop
 |none=>True
 |some s=>Gd s
section
variable{E:Ev}{s:Vs}{r:List Fr}{f:Fr}
theorem SY{v:Cv}(h:Gd (s.top r f))(d:v.o<=s.hp.length):GdO ((f.push v).map (s.top r)):=by
 obtain⟨i,k⟩:=h.fr f (List.mem_cons_self ..)
 cases m:f.push v with
 |none=>trivial
 |some g=>
  obtain⟨q1,q2⟩:=ANl m k d
  exact h.top (by rw[q2];exact i) q1
theorem Zd{k:Nat}{g:List Cv×Fr->Option Vs}(h:Gd (s.top r f))(d:∀p,Gd (s.top r p.2)->Wb s.hp.length p.1->GdO (g p)):GdO ((f.pop k).bind g):=by
 obtain⟨i,m⟩:=h.fr f (List.mem_cons_self ..)
 cases q:f.pop k with
 |none=>trivial
 |some p=>
  obtain⟨q1,q2,q3⟩:=AEf q m
  exact d p (h.top (by rw[q3];exact i) q2) q1
theorem ANj{k:Nat}{g:List Cv×Fr->Vs}(h:Gd (s.top r f))(d:∀p,Gd (s.top r p.2)->Wb s.hp.length p.1->Gd (g p)):GdO ((f.pop k).map g):=by
 have:=Zd (k:=k) (g:=λp=>some (g p)) h d
 cases i:f.pop k with
 |none=>trivial
 |some p=>rw[i]at this;exact this
theorem YR{t:Nat}{s:Vs}(h:Gd s):Gd (s.stop t):=⟨h.fr,h.hp⟩
theorem AKQ{p:PM}{args:List Cv}(h:Gd s)(f:Wb s.hp.length args):GdO (JZ E p args s):=by
 unfold JZ
 cases Qv E.fs p with
 |none=>trivial
 |some own=>
  simp only[Option.bind_some]
  cases E.fl own with
  |none=>trivial
  |some fl=>
   simp only[Option.bind_some]
   cases AGp fl p.m.nm with
   |none=>trivial
   |some b=>
    simp only[Option.bind_some]
    cases decide (b.locals<(args.length:Int))with
    |true=>trivial
    |false=>
     simp only[cond_false]
     cases decide (s.deep<=(s.Ur.length:Int))with
     |true=>exact YR h
     |false=>
      refine⟨λx d=>?_,h.hp⟩
      rcases List.mem_cons.1 d with rfl|d
      ·exact⟨f.app .zero,λv g=>by cases g⟩
      ·exact h.fr x d
theorem AQx{n:Int}{th:List Cv->Th}(h:Gd (s.top r f))(i:∀k,(th k).vals=k):GdO (XC s r f n th):=by
 unfold XC
 cases decide (n<0)with
 |true=>exact YR h
 |false=>
  simp only[cond_false]
  cases decide (s.parts<=n)with
  |true=>exact YR h
  |false=>
   simp only[cond_false]
   obtain⟨m,p⟩:=h.fr f (List.mem_cons_self ..)
   cases q:f.push ⟨0,s.hp.length+1⟩with
   |none=>trivial
   |some g=>
    obtain⟨q1,q2⟩:=ANl (n:=s.hp.length+1) q (p.mono (Nat.le_succ _)) (Nat.le_refl _)
    have e:(s.hp++[th (List.replicate n.toNat PD)]).length=s.hp.length+1:=by simp
    refine⟨λx d=>?_,λx d=>?_⟩
    ·show Wb (s.hp++[_]).length _/\Wb (s.hp++[_]).length _
     rw[e]
     rcases List.mem_cons.1 d with rfl|d
     ·exact⟨by rw[q2];exact m.mono (Nat.le_succ _),q1⟩
     ·obtain⟨u,v⟩:=h.fr x (List.mem_cons_of_mem _ d)
      exact⟨u.mono (Nat.le_succ _),v.mono (Nat.le_succ _)⟩
    ·show Wb (s.hp++[_]).length _
     rw[e]
     rcases List.mem_append.1 d with d|d
     ·exact(h.hp x d).mono (Nat.le_succ _)
     ·rw[List.mem_singleton.1 d,i];exact .zero
theorem ATo{a:Int}{p:Option Cv}{o:Cv}(h:Gd (s.top r f))(hp:∀c,p=some c->c.o<=s.hp.length):GdO (LJ a p o s r f):=by
 unfold LJ
 cases d:o.th s with
 |none=>exact YR h
 |some th=>
  have i:th∈s.hp:=by
   unfold Cv.th at d
   cases k:decide (o.o=0)with
   |true=>rw[k]at d;cases d
   |false=>rw[k]at d;exact List.mem_of_getElem? d
  simp only
  cases decide (0<=a)&&decide (a<(th.vals.length:Int))with
  |false=>exact YR h
  |true=>
   cases p with
   |none=>exact SY h (h.hp th i).get
   |some c=>
    have m:=hp c rfl
    refine⟨λx g=>?_,λx g=>?_⟩
    ·show Wb (s.hp.set _ _).length _/\Wb (s.hp.set _ _).length _
     rw[List.length_set]
     exact h.fr x g
    ·show Wb (s.hp.set _ _).length _
     rw[List.length_set]
     rcases List.mem_or_eq_of_mem_set g with g|rfl
     ·exact h.hp x g
     ·exact(h.hp th i).set m
theorem ANi(b:Bool):(XL b).o=0:=by cases b<;>rfl
theorem AdF{c:Int}{w:List Cv}(h:Gd (s.top r f)):GdO (ADG c w s r f):=by
 unfold ADG
 split<;>first
  |exact SY h (Nat.zero_le _)
  |(cases decide ((w.getD 1 PD).n=0)with
   |true=>exact YR h
   |false=>exact SY h (Nat.zero_le _))
  |exact SY h (by rw[ANi];exact Nat.zero_le _)
theorem AZs{x:Ins}(h:Gd (s.top r f)):GdO (Jd E x s r f):=by
 obtain⟨i,k⟩:=h.fr f (List.mem_cons_self ..)
 unfold Jd
 split<;>first
  |exact SY h (Nat.zero_le _)
  |exact SY h i.get
  |exact AQx h λ_=>rfl
  |exact Zd h λp d g=>SY d (Nat.zero_le _)
  |exact Zd h λp d g=>SY d (by rw[ANi];exact Nat.zero_le _)
  |exact Zd h λp d g=>AQx d λ_=>rfl
  |exact Zd h λp d g=>ATo d λ_ e=>Option.noConfusion rfl (heq_of_eq e)
  |exact Zd h λp d g=>ATo d λc e=>(by cases e;exact g.get)
  |exact Zd h λp d g=>AdF d
  |exact Zd h λp d g=>AKQ d g
  |exact ANj h λp d g=>d
  |exact⟨h.fr,h.hp⟩
  |skip
 ·exact ANj h λp d g=>d.top ((d.fr p.2 (List.mem_cons_self ..)).1.set g.get) (d.fr p.2 (List.mem_cons_self ..)).2
 ·exact h.top i k
 ·refine ANj h λp d g=>?_
  cases decide ((hd0 p.1).n=0)with
  |true=>exact d.top (d.fr p.2 (List.mem_cons_self ..)).1 (d.fr p.2 (List.mem_cons_self ..)).2
  |false=>exact d
 ·exact ANj h λp d g=>⟨d.fr,d.hp⟩
 ·refine Zd h λp d g=>?_
  cases(hd0 p.1).th s with
  |none=>exact SY d g.get
  |some th=>
   simp only
   cases Dk E.fs th.cls (f.nm x.arg)with
   |true=>exact SY d g.get
   |false=>exact YR d
 ·refine Zd h λp d g=>?_
  cases(hd0 p.1).th s with
  |none=>exact SY d (by rw[ANi];exact Nat.zero_le _)
  |some th=>exact SY d (by rw[ANi];exact Nat.zero_le _)
 ·refine Zd h λp d g=>?_
  cases(hd0 p.1).th s with
  |none=>exact YR d
  |some th=>exact AKQ d g
 ·refine Zd h λp d g=>?_
  cases(hd0 p.1).th s with
  |none=>exact YR d
  |some th=>exact SY d (Nat.zero_le _)
end
theorem Rz.Dv{fs:Tab}(k:Whole fs)(m:Upper fs){hs:List Th}{vs:List Cv}{w:Ty}{ws f r:List Ty}(h:Rz fs hs vs f)(e:Dv fs (w::ws) f=some r):∃v d g,vs=v::d/\f.length=g.length+1/\VT fs hs v w/\Rz fs hs d g/\Go.RL.Dv fs ws g=some r:=by
 cases f with
 |nil=>cases e
 |cons t f=>
  have e:(bif fitsT fs t w then Go.RL.Dv fs ws f else none)=some r:=e
  cases i:fitsT fs t w with
  |false=>rw[i]at e;cases e
  |true=>
   rw[i]at e
   obtain⟨v,d,rfl,p,q⟩:=h.inv
   exact⟨v,d,f,rfl,rfl,AJS k m i p,q,e⟩
theorem AHV{mx:Int}{t:Ty}{r d:List Ty}(h:Cc mx t r=some d):d=t::r/\((r.length+1:Nat):Int)<=mx:=by
 unfold Cc at h
 cases hd:decide (((r.length+1:Nat):Int)<=mx)with
 |false=>rw[hd]at h;cases h
 |true=>rw[hd]at h;cases h;exact⟨rfl,of_decide_eq_true hd⟩
theorem AUO{c:Cx}{l:List Ty}{st:CP}{d:List Ty}{o:Option (List Ty×Option Ty)}(h:(o.bind λe=>(Dv c.fs e.1 d).bind λk=>(aZ c.max e.2 k).map λk=>(⟨l,k⟩:CP))=some st):
 ∃ws w r f,o=some (ws,w)/\Dv c.fs ws d=some r/\aZ c.max w r=some f/\st=⟨l,f⟩:=by
 cases o with
 |none=>cases h
 |some e=>
  obtain⟨ws,w⟩:=e
  have h:((Dv c.fs ws d).bind λk=>(aZ c.max w k).map λk=>(⟨l,k⟩:CP))=some st:=h
  cases g:Dv c.fs ws d with
  |none=>rw[g]at h;cases h
  |some r=>
   rw[g]at h
   have h:((aZ c.max w r).map λk=>(⟨l,k⟩:CP))=some st:=h
   cases i:aZ c.max w r with
   |none=>rw[i]at h;cases h
   |some f=>rw[i]at h;cases h;exact⟨ws,w,r,f,rfl,g,i,rfl⟩
structure Tabs(fs:Tab):Prop where
 w:Whole fs
 u:Upper fs
 c:Chk fs
 len:fs.length<=1000
 fl:∀s c,CY fs s=some c->c.fs.length<=200
theorem ALW{fs:Tab}{f:PF}(h:rU fs f=true):∃r,dn fs f.own f.f.nm=some r/\r.2=f.f.ty/\∃c,CY fs f.own=some c:=by
 unfold rU at h
 cases d:dn fs f.own f.f.nm with
 |none=>rw[d]at h;cases h
 |some r=>
  rw[d]at h
  refine⟨r,rfl,Ty.Jr.1 h,?_⟩
  cases g:CY fs f.own with
  |some c=>exact⟨c,rfl⟩
  |none=>
   exfalso
   unfold dn above G7 at d
   rw[g]at d
   simp only at d
   cases hd:decide (f.own.fst=0/\f.own.snd=0)<;>rw[hd]at d<;>cases d
theorem AJI{fs:Tab}(d:Tabs fs){s:St}{c:Fc}(h:CY fs s=some c):(⟨s,false⟩:Ty).cls=true:=d.u s c h
theorem AMh{fs:Tab}{t:Ty}(f:t.cls=true){hs:List Th}{v:Cv}(g:VT fs hs v t)(i:v.o≠0):∃j th,v.o=j+1/\hs[j]? =some th/\th.arr=false/\t.nm∈(above fs th.cls).1:=by
 rcases g (by unfold Ty.obj;rw[f];simp)with h|⟨th,m,k,d⟩
 ·exact absurd h i
 ·unfold TT at d
  rw[if_neg (by rw[ABJ f];decide)]at d
  refine⟨v.o-1,th,by omega,k,d.2.1,?_⟩
  have:=d.2.2
  unfold Dk at this
  rwa [ND]at this
theorem ALD{fs:Tab}{hs:List Th}{v:Cv}(f:VT fs hs v CZ):v.o=0:=by
 rcases f (by decide)with h|⟨th,g,i,d⟩
 ·exact h
 ·unfold TT at d
  rw[if_neg (by decide),Ot]at d
  cases d.1
theorem APs:∀{l r:List Ty},oW l r=true->l=r
 |[],[],_=>rfl
 |[],_::_,h=>by cases h
 |_::_,[],h=>by cases h
 |a::l,b::r,h=>by
  have h:(a.is b&&oW l r)=true:=h
  rw[Bool.and_eq_true]at h
  rw[Ty.Jr.1 h.1,APs h.2]
theorem AS4{a b:Cb}(h:a.same b=true):a.st=b.st/\a.ret=b.ret/\a.ps=b.ps:=by
 unfold Cb.same at h
 simp only[Bool.and_eq_true,beq_iff_eq]at h
 exact⟨h.2.1,Ty.Jr.1 h.2.2.1,APs h.2.2.2⟩
theorem Rz.rev{fs:Tab}{hs:List Th}{vs:List Cv}{f:List Ty}(h:Rz fs hs vs f):Rz fs hs vs.reverse f.reverse:=by
 refine⟨by rw[List.length_reverse,List.length_reverse,h.1],λi v t a b=>?_⟩
 have d:=(List.getElem?_eq_some_iff.1 a).1
 rw[List.length_reverse]at d
 rw[List.getElem?_reverse d]at a
 rw[List.getElem?_reverse (by rw[<-h.1];exact d)]at b
 rw[<-h.1]at b
 exact h.2 _ v t a b
theorem Rz.split{fs:Tab}(f:Whole fs)(g:Upper fs){hs:List Th}:∀{ws:List Ty} {vs:List Cv} {d r:List Ty},Rz fs hs vs d->Go.RL.Dv fs ws d=some r->∃a b,vs=a++b/\Rz fs hs a ws/\Rz fs hs b r
 |[],vs,d,r,h,e=>by cases e;exact⟨[],vs,rfl,.nil,h⟩
 |w::ws,vs,d,r,h,e=>by
  obtain⟨v,i,k,rfl,-,m,p,e⟩:=h.Dv f g e
  obtain⟨a,b,rfl,q,u⟩:=p.split f g e
  exact⟨v::a,b,rfl,.cons m q,u⟩
theorem Rz.append{fs:Tab}{hs:List Th}{a b:List Cv}{x y:List Ty}(h:Rz fs hs a x)(d:Rz fs hs b y):Rz fs hs (a++b) (x++y):=by
 refine⟨by rw[List.length_append,List.length_append,h.1,d.1],λi v t p q=>?_⟩
 have f:=h.1
 by_cases g:i<a.length
 ·rw[List.getElem?_append_left g]at p
  rw[List.getElem?_append_left (by omega)]at q
  exact h.2 i v t p q
 ·rw[List.getElem?_append_right (by omega)]at p
  rw[List.getElem?_append_right (by omega)]at q
  rw[<-f]at q
  exact d.2 _ v t p q
theorem AZt{p:Pool}{b:Bd}{i:Nat}(h:Xm (mny p b) ⟨.ofNat 1,.ofNat i⟩=true):i<p.nums.length:=by
 unfold Xm at h
 rw[Bool.and_eq_true]at h
 obtain⟨-,d⟩:=h
 have f:=(Bool.and_eq_true ..▸(show(decide (0<=Int.ofNat i)&&decide (Int.ofNat i<(p.nums.length:Int)))=true from d)).2
 have:(i:Int)<p.nums.length:=of_decide_eq_true f
 omega
theorem AK6{t:Tab}:∀{fls:List Fl},link2 t fls=0->∀f∈fls,AAb t f.pool=true
 |[],_,_,h=>by cases h
 |g::fls,h,f,i=>by
  unfold link2 at h
  cases d:(Ul t g.face.nm==0)with
  |false=>
   rw[d]at h
   have h:Ul t g.face.nm=0:=h
   rw[h]at d;exact absurd d (by decide)
  |true=>
   rw[d]at h
   cases k:AAb t g.pool with
   |false=>rw[k]at h;have h:(30:Int)=0:=h;exact absurd h (by decide)
   |true=>
    rw[k]at h
    rcases List.mem_cons.1 i with rfl|i
    ·exact k
    ·exact AK6 h f i
theorem AVm{c:St}{m:Cb}:(AGg c m++m.ps).length=least m:=by
 unfold AGg least
 cases m.st with
 |true=>simp
 |false=>simp
theorem AOQ{fls:List Fl}(h:TB fls=0):Tabs (EW (Bh fls)):=by
 refine⟨ADw h,AC3 h,AYU h,by have:=AOf h;omega,λs c e=>?_⟩
 obtain⟨f,d,rfl,-⟩:=nZ e
 have:=VU (NH _ _ (DW h).2.1 f d)
 unfold U3 at this
 simp only[Bool.and_eq_true,Bool.not_eq_true',decide_eq_false_iff_not]at this
 omega
theorem Ext.put{hs:List Th}{i:Nat}{th:Th}{k:Nat}{v:Cv}(hi:hs[i]? =some th):Ext hs (hs.set i {th with vals:=th.vals.set k v}):=by
 have d:=(List.getElem?_eq_some_iff.1 hi).1
 intro j x f
 by_cases e:i=j
 ·subst e
  rw[hi]at f
  cases f
  exact⟨_,List.getElem?_set_self d,rfl,rfl,rfl,rfl,List.length_set ..⟩
 ·exact⟨x,by rw[List.getElem?_set_ne e];exact f,rfl,rfl,rfl,rfl,rfl⟩
theorem Ext.app{hs:List Th}{th:Th}:Ext hs (hs++[th]):=λi x d=>⟨x,by rw[List.getElem?_append_left (List.getElem?_eq_some_iff.1 d).1];exact d,rfl,rfl,rfl,rfl,rfl⟩
theorem AXA{fls:List Fl}(h:TB fls=0){f:Fl}(g:f∈fls):CY (EW (Bh fls)) f.face.nm=some f.face:=by
 obtain⟨-,i,-⟩:=DW h
 obtain⟨-,d,-⟩:=(AKh fls []).1 i
 have d:((Bh fls).map λc=>c.nm).Nodup:=by
  rw[List.map_map];exact d
 rw[AVp d]
 exact(APh d).2 ⟨List.mem_map.2 ⟨f,g,rfl⟩,rfl⟩
theorem AR0{fls:List Fl}(h:TB fls=0){f:Fl}(g:f∈fls){m:Cb}(k:m∈f.face.ms)(hs:m.st=true):AAu (EW (Bh fls)) f.face.nm m.nm true=some (f.face.nm,m):=by
 have d:=NH _ _ (DW h).2.1 f g
 have i:=AXA h g
 obtain⟨r,p⟩:=AJl i (ANb (VU d))
 unfold AAu
 rw[p]
 unfold kX
 have e:ATu true m.nm ((CY (EW (Bh fls)) f.face.nm).getD CJ).ms=some m:=by
  rw[i]
  unfold ATu
  show(match Ju m.nm f.face.ms with|some m=>bif m.st==true then some m else none|none=>none)=some m
  rw[AEy f.face.ms (0,0) (AMY (VU d)) m k]
  show(bif m.st==true then some m else none)=some m
  rw[hs];rfl
 rw[e]
theorem ALC:∀(l:List Fl) (a:List (St×Fl)) (s:St) (f:Fl),Xy a l=0->CY a s=some f->CY (VQ a l) s=some f
 |[],_,_,_,_,h=>h
 |g::l,a,s,f,e,h=>by
  unfold Xy at e
  cases i:P9 g with
  |false=>rw[i]at e;simp at e
  |true=>
   rw[i]at e
   cases d:(CY a g.face.nm).isSome with
   |true=>rw[d]at e;simp at e
   |false=>
    rw[d]at e
    refine ALC l _ s f e ?_
    rw[RQ]
    by_cases hs:g.face.nm=s
    ·rw[hs,h]at d;cases d
    ·rw[if_neg hs];exact h
theorem AGk:∀(l:List Fl) (a:List (St×Fl)) (f:Fl),Xy a l=0->f∈l->CY (VQ a l) f.face.nm=some f
 |[],_,_,_,h=>by cases h
 |g::l,a,f,e,h=>by
  unfold Xy at e
  cases d:P9 g with
  |false=>rw[d]at e;simp at e
  |true=>
   rw[d]at e
   cases i:(CY a g.face.nm).isSome with
   |true=>rw[i]at e;simp at e
   |false=>
    rw[i]at e
    rcases List.mem_cons.1 h with rfl|h
    ·exact ALC l _ _ _ e (by rw[RQ,if_pos rfl])
    ·exact AGk l _ f e h
theorem AIO{R:Nat->Int}:∀{f:List Cb} {j:Nat},firstM R f j=none↔∀i,i<f.length->R (j+i)<0
 |[],j=>by simp[firstM]
 |m::f,j=>by
  unfold firstM
  cases h:decide (0<=R j)with
  |true=>
   have h:=of_decide_eq_true h
   simp only[cond_true]
   constructor
   ·intro h;cases h
   ·intro d;have:=d 0 (by simp);simp only[Nat.add_zero]at this;omega
  |false=>
   have h:=of_decide_eq_false h
   rw[cond_false,AIO]
   constructor
   ·intro d i g
    cases i with
    |zero=>simp only[Nat.add_zero];omega
    |succ i=>have:=d i (by simpa using g);rw[show j+(i+1)=j+1+i by omega];exact this
   ·intro d i g
    have:=d (i+1) (by simpa using g)
    rw[show j+1+i=j+(i+1)by omega];exact this
theorem yw{R:Fl->Nat->Int}{i:List (St×Fl)}:∀{k:List St},UC R i k=none↔∀s∈k,∀f,CY i s=some f->firstM (R f) f.face.ms 0=none
 |[]=>by simp[UC]
 |s::k=>by
  unfold UC
  cases m:CY i s with
  |none=>
   simp only
   rw[yw]
   constructor
   ·intro h x d f q
    rcases List.mem_cons.1 d with rfl|d
    ·rw[m]at q;cases q
    ·exact h x d f q
   ·intro h x d;exact h x (List.mem_cons_of_mem _ d)
  |some f=>
   simp only
   cases v:firstM (R f) f.face.ms 0 with
   |some p=>
    simp only
    constructor
    ·intro h;cases h
    ·intro h;have:=h s (List.mem_cons_self ..) f m;rw[v]at this;cases this
   |none=>
    simp only
    rw[yw]
    constructor
    ·intro h x d g u
     rcases List.mem_cons.1 d with rfl|d
     ·rw[m]at u;cases u;exact v
     ·exact h x d g u
    ·intro h x d;exact h x (List.mem_cons_of_mem _ d)
def AOO(fs:Tab)(c:St):List Fld:=AOH fs (above fs c).1.reverse
theorem AKn(fs:Tab)(a b:List St):AOH fs (a++b)=AOH fs a++AOH fs b:=List.flatMap_append
theorem AQy(fs:Tab)(u:St):AOH fs [u]=((CY fs u).getD CJ).fs:=by unfold AOH;simp
theorem AKs(fs:Tab):∀l:List St,(AOH fs l.reverse).length=fU fs l
 |[]=>rfl
 |c::l=>by
  rw[List.reverse_cons,AKn,List.length_append,AKs fs l,AQy]
  show _=((CY fs c).getD CJ).fs.length+fU fs l
  omega
theorem AY4(fs:Tab)(c:St):(AOO fs c).length=sizeT fs c:=AKs fs _
theorem AMn{fs:Tab}{s:St}:∀{l:List St} {r:St×Ty},AGN fs s l=some r->r.1∈l/\AFp s ((CY fs r.1).getD CJ).fs=some r.2
 |[],_,h=>by cases h
 |c::cs,r,h=>by
  have h:(match AFp s ((CY fs c).getD CJ).fs with|some t=>some (c,t)|none=>AGN fs s cs)=some r:=h
  cases d:AFp s ((CY fs c).getD CJ).fs with
  |some t=>rw[d]at h;cases h;exact⟨List.mem_cons_self ..,d⟩
  |none=>
   rw[d]at h
   obtain⟨f,g⟩:=AMn h
   exact⟨List.mem_cons_of_mem _ f,g⟩
theorem AIH{s:St}{m:Nat}:∀{l:List Fld} {t:Ty} (j:Nat),AFp s l=some t->∃k f,l[k]? =some f/\f.ty=t/\ADo s m l j=.ofNat (m+(j+k))
 |[],_,_,h=>by cases h
 |f::l,t,j,h=>by
  unfold AFp at h
  unfold ADo
  cases hd:decide (f.nm.1=s.1/\f.nm.2=s.2)with
  |true=>rw[hd]at h;cases h;exact⟨0,f,rfl,rfl,rfl⟩
  |false=>
   rw[hd]at h
   obtain⟨k,g,d,i,p⟩:=AIH (m:=m) (j+1) (show AFp s l=some t from h)
   exact⟨k+1,g,d,i,by rw[cond_false,p,Nat.add_right_comm,Nat.add_assoc]⟩
theorem Chain.AYa{fs:Tab}(f:Whole fs){s:St}{l:List St}(h:Chain fs s l):(above fs s).1=l:=by
 cases h with
 |nil=>rfl
 |cons g d t=>exact(EG (f _ _ d)).det (.cons g d t)
theorem Aao{fs:Tab}(i:Tabs fs){f:PF}(H:rU fs f=true){c:St}(I:f.own∈(above fs c).1):∃(k:Nat) (g:Fld),AKC fs f.own f.f.nm=.ofNat k/\(AOO fs c)[k]? =some g/\g.ty=f.f.ty:=by
 obtain⟨r,F,J,-⟩:=ALW H
 obtain⟨B,K⟩:=AMn (show AGN fs f.f.nm (above fs f.own).1=some r from F)
 obtain⟨p,L,-⟩:=O0 i.w I
 have C:r.1∈(above fs c).1:=by rw[L];exact List.mem_append_right _ B
 obtain⟨q,M,-⟩:=O0 i.w C
 obtain⟨d,hd⟩:=Jf B
 obtain⟨x,v⟩:=(EG (i.w _ d hd)).known B
 have D:=EG (i.w _ x v)
 have N:(above fs r.1).1=r.1::(above fs x.sup).1:=by
  have E:r.1≠(0,0):=λe=>by
   have:=AJI i v
   rw[e]at this
   exact absurd this (by decide)
  generalize r.1=u at*
  generalize(above fs u).1=l at*
  cases D with
  |nil=>exact absurd rfl E
  |cons P y t=>
   rw[v]at y
   cases y
   rw[t.AYa i.w]
 unfold AKC APN
 rw[F]
 show ∃(k:Nat) (g:Fld),ADo f.f.nm (sizeT fs ((CY fs r.1).getD CJ).sup) ((CY fs r.1).getD CJ).fs 0=_/\_
 obtain⟨k,g,A,O,G⟩:=AIH (m:=sizeT fs ((CY fs r.1).getD CJ).sup) 0 K
 rw[v]at A G⊢
 have A:x.fs[k]? =some g:=A
 refine⟨_,g,G,?_,by rw[O,J]⟩
 have Q:=(List.getElem?_eq_some_iff.1 A).1
 show(AOO fs c)[sizeT fs x.sup+(0+k)]? =some g
 unfold AOO
 rw[M,N,List.reverse_append,List.reverse_cons,AKn,AKn,AQy,v,Nat.zero_add]
 have y:(AOH fs (above fs x.sup).1.reverse).length=sizeT fs x.sup:=AKs fs _
 show((AOH fs (above fs x.sup).1.reverse++x.fs)++_)[_]? =_
 rw[List.getElem?_append_left (by rw[List.length_append,y];omega),List.getElem?_append_right (by omega),y,Nat.add_sub_cancel_left]
 exact A
structure ThV(fs:Tab)(hs:List Th)(th:Th):Prop where
 cls:th.arr=false->(∃c,CY fs th.cls=some c)/\th.vals.length=sizeT fs th.cls/\∀(k:Nat) (v:Cv) (f:Fld),th.vals[k]? =some v->(AOO fs th.cls)[k]? =some f->VT fs hs v f.ty
 arr:th.arr=true->th.ty.arr=true/\∀v∈th.vals,VT fs hs v (Xr th.ty)
def HpV(fs:Tab)(hs:List Th):Prop:=∀th∈hs,ThV fs hs th
theorem ThV.ext{fs:Tab}{hs hs':List Th}{th:Th}(h:ThV fs hs th)(e:Ext hs hs'):ThV fs hs' th:=
 ⟨λq=>by
  obtain⟨d,g,i⟩:=h.cls q
  exact⟨d,g,λk v f a b=>(i k v f a b).ext e⟩,λq=>⟨(h.arr q).1,λv m=>((h.arr q).2 v m).ext e⟩⟩
theorem HpV.put{fs:Tab}{hs:List Th}{i k:Nat}{th:Th}{v:Cv}(h:HpV fs hs)(hi:hs[i]? =some th)
 (y:(th.arr=false->∀f:Fld,(AOO fs th.cls)[k]? =some f->VT fs hs v f.ty)/\(th.arr=true->VT fs hs v (Xr th.ty))):HpV fs (hs.set i {th with vals:=th.vals.set k v}):=by
 have e:=Ext.put (k:=k) (v:=v) hi
 have g:=h th (List.mem_of_getElem? hi)
 intro x m
 rcases List.mem_or_eq_of_mem_set m with m|rfl
 ·exact(h x m).ext e
 ·refine ThV.ext (hs:=hs) ⟨λq=>?_,λq=>?_⟩ e
  ·obtain⟨C,D,E⟩:=g.cls q
   refine⟨C,by show(th.vals.set k v).length=_;rw[List.length_set];exact D,λj w f A B=>?_⟩
   have d:(th.vals.set k v)[j]? =some w:=A
   clear A
   rw[List.getElem?_set]at d
   by_cases p:k=j
   ·rw[if_pos p]at d
    subst p
    split at d
    ·cases d;exact y.1 q f B
    ·cases d
   ·rw[if_neg p]at d
    exact E j w f d B
  ·refine⟨(g.arr q).1,λw u=>?_⟩
   rcases List.mem_or_eq_of_mem_set u with u|rfl
   ·exact(g.arr q).2 w u
   ·exact y.2 q
theorem HpV.new{fs:Tab}{hs:List Th}{th:Th}(h:HpV fs hs)(f:ThV fs (hs++[th]) th):HpV fs (hs++[th]):=λx d=>by
 rcases List.mem_append.1 d with d|d
 ·exact(h x d).ext Ext.app
 ·rw[List.mem_singleton.1 d];exact f
structure Ce(E:Ev)(fls:List Fl):Prop where
 t:Tabs E.fs
 lk:TB fls=0
 fs:E.fs=EW (Bh fls)
 fl:∀s,E.fl s=CY (OD fls) s
 all:∀f∈fls,∀(j:Nat) (m:Cb) (bd:Bd),f.face.ms[j]? =some m->f.bodies[j]? =some bd->∃A,Post (mg E.fs f m bd) (ZH f.face.nm m bd) A
structure FrR(E:Ev)(fls:List Fl)(f:Fr)(m:Cb)(A:Nat->Option CP):Prop where
 mem:f.fl∈fls
 bf:SI f.fl.pool m f.bd
 post:Post (mg E.fs f.fl m f.bd) (ZH f.fl.face.nm m f.bd) A
structure Afl(E:Ev)(fls:List Fl)(hs:List Th)(f:Fr)(m:Cb)(A:Nat->Option CP):Prop where
 r:FrR E fls f m A
 pc:f.pc<f.bd.code.length
 at':∃a,A f.pc=some a/\Rz E.fs hs f.loc a.loc/\Rz E.fs hs f.stk a.stk
structure AfQ(E:Ev)(fls:List Fl)(hs:List Th)(f:Fr)(m:Cb)(A:Nat->Option CP)(t:Ty):Prop where
 r:FrR E fls f m A
 pc:f.pc<f.bd.code.length
 room:((f.stk.length+1:Nat):Int)<=f.bd.stack
 at':∃a t' ts,A f.pc=some a/\a.stk=t'::ts/\fitsT E.fs t t'=true/\Rz E.fs hs f.loc a.loc/\Rz E.fs hs f.stk ts
def AAO(E:Ev)(fls:List Fl)(hs:List Th):List Fr->Ty->Prop
 |[],_=>True
 |f::r,t=>∃m A,AfQ E fls hs f m A t/\AAO E fls hs r m.ret
def Afz(E:Ev)(fls:List Fl)(hs:List Th):List Fr->Prop
 |[]=>True
 |f::r=>∃m A,Afl E fls hs f m A/\AAO E fls hs r m.ret
structure AFP(E:Ev)(fls:List Fl)(s:Vs):Prop where
 hp:HpV E.fs s.hp
 Ur:Afz E fls s.hp s.Ur
theorem AAO.ext{E:Ev}{fls:List Fl}{hs hs':List Th}(e:Ext hs hs'):∀{r:List Fr} {t:Ty},AAO E fls hs r t->AAO E fls hs' r t
 |[],_,_=>trivial
 |f::r,t,⟨m,A,⟨d,g,i,a,k,p,q,u,v,w,x⟩,h⟩=>⟨m,A,⟨d,g,i,a,k,p,q,u,v,w.ext e,x.ext e⟩,h.ext e⟩
def KF(E:Ev)(fls:List Fl)(s:Vs)(o:Option Vs):Prop:=∃s',o=some s'/\s'.steps=s.steps/\(s'.trap=0->AFP E fls s')
theorem KF.stop{E:Ev}{fls:List Fl}{s s':Vs}{t:Nat}(h:s'.steps=s.steps)(d:t≠0):KF E fls s (some (s'.stop t)):=⟨_,rfl,h,λe=>absurd e d⟩
structure yI(E:Ev)(fls:List Fl)(s:Vs)(f:Fr)(r:List Fr)(m:Cb)(A:Nat->Option CP)(x:Ins)(a t:CP):Prop where
 C:Ce E fls
 hp:HpV E.fs s.hp
 R:FrR E fls f m A
 vl:Rz E.fs s.hp f.loc a.loc
 vk:Rz E.fs s.hp f.stk a.stk
 low:AAO E fls s.hp r m.ret
 ins:Xm (mny f.fl.pool f.bd) x=true
 ht:stepT (mg E.fs f.fl m f.bd) a x=some t
 succ:∀j∈nT x f.pc,j<f.bd.code.length/\∃u,A j=some u/\CP.le E.fs t u
section
variable{E:Ev}{fls:List Fl}{s:Vs}{f:Fr}{r:List Fr}{m:Cb}{A:Nat->Option CP}{x:Ins}{a t:CP}
theorem yI.fin(K:yI E fls s f r m A x a t){j:Nat}(d:j∈nT x f.pc){hs':List Th}{l' k':List Cv}(g:Ext s.hp hs')(hh:HpV E.fs hs')(i:Rz E.fs hs' l' t.loc)(k:Rz E.fs hs' k' t.stk){st pa de:Int}{ou:List Int}{tr:Nat}:
 AFP E fls ⟨st,pa,de,ou,tr,⟨f.fl,f.bd,j,l',k'⟩::r,hs'⟩:=by
 obtain⟨q1,u,q2,q3⟩:=K.succ j d
 exact⟨hh,m,A,⟨⟨K.R.mem,K.R.bf,K.R.post⟩,q1,u,q2,i.leL K.C.t.w K.C.t.u q3.1,k.le K.C.t.w K.C.t.u q3.2⟩,K.low.ext g⟩
theorem AA5{x:Ins}{i:Nat}(d:x.code≠27)(f:x.code≠29):i+1∈nT x i:=by
 unfold nT ends
 rw[decide_eq_false d,decide_eq_false f]
 exact List.mem_append_right _ (List.mem_singleton.2 rfl)
theorem AV5{g:Fr}{v:Cv}{d f:List Ty}{u:Ty}(h:Cc g.bd.stack u d=some f)(i:g.stk.length=d.length):g.push v=some {g with stk:=v::g.stk}:=by
 unfold Fr.push
 rw[i,decide_eq_true (AHV h).2];rfl
theorem pop_some{g:Fr}{vs k:List Cv}{n:Nat}(e:g.stk=vs++k)(d:vs.length=n):g.pop n=some (vs.reverse,{g with stk:=k}):=by
 unfold Fr.pop
 rw[e,<-d,decide_eq_true (by rw[List.length_append];omega),cond_true,List.take_left',List.drop_left']<;>rfl
theorem yI.push(K:yI E fls s f r m A x a t)(y:x.code≠27)(B:x.code≠29){k:List Cv}{p:List Ty}{u:Ty}{v:Cv}{hs':List Th}(q:Rz E.fs s.hp k p)(w:Cc f.bd.stack u p=some t.stk)(d:t.loc=a.loc)
 (i:Ext s.hp hs') (hh:HpV E.fs hs') (C:VT E.fs hs' v u) {st pa de:Int} {ou:List Int} {tr:Nat}:
 ∃g,(⟨f.fl,f.bd,f.pc+1,f.loc,k⟩:Fr).push v=some g/\AFP E fls ⟨st,pa,de,ou,tr,g::r,hs'⟩:=by
 refine⟨_,AV5 w q.1,K.fin (AA5 y B) i hh (by rw[d];exact K.vl.ext i) ?_⟩
 rw[(AHV w).1]
 exact .cons C (q.ext i)
theorem yI.AMm(K:yI E fls s f r m A x a t)(p:x.code≠27)(q:x.code≠29){k:List Cv}{i:List Ty}{u:Ty}{v:Cv}(w:Rz E.fs s.hp k i)(y:Cc f.bd.stack u i=some t.stk)(d:t.loc=a.loc)(B:VT E.fs s.hp v u):
 KF E fls s (((⟨f.fl,f.bd,f.pc+1,f.loc,k⟩:Fr).push v).map (s.top r)):=by
 obtain⟨g,e,h⟩:=K.push (hs':=s.hp) (st:=s.steps) (pa:=s.parts) (de:=s.deep) (ou:=s.out) (tr:=s.trap) p q w y d (.refl _) K.hp B
 rw[e]
 exact⟨_,rfl,rfl,λ_=>h⟩
theorem yI.eff(K:yI E fls s f r m A x a t){ws:List Ty}{w:Option Ty}(h:(((some (ws,w):Option (List Ty×Option Ty)).bind λe=>(Dv E.fs e.1 a.stk).bind λk=>(aZ f.bd.stack e.2 k).map λk=>(⟨a.loc,k⟩:CP)))=some t):
 ∃vs k d,f.stk=vs++k/\Rz E.fs s.hp vs ws/\Rz E.fs s.hp k d/\aZ f.bd.stack w d=some t.stk/\t.loc=a.loc:=by
 obtain⟨g,v,d,y,i,p,q,rfl⟩:=AUO (c:=mg E.fs f.fl m f.bd) h
 cases i
 obtain⟨vs,k,e,q1,q2⟩:=K.vk.split K.C.t.w K.C.t.u p
 exact⟨vs,k,d,e,q1,q2,q,rfl⟩
end
theorem APX{s:St}:∀{d:List Cb} {o:Cb} (i:Nat),Ju s d=some o->∃k,ZN s d i=some (i+k)/\d[k]? =some o
 |[],_,_,h=>by cases h
 |m::d,o,i,h=>by
  unfold Ju at h
  unfold ZN
  cases hd:decide (m.nm.1=s.1/\m.nm.2=s.2)with
  |true=>rw[hd]at h;cases h;exact⟨0,rfl,rfl⟩
  |false=>
   rw[hd]at h
   obtain⟨k,f,g⟩:=APX (i+1) (show Ju s d=some o from h)
   exact⟨k+1,by rw[cond_false,f,Nat.add_right_comm,Nat.add_assoc],g⟩
theorem jJ{fs:Tab}{p:PM}:∀{l:List St} {u:St},GR fs p l=some u->u∈l/\∃o,Ju p.m.nm ((CY fs u).getD CJ).ms=some o/\o.same p.m=true
 |[],_,h=>by cases h
 |c::cs,u,h=>by
  have h:(match Ju p.m.nm ((CY fs c).getD CJ).ms with|some o=>bif o.same p.m then some c else GR fs p cs|none=>GR fs p cs)=some u:=h
  cases d:Ju p.m.nm ((CY fs c).getD CJ).ms with
  |none=>
   rw[d]at h
   obtain⟨f,g⟩:=jJ h
   exact⟨List.mem_cons_of_mem _ f,g⟩
  |some o=>
   rw[d]at h
   cases i:o.same p.m with
   |true=>
    simp only[i,cond_true,Option.some.injEq]at h
    subst h
    exact⟨List.mem_cons_self ..,o,d,i⟩
   |false=>
    simp only[i,cond_false]at h
    obtain⟨f,g⟩:=jJ h
    exact⟨List.mem_cons_of_mem _ f,g⟩
theorem ADX{fs:Tab}{p:PM}{b:List St}(h:(GR fs p b).isSome=true):∀a:List St,(GR fs p (a++b)).isSome=true
 |[]=>h
 |c::a=>by
  show(match Ju p.m.nm ((CY fs c).getD CJ).ms with|some o=>bif o.same p.m then some c else GR fs p (a++b)|none=>GR fs p (a++b)).isSome=true
  cases Ju p.m.nm ((CY fs c).getD CJ).ms with
  |none=>exact ADX h a
  |some o=>
   cases hs:o.same p.m with
   |true=>simp only[hs,cond_true];rfl
   |false=>simp only[hs,cond_false];exact ADX h a
theorem AJi{fs:Tab}{m:Cb}{c d:St}:∀l:List St,GR fs ⟨m,c⟩ l=GR fs ⟨m,d⟩ l
 |[]=>rfl
 |x::l=>by
  show(match Ju m.nm ((CY fs x).getD CJ).ms with|some o=>bif o.same m then some x else GR fs ⟨m,c⟩ l|none=>GR fs ⟨m,c⟩ l)=(match Ju m.nm ((CY fs x).getD CJ).ms with|some o=>bif o.same m then some x else GR fs ⟨m,d⟩ l|none=>GR fs ⟨m,d⟩ l)
  rw[AJi l]
theorem AS7{fs:Tab}(f:Whole fs){p:PM}{c:St}(h:(Qv fs p).isSome=true)(g:p.own∈(above fs c).1):(Qv fs ⟨p.m,c⟩).isSome=true:=by
 obtain⟨q,e,-⟩:=O0 f g
 unfold Qv
 show(GR fs ⟨p.m,c⟩ (above fs c).1).isSome=true
 rw[e,AJi (d:=p.own)]
 exact ADX h q
section
variable{E:Ev}{fls:List Fl}{s:Vs}
theorem found(C:Ce E fls){p:PM}(h:(Qv E.fs p).isSome=true):∃(own:St) (f:Fl) (j:Nat) (o:Cb) (b:Bd),Qv E.fs p=some own/\own∈(above E.fs p.own).1/\E.fl own=some f/\f∈fls/\f.face.nm=own/\AGp f p.m.nm=some b/\
 f.face.ms[j]? =some o/\f.bodies[j]? =some b/\ZN p.m.nm f.face.ms 0=some j/\o.same p.m=true:=by
 obtain⟨u,B⟩:=Option.isSome_iff_exists.1 h
 obtain⟨v,o,g,H⟩:=jJ (show GR E.fs p (above E.fs p.own).1=some u from B)
 obtain⟨d,hd⟩:=Jf v
 obtain⟨c,D⟩:=(EG (C.t.w _ d hd)).known v
 have i:=D
 rw[C.fs]at i
 obtain⟨f,x,q,y⟩:=nZ i
 have F:f.face.nm=u:=by rw[q];exact y
 have I:CY (OD fls) f.face.nm=some f:=AGk fls [] f (DW C.lk).2.1 x
 rw[D]at g
 have g:Ju p.m.nm c.ms=some o:=g
 rw[<-q]at g
 obtain⟨k,A,G⟩:=APX 0 g
 rw[Nat.zero_add]at A
 have J:=(YE (NH _ _ (DW C.lk).2.1 f x)).1
 have K:=(List.getElem?_eq_some_iff.1 G).1
 refine⟨u,f,k,o,f.bodies[k]'(by omega),B,v,by rw[C.fl,<-F];exact I,x,F,?_,G,List.getElem?_eq_getElem _,A,H⟩
 unfold AGp
 rw[A]
 exact List.getElem?_eq_getElem _
theorem ALf(C:Ce E fls){p:PM}{args:List Cv}(hh:HpV E.fs s.hp)(x:AAO E fls s.hp s.Ur p.m.ret)(h:(Qv E.fs p).isSome=true)
 (d:∀own,own∈(above E.fs p.own).1->Rz E.fs s.hp args ((bif p.m.st then[]else[⟨own,false⟩])++p.m.ps)):KF E fls s (JZ E p args s):=by
 obtain⟨own,f,j,o,b,J,K,L,D,M,N,F,G,-,O⟩:=found C h
 obtain⟨P,Q,R⟩:=AS4 O
 have g:=(YE (NH _ _ (DW C.lk).2.1 f D)).2 j o b F G
 obtain⟨A,q⟩:=C.all f D j o b F G
 have d:=d own K
 have H:AGg f.face.nm o++o.ps=(bif p.m.st then[]else[⟨own,false⟩])++p.m.ps:=by unfold AGg;rw[P,R,M]
 rw[<-H]at d
 have S:args.length=least o:=by rw[d.1,AVm]
 have T:=g.lo
 unfold JZ
 rw[J,Option.bind_some,L,Option.bind_some,N,Option.bind_some,decide_eq_false (by rw[S];omega),cond_false]
 cases hd:decide (s.deep<=(s.Ur.length:Int))with
 |true=>exact .stop rfl (by decide)
 |false=>
  refine⟨_,rfl,rfl,λ_=>?_⟩
  obtain⟨⟨I,y,k⟩,-⟩:=q
  have e:(ZH f.face.nm o b).loc=(AGg f.face.nm o++o.ps)++List.replicate (b.locals.toNat-args.length) BU:=by
   show AGg f.face.nm o++o.ps++List.replicate (b.locals.toNat-(AGg f.face.nm o).length-o.ps.length) BU=_
   rw[d.1,List.length_append,Nat.sub_sub]
  have B:Rz E.fs s.hp (args++List.replicate (b.locals.toNat-args.length) PD) (ZH f.face.nm o b).loc:=by
   rw[e]
   refine d.append ⟨by rw[List.length_replicate,List.length_replicate],λi v t a b=>?_⟩
   rw[List.eq_of_mem_replicate (List.mem_of_getElem? a)];exact bH
  have q:=C.all f D j o b F G
  obtain⟨A,q⟩:=q
  have U:=q.init
  obtain⟨I,y,k⟩:=U
  refine⟨hh,o,A,⟨⟨D,g,q⟩,by have:=g.c0;show 0<b.code.length;omega,I,y,B.leL C.t.w C.t.u k.1,(Rz.nil (fs:=E.fs) (hs:=s.hp)).le C.t.w C.t.u k.2⟩,by rw[Q];exact x⟩
variable{f:Fr}{r:List Fr}{m:Cb}{A:Nat->Option CP}{x:Ins}{a t:CP}
theorem APp(K:yI E fls s f r m A x a t)(w:x.code≠27)(y:x.code≠29){k:List Cv}{p:List Ty}{u:Ty}{n:Int}{th:List Cv->Th}(B:Rz E.fs s.hp k p)(C:Cc f.bd.stack u p=some t.stk)(d:t.loc=a.loc)
 (i:∀q:Nat,n=.ofNat q->ThV E.fs (s.hp++[th (List.replicate q PD)]) (th (List.replicate q PD))/\TT E.fs (th (List.replicate q PD)) u):KF E fls s (XC s r ⟨f.fl,f.bd,f.pc+1,f.loc,k⟩ n th):=by
 unfold XC
 cases hd:decide (n<0)with
 |true=>exact .stop rfl (by decide)
 |false=>
  simp only[cond_false]
  cases D:decide (s.parts<=n)with
  |true=>exact .stop rfl (by decide)
  |false=>
   simp only[cond_false]
   have F:=of_decide_eq_false hd
   obtain⟨q,rfl⟩:∃q:Nat,n=.ofNat q:=⟨n.toNat,by show n=(n.toNat:Int);omega⟩
   obtain⟨q1,q2⟩:=i q rfl
   obtain⟨g,e,h⟩:=K.push (v:=⟨0,s.hp.length+1⟩) (hs':=s.hp++[th (List.replicate q PD)]) (st:=s.steps) (pa:=s.parts-(Int.ofNat q+1)) (de:=s.deep) (ou:=s.out) (tr:=s.trap) w y B C d Ext.app (K.hp.new q1) λ_=>.inr ⟨_,Nat.succ_pos _,by
    show(s.hp++[_])[s.hp.length+1-1]? =_
    rw[Nat.add_sub_cancel,List.getElem?_append_right (Nat.le_refl _),Nat.sub_self];rfl,q2⟩
   rw[e]
   exact⟨_,rfl,rfl,λ_=>h⟩
theorem AXD(K:yI E fls s f r m A x a t)(i:x.code≠27)(p:x.code≠29){k:List Cv}{g:List Ty}{u:Ty}{at':Int}{o:Cv}(w:Rz E.fs s.hp k g)(y:Cc f.bd.stack u g=some t.stk)(d:t.loc=a.loc)
 (B:∀(q:Nat) (th:Th) (v:Cv),o.th s=some th->at'=.ofNat q->th.vals[q]? =some v->VT E.fs s.hp v u):KF E fls s (LJ at' none o s r ⟨f.fl,f.bd,f.pc+1,f.loc,k⟩):=by
 unfold LJ
 cases C:o.th s with
 |none=>exact .stop rfl (by decide)
 |some th=>
  simp only
  cases hd:decide (0<=at')&&decide (at'<(th.vals.length:Int))with
  |false=>exact .stop rfl (by decide)
  |true=>
   rw[Bool.and_eq_true,decide_eq_true_eq,decide_eq_true_eq]at hd
   obtain⟨q,rfl⟩:∃q:Nat,at'=.ofNat q:=⟨at'.toNat,by show at'=(at'.toNat:Int);omega⟩
   have D:q<th.vals.length:=by have:(q:Int)<(th.vals.length:Int):=hd.2;omega
   refine K.AMm i p w y d (B q th _ C rfl ?_)
   show th.vals[q]? =some (th.vals.getD q PD)
   rw[List.getD_eq_getElem?_getD,List.getElem?_eq_getElem D];rfl
theorem AWk(K:yI E fls s f r m A x a t)(y:x.code≠27)(B:x.code≠29){k:List Cv}{at':Int}{o w:Cv}(C:Rz E.fs s.hp k t.stk)(g:t.loc=a.loc)
 (D:∀(q:Nat) (th:Th),o.th s=some th->at'=.ofNat q->q<th.vals.length->(th.arr=false->∀f:Fld,(AOO E.fs th.cls)[q]? =some f->VT E.fs s.hp w f.ty)/\(th.arr=true->VT E.fs s.hp w (Xr th.ty))):KF E fls s (LJ at' (some w) o s r ⟨f.fl,f.bd,f.pc+1,f.loc,k⟩):=by
 unfold LJ
 cases d:o.th s with
 |none=>exact .stop rfl (by decide)
 |some th=>
  simp only
  cases hd:decide (0<=at')&&decide (at'<(th.vals.length:Int))with
  |false=>exact .stop rfl (by decide)
  |true=>
   rw[Bool.and_eq_true,decide_eq_true_eq,decide_eq_true_eq]at hd
   obtain⟨q,rfl⟩:∃q:Nat,at'=.ofNat q:=⟨at'.toNat,by show at'=(at'.toNat:Int);omega⟩
   have F:q<th.vals.length:=by have:(q:Int)<(th.vals.length:Int):=hd.2;omega
   have p:s.hp[o.o-1]? =some th:=by
    unfold Cv.th at d
    cases u:decide (o.o=0)with
    |true=>rw[u]at d;cases d
    |false=>rw[u]at d;exact d
   refine⟨_,rfl,rfl,λ_=>?_⟩
   have i:=Ext.put (k:=q) (v:=w) p
   exact K.fin (AA5 y B) i (K.hp.put p (D q th d rfl F)) (by rw[g];exact K.vl.ext i) (C.ext i)
end
theorem Rz.ANk{fs:Tab}{hs:List Th}{vs:List Cv}(h:Rz fs hs vs []):vs=[]:=List.length_eq_zero_iff.1 h.1
theorem Rz.one{fs:Tab}{hs:List Th}{vs:List Cv}{t:Ty}(h:Rz fs hs vs [t]):∃v,vs=[v]/\VT fs hs v t:=by
 obtain⟨v,r,rfl,d,f⟩:=h.inv
 rw[f.ANk];exact⟨v,rfl,d⟩
theorem Rz.two{fs:Tab}{hs:List Th}{vs:List Cv}{t u:Ty}(h:Rz fs hs vs [t,u]):∃v w,vs=[v,w]/\VT fs hs v t/\VT fs hs w u:=by
 obtain⟨v,r,rfl,d,f⟩:=h.inv
 obtain⟨w,rfl,g⟩:=f.one
 exact⟨v,w,rfl,d,g⟩
theorem iE{c d i:Nat}(h:c≠d):(⟨.ofNat c,.ofNat i⟩:Ins).code≠.ofNat d:=λe=>h (Int.ofNat.inj e)
theorem AMa{c i pc:Nat}(h:c=27∨c=28):i∈nT ⟨.ofNat c,.ofNat i⟩ pc:=by
 rcases h with rfl|rfl<;>exact List.mem_append_left _ (List.mem_singleton.2 rfl)
section
variable{E:Ev}{fls:List Fl}{s:Vs}{f:Fr}{r:List Fr}{m:Cb}{A:Nat->Option CP}{i:Nat}{a t:CP}
abbrev Fr.up(f:Fr)(k:List Cv):Fr:=⟨f.fl,f.bd,f.pc+1,f.loc,k⟩
theorem yI.pool{x:Ins}(K:yI E fls s f r m A x a t):AAb E.fs f.fl.pool=true:=by
 rw[K.C.fs];exact AK6 (DW K.C.lk).2.2 f.fl K.R.mem
theorem yI.inn{c:Nat}(K:yI E fls s f r m A ⟨.ofNat c,.ofNat i⟩ a t):AGS f.fl.pool f.bd.locals.toNat c i:=by
 obtain⟨d,g,e,h⟩:=AAZ K.ins
 cases e;exact h
theorem AGH{vs k:List Cv}(e:f.stk=vs++k):(⟨f.fl,f.bd,f.pc+1,f.loc,f.stk⟩:Fr).pop vs.length=some (vs.reverse,f.up k):=pop_some (g:=⟨f.fl,f.bd,f.pc+1,f.loc,f.stk⟩) e rfl
theorem Adk{c:Nat}(U:5<=c/\c<=13)(K:yI E fls s f r m A ⟨.ofNat c,.ofNat i⟩ a t):KF E fls s (Jd E ⟨.ofNat c,.ofNat i⟩ s r {f with pc:=f.pc+1}):=by
 have key:∀{u:Ty} {v w:Cv} {k:List Cv} {C:List Ty},f.stk=[w,v]++k->Rz E.fs s.hp k C->Cc f.bd.stack u C=some t.stk->t.loc=a.loc->(u=C9∨u=Ew)->KF E fls s (ADG (.ofNat c) [v,w] s r (f.up k)):=by
  intro u v w k C e M N F O
  have G:(⟨.ofNat c,.ofNat i⟩:Ins).code≠27:=iE (d:=27) (by omega)
  have H:(⟨.ofNat c,.ofNat i⟩:Ins).code≠29:=iE (d:=29) (by omega)
  have put:∀x:Cv,KF E fls s ((f.up k).push x |>.map (s.top r)):=λx=>K.AMm G H M N F (AJ3 (by rcases O with rfl|rfl<;>decide))
  unfold ADG
  split<;>first
   |exact put _
   |(cases decide (([v,w].getD 1 PD).n=0)with
    |true=>exact .stop rfl (by decide)
    |false=>exact put _)
 have P:∀{ws:List Ty} {u:Ty} {k:List Cv} {vs:List Cv} {C:List Ty},f.stk=vs++k->vs.length=2->Rz E.fs s.hp k C->Cc f.bd.stack u C=some t.stk->t.loc=a.loc->(u=C9∨u=Ew)->
  KF E fls s (((⟨f.fl,f.bd,f.pc+1,f.loc,f.stk⟩:Fr).pop 2).bind λp=>ADG (.ofNat c) p.1 s r p.2):=by
  intro ws u k vs C e N M B I Q
  match vs,N with
  |[w,v],_=>
   rw[show(⟨f.fl,f.bd,f.pc+1,f.loc,f.stk⟩:Fr).pop 2=some ([v,w],f.up k)from AGH e]
   exact key e M B I Q
 have g:∀{u:Ty},(u=C9∨u=Ew)->Ab0 (mg E.fs f.fl m f.bd) ⟨.ofNat c,.ofNat i⟩=some ([C9,C9],some u)->stepT (mg E.fs f.fl m f.bd) a ⟨.ofNat c,.ofNat i⟩=((Ab0 (mg E.fs f.fl m f.bd) ⟨.ofNat c,.ofNat i⟩).bind λe=>(Dv E.fs e.1 a.stk).bind λk=>(aZ f.bd.stack e.2 k).map λk=>(⟨a.loc,k⟩:CP))->
  KF E fls s (((⟨f.fl,f.bd,f.pc+1,f.loc,f.stk⟩:Fr).pop 2).bind λp=>ADG (.ofNat c) p.1 s r p.2):=by
  intro u O B I
  have h:=K.ht
  rw[I,B]at h
  obtain⟨vs,k,C,e,q1,q2,q3,q4⟩:=K.eff h
  exact P (ws:=[]) e q1.1 q2 q3 q4 O
 have J:∀{p q:Ty} {k:List Ty},a.stk=p::q::k->Cc f.bd.stack Ew k=some t.stk->t.loc=a.loc->KF E fls s (((⟨f.fl,f.bd,f.pc+1,f.loc,f.stk⟩:Fr).pop 2).bind λp=>ADG (.ofNat c) p.1 s r p.2):=by
  intro p q k e B I
  have D:=K.vk
  rw[e]at D
  obtain⟨w,l,R,-,D⟩:=D.inv
  obtain⟨v,V,rfl,-,D⟩:=D.inv
  exact P (ws:=[]) (vs:=[w,v]) R rfl D B I (.inr rfl)
 have y:=K.ht
 have S:c=5∨c=6∨c=7∨c=8∨c=9∨c=10∨c=11∨c=12∨c=13:=by omega
 rcases S with rfl|rfl|rfl|rfl|rfl|rfl|rfl|rfl|rfl
 ·exact g (.inl rfl) rfl rfl
 ·exact g (.inl rfl) rfl rfl
 ·exact g (.inl rfl) rfl rfl
 ·exact g (.inl rfl) rfl rfl
 ·exact g (.inl rfl) rfl rfl
 ·exact g (.inr rfl) rfl rfl
 ·exact g (.inr rfl) rfl rfl
 ·have y:(match a.stk with|p::q::k=>bif p.is q&& !p.obj then(Cc f.bd.stack Ew k).map λk=>(⟨a.loc,k⟩:CP)else none|_=>none)=some t:=y
  split at y
  ·rename_i p q k e
   cases L:p.is q&& !p.obj with
   |false=>rw[L]at y;cases y
   |true=>
    rw[L]at y
    obtain⟨T,B,rfl⟩:=Option.map_eq_some_iff.1 (show(Cc f.bd.stack Ew k).map (λk=>(⟨a.loc,k⟩:CP))=some t from y)
    exact J e B rfl
  ·cases y
 ·have y:(match a.stk with|p::q::k=>bif p.obj&&q.obj then(Cc f.bd.stack Ew k).map λk=>(⟨a.loc,k⟩:CP)else none|_=>none)=some t:=y
  split at y
  ·rename_i p q k e
   cases L:p.obj&&q.obj with
   |false=>rw[L]at y;cases y
   |true=>
    rw[L]at y
    obtain⟨T,B,rfl⟩:=Option.map_eq_some_iff.1 (show(Cc f.bd.stack Ew k).map (λk=>(⟨a.loc,k⟩:CP))=some t from y)
    exact J e B rfl
  ·cases y
theorem ATM{c:Nat}(C:c≠27/\c≠29){u:Ty}{P:Ty->Bool}(K:yI E fls s f r m A ⟨.ofNat c,.ofNat i⟩ a t){g:List Cv×Fr->Option Vs}(D:Jd E ⟨.ofNat c,.ofNat i⟩ s r {f with pc:=f.pc+1}=((⟨f.fl,f.bd,f.pc+1,f.loc,f.stk⟩:Fr).pop 1).bind g)
 (hs:stepT (mg E.fs f.fl m f.bd) a ⟨.ofNat c,.ofNat i⟩=match a.stk with|[]=>none|t::k=>bif P t then(Cc f.bd.stack u k).map λk=>⟨a.loc,k⟩else none)
 (F:∀(v:Cv) (p:Ty) (k:List Cv),P p=true->VT E.fs s.hp v p->(∀w,VT E.fs s.hp w u->KF E fls s (((f.up k).push w).map (s.top r)))->KF E fls s (g ([v],f.up k))):KF E fls s (Jd E ⟨.ofNat c,.ofNat i⟩ s r {f with pc:=f.pc+1}):=by
 rw[D]
 have q:=K.ht
 rw[hs]at q
 split at q
 ·cases q
 ·rename_i p k e
  cases y:P p with
  |false=>rw[y]at q;cases q
  |true=>
   rw[y]at q
   obtain⟨J,G,rfl⟩:=Option.map_eq_some_iff.1 (show(Cc f.bd.stack u k).map (λk=>(⟨a.loc,k⟩:CP))=some t from q)
   have x:=K.vk
   rw[e]at x
   obtain⟨v,l,H,B,x⟩:=x.inv
   rw[show(⟨f.fl,f.bd,f.pc+1,f.loc,f.stk⟩:Fr).pop 1=some ([v],f.up l)from AGH (vs:=[v]) H]
   exact F v p l y B λw I=>K.AMm (iE (d:=27) C.1) (iE (d:=29) C.2) x G rfl I
theorem AZz{v:Cv}(h:v.th s=none):v.o=0∨s.hp[v.o-1]? =none:=by
 unfold Cv.th at h
 cases d:decide (v.o=0)with
 |true=>exact .inl (of_decide_eq_true d)
 |false=>rw[d]at h;exact .inr h
theorem AA1{v:Cv}{th:Th}(h:v.th s=some th):v.o≠0/\s.hp[v.o-1]? =some th:=by
 unfold Cv.th at h
 cases d:decide (v.o=0)with
 |true=>rw[d]at h;cases h
 |false=>rw[d]at h;exact⟨of_decide_eq_false d,h⟩
theorem ARK{v:Cv}{th:Th}{u:Ty}(g:VT E.fs s.hp v u)(i:u.obj=true)(h:v.th s=some th):TT E.fs th u:=by
 obtain⟨k,m⟩:=AA1 h
 rcases g i with d|⟨p,d,f,q⟩
 ·exact absurd d k
 ·rw[m]at f;cases f;exact q
theorem AJw{u:Ty}(h:u.cls=true):u.obj=true:=by unfold Ty.obj;rw[h];simp
theorem ATR{u:Ty}(h:u.arr=true):u.obj=true:=by unfold Ty.obj;rw[h];rfl
end
section
variable{E:Ev}{fls:List Fl}{s:Vs}{f:Fr}{r:List Fr}{m:Cb}{A:Nat->Option CP}{i:Nat}{a t:CP}
theorem yI.Aet{x:Ins}(K:yI E fls s f r m A x a t)(p:x.code≠27)(q:x.code≠29){k:List Cv}{g:List Ty}{u:Ty}(i:Rz E.fs s.hp k g)(v:Cc f.bd.stack u g=some t.stk)(d:t.loc=a.loc):
 AAO E fls s.hp (f.up k::r) u:=by
 obtain⟨y,B⟩:=AHV v
 obtain⟨q1,w,q2,q3⟩:=K.succ _ (AA5 p q)
 obtain⟨q4,q5⟩:=q3
 rw[y]at q5
 generalize hz:w.stk=z at q5
 cases q5 with
 |cons D F=>
  refine⟨m,A,⟨⟨K.R.mem,K.R.bf,K.R.post⟩,q1,by show((k.length+1:Nat):Int)<=_;rw[i.1];exact B,w,_,_,q2,hz,D,?_,i.le K.C.t.w K.C.t.u F⟩,K.low⟩
  have:=K.vl
  rw[<-d]at this
  exact this.leL K.C.t.w K.C.t.u q4
theorem ATh{c:Nat}(T:c=25∨c=26)(K:yI E fls s f r m A ⟨.ofNat c,.ofNat i⟩ a t):KF E fls s (Jd E ⟨.ofNat c,.ofNat i⟩ s r {f with pc:=f.pc+1}):=by
 have G:(⟨.ofNat c,.ofNat i⟩:Ins).code≠27:=iE (d:=27) (by omega)
 have H:(⟨.ofNat c,.ofNat i⟩:Ins).code≠29:=iE (d:=29) (by omega)
 have Q:=K.inn.me (by omega)
 have J:f.me (.ofNat i)∈f.fl.pool.Bg:=by
  show f.fl.pool.Bg.getD i mZ∈_
  rw[List.getD_eq_getElem?_getD,List.getElem?_eq_getElem Q];exact List.getElem_mem Q
 have D:(Qv E.fs (f.me (.ofNat i))).isSome=true:=by
  have:=K.pool
  unfold AAb at this
  simp only[Bool.and_eq_true,List.all_eq_true]at this
  exact this.2.2.2 _ J
 have I:(mg E.fs f.fl m f.bd).me (.ofNat i)=f.me (.ofNat i):=rfl
 have x:=K.ht
 rcases T with rfl|rfl
 ·have x:((bif ((mg E.fs f.fl m f.bd).me (.ofNat i)).m.st then none else some (((mg E.fs f.fl m f.bd).me (.ofNat i)).m.ps.reverse++[(⟨((mg E.fs f.fl m f.bd).me (.ofNat i)).own,false⟩:Ty)],some ((mg E.fs f.fl m f.bd).me (.ofNat i)).m.ret):Option (List Ty×Option Ty)).bind λe=>(Dv E.fs e.1 a.stk).bind λk=>(aZ f.bd.stack e.2 k).map λk=>(⟨a.loc,k⟩:CP))=some t:=x
  rw[I]at x
  show KF E fls s (((⟨f.fl,f.bd,f.pc+1,f.loc,f.stk⟩:Fr).pop ((f.me (.ofNat i)).m.ps.length+1)).bind λp=>match(hd0 p.1).th s with
   |none=>some ((s.top r p.2).stop 1)
   |some th=>JZ E ⟨(f.me (.ofNat i)).m,th.cls⟩ p.1 (s.top r p.2))
  generalize f.me (.ofNat i)=pm at*
  cases v:pm.m.st with
  |true=>rw[v]at x;cases x
  |false=>
   rw[v]at x
   obtain⟨y,k,U,e,q1,q2,q3,q4⟩:=K.eff x
   have F:y.length=pm.m.ps.length+1:=by rw[q1.1];simp
   rw[<-F,show(⟨f.fl,f.bd,f.pc+1,f.loc,f.stk⟩:Fr).pop y.length=some (y.reverse,f.up k)from AGH e,Option.bind_some]
   have q:=q1.rev
   rw[List.reverse_append,List.reverse_reverse]at q
   obtain⟨o,B,V,W,X⟩:=(show Rz E.fs s.hp y.reverse (⟨pm.own,false⟩::pm.m.ps)from q).inv
   rw[V]
   show KF E fls s (match o.th s with|none=>some ((s.top r (f.up k)).stop 1)|some th=>JZ E ⟨pm.m,th.cls⟩ (o::B) (s.top r (f.up k)))
   cases L:o.th s with
   |none=>exact .stop rfl (by decide)
   |some th=>
    obtain⟨u,Y⟩:=Option.isSome_iff_exists.1 D
    obtain⟨c0,M⟩:=Jf (jJ (show GR E.fs pm (above E.fs pm.own).1=some u from Y)).1
    obtain⟨Z,N⟩:=AA1 L
    obtain⟨j,d0,R,S,e5,e6⟩:=AMh (AJI K.C.t M) W Z
    rw[R,Nat.add_sub_cancel]at N
    rw[N]at S
    cases S
    refine ALf (s:=s.top r (f.up k)) K.C K.hp (K.Aet G H q2 q3 q4) (AS7 K.C.t.w D e6) λown g=>?_
    show Rz E.fs s.hp (o::B) ((bif pm.m.st then[]else[⟨own,false⟩])++pm.m.ps)
    rw[v]
    refine .cons (λ_=>.inr ⟨th,by omega,by rw[R];exact N,?_⟩) X
    unfold TT
    rw[if_neg (show ¬(⟨own,false⟩:Ty).arr=true from Bool.false_ne_true)]
    have g:own∈(above E.fs th.cls).1:=g
    obtain⟨c1,O⟩:=Jf g
    obtain⟨c2,P⟩:=(EG (K.C.t.w _ c1 O)).known g
    refine⟨K.C.t.u _ _ P,e5,?_⟩
    unfold Dk
    rw[ND];exact g
 ·have x:((bif ((mg E.fs f.fl m f.bd).me (.ofNat i)).m.st then some (((mg E.fs f.fl m f.bd).me (.ofNat i)).m.ps.reverse,some ((mg E.fs f.fl m f.bd).me (.ofNat i)).m.ret)else none:Option (List Ty×Option Ty)).bind λe=>(Dv E.fs e.1 a.stk).bind λk=>(aZ f.bd.stack e.2 k).map λk=>(⟨a.loc,k⟩:CP))=some t:=x
  rw[I]at x
  show KF E fls s (((⟨f.fl,f.bd,f.pc+1,f.loc,f.stk⟩:Fr).pop (f.me (.ofNat i)).m.ps.length).bind λp=>JZ E (f.me (.ofNat i)) p.1 (s.top r p.2))
  generalize f.me (.ofNat i)=pm at*
  cases v:pm.m.st with
  |false=>rw[v]at x;cases x
  |true=>
   rw[v]at x
   obtain⟨y,k,U,e,q1,q2,q3,q4⟩:=K.eff x
   have F:y.length=pm.m.ps.length:=by rw[q1.1,List.length_reverse]
   rw[<-F,show(⟨f.fl,f.bd,f.pc+1,f.loc,f.stk⟩:Fr).pop y.length=some (y.reverse,f.up k)from AGH e,Option.bind_some]
   have q:=q1.rev
   rw[List.reverse_reverse]at q
   refine ALf (s:=s.top r (f.up k)) K.C K.hp (K.Aet G H q2 q3 q4) D λown g=>?_
   show Rz E.fs s.hp y.reverse ((bif pm.m.st then[]else[⟨own,false⟩])++pm.m.ps)
   rw[v]
   exact q
theorem yI.fld{x:Ins}(K:yI E fls s f r m A x a t)(hi:i<f.fl.pool.fields.length){o:Cv}(B:VT E.fs s.hp o ⟨(f.fl.pool.fields.getD i fZ).own,false⟩){q:Nat}{th:Th}(u:o.th s=some th)(p:f.slot E (.ofNat i)=.ofNat q):
 th.arr=false/\∀g:Fld,(AOO E.fs th.cls)[q]? =some g->g.ty=(f.fl.pool.fields.getD i fZ).f.ty:=by
 have v:f.fl.pool.fields.getD i fZ∈f.fl.pool.fields:=by
  rw[List.getD_eq_getElem?_getD,List.getElem?_eq_getElem hi];exact List.getElem_mem hi
 have d:rU E.fs (f.fl.pool.fields.getD i fZ)=true:=by
  have:=K.pool
  unfold AAb at this
  simp only[Bool.and_eq_true,List.all_eq_true]at this
  exact this.2.2.1 _ v
 have p:AKC E.fs (f.fl.pool.fields.getD i fZ).own (f.fl.pool.fields.getD i fZ).f.nm=.ofNat q:=p
 generalize f.fl.pool.fields.getD i fZ=pf at*
 obtain⟨-,-,-,c,D⟩:=ALW d
 obtain⟨F,w⟩:=AA1 u
 obtain⟨j,G,H,I,J,L⟩:=AMh (AJI K.C.t D) B F
 rw[H,Nat.add_sub_cancel,I]at w
 cases w
 refine⟨J,λg M=>?_⟩
 obtain⟨k,P,N,y,O⟩:=Aao K.C.t d L
 rw[N]at p
 cases p
 rw[M]at y
 cases y;exact O
theorem ATk{c:Nat}(L:c=16∨c=17)(K:yI E fls s f r m A ⟨.ofNat c,.ofNat i⟩ a t):KF E fls s (Jd E ⟨.ofNat c,.ofNat i⟩ s r {f with pc:=f.pc+1}):=by
 have x:(⟨.ofNat c,.ofNat i⟩:Ins).code≠27:=iE (d:=27) (by omega)
 have y:(⟨.ofNat c,.ofNat i⟩:Ins).code≠29:=iE (d:=29) (by omega)
 have I:=K.inn.fl (by omega)
 rcases L with rfl|rfl
 ·obtain⟨C,k,M,e,q1,q2,q3,q4⟩:=K.eff (ws:=[⟨(f.fl.pool.fields.getD i fZ).own,false⟩]) (w:=some (f.fl.pool.fields.getD i fZ).f.ty) K.ht
  obtain⟨o,rfl,D⟩:=q1.one
  show KF E fls s (((⟨f.fl,f.bd,f.pc+1,f.loc,f.stk⟩:Fr).pop 1).bind λp=>LJ (f.slot E (.ofNat i)) none (hd0 p.1) s r p.2)
  rw[show(⟨f.fl,f.bd,f.pc+1,f.loc,f.stk⟩:Fr).pop 1=some ([o],f.up k)from AGH (vs:=[o]) e]
  refine AXD K x y q2 q3 q4 λq th v u F J=>?_
  obtain⟨G,H⟩:=K.fld I D u F
  have N:=(K.hp th (List.mem_of_getElem? (AA1 u).2)).cls G
  obtain⟨-,R,O⟩:=N
  have P:=(List.getElem?_eq_some_iff.1 J).1
  obtain⟨g,B⟩:∃g,(AOO E.fs th.cls)[q]? =some g:=⟨_,List.getElem?_eq_getElem (by rw[AY4];omega)⟩
  have:=O q v g J B
  rw[H g B]at this;exact this
 ·obtain⟨C,k,M,e,q1,q2,q3,q4⟩:=K.eff (ws:=[(f.fl.pool.fields.getD i fZ).f.ty,⟨(f.fl.pool.fields.getD i fZ).own,false⟩]) (w:=none) K.ht
  obtain⟨w,o,rfl,Q,D⟩:=q1.two
  cases q3
  show KF E fls s (((⟨f.fl,f.bd,f.pc+1,f.loc,f.stk⟩:Fr).pop 2).bind λp=>LJ (f.slot E (.ofNat i)) (some (p.1.getD 1 PD)) (hd0 p.1) s r p.2)
  rw[show(⟨f.fl,f.bd,f.pc+1,f.loc,f.stk⟩:Fr).pop 2=some ([o,w],f.up k)from AGH (vs:=[w,o]) e]
  refine AWk K x y q2 q4 λq th u F _=>?_
  obtain⟨G,H⟩:=K.fld I D u F
  exact⟨λ_ g B=>by rw[H g B];exact Q,λh=>by rw[G]at h;cases h⟩
theorem AUW{c:Nat}(L:c=20∨c=21)(K:yI E fls s f r m A ⟨.ofNat c,.ofNat i⟩ a t):KF E fls s (Jd E ⟨.ofNat c,.ofNat i⟩ s r {f with pc:=f.pc+1}):=by
 have B:(⟨.ofNat c,.ofNat i⟩:Ins).code≠27:=iE (d:=27) (by omega)
 have C:(⟨.ofNat c,.ofNat i⟩:Ins).code≠29:=iE (d:=29) (by omega)
 have g:=K.ht
 have D:(mg E.fs f.fl m f.bd).ty (.ofNat i)=f.fl.pool.types.getD i BU:=rfl
 have key:∀{u:Ty} {o:Cv} {th:Th},u.arr=true->VT E.fs s.hp o u->o.th s=some th->th.arr=true/\th.ty=u:=by
  intro u o th y F x
  have:=ARK F (ATR y) x
  unfold TT at this
  rw[if_pos y]at this;exact this
 rcases L with rfl|rfl
 ·have g:((bif ((mg E.fs f.fl m f.bd).ty (.ofNat i)).arr then some ([C9,(mg E.fs f.fl m f.bd).ty (.ofNat i)],some (Xr ((mg E.fs f.fl m f.bd).ty (.ofNat i))))else none:Option (List Ty×Option Ty)).bind λe=>(Dv E.fs e.1 a.stk).bind λk=>(aZ f.bd.stack e.2 k).map λk=>(⟨a.loc,k⟩:CP))=some t:=g
  rw[D]at g
  generalize f.fl.pool.types.getD i BU=u at*
  cases y:u.arr with
  |false=>rw[y]at g;cases g
  |true=>
   rw[y]at g
   obtain⟨G,k,M,e,q1,q2,q3,q4⟩:=K.eff g
   obtain⟨w,o,rfl,J,F⟩:=q1.two
   show KF E fls s (((⟨f.fl,f.bd,f.pc+1,f.loc,f.stk⟩:Fr).pop 2).bind λp=>LJ (p.1.getD 1 PD).n none (hd0 p.1) s r p.2)
   rw[show(⟨f.fl,f.bd,f.pc+1,f.loc,f.stk⟩:Fr).pop 2=some ([o,w],f.up k)from AGH (vs:=[w,o]) e]
   refine AXD K B C q2 q3 q4 λq th v x N O=>?_
   obtain⟨H,I⟩:=key y F x
   have:=((K.hp th (List.mem_of_getElem? (AA1 x).2)).arr H).2 v (List.mem_of_getElem? O)
   rw[I]at this;exact this
 ·have g:((bif ((mg E.fs f.fl m f.bd).ty (.ofNat i)).arr then some ([Xr ((mg E.fs f.fl m f.bd).ty (.ofNat i)),C9,(mg E.fs f.fl m f.bd).ty (.ofNat i)],none)else none:Option (List Ty×Option Ty)).bind λe=>(Dv E.fs e.1 a.stk).bind λk=>(aZ f.bd.stack e.2 k).map λk=>(⟨a.loc,k⟩:CP))=some t:=g
  rw[D]at g
  generalize f.fl.pool.types.getD i BU=u at*
  cases y:u.arr with
  |false=>rw[y]at g;cases g
  |true=>
   rw[y]at g
   obtain⟨G,k,M,e,q1,q2,q3,q4⟩:=K.eff g
   obtain⟨w,l,rfl,J,q1⟩:=q1.inv
   obtain⟨j,o,rfl,P,F⟩:=q1.two
   cases q3
   show KF E fls s (((⟨f.fl,f.bd,f.pc+1,f.loc,f.stk⟩:Fr).pop 3).bind λp=>LJ (p.1.getD 1 PD).n (some (p.1.getD 2 PD)) (hd0 p.1) s r p.2)
   rw[show(⟨f.fl,f.bd,f.pc+1,f.loc,f.stk⟩:Fr).pop 3=some ([o,j,w],f.up k)from AGH (vs:=[w,j,o]) e]
   refine AWk K B C q2 q4 λq th x N _=>?_
   obtain⟨H,I⟩:=key y F x
   exact⟨λh=>(by rw[H]at h;cases h),λ_=>(by rw[I];exact J)⟩
end
section
variable{E:Ev}{fls:List Fl}{s:Vs}{f:Fr}{r:List Fr}{m:Cb}{A:Nat->Option CP}{i:Nat}{a t:CP}
theorem AFC{c:Nat}{u:Ty}{v:Cv}(g:c≠27/\c≠29)(K:yI E fls s f r m A ⟨.ofNat c,.ofNat i⟩ a t)(p:Jd E ⟨.ofNat c,.ofNat i⟩ s r {f with pc:=f.pc+1}=((⟨f.fl,f.bd,f.pc+1,f.loc,f.stk⟩:Fr).push v).map (s.top r))
 (q:stepT (mg E.fs f.fl m f.bd) a ⟨.ofNat c,.ofNat i⟩=(Cc f.bd.stack u a.stk).map λk=>⟨a.loc,k⟩) (w:VT E.fs s.hp v u):KF E fls s (Jd E ⟨.ofNat c,.ofNat i⟩ s r {f with pc:=f.pc+1}):=by
 rw[p]
 have h:=K.ht
 rw[q]at h
 obtain⟨y,x,rfl⟩:=Option.map_eq_some_iff.1 h
 exact K.AMm (iE (d:=27) g.1) (iE (d:=29) g.2) K.vk x rfl w
theorem ASM{c:Nat}{p u:Ty}{g:List Cv×Fr->Option Vs}(C:c≠27/\c≠29)(K:yI E fls s f r m A ⟨.ofNat c,.ofNat i⟩ a t)(w:Jd E ⟨.ofNat c,.ofNat i⟩ s r {f with pc:=f.pc+1}=((⟨f.fl,f.bd,f.pc+1,f.loc,f.stk⟩:Fr).pop 1).bind g)
 (x:stepT (mg E.fs f.fl m f.bd) a ⟨.ofNat c,.ofNat i⟩=((some ([p],some u):Option (List Ty×Option Ty)).bind λe=>(Dv E.fs e.1 a.stk).bind λk=>(aZ f.bd.stack e.2 k).map λk=>(⟨a.loc,k⟩:CP)))
 (y:∀(v:Cv) (k:List Cv) (d:List Ty),VT E.fs s.hp v p->Rz E.fs s.hp k d->Cc f.bd.stack u d=some t.stk->t.loc=a.loc->KF E fls s (g ([v],f.up k))):KF E fls s (Jd E ⟨.ofNat c,.ofNat i⟩ s r {f with pc:=f.pc+1}):=by
 rw[w]
 have h:=K.ht
 rw[x]at h
 obtain⟨B,k,d,e,q1,q2,q3,q4⟩:=K.eff h
 obtain⟨v,rfl,q⟩:=q1.one
 rw[show(⟨f.fl,f.bd,f.pc+1,f.loc,f.stk⟩:Fr).pop 1=some ([v],f.up k)from AGH (vs:=[v]) e]
 exact y v k d q q2 q3 q4
theorem AUl{c:Nat}{p:Ty}{g:List Cv×Fr->Option Vs}(K:yI E fls s f r m A ⟨.ofNat c,.ofNat i⟩ a t)(d:Jd E ⟨.ofNat c,.ofNat i⟩ s r {f with pc:=f.pc+1}=((⟨f.fl,f.bd,f.pc+1,f.loc,f.stk⟩:Fr).pop 1).bind g)
 (q:stepT (mg E.fs f.fl m f.bd) a ⟨.ofNat c,.ofNat i⟩=((some ([p],none):Option (List Ty×Option Ty)).bind λe=>(Dv E.fs e.1 a.stk).bind λk=>(aZ f.bd.stack e.2 k).map λk=>(⟨a.loc,k⟩:CP)))
 (u:∀(v:Cv) (k:List Cv),Rz E.fs s.hp k t.stk->t.loc=a.loc->KF E fls s (g ([v],f.up k))):KF E fls s (Jd E ⟨.ofNat c,.ofNat i⟩ s r {f with pc:=f.pc+1}):=by
 rw[d]
 have h:=K.ht
 rw[q]at h
 obtain⟨w,k,y,e,q1,q2,q3,q4⟩:=K.eff h
 obtain⟨v,rfl,x⟩:=q1.one
 cases q3
 rw[show(⟨f.fl,f.bd,f.pc+1,f.loc,f.stk⟩:Fr).pop 1=some ([v],f.up k)from AGH (vs:=[v]) e]
 exact u v k q2 q4
theorem yI.stay{c:Nat}(K:yI E fls s f r m A ⟨.ofNat c,.ofNat i⟩ a t){j:Nat}(d:j∈nT ⟨.ofNat c,.ofNat i⟩ f.pc){k:List Cv}(g:Rz E.fs s.hp k t.stk)(p:t.loc=a.loc){ou:List Int}:KF E fls s (some {s with out:=ou,Ur:=⟨f.fl,f.bd,j,f.loc,k⟩::r}):=
 ⟨_,rfl,rfl,λ_=>K.fin d (.refl _) K.hp (by rw[p];exact K.vl) g⟩
end
theorem AUY{α d:Type}{o:Option α}{g:α->d}:o.map g=o.bind λx=>some (g x):=by cases o<;>rfl
section
variable{E:Ev}{fls:List Fl}{s:Vs}{f:Fr}{r:List Fr}{m:Cb}{A:Nat->Option CP}{i:Nat}{a t:CP}
theorem nxt{c:Nat}{pc:Nat}(h:c≠27/\c≠29):pc+1∈nT ⟨.ofNat c,.ofNat i⟩ pc:=AA5 (iE (d:=27) h.1) (iE (d:=29) h.2)
theorem AYJ(K:yI E fls s f r m A ⟨.ofNat 3,.ofNat i⟩ a t):KF E fls s (Jd E ⟨.ofNat 3,.ofNat i⟩ s r {f with pc:=f.pc+1}):=by
 have p:(bif (a.loc.getD i BU).is BU then none else(Cc f.bd.stack (a.loc.getD i BU) a.stk).map λk=>(⟨a.loc,k⟩:CP))=some t:=K.ht
 cases d:(a.loc.getD i BU).is BU with
 |true=>rw[d]at p;cases p
 |false=>
  rw[d]at p
  have g:i<a.loc.length:=by
   rcases Nat.lt_or_ge i a.loc.length with h|h
   ·exact h
   ·rw[List.getD_eq_getElem?_getD,List.getElem?_eq_none h]at d
    exact absurd d (by decide)
  obtain⟨v,q,w⟩:=K.vl.get g
  have e:a.loc.getD i BU=a.loc[i]:=by rw[List.getD_eq_getElem?_getD,List.getElem?_eq_getElem g];rfl
  have ev:f.loc.getD i PD=v:=by rw[List.getD_eq_getElem?_getD,q];rfl
  refine AFC (u:=a.loc.getD i BU) (v:=f.loc.getD i PD) ⟨by decide,by decide⟩ K rfl ?_ (by rw[ev,e];exact w)
  show(bif (a.loc.getD i BU).is BU then none else(Cc f.bd.stack (a.loc.getD i BU) a.stk).map λk=>(⟨a.loc,k⟩:CP))=_
  rw[d];rfl
theorem AWR(K:yI E fls s f r m A ⟨.ofNat 4,.ofNat i⟩ a t):KF E fls s (Jd E ⟨.ofNat 4,.ofNat i⟩ s r {f with pc:=f.pc+1}):=by
 have g:(match a.stk with|[]=>none|p::k=>some (⟨a.loc.set i p,k⟩:CP))=some t:=K.ht
 split at g
 ·cases g
 ·rename_i p k e
  cases g
  have d:=K.vk
  rw[e]at d
  obtain⟨v,l,u,q,d⟩:=d.inv
  show KF E fls s (((⟨f.fl,f.bd,f.pc+1,f.loc,f.stk⟩:Fr).pop 1).map λp=>s.top r {p.2 with loc:=p.2.loc.set i (hd0 p.1)})
  rw[show(⟨f.fl,f.bd,f.pc+1,f.loc,f.stk⟩:Fr).pop 1=some ([v],f.up l)from AGH (vs:=[v]) u]
  exact⟨_,rfl,rfl,λ_=>K.fin (nxt ⟨by decide,by decide⟩) (.refl _) K.hp (K.vl.set q) d⟩
theorem Adh(K:yI E fls s f r m A ⟨.ofNat 31,.ofNat i⟩ a t):KF E fls s (Jd E ⟨.ofNat 31,.ofNat i⟩ s r {f with pc:=f.pc+1}):=by
 have g:(match a.stk with|[]=>none|p::k=>some (⟨a.loc,k⟩:CP))=some t:=K.ht
 split at g
 ·cases g
 ·rename_i p k e
  cases g
  have d:=K.vk
  rw[e]at d
  obtain⟨v,l,q,u,d⟩:=d.inv
  show KF E fls s (((⟨f.fl,f.bd,f.pc+1,f.loc,f.stk⟩:Fr).pop 1).map λp=>s.top r p.2)
  rw[show(⟨f.fl,f.bd,f.pc+1,f.loc,f.stk⟩:Fr).pop 1=some ([v],f.up l)from AGH (vs:=[v]) q]
  exact K.stay (nxt ⟨by decide,by decide⟩) d rfl
theorem Ad5(K:yI E fls s f r m A ⟨.ofNat 18,.ofNat i⟩ a t):KF E fls s (Jd E ⟨.ofNat 18,.ofNat i⟩ s r {f with pc:=f.pc+1}):=by
 obtain⟨G,k,H,e,q1,q2,q3,q4⟩:=K.eff (ws:=[]) (w:=some ⟨f.fl.pool.names.getD i (0,0),false⟩) K.ht
 rw[q1.ANk,List.nil_append]at e
 subst e
 have B:=K.inn.nm (.inl rfl)
 have u:upper (f.fl.pool.names.getD i (0,0)).1 (f.fl.pool.names.getD i (0,0)).2=true:=by
  have p:=NH _ _ (DW K.C.lk).2.1 f.fl K.R.mem
  unfold P9 AON zZ at p
  simp only[Bool.and_eq_true,List.all_eq_true]at p
  have:=p.2.1.2.1 (f.fl.pool.names.getD i (0,0)) (by rw[List.getD_eq_getElem?_getD,List.getElem?_eq_getElem B];exact List.getElem_mem B)
  unfold dh at this
  rw[Bool.and_eq_true]at this
  exact this.1
 have x:∃c,CY E.fs (f.fl.pool.names.getD i (0,0))=some c:=by
  have:=K.pool
  unfold AAb at this
  simp only[Bool.and_eq_true,List.all_eq_true]at this
  have:=this.1 (f.fl.pool.names.getD i (0,0)) (by rw[List.getD_eq_getElem?_getD,List.getElem?_eq_getElem B];exact List.getElem_mem B) ⟨f.fl.pool.names.getD i (0,0),false⟩ (List.mem_cons_self ..)
  unfold Um at this
  rw[Bool.and_eq_true,u]at this
  exact Option.isSome_iff_exists.1 (by simpa using this.2)
 refine APp K (iE (d:=27) (by decide)) (iE (d:=29) (by decide)) q2 q3 q4 λq y=>?_
 have y:((sizeT E.fs (f.fl.pool.names.getD i (0,0)):Nat):Int)=.ofNat q:=y
 have y:sizeT E.fs (f.fl.pool.names.getD i (0,0))=q:=Int.ofNat.inj y
 show ThV E.fs (s.hp++[⟨f.fl.pool.names.getD i (0,0),false,BU,[],List.replicate q PD⟩]) ⟨f.fl.pool.names.getD i (0,0),false,BU,[],List.replicate q PD⟩/\TT E.fs ⟨f.fl.pool.names.getD i (0,0),false,BU,[],List.replicate q PD⟩ ⟨f.fl.pool.names.getD i (0,0),false⟩
 generalize f.fl.pool.names.getD i (0,0)=cl at*
 refine⟨⟨λ_=>⟨x,by rw[List.length_replicate];exact y.symm,λk v g F _=>?_⟩,λe=>(by cases e)⟩,?_⟩
 ·rw[List.eq_of_mem_replicate (List.mem_of_getElem? F)];exact bH
 ·unfold TT
  rw[if_neg (show ¬(⟨cl,false⟩:Ty).arr=true from Bool.false_ne_true)]
  obtain⟨c,D⟩:=x
  refine⟨u,rfl,?_⟩
  unfold Dk
  rw[ND]
  exact(EG (K.C.t.w _ c D)).hd λe=>by
   have:=AJI K.C.t D
   rw[e]at this
   exact absurd this (by decide)
theorem AXu(K:yI E fls s f r m A ⟨.ofNat 19,.ofNat i⟩ a t):KF E fls s (Jd E ⟨.ofNat 19,.ofNat i⟩ s r {f with pc:=f.pc+1}):=by
 have u:((bif ((mg E.fs f.fl m f.bd).ty (.ofNat i)).arr then some ([C9],some ((mg E.fs f.fl m f.bd).ty (.ofNat i)))else none:Option (List Ty×Option Ty)).bind λe=>(Dv E.fs e.1 a.stk).bind λk=>(aZ f.bd.stack e.2 k).map λk=>(⟨a.loc,k⟩:CP))=some t:=K.ht
 cases p:((mg E.fs f.fl m f.bd).ty (.ofNat i)).arr with
 |false=>rw[p]at u;cases u
 |true=>
  have g:stepT (mg E.fs f.fl m f.bd) a ⟨.ofNat 19,.ofNat i⟩=((bif ((mg E.fs f.fl m f.bd).ty (.ofNat i)).arr then some ([C9],some ((mg E.fs f.fl m f.bd).ty (.ofNat i)))else none:Option (List Ty×Option Ty)).bind λe=>(Dv E.fs e.1 a.stk).bind λk=>(aZ f.bd.stack e.2 k).map λk=>(⟨a.loc,k⟩:CP)):=rfl
  rw[p]at g
  refine ASM ⟨by decide,by decide⟩ K rfl g λv k C w x y B=>?_
  refine APp K (iE (d:=27) (by decide)) (iE (d:=29) (by decide)) x y B λq D=>?_
  refine⟨⟨λe=>(by cases e),λ_=>⟨p,λv w=>?_⟩⟩,?_⟩
  ·rw[List.eq_of_mem_replicate w];exact bH
  ·unfold TT
   rw[if_pos p]
   exact⟨rfl,rfl⟩
theorem Aaq{x:Ins}(K:yI E fls s f r m A x a t)(L:x.code≠29):KF E fls s (Jd E x s r {f with pc:=f.pc+1}):=by
 obtain⟨c,i,rfl,G⟩:=AAZ K.ins
 have T:=G.lo
 have U:=G.hi
 have R:c≠29:=λe=>L (by rw[e];rfl)
 have Y:∀{u:Ty},u=Ew->u.obj=false:=λh=>(by rw[h];decide)
 by_cases q:5<=c/\c<=13
 ·exact Adk q K
 have V:c=1∨c=2∨c=3∨c=4∨c=14∨c=15∨c=16∨c=17∨c=18∨c=19∨c=20∨c=21∨c=22∨c=23∨c=24∨c=25∨c=26∨c=27∨c=28∨c=30∨c=31∨c=32:=by omega
 rcases V with rfl|rfl|rfl|rfl|rfl|rfl|rfl|rfl|rfl|rfl|rfl|rfl|rfl|rfl|rfl|rfl|rfl|rfl|rfl|rfl|rfl|rfl
 ·exact AFC (u:=C9) ⟨by decide,by decide⟩ K rfl rfl bH
 ·exact AFC (u:=CZ) (v:=PD) ⟨by decide,by decide⟩ K rfl rfl bH
 ·exact AYJ K
 ·exact AWR K
 ·exact ASM ⟨by decide,by decide⟩ K rfl rfl λv k S y q B H=>K.AMm (iE (d:=27) (by decide)) (iE (d:=29) (by decide)) q B H bH
 ·exact ASM ⟨by decide,by decide⟩ K rfl rfl λv k S y q B H=>K.AMm (iE (d:=27) (by decide)) (iE (d:=29) (by decide)) q B H (AJ3 (by decide))
 ·exact ATk (.inl rfl) K
 ·exact ATk (.inr rfl) K
 ·exact Ad5 K
 ·exact AXu K
 ·exact AUW (.inl rfl) K
 ·exact AUW (.inr rfl) K
 ·refine ATM (P:=λt=>t.arr||t.is CZ) (u:=C9) ⟨by decide,by decide⟩ K rfl rfl λv p k _ y D=>?_
  show KF E fls s (match v.th s with|none=>some ((s.top r (f.up k)).stop 1)|some th=>((f.up k).push ⟨(th.vals.length:Nat),0⟩).map (s.top r))
  cases v.th s with
  |none=>exact .stop rfl (by decide)
  |some th=>exact D _ bH
 ·refine ATM (P:=λt=>t.cls||t.is CZ) (u:=⟨f.fl.pool.names.getD i (0,0),false⟩) ⟨by decide,by decide⟩ K rfl rfl λv p k M y D=>?_
  show KF E fls s (match v.th s with|none=>((f.up k).push v).map (s.top r)|some th=>bif Dk E.fs th.cls (f.fl.pool.names.getD i (0,0))then((f.up k).push v).map (s.top r)else some ((s.top r (f.up k)).stop 4))
  cases F:v.th s with
  |none=>
   refine D _ λ_=>.inl ?_
   rcases Bool.or_eq_true .. ▸M with h|h
   ·rcases y (AJw h)with h|⟨th,B,H,-⟩
    ·exact h
    ·rcases AZz F with J|J
     ·exact J
     ·rw[H]at J;cases J
   ·rw[Ty.Jr.1 h]at y
    exact ALD y
  |some th=>
   simp only
   cases I:Dk E.fs th.cls (f.fl.pool.names.getD i (0,0))with
   |false=>exact .stop rfl (by decide)
   |true=>
    obtain⟨W,q⟩:=AA1 F
    refine D _ λ_=>.inr ⟨th,by omega,q,?_⟩
    have Z:=K.inn.nm (.inr (.inl rfl))
    unfold TT
    rw[if_neg (show ¬(⟨f.fl.pool.names.getD i (0,0),false⟩:Ty).arr=true from Bool.false_ne_true)]
    rcases Bool.or_eq_true .. ▸M with h|h
    ·have N:=ARK y (AJw h) F
     unfold TT at N
     rw[if_neg (by rw[ABJ h];decide)]at N
     refine⟨?_,N.2.1,I⟩
     unfold Dk at I
     rw[ND]at I
     obtain⟨X,O⟩:=Jf I
     obtain⟨c2,Q⟩:=(EG (K.C.t.w _ X O)).known I
     exact K.C.t.u _ _ Q
    ·rw[Ty.Jr.1 h]at y
     exact absurd (ALD y) W
 ·refine ATM (P:=λt=>t.cls||t.is CZ) (u:=Ew) ⟨by decide,by decide⟩ K rfl rfl λv p k M y D=>?_
  show KF E fls s (match v.th s with|none=>((f.up k).push (XL false)).map (s.top r)|some th=>((f.up k).push (XL (Dk E.fs th.cls (f.fl.pool.names.getD i (0,0))))).map (s.top r))
  cases v.th s with
  |none=>exact D _ (AJ3 (by decide))
  |some th=>exact D _ (AJ3 (by decide))
 ·exact ATh (.inl rfl) K
 ·exact ATh (.inr rfl) K
 ·obtain⟨vs,k,S,e,q1,q2,q3,q4⟩:=K.eff (ws:=[]) (w:=none) K.ht
  rw[q1.ANk,List.nil_append]at e
  subst e
  cases q3
  exact K.stay (AMa (.inl rfl)) q2 q4
 ·refine AUl (p:=Ew) (g:=λp=>some (s.top r (bif decide ((hd0 p.1).n=0)then{p.2 with pc:=i}else p.2))) K AUY rfl λv k q B=>?_
  show KF E fls s (some (s.top r (bif decide (v.n=0)then{f.up k with pc:=i}else f.up k)))
  cases decide (v.n=0)with
  |true=>exact K.stay (AMa (.inr rfl)) q B
  |false=>exact K.stay (nxt ⟨by decide,by decide⟩) q B
 ·exact AUl (p:=C9) (g:=λp=>some {s.top r p.2 with out:=s.out++[(hd0 p.1).n]}) K AUY rfl λv k q B=>K.stay (nxt ⟨by decide,by decide⟩) q B
 ·exact Adh K
 ·exact AFC (u:=Ew) ⟨by decide,by decide⟩ K rfl rfl bH
end
section
variable{E:Ev}{fls:List Fl}
theorem AMc(C:Ce E fls){s:Vs}{f:Fr}{r:List Fr}(h:AFP E fls s)(O:s.Ur=f::r):∃x,f.bd.code[f.pc]? =some x/\Xm (mny f.fl.pool f.bd) x=true/\f.pc<f.bd.code.length/\f.bd.code.length<=16384/\
 (x.code≠29->∃s',Jd E x (s.tick s.Ur) r {f with pc:=f.pc+1}=some s'/\s'.steps=s.steps-1/\(s'.trap=0->AFP E fls s'))/\
 (x.code=29->∃v k,f.stk=v::k/\(r=[]->AFP E fls (s.tick []))/\∀q H,r=q::H->∃P,q.push v=some P/\AFP E fls (s.tick (P::H))):=by
 obtain⟨I,B⟩:=h
 rw[O]at B
 obtain⟨m,A,⟨R,d,a,U,V,Q⟩,g⟩:=B
 obtain⟨-,p⟩:=R.post
 obtain⟨t,D,S⟩:=p f.pc a d U
 have J:(mg E.fs f.fl m f.bd).at f.pc=f.bd.code[f.pc]:=by show(f.bd.code[f.pc]?).getD xZ=_;rw[List.getElem?_eq_getElem d];rfl
 rw[J]at D S
 have i:=R.bf.ins _ (List.getElem_mem d)
 refine⟨f.bd.code[f.pc],List.getElem?_eq_getElem d,i,d,R.bf.c1,λF=>?_,λF=>?_⟩
 ·obtain⟨s',K,L,T⟩:=Aaq (s:=s.tick (f::r)) (f:=f) (r:=r) (m:=m) (A:=A) (a:=a) (t:=t) (x:=f.bd.code[f.pc]) ⟨C,I,R,V,Q,g,i,D,S⟩ F
  rw[O]
  exact⟨s',K,L,T⟩
 ·generalize f.bd.code[f.pc]=x at*
  obtain⟨W,xa⟩:=x
  have F:W=29:=F
  subst F
  have D:((some ([m.ret],none):Option (List Ty×Option Ty)).bind λe=>(Dv E.fs e.1 a.stk).bind λk=>(aZ f.bd.stack e.2 k).map λk=>(⟨a.loc,k⟩:CP))=some t:=D
  obtain⟨X,w',r0,t2,K,L,T,rfl⟩:=AUO (c:=mg E.fs f.fl m f.bd) D
  cases K
  obtain⟨vs,k,e,q1,q2⟩:=Q.split C.t.w C.t.u L
  obtain⟨v,rfl,Y⟩:=q1.one
  refine⟨v,k,e,λ_=>⟨I,trivial⟩,λq H Z=>?_⟩
  subst Z
  obtain⟨m2,A2,⟨M,N,G,a2,t',ts,b1,b2,b3,b4,b5⟩,y⟩:=g
  refine⟨{q with stk:=v::q.stk},?_,I,m2,A2,⟨⟨M.mem,M.bf,M.post⟩,N,a2,b1,b4,?_⟩,y⟩
  ·unfold Fr.push
   rw[decide_eq_true G];rfl
  ·rw[b2]
   exact .cons (AJS C.t.w C.t.u b3 Y) b5
theorem run_end(C:Ce E fls):∀(g:Nat) (s:Vs) (l:Cv),(s.trap=0->AFP E fls s)->(s.trap=0->s.steps.toNat+2<=g)->1<=g->∃t v,lT E g s l=some (t,v)
 |0,_,_,_,_,h=>by omega
 |g+1,s,l,h,A,_=>by
  unfold lT
  cases B:s.Ur with
  |nil=>exact⟨_,_,rfl⟩
  |cons f r=>
   simp only
   cases I:decide (s.trap=0)with
   |false=>exact⟨_,_,rfl⟩
   |true=>
    have m:=of_decide_eq_true I
    have A:=A m
    have d:1<=g:=by omega
    obtain⟨x,J,-,-,-,D,F⟩:=AMc C (h m) B
    rw[cond_true]
    cases G:decide (s.steps-1<0)with
    |true=>exact⟨_,_,rfl⟩
    |false=>
     have G:=of_decide_eq_false G
     rw[cond_false,J,Option.bind_some]
     have i:∀{q:List Fr},(s.tick q).steps.toNat+2<=g:=λ{q}=>by show(s.steps-1).toNat+2<=g;clear D F;omega
     cases H:decide (x.code=29)with
     |true=>
      obtain⟨v,k,p,u,y⟩:=F (of_decide_eq_true H)
      rw[cond_true,show(⟨f.fl,f.bd,f.pc+1,f.loc,f.stk⟩:Fr).pop 1=some ([v],f.up k)from AGH (vs:=[v]) p,Option.bind_some]
      cases r with
      |nil=>exact run_end C g (s.tick []) _ (λ_=>u rfl) (λ_=>i) d
      |cons q r=>
       obtain⟨N,K,L⟩:=y q r rfl
       show ∃t w,((q.push v).bind λq=>lT E g (s.tick (q::r)) v)=some (t,w)
       rw[K,Option.bind_some]
       exact run_end C g (s.tick _) _ (λ_=>L) (λ_=>i) d
     |false=>
      obtain⟨M,p,u,y⟩:=D (of_decide_eq_false H)
      rw[B]at p
      rw[cond_false,p,Option.bind_some]
      refine run_end C g M l y (λ_=>?_) d
      rw[u];exact i (q:=[])
end
section
variable{E:Ev}
theorem AF9:∀{g:Nat} {s t:Vs} {l v:Cv},lT E g s l=some (t,v)->s.out<+:t.out
 |0,_,_,_,_,h=>by cases h
 |g+1,s,t,l,v,h=>by
  unfold lT at h
  split at h
  ·cases h;exact List.prefix_refl _
  ·rename_i f r _
   cases d:decide (s.trap=0)with
   |false=>rw[d]at h;cases h;exact List.prefix_refl _
   |true=>
    rw[d,cond_true]at h
    cases k:decide (s.steps-1<0)with
    |true=>rw[k]at h;cases h;exact List.prefix_refl _
    |false=>
     rw[k,cond_false]at h
     obtain⟨i,-,h⟩:=Option.bind_eq_some_iff.1 h
     cases m:decide (i.code=29)with
     |true=>
      rw[m,cond_true]at h
      obtain⟨p,-,h⟩:=Option.bind_eq_some_iff.1 h
      split at h
      ·have:=AF9 h
       exact this
      ·obtain⟨q,-,h⟩:=Option.bind_eq_some_iff.1 h
       have:=AF9 h
       exact this
     |false=>
      rw[m,cond_false]at h
      obtain⟨x,w,h⟩:=Option.bind_eq_some_iff.1 h
      have u:=AU8 (E:=E) (i:=i) (s:=s.tick s.Ur) (r:=r) (f:={f with pc:=f.pc+1})
      rw[w]at u
      exact List.IsPrefix.trans u (AF9 h)
theorem APl{g:Nat}{s t:Vs}{l v:Cv}(d:AEw s.trap=true)(h:lT E g s l=some (t,v)):t=s:=by
 cases g with
 |zero=>cases h
 |succ g=>
  unfold lT at h
  split at h
  ·cases h;rfl
  ·rw[show decide (s.trap=0)=false from decide_eq_false λe=>by rw[e]at d;cases d]at h
   cases h;rfl
theorem AN2{s:Vs}{x y z:Nat}{fs:List Fr}:(s.up x y z).tick fs=(s.tick fs).up x y z:=by
 have e:s.steps+x-1=s.steps-1+x:=by omega
 show Vs.mk (s.steps+x-1) _ _ _ _ _ _=Vs.mk (s.steps-1+x) _ _ _ _ _ _
 rw[e];rfl
theorem AOh{x y z:Nat}:∀{g:Nat} {s t:Vs} {l v:Cv} {B:Nat} {u:Vs} {v':Cv},lT E g s l=some (t,v)->lT E B (s.up x y z) l=some (u,v')->
 (AEw t.trap=true/\t.out<+:u.out)∨(u=t.up x y z/\v'=v)
 |0,_,_,_,_,_,_,_,h,_=>by cases h
 |_+1,_,_,_,_,0,_,_,_,h=>by cases h
 |g+1,s,t,l,v,B+1,u,v',h,d=>by
  have k:=AF9 d
  unfold lT at h d
  cases w:s.Ur with
  |nil=>
   rw[w]at h
   rw[show(s.up x y z).Ur=[]from w]at d
   cases h;cases d;exact .inr ⟨rfl,rfl⟩
  |cons f r=>
   rw[show(s.up x y z).Ur=f::r from w]at d
   rw[w]at h
   simp only at h d
   rw[show decide ((s.up x y z).trap=0)=decide (s.trap=0)from rfl]at d
   cases C:decide (s.trap=0)with
   |false=>
    rw[C]at h d
    cases h;cases d;exact .inr ⟨rfl,rfl⟩
   |true=>
    rw[C,cond_true]at h d
    cases A:decide (s.steps-1<0)with
    |true=>
     rw[A]at h
     cases h
     exact .inl ⟨rfl,k⟩
    |false=>
     have G:=of_decide_eq_false A
     rw[A,cond_false]at h
     rw[show decide ((s.up x y z).steps-1<0)=false from decide_eq_false (by show ¬(s.steps+x-1<0);omega),cond_false]at d
     obtain⟨i,H,h⟩:=Option.bind_eq_some_iff.1 h
     rw[H,Option.bind_some]at d
     cases D:decide (i.code=29)with
     |true=>
      rw[D,cond_true]at h d
      obtain⟨p,I,h⟩:=Option.bind_eq_some_iff.1 h
      rw[I,Option.bind_some]at d
      cases r with
      |nil=>
       simp only at h d
       rw[AN2]at d
       exact AOh h d
      |cons q r=>
       simp only at h d
       obtain⟨M,J,h⟩:=Option.bind_eq_some_iff.1 h
       rw[J,Option.bind_some,AN2]at d
       exact AOh h d
     |false=>
      rw[D,cond_false]at h d
      obtain⟨N,K,h⟩:=Option.bind_eq_some_iff.1 h
      obtain⟨O,m,d⟩:=Option.bind_eq_some_iff.1 d
      have e:=step_up (E:=E) (x:=x) (y:=y) (z:=z) (i:=i) (s:=s.tick (f::r)) (r:=r) (f:={f with pc:=f.pc+1})
      rw[AN2]at m
      rw[K,m]at e
      rcases e with⟨F,L⟩|e
      ·have:=APl F h
       subst this
       refine .inl ⟨F,?_⟩
       rw[L];exact k
      ·cases e
       exact AOh h d
end
end Go.RL
