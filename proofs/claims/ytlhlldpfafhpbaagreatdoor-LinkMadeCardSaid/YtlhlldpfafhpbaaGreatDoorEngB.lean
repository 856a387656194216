/- Part of a proof; nothing is assumed. -/
import Derived.Test.YtlhlldpfafhpbaaGreatDoorEngA
import Derived.IntWalk
import Derived.Laws.Strings
import Derived.Laws.Small
import Derived.Laws.Cells
import Derived.Laws.NewBlocks
import Derived.Laws.Tables
import Derived.Laws.CopyRow
import Derived.Lib.Builder
import Derived.Lib.UnsafeStr
import Derived.Laws.StructEq
import Derived.Laws.Pointers
import Derived.Laws.Slices
import Derived.Laws.Concat
import Derived.Laws.BytesString
import Derived.Laws.Externs
import Derived.LaidEql
set_option linter.unusedVariables false
set_option linter.unusedSimpArgs false
namespace Go.BN
def P2.key:P2->Nat|.h=>0|.z p=>2*p.key+1|.o p=>2*p.key+2
section
variable{α:Type}
@[simp] theorem T.AZQ:(T.e:T α).val=none:=rfl
@[simp] theorem T.AYN:(T.e:T α).left=.e:=rfl
@[simp] theorem T.AXc:(T.e:T α).right=.e:=rfl
@[simp] theorem T.AZs(v:Option α)(l r:T α):(T.n v l r).val=v:=rfl
@[simp] theorem T.AGh(v:Option α)(l r:T α):(T.n v l r).left=l:=rfl
@[simp] theorem T.ACV(v:Option α)(l r:T α):(T.n v l r).right=r:=rfl
abbrev T.ANn(t:T α):T.Ch .h t=t.val:=rfl
@[simp] theorem T.yh:∀(p:P2),T.Ch p (T.e:T α)=none
 |.h=>rfl
 |.z p=>by exact T.yh p
 |.o p=>by exact T.yh p
@[simp] theorem T.Pc(x:α):∀(p:P2) (t:T α),T.Ch p (T.VB x p t)=some x
 |.h,t=>rfl
 |.z p,t=>by exact T.Pc x p _
 |.o p,t=>by exact T.Pc x p _
abbrev T.Fb(x:α):∀(p q:P2) (t:T α),p≠q->T.Ch q (T.VB x p t)=T.Ch q t
 |.h,.h,_,h=>absurd rfl h
 |.h,.z q,t,_=>by rfl
 |.h,.o q,t,_=>by rfl
 |.z p,.h,t,_=>rfl
 |.o p,.h,t,_=>rfl
 |.z p,.z q,t,h=>by exact T.Fb x p q _ (λe=>h (by rw[e]))
 |.o p,.o q,t,h=>by exact T.Fb x p q _ (λe=>h (by rw[e]))
 |.z p,.o q,t,_=>by rfl
 |.o p,.z q,t,_=>by rfl
end
abbrev AMY:∀(f k:Nat),k<f->(AKU f k).key=k:=by
 intro f;induction f with
 |zero=>omega
 |succ f g=>
  intro k h;cases k with
  |zero=>rfl
  |succ m=>
   have i:m/2<f:=a6;have p:=g _ i;show(Bool.rec (P2.o (AKU f _)) (P2.z (AKU f _)) _:P2).key=m+1;have q:Nat.div m 2=m/2:=rfl;have d:Nat.mod m 2=m%2:=rfl;rw[q,d];rcases Nat.mod_two_eq_zero_or_one m with e|e;all_goals(simp[e,P2.key];omega)
@[simp] theorem xJ(k:Nat):(Kw k).key=k:=AMY _ _ (_p k)
variable{j:Nat}
abbrev X0{k:Nat}(h:Kw j=Kw k):j=k:=by rw[<-xJ j,h,xJ]
section
variable{α:Type}
@[simp] theorem T.AVB(k:Nat):T.get (T.e:T α) k=none:=T.yh _
@[simp] theorem T.B4(t:T α)(k:Nat)(x:α):T.get (T.set t k x) k=some x:=T.Pc _ _ _
abbrev T.Ac(t:T α){k:Nat}(x:α)(h:k≠j):T.get (T.set t k x) j=T.get t j:=T.Fb _ _ _ _ λe=>h (X0 e)
abbrev T.Mt(t:T α)(k j:Nat)(x:α):T.get (T.set t k x) j=if k=j then some x else T.get t j:=by
 by_cases h:k=j
 .subst h;simp
 .simp[h,T.Ac t x h]
end
section
variable{α:Type}
@[simp] theorem len_eq(l:List α):len l=l.length:=by induction l with|nil=>rfl|cons x l ih=>show Nat.succ (len l)=_;rw[ih];rfl
@[simp] theorem ACg(a b:List α):cat a b=a++b:=by induction a with|nil=>rfl|cons x l ih=>show x::cat l b=_;rw[ih];rfl
@[simp] theorem oW:∀(l:List α) (i:Nat),nth l i=l[i]?
 |[],_=>by rfl
 |_::_,0=>rfl
 |x::l,i+1=>by show nth l i=_;rw[oW l i];simp
@[simp] theorem ABE(x:α):∀(l:List α) (i:Nat),cA x l i=l.set i x
 |[],_=>by rfl
 |_::_,0=>rfl
 |y::l,i+1=>by show y::cA x l i=_;rw[ABE x l i];rfl
@[simp] theorem aK:∀(n:Nat) (l:List α),Vu n l=l.take n
 |0,_=>rfl
 |_+1,[]=>rfl
 |n+1,x::l=>by show x::Vu n l=_;rw[aK n l];rfl
@[simp] theorem fK:∀(n:Nat) (l:List α),fk n l=l.drop n
 |0,_=>rfl
 |_+1,[]=>rfl
 |n+1,x::l=>by show fk n l=_;rw[fK n l];rfl
@[simp] theorem ABY:∀(l:List α) (i:Nat),zy l i=l.eraseIdx i
 |[],_=>by rfl
 |_::_,0=>rfl
 |y::l,i+1=>by show y::zy l i=_;rw[ABY l i];rfl
end
@[simp] theorem ADh:∀(l:List V) (i:Nat),ALr l i=(l[i]?).getD .undef
 |[],_=>by rfl
 |_::_,0=>rfl
 |x::l,i+1=>by show ALr l i=_;rw[ADh l i];simp
@[simp] theorem wv(new:LV)(i:Nat)(l:LV):AEW new i l=l.take i++(new++l.drop (i+new.length)):=by
 show cat _ _=_
 simp
@[simp] theorem AXJ(l:List X)(R:RS):Zy l R=l.map (·.ev R):=by induction l with|nil=>rfl|cons x l ih=>show x.ev R::Zy l R=_;rw[ih];rfl
@[simp] theorem js(b:Bool):Lf b= !b:=by cases b<;>rfl
@[simp] theorem A6(a b:Bool):band a b=(a&&b):=by cases a<;>cases b<;>rfl
@[simp] theorem ADg(a b:Bool):ALW a b=(a==b):=by cases a<;>cases b<;>rfl
@[simp] theorem NA(b:Bool):R9 b=some (.bool b):=by cases b<;>rfl
variable{b:Bool}{v:V}
abbrev BC{o:aAl}:Az b o=some v↔b=true/\o=some v:=by cases b<;>simp[Az]
@[simp] theorem Xj(b:Bool)(x y:Option V):uK b x y=if b then x else y:=by cases b<;>rfl
@[simp] theorem Du(b:Bool)(p:Prop):B7 b p↔b=true/\p:=by cases b<;>simp[B7]
abbrev G1{α:Type}(o:Option α)(f:α->Prop):CR o f↔∃x,o=some x/\f x:=by cases o<;>simp[CR]
abbrev xZ(o:aAl)(f:V->Prop):AD o f↔∃x,o=some x/\f x:=by cases o<;>simp[AD]
abbrev Sy{o:aAB}{f:LV->aAl}:Pe o f=some v↔∃x,o=some x/\f x=some v:=by cases o<;>simp[Pe]
abbrev BQ{α d:Type}{o:Option α}{f:α->Option d}{v:d}:BB o f=some v↔∃x,o=some x/\f x=some v:=by cases o<;>simp[BB]
abbrev oe{o:aAn}{f:Bool->aAn}{v:Bool}:K8 o f=some v↔∃x,o=some x/\f x=some v:=by cases o<;>simp[K8]
@[simp] theorem AUs(v:V):Ij (some v)=v:=rfl
@[simp] theorem AKG:Ij none=.undef:=rfl
@[simp] theorem Sx(n:Int)(f:Int->Option V):S4 n f=f n:=by rfl
@[simp] theorem BF(n:Nat)(f:Nat->Option V):CC n f=f n:=by cases n<;>rfl
@[simp] theorem A8(n:Nat)(f:Nat->Prop):CS n f=f n:=by cases n<;>rfl
abbrev beq_iff{a b:Nat}:Nat.beq a b=true↔a=b:=o6
variable{k:IntKind}
abbrev ANs{n:Int}(h:inr k n=true):k.min<=n/\n<=k.max:=by
 cases n with
 |ofNat m=>cases k<;>(simp[inr,AWp]at h;simp[IntKind.min,IntKind.max,IntKind.signed,IntKind.bits];omega)
 |negSucc m=>cases k<;>(simp[inr,AVY]at h;try (simp[IntKind.min,IntKind.max,IntKind.signed,IntKind.bits];omega))
abbrev NB(k:IntKind)(n:Int):V9 k n=k.wrap n:=by
 unfold V9;cases h:inr k n with
 |false=>rfl
 |true=>
  have d:=ANs h;cases k<;>simp[IntKind.min,IntKind.max,IntKind.signed,IntKind.bits]at d
  .exact(IntWalk.i8_in n ⟨a6,a6⟩).symm
  .exact(IntWalk.i16_in n ⟨a6,a6⟩).symm
  .exact(IntWalk.i32_in n ⟨a6,a6⟩).symm
  .exact(IntWalk.i64_in n ⟨a6,a6⟩).symm
  .exact(IntWalk.u8_in n ⟨a6,a6⟩).symm
  .exact(IntWalk.u16_in n ⟨a6,a6⟩).symm
  .exact(IntWalk.u32_in n ⟨a6,a6⟩).symm
  .exact(IntWalk.u64_in n ⟨a6,a6⟩).symm
@[simp] theorem ALz(k:IntKind)(n:Int):Zn k n 0=some (.int k (k.wrap n) 0):=by
 show ASu k n=_
 simp[ASu,NB]
abbrev ASL(k:IntKind)(n:Int)(s:Nat):∃d,Zn k n s=some (.int k (k.wrap n) d)/\d<=1:=by
 cases s with
 |zero=>simp
 |succ s=>exact⟨1,rfl,a6⟩
@[simp] theorem cr(a b:Int):wh a b=a+b:=by
 cases a<;>cases b<;>simp[wh,AQ1]
 .rfl
 .rfl
 .rfl
@[simp] theorem iI(a b:Int):dh a b=decide (a<=b):=by
 cases a with
 |ofNat m=>cases b with
  |ofNat n=>show Nat.ble m n=_;rw[zc];simp
  |negSucc n=>show false=_;simp;omega
 |negSucc m=>cases b with
  |ofNat n=>show true=_;simp;omega
  |negSucc n=>show Nat.ble n m=_;rw[zc];simp;omega
@[simp] theorem Sm(a b:Int):UG a b=decide (a<b):=by
 cases a with
 |ofNat m=>cases b with
  |ofNat n=>show Nat.blt m n=_;rw[zc];simp[xi]
  |negSucc n=>show false=_;simp;omega
 |negSucc m=>cases b with
  |ofNat n=>show true=_;simp;omega
  |negSucc n=>show Nat.blt n m=_;rw[zc];simp[xi];omega
@[simp] theorem PD(a b:Int):ieq a b=(a==b):=by
 cases a with
 |ofNat m=>cases b with
  |ofNat n=>show Nat.beq m n=_;rw[zc];simp;omega
  |negSucc n=>show false=_;simp
 |negSucc m=>cases b with
  |ofNat n=>show false=_;simp
  |negSucc n=>show Nat.beq n m=_;rw[zc];simp;omega
abbrev APo{a b:IntKind}(h:lS a=lS b):a=b:=by cases a<;>cases b<;>first|rfl|trivial
@[simp] theorem Hm(a b:IntKind):keq a b=true↔a=b:=⟨λh=>APo (by simpa[keq]using h),λh=>by subst h;simp[keq]⟩
def enc:aAA->Nat
 |[]=>0
 |b::l=>b.toNat+256*enc l
abbrev yO:∀(a b:aAA),enc (a++b)=enc a+256^a.length*enc b
 |[],b=>by simp[enc]
 |x::a,b=>by simp[enc,yO a b,Nat.pow_succ,F_ _ 256,Nat.mul_assoc];omega
abbrev zp:∀(n:Nat) (l:aAA),enc (l.drop n)=enc l/256^n
 |0,l=>o6
 |n+1,[]=>by simp[enc]
 |n+1,b::l=>by have d:=b.toNat_lt;rw[List.drop_succ_cons,zp n l,enc,Nat.pow_succ',<-Nat.div_div_eq_div_mul];congr 1;omega
abbrev AE5:∀(n:Nat) (l:aAA),enc (l.take n)=enc l%256^n
 |0,l=>by simp[enc,Nat.mod_one]
 |n+1,[]=>by rfl
 |n+1,b::l=>by have d:=b.toNat_lt;rw[List.take_succ_cons,enc,AE5 n l,enc,Nat.pow_succ',Nat.mod_mul];have f:(b.toNat+256*enc l)/256=enc l:=a6;simp[*]
abbrev AId:∀(a b:aAA),a.length=b.length->enc a=enc b->a=b
 |[],[],_,_=>rfl
 |[],_::_,h,_=>by trivial
 |_::_,[],h,_=>by trivial
 |x::a,y::b,h,d=>by have i:=x.toNat_lt;have k:=y.toNat_lt;simp only[enc]at d;have f:x.toNat=y.toNat:=a6;have g:enc a=enc b:=a6;rw[AId a b (by simp_all) g,G'.1 f]
abbrev ALO(l:aAA)(i:Nat)(h:i<l.length):AM5 (enc l) i=(l[i]).toNat:=by show enc l/256^i%256=_;rw[<-zp,uv h,enc];simp
abbrev AMl(l:aAA)(a b:Nat):AVw (enc l) a b=enc ((l.drop a).take (b-a)):=by show enc l/256^a%256^(b-a)=_;rw[AE5,zp]
abbrev ALd(a b:aAA):AWn a.length (enc a) (enc b)=enc (a++b):=by show enc a+256^a.length*enc b=_;rw[yO]
abbrev ARA:∀(b a:aAA) (f:Nat),b.length<f->ASG f a.length (enc a) b.length (enc b)=Op.bytesLess a b
 |[],a,f+1,_=>by cases a<;>rfl
 |y::b,[],f+1,_=>rfl
 |y::b,x::a,f+1,h=>by
  have v:x.toNat<256:=x.toNat_lt;have w:y.toNat<256:=y.toNat_lt;have g:=ARA b a f (by simp_all);show(Bool.rec (Nat.blt (enc (x::a)%256) (enc (y::b)%256)) (ASG f a.length (enc (x::a)/256) b.length (enc (y::b)/256)) (Nat.beq (enc (x::a)%256) (enc (y::b)%256)):Bool)=_;have i:enc (x::a)%256=x.toNat:=by simp[enc]
  have k:enc (x::a)/256=enc a:=by simp[enc];omega
  have m:enc (y::b)%256=y.toNat:=by simp[enc]
  have p:enc (y::b)/256=enc b:=by simp[enc];omega
  rw[i,k,m,p,g];simp only[Op.bytesLess];by_cases d:x=y
  .simp[*]
  .have q:x.toNat≠y.toNat:=λe=>d (G'.1 e);have u:Nat.beq x.toNat y.toNat=false:=by cases A:Nat.beq x.toNat y.toNat<;>simp_all
   rw[u];show Nat.blt x.toNat y.toNat=_;rw[zc];simp[d,B_]
abbrev ry(a b:aAA):slt a.length (enc a) b.length (enc b)=Op.bytesLess a b:=ARA b a _ (_p _)
structure Info where
 b:Nat
 base:Nat
 size:Nat
abbrev Loc:=Nat->Option Info
mutual
def AW(ρ:Loc):V->Value->Prop
 |.undef,_=>True
 |.int k n _,v=>v=.int k n
 |.bool b,v=>v=.bool b
 |.str l c,v=>∃s:ByteArray,v=.string s/\s.data.toList.length=l/\enc s.data.toList=c
 |.zU,v=>v=.pointer none
 |.ptr id off,v=>∃x,ρ id=some x/\v=.pointer (some ⟨x.b,x.base+off,none⟩)
 |.gptr b off,v=>v=.pointer (some ⟨b,off,none⟩)
 |.AT,v=>v=.slice none 0 0
 |.sl id off len cap esz,v=>∃x a,ρ id=some x/\v=.slice (some a) len cap/\(cap=0∨a=⟨x.b,x.base+off*esz,none⟩)/\len<=cap
 |.Hf id off len esz,v=>∃x a capc,ρ id=some x/\v=.slice (some a) len capc/\(capc=0∨a=⟨x.b,x.base+off*esz,none⟩)/\len<=capc/\x.base+(off+capc)*esz<=x.size
 |.rsl b off len cap _,v=>∃a,v=.slice (some a) len cap/\(cap=0∨a=⟨b,off,none⟩)/\len<=cap
 |.AEe,v=>v=.map none
 |.map id,v=>∃x,ρ id=some x/\v=.map (some x.b)
 |.AP7,v=>v=.nilFunc
 |.fn f first caps,v=>∃fa ca:aAr,v=.func (.func f) fa ca/\Bj ρ first fa.toList/\Bj ρ caps ca.toList
 |.agg cs,v=>∃a:aAr,v=.agg a/\Bj ρ cs a.toList/\∀u∈a.toList,u.oneCell'=true
 |.CV cs,v=>∃a:aAr,v=.tuple a/\Bj ρ cs a.toList
 |.AMe,v=>v=.nilIface
 |.iface t y,v=>∃z,v=.iface t z/\AW ρ y z
def Bj(ρ:Loc):aAo->aAp->Prop
 |[],l=>l=[]
 |c::cs,l=>∃v vs,l=v::vs/\AW ρ c v/\Bj ρ cs vs
end
variable{ρ:Loc}
abbrev Bj.nil:Bj ρ [] []:=by rfl
variable{cs:List V}
abbrev Bj.cons{c:V}{v:Value}{cs:aAo}{vs:aAp}(h:AW ρ c v)(d:Bj ρ cs vs):Bj ρ (c::cs) (v::vs):=⟨v,vs,rfl,h,d⟩
@[simp] theorem pv{ρ:Loc}{l:List Value}:Bj ρ [] l↔l=[]:=by rfl
@[simp] theorem HB{ρ:Loc}{c:V}{cs:List V}{l:List Value}:Bj ρ (c::cs) l↔∃v vs,l=v::vs/\AW ρ c v/\Bj ρ cs vs:=by rfl
abbrev ZA:∀(cs:aAo) (vs:aAp),Bj ρ cs vs↔cs.length=vs.length/\∀(i:Nat) (c:V) (v:Value),cs[i]? =some c->vs[i]? =some v->AW ρ c v
 |[],vs=>by
  constructor
  .simp_all
  .intro h;exact _n.1 h.1.symm
 |c::cs,vs=>by
  constructor
  .rintro⟨v,vs,rfl,h,f⟩;rw[ZA cs vs]at f;refine⟨by simp[*],λi=>?_⟩;cases i with
   |zero=>simp[*]
   |succ i=>intro d v' g k;exact f.2 i d v' (by trivial) (by trivial)
  .rintro⟨m,h⟩;cases vs with
   |nil=>trivial
   |cons v vs=>
    refine⟨v,vs,rfl,h 0 c v rfl rfl,(ZA cs vs).2 ⟨by simp_all,λi d v' g k=>h (i+1) d v' (by trivial) (by trivial)⟩⟩
abbrev Bj.length{cs:aAo}{vs:aAp}(h:Bj ρ cs vs):cs.length=vs.length:=((ZA cs vs).1 h).1
variable{i:Nat}
abbrev Bj.get{cs:aAo}{vs:aAp}(h:Bj ρ cs vs){c:V}(d:cs[i]? =some c):∃v,vs[i]? =some v/\AW ρ c v:=by
 have f:i<vs.length:=by rw[<-h.length];exact(us.1 d).1
 exact⟨vs[i],eb f,((ZA cs vs).1 h).2 i c _ d (eb f)⟩
abbrev Bj.append:∀{d bs:aAo} {xs ys:aAp},Bj ρ d xs->Bj ρ bs ys->Bj ρ (d++bs) (xs++ys)
 |[],bs,xs,ys,h,f=>by simp_all
 |a::d,bs,xs,ys,h,f=>by obtain⟨v,vs,rfl,g,i⟩:=HB.1 h;exact .cons g (Bj.append i f)
abbrev Bj.take:∀(n:Nat) {d:aAo} {xs:aAp},Bj ρ d xs->Bj ρ (d.take n) (xs.take n)
 |0,_,_,_=>o6
 |n+1,[],_,h=>by simp_all
 |n+1,a::d,xs,h=>by obtain⟨v,vs,rfl,f,g⟩:=HB.1 h;exact .cons f (Bj.take n g)
abbrev Bj.drop:∀(n:Nat) {d:aAo} {xs:aAp},Bj ρ d xs->Bj ρ (d.drop n) (xs.drop n)
 |0,_,_,h=>h
 |n+1,[],_,h=>by simp_all
 |n+1,a::d,xs,h=>by obtain⟨v,vs,rfl,g,f⟩:=HB.1 h;exact Bj.drop n f
def Loc.le(ρ ρ':Loc):Prop:=∀id x,ρ id=some x->ρ' id=some x
abbrev Loc.le.refl(ρ:Loc):ρ.le ρ:=λ_ _ h=>h
variable{f:Loc}
abbrev Loc.le.trans{d:Loc}(h:ρ.le f)(i:f.le d):ρ.le d:=λg x e=>i g x (h g x e)
mutual
theorem AW.mono{ρ ρ':Loc}(hle:ρ.le ρ'):∀(c:V) (v:Value),AW ρ c v->AW ρ' c v
 |.undef,_,_=>trivial
 |.int _ _ _,_,h=>h
 |.bool _,_,h=>h
 |.str _ _,_,h=>h
 |.zU,_,h=>h
 |.ptr _ _,_,⟨x,hx,hv⟩=>⟨x,hle _ _ hx,hv⟩
 |.gptr _ _,_,h=>h
 |.AT,_,h=>h
 |.sl _ _ _ _ _,_,⟨x,a,hx,h⟩=>⟨x,a,hle _ _ hx,h⟩
 |.Hf _ _ _ _,_,⟨x,a,cp,hx,h⟩=>⟨x,a,cp,hle _ _ hx,h⟩
 |.rsl _ _ _ _ _,_,h=>h
 |.AEe,_,h=>h
 |.map _,_,⟨x,hx,hv⟩=>⟨x,hle _ _ hx,hv⟩
 |.AP7,_,h=>h
 |.fn _ a c,_,⟨fa,ca,hv,h1,h2⟩=>⟨fa,ca,hv,Bj.mono hle a _ h1,Bj.mono hle c _ h2⟩
 |.agg cs,_,⟨a,hv,h1,h2⟩=>⟨a,hv,Bj.mono hle cs _ h1,h2⟩
 |.CV cs,_,⟨a,hv,h1⟩=>⟨a,hv,Bj.mono hle cs _ h1⟩
 |.AMe,_,h=>h
 |.iface _ y,_,⟨z,hv,h⟩=>⟨z,hv,AW.mono hle y z h⟩
theorem Bj.mono{ρ ρ':Loc}(hle:ρ.le ρ'):∀(c:aAo) (v:aAp),Bj ρ c v->Bj ρ' c v
 |[],_,h=>by simp at h;subst h;simp
 |c::cs,_,h=>by obtain⟨v,vs,rfl,hv,hr⟩:=HB.1 h;exact .cons (AW.mono hle c v hv) (Bj.mono hle cs vs hr)
end
def AEQ:V->Bool|.undef|.agg _|.CV _=>false|_=>true
abbrev AW.one:∀{c:V} {v:Value},AW ρ c v->AEQ c=true->v.oneCell'=true
 |.undef,_,_,h=>by trivial
 |.int _ _ _,_,h,_=>by subst h;rfl
 |.bool _,_,h,_=>by subst h;rfl
 |.str _ _,_,h,_=>by obtain⟨s,rfl,_⟩:=h;rfl
 |.zU,_,h,_=>by subst h;rfl
 |.ptr _ _,_,h,_=>by obtain⟨_,_,rfl⟩:=h;rfl
 |.gptr _ _,_,h,_=>by subst h;rfl
 |.AT,_,h,_=>by subst h;rfl
 |.sl _ _ _ _ _,_,h,_=>by obtain⟨_,_,_,rfl,_⟩:=h;rfl
 |.Hf _ _ _ _,_,h,_=>by obtain⟨_,_,_,_,rfl,_⟩:=h;rfl
 |.rsl _ _ _ _ _,_,h,_=>by obtain⟨_,rfl,_⟩:=h;rfl
 |.AEe,_,h,_=>by subst h;rfl
 |.map _,_,h,_=>by obtain⟨_,_,rfl⟩:=h;rfl
 |.AP7,_,h,_=>by subst h;rfl
 |.fn _ _ _,_,h,_=>by obtain⟨_,_,rfl,_⟩:=h;rfl
 |.agg _,_,_,h=>by trivial
 |.CV _,_,_,h=>by trivial
 |.AMe,_,h,_=>by subst h;rfl
 |.iface _ _,_,h,_=>by obtain⟨_,rfl,_⟩:=h;rfl
variable{P:Program}
def ij(fz:Nat×Nat)(n:Nat):Prop:=∀i,i<n->¬(fz.1<=i/\i<fz.2)
def sub(vs:aAr)(o n:Nat):aAp:=(vs.toList.drop o).take n
def isLive(H:Heap)(id:Nat):Prop:=∃b,T.get H id=some b/\b≠.dead
structure lz(ρ:Loc)(w:World)(x:Info)(esz cnt:Nat)(c:T LV)(vs:Array Value)(t:TypeId)(fz:Nat×Nat):Prop where
 heap:w.heap[x.b]? =some (.cells vs t fz)
 size:vs.size=x.size
 free:ij fz x.size
 sh:esz=1∨fz=(0,0)
 room:x.base+cnt*esz<=x.size
 one:∀u∈vs.toList,u.oneCell'=true
 elem:∀e,e<cnt->∃L,T.get c e=some L/\Bj ρ L (sub vs (x.base+e*esz) esz)
def Ho(ρ:Loc):ME->List MapEntry->Prop
 |[],l=>l=[]
 |(k,v,b)::es,l=>∃e es',l=e::es'/\AW ρ k e.key/\AW ρ v e.val/\e.born=b/\Ho ρ es es'
def AMu(w0:World)(ρ:Loc)(H:Heap)(w:World)(id:Nat)(x:Info)(t e l c j:Nat):Prop:=
 x.base=0/\∃(bs:aAA) (p v:Value),bs.length=l/\enc bs=c/\(p=.pointer none∨p=.pointer (some ⟨x.b,0,none⟩))/\w.heap[x.b]? =some (.cells #[p,v] t (0,0))/\
  w.ownsRow w0.heap.size e 1 v l (Lib.byteCells bs)/\(l=0->v=.slice none 0 0)/\(0<l->∃y,v.ownBlock=some y.b/\ρ j=some y/\T.get H j=some (.own id))
variable{H:Heap}{H':Heap}{w:World}{w':World}{id:Nat}{l:Nat}
abbrev AMu.same{A:World}{i:Loc}{x:Info}{t e c:Nat}(h:AMu A ρ H w id x t e l c j)(F:w'.heap[x.b]? =w.heap[x.b]?)(m:ρ.le i)
 (G:∀y,ρ j=some y->T.get H j=some (.own id)->w'.heap[y.b]? =w.heap[y.b]? /\T.get H' j=some (.own id)):AMu A i H' w' id x t e l c j:=by
 have⟨I,J,p,v,K,L,M,N,B,O,C⟩:=h;refine⟨I,J,p,v,K,L,M,F.trans N,?_,O,λP=>?_⟩
 .refine⟨B.1,?_⟩;rcases B.2 with S|⟨g,q,u,D,Q,R,rest⟩
  .simp[*]
  .rcases _F l with E|E
   .simp[*]
   .obtain⟨y,d,f,k⟩:=C E;rw[D]at d;have U:g=y.b:=e_ d;exact .inr ⟨g,q,u,D,Q,by simp_all,rest⟩
 .obtain⟨y,d,f,k⟩:=C P;exact⟨y,d,m _ _ f,(G y f k).2⟩
structure Cb(w0:World)(ρ:Loc)(H:Heap)(n:Nat)(w:World):Prop where
 lt:∀id x,ρ id=some x->id<n
 blk:∀id x,ρ id=some x->w0.heap.size<=x.b/\x.b<w.heap.size
 inj:∀id id' x x',ρ id=some x->ρ id'=some x'->isLive H id->isLive H id'->x.b=x'.b->id=id'
 arr:∀id x esz cnt c,ρ id=some x->T.get H id=some (.arr esz cnt c)->∃vs t fz,lz ρ w x esz cnt c vs t fz
 map:∀id x es ck,ρ id=some x->T.get H id=some (.map es ck)->∃es':Array MapEntry,w.heap[x.b]? =some (.map es' ck)/\Ho ρ es es'.toList
 aq:∀id x t e l c j,ρ id=some x->T.get H id=some (.aq t e l c j)->AMu w0 ρ H w id x t e l c j
 old:∀b,b<w0.heap.size->w.heap[b]? =w0.heap[b]?
 os:w.os=w0.os
 out:w.output=w0.output
 big:w0.heap.size<=w.heap.size
 top:∀id,n<=id->T.get H id=none
def Sj(w0:World)(G:AQ):Prop:=∀b off n L,G b off n=some L->L.length=n/\∀j v,L[j]? =some v->∃u,w0.cell? ⟨b,off+j,none⟩=some u/\AW (λ_=>none) v u/\u.oneCell'=true
variable{vs:Array Value}{o:Nat}{n:Nat}
abbrev O5{vs:aAr}(h:o+n<=vs.size):(sub vs o n).length=n:=by simp[sub];omega
variable{m:Nat}
abbrev sub_sub{vs:aAr}{f:Nat}(h:f+m<=n):((sub vs o n).drop f).take m=sub vs (o+f) m:=by simp[sub,List.drop_take,List.take_take];omega
abbrev wz{vs:aAr}{v:Value}(h:(sub vs o n)[j]? =some v):j<n/\vs[o+j]? =some v:=by simp_all[sub,x_]
abbrev add_lit(b o j:Nat):Addr.add ⟨b,o,none⟩ j=⟨b,o+j,none⟩:=by simp[Addr.add]
variable{c:T LV}{t:TypeId}{L:LV}
abbrev AMI{x:Info}{esz d:Nat}{vs:aAr}{fz:Nat×Nat}(h:lz ρ w x esz d c vs t fz){off:Nat} (y:VV esz d c off n=some L):Bj ρ L (sub vs (x.base+off) n)/\x.base+off+n<=x.size:=by
 unfold VV at y;have⟨p,A,g⟩:=BQ.1 y;have i:off/esz<d:=by
  rcases _O (off/esz) d with D|D
  .omega
  .have B:Nat.blt (Nat.div off esz) d=false:=by simp[_q,xi];omega
   simp_all
 have B:Nat.blt (Nat.div off esz) d=true:=by simp;omega
 rw[B]at A;have⟨E,q,F⟩:=h.elem _ i;have G:p=E:=by have:=A.symm.trans q;simp_all
 subst G;have H:esz*(off/esz)+off%esz=off:=Q_ off esz;have I:(off/esz)*esz=esz*(off/esz):=F_ _ _;have u:x.base+(off/esz)*esz+esz<=x.size:=by have J:(off/esz+1)*esz<=d*esz:=z8 _ i;rw[pp,_g]at J;have:=h.room;omega
 unfold Wl at g;cases k:band (Nat.beq n esz) (Nat.beq (Nat.mod off esz) 0)with
 |true=>
  rw[k]at g;have m:p=L:=e_ g;subst m;simp only[A6,ez,beq_iff]at k;obtain⟨rfl,K⟩:=k;have M:off%n=0:=K;simp_all
 |false=>
  rw[k]at g;cases C:Nat.ble (Nat.add (Nat.mod off esz) n) esz with
  |false=>simp_all
  |true=>
   rw[C]at g;have v:off%esz+n<=esz:=h_ C;have m:Vu n (fk (Nat.mod off esz) p)=L:=e_ g;simp only[aK,fK]at m;subst m;have f:=(F.drop (off%esz)).take n;rw[sub_sub v]at f;have N:x.base+(off/esz)*esz+off%esz=x.base+off:=a6;rw[N]at f;exact⟨f,a6⟩
abbrev cell_of_heap{g:Nat}{vs:aAr}{fz:Nat×Nat}(h:w.heap[g]? =some (.cells vs t fz))(i:Nat):w.cell? ⟨g,i,none⟩=vs[i]? :=by simp[World.cell?,h]
variable{g:World}{G:AQ}{u:Value}
abbrev Zd(hh:Cb g ρ H n w)(hg:Sj g G)(q:AW ρ v u)
 (p:lG v G H m=some L):∃a cs,u=.pointer (some a)/\a.spot=none/\Bj ρ L cs/\cs.length=m/\(∀y∈cs,y.oneCell'=true)/\∀j y,cs[j]? =some y->w.cell? (a.add j)=some y:=by
 cases v<;>simp only[lG,V.el]at p<;>try (cases p;done)
 case ptr K off=>
  simp only[AW]at q;obtain⟨x,U,rfl⟩:=q;unfold ZB at p;cases W:T.get H K with
  |none=>simp_all
  |some b=>
   rw[W]at p;cases b with
   |arr A B c=>
    have M:VV A B c off m=some L:=p;have⟨X,t,fz,E⟩:=hh.arr K x A B c U W;have⟨F,d0⟩:=AMI E M;have C:x.base+off+m<=X.size:=by simp_all[E.size]
    refine⟨_,sub X (x.base+off) m,rfl,rfl,F,O5 C,?_,?_⟩
    .intro y N;have⟨j,D⟩:=_m.1 N;have⟨_,d⟩:=wz D;exact E.one y (by rw[Array.mem_toList_iff];exact M' d)
    .intro j y D;have⟨_,d⟩:=wz D;simp[add_lit,cell_of_heap E.heap,d]
   |map es ck=>trivial
   |dead=>trivial
   |aq _ _ _ _ _=>trivial
   |own _=>trivial
 case gptr b off=>
  simp only[AW]at q;subst q;have⟨Y,D⟩:=hg b off m L p;have key:∀(k:Nat),∃u,k<L.length->g.cell? ⟨b,off+k,none⟩=some u/\AW ρ (L.getD k .undef) u/\u.oneCell'=true:=by
   intro k;by_cases I:k<L.length
   .obtain⟨u,hu,O,h1⟩:=D k L[k] (eb I);refine⟨u,λ_=>⟨hu,?_,h1⟩⟩;have:L.getD k .undef=L[k]:=by simp[List.getD,I]
    rw[this];exact AW.mono (λK x U=>by trivial) _ _ O
   .exact⟨undef,λh=>absurd h I⟩
  have P:∃f:Nat->Value,∀k,k<L.length->g.cell? ⟨b,off+k,none⟩=some (f k)/\AW ρ (L.getD k .undef) (f k)/\(f k).oneCell'=true:=⟨λk=>(key k).choose,λk=>(key k).choose_spec⟩;have⟨f,Z⟩:=P;refine⟨_,(List.range m).map f,rfl,rfl,?_,o6,?_,?_⟩
  .rw[ZA];refine⟨by simp_all,λi c v J q=>?_⟩;have hi:i<L.length:=(us.1 J).1;have Q:v=f i:=by simp_all
   subst Q;have:=(Z i hi).2.1;rwa [show L.getD i .undef=c by simp_all]at this
  .simp_all
  .intro j y d;rw[pe]at d;cases F:(List.range m)[j]? with
   |none=>simp_all
   |some k=>
    rw[F]at d;have I:j<m:=by have:=(us.1 F).1;simp_all
    have R:k=j:=by simp_all
    subst R;have N:f k=y:=by simp_all
    have⟨J,_,_⟩:=Z k a6;rw[add_lit,<-N,<-J];have S:b<g.heap.size:=World.block_lt_of_cell? g ⟨b,off+k,none⟩ J;simp[World.cell?,hh.old b S]
variable{P:Program}
def JM(l:aAp)(o:Nat)(new:aAp):aAp:=l.take o++new++l.drop (o+new.length)
abbrev z5(l:aAp)(o:Nat)(new:aAp)(h:o+new.length<=l.length)(i:Nat):
 (JM l o new)[i]? =if o<=i/\i<o+new.length then new[i-o]? else l[i]? :=by
 have d:(l.take o).length=o:=by simp;omega
 unfold JM;by_cases g:i<o
 .rw[g_ a6,y_,qi a6,x_];simp[*]
 .by_cases f:i<o+new.length
  .rw[hD ⟨a6,f⟩,y_,i_ a6,qi a6,d]
  .rw[g_ a6,i_ (by simp_all),_r];simp_all
abbrev Tz(l:aAp)(o:Nat)(new:aAp)(h:o+new.length<=l.length):(JM l o new).length=l.length:=by simp[JM];omega
abbrev WJ(vs:aAr)(o n j:Nat):(sub vs o n)[j]? =if j<n then vs.toList[o+j]? else none:=by simp[sub,x_]
abbrev Y2{vs:aAr}{new:aAp}(h:o+new.length<=vs.size):sub (JM vs.toList o new).toArray o new.length=new:=by apply _D;intro j;rw[WJ];by_cases d:j<new.length<;>simp_all[z5 _ _ _ _]
abbrev S5{vs:aAr}{new:aAp}(h:o+new.length<=vs.size){o':Nat}(f:o'+m<=o∨o+new.length<=o'):
 sub (JM vs.toList o new).toArray o' m=sub vs o' m:=by
 apply _D;intro j;rw[WJ,WJ];by_cases d:j<m
 .rw[hD d,hD d];rw[z5 _ _ _ (by trivial),g_ a6]
 simp[*]
abbrev AFH{vs:aAr}{new:aAp}(h:o+new.length<=vs.size){B f:Nat}(p:o=B+f)(q:f+new.length<=m)(i:B+m<=vs.size):
 sub (JM vs.toList o new).toArray B m=(sub vs B m).take f++(new++(sub vs B m).drop (f+new.length)):=by
 apply _D;intro j;have u:(sub vs B m).length=m:=O5 i;have g:((sub vs B m).take f).length=f:=by simp;omega
 rw[WJ];by_cases d:j<m
 .rw[hD d];show(JM vs.toList o new)[B+j]? =_;rw[z5 _ _ _ a6];by_cases k:j<f
  .rw[g_ a6,qi a6,x_,hD k,WJ,hD d]
  .by_cases v:j<f+new.length
   .rw[hD a6,i_ a6,qi a6,g];congr 1;omega
   .rw[g_ a6,i_ a6,i_ a6,_r,g,WJ,hD a6];congr 1;omega
 .rw[g_ d,z_ (by simp;omega)]
abbrev GT(g o:Nat)(t:TypeId)(fz:Nat×Nat):∀(vs:aAp) (i:Nat) (d:aAr) (w:World),w.heap[g]? =some (.cells d t fz)->ij fz d.size->o+i+vs.length<=d.size->(∀v∈vs,v.oneCell'=true)->
 (storeCells ⟨g,o,none⟩ vs i).run P w=.ok () (w.setRow g (JM d.toList (o+i) vs).toArray)
 |[],i,d,w,k,_,_,_=>by simp[storeCells,JM,qs,_X,_Y,List.take_append_drop,_Z,setRow_self w g d t fz k]
 |v::rest,i,d,w,k,y,C,u=>by
  have hi:o+i<d.size:=by simp_all;omega
  have m:(⟨g,o,none⟩:Addr).add i=⟨g,o+i,none⟩:=add_lit _ _ _;have f:w.cell? ⟨g,o+i,none⟩=some d[o+i]:=by simp[World.cell?,k,hi]
  have p:w.frozen? ⟨g,o+i,none⟩=false:=by have⟨lo,A⟩:=fz;have:=y (o+i) hi;simp_all[World.frozen?,k,Bool.and_eq_false_iff,_o]
  have q:(store ((⟨g,o,none⟩:Addr).add i) v).run P w=.ok () (w.setRow g (d.setIfInBounds (o+i) v)):=by simp[m,run_store P w _ v _ (u v o6),f,p,setCell_eq_setRow w g (o+i) d t fz v k]
  have B:=GT g o t fz rest (i+1) (d.setIfInBounds (o+i) v) _ (setRow_heap w g d _ t _ k) (by simp[*]) (by simp_all;omega) (λx D=>u x (by simp[*]));simp only[storeCells,p_,q,s_,B,setRow_setRow];have e:=list_seg_step d.toList _ v rest a6;simp_all[JM,G_]
structure FC(ρ:Loc)(H:Heap)(n:Nat)(ρ':Loc)(H':Heap)(n':Nat):Prop where
 le:ρ.le ρ'
 grow:n<=n'
 keep:∀id,id<n->ρ id=none->ρ' id=none/\T.get H' id=T.get H id
abbrev FC.refl(ρ:Loc)(H:Heap)(n:Nat):FC ρ H n ρ H n:=⟨Loc.le.refl _,ea _,λ_ _ h=>⟨h,rfl⟩⟩
abbrev FC.trans{g:Loc}{i:Heap}{n' k:Nat}(h:FC ρ H n g H' n')(m:FC g H' n' f i k):FC ρ H n f i k:=
 ⟨h.le.trans m.le,w_ h.grow m.grow,λp q u=>by have⟨a,b⟩:=h.keep p q u;have⟨c,d⟩:=m.keep p (b_ q h.grow) a;simp[*]⟩
abbrev lz.of_heap{x:Info}{esz d:Nat}{vs:aAr}{fz:Nat×Nat}(h:lz ρ w x esz d c vs t fz)(e:w'.heap[x.b]? =w.heap[x.b]?):
 lz ρ w' x esz d c vs t fz:={h with heap:=e.trans h.heap}
abbrev lz.mono{d:Loc}(g:ρ.le d){x:Info}{esz f:Nat}{vs:aAr}{fz:Nat×Nat}(h:lz ρ w x esz f c vs t fz):
 lz d w x esz f c vs t fz:={h with elem:=λe i=>let⟨L,h1,h2⟩:=h.elem e i;⟨L,h1,Bj.mono g _ _ h2⟩}
abbrev Ho.mono(d:ρ.le f):∀(es:ME) (l:List MapEntry),Ho ρ es l->Ho f es l
 |[],_,h=>h
 |(_,_,_)::es,_,⟨e,g,i,k,m,p,q⟩=>⟨e,g,i,AW.mono d _ _ k,AW.mono d _ _ m,p,Ho.mono d es g q⟩
abbrev Cb.turn{J:World}(hh:Cb J ρ H n w){x:Info}(E:ρ id=some x)(g:isLive H id){A:LF}
 (F:w'.heap.size=w.heap.size) (q:∀k,k≠x.b->w'.heap[k]? =w.heap[k]?) (K:w'.os=w.os) (G:w'.output=w.output)
 (O:∀B C c,A=.arr B C c->∃L t fz,lz ρ w' x B C c L t fz)
 (P:∀I ck,A=.map I ck->∃D:Array MapEntry,w'.heap[x.b]? =some (.map D ck)/\Ho ρ I D.toList)
 (U:∀b,T.get H id≠some (.own b)) (Q:∀t e l c j,A=.aq t e l c j->AMu J ρ (T.set H id A) w' id x t e l c j):
 Cb J ρ (T.set H id A) n w':=by
 have m:∀d,T.get (T.set H id A) d=if id=d then some A else T.get H d:=λd=>T.Mt H id d A
 have R:∀d,isLive (T.set H id A) d->isLive H d:=by
  rintro d ⟨b,f,u⟩;rw[m]at f;by_cases e:id=d
  .simp_all
  .rw[g_ e]at f;exact⟨b,f,u⟩
 refine{lt:=hh.lt,blk:=λi y v=>by rw[F];exact hh.blk i y v,inj:=λi j y z v M V W=>hh.inj i j y z v M (R i V) (R j W),arr:=?_,map:=?_,aq:=?_,old:=?_,os:=K.trans hh.os,out:=G.trans hh.out,big:=by rw[F];exact hh.big,top:=λi X=>by rw[m,g_ (hN (hh.lt id x E))];exact hh.top i X}
 .intro i y B C c v f;rw[m]at f;by_cases e:id=i
  .simp_all
  .rw[g_ e]at f;have u:y.b≠x.b:=λp=>e (hh.inj id i x y E v g ⟨_,f,o6⟩ p.symm);have⟨L,t,fz,Y⟩:=hh.arr i y B C c v f;exact⟨L,t,fz,Y.of_heap (q _ u)⟩
 .intro i y I ck v f;rw[m]at f;by_cases e:id=i
  .simp_all
  .rw[g_ e]at f;have u:y.b≠x.b:=λp=>e (hh.inj id i x y E v g ⟨_,f,o6⟩ p.symm);have⟨D,he,hr⟩:=hh.map i y I ck v f;simp_all
 .intro i y t e l c j v f;rw[m]at f;by_cases S:id=i
  .simp_all
  .rw[g_ S]at f;have u:y.b≠x.b:=λp=>S (hh.inj id i x y E v g ⟨_,f,o6⟩ p.symm);refine(hh.aq i y t e l c j v f).same (q _ u) (Loc.le.refl _) λz M Z=>?_;have N:id≠j:=λe=>by simp_all
   exact⟨q _ λp=>N (hh.inj id j x z E M g ⟨_,Z,o6⟩ p.symm),by simp_all⟩
 .intro b f;have:=(hh.blk id x E).1;rw[q b a6];exact hh.old b f
abbrev FC.turn{x:Info}(f:ρ id=some x)(b:LF):FC ρ H n ρ (T.set H id b) n:=
 ⟨Loc.le.refl _,ea _,λi _ d=>⟨d,T.Ac H b (λe=>by simp_all)⟩⟩
abbrev lz.put{x:Info}{esz d:Nat}{vs:aAr}{fz:Nat×Nat}(h:lz ρ w x esz d c vs t fz)
 {off:Nat} {new:LV} {cs:aAp} {I:LF} (v:stB esz d c off cs.length new=some I) (O:Bj ρ new cs) (h1:∀y∈cs,y.oneCell'=true):
 ∃P,I=.arr esz d P/\x.base+off+cs.length<=vs.size/\lz ρ (w.setRow x.b (JM vs.toList (x.base+off) cs).toArray) x esz d P (JM vs.toList (x.base+off) cs).toArray t fz:=by
 unfold stB at v;have⟨S,Q,q⟩:=BQ.1 v;have A:off/esz<d:=by
  rcases _O (off/esz) d with U|U
  .omega
  .have v:Nat.blt (Nat.div off esz) d=false:=by simp[_q,xi];omega
   simp_all
 have v:Nat.blt (Nat.div off esz) d=true:=by simp;omega
 rw[v]at Q;have⟨V,J,C⟩:=h.elem _ A;have W:S=V:=e_ (Q.symm.trans J);subst W;have X:esz*(off/esz)+off%esz=off:=Q_ off esz;have Y:(off/esz)*esz=esz*(off/esz):=F_ _ _;have g:x.base+(off/esz)*esz+esz<=vs.size:=by have Z:(off/esz+1)*esz<=d*esz:=z8 _ A;rw[pp,_g]at Z;have:=h.room;rw[h.size];omega
 have key:∃D,I=.arr esz d (T.set c (off/esz) D)/\off%esz+cs.length<=esz/\Bj ρ D ((sub vs (x.base+(off/esz)*esz) esz).take (off%esz)++(cs++(sub vs (x.base+(off/esz)*esz) esz).drop (off%esz+cs.length))):=by
  unfold gE at q;cases E:band (Nat.beq cs.length esz) (Nat.beq (Nat.mod off esz) 0)with
  |true=>
   rw[E]at q;simp only[A6,ez,beq_iff]at E;have hm:off%esz=0:=E.2;refine⟨new,(e_ q).symm,a6,?_⟩;rw[hm,E.1];have K:(sub vs (x.base+(off/esz)*esz) esz).drop (0+esz)=[]:=by simp[O_,O5 g]
   rw[K];simp[*]
  |false=>
   rw[E]at q;cases R:Nat.ble (Nat.add (Nat.mod off esz) cs.length) esz with
   |false=>simp_all
   |true=>
    rw[R]at q;have M:off%esz+cs.length<=esz:=h_ R;refine⟨_,(e_ q).symm,M,?_⟩;rw[wv,<-O.length];exact(C.take _).append (O.append (C.drop _))
 obtain⟨D,rfl,F,d0⟩:=key;have i:x.base+off+cs.length<=vs.size:=a6;have G:(JM vs.toList (x.base+off) cs).toArray.size=vs.size:=by have:=Tz vs.toList (x.base+off) cs a6;omega
 refine⟨_,rfl,i,{heap:=setRow_heap w x.b vs _ t fz h.heap,size:=G.trans h.size,free:=h.free,sh:=h.sh,room:=h.room,one:=?_,elem:=?_}⟩
 .intro u k;simp only[JM,q_]at k;rcases k with(k|k)|k
  .exact h.one u (_k k)
  .simp[*]
  .exact h.one u (_y k)
 .intro e he;by_cases p:off/esz=e
  .subst p;refine⟨D,T.B4 _ _ _,?_⟩;rw[AFH i (B:=x.base+(off/esz)*esz) (m:=esz) (f:=off%esz) a6 F g];omega
  .obtain⟨L,hL,d1⟩:=h.elem e he;refine⟨L,by rw[T.Ac c D p,hL],?_⟩;rw[S5 i]
   .omega
   .rcases Nat.lt_or_gt_of_ne p with H|N
    .right;have:(off/esz+1)*esz<=e*esz:=z8 _ H;simp_all[pp,_g];omega
    .left;have:(e+1)*esz<=(off/esz)*esz:=z8 _ N;simp_all[pp,_g];omega
abbrev AKu{F:World}(hh:Cb F ρ H n w)(G:AW ρ v u){new:LV}{cs:aAp}
 (p:stP v H cs.length new=some H') (K:Bj ρ new cs) (I:∀y∈cs,y.oneCell'=true):
 ∃a w',u=.pointer (some a)/\(storeCells a cs).run P w=.ok () w'/\Cb F ρ H' n w'/\FC ρ H n ρ H' n:=by
 cases v<;>simp only[stP,V.el]at p<;>try (cases p;done)
 case ptr id off=>
  simp only[AW]at G;obtain⟨x,A,rfl⟩:=G;unfold cJ at p;have⟨J,f,L⟩:=BQ.1 p;have g:T.set H id J=H':=e_ L;cases B:T.get H id with
  |none=>simp_all
  |some b=>
   rw[B]at f;cases b with
   |arr i m c=>
    have C:stB i m c off cs.length new=some J:=f;have⟨M,t,fz,q⟩:=hh.arr id x i m c A B;obtain⟨R,rfl,N,D⟩:=q.put C K I;have d:=GT (P:=P) x.b (x.base+off) t fz cs 0 M w q.heap (by rw[q.size];exact q.free) a6 I;simp only[_Y]at d;refine⟨_,_,rfl,d,?_,?_⟩
    .subst g;refine hh.turn A ⟨_,B,o6⟩ (setRow_size _ _ _) (λk O=>setRow_other _ _ _ _ O) (setRow_os _ _ _) (setRow_output _ _ _) ?_ (λQ ck E=>by trivial) (λ_=>by simp[*]) (λ_ _ _ _ _ E=>by trivial);intro S U W E;cases E;exact⟨_,_,_,D⟩
    .subst g;exact FC.turn A _
   |map Q ck=>trivial
   |dead=>trivial
   |aq _ _ _ _ _=>trivial
   |own _=>trivial
variable{P:Program}
abbrev Cb.of_same{k:World}(hh:Cb k ρ H n w)(g:w'.heap=w.heap)(m:w'.os=w.os)(p:w'.output=w.output):Cb k ρ H n w':=
 {lt:=hh.lt,blk:=λi x d=>by rw[g];exact hh.blk i x d,inj:=hh.inj,
  arr:=λi x e c t d f=>let⟨vs,ty,fz,ha⟩:=hh.arr i x e c t d f;⟨vs,ty,fz,ha.of_heap (by rw[g])⟩,
  map:=λi x e c d f=>let⟨es,he,hr⟩:=hh.map i x e c d f;⟨es,by simp[*],hr⟩,
  aq:=λi x t e l c j d f=>(hh.aq i x t e l c j d f).same (by rw[g]) (Loc.le.refl _) λy _ q=>⟨by rw[g],q⟩,
  old:=λb f=>by rw[g];exact hh.old b f,os:=m.trans hh.os,out:=p.trans hh.out,big:=by rw[g];exact hh.big,top:=hh.top}
abbrev Cb.drew{d:World}(hh:Cb d ρ H n w):Cb d ρ H n w.drew:=hh.of_same rfl rfl rfl
def ADe(ρ:Loc)(size:Nat):LF->Obj->Prop
 |.arr esz cnt c,o=>∃vs t fz,o=.cells vs t fz/\vs.size=size/\ij fz size/\(esz=1∨fz=(0,0))/\cnt*esz<=size/\(∀u∈vs.toList,u.oneCell'=true)/\∀e,e<cnt->∃L,T.get c e=some L/\Bj ρ L (sub vs (e*esz) esz)
 |.map es ck,o=>∃es':Array MapEntry,o=.map es' ck/\Ho ρ es es'.toList
 |.dead,_=>True
 |.aq t e l c _,o=>l=0/\c=0/\o=.cells #[.pointer none,.slice none 0 0] t (0,0)
 |.own _,_=>True
def Loc.add(ρ:Loc)(id:Nat)(x:Info):Loc:=λi=>if i=id then some x else ρ i
abbrev Loc.add_same(ρ:Loc)(id:Nat)(x:Info):ρ.add id x id=some x:=by simp[Loc.add]
abbrev Loc.SZ(ρ:Loc)(x:Info)(h:i≠id):ρ.add id x i=ρ i:=by simp[Loc.add,h]
abbrev Loc.uh(x:Info)(h:ρ id=none):ρ.le (ρ.add id x):=λi y d=>by
 by_cases e:i=id
 .subst e;rw[h]at d;cases d
 .rwa [Loc.SZ ρ x e]
variable{p:World}
abbrev Cb.fresh(hh:Cb p ρ H n w)(b:LF):Cb p ρ (T.set H n b) (n+1) w:=by
 have g:∀i x,ρ i=some x->n≠i:=λi x f e=>hN (hh.lt i x f);refine{lt:=λi x f=>Y_ (hh.lt i x f),blk:=hh.blk,inj:=?_,arr:=?_,map:=?_,aq:=?_,old:=hh.old,os:=hh.os,out:=hh.out,big:=hh.big,top:=λq h=>by rw[T.Ac H _ a6];exact hh.top q a6}
 .intro i j x y f k u v d;refine hh.inj i j x y f k ?_ ?_ d
  .obtain⟨b,d,m⟩:=u;rw[T.Ac H _ (g i x f)]at d;exact⟨b,d,m⟩
  .obtain⟨b,d,m⟩:=v;rw[T.Ac H _ (g j y k)]at d;exact⟨b,d,m⟩
 .intro i x e c t f d;rw[T.Ac H _ (g i x f)]at d;exact hh.arr i x e c t f d
 .intro i x e c f d;rw[T.Ac H _ (g i x f)]at d;exact hh.map i x e c f d
 .intro i x t e l c j f d;rw[T.Ac H _ (g i x f)]at d;exact(hh.aq i x t e l c j f d).same rfl (Loc.le.refl _) λy k A=>⟨rfl,by simp[*,T.Ac H _ _]⟩
abbrev Cb.pA{d:World}(hh:Cb d ρ H n w):ρ n=none:=by
 cases h:ρ n with
 |none=>rfl
 |some x=>exact absurd (hh.lt n x h) (m_ n)
abbrev FC.fresh(ρ:Loc)(H:Heap)(n:Nat)(b:LF):FC ρ H n ρ (T.set H n b) (n+1):=
 ⟨Loc.le.refl _,a6,λi f d=>⟨d,T.Ac H b a6⟩⟩
abbrev Cb.place{P:World}(hh:Cb P ρ H n w)(D:id<n)(Q:ρ id=none){b:LF}(E:T.get H id=some b){size:Nat}{o:Obj}(F:ADe ρ size b o):
 Cb P (ρ.add id ⟨w.heap.size,0,size⟩) H n (w.alloc o):=by
 have q:=Loc.uh ⟨w.heap.size,0,size⟩ Q;have u:(w.alloc o).heap[w.heap.size]? =some o:=by show(w.heap.push o)[w.heap.size]? =_;simp
 have g:∀k,k<w.heap.size->(w.alloc o).heap[k]? =w.heap[k]? :=λk C=>by show(w.heap.push o)[k]? =_;rw[Array.getElem?_push,g_ a6]
 have d:∀i x,ρ.add id ⟨w.heap.size,0,size⟩ i=some x->(i=id/\x=⟨w.heap.size,0,size⟩)∨(i≠id/\ρ i=some x):=by
  intro i x p;by_cases e:i=id
  .subst e;rw[Loc.add_same]at p;exact .inl ⟨rfl,(e_ p).symm⟩
  .rw[Loc.SZ ρ _ e]at p;exact .inr ⟨e,p⟩
 refine{lt:=?_,blk:=?_,inj:=?_,arr:=?_,map:=?_,aq:=?_,old:=?_,os:=hh.os,out:=hh.out,big:=by rw[World.size_alloc];have:=hh.big;omega,top:=hh.top}
 .intro i x p;rcases d i x p with⟨rfl,_⟩|⟨_,h⟩
  .exact D
  .exact hh.lt i x h
 .intro i x p;rcases d i x p with⟨_,rfl⟩|⟨_,h⟩
  .exact⟨hh.big,o6⟩
  .have:=hh.blk i x h;rw[World.size_alloc];omega
 .intro i j x y p G R I A;rcases d i x p with⟨rfl,rfl⟩|⟨J,f⟩<;>rcases d j y G with⟨rfl,rfl⟩|⟨e2,h2'⟩
  .rfl
  .have:=(hh.blk j y h2').2;simp at A;omega
  .have:=(hh.blk i x f).2;simp at A;omega
  .exact hh.inj i j x y f h2' R I A
 .intro i x e c t p m;rcases d i x p with⟨rfl,rfl⟩|⟨J,f⟩
  .have v:b=.arr e c t:=e_ (E.symm.trans m);subst v;obtain⟨K,M,fz,rfl,I,S,U,V,W,X⟩:=F;refine⟨K,M,fz,{heap:=u,size:=I,free:=S,sh:=U,room:=by simpa using V,one:=W,elem:=λk C=>?_}⟩;have⟨L,Y,N⟩:=X k C;exact⟨L,Y,by simpa using Bj.mono q _ _ N⟩
  .obtain⟨K,M,fz,Z⟩:=hh.arr i x e c t f m;exact⟨K,M,fz,(Z.of_heap (g _ (hh.blk i x f).2)).mono q⟩
 .intro i x e c p m;rcases d i x p with⟨rfl,rfl⟩|⟨J,f⟩
  .have v:b=.map e c:=e_ (E.symm.trans m);subst v;obtain⟨O,rfl,B⟩:=F;exact⟨O,u,Ho.mono q _ _ B⟩
  .obtain⟨O,he,B⟩:=hh.map i x e c f m;exact⟨O,by rw[g _ (hh.blk i x f).2];exact he,Ho.mono q _ _ B⟩
 .intro i x t e l c j p m;rcases d i x p with⟨rfl,rfl⟩|⟨J,f⟩
  .have v:b=.aq t e l c j:=e_ (E.symm.trans m);subst v;obtain⟨rfl,rfl,rfl⟩:=F;exact⟨rfl,[],_,_,rfl,rfl,.inl rfl,u,World.ownsRow_nil _ _ _ _,λ_=>rfl,λh=>absurd h (m_ 0)⟩
  .exact(hh.aq i x t e l c j f m).same (g _ (hh.blk i x f).2) q λy G hj=>⟨g _ (hh.blk j y G).2,hj⟩
 .intro k C;have:=hh.big;rw[g k a6];exact hh.old k C
abbrev FC.place{b:LF}(x:Info)(h:ρ n=none):FC ρ H n (ρ.add n x) (T.set H n b) (n+1):=
 ⟨Loc.uh x h,a6,λi d f=>⟨by rw[Loc.SZ ρ x a6];omega,T.Ac H b a6⟩⟩
abbrev Cb.new{d:World}(hh:Cb d ρ H n w){b:LF}{size:Nat}{o:Obj}(f:ADe ρ size b o):
 Cb d (ρ.add n ⟨w.heap.size,0,size⟩) (T.set H n b) (n+1) (w.alloc o):=
 (hh.fresh b).place (_p n) hh.pA (T.B4 _ _ _) f
variable{w0:World}
abbrev Cb.move(hh:Cb w0 ρ H n w){x:Info}(D:ρ id=some x)(g:isLive H id){y:Info}(R:y.b=x.b){esz E:Nat}
 (J:w'.heap.size=w.heap.size) (A:∀k,k≠x.b->w'.heap[k]? =w.heap[k]?) (S:w'.os=w.os) (K:w'.output=w.output)
 (L:∃M t fz,lz ρ w' y esz E c M t fz) (U:∀b,T.get H id≠some (.own b)):
 Cb w0 (ρ.add n y) (T.set (T.set H id .dead) n (.arr esz E c)) (n+1) w':=by
 have P:=hh.pA;have F:=Loc.uh y P;have d2:id≠n:=λe=>by subst e;rw[D]at P;cases P
 have f:∀i z,ρ.add n y i=some z->(i=n/\z=y)∨(i≠n/\ρ i=some z):=by
  intro i z B;by_cases e:i=n
  .subst e;rw[Loc.add_same]at B;exact .inl ⟨rfl,(e_ B).symm⟩
  .rw[Loc.SZ ρ _ e]at B;exact .inr ⟨e,B⟩
 have q:∀i,i≠n->T.get (T.set (T.set H id .dead) n (.arr esz E c)) i=if id=i then some .dead else T.get H i:=λi Q=>by rw[T.Ac _ _ (C_ Q),T.Mt]
 have G:∀i,i≠n->isLive (T.set (T.set H id .dead) n (.arr esz E c)) i->isLive H i/\i≠id:=by
  rintro i Q ⟨b,N,hd⟩;rw[q i Q]at N;by_cases e:id=i
  .rw[hD e]at N;exact absurd (e_ N).symm hd
  .rw[g_ e]at N;exact⟨⟨b,N,hd⟩,C_ e⟩
 refine{lt:=?_,blk:=?_,inj:=?_,arr:=?_,map:=?_,aq:=?_,old:=?_,os:=S.trans hh.os,out:=K.trans hh.out,big:=by rw[J];exact hh.big,top:=λi Q=>by rw[q i a6,g_ (hN (hh.lt id x D))];exact hh.top i a6}
 .intro i z B;rcases f i z B with⟨rfl,_⟩|⟨_,h⟩
  .omega
  .exact Y_ (hh.lt i z h)
 .intro i z B;rcases f i z B with⟨_,rfl⟩|⟨_,h⟩
  .rw[R,J];exact hh.blk id x D
  .rw[J];exact hh.blk i z h
 .intro i j z V B W h1 h2 m;rcases f i z B with⟨rfl,rfl⟩|⟨I,p⟩<;>rcases f j V W with⟨rfl,rfl⟩|⟨e2,h2'⟩
  .rfl
  .obtain⟨X,v⟩:=G j e2 h2;exact absurd (hh.inj id j x V D h2' g X (by rw[<-R,m])).symm v
  .obtain⟨X,v⟩:=G i I h1;exact absurd (hh.inj id i x z D p g X (by rw[<-R,m])).symm v
  .exact hh.inj i j z V p h2' (G i I h1).1 (G j e2 h2).1 m
 .intro i z e k t B d;rcases f i z B with⟨rfl,rfl⟩|⟨I,p⟩
  .rw[T.B4]at d;cases d;have⟨M,Y,fz,Z⟩:=L;exact⟨M,Y,fz,Z.mono F⟩
  .rw[q i I]at d;by_cases C:id=i
   .rw[hD C]at d;cases d
   .rw[g_ C]at d;have v:z.b≠x.b:=λm=>C (hh.inj id i x z D p g ⟨_,d,o6⟩ m.symm);have⟨M,Y,fz,Z⟩:=hh.arr i z e k t p d;exact⟨M,Y,fz,(Z.of_heap (A _ v)).mono F⟩
 .intro i z e k B d;rcases f i z B with⟨rfl,rfl⟩|⟨I,p⟩
  .rw[T.B4]at d;cases d
  .rw[q i I]at d;by_cases C:id=i
   .rw[hD C]at d;cases d
   .rw[g_ C]at d;have v:z.b≠x.b:=λm=>C (hh.inj id i x z D p g ⟨_,d,o6⟩ m.symm);have⟨es,he,d0⟩:=hh.map i z e k p d;exact⟨es,by rw[A _ v];exact he,Ho.mono F _ _ d0⟩
 .intro i z t e l c' j B d;rcases f i z B with⟨rfl,rfl⟩|⟨I,p⟩
  .rw[T.B4]at d;cases d
  .rw[q i I]at d;by_cases C:id=i
   .rw[hD C]at d;cases d
   .rw[g_ C]at d;have v:z.b≠x.b:=λm=>C (hh.inj id i x z D p g ⟨_,d,o6⟩ m.symm);refine(hh.aq i z t e l c' j p d).same (A _ v) F λu hu hj=>?_;have O:id≠j:=λe=>by subst e;exact U _ hj
    have d1:j≠n:=λe=>by subst e;rw[P]at hu;cases hu
    exact⟨A _ λm=>O (hh.inj id j x u D hu g ⟨_,hj,o6⟩ m.symm),by rw[q j d1,g_ O];exact hj⟩
 .intro k hk;have:=(hh.blk id x D).1;rw[A k a6];exact hh.old k hk
abbrev FC.move{x:Info}(f:ρ id=some x)(d:ρ n=none)(y:Info)(b:LF):FC ρ H n (ρ.add n y) (T.set (T.set H id .dead) n b) (n+1):=
 ⟨Loc.uh y d,a6,λi g h=>⟨by rw[Loc.SZ ρ y a6];omega,by
  rw[T.Ac _ b a6,T.Ac H _ (λe=>by simp_all)]⟩⟩
abbrev Cb.kill(hh:Cb p ρ H n w)(q:id<n)(m:∀b,T.get H id≠some (.own b)):Cb p ρ (T.set H id .dead) n w:=by
 have d:∀i,T.get _ i=if id=i then some .dead else T.get H i:=λi=>T.Mt _ _ _ _
 have k:∀i,isLive (T.set H id .dead) i->isLive H i:=by
  rintro i ⟨b,f,u⟩;rw[d i]at f;by_cases e:id=i
  .simp_all
  .rw[g_ e]at f;exact⟨b,f,u⟩
 refine{lt:=hh.lt,blk:=hh.blk,inj:=λi j x y g v A B=>hh.inj i j x y g v (k i A) (k j B),arr:=?_,map:=?_,aq:=?_,old:=hh.old,os:=hh.os,out:=hh.out,big:=hh.big,top:=λi C=>by rw[d,g_ a6];exact hh.top i C}
 .intro i x e c t g f;rw[d]at f;split at f
  .cases f
  .exact hh.arr i x e c t g f
 .intro i x e c g f;rw[d]at f;split at f
  .cases f
  .exact hh.map i x e c g f
 .intro i x t e l c j g f;rw[d]at f;split at f
  .cases f
  .exact(hh.aq i x t e l c j g f).same rfl (Loc.le.refl _) λy _ D=>⟨rfl,by rwa [d,g_ (λe=>by subst e;exact m _ D)]⟩
variable{P:Program}
def ni:Value->aAl
 |.bool b=>some (.bool b)
 |.int k n=>some (.int k n 0)
 |.string s=>some (.str s.data.toList.length (enc s.data.toList))
 |.pointer none=>some .zU
 |.slice none 0 0=>some .AT
 |.map none=>some .AEe
 |.nilFunc=>some .AP7
 |.nilIface=>some .AMe
 |_=>none
def jP:aAp->aAB
 |[]=>some []
 |v::l=>(ni v).bind λc=>(jP l).bind λcs=>some (c::cs)
def qI:Value->aAl
 |.agg a=>(jP a.toList).map .agg
 |v=>ni v
abbrev AF5{v:Value}{c:V}(h:ni v=some c):AW ρ c v/\AEQ c=true/\v.oneCell'=true:=by unfold ni at h;split at h<;>first|(cases h;done)|(cases h;refine⟨?_,rfl,rfl⟩;simp[AW])
theorem fw:∀{l:aAp} {cs:LV},jP l=some cs->Bj ρ cs l/\(∀c∈cs,AEQ c=true)/\∀u∈l,u.oneCell'=true
 |[],cs,h=>by simp_all[jP]
 |v::l,cs,h=>by simp only[jP,ee]at h;obtain⟨c,f,g,d,e⟩:=h;cases e;obtain⟨i,m,p⟩:=AF5 f;obtain⟨k,q,w⟩:=fw d;refine⟨.cons i k,?_,?_⟩<;>simp_all
abbrev AQT{v:Value}{c:V}(h:qI v=some c):AW ρ c v:=by
 unfold qI at h;split at h
 .rename_i a;cases d:jP a.toList with
  |none=>simp_all
  |some i=>
   rw[d]at h;cases h;obtain⟨f,_,g⟩:=fw d;exact⟨a,rfl,f,g⟩
 .exact(AF5 h).1
def Ib(P:Program)(t:TypeId):aAn:=
 match P.underlying t with
 |some (.struct _)=>some true
 |some (.array _ _)=>some true
 |some _=>some false
 |none=>none
def pI(P:Program)(t:TypeId):aAG:=(P.info? t).map (·.size)
def rM(P:Program)(t:TypeId):aAB:=(P.info? t).bind λi=>i.zero.bind λz=>jP z.cells.toList
abbrev eL(h:Ib P t=some b)(w:World):(isAgg t).run P w=.ok b w:=by
 unfold Ib at h;cases f:P.underlying t with
 |none=>simp_all
 |some d=>
  simp only[isAgg,p_,dj f];cases d<;>simp_all
abbrev run_sizeOf(h:pI P t=some n)(w:World):(Go.sizeOf t).run P w=.ok n w:=by unfold pI at h;cases d:P.info? t<;>simp_all[Go.sizeOf,typeInfo]
variable{r:V}
abbrev AJP(hh:Cb g ρ H n w)(p:Sj g G)(q:AW ρ v u)(x:Ib P t=some false)
 (y:Pe (lG v G H 1) (λL=>nth L 0)=some r):∃val,(Instr.loadAt t u).run P w=.ok val w/\AW ρ r val:=by have⟨L,A,i⟩:=Sy.1 y;obtain⟨a,F,rfl,B,C,k,m,D⟩:=Zd hh p q A;rw[oW]at i;have⟨val,d,E⟩:=C.get i;have f:=D 0 val d;simp_all[Addr.add_zero',Instr.loadAt,Instr.sureAddr,loadVar,eL x]
abbrev AIT{f:World}(hh:Cb f ρ H n w)(k:Sj f G)(p:AW ρ v u)(q:Ib P t=some true)(x:pI P t=some m)
 (y:Pe (lG v G H m) (λL=>some (.agg L))=some r):∃val,(Instr.loadAt t u).run P w=.ok val w/\AW ρ r val:=by have⟨L,A,B⟩:=Sy.1 y;cases B;obtain⟨a,d,rfl,C,F,g,i,D⟩:=Zd hh k p A;refine⟨.agg d.toArray,?_,⟨d.toArray,rfl,a6,a6⟩⟩;have E:=run_loadCells_list (P:=P) w a d D;simp_all[Instr.loadAt,Instr.sureAddr,loadVar,eL q,run_sizeOf x]
variable{P:Program}
abbrev CI{f:IntKind->Int->Nat->aAl}:v.FI f=some r↔∃k n s,v=.int k n s/\f k n s=some r:=by
 cases v<;>simp[V.FI,V.el]
 case int k n s=>
  constructor
  .intro h;exact⟨k,n,s,⟨rfl,rfl,rfl⟩,h⟩
  simp
abbrev vP{f:Bool->aAl}:v.gg f=some r↔∃b,v=.bool b/\f b=some r:=by cases v<;>simp[V.gg,V.el]
abbrev FO{f:Nat->Nat->aAl}:v.Pj f=some r↔∃l c,v=.str l c/\f l c=some r:=by
 cases v<;>simp[V.Pj,V.el]
 case str l c=>
  constructor
  .intro h;exact⟨l,c,⟨rfl,rfl⟩,h⟩
  simp
abbrev nJ{f:LV->aAl}:v.vJ f=some r↔∃l,v=.agg l/\f l=some r:=by cases v<;>simp[V.vJ,V.el]
abbrev AHm{f:LV->aAl}:v.AD2 f=some r↔∃l,v=.CV l/\f l=some r:=by cases v<;>simp[V.AD2,V.el]
abbrev yR{f g:Nat->Nat->aAl}:v.AFD f g=some r↔(∃i o,v=.ptr i o/\f i o=some r)∨(∃i o,v=.gptr i o/\g i o=some r):=by
 cases v<;>simp[V.AFD,V.el]
 case ptr l c=>
  constructor
  .intro h;exact⟨l,c,⟨rfl,rfl⟩,h⟩
  simp
 case gptr l c=>
  constructor
  .intro h;exact⟨l,c,⟨rfl,rfl⟩,h⟩
  simp
abbrev tE{n:Int}{f:Nat->aAl}:AQJ n f=some r↔∃m:Nat,n=m/\f m=some r:=by
 cases n with
 |ofNat m=>exact⟨λh=>⟨m,rfl,h⟩,λ⟨d,h,g⟩=>by cases h;trivial⟩
 |negSucc m=>exact⟨λh=>(by cases h),λ⟨d,h,_⟩=>a6⟩
abbrev Mf{f:Nat->aAl}:TT v f=some r↔∃k,∃m:Nat,v=.int k m 0/\f m=some r:=by
 unfold TT;rw[CI];constructor
 .rintro⟨k,n,s,rfl,h⟩;rw[BC,tE]at h;obtain⟨i,m,rfl,g⟩:=h;have d:s=0:=by simp_all
  subst d;exact⟨k,m,rfl,g⟩
 .rintro⟨k,m,rfl,g⟩;exact⟨k,m,0,rfl,by trivial⟩
def B2.op:B2->BinOp
 |.add=>.add|.sub=>.sub|.mul=>.mul|.quo=>.quo|.rem=>.rem|.and=>.and|.or=>.or|.xor=>.xor|.andNot=>.andNot|.shl=>.shl|.shr=>.shr
 |.lss=>.lss|.leq=>.leq|.gtr=>.gtr|.geq=>.geq
variable{s:Nat}
abbrev qg{n:Int}(h:Zn k n s=some r):AW ρ r (.int k (k.wrap n)):=by have⟨f,d,_⟩:=ASL k n s;rw[d]at h;cases h;rfl
def p6(P:Program)(o:B2)(t:TypeId)(u u':Value)(val:Value):Prop:=∀(x y:Operand) (w:World),((do eqGuard o.op t x y u u';binOp o.op t u u'):Sem Value).run P w=.ok val w
variable{x:V}{y:V}{d:Value}
abbrev zG(f:Int->Int->Int)(g:AW ρ x u)(i:AW ρ y d)(h:jN f x y=some r):
 ∃k a b,u=.int k a/\d=.int k b/\AW ρ r (.int k (k.wrap (f a b))):=by unfold jN at h;rw[CI]at h;obtain⟨k,a,s,rfl,h⟩:=h;rw[CI]at h;obtain⟨m,b,t,rfl,h⟩:=h;rw[BC,Hm]at h;obtain⟨rfl,h⟩:=h;exact⟨k,a,b,g,i,qg h⟩
abbrev AOU(f:AW ρ x u)(g:AW ρ y d)(t:TypeId)(h:AW5 x y=some r):∃val,p6 P .sub t u d val/\AW ρ r val:=by obtain⟨k,a,b,rfl,rfl,i⟩:=zG _ f g h;refine⟨_,λ_ _ w=>?_,i⟩;simp[B2.op,binOp_sub];rfl
abbrev AO4(f:AW ρ x u)(g:AW ρ y d)(t:TypeId)(h:AWs x y=some r):∃val,p6 P .mul t u d val/\AW ρ r val:=by obtain⟨k,a,b,rfl,rfl,i⟩:=zG _ f g h;refine⟨_,λ_ _ w=>?_,i⟩;simp[B2.op,_i,binOp_mul,Op.intArith]
abbrev G3{c:Nat}(h:AW ρ (.str l c) u):∃s:ByteArray,u=.string s/\s.data.toList.length=l/\enc s.data.toList=c:=h
abbrev Jy(s:ByteArray):s.size=s.data.toList.length:=by rfl
abbrev AQU{p:Value}(q:AW ρ x u)(v:AW ρ y p)(t:TypeId)(h:AS4 x y=some r):∃val,p6 P .add t u p val/\AW ρ r val:=by
 unfold AS4 at h;rw[Xj]at h;split at h
 .unfold AVZ at h;rw[FO]at h;obtain⟨l,c,rfl,h⟩:=h;rw[FO]at h;obtain⟨m,d,rfl,h⟩:=h;rw[BC]at h;have⟨A,h⟩:=h;simp only[BF]at h;cases h;obtain⟨g,rfl,rfl,rfl⟩:=G3 q;obtain⟨i,rfl,rfl,rfl⟩:=G3 v;have f:(g++i).data.toList=g.data.toList++i.data.toList:=by rfl
  refine⟨.string _,λ_ _ w=>?_,⟨g++i,rfl,?_,?_⟩⟩
  .have C:=run_string_add_sum (P:=P) w g i (by simp_all;omega);trivial
  .simp
  .rw[f,ALd]
 .obtain⟨k,a,b,rfl,rfl,B⟩:=zG _ q v h;refine⟨_,λ_ _ w=>?_,B⟩;simp[B2.op,_i,binOp_add,Op.intArith]
abbrev ANt(f:Int->Int->Int)(i:AW ρ x u)(m:AW ρ y d)(h:nD f x y=some r):
 ∃k a b,u=.int k a/\d=.int k b/\b≠0/\AW ρ r (.int k (k.wrap (f a b))):=by unfold nD at h;rw[CI]at h;obtain⟨k,a,s,rfl,h⟩:=h;rw[CI]at h;obtain⟨q,b,t,rfl,h⟩:=h;rw[BC]at h;obtain⟨g,h⟩:=h;simp only[A6,ez,Hm,js,PD,_l,beq_eq_false_iff_ne]at g;obtain⟨rfl,_,p⟩:=g;exact⟨k,a,b,i,m,p,qg h⟩
abbrev APj(f:AW ρ x u)(g:AW ρ y d)(t:TypeId)(h:nD Int.tdiv x y=some r):∃val,p6 P .quo t u d val/\AW ρ r val:=by obtain⟨k,a,b,rfl,rfl,m,i⟩:=ANt _ f g h;refine⟨_,λ_ _ w=>?_,i⟩<;>simp[*,B2.op,_i,binOp_quo,Op.intDiv]
abbrev APQ{n:Int}(h:mkN k n s=some r):AW ρ r (.int k n):=by
 cases s with
 |zero=>
  have d:=h;cases d;rfl
 |succ s=>
  have d:=h;cases d;rfl
abbrev AOY(f:AW ρ x u)(g:AW ρ y d)(t:TypeId)(h:ATL x y=some r):∃val,p6 P .rem t u d val/\AW ρ r val:=by unfold ATL at h;rw[CI]at h;obtain⟨k,a,s,rfl,h⟩:=h;rw[CI]at h;obtain⟨m,b,p,rfl,h⟩:=h;rw[BC]at h;obtain⟨i,h⟩:=h;simp only[A6,ez,Hm,js,PD,_l,beq_eq_false_iff_ne]at i;simp only[AW]at f g;refine⟨_,λ_ _ w=>?_,APQ h⟩<;>simp[*,B2.op,_i,binOp_rem,Op.intDiv]
variable{P:Program}
abbrev ALj(k:IntKind)(n:Int):k.wrap (n%2^k.bits)=k.wrap n:=by simp[IntKind.wrap]
abbrev ADO(k:IntKind)(m n:Nat):bits .and k (.ofNat m) (.ofNat n)=k.wrap (Int.ofNat (m&&&n)):=by simp only[bits];rw[<-ALj k (Int.ofNat _)];have d:(BitVec.ofInt k.bits (Int.ofNat m)).toNat=m%2^k.bits:=o6;have f:(BitVec.ofInt k.bits (Int.ofNat n)).toNat=n%2^k.bits:=o6;rw[BitVec.toNat_and,d,f,<-Nat.and_mod_two_pow];simp
abbrev AP2(k:IntKind)(a b:Int):AVj k a b=bits .and k a b:=by
 cases a with
 |ofNat m=>cases b with
  |ofNat n=>show V9 k _=_;rw[NB,ADO];rfl
  |negSucc n=>rfl
 |negSucc m=>rfl
abbrev AQi(g:AW ρ x u)(i:AW ρ y d)(t:TypeId)(h:AS3 x y=some r):∃val,p6 P .and t u d val/\AW ρ r val:=by unfold AS3 at h;rw[CI]at h;obtain⟨k,a,s,rfl,h⟩:=h;rw[CI]at h;obtain⟨m,b,p,rfl,h⟩:=h;rw[BC]at h;obtain⟨f,h⟩:=h;simp only[A6,ez,Hm]at f;obtain⟨rfl,_⟩:=f;subst g i;rw[Sx,AP2]at h;cases h;refine⟨.int k _,λ_ _ w=>?_,by rfl⟩;simp[B2.op,_i,binOp_and,intBits_and]
abbrev ACu(f:AW ρ x u)(g:AW ρ y d)(t:TypeId)(o:B2)(i:o=.or∨o=.xor∨o=.andNot)(h:AMJ o.op x y=some r):∃val,p6 P o t u d val/\AW ρ r val:=by unfold AMJ at h;rw[CI]at h;obtain⟨k,a,s,rfl,h⟩:=h;rw[CI]at h;obtain⟨m,b,p,rfl,h⟩:=h;rw[BC]at h;obtain⟨q,h⟩:=h;simp only[AW]at f g;cases h;refine⟨.int k _,λ_ _ w=>?_,by rfl⟩;rcases i with rfl|rfl|rfl<;>simp_all[B2.op,_i,binOp_or,intBits_or,binOp_xor,intBits_xor,binOp_andNot,intBits_andNot]
abbrev AEP(k:IntKind):AEo k=k.bits:=by cases k<;>rfl
abbrev AQI(g:AW ρ x u)(i:AW ρ y d)(t:TypeId)(h:AS0 x y=some r):∃val,p6 P .shr t u d val/\AW ρ r val:=by
 unfold AS0 at h;rw[CI]at h;obtain⟨k,a,s,rfl,h⟩:=h;rw[CI]at h;obtain⟨p,b,q,rfl,h⟩:=h;rw[BC]at h;have⟨f,h⟩:=h;simp only[A6,ez,js,Sm,_l,_o]at f;have⟨m,_⟩:=f;subst g i;cases h;refine⟨_,λ_ _ w=>?_,by rfl⟩;have e:AWy a (min b.toNat (AEo k))=a.fdiv (2^min b.toNat k.bits):=by rw[AEP];rfl
 simp[B2.op,_i,binOp_shr,Op.shift,m,e]
abbrev APS(g:AW ρ x u)(i:AW ρ y d)(t:TypeId)(h:ATw x y=some r):∃val,p6 P .shl t u d val/\AW ρ r val:=by
 unfold ATw at h;rw[CI]at h;obtain⟨k,a,s,rfl,h⟩:=h;rw[CI]at h;obtain⟨p,b,q,rfl,h⟩:=h;rw[BC]at h;have⟨f,h⟩:=h;simp only[A6,ez,js,Sm,_l,_o]at f;have⟨m,_⟩:=f;subst g i;refine⟨_,λ_ _ w=>?_,qg h⟩;have e:Int.mul a (Int.ofNat (Nat.pow 2 (Nat.min b.toNat (AEo k))))=a*2^min b.toNat k.bits:=by rw[AEP];rfl
 simp only[B2.op,_i,binOp_shl,Op.shift,m,J_,p_,E_,s_];rw[<-e]
abbrev jV{f:Int->Int->Bool}(i:AW ρ x u)(m:AW ρ y d)(h:lY f x y=some r):
 ∃k a b,u=.int k a/\d=.int k b/\r=.bool (f a b):=by unfold lY at h;rw[CI]at h;obtain⟨k,a,s,rfl,h⟩:=h;rw[CI]at h;obtain⟨p,b,q,rfl,h⟩:=h;rw[BC]at h;obtain⟨g,h⟩:=h;simp only[A6,ez,Hm]at g;obtain⟨rfl,_⟩:=g;rw[NA]at h;cases h;exact⟨k,a,b,i,m,rfl⟩
abbrev ja{f:Nat->Nat->Nat->Nat->Bool}{i:Value}(k:AW ρ x u)(p:AW ρ y i)(h:AEz f x y=some r):
 ∃s g:ByteArray,u=.string s/\i=.string g/\r=.bool (f s.data.toList.length (enc s.data.toList) g.data.toList.length (enc g.data.toList)):=by unfold AEz at h;rw[FO]at h;obtain⟨l,c,rfl,h⟩:=h;rw[FO]at h;obtain⟨m,d,rfl,h⟩:=h;rw[NA]at h;cases h;obtain⟨q,rfl,rfl,rfl⟩:=G3 k;obtain⟨v,rfl,rfl,rfl⟩:=G3 p;simp
abbrev vi(b:Bool):AW ρ (.bool b) (.bool b):=by rfl
abbrev APR(f:AW ρ x u)(g:AW ρ y d)(t:TypeId)(h:ASb x y=some r):∃val,p6 P .lss t u d val/\AW ρ r val:=by
 unfold ASb at h;rw[Xj]at h;split at h
 .obtain⟨s,m,rfl,rfl,i⟩:=ja f g h;simp only[ry]at i;subst i;refine⟨_,λ_ _ w=>?_,vi _⟩<;>simp_all[B2.op,_M,binOp_string_lss,ByteArray.toList_eq]
 .obtain⟨k,a,b,rfl,rfl,rfl⟩:=jV f g h;refine⟨_,λ_ _ w=>?_,vi _⟩;simp[B2.op,_i,binOp_lss]
abbrev ACU(a b:aAA):(a==b)=(Nat.beq a.length b.length&&Nat.beq (enc a) (enc b)):=by rw[zc];simp only[_T,ez,beq_iff];exact⟨λh=>by simp[*],λh=>AId a b h.1 h.2⟩
abbrev UE:∀(a b:aAA),(Op.bytesLess a b||a==b)= !Op.bytesLess b a
 |[],[]=>rfl
 |[],y::b=>rfl
 |x::a,[]=>rfl
 |x::a,y::b=>by
  have m:=UE a b;simp only[Op.bytesLess];by_cases d:x=y
  .simp[*]
  .have f:¬y=x:=λe=>d e.symm;have g:(x::a==y::b)=false:=by simp[*]
   have i:(x==y)=false:=by simp[*]
   have k:(y==x)=false:=by simp[*]
   rw[g,i,k];simp only[J',Bool.or_false];rw[zc];simp only[_v,_l,_o,B_];have:x.toNat≠y.toNat:=λe=>d (G'.1 e);omega
abbrev APG{f:Value}(g:AW ρ x u)(i:AW ρ y f)(t:TypeId)(h:AUN x y=some r):∃val,p6 P .leq t u f val/\AW ρ r val:=by
 unfold AUN at h;rw[Xj]at h;split at h
 .obtain⟨s,d,rfl,rfl,m⟩:=ja g i h;simp only[ry,js]at m;subst m;refine⟨_,λ_ _ w=>?_,vi _⟩;have:=UE s.data.toList d.data.toList;simp only[B2.op,_M,p_,E_,s_];have e:binOp .leq t (.string s) (.string d)=Op.stringOp .leq s d:=by simp[binOp]
  rw[e];simp only[Op.stringOp,ByteArray.toList_eq,this,E_]
 .obtain⟨k,a,b,rfl,rfl,rfl⟩:=jV g i h;refine⟨_,λ_ _ w=>?_,vi _⟩;simp[B2.op,_i,binOp_leq]
abbrev AO6{f:Value}(g:AW ρ x u)(i:AW ρ y f)(t:TypeId)(h:ATP x y=some r):∃val,p6 P .gtr t u f val/\AW ρ r val:=by
 unfold ATP at h;rw[Xj]at h;split at h
 .obtain⟨s,d,rfl,rfl,m⟩:=ja g i h;simp only[ry]at m;subst m;refine⟨_,λ_ _ w=>?_,vi _⟩;have:=UE s.data.toList d.data.toList;simp only[B2.op,_M,p_,E_,s_];have e:binOp .gtr t (.string s) (.string d)=Op.stringOp .gtr s d:=by simp[binOp]
  rw[e];simp only[Op.stringOp,ByteArray.toList_eq,this,E_,Bool.not_not]
 .obtain⟨k,a,b,rfl,rfl,rfl⟩:=jV g i h;refine⟨_,λ_ _ w=>?_,vi _⟩;simp[B2.op,_i,binOp_gtr]
abbrev APB(f:AW ρ x u)(g:AW ρ y d)(t:TypeId)(h:ATU x y=some r):∃val,p6 P .geq t u d val/\AW ρ r val:=by
 unfold ATU at h;rw[Xj]at h;split at h
 .obtain⟨s,i,rfl,rfl,m⟩:=ja f g h;simp only[ry,js]at m;subst m;refine⟨_,λ_ _ w=>?_,vi _⟩;simp only[B2.op,_M,p_,E_,s_];have e:binOp .geq t (.string s) (.string i)=Op.stringOp .geq s i:=by simp[binOp]
  rw[e];simp only[Op.stringOp,ByteArray.toList_eq,E_]
 .obtain⟨k,a,b,rfl,rfl,rfl⟩:=jV f g h;refine⟨_,λ_ _ w=>?_,vi _⟩;simp[B2.op,_i,binOp_geq]
variable{P:Program}
def ZX(P:Program)(t:TypeId):Option CK:=
 match P.underlying t with
 |some (.int _)=>some .int
 |some .string=>some .str
 |some .bool=>some .bool
 |some (.pointer e)=>match pI P e with|some (_+1)=>some .ptr|_=>none
 |_=>none
def AKa(P:Program)(g:TypeId->Option (aAE)):List Field->Nat->Option (aAE)
 |[],_=>some []
 |f::fs,off=>if f.name≠ "_" /\f.offset=off then(g f.type).bind λks=>if pI P f.type=some ks.length then(AKa P g fs (off+ks.length)).map λr=>ks++r else none else none
def AAW(P:Program):Nat->TypeId->Option (aAE)
 |0,_=>none
 |d+1,t=>match P.underlying t with
  |some (.struct fs)=>if P.stoodInHeld t then none else AKa P (AAW P d) fs.toList 0
  |_=>(ZX P t).map λk=>[k]
def gF(P:Program)(t:TypeId):Option EK:=
 match P.underlying t with
 |some (.struct _)=>if P.eqGuardType P.depth t then none else(AAW P 50 t).map .agg
 |some (.slice _)=>some .sl
 |some (.func _ _ _)=>some .fn
 |some (.map _ _)=>some .map
 |_=>(ZX P t).map .one
abbrev mu{n:Int}(h:AMg v k n s=some b):∃m d,v=.int k m d/\b=(n==m):=by
 cases v<;>simp only[AMg,V.el]at h<;>try (cases h;done)
 rename_i i m d;cases f:band (keq k i) (Nat.beq (Nat.add s d) 0)with
 |false=>rw[f]at h;cases h
 |true=>
  rw[f]at h;simp only[A6,ez,Hm]at f;obtain⟨rfl,_⟩:=f;have g:some (ieq n m)=some b:=h;rw[PD]at g;exact⟨m,d,rfl,(e_ g).symm⟩
abbrev ud{k:CK}(p:ZX P t=some k){F:Value}(g:AW ρ x u)(i:AW ρ y F)(h:k.eq x y=some b)(d:Nat)(w:World):
 (Op.equalIn (d+1) t u F).run P w=.ok b w:=by
 unfold ZX at p;split at p
 .cases p;have f:AE7 x y=some b:=h;cases x<;>simp only[AE7,V.el]at f<;>try (cases f;done)
  obtain⟨m,N,rfl,rfl⟩:=mu f;simp only[AW]at g i;subst g i;exact run_equalIn_int w d t _ _ _ _ (by assumption)
 .cases p;have f:AFM x y=some b:=h;cases x<;>simp only[AFM,V.el]at f<;>try (cases f;done)
  cases y<;>simp only[eqStr,V.el]at f<;>try (cases f;done)
  obtain⟨O,rfl,rfl,rfl⟩:=G3 g;obtain⟨Q,rfl,rfl,rfl⟩:=G3 i;rw[run_equalIn_string w d t _ _ (by assumption),ByteArray.toList_eq,ByteArray.toList_eq,ACU];simp only[A6]at f;rw[e_ f]
 .cases p;have f:uw x y=some b:=h;cases x<;>simp only[uw,V.el]at f<;>try (cases f;done)
  cases y<;>simp only[AGI,V.el]at f<;>try (cases f;done)
  simp only[AW]at g i;subst g i;rw[run_equalIn_bool' w d t _ _ (by assumption)];simp only[ADg]at f;rw[e_ f]
 .rename_i e q;split at p<;>cases p;rename_i m H;have B:=run_sizeOf (P:=P) H w;have f:ABz x y=some b:=h;cases x<;>simp only[ABz,V.el]at f<;>try (cases f;done)
  .cases y<;>simp only[ANP,V.el]at f<;>try (cases f;done)
   .cases f;simp only[AW]at g i;subst g i;simp[Op.equalIn,dj q]
   .cases f;simp only[AW]at g i;obtain⟨z,_,rfl⟩:=i;subst g;simp[Op.equalIn,dj q]
   .cases f;simp only[AW]at g i;subst g i;simp[Op.equalIn,dj q]
  .rename_i G C;cases y<;>simp only[ARp,V.el]at f<;>try (cases f;done)
   .cases f;simp only[AW]at g i;obtain⟨z,_,rfl⟩:=g;subst i;simp[Op.equalIn,dj q]
   .rename_i v A;cases D:Nat.beq G v with
    |false=>rw[D]at f;cases f
    |true=>
     rw[D]at f;have I:G=v:=r_ D;subst I;simp only[AW]at g i;obtain⟨z,J,rfl⟩:=g;obtain⟨K,E,rfl⟩:=i;have L:z=K:=e_ (J.symm.trans E);subst L;have M:Nat.beq C A=b:=e_ f;simp only[Op.equalIn,p_,dj q,s_,B,ne_eq,Nat.add_one_ne_zero,K_,_1,sameAddr,beq_self_eq_true,E_];congr 1;rw[<-M,zc];simp
  .cases y<;>simp only[AMW,V.el]at f<;>try (cases f;done)
   cases f;simp only[AW]at g i;subst g i;simp[Op.equalIn,dj q]
 .cases p
variable{ks:List CK}
abbrev HA{q:CK->V->V->aAn}{k:CK}{ks:aAE}{xs:LV}{ys:LV}:kQ q (k::ks) (x::xs) (y::ys)=some b↔∃r d,q k x y=some r/\kQ q ks xs ys=some d/\b=(r&&d):=by
 show K8 (q k x y) (λr=>K8 (kQ q ks xs ys) λd=>some (band r d))=some b↔_;rw[oe];constructor
 .rintro⟨r,g,h⟩;rw[oe]at h;have⟨d,f,h⟩:=h;rw[A6]at h;exact⟨r,d,g,f,(e_ h).symm⟩
 .rintro⟨r,d,g,f,rfl⟩;exact⟨r,g,by rw[oe];exact⟨d,f,by rw[A6]⟩⟩
abbrev zL{q:CK->V->V->aAn}:∀{ks:aAE} {xs ys:LV} {b:Bool},kQ q ks xs ys=some b->xs.length=ks.length/\ys.length=ks.length
 |[],[],[],_,_=>⟨rfl,rfl⟩
 |[],[],_::_,_,h=>by cases h
 |[],_::_,_,_,h=>by cases h
 |_::_,[],_,_,h=>by cases h
 |_::_,_::_,[],_,h=>by cases h
 |k::ks,x::xs,y::ys,b,h=>by have⟨_,_,_,d,_⟩:=HA.1 h;have:=zL d;simp[this.1,this.2]
abbrev vT{q:CK->V->V->aAn}:∀{ks d:aAE} {xs ys:LV} {b:Bool},kQ q (ks++d) xs ys=some b->
 ∃r f,kQ q ks (xs.take ks.length) (ys.take ks.length)=some r/\kQ q d (xs.drop ks.length) (ys.drop ks.length)=some f/\b=(r&&f)/\ks.length<=xs.length/\ks.length<=ys.length
 |[],d,xs,ys,b,h=>⟨true,b,rfl,h,o6,o6,o6⟩
 |k::ks,d,[],ys,b,h=>by cases h
 |k::ks,d,x::xs,[],b,h=>by cases h
 |k::ks,d,x::xs,y::ys,b,h=>by obtain⟨r,f,m,g,rfl⟩:=HA.1 h;obtain⟨i,p,u,v,rfl,w,A⟩:=vT g;exact⟨r&&i,p,HA.2 ⟨r,i,m,u,rfl⟩,v,by rw[Bool.and_assoc],by simpa using w,by simpa using A⟩
mutual
theorem AHx{ρ:Loc}{q:CK->V->V->aAn}{w:World}(hq:∀{t:TypeId} {k:CK} {x y:V} {u u':Value} {b:Bool},ZX P t=some k->AW ρ x u->AW ρ y u'->q k x y=some b->∀d,(Op.equalIn (d+1) t u u').run P w=.ok b w):∀(d:Nat) (t:TypeId) (ks:aAE),AAW P d t=some ks->∀(xs ys:LV) (u u':aAp) (b:Bool),Bj ρ xs u->Bj ρ ys u'->kQ q ks xs ys=some b->xs.length=ks.length->ys.length=ks.length->
 ∀(e:Nat),(Ib P t=some true->(Op.equalIn (d+e+1) t (.agg u.toArray) (.agg u'.toArray)).run P w=.ok b w)/\
  (Ib P t=some false->∃v v',u=[v]/\u'=[v']/\(Op.equalIn (d+e+1) t v v').run P w=.ok b w)
 |0,_,_,h=>by simp[AAW]at h
 |d+1,t,ks,h=>by
  intro xs ys u u' b hx hy hb hlx hly e;simp only[AAW]at h;split at h
  .rename_i fs hu;split at h
   .cases h
   .rename_i hst;refine⟨λ_=>?_,λha=>by simp[Ib,hu]at ha⟩;have hf:P.underlying t=some (.struct (P.fieldsOf t)):=by simp[Program.fieldsOf,hu]
    have hfs:P.fieldsOf t=fs:=by simp[Program.fieldsOf,hu]
    rw[show d+1+e+1=(d+e+1)+1 by omega,run_equalIn_struct w (d+e+1) t _ _ hf (by simpa using hst),hfs];exact AAk hq d fs.toList 0 ks h xs ys u u' b hx hy (by simpa using hb) (by simpa using hlx) (by simpa using hly) e
  .rename_i hns;cases hk:ZX P t with
   |none=>rw[hk]at h;cases h
   |some k=>
    rw[hk]at h;have hks:[k]=ks:=e_ h;subst hks;refine⟨λha=>?_,λ_=>?_⟩
    .exfalso;unfold ZX at hk;unfold Ib at ha;split at ha<;>rename_i hu<;>rw[hu]at hk<;>first|(cases hk;done)|(cases ha;done)
    .match xs,ys,hlx,hly with
     |[x],[y],_,_=>
      obtain⟨v,vs,rfl,hv,hr⟩:=HB.1 hx;obtain⟨v',vs',rfl,hv',hr'⟩:=HB.1 hy;simp only[pv]at hr hr';subst hr hr';obtain⟨r,r',h1,h2,rfl⟩:=HA.1 hb;have h2':some true=some r':=h2;cases h2';exact⟨v,v',rfl,rfl,by rw[Bool.and_true];exact hq hk hv hv' h1 _⟩
theorem AAk{ρ:Loc}{q:CK->V->V->aAn}{w:World}(hq:∀{t:TypeId} {k:CK} {x y:V} {u u':Value} {b:Bool},ZX P t=some k->AW ρ x u->AW ρ y u'->q k x y=some b->∀d,(Op.equalIn (d+1) t u u').run P w=.ok b w):∀(d:Nat) (fs:List Field) (off:Nat) (ks:aAE),AKa P (AAW P d) fs off=some ks->∀(xs ys:LV) (u u':aAp) (b:Bool),Bj ρ xs u->Bj ρ ys u'->kQ q ks (xs.drop off) (ys.drop off)=some b->
 xs.length=off+ks.length->ys.length=off+ks.length->∀(e:Nat),(Op.eqFields (d+e+1) u.toArray u'.toArray fs).run P w=.ok b w
 |d,[],off,ks,h=>by
  intro xs ys u u' b _ _ hb hlx hly e;simp only[AKa]at h;cases h;have hxn:xs.drop off=[]:=by rw[O_];simpa using aAe hlx
  have hyn:ys.drop off=[]:=by rw[O_];simpa using aAe hly
  rw[hxn,hyn]at hb;have hb':some true=some b:=hb;cases hb';simp[Op.eqFields]
 |d,f::fs,off,ks,h=>by
  intro xs ys u u' b hx hy hb hlx hly e;simp only[AKa]at h;split at h
  .rename_i hc;obtain⟨hname,hoff⟩:=hc;simp only[ee]at h;obtain⟨k1,hk1,h⟩:=h;split at h
   .rename_i hsz;cases hg:AKa P (AAW P d) fs (off+k1.length)with
    |none=>rw[hg]at h;cases h
    |some k2=>
     rw[hg]at h;have hks:k1++k2=ks:=e_ h;subst hks;obtain⟨r,r',h1,h2,rfl,h3,h4⟩:=vT hb;rw[C']at h2;rw[C']at h2;simp only[uk]at hlx hly;have hlu:=hx.length;have hlu':=hy.length;have key:=AHx (ρ:=ρ) hq d f.type k1 hk1 _ _ _ _ r ((hx.drop off).take k1.length) ((hy.drop off).take k1.length) h1 (by simp;omega) (by simp;omega) e;have ih:=AAk (ρ:=ρ) hq d fs (off+k1.length) k2 hg xs ys u u' r' hx hy h2 a6 a6 e;have hne:f.name≠ "_" :=hname;simp only[Op.eqFields,hne,ne_eq,K_,_1,p_];cases ha:Ib P f.type with
     |none=>simp[Ib]at ha;split at ha<;>simp_all;cases d<;>simp_all [AAW,ZX]
     |some bb=>
      have hagg:=eL (P:=P) ha w;have hso:=run_sizeOf (P:=P) hsz w;cases bb with
      |true=>
       have hrun:=key.1 ha;have p1:(Go.part f.type u.toArray f.offset).run P w=.ok (.agg ((u.drop off).take k1.length).toArray) w:=by simp only[Go.part,p_,hagg,s_,_1,hso,E_,hoff];congr 2;apply Array.ext';simp
       have p2:(Go.part f.type u'.toArray f.offset).run P w=.ok (.agg ((u'.drop off).take k1.length).toArray) w:=by simp only[Go.part,p_,hagg,s_,_1,hso,E_,hoff];congr 2;apply Array.ext';simp
       rw[p1,s_,p2,s_,hrun,s_];cases r with
       |true=>simpa using ih
       |false=>simp
      |false=>
       obtain⟨v,v',hv,hv',hrun⟩:=key.2 ha;have q1:u[off]? =some v:=by
        have:((u.drop off).take k1.length)[0]? =some v:=by rw[hv];rfl
        rw[x_]at this;split at this
        .simpa using this
        .cases this
       have q2:u'[off]? =some v':=by
        have:((u'.drop off).take k1.length)[0]? =some v':=by rw[hv'];rfl
        rw[x_]at this;split at this
        .simpa using this
        .cases this
       have p1:(Go.part f.type u.toArray f.offset).run P w=.ok v w:=by simp[Go.part,p_,hagg,s_,hoff,q1]
       have p2:(Go.part f.type u'.toArray f.offset).run P w=.ok v' w:=by simp[Go.part,p_,hagg,s_,hoff,q2]
       rw[p1,s_,p2,s_,hrun,s_];cases r with
       |true=>simpa using ih
       |false=>simp
   .cases h
  .cases h
end
def mW:Value->Bool
 |.bool _|.slice _ _ _|.map _|.nilFunc|.func _ _ _|.pointer _=>true
 |_=>false
abbrev qm(g:mW u=true)(f:(Op.equalIn (9999+1) t u d).run P w=.ok b w)(o:BinOp)(p:o=.eql∨o=.neq)(X Y:Operand):
 ((do eqGuard o t X Y u d;binOp o t u d):Sem Value).run P w=.ok (.bool (if o=.neq then !b else b)) w:=by
 have k:eqGuard o t X Y u d=pure ():=by
  cases u<;>simp only[mW,_J]at g
  .exact eqGuard_at_bool _ _ _ _ _ _
  .exact eqGuard_at_pointer _ _ _ _ _ _
  .exact eqGuard_at_slice _ _ _ _ _ _ _ _
  .exact eqGuard_at_map _ _ _ _ _ _
  .exact eqGuard_at_func _ _ _ _ _ _ _ _
  .exact eqGuard_at_nilFunc _ _ _ _ _
 have m:(Op.equal t u d).run P w=.ok b w:=f;rcases p with rfl|rfl
 .have i:binOp .eql t u d=(do let r<-Op.equal t u d;pure (.bool r)):=by cases u<;>simp only[mW,_J]at g<;>first|rfl|(cases d<;>rfl)
  simp only[k,i,p_,E_,s_,m];simp
 .have i:binOp .neq t u d=(do let r<-Op.equal t u d;pure (.bool !r)):=by cases u<;>simp only[mW,_J]at g<;>first|rfl|(cases d<;>rfl)
  simp only[k,i,p_,E_,s_,m];simp
abbrev AV0{e:TypeId}(D:P.underlying t=some (.slice e)){k:Value}(i:AW ρ x u)(f:AW ρ y k)(h:kSl x y=some b)(d:Nat)(w:World):
 mW u=true/\(Op.equalIn (d+1) t u k).run P w=.ok b w:=by
 have g:∀v,bB v=some false->AW ρ v k->k=.slice none 0 0:=by
  intro v h E;cases v<;>simp only[bB,V.el]at h<;>first|(cases h;done)|skip
  exact E
 have A:∀p n c,u=.slice (some p) n c->k=.slice none 0 0->b=false->mW u=true/\(Op.equalIn (d+1) t u k).run P w=.ok b w:=by rintro p n c rfl rfl rfl;exact⟨rfl,by simp[Op.equalIn,dj D]⟩
 have B:∀v,bB v=some b->b=false:=by
  intro v C;cases v<;>simp only[bB,V.el]at C<;>first|(cases C;done)|skip
  exact(e_ C).symm
 cases x<;>simp only[kSl,V.el]at h<;>try (cases h;done)
 .simp only[AW]at i;subst i;refine⟨rfl,?_⟩;have F:∃q n c,k=.slice q n c/\b=q.isNone:=by
   cases y<;>simp only[AMa,V.el]at h<;>try (cases h;done)
   .exact⟨_,_,_,f,(e_ h).symm⟩
   .simp only[AW]at f;have⟨_,a,_,f,_⟩:=f;exact⟨some a,_,_,f,(e_ h).symm⟩
   .simp only[AW]at f;have⟨_,a,_,_,f,_⟩:=f;exact⟨some a,_,_,f,(e_ h).symm⟩
   .simp only[AW]at f;have⟨a,f,_⟩:=f;exact⟨some a,_,_,f,(e_ h).symm⟩
  obtain⟨q,n,c,rfl,rfl⟩:=F;simp[Op.equalIn,dj D]
 .have m:=B _ h;subst m;simp only[AW]at i;have⟨_,a,_,i,_⟩:=i;exact A _ _ _ i (g _ h f) rfl
 .have m:=B _ h;subst m;simp only[AW]at i;have⟨_,a,_,_,i,_⟩:=i;exact A _ _ _ i (g _ h f) rfl
 .have m:=B _ h;subst m;simp only[AW]at i;have⟨a,i,_⟩:=i;exact A _ _ _ i (g _ h f) rfl
abbrev AU8{ps m:Array TypeId}{p:Bool}(i:P.underlying t=some (.func ps m p)){k:Value}(g:AW ρ x u)(f:AW ρ y k)(h:kFn x y=some b)(d:Nat)(w:World):
 mW u=true/\(Op.equalIn (d+1) t u k).run P w=.ok b w:=by
 cases x<;>simp only[kFn,V.el]at h<;>try (cases h;done)
 .simp only[AW]at g;subst g;cases y<;>simp only[AL7,V.el]at h<;>try (cases h;done)
  .cases h;simp only[AW]at f;subst f;exact⟨rfl,by simp[Op.equalIn,dj i]⟩
  .cases h;simp only[AW]at f;obtain⟨_,_,rfl,_⟩:=f;exact⟨rfl,by simp[Op.equalIn,dj i]⟩
 .simp only[AW]at g;obtain⟨_,_,rfl,_⟩:=g;cases y<;>simp only[AIH,V.el]at h<;>try (cases h;done)
  cases h;simp only[AW]at f;subst f;exact⟨rfl,by simp[Op.equalIn,dj i]⟩
abbrev map_eq{m p:TypeId}(i:P.underlying t=some (.map m p)){k:Value}(g:AW ρ x u)(f:AW ρ y k)(h:ATS x y=some b)(d:Nat)(w:World):
 mW u=true/\(Op.equalIn (d+1) t u k).run P w=.ok b w:=by
 cases x<;>simp only[ATS,V.el]at h<;>try (cases h;done)
 .simp only[AW]at g;subst g;cases y<;>simp only[AL1,V.el]at h<;>try (cases h;done)
  .cases h;simp only[AW]at f;subst f;exact⟨rfl,by simp[Op.equalIn,dj i]⟩
  .cases h;simp only[AW]at f;obtain⟨_,_,rfl⟩:=f;exact⟨rfl,by simp[Op.equalIn,dj i]⟩
 .simp only[AW]at g;obtain⟨_,_,rfl⟩:=g;cases y<;>simp only[AIR,V.el]at h<;>try (cases h;done)
  cases h;simp only[AW]at f;subst f;exact⟨rfl,by simp[Op.equalIn,dj i]⟩
abbrev AMB(d:AW ρ x u)(h:uw x y=some b):mW u=true:=by
 cases x<;>simp only[uw,V.el]at h<;>try (cases h;done)
 simp only[AW]at d;subst d;rfl
abbrev AOs(d:AW ρ x u)(h:ABz x y=some b):mW u=true:=by
 cases x<;>simp only[ABz,V.el]at h<;>try (cases h;done)
 .simp only[AW]at d;subst d;rfl
 .simp only[AW]at d;obtain⟨_,_,rfl⟩:=d;rfl
 .simp only[AW]at d;subst d;rfl
abbrev AQC{k:EK}(g:gF P t=some k){I:Value}(p:AW ρ x u)(v:AW ρ y I)(h:k.eq x y=some b)(o:BinOp)(B:o=.eql∨o=.neq)(X Y:Operand)(w:World):
 ((do eqGuard o t X Y u I;binOp o t u I):Sem Value).run P w=.ok (.bool (if o=.neq then !b else b)) w:=by
 unfold gF at g;split at g
 .rename_i T D;split at g
  .cases g
  .rename_i J;cases E:AAW P 50 t with
   |none=>rw[E]at g;cases g
   |some ks=>
    rw[E]at g;have F:EK.agg ks=k:=e_ g;subst F;have i:ATd x ks y=some b:=h;cases x<;>simp only[ATd,V.el]at i<;>try (cases i;done)
    cases y<;>simp only[ARW,V.el]at i<;>try (cases i;done)
    rename_i L M;simp only[AW]at p v;obtain⟨a,rfl,K,_⟩:=p;obtain⟨Q,rfl,G,_⟩:=v;have i:kQ CK.eq ks L M=some b:=i;have C:=zL i;have f:=(AHx (P:=P) (q:=CK.eq) (w:=w) (λg p v h d=>ud g p v h d w) 50 t ks E L M _ _ b K G i C.1 C.2 9949).1 (by simp[Ib,D]);simp only[_Z]at f;have N:=run_eqGuard_agg (P:=P) w o t X Y a Q (by simpa using J);rcases B with rfl|rfl
    .simp only[p_,N,s_,run_eql_struct];rw[f];simp
    .simp only[p_,N,s_,run_neq_struct];rw[f];simp
 .rename_i e D;cases g;have⟨H,f⟩:=AV0 D p v h 9999 w;exact qm H f o B X Y
 .rename_i D;cases g;have⟨H,f⟩:=AU8 D p v h 9999 w;exact qm H f o B X Y
 .rename_i D;cases g;have⟨H,f⟩:=map_eq D p v h 9999 w;exact qm H f o B X Y
 .cases E:ZX P t with
  |none=>rw[E]at g;cases g
  |some c=>
   rw[E]at g;have F:EK.one c=k:=e_ g;subst F;have i:c.eq x y=some b:=h;have f:=ud (P:=P) E p v i 9999 w;cases c with
   |int=>
    have A:AE7 x y=some b:=i;cases x<;>simp only[AE7,V.el]at A<;>try (cases A;done)
    obtain⟨m,U,rfl,rfl⟩:=mu A;simp only[AW]at p v;subst p v;rcases B with rfl|rfl
    .simp only[_i,binOp_eql,p_,E_,s_];simp
    .simp only[_i,binOp_neq,p_,E_,s_,bne];simp
   |str=>
    have A:AFM x y=some b:=i;cases x<;>simp only[AFM,V.el]at A<;>try (cases A;done)
    cases y<;>simp only[eqStr,V.el]at A<;>try (cases A;done)
    obtain⟨R,rfl,rfl,rfl⟩:=G3 p;obtain⟨S,rfl,rfl,rfl⟩:=G3 v;simp only[A6]at A;have O:(R.data.toList==S.data.toList)=b:=by rw[ACU];exact e_ A
    rcases B with rfl|rfl
    .simp only[_M,binOp_string_eql,ByteArray.toList_eq,O,p_,E_,s_];simp
    .simp only[_M,binOp_string_neq,ByteArray.toList_eq,O,p_,E_,s_];simp
   |bool=>exact qm (AMB p i) f o B X Y
   |ptr=>exact qm (AOs p i) f o B X Y
abbrev yk(h:VW H id=true):∃esz d c,T.get H id=some (.arr esz d c)/\esz≠1:=by
 unfold VW at h;cases f:T.get H id with
 |none=>rw[f]at h;cases h
 |some b=>
  rw[f]at h;cases b with
  |arr esz d c=>
   refine⟨esz,d,c,rfl,λe=>?_⟩;subst e;cases h
  |map=>cases h
  |dead=>cases h
  |aq=>cases h
  |own=>cases h
abbrev AG9{ok:Nat->Bool}(h:zm ok x y=some b):ABz x y=some b∨∃i o j o',x=.ptr i o/\y=.ptr j o'/\i≠j/\ok i=true/\ok j=true/\b=false:=by
 unfold zm at h;cases f:ABz x y with
 |some c=>rw[f]at h;exact .inl h
 |none=>
  rw[f]at h;right;have h:AKJ ok x y=some b:=h;unfold AKJ at h;cases x with
  |ptr i o=>
   cases y with
   |ptr j o'=>
    have h:Bool.rec (motive:=λ_=>aAn) none (some false) (band (Lf (Nat.beq i j)) (band (ok i) (ok j)))=some b:=h;cases d:band (Lf (Nat.beq i j)) (band (ok i) (ok j))with
    |false=>rw[d]at h;cases h
    |true=>
     rw[d]at h;cases h;simp only[A6,ez]at d;refine⟨i,o,j,o',rfl,rfl,λe=>?_,d.2.1,d.2.2,rfl⟩;subst e;have:=d.1;rw[Nat.beq_refl]at this;cases this
   |_=>cases h
  |_=>cases h
abbrev AOi(hh:Cb w0 ρ H n w){ks:aAE}(f:gF P t=some (.agg ks)){C:Value}(p:AW ρ x u)(v:AW ρ y C)(h:rC (VW H) ks x y=some b)(o:BinOp)(ho:o=.eql∨o=.neq)(X Y:Operand):
 ((do eqGuard o t X Y u C;binOp o t u C):Sem Value).run P w=.ok (.bool (if o=.neq then !b else b)) w:=by
 have hq:∀{t:TypeId} {k:CK} {x y:V} {u C:Value} {b:Bool},ZX P t=some k->AW ρ x u->AW ρ y C->CK.oR (VW H) k x y=some b->∀d,(Op.equalIn (d+1) t u C).run P w=.ok b w:=by
  intro t k x y u C b f p v h d;cases k with
  |int=>exact ud f p v (show CK.eq .int x y=some b from h) d w
  |str=>exact ud f p v (show CK.eq .str x y=some b from h) d w
  |bool=>exact ud f p v (show CK.eq .bool x y=some b from h) d w
  |ptr=>
   rcases AG9 (show zm (VW H) x y=some b from h)with h|⟨i,o,j,o',rfl,rfl,G,hi,hj,rfl⟩
   .exact ud f p v (show CK.eq .ptr x y=some b from h) d w
   .simp only[AW]at p v;obtain⟨z,N,rfl⟩:=p;obtain⟨z',E,rfl⟩:=v;have⟨e1,c1,s1,O,n1⟩:=yk hi;have⟨e2,c2,s2,Q,n2⟩:=yk hj;have⟨d0,t1,f1,R⟩:=hh.arr _ _ _ _ _ N O;have⟨d1,t2,f2,S⟩:=hh.arr _ _ _ _ _ E Q;have q1:=R.sh.resolve_left n1;have q2:=S.sh.resolve_left n2;subst q1;subst q2;have hb:z.b≠z'.b:=λe=>G (hh.inj _ _ _ _ N E ⟨_,O,o6⟩ ⟨_,Q,o6⟩ e);unfold ZX at f;split at f<;>try (cases f;done)
    rename_i e I;split at f<;>cases f;rename_i m hm;have J:=run_sizeOf (P:=P) hm w;simp only[Op.equalIn,p_,dj I,s_,J,ne_eq,Nat.add_one_ne_zero,K_,_1];exact run_sameAddr_other w (λe=>hb (congrArg Addr.block e)) R.heap S.heap
 unfold gF at f;split at f
 .rename_i fs I;split at f
  .cases f
  .rename_i K;cases D:AAW P 50 t with
   |none=>rw[D]at f;cases f
   |some A=>
    rw[D]at f;have L:A=ks:=by have e:EK.agg A=EK.agg ks:=e_ f;cases e;rfl
    subst L;cases x<;>try (cases h;done)
    cases y<;>try (cases h;done)
    rename_i T U;have W:kQ (CK.oR (VW H)) A T U=some b:=h;simp only[AW]at p v;obtain⟨a,rfl,M,_⟩:=p;obtain⟨a',rfl,F,_⟩:=v;have B:=zL W;have g:=(AHx (P:=P) (q:=CK.oR (VW H)) (w:=w) hq 50 t A D T U _ _ b M F W B.1 B.2 9949).1 (by simp[Ib,I]);simp only[_Z]at g;have Z:=run_eqGuard_agg (P:=P) w o t X Y a a' (by simpa using K);rcases ho with rfl|rfl
    .simp only[p_,Z,s_,run_eql_struct];rw[g];simp
    .simp only[p_,Z,s_,run_neq_struct];rw[g];simp
 .cases f
 .cases f
 .cases f
 .cases D:ZX P t with
  |none=>rw[D]at f;cases f
  |some c=>rw[D]at f;cases f
end Go.BN
