/- Part of a proof; nothing is assumed. -/
import Derived.Test.YtbcanmhagkiccaaGreatDoorEngA
import Derived.IntWalk
import Derived.Laws.Strings
import Derived.Laws.Small
import Derived.Laws.Cells
import Derived.Laws.NewBlocks
import Derived.Laws.Tables
import Derived.Laws.CopyRow
import Derived.Lib.Builder
import Derived.Lib.UnsafeStr
import Derived.Laws.StructEq
import Derived.Laws.Pointers
import Derived.Laws.Slices
import Derived.Laws.Concat
import Derived.Laws.BytesString
import Derived.Laws.Externs
import Derived.LaidEql
set_option linter.unusedVariables false
set_option linter.unusedSimpArgs false
namespace Go.Eng
def P2.key:P2->Nat|.h=>0|.z p=>2*p.key+1|.o p=>2*p.key+2
theorem key_inj:∀{p q:P2},p.key=q.key->p=q
 |.h,.h,_=>rfl
 |.h,.z _,e=>by simp[P2.key]at e
 |.h,.o _,e=>by simp[P2.key]at e
 |.z _,.h,e=>by simp[P2.key]at e
 |.o _,.h,e=>by simp[P2.key]at e
 |.z p,.z q,e=>by rw[@key_inj p q (by simp[P2.key]at e;omega)]
 |.o p,.o q,e=>by rw[@key_inj p q (by simp[P2.key]at e;omega)]
 |.z _,.o _,e=>by simp[P2.key]at e;omega
 |.o _,.z _,e=>by simp[P2.key]at e;omega
section
variable{α:Type}
@[simp] theorem T.Agp:(T.e:T α).val=none:=rfl
@[simp] theorem T.AgM:(T.e:T α).left=.e:=rfl
@[simp] theorem T.AeW:(T.e:T α).right=.e:=rfl
@[simp] theorem T.AhB(v:Option α)(l r:T α):(T.n v l r).val=v:=rfl
@[simp] theorem T.lT(v:Option α)(l r:T α):(T.n v l r).left=l:=rfl
@[simp] theorem T.Yf(v:Option α)(l r:T α):(T.n v l r).right=r:=rfl
theorem T.ADj(t:T α):T.Bf .h t=t.val:=rfl
theorem T.Gt(p:P2)(t:T α):T.Bf (.z p) t=T.Bf p t.left:=rfl
theorem T.Gm(p:P2)(t:T α):T.Bf (.o p) t=T.Bf p t.right:=rfl
theorem T.AED(x:α)(t:T α):T.Dx x .h t=.n (some x) t.left t.right:=rfl
theorem T.lN(x:α)(p:P2)(t:T α):T.Dx x (.z p) t=.n t.val (T.Dx x p t.left) t.right:=rfl
theorem T.kK(x:α)(p:P2)(t:T α):T.Dx x (.o p) t=.n t.val t.left (T.Dx x p t.right):=rfl
@[simp] theorem T.Uk:∀(p:P2),T.Bf p (T.e:T α)=none
 |.h=>rfl
 |.z p=>by rw[T.Gt];exact T.Uk p
 |.o p=>by rw[T.Gm];exact T.Uk p
@[simp] theorem T.Ed(x:α):∀(p:P2) (t:T α),T.Bf p (T.Dx x p t)=some x
 |.h,t=>rfl
 |.z p,t=>by rw[T.lN,T.Gt];exact T.Ed x p _
 |.o p,t=>by rw[T.kK,T.Gm];exact T.Ed x p _
theorem T.Ce(x:α):∀(p q:P2) (t:T α),p≠q->T.Bf q (T.Dx x p t)=T.Bf q t
 |.h,.h,_,h=>absurd rfl h
 |.h,.z q,t,_=>by rw[T.AED,T.Gt,T.Gt,T.lT]
 |.h,.o q,t,_=>by rw[T.AED,T.Gm,T.Gm,T.Yf]
 |.z p,.h,t,_=>rfl
 |.o p,.h,t,_=>rfl
 |.z p,.z q,t,h=>by rw[T.lN,T.Gt,T.Gt,T.lT];exact T.Ce x p q _ (λe=>h (by rw[e]))
 |.o p,.o q,t,h=>by rw[T.kK,T.Gm,T.Gm,T.Yf];exact T.Ce x p q _ (λe=>h (by rw[e]))
 |.z p,.o q,t,_=>by rw[T.lN,T.Gm,T.Gm,T.Yf]
 |.o p,.z q,t,_=>by rw[T.kK,T.Gt,T.Gt,T.lT]
theorem T.AG3(x:α)(p q:P2)(t:T α):T.Bf q (T.Dx x p t)=if p=q then some x else T.Bf q t:=by
 by_cases h:p=q
 ·subst h;simp
 ·simp[h,T.Ce x p q t h]
end
theorem zH:∀(f k:Nat),k<f->(uo f k).key=k:=by
 intro f
 induction f with
 |zero=>intro k h;omega
 |succ f ih=>
  intro k h
  cases k with
  |zero=>rfl
  |succ m=>
   have hm:m/2<f:=by omega
   have ih':=ih (m/2) hm
   show(Bool.rec (P2.o (uo f (Nat.div m 2))) (P2.z (uo f (Nat.div m 2))) (Nat.beq (Nat.mod m 2) 0):P2).key=m+1
   have hd:Nat.div m 2=m/2:=rfl
   have hmo:Nat.mod m 2=m%2:=rfl
   rw[hd,hmo]
   rcases Nat.mod_two_eq_zero_or_one m with e|e
   ·rw[e];show(P2.z (uo f (m/2))).key=m+1;simp only[P2.key,ih'];omega
   ·rw[e];show(P2.o (uo f (m/2))).key=m+1;simp only[P2.key,ih'];omega
@[simp] theorem Il(k:Nat):(Dz k).key=k:=zH _ _ (Nat.lt_succ_self k)
theorem Gg{j k:Nat}(h:Dz j=Dz k):j=k:=by rw[<-Il j,h,Il]
theorem Aeb(p:P2):Dz p.key=p:=key_inj (Il p.key)
section
variable{α:Type}
@[simp] theorem T.AcG(k:Nat):T.get (T.e:T α) k=none:=T.Uk _
@[simp] theorem T.Gh(t:T α)(k:Nat)(x:α):T.get (T.set t k x) k=some x:=T.Ed _ _ _
theorem T.Bv(t:T α){k j:Nat}(x:α)(h:k≠j):T.get (T.set t k x) j=T.get t j:=T.Ce _ _ _ _ λe=>h (Gg e)
theorem T.Ey(t:T α)(k j:Nat)(x:α):T.get (T.set t k x) j=if k=j then some x else T.get t j:=by
 by_cases h:k=j
 ·subst h;simp
 ·simp[h,T.Bv t x h]
end
section
variable{α:Type}
@[simp] theorem len_eq(l:List α):len l=l.length:=by induction l with|nil=>rfl|cons x l ih=>show Nat.succ (len l)=_;rw[ih];rfl
@[simp] theorem Zh(a b:List α):cat a b=a++b:=by induction a with|nil=>rfl|cons x l ih=>show x::cat l b=_;rw[ih];rfl
@[simp] theorem VA:∀(l:List α) (i:Nat),nth l i=l[i]?
 |[],_=>by simp[nth]
 |_::_,0=>rfl
 |x::l,i+1=>by show nth l i=_;rw[VA l i];simp
@[simp] theorem XT(x:α):∀(l:List α) (i:Nat),TG x l i=l.set i x
 |[],_=>by simp[TG]
 |_::_,0=>rfl
 |y::l,i+1=>by show y::TG x l i=_;rw[XT x l i];rfl
@[simp] theorem Ic:∀(n:Nat) (l:List α),GH n l=l.take n
 |0,_=>rfl
 |_+1,[]=>rfl
 |n+1,x::l=>by show x::GH n l=_;rw[Ic n l];rfl
@[simp] theorem J9:∀(n:Nat) (l:List α),Ib n l=l.drop n
 |0,_=>rfl
 |_+1,[]=>rfl
 |n+1,x::l=>by show Ib n l=_;rw[J9 n l];rfl
@[simp] theorem WI:∀(l:List α) (i:Nat),U9 l i=l.eraseIdx i
 |[],_=>by simp[U9]
 |_::_,0=>rfl
 |y::l,i+1=>by show y::U9 l i=_;rw[WI l i];rfl
end
@[simp] theorem Zr:∀(l:List V) (i:Nat),AA0 l i=(l[i]?).getD .undef
 |[],_=>by simp[AA0]
 |_::_,0=>rfl
 |x::l,i+1=>by show AA0 l i=_;rw[Zr l i];simp
@[simp] theorem mV(new:LV)(i:Nat)(l:LV):jT new i l=l.take i++(new++l.drop (i+new.length)):=by
 show cat (GH i l) (cat new (Ib (Nat.add i (len new)) l))=_
 simp
@[simp] theorem AeK(l:List X)(R:RS):Ep l R=l.map (·.ev R):=by induction l with|nil=>rfl|cons x l ih=>show x.ev R::Ep l R=_;rw[ih];rfl
@[simp] theorem Iq(b:Bool):Ef b= !b:=by cases b<;>rfl
@[simp] theorem BL(a b:Bool):band a b=(a&&b):=by cases a<;>cases b<;>rfl
@[simp] theorem Zq(a b:Bool):AFh a b=(a==b):=by cases a<;>cases b<;>rfl
@[simp] theorem ZG(b:Bool):mkB b=some (.bool b):=by cases b<;>rfl
theorem BD{b:Bool}{o:Option V}{v:V}:BJ b o=some v↔b=true/\o=some v:=by cases b<;>simp[BJ]
@[simp] theorem GX(b:Bool)(x y:Option V):NJ b x y=if b then x else y:=by cases b<;>rfl
@[simp] theorem CO(b:Bool)(p:Prop):Bq b p↔b=true/\p:=by cases b<;>simp[Bq]
theorem DT{α:Type}(o:Option α)(f:α->Prop):CJ o f↔∃x,o=some x/\f x:=by cases o<;>simp[CJ]
theorem RV(o:Option V)(f:V->Prop):AB o f↔∃x,o=some x/\f x:=by cases o<;>simp[AB]
theorem AVo{o:Option V}{f:V->Option V}{v:V}:APv o f=some v↔∃x,o=some x/\f x=some v:=by cases o<;>simp[APv]
theorem E8{o:Option LV}{f:LV->Option V}{v:V}:Fg o f=some v↔∃x,o=some x/\f x=some v:=by cases o<;>simp[Fg]
theorem BM{α β:Type}{o:Option α}{f:α->Option β}{v:β}:Bl o f=some v↔∃x,o=some x/\f x=some v:=by cases o<;>simp[Bl]
theorem Jw{o:Option Bool}{f:Bool->Option Bool}{v:Bool}:GV o f=some v↔∃x,o=some x/\f x=some v:=by cases o<;>simp[GV]
@[simp] theorem AaS(v:V):Dq (some v)=v:=rfl
@[simp] theorem qA:Dq none=.undef:=rfl
@[simp] theorem E5(n:Int)(f:Int->Option V):ES n f=f n:=by
 cases n with
 |ofNat m=>cases m<;>rfl
 |negSucc m=>cases m<;>rfl
@[simp] theorem Ec(n:Nat)(f:Nat->Option V):ED n f=f n:=by cases n<;>rfl
@[simp] theorem CY(n:Nat)(f:Nat->Prop):DK n f=f n:=by cases n<;>rfl
theorem beq_iff{a b:Nat}:Nat.beq a b=true↔a=b:=by simp
theorem AEa{k:IntKind}{n:Int}(h:inr k n=true):k.min<=n/\n<=k.max:=by
 cases n with
 |ofNat m=>cases k<;>(simp[inr,Ab9,Nat.blt_eq]at h;simp[IntKind.min,IntKind.max,IntKind.signed,IntKind.bits];omega)
 |negSucc m=>cases k<;>(simp[inr,Aak,Nat.blt_eq]at h;try (simp[IntKind.min,IntKind.max,IntKind.signed,IntKind.bits];omega))
theorem G6(k:IntKind)(n:Int):KN k n=k.wrap n:=by
 unfold KN
 cases h:inr k n with
 |false=>rfl
 |true=>
  have hb:=AEa h
  show n=k.wrap n
  cases k<;>simp[IntKind.min,IntKind.max,IntKind.signed,IntKind.bits]at hb
  ·exact(IntWalk.i8_in n ⟨by omega,by omega⟩).symm
  ·exact(IntWalk.i16_in n ⟨by omega,by omega⟩).symm
  ·exact(IntWalk.i32_in n ⟨by omega,by omega⟩).symm
  ·exact(IntWalk.i64_in n ⟨by omega,by omega⟩).symm
  ·exact(IntWalk.u8_in n ⟨by omega,by omega⟩).symm
  ·exact(IntWalk.u16_in n ⟨by omega,by omega⟩).symm
  ·exact(IntWalk.u32_in n ⟨by omega,by omega⟩).symm
  ·exact(IntWalk.u64_in n ⟨by omega,by omega⟩).symm
@[simp] theorem fG(k:IntKind)(n:Int):yu k n 0=some (.int k (k.wrap n) 0):=by
 show AWk k n=_
 simp[AWk,G6]
theorem AXN(k:IntKind)(n:Int)(s:Nat):∃s',yu k n s=some (.int k (k.wrap n) s')/\s'<=1:=by
 cases s with
 |zero=>exact⟨0,fG k n,by omega⟩
 |succ s=>exact⟨1,rfl,by omega⟩
@[simp] theorem Z5(a b:Int):kP a b=a+b:=by
 cases a<;>cases b<;>simp[kP,APk,ASl]
 ·rfl
 ·rfl
 ·rfl
@[simp] theorem AXH(a b:Int):ile a b=decide (a<=b):=by
 cases a with
 |ofNat m=>cases b with
  |ofNat n=>show Nat.ble m n=_;rw[Bool.eq_iff_iff];simp
  |negSucc n=>show false=_;symm;simp;omega
 |negSucc m=>cases b with
  |ofNat n=>show true=_;symm;simp;omega
  |negSucc n=>show Nat.ble n m=_;rw[Bool.eq_iff_iff];simp;omega
@[simp] theorem JO(a b:Int):nI a b=decide (a<b):=by
 cases a with
 |ofNat m=>cases b with
  |ofNat n=>show Nat.blt m n=_;rw[Bool.eq_iff_iff];simp[Nat.blt_eq]
  |negSucc n=>show false=_;symm;simp;omega
 |negSucc m=>cases b with
  |ofNat n=>show true=_;symm;simp;omega
  |negSucc n=>show Nat.blt n m=_;rw[Bool.eq_iff_iff];simp[Nat.blt_eq];omega
@[simp] theorem Jf(a b:Int):ieq a b=(a==b):=by
 cases a with
 |ofNat m=>cases b with
  |ofNat n=>show Nat.beq m n=_;rw[Bool.eq_iff_iff];simp;omega
  |negSucc n=>show false=_;symm;simp
 |negSucc m=>cases b with
  |ofNat n=>show false=_;symm;simp
  |negSucc n=>show Nat.beq n m=_;rw[Bool.eq_iff_iff];simp;omega
theorem AKJ{a b:IntKind}(h:kno a=kno b):a=b:=by cases a<;>cases b<;>first|rfl|(simp[kno]at h)
@[simp] theorem IU(a b:IntKind):keq a b=true↔a=b:=⟨λh=>AKJ (by simpa[keq]using h),λh=>by subst h;simp[keq]⟩
def enc:List UInt8->Nat
 |[]=>0
 |b::l=>b.toNat+256*enc l
theorem AVf:∀(l:List UInt8),enc l<256^l.length
 |[]=>by simp[enc]
 |b::l=>by
  have ih:=AVf l
  have hb:b.toNat<256:=b.toNat_lt
  simp only[enc,List.length_cons,Nat.pow_succ]
  omega
theorem Vo:∀(a b:List UInt8),enc (a++b)=enc a+256^a.length*enc b
 |[],b=>by simp[enc]
 |x::a,b=>by
  simp only[List.cons_append,enc,Vo a b,List.length_cons,Nat.pow_succ,Nat.mul_add]
  rw[Nat.mul_comm (256^a.length) 256,Nat.mul_assoc];omega
theorem UZ:∀(n:Nat) (l:List UInt8),enc (l.drop n)=enc l/256^n
 |0,l=>by simp
 |n+1,[]=>by simp[enc]
 |n+1,b::l=>by
  have hb:b.toNat<256:=b.toNat_lt
  rw[List.drop_succ_cons,UZ n l,enc,Nat.pow_succ',<-Nat.div_div_eq_div_mul]
  congr 1;omega
theorem dX:∀(n:Nat) (l:List UInt8),enc (l.take n)=enc l%256^n
 |0,l=>by simp[enc,Nat.mod_one]
 |n+1,[]=>by simp[enc]
 |n+1,b::l=>by
  have hb:b.toNat<256:=b.toNat_lt
  rw[List.take_succ_cons,enc,dX n l,enc,Nat.pow_succ',Nat.mod_mul]
  have h1:(b.toNat+256*enc l)%256=b.toNat:=by omega
  have h2:(b.toNat+256*enc l)/256=enc l:=by omega
  rw[h1,h2]
theorem mg:∀(a b:List UInt8),a.length=b.length->enc a=enc b->a=b
 |[],[],_,_=>rfl
 |[],_::_,h,_=>by simp at h
 |_::_,[],h,_=>by simp at h
 |x::a,y::b,h,he=>by
  have hx:x.toNat<256:=x.toNat_lt
  have hy:y.toNat<256:=y.toNat_lt
  simp only[enc]at he
  have h1:x.toNat=y.toNat:=by omega
  have h2:enc a=enc b:=by omega
  rw[mg a b (by simpa using h) h2,UInt8.toNat_inj.1 h1]
theorem AEi(l:List UInt8)(i:Nat)(h:i<l.length):AOW (enc l) i=(l[i]).toNat:=by
 show enc l/256^i%256=_
 rw[<-UZ,List.drop_eq_getElem_cons h,enc]
 have hb:(l[i]).toNat<256:=(l[i]).toNat_lt
 omega
theorem ABo(l:List UInt8)(a b:Nat):AdM (enc l) a b=enc ((l.drop a).take (b-a)):=by
 show enc l/256^a%256^(b-a)=_
 rw[dX,UZ]
theorem AF5(a b:List UInt8):Ab3 a.length (enc a) (enc b)=enc (a++b):=by
 show enc a+256^a.length*enc b=_
 rw[Vo]
theorem ARH:∀(b a:List UInt8) (f:Nat),b.length<f->AXF f a.length (enc a) b.length (enc b)=Op.bytesLess a b
 |[],a,f+1,_=>by cases a<;>rfl
 |y::b,[],f+1,_=>rfl
 |y::b,x::a,f+1,h=>by
  have hx:x.toNat<256:=x.toNat_lt
  have hy:y.toNat<256:=y.toNat_lt
  have ih:=ARH b a f (by simpa using h)
  show(Bool.rec (Nat.blt (enc (x::a)%256) (enc (y::b)%256)) (AXF f a.length (enc (x::a)/256) b.length (enc (y::b)/256)) (Nat.beq (enc (x::a)%256) (enc (y::b)%256)):Bool)=_
  have e1:enc (x::a)%256=x.toNat:=by simp only[enc];omega
  have e2:enc (x::a)/256=enc a:=by simp only[enc];omega
  have e3:enc (y::b)%256=y.toNat:=by simp only[enc];omega
  have e4:enc (y::b)/256=enc b:=by simp only[enc];omega
  rw[e1,e2,e3,e4,ih]
  simp only[Op.bytesLess]
  by_cases hxy:x=y
  ·subst hxy;simp
  ·have hne:x.toNat≠y.toNat:=λe=>hxy (UInt8.toNat_inj.1 e)
   have hb:Nat.beq x.toNat y.toNat=false:=by cases hq:Nat.beq x.toNat y.toNat with|false=>rfl|true=>exact absurd (Nat.eq_of_beq_eq_true hq) hne
   rw[hb]
   show Nat.blt x.toNat y.toNat=_
   rw[Bool.eq_iff_iff]
   simp[Nat.blt_eq,hxy,UInt8.lt_iff_toNat_lt]
theorem KP(a b:List UInt8):slt a.length (enc a) b.length (enc b)=Op.bytesLess a b:=ARH b a _ (Nat.lt_succ_self _)
structure Info where
 b:Nat
 base:Nat
 size:Nat
abbrev Loc:=Nat->Option Info
mutual
def Af(ρ:Loc):V->Value->Prop
 |.undef,_=>True
 |.int k n _,v=>v=.int k n
 |.bool b,v=>v=.bool b
 |.str l c,v=>∃s:ByteArray,v=.string s/\s.data.toList.length=l/\enc s.data.toList=c
 |.Bh,v=>v=.pointer none
 |.ptr id off,v=>∃x,ρ id=some x/\v=.pointer (some ⟨x.b,x.base+off,none⟩)
 |.gptr b off,v=>v=.pointer (some ⟨b,off,none⟩)
 |.Ae,v=>v=.slice none 0 0
 |.sl id off len cap esz,v=>∃x a,ρ id=some x/\v=.slice (some a) len cap/\(cap=0∨a=⟨x.b,x.base+off*esz,none⟩)/\len<=cap
 |.gsl id off len esz,v=>∃x a capc,ρ id=some x/\v=.slice (some a) len capc/\(capc=0∨a=⟨x.b,x.base+off*esz,none⟩)/\len<=capc/\x.base+(off+capc)*esz<=x.size
 |.rsl b off len cap _,v=>∃a,v=.slice (some a) len cap/\(cap=0∨a=⟨b,off,none⟩)/\len<=cap
 |.jr,v=>v=.map none
 |.map id,v=>∃x,ρ id=some x/\v=.map (some x.b)
 |.AOd,v=>v=.nilFunc
 |.fn f first caps,v=>∃fa ca:Array Value,v=.func (.func f) fa ca/\BK ρ first fa.toList/\BK ρ caps ca.toList
 |.agg cs,v=>∃a:Array Value,v=.agg a/\BK ρ cs a.toList/\∀u∈a.toList,u.oneCell'=true
 |.BP cs,v=>∃a:Array Value,v=.tuple a/\BK ρ cs a.toList
 |.AAV,v=>v=.nilIface
 |.iface t y,v=>∃z,v=.iface t z/\Af ρ y z
def BK(ρ:Loc):List V->List Value->Prop
 |[],l=>l=[]
 |c::cs,l=>∃v vs,l=v::vs/\Af ρ c v/\BK ρ cs vs
end
theorem BK.nil{ρ:Loc}:BK ρ [] []:=by simp[BK]
theorem BK.cons{ρ:Loc}{c:V}{v:Value}{cs:List V}{vs:List Value}(h:Af ρ c v)(h':BK ρ cs vs):BK ρ (c::cs) (v::vs):=by
 simp only[BK];exact⟨v,vs,rfl,h,h'⟩
@[simp] theorem KW{ρ:Loc}{l:List Value}:BK ρ [] l↔l=[]:=by simp[BK]
@[simp] theorem Df{ρ:Loc}{c:V}{cs:List V}{l:List Value}:BK ρ (c::cs) l↔∃v vs,l=v::vs/\Af ρ c v/\BK ρ cs vs:=by simp[BK]
theorem IJ{ρ:Loc}:∀(cs:List V) (vs:List Value),BK ρ cs vs↔cs.length=vs.length/\∀(i:Nat) (c:V) (v:Value),cs[i]? =some c->vs[i]? =some v->Af ρ c v
 |[],vs=>by
  simp only[KW,List.length_nil]
  constructor
  ·rintro rfl;exact⟨rfl,λi c v h=>by simp at h⟩
  ·intro h;exact List.length_eq_zero_iff.1 h.1.symm
 |c::cs,vs=>by
  rw[Df]
  constructor
  ·rintro⟨v,vs,rfl,h,h'⟩
   rw[IJ cs vs]at h'
   refine⟨by simp[h'.1],λi=>?_⟩
   cases i with
   |zero=>intro c' v' hc hv;simp at hc hv;subst hc;subst hv;exact h
   |succ i=>intro c' v' hc hv;exact h'.2 i c' v' (by simpa using hc) (by simpa using hv)
  ·rintro⟨hl,h⟩
   cases vs with
   |nil=>simp at hl
   |cons v vs=>
    refine⟨v,vs,rfl,h 0 c v rfl rfl,(IJ cs vs).2 ⟨by simpa using hl,λi c' v' hc hv=>h (i+1) c' v' (by simpa using hc) (by simpa using hv)⟩⟩
theorem BK.length{ρ:Loc}{cs:List V}{vs:List Value}(h:BK ρ cs vs):cs.length=vs.length:=((IJ cs vs).1 h).1
theorem BK.get{ρ:Loc}{cs:List V}{vs:List Value}(h:BK ρ cs vs){i:Nat}{c:V}(hc:cs[i]? =some c):∃v,vs[i]? =some v/\Af ρ c v:=by
 have hi:i<vs.length:=by rw[<-h.length];exact(List.getElem?_eq_some_iff.1 hc).1
 exact⟨vs[i],List.getElem?_eq_getElem hi,((IJ cs vs).1 h).2 i c _ hc (List.getElem?_eq_getElem hi)⟩
theorem BK.append{ρ:Loc}:∀{as bs:List V} {xs ys:List Value},BK ρ as xs->BK ρ bs ys->BK ρ (as++bs) (xs++ys)
 |[],bs,xs,ys,h,h'=>by simp at h;subst h;simpa using h'
 |a::as,bs,xs,ys,h,h'=>by
  obtain⟨v,vs,rfl,hv,hr⟩:=Df.1 h
  exact .cons hv (BK.append hr h')
theorem BK.take{ρ:Loc}:∀(n:Nat) {as:List V} {xs:List Value},BK ρ as xs->BK ρ (as.take n) (xs.take n)
 |0,_,_,_=>by simp
 |n+1,[],_,h=>by simp at h;subst h;simp
 |n+1,a::as,xs,h=>by
  obtain⟨v,vs,rfl,hv,hr⟩:=Df.1 h
  exact .cons hv (BK.take n hr)
theorem BK.drop{ρ:Loc}:∀(n:Nat) {as:List V} {xs:List Value},BK ρ as xs->BK ρ (as.drop n) (xs.drop n)
 |0,_,_,h=>h
 |n+1,[],_,h=>by simp at h;subst h;simp
 |n+1,a::as,xs,h=>by
  obtain⟨v,vs,rfl,hv,hr⟩:=Df.1 h
  exact BK.drop n hr
def Loc.le(ρ ρ':Loc):Prop:=∀id x,ρ id=some x->ρ' id=some x
theorem Loc.le.refl(ρ:Loc):ρ.le ρ:=λ_ _ h=>h
theorem Loc.le.trans{ρ ρ' ρ'':Loc}(h:ρ.le ρ')(h':ρ'.le ρ''):ρ.le ρ'':=λid x e=>h' id x (h id x e)
mutual
theorem Af.mono{ρ ρ':Loc}(hle:ρ.le ρ'):∀(c:V) (v:Value),Af ρ c v->Af ρ' c v
 |.undef,_,_=>trivial
 |.int _ _ _,_,h=>h
 |.bool _,_,h=>h
 |.str _ _,_,h=>h
 |.Bh,_,h=>h
 |.ptr _ _,_,⟨x,hx,hv⟩=>⟨x,hle _ _ hx,hv⟩
 |.gptr _ _,_,h=>h
 |.Ae,_,h=>h
 |.sl _ _ _ _ _,_,⟨x,a,hx,h⟩=>⟨x,a,hle _ _ hx,h⟩
 |.gsl _ _ _ _,_,⟨x,a,cp,hx,h⟩=>⟨x,a,cp,hle _ _ hx,h⟩
 |.rsl _ _ _ _ _,_,h=>h
 |.jr,_,h=>h
 |.map _,_,⟨x,hx,hv⟩=>⟨x,hle _ _ hx,hv⟩
 |.AOd,_,h=>h
 |.fn _ a c,_,⟨fa,ca,hv,h1,h2⟩=>⟨fa,ca,hv,BK.mono hle a _ h1,BK.mono hle c _ h2⟩
 |.agg cs,_,⟨a,hv,h1,h2⟩=>⟨a,hv,BK.mono hle cs _ h1,h2⟩
 |.BP cs,_,⟨a,hv,h1⟩=>⟨a,hv,BK.mono hle cs _ h1⟩
 |.AAV,_,h=>h
 |.iface _ y,_,⟨z,hv,h⟩=>⟨z,hv,Af.mono hle y z h⟩
theorem BK.mono{ρ ρ':Loc}(hle:ρ.le ρ'):∀(c:List V) (v:List Value),BK ρ c v->BK ρ' c v
 |[],_,h=>by simp at h;subst h;simp
 |c::cs,_,h=>by
  obtain⟨v,vs,rfl,hv,hr⟩:=Df.1 h
  exact .cons (Af.mono hle c v hv) (BK.mono hle cs vs hr)
end
def dM:V->Bool|.undef|.agg _|.BP _=>false|_=>true
theorem Af.one{ρ:Loc}:∀{c:V} {v:Value},Af ρ c v->dM c=true->v.oneCell'=true
 |.undef,_,_,h=>by simp[dM]at h
 |.int _ _ _,_,h,_=>by simp only[Af]at h;subst h;rfl
 |.bool _,_,h,_=>by simp only[Af]at h;subst h;rfl
 |.str _ _,_,h,_=>by simp only[Af]at h;obtain⟨s,rfl,_⟩:=h;rfl
 |.Bh,_,h,_=>by simp only[Af]at h;subst h;rfl
 |.ptr _ _,_,h,_=>by simp only[Af]at h;obtain⟨_,_,rfl⟩:=h;rfl
 |.gptr _ _,_,h,_=>by simp only[Af]at h;subst h;rfl
 |.Ae,_,h,_=>by simp only[Af]at h;subst h;rfl
 |.sl _ _ _ _ _,_,h,_=>by simp only[Af]at h;obtain⟨_,_,_,rfl,_⟩:=h;rfl
 |.gsl _ _ _ _,_,h,_=>by simp only[Af]at h;obtain⟨_,_,_,_,rfl,_⟩:=h;rfl
 |.rsl _ _ _ _ _,_,h,_=>by simp only[Af]at h;obtain⟨_,rfl,_⟩:=h;rfl
 |.jr,_,h,_=>by simp only[Af]at h;subst h;rfl
 |.map _,_,h,_=>by simp only[Af]at h;obtain⟨_,_,rfl⟩:=h;rfl
 |.AOd,_,h,_=>by simp only[Af]at h;subst h;rfl
 |.fn _ _ _,_,h,_=>by simp only[Af]at h;obtain⟨_,_,rfl,_⟩:=h;rfl
 |.agg _,_,_,h=>by simp[dM]at h
 |.BP _,_,_,h=>by simp[dM]at h
 |.AAV,_,h,_=>by simp only[Af]at h;subst h;rfl
 |.iface _ _,_,h,_=>by simp only[Af]at h;obtain⟨_,rfl,_⟩:=h;rfl
variable{P:Program}
def IL(fz:Nat×Nat)(n:Nat):Prop:=∀i,i<n->¬(fz.1<=i/\i<fz.2)
def sub(vs:Array Value)(o n:Nat):List Value:=(vs.toList.drop o).take n
def isLive(H:Heap)(id:Nat):Prop:=∃b,T.get H id=some b/\b≠.dead
structure Iz(ρ:Loc)(w:World)(x:Info)(esz cnt:Nat)(c:T LV)(vs:Array Value)(t:TypeId)(fz:Nat×Nat):Prop where
 heap:w.heap[x.b]? =some (.cells vs t fz)
 size:vs.size=x.size
 free:IL fz x.size
 sh:esz=1∨fz=(0,0)
 room:x.base+cnt*esz<=x.size
 one:∀u∈vs.toList,u.oneCell'=true
 elem:∀e,e<cnt->∃L,T.get c e=some L/\BK ρ L (sub vs (x.base+e*esz) esz)
def DV(ρ:Loc):ME->List MapEntry->Prop
 |[],l=>l=[]
 |(k,v,b)::es,l=>∃e es',l=e::es'/\Af ρ k e.key/\Af ρ v e.val/\e.born=b/\DV ρ es es'
def AEP(w0:World)(ρ:Loc)(H:Heap)(w:World)(id:Nat)(x:Info)(t e l c j:Nat):Prop:=
 x.base=0/\∃(bs:List UInt8) (p v:Value),bs.length=l/\enc bs=c/\(p=.pointer none∨p=.pointer (some ⟨x.b,0,none⟩))/\w.heap[x.b]? =some (.cells #[p,v] t (0,0))/\
  w.ownsRow w0.heap.size e 1 v l (Lib.byteCells bs)/\(l=0->v=.slice none 0 0)/\(0<l->∃y,v.ownBlock=some y.b/\ρ j=some y/\T.get H j=some (.own id))
theorem AEP.same{w0:World}{ρ ρ':Loc}{H H':Heap}{w w':World}{id:Nat}{x:Info}{t e l c j:Nat}(h:AEP w0 ρ H w id x t e l c j)(hx:w'.heap[x.b]? =w.heap[x.b]?)(hle:ρ.le ρ')
 (hy:∀y,ρ j=some y->T.get H j=some (.own id)->w'.heap[y.b]? =w.heap[y.b]? /\T.get H' j=some (.own id)):AEP w0 ρ' H' w' id x t e l c j:=by
 obtain⟨hb,bs,p,v,h1,h2,h3,h4,h5,h6,h7⟩:=h
 refine⟨hb,bs,p,v,h1,h2,h3,hx.trans h4,?_,h6,λhl=>?_⟩
 ·refine⟨h5.1,?_⟩
  rcases h5.2 with hn|⟨g,cap,cur,hv,hg,hgg,rest⟩
  ·exact .inl hn
  ·rcases Nat.eq_zero_or_pos l with h0|h0
   ·have:=h6 h0
    rw[this]at hv;cases hv
   ·obtain⟨y,hy1,hy2,hy3⟩:=h7 h0
    rw[hv]at hy1
    have e1:g=y.b:=Option.some.inj hy1
    exact .inr ⟨g,cap,cur,hv,hg,by rw[e1,(hy y hy2 hy3).1,<-e1];exact hgg,rest⟩
 ·obtain⟨y,hy1,hy2,hy3⟩:=h7 hl
  exact⟨y,hy1,hle _ _ hy2,(hy y hy2 hy3).2⟩
structure Bd(w0:World)(ρ:Loc)(H:Heap)(n:Nat)(w:World):Prop where
 lt:∀id x,ρ id=some x->id<n
 blk:∀id x,ρ id=some x->w0.heap.size<=x.b/\x.b<w.heap.size
 inj:∀id id' x x',ρ id=some x->ρ id'=some x'->isLive H id->isLive H id'->x.b=x'.b->id=id'
 arr:∀id x esz cnt c,ρ id=some x->T.get H id=some (.arr esz cnt c)->∃vs t fz,Iz ρ w x esz cnt c vs t fz
 map:∀id x es ck,ρ id=some x->T.get H id=some (.map es ck)->∃es':Array MapEntry,w.heap[x.b]? =some (.map es' ck)/\DV ρ es es'.toList
 G9:∀id x t e l c j,ρ id=some x->T.get H id=some (.G9 t e l c j)->AEP w0 ρ H w id x t e l c j
 old:∀b,b<w0.heap.size->w.heap[b]? =w0.heap[b]?
 os:w.os=w0.os
 out:w.output=w0.output
 big:w0.heap.size<=w.heap.size
 top:∀id,n<=id->T.get H id=none
def D7(w0:World)(G:AQ):Prop:=∀b off n L,G b off n=some L->L.length=n/\∀j v,L[j]? =some v->∃u,w0.cell? ⟨b,off+j,none⟩=some u/\Af (λ_=>none) v u/\u.oneCell'=true
theorem EW{vs:Array Value}{o n:Nat}(h:o+n<=vs.size):(sub vs o n).length=n:=by simp[sub];omega
theorem sub_sub{vs:Array Value}{o n f m:Nat}(h:f+m<=n):((sub vs o n).drop f).take m=sub vs (o+f) m:=by
 simp only[sub,List.drop_take,List.take_take,List.drop_drop]
 congr 1
 omega
theorem P6{vs:Array Value}{o n j:Nat}{v:Value}(h:(sub vs o n)[j]? =some v):j<n/\vs[o+j]? =some v:=by
 simp only[sub,List.getElem?_take]at h
 split at h
 ·rename_i hj;refine⟨hj,?_⟩;simpa using h
 ·cases h
theorem add_lit(b o j:Nat):Addr.add ⟨b,o,none⟩ j=⟨b,o+j,none⟩:=by unfold Addr.add;split<;>simp_all
theorem AEb{ρ:Loc}{w:World}{x:Info}{esz cnt:Nat}{c:T LV}{vs:Array Value}{t:TypeId}{fz:Nat×Nat}(h:Iz ρ w x esz cnt c vs t fz)
 {off n:Nat} {L:LV} (hl:ldB esz cnt c off n=some L):BK ρ L (sub vs (x.base+off) n)/\x.base+off+n<=x.size:=by
 unfold ldB at hl
 obtain⟨L0,h0,h1⟩:=BM.1 hl
 have hlt:off/esz<cnt:=by
  rcases Nat.lt_or_ge (off/esz) cnt with hh|hh
  ·exact hh
  ·have hb:Nat.blt (Nat.div off esz) cnt=false:=by rw[Bool.eq_false_iff];intro hc;rw[Nat.blt_eq]at hc;exact absurd hc (Nat.not_lt.2 hh)
   rw[hb]at h0;cases h0
 have hb:Nat.blt (Nat.div off esz) cnt=true:=by rw[Nat.blt_eq];exact hlt
 rw[hb]at h0
 obtain⟨L1,hL1,hr⟩:=h.elem _ hlt
 have e0:L0=L1:=by have:=h0.symm.trans hL1;exact Option.some.inj this
 subst e0
 have hdm:esz*(off/esz)+off%esz=off:=Nat.div_add_mod off esz
 have hce:(off/esz)*esz=esz*(off/esz):=Nat.mul_comm _ _
 have hroom:x.base+(off/esz)*esz+esz<=x.size:=by
  have h2:(off/esz+1)*esz<=cnt*esz:=Nat.mul_le_mul_right _ hlt
  rw[Nat.add_mul,Nat.one_mul]at h2
  have:=h.room
  omega
 unfold ldC at h1
 cases hc:band (Nat.beq n esz) (Nat.beq (Nat.mod off esz) 0)with
 |true=>
  rw[hc]at h1
  have e1:L0=L:=Option.some.inj h1
  subst e1
  simp only[BL,Bool.and_eq_true,beq_iff]at hc
  obtain⟨rfl,hm⟩:=hc
  have hm':off%n=0:=hm
  have ho:(off/n)*n=off:=by omega
  rw[ho]at hr hroom
  exact⟨hr,hroom⟩
 |false=>
  rw[hc]at h1
  cases hf:Nat.ble (Nat.add (Nat.mod off esz) n) esz with
  |false=>rw[hf]at h1;cases h1
  |true=>
   rw[hf]at h1
   have hle:off%esz+n<=esz:=Nat.le_of_ble_eq_true hf
   have e1:GH n (Ib (Nat.mod off esz) L0)=L:=Option.some.inj h1
   simp only[Ic,J9]at e1
   subst e1
   have hr':=(hr.drop (off%esz)).take n
   rw[sub_sub hle]at hr'
   have he:x.base+(off/esz)*esz+off%esz=x.base+off:=by omega
   rw[he]at hr'
   exact⟨hr',by omega⟩
theorem cell_of_heap{w:World}{g:Nat}{vs:Array Value}{t:TypeId}{fz:Nat×Nat}(h:w.heap[g]? =some (.cells vs t fz))(i:Nat):w.cell? ⟨g,i,none⟩=vs[i]? :=by
 simp[World.cell?,h]
theorem Gz{w0:World}{ρ:Loc}{G:AQ}{H:Heap}{n:Nat}{w:World}(hh:Bd w0 ρ H n w)(hg:D7 w0 G){v:V}{u:Value}(hv:Af ρ v u){m:Nat}{L:LV}
 (hl:Zb v G H m=some L):∃a cs,u=.pointer (some a)/\a.spot=none/\BK ρ L cs/\cs.length=m/\(∀y∈cs,y.oneCell'=true)/\∀j y,cs[j]? =some y->w.cell? (a.add j)=some y:=by
 cases v<;>simp only[Zb]at hl<;>try (cases hl;done)
 case ptr id off=>
  simp only[Af]at hv
  obtain⟨x,hx,rfl⟩:=hv
  unfold ldH at hl
  cases hb:T.get H id with
  |none=>rw[hb]at hl;cases hl
  |some b=>
   rw[hb]at hl
   cases b with
   |arr esz cnt c=>
    have hl':ldB esz cnt c off m=some L:=hl
    obtain⟨vs,t,fz,ha⟩:=hh.arr id x esz cnt c hx hb
    obtain⟨hr,hsz⟩:=AEb ha hl'
    have hsz':x.base+off+m<=vs.size:=by rw[ha.size];exact hsz
    refine⟨_,sub vs (x.base+off) m,rfl,rfl,hr,EW hsz',?_,?_⟩
    ·intro y hy
     obtain⟨j,hj⟩:=List.mem_iff_getElem?.1 hy
     obtain⟨_,hj'⟩:=P6 hj
     exact ha.one y (by rw[Array.mem_toList_iff];exact Array.mem_of_getElem? hj')
    ·intro j y hj
     obtain⟨_,hj'⟩:=P6 hj
     rw[add_lit,cell_of_heap ha.heap,hj']
   |map es ck=>cases hl
   |dead=>cases hl
   |G9 _ _ _ _ _=>cases hl
   |own _=>cases hl
 case gptr b off=>
  simp only[Af]at hv
  subst hv
  obtain⟨hlen,hj⟩:=hg b off m L hl
  have key:∀(k:Nat),∃u,k<L.length->w0.cell? ⟨b,off+k,none⟩=some u/\Af ρ (L.getD k .undef) u/\u.oneCell'=true:=by
   intro k
   by_cases hk:k<L.length
   ·obtain⟨u,hu,hvu,h1⟩:=hj k L[k] (List.getElem?_eq_getElem hk)
    refine⟨u,λ_=>⟨hu,?_,h1⟩⟩
    have:L.getD k .undef=L[k]:=by simp[List.getD,hk]
    rw[this]
    exact Af.mono (λid x hx=>by cases hx) _ _ hvu
   ·exact⟨undef,λh=>absurd h hk⟩
  have hch:∃f:Nat->Value,∀k,k<L.length->w0.cell? ⟨b,off+k,none⟩=some (f k)/\Af ρ (L.getD k .undef) (f k)/\(f k).oneCell'=true:=⟨λk=>(key k).choose,λk=>(key k).choose_spec⟩
  obtain⟨f,hf⟩:=hch
  refine⟨_,(List.range m).map f,rfl,rfl,?_,by simp,?_,?_⟩
  ·rw[IJ]
   refine⟨by simp[hlen],λi c v hc hv=>?_⟩
   have hi:i<L.length:=(List.getElem?_eq_some_iff.1 hc).1
   have hv':v=f i:=by
    rw[List.getElem?_map,List.getElem?_range (by omega)]at hv
    simpa using hv.symm
   subst hv'
   have:=(hf i hi).2.1
   rwa [show L.getD i .undef=c by simp[List.getD,hc]]at this
  ·intro y hy
   obtain⟨k,hk,rfl⟩:=List.mem_map.1 hy
   rw[List.mem_range]at hk
   exact(hf k (by omega)).2.2
  ·intro j y hj'
   rw[List.getElem?_map]at hj'
   cases hr:(List.range m)[j]? with
   |none=>rw[hr]at hj';cases hj'
   |some k=>
    rw[hr]at hj'
    have hk:j<m:=by have:=(List.getElem?_eq_some_iff.1 hr).1;simpa using this
    have hjk:k=j:=by rw[List.getElem?_range hk]at hr;exact(Option.some.inj hr).symm
    subst hjk
    have hy:f k=y:=by simpa using hj'
    obtain⟨hc,_,_⟩:=hf k (by omega)
    rw[add_lit,<-hy,<-hc]
    have hlt:b<w0.heap.size:=World.block_lt_of_cell? w0 ⟨b,off+k,none⟩ hc
    simp only[World.cell?,hh.old b hlt]
variable{P:Program}
def Dv(l:List Value)(o:Nat)(new:List Value):List Value:=l.take o++new++l.drop (o+new.length)
theorem VZ(l:List Value)(o:Nat)(new:List Value)(h:o+new.length<=l.length)(i:Nat):
 (Dv l o new)[i]? =if o<=i/\i<o+new.length then new[i-o]? else l[i]? :=by
 have ht:(l.take o).length=o:=by simp;omega
 unfold Dv
 by_cases h1:i<o
 ·rw[if_neg (by omega),List.append_assoc,List.getElem?_append_left (by omega),List.getElem?_take]
  simp[h1]
 ·by_cases h2:i<o+new.length
  ·rw[if_pos ⟨by omega,h2⟩,List.append_assoc,List.getElem?_append_right (by omega),List.getElem?_append_left (by omega),ht]
  ·rw[if_neg (by omega),List.getElem?_append_right (by simp;omega),List.getElem?_drop]
   congr 1
   simp;omega
theorem FV(l:List Value)(o:Nat)(new:List Value)(h:o+new.length<=l.length):(Dv l o new).length=l.length:=by simp[Dv];omega
theorem GL(vs:Array Value)(o n j:Nat):(sub vs o n)[j]? =if j<n then vs.toList[o+j]? else none:=by
 simp only[sub,List.getElem?_take,List.getElem?_drop]
theorem Gq{vs:Array Value}{o:Nat}{new:List Value}(h:o+new.length<=vs.size):sub (Dv vs.toList o new).toArray o new.length=new:=by
 apply List.ext_getElem?
 intro j
 rw[GL]
 by_cases hj:j<new.length
 ·rw[if_pos hj]
  show(Dv vs.toList o new)[o+j]? =_
  rw[VZ _ _ _ (by simpa using h),if_pos (by omega)]
  congr 1;omega
 ·rw[if_neg hj,List.getElem?_eq_none (by omega)]
theorem FI{vs:Array Value}{o:Nat}{new:List Value}(h:o+new.length<=vs.size){o' m:Nat}(hd:o'+m<=o∨o+new.length<=o'):
 sub (Dv vs.toList o new).toArray o' m=sub vs o' m:=by
 apply List.ext_getElem?
 intro j
 rw[GL,GL]
 by_cases hj:j<m
 ·rw[if_pos hj,if_pos hj]
  show(Dv vs.toList o new)[o'+j]? =_
  rw[VZ _ _ _ (by simpa using h),if_neg (by omega)]
 ·rw[if_neg hj,if_neg hj]
theorem gQ{vs:Array Value}{o:Nat}{new:List Value}(h:o+new.length<=vs.size){B m f:Nat}(hf:o=B+f)(hm:f+new.length<=m)(hB:B+m<=vs.size):
 sub (Dv vs.toList o new).toArray B m=(sub vs B m).take f++(new++(sub vs B m).drop (f+new.length)):=by
 apply List.ext_getElem?
 intro j
 have hl:(sub vs B m).length=m:=EW hB
 have ht:((sub vs B m).take f).length=f:=by rw[List.length_take,hl];omega
 rw[GL]
 by_cases hj:j<m
 ·rw[if_pos hj]
  show(Dv vs.toList o new)[B+j]? =_
  rw[VZ _ _ _ (by simpa using h)]
  by_cases h1:j<f
  ·rw[if_neg (by omega),List.getElem?_append_left (by omega),List.getElem?_take,if_pos h1,GL,if_pos hj]
  ·by_cases h2:j<f+new.length
   ·rw[if_pos (by omega),List.getElem?_append_right (by omega),List.getElem?_append_left (by omega),ht]
    congr 1;omega
   ·rw[if_neg (by omega),List.getElem?_append_right (by omega),List.getElem?_append_right (by omega),List.getElem?_drop,ht,GL,if_pos (by omega)]
    congr 1;omega
 ·rw[if_neg hj,List.getElem?_eq_none (by simp[hl,ht];omega)]
theorem DX(g o:Nat)(t:TypeId)(fz:Nat×Nat):∀(vs:List Value) (i:Nat) (cur:Array Value) (w:World),w.heap[g]? =some (.cells cur t fz)->IL fz cur.size->o+i+vs.length<=cur.size->(∀v∈vs,v.oneCell'=true)->
 (storeCells ⟨g,o,none⟩ vs i).run P w=.ok () (w.setRow g (Dv cur.toList (o+i) vs).toArray)
 |[],i,cur,w,hg,_,_,_=>by
  simp only[storeCells,Dv,List.append_nil,List.length_nil,Nat.add_zero,List.take_append_drop,Array.toArray_toList]
  rw[setRow_self w g cur t fz hg]
  rfl
 |v::rest,i,cur,w,hg,hu,hl,h1=>by
  have hi:o+i<cur.size:=by simp at hl;omega
  have hadd:(⟨g,o,none⟩:Addr).add i=⟨g,o+i,none⟩:=add_lit _ _ _
  have hcell:w.cell? ⟨g,o+i,none⟩=some cur[o+i]:=by simp[World.cell?,hg,hi]
  have hfro:w.frozen? ⟨g,o+i,none⟩=false:=by
   obtain⟨lo,hi'⟩:=fz
   have:=hu (o+i) hi
   simp only[World.frozen?,hg,Bool.and_eq_false_iff,decide_eq_false_iff_not]
   simp only at this
   omega
  have hst:(store ((⟨g,o,none⟩:Addr).add i) v).run P w=.ok () (w.setRow g (cur.setIfInBounds (o+i) v)):=by
   rw[hadd,run_store P w _ v _ (h1 v (by simp)),hcell]
   simp[hfro,setCell_eq_setRow w g (o+i) cur t fz v hg]
  have ih:=DX g o t fz rest (i+1) (cur.setIfInBounds (o+i) v) (w.setRow g (cur.setIfInBounds (o+i) v)) (setRow_heap w g cur _ t _ hg) (by simpa using hu) (by simp at hl⊢;omega) (λx hx=>h1 x (by simp[hx]))
  simp only[storeCells,Sem.run_bind,hst,Result.andThen_ok,ih,setRow_setRow]
  congr 3
  have e:=list_seg_step cur.toList (o+i) v rest (by simp at hl⊢;omega)
  simpa[Dv,Array.toList_setIfInBounds,Nat.add_assoc]using e
structure DF(ρ:Loc)(H:Heap)(n:Nat)(ρ':Loc)(H':Heap)(n':Nat):Prop where
 le:ρ.le ρ'
 grow:n<=n'
 keep:∀id,id<n->ρ id=none->ρ' id=none/\T.get H' id=T.get H id
theorem DF.refl(ρ:Loc)(H:Heap)(n:Nat):DF ρ H n ρ H n:=⟨Loc.le.refl _,Nat.le_refl _,λ_ _ h=>⟨h,rfl⟩⟩
theorem DF.trans{ρ ρ' ρ'':Loc}{H H' H'':Heap}{n n' n'':Nat}(h:DF ρ H n ρ' H' n')(h':DF ρ' H' n' ρ'' H'' n''):DF ρ H n ρ'' H'' n'':=
 ⟨h.le.trans h'.le,Nat.le_trans h.grow h'.grow,λid hi hn=>by
  obtain⟨a,b⟩:=h.keep id hi hn
  obtain⟨c,d⟩:=h'.keep id (Nat.lt_of_lt_of_le hi h.grow) a
  exact⟨c,d.trans b⟩⟩
theorem Iz.of_heap{ρ:Loc}{w w':World}{x:Info}{esz cnt:Nat}{c:T LV}{vs:Array Value}{t:TypeId}{fz:Nat×Nat}(h:Iz ρ w x esz cnt c vs t fz)(e:w'.heap[x.b]? =w.heap[x.b]?):
 Iz ρ w' x esz cnt c vs t fz:={h with heap:=e.trans h.heap}
theorem Iz.mono{ρ ρ':Loc}(hle:ρ.le ρ'){w:World}{x:Info}{esz cnt:Nat}{c:T LV}{vs:Array Value}{t:TypeId}{fz:Nat×Nat}(h:Iz ρ w x esz cnt c vs t fz):
 Iz ρ' w x esz cnt c vs t fz:={h with elem:=λe he=>let⟨L,h1,h2⟩:=h.elem e he;⟨L,h1,BK.mono hle _ _ h2⟩}
theorem DV.mono{ρ ρ':Loc}(hle:ρ.le ρ'):∀(es:ME) (l:List MapEntry),DV ρ es l->DV ρ' es l
 |[],_,h=>h
 |(_,_,_)::es,_,⟨e,es',hl,h1,h2,h3,h4⟩=>⟨e,es',hl,Af.mono hle _ _ h1,Af.mono hle _ _ h2,h3,DV.mono hle es es' h4⟩
theorem Bd.turn{w0:World}{ρ:Loc}{H:Heap}{n:Nat}{w:World}(hh:Bd w0 ρ H n w){id:Nat}{x:Info}(hx:ρ id=some x)(hlive:isLive H id){w':World}{b':EZ}
 (hsz:w'.heap.size=w.heap.size) (hoth:∀k,k≠x.b->w'.heap[k]? =w.heap[k]?) (hos:w'.os=w.os) (hout:w'.output=w.output)
 (harr:∀esz cnt c,b'=.arr esz cnt c->∃vs t fz,Iz ρ w' x esz cnt c vs t fz)
 (hmap:∀es ck,b'=.map es ck->∃es':Array MapEntry,w'.heap[x.b]? =some (.map es' ck)/\DV ρ es es'.toList)
 (hno:∀b,T.get H id≠some (.own b)) (hbld:∀t e l c j,b'=.G9 t e l c j->AEP w0 ρ (T.set H id b') w' id x t e l c j):
 Bd w0 ρ (T.set H id b') n w':=by
 have hget:∀id',T.get (T.set H id b') id'=if id=id' then some b' else T.get H id':=λid'=>T.Ey H id id' b'
 have hl:∀id',isLive (T.set H id b') id'->isLive H id':=by
  rintro id' ⟨b,hb,hne⟩
  rw[hget]at hb
  by_cases e:id=id'
  ·subst e;exact hlive
  ·rw[if_neg e]at hb;exact⟨b,hb,hne⟩
 refine{lt:=hh.lt,blk:=λi y hy=>by rw[hsz];exact hh.blk i y hy,inj:=λi j y z hy hz h1 h2=>hh.inj i j y z hy hz (hl i h1) (hl j h2),arr:=?_,map:=?_,G9:=?_,old:=?_,os:=hos.trans hh.os,out:=hout.trans hh.out,big:=by rw[hsz];exact hh.big,top:=λi hi=>by rw[hget,if_neg (by have:=hh.lt id x hx;omega)];exact hh.top i hi}
 ·intro i y esz cnt c hy hb
  rw[hget]at hb
  by_cases e:id=i
  ·subst e
   rw[if_pos rfl]at hb
   have hyx:y=x:=by rw[hx]at hy;exact(Option.some.inj hy).symm
   subst hyx
   exact harr esz cnt c (Option.some.inj hb)
  ·rw[if_neg e]at hb
   have hne:y.b≠x.b:=λhbe=>e (hh.inj id i x y hx hy hlive ⟨_,hb,by simp⟩ hbe.symm)
   obtain⟨vs,t,fz,ha⟩:=hh.arr i y esz cnt c hy hb
   exact⟨vs,t,fz,ha.of_heap (hoth _ hne)⟩
 ·intro i y es ck hy hb
  rw[hget]at hb
  by_cases e:id=i
  ·subst e
   rw[if_pos rfl]at hb
   have hyx:y=x:=by rw[hx]at hy;exact(Option.some.inj hy).symm
   subst hyx
   exact hmap es ck (Option.some.inj hb)
  ·rw[if_neg e]at hb
   have hne:y.b≠x.b:=λhbe=>e (hh.inj id i x y hx hy hlive ⟨_,hb,by simp⟩ hbe.symm)
   obtain⟨es',he,hr⟩:=hh.map i y es ck hy hb
   exact⟨es',by rw[hoth _ hne,he],hr⟩
 ·intro i y t e l c j hy hb
  rw[hget]at hb
  by_cases ee:id=i
  ·subst ee
   rw[if_pos rfl]at hb
   have hyx:y=x:=by rw[hx]at hy;exact(Option.some.inj hy).symm
   subst hyx
   exact hbld t e l c j (Option.some.inj hb)
  ·rw[if_neg ee]at hb
   have hne:y.b≠x.b:=λhbe=>ee (hh.inj id i x y hx hy hlive ⟨_,hb,by simp⟩ hbe.symm)
   refine(hh.G9 i y t e l c j hy hb).same (hoth _ hne) (Loc.le.refl _) λz hz hj=>?_
   have hjd:id≠j:=λe=>by subst e;exact hno _ hj
   exact⟨hoth _ λhbe=>hjd (hh.inj id j x z hx hz hlive ⟨_,hj,by simp⟩ hbe.symm),by rw[hget,if_neg hjd];exact hj⟩
 ·intro b hb
  have:=(hh.blk id x hx).1
  rw[hoth b (by omega)]
  exact hh.old b hb
theorem DF.turn{ρ:Loc}{H:Heap}{n:Nat}{id:Nat}{x:Info}(hx:ρ id=some x)(b:EZ):DF ρ H n ρ (T.set H id b) n:=
 ⟨Loc.le.refl _,Nat.le_refl _,λi _ hn=>⟨hn,T.Bv H b (λe=>by subst e;rw[hx]at hn;cases hn)⟩⟩
theorem Iz.put{ρ:Loc}{w:World}{x:Info}{esz cnt:Nat}{c:T LV}{vs:Array Value}{t:TypeId}{fz:Nat×Nat}(h:Iz ρ w x esz cnt c vs t fz)
 {off:Nat} {new:LV} {cs:List Value} {b':EZ} (hb:stB esz cnt c off cs.length new=some b') (hr:BK ρ new cs) (h1:∀y∈cs,y.oneCell'=true):
 ∃c',b'=.arr esz cnt c'/\x.base+off+cs.length<=vs.size/\Iz ρ (w.setRow x.b (Dv vs.toList (x.base+off) cs).toArray) x esz cnt c' (Dv vs.toList (x.base+off) cs).toArray t fz:=by
 unfold stB at hb
 obtain⟨L0,h0,hs⟩:=BM.1 hb
 have hlt:off/esz<cnt:=by
  rcases Nat.lt_or_ge (off/esz) cnt with hh|hh
  ·exact hh
  ·have hb:Nat.blt (Nat.div off esz) cnt=false:=by rw[Bool.eq_false_iff];intro hc;rw[Nat.blt_eq]at hc;exact absurd hc (Nat.not_lt.2 hh)
   rw[hb]at h0;cases h0
 have hb:Nat.blt (Nat.div off esz) cnt=true:=by rw[Nat.blt_eq];exact hlt
 rw[hb]at h0
 obtain⟨L1,hL1,hr1⟩:=h.elem _ hlt
 have e0:L0=L1:=Option.some.inj (h0.symm.trans hL1)
 subst e0
 have hdm:esz*(off/esz)+off%esz=off:=Nat.div_add_mod off esz
 have hce:(off/esz)*esz=esz*(off/esz):=Nat.mul_comm _ _
 have hroom:x.base+(off/esz)*esz+esz<=vs.size:=by
  have h2:(off/esz+1)*esz<=cnt*esz:=Nat.mul_le_mul_right _ hlt
  rw[Nat.add_mul,Nat.one_mul]at h2
  have:=h.room
  rw[h.size]
  omega
 have key:∃L',b'=.arr esz cnt (T.set c (off/esz) L')/\off%esz+cs.length<=esz/\BK ρ L' ((sub vs (x.base+(off/esz)*esz) esz).take (off%esz)++(cs++(sub vs (x.base+(off/esz)*esz) esz).drop (off%esz+cs.length))):=by
  unfold stC at hs
  cases hc:band (Nat.beq cs.length esz) (Nat.beq (Nat.mod off esz) 0)with
  |true=>
   rw[hc]at hs
   simp only[BL,Bool.and_eq_true,beq_iff]at hc
   have hm:off%esz=0:=hc.2
   refine⟨new,(Option.some.inj hs).symm,by omega,?_⟩
   rw[hm,hc.1]
   have hl0:(sub vs (x.base+(off/esz)*esz) esz).drop (0+esz)=[]:=by rw[List.drop_eq_nil_iff,EW hroom];omega
   rw[hl0]
   simpa using hr
  |false=>
   rw[hc]at hs
   cases hf:Nat.ble (Nat.add (Nat.mod off esz) cs.length) esz with
   |false=>rw[hf]at hs;cases hs
   |true=>
    rw[hf]at hs
    have hle:off%esz+cs.length<=esz:=Nat.le_of_ble_eq_true hf
    refine⟨_,(Option.some.inj hs).symm,hle,?_⟩
    rw[mV,<-hr.length]
    exact(hr1.take _).append (hr.append (hr1.drop _))
 obtain⟨L',rfl,hfit,hL'⟩:=key
 have hsz:x.base+off+cs.length<=vs.size:=by omega
 have hlen:(Dv vs.toList (x.base+off) cs).toArray.size=vs.size:=by
  have:=FV vs.toList (x.base+off) cs (by simpa using hsz)
  simpa using this
 refine⟨_,rfl,hsz,{heap:=setRow_heap w x.b vs _ t fz h.heap,size:=hlen.trans h.size,free:=h.free,sh:=h.sh,room:=h.room,one:=?_,elem:=?_}⟩
 ·intro u hu
  simp only[Dv,List.mem_append]at hu
  rcases hu with(hu|hu)|hu
  ·exact h.one u (List.mem_of_mem_take hu)
  ·exact h1 u hu
  ·exact h.one u (List.mem_of_mem_drop hu)
 ·intro e he
  by_cases hee:off/esz=e
  ·subst hee
   refine⟨L',T.Gh _ _ _,?_⟩
   rw[gQ hsz (B:=x.base+(off/esz)*esz) (m:=esz) (f:=off%esz) (by omega) hfit hroom]
   exact hL'
  ·obtain⟨L,hL,hrL⟩:=h.elem e he
   refine⟨L,by rw[T.Bv c L' hee,hL],?_⟩
   rw[FI hsz]
   ·exact hrL
   ·rcases Nat.lt_or_gt_of_ne hee with hlt'|hgt
    ·right
     have:(off/esz+1)*esz<=e*esz:=Nat.mul_le_mul_right _ hlt'
     rw[Nat.add_mul,Nat.one_mul]at this
     omega
    ·left
     have:(e+1)*esz<=(off/esz)*esz:=Nat.mul_le_mul_right _ hgt
     rw[Nat.add_mul,Nat.one_mul]at this
     omega
theorem AAS{w0:World}{ρ:Loc}{H:Heap}{n:Nat}{w:World}(hh:Bd w0 ρ H n w){v:V}{u:Value}(hv:Af ρ v u){new:LV}{cs:List Value}{H':Heap}
 (hs:stP v H cs.length new=some H') (hr:BK ρ new cs) (h1:∀y∈cs,y.oneCell'=true):
 ∃a w',u=.pointer (some a)/\(storeCells a cs).run P w=.ok () w'/\Bd w0 ρ H' n w'/\DF ρ H n ρ H' n:=by
 cases v<;>simp only[stP]at hs<;>try (cases hs;done)
 case ptr id off=>
  simp only[Af]at hv
  obtain⟨x,hx,rfl⟩:=hv
  unfold stH at hs
  obtain⟨b',hb',hH⟩:=BM.1 hs
  have hH':T.set H id b'=H':=Option.some.inj hH
  cases hb:T.get H id with
  |none=>rw[hb]at hb';cases hb'
  |some b=>
   rw[hb]at hb'
   cases b with
   |arr esz cnt c=>
    have hb2:stB esz cnt c off cs.length new=some b':=hb'
    obtain⟨vs,t,fz,ha⟩:=hh.arr id x esz cnt c hx hb
    obtain⟨c',rfl,hsz,ha'⟩:=ha.put hb2 hr h1
    have hrun:=DX (P:=P) x.b (x.base+off) t fz cs 0 vs w ha.heap (by rw[ha.size];exact ha.free) (by simpa using hsz) h1
    simp only[Nat.add_zero]at hrun
    refine⟨_,_,rfl,hrun,?_,?_⟩
    ·subst hH'
     refine hh.turn hx ⟨_,hb,by simp⟩ (setRow_size _ _ _) (λk hk=>setRow_other _ _ _ _ hk) (setRow_os _ _ _) (setRow_output _ _ _) ?_ (λes ck he=>by cases he) (λ_=>by rw[hb];simp) (λ_ _ _ _ _ he=>by cases he)
     intro e2 n2 c2 he
     cases he
     exact⟨_,_,_,ha'⟩
    ·subst hH';exact DF.turn hx _
   |map es ck=>cases hb'
   |dead=>cases hb'
   |G9 _ _ _ _ _=>cases hb'
   |own _=>cases hb'
variable{P:Program}
theorem Bd.of_same{w0:World}{ρ:Loc}{H:Heap}{n:Nat}{w w':World}(hh:Bd w0 ρ H n w)(h1:w'.heap=w.heap)(h2:w'.os=w.os)(h3:w'.output=w.output):Bd w0 ρ H n w':=
 {lt:=hh.lt,blk:=λi x hx=>by rw[h1];exact hh.blk i x hx,inj:=hh.inj,
  arr:=λi x e c t hx hb=>let⟨vs,ty,fz,ha⟩:=hh.arr i x e c t hx hb;⟨vs,ty,fz,ha.of_heap (by rw[h1])⟩,
  map:=λi x e c hx hb=>let⟨es,he,hr⟩:=hh.map i x e c hx hb;⟨es,by rw[h1];exact he,hr⟩,
  G9:=λi x t e l c j hx hb=>(hh.G9 i x t e l c j hx hb).same (by rw[h1]) (Loc.le.refl _) λy _ hj=>⟨by rw[h1],hj⟩,
  old:=λb hb=>by rw[h1];exact hh.old b hb,os:=h2.trans hh.os,out:=h3.trans hh.out,big:=by rw[h1];exact hh.big,top:=hh.top}
theorem Bd.drew{w0:World}{ρ:Loc}{H:Heap}{n:Nat}{w:World}(hh:Bd w0 ρ H n w):Bd w0 ρ H n w.drew:=hh.of_same rfl rfl rfl
def Oc(ρ:Loc)(size:Nat):EZ->Obj->Prop
 |.arr esz cnt c,o=>∃vs t fz,o=.cells vs t fz/\vs.size=size/\IL fz size/\(esz=1∨fz=(0,0))/\cnt*esz<=size/\(∀u∈vs.toList,u.oneCell'=true)/\∀e,e<cnt->∃L,T.get c e=some L/\BK ρ L (sub vs (e*esz) esz)
 |.map es ck,o=>∃es':Array MapEntry,o=.map es' ck/\DV ρ es es'.toList
 |.dead,_=>True
 |.G9 t e l c _,o=>l=0/\c=0/\o=.cells #[.pointer none,.slice none 0 0] t (0,0)
 |.own _,_=>True
theorem Oc.mono{ρ ρ':Loc}(hle:ρ.le ρ'){size:Nat}:∀{b:EZ} {o:Obj},Oc ρ size b o->Oc ρ' size b o
 |.arr _ _ _,_,⟨vs,t,fz,h1,h2,h3,hs,h4,h5,h6⟩=>⟨vs,t,fz,h1,h2,h3,hs,h4,h5,λe he=>let⟨L,a,b⟩:=h6 e he;⟨L,a,BK.mono hle _ _ b⟩⟩
 |.map _ _,_,⟨es,h1,h2⟩=>⟨es,h1,DV.mono hle _ _ h2⟩
 |.dead,_,_=>trivial
 |.G9 _ _ _ _ _,_,h=>h
 |.own _,_,_=>trivial
def Loc.add(ρ:Loc)(id:Nat)(x:Info):Loc:=λi=>if i=id then some x else ρ i
theorem Loc.add_same(ρ:Loc)(id:Nat)(x:Info):ρ.add id x id=some x:=by simp[Loc.add]
theorem Loc.Ew(ρ:Loc){id i:Nat}(x:Info)(h:i≠id):ρ.add id x i=ρ i:=by simp[Loc.add,h]
theorem Loc.Mc{ρ:Loc}{id:Nat}(x:Info)(h:ρ id=none):ρ.le (ρ.add id x):=λi y hy=>by
 by_cases e:i=id
 ·subst e;rw[h]at hy;cases hy
 ·rw[Loc.Ew ρ x e];exact hy
theorem Bd.fresh{w0:World}{ρ:Loc}{H:Heap}{n:Nat}{w:World}(hh:Bd w0 ρ H n w)(b:EZ):Bd w0 ρ (T.set H n b) (n+1) w:=by
 have hne:∀i x,ρ i=some x->n≠i:=λi x hx e=>by have:=hh.lt i x hx;omega
 refine{lt:=λi x hx=>Nat.lt_succ_of_lt (hh.lt i x hx),blk:=hh.blk,inj:=?_,arr:=?_,map:=?_,G9:=?_,old:=hh.old,os:=hh.os,out:=hh.out,big:=hh.big,top:=λid h=>by rw[T.Bv H _ (by omega)];exact hh.top id (by omega)}
 ·intro i j x y hx hy h1 h2 hb
  refine hh.inj i j x y hx hy ?_ ?_ hb
  ·obtain⟨b,hb,hd⟩:=h1;rw[T.Bv H _ (hne i x hx)]at hb;exact⟨b,hb,hd⟩
  ·obtain⟨b,hb,hd⟩:=h2;rw[T.Bv H _ (hne j y hy)]at hb;exact⟨b,hb,hd⟩
 ·intro i x e c t hx hb;rw[T.Bv H _ (hne i x hx)]at hb;exact hh.arr i x e c t hx hb
 ·intro i x e c hx hb;rw[T.Bv H _ (hne i x hx)]at hb;exact hh.map i x e c hx hb
 ·intro i x t e l c j hx hb
  rw[T.Bv H _ (hne i x hx)]at hb
  exact(hh.G9 i x t e l c j hx hb).same rfl (Loc.le.refl _) λy hy hj=>⟨rfl,by rw[T.Bv H _ (hne j y hy)];exact hj⟩
theorem Bd.Jq{w0:World}{ρ:Loc}{H:Heap}{n:Nat}{w:World}(hh:Bd w0 ρ H n w):ρ n=none:=by
 cases h:ρ n with
 |none=>rfl
 |some x=>exact absurd (hh.lt n x h) (Nat.lt_irrefl n)
theorem DF.fresh(ρ:Loc)(H:Heap)(n:Nat)(b:EZ):DF ρ H n ρ (T.set H n b) (n+1):=
 ⟨Loc.le.refl _,by omega,λi hi hn=>⟨hn,T.Bv H b (by omega)⟩⟩
theorem Bd.place{w0:World}{ρ:Loc}{H:Heap}{n:Nat}{w:World}(hh:Bd w0 ρ H n w){id:Nat}(hid:id<n)(hn:ρ id=none){b:EZ}(hb:T.get H id=some b){size:Nat}{o:Obj}(hr:Oc ρ size b o):
 Bd w0 (ρ.add id ⟨w.heap.size,0,size⟩) H n (w.alloc o):=by
 have hle:=Loc.Mc ⟨w.heap.size,0,size⟩ hn
 have hnew:(w.alloc o).heap[w.heap.size]? =some o:=by show(w.heap.push o)[w.heap.size]? =_;simp
 have hold:∀k,k<w.heap.size->(w.alloc o).heap[k]? =w.heap[k]? :=λk hk=>by show(w.heap.push o)[k]? =_;rw[Array.getElem?_push,if_neg (by omega)]
 have hcase:∀i x,ρ.add id ⟨w.heap.size,0,size⟩ i=some x->(i=id/\x=⟨w.heap.size,0,size⟩)∨(i≠id/\ρ i=some x):=by
  intro i x hx
  by_cases e:i=id
  ·subst e;rw[Loc.add_same]at hx;exact .inl ⟨rfl,(Option.some.inj hx).symm⟩
  ·rw[Loc.Ew ρ _ e]at hx;exact .inr ⟨e,hx⟩
 refine{lt:=?_,blk:=?_,inj:=?_,arr:=?_,map:=?_,G9:=?_,old:=?_,os:=hh.os,out:=hh.out,big:=by rw[World.size_alloc];have:=hh.big;omega,top:=hh.top}
 ·intro i x hx;rcases hcase i x hx with⟨rfl,_⟩|⟨_,h⟩
  ·exact hid
  ·exact hh.lt i x h
 ·intro i x hx;rcases hcase i x hx with⟨_,rfl⟩|⟨_,h⟩
  ·exact⟨hh.big,by simp⟩
  ·have:=hh.blk i x h;rw[World.size_alloc];omega
 ·intro i j x y hx hy h1 h2 hbe
  rcases hcase i x hx with⟨rfl,rfl⟩|⟨e1,h1'⟩<;>rcases hcase j y hy with⟨rfl,rfl⟩|⟨e2,h2'⟩
  ·rfl
  ·have:=(hh.blk j y h2').2;simp at hbe;omega
  ·have:=(hh.blk i x h1').2;simp at hbe;omega
  ·exact hh.inj i j x y h1' h2' h1 h2 hbe
 ·intro i x e c t hx hb'
  rcases hcase i x hx with⟨rfl,rfl⟩|⟨e1,h1'⟩
  ·have hbb:b=.arr e c t:=Option.some.inj (hb.symm.trans hb')
   subst hbb
   obtain⟨vs,ty,fz,rfl,h2,h3,hs,h4,h5,h6⟩:=hr
   refine⟨vs,ty,fz,{heap:=hnew,size:=h2,free:=h3,sh:=hs,room:=by simpa using h4,one:=h5,elem:=λk hk=>?_}⟩
   obtain⟨L,hL,hrL⟩:=h6 k hk
   exact⟨L,hL,by simpa using BK.mono hle _ _ hrL⟩
  ·obtain⟨vs,ty,fz,ha⟩:=hh.arr i x e c t h1' hb'
   exact⟨vs,ty,fz,(ha.of_heap (hold _ (hh.blk i x h1').2)).mono hle⟩
 ·intro i x e c hx hb'
  rcases hcase i x hx with⟨rfl,rfl⟩|⟨e1,h1'⟩
  ·have hbb:b=.map e c:=Option.some.inj (hb.symm.trans hb')
   subst hbb
   obtain⟨es,rfl,hes⟩:=hr
   exact⟨es,hnew,DV.mono hle _ _ hes⟩
  ·obtain⟨es,he,hes⟩:=hh.map i x e c h1' hb'
   exact⟨es,by rw[hold _ (hh.blk i x h1').2];exact he,DV.mono hle _ _ hes⟩
 ·intro i x t e l c j hx hb'
  rcases hcase i x hx with⟨rfl,rfl⟩|⟨e1,h1'⟩
  ·have hbb:b=.G9 t e l c j:=Option.some.inj (hb.symm.trans hb')
   subst hbb
   obtain⟨rfl,rfl,rfl⟩:=hr
   exact⟨rfl,[],_,_,rfl,rfl,.inl rfl,hnew,World.ownsRow_nil _ _ _ _,λ_=>rfl,λh=>absurd h (Nat.lt_irrefl 0)⟩
  ·exact(hh.G9 i x t e l c j h1' hb').same (hold _ (hh.blk i x h1').2) hle λy hy hj=>⟨hold _ (hh.blk j y hy).2,hj⟩
 ·intro k hk;have:=hh.big;rw[hold k (by omega)];exact hh.old k hk
theorem DF.place{ρ:Loc}{H:Heap}{n:Nat}{b:EZ}(x:Info)(h:ρ n=none):DF ρ H n (ρ.add n x) (T.set H n b) (n+1):=
 ⟨Loc.Mc x h,by omega,λi hi hn=>⟨by rw[Loc.Ew ρ x (by omega)];exact hn,T.Bv H b (by omega)⟩⟩
theorem Bd.new{w0:World}{ρ:Loc}{H:Heap}{n:Nat}{w:World}(hh:Bd w0 ρ H n w){b:EZ}{size:Nat}{o:Obj}(hr:Oc ρ size b o):
 Bd w0 (ρ.add n ⟨w.heap.size,0,size⟩) (T.set H n b) (n+1) (w.alloc o):=
 (hh.fresh b).place (Nat.lt_succ_self n) hh.Jq (T.Gh _ _ _) hr
theorem Bd.move{w0:World}{ρ:Loc}{H:Heap}{n:Nat}{w:World}(hh:Bd w0 ρ H n w){id:Nat}{x:Info}(hx:ρ id=some x)(hlive:isLive H id){w':World}{y:Info}(hy:y.b=x.b){esz cnt:Nat}{c:T LV}
 (hsz:w'.heap.size=w.heap.size) (hoth:∀k,k≠x.b->w'.heap[k]? =w.heap[k]?) (hos:w'.os=w.os) (hout:w'.output=w.output)
 (harr:∃vs t fz,Iz ρ w' y esz cnt c vs t fz) (hno:∀b,T.get H id≠some (.own b)):
 Bd w0 (ρ.add n y) (T.set (T.set H id .dead) n (.arr esz cnt c)) (n+1) w':=by
 have hn:=hh.Jq
 have hle:=Loc.Mc y hn
 have Aax:id≠n:=λe=>by subst e;rw[hx]at hn;cases hn
 have hcase:∀i z,ρ.add n y i=some z->(i=n/\z=y)∨(i≠n/\ρ i=some z):=by
  intro i z hz
  by_cases e:i=n
  ·subst e;rw[Loc.add_same]at hz;exact .inl ⟨rfl,(Option.some.inj hz).symm⟩
  ·rw[Loc.Ew ρ _ e]at hz;exact .inr ⟨e,hz⟩
 have hget:∀i,i≠n->T.get (T.set (T.set H id .dead) n (.arr esz cnt c)) i=if id=i then some .dead else T.get H i:=λi hi=>by
  rw[T.Bv _ _ (Ne.symm hi),T.Ey]
 have hlv:∀i,i≠n->isLive (T.set (T.set H id .dead) n (.arr esz cnt c)) i->isLive H i/\i≠id:=by
  rintro i hi ⟨b,hb,hd⟩
  rw[hget i hi]at hb
  by_cases e:id=i
  ·rw[if_pos e]at hb;exact absurd (Option.some.inj hb).symm hd
  ·rw[if_neg e]at hb;exact⟨⟨b,hb,hd⟩,Ne.symm e⟩
 refine{lt:=?_,blk:=?_,inj:=?_,arr:=?_,map:=?_,G9:=?_,old:=?_,os:=hos.trans hh.os,out:=hout.trans hh.out,big:=by rw[hsz];exact hh.big,top:=λi hi=>by rw[hget i (by omega),if_neg (by have:=hh.lt id x hx;omega)];exact hh.top i (by omega)}
 ·intro i z hz;rcases hcase i z hz with⟨rfl,_⟩|⟨_,h⟩
  ·omega
  ·exact Nat.lt_succ_of_lt (hh.lt i z h)
 ·intro i z hz;rcases hcase i z hz with⟨_,rfl⟩|⟨_,h⟩
  ·rw[hy,hsz];exact hh.blk id x hx
  ·rw[hsz];exact hh.blk i z h
 ·intro i j z z' hz hz' h1 h2 hbe
  rcases hcase i z hz with⟨rfl,rfl⟩|⟨e1,h1'⟩<;>rcases hcase j z' hz' with⟨rfl,rfl⟩|⟨e2,h2'⟩
  ·rfl
  ·obtain⟨hl,hne⟩:=hlv j e2 h2
   exact absurd (hh.inj id j x z' hx h2' hlive hl (by rw[<-hy,hbe])).symm hne
  ·obtain⟨hl,hne⟩:=hlv i e1 h1
   exact absurd (hh.inj id i x z hx h1' hlive hl (by rw[<-hy,hbe])).symm hne
  ·exact hh.inj i j z z' h1' h2' (hlv i e1 h1).1 (hlv j e2 h2).1 hbe
 ·intro i z e k t hz hb'
  rcases hcase i z hz with⟨rfl,rfl⟩|⟨e1,h1'⟩
  ·rw[T.Gh]at hb'
   cases hb'
   obtain⟨vs,ty,fz,ha⟩:=harr
   exact⟨vs,ty,fz,ha.mono hle⟩
  ·rw[hget i e1]at hb'
   by_cases ee:id=i
   ·rw[if_pos ee]at hb';cases hb'
   ·rw[if_neg ee]at hb'
    have hne:z.b≠x.b:=λhbe=>ee (hh.inj id i x z hx h1' hlive ⟨_,hb',by simp⟩ hbe.symm)
    obtain⟨vs,ty,fz,ha⟩:=hh.arr i z e k t h1' hb'
    exact⟨vs,ty,fz,(ha.of_heap (hoth _ hne)).mono hle⟩
 ·intro i z e k hz hb'
  rcases hcase i z hz with⟨rfl,rfl⟩|⟨e1,h1'⟩
  ·rw[T.Gh]at hb';cases hb'
  ·rw[hget i e1]at hb'
   by_cases ee:id=i
   ·rw[if_pos ee]at hb';cases hb'
   ·rw[if_neg ee]at hb'
    have hne:z.b≠x.b:=λhbe=>ee (hh.inj id i x z hx h1' hlive ⟨_,hb',by simp⟩ hbe.symm)
    obtain⟨es,he,hes⟩:=hh.map i z e k h1' hb'
    exact⟨es,by rw[hoth _ hne];exact he,DV.mono hle _ _ hes⟩
 ·intro i z t e l c' j hz hb'
  rcases hcase i z hz with⟨rfl,rfl⟩|⟨e1,h1'⟩
  ·rw[T.Gh]at hb';cases hb'
  ·rw[hget i e1]at hb'
   by_cases ee:id=i
   ·rw[if_pos ee]at hb';cases hb'
   ·rw[if_neg ee]at hb'
    have hne:z.b≠x.b:=λhbe=>ee (hh.inj id i x z hx h1' hlive ⟨_,hb',by simp⟩ hbe.symm)
    refine(hh.G9 i z t e l c' j h1' hb').same (hoth _ hne) hle λu hu hj=>?_
    have hjd:id≠j:=λe=>by subst e;exact hno _ hj
    have hjn:j≠n:=λe=>by subst e;rw[hn]at hu;cases hu
    exact⟨hoth _ λhbe=>hjd (hh.inj id j x u hx hu hlive ⟨_,hj,by simp⟩ hbe.symm),by rw[hget j hjn,if_neg hjd];exact hj⟩
 ·intro k hk
  have:=(hh.blk id x hx).1
  rw[hoth k (by omega)];exact hh.old k hk
theorem DF.move{ρ:Loc}{H:Heap}{n:Nat}{id:Nat}{x:Info}(hx:ρ id=some x)(hn:ρ n=none)(y:Info)(b:EZ):DF ρ H n (ρ.add n y) (T.set (T.set H id .dead) n b) (n+1):=
 ⟨Loc.Mc y hn,by omega,λi hi h=>⟨by rw[Loc.Ew ρ y (by omega)];exact h,by
  rw[T.Bv _ b (by omega),T.Bv H _ (λe=>by subst e;rw[hx]at h;cases h)]⟩⟩
theorem Bd.kill{w0:World}{ρ:Loc}{H:Heap}{n:Nat}{w:World}(hh:Bd w0 ρ H n w){id:Nat}(hid:id<n)(hno:∀b,T.get H id≠some (.own b)):Bd w0 ρ (T.set H id .dead) n w:=by
 have hget:∀i,T.get (T.set H id .dead) i=if id=i then some .dead else T.get H i:=λi=>T.Ey _ _ _ _
 have hlv:∀i,isLive (T.set H id .dead) i->isLive H i:=by
  rintro i ⟨b,hb,hd⟩
  rw[hget i]at hb
  by_cases e:id=i
  ·rw[if_pos e]at hb;exact absurd (Option.some.inj hb).symm hd
  ·rw[if_neg e]at hb;exact⟨b,hb,hd⟩
 refine{lt:=hh.lt,blk:=hh.blk,inj:=λi j x y hx hy h1 h2=>hh.inj i j x y hx hy (hlv i h1) (hlv j h2),arr:=?_,map:=?_,G9:=?_,old:=hh.old,os:=hh.os,out:=hh.out,big:=hh.big,top:=λi hi=>by rw[hget,if_neg (by omega)];exact hh.top i hi}
 ·intro i x e c t hx hb
  rw[hget]at hb
  split at hb
  ·cases hb
  ·exact hh.arr i x e c t hx hb
 ·intro i x e c hx hb
  rw[hget]at hb
  split at hb
  ·cases hb
  ·exact hh.map i x e c hx hb
 ·intro i x t e l c j hx hb
  rw[hget]at hb
  split at hb
  ·cases hb
  ·exact(hh.G9 i x t e l c j hx hb).same rfl (Loc.le.refl _) λy _ hj=>⟨rfl,by rw[hget,if_neg (λe=>by subst e;exact hno _ hj)];exact hj⟩
variable{P:Program}
def cv1:Value->Option V
 |.bool b=>some (.bool b)
 |.int k n=>some (.int k n 0)
 |.string s=>some (.str s.data.toList.length (enc s.data.toList))
 |.pointer none=>some .Bh
 |.slice none 0 0=>some .Ae
 |.map none=>some .jr
 |.nilFunc=>some .AOd
 |.nilIface=>some .AAV
 |_=>none
def cvL:List Value->Option LV
 |[]=>some []
 |v::l=>(cv1 v).bind λc=>(cvL l).bind λcs=>some (c::cs)
def cvV:Value->Option V
 |.agg a=>(cvL a.toList).map .agg
 |v=>cv1 v
theorem iV{ρ:Loc}{v:Value}{c:V}(h:cv1 v=some c):Af ρ c v/\dM c=true/\v.oneCell'=true:=by
 unfold cv1 at h
 split at h<;>first|(cases h;done)|(cases h;refine⟨?_,rfl,rfl⟩;simp[Af])
theorem Ig{ρ:Loc}:∀{l:List Value} {cs:LV},cvL l=some cs->BK ρ cs l/\(∀c∈cs,dM c=true)/\∀u∈l,u.oneCell'=true
 |[],cs,h=>by simp[cvL]at h;subst h;simp
 |v::l,cs,h=>by
  simp only[cvL,Option.bind_eq_some_iff]at h
  obtain⟨c,hc,cs',hcs,e⟩:=h
  cases e
  obtain⟨h1,h2,h3⟩:=iV (ρ:=ρ) hc
  obtain⟨h4,h5,h6⟩:=Ig (ρ:=ρ) hcs
  refine⟨.cons h1 h4,?_,?_⟩
  ·intro x hx;rcases List.mem_cons.1 hx with rfl|hx
   ·exact h2
   ·exact h5 x hx
  ·intro x hx;rcases List.mem_cons.1 hx with rfl|hx
   ·exact h3
   ·exact h6 x hx
theorem KT{ρ:Loc}{v:Value}{c:V}(h:cvV v=some c):Af ρ c v:=by
 unfold cvV at h
 split at h
 ·rename_i a
  cases hl:cvL a.toList with
  |none=>rw[hl]at h;cases h
  |some cs=>
   rw[hl]at h
   cases h
   obtain⟨h1,_,h3⟩:=Ig (ρ:=ρ) hl
   exact⟨a,rfl,h1,h3⟩
 ·exact(iV h).1
def Dp(P:Program)(t:TypeId):Option Bool:=
 match P.underlying t with
 |some (.struct _)=>some true
 |some (.array _ _)=>some true
 |some _=>some false
 |none=>none
def Jz(P:Program)(t:TypeId):Option Nat:=(P.info? t).map (·.size)
def Ko(P:Program)(t:TypeId):Option LV:=(P.info? t).bind λi=>i.zero.bind λz=>cvL z.cells.toList
theorem G8{t:TypeId}{b:Bool}(h:Dp P t=some b)(w:World):(isAgg t).run P w=.ok b w:=by
 unfold Dp at h
 cases hu:P.underlying t with
 |none=>rw[hu]at h;cases h
 |some d=>
  rw[hu]at h
  simp only[isAgg,Sem.run_bind,run_underlying hu,Result.andThen_ok]
  cases d<;>simp_all
theorem run_sizeOf{t:TypeId}{n:Nat}(h:Jz P t=some n)(w:World):(Go.sizeOf t).run P w=.ok n w:=by
 unfold Jz at h
 cases hi:P.info? t with
 |none=>rw[hi]at h;cases h
 |some i=>rw[hi]at h;cases h;simp[Go.sizeOf,typeInfo,hi]
theorem nD{w0:World}{ρ:Loc}{G:AQ}{H:Heap}{n:Nat}{w:World}(hh:Bd w0 ρ H n w)(hg:D7 w0 G){v r:V}{u:Value}(hv:Af ρ v u){t:TypeId}(ht:Dp P t=some false)
 (hl:Fg (Zb v G H 1) (λL=>nth L 0)=some r):∃val,(Instr.loadAt t u).run P w=.ok val w/\Af ρ r val:=by
 obtain⟨L,h1,h2⟩:=E8.1 hl
 obtain⟨a,cs,rfl,hsp,hr,hlen,hone,hc⟩:=Gz hh hg hv h1
 rw[VA]at h2
 obtain⟨val,hval,hvr⟩:=hr.get h2
 have hcell:=hc 0 val hval
 refine⟨val,?_,hvr⟩
 rw[Addr.add_zero']at hcell
 simp[Instr.loadAt,Instr.sureAddr,loadVar,G8 ht,hcell]
theorem oU{w0:World}{ρ:Loc}{G:AQ}{H:Heap}{n:Nat}{w:World}(hh:Bd w0 ρ H n w)(hg:D7 w0 G){v r:V}{u:Value}(hv:Af ρ v u){t:TypeId}(ht:Dp P t=some true){m:Nat}(hm:Jz P t=some m)
 (hl:Fg (Zb v G H m) (λL=>some (.agg L))=some r):∃val,(Instr.loadAt t u).run P w=.ok val w/\Af ρ r val:=by
 obtain⟨L,h1,h2⟩:=E8.1 hl
 cases h2
 obtain⟨a,cs,rfl,hsp,hr,hlen,hone,hc⟩:=Gz hh hg hv h1
 refine⟨.agg cs.toArray,?_,⟨cs.toArray,rfl,by simpa using hr,by simpa using hone⟩⟩
 have hld:=run_loadCells_list (P:=P) w a cs hc
 rw[hlen]at hld
 simp[Instr.loadAt,Instr.sureAddr,loadVar,G8 ht,run_sizeOf hm,hld]
variable{P:Program}
theorem BU{v:V}{f:IntKind->Int->Nat->Option V}{r:V}:v.Cb f=some r↔∃k n s,v=.int k n s/\f k n s=some r:=by
 cases v<;>simp[V.Cb]
 case int k n s=>
  constructor
  ·intro h;exact⟨k,n,s,⟨rfl,rfl,rfl⟩,h⟩
  ·rintro⟨_,_,_,⟨rfl,rfl,rfl⟩,h⟩;exact h
theorem Nl{v:V}{f:Bool->Option V}{r:V}:v.IE f=some r↔∃b,v=.bool b/\f b=some r:=by
 cases v<;>simp[V.IE]
theorem DN{v:V}{f:Nat->Nat->Option V}{r:V}:v.EM f=some r↔∃l c,v=.str l c/\f l c=some r:=by
 cases v<;>simp[V.EM]
 case str l c=>
  constructor
  ·intro h;exact⟨l,c,⟨rfl,rfl⟩,h⟩
  ·rintro⟨_,_,⟨rfl,rfl⟩,h⟩;exact h
theorem Jm{v:V}{f:LV->Option V}{r:V}:v.Ie f=some r↔∃l,v=.agg l/\f l=some r:=by
 cases v<;>simp[V.Ie]
theorem jD{v:V}{f:LV->Option V}{r:V}:v.eU f=some r↔∃l,v=.BP l/\f l=some r:=by
 cases v<;>simp[V.eU]
theorem SI{v:V}{f g:Nat->Nat->Option V}{r:V}:v.XK f g=some r↔(∃i o,v=.ptr i o/\f i o=some r)∨(∃i o,v=.gptr i o/\g i o=some r):=by
 cases v<;>simp[V.XK]
 case ptr l c=>
  constructor
  ·intro h;exact⟨l,c,⟨rfl,rfl⟩,h⟩
  ·rintro⟨_,_,⟨rfl,rfl⟩,h⟩;exact h
 case gptr l c=>
  constructor
  ·intro h;exact⟨l,c,⟨rfl,rfl⟩,h⟩
  ·rintro⟨_,_,⟨rfl,rfl⟩,h⟩;exact h
theorem Lp{n:Int}{f:Nat->Option V}{r:V}:ABp n f=some r↔∃m:Nat,n=m/\f m=some r:=by
 cases n with
 |ofNat m=>exact⟨λh=>⟨m,rfl,h⟩,λ⟨m',h,h'⟩=>by cases h;exact h'⟩
 |negSucc m=>exact⟨λh=>(by cases h),λ⟨m',h,_⟩=>by cases h⟩
theorem EH{v:V}{f:Nat->Option V}{r:V}:Es v f=some r↔∃k,∃m:Nat,v=.int k m 0/\f m=some r:=by
 unfold Es
 rw[BU]
 constructor
 ·rintro⟨k,n,s,rfl,h⟩
  rw[BD,Lp]at h
  obtain⟨hs,m,rfl,hf⟩:=h
  have hs0:s=0:=by simpa using hs
  subst hs0
  exact⟨k,m,rfl,hf⟩
 ·rintro⟨k,m,rfl,hf⟩
  exact⟨k,m,0,rfl,by rw[BD,Lp];exact⟨rfl,m,rfl,hf⟩⟩
def B2.op:B2->BinOp
 |.add=>.add|.sub=>.sub|.mul=>.mul|.quo=>.quo|.rem=>.rem|.and=>.and|.or=>.or|.xor=>.xor|.andNot=>.andNot|.shl=>.shl|.shr=>.shr
 |.lss=>.lss|.leq=>.leq|.gtr=>.gtr|.geq=>.geq
theorem Ky{ρ:Loc}{k:IntKind}{n:Int}{s:Nat}{r:V}(h:yu k n s=some r):Af ρ r (.int k (k.wrap n)):=by
 obtain⟨s',hs,_⟩:=AXN k n s
 rw[hs]at h;cases h
 simp[Af]
def Kr(P:Program)(o:B2)(t:TypeId)(u u':Value)(val:Value):Prop:=∀(x y:Operand) (w:World),((do eqGuard o.op t x y u u';binOp o.op t u u'):Sem Value).run P w=.ok val w
theorem UR{ρ:Loc}(f:Int->Int->Int){x y r:V}{u u':Value}(hx:Af ρ x u)(hy:Af ρ y u')(h:ari f x y=some r):
 ∃k a b,u=.int k a/\u'=.int k b/\Af ρ r (.int k (k.wrap (f a b))):=by
 unfold ari at h
 rw[BU]at h
 obtain⟨k,a,s,rfl,h⟩:=h
 rw[BU]at h
 obtain⟨k',b,t,rfl,h⟩:=h
 rw[BD,IU]at h
 obtain⟨rfl,h⟩:=h
 simp only[Af]at hx hy
 exact⟨k,a,b,hx,hy,Ky h⟩
theorem AIy{ρ:Loc}{x y r:V}{u u':Value}(hx:Af ρ x u)(hy:Af ρ y u')(t:TypeId)(h:AdI x y=some r):∃val,Kr P .sub t u u' val/\Af ρ r val:=by
 obtain⟨k,a,b,rfl,rfl,hr⟩:=UR _ hx hy h
 refine⟨_,λ_ _ w=>?_,hr⟩
 simp[B2.op,eqGuard_at_int,binOp_sub,Op.intArith,Int.sub_eq_add_neg]
 rfl
theorem APO{ρ:Loc}{x y r:V}{u u':Value}(hx:Af ρ x u)(hy:Af ρ y u')(t:TypeId)(h:AcJ x y=some r):∃val,Kr P .mul t u u' val/\Af ρ r val:=by
 obtain⟨k,a,b,rfl,rfl,hr⟩:=UR _ hx hy h
 refine⟨_,λ_ _ w=>?_,hr⟩
 simp[B2.op,eqGuard_at_int,binOp_mul,Op.intArith]
theorem DY{ρ:Loc}{l c:Nat}{u:Value}(h:Af ρ (.str l c) u):∃s:ByteArray,u=.string s/\s.data.toList.length=l/\enc s.data.toList=c:=h
theorem Dy(s:ByteArray):s.size=s.data.toList.length:=by rw[Array.length_toList];rfl
theorem ALR{ρ:Loc}{x y r:V}{u u':Value}(hx:Af ρ x u)(hy:Af ρ y u')(t:TypeId)(h:AXm x y=some r):∃val,Kr P .add t u u' val/\Af ρ r val:=by
 unfold AXm at h
 rw[GX]at h
 split at h
 ·unfold Aay at h
  rw[DN]at h
  obtain⟨l,c,rfl,h⟩:=h
  rw[DN]at h
  obtain⟨m,d,rfl,h⟩:=h
  rw[BD]at h
  obtain⟨hlt,h⟩:=h
  simp only[Ec]at h
  cases h
  obtain⟨s1,rfl,rfl,rfl⟩:=DY hx
  obtain⟨s2,rfl,rfl,rfl⟩:=DY hy
  have hlt':s1.data.toList.length+s2.data.toList.length<9223372036854775808:=by rw[Nat.blt_eq]at hlt;exact hlt
  have hcat:(s1++s2).data.toList=s1.data.toList++s2.data.toList:=by simp[ByteArray.data_append]
  refine⟨.string (s1++s2),λ_ _ w=>?_,⟨s1++s2,rfl,?_,?_⟩⟩
  ·have hz:=run_string_add_sum (P:=P) w s1 s2 (by rw[Dy,Dy];omega)
   simp[B2.op,eqGuard_at_string,binOp_string_add,hz]
  ·rw[hcat];simp
  ·rw[hcat,AF5]
 ·obtain⟨k,a,b,rfl,rfl,hr⟩:=UR _ hx hy h
  refine⟨_,λ_ _ w=>?_,hr⟩
  simp[B2.op,eqGuard_at_int,binOp_add,Op.intArith]
theorem AEf{ρ:Loc}(f:Int->Int->Int){x y r:V}{u u':Value}(hx:Af ρ x u)(hy:Af ρ y u')(h:dvs f x y=some r):
 ∃k a b,u=.int k a/\u'=.int k b/\b≠0/\Af ρ r (.int k (k.wrap (f a b))):=by
 unfold dvs at h
 rw[BU]at h
 obtain⟨k,a,s,rfl,h⟩:=h
 rw[BU]at h
 obtain⟨k',b,t,rfl,h⟩:=h
 rw[BD]at h
 obtain⟨hc,h⟩:=h
 simp only[BL,Bool.and_eq_true,IU,Iq,Jf,Bool.not_eq_true',beq_eq_false_iff_ne]at hc
 obtain⟨rfl,_,hb⟩:=hc
 simp only[Af]at hx hy
 exact⟨k,a,b,hx,hy,hb,Ky h⟩
theorem AI6{ρ:Loc}{x y r:V}{u u':Value}(hx:Af ρ x u)(hy:Af ρ y u')(t:TypeId)(h:dvs Int.tdiv x y=some r):∃val,Kr P .quo t u u' val/\Af ρ r val:=by
 obtain⟨k,a,b,rfl,rfl,hb,hr⟩:=AEf _ hx hy h
 refine⟨_,λ_ _ w=>?_,hr⟩
 simp[B2.op,eqGuard_at_int,binOp_quo,Op.intDiv,hb]
theorem AM6{ρ:Loc}{k:IntKind}{n:Int}{s:Nat}{r:V}(h:mkN k n s=some r):Af ρ r (.int k n):=by
 cases s with
 |zero=>
  have h':ES n (λm=>some (.int k m 0))=some r:=h
  rw[E5]at h';cases h';simp[Af]
 |succ s=>
  have h':some (V.int k n 1)=some r:=h
  cases h';simp[Af]
theorem AJZ{ρ:Loc}{x y r:V}{u u':Value}(hx:Af ρ x u)(hy:Af ρ y u')(t:TypeId)(h:ATx x y=some r):∃val,Kr P .rem t u u' val/\Af ρ r val:=by
 unfold ATx at h
 rw[BU]at h
 obtain⟨k,a,s,rfl,h⟩:=h
 rw[BU]at h
 obtain⟨k',b,t',rfl,h⟩:=h
 rw[BD]at h
 obtain⟨hc,h⟩:=h
 simp only[BL,Bool.and_eq_true,IU,Iq,Jf,Bool.not_eq_true',beq_eq_false_iff_ne]at hc
 obtain⟨rfl,_,hb⟩:=hc
 simp only[Af]at hx hy
 subst hx hy
 refine⟨_,λ_ _ w=>?_,AM6 h⟩
 simp[B2.op,eqGuard_at_int,binOp_rem,Op.intDiv,hb]
variable{P:Program}
theorem y5(k:IntKind)(n:Int):k.wrap (n%2^k.bits)=k.wrap n:=by
 simp only[IntKind.wrap,Int.emod_emod_of_dvd _ (Int.dvd_refl _)]
theorem Kz(k:IntKind)(m n:Nat):bits .and k (.ofNat m) (.ofNat n)=k.wrap (Int.ofNat (m&&&n)):=by
 simp only[bits]
 rw[<-y5 k (Int.ofNat (m&&&n))]
 congr 1
 have h1:(BitVec.ofInt k.bits (Int.ofNat m)).toNat=m%2^k.bits:=by simp
 have h2:(BitVec.ofInt k.bits (Int.ofNat n)).toNat=n%2^k.bits:=by simp
 rw[BitVec.toNat_and,h1,h2,<-Nat.and_mod_two_pow]
 simp
theorem ANG(k:IntKind)(a b:Int):AKa k a b=bits .and k a b:=by
 cases a with
 |ofNat m=>cases b with
  |ofNat n=>show KN k (.ofNat (Nat.land m n))=_;rw[G6,Kz];rfl
  |negSucc n=>rfl
 |negSucc m=>rfl
theorem AOz{ρ:Loc}{x y r:V}{u u':Value}(hx:Af ρ x u)(hy:Af ρ y u')(t:TypeId)(h:AL3 x y=some r):∃val,Kr P .and t u u' val/\Af ρ r val:=by
 unfold AL3 at h
 rw[BU]at h
 obtain⟨k,a,s,rfl,h⟩:=h
 rw[BU]at h
 obtain⟨k',b,t',rfl,h⟩:=h
 rw[BD]at h
 obtain⟨hc,h⟩:=h
 simp only[BL,Bool.and_eq_true,IU]at hc
 obtain⟨rfl,_⟩:=hc
 simp only[Af]at hx hy
 subst hx hy
 rw[E5,ANG]at h
 cases h
 refine⟨.int k (bits .and k a b),λ_ _ w=>?_,by simp[Af]⟩
 simp[B2.op,eqGuard_at_int,binOp_and,intBits_and]
theorem Yk{ρ:Loc}{x y r:V}{u u':Value}(hx:Af ρ x u)(hy:Af ρ y u')(t:TypeId)(o:B2)(ho:o=.or∨o=.xor∨o=.andNot)(h:AEc o.op x y=some r):∃val,Kr P o t u u' val/\Af ρ r val:=by
 unfold AEc at h
 rw[BU]at h
 obtain⟨k,a,s,rfl,h⟩:=h
 rw[BU]at h
 obtain⟨k',b,t',rfl,h⟩:=h
 rw[BD]at h
 obtain⟨hc,h⟩:=h
 simp only[BL,Bool.and_eq_true,IU]at hc
 obtain⟨rfl,_⟩:=hc
 simp only[Af]at hx hy
 subst hx hy
 rw[E5]at h
 cases h
 refine⟨.int k (bits o.op k a b),λ_ _ w=>?_,by simp[Af]⟩
 rcases ho with rfl|rfl|rfl
 ·simp[B2.op,eqGuard_at_int,binOp_or,intBits_or]
 ·simp[B2.op,eqGuard_at_int,binOp_xor,intBits_xor]
 ·simp[B2.op,eqGuard_at_int,binOp_andNot,intBits_andNot]
theorem dL(k:IntKind):iL k=k.bits:=by cases k<;>rfl
theorem AJO{ρ:Loc}{x y r:V}{u u':Value}(hx:Af ρ x u)(hy:Af ρ y u')(t:TypeId)(h:AXM x y=some r):∃val,Kr P .shr t u u' val/\Af ρ r val:=by
 unfold AXM at h
 rw[BU]at h
 obtain⟨k,a,s,rfl,h⟩:=h
 rw[BU]at h
 obtain⟨k',b,t',rfl,h⟩:=h
 rw[BD]at h
 obtain⟨hc,h⟩:=h
 simp only[BL,Bool.and_eq_true,Iq,JO,Bool.not_eq_true',decide_eq_false_iff_not]at hc
 obtain⟨hb,_⟩:=hc
 simp only[Af]at hx hy
 subst hx hy
 rw[E5]at h
 cases h
 refine⟨_,λ_ _ w=>?_,by simp only[Af];rfl⟩
 have e:Acz a (min b.toNat (iL k))=a.fdiv (2^min b.toNat k.bits):=by
  rw[dL];show Int.fdiv a (Int.ofNat (2^(min b.toNat k.bits)))=_;rfl
 simp only[B2.op,eqGuard_at_int,binOp_shr,Op.shift,hb,if_false,Sem.run_bind,Sem.run_pure,Result.andThen_ok]
 rw[<-e]
theorem ANf{ρ:Loc}{x y r:V}{u u':Value}(hx:Af ρ x u)(hy:Af ρ y u')(t:TypeId)(h:AZu x y=some r):∃val,Kr P .shl t u u' val/\Af ρ r val:=by
 unfold AZu at h
 rw[BU]at h
 obtain⟨k,a,s,rfl,h⟩:=h
 rw[BU]at h
 obtain⟨k',b,t',rfl,h⟩:=h
 rw[BD]at h
 obtain⟨hc,h⟩:=h
 simp only[BL,Bool.and_eq_true,Iq,JO,Bool.not_eq_true',decide_eq_false_iff_not]at hc
 obtain⟨hb,_⟩:=hc
 simp only[Af]at hx hy
 subst hx hy
 refine⟨_,λ_ _ w=>?_,Ky h⟩
 have e:Int.mul a (Int.ofNat (Nat.pow 2 (Nat.min b.toNat (iL k))))=a*2^min b.toNat k.bits:=by
  rw[dL];show a*(Int.ofNat (2^(min b.toNat k.bits)))=_;rfl
 simp only[B2.op,eqGuard_at_int,binOp_shl,Op.shift,hb,if_false,Sem.run_bind,Sem.run_pure,Result.andThen_ok]
 rw[<-e]
theorem Ik{ρ:Loc}{f:Int->Int->Bool}{x y r:V}{u u':Value}(hx:Af ρ x u)(hy:Af ρ y u')(h:rD f x y=some r):
 ∃k a b,u=.int k a/\u'=.int k b/\r=.bool (f a b):=by
 unfold rD at h
 rw[BU]at h
 obtain⟨k,a,s,rfl,h⟩:=h
 rw[BU]at h
 obtain⟨k',b,t',rfl,h⟩:=h
 rw[BD]at h
 obtain⟨hc,h⟩:=h
 simp only[BL,Bool.and_eq_true,IU]at hc
 obtain⟨rfl,_⟩:=hc
 simp only[Af]at hx hy
 rw[ZG]at h
 cases h
 exact⟨k,a,b,hx,hy,rfl⟩
theorem Iw{ρ:Loc}{f:Nat->Nat->Nat->Nat->Bool}{x y r:V}{u u':Value}(hx:Af ρ x u)(hy:Af ρ y u')(h:YW f x y=some r):
 ∃s s':ByteArray,u=.string s/\u'=.string s'/\r=.bool (f s.data.toList.length (enc s.data.toList) s'.data.toList.length (enc s'.data.toList)):=by
 unfold YW at h
 rw[DN]at h
 obtain⟨l,c,rfl,h⟩:=h
 rw[DN]at h
 obtain⟨m,d,rfl,h⟩:=h
 rw[ZG]at h
 cases h
 obtain⟨s1,rfl,rfl,rfl⟩:=DY hx
 obtain⟨s2,rfl,rfl,rfl⟩:=DY hy
 exact⟨s1,s2,rfl,rfl,rfl⟩
theorem Nr{ρ:Loc}(b:Bool):Af ρ (.bool b) (.bool b):=by simp[Af]
theorem AM9{ρ:Loc}{x y r:V}{u u':Value}(hx:Af ρ x u)(hy:Af ρ y u')(t:TypeId)(h:AaB x y=some r):∃val,Kr P .lss t u u' val/\Af ρ r val:=by
 unfold AaB at h
 rw[GX]at h
 split at h
 ·obtain⟨s,s',rfl,rfl,hr⟩:=Iw hx hy h
  simp only[KP]at hr
  subst hr
  refine⟨_,λ_ _ w=>?_,Nr _⟩
  simp only[B2.op,eqGuard_at_string,Sem.run_bind,Sem.run_pure,Result.andThen_ok,binOp_string_lss,ByteArray.toList_eq]
 ·obtain⟨k,a,b,rfl,rfl,rfl⟩:=Ik hx hy h
  refine⟨_,λ_ _ w=>?_,Nr _⟩
  simp[B2.op,eqGuard_at_int,binOp_lss]
theorem YV(a b:List UInt8):(a==b)=(Nat.beq a.length b.length&&Nat.beq (enc a) (enc b)):=by
 rw[Bool.eq_iff_iff]
 simp only[beq_iff_eq,Bool.and_eq_true,beq_iff]
 exact⟨λh=>by subst h;exact⟨rfl,rfl⟩,λh=>mg a b h.1 h.2⟩
theorem NH:∀(a:List UInt8),Op.bytesLess a a=false
 |[]=>rfl
 |x::a=>by simp[Op.bytesLess,NH a]
theorem FY:∀(a b:List UInt8),(Op.bytesLess a b||a==b)= !Op.bytesLess b a
 |[],[]=>rfl
 |[],y::b=>rfl
 |x::a,[]=>rfl
 |x::a,y::b=>by
  have ih:=FY a b
  simp only[Op.bytesLess]
  by_cases hxy:x=y
  ·subst hxy;simpa using ih
  ·have hyx:¬y=x:=λe=>hxy e.symm
   have h1:(x::a==y::b)=false:=by simp[hxy]
   have h2:(x==y)=false:=by simpa using hxy
   have h3:(y==x)=false:=by simpa using hyx
   rw[h1,h2,h3]
   simp only[Bool.false_and,Bool.or_false]
   rw[Bool.eq_iff_iff]
   simp only[decide_eq_true_eq,Bool.not_eq_true',decide_eq_false_iff_not,UInt8.lt_iff_toNat_lt]
   have:x.toNat≠y.toNat:=λe=>hxy (UInt8.toNat_inj.1 e)
   omega
theorem AKb{ρ:Loc}{x y r:V}{u u':Value}(hx:Af ρ x u)(hy:Af ρ y u')(t:TypeId)(h:AY7 x y=some r):∃val,Kr P .leq t u u' val/\Af ρ r val:=by
 unfold AY7 at h
 rw[GX]at h
 split at h
 ·obtain⟨s,s',rfl,rfl,hr⟩:=Iw hx hy h
  simp only[KP,Iq]at hr
  subst hr
  refine⟨_,λ_ _ w=>?_,Nr _⟩
  have:=FY s.data.toList s'.data.toList
  simp only[B2.op,eqGuard_at_string,Sem.run_bind,Sem.run_pure,Result.andThen_ok]
  have e:binOp .leq t (.string s) (.string s')=Op.stringOp .leq s s':=by simp[binOp]
  rw[e]
  simp only[Op.stringOp,ByteArray.toList_eq,this,Sem.run_pure]
 ·obtain⟨k,a,b,rfl,rfl,rfl⟩:=Ik hx hy h
  refine⟨_,λ_ _ w=>?_,Nr _⟩
  simp[B2.op,eqGuard_at_int,binOp_leq]
theorem AG4{ρ:Loc}{x y r:V}{u u':Value}(hx:Af ρ x u)(hy:Af ρ y u')(t:TypeId)(h:AUE x y=some r):∃val,Kr P .gtr t u u' val/\Af ρ r val:=by
 unfold AUE at h
 rw[GX]at h
 split at h
 ·obtain⟨s,s',rfl,rfl,hr⟩:=Iw hx hy h
  simp only[KP]at hr
  subst hr
  refine⟨_,λ_ _ w=>?_,Nr _⟩
  have:=FY s.data.toList s'.data.toList
  simp only[B2.op,eqGuard_at_string,Sem.run_bind,Sem.run_pure,Result.andThen_ok]
  have e:binOp .gtr t (.string s) (.string s')=Op.stringOp .gtr s s':=by simp[binOp]
  rw[e]
  simp only[Op.stringOp,ByteArray.toList_eq,this,Sem.run_pure,Bool.not_not]
 ·obtain⟨k,a,b,rfl,rfl,rfl⟩:=Ik hx hy h
  refine⟨_,λ_ _ w=>?_,Nr _⟩
  simp[B2.op,eqGuard_at_int,binOp_gtr]
theorem AIK{ρ:Loc}{x y r:V}{u u':Value}(hx:Af ρ x u)(hy:Af ρ y u')(t:TypeId)(h:AVh x y=some r):∃val,Kr P .geq t u u' val/\Af ρ r val:=by
 unfold AVh at h
 rw[GX]at h
 split at h
 ·obtain⟨s,s',rfl,rfl,hr⟩:=Iw hx hy h
  simp only[KP,Iq]at hr
  subst hr
  refine⟨_,λ_ _ w=>?_,Nr _⟩
  simp only[B2.op,eqGuard_at_string,Sem.run_bind,Sem.run_pure,Result.andThen_ok]
  have e:binOp .geq t (.string s) (.string s')=Op.stringOp .geq s s':=by simp[binOp]
  rw[e]
  simp only[Op.stringOp,ByteArray.toList_eq,Sem.run_pure]
 ·obtain⟨k,a,b,rfl,rfl,rfl⟩:=Ik hx hy h
  refine⟨_,λ_ _ w=>?_,Nr _⟩
  simp[B2.op,eqGuard_at_int,binOp_geq]
variable{P:Program}
def xg(P:Program)(t:TypeId):Option CK:=
 match P.underlying t with
 |some (.int _)=>some .int
 |some .string=>some .str
 |some .bool=>some .bool
 |some (.pointer e)=>match Jz P e with|some (_+1)=>some .ptr|_=>none
 |_=>none
def vZ(P:Program)(g:TypeId->Option (List CK)):List Field->Nat->Option (List CK)
 |[],_=>some []
 |f::fs,off=>if f.name≠ "_" /\f.offset=off then(g f.type).bind λks=>if Jz P f.type=some ks.length then(vZ P g fs (off+ks.length)).map λr=>ks++r else none else none
def Vw(P:Program):Nat->TypeId->Option (List CK)
 |0,_=>none
 |d+1,t=>match P.underlying t with
  |some (.struct fs)=>if P.stoodInHeld t then none else vZ P (Vw P d) fs.toList 0
  |_=>(xg P t).map λk=>[k]
def ekT(P:Program)(t:TypeId):Option EK:=
 match P.underlying t with
 |some (.struct _)=>if P.eqGuardType P.depth t then none else(Vw P 50 t).map .agg
 |some (.slice _)=>some .sl
 |some (.func _ _ _)=>some .fn
 |some (.map _ _)=>some .map
 |_=>(xg P t).map .one
theorem JV{v:V}{k:IntKind}{n:Int}{s:Nat}{b:Bool}(h:AAp v k n s=some b):∃m s',v=.int k m s'/\b=(n==m):=by
 cases v<;>simp only[AAp]at h<;>try (cases h;done)
 rename_i k' m s'
 cases hc:band (keq k k') (Nat.beq (Nat.add s s') 0)with
 |false=>rw[hc]at h;cases h
 |true=>
  rw[hc]at h
  simp only[BL,Bool.and_eq_true,IU]at hc
  obtain⟨rfl,_⟩:=hc
  have h':some (ieq n m)=some b:=h
  rw[Jf]at h'
  exact⟨m,s',rfl,(Option.some.inj h').symm⟩
theorem MO{ρ:Loc}{t:TypeId}{k:CK}(ht:xg P t=some k){x y:V}{u u':Value}(hx:Af ρ x u)(hy:Af ρ y u'){b:Bool}(h:k.eq x y=some b)(d:Nat)(w:World):
 (Op.equalIn (d+1) t u u').run P w=.ok b w:=by
 unfold xg at ht
 split at ht
 ·cases ht
  have h':eX x y=some b:=h
  cases x<;>simp only[eX]at h'<;>try (cases h';done)
  obtain⟨m,s',rfl,rfl⟩:=JV h'
  simp only[Af]at hx hy
  subst hx hy
  exact run_equalIn_int w d t _ _ _ _ (by assumption)
 ·cases ht
  have h':iG x y=some b:=h
  cases x<;>simp only[iG]at h'<;>try (cases h';done)
  cases y<;>simp only[eqStr]at h'<;>try (cases h';done)
  obtain⟨s1,rfl,rfl,rfl⟩:=DY hx
  obtain⟨s2,rfl,rfl,rfl⟩:=DY hy
  rw[run_equalIn_string w d t _ _ (by assumption),ByteArray.toList_eq,ByteArray.toList_eq,YV]
  simp only[BL]at h'
  rw[Option.some.inj h']
 ·cases ht
  have h':Nv x y=some b:=h
  cases x<;>simp only[Nv]at h'<;>try (cases h';done)
  cases y<;>simp only[jO]at h'<;>try (cases h';done)
  simp only[Af]at hx hy
  subst hx hy
  rw[run_equalIn_bool' w d t _ _ (by assumption)]
  simp only[Zq]at h'
  rw[Option.some.inj h']
 ·rename_i e hu
  split at ht<;>cases ht
  rename_i m hm
  have hsz:=run_sizeOf (P:=P) hm w
  have h':Yo x y=some b:=h
  cases x<;>simp only[Yo]at h'<;>try (cases h';done)
  ·cases y<;>simp only[AAh]at h'<;>try (cases h';done)
   ·cases h';simp only[Af]at hx hy;subst hx hy;simp[Op.equalIn,run_underlying hu]
   ·cases h';simp only[Af]at hx hy;obtain⟨z,_,rfl⟩:=hy;subst hx;simp[Op.equalIn,run_underlying hu]
   ·cases h';simp only[Af]at hx hy;subst hx hy;simp[Op.equalIn,run_underlying hu]
  ·rename_i id off
   cases y<;>simp only[ARf]at h'<;>try (cases h';done)
   ·cases h';simp only[Af]at hx hy;obtain⟨z,_,rfl⟩:=hx;subst hy;simp[Op.equalIn,run_underlying hu]
   ·rename_i id' off'
    cases hb:Nat.beq id id' with
    |false=>rw[hb]at h';cases h'
    |true=>
     rw[hb]at h'
     have e1:id=id':=Nat.eq_of_beq_eq_true hb
     subst e1
     simp only[Af]at hx hy
     obtain⟨z,hz,rfl⟩:=hx
     obtain⟨z',hz',rfl⟩:=hy
     have ez:z=z':=Option.some.inj (hz.symm.trans hz')
     subst ez
     have hbo:Nat.beq off off'=b:=Option.some.inj h'
     simp only[Op.equalIn,Sem.run_bind,run_underlying hu,Result.andThen_ok,hsz,ne_eq,Nat.add_one_ne_zero,not_false_eq_true,if_true,sameAddr,beq_self_eq_true,Sem.run_pure]
     congr 1
     rw[<-hbo,Bool.eq_iff_iff]
     simp
  ·cases y<;>simp only[AGC]at h'<;>try (cases h';done)
   cases h';simp only[Af]at hx hy;subst hx hy;simp[Op.equalIn,run_underlying hu]
 ·cases ht
theorem Fq{q:CK->V->V->Option Bool}{k:CK}{ks:List CK}{x:V}{xs:LV}{y:V}{ys:LV}{b:Bool}:J5 q (k::ks) (x::xs) (y::ys)=some b↔∃r r',q k x y=some r/\J5 q ks xs ys=some r'/\b=(r&&r'):=by
 show GV (q k x y) (λr=>GV (J5 q ks xs ys) λr'=>some (band r r'))=some b↔_
 rw[Jw]
 constructor
 ·rintro⟨r,hr,h⟩
  rw[Jw]at h
  obtain⟨r',hr',h⟩:=h
  rw[BL]at h
  exact⟨r,r',hr,hr',(Option.some.inj h).symm⟩
 ·rintro⟨r,r',hr,hr',rfl⟩
  exact⟨r,hr,by rw[Jw];exact⟨r',hr',by rw[BL]⟩⟩
theorem Uo{q:CK->V->V->Option Bool}:∀{ks:List CK} {xs ys:LV} {b:Bool},J5 q ks xs ys=some b->xs.length=ks.length/\ys.length=ks.length
 |[],[],[],_,_=>⟨rfl,rfl⟩
 |[],[],_::_,_,h=>by cases h
 |[],_::_,_,_,h=>by cases h
 |_::_,[],_,_,h=>by cases h
 |_::_,_::_,[],_,h=>by cases h
 |k::ks,x::xs,y::ys,b,h=>by
  obtain⟨_,_,_,h2,_⟩:=Fq.1 h
  have:=Uo h2
  simp[this.1,this.2]
theorem NP{q:CK->V->V->Option Bool}:∀{ks ks':List CK} {xs ys:LV} {b:Bool},J5 q (ks++ks') xs ys=some b->
 ∃r r',J5 q ks (xs.take ks.length) (ys.take ks.length)=some r/\J5 q ks' (xs.drop ks.length) (ys.drop ks.length)=some r'/\b=(r&&r')/\ks.length<=xs.length/\ks.length<=ys.length
 |[],ks',xs,ys,b,h=>⟨true,b,rfl,h,by simp,by simp,by simp⟩
 |k::ks,ks',[],ys,b,h=>by cases h
 |k::ks,ks',x::xs,[],b,h=>by cases h
 |k::ks,ks',x::xs,y::ys,b,h=>by
  obtain⟨r,r',hr,hr',rfl⟩:=Fq.1 h
  obtain⟨r1,r2,h1,h2,rfl,h3,h4⟩:=NP hr'
  exact⟨r&&r1,r2,Fq.2 ⟨r,r1,hr,h1,rfl⟩,h2,by rw[Bool.and_assoc],by simpa using h3,by simpa using h4⟩
mutual
theorem jg{ρ:Loc}{q:CK->V->V->Option Bool}{w:World}(hq:∀{t:TypeId} {k:CK} {x y:V} {u u':Value} {b:Bool},xg P t=some k->Af ρ x u->Af ρ y u'->q k x y=some b->∀d,(Op.equalIn (d+1) t u u').run P w=.ok b w):∀(d:Nat) (t:TypeId) (ks:List CK),Vw P d t=some ks->∀(xs ys:LV) (u u':List Value) (b:Bool),BK ρ xs u->BK ρ ys u'->J5 q ks xs ys=some b->xs.length=ks.length->ys.length=ks.length->
 ∀(e:Nat),(Dp P t=some true->(Op.equalIn (d+e+1) t (.agg u.toArray) (.agg u'.toArray)).run P w=.ok b w)/\
  (Dp P t=some false->∃v v',u=[v]/\u'=[v']/\(Op.equalIn (d+e+1) t v v').run P w=.ok b w)
 |0,_,_,h=>by simp[Vw]at h
 |d+1,t,ks,h=>by
  intro xs ys u u' b hx hy hb hlx hly e
  simp only[Vw]at h
  split at h
  ·rename_i fs hu
   split at h
   ·cases h
   ·rename_i hst
    refine⟨λ_=>?_,λha=>by simp[Dp,hu]at ha⟩
    have hf:P.underlying t=some (.struct (P.fieldsOf t)):=by simp[Program.fieldsOf,hu]
    have hfs:P.fieldsOf t=fs:=by simp[Program.fieldsOf,hu]
    rw[show d+1+e+1=(d+e+1)+1 by omega,run_equalIn_struct w (d+e+1) t _ _ hf (by simpa using hst),hfs]
    exact Wv hq d fs.toList 0 ks h xs ys u u' b hx hy (by simpa using hb) (by simpa using hlx) (by simpa using hly) e
  ·rename_i hns
   cases hk:xg P t with
   |none=>rw[hk]at h;cases h
   |some k=>
    rw[hk]at h
    have hks:[k]=ks:=Option.some.inj h
    subst hks
    refine⟨λha=>?_,λ_=>?_⟩
    ·exfalso
     unfold xg at hk
     unfold Dp at ha
     split at ha<;>rename_i hu<;>rw[hu]at hk<;>first|(cases hk;done)|(cases ha;done)
    ·match xs,ys,hlx,hly with
     |[x],[y],_,_=>
      obtain⟨v,vs,rfl,hv,hr⟩:=Df.1 hx
      obtain⟨v',vs',rfl,hv',hr'⟩:=Df.1 hy
      simp only[KW]at hr hr'
      subst hr hr'
      obtain⟨r,r',h1,h2,rfl⟩:=Fq.1 hb
      have h2':some true=some r':=h2
      cases h2'
      exact⟨v,v',rfl,rfl,by rw[Bool.and_true];exact hq hk hv hv' h1 _⟩
theorem Wv{ρ:Loc}{q:CK->V->V->Option Bool}{w:World}(hq:∀{t:TypeId} {k:CK} {x y:V} {u u':Value} {b:Bool},xg P t=some k->Af ρ x u->Af ρ y u'->q k x y=some b->∀d,(Op.equalIn (d+1) t u u').run P w=.ok b w):∀(d:Nat) (fs:List Field) (off:Nat) (ks:List CK),vZ P (Vw P d) fs off=some ks->∀(xs ys:LV) (u u':List Value) (b:Bool),BK ρ xs u->BK ρ ys u'->J5 q ks (xs.drop off) (ys.drop off)=some b->
 xs.length=off+ks.length->ys.length=off+ks.length->∀(e:Nat),(Op.eqFields (d+e+1) u.toArray u'.toArray fs).run P w=.ok b w
 |d,[],off,ks,h=>by
  intro xs ys u u' b _ _ hb hlx hly e
  simp only[vZ]at h
  cases h
  have hxn:xs.drop off=[]:=by rw[List.drop_eq_nil_iff];simpa using Nat.le_of_eq hlx
  have hyn:ys.drop off=[]:=by rw[List.drop_eq_nil_iff];simpa using Nat.le_of_eq hly
  rw[hxn,hyn]at hb
  have hb':some true=some b:=hb
  cases hb'
  simp[Op.eqFields]
 |d,f::fs,off,ks,h=>by
  intro xs ys u u' b hx hy hb hlx hly e
  simp only[vZ]at h
  split at h
  ·rename_i hc
   obtain⟨hname,hoff⟩:=hc
   simp only[Option.bind_eq_some_iff]at h
   obtain⟨k1,hk1,h⟩:=h
   split at h
   ·rename_i hsz
    cases hg:vZ P (Vw P d) fs (off+k1.length)with
    |none=>rw[hg]at h;cases h
    |some k2=>
     rw[hg]at h
     have hks:k1++k2=ks:=Option.some.inj h
     subst hks
     obtain⟨r,r',h1,h2,rfl,h3,h4⟩:=NP hb
     rw[List.drop_drop]at h2
     rw[List.drop_drop]at h2
     simp only[List.length_append]at hlx hly
     have hlu:=hx.length
     have hlu':=hy.length
     have key:=jg (ρ:=ρ) hq d f.type k1 hk1 _ _ _ _ r ((hx.drop off).take k1.length) ((hy.drop off).take k1.length) h1 (by simp;omega) (by simp;omega) e
     have ih:=Wv (ρ:=ρ) hq d fs (off+k1.length) k2 hg xs ys u u' r' hx hy h2 (by omega) (by omega) e
     have hne:f.name≠ "_" :=hname
     simp only[Op.eqFields,hne,ne_eq,not_false_eq_true,if_true,Sem.run_bind]
     cases ha:Dp P f.type with
     |none=>simp[Dp]at ha;split at ha<;>simp_all;cases d<;>simp_all [Vw,xg]
     |some bb=>
      have hagg:=G8 (P:=P) ha w
      have hso:=run_sizeOf (P:=P) hsz w
      cases bb with
      |true=>
       have hrun:=key.1 ha
       have p1:(Go.part f.type u.toArray f.offset).run P w=.ok (.agg ((u.drop off).take k1.length).toArray) w:=by
        simp only[Go.part,Sem.run_bind,hagg,Result.andThen_ok,if_true,hso,Sem.run_pure,hoff]
        congr 2
        apply Array.ext'
        simp
       have p2:(Go.part f.type u'.toArray f.offset).run P w=.ok (.agg ((u'.drop off).take k1.length).toArray) w:=by
        simp only[Go.part,Sem.run_bind,hagg,Result.andThen_ok,if_true,hso,Sem.run_pure,hoff]
        congr 2
        apply Array.ext'
        simp
       rw[p1,Result.andThen_ok,p2,Result.andThen_ok,hrun,Result.andThen_ok]
       cases r with
       |true=>simpa using ih
       |false=>simp
      |false=>
       obtain⟨v,v',hv,hv',hrun⟩:=key.2 ha
       have q1:u[off]? =some v:=by
        have:((u.drop off).take k1.length)[0]? =some v:=by rw[hv];rfl
        rw[List.getElem?_take]at this
        split at this
        ·simpa using this
        ·cases this
       have q2:u'[off]? =some v':=by
        have:((u'.drop off).take k1.length)[0]? =some v':=by rw[hv'];rfl
        rw[List.getElem?_take]at this
        split at this
        ·simpa using this
        ·cases this
       have p1:(Go.part f.type u.toArray f.offset).run P w=.ok v w:=by
        simp[Go.part,Sem.run_bind,hagg,Result.andThen_ok,hoff,q1]
       have p2:(Go.part f.type u'.toArray f.offset).run P w=.ok v' w:=by
        simp[Go.part,Sem.run_bind,hagg,Result.andThen_ok,hoff,q2]
       rw[p1,Result.andThen_ok,p2,Result.andThen_ok,hrun,Result.andThen_ok]
       cases r with
       |true=>simpa using ih
       |false=>simp
   ·cases h
  ·cases h
end
def I7:Value->Bool
 |.bool _|.slice _ _ _|.map _|.nilFunc|.func _ _ _|.pointer _=>true
 |_=>false
theorem J8{u u':Value}(hv:I7 u=true){t:TypeId}{b:Bool}{w:World}(hrun:(Op.equalIn (9999+1) t u u').run P w=.ok b w)(o:BinOp)(ho:o=.eql∨o=.neq)(X Y:Operand):
 ((do eqGuard o t X Y u u';binOp o t u u'):Sem Value).run P w=.ok (.bool (if o=.neq then !b else b)) w:=by
 have hg:eqGuard o t X Y u u'=pure ():=by
  cases u<;>simp only[I7,Bool.false_eq_true]at hv
  ·exact eqGuard_at_bool _ _ _ _ _ _
  ·exact eqGuard_at_pointer _ _ _ _ _ _
  ·exact eqGuard_at_slice _ _ _ _ _ _ _ _
  ·exact eqGuard_at_map _ _ _ _ _ _
  ·exact eqGuard_at_func _ _ _ _ _ _ _ _
  ·exact eqGuard_at_nilFunc _ _ _ _ _
 have he:(Op.equal t u u').run P w=.ok b w:=hrun
 rcases ho with rfl|rfl
 ·have hb:binOp .eql t u u'=(do let r<-Op.equal t u u';pure (.bool r)):=by
   cases u<;>simp only[I7,Bool.false_eq_true]at hv<;>first|rfl|(cases u'<;>rfl)
  simp only[hg,hb,Sem.run_bind,Sem.run_pure,Result.andThen_ok,he]
  simp
 ·have hb:binOp .neq t u u'=(do let r<-Op.equal t u u';pure (.bool !r)):=by
   cases u<;>simp only[I7,Bool.false_eq_true]at hv<;>first|rfl|(cases u'<;>rfl)
  simp only[hg,hb,Sem.run_bind,Sem.run_pure,Result.andThen_ok,he]
  simp
theorem Ad4{ρ:Loc}{t e:TypeId}(hu:P.underlying t=some (.slice e)){x y:V}{u u':Value}(hx:Af ρ x u)(hy:Af ρ y u'){b:Bool}(h:kSl x y=some b)(d:Nat)(w:World):
 I7 u=true/\(Op.equalIn (d+1) t u u').run P w=.ok b w:=by
 have hsome:∀v,Ho v=some false->Af ρ v u'->u'=.slice none 0 0:=by
  intro v h h'
  cases v<;>simp only[Ho]at h<;>first|(cases h;done)|skip
  exact h'
 have h2:∀p n c,u=.slice (some p) n c->u'=.slice none 0 0->b=false->I7 u=true/\(Op.equalIn (d+1) t u u').run P w=.ok b w:=by
  rintro p n c rfl rfl rfl
  exact⟨rfl,by simp[Op.equalIn,run_underlying hu]⟩
 have h0:∀v,Ho v=some b->b=false:=by
  intro v hv
  cases v<;>simp only[Ho]at hv<;>first|(cases hv;done)|skip
  exact(Option.some.inj hv).symm
 cases x<;>simp only[kSl]at h<;>try (cases h;done)
 ·simp only[Af]at hx
  subst hx
  refine⟨rfl,?_⟩
  have h3:∃q n c,u'=.slice q n c/\b=q.isNone:=by
   cases y<;>simp only[zu]at h<;>try (cases h;done)
   ·exact⟨_,_,_,hy,(Option.some.inj h).symm⟩
   ·simp only[Af]at hy;obtain⟨_,a,_,hy,_⟩:=hy;exact⟨some a,_,_,hy,(Option.some.inj h).symm⟩
   ·simp only[Af]at hy;obtain⟨_,a,_,_,hy,_⟩:=hy;exact⟨some a,_,_,hy,(Option.some.inj h).symm⟩
   ·simp only[Af]at hy;obtain⟨a,hy,_⟩:=hy;exact⟨some a,_,_,hy,(Option.some.inj h).symm⟩
  obtain⟨q,n,c,rfl,rfl⟩:=h3
  simp[Op.equalIn,run_underlying hu]
 ·have hb:=h0 _ h
  subst hb
  simp only[Af]at hx
  obtain⟨_,a,_,hx,_⟩:=hx
  exact h2 _ _ _ hx (hsome _ h hy) rfl
 ·have hb:=h0 _ h
  subst hb
  simp only[Af]at hx
  obtain⟨_,a,_,_,hx,_⟩:=hx
  exact h2 _ _ _ hx (hsome _ h hy) rfl
 ·have hb:=h0 _ h
  subst hb
  simp only[Af]at hx
  obtain⟨a,hx,_⟩:=hx
  exact h2 _ _ _ hx (hsome _ h hy) rfl
theorem Ab4{ρ:Loc}{t:TypeId}{ps rs:Array TypeId}{vr:Bool}(hu:P.underlying t=some (.func ps rs vr)){x y:V}{u u':Value}(hx:Af ρ x u)(hy:Af ρ y u'){b:Bool}(h:kFn x y=some b)(d:Nat)(w:World):
 I7 u=true/\(Op.equalIn (d+1) t u u').run P w=.ok b w:=by
 cases x<;>simp only[kFn]at h<;>try (cases h;done)
 ·simp only[Af]at hx
  subst hx
  cases y<;>simp only[ADC]at h<;>try (cases h;done)
  ·cases h;simp only[Af]at hy;subst hy;exact⟨rfl,by simp[Op.equalIn,run_underlying hu]⟩
  ·cases h;simp only[Af]at hy;obtain⟨_,_,rfl,_⟩:=hy;exact⟨rfl,by simp[Op.equalIn,run_underlying hu]⟩
 ·simp only[Af]at hx
  obtain⟨_,_,rfl,_⟩:=hx
  cases y<;>simp only[mJ]at h<;>try (cases h;done)
  cases h;simp only[Af]at hy;subst hy;exact⟨rfl,by simp[Op.equalIn,run_underlying hu]⟩
theorem map_eq{ρ:Loc}{t kt et:TypeId}(hu:P.underlying t=some (.map kt et)){x y:V}{u u':Value}(hx:Af ρ x u)(hy:Af ρ y u'){b:Bool}(h:AU3 x y=some b)(d:Nat)(w:World):
 I7 u=true/\(Op.equalIn (d+1) t u u').run P w=.ok b w:=by
 cases x<;>simp only[AU3]at h<;>try (cases h;done)
 ·simp only[Af]at hx
  subst hx
  cases y<;>simp only[ACo]at h<;>try (cases h;done)
  ·cases h;simp only[Af]at hy;subst hy;exact⟨rfl,by simp[Op.equalIn,run_underlying hu]⟩
  ·cases h;simp only[Af]at hy;obtain⟨_,_,rfl⟩:=hy;exact⟨rfl,by simp[Op.equalIn,run_underlying hu]⟩
 ·simp only[Af]at hx
  obtain⟨_,_,rfl⟩:=hx
  cases y<;>simp only[oK]at h<;>try (cases h;done)
  cases h;simp only[Af]at hy;subst hy;exact⟨rfl,by simp[Op.equalIn,run_underlying hu]⟩
theorem ADd{ρ:Loc}{x y:V}{u:Value}(hx:Af ρ x u){b:Bool}(h:Nv x y=some b):I7 u=true:=by
 cases x<;>simp only[Nv]at h<;>try (cases h;done)
 simp only[Af]at hx;subst hx;rfl
theorem ANi{ρ:Loc}{x y:V}{u:Value}(hx:Af ρ x u){b:Bool}(h:Yo x y=some b):I7 u=true:=by
 cases x<;>simp only[Yo]at h<;>try (cases h;done)
 ·simp only[Af]at hx;subst hx;rfl
 ·simp only[Af]at hx;obtain⟨_,_,rfl⟩:=hx;rfl
 ·simp only[Af]at hx;subst hx;rfl
theorem APh{ρ:Loc}{t:TypeId}{k:EK}(ht:ekT P t=some k){x y:V}{u u':Value}(hx:Af ρ x u)(hy:Af ρ y u'){b:Bool}(h:k.eq x y=some b)(o:BinOp)(ho:o=.eql∨o=.neq)(X Y:Operand)(w:World):
 ((do eqGuard o t X Y u u';binOp o t u u'):Sem Value).run P w=.ok (.bool (if o=.neq then !b else b)) w:=by
 unfold ekT at ht
 split at ht
 ·rename_i fs hu
  split at ht
  ·cases ht
  ·rename_i hgd
   cases hk:Vw P 50 t with
   |none=>rw[hk]at ht;cases ht
   |some ks=>
    rw[hk]at ht
    have hks:EK.agg ks=k:=Option.some.inj ht
    subst hks
    have h':AWu x ks y=some b:=h
    cases x<;>simp only[AWu]at h'<;>try (cases h';done)
    cases y<;>simp only[AQ4]at h'<;>try (cases h';done)
    rename_i xs ys
    simp only[Af]at hx hy
    obtain⟨a,rfl,hra,_⟩:=hx
    obtain⟨a',rfl,hra',_⟩:=hy
    have h':J5 CK.eq ks xs ys=some b:=h'
    have hlen:=Uo h'
    have hrun:=(jg (P:=P) (q:=CK.eq) (w:=w) (λht hx hy h d=>MO ht hx hy h d w) 50 t ks hk xs ys _ _ b hra hra' h' hlen.1 hlen.2 9949).1 (by simp[Dp,hu])
    simp only[Array.toArray_toList]at hrun
    have hg:=run_eqGuard_agg (P:=P) w o t X Y a a' (by simpa using hgd)
    rcases ho with rfl|rfl
    ·simp only[Sem.run_bind,hg,Result.andThen_ok,run_eql_struct]
     rw[hrun];simp
    ·simp only[Sem.run_bind,hg,Result.andThen_ok,run_neq_struct]
     rw[hrun];simp
 ·rename_i e hu
  cases ht
  obtain⟨hv,hrun⟩:=Ad4 hu hx hy h 9999 w
  exact J8 hv hrun o ho X Y
 ·rename_i hu
  cases ht
  obtain⟨hv,hrun⟩:=Ab4 hu hx hy h 9999 w
  exact J8 hv hrun o ho X Y
 ·rename_i hu
  cases ht
  obtain⟨hv,hrun⟩:=map_eq hu hx hy h 9999 w
  exact J8 hv hrun o ho X Y
 ·cases hk:xg P t with
  |none=>rw[hk]at ht;cases ht
  |some c=>
   rw[hk]at ht
   have hks:EK.one c=k:=Option.some.inj ht
   subst hks
   have h':c.eq x y=some b:=h
   have hrun:=MO (P:=P) hk hx hy h' 9999 w
   cases c with
   |int=>
    have h2:eX x y=some b:=h'
    cases x<;>simp only[eX]at h2<;>try (cases h2;done)
    obtain⟨m,s',rfl,rfl⟩:=JV h2
    simp only[Af]at hx hy
    subst hx hy
    rcases ho with rfl|rfl
    ·simp only[eqGuard_at_int,binOp_eql,Sem.run_bind,Sem.run_pure,Result.andThen_ok];simp
    ·simp only[eqGuard_at_int,binOp_neq,Sem.run_bind,Sem.run_pure,Result.andThen_ok,bne];simp
   |str=>
    have h2:iG x y=some b:=h'
    cases x<;>simp only[iG]at h2<;>try (cases h2;done)
    cases y<;>simp only[eqStr]at h2<;>try (cases h2;done)
    obtain⟨s1,rfl,rfl,rfl⟩:=DY hx
    obtain⟨s2,rfl,rfl,rfl⟩:=DY hy
    simp only[BL]at h2
    have e2:(s1.data.toList==s2.data.toList)=b:=by rw[YV];exact Option.some.inj h2
    rcases ho with rfl|rfl
    ·simp only[eqGuard_at_string,binOp_string_eql,ByteArray.toList_eq,e2,Sem.run_bind,Sem.run_pure,Result.andThen_ok];simp
    ·simp only[eqGuard_at_string,binOp_string_neq,ByteArray.toList_eq,e2,Sem.run_bind,Sem.run_pure,Result.andThen_ok];simp
   |bool=>exact J8 (ADd hx h') hrun o ho X Y
   |ptr=>exact J8 (ANi hx h') hrun o ho X Y
theorem Ux{H:Heap}{id:Nat}(h:F9 H id=true):∃esz cnt c,T.get H id=some (.arr esz cnt c)/\esz≠1:=by
 unfold F9 at h
 cases hb:T.get H id with
 |none=>rw[hb]at h;cases h
 |some b=>
  rw[hb]at h
  cases b with
  |arr esz cnt c=>
   refine⟨esz,cnt,c,rfl,λe=>?_⟩
   subst e
   cases h
  |map=>cases h
  |dead=>cases h
  |G9=>cases h
  |own=>cases h
theorem kX{ok:Nat->Bool}{x y:V}{b:Bool}(h:UH ok x y=some b):Yo x y=some b∨∃i o j o',x=.ptr i o/\y=.ptr j o'/\i≠j/\ok i=true/\ok j=true/\b=false:=by
 unfold UH at h
 cases hk:Yo x y with
 |some c=>rw[hk]at h;exact .inl h
 |none=>
  rw[hk]at h
  right
  have h:qI ok x y=some b:=h
  unfold qI at h
  cases x with
  |ptr i o=>
   cases y with
   |ptr j o'=>
    have h:Bool.rec (motive:=λ_=>Option Bool) none (some false) (band (Ef (Nat.beq i j)) (band (ok i) (ok j)))=some b:=h
    cases hc:band (Ef (Nat.beq i j)) (band (ok i) (ok j))with
    |false=>rw[hc]at h;cases h
    |true=>
     rw[hc]at h
     cases h
     simp only[BL,Bool.and_eq_true]at hc
     refine⟨i,o,j,o',rfl,rfl,λe=>?_,hc.2.1,hc.2.2,rfl⟩
     subst e
     have:=hc.1
     rw[Nat.beq_refl]at this
     cases this
   |_=>cases h
  |_=>cases h
theorem AL5{w0:World}{ρ:Loc}{H:Heap}{n:Nat}{w:World}(hh:Bd w0 ρ H n w){t:TypeId}{ks:List CK}(ht:ekT P t=some (.agg ks)){x y:V}{u u':Value}(hx:Af ρ x u)(hy:Af ρ y u'){b:Bool}(h:KL (F9 H) ks x y=some b)(o:BinOp)(ho:o=.eql∨o=.neq)(X Y:Operand):
 ((do eqGuard o t X Y u u';binOp o t u u'):Sem Value).run P w=.ok (.bool (if o=.neq then !b else b)) w:=by
 have hq:∀{t:TypeId} {k:CK} {x y:V} {u u':Value} {b:Bool},xg P t=some k->Af ρ x u->Af ρ y u'->CK.eqH (F9 H) k x y=some b->∀d,(Op.equalIn (d+1) t u u').run P w=.ok b w:=by
  intro t k x y u u' b ht hx hy h d
  cases k with
  |int=>exact MO ht hx hy (show CK.eq .int x y=some b from h) d w
  |str=>exact MO ht hx hy (show CK.eq .str x y=some b from h) d w
  |bool=>exact MO ht hx hy (show CK.eq .bool x y=some b from h) d w
  |ptr=>
   rcases kX (show UH (F9 H) x y=some b from h)with h|⟨i,o,j,o',rfl,rfl,hne,hi,hj,rfl⟩
   ·exact MO ht hx hy (show CK.eq .ptr x y=some b from h) d w
   ·simp only[Af]at hx hy
    obtain⟨z,hz,rfl⟩:=hx
    obtain⟨z',hz',rfl⟩:=hy
    obtain⟨e1,c1,s1,g1,n1⟩:=Ux hi
    obtain⟨e2,c2,s2,g2,n2⟩:=Ux hj
    obtain⟨vs1,t1,f1,a1⟩:=hh.arr _ _ _ _ _ hz g1
    obtain⟨vs2,t2,f2,a2⟩:=hh.arr _ _ _ _ _ hz' g2
    have q1:=a1.sh.resolve_left n1
    have q2:=a2.sh.resolve_left n2
    subst q1;subst q2
    have hb:z.b≠z'.b:=λe=>hne (hh.inj _ _ _ _ hz hz' ⟨_,g1,by simp⟩ ⟨_,g2,by simp⟩ e)
    unfold xg at ht
    split at ht<;>try (cases ht;done)
    rename_i e hu
    split at ht<;>cases ht
    rename_i m hm
    have hsz:=run_sizeOf (P:=P) hm w
    simp only[Op.equalIn,Sem.run_bind,run_underlying hu,Result.andThen_ok,hsz,ne_eq,Nat.add_one_ne_zero,not_false_eq_true,if_true]
    exact run_sameAddr_other w (λe=>hb (congrArg Addr.block e)) a1.heap a2.heap
 unfold ekT at ht
 split at ht
 ·rename_i fs hu
  split at ht
  ·cases ht
  ·rename_i hgd
   cases hk:Vw P 50 t with
   |none=>rw[hk]at ht;cases ht
   |some ks'=>
    rw[hk]at ht
    have hks:ks'=ks:=by
     have e:EK.agg ks'=EK.agg ks:=Option.some.inj ht
     cases e;rfl
    subst hks
    cases x<;>try (cases h;done)
    cases y<;>try (cases h;done)
    rename_i xs ys
    have h':J5 (CK.eqH (F9 H)) ks' xs ys=some b:=h
    simp only[Af]at hx hy
    obtain⟨a,rfl,hra,_⟩:=hx
    obtain⟨a',rfl,hra',_⟩:=hy
    have hlen:=Uo h'
    have hrun:=(jg (P:=P) (q:=CK.eqH (F9 H)) (w:=w) hq 50 t ks' hk xs ys _ _ b hra hra' h' hlen.1 hlen.2 9949).1 (by simp[Dp,hu])
    simp only[Array.toArray_toList]at hrun
    have hg:=run_eqGuard_agg (P:=P) w o t X Y a a' (by simpa using hgd)
    rcases ho with rfl|rfl
    ·simp only[Sem.run_bind,hg,Result.andThen_ok,run_eql_struct]
     rw[hrun];simp
    ·simp only[Sem.run_bind,hg,Result.andThen_ok,run_neq_struct]
     rw[hrun];simp
 ·cases ht
 ·cases ht
 ·cases ht
 ·cases hk:xg P t with
  |none=>rw[hk]at ht;cases ht
  |some c=>rw[hk]at ht;cases ht
end Go.Eng
