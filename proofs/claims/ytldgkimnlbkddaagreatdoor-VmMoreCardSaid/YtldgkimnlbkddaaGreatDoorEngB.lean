/- Part of a proof; nothing is assumed. -/
import Derived.Test.YtldgkimnlbkddaaGreatDoorEngA
import Derived.IntWalk
import Derived.Laws.Strings
import Derived.Laws.Small
import Derived.Laws.Cells
import Derived.Laws.NewBlocks
import Derived.Laws.Tables
import Derived.Laws.CopyRow
import Derived.Lib.Builder
import Derived.Lib.UnsafeStr
import Derived.Laws.StructEq
import Derived.Laws.Pointers
import Derived.Laws.Slices
import Derived.Laws.Concat
import Derived.Laws.BytesString
import Derived.Laws.Externs
import Derived.LaidEql
set_option linter.unusedVariables false
set_option linter.unusedSimpArgs false
namespace Go.Bf
def P2.key:P2->Nat|.h=>0|.z p=>2*p.key+1|.o p=>2*p.key+2
section
variable{α:Type}
@[simp] theorem T.AiC:(T.e:T α).val=none:=rfl
@[simp] theorem T.Aht:(T.e:T α).left=.e:=rfl
@[simp] theorem T.AgN:(T.e:T α).right=.e:=rfl
@[simp] theorem T.AiW(v:Option α)(l r:T α):(T.n v l r).val=v:=rfl
@[simp] theorem T.ATN(v:Option α)(l r:T α):(T.n v l r).left=l:=rfl
@[simp] theorem T.ANn(v:Option α)(l r:T α):(T.n v l r).right=r:=rfl
theorem T.AXs(t:T α):T.Du .h t=t.val:=rfl
theorem T.mD(p:P2)(t:T α):T.Du (.z p) t=T.Du p t.left:=rfl
theorem T.lG(p:P2)(t:T α):T.Du (.o p) t=T.Du p t.right:=rfl
theorem T.AX2(x:α)(t:T α):T.iP x .h t=.n (some x) t.left t.right:=rfl
theorem T.ATJ(x:α)(p:P2)(t:T α):T.iP x (.z p) t=.n t.val (T.iP x p t.left) t.right:=rfl
theorem T.ASq(x:α)(p:P2)(t:T α):T.iP x (.o p) t=.n t.val t.left (T.iP x p t.right):=rfl
@[simp] theorem T.AKk:∀(p:P2),T.Du p (T.e:T α)=none
 |.h=>rfl
 |.z p=>by rw[T.mD];exact T.AKk p
 |.o p=>by rw[T.lG];exact T.AKk p
@[simp] theorem T.VY(x:α):∀(p:P2) (t:T α),T.Du p (T.iP x p t)=some x
 |.h,t=>rfl
 |.z p,t=>by rw[T.ATJ,T.mD];exact T.VY x p _
 |.o p,t=>by rw[T.ASq,T.lG];exact T.VY x p _
theorem T.JV(x:α):∀(p q:P2) (t:T α),p≠q->T.Du q (T.iP x p t)=T.Du q t
 |.h,.h,_,h=>absurd rfl h
 |.h,.z q,t,_=>by rw[T.AX2,T.mD,T.mD,T.ATN]
 |.h,.o q,t,_=>by rw[T.AX2,T.lG,T.lG,T.ANn]
 |.z p,.h,t,_=>rfl
 |.o p,.h,t,_=>rfl
 |.z p,.z q,t,h=>by rw[T.ATJ,T.mD,T.mD,T.ATN];exact T.JV x p q _ (λe=>h (by rw[e]))
 |.o p,.o q,t,h=>by rw[T.ASq,T.lG,T.lG,T.ANn];exact T.JV x p q _ (λe=>h (by rw[e]))
 |.z p,.o q,t,_=>by rw[T.ATJ,T.lG,T.lG,T.ANn]
 |.o p,.z q,t,_=>by rw[T.ASq,T.mD,T.mD,T.ATN]
end
theorem AWG:∀(f k:Nat),k<f->(AVX f k).key=k:=by
 intro f
 induction f with
 |zero=>intro k h;omega
 |succ f i=>
  intro k h
  cases k with
  |zero=>rfl
  |succ m=>
   have p:m/2<f:=by omega
   have d:=i (m/2) p
   show(Bool.rec (P2.o (AVX f (Nat.div m 2))) (P2.z (AVX f (Nat.div m 2))) (Nat.beq (Nat.mod m 2) 0):P2).key=m+1
   have hd:Nat.div m 2=m/2:=rfl
   have g:Nat.mod m 2=m%2:=rfl
   rw[hd,g]
   rcases Nat.mod_two_eq_zero_or_one m with e|e
   ·rw[e];show(P2.z (AVX f (m/2))).key=m+1;simp only[P2.key,d];omega
   ·rw[e];show(P2.o (AVX f (m/2))).key=m+1;simp only[P2.key,d];omega
@[simp] theorem AJL(k:Nat):(PK k).key=k:=AWG _ _ (Nat.lt_succ_self k)
theorem jY{j k:Nat}(h:PK j=PK k):j=k:=by rw[<-AJL j,h,AJL]
section
variable{α:Type}
@[simp] theorem T.AfJ(k:Nat):T.get (T.e:T α) k=none:=T.AKk _
@[simp] theorem T.Ag(t:T α)(k:Nat)(x:α):T.get (T.set t k x) k=some x:=T.VY _ _ _
theorem T.Ac(t:T α){k j:Nat}(x:α)(h:k≠j):T.get (T.set t k x) j=T.get t j:=T.JV _ _ _ _ λe=>h (jY e)
theorem T.Qx(t:T α)(k j:Nat)(x:α):T.get (T.set t k x) j=if k=j then some x else T.get t j:=by
 by_cases h:k=j
 ·subst h;simp
 ·simp[h,T.Ac t x h]
end
section
variable{α:Type}
@[simp] theorem len_eq(l:List α):len l=l.length:=by induction l with|nil=>rfl|cons x l ih=>show Nat.succ (len l)=_;rw[ih];rfl
@[simp] theorem AOk(a b:List α):cat a b=a++b:=by induction a with|nil=>rfl|cons x l ih=>show x::cat l b=_;rw[ih];rfl
@[simp] theorem AAT:∀(l:List α) (i:Nat),nth l i=l[i]?
 |[],_=>by simp[nth]
 |_::_,0=>rfl
 |x::l,i+1=>by show nth l i=_;rw[AAT l i];simp
@[simp] theorem AM3(x:α):∀(l:List α) (i:Nat),rE x l i=l.set i x
 |[],_=>by simp[rE]
 |_::_,0=>rfl
 |y::l,i+1=>by show y::rE x l i=_;rw[AM3 x l i];rfl
@[simp] theorem gQ:∀(n:Nat) (l:List α),aK n l=l.take n
 |0,_=>rfl
 |_+1,[]=>rfl
 |n+1,x::l=>by show x::aK n l=_;rw[gQ n l];rfl
@[simp] theorem yN:∀(n:Nat) (l:List α),AAS n l=l.drop n
 |0,_=>rfl
 |_+1,[]=>rfl
 |n+1,x::l=>by show AAS n l=_;rw[yN n l];rfl
@[simp] theorem AMb:∀(l:List α) (i:Nat),AK7 l i=l.eraseIdx i
 |[],_=>by simp[AK7]
 |_::_,0=>rfl
 |y::l,i+1=>by show y::AK7 l i=_;rw[AMb l i];rfl
end
@[simp] theorem AOq:∀(l:List V) (i:Nat),AWj l i=(l[i]?).getD .undef
 |[],_=>by simp[AWj]
 |_::_,0=>rfl
 |x::l,i+1=>by show AWj l i=_;rw[AOq l i];simp
@[simp] theorem AJN(new:LV)(i:Nat)(l:LV):AP4 new i l=l.take i++(new++l.drop (i+new.length)):=by
 show cat (aK i l) (cat new (AAS (Nat.add i (len new)) l))=_
 simp
@[simp] theorem AgI(l:List X)(R:RS):nH l R=l.map (·.ev R):=by induction l with|nil=>rfl|cons x l ih=>show x.ev R::nH l R=_;rw[ih];rfl
@[simp] theorem ABE(b:Bool):Qq b= !b:=by cases b<;>rfl
@[simp] theorem BK(a b:Bool):band a b=(a&&b):=by cases a<;>cases b<;>rfl
@[simp] theorem AOo(a b:Bool):AYg a b=(a==b):=by cases a<;>cases b<;>rfl
@[simp] theorem TR(b:Bool):mkB b=some (.bool b):=by cases b<;>rfl
theorem BJ{b:Bool}{o:Option V}{v:V}:BI b o=some v↔b=true/\o=some v:=by cases b<;>simp[BI]
@[simp] theorem jE(b:Bool)(x y:Option V):AHm b x y=if b then x else y:=by cases b<;>rfl
@[simp] theorem FM(b:Bool)(p:Prop):Ji b p↔b=true/\p:=by cases b<;>simp[Ji]
theorem JR{α:Type}(o:Option α)(f:α->Prop):Gu o f↔∃x,o=some x/\f x:=by cases o<;>simp[Gu]
theorem AJd(o:Option V)(f:V->Prop):AL o f↔∃x,o=some x/\f x:=by cases o<;>simp[AL]
theorem YJ{o:Option LV}{f:LV->Option V}{v:V}:Va o f=some v↔∃x,o=some x/\f x=some v:=by cases o<;>simp[Va]
theorem BX{α d:Type}{o:Option α}{f:α->Option d}{v:d}:BO o f=some v↔∃x,o=some x/\f x=some v:=by cases o<;>simp[BO]
theorem AEr{o:Option Bool}{f:Bool->Option Bool}{v:Bool}:Ld o f=some v↔∃x,o=some x/\f x=some v:=by cases o<;>simp[Ld]
@[simp] theorem AeD(v:V):Ls (some v)=v:=rfl
@[simp] theorem AU2:Ls none=.undef:=rfl
@[simp] theorem eF(n:Int)(f:Int->Option V):YQ n f=f n:=by
 cases n with
 |ofNat m=>cases m<;>rfl
 |negSucc m=>cases m<;>rfl
@[simp] theorem Bv(n:Nat)(f:Nat->Option V):Dx n f=f n:=by cases n<;>rfl
@[simp] theorem BL(n:Nat)(f:Nat->Prop):DT n f=f n:=by cases n<;>rfl
theorem beq_iff{a b:Nat}:Nat.beq a b=true↔a=b:=by simp
theorem AYA{k:IntKind}{n:Int}(h:inr k n=true):k.min<=n/\n<=k.max:=by
 cases n with
 |ofNat m=>cases k<;>(simp[inr,AfD,Nat.blt_eq]at h;simp[IntKind.min,IntKind.max,IntKind.signed,IntKind.bits];omega)
 |negSucc m=>cases k<;>(simp[inr,AeT,Nat.blt_eq]at h;try (simp[IntKind.min,IntKind.max,IntKind.signed,IntKind.bits];omega))
theorem UM(k:IntKind)(n:Int):Z7 k n=k.wrap n:=by
 unfold Z7
 cases h:inr k n with
 |false=>rfl
 |true=>
  have d:=AYA h
  show n=k.wrap n
  cases k<;>simp[IntKind.min,IntKind.max,IntKind.signed,IntKind.bits]at d
  ·exact(IntWalk.i8_in n ⟨by omega,by omega⟩).symm
  ·exact(IntWalk.i16_in n ⟨by omega,by omega⟩).symm
  ·exact(IntWalk.i32_in n ⟨by omega,by omega⟩).symm
  ·exact(IntWalk.i64_in n ⟨by omega,by omega⟩).symm
  ·exact(IntWalk.u8_in n ⟨by omega,by omega⟩).symm
  ·exact(IntWalk.u16_in n ⟨by omega,by omega⟩).symm
  ·exact(IntWalk.u32_in n ⟨by omega,by omega⟩).symm
  ·exact(IntWalk.u64_in n ⟨by omega,by omega⟩).symm
@[simp] theorem AQR(k:IntKind)(n:Int):mkI k n 0=some (.int k (k.wrap n) 0):=by
 show Acv k n=_
 simp[Acv,UM]
theorem Ac8(k:IntKind)(n:Int)(s:Nat):∃s',mkI k n s=some (.int k (k.wrap n) s')/\s'<=1:=by
 cases s with
 |zero=>exact⟨0,AQR k n,by omega⟩
 |succ s=>exact⟨1,rfl,by omega⟩
@[simp] theorem jv(a b:Int):AHI a b=a+b:=by
 cases a<;>cases b<;>simp[AHI,AbF,Abq]
 ·rfl
 ·rfl
 ·rfl
@[simp] theorem AD8(a b:Int):ile a b=decide (a<=b):=by
 cases a with
 |ofNat m=>cases b with
  |ofNat n=>show Nat.ble m n=_;rw[Bool.eq_iff_iff];simp
  |negSucc n=>show false=_;symm;simp;omega
 |negSucc m=>cases b with
  |ofNat n=>show true=_;symm;simp;omega
  |negSucc n=>show Nat.ble n m=_;rw[Bool.eq_iff_iff];simp;omega
@[simp] theorem ZX(a b:Int):ilt a b=decide (a<b):=by
 cases a with
 |ofNat m=>cases b with
  |ofNat n=>show Nat.blt m n=_;rw[Bool.eq_iff_iff];simp[Nat.blt_eq]
  |negSucc n=>show false=_;symm;simp;omega
 |negSucc m=>cases b with
  |ofNat n=>show true=_;symm;simp;omega
  |negSucc n=>show Nat.blt n m=_;rw[Bool.eq_iff_iff];simp[Nat.blt_eq];omega
@[simp] theorem U4(a b:Int):ieq a b=(a==b):=by
 cases a with
 |ofNat m=>cases b with
  |ofNat n=>show Nat.beq m n=_;rw[Bool.eq_iff_iff];simp;omega
  |negSucc n=>show false=_;symm;simp
 |negSucc m=>cases b with
  |ofNat n=>show false=_;symm;simp
  |negSucc n=>show Nat.beq n m=_;rw[Bool.eq_iff_iff];simp;omega
theorem AZ3{a b:IntKind}(h:kno a=kno b):a=b:=by cases a<;>cases b<;>first|rfl|(simp[kno]at h)
@[simp] theorem OJ(a b:IntKind):keq a b=true↔a=b:=⟨λh=>AZ3 (by simpa[keq]using h),λh=>by subst h;simp[keq]⟩
def enc:List UInt8->Nat
 |[]=>0
 |b::l=>b.toNat+256*enc l
theorem ALm:∀(a b:List UInt8),enc (a++b)=enc a+256^a.length*enc b
 |[],b=>by simp[enc]
 |x::a,b=>by
  simp only[List.cons_append,enc,ALm a b,List.length_cons,Nat.pow_succ,Nat.mul_add]
  rw[Nat.mul_comm (256^a.length) 256,Nat.mul_assoc];omega
theorem AKd:∀(n:Nat) (l:List UInt8),enc (l.drop n)=enc l/256^n
 |0,l=>by simp
 |n+1,[]=>by simp[enc]
 |n+1,b::l=>by
  have d:b.toNat<256:=b.toNat_lt
  rw[List.drop_succ_cons,AKd n l,enc,Nat.pow_succ',<-Nat.div_div_eq_div_mul]
  congr 1;omega
theorem APv:∀(n:Nat) (l:List UInt8),enc (l.take n)=enc l%256^n
 |0,l=>by simp[enc,Nat.mod_one]
 |n+1,[]=>by simp[enc]
 |n+1,b::l=>by
  have g:b.toNat<256:=b.toNat_lt
  rw[List.take_succ_cons,enc,APv n l,enc,Nat.pow_succ',Nat.mod_mul]
  have d:(b.toNat+256*enc l)%256=b.toNat:=by omega
  have f:(b.toNat+256*enc l)/256=enc l:=by omega
  rw[d,f]
theorem ATw:∀(a b:List UInt8),a.length=b.length->enc a=enc b->a=b
 |[],[],_,_=>rfl
 |[],_::_,h,_=>by simp at h
 |_::_,[],h,_=>by simp at h
 |x::a,y::b,h,d=>by
  have i:x.toNat<256:=x.toNat_lt
  have k:y.toNat<256:=y.toNat_lt
  simp only[enc]at d
  have f:x.toNat=y.toNat:=by omega
  have g:enc a=enc b:=by omega
  rw[ATw a b (by simpa using h) g,UInt8.toNat_inj.1 f]
theorem AYG(l:List UInt8)(i:Nat)(h:i<l.length):AYf (enc l) i=(l[i]).toNat:=by
 show enc l/256^i%256=_
 rw[<-AKd,List.drop_eq_getElem_cons h,enc]
 have d:(l[i]).toNat<256:=(l[i]).toNat_lt
 omega
theorem AW5(l:List UInt8)(a b:Nat):Afo (enc l) a b=enc ((l.drop a).take (b-a)):=by
 show enc l/256^a%256^(b-a)=_
 rw[APv,AKd]
theorem AYr(a b:List UInt8):Ae5 a.length (enc a) (enc b)=enc (a++b):=by
 show enc a+256^a.length*enc b=_
 rw[ALm]
theorem AbY:∀(b a:List UInt8) (f:Nat),b.length<f->AI3 f a.length (enc a) b.length (enc b)=Op.bytesLess a b
 |[],a,f+1,_=>by cases a<;>rfl
 |y::b,[],f+1,_=>rfl
 |y::b,x::a,f+1,h=>by
  have w:x.toNat<256:=x.toNat_lt
  have A:y.toNat<256:=y.toNat_lt
  have i:=AbY b a f (by simpa using h)
  show(Bool.rec (Nat.blt (enc (x::a)%256) (enc (y::b)%256)) (AI3 f a.length (enc (x::a)/256) b.length (enc (y::b)/256)) (Nat.beq (enc (x::a)%256) (enc (y::b)%256)):Bool)=_
  have k:enc (x::a)%256=x.toNat:=by simp only[enc];omega
  have m:enc (x::a)/256=enc a:=by simp only[enc];omega
  have p:enc (y::b)%256=y.toNat:=by simp only[enc];omega
  have q:enc (y::b)/256=enc b:=by simp only[enc];omega
  rw[k,m,p,q,i]
  simp only[Op.bytesLess]
  by_cases d:x=y
  ·subst d;simp
  ·have g:x.toNat≠y.toNat:=λe=>d (UInt8.toNat_inj.1 e)
   have u:Nat.beq x.toNat y.toNat=false:=by cases v:Nat.beq x.toNat y.toNat with|false=>rfl|true=>exact absurd (Nat.eq_of_beq_eq_true v) g
   rw[u]
   show Nat.blt x.toNat y.toNat=_
   rw[Bool.eq_iff_iff]
   simp[Nat.blt_eq,d,UInt8.lt_iff_toNat_lt]
theorem AFs(a b:List UInt8):slt a.length (enc a) b.length (enc b)=Op.bytesLess a b:=AbY b a _ (Nat.lt_succ_self _)
structure Info where
 b:Nat
 base:Nat
 size:Nat
abbrev Loc:=Nat->Option Info
mutual
def Aa(ρ:Loc):V->Value->Prop
 |.undef,_=>True
 |.int k n _,v=>v=.int k n
 |.bool b,v=>v=.bool b
 |.str l c,v=>∃s:ByteArray,v=.string s/\s.data.toList.length=l/\enc s.data.toList=c
 |.Bo,v=>v=.pointer none
 |.ptr id off,v=>∃x,ρ id=some x/\v=.pointer (some ⟨x.b,x.base+off,none⟩)
 |.gptr b off,v=>v=.pointer (some ⟨b,off,none⟩)
 |.Ad,v=>v=.slice none 0 0
 |.sl id off len cap esz,v=>∃x a,ρ id=some x/\v=.slice (some a) len cap/\(cap=0∨a=⟨x.b,x.base+off*esz,none⟩)/\len<=cap
 |.F9 id off len esz,v=>∃x a capc,ρ id=some x/\v=.slice (some a) len capc/\(capc=0∨a=⟨x.b,x.base+off*esz,none⟩)/\len<=capc/\x.base+(off+capc)*esz<=x.size
 |.rsl b off len cap _,v=>∃a,v=.slice (some a) len cap/\(cap=0∨a=⟨b,off,none⟩)/\len<=cap
 |.AL6,v=>v=.map none
 |.map id,v=>∃x,ρ id=some x/\v=.map (some x.b)
 |.Aav,v=>v=.nilFunc
 |.fn f first caps,v=>∃fa ca:Array Value,v=.func (.func f) fa ca/\Bq ρ first fa.toList/\Bq ρ caps ca.toList
 |.agg cs,v=>∃a:Array Value,v=.agg a/\Bq ρ cs a.toList/\∀u∈a.toList,u.oneCell'=true
 |.Dl cs,v=>∃a:Array Value,v=.tuple a/\Bq ρ cs a.toList
 |.AWW,v=>v=.nilIface
 |.iface t y,v=>∃z,v=.iface t z/\Aa ρ y z
def Bq(ρ:Loc):List V->List Value->Prop
 |[],l=>l=[]
 |c::cs,l=>∃v vs,l=v::vs/\Aa ρ c v/\Bq ρ cs vs
end
theorem Bq.nil{ρ:Loc}:Bq ρ [] []:=by simp[Bq]
theorem Bq.cons{ρ:Loc}{c:V}{v:Value}{cs:List V}{vs:List Value}(h:Aa ρ c v)(d:Bq ρ cs vs):Bq ρ (c::cs) (v::vs):=by
 simp only[Bq];exact⟨v,vs,rfl,h,d⟩
@[simp] theorem AF1{ρ:Loc}{l:List Value}:Bq ρ [] l↔l=[]:=by simp[Bq]
@[simp] theorem Jg{ρ:Loc}{c:V}{cs:List V}{l:List Value}:Bq ρ (c::cs) l↔∃v vs,l=v::vs/\Aa ρ c v/\Bq ρ cs vs:=by simp[Bq]
theorem nP{ρ:Loc}:∀(cs:List V) (vs:List Value),Bq ρ cs vs↔cs.length=vs.length/\∀(i:Nat) (c:V) (v:Value),cs[i]? =some c->vs[i]? =some v->Aa ρ c v
 |[],vs=>by
  simp only[AF1,List.length_nil]
  constructor
  ·rintro rfl;exact⟨rfl,λi c v h=>by simp at h⟩
  ·intro h;exact List.length_eq_zero_iff.1 h.1.symm
 |c::cs,vs=>by
  rw[Jg]
  constructor
  ·rintro⟨v,vs,rfl,h,g⟩
   rw[nP cs vs]at g
   refine⟨by simp[g.1],λi=>?_⟩
   cases i with
   |zero=>intro c' v' d f;simp at d f;subst d;subst f;exact h
   |succ i=>intro c' v' d f;exact g.2 i c' v' (by simpa using d) (by simpa using f)
  ·rintro⟨k,h⟩
   cases vs with
   |nil=>simp at k
   |cons v vs=>
    refine⟨v,vs,rfl,h 0 c v rfl rfl,(nP cs vs).2 ⟨by simpa using k,λi c' v' d f=>h (i+1) c' v' (by simpa using d) (by simpa using f)⟩⟩
theorem Bq.length{ρ:Loc}{cs:List V}{vs:List Value}(h:Bq ρ cs vs):cs.length=vs.length:=((nP cs vs).1 h).1
theorem Bq.get{ρ:Loc}{cs:List V}{vs:List Value}(h:Bq ρ cs vs){i:Nat}{c:V}(d:cs[i]? =some c):∃v,vs[i]? =some v/\Aa ρ c v:=by
 have f:i<vs.length:=by rw[<-h.length];exact(List.getElem?_eq_some_iff.1 d).1
 exact⟨vs[i],List.getElem?_eq_getElem f,((nP cs vs).1 h).2 i c _ d (List.getElem?_eq_getElem f)⟩
theorem Bq.append{ρ:Loc}:∀{f d:List V} {xs ys:List Value},Bq ρ f xs->Bq ρ d ys->Bq ρ (f++d) (xs++ys)
 |[],d,xs,ys,h,g=>by simp at h;subst h;simpa using g
 |a::f,d,xs,ys,h,g=>by
  obtain⟨v,vs,rfl,i,k⟩:=Jg.1 h
  exact .cons i (Bq.append k g)
theorem Bq.take{ρ:Loc}:∀(n:Nat) {d:List V} {xs:List Value},Bq ρ d xs->Bq ρ (d.take n) (xs.take n)
 |0,_,_,_=>by simp
 |n+1,[],_,h=>by simp at h;subst h;simp
 |n+1,a::d,xs,h=>by
  obtain⟨v,vs,rfl,f,g⟩:=Jg.1 h
  exact .cons f (Bq.take n g)
theorem Bq.drop{ρ:Loc}:∀(n:Nat) {d:List V} {xs:List Value},Bq ρ d xs->Bq ρ (d.drop n) (xs.drop n)
 |0,_,_,h=>h
 |n+1,[],_,h=>by simp at h;subst h;simp
 |n+1,a::d,xs,h=>by
  obtain⟨v,vs,rfl,g,f⟩:=Jg.1 h
  exact Bq.drop n f
def Loc.le(ρ ρ':Loc):Prop:=∀id x,ρ id=some x->ρ' id=some x
theorem Loc.le.refl(ρ:Loc):ρ.le ρ:=λ_ _ h=>h
theorem Loc.le.trans{ρ f d:Loc}(h:ρ.le f)(i:f.le d):ρ.le d:=λg x e=>i g x (h g x e)
mutual
theorem Aa.mono{ρ ρ':Loc}(hle:ρ.le ρ'):∀(c:V) (v:Value),Aa ρ c v->Aa ρ' c v
 |.undef,_,_=>trivial
 |.int _ _ _,_,h=>h
 |.bool _,_,h=>h
 |.str _ _,_,h=>h
 |.Bo,_,h=>h
 |.ptr _ _,_,⟨x,hx,hv⟩=>⟨x,hle _ _ hx,hv⟩
 |.gptr _ _,_,h=>h
 |.Ad,_,h=>h
 |.sl _ _ _ _ _,_,⟨x,a,hx,h⟩=>⟨x,a,hle _ _ hx,h⟩
 |.F9 _ _ _ _,_,⟨x,a,cp,hx,h⟩=>⟨x,a,cp,hle _ _ hx,h⟩
 |.rsl _ _ _ _ _,_,h=>h
 |.AL6,_,h=>h
 |.map _,_,⟨x,hx,hv⟩=>⟨x,hle _ _ hx,hv⟩
 |.Aav,_,h=>h
 |.fn _ a c,_,⟨fa,ca,hv,h1,h2⟩=>⟨fa,ca,hv,Bq.mono hle a _ h1,Bq.mono hle c _ h2⟩
 |.agg cs,_,⟨a,hv,h1,h2⟩=>⟨a,hv,Bq.mono hle cs _ h1,h2⟩
 |.Dl cs,_,⟨a,hv,h1⟩=>⟨a,hv,Bq.mono hle cs _ h1⟩
 |.AWW,_,h=>h
 |.iface _ y,_,⟨z,hv,h⟩=>⟨z,hv,Aa.mono hle y z h⟩
theorem Bq.mono{ρ ρ':Loc}(hle:ρ.le ρ'):∀(c:List V) (v:List Value),Bq ρ c v->Bq ρ' c v
 |[],_,h=>by simp at h;subst h;simp
 |c::cs,_,h=>by
  obtain⟨v,vs,rfl,hv,hr⟩:=Jg.1 h
  exact .cons (Aa.mono hle c v hv) (Bq.mono hle cs vs hr)
end
def APm:V->Bool|.undef|.agg _|.Dl _=>false|_=>true
theorem Aa.one{ρ:Loc}:∀{c:V} {v:Value},Aa ρ c v->APm c=true->v.oneCell'=true
 |.undef,_,_,h=>by simp[APm]at h
 |.int _ _ _,_,h,_=>by simp only[Aa]at h;subst h;rfl
 |.bool _,_,h,_=>by simp only[Aa]at h;subst h;rfl
 |.str _ _,_,h,_=>by simp only[Aa]at h;obtain⟨s,rfl,_⟩:=h;rfl
 |.Bo,_,h,_=>by simp only[Aa]at h;subst h;rfl
 |.ptr _ _,_,h,_=>by simp only[Aa]at h;obtain⟨_,_,rfl⟩:=h;rfl
 |.gptr _ _,_,h,_=>by simp only[Aa]at h;subst h;rfl
 |.Ad,_,h,_=>by simp only[Aa]at h;subst h;rfl
 |.sl _ _ _ _ _,_,h,_=>by simp only[Aa]at h;obtain⟨_,_,_,rfl,_⟩:=h;rfl
 |.F9 _ _ _ _,_,h,_=>by simp only[Aa]at h;obtain⟨_,_,_,_,rfl,_⟩:=h;rfl
 |.rsl _ _ _ _ _,_,h,_=>by simp only[Aa]at h;obtain⟨_,rfl,_⟩:=h;rfl
 |.AL6,_,h,_=>by simp only[Aa]at h;subst h;rfl
 |.map _,_,h,_=>by simp only[Aa]at h;obtain⟨_,_,rfl⟩:=h;rfl
 |.Aav,_,h,_=>by simp only[Aa]at h;subst h;rfl
 |.fn _ _ _,_,h,_=>by simp only[Aa]at h;obtain⟨_,_,rfl,_⟩:=h;rfl
 |.agg _,_,_,h=>by simp[APm]at h
 |.Dl _,_,_,h=>by simp[APm]at h
 |.AWW,_,h,_=>by simp only[Aa]at h;subst h;rfl
 |.iface _ _,_,h,_=>by simp only[Aa]at h;obtain⟨_,rfl,_⟩:=h;rfl
variable{P:Program}
def yO(fz:Nat×Nat)(n:Nat):Prop:=∀i,i<n->¬(fz.1<=i/\i<fz.2)
def sub(vs:Array Value)(o n:Nat):List Value:=(vs.toList.drop o).take n
def isLive(H:Heap)(id:Nat):Prop:=∃b,T.get H id=some b/\b≠.dead
structure ACJ(ρ:Loc)(w:World)(x:Info)(esz cnt:Nat)(c:T LV)(vs:Array Value)(t:TypeId)(fz:Nat×Nat):Prop where
 heap:w.heap[x.b]? =some (.cells vs t fz)
 size:vs.size=x.size
 free:yO fz x.size
 sh:esz=1∨fz=(0,0)
 room:x.base+cnt*esz<=x.size
 one:∀u∈vs.toList,u.oneCell'=true
 elem:∀e,e<cnt->∃L,T.get c e=some L/\Bq ρ L (sub vs (x.base+e*esz) esz)
def KD(ρ:Loc):ME->List MapEntry->Prop
 |[],l=>l=[]
 |(k,v,b)::es,l=>∃e es',l=e::es'/\Aa ρ k e.key/\Aa ρ v e.val/\e.born=b/\KD ρ es es'
def AX8(w0:World)(ρ:Loc)(H:Heap)(w:World)(id:Nat)(x:Info)(t e l c j:Nat):Prop:=
 x.base=0/\∃(bs:List UInt8) (p v:Value),bs.length=l/\enc bs=c/\(p=.pointer none∨p=.pointer (some ⟨x.b,0,none⟩))/\w.heap[x.b]? =some (.cells #[p,v] t (0,0))/\
  w.ownsRow w0.heap.size e 1 v l (Lib.byteCells bs)/\(l=0->v=.slice none 0 0)/\(0<l->∃y,v.ownBlock=some y.b/\ρ j=some y/\T.get H j=some (.own id))
theorem AX8.same{E:World}{ρ k:Loc}{H H':Heap}{w w':World}{id:Nat}{x:Info}{t e l c j:Nat}(h:AX8 E ρ H w id x t e l c j)(L:w'.heap[x.b]? =w.heap[x.b]?)(u:ρ.le k)
 (F:∀y,ρ j=some y->T.get H j=some (.own id)->w'.heap[y.b]? =w.heap[y.b]? /\T.get H' j=some (.own id)):AX8 E k H' w' id x t e l c j:=by
 obtain⟨M,N,p,v,O,P,Q,R,G,I,J⟩:=h
 refine⟨M,N,p,v,O,P,Q,L.trans R,?_,I,λS=>?_⟩
 ·refine⟨G.1,?_⟩
  rcases G.2 with U|⟨g,A,B,q,V,C,m⟩
  ·exact .inl U
  ·rcases Nat.eq_zero_or_pos l with D|D
   ·have:=I D
    rw[this]at q;cases q
   ·obtain⟨y,d,f,i⟩:=J D
    rw[q]at d
    have K:g=y.b:=Option.some.inj d
    exact .inr ⟨g,A,B,q,V,by rw[K,(F y f i).1,<-K];exact C,m⟩
 ·obtain⟨y,d,f,i⟩:=J S
  exact⟨y,d,u _ _ f,(F y f i).2⟩
structure DZ(w0:World)(ρ:Loc)(H:Heap)(n:Nat)(w:World):Prop where
 lt:∀id x,ρ id=some x->id<n
 blk:∀id x,ρ id=some x->w0.heap.size<=x.b/\x.b<w.heap.size
 inj:∀id id' x x',ρ id=some x->ρ id'=some x'->isLive H id->isLive H id'->x.b=x'.b->id=id'
 arr:∀id x esz cnt c,ρ id=some x->T.get H id=some (.arr esz cnt c)->∃vs t fz,ACJ ρ w x esz cnt c vs t fz
 map:∀id x es ck,ρ id=some x->T.get H id=some (.map es ck)->∃es':Array MapEntry,w.heap[x.b]? =some (.map es' ck)/\KD ρ es es'.toList
 qU:∀id x t e l c j,ρ id=some x->T.get H id=some (.qU t e l c j)->AX8 w0 ρ H w id x t e l c j
 old:∀b,b<w0.heap.size->w.heap[b]? =w0.heap[b]?
 os:w.os=w0.os
 out:w.output=w0.output
 big:w0.heap.size<=w.heap.size
 top:∀id,n<=id->T.get H id=none
def Xf(w0:World)(G:AY):Prop:=∀b off n L,G b off n=some L->L.length=n/\∀j v,L[j]? =some v->∃u,w0.cell? ⟨b,off+j,none⟩=some u/\Aa (λ_=>none) v u/\u.oneCell'=true
theorem Uw{vs:Array Value}{o n:Nat}(h:o+n<=vs.size):(sub vs o n).length=n:=by simp[sub];omega
theorem sub_sub{vs:Array Value}{o n f m:Nat}(h:f+m<=n):((sub vs o n).drop f).take m=sub vs (o+f) m:=by
 simp only[sub,List.drop_take,List.take_take,List.drop_drop]
 congr 1
 omega
theorem AJO{vs:Array Value}{o n j:Nat}{v:Value}(h:(sub vs o n)[j]? =some v):j<n/\vs[o+j]? =some v:=by
 simp only[sub,List.getElem?_take]at h
 split at h
 ·rename_i d;refine⟨d,?_⟩;simpa using h
 ·cases h
theorem add_lit(b o j:Nat):Addr.add ⟨b,o,none⟩ j=⟨b,o+j,none⟩:=by unfold Addr.add;split<;>simp_all
theorem AYB{ρ:Loc}{w:World}{x:Info}{esz d:Nat}{c:T LV}{vs:Array Value}{t:TypeId}{fz:Nat×Nat}(h:ACJ ρ w x esz d c vs t fz)
 {off n:Nat} {L:LV} (E:ldB esz d c off n=some L):Bq ρ L (sub vs (x.base+off) n)/\x.base+off+n<=x.size:=by
 unfold ldB at E
 obtain⟨u,p,g⟩:=BX.1 E
 have i:off/esz<d:=by
  rcases Nat.lt_or_ge (off/esz) d with v|v
  ·exact v
  ·have y:Nat.blt (Nat.div off esz) d=false:=by rw[Bool.eq_false_iff];intro k;rw[Nat.blt_eq]at k;exact absurd k (Nat.not_lt.2 v)
   rw[y]at p;cases p
 have y:Nat.blt (Nat.div off esz) d=true:=by rw[Nat.blt_eq];exact i
 rw[y]at p
 obtain⟨F,A,B⟩:=h.elem _ i
 have G:u=F:=by have:=p.symm.trans A;exact Option.some.inj this
 subst G
 have H:esz*(off/esz)+off%esz=off:=Nat.div_add_mod off esz
 have I:(off/esz)*esz=esz*(off/esz):=Nat.mul_comm _ _
 have f:x.base+(off/esz)*esz+esz<=x.size:=by
  have J:(off/esz+1)*esz<=d*esz:=Nat.mul_le_mul_right _ i
  rw[Nat.add_mul,Nat.one_mul]at J
  have:=h.room
  omega
 unfold ldC at g
 cases k:band (Nat.beq n esz) (Nat.beq (Nat.mod off esz) 0)with
 |true=>
  rw[k]at g
  have q:u=L:=Option.some.inj g
  subst q
  simp only[BK,Bool.and_eq_true,beq_iff]at k
  obtain⟨rfl,K⟩:=k
  have M:off%n=0:=K
  have N:(off/n)*n=off:=by omega
  rw[N]at B f
  exact⟨B,f⟩
 |false=>
  rw[k]at g
  cases C:Nat.ble (Nat.add (Nat.mod off esz) n) esz with
  |false=>rw[C]at g;cases g
  |true=>
   rw[C]at g
   have D:off%esz+n<=esz:=Nat.le_of_ble_eq_true C
   have q:aK n (AAS (Nat.mod off esz) u)=L:=Option.some.inj g
   simp only[gQ,yN]at q
   subst q
   have m:=(B.drop (off%esz)).take n
   rw[sub_sub D]at m
   have O:x.base+(off/esz)*esz+off%esz=x.base+off:=by omega
   rw[O]at m
   exact⟨m,by omega⟩
theorem cell_of_heap{w:World}{g:Nat}{vs:Array Value}{t:TypeId}{fz:Nat×Nat}(h:w.heap[g]? =some (.cells vs t fz))(i:Nat):w.cell? ⟨g,i,none⟩=vs[i]? :=by
 simp[World.cell?,h]
theorem oV{B:World}{ρ:Loc}{G:AY}{H:Heap}{n:Nat}{w:World}(hh:DZ B ρ H n w)(hg:Xf B G){v:V}{u:Value}(p:Aa ρ v u){m:Nat}{L:LV}
 (g:ldP v G H m=some L):∃a cs,u=.pointer (some a)/\a.spot=none/\Bq ρ L cs/\cs.length=m/\(∀y∈cs,y.oneCell'=true)/\∀j y,cs[j]? =some y->w.cell? (a.add j)=some y:=by
 cases v<;>simp only[ldP]at g<;>try (cases g;done)
 case ptr N off=>
  simp only[Aa]at p
  obtain⟨x,O,rfl⟩:=p
  unfold mY at g
  cases P:T.get H N with
  |none=>rw[P]at g;cases g
  |some b=>
   rw[P]at g
   cases b with
   |arr C D c=>
    have Q:ldB C D c off m=some L:=g
    obtain⟨vs,t,fz,M⟩:=hh.arr N x C D c O P
    obtain⟨q,R⟩:=AYB M Q
    have E:x.base+off+m<=vs.size:=by rw[M.size];exact R
    refine⟨_,sub vs (x.base+off) m,rfl,rfl,q,Uw E,?_,?_⟩
    ·intro y F
     obtain⟨j,I⟩:=List.mem_iff_getElem?.1 F
     obtain⟨_,d⟩:=AJO I
     exact M.one y (by rw[Array.mem_toList_iff];exact Array.mem_of_getElem? d)
    ·intro j y I
     obtain⟨_,d⟩:=AJO I
     rw[add_lit,cell_of_heap M.heap,d]
   |map es ck=>cases g
   |dead=>cases g
   |qU _ _ _ _ _=>cases g
   |own _=>cases g
 case gptr b off=>
  simp only[Aa]at p
  subst p
  obtain⟨J,I⟩:=hg b off m L g
  have key:∀(k:Nat),∃u,k<L.length->B.cell? ⟨b,off+k,none⟩=some u/\Aa ρ (L.getD k .undef) u/\u.oneCell'=true:=by
   intro k
   by_cases A:k<L.length
   ·obtain⟨u,hu,S,h1⟩:=I k L[k] (List.getElem?_eq_getElem A)
    refine⟨u,λ_=>⟨hu,?_,h1⟩⟩
    have:L.getD k .undef=L[k]:=by simp[List.getD,A]
    rw[this]
    exact Aa.mono (λN x O=>by cases O) _ _ S
   ·exact⟨undef,λh=>absurd h A⟩
  have U:∃f:Nat->Value,∀k,k<L.length->B.cell? ⟨b,off+k,none⟩=some (f k)/\Aa ρ (L.getD k .undef) (f k)/\(f k).oneCell'=true:=⟨λk=>(key k).choose,λk=>(key k).choose_spec⟩
  obtain⟨f,W⟩:=U
  refine⟨_,(List.range m).map f,rfl,rfl,?_,by simp,?_,?_⟩
  ·rw[nP]
   refine⟨by simp[J],λi c v K p=>?_⟩
   have hi:i<L.length:=(List.getElem?_eq_some_iff.1 K).1
   have X:v=f i:=by
    rw[List.getElem?_map,List.getElem?_range (by omega)]at p
    simpa using p.symm
   subst X
   have:=(W i hi).2.1
   rwa [show L.getD i .undef=c by simp[List.getD,K]]at this
  ·intro y F
   obtain⟨k,A,rfl⟩:=List.mem_map.1 F
   rw[List.mem_range]at A
   exact(W k (by omega)).2.2
  ·intro j y d
   rw[List.getElem?_map]at d
   cases q:(List.range m)[j]? with
   |none=>rw[q]at d;cases d
   |some k=>
    rw[q]at d
    have A:j<m:=by have:=(List.getElem?_eq_some_iff.1 q).1;simpa using this
    have Y:k=j:=by rw[List.getElem?_range A]at q;exact(Option.some.inj q).symm
    subst Y
    have F:f k=y:=by simpa using d
    obtain⟨K,_,_⟩:=W k (by omega)
    rw[add_lit,<-F,<-K]
    have Z:b<B.heap.size:=World.block_lt_of_cell? B ⟨b,off+k,none⟩ K
    simp only[World.cell?,hh.old b Z]
variable{P:Program}
def NU(l:List Value)(o:Nat)(new:List Value):List Value:=l.take o++new++l.drop (o+new.length)
theorem ALa(l:List Value)(o:Nat)(new:List Value)(h:o+new.length<=l.length)(i:Nat):
 (NU l o new)[i]? =if o<=i/\i<o+new.length then new[i-o]? else l[i]? :=by
 have d:(l.take o).length=o:=by simp;omega
 unfold NU
 by_cases f:i<o
 ·rw[if_neg (by omega),List.append_assoc,List.getElem?_append_left (by omega),List.getElem?_take]
  simp[f]
 ·by_cases g:i<o+new.length
  ·rw[if_pos ⟨by omega,g⟩,List.append_assoc,List.getElem?_append_right (by omega),List.getElem?_append_left (by omega),d]
  ·rw[if_neg (by omega),List.getElem?_append_right (by simp;omega),List.getElem?_drop]
   congr 1
   simp;omega
theorem ZF(l:List Value)(o:Nat)(new:List Value)(h:o+new.length<=l.length):(NU l o new).length=l.length:=by simp[NU];omega
theorem gW(vs:Array Value)(o n j:Nat):(sub vs o n)[j]? =if j<n then vs.toList[o+j]? else none:=by
 simp only[sub,List.getElem?_take,List.getElem?_drop]
theorem lg{vs:Array Value}{o:Nat}{new:List Value}(h:o+new.length<=vs.size):sub (NU vs.toList o new).toArray o new.length=new:=by
 apply List.ext_getElem?
 intro j
 rw[gW]
 by_cases d:j<new.length
 ·rw[if_pos d]
  show(NU vs.toList o new)[o+j]? =_
  rw[ALa _ _ _ (by simpa using h),if_pos (by omega)]
  congr 1;omega
 ·rw[if_neg d,List.getElem?_eq_none (by omega)]
theorem YU{vs:Array Value}{o:Nat}{new:List Value}(h:o+new.length<=vs.size){o' m:Nat}(hd:o'+m<=o∨o+new.length<=o'):
 sub (NU vs.toList o new).toArray o' m=sub vs o' m:=by
 apply List.ext_getElem?
 intro j
 rw[gW,gW]
 by_cases d:j<m
 ·rw[if_pos d,if_pos d]
  show(NU vs.toList o new)[o'+j]? =_
  rw[ALa _ _ _ (by simpa using h),if_neg (by omega)]
 ·rw[if_neg d,if_neg d]
theorem AQl{vs:Array Value}{o:Nat}{new:List Value}(h:o+new.length<=vs.size){B m f:Nat}(q:o=B+f)(u:f+new.length<=m)(k:B+m<=vs.size):
 sub (NU vs.toList o new).toArray B m=(sub vs B m).take f++(new++(sub vs B m).drop (f+new.length)):=by
 apply List.ext_getElem?
 intro j
 have i:(sub vs B m).length=m:=Uw k
 have d:((sub vs B m).take f).length=f:=by rw[List.length_take,i];omega
 rw[gW]
 by_cases g:j<m
 ·rw[if_pos g]
  show(NU vs.toList o new)[B+j]? =_
  rw[ALa _ _ _ (by simpa using h)]
  by_cases p:j<f
  ·rw[if_neg (by omega),List.getElem?_append_left (by omega),List.getElem?_take,if_pos p,gW,if_pos g]
  ·by_cases v:j<f+new.length
   ·rw[if_pos (by omega),List.getElem?_append_right (by omega),List.getElem?_append_left (by omega),d]
    congr 1;omega
   ·rw[if_neg (by omega),List.getElem?_append_right (by omega),List.getElem?_append_right (by omega),List.getElem?_drop,d,gW,if_pos (by omega)]
    congr 1;omega
 ·rw[if_neg g,List.getElem?_eq_none (by simp[i,d];omega)]
theorem JA(g o:Nat)(t:TypeId)(fz:Nat×Nat):∀(vs:List Value) (i:Nat) (d:Array Value) (w:World),w.heap[g]? =some (.cells d t fz)->yO fz d.size->o+i+vs.length<=d.size->(∀v∈vs,v.oneCell'=true)->
 (storeCells ⟨g,o,none⟩ vs i).run P w=.ok () (w.setRow g (NU d.toList (o+i) vs).toArray)
 |[],i,d,w,m,_,_,_=>by
  simp only[storeCells,NU,List.append_nil,List.length_nil,Nat.add_zero,List.take_append_drop,Array.toArray_toList]
  rw[setRow_self w g d t fz m]
  rfl
 |v::f,i,d,w,m,A,u,B=>by
  have hi:o+i<d.size:=by simp at u;omega
  have p:(⟨g,o,none⟩:Addr).add i=⟨g,o+i,none⟩:=add_lit _ _ _
  have k:w.cell? ⟨g,o+i,none⟩=some d[o+i]:=by simp[World.cell?,m,hi]
  have q:w.frozen? ⟨g,o+i,none⟩=false:=by
   obtain⟨lo,C⟩:=fz
   have:=A (o+i) hi
   simp only[World.frozen?,m,Bool.and_eq_false_iff,decide_eq_false_iff_not]
   simp only at this
   omega
  have y:(store ((⟨g,o,none⟩:Addr).add i) v).run P w=.ok () (w.setRow g (d.setIfInBounds (o+i) v)):=by
   rw[p,run_store P w _ v _ (B v (by simp)),k]
   simp[q,setCell_eq_setRow w g (o+i) d t fz v m]
  have D:=JA g o t fz f (i+1) (d.setIfInBounds (o+i) v) (w.setRow g (d.setIfInBounds (o+i) v)) (setRow_heap w g d _ t _ m) (by simpa using A) (by simp at u⊢;omega) (λx E=>B x (by simp[E]))
  simp only[storeCells,Sem.run_bind,y,Result.andThen_ok,D,setRow_setRow]
  congr 3
  have e:=list_seg_step d.toList (o+i) v f (by simp at u⊢;omega)
  simpa[NU,Array.toList_setIfInBounds,Nat.add_assoc]using e
structure IE(ρ:Loc)(H:Heap)(n:Nat)(ρ':Loc)(H':Heap)(n':Nat):Prop where
 le:ρ.le ρ'
 grow:n<=n'
 keep:∀id,id<n->ρ id=none->ρ' id=none/\T.get H' id=T.get H id
theorem IE.refl(ρ:Loc)(H:Heap)(n:Nat):IE ρ H n ρ H n:=⟨Loc.le.refl _,Nat.le_refl _,λ_ _ h=>⟨h,rfl⟩⟩
theorem IE.trans{ρ g f:Loc}{H H' i:Heap}{n n' k:Nat}(h:IE ρ H n g H' n')(m:IE g H' n' f i k):IE ρ H n f i k:=
 ⟨h.le.trans m.le,Nat.le_trans h.grow m.grow,λp q u=>by
  obtain⟨a,b⟩:=h.keep p q u
  obtain⟨c,d⟩:=m.keep p (Nat.lt_of_lt_of_le q h.grow) a
  exact⟨c,d.trans b⟩⟩
theorem ACJ.of_heap{ρ:Loc}{w w':World}{x:Info}{esz d:Nat}{c:T LV}{vs:Array Value}{t:TypeId}{fz:Nat×Nat}(h:ACJ ρ w x esz d c vs t fz)(e:w'.heap[x.b]? =w.heap[x.b]?):
 ACJ ρ w' x esz d c vs t fz:={h with heap:=e.trans h.heap}
theorem ACJ.mono{ρ d:Loc}(g:ρ.le d){w:World}{x:Info}{esz f:Nat}{c:T LV}{vs:Array Value}{t:TypeId}{fz:Nat×Nat}(h:ACJ ρ w x esz f c vs t fz):
 ACJ d w x esz f c vs t fz:={h with elem:=λe i=>let⟨L,h1,h2⟩:=h.elem e i;⟨L,h1,Bq.mono g _ _ h2⟩}
theorem KD.mono{ρ f:Loc}(d:ρ.le f):∀(i:ME) (l:List MapEntry),KD ρ i l->KD f i l
 |[],_,h=>h
 |(_,_,_)::i,_,⟨e,g,k,m,p,q,u⟩=>⟨e,g,k,Aa.mono d _ _ m,Aa.mono d _ _ p,q,KD.mono d i g u⟩
theorem DZ.turn{P:World}{ρ:Loc}{H:Heap}{n:Nat}{w:World}(hh:DZ P ρ H n w){id:Nat}{x:Info}(D:ρ id=some x)(f:isLive H id){w':World}{E:Nu}
 (G:w'.heap.size=w.heap.size) (q:∀k,k≠x.b->w'.heap[k]? =w.heap[k]?) (Q:w'.os=w.os) (I:w'.output=w.output)
 (J:∀A B c,E=.arr A B c->∃R t fz,ACJ ρ w' x A B c R t fz)
 (K:∀L M,E=.map L M->∃F:Array MapEntry,w'.heap[x.b]? =some (.map F M)/\KD ρ L F.toList)
 (S:∀b,T.get H id≠some (.own b)) (N:∀t e l c j,E=.qU t e l c j->AX8 P ρ (T.set H id E) w' id x t e l c j):
 DZ P ρ (T.set H id E) n w':=by
 have m:∀g,T.get (T.set H id E) g=if id=g then some E else T.get H g:=λg=>T.Qx H id g E
 have X:∀g,isLive (T.set H id E) g->isLive H g:=by
  rintro g ⟨b,d,u⟩
  rw[m]at d
  by_cases e:id=g
  ·subst e;exact f
  ·rw[if_neg e]at d;exact⟨b,d,u⟩
 refine{lt:=hh.lt,blk:=λi y p=>by rw[G];exact hh.blk i y p,inj:=λi j y z p U Y Z=>hh.inj i j y z p U (X i Y) (X j Z),arr:=?_,map:=?_,qU:=?_,old:=?_,os:=Q.trans hh.os,out:=I.trans hh.out,big:=by rw[G];exact hh.big,top:=λi hi=>by rw[m,if_neg (by have:=hh.lt id x D;omega)];exact hh.top i hi}
 ·intro i y A B c p d
  rw[m]at d
  by_cases e:id=i
  ·subst e
   rw[if_pos rfl]at d
   have C:y=x:=by rw[D]at p;exact(Option.some.inj p).symm
   subst C
   exact J A B c (Option.some.inj d)
  ·rw[if_neg e]at d
   have u:y.b≠x.b:=λv=>e (hh.inj id i x y D p f ⟨_,d,by simp⟩ v.symm)
   obtain⟨R,t,fz,ha⟩:=hh.arr i y A B c p d
   exact⟨R,t,fz,ha.of_heap (q _ u)⟩
 ·intro i y L M p d
  rw[m]at d
  by_cases e:id=i
  ·subst e
   rw[if_pos rfl]at d
   have C:y=x:=by rw[D]at p;exact(Option.some.inj p).symm
   subst C
   exact K L M (Option.some.inj d)
  ·rw[if_neg e]at d
   have u:y.b≠x.b:=λv=>e (hh.inj id i x y D p f ⟨_,d,by simp⟩ v.symm)
   obtain⟨F,he,hr⟩:=hh.map i y L M p d
   exact⟨F,by rw[q _ u,he],hr⟩
 ·intro i y t e l c j p d
  rw[m]at d
  by_cases V:id=i
  ·subst V
   rw[if_pos rfl]at d
   have C:y=x:=by rw[D]at p;exact(Option.some.inj p).symm
   subst C
   exact N t e l c j (Option.some.inj d)
  ·rw[if_neg V]at d
   have u:y.b≠x.b:=λv=>V (hh.inj id i x y D p f ⟨_,d,by simp⟩ v.symm)
   refine(hh.qU i y t e l c j p d).same (q _ u) (Loc.le.refl _) λz U W=>?_
   have O:id≠j:=λe=>by subst e;exact S _ W
   exact⟨q _ λv=>O (hh.inj id j x z D U f ⟨_,W,by simp⟩ v.symm),by rw[m,if_neg O];exact W⟩
 ·intro b d
  have:=(hh.blk id x D).1
  rw[q b (by omega)]
  exact hh.old b d
theorem IE.turn{ρ:Loc}{H:Heap}{n:Nat}{id:Nat}{x:Info}(f:ρ id=some x)(b:Nu):IE ρ H n ρ (T.set H id b) n:=
 ⟨Loc.le.refl _,Nat.le_refl _,λi _ d=>⟨d,T.Ac H b (λe=>by subst e;rw[f]at d;cases d)⟩⟩
theorem ACJ.put{ρ:Loc}{w:World}{x:Info}{esz d:Nat}{c:T LV}{vs:Array Value}{t:TypeId}{fz:Nat×Nat}(h:ACJ ρ w x esz d c vs t fz)
 {off:Nat} {new:LV} {cs:List Value} {J:Nu} (C:stB esz d c off cs.length new=some J) (K:Bq ρ new cs) (V:∀y∈cs,y.oneCell'=true):
 ∃c',J=.arr esz d c'/\x.base+off+cs.length<=vs.size/\ACJ ρ (w.setRow x.b (NU vs.toList (x.base+off) cs).toArray) x esz d c' (NU vs.toList (x.base+off) cs).toArray t fz:=by
 unfold stB at C
 obtain⟨W,I,k⟩:=BX.1 C
 have v:off/esz<d:=by
  rcases Nat.lt_or_ge (off/esz) d with M|M
  ·exact M
  ·have C:Nat.blt (Nat.div off esz) d=false:=by rw[Bool.eq_false_iff];intro p;rw[Nat.blt_eq]at p;exact absurd p (Nat.not_lt.2 M)
   rw[C]at I;cases I
 have C:Nat.blt (Nat.div off esz) d=true:=by rw[Nat.blt_eq];exact v
 rw[C]at I
 obtain⟨X,N,D⟩:=h.elem _ v
 have Y:W=X:=Option.some.inj (I.symm.trans N)
 subst Y
 have Z:esz*(off/esz)+off%esz=off:=Nat.div_add_mod off esz
 have d0:(off/esz)*esz=esz*(off/esz):=Nat.mul_comm _ _
 have g:x.base+(off/esz)*esz+esz<=vs.size:=by
  have h2:(off/esz+1)*esz<=d*esz:=Nat.mul_le_mul_right _ v
  rw[Nat.add_mul,Nat.one_mul]at h2
  have:=h.room
  rw[h.size]
  omega
 have key:∃E,J=.arr esz d (T.set c (off/esz) E)/\off%esz+cs.length<=esz/\Bq ρ E ((sub vs (x.base+(off/esz)*esz) esz).take (off%esz)++(cs++(sub vs (x.base+(off/esz)*esz) esz).drop (off%esz+cs.length))):=by
  unfold stC at k
  cases p:band (Nat.beq cs.length esz) (Nat.beq (Nat.mod off esz) 0)with
  |true=>
   rw[p]at k
   simp only[BK,Bool.and_eq_true,beq_iff]at p
   have hm:off%esz=0:=p.2
   refine⟨new,(Option.some.inj k).symm,by omega,?_⟩
   rw[hm,p.1]
   have O:(sub vs (x.base+(off/esz)*esz) esz).drop (0+esz)=[]:=by rw[List.drop_eq_nil_iff,Uw g];omega
   rw[O]
   simpa using K
  |false=>
   rw[p]at k
   cases P:Nat.ble (Nat.add (Nat.mod off esz) cs.length) esz with
   |false=>rw[P]at k;cases k
   |true=>
    rw[P]at k
    have Q:off%esz+cs.length<=esz:=Nat.le_of_ble_eq_true P
    refine⟨_,(Option.some.inj k).symm,Q,?_⟩
    rw[AJN,<-K.length]
    exact(D.take _).append (K.append (D.drop _))
 obtain⟨E,rfl,F,R⟩:=key
 have i:x.base+off+cs.length<=vs.size:=by omega
 have G:(NU vs.toList (x.base+off) cs).toArray.size=vs.size:=by
  have:=ZF vs.toList (x.base+off) cs (by simpa using i)
  simpa using this
 refine⟨_,rfl,i,{heap:=setRow_heap w x.b vs _ t fz h.heap,size:=G.trans h.size,free:=h.free,sh:=h.sh,room:=h.room,one:=?_,elem:=?_}⟩
 ·intro u q
  simp only[NU,List.mem_append]at q
  rcases q with(q|q)|q
  ·exact h.one u (List.mem_of_mem_take q)
  ·exact V u q
  ·exact h.one u (List.mem_of_mem_drop q)
 ·intro e he
  by_cases A:off/esz=e
  ·subst A
   refine⟨E,T.Ag _ _ _,?_⟩
   rw[AQl i (B:=x.base+(off/esz)*esz) (m:=esz) (f:=off%esz) (by omega) F g]
   exact R
  ·obtain⟨L,hL,S⟩:=h.elem e he
   refine⟨L,by rw[T.Ac c E A,hL],?_⟩
   rw[YU i]
   ·exact S
   ·rcases Nat.lt_or_gt_of_ne A with H|U
    ·right
     have:(off/esz+1)*esz<=e*esz:=Nat.mul_le_mul_right _ H
     rw[Nat.add_mul,Nat.one_mul]at this
     omega
    ·left
     have:(e+1)*esz<=(off/esz)*esz:=Nat.mul_le_mul_right _ U
     rw[Nat.add_mul,Nat.one_mul]at this
     omega
theorem AWV{F:World}{ρ:Loc}{H:Heap}{n:Nat}{w:World}(hh:DZ F ρ H n w){v:V}{u:Value}(G:Aa ρ v u){new:LV}{cs:List Value}{H':Heap}
 (hs:stP v H cs.length new=some H') (K:Bq ρ new cs) (I:∀y∈cs,y.oneCell'=true):
 ∃a w',u=.pointer (some a)/\(storeCells a cs).run P w=.ok () w'/\DZ F ρ H' n w'/\IE ρ H n ρ H' n:=by
 cases v<;>simp only[stP]at hs<;>try (cases hs;done)
 case ptr id off=>
  simp only[Aa]at G
  obtain⟨x,B,rfl⟩:=G
  unfold stH at hs
  obtain⟨J,d,L⟩:=BX.1 hs
  have g:T.set H id J=H':=Option.some.inj L
  cases i:T.get H id with
  |none=>rw[i]at d;cases d
  |some b=>
   rw[i]at d
   cases b with
   |arr m p c=>
    have C:stB m p c off cs.length new=some J:=d
    obtain⟨M,t,fz,A⟩:=hh.arr id x m p c B i
    obtain⟨R,rfl,D,E⟩:=A.put C K I
    have f:=JA (P:=P) x.b (x.base+off) t fz cs 0 M w A.heap (by rw[A.size];exact A.free) (by simpa using D) I
    simp only[Nat.add_zero]at f
    refine⟨_,_,rfl,f,?_,?_⟩
    ·subst g
     refine hh.turn B ⟨_,i,by simp⟩ (setRow_size _ _ _) (λk N=>setRow_other _ _ _ _ N) (setRow_os _ _ _) (setRow_output _ _ _) ?_ (λO Q q=>by cases q) (λ_=>by rw[i];simp) (λ_ _ _ _ _ q=>by cases q)
     intro S U W q
     cases q
     exact⟨_,_,_,E⟩
    ·subst g;exact IE.turn B _
   |map O Q=>cases d
   |dead=>cases d
   |qU _ _ _ _ _=>cases d
   |own _=>cases d
variable{P:Program}
theorem DZ.of_same{k:World}{ρ:Loc}{H:Heap}{n:Nat}{w w':World}(hh:DZ k ρ H n w)(d:w'.heap=w.heap)(m:w'.os=w.os)(p:w'.output=w.output):DZ k ρ H n w':=
 {lt:=hh.lt,blk:=λi x f=>by rw[d];exact hh.blk i x f,inj:=hh.inj,
  arr:=λi x e c t f g=>let⟨vs,ty,fz,ha⟩:=hh.arr i x e c t f g;⟨vs,ty,fz,ha.of_heap (by rw[d])⟩,
  map:=λi x e c f g=>let⟨es,he,hr⟩:=hh.map i x e c f g;⟨es,by rw[d];exact he,hr⟩,
  qU:=λi x t e l c j f g=>(hh.qU i x t e l c j f g).same (by rw[d]) (Loc.le.refl _) λy _ q=>⟨by rw[d],q⟩,
  old:=λb g=>by rw[d];exact hh.old b g,os:=m.trans hh.os,out:=p.trans hh.out,big:=by rw[d];exact hh.big,top:=hh.top}
theorem DZ.drew{d:World}{ρ:Loc}{H:Heap}{n:Nat}{w:World}(hh:DZ d ρ H n w):DZ d ρ H n w.drew:=hh.of_same rfl rfl rfl
def AOi(ρ:Loc)(size:Nat):Nu->Obj->Prop
 |.arr esz cnt c,o=>∃vs t fz,o=.cells vs t fz/\vs.size=size/\yO fz size/\(esz=1∨fz=(0,0))/\cnt*esz<=size/\(∀u∈vs.toList,u.oneCell'=true)/\∀e,e<cnt->∃L,T.get c e=some L/\Bq ρ L (sub vs (e*esz) esz)
 |.map es ck,o=>∃es':Array MapEntry,o=.map es' ck/\KD ρ es es'.toList
 |.dead,_=>True
 |.qU t e l c _,o=>l=0/\c=0/\o=.cells #[.pointer none,.slice none 0 0] t (0,0)
 |.own _,_=>True
def Loc.add(ρ:Loc)(id:Nat)(x:Info):Loc:=λi=>if i=id then some x else ρ i
theorem Loc.add_same(ρ:Loc)(id:Nat)(x:Info):ρ.add id x id=some x:=by simp[Loc.add]
theorem Loc.YB(ρ:Loc){id i:Nat}(x:Info)(h:i≠id):ρ.add id x i=ρ i:=by simp[Loc.add,h]
theorem Loc.AHd{ρ:Loc}{id:Nat}(x:Info)(h:ρ id=none):ρ.le (ρ.add id x):=λi y d=>by
 by_cases e:i=id
 ·subst e;rw[h]at d;cases d
 ·rw[Loc.YB ρ x e];exact d
theorem DZ.fresh{m:World}{ρ:Loc}{H:Heap}{n:Nat}{w:World}(hh:DZ m ρ H n w)(b:Nu):DZ m ρ (T.set H n b) (n+1) w:=by
 have g:∀i x,ρ i=some x->n≠i:=λi x f e=>by have:=hh.lt i x f;omega
 refine{lt:=λi x f=>Nat.lt_succ_of_lt (hh.lt i x f),blk:=hh.blk,inj:=?_,arr:=?_,map:=?_,qU:=?_,old:=hh.old,os:=hh.os,out:=hh.out,big:=hh.big,top:=λp h=>by rw[T.Ac H _ (by omega)];exact hh.top p (by omega)}
 ·intro i j x y f k q u d
  refine hh.inj i j x y f k ?_ ?_ d
  ·obtain⟨b,d,hd⟩:=q;rw[T.Ac H _ (g i x f)]at d;exact⟨b,d,hd⟩
  ·obtain⟨b,d,hd⟩:=u;rw[T.Ac H _ (g j y k)]at d;exact⟨b,d,hd⟩
 ·intro i x e c t f d;rw[T.Ac H _ (g i x f)]at d;exact hh.arr i x e c t f d
 ·intro i x e c f d;rw[T.Ac H _ (g i x f)]at d;exact hh.map i x e c f d
 ·intro i x t e l c j f d
  rw[T.Ac H _ (g i x f)]at d
  exact(hh.qU i x t e l c j f d).same rfl (Loc.le.refl _) λy k v=>⟨rfl,by rw[T.Ac H _ (g j y k)];exact v⟩
theorem DZ.AEa{d:World}{ρ:Loc}{H:Heap}{n:Nat}{w:World}(hh:DZ d ρ H n w):ρ n=none:=by
 cases h:ρ n with
 |none=>rfl
 |some x=>exact absurd (hh.lt n x h) (Nat.lt_irrefl n)
theorem IE.fresh(ρ:Loc)(H:Heap)(n:Nat)(b:Nu):IE ρ H n ρ (T.set H n b) (n+1):=
 ⟨Loc.le.refl _,by omega,λi f d=>⟨d,T.Ac H b (by omega)⟩⟩
theorem DZ.place{O:World}{ρ:Loc}{H:Heap}{n:Nat}{w:World}(hh:DZ O ρ H n w){id:Nat}(D:id<n)(P:ρ id=none){b:Nu}(E:T.get H id=some b){size:Nat}{o:Obj}(F:AOi ρ size b o):
 DZ O (ρ.add id ⟨w.heap.size,0,size⟩) H n (w.alloc o):=by
 have q:=Loc.AHd ⟨w.heap.size,0,size⟩ P
 have u:(w.alloc o).heap[w.heap.size]? =some o:=by show(w.heap.push o)[w.heap.size]? =_;simp
 have g:∀k,k<w.heap.size->(w.alloc o).heap[k]? =w.heap[k]? :=λk C=>by show(w.heap.push o)[k]? =_;rw[Array.getElem?_push,if_neg (by omega)]
 have d:∀i x,ρ.add id ⟨w.heap.size,0,size⟩ i=some x->(i=id/\x=⟨w.heap.size,0,size⟩)∨(i≠id/\ρ i=some x):=by
  intro i x p
  by_cases e:i=id
  ·subst e;rw[Loc.add_same]at p;exact .inl ⟨rfl,(Option.some.inj p).symm⟩
  ·rw[Loc.YB ρ _ e]at p;exact .inr ⟨e,p⟩
 refine{lt:=?_,blk:=?_,inj:=?_,arr:=?_,map:=?_,qU:=?_,old:=?_,os:=hh.os,out:=hh.out,big:=by rw[World.size_alloc];have:=hh.big;omega,top:=hh.top}
 ·intro i x p;rcases d i x p with⟨rfl,_⟩|⟨_,h⟩
  ·exact D
  ·exact hh.lt i x h
 ·intro i x p;rcases d i x p with⟨_,rfl⟩|⟨_,h⟩
  ·exact⟨hh.big,by simp⟩
  ·have:=hh.blk i x h;rw[World.size_alloc];omega
 ·intro i j x y p G Q I A
  rcases d i x p with⟨rfl,rfl⟩|⟨J,f⟩<;>rcases d j y G with⟨rfl,rfl⟩|⟨e2,h2'⟩
  ·rfl
  ·have:=(hh.blk j y h2').2;simp at A;omega
  ·have:=(hh.blk i x f).2;simp at A;omega
  ·exact hh.inj i j x y f h2' Q I A
 ·intro i x e c t p m
  rcases d i x p with⟨rfl,rfl⟩|⟨J,f⟩
  ·have v:b=.arr e c t:=Option.some.inj (E.symm.trans m)
   subst v
   obtain⟨K,ty,fz,rfl,I,R,S,U,V,W⟩:=F
   refine⟨K,ty,fz,{heap:=u,size:=I,free:=R,sh:=S,room:=by simpa using U,one:=V,elem:=λk C=>?_}⟩
   obtain⟨L,X,M⟩:=W k C
   exact⟨L,X,by simpa using Bq.mono q _ _ M⟩
  ·obtain⟨K,ty,fz,Y⟩:=hh.arr i x e c t f m
   exact⟨K,ty,fz,(Y.of_heap (g _ (hh.blk i x f).2)).mono q⟩
 ·intro i x e c p m
  rcases d i x p with⟨rfl,rfl⟩|⟨J,f⟩
  ·have v:b=.map e c:=Option.some.inj (E.symm.trans m)
   subst v
   obtain⟨N,rfl,B⟩:=F
   exact⟨N,u,KD.mono q _ _ B⟩
  ·obtain⟨N,Z,B⟩:=hh.map i x e c f m
   exact⟨N,by rw[g _ (hh.blk i x f).2];exact Z,KD.mono q _ _ B⟩
 ·intro i x t e l c j p m
  rcases d i x p with⟨rfl,rfl⟩|⟨J,f⟩
  ·have v:b=.qU t e l c j:=Option.some.inj (E.symm.trans m)
   subst v
   obtain⟨rfl,rfl,rfl⟩:=F
   exact⟨rfl,[],_,_,rfl,rfl,.inl rfl,u,World.ownsRow_nil _ _ _ _,λ_=>rfl,λh=>absurd h (Nat.lt_irrefl 0)⟩
  ·exact(hh.qU i x t e l c j f m).same (g _ (hh.blk i x f).2) q λy G hj=>⟨g _ (hh.blk j y G).2,hj⟩
 ·intro k C;have:=hh.big;rw[g k (by omega)];exact hh.old k C
theorem IE.place{ρ:Loc}{H:Heap}{n:Nat}{b:Nu}(x:Info)(h:ρ n=none):IE ρ H n (ρ.add n x) (T.set H n b) (n+1):=
 ⟨Loc.AHd x h,by omega,λi f d=>⟨by rw[Loc.YB ρ x (by omega)];exact d,T.Ac H b (by omega)⟩⟩
theorem DZ.new{d:World}{ρ:Loc}{H:Heap}{n:Nat}{w:World}(hh:DZ d ρ H n w){b:Nu}{size:Nat}{o:Obj}(f:AOi ρ size b o):
 DZ d (ρ.add n ⟨w.heap.size,0,size⟩) (T.set H n b) (n+1) (w.alloc o):=
 (hh.fresh b).place (Nat.lt_succ_self n) hh.AEa (T.Ag _ _ _) f
theorem DZ.move{w0:World}{ρ:Loc}{H:Heap}{n:Nat}{w:World}(hh:DZ w0 ρ H n w){id:Nat}{x:Info}(D:ρ id=some x)(g:isLive H id){w':World}{y:Info}(R:y.b=x.b){esz E:Nat}{c:T LV}
 (J:w'.heap.size=w.heap.size) (A:∀k,k≠x.b->w'.heap[k]? =w.heap[k]?) (S:w'.os=w.os) (K:w'.output=w.output)
 (L:∃M t fz,ACJ ρ w' y esz E c M t fz) (U:∀b,T.get H id≠some (.own b)):
 DZ w0 (ρ.add n y) (T.set (T.set H id .dead) n (.arr esz E c)) (n+1) w':=by
 have P:=hh.AEa
 have F:=Loc.AHd y P
 have d1:id≠n:=λe=>by subst e;rw[D]at P;cases P
 have f:∀i z,ρ.add n y i=some z->(i=n/\z=y)∨(i≠n/\ρ i=some z):=by
  intro i z B
  by_cases e:i=n
  ·subst e;rw[Loc.add_same]at B;exact .inl ⟨rfl,(Option.some.inj B).symm⟩
  ·rw[Loc.YB ρ _ e]at B;exact .inr ⟨e,B⟩
 have q:∀i,i≠n->T.get (T.set (T.set H id .dead) n (.arr esz E c)) i=if id=i then some .dead else T.get H i:=λi Q=>by
  rw[T.Ac _ _ (Ne.symm Q),T.Qx]
 have G:∀i,i≠n->isLive (T.set (T.set H id .dead) n (.arr esz E c)) i->isLive H i/\i≠id:=by
  rintro i Q ⟨b,N,hd⟩
  rw[q i Q]at N
  by_cases e:id=i
  ·rw[if_pos e]at N;exact absurd (Option.some.inj N).symm hd
  ·rw[if_neg e]at N;exact⟨⟨b,N,hd⟩,Ne.symm e⟩
 refine{lt:=?_,blk:=?_,inj:=?_,arr:=?_,map:=?_,qU:=?_,old:=?_,os:=S.trans hh.os,out:=K.trans hh.out,big:=by rw[J];exact hh.big,top:=λi Q=>by rw[q i (by omega),if_neg (by have:=hh.lt id x D;omega)];exact hh.top i (by omega)}
 ·intro i z B;rcases f i z B with⟨rfl,_⟩|⟨_,h⟩
  ·omega
  ·exact Nat.lt_succ_of_lt (hh.lt i z h)
 ·intro i z B;rcases f i z B with⟨_,rfl⟩|⟨_,h⟩
  ·rw[R,J];exact hh.blk id x D
  ·rw[J];exact hh.blk i z h
 ·intro i j z V B W h1 h2 m
  rcases f i z B with⟨rfl,rfl⟩|⟨I,p⟩<;>rcases f j V W with⟨rfl,rfl⟩|⟨e2,h2'⟩
  ·rfl
  ·obtain⟨X,v⟩:=G j e2 h2
   exact absurd (hh.inj id j x V D h2' g X (by rw[<-R,m])).symm v
  ·obtain⟨X,v⟩:=G i I h1
   exact absurd (hh.inj id i x z D p g X (by rw[<-R,m])).symm v
  ·exact hh.inj i j z V p h2' (G i I h1).1 (G j e2 h2).1 m
 ·intro i z e k t B d
  rcases f i z B with⟨rfl,rfl⟩|⟨I,p⟩
  ·rw[T.Ag]at d
   cases d
   obtain⟨M,ty,fz,Y⟩:=L
   exact⟨M,ty,fz,Y.mono F⟩
  ·rw[q i I]at d
   by_cases C:id=i
   ·rw[if_pos C]at d;cases d
   ·rw[if_neg C]at d
    have v:z.b≠x.b:=λm=>C (hh.inj id i x z D p g ⟨_,d,by simp⟩ m.symm)
    obtain⟨M,ty,fz,Y⟩:=hh.arr i z e k t p d
    exact⟨M,ty,fz,(Y.of_heap (A _ v)).mono F⟩
 ·intro i z e k B d
  rcases f i z B with⟨rfl,rfl⟩|⟨I,p⟩
  ·rw[T.Ag]at d;cases d
  ·rw[q i I]at d
   by_cases C:id=i
   ·rw[if_pos C]at d;cases d
   ·rw[if_neg C]at d
    have v:z.b≠x.b:=λm=>C (hh.inj id i x z D p g ⟨_,d,by simp⟩ m.symm)
    obtain⟨es,he,Z⟩:=hh.map i z e k p d
    exact⟨es,by rw[A _ v];exact he,KD.mono F _ _ Z⟩
 ·intro i z t e l c' j B d
  rcases f i z B with⟨rfl,rfl⟩|⟨I,p⟩
  ·rw[T.Ag]at d;cases d
  ·rw[q i I]at d
   by_cases C:id=i
   ·rw[if_pos C]at d;cases d
   ·rw[if_neg C]at d
    have v:z.b≠x.b:=λm=>C (hh.inj id i x z D p g ⟨_,d,by simp⟩ m.symm)
    refine(hh.qU i z t e l c' j p d).same (A _ v) F λu hu hj=>?_
    have O:id≠j:=λe=>by subst e;exact U _ hj
    have d0:j≠n:=λe=>by subst e;rw[P]at hu;cases hu
    exact⟨A _ λm=>O (hh.inj id j x u D hu g ⟨_,hj,by simp⟩ m.symm),by rw[q j d0,if_neg O];exact hj⟩
 ·intro k hk
  have:=(hh.blk id x D).1
  rw[A k (by omega)];exact hh.old k hk
theorem IE.move{ρ:Loc}{H:Heap}{n:Nat}{id:Nat}{x:Info}(d:ρ id=some x)(f:ρ n=none)(y:Info)(b:Nu):IE ρ H n (ρ.add n y) (T.set (T.set H id .dead) n b) (n+1):=
 ⟨Loc.AHd y f,by omega,λi g h=>⟨by rw[Loc.YB ρ y (by omega)];exact h,by
  rw[T.Ac _ b (by omega),T.Ac H _ (λe=>by subst e;rw[d]at h;cases h)]⟩⟩
theorem DZ.kill{p:World}{ρ:Loc}{H:Heap}{n:Nat}{w:World}(hh:DZ p ρ H n w){id:Nat}(u:id<n)(m:∀b,T.get H id≠some (.own b)):DZ p ρ (T.set H id .dead) n w:=by
 have d:∀i,T.get (T.set H id .dead) i=if id=i then some .dead else T.get H i:=λi=>T.Qx _ _ _ _
 have k:∀i,isLive (T.set H id .dead) i->isLive H i:=by
  rintro i ⟨b,f,hd⟩
  rw[d i]at f
  by_cases e:id=i
  ·rw[if_pos e]at f;exact absurd (Option.some.inj f).symm hd
  ·rw[if_neg e]at f;exact⟨b,f,hd⟩
 refine{lt:=hh.lt,blk:=hh.blk,inj:=λi j x y g v A B=>hh.inj i j x y g v (k i A) (k j B),arr:=?_,map:=?_,qU:=?_,old:=hh.old,os:=hh.os,out:=hh.out,big:=hh.big,top:=λi C=>by rw[d,if_neg (by omega)];exact hh.top i C}
 ·intro i x e c t g f
  rw[d]at f
  split at f
  ·cases f
  ·exact hh.arr i x e c t g f
 ·intro i x e c g f
  rw[d]at f
  split at f
  ·cases f
  ·exact hh.map i x e c g f
 ·intro i x t e l c j g f
  rw[d]at f
  split at f
  ·cases f
  ·exact(hh.qU i x t e l c j g f).same rfl (Loc.le.refl _) λy _ q=>⟨rfl,by rw[d,if_neg (λe=>by subst e;exact m _ q)];exact q⟩
variable{P:Program}
def cv1:Value->Option V
 |.bool b=>some (.bool b)
 |.int k n=>some (.int k n 0)
 |.string s=>some (.str s.data.toList.length (enc s.data.toList))
 |.pointer none=>some .Bo
 |.slice none 0 0=>some .Ad
 |.map none=>some .AL6
 |.nilFunc=>some .Aav
 |.nilIface=>some .AWW
 |_=>none
def cvL:List Value->Option LV
 |[]=>some []
 |v::l=>(cv1 v).bind λc=>(cvL l).bind λcs=>some (c::cs)
def cvV:Value->Option V
 |.agg a=>(cvL a.toList).map .agg
 |v=>cv1 v
theorem ARb{ρ:Loc}{v:Value}{c:V}(h:cv1 v=some c):Aa ρ c v/\APm c=true/\v.oneCell'=true:=by
 unfold cv1 at h
 split at h<;>first|(cases h;done)|(cases h;refine⟨?_,rfl,rfl⟩;simp[Aa])
theorem AAi{ρ:Loc}:∀{l:List Value} {cs:LV},cvL l=some cs->Bq ρ cs l/\(∀c∈cs,APm c=true)/\∀u∈l,u.oneCell'=true
 |[],cs,h=>by simp[cvL]at h;subst h;simp
 |v::l,cs,h=>by
  simp only[cvL,Option.bind_eq_some_iff]at h
  obtain⟨c,g,i,f,e⟩:=h
  cases e
  obtain⟨k,m,p⟩:=ARb (ρ:=ρ) g
  obtain⟨q,w,y⟩:=AAi (ρ:=ρ) f
  refine⟨.cons k q,?_,?_⟩
  ·intro x d;rcases List.mem_cons.1 d with rfl|d
   ·exact m
   ·exact w x d
  ·intro x d;rcases List.mem_cons.1 d with rfl|d
   ·exact p
   ·exact y x d
theorem AFy{ρ:Loc}{v:Value}{c:V}(h:cvV v=some c):Aa ρ c v:=by
 unfold cvV at h
 split at h
 ·rename_i a
  cases d:cvL a.toList with
  |none=>rw[d]at h;cases h
  |some i=>
   rw[d]at h
   cases h
   obtain⟨f,_,g⟩:=AAi (ρ:=ρ) d
   exact⟨a,rfl,f,g⟩
 ·exact(ARb h).1
def La(P:Program)(t:TypeId):Option Bool:=
 match P.underlying t with
 |some (.struct _)=>some true
 |some (.array _ _)=>some true
 |some _=>some false
 |none=>none
def szT(P:Program)(t:TypeId):Option Nat:=(P.info? t).map (·.size)
def AF6(P:Program)(t:TypeId):Option LV:=(P.info? t).bind λi=>i.zero.bind λz=>cvL z.cells.toList
theorem pU{t:TypeId}{b:Bool}(h:La P t=some b)(w:World):(isAgg t).run P w=.ok b w:=by
 unfold La at h
 cases f:P.underlying t with
 |none=>rw[f]at h;cases h
 |some d=>
  rw[f]at h
  simp only[isAgg,Sem.run_bind,run_underlying f,Result.andThen_ok]
  cases d<;>simp_all
theorem run_sizeOf{t:TypeId}{n:Nat}(h:szT P t=some n)(w:World):(Go.sizeOf t).run P w=.ok n w:=by
 unfold szT at h
 cases d:P.info? t with
 |none=>rw[d]at h;cases h
 |some i=>rw[d]at h;cases h;simp[Go.sizeOf,typeInfo,d]
theorem ATy{i:World}{ρ:Loc}{G:AY}{H:Heap}{n:Nat}{w:World}(hh:DZ i ρ H n w)(q:Xf i G){v r:V}{u:Value}(x:Aa ρ v u){t:TypeId}(y:La P t=some false)
 (A:Va (ldP v G H 1) (λL=>nth L 0)=some r):∃val,(Instr.loadAt t u).run P w=.ok val w/\Aa ρ r val:=by
 obtain⟨L,B,k⟩:=YJ.1 A
 obtain⟨a,F,rfl,C,D,m,p,E⟩:=oV hh q x B
 rw[AAT]at k
 obtain⟨val,f,g⟩:=D.get k
 have d:=E 0 val f
 refine⟨val,?_,g⟩
 rw[Addr.add_zero']at d
 simp[Instr.loadAt,Instr.sureAddr,loadVar,pU y,d]
theorem AUp{k:World}{ρ:Loc}{G:AY}{H:Heap}{n:Nat}{w:World}(hh:DZ k ρ H n w)(p:Xf k G){v r:V}{u:Value}(q:Aa ρ v u){t:TypeId}(x:La P t=some true){m:Nat}(y:szT P t=some m)
 (A:Va (ldP v G H m) (λL=>some (.agg L))=some r):∃val,(Instr.loadAt t u).run P w=.ok val w/\Aa ρ r val:=by
 obtain⟨L,B,C⟩:=YJ.1 A
 cases C
 obtain⟨a,i,rfl,D,E,d,f,F⟩:=oV hh p q B
 refine⟨.agg i.toArray,?_,⟨i.toArray,rfl,by simpa using E,by simpa using f⟩⟩
 have g:=run_loadCells_list (P:=P) w a i F
 rw[d]at g
 simp[Instr.loadAt,Instr.sureAddr,loadVar,pU x,run_sizeOf y,g]
variable{P:Program}
theorem Cj{v:V}{f:IntKind->Int->Nat->Option V}{r:V}:v.Iq f=some r↔∃k n s,v=.int k n s/\f k n s=some r:=by
 cases v<;>simp[V.Iq]
 case int k n s=>
  constructor
  ·intro h;exact⟨k,n,s,⟨rfl,rfl,rfl⟩,h⟩
  ·rintro⟨_,_,_,⟨rfl,rfl,rfl⟩,h⟩;exact h
theorem AID{v:V}{f:Bool->Option V}{r:V}:v.yG f=some r↔∃b,v=.bool b/\f b=some r:=by
 cases v<;>simp[V.yG]
theorem IJ{v:V}{f:Nat->Nat->Option V}{r:V}:v.VK f=some r↔∃l c,v=.str l c/\f l c=some r:=by
 cases v<;>simp[V.VK]
 case str l c=>
  constructor
  ·intro h;exact⟨l,c,⟨rfl,rfl⟩,h⟩
  ·rintro⟨_,_,⟨rfl,rfl⟩,h⟩;exact h
theorem AEU{v:V}{f:LV->Option V}{r:V}:v.AGP f=some r↔∃l,v=.agg l/\f l=some r:=by
 cases v<;>simp[V.AGP]
theorem ARo{v:V}{f:LV->Option V}{r:V}:v.AQC f=some r↔∃l,v=.Dl l/\f l=some r:=by
 cases v<;>simp[V.AQC]
theorem AJq{v:V}{f g:Nat->Nat->Option V}{r:V}:v.AQb f g=some r↔(∃i o,v=.ptr i o/\f i o=some r)∨(∃i o,v=.gptr i o/\g i o=some r):=by
 cases v<;>simp[V.AQb]
 case ptr l c=>
  constructor
  ·intro h;exact⟨l,c,⟨rfl,rfl⟩,h⟩
  ·rintro⟨_,_,⟨rfl,rfl⟩,h⟩;exact h
 case gptr l c=>
  constructor
  ·intro h;exact⟨l,c,⟨rfl,rfl⟩,h⟩
  ·rintro⟨_,_,⟨rfl,rfl⟩,h⟩;exact h
theorem AG2{n:Int}{f:Nat->Option V}{r:V}:AZo n f=some r↔∃m:Nat,n=m/\f m=some r:=by
 cases n with
 |ofNat m=>exact⟨λh=>⟨m,rfl,h⟩,λ⟨d,h,g⟩=>by cases h;exact g⟩
 |negSucc m=>exact⟨λh=>(by cases h),λ⟨d,h,_⟩=>by cases h⟩
theorem RD{v:V}{f:Nat->Option V}{r:V}:Ym v f=some r↔∃k,∃m:Nat,v=.int k m 0/\f m=some r:=by
 unfold Ym
 rw[Cj]
 constructor
 ·rintro⟨k,n,s,rfl,h⟩
  rw[BJ,AG2]at h
  obtain⟨i,m,rfl,d⟩:=h
  have g:s=0:=by simpa using i
  subst g
  exact⟨k,m,rfl,d⟩
 ·rintro⟨k,m,rfl,d⟩
  exact⟨k,m,0,rfl,by rw[BJ,AG2];exact⟨rfl,m,rfl,d⟩⟩
def B2.op:B2->BinOp
 |.add=>.add|.sub=>.sub|.mul=>.mul|.quo=>.quo|.rem=>.rem|.and=>.and|.or=>.or|.xor=>.xor|.andNot=>.andNot|.shl=>.shl|.shr=>.shr
 |.lss=>.lss|.leq=>.leq|.gtr=>.gtr|.geq=>.geq
theorem AGb{ρ:Loc}{k:IntKind}{n:Int}{s:Nat}{r:V}(h:mkI k n s=some r):Aa ρ r (.int k (k.wrap n)):=by
 obtain⟨f,d,_⟩:=Ac8 k n s
 rw[d]at h;cases h
 simp[Aa]
def AGK(P:Program)(o:B2)(t:TypeId)(u u':Value)(val:Value):Prop:=∀(x y:Operand) (w:World),((do eqGuard o.op t x y u u';binOp o.op t u u'):Sem Value).run P w=.ok val w
theorem AKZ{ρ:Loc}(f:Int->Int->Int){x y r:V}{u d:Value}(g:Aa ρ x u)(i:Aa ρ y d)(h:ari f x y=some r):
 ∃k a b,u=.int k a/\d=.int k b/\Aa ρ r (.int k (k.wrap (f a b))):=by
 unfold ari at h
 rw[Cj]at h
 obtain⟨k,a,s,rfl,h⟩:=h
 rw[Cj]at h
 obtain⟨m,b,t,rfl,h⟩:=h
 rw[BJ,OJ]at h
 obtain⟨rfl,h⟩:=h
 simp only[Aa]at g i
 exact⟨k,a,b,g,i,AGb h⟩
theorem AZf{ρ:Loc}{x y r:V}{u d:Value}(f:Aa ρ x u)(g:Aa ρ y d)(t:TypeId)(h:Afn x y=some r):∃val,AGK P .sub t u d val/\Aa ρ r val:=by
 obtain⟨k,a,b,rfl,rfl,i⟩:=AKZ _ f g h
 refine⟨_,λ_ _ w=>?_,i⟩
 simp[B2.op,eqGuard_at_int,binOp_sub,Op.intArith,Int.sub_eq_add_neg]
 rfl
theorem Aa8{ρ:Loc}{x y r:V}{u d:Value}(f:Aa ρ x u)(g:Aa ρ y d)(t:TypeId)(h:AfM x y=some r):∃val,AGK P .mul t u d val/\Aa ρ r val:=by
 obtain⟨k,a,b,rfl,rfl,i⟩:=AKZ _ f g h
 refine⟨_,λ_ _ w=>?_,i⟩
 simp[B2.op,eqGuard_at_int,binOp_mul,Op.intArith]
theorem JW{ρ:Loc}{l c:Nat}{u:Value}(h:Aa ρ (.str l c) u):∃s:ByteArray,u=.string s/\s.data.toList.length=l/\enc s.data.toList=c:=h
theorem Nv(s:ByteArray):s.size=s.data.toList.length:=by rw[Array.length_toList];rfl
theorem AZ9{ρ:Loc}{x y r:V}{u q:Value}(v:Aa ρ x u)(A:Aa ρ y q)(t:TypeId)(h:AdE x y=some r):∃val,AGK P .add t u q val/\Aa ρ r val:=by
 unfold AdE at h
 rw[jE]at h
 split at h
 ·unfold Aea at h
  rw[IJ]at h
  obtain⟨l,c,rfl,h⟩:=h
  rw[IJ]at h
  obtain⟨m,d,rfl,h⟩:=h
  rw[BJ]at h
  obtain⟨p,h⟩:=h
  simp only[Bv]at h
  cases h
  obtain⟨g,rfl,rfl,rfl⟩:=JW v
  obtain⟨i,rfl,rfl,rfl⟩:=JW A
  have B:g.data.toList.length+i.data.toList.length<9223372036854775808:=by rw[Nat.blt_eq]at p;exact p
  have f:(g++i).data.toList=g.data.toList++i.data.toList:=by simp[ByteArray.data_append]
  refine⟨.string (g++i),λ_ _ w=>?_,⟨g++i,rfl,?_,?_⟩⟩
  ·have C:=run_string_add_sum (P:=P) w g i (by rw[Nv,Nv];omega)
   simp[B2.op,eqGuard_at_string,binOp_string_add,C]
  ·rw[f];simp
  ·rw[f,AYr]
 ·obtain⟨k,a,b,rfl,rfl,D⟩:=AKZ _ v A h
  refine⟨_,λ_ _ w=>?_,D⟩
  simp[B2.op,eqGuard_at_int,binOp_add,Op.intArith]
theorem AYD{ρ:Loc}(f:Int->Int->Int){x y r:V}{u d:Value}(g:Aa ρ x u)(i:Aa ρ y d)(h:dvs f x y=some r):
 ∃k a b,u=.int k a/\d=.int k b/\b≠0/\Aa ρ r (.int k (k.wrap (f a b))):=by
 unfold dvs at h
 rw[Cj]at h
 obtain⟨k,a,s,rfl,h⟩:=h
 rw[Cj]at h
 obtain⟨q,b,t,rfl,h⟩:=h
 rw[BJ]at h
 obtain⟨m,h⟩:=h
 simp only[BK,Bool.and_eq_true,OJ,ABE,U4,Bool.not_eq_true',beq_eq_false_iff_ne]at m
 obtain⟨rfl,_,p⟩:=m
 simp only[Aa]at g i
 exact⟨k,a,b,g,i,p,AGb h⟩
theorem AZg{ρ:Loc}{x y r:V}{u d:Value}(f:Aa ρ x u)(g:Aa ρ y d)(t:TypeId)(h:dvs Int.tdiv x y=some r):∃val,AGK P .quo t u d val/\Aa ρ r val:=by
 obtain⟨k,a,b,rfl,rfl,i,m⟩:=AYD _ f g h
 refine⟨_,λ_ _ w=>?_,m⟩
 simp[B2.op,eqGuard_at_int,binOp_quo,Op.intDiv,i]
theorem Aaa{ρ:Loc}{k:IntKind}{n:Int}{s:Nat}{r:V}(h:mkN k n s=some r):Aa ρ r (.int k n):=by
 cases s with
 |zero=>
  have d:YQ n (λm=>some (.int k m 0))=some r:=h
  rw[eF]at d;cases d;simp[Aa]
 |succ s=>
  have d:some (V.int k n 1)=some r:=h
  cases d;simp[Aa]
theorem AZp{ρ:Loc}{x y r:V}{u d:Value}(f:Aa ρ x u)(g:Aa ρ y d)(t:TypeId)(h:Ab3 x y=some r):∃val,AGK P .rem t u d val/\Aa ρ r val:=by
 unfold Ab3 at h
 rw[Cj]at h
 obtain⟨k,a,s,rfl,h⟩:=h
 rw[Cj]at h
 obtain⟨p,b,q,rfl,h⟩:=h
 rw[BJ]at h
 obtain⟨i,h⟩:=h
 simp only[BK,Bool.and_eq_true,OJ,ABE,U4,Bool.not_eq_true',beq_eq_false_iff_ne]at i
 obtain⟨rfl,_,m⟩:=i
 simp only[Aa]at f g
 subst f g
 refine⟨_,λ_ _ w=>?_,Aaa h⟩
 simp[B2.op,eqGuard_at_int,binOp_rem,Op.intDiv,m]
variable{P:Program}
theorem AWE(k:IntKind)(n:Int):k.wrap (n%2^k.bits)=k.wrap n:=by
 simp only[IntKind.wrap,Int.emod_emod_of_dvd _ (Int.dvd_refl _)]
theorem AGc(k:IntKind)(m n:Nat):bits .and k (.ofNat m) (.ofNat n)=k.wrap (Int.ofNat (m&&&n)):=by
 simp only[bits]
 rw[<-AWE k (Int.ofNat (m&&&n))]
 congr 1
 have d:(BitVec.ofInt k.bits (Int.ofNat m)).toNat=m%2^k.bits:=by simp
 have f:(BitVec.ofInt k.bits (Int.ofNat n)).toNat=n%2^k.bits:=by simp
 rw[BitVec.toNat_and,d,f,<-Nat.and_mod_two_pow]
 simp
theorem Aae(k:IntKind)(a b:Int):AZ4 k a b=bits .and k a b:=by
 cases a with
 |ofNat m=>cases b with
  |ofNat n=>show Z7 k (.ofNat (Nat.land m n))=_;rw[UM,AGc];rfl
  |negSucc n=>rfl
 |negSucc m=>rfl
theorem Aaz{ρ:Loc}{x y r:V}{u d:Value}(f:Aa ρ x u)(g:Aa ρ y d)(t:TypeId)(h:AdC x y=some r):∃val,AGK P .and t u d val/\Aa ρ r val:=by
 unfold AdC at h
 rw[Cj]at h
 obtain⟨k,a,s,rfl,h⟩:=h
 rw[Cj]at h
 obtain⟨m,b,p,rfl,h⟩:=h
 rw[BJ]at h
 obtain⟨i,h⟩:=h
 simp only[BK,Bool.and_eq_true,OJ]at i
 obtain⟨rfl,_⟩:=i
 simp only[Aa]at f g
 subst f g
 rw[eF,Aae]at h
 cases h
 refine⟨.int k (bits .and k a b),λ_ _ w=>?_,by simp[Aa]⟩
 simp[B2.op,eqGuard_at_int,binOp_and,intBits_and]
theorem ANr{ρ:Loc}{x y r:V}{u d:Value}(f:Aa ρ x u)(g:Aa ρ y d)(t:TypeId)(o:B2)(m:o=.or∨o=.xor∨o=.andNot)(h:AYC o.op x y=some r):∃val,AGK P o t u d val/\Aa ρ r val:=by
 unfold AYC at h
 rw[Cj]at h
 obtain⟨k,a,s,rfl,h⟩:=h
 rw[Cj]at h
 obtain⟨p,b,q,rfl,h⟩:=h
 rw[BJ]at h
 obtain⟨i,h⟩:=h
 simp only[BK,Bool.and_eq_true,OJ]at i
 obtain⟨rfl,_⟩:=i
 simp only[Aa]at f g
 subst f g
 rw[eF]at h
 cases h
 refine⟨.int k (bits o.op k a b),λ_ _ w=>?_,by simp[Aa]⟩
 rcases m with rfl|rfl|rfl
 ·simp[B2.op,eqGuard_at_int,binOp_or,intBits_or]
 ·simp[B2.op,eqGuard_at_int,binOp_xor,intBits_xor]
 ·simp[B2.op,eqGuard_at_int,binOp_andNot,intBits_andNot]
theorem APi(k:IntKind):ARF k=k.bits:=by cases k<;>rfl
theorem AZk{ρ:Loc}{x y r:V}{u d:Value}(f:Aa ρ x u)(g:Aa ρ y d)(t:TypeId)(h:Ac6 x y=some r):∃val,AGK P .shr t u d val/\Aa ρ r val:=by
 unfold Ac6 at h
 rw[Cj]at h
 obtain⟨k,a,s,rfl,h⟩:=h
 rw[Cj]at h
 obtain⟨p,b,q,rfl,h⟩:=h
 rw[BJ]at h
 obtain⟨i,h⟩:=h
 simp only[BK,Bool.and_eq_true,ABE,ZX,Bool.not_eq_true',decide_eq_false_iff_not]at i
 obtain⟨m,_⟩:=i
 simp only[Aa]at f g
 subst f g
 rw[eF]at h
 cases h
 refine⟨_,λ_ _ w=>?_,by simp only[Aa];rfl⟩
 have e:Afe a (min b.toNat (ARF k))=a.fdiv (2^min b.toNat k.bits):=by
  rw[APi];show Int.fdiv a (Int.ofNat (2^(min b.toNat k.bits)))=_;rfl
 simp only[B2.op,eqGuard_at_int,binOp_shr,Op.shift,m,if_false,Sem.run_bind,Sem.run_pure,Result.andThen_ok]
 rw[<-e]
theorem Aah{ρ:Loc}{x y r:V}{u d:Value}(f:Aa ρ x u)(g:Aa ρ y d)(t:TypeId)(h:Ad0 x y=some r):∃val,AGK P .shl t u d val/\Aa ρ r val:=by
 unfold Ad0 at h
 rw[Cj]at h
 obtain⟨k,a,s,rfl,h⟩:=h
 rw[Cj]at h
 obtain⟨p,b,q,rfl,h⟩:=h
 rw[BJ]at h
 obtain⟨i,h⟩:=h
 simp only[BK,Bool.and_eq_true,ABE,ZX,Bool.not_eq_true',decide_eq_false_iff_not]at i
 obtain⟨m,_⟩:=i
 simp only[Aa]at f g
 subst f g
 refine⟨_,λ_ _ w=>?_,AGb h⟩
 have e:Int.mul a (Int.ofNat (Nat.pow 2 (Nat.min b.toNat (ARF k))))=a*2^min b.toNat k.bits:=by
  rw[APi];show a*(Int.ofNat (2^(min b.toNat k.bits)))=_;rfl
 simp only[B2.op,eqGuard_at_int,binOp_shl,Op.shift,m,if_false,Sem.run_bind,Sem.run_pure,Result.andThen_ok]
 rw[<-e]
theorem AA4{ρ:Loc}{f:Int->Int->Bool}{x y r:V}{u d:Value}(g:Aa ρ x u)(i:Aa ρ y d)(h:AVG f x y=some r):
 ∃k a b,u=.int k a/\d=.int k b/\r=.bool (f a b):=by
 unfold AVG at h
 rw[Cj]at h
 obtain⟨k,a,s,rfl,h⟩:=h
 rw[Cj]at h
 obtain⟨p,b,q,rfl,h⟩:=h
 rw[BJ]at h
 obtain⟨m,h⟩:=h
 simp only[BK,Bool.and_eq_true,OJ]at m
 obtain⟨rfl,_⟩:=m
 simp only[Aa]at g i
 rw[TR]at h
 cases h
 exact⟨k,a,b,g,i,rfl⟩
theorem ABH{ρ:Loc}{f:Nat->Nat->Nat->Nat->Bool}{x y r:V}{u g:Value}(i:Aa ρ x u)(k:Aa ρ y g)(h:APb f x y=some r):
 ∃s s':ByteArray,u=.string s/\g=.string s'/\r=.bool (f s.data.toList.length (enc s.data.toList) s'.data.toList.length (enc s'.data.toList)):=by
 unfold APb at h
 rw[IJ]at h
 obtain⟨l,c,rfl,h⟩:=h
 rw[IJ]at h
 obtain⟨m,d,rfl,h⟩:=h
 rw[TR]at h
 cases h
 obtain⟨p,rfl,rfl,rfl⟩:=JW i
 obtain⟨q,rfl,rfl,rfl⟩:=JW k
 exact⟨p,q,rfl,rfl,rfl⟩
theorem AII{ρ:Loc}(b:Bool):Aa ρ (.bool b) (.bool b):=by simp[Aa]
theorem Aac{ρ:Loc}{x y r:V}{u d:Value}(f:Aa ρ x u)(g:Aa ρ y d)(t:TypeId)(h:Ad7 x y=some r):∃val,AGK P .lss t u d val/\Aa ρ r val:=by
 unfold Ad7 at h
 rw[jE]at h
 split at h
 ·obtain⟨s,m,rfl,rfl,i⟩:=ABH f g h
  simp only[AFs]at i
  subst i
  refine⟨_,λ_ _ w=>?_,AII _⟩
  simp only[B2.op,eqGuard_at_string,Sem.run_bind,Sem.run_pure,Result.andThen_ok,binOp_string_lss,ByteArray.toList_eq]
 ·obtain⟨k,a,b,rfl,rfl,rfl⟩:=AA4 f g h
  refine⟨_,λ_ _ w=>?_,AII _⟩
  simp[B2.op,eqGuard_at_int,binOp_lss]
theorem ANe(a b:List UInt8):(a==b)=(Nat.beq a.length b.length&&Nat.beq (enc a) (enc b)):=by
 rw[Bool.eq_iff_iff]
 simp only[beq_iff_eq,Bool.and_eq_true,beq_iff]
 exact⟨λh=>by subst h;exact⟨rfl,rfl⟩,λh=>ATw a b h.1 h.2⟩
theorem Ze:∀(a b:List UInt8),(Op.bytesLess a b||a==b)= !Op.bytesLess b a
 |[],[]=>rfl
 |[],y::b=>rfl
 |x::a,[]=>rfl
 |x::a,y::b=>by
  have g:=Ze a b
  simp only[Op.bytesLess]
  by_cases d:x=y
  ·subst d;simpa using g
  ·have f:¬y=x:=λe=>d e.symm
   have i:(x::a==y::b)=false:=by simp[d]
   have k:(x==y)=false:=by simpa using d
   have m:(y==x)=false:=by simpa using f
   rw[i,k,m]
   simp only[Bool.false_and,Bool.or_false]
   rw[Bool.eq_iff_iff]
   simp only[decide_eq_true_eq,Bool.not_eq_true',decide_eq_false_iff_not,UInt8.lt_iff_toNat_lt]
   have:x.toNat≠y.toNat:=λe=>d (UInt8.toNat_inj.1 e)
   omega
theorem AZ5{ρ:Loc}{x y r:V}{u f:Value}(g:Aa ρ x u)(i:Aa ρ y f)(t:TypeId)(h:Adb x y=some r):∃val,AGK P .leq t u f val/\Aa ρ r val:=by
 unfold Adb at h
 rw[jE]at h
 split at h
 ·obtain⟨s,d,rfl,rfl,m⟩:=ABH g i h
  simp only[AFs,ABE]at m
  subst m
  refine⟨_,λ_ _ w=>?_,AII _⟩
  have:=Ze s.data.toList d.data.toList
  simp only[B2.op,eqGuard_at_string,Sem.run_bind,Sem.run_pure,Result.andThen_ok]
  have e:binOp .leq t (.string s) (.string d)=Op.stringOp .leq s d:=by simp[binOp]
  rw[e]
  simp only[Op.stringOp,ByteArray.toList_eq,this,Sem.run_pure]
 ·obtain⟨k,a,b,rfl,rfl,rfl⟩:=AA4 g i h
  refine⟨_,λ_ _ w=>?_,AII _⟩
  simp[B2.op,eqGuard_at_int,binOp_leq]
theorem AZF{ρ:Loc}{x y r:V}{u f:Value}(g:Aa ρ x u)(i:Aa ρ y f)(t:TypeId)(h:AcA x y=some r):∃val,AGK P .gtr t u f val/\Aa ρ r val:=by
 unfold AcA at h
 rw[jE]at h
 split at h
 ·obtain⟨s,d,rfl,rfl,m⟩:=ABH g i h
  simp only[AFs]at m
  subst m
  refine⟨_,λ_ _ w=>?_,AII _⟩
  have:=Ze s.data.toList d.data.toList
  simp only[B2.op,eqGuard_at_string,Sem.run_bind,Sem.run_pure,Result.andThen_ok]
  have e:binOp .gtr t (.string s) (.string d)=Op.stringOp .gtr s d:=by simp[binOp]
  rw[e]
  simp only[Op.stringOp,ByteArray.toList_eq,this,Sem.run_pure,Bool.not_not]
 ·obtain⟨k,a,b,rfl,rfl,rfl⟩:=AA4 g i h
  refine⟨_,λ_ _ w=>?_,AII _⟩
  simp[B2.op,eqGuard_at_int,binOp_gtr]
theorem AZb{ρ:Loc}{x y r:V}{u d:Value}(f:Aa ρ x u)(g:Aa ρ y d)(t:TypeId)(h:Acd x y=some r):∃val,AGK P .geq t u d val/\Aa ρ r val:=by
 unfold Acd at h
 rw[jE]at h
 split at h
 ·obtain⟨s,i,rfl,rfl,m⟩:=ABH f g h
  simp only[AFs,ABE]at m
  subst m
  refine⟨_,λ_ _ w=>?_,AII _⟩
  simp only[B2.op,eqGuard_at_string,Sem.run_bind,Sem.run_pure,Result.andThen_ok]
  have e:binOp .geq t (.string s) (.string i)=Op.stringOp .geq s i:=by simp[binOp]
  rw[e]
  simp only[Op.stringOp,ByteArray.toList_eq,Sem.run_pure]
 ·obtain⟨k,a,b,rfl,rfl,rfl⟩:=AA4 f g h
  refine⟨_,λ_ _ w=>?_,AII _⟩
  simp[B2.op,eqGuard_at_int,binOp_geq]
variable{P:Program}
def ckT(P:Program)(t:TypeId):Option CK:=
 match P.underlying t with
 |some (.int _)=>some .int
 |some .string=>some .str
 |some .bool=>some .bool
 |some (.pointer e)=>match szT P e with|some (_+1)=>some .ptr|_=>none
 |_=>none
def AVf(P:Program)(g:TypeId->Option (List CK)):List Field->Nat->Option (List CK)
 |[],_=>some []
 |f::fs,off=>if f.name≠ "_" /\f.offset=off then(g f.type).bind λks=>if szT P f.type=some ks.length then(AVf P g fs (off+ks.length)).map λr=>ks++r else none else none
def ALw(P:Program):Nat->TypeId->Option (List CK)
 |0,_=>none
 |d+1,t=>match P.underlying t with
  |some (.struct fs)=>if P.stoodInHeld t then none else AVf P (ALw P d) fs.toList 0
  |_=>(ckT P t).map λk=>[k]
def ekT(P:Program)(t:TypeId):Option EK:=
 match P.underlying t with
 |some (.struct _)=>if P.eqGuardType P.depth t then none else(ALw P 50 t).map .agg
 |some (.slice _)=>some .sl
 |some (.func _ _ _)=>some .fn
 |some (.map _ _)=>some .map
 |_=>(ckT P t).map .one
theorem ADp{v:V}{k:IntKind}{n:Int}{s:Nat}{b:Bool}(h:AWa v k n s=some b):∃m s',v=.int k m s'/\b=(n==m):=by
 cases v<;>simp only[AWa]at h<;>try (cases h;done)
 rename_i g m s'
 cases d:band (keq k g) (Nat.beq (Nat.add s s') 0)with
 |false=>rw[d]at h;cases h
 |true=>
  rw[d]at h
  simp only[BK,Bool.and_eq_true,OJ]at d
  obtain⟨rfl,_⟩:=d
  have f:some (ieq n m)=some b:=h
  rw[U4]at f
  exact⟨m,s',rfl,(Option.some.inj f).symm⟩
theorem AHS{ρ:Loc}{t:TypeId}{k:CK}(p:ckT P t=some k){x y:V}{u G:Value}(g:Aa ρ x u)(i:Aa ρ y G){b:Bool}(h:k.eq x y=some b)(d:Nat)(w:World):
 (Op.equalIn (d+1) t u G).run P w=.ok b w:=by
 unfold ckT at p
 split at p
 ·cases p
  have f:AQG x y=some b:=h
  cases x<;>simp only[AQG]at f<;>try (cases f;done)
  obtain⟨m,N,rfl,rfl⟩:=ADp f
  simp only[Aa]at g i
  subst g i
  exact run_equalIn_int w d t _ _ _ _ (by assumption)
 ·cases p
  have f:AQ5 x y=some b:=h
  cases x<;>simp only[AQ5]at f<;>try (cases f;done)
  cases y<;>simp only[eqStr]at f<;>try (cases f;done)
  obtain⟨O,rfl,rfl,rfl⟩:=JW g
  obtain⟨Q,rfl,rfl,rfl⟩:=JW i
  rw[run_equalIn_string w d t _ _ (by assumption),ByteArray.toList_eq,ByteArray.toList_eq,ANe]
  simp only[BK]at f
  rw[Option.some.inj f]
 ·cases p
  have f:AIL x y=some b:=h
  cases x<;>simp only[AIL]at f<;>try (cases f;done)
  cases y<;>simp only[ARw]at f<;>try (cases f;done)
  simp only[Aa]at g i
  subst g i
  rw[run_equalIn_bool' w d t _ _ (by assumption)]
  simp only[AOo]at f
  rw[Option.some.inj f]
 ·rename_i e q
  split at p<;>cases p
  rename_i m I
  have B:=run_sizeOf (P:=P) I w
  have f:ANu x y=some b:=h
  cases x<;>simp only[ANu]at f<;>try (cases f;done)
  ·cases y<;>simp only[AWZ]at f<;>try (cases f;done)
   ·cases f;simp only[Aa]at g i;subst g i;simp[Op.equalIn,run_underlying q]
   ·cases f;simp only[Aa]at g i;obtain⟨z,_,rfl⟩:=i;subst g;simp[Op.equalIn,run_underlying q]
   ·cases f;simp only[Aa]at g i;subst g i;simp[Op.equalIn,run_underlying q]
  ·rename_i H C
   cases y<;>simp only[Abf]at f<;>try (cases f;done)
   ·cases f;simp only[Aa]at g i;obtain⟨z,_,rfl⟩:=g;subst i;simp[Op.equalIn,run_underlying q]
   ·rename_i v A
    cases D:Nat.beq H v with
    |false=>rw[D]at f;cases f
    |true=>
     rw[D]at f
     have J:H=v:=Nat.eq_of_beq_eq_true D
     subst J
     simp only[Aa]at g i
     obtain⟨z,K,rfl⟩:=g
     obtain⟨L,E,rfl⟩:=i
     have M:z=L:=Option.some.inj (K.symm.trans E)
     subst M
     have F:Nat.beq C A=b:=Option.some.inj f
     simp only[Op.equalIn,Sem.run_bind,run_underlying q,Result.andThen_ok,B,ne_eq,Nat.add_one_ne_zero,not_false_eq_true,if_true,sameAddr,beq_self_eq_true,Sem.run_pure]
     congr 1
     rw[<-F,Bool.eq_iff_iff]
     simp
  ·cases y<;>simp only[AYu]at f<;>try (cases f;done)
   cases f;simp only[Aa]at g i;subst g i;simp[Op.equalIn,run_underlying q]
 ·cases p
theorem VL{q:CK->V->V->Option Bool}{k:CK}{g:List CK}{x:V}{xs:LV}{y:V}{ys:LV}{b:Bool}:AC8 q (k::g) (x::xs) (y::ys)=some b↔∃r d,q k x y=some r/\AC8 q g xs ys=some d/\b=(r&&d):=by
 show Ld (q k x y) (λr=>Ld (AC8 q g xs ys) λd=>some (band r d))=some b↔_
 rw[AEr]
 constructor
 ·rintro⟨r,i,h⟩
  rw[AEr]at h
  obtain⟨d,f,h⟩:=h
  rw[BK]at h
  exact⟨r,d,i,f,(Option.some.inj h).symm⟩
 ·rintro⟨r,d,i,f,rfl⟩
  exact⟨r,i,by rw[AEr];exact⟨d,f,by rw[BK]⟩⟩
theorem AKl{q:CK->V->V->Option Bool}:∀{d:List CK} {xs ys:LV} {b:Bool},AC8 q d xs ys=some b->xs.length=d.length/\ys.length=d.length
 |[],[],[],_,_=>⟨rfl,rfl⟩
 |[],[],_::_,_,h=>by cases h
 |[],_::_,_,_,h=>by cases h
 |_::_,[],_,_,h=>by cases h
 |_::_,_::_,[],_,h=>by cases h
 |k::d,x::xs,y::ys,b,h=>by
  obtain⟨_,_,_,f,_⟩:=VL.1 h
  have:=AKl f
  simp[this.1,this.2]
theorem AHt{q:CK->V->V->Option Bool}:∀{f d:List CK} {xs ys:LV} {b:Bool},AC8 q (f++d) xs ys=some b->
 ∃r g,AC8 q f (xs.take f.length) (ys.take f.length)=some r/\AC8 q d (xs.drop f.length) (ys.drop f.length)=some g/\b=(r&&g)/\f.length<=xs.length/\f.length<=ys.length
 |[],d,xs,ys,b,h=>⟨true,b,rfl,h,by simp,by simp,by simp⟩
 |k::f,d,[],ys,b,h=>by cases h
 |k::f,d,x::xs,[],b,h=>by cases h
 |k::f,d,x::xs,y::ys,b,h=>by
  obtain⟨r,g,p,i,rfl⟩:=VL.1 h
  obtain⟨m,u,v,w,rfl,A,B⟩:=AHt i
  exact⟨r&&m,u,VL.2 ⟨r,m,p,v,rfl⟩,w,by rw[Bool.and_assoc],by simpa using A,by simpa using B⟩
mutual
theorem ASJ{ρ:Loc}{q:CK->V->V->Option Bool}{w:World}(hq:∀{t:TypeId} {k:CK} {x y:V} {u u':Value} {b:Bool},ckT P t=some k->Aa ρ x u->Aa ρ y u'->q k x y=some b->∀d,(Op.equalIn (d+1) t u u').run P w=.ok b w):∀(d:Nat) (t:TypeId) (ks:List CK),ALw P d t=some ks->∀(xs ys:LV) (u u':List Value) (b:Bool),Bq ρ xs u->Bq ρ ys u'->AC8 q ks xs ys=some b->xs.length=ks.length->ys.length=ks.length->
 ∀(e:Nat),(La P t=some true->(Op.equalIn (d+e+1) t (.agg u.toArray) (.agg u'.toArray)).run P w=.ok b w)/\
  (La P t=some false->∃v v',u=[v]/\u'=[v']/\(Op.equalIn (d+e+1) t v v').run P w=.ok b w)
 |0,_,_,h=>by simp[ALw]at h
 |d+1,t,ks,h=>by
  intro xs ys u u' b hx hy hb hlx hly e
  simp only[ALw]at h
  split at h
  ·rename_i fs hu
   split at h
   ·cases h
   ·rename_i hst
    refine⟨λ_=>?_,λha=>by simp[La,hu]at ha⟩
    have hf:P.underlying t=some (.struct (P.fieldsOf t)):=by simp[Program.fieldsOf,hu]
    have hfs:P.fieldsOf t=fs:=by simp[Program.fieldsOf,hu]
    rw[show d+1+e+1=(d+e+1)+1 by omega,run_equalIn_struct w (d+e+1) t _ _ hf (by simpa using hst),hfs]
    exact AMs hq d fs.toList 0 ks h xs ys u u' b hx hy (by simpa using hb) (by simpa using hlx) (by simpa using hly) e
  ·rename_i hns
   cases hk:ckT P t with
   |none=>rw[hk]at h;cases h
   |some k=>
    rw[hk]at h
    have hks:[k]=ks:=Option.some.inj h
    subst hks
    refine⟨λha=>?_,λ_=>?_⟩
    ·exfalso
     unfold ckT at hk
     unfold La at ha
     split at ha<;>rename_i hu<;>rw[hu]at hk<;>first|(cases hk;done)|(cases ha;done)
    ·match xs,ys,hlx,hly with
     |[x],[y],_,_=>
      obtain⟨v,vs,rfl,hv,hr⟩:=Jg.1 hx
      obtain⟨v',vs',rfl,hv',hr'⟩:=Jg.1 hy
      simp only[AF1]at hr hr'
      subst hr hr'
      obtain⟨r,r',h1,h2,rfl⟩:=VL.1 hb
      have h2':some true=some r':=h2
      cases h2'
      exact⟨v,v',rfl,rfl,by rw[Bool.and_true];exact hq hk hv hv' h1 _⟩
theorem AMs{ρ:Loc}{q:CK->V->V->Option Bool}{w:World}(hq:∀{t:TypeId} {k:CK} {x y:V} {u u':Value} {b:Bool},ckT P t=some k->Aa ρ x u->Aa ρ y u'->q k x y=some b->∀d,(Op.equalIn (d+1) t u u').run P w=.ok b w):∀(d:Nat) (fs:List Field) (off:Nat) (ks:List CK),AVf P (ALw P d) fs off=some ks->∀(xs ys:LV) (u u':List Value) (b:Bool),Bq ρ xs u->Bq ρ ys u'->AC8 q ks (xs.drop off) (ys.drop off)=some b->
 xs.length=off+ks.length->ys.length=off+ks.length->∀(e:Nat),(Op.eqFields (d+e+1) u.toArray u'.toArray fs).run P w=.ok b w
 |d,[],off,ks,h=>by
  intro xs ys u u' b _ _ hb hlx hly e
  simp only[AVf]at h
  cases h
  have hxn:xs.drop off=[]:=by rw[List.drop_eq_nil_iff];simpa using Nat.le_of_eq hlx
  have hyn:ys.drop off=[]:=by rw[List.drop_eq_nil_iff];simpa using Nat.le_of_eq hly
  rw[hxn,hyn]at hb
  have hb':some true=some b:=hb
  cases hb'
  simp[Op.eqFields]
 |d,f::fs,off,ks,h=>by
  intro xs ys u u' b hx hy hb hlx hly e
  simp only[AVf]at h
  split at h
  ·rename_i hc
   obtain⟨hname,hoff⟩:=hc
   simp only[Option.bind_eq_some_iff]at h
   obtain⟨k1,hk1,h⟩:=h
   split at h
   ·rename_i hsz
    cases hg:AVf P (ALw P d) fs (off+k1.length)with
    |none=>rw[hg]at h;cases h
    |some k2=>
     rw[hg]at h
     have hks:k1++k2=ks:=Option.some.inj h
     subst hks
     obtain⟨r,r',h1,h2,rfl,h3,h4⟩:=AHt hb
     rw[List.drop_drop]at h2
     rw[List.drop_drop]at h2
     simp only[List.length_append]at hlx hly
     have hlu:=hx.length
     have hlu':=hy.length
     have key:=ASJ (ρ:=ρ) hq d f.type k1 hk1 _ _ _ _ r ((hx.drop off).take k1.length) ((hy.drop off).take k1.length) h1 (by simp;omega) (by simp;omega) e
     have ih:=AMs (ρ:=ρ) hq d fs (off+k1.length) k2 hg xs ys u u' r' hx hy h2 (by omega) (by omega) e
     have hne:f.name≠ "_" :=hname
     simp only[Op.eqFields,hne,ne_eq,not_false_eq_true,if_true,Sem.run_bind]
     cases ha:La P f.type with
     |none=>simp[La]at ha;split at ha<;>simp_all;cases d<;>simp_all [ALw,ckT]
     |some bb=>
      have hagg:=pU (P:=P) ha w
      have hso:=run_sizeOf (P:=P) hsz w
      cases bb with
      |true=>
       have hrun:=key.1 ha
       have p1:(Go.part f.type u.toArray f.offset).run P w=.ok (.agg ((u.drop off).take k1.length).toArray) w:=by
        simp only[Go.part,Sem.run_bind,hagg,Result.andThen_ok,if_true,hso,Sem.run_pure,hoff]
        congr 2
        apply Array.ext'
        simp
       have p2:(Go.part f.type u'.toArray f.offset).run P w=.ok (.agg ((u'.drop off).take k1.length).toArray) w:=by
        simp only[Go.part,Sem.run_bind,hagg,Result.andThen_ok,if_true,hso,Sem.run_pure,hoff]
        congr 2
        apply Array.ext'
        simp
       rw[p1,Result.andThen_ok,p2,Result.andThen_ok,hrun,Result.andThen_ok]
       cases r with
       |true=>simpa using ih
       |false=>simp
      |false=>
       obtain⟨v,v',hv,hv',hrun⟩:=key.2 ha
       have q1:u[off]? =some v:=by
        have:((u.drop off).take k1.length)[0]? =some v:=by rw[hv];rfl
        rw[List.getElem?_take]at this
        split at this
        ·simpa using this
        ·cases this
       have q2:u'[off]? =some v':=by
        have:((u'.drop off).take k1.length)[0]? =some v':=by rw[hv'];rfl
        rw[List.getElem?_take]at this
        split at this
        ·simpa using this
        ·cases this
       have p1:(Go.part f.type u.toArray f.offset).run P w=.ok v w:=by
        simp[Go.part,Sem.run_bind,hagg,Result.andThen_ok,hoff,q1]
       have p2:(Go.part f.type u'.toArray f.offset).run P w=.ok v' w:=by
        simp[Go.part,Sem.run_bind,hagg,Result.andThen_ok,hoff,q2]
       rw[p1,Result.andThen_ok,p2,Result.andThen_ok,hrun,Result.andThen_ok]
       cases r with
       |true=>simpa using ih
       |false=>simp
   ·cases h
  ·cases h
end
def ACs:Value->Bool
 |.bool _|.slice _ _ _|.map _|.nilFunc|.func _ _ _|.pointer _=>true
 |_=>false
theorem AFT{u d:Value}(g:ACs u=true){t:TypeId}{b:Bool}{w:World}(f:(Op.equalIn (9999+1) t u d).run P w=.ok b w)(o:BinOp)(p:o=.eql∨o=.neq)(X Y:Operand):
 ((do eqGuard o t X Y u d;binOp o t u d):Sem Value).run P w=.ok (.bool (if o=.neq then !b else b)) w:=by
 have k:eqGuard o t X Y u d=pure ():=by
  cases u<;>simp only[ACs,Bool.false_eq_true]at g
  ·exact eqGuard_at_bool _ _ _ _ _ _
  ·exact eqGuard_at_pointer _ _ _ _ _ _
  ·exact eqGuard_at_slice _ _ _ _ _ _ _ _
  ·exact eqGuard_at_map _ _ _ _ _ _
  ·exact eqGuard_at_func _ _ _ _ _ _ _ _
  ·exact eqGuard_at_nilFunc _ _ _ _ _
 have m:(Op.equal t u d).run P w=.ok b w:=f
 rcases p with rfl|rfl
 ·have i:binOp .eql t u d=(do let r<-Op.equal t u d;pure (.bool r)):=by
   cases u<;>simp only[ACs,Bool.false_eq_true]at g<;>first|rfl|(cases d<;>rfl)
  simp only[k,i,Sem.run_bind,Sem.run_pure,Result.andThen_ok,m]
  simp
 ·have i:binOp .neq t u d=(do let r<-Op.equal t u d;pure (.bool !r)):=by
   cases u<;>simp only[ACs,Bool.false_eq_true]at g<;>first|rfl|(cases d<;>rfl)
  simp only[k,i,Sem.run_bind,Sem.run_pure,Result.andThen_ok,m]
  simp
theorem AgE{ρ:Loc}{t e:TypeId}(D:P.underlying t=some (.slice e)){x y:V}{u k:Value}(i:Aa ρ x u)(f:Aa ρ y k){b:Bool}(h:kSl x y=some b)(d:Nat)(w:World):
 ACs u=true/\(Op.equalIn (d+1) t u k).run P w=.ok b w:=by
 have g:∀v,rF v=some false->Aa ρ v k->k=.slice none 0 0:=by
  intro v h E
  cases v<;>simp only[rF]at h<;>first|(cases h;done)|skip
  exact E
 have A:∀p n c,u=.slice (some p) n c->k=.slice none 0 0->b=false->ACs u=true/\(Op.equalIn (d+1) t u k).run P w=.ok b w:=by
  rintro p n c rfl rfl rfl
  exact⟨rfl,by simp[Op.equalIn,run_underlying D]⟩
 have B:∀v,rF v=some b->b=false:=by
  intro v C
  cases v<;>simp only[rF]at C<;>first|(cases C;done)|skip
  exact(Option.some.inj C).symm
 cases x<;>simp only[kSl]at h<;>try (cases h;done)
 ·simp only[Aa]at i
  subst i
  refine⟨rfl,?_⟩
  have F:∃q n c,k=.slice q n c/\b=q.isNone:=by
   cases y<;>simp only[AWP]at h<;>try (cases h;done)
   ·exact⟨_,_,_,f,(Option.some.inj h).symm⟩
   ·simp only[Aa]at f;obtain⟨_,a,_,f,_⟩:=f;exact⟨some a,_,_,f,(Option.some.inj h).symm⟩
   ·simp only[Aa]at f;obtain⟨_,a,_,_,f,_⟩:=f;exact⟨some a,_,_,f,(Option.some.inj h).symm⟩
   ·simp only[Aa]at f;obtain⟨a,f,_⟩:=f;exact⟨some a,_,_,f,(Option.some.inj h).symm⟩
  obtain⟨q,n,c,rfl,rfl⟩:=F
  simp[Op.equalIn,run_underlying D]
 ·have m:=B _ h
  subst m
  simp only[Aa]at i
  obtain⟨_,a,_,i,_⟩:=i
  exact A _ _ _ i (g _ h f) rfl
 ·have m:=B _ h
  subst m
  simp only[Aa]at i
  obtain⟨_,a,_,_,i,_⟩:=i
  exact A _ _ _ i (g _ h f) rfl
 ·have m:=B _ h
  subst m
  simp only[Aa]at i
  obtain⟨a,i,_⟩:=i
  exact A _ _ _ i (g _ h f) rfl
theorem Ae6{ρ:Loc}{t:TypeId}{ps m:Array TypeId}{p:Bool}(i:P.underlying t=some (.func ps m p)){x y:V}{u k:Value}(g:Aa ρ x u)(f:Aa ρ y k){b:Bool}(h:kFn x y=some b)(d:Nat)(w:World):
 ACs u=true/\(Op.equalIn (d+1) t u k).run P w=.ok b w:=by
 cases x<;>simp only[kFn]at h<;>try (cases h;done)
 ·simp only[Aa]at g
  subst g
  cases y<;>simp only[AXd]at h<;>try (cases h;done)
  ·cases h;simp only[Aa]at f;subst f;exact⟨rfl,by simp[Op.equalIn,run_underlying i]⟩
  ·cases h;simp only[Aa]at f;obtain⟨_,_,rfl,_⟩:=f;exact⟨rfl,by simp[Op.equalIn,run_underlying i]⟩
 ·simp only[Aa]at g
  obtain⟨_,_,rfl,_⟩:=g
  cases y<;>simp only[ATp]at h<;>try (cases h;done)
  cases h;simp only[Aa]at f;subst f;exact⟨rfl,by simp[Op.equalIn,run_underlying i]⟩
theorem map_eq{ρ:Loc}{t m p:TypeId}(i:P.underlying t=some (.map m p)){x y:V}{u k:Value}(g:Aa ρ x u)(f:Aa ρ y k){b:Bool}(h:AcQ x y=some b)(d:Nat)(w:World):
 ACs u=true/\(Op.equalIn (d+1) t u k).run P w=.ok b w:=by
 cases x<;>simp only[AcQ]at h<;>try (cases h;done)
 ·simp only[Aa]at g
  subst g
  cases y<;>simp only[AXR]at h<;>try (cases h;done)
  ·cases h;simp only[Aa]at f;subst f;exact⟨rfl,by simp[Op.equalIn,run_underlying i]⟩
  ·cases h;simp only[Aa]at f;obtain⟨_,_,rfl⟩:=f;exact⟨rfl,by simp[Op.equalIn,run_underlying i]⟩
 ·simp only[Aa]at g
  obtain⟨_,_,rfl⟩:=g
  cases y<;>simp only[AUh]at h<;>try (cases h;done)
  cases h;simp only[Aa]at f;subst f;exact⟨rfl,by simp[Op.equalIn,run_underlying i]⟩
theorem AXq{ρ:Loc}{x y:V}{u:Value}(d:Aa ρ x u){b:Bool}(h:AIL x y=some b):ACs u=true:=by
 cases x<;>simp only[AIL]at h<;>try (cases h;done)
 simp only[Aa]at d;subst d;rfl
theorem Aak{ρ:Loc}{x y:V}{u:Value}(d:Aa ρ x u){b:Bool}(h:ANu x y=some b):ACs u=true:=by
 cases x<;>simp only[ANu]at h<;>try (cases h;done)
 ·simp only[Aa]at d;subst d;rfl
 ·simp only[Aa]at d;obtain⟨_,_,rfl⟩:=d;rfl
 ·simp only[Aa]at d;subst d;rfl
theorem AbE{ρ:Loc}{t:TypeId}{k:EK}(g:ekT P t=some k){x y:V}{u J:Value}(p:Aa ρ x u)(v:Aa ρ y J){b:Bool}(h:k.eq x y=some b)(o:BinOp)(B:o=.eql∨o=.neq)(X Y:Operand)(w:World):
 ((do eqGuard o t X Y u J;binOp o t u J):Sem Value).run P w=.ok (.bool (if o=.neq then !b else b)) w:=by
 unfold ekT at g
 split at g
 ·rename_i U D
  split at g
  ·cases g
  ·rename_i K
   cases E:ALw P 50 t with
   |none=>rw[E]at g;cases g
   |some I=>
    rw[E]at g
    have F:EK.agg I=k:=Option.some.inj g
    subst F
    have i:Acx x I y=some b:=h
    cases x<;>simp only[Acx]at i<;>try (cases i;done)
    cases y<;>simp only[AbV]at i<;>try (cases i;done)
    rename_i M N
    simp only[Aa]at p v
    obtain⟨a,rfl,L,_⟩:=p
    obtain⟨R,rfl,G,_⟩:=v
    have i:AC8 CK.eq I M N=some b:=i
    have C:=AKl i
    have f:=(ASJ (P:=P) (q:=CK.eq) (w:=w) (λg p v h d=>AHS g p v h d w) 50 t I E M N _ _ b L G i C.1 C.2 9949).1 (by simp[La,D])
    simp only[Array.toArray_toList]at f
    have O:=run_eqGuard_agg (P:=P) w o t X Y a R (by simpa using K)
    rcases B with rfl|rfl
    ·simp only[Sem.run_bind,O,Result.andThen_ok,run_eql_struct]
     rw[f];simp
    ·simp only[Sem.run_bind,O,Result.andThen_ok,run_neq_struct]
     rw[f];simp
 ·rename_i e D
  cases g
  obtain⟨H,f⟩:=AgE D p v h 9999 w
  exact AFT H f o B X Y
 ·rename_i D
  cases g
  obtain⟨H,f⟩:=Ae6 D p v h 9999 w
  exact AFT H f o B X Y
 ·rename_i D
  cases g
  obtain⟨H,f⟩:=map_eq D p v h 9999 w
  exact AFT H f o B X Y
 ·cases E:ckT P t with
  |none=>rw[E]at g;cases g
  |some c=>
   rw[E]at g
   have F:EK.one c=k:=Option.some.inj g
   subst F
   have i:c.eq x y=some b:=h
   have f:=AHS (P:=P) E p v i 9999 w
   cases c with
   |int=>
    have A:AQG x y=some b:=i
    cases x<;>simp only[AQG]at A<;>try (cases A;done)
    obtain⟨m,W,rfl,rfl⟩:=ADp A
    simp only[Aa]at p v
    subst p v
    rcases B with rfl|rfl
    ·simp only[eqGuard_at_int,binOp_eql,Sem.run_bind,Sem.run_pure,Result.andThen_ok];simp
    ·simp only[eqGuard_at_int,binOp_neq,Sem.run_bind,Sem.run_pure,Result.andThen_ok,bne];simp
   |str=>
    have A:AQ5 x y=some b:=i
    cases x<;>simp only[AQ5]at A<;>try (cases A;done)
    cases y<;>simp only[eqStr]at A<;>try (cases A;done)
    obtain⟨S,rfl,rfl,rfl⟩:=JW p
    obtain⟨T,rfl,rfl,rfl⟩:=JW v
    simp only[BK]at A
    have Q:(S.data.toList==T.data.toList)=b:=by rw[ANe];exact Option.some.inj A
    rcases B with rfl|rfl
    ·simp only[eqGuard_at_string,binOp_string_eql,ByteArray.toList_eq,Q,Sem.run_bind,Sem.run_pure,Result.andThen_ok];simp
    ·simp only[eqGuard_at_string,binOp_string_neq,ByteArray.toList_eq,Q,Sem.run_bind,Sem.run_pure,Result.andThen_ok];simp
   |bool=>exact AFT (AXq p i) f o B X Y
   |ptr=>exact AFT (Aak p i) f o B X Y
theorem AKq{H:Heap}{id:Nat}(h:TD H id=true):∃esz d c,T.get H id=some (.arr esz d c)/\esz≠1:=by
 unfold TD at h
 cases f:T.get H id with
 |none=>rw[f]at h;cases h
 |some b=>
  rw[f]at h
  cases b with
  |arr esz d c=>
   refine⟨esz,d,c,rfl,λe=>?_⟩
   subst e
   cases h
  |map=>cases h
  |dead=>cases h
  |qU=>cases h
  |own=>cases h
theorem AS3{ok:Nat->Bool}{x y:V}{b:Bool}(h:AFl ok x y=some b):ANu x y=some b∨∃i o j o',x=.ptr i o/\y=.ptr j o'/\i≠j/\ok i=true/\ok j=true/\b=false:=by
 unfold AFl at h
 cases f:ANu x y with
 |some c=>rw[f]at h;exact .inl h
 |none=>
  rw[f]at h
  right
  have h:ARx ok x y=some b:=h
  unfold ARx at h
  cases x with
  |ptr i o=>
   cases y with
   |ptr j o'=>
    have h:Bool.rec (motive:=λ_=>Option Bool) none (some false) (band (Qq (Nat.beq i j)) (band (ok i) (ok j)))=some b:=h
    cases d:band (Qq (Nat.beq i j)) (band (ok i) (ok j))with
    |false=>rw[d]at h;cases h
    |true=>
     rw[d]at h
     cases h
     simp only[BK,Bool.and_eq_true]at d
     refine⟨i,o,j,o',rfl,rfl,λe=>?_,d.2.1,d.2.2,rfl⟩
     subst e
     have:=d.1
     rw[Nat.beq_refl]at this
     cases this
   |_=>cases h
  |_=>cases h
theorem AaH{w0:World}{ρ:Loc}{H:Heap}{n:Nat}{w:World}(hh:DZ w0 ρ H n w){t:TypeId}{G:List CK}(f:ekT P t=some (.agg G)){x y:V}{u C:Value}(p:Aa ρ x u)(v:Aa ρ y C){b:Bool}(h:AFi (TD H) G x y=some b)(o:BinOp)(ho:o=.eql∨o=.neq)(X Y:Operand):
 ((do eqGuard o t X Y u C;binOp o t u C):Sem Value).run P w=.ok (.bool (if o=.neq then !b else b)) w:=by
 have hq:∀{t:TypeId} {k:CK} {x y:V} {u C:Value} {b:Bool},ckT P t=some k->Aa ρ x u->Aa ρ y C->CK.eqH (TD H) k x y=some b->∀d,(Op.equalIn (d+1) t u C).run P w=.ok b w:=by
  intro t k x y u C b f p v h d
  cases k with
  |int=>exact AHS f p v (show CK.eq .int x y=some b from h) d w
  |str=>exact AHS f p v (show CK.eq .str x y=some b from h) d w
  |bool=>exact AHS f p v (show CK.eq .bool x y=some b from h) d w
  |ptr=>
   rcases AS3 (show AFl (TD H) x y=some b from h)with h|⟨i,o,j,o',rfl,rfl,I,hi,hj,rfl⟩
   ·exact AHS f p v (show CK.eq .ptr x y=some b from h) d w
   ·simp only[Aa]at p v
    obtain⟨z,O,rfl⟩:=p
    obtain⟨z',E,rfl⟩:=v
    obtain⟨e1,c1,s1,Q,n1⟩:=AKq hi
    obtain⟨e2,c2,s2,R,n2⟩:=AKq hj
    obtain⟨d0,t1,f1,S⟩:=hh.arr _ _ _ _ _ O Q
    obtain⟨d1,t2,f2,T⟩:=hh.arr _ _ _ _ _ E R
    have q1:=S.sh.resolve_left n1
    have q2:=T.sh.resolve_left n2
    subst q1;subst q2
    have hb:z.b≠z'.b:=λe=>I (hh.inj _ _ _ _ O E ⟨_,Q,by simp⟩ ⟨_,R,by simp⟩ e)
    unfold ckT at f
    split at f<;>try (cases f;done)
    rename_i e J
    split at f<;>cases f
    rename_i m hm
    have K:=run_sizeOf (P:=P) hm w
    simp only[Op.equalIn,Sem.run_bind,run_underlying J,Result.andThen_ok,K,ne_eq,Nat.add_one_ne_zero,not_false_eq_true,if_true]
    exact run_sameAddr_other w (λe=>hb (congrArg Addr.block e)) S.heap T.heap
 unfold ekT at f
 split at f
 ·rename_i fs J
  split at f
  ·cases f
  ·rename_i L
   cases D:ALw P 50 t with
   |none=>rw[D]at f;cases f
   |some A=>
    rw[D]at f
    have M:A=G:=by
     have e:EK.agg A=EK.agg G:=Option.some.inj f
     cases e;rfl
    subst M
    cases x<;>try (cases h;done)
    cases y<;>try (cases h;done)
    rename_i U W
    have Z:AC8 (CK.eqH (TD H)) A U W=some b:=h
    simp only[Aa]at p v
    obtain⟨a,rfl,N,_⟩:=p
    obtain⟨a',rfl,F,_⟩:=v
    have B:=AKl Z
    have g:=(ASJ (P:=P) (q:=CK.eqH (TD H)) (w:=w) hq 50 t A D U W _ _ b N F Z B.1 B.2 9949).1 (by simp[La,J])
    simp only[Array.toArray_toList]at g
    have hg:=run_eqGuard_agg (P:=P) w o t X Y a a' (by simpa using L)
    rcases ho with rfl|rfl
    ·simp only[Sem.run_bind,hg,Result.andThen_ok,run_eql_struct]
     rw[g];simp
    ·simp only[Sem.run_bind,hg,Result.andThen_ok,run_neq_struct]
     rw[g];simp
 ·cases f
 ·cases f
 ·cases f
 ·cases D:ckT P t with
  |none=>rw[D]at f;cases f
  |some c=>rw[D]at f;cases f
end Go.Bf
