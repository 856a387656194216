/- Part of a proof; nothing is assumed. -/
import Derived.Test.YtdellhdojgpghaaGreatDoorEngA
import Derived.IntWalk
import Derived.Laws.Strings
import Derived.Laws.Small
import Derived.Laws.Cells
import Derived.Laws.NewBlocks
import Derived.Laws.Tables
import Derived.Laws.CopyRow
import Derived.Lib.Builder
import Derived.Lib.UnsafeStr
import Derived.Laws.StructEq
import Derived.Laws.Pointers
import Derived.Laws.Slices
import Derived.Laws.Concat
import Derived.Laws.BytesString
import Derived.Laws.Externs
import Derived.LaidEql
set_option linter.unusedVariables false
set_option linter.unusedSimpArgs false
namespace Go.Bj
def P2.key:P2->Nat|.h=>0|.z p=>2*p.key+1|.o p=>2*p.key+2
section
variable{α:Type}
@[simp] theorem T.Adr:(T.e:T α).val=none:=rfl
@[simp] theorem T.AdW:(T.e:T α).left=.e:=rfl
@[simp] theorem T.Ab4:(T.e:T α).right=.e:=rfl
@[simp] theorem T.Ad2(v:Option α)(l r:T α):(T.n v l r).val=v:=rfl
@[simp] theorem T.ANx(v:Option α)(l r:T α):(T.n v l r).left=l:=rfl
@[simp] theorem T.AIF(v:Option α)(l r:T α):(T.n v l r).right=r:=rfl
theorem T.ASg(t:T α):T.ED .h t=t.val:=rfl
theorem T.dP(p:P2)(t:T α):T.ED (.z p) t=T.ED p t.left:=rfl
theorem T.dA(p:P2)(t:T α):T.ED (.o p) t=T.ED p t.right:=rfl
theorem T.ASl(x:α)(t:T α):T.aG x .h t=.n (some x) t.left t.right:=rfl
theorem T.ANs(x:α)(p:P2)(t:T α):T.aG x (.z p) t=.n t.val (T.aG x p t.left) t.right:=rfl
theorem T.ANK(x:α)(p:P2)(t:T α):T.aG x (.o p) t=.n t.val t.left (T.aG x p t.right):=rfl
@[simp] theorem T.AFi:∀(p:P2),T.ED p (T.e:T α)=none
 |.h=>rfl
 |.z p=>by rw[T.dP];exact T.AFi p
 |.o p=>by rw[T.dA];exact T.AFi p
@[simp] theorem T.WW(x:α):∀(p:P2) (t:T α),T.ED p (T.aG x p t)=some x
 |.h,t=>rfl
 |.z p,t=>by rw[T.ANs,T.dP];exact T.WW x p _
 |.o p,t=>by rw[T.ANK,T.dA];exact T.WW x p _
theorem T.I9(x:α):∀(p q:P2) (t:T α),p≠q->T.ED q (T.aG x p t)=T.ED q t
 |.h,.h,_,h=>absurd rfl h
 |.h,.z q,t,_=>by rw[T.ASl,T.dP,T.dP,T.ANx]
 |.h,.o q,t,_=>by rw[T.ASl,T.dA,T.dA,T.AIF]
 |.z p,.h,t,_=>rfl
 |.o p,.h,t,_=>rfl
 |.z p,.z q,t,h=>by rw[T.ANs,T.dP,T.dP,T.ANx];exact T.I9 x p q _ (λe=>h (by rw[e]))
 |.o p,.o q,t,h=>by rw[T.ANK,T.dA,T.dA,T.AIF];exact T.I9 x p q _ (λe=>h (by rw[e]))
 |.z p,.o q,t,_=>by rw[T.ANs,T.dA,T.dA,T.AIF]
 |.o p,.z q,t,_=>by rw[T.ANK,T.dP,T.dP,T.ANx]
end
theorem AQu:∀(f k:Nat),k<f->(AP6 f k).key=k:=by
 intro f
 induction f with
 |zero=>intro k h;omega
 |succ f ih=>
  intro k h
  cases k with
  |zero=>rfl
  |succ m=>
   have hm:m/2<f:=by omega
   have ih':=ih (m/2) hm
   show(Bool.rec (P2.o (AP6 f (Nat.div m 2))) (P2.z (AP6 f (Nat.div m 2))) (Nat.beq (Nat.mod m 2) 0):P2).key=m+1
   have hd:Nat.div m 2=m/2:=rfl
   have hmo:Nat.mod m 2=m%2:=rfl
   rw[hd,hmo]
   rcases Nat.mod_two_eq_zero_or_one m with e|e
   ·rw[e];show(P2.z (AP6 f (m/2))).key=m+1;simp only[P2.key,ih'];omega
   ·rw[e];show(P2.o (AP6 f (m/2))).key=m+1;simp only[P2.key,ih'];omega
@[simp] theorem AEG(k:Nat):(PN k).key=k:=AQu _ _ (Nat.lt_succ_self k)
theorem aZ{j k:Nat}(h:PN j=PN k):j=k:=by rw[<-AEG j,h,AEG]
section
variable{α:Type}
@[simp] theorem T.Aad(k:Nat):T.get (T.e:T α) k=none:=T.AFi _
@[simp] theorem T.Au(t:T α)(k:Nat)(x:α):T.get (T.set t k x) k=some x:=T.WW _ _ _
theorem T.Ad(t:T α){k j:Nat}(x:α)(h:k≠j):T.get (T.set t k x) j=T.get t j:=T.I9 _ _ _ _ λe=>h (aZ e)
theorem T.KT(t:T α)(k j:Nat)(x:α):T.get (T.set t k x) j=if k=j then some x else T.get t j:=by
 by_cases h:k=j
 ·subst h;simp
 ·simp[h,T.Ad t x h]
end
section
variable{α:Type}
@[simp] theorem len_eq(l:List α):len l=l.length:=by induction l with|nil=>rfl|cons x l ih=>show Nat.succ (len l)=_;rw[ih];rfl
@[simp] theorem AJA(a b:List α):cat a b=a++b:=by induction a with|nil=>rfl|cons x l ih=>show x::cat l b=_;rw[ih];rfl
@[simp] theorem kQ:∀(l:List α) (i:Nat),nth l i=l[i]?
 |[],_=>by simp[nth]
 |_::_,0=>rfl
 |x::l,i+1=>by show nth l i=_;rw[kQ l i];simp
@[simp] theorem AHY(x:α):∀(l:List α) (i:Nat),jQ x l i=l.set i x
 |[],_=>by simp[jQ]
 |_::_,0=>rfl
 |y::l,i+1=>by show y::jQ x l i=_;rw[AHY x l i];rfl
@[simp] theorem iI:∀(n:Nat) (l:List α),Yc n l=l.take n
 |0,_=>rfl
 |_+1,[]=>rfl
 |n+1,x::l=>by show x::Yc n l=_;rw[iI n l];rfl
@[simp] theorem qB:∀(n:Nat) (l:List α),lX n l=l.drop n
 |0,_=>rfl
 |_+1,[]=>rfl
 |n+1,x::l=>by show lX n l=_;rw[qB n l];rfl
@[simp] theorem AHE:∀(l:List α) (i:Nat),AF3 l i=l.eraseIdx i
 |[],_=>by simp[AF3]
 |_::_,0=>rfl
 |y::l,i+1=>by show y::AF3 l i=_;rw[AHE l i];rfl
end
@[simp] theorem AJI:∀(l:List V) (i:Nat),ARV l i=(l[i]?).getD .undef
 |[],_=>by simp[ARV]
 |_::_,0=>rfl
 |x::l,i+1=>by show ARV l i=_;rw[AJI l i];simp
@[simp] theorem AIv(new:LV)(i:Nat)(l:LV):AMi new i l=l.take i++(new++l.drop (i+new.length)):=by
 show cat (Yc i l) (cat new (lX (Nat.add i (len new)) l))=_
 simp
@[simp] theorem Ab3(l:List X)(R:RS):eP l R=l.map (·.ev R):=by induction l with|nil=>rfl|cons x l ih=>show x.ev R::eP l R=_;rw[ih];rfl
@[simp] theorem vW(b:Bool):QD b= !b:=by cases b<;>rfl
@[simp] theorem BO(a b:Bool):band a b=(a&&b):=by cases a<;>cases b<;>rfl
@[simp] theorem AJF(a b:Bool):ATP a b=(a==b):=by cases a<;>cases b<;>rfl
@[simp] theorem TL(b:Bool):mkB b=some (.bool b):=by cases b<;>rfl
theorem Ba{b:Bool}{o:Option V}{v:V}:BF b o=some v↔b=true/\o=some v:=by cases b<;>simp[BF]
@[simp] theorem aO(b:Bool)(x y:Option V):AC1 b x y=if b then x else y:=by cases b<;>rfl
@[simp] theorem Fp(b:Bool)(p:Prop):EJ b p↔b=true/\p:=by cases b<;>simp[EJ]
theorem Jy{α:Type}(o:Option α)(f:α->Prop):EN o f↔∃x,o=some x/\f x:=by cases o<;>simp[EN]
theorem AEX(o:Option V)(f:V->Prop):AP o f↔∃x,o=some x/\f x:=by cases o<;>simp[AP]
theorem WV{o:Option LV}{f:LV->Option V}{v:V}:PY o f=some v↔∃x,o=some x/\f x=some v:=by cases o<;>simp[PY]
theorem Bg{α β:Type}{o:Option α}{f:α->Option β}{v:β}:Bl o f=some v↔∃x,o=some x/\f x=some v:=by cases o<;>simp[Bl]
theorem AAZ{o:Option Bool}{f:Bool->Option Bool}{v:Bool}:Qg o f=some v↔∃x,o=some x/\f x=some v:=by cases o<;>simp[Qg]
@[simp] theorem AZd(v:V):Nh (some v)=v:=rfl
@[simp] theorem APg:Nh none=.undef:=rfl
@[simp] theorem TP(n:Int)(f:Int->Option V):Oo n f=f n:=by
 cases n with
 |ofNat m=>cases m<;>rfl
 |negSucc m=>cases m<;>rfl
@[simp] theorem BP(n:Nat)(f:Nat->Option V):CW n f=f n:=by cases n<;>rfl
@[simp] theorem BL(n:Nat)(f:Nat->Prop):DU n f=f n:=by cases n<;>rfl
theorem beq_iff{a b:Nat}:Nat.beq a b=true↔a=b:=by simp
theorem ASw{k:IntKind}{n:Int}(h:inr k n=true):k.min<=n/\n<=k.max:=by
 cases n with
 |ofNat m=>cases k<;>(simp[inr,AaZ,Nat.blt_eq]at h;simp[IntKind.min,IntKind.max,IntKind.signed,IntKind.bits];omega)
 |negSucc m=>cases k<;>(simp[inr,AZq,Nat.blt_eq]at h;try (simp[IntKind.min,IntKind.max,IntKind.signed,IntKind.bits];omega))
theorem Qn(k:IntKind)(n:Int):YP k n=k.wrap n:=by
 unfold YP
 cases h:inr k n with
 |false=>rfl
 |true=>
  have hb:=ASw h
  show n=k.wrap n
  cases k<;>simp[IntKind.min,IntKind.max,IntKind.signed,IntKind.bits]at hb
  ·exact(IntWalk.i8_in n ⟨by omega,by omega⟩).symm
  ·exact(IntWalk.i16_in n ⟨by omega,by omega⟩).symm
  ·exact(IntWalk.i32_in n ⟨by omega,by omega⟩).symm
  ·exact(IntWalk.i64_in n ⟨by omega,by omega⟩).symm
  ·exact(IntWalk.u8_in n ⟨by omega,by omega⟩).symm
  ·exact(IntWalk.u16_in n ⟨by omega,by omega⟩).symm
  ·exact(IntWalk.u32_in n ⟨by omega,by omega⟩).symm
  ·exact(IntWalk.u64_in n ⟨by omega,by omega⟩).symm
@[simp] theorem AKw(k:IntKind)(n:Int):mkI k n 0=some (.int k (k.wrap n) 0):=by
 show AYI k n=_
 simp[AYI,Qn]
theorem AYU(k:IntKind)(n:Int)(s:Nat):∃s',mkI k n s=some (.int k (k.wrap n) s')/\s'<=1:=by
 cases s with
 |zero=>exact⟨0,AKw k n,by omega⟩
 |succ s=>exact⟨1,rfl,by omega⟩
@[simp] theorem kH(a b:Int):AFv a b=a+b:=by
 cases a<;>cases b<;>simp[AFv,AWE,AXD]
 ·rfl
 ·rfl
 ·rfl
@[simp] theorem ACa(a b:Int):ile a b=decide (a<=b):=by
 cases a with
 |ofNat m=>cases b with
  |ofNat n=>show Nat.ble m n=_;rw[Bool.eq_iff_iff];simp
  |negSucc n=>show false=_;symm;simp;omega
 |negSucc m=>cases b with
  |ofNat n=>show true=_;symm;simp;omega
  |negSucc n=>show Nat.ble n m=_;rw[Bool.eq_iff_iff];simp;omega
@[simp] theorem WS(a b:Int):ilt a b=decide (a<b):=by
 cases a with
 |ofNat m=>cases b with
  |ofNat n=>show Nat.blt m n=_;rw[Bool.eq_iff_iff];simp[Nat.blt_eq]
  |negSucc n=>show false=_;symm;simp;omega
 |negSucc m=>cases b with
  |ofNat n=>show true=_;symm;simp;omega
  |negSucc n=>show Nat.blt n m=_;rw[Bool.eq_iff_iff];simp[Nat.blt_eq];omega
@[simp] theorem WU(a b:Int):ieq a b=(a==b):=by
 cases a with
 |ofNat m=>cases b with
  |ofNat n=>show Nat.beq m n=_;rw[Bool.eq_iff_iff];simp;omega
  |negSucc n=>show false=_;symm;simp
 |negSucc m=>cases b with
  |ofNat n=>show false=_;symm;simp
  |negSucc n=>show Nat.beq n m=_;rw[Bool.eq_iff_iff];simp;omega
theorem AUr{a b:IntKind}(h:kno a=kno b):a=b:=by cases a<;>cases b<;>first|rfl|(simp[kno]at h)
@[simp] theorem NP(a b:IntKind):keq a b=true↔a=b:=⟨λh=>AUr (by simpa[keq]using h),λh=>by subst h;simp[keq]⟩
def enc:List UInt8->Nat
 |[]=>0
 |b::l=>b.toNat+256*enc l
theorem AGU:∀(a b:List UInt8),enc (a++b)=enc a+256^a.length*enc b
 |[],b=>by simp[enc]
 |x::a,b=>by
  simp only[List.cons_append,enc,AGU a b,List.length_cons,Nat.pow_succ,Nat.mul_add]
  rw[Nat.mul_comm (256^a.length) 256,Nat.mul_assoc];omega
theorem AFa:∀(n:Nat) (l:List UInt8),enc (l.drop n)=enc l/256^n
 |0,l=>by simp
 |n+1,[]=>by simp[enc]
 |n+1,b::l=>by
  have hb:b.toNat<256:=b.toNat_lt
  rw[List.drop_succ_cons,AFa n l,enc,Nat.pow_succ',<-Nat.div_div_eq_div_mul]
  congr 1;omega
theorem AKZ:∀(n:Nat) (l:List UInt8),enc (l.take n)=enc l%256^n
 |0,l=>by simp[enc,Nat.mod_one]
 |n+1,[]=>by simp[enc]
 |n+1,b::l=>by
  have hb:b.toNat<256:=b.toNat_lt
  rw[List.take_succ_cons,enc,AKZ n l,enc,Nat.pow_succ',Nat.mod_mul]
  have h1:(b.toNat+256*enc l)%256=b.toNat:=by omega
  have h2:(b.toNat+256*enc l)/256=enc l:=by omega
  rw[h1,h2]
theorem AI3:∀(a b:List UInt8),a.length=b.length->enc a=enc b->a=b
 |[],[],_,_=>rfl
 |[],_::_,h,_=>by simp at h
 |_::_,[],h,_=>by simp at h
 |x::a,y::b,h,he=>by
  have hx:x.toNat<256:=x.toNat_lt
  have hy:y.toNat<256:=y.toNat_lt
  simp only[enc]at he
  have h1:x.toNat=y.toNat:=by omega
  have h2:enc a=enc b:=by omega
  rw[AI3 a b (by simpa using h) h2,UInt8.toNat_inj.1 h1]
theorem ALe(l:List UInt8)(i:Nat)(h:i<l.length):AQS (enc l) i=(l[i]).toNat:=by
 show enc l/256^i%256=_
 rw[<-AFa,List.drop_eq_getElem_cons h,enc]
 have hb:(l[i]).toNat<256:=(l[i]).toNat_lt
 omega
theorem AA6(l:List UInt8)(a b:Nat):ATA (enc l) a b=enc ((l.drop a).take (b-a)):=by
 show enc l/256^a%256^(b-a)=_
 rw[AKZ,AFa]
theorem AL3(a b:List UInt8):AX5 a.length (enc a) (enc b)=enc (a++b):=by
 show enc a+256^a.length*enc b=_
 rw[AGU]
theorem AWi:∀(b a:List UInt8) (f:Nat),b.length<f->AYQ f a.length (enc a) b.length (enc b)=Op.bytesLess a b
 |[],a,f+1,_=>by cases a<;>rfl
 |y::b,[],f+1,_=>rfl
 |y::b,x::a,f+1,h=>by
  have hx:x.toNat<256:=x.toNat_lt
  have hy:y.toNat<256:=y.toNat_lt
  have ih:=AWi b a f (by simpa using h)
  show(Bool.rec (Nat.blt (enc (x::a)%256) (enc (y::b)%256)) (AYQ f a.length (enc (x::a)/256) b.length (enc (y::b)/256)) (Nat.beq (enc (x::a)%256) (enc (y::b)%256)):Bool)=_
  have e1:enc (x::a)%256=x.toNat:=by simp only[enc];omega
  have e2:enc (x::a)/256=enc a:=by simp only[enc];omega
  have e3:enc (y::b)%256=y.toNat:=by simp only[enc];omega
  have e4:enc (y::b)/256=enc b:=by simp only[enc];omega
  rw[e1,e2,e3,e4,ih]
  simp only[Op.bytesLess]
  by_cases hxy:x=y
  ·subst hxy;simp
  ·have hne:x.toNat≠y.toNat:=λe=>hxy (UInt8.toNat_inj.1 e)
   have hb:Nat.beq x.toNat y.toNat=false:=by cases hq:Nat.beq x.toNat y.toNat with|false=>rfl|true=>exact absurd (Nat.eq_of_beq_eq_true hq) hne
   rw[hb]
   show Nat.blt x.toNat y.toNat=_
   rw[Bool.eq_iff_iff]
   simp[Nat.blt_eq,hxy,UInt8.lt_iff_toNat_lt]
theorem ABL(a b:List UInt8):slt a.length (enc a) b.length (enc b)=Op.bytesLess a b:=AWi b a _ (Nat.lt_succ_self _)
structure Info where
 b:Nat
 base:Nat
 size:Nat
abbrev Loc:=Nat->Option Info
mutual
def AZ(ρ:Loc):V->Value->Prop
 |.undef,_=>True
 |.int k n _,v=>v=.int k n
 |.bool b,v=>v=.bool b
 |.str l c,v=>∃s:ByteArray,v=.string s/\s.data.toList.length=l/\enc s.data.toList=c
 |.AJm,v=>v=.pointer none
 |.ptr id off,v=>∃x,ρ id=some x/\v=.pointer (some ⟨x.b,x.base+off,none⟩)
 |.gptr b off,v=>v=.pointer (some ⟨b,off,none⟩)
 |.Af,v=>v=.slice none 0 0
 |.sl id off len cap esz,v=>∃x a,ρ id=some x/\v=.slice (some a) len cap/\(cap=0∨a=⟨x.b,x.base+off*esz,none⟩)/\len<=cap
 |.G6 id off len esz,v=>∃x a capc,ρ id=some x/\v=.slice (some a) len capc/\(capc=0∨a=⟨x.b,x.base+off*esz,none⟩)/\len<=capc/\x.base+(off+capc)*esz<=x.size
 |.rsl b off len cap _,v=>∃a,v=.slice (some a) len cap/\(cap=0∨a=⟨b,off,none⟩)/\len<=cap
 |.ALE,v=>v=.map none
 |.map id,v=>∃x,ρ id=some x/\v=.map (some x.b)
 |.AVw,v=>v=.nilFunc
 |.fn f first caps,v=>∃fa ca:Array Value,v=.func (.func f) fa ca/\CV ρ first fa.toList/\CV ρ caps ca.toList
 |.agg cs,v=>∃a:Array Value,v=.agg a/\CV ρ cs a.toList/\∀u∈a.toList,u.oneCell'=true
 |.EI cs,v=>∃a:Array Value,v=.tuple a/\CV ρ cs a.toList
 |.ARH,v=>v=.nilIface
 |.iface t y,v=>∃z,v=.iface t z/\AZ ρ y z
def CV(ρ:Loc):List V->List Value->Prop
 |[],l=>l=[]
 |c::cs,l=>∃v vs,l=v::vs/\AZ ρ c v/\CV ρ cs vs
end
theorem CV.nil{ρ:Loc}:CV ρ [] []:=by simp[CV]
theorem CV.cons{ρ:Loc}{c:V}{v:Value}{cs:List V}{vs:List Value}(h:AZ ρ c v)(h':CV ρ cs vs):CV ρ (c::cs) (v::vs):=by
 simp only[CV];exact⟨v,vs,rfl,h,h'⟩
@[simp] theorem ABW{ρ:Loc}{l:List Value}:CV ρ [] l↔l=[]:=by simp[CV]
@[simp] theorem KL{ρ:Loc}{c:V}{cs:List V}{l:List Value}:CV ρ (c::cs) l↔∃v vs,l=v::vs/\AZ ρ c v/\CV ρ cs vs:=by simp[CV]
theorem fD{ρ:Loc}:∀(cs:List V) (vs:List Value),CV ρ cs vs↔cs.length=vs.length/\∀(i:Nat) (c:V) (v:Value),cs[i]? =some c->vs[i]? =some v->AZ ρ c v
 |[],vs=>by
  simp only[ABW,List.length_nil]
  constructor
  ·rintro rfl;exact⟨rfl,λi c v h=>by simp at h⟩
  ·intro h;exact List.length_eq_zero_iff.1 h.1.symm
 |c::cs,vs=>by
  rw[KL]
  constructor
  ·rintro⟨v,vs,rfl,h,h'⟩
   rw[fD cs vs]at h'
   refine⟨by simp[h'.1],λi=>?_⟩
   cases i with
   |zero=>intro c' v' hc hv;simp at hc hv;subst hc;subst hv;exact h
   |succ i=>intro c' v' hc hv;exact h'.2 i c' v' (by simpa using hc) (by simpa using hv)
  ·rintro⟨hl,h⟩
   cases vs with
   |nil=>simp at hl
   |cons v vs=>
    refine⟨v,vs,rfl,h 0 c v rfl rfl,(fD cs vs).2 ⟨by simpa using hl,λi c' v' hc hv=>h (i+1) c' v' (by simpa using hc) (by simpa using hv)⟩⟩
theorem CV.length{ρ:Loc}{cs:List V}{vs:List Value}(h:CV ρ cs vs):cs.length=vs.length:=((fD cs vs).1 h).1
theorem CV.get{ρ:Loc}{cs:List V}{vs:List Value}(h:CV ρ cs vs){i:Nat}{c:V}(hc:cs[i]? =some c):∃v,vs[i]? =some v/\AZ ρ c v:=by
 have hi:i<vs.length:=by rw[<-h.length];exact(List.getElem?_eq_some_iff.1 hc).1
 exact⟨vs[i],List.getElem?_eq_getElem hi,((fD cs vs).1 h).2 i c _ hc (List.getElem?_eq_getElem hi)⟩
theorem CV.append{ρ:Loc}:∀{as bs:List V} {xs ys:List Value},CV ρ as xs->CV ρ bs ys->CV ρ (as++bs) (xs++ys)
 |[],bs,xs,ys,h,h'=>by simp at h;subst h;simpa using h'
 |a::as,bs,xs,ys,h,h'=>by
  obtain⟨v,vs,rfl,hv,hr⟩:=KL.1 h
  exact .cons hv (CV.append hr h')
theorem CV.take{ρ:Loc}:∀(n:Nat) {as:List V} {xs:List Value},CV ρ as xs->CV ρ (as.take n) (xs.take n)
 |0,_,_,_=>by simp
 |n+1,[],_,h=>by simp at h;subst h;simp
 |n+1,a::as,xs,h=>by
  obtain⟨v,vs,rfl,hv,hr⟩:=KL.1 h
  exact .cons hv (CV.take n hr)
theorem CV.drop{ρ:Loc}:∀(n:Nat) {as:List V} {xs:List Value},CV ρ as xs->CV ρ (as.drop n) (xs.drop n)
 |0,_,_,h=>h
 |n+1,[],_,h=>by simp at h;subst h;simp
 |n+1,a::as,xs,h=>by
  obtain⟨v,vs,rfl,hv,hr⟩:=KL.1 h
  exact CV.drop n hr
def Loc.le(ρ ρ':Loc):Prop:=∀id x,ρ id=some x->ρ' id=some x
theorem Loc.le.refl(ρ:Loc):ρ.le ρ:=λ_ _ h=>h
theorem Loc.le.trans{ρ ρ' ρ'':Loc}(h:ρ.le ρ')(h':ρ'.le ρ''):ρ.le ρ'':=λid x e=>h' id x (h id x e)
mutual
theorem AZ.mono{ρ ρ':Loc}(hle:ρ.le ρ'):∀(c:V) (v:Value),AZ ρ c v->AZ ρ' c v
 |.undef,_,_=>trivial
 |.int _ _ _,_,h=>h
 |.bool _,_,h=>h
 |.str _ _,_,h=>h
 |.AJm,_,h=>h
 |.ptr _ _,_,⟨x,hx,hv⟩=>⟨x,hle _ _ hx,hv⟩
 |.gptr _ _,_,h=>h
 |.Af,_,h=>h
 |.sl _ _ _ _ _,_,⟨x,a,hx,h⟩=>⟨x,a,hle _ _ hx,h⟩
 |.G6 _ _ _ _,_,⟨x,a,cp,hx,h⟩=>⟨x,a,cp,hle _ _ hx,h⟩
 |.rsl _ _ _ _ _,_,h=>h
 |.ALE,_,h=>h
 |.map _,_,⟨x,hx,hv⟩=>⟨x,hle _ _ hx,hv⟩
 |.AVw,_,h=>h
 |.fn _ a c,_,⟨fa,ca,hv,h1,h2⟩=>⟨fa,ca,hv,CV.mono hle a _ h1,CV.mono hle c _ h2⟩
 |.agg cs,_,⟨a,hv,h1,h2⟩=>⟨a,hv,CV.mono hle cs _ h1,h2⟩
 |.EI cs,_,⟨a,hv,h1⟩=>⟨a,hv,CV.mono hle cs _ h1⟩
 |.ARH,_,h=>h
 |.iface _ y,_,⟨z,hv,h⟩=>⟨z,hv,AZ.mono hle y z h⟩
theorem CV.mono{ρ ρ':Loc}(hle:ρ.le ρ'):∀(c:List V) (v:List Value),CV ρ c v->CV ρ' c v
 |[],_,h=>by simp at h;subst h;simp
 |c::cs,_,h=>by
  obtain⟨v,vs,rfl,hv,hr⟩:=KL.1 h
  exact .cons (AZ.mono hle c v hv) (CV.mono hle cs vs hr)
end
def AKQ:V->Bool|.undef|.agg _|.EI _=>false|_=>true
theorem AZ.one{ρ:Loc}:∀{c:V} {v:Value},AZ ρ c v->AKQ c=true->v.oneCell'=true
 |.undef,_,_,h=>by simp[AKQ]at h
 |.int _ _ _,_,h,_=>by simp only[AZ]at h;subst h;rfl
 |.bool _,_,h,_=>by simp only[AZ]at h;subst h;rfl
 |.str _ _,_,h,_=>by simp only[AZ]at h;obtain⟨s,rfl,_⟩:=h;rfl
 |.AJm,_,h,_=>by simp only[AZ]at h;subst h;rfl
 |.ptr _ _,_,h,_=>by simp only[AZ]at h;obtain⟨_,_,rfl⟩:=h;rfl
 |.gptr _ _,_,h,_=>by simp only[AZ]at h;subst h;rfl
 |.Af,_,h,_=>by simp only[AZ]at h;subst h;rfl
 |.sl _ _ _ _ _,_,h,_=>by simp only[AZ]at h;obtain⟨_,_,_,rfl,_⟩:=h;rfl
 |.G6 _ _ _ _,_,h,_=>by simp only[AZ]at h;obtain⟨_,_,_,_,rfl,_⟩:=h;rfl
 |.rsl _ _ _ _ _,_,h,_=>by simp only[AZ]at h;obtain⟨_,rfl,_⟩:=h;rfl
 |.ALE,_,h,_=>by simp only[AZ]at h;subst h;rfl
 |.map _,_,h,_=>by simp only[AZ]at h;obtain⟨_,_,rfl⟩:=h;rfl
 |.AVw,_,h,_=>by simp only[AZ]at h;subst h;rfl
 |.fn _ _ _,_,h,_=>by simp only[AZ]at h;obtain⟨_,_,rfl,_⟩:=h;rfl
 |.agg _,_,_,h=>by simp[AKQ]at h
 |.EI _,_,_,h=>by simp[AKQ]at h
 |.ARH,_,h,_=>by simp only[AZ]at h;subst h;rfl
 |.iface _ _,_,h,_=>by simp only[AZ]at h;obtain⟨_,rfl,_⟩:=h;rfl
variable{P:Program}
def qC(fz:Nat×Nat)(n:Nat):Prop:=∀i,i<n->¬(fz.1<=i/\i<fz.2)
def sub(vs:Array Value)(o n:Nat):List Value:=(vs.toList.drop o).take n
def isLive(H:Heap)(id:Nat):Prop:=∃b,T.get H id=some b/\b≠.dead
structure xU(ρ:Loc)(w:World)(x:Info)(esz cnt:Nat)(c:T LV)(vs:Array Value)(t:TypeId)(fz:Nat×Nat):Prop where
 heap:w.heap[x.b]? =some (.cells vs t fz)
 size:vs.size=x.size
 free:qC fz x.size
 sh:esz=1∨fz=(0,0)
 room:x.base+cnt*esz<=x.size
 one:∀u∈vs.toList,u.oneCell'=true
 elem:∀e,e<cnt->∃L,T.get c e=some L/\CV ρ L (sub vs (x.base+e*esz) esz)
def Lh(ρ:Loc):ME->List MapEntry->Prop
 |[],l=>l=[]
 |(k,v,b)::es,l=>∃e es',l=e::es'/\AZ ρ k e.key/\AZ ρ v e.val/\e.born=b/\Lh ρ es es'
def ASs(w0:World)(ρ:Loc)(H:Heap)(w:World)(id:Nat)(x:Info)(t e l c j:Nat):Prop:=
 x.base=0/\∃(bs:List UInt8) (p v:Value),bs.length=l/\enc bs=c/\(p=.pointer none∨p=.pointer (some ⟨x.b,0,none⟩))/\w.heap[x.b]? =some (.cells #[p,v] t (0,0))/\
  w.ownsRow w0.heap.size e 1 v l (Lib.byteCells bs)/\(l=0->v=.slice none 0 0)/\(0<l->∃y,v.ownBlock=some y.b/\ρ j=some y/\T.get H j=some (.own id))
theorem ASs.same{w0:World}{ρ ρ':Loc}{H H':Heap}{w w':World}{id:Nat}{x:Info}{t e l c j:Nat}(h:ASs w0 ρ H w id x t e l c j)(hx:w'.heap[x.b]? =w.heap[x.b]?)(hle:ρ.le ρ')
 (hy:∀y,ρ j=some y->T.get H j=some (.own id)->w'.heap[y.b]? =w.heap[y.b]? /\T.get H' j=some (.own id)):ASs w0 ρ' H' w' id x t e l c j:=by
 obtain⟨hb,bs,p,v,h1,h2,h3,h4,h5,h6,h7⟩:=h
 refine⟨hb,bs,p,v,h1,h2,h3,hx.trans h4,?_,h6,λhl=>?_⟩
 ·refine⟨h5.1,?_⟩
  rcases h5.2 with hn|⟨g,cap,cur,hv,hg,hgg,rest⟩
  ·exact .inl hn
  ·rcases Nat.eq_zero_or_pos l with h0|h0
   ·have:=h6 h0
    rw[this]at hv;cases hv
   ·obtain⟨y,hy1,hy2,hy3⟩:=h7 h0
    rw[hv]at hy1
    have e1:g=y.b:=Option.some.inj hy1
    exact .inr ⟨g,cap,cur,hv,hg,by rw[e1,(hy y hy2 hy3).1,<-e1];exact hgg,rest⟩
 ·obtain⟨y,hy1,hy2,hy3⟩:=h7 hl
  exact⟨y,hy1,hle _ _ hy2,(hy y hy2 hy3).2⟩
structure D8(w0:World)(ρ:Loc)(H:Heap)(n:Nat)(w:World):Prop where
 lt:∀id x,ρ id=some x->id<n
 blk:∀id x,ρ id=some x->w0.heap.size<=x.b/\x.b<w.heap.size
 inj:∀id id' x x',ρ id=some x->ρ id'=some x'->isLive H id->isLive H id'->x.b=x'.b->id=id'
 arr:∀id x esz cnt c,ρ id=some x->T.get H id=some (.arr esz cnt c)->∃vs t fz,xU ρ w x esz cnt c vs t fz
 map:∀id x es ck,ρ id=some x->T.get H id=some (.map es ck)->∃es':Array MapEntry,w.heap[x.b]? =some (.map es' ck)/\Lh ρ es es'.toList
 iZ:∀id x t e l c j,ρ id=some x->T.get H id=some (.iZ t e l c j)->ASs w0 ρ H w id x t e l c j
 old:∀b,b<w0.heap.size->w.heap[b]? =w0.heap[b]?
 os:w.os=w0.os
 out:w.output=w0.output
 big:w0.heap.size<=w.heap.size
 top:∀id,n<=id->T.get H id=none
def Vg(w0:World)(G:AV):Prop:=∀b off n L,G b off n=some L->L.length=n/\∀j v,L[j]? =some v->∃u,w0.cell? ⟨b,off+j,none⟩=some u/\AZ (λ_=>none) v u/\u.oneCell'=true
theorem TS{vs:Array Value}{o n:Nat}(h:o+n<=vs.size):(sub vs o n).length=n:=by simp[sub];omega
theorem sub_sub{vs:Array Value}{o n f m:Nat}(h:f+m<=n):((sub vs o n).drop f).take m=sub vs (o+f) m:=by
 simp only[sub,List.drop_take,List.take_take,List.drop_drop]
 congr 1
 omega
theorem AEJ{vs:Array Value}{o n j:Nat}{v:Value}(h:(sub vs o n)[j]? =some v):j<n/\vs[o+j]? =some v:=by
 simp only[sub,List.getElem?_take]at h
 split at h
 ·rename_i hj;refine⟨hj,?_⟩;simpa using h
 ·cases h
theorem add_lit(b o j:Nat):Addr.add ⟨b,o,none⟩ j=⟨b,o+j,none⟩:=by unfold Addr.add;split<;>simp_all
theorem ASx{ρ:Loc}{w:World}{x:Info}{esz cnt:Nat}{c:T LV}{vs:Array Value}{t:TypeId}{fz:Nat×Nat}(h:xU ρ w x esz cnt c vs t fz)
 {off n:Nat} {L:LV} (hl:ldB esz cnt c off n=some L):CV ρ L (sub vs (x.base+off) n)/\x.base+off+n<=x.size:=by
 unfold ldB at hl
 obtain⟨L0,h0,h1⟩:=Bg.1 hl
 have hlt:off/esz<cnt:=by
  rcases Nat.lt_or_ge (off/esz) cnt with hh|hh
  ·exact hh
  ·have hb:Nat.blt (Nat.div off esz) cnt=false:=by rw[Bool.eq_false_iff];intro hc;rw[Nat.blt_eq]at hc;exact absurd hc (Nat.not_lt.2 hh)
   rw[hb]at h0;cases h0
 have hb:Nat.blt (Nat.div off esz) cnt=true:=by rw[Nat.blt_eq];exact hlt
 rw[hb]at h0
 obtain⟨L1,hL1,hr⟩:=h.elem _ hlt
 have e0:L0=L1:=by have:=h0.symm.trans hL1;exact Option.some.inj this
 subst e0
 have hdm:esz*(off/esz)+off%esz=off:=Nat.div_add_mod off esz
 have hce:(off/esz)*esz=esz*(off/esz):=Nat.mul_comm _ _
 have hroom:x.base+(off/esz)*esz+esz<=x.size:=by
  have h2:(off/esz+1)*esz<=cnt*esz:=Nat.mul_le_mul_right _ hlt
  rw[Nat.add_mul,Nat.one_mul]at h2
  have:=h.room
  omega
 unfold ldC at h1
 cases hc:band (Nat.beq n esz) (Nat.beq (Nat.mod off esz) 0)with
 |true=>
  rw[hc]at h1
  have e1:L0=L:=Option.some.inj h1
  subst e1
  simp only[BO,Bool.and_eq_true,beq_iff]at hc
  obtain⟨rfl,hm⟩:=hc
  have hm':off%n=0:=hm
  have ho:(off/n)*n=off:=by omega
  rw[ho]at hr hroom
  exact⟨hr,hroom⟩
 |false=>
  rw[hc]at h1
  cases hf:Nat.ble (Nat.add (Nat.mod off esz) n) esz with
  |false=>rw[hf]at h1;cases h1
  |true=>
   rw[hf]at h1
   have hle:off%esz+n<=esz:=Nat.le_of_ble_eq_true hf
   have e1:Yc n (lX (Nat.mod off esz) L0)=L:=Option.some.inj h1
   simp only[iI,qB]at e1
   subst e1
   have hr':=(hr.drop (off%esz)).take n
   rw[sub_sub hle]at hr'
   have he:x.base+(off/esz)*esz+off%esz=x.base+off:=by omega
   rw[he]at hr'
   exact⟨hr',by omega⟩
theorem cell_of_heap{w:World}{g:Nat}{vs:Array Value}{t:TypeId}{fz:Nat×Nat}(h:w.heap[g]? =some (.cells vs t fz))(i:Nat):w.cell? ⟨g,i,none⟩=vs[i]? :=by
 simp[World.cell?,h]
theorem fZ{w0:World}{ρ:Loc}{G:AV}{H:Heap}{n:Nat}{w:World}(hh:D8 w0 ρ H n w)(hg:Vg w0 G){v:V}{u:Value}(hv:AZ ρ v u){m:Nat}{L:LV}
 (hl:ldP v G H m=some L):∃a cs,u=.pointer (some a)/\a.spot=none/\CV ρ L cs/\cs.length=m/\(∀y∈cs,y.oneCell'=true)/\∀j y,cs[j]? =some y->w.cell? (a.add j)=some y:=by
 cases v<;>simp only[ldP]at hl<;>try (cases hl;done)
 case ptr id off=>
  simp only[AZ]at hv
  obtain⟨x,hx,rfl⟩:=hv
  unfold aB at hl
  cases hb:T.get H id with
  |none=>rw[hb]at hl;cases hl
  |some b=>
   rw[hb]at hl
   cases b with
   |arr esz cnt c=>
    have hl':ldB esz cnt c off m=some L:=hl
    obtain⟨vs,t,fz,ha⟩:=hh.arr id x esz cnt c hx hb
    obtain⟨hr,hsz⟩:=ASx ha hl'
    have hsz':x.base+off+m<=vs.size:=by rw[ha.size];exact hsz
    refine⟨_,sub vs (x.base+off) m,rfl,rfl,hr,TS hsz',?_,?_⟩
    ·intro y hy
     obtain⟨j,hj⟩:=List.mem_iff_getElem?.1 hy
     obtain⟨_,hj'⟩:=AEJ hj
     exact ha.one y (by rw[Array.mem_toList_iff];exact Array.mem_of_getElem? hj')
    ·intro j y hj
     obtain⟨_,hj'⟩:=AEJ hj
     rw[add_lit,cell_of_heap ha.heap,hj']
   |map es ck=>cases hl
   |dead=>cases hl
   |iZ _ _ _ _ _=>cases hl
   |own _=>cases hl
 case gptr b off=>
  simp only[AZ]at hv
  subst hv
  obtain⟨hlen,hj⟩:=hg b off m L hl
  have key:∀(k:Nat),∃u,k<L.length->w0.cell? ⟨b,off+k,none⟩=some u/\AZ ρ (L.getD k .undef) u/\u.oneCell'=true:=by
   intro k
   by_cases hk:k<L.length
   ·obtain⟨u,hu,hvu,h1⟩:=hj k L[k] (List.getElem?_eq_getElem hk)
    refine⟨u,λ_=>⟨hu,?_,h1⟩⟩
    have:L.getD k .undef=L[k]:=by simp[List.getD,hk]
    rw[this]
    exact AZ.mono (λid x hx=>by cases hx) _ _ hvu
   ·exact⟨undef,λh=>absurd h hk⟩
  have hch:∃f:Nat->Value,∀k,k<L.length->w0.cell? ⟨b,off+k,none⟩=some (f k)/\AZ ρ (L.getD k .undef) (f k)/\(f k).oneCell'=true:=⟨λk=>(key k).choose,λk=>(key k).choose_spec⟩
  obtain⟨f,hf⟩:=hch
  refine⟨_,(List.range m).map f,rfl,rfl,?_,by simp,?_,?_⟩
  ·rw[fD]
   refine⟨by simp[hlen],λi c v hc hv=>?_⟩
   have hi:i<L.length:=(List.getElem?_eq_some_iff.1 hc).1
   have hv':v=f i:=by
    rw[List.getElem?_map,List.getElem?_range (by omega)]at hv
    simpa using hv.symm
   subst hv'
   have:=(hf i hi).2.1
   rwa [show L.getD i .undef=c by simp[List.getD,hc]]at this
  ·intro y hy
   obtain⟨k,hk,rfl⟩:=List.mem_map.1 hy
   rw[List.mem_range]at hk
   exact(hf k (by omega)).2.2
  ·intro j y hj'
   rw[List.getElem?_map]at hj'
   cases hr:(List.range m)[j]? with
   |none=>rw[hr]at hj';cases hj'
   |some k=>
    rw[hr]at hj'
    have hk:j<m:=by have:=(List.getElem?_eq_some_iff.1 hr).1;simpa using this
    have hjk:k=j:=by rw[List.getElem?_range hk]at hr;exact(Option.some.inj hr).symm
    subst hjk
    have hy:f k=y:=by simpa using hj'
    obtain⟨hc,_,_⟩:=hf k (by omega)
    rw[add_lit,<-hy,<-hc]
    have hlt:b<w0.heap.size:=World.block_lt_of_cell? w0 ⟨b,off+k,none⟩ hc
    simp only[World.cell?,hh.old b hlt]
variable{P:Program}
def OO(l:List Value)(o:Nat)(new:List Value):List Value:=l.take o++new++l.drop (o+new.length)
theorem AGK(l:List Value)(o:Nat)(new:List Value)(h:o+new.length<=l.length)(i:Nat):
 (OO l o new)[i]? =if o<=i/\i<o+new.length then new[i-o]? else l[i]? :=by
 have ht:(l.take o).length=o:=by simp;omega
 unfold OO
 by_cases h1:i<o
 ·rw[if_neg (by omega),List.append_assoc,List.getElem?_append_left (by omega),List.getElem?_take]
  simp[h1]
 ·by_cases h2:i<o+new.length
  ·rw[if_pos ⟨by omega,h2⟩,List.append_assoc,List.getElem?_append_right (by omega),List.getElem?_append_left (by omega),ht]
  ·rw[if_neg (by omega),List.getElem?_append_right (by simp;omega),List.getElem?_drop]
   congr 1
   simp;omega
theorem Xq(l:List Value)(o:Nat)(new:List Value)(h:o+new.length<=l.length):(OO l o new).length=l.length:=by simp[OO];omega
theorem Zq(vs:Array Value)(o n j:Nat):(sub vs o n)[j]? =if j<n then vs.toList[o+j]? else none:=by
 simp only[sub,List.getElem?_take,List.getElem?_drop]
theorem dN{vs:Array Value}{o:Nat}{new:List Value}(h:o+new.length<=vs.size):sub (OO vs.toList o new).toArray o new.length=new:=by
 apply List.ext_getElem?
 intro j
 rw[Zq]
 by_cases hj:j<new.length
 ·rw[if_pos hj]
  show(OO vs.toList o new)[o+j]? =_
  rw[AGK _ _ _ (by simpa using h),if_pos (by omega)]
  congr 1;omega
 ·rw[if_neg hj,List.getElem?_eq_none (by omega)]
theorem Wn{vs:Array Value}{o:Nat}{new:List Value}(h:o+new.length<=vs.size){o' m:Nat}(hd:o'+m<=o∨o+new.length<=o'):
 sub (OO vs.toList o new).toArray o' m=sub vs o' m:=by
 apply List.ext_getElem?
 intro j
 rw[Zq,Zq]
 by_cases hj:j<m
 ·rw[if_pos hj,if_pos hj]
  show(OO vs.toList o new)[o'+j]? =_
  rw[AGK _ _ _ (by simpa using h),if_neg (by omega)]
 ·rw[if_neg hj,if_neg hj]
theorem ALD{vs:Array Value}{o:Nat}{new:List Value}(h:o+new.length<=vs.size){B m f:Nat}(hf:o=B+f)(hm:f+new.length<=m)(hB:B+m<=vs.size):
 sub (OO vs.toList o new).toArray B m=(sub vs B m).take f++(new++(sub vs B m).drop (f+new.length)):=by
 apply List.ext_getElem?
 intro j
 have hl:(sub vs B m).length=m:=TS hB
 have ht:((sub vs B m).take f).length=f:=by rw[List.length_take,hl];omega
 rw[Zq]
 by_cases hj:j<m
 ·rw[if_pos hj]
  show(OO vs.toList o new)[B+j]? =_
  rw[AGK _ _ _ (by simpa using h)]
  by_cases h1:j<f
  ·rw[if_neg (by omega),List.getElem?_append_left (by omega),List.getElem?_take,if_pos h1,Zq,if_pos hj]
  ·by_cases h2:j<f+new.length
   ·rw[if_pos (by omega),List.getElem?_append_right (by omega),List.getElem?_append_left (by omega),ht]
    congr 1;omega
   ·rw[if_neg (by omega),List.getElem?_append_right (by omega),List.getElem?_append_right (by omega),List.getElem?_drop,ht,Zq,if_pos (by omega)]
    congr 1;omega
 ·rw[if_neg hj,List.getElem?_eq_none (by simp[hl,ht];omega)]
theorem Jl(g o:Nat)(t:TypeId)(fz:Nat×Nat):∀(vs:List Value) (i:Nat) (cur:Array Value) (w:World),w.heap[g]? =some (.cells cur t fz)->qC fz cur.size->o+i+vs.length<=cur.size->(∀v∈vs,v.oneCell'=true)->
 (storeCells ⟨g,o,none⟩ vs i).run P w=.ok () (w.setRow g (OO cur.toList (o+i) vs).toArray)
 |[],i,cur,w,hg,_,_,_=>by
  simp only[storeCells,OO,List.append_nil,List.length_nil,Nat.add_zero,List.take_append_drop,Array.toArray_toList]
  rw[setRow_self w g cur t fz hg]
  rfl
 |v::rest,i,cur,w,hg,hu,hl,h1=>by
  have hi:o+i<cur.size:=by simp at hl;omega
  have hadd:(⟨g,o,none⟩:Addr).add i=⟨g,o+i,none⟩:=add_lit _ _ _
  have hcell:w.cell? ⟨g,o+i,none⟩=some cur[o+i]:=by simp[World.cell?,hg,hi]
  have hfro:w.frozen? ⟨g,o+i,none⟩=false:=by
   obtain⟨lo,hi'⟩:=fz
   have:=hu (o+i) hi
   simp only[World.frozen?,hg,Bool.and_eq_false_iff,decide_eq_false_iff_not]
   simp only at this
   omega
  have hst:(store ((⟨g,o,none⟩:Addr).add i) v).run P w=.ok () (w.setRow g (cur.setIfInBounds (o+i) v)):=by
   rw[hadd,run_store P w _ v _ (h1 v (by simp)),hcell]
   simp[hfro,setCell_eq_setRow w g (o+i) cur t fz v hg]
  have ih:=Jl g o t fz rest (i+1) (cur.setIfInBounds (o+i) v) (w.setRow g (cur.setIfInBounds (o+i) v)) (setRow_heap w g cur _ t _ hg) (by simpa using hu) (by simp at hl⊢;omega) (λx hx=>h1 x (by simp[hx]))
  simp only[storeCells,Sem.run_bind,hst,Result.andThen_ok,ih,setRow_setRow]
  congr 3
  have e:=list_seg_step cur.toList (o+i) v rest (by simp at hl⊢;omega)
  simpa[OO,Array.toList_setIfInBounds,Nat.add_assoc]using e
structure Ij(ρ:Loc)(H:Heap)(n:Nat)(ρ':Loc)(H':Heap)(n':Nat):Prop where
 le:ρ.le ρ'
 grow:n<=n'
 keep:∀id,id<n->ρ id=none->ρ' id=none/\T.get H' id=T.get H id
theorem Ij.refl(ρ:Loc)(H:Heap)(n:Nat):Ij ρ H n ρ H n:=⟨Loc.le.refl _,Nat.le_refl _,λ_ _ h=>⟨h,rfl⟩⟩
theorem Ij.trans{ρ ρ' ρ'':Loc}{H H' H'':Heap}{n n' n'':Nat}(h:Ij ρ H n ρ' H' n')(h':Ij ρ' H' n' ρ'' H'' n''):Ij ρ H n ρ'' H'' n'':=
 ⟨h.le.trans h'.le,Nat.le_trans h.grow h'.grow,λid hi hn=>by
  obtain⟨a,b⟩:=h.keep id hi hn
  obtain⟨c,d⟩:=h'.keep id (Nat.lt_of_lt_of_le hi h.grow) a
  exact⟨c,d.trans b⟩⟩
theorem xU.of_heap{ρ:Loc}{w w':World}{x:Info}{esz cnt:Nat}{c:T LV}{vs:Array Value}{t:TypeId}{fz:Nat×Nat}(h:xU ρ w x esz cnt c vs t fz)(e:w'.heap[x.b]? =w.heap[x.b]?):
 xU ρ w' x esz cnt c vs t fz:={h with heap:=e.trans h.heap}
theorem xU.mono{ρ ρ':Loc}(hle:ρ.le ρ'){w:World}{x:Info}{esz cnt:Nat}{c:T LV}{vs:Array Value}{t:TypeId}{fz:Nat×Nat}(h:xU ρ w x esz cnt c vs t fz):
 xU ρ' w x esz cnt c vs t fz:={h with elem:=λe he=>let⟨L,h1,h2⟩:=h.elem e he;⟨L,h1,CV.mono hle _ _ h2⟩}
theorem Lh.mono{ρ ρ':Loc}(hle:ρ.le ρ'):∀(es:ME) (l:List MapEntry),Lh ρ es l->Lh ρ' es l
 |[],_,h=>h
 |(_,_,_)::es,_,⟨e,es',hl,h1,h2,h3,h4⟩=>⟨e,es',hl,AZ.mono hle _ _ h1,AZ.mono hle _ _ h2,h3,Lh.mono hle es es' h4⟩
theorem D8.turn{w0:World}{ρ:Loc}{H:Heap}{n:Nat}{w:World}(hh:D8 w0 ρ H n w){id:Nat}{x:Info}(hx:ρ id=some x)(hlive:isLive H id){w':World}{b':Qc}
 (hsz:w'.heap.size=w.heap.size) (hoth:∀k,k≠x.b->w'.heap[k]? =w.heap[k]?) (hos:w'.os=w.os) (hout:w'.output=w.output)
 (harr:∀esz cnt c,b'=.arr esz cnt c->∃vs t fz,xU ρ w' x esz cnt c vs t fz)
 (hmap:∀es ck,b'=.map es ck->∃es':Array MapEntry,w'.heap[x.b]? =some (.map es' ck)/\Lh ρ es es'.toList)
 (hno:∀b,T.get H id≠some (.own b)) (hbld:∀t e l c j,b'=.iZ t e l c j->ASs w0 ρ (T.set H id b') w' id x t e l c j):
 D8 w0 ρ (T.set H id b') n w':=by
 have hget:∀id',T.get (T.set H id b') id'=if id=id' then some b' else T.get H id':=λid'=>T.KT H id id' b'
 have hl:∀id',isLive (T.set H id b') id'->isLive H id':=by
  rintro id' ⟨b,hb,hne⟩
  rw[hget]at hb
  by_cases e:id=id'
  ·subst e;exact hlive
  ·rw[if_neg e]at hb;exact⟨b,hb,hne⟩
 refine{lt:=hh.lt,blk:=λi y hy=>by rw[hsz];exact hh.blk i y hy,inj:=λi j y z hy hz h1 h2=>hh.inj i j y z hy hz (hl i h1) (hl j h2),arr:=?_,map:=?_,iZ:=?_,old:=?_,os:=hos.trans hh.os,out:=hout.trans hh.out,big:=by rw[hsz];exact hh.big,top:=λi hi=>by rw[hget,if_neg (by have:=hh.lt id x hx;omega)];exact hh.top i hi}
 ·intro i y esz cnt c hy hb
  rw[hget]at hb
  by_cases e:id=i
  ·subst e
   rw[if_pos rfl]at hb
   have hyx:y=x:=by rw[hx]at hy;exact(Option.some.inj hy).symm
   subst hyx
   exact harr esz cnt c (Option.some.inj hb)
  ·rw[if_neg e]at hb
   have hne:y.b≠x.b:=λhbe=>e (hh.inj id i x y hx hy hlive ⟨_,hb,by simp⟩ hbe.symm)
   obtain⟨vs,t,fz,ha⟩:=hh.arr i y esz cnt c hy hb
   exact⟨vs,t,fz,ha.of_heap (hoth _ hne)⟩
 ·intro i y es ck hy hb
  rw[hget]at hb
  by_cases e:id=i
  ·subst e
   rw[if_pos rfl]at hb
   have hyx:y=x:=by rw[hx]at hy;exact(Option.some.inj hy).symm
   subst hyx
   exact hmap es ck (Option.some.inj hb)
  ·rw[if_neg e]at hb
   have hne:y.b≠x.b:=λhbe=>e (hh.inj id i x y hx hy hlive ⟨_,hb,by simp⟩ hbe.symm)
   obtain⟨es',he,hr⟩:=hh.map i y es ck hy hb
   exact⟨es',by rw[hoth _ hne,he],hr⟩
 ·intro i y t e l c j hy hb
  rw[hget]at hb
  by_cases ee:id=i
  ·subst ee
   rw[if_pos rfl]at hb
   have hyx:y=x:=by rw[hx]at hy;exact(Option.some.inj hy).symm
   subst hyx
   exact hbld t e l c j (Option.some.inj hb)
  ·rw[if_neg ee]at hb
   have hne:y.b≠x.b:=λhbe=>ee (hh.inj id i x y hx hy hlive ⟨_,hb,by simp⟩ hbe.symm)
   refine(hh.iZ i y t e l c j hy hb).same (hoth _ hne) (Loc.le.refl _) λz hz hj=>?_
   have hjd:id≠j:=λe=>by subst e;exact hno _ hj
   exact⟨hoth _ λhbe=>hjd (hh.inj id j x z hx hz hlive ⟨_,hj,by simp⟩ hbe.symm),by rw[hget,if_neg hjd];exact hj⟩
 ·intro b hb
  have:=(hh.blk id x hx).1
  rw[hoth b (by omega)]
  exact hh.old b hb
theorem Ij.turn{ρ:Loc}{H:Heap}{n:Nat}{id:Nat}{x:Info}(hx:ρ id=some x)(b:Qc):Ij ρ H n ρ (T.set H id b) n:=
 ⟨Loc.le.refl _,Nat.le_refl _,λi _ hn=>⟨hn,T.Ad H b (λe=>by subst e;rw[hx]at hn;cases hn)⟩⟩
theorem xU.put{ρ:Loc}{w:World}{x:Info}{esz cnt:Nat}{c:T LV}{vs:Array Value}{t:TypeId}{fz:Nat×Nat}(h:xU ρ w x esz cnt c vs t fz)
 {off:Nat} {new:LV} {cs:List Value} {b':Qc} (hb:stB esz cnt c off cs.length new=some b') (hr:CV ρ new cs) (h1:∀y∈cs,y.oneCell'=true):
 ∃c',b'=.arr esz cnt c'/\x.base+off+cs.length<=vs.size/\xU ρ (w.setRow x.b (OO vs.toList (x.base+off) cs).toArray) x esz cnt c' (OO vs.toList (x.base+off) cs).toArray t fz:=by
 unfold stB at hb
 obtain⟨L0,h0,hs⟩:=Bg.1 hb
 have hlt:off/esz<cnt:=by
  rcases Nat.lt_or_ge (off/esz) cnt with hh|hh
  ·exact hh
  ·have hb:Nat.blt (Nat.div off esz) cnt=false:=by rw[Bool.eq_false_iff];intro hc;rw[Nat.blt_eq]at hc;exact absurd hc (Nat.not_lt.2 hh)
   rw[hb]at h0;cases h0
 have hb:Nat.blt (Nat.div off esz) cnt=true:=by rw[Nat.blt_eq];exact hlt
 rw[hb]at h0
 obtain⟨L1,hL1,hr1⟩:=h.elem _ hlt
 have e0:L0=L1:=Option.some.inj (h0.symm.trans hL1)
 subst e0
 have hdm:esz*(off/esz)+off%esz=off:=Nat.div_add_mod off esz
 have hce:(off/esz)*esz=esz*(off/esz):=Nat.mul_comm _ _
 have hroom:x.base+(off/esz)*esz+esz<=vs.size:=by
  have h2:(off/esz+1)*esz<=cnt*esz:=Nat.mul_le_mul_right _ hlt
  rw[Nat.add_mul,Nat.one_mul]at h2
  have:=h.room
  rw[h.size]
  omega
 have key:∃L',b'=.arr esz cnt (T.set c (off/esz) L')/\off%esz+cs.length<=esz/\CV ρ L' ((sub vs (x.base+(off/esz)*esz) esz).take (off%esz)++(cs++(sub vs (x.base+(off/esz)*esz) esz).drop (off%esz+cs.length))):=by
  unfold stC at hs
  cases hc:band (Nat.beq cs.length esz) (Nat.beq (Nat.mod off esz) 0)with
  |true=>
   rw[hc]at hs
   simp only[BO,Bool.and_eq_true,beq_iff]at hc
   have hm:off%esz=0:=hc.2
   refine⟨new,(Option.some.inj hs).symm,by omega,?_⟩
   rw[hm,hc.1]
   have hl0:(sub vs (x.base+(off/esz)*esz) esz).drop (0+esz)=[]:=by rw[List.drop_eq_nil_iff,TS hroom];omega
   rw[hl0]
   simpa using hr
  |false=>
   rw[hc]at hs
   cases hf:Nat.ble (Nat.add (Nat.mod off esz) cs.length) esz with
   |false=>rw[hf]at hs;cases hs
   |true=>
    rw[hf]at hs
    have hle:off%esz+cs.length<=esz:=Nat.le_of_ble_eq_true hf
    refine⟨_,(Option.some.inj hs).symm,hle,?_⟩
    rw[AIv,<-hr.length]
    exact(hr1.take _).append (hr.append (hr1.drop _))
 obtain⟨L',rfl,hfit,hL'⟩:=key
 have hsz:x.base+off+cs.length<=vs.size:=by omega
 have hlen:(OO vs.toList (x.base+off) cs).toArray.size=vs.size:=by
  have:=Xq vs.toList (x.base+off) cs (by simpa using hsz)
  simpa using this
 refine⟨_,rfl,hsz,{heap:=setRow_heap w x.b vs _ t fz h.heap,size:=hlen.trans h.size,free:=h.free,sh:=h.sh,room:=h.room,one:=?_,elem:=?_}⟩
 ·intro u hu
  simp only[OO,List.mem_append]at hu
  rcases hu with(hu|hu)|hu
  ·exact h.one u (List.mem_of_mem_take hu)
  ·exact h1 u hu
  ·exact h.one u (List.mem_of_mem_drop hu)
 ·intro e he
  by_cases hee:off/esz=e
  ·subst hee
   refine⟨L',T.Au _ _ _,?_⟩
   rw[ALD hsz (B:=x.base+(off/esz)*esz) (m:=esz) (f:=off%esz) (by omega) hfit hroom]
   exact hL'
  ·obtain⟨L,hL,hrL⟩:=h.elem e he
   refine⟨L,by rw[T.Ad c L' hee,hL],?_⟩
   rw[Wn hsz]
   ·exact hrL
   ·rcases Nat.lt_or_gt_of_ne hee with hlt'|hgt
    ·right
     have:(off/esz+1)*esz<=e*esz:=Nat.mul_le_mul_right _ hlt'
     rw[Nat.add_mul,Nat.one_mul]at this
     omega
    ·left
     have:(e+1)*esz<=(off/esz)*esz:=Nat.mul_le_mul_right _ hgt
     rw[Nat.add_mul,Nat.one_mul]at this
     omega
theorem ARF{w0:World}{ρ:Loc}{H:Heap}{n:Nat}{w:World}(hh:D8 w0 ρ H n w){v:V}{u:Value}(hv:AZ ρ v u){new:LV}{cs:List Value}{H':Heap}
 (hs:stP v H cs.length new=some H') (hr:CV ρ new cs) (h1:∀y∈cs,y.oneCell'=true):
 ∃a w',u=.pointer (some a)/\(storeCells a cs).run P w=.ok () w'/\D8 w0 ρ H' n w'/\Ij ρ H n ρ H' n:=by
 cases v<;>simp only[stP]at hs<;>try (cases hs;done)
 case ptr id off=>
  simp only[AZ]at hv
  obtain⟨x,hx,rfl⟩:=hv
  unfold stH at hs
  obtain⟨b',hb',hH⟩:=Bg.1 hs
  have hH':T.set H id b'=H':=Option.some.inj hH
  cases hb:T.get H id with
  |none=>rw[hb]at hb';cases hb'
  |some b=>
   rw[hb]at hb'
   cases b with
   |arr esz cnt c=>
    have hb2:stB esz cnt c off cs.length new=some b':=hb'
    obtain⟨vs,t,fz,ha⟩:=hh.arr id x esz cnt c hx hb
    obtain⟨c',rfl,hsz,ha'⟩:=ha.put hb2 hr h1
    have hrun:=Jl (P:=P) x.b (x.base+off) t fz cs 0 vs w ha.heap (by rw[ha.size];exact ha.free) (by simpa using hsz) h1
    simp only[Nat.add_zero]at hrun
    refine⟨_,_,rfl,hrun,?_,?_⟩
    ·subst hH'
     refine hh.turn hx ⟨_,hb,by simp⟩ (setRow_size _ _ _) (λk hk=>setRow_other _ _ _ _ hk) (setRow_os _ _ _) (setRow_output _ _ _) ?_ (λes ck he=>by cases he) (λ_=>by rw[hb];simp) (λ_ _ _ _ _ he=>by cases he)
     intro e2 n2 c2 he
     cases he
     exact⟨_,_,_,ha'⟩
    ·subst hH';exact Ij.turn hx _
   |map es ck=>cases hb'
   |dead=>cases hb'
   |iZ _ _ _ _ _=>cases hb'
   |own _=>cases hb'
variable{P:Program}
theorem D8.of_same{w0:World}{ρ:Loc}{H:Heap}{n:Nat}{w w':World}(hh:D8 w0 ρ H n w)(h1:w'.heap=w.heap)(h2:w'.os=w.os)(h3:w'.output=w.output):D8 w0 ρ H n w':=
 {lt:=hh.lt,blk:=λi x hx=>by rw[h1];exact hh.blk i x hx,inj:=hh.inj,
  arr:=λi x e c t hx hb=>let⟨vs,ty,fz,ha⟩:=hh.arr i x e c t hx hb;⟨vs,ty,fz,ha.of_heap (by rw[h1])⟩,
  map:=λi x e c hx hb=>let⟨es,he,hr⟩:=hh.map i x e c hx hb;⟨es,by rw[h1];exact he,hr⟩,
  iZ:=λi x t e l c j hx hb=>(hh.iZ i x t e l c j hx hb).same (by rw[h1]) (Loc.le.refl _) λy _ hj=>⟨by rw[h1],hj⟩,
  old:=λb hb=>by rw[h1];exact hh.old b hb,os:=h2.trans hh.os,out:=h3.trans hh.out,big:=by rw[h1];exact hh.big,top:=hh.top}
theorem D8.drew{w0:World}{ρ:Loc}{H:Heap}{n:Nat}{w:World}(hh:D8 w0 ρ H n w):D8 w0 ρ H n w.drew:=hh.of_same rfl rfl rfl
def AI8(ρ:Loc)(size:Nat):Qc->Obj->Prop
 |.arr esz cnt c,o=>∃vs t fz,o=.cells vs t fz/\vs.size=size/\qC fz size/\(esz=1∨fz=(0,0))/\cnt*esz<=size/\(∀u∈vs.toList,u.oneCell'=true)/\∀e,e<cnt->∃L,T.get c e=some L/\CV ρ L (sub vs (e*esz) esz)
 |.map es ck,o=>∃es':Array MapEntry,o=.map es' ck/\Lh ρ es es'.toList
 |.dead,_=>True
 |.iZ t e l c _,o=>l=0/\c=0/\o=.cells #[.pointer none,.slice none 0 0] t (0,0)
 |.own _,_=>True
def Loc.add(ρ:Loc)(id:Nat)(x:Info):Loc:=λi=>if i=id then some x else ρ i
theorem Loc.add_same(ρ:Loc)(id:Nat)(x:Info):ρ.add id x id=some x:=by simp[Loc.add]
theorem Loc.WO(ρ:Loc){id i:Nat}(x:Info)(h:i≠id):ρ.add id x i=ρ i:=by simp[Loc.add,h]
theorem Loc.ACz{ρ:Loc}{id:Nat}(x:Info)(h:ρ id=none):ρ.le (ρ.add id x):=λi y hy=>by
 by_cases e:i=id
 ·subst e;rw[h]at hy;cases hy
 ·rw[Loc.WO ρ x e];exact hy
theorem D8.fresh{w0:World}{ρ:Loc}{H:Heap}{n:Nat}{w:World}(hh:D8 w0 ρ H n w)(b:Qc):D8 w0 ρ (T.set H n b) (n+1) w:=by
 have hne:∀i x,ρ i=some x->n≠i:=λi x hx e=>by have:=hh.lt i x hx;omega
 refine{lt:=λi x hx=>Nat.lt_succ_of_lt (hh.lt i x hx),blk:=hh.blk,inj:=?_,arr:=?_,map:=?_,iZ:=?_,old:=hh.old,os:=hh.os,out:=hh.out,big:=hh.big,top:=λid h=>by rw[T.Ad H _ (by omega)];exact hh.top id (by omega)}
 ·intro i j x y hx hy h1 h2 hb
  refine hh.inj i j x y hx hy ?_ ?_ hb
  ·obtain⟨b,hb,hd⟩:=h1;rw[T.Ad H _ (hne i x hx)]at hb;exact⟨b,hb,hd⟩
  ·obtain⟨b,hb,hd⟩:=h2;rw[T.Ad H _ (hne j y hy)]at hb;exact⟨b,hb,hd⟩
 ·intro i x e c t hx hb;rw[T.Ad H _ (hne i x hx)]at hb;exact hh.arr i x e c t hx hb
 ·intro i x e c hx hb;rw[T.Ad H _ (hne i x hx)]at hb;exact hh.map i x e c hx hb
 ·intro i x t e l c j hx hb
  rw[T.Ad H _ (hne i x hx)]at hb
  exact(hh.iZ i x t e l c j hx hb).same rfl (Loc.le.refl _) λy hy hj=>⟨rfl,by rw[T.Ad H _ (hne j y hy)];exact hj⟩
theorem D8.AAO{w0:World}{ρ:Loc}{H:Heap}{n:Nat}{w:World}(hh:D8 w0 ρ H n w):ρ n=none:=by
 cases h:ρ n with
 |none=>rfl
 |some x=>exact absurd (hh.lt n x h) (Nat.lt_irrefl n)
theorem Ij.fresh(ρ:Loc)(H:Heap)(n:Nat)(b:Qc):Ij ρ H n ρ (T.set H n b) (n+1):=
 ⟨Loc.le.refl _,by omega,λi hi hn=>⟨hn,T.Ad H b (by omega)⟩⟩
theorem D8.place{w0:World}{ρ:Loc}{H:Heap}{n:Nat}{w:World}(hh:D8 w0 ρ H n w){id:Nat}(hid:id<n)(hn:ρ id=none){b:Qc}(hb:T.get H id=some b){size:Nat}{o:Obj}(hr:AI8 ρ size b o):
 D8 w0 (ρ.add id ⟨w.heap.size,0,size⟩) H n (w.alloc o):=by
 have hle:=Loc.ACz ⟨w.heap.size,0,size⟩ hn
 have hnew:(w.alloc o).heap[w.heap.size]? =some o:=by show(w.heap.push o)[w.heap.size]? =_;simp
 have hold:∀k,k<w.heap.size->(w.alloc o).heap[k]? =w.heap[k]? :=λk hk=>by show(w.heap.push o)[k]? =_;rw[Array.getElem?_push,if_neg (by omega)]
 have hcase:∀i x,ρ.add id ⟨w.heap.size,0,size⟩ i=some x->(i=id/\x=⟨w.heap.size,0,size⟩)∨(i≠id/\ρ i=some x):=by
  intro i x hx
  by_cases e:i=id
  ·subst e;rw[Loc.add_same]at hx;exact .inl ⟨rfl,(Option.some.inj hx).symm⟩
  ·rw[Loc.WO ρ _ e]at hx;exact .inr ⟨e,hx⟩
 refine{lt:=?_,blk:=?_,inj:=?_,arr:=?_,map:=?_,iZ:=?_,old:=?_,os:=hh.os,out:=hh.out,big:=by rw[World.size_alloc];have:=hh.big;omega,top:=hh.top}
 ·intro i x hx;rcases hcase i x hx with⟨rfl,_⟩|⟨_,h⟩
  ·exact hid
  ·exact hh.lt i x h
 ·intro i x hx;rcases hcase i x hx with⟨_,rfl⟩|⟨_,h⟩
  ·exact⟨hh.big,by simp⟩
  ·have:=hh.blk i x h;rw[World.size_alloc];omega
 ·intro i j x y hx hy h1 h2 hbe
  rcases hcase i x hx with⟨rfl,rfl⟩|⟨e1,h1'⟩<;>rcases hcase j y hy with⟨rfl,rfl⟩|⟨e2,h2'⟩
  ·rfl
  ·have:=(hh.blk j y h2').2;simp at hbe;omega
  ·have:=(hh.blk i x h1').2;simp at hbe;omega
  ·exact hh.inj i j x y h1' h2' h1 h2 hbe
 ·intro i x e c t hx hb'
  rcases hcase i x hx with⟨rfl,rfl⟩|⟨e1,h1'⟩
  ·have hbb:b=.arr e c t:=Option.some.inj (hb.symm.trans hb')
   subst hbb
   obtain⟨vs,ty,fz,rfl,h2,h3,hs,h4,h5,h6⟩:=hr
   refine⟨vs,ty,fz,{heap:=hnew,size:=h2,free:=h3,sh:=hs,room:=by simpa using h4,one:=h5,elem:=λk hk=>?_}⟩
   obtain⟨L,hL,hrL⟩:=h6 k hk
   exact⟨L,hL,by simpa using CV.mono hle _ _ hrL⟩
  ·obtain⟨vs,ty,fz,ha⟩:=hh.arr i x e c t h1' hb'
   exact⟨vs,ty,fz,(ha.of_heap (hold _ (hh.blk i x h1').2)).mono hle⟩
 ·intro i x e c hx hb'
  rcases hcase i x hx with⟨rfl,rfl⟩|⟨e1,h1'⟩
  ·have hbb:b=.map e c:=Option.some.inj (hb.symm.trans hb')
   subst hbb
   obtain⟨es,rfl,hes⟩:=hr
   exact⟨es,hnew,Lh.mono hle _ _ hes⟩
  ·obtain⟨es,he,hes⟩:=hh.map i x e c h1' hb'
   exact⟨es,by rw[hold _ (hh.blk i x h1').2];exact he,Lh.mono hle _ _ hes⟩
 ·intro i x t e l c j hx hb'
  rcases hcase i x hx with⟨rfl,rfl⟩|⟨e1,h1'⟩
  ·have hbb:b=.iZ t e l c j:=Option.some.inj (hb.symm.trans hb')
   subst hbb
   obtain⟨rfl,rfl,rfl⟩:=hr
   exact⟨rfl,[],_,_,rfl,rfl,.inl rfl,hnew,World.ownsRow_nil _ _ _ _,λ_=>rfl,λh=>absurd h (Nat.lt_irrefl 0)⟩
  ·exact(hh.iZ i x t e l c j h1' hb').same (hold _ (hh.blk i x h1').2) hle λy hy hj=>⟨hold _ (hh.blk j y hy).2,hj⟩
 ·intro k hk;have:=hh.big;rw[hold k (by omega)];exact hh.old k hk
theorem Ij.place{ρ:Loc}{H:Heap}{n:Nat}{b:Qc}(x:Info)(h:ρ n=none):Ij ρ H n (ρ.add n x) (T.set H n b) (n+1):=
 ⟨Loc.ACz x h,by omega,λi hi hn=>⟨by rw[Loc.WO ρ x (by omega)];exact hn,T.Ad H b (by omega)⟩⟩
theorem D8.new{w0:World}{ρ:Loc}{H:Heap}{n:Nat}{w:World}(hh:D8 w0 ρ H n w){b:Qc}{size:Nat}{o:Obj}(hr:AI8 ρ size b o):
 D8 w0 (ρ.add n ⟨w.heap.size,0,size⟩) (T.set H n b) (n+1) (w.alloc o):=
 (hh.fresh b).place (Nat.lt_succ_self n) hh.AAO (T.Au _ _ _) hr
theorem D8.move{w0:World}{ρ:Loc}{H:Heap}{n:Nat}{w:World}(hh:D8 w0 ρ H n w){id:Nat}{x:Info}(hx:ρ id=some x)(hlive:isLive H id){w':World}{y:Info}(hy:y.b=x.b){esz cnt:Nat}{c:T LV}
 (hsz:w'.heap.size=w.heap.size) (hoth:∀k,k≠x.b->w'.heap[k]? =w.heap[k]?) (hos:w'.os=w.os) (hout:w'.output=w.output)
 (harr:∃vs t fz,xU ρ w' y esz cnt c vs t fz) (hno:∀b,T.get H id≠some (.own b)):
 D8 w0 (ρ.add n y) (T.set (T.set H id .dead) n (.arr esz cnt c)) (n+1) w':=by
 have hn:=hh.AAO
 have hle:=Loc.ACz y hn
 have AZv:id≠n:=λe=>by subst e;rw[hx]at hn;cases hn
 have hcase:∀i z,ρ.add n y i=some z->(i=n/\z=y)∨(i≠n/\ρ i=some z):=by
  intro i z hz
  by_cases e:i=n
  ·subst e;rw[Loc.add_same]at hz;exact .inl ⟨rfl,(Option.some.inj hz).symm⟩
  ·rw[Loc.WO ρ _ e]at hz;exact .inr ⟨e,hz⟩
 have hget:∀i,i≠n->T.get (T.set (T.set H id .dead) n (.arr esz cnt c)) i=if id=i then some .dead else T.get H i:=λi hi=>by
  rw[T.Ad _ _ (Ne.symm hi),T.KT]
 have hlv:∀i,i≠n->isLive (T.set (T.set H id .dead) n (.arr esz cnt c)) i->isLive H i/\i≠id:=by
  rintro i hi ⟨b,hb,hd⟩
  rw[hget i hi]at hb
  by_cases e:id=i
  ·rw[if_pos e]at hb;exact absurd (Option.some.inj hb).symm hd
  ·rw[if_neg e]at hb;exact⟨⟨b,hb,hd⟩,Ne.symm e⟩
 refine{lt:=?_,blk:=?_,inj:=?_,arr:=?_,map:=?_,iZ:=?_,old:=?_,os:=hos.trans hh.os,out:=hout.trans hh.out,big:=by rw[hsz];exact hh.big,top:=λi hi=>by rw[hget i (by omega),if_neg (by have:=hh.lt id x hx;omega)];exact hh.top i (by omega)}
 ·intro i z hz;rcases hcase i z hz with⟨rfl,_⟩|⟨_,h⟩
  ·omega
  ·exact Nat.lt_succ_of_lt (hh.lt i z h)
 ·intro i z hz;rcases hcase i z hz with⟨_,rfl⟩|⟨_,h⟩
  ·rw[hy,hsz];exact hh.blk id x hx
  ·rw[hsz];exact hh.blk i z h
 ·intro i j z z' hz hz' h1 h2 hbe
  rcases hcase i z hz with⟨rfl,rfl⟩|⟨e1,h1'⟩<;>rcases hcase j z' hz' with⟨rfl,rfl⟩|⟨e2,h2'⟩
  ·rfl
  ·obtain⟨hl,hne⟩:=hlv j e2 h2
   exact absurd (hh.inj id j x z' hx h2' hlive hl (by rw[<-hy,hbe])).symm hne
  ·obtain⟨hl,hne⟩:=hlv i e1 h1
   exact absurd (hh.inj id i x z hx h1' hlive hl (by rw[<-hy,hbe])).symm hne
  ·exact hh.inj i j z z' h1' h2' (hlv i e1 h1).1 (hlv j e2 h2).1 hbe
 ·intro i z e k t hz hb'
  rcases hcase i z hz with⟨rfl,rfl⟩|⟨e1,h1'⟩
  ·rw[T.Au]at hb'
   cases hb'
   obtain⟨vs,ty,fz,ha⟩:=harr
   exact⟨vs,ty,fz,ha.mono hle⟩
  ·rw[hget i e1]at hb'
   by_cases ee:id=i
   ·rw[if_pos ee]at hb';cases hb'
   ·rw[if_neg ee]at hb'
    have hne:z.b≠x.b:=λhbe=>ee (hh.inj id i x z hx h1' hlive ⟨_,hb',by simp⟩ hbe.symm)
    obtain⟨vs,ty,fz,ha⟩:=hh.arr i z e k t h1' hb'
    exact⟨vs,ty,fz,(ha.of_heap (hoth _ hne)).mono hle⟩
 ·intro i z e k hz hb'
  rcases hcase i z hz with⟨rfl,rfl⟩|⟨e1,h1'⟩
  ·rw[T.Au]at hb';cases hb'
  ·rw[hget i e1]at hb'
   by_cases ee:id=i
   ·rw[if_pos ee]at hb';cases hb'
   ·rw[if_neg ee]at hb'
    have hne:z.b≠x.b:=λhbe=>ee (hh.inj id i x z hx h1' hlive ⟨_,hb',by simp⟩ hbe.symm)
    obtain⟨es,he,hes⟩:=hh.map i z e k h1' hb'
    exact⟨es,by rw[hoth _ hne];exact he,Lh.mono hle _ _ hes⟩
 ·intro i z t e l c' j hz hb'
  rcases hcase i z hz with⟨rfl,rfl⟩|⟨e1,h1'⟩
  ·rw[T.Au]at hb';cases hb'
  ·rw[hget i e1]at hb'
   by_cases ee:id=i
   ·rw[if_pos ee]at hb';cases hb'
   ·rw[if_neg ee]at hb'
    have hne:z.b≠x.b:=λhbe=>ee (hh.inj id i x z hx h1' hlive ⟨_,hb',by simp⟩ hbe.symm)
    refine(hh.iZ i z t e l c' j h1' hb').same (hoth _ hne) hle λu hu hj=>?_
    have hjd:id≠j:=λe=>by subst e;exact hno _ hj
    have hjn:j≠n:=λe=>by subst e;rw[hn]at hu;cases hu
    exact⟨hoth _ λhbe=>hjd (hh.inj id j x u hx hu hlive ⟨_,hj,by simp⟩ hbe.symm),by rw[hget j hjn,if_neg hjd];exact hj⟩
 ·intro k hk
  have:=(hh.blk id x hx).1
  rw[hoth k (by omega)];exact hh.old k hk
theorem Ij.move{ρ:Loc}{H:Heap}{n:Nat}{id:Nat}{x:Info}(hx:ρ id=some x)(hn:ρ n=none)(y:Info)(b:Qc):Ij ρ H n (ρ.add n y) (T.set (T.set H id .dead) n b) (n+1):=
 ⟨Loc.ACz y hn,by omega,λi hi h=>⟨by rw[Loc.WO ρ y (by omega)];exact h,by
  rw[T.Ad _ b (by omega),T.Ad H _ (λe=>by subst e;rw[hx]at h;cases h)]⟩⟩
theorem D8.kill{w0:World}{ρ:Loc}{H:Heap}{n:Nat}{w:World}(hh:D8 w0 ρ H n w){id:Nat}(hid:id<n)(hno:∀b,T.get H id≠some (.own b)):D8 w0 ρ (T.set H id .dead) n w:=by
 have hget:∀i,T.get (T.set H id .dead) i=if id=i then some .dead else T.get H i:=λi=>T.KT _ _ _ _
 have hlv:∀i,isLive (T.set H id .dead) i->isLive H i:=by
  rintro i ⟨b,hb,hd⟩
  rw[hget i]at hb
  by_cases e:id=i
  ·rw[if_pos e]at hb;exact absurd (Option.some.inj hb).symm hd
  ·rw[if_neg e]at hb;exact⟨b,hb,hd⟩
 refine{lt:=hh.lt,blk:=hh.blk,inj:=λi j x y hx hy h1 h2=>hh.inj i j x y hx hy (hlv i h1) (hlv j h2),arr:=?_,map:=?_,iZ:=?_,old:=hh.old,os:=hh.os,out:=hh.out,big:=hh.big,top:=λi hi=>by rw[hget,if_neg (by omega)];exact hh.top i hi}
 ·intro i x e c t hx hb
  rw[hget]at hb
  split at hb
  ·cases hb
  ·exact hh.arr i x e c t hx hb
 ·intro i x e c hx hb
  rw[hget]at hb
  split at hb
  ·cases hb
  ·exact hh.map i x e c hx hb
 ·intro i x t e l c j hx hb
  rw[hget]at hb
  split at hb
  ·cases hb
  ·exact(hh.iZ i x t e l c j hx hb).same rfl (Loc.le.refl _) λy _ hj=>⟨rfl,by rw[hget,if_neg (λe=>by subst e;exact hno _ hj)];exact hj⟩
variable{P:Program}
def cv1:Value->Option V
 |.bool b=>some (.bool b)
 |.int k n=>some (.int k n 0)
 |.string s=>some (.str s.data.toList.length (enc s.data.toList))
 |.pointer none=>some .AJm
 |.slice none 0 0=>some .Af
 |.map none=>some .ALE
 |.nilFunc=>some .AVw
 |.nilIface=>some .ARH
 |_=>none
def cvL:List Value->Option LV
 |[]=>some []
 |v::l=>(cv1 v).bind λc=>(cvL l).bind λcs=>some (c::cs)
def cvV:Value->Option V
 |.agg a=>(cvL a.toList).map .agg
 |v=>cv1 v
theorem AL0{ρ:Loc}{v:Value}{c:V}(h:cv1 v=some c):AZ ρ c v/\AKQ c=true/\v.oneCell'=true:=by
 unfold cv1 at h
 split at h<;>first|(cases h;done)|(cases h;refine⟨?_,rfl,rfl⟩;simp[AZ])
theorem uV{ρ:Loc}:∀{l:List Value} {cs:LV},cvL l=some cs->CV ρ cs l/\(∀c∈cs,AKQ c=true)/\∀u∈l,u.oneCell'=true
 |[],cs,h=>by simp[cvL]at h;subst h;simp
 |v::l,cs,h=>by
  simp only[cvL,Option.bind_eq_some_iff]at h
  obtain⟨c,hc,cs',hcs,e⟩:=h
  cases e
  obtain⟨h1,h2,h3⟩:=AL0 (ρ:=ρ) hc
  obtain⟨h4,h5,h6⟩:=uV (ρ:=ρ) hcs
  refine⟨.cons h1 h4,?_,?_⟩
  ·intro x hx;rcases List.mem_cons.1 hx with rfl|hx
   ·exact h2
   ·exact h5 x hx
  ·intro x hx;rcases List.mem_cons.1 hx with rfl|hx
   ·exact h3
   ·exact h6 x hx
theorem ABU{ρ:Loc}{v:Value}{c:V}(h:cvV v=some c):AZ ρ c v:=by
 unfold cvV at h
 split at h
 ·rename_i a
  cases hl:cvL a.toList with
  |none=>rw[hl]at h;cases h
  |some cs=>
   rw[hl]at h
   cases h
   obtain⟨h1,_,h3⟩:=uV (ρ:=ρ) hl
   exact⟨a,rfl,h1,h3⟩
 ·exact(AL0 h).1
def NR(P:Program)(t:TypeId):Option Bool:=
 match P.underlying t with
 |some (.struct _)=>some true
 |some (.array _ _)=>some true
 |some _=>some false
 |none=>none
def szT(P:Program)(t:TypeId):Option Nat:=(P.info? t).map (·.size)
def ABa(P:Program)(t:TypeId):Option LV:=(P.info? t).bind λi=>i.zero.bind λz=>cvL z.cells.toList
theorem gy{t:TypeId}{b:Bool}(h:NR P t=some b)(w:World):(isAgg t).run P w=.ok b w:=by
 unfold NR at h
 cases hu:P.underlying t with
 |none=>rw[hu]at h;cases h
 |some d=>
  rw[hu]at h
  simp only[isAgg,Sem.run_bind,run_underlying hu,Result.andThen_ok]
  cases d<;>simp_all
theorem run_sizeOf{t:TypeId}{n:Nat}(h:szT P t=some n)(w:World):(Go.sizeOf t).run P w=.ok n w:=by
 unfold szT at h
 cases hi:P.info? t with
 |none=>rw[hi]at h;cases h
 |some i=>rw[hi]at h;cases h;simp[Go.sizeOf,typeInfo,hi]
theorem AOf{w0:World}{ρ:Loc}{G:AV}{H:Heap}{n:Nat}{w:World}(hh:D8 w0 ρ H n w)(hg:Vg w0 G){v r:V}{u:Value}(hv:AZ ρ v u){t:TypeId}(ht:NR P t=some false)
 (hl:PY (ldP v G H 1) (λL=>nth L 0)=some r):∃val,(Instr.loadAt t u).run P w=.ok val w/\AZ ρ r val:=by
 obtain⟨L,h1,h2⟩:=WV.1 hl
 obtain⟨a,cs,rfl,hsp,hr,hlen,hone,hc⟩:=fZ hh hg hv h1
 rw[kQ]at h2
 obtain⟨val,hval,hvr⟩:=hr.get h2
 have hcell:=hc 0 val hval
 refine⟨val,?_,hvr⟩
 rw[Addr.add_zero']at hcell
 simp[Instr.loadAt,Instr.sureAddr,loadVar,gy ht,hcell]
theorem APR{w0:World}{ρ:Loc}{G:AV}{H:Heap}{n:Nat}{w:World}(hh:D8 w0 ρ H n w)(hg:Vg w0 G){v r:V}{u:Value}(hv:AZ ρ v u){t:TypeId}(ht:NR P t=some true){m:Nat}(hm:szT P t=some m)
 (hl:PY (ldP v G H m) (λL=>some (.agg L))=some r):∃val,(Instr.loadAt t u).run P w=.ok val w/\AZ ρ r val:=by
 obtain⟨L,h1,h2⟩:=WV.1 hl
 cases h2
 obtain⟨a,cs,rfl,hsp,hr,hlen,hone,hc⟩:=fZ hh hg hv h1
 refine⟨.agg cs.toArray,?_,⟨cs.toArray,rfl,by simpa using hr,by simpa using hone⟩⟩
 have hld:=run_loadCells_list (P:=P) w a cs hc
 rw[hlen]at hld
 simp[Instr.loadAt,Instr.sureAddr,loadVar,gy ht,run_sizeOf hm,hld]
variable{P:Program}
theorem DT{v:V}{f:IntKind->Int->Nat->Option V}{r:V}:v.JK f=some r↔∃k n s,v=.int k n s/\f k n s=some r:=by
 cases v<;>simp[V.JK]
 case int k n s=>
  constructor
  ·intro h;exact⟨k,n,s,⟨rfl,rfl,rfl⟩,h⟩
  ·rintro⟨_,_,_,⟨rfl,rfl,rfl⟩,h⟩;exact h
theorem ADL{v:V}{f:Bool->Option V}{r:V}:v.pO f=some r↔∃b,v=.bool b/\f b=some r:=by
 cases v<;>simp[V.pO]
theorem Ip{v:V}{f:Nat->Nat->Option V}{r:V}:v.RV f=some r↔∃l c,v=.str l c/\f l c=some r:=by
 cases v<;>simp[V.RV]
 case str l c=>
  constructor
  ·intro h;exact⟨l,c,⟨rfl,rfl⟩,h⟩
  ·rintro⟨_,_,⟨rfl,rfl⟩,h⟩;exact h
theorem AAL{v:V}{f:LV->Option V}{r:V}:v.uP f=some r↔∃l,v=.agg l/\f l=some r:=by
 cases v<;>simp[V.uP]
theorem AMK{v:V}{f:LV->Option V}{r:V}:v.AKk f=some r↔∃l,v=.EI l/\f l=some r:=by
 cases v<;>simp[V.AKk]
theorem AEj{v:V}{f g:Nat->Nat->Option V}{r:V}:v.AK2 f g=some r↔(∃i o,v=.ptr i o/\f i o=some r)∨(∃i o,v=.gptr i o/\g i o=some r):=by
 cases v<;>simp[V.AK2]
 case ptr l c=>
  constructor
  ·intro h;exact⟨l,c,⟨rfl,rfl⟩,h⟩
  ·rintro⟨_,_,⟨rfl,rfl⟩,h⟩;exact h
 case gptr l c=>
  constructor
  ·intro h;exact⟨l,c,⟨rfl,rfl⟩,h⟩
  ·rintro⟨_,_,⟨rfl,rfl⟩,h⟩;exact h
theorem ACS{n:Int}{f:Nat->Option V}{r:V}:ARk n f=some r↔∃m:Nat,n=m/\f m=some r:=by
 cases n with
 |ofNat m=>exact⟨λh=>⟨m,rfl,h⟩,λ⟨m',h,h'⟩=>by cases h;exact h'⟩
 |negSucc m=>exact⟨λh=>(by cases h),λ⟨m',h,_⟩=>by cases h⟩
theorem Qm{v:V}{f:Nat->Option V}{r:V}:XK v f=some r↔∃k,∃m:Nat,v=.int k m 0/\f m=some r:=by
 unfold XK
 rw[DT]
 constructor
 ·rintro⟨k,n,s,rfl,h⟩
  rw[Ba,ACS]at h
  obtain⟨hs,m,rfl,hf⟩:=h
  have hs0:s=0:=by simpa using hs
  subst hs0
  exact⟨k,m,rfl,hf⟩
 ·rintro⟨k,m,rfl,hf⟩
  exact⟨k,m,0,rfl,by rw[Ba,ACS];exact⟨rfl,m,rfl,hf⟩⟩
def B2.op:B2->BinOp
 |.add=>.add|.sub=>.sub|.mul=>.mul|.quo=>.quo|.rem=>.rem|.and=>.and|.or=>.or|.xor=>.xor|.andNot=>.andNot|.shl=>.shl|.shr=>.shr
 |.lss=>.lss|.leq=>.leq|.gtr=>.gtr|.geq=>.geq
theorem AB3{ρ:Loc}{k:IntKind}{n:Int}{s:Nat}{r:V}(h:mkI k n s=some r):AZ ρ r (.int k (k.wrap n)):=by
 obtain⟨s',hs,_⟩:=AYU k n s
 rw[hs]at h;cases h
 simp[AZ]
def ABo(P:Program)(o:B2)(t:TypeId)(u u':Value)(val:Value):Prop:=∀(x y:Operand) (w:World),((do eqGuard o.op t x y u u';binOp o.op t u u'):Sem Value).run P w=.ok val w
theorem AFW{ρ:Loc}(f:Int->Int->Int){x y r:V}{u u':Value}(hx:AZ ρ x u)(hy:AZ ρ y u')(h:ari f x y=some r):
 ∃k a b,u=.int k a/\u'=.int k b/\AZ ρ r (.int k (k.wrap (f a b))):=by
 unfold ari at h
 rw[DT]at h
 obtain⟨k,a,s,rfl,h⟩:=h
 rw[DT]at h
 obtain⟨k',b,t,rfl,h⟩:=h
 rw[Ba,NP]at h
 obtain⟨rfl,h⟩:=h
 simp only[AZ]at hx hy
 exact⟨k,a,b,hx,hy,AB3 h⟩
theorem AUR{ρ:Loc}{x y r:V}{u u':Value}(hx:AZ ρ x u)(hy:AZ ρ y u')(t:TypeId)(h:AbG x y=some r):∃val,ABo P .sub t u u' val/\AZ ρ r val:=by
 obtain⟨k,a,b,rfl,rfl,hr⟩:=AFW _ hx hy h
 refine⟨_,λ_ _ w=>?_,hr⟩
 simp[B2.op,eqGuard_at_int,binOp_sub,Op.intArith,Int.sub_eq_add_neg]
 rfl
theorem AV9{ρ:Loc}{x y r:V}{u u':Value}(hx:AZ ρ x u)(hy:AZ ρ y u')(t:TypeId)(h:Aaf x y=some r):∃val,ABo P .mul t u u' val/\AZ ρ r val:=by
 obtain⟨k,a,b,rfl,rfl,hr⟩:=AFW _ hx hy h
 refine⟨_,λ_ _ w=>?_,hr⟩
 simp[B2.op,eqGuard_at_int,binOp_mul,Op.intArith]
theorem J8{ρ:Loc}{l c:Nat}{u:Value}(h:AZ ρ (.str l c) u):∃s:ByteArray,u=.string s/\s.data.toList.length=l/\enc s.data.toList=c:=h
theorem Og(s:ByteArray):s.size=s.data.toList.length:=by rw[Array.length_toList];rfl
theorem AU5{ρ:Loc}{x y r:V}{u u':Value}(hx:AZ ρ x u)(hy:AZ ρ y u')(t:TypeId)(h:AYf x y=some r):∃val,ABo P .add t u u' val/\AZ ρ r val:=by
 unfold AYf at h
 rw[aO]at h
 split at h
 ·unfold AZw at h
  rw[Ip]at h
  obtain⟨l,c,rfl,h⟩:=h
  rw[Ip]at h
  obtain⟨m,d,rfl,h⟩:=h
  rw[Ba]at h
  obtain⟨hlt,h⟩:=h
  simp only[BP]at h
  cases h
  obtain⟨s1,rfl,rfl,rfl⟩:=J8 hx
  obtain⟨s2,rfl,rfl,rfl⟩:=J8 hy
  have hlt':s1.data.toList.length+s2.data.toList.length<9223372036854775808:=by rw[Nat.blt_eq]at hlt;exact hlt
  have hcat:(s1++s2).data.toList=s1.data.toList++s2.data.toList:=by simp[ByteArray.data_append]
  refine⟨.string (s1++s2),λ_ _ w=>?_,⟨s1++s2,rfl,?_,?_⟩⟩
  ·have hz:=run_string_add_sum (P:=P) w s1 s2 (by rw[Og,Og];omega)
   simp[B2.op,eqGuard_at_string,binOp_string_add,hz]
  ·rw[hcat];simp
  ·rw[hcat,AL3]
 ·obtain⟨k,a,b,rfl,rfl,hr⟩:=AFW _ hx hy h
  refine⟨_,λ_ _ w=>?_,hr⟩
  simp[B2.op,eqGuard_at_int,binOp_add,Op.intArith]
theorem ASz{ρ:Loc}(f:Int->Int->Int){x y r:V}{u u':Value}(hx:AZ ρ x u)(hy:AZ ρ y u')(h:dvs f x y=some r):
 ∃k a b,u=.int k a/\u'=.int k b/\b≠0/\AZ ρ r (.int k (k.wrap (f a b))):=by
 unfold dvs at h
 rw[DT]at h
 obtain⟨k,a,s,rfl,h⟩:=h
 rw[DT]at h
 obtain⟨k',b,t,rfl,h⟩:=h
 rw[Ba]at h
 obtain⟨hc,h⟩:=h
 simp only[BO,Bool.and_eq_true,NP,vW,WU,Bool.not_eq_true',beq_eq_false_iff_ne]at hc
 obtain⟨rfl,_,hb⟩:=hc
 simp only[AZ]at hx hy
 exact⟨k,a,b,hx,hy,hb,AB3 h⟩
theorem AUU{ρ:Loc}{x y r:V}{u u':Value}(hx:AZ ρ x u)(hy:AZ ρ y u')(t:TypeId)(h:dvs Int.tdiv x y=some r):∃val,ABo P .quo t u u' val/\AZ ρ r val:=by
 obtain⟨k,a,b,rfl,rfl,hb,hr⟩:=ASz _ hx hy h
 refine⟨_,λ_ _ w=>?_,hr⟩
 simp[B2.op,eqGuard_at_int,binOp_quo,Op.intDiv,hb]
theorem AVZ{ρ:Loc}{k:IntKind}{n:Int}{s:Nat}{r:V}(h:mkN k n s=some r):AZ ρ r (.int k n):=by
 cases s with
 |zero=>
  have h':Oo n (λm=>some (.int k m 0))=some r:=h
  rw[TP]at h';cases h';simp[AZ]
 |succ s=>
  have h':some (V.int k n 1)=some r:=h
  cases h';simp[AZ]
theorem AUg{ρ:Loc}{x y r:V}{u u':Value}(hx:AZ ρ x u)(hy:AZ ρ y u')(t:TypeId)(h:AXS x y=some r):∃val,ABo P .rem t u u' val/\AZ ρ r val:=by
 unfold AXS at h
 rw[DT]at h
 obtain⟨k,a,s,rfl,h⟩:=h
 rw[DT]at h
 obtain⟨k',b,t',rfl,h⟩:=h
 rw[Ba]at h
 obtain⟨hc,h⟩:=h
 simp only[BO,Bool.and_eq_true,NP,vW,WU,Bool.not_eq_true',beq_eq_false_iff_ne]at hc
 obtain⟨rfl,_,hb⟩:=hc
 simp only[AZ]at hx hy
 subst hx hy
 refine⟨_,λ_ _ w=>?_,AVZ h⟩
 simp[B2.op,eqGuard_at_int,binOp_rem,Op.intDiv,hb]
variable{P:Program}
theorem AQq(k:IntKind)(n:Int):k.wrap (n%2^k.bits)=k.wrap n:=by
 simp only[IntKind.wrap,Int.emod_emod_of_dvd _ (Int.dvd_refl _)]
theorem AB4(k:IntKind)(m n:Nat):bits .and k (.ofNat m) (.ofNat n)=k.wrap (Int.ofNat (m&&&n)):=by
 simp only[bits]
 rw[<-AQq k (Int.ofNat (m&&&n))]
 congr 1
 have h1:(BitVec.ofInt k.bits (Int.ofNat m)).toNat=m%2^k.bits:=by simp
 have h2:(BitVec.ofInt k.bits (Int.ofNat n)).toNat=n%2^k.bits:=by simp
 rw[BitVec.toNat_and,h1,h2,<-Nat.and_mod_two_pow]
 simp
theorem AVe(k:IntKind)(a b:Int):AR4 k a b=bits .and k a b:=by
 cases a with
 |ofNat m=>cases b with
  |ofNat n=>show YP k (.ofNat (Nat.land m n))=_;rw[Qn,AB4];rfl
  |negSucc n=>rfl
 |negSucc m=>rfl
theorem AV1{ρ:Loc}{x y r:V}{u u':Value}(hx:AZ ρ x u)(hy:AZ ρ y u')(t:TypeId)(h:AYc x y=some r):∃val,ABo P .and t u u' val/\AZ ρ r val:=by
 unfold AYc at h
 rw[DT]at h
 obtain⟨k,a,s,rfl,h⟩:=h
 rw[DT]at h
 obtain⟨k',b,t',rfl,h⟩:=h
 rw[Ba]at h
 obtain⟨hc,h⟩:=h
 simp only[BO,Bool.and_eq_true,NP]at hc
 obtain⟨rfl,_⟩:=hc
 simp only[AZ]at hx hy
 subst hx hy
 rw[TP,AVe]at h
 cases h
 refine⟨.int k (bits .and k a b),λ_ _ w=>?_,by simp[AZ]⟩
 simp[B2.op,eqGuard_at_int,binOp_and,intBits_and]
theorem AIM{ρ:Loc}{x y r:V}{u u':Value}(hx:AZ ρ x u)(hy:AZ ρ y u')(t:TypeId)(o:B2)(ho:o=.or∨o=.xor∨o=.andNot)(h:ASy o.op x y=some r):∃val,ABo P o t u u' val/\AZ ρ r val:=by
 unfold ASy at h
 rw[DT]at h
 obtain⟨k,a,s,rfl,h⟩:=h
 rw[DT]at h
 obtain⟨k',b,t',rfl,h⟩:=h
 rw[Ba]at h
 obtain⟨hc,h⟩:=h
 simp only[BO,Bool.and_eq_true,NP]at hc
 obtain⟨rfl,_⟩:=hc
 simp only[AZ]at hx hy
 subst hx hy
 rw[TP]at h
 cases h
 refine⟨.int k (bits o.op k a b),λ_ _ w=>?_,by simp[AZ]⟩
 rcases ho with rfl|rfl|rfl
 ·simp[B2.op,eqGuard_at_int,binOp_or,intBits_or]
 ·simp[B2.op,eqGuard_at_int,binOp_xor,intBits_xor]
 ·simp[B2.op,eqGuard_at_int,binOp_andNot,intBits_andNot]
theorem AKN(k:IntKind):ALk k=k.bits:=by cases k<;>rfl
theorem AUd{ρ:Loc}{x y r:V}{u u':Value}(hx:AZ ρ x u)(hy:AZ ρ y u')(t:TypeId)(h:AYT x y=some r):∃val,ABo P .shr t u u' val/\AZ ρ r val:=by
 unfold AYT at h
 rw[DT]at h
 obtain⟨k,a,s,rfl,h⟩:=h
 rw[DT]at h
 obtain⟨k',b,t',rfl,h⟩:=h
 rw[Ba]at h
 obtain⟨hc,h⟩:=h
 simp only[BO,Bool.and_eq_true,vW,WS,Bool.not_eq_true',decide_eq_false_iff_not]at hc
 obtain⟨hb,_⟩:=hc
 simp only[AZ]at hx hy
 subst hx hy
 rw[TP]at h
 cases h
 refine⟨_,λ_ _ w=>?_,by simp only[AZ];rfl⟩
 have e:Aa4 a (min b.toNat (ALk k))=a.fdiv (2^min b.toNat k.bits):=by
  rw[AKN];show Int.fdiv a (Int.ofNat (2^(min b.toNat k.bits)))=_;rfl
 simp only[B2.op,eqGuard_at_int,binOp_shr,Op.shift,hb,if_false,Sem.run_bind,Sem.run_pure,Result.andThen_ok]
 rw[<-e]
theorem AVj{ρ:Loc}{x y r:V}{u u':Value}(hx:AZ ρ x u)(hy:AZ ρ y u')(t:TypeId)(h:AZN x y=some r):∃val,ABo P .shl t u u' val/\AZ ρ r val:=by
 unfold AZN at h
 rw[DT]at h
 obtain⟨k,a,s,rfl,h⟩:=h
 rw[DT]at h
 obtain⟨k',b,t',rfl,h⟩:=h
 rw[Ba]at h
 obtain⟨hc,h⟩:=h
 simp only[BO,Bool.and_eq_true,vW,WS,Bool.not_eq_true',decide_eq_false_iff_not]at hc
 obtain⟨hb,_⟩:=hc
 simp only[AZ]at hx hy
 subst hx hy
 refine⟨_,λ_ _ w=>?_,AB3 h⟩
 have e:Int.mul a (Int.ofNat (Nat.pow 2 (Nat.min b.toNat (ALk k))))=a*2^min b.toNat k.bits:=by
  rw[AKN];show a*(Int.ofNat (2^(min b.toNat k.bits)))=_;rfl
 simp only[B2.op,eqGuard_at_int,binOp_shl,Op.shift,hb,if_false,Sem.run_bind,Sem.run_pure,Result.andThen_ok]
 rw[<-e]
theorem vM{ρ:Loc}{f:Int->Int->Bool}{x y r:V}{u u':Value}(hx:AZ ρ x u)(hy:AZ ρ y u')(h:ACE f x y=some r):
 ∃k a b,u=.int k a/\u'=.int k b/\r=.bool (f a b):=by
 unfold ACE at h
 rw[DT]at h
 obtain⟨k,a,s,rfl,h⟩:=h
 rw[DT]at h
 obtain⟨k',b,t',rfl,h⟩:=h
 rw[Ba]at h
 obtain⟨hc,h⟩:=h
 simp only[BO,Bool.and_eq_true,NP]at hc
 obtain⟨rfl,_⟩:=hc
 simp only[AZ]at hx hy
 rw[TL]at h
 cases h
 exact⟨k,a,b,hx,hy,rfl⟩
theorem vY{ρ:Loc}{f:Nat->Nat->Nat->Nat->Bool}{x y r:V}{u u':Value}(hx:AZ ρ x u)(hy:AZ ρ y u')(h:AKE f x y=some r):
 ∃s s':ByteArray,u=.string s/\u'=.string s'/\r=.bool (f s.data.toList.length (enc s.data.toList) s'.data.toList.length (enc s'.data.toList)):=by
 unfold AKE at h
 rw[Ip]at h
 obtain⟨l,c,rfl,h⟩:=h
 rw[Ip]at h
 obtain⟨m,d,rfl,h⟩:=h
 rw[TL]at h
 cases h
 obtain⟨s1,rfl,rfl,rfl⟩:=J8 hx
 obtain⟨s2,rfl,rfl,rfl⟩:=J8 hy
 exact⟨s1,s2,rfl,rfl,rfl⟩
theorem ADQ{ρ:Loc}(b:Bool):AZ ρ (.bool b) (.bool b):=by simp[AZ]
theorem AVb{ρ:Loc}{x y r:V}{u u':Value}(hx:AZ ρ x u)(hy:AZ ρ y u')(t:TypeId)(h:AZR x y=some r):∃val,ABo P .lss t u u' val/\AZ ρ r val:=by
 unfold AZR at h
 rw[aO]at h
 split at h
 ·obtain⟨s,s',rfl,rfl,hr⟩:=vY hx hy h
  simp only[ABL]at hr
  subst hr
  refine⟨_,λ_ _ w=>?_,ADQ _⟩
  simp only[B2.op,eqGuard_at_string,Sem.run_bind,Sem.run_pure,Result.andThen_ok,binOp_string_lss,ByteArray.toList_eq]
 ·obtain⟨k,a,b,rfl,rfl,rfl⟩:=vM hx hy h
  refine⟨_,λ_ _ w=>?_,ADQ _⟩
  simp[B2.op,eqGuard_at_int,binOp_lss]
theorem AIB(a b:List UInt8):(a==b)=(Nat.beq a.length b.length&&Nat.beq (enc a) (enc b)):=by
 rw[Bool.eq_iff_iff]
 simp only[beq_iff_eq,Bool.and_eq_true,beq_iff]
 exact⟨λh=>by subst h;exact⟨rfl,rfl⟩,λh=>AI3 a b h.1 h.2⟩
theorem X4:∀(a b:List UInt8),(Op.bytesLess a b||a==b)= !Op.bytesLess b a
 |[],[]=>rfl
 |[],y::b=>rfl
 |x::a,[]=>rfl
 |x::a,y::b=>by
  have ih:=X4 a b
  simp only[Op.bytesLess]
  by_cases hxy:x=y
  ·subst hxy;simpa using ih
  ·have hyx:¬y=x:=λe=>hxy e.symm
   have h1:(x::a==y::b)=false:=by simp[hxy]
   have h2:(x==y)=false:=by simpa using hxy
   have h3:(y==x)=false:=by simpa using hyx
   rw[h1,h2,h3]
   simp only[Bool.false_and,Bool.or_false]
   rw[Bool.eq_iff_iff]
   simp only[decide_eq_true_eq,Bool.not_eq_true',decide_eq_false_iff_not,UInt8.lt_iff_toNat_lt]
   have:x.toNat≠y.toNat:=λe=>hxy (UInt8.toNat_inj.1 e)
   omega
theorem AUu{ρ:Loc}{x y r:V}{u u':Value}(hx:AZ ρ x u)(hy:AZ ρ y u')(t:TypeId)(h:AY9 x y=some r):∃val,ABo P .leq t u u' val/\AZ ρ r val:=by
 unfold AY9 at h
 rw[aO]at h
 split at h
 ·obtain⟨s,s',rfl,rfl,hr⟩:=vY hx hy h
  simp only[ABL,vW]at hr
  subst hr
  refine⟨_,λ_ _ w=>?_,ADQ _⟩
  have:=X4 s.data.toList s'.data.toList
  simp only[B2.op,eqGuard_at_string,Sem.run_bind,Sem.run_pure,Result.andThen_ok]
  have e:binOp .leq t (.string s) (.string s')=Op.stringOp .leq s s':=by simp[binOp]
  rw[e]
  simp only[Op.stringOp,ByteArray.toList_eq,this,Sem.run_pure]
 ·obtain⟨k,a,b,rfl,rfl,rfl⟩:=vM hx hy h
  refine⟨_,λ_ _ w=>?_,ADQ _⟩
  simp[B2.op,eqGuard_at_int,binOp_leq]
theorem AT6{ρ:Loc}{x y r:V}{u u':Value}(hx:AZ ρ x u)(hy:AZ ρ y u')(t:TypeId)(h:AXY x y=some r):∃val,ABo P .gtr t u u' val/\AZ ρ r val:=by
 unfold AXY at h
 rw[aO]at h
 split at h
 ·obtain⟨s,s',rfl,rfl,hr⟩:=vY hx hy h
  simp only[ABL]at hr
  subst hr
  refine⟨_,λ_ _ w=>?_,ADQ _⟩
  have:=X4 s.data.toList s'.data.toList
  simp only[B2.op,eqGuard_at_string,Sem.run_bind,Sem.run_pure,Result.andThen_ok]
  have e:binOp .gtr t (.string s) (.string s')=Op.stringOp .gtr s s':=by simp[binOp]
  rw[e]
  simp only[Op.stringOp,ByteArray.toList_eq,this,Sem.run_pure,Bool.not_not]
 ·obtain⟨k,a,b,rfl,rfl,rfl⟩:=vM hx hy h
  refine⟨_,λ_ _ w=>?_,ADQ _⟩
  simp[B2.op,eqGuard_at_int,binOp_gtr]
theorem AUM{ρ:Loc}{x y r:V}{u u':Value}(hx:AZ ρ x u)(hy:AZ ρ y u')(t:TypeId)(h:AXx x y=some r):∃val,ABo P .geq t u u' val/\AZ ρ r val:=by
 unfold AXx at h
 rw[aO]at h
 split at h
 ·obtain⟨s,s',rfl,rfl,hr⟩:=vY hx hy h
  simp only[ABL,vW]at hr
  subst hr
  refine⟨_,λ_ _ w=>?_,ADQ _⟩
  simp only[B2.op,eqGuard_at_string,Sem.run_bind,Sem.run_pure,Result.andThen_ok]
  have e:binOp .geq t (.string s) (.string s')=Op.stringOp .geq s s':=by simp[binOp]
  rw[e]
  simp only[Op.stringOp,ByteArray.toList_eq,Sem.run_pure]
 ·obtain⟨k,a,b,rfl,rfl,rfl⟩:=vM hx hy h
  refine⟨_,λ_ _ w=>?_,ADQ _⟩
  simp[B2.op,eqGuard_at_int,binOp_geq]
variable{P:Program}
def ckT(P:Program)(t:TypeId):Option CK:=
 match P.underlying t with
 |some (.int _)=>some .int
 |some .string=>some .str
 |some .bool=>some .bool
 |some (.pointer e)=>match szT P e with|some (_+1)=>some .ptr|_=>none
 |_=>none
def AQG(P:Program)(g:TypeId->Option (List CK)):List Field->Nat->Option (List CK)
 |[],_=>some []
 |f::fs,off=>if f.name≠ "_" /\f.offset=off then(g f.type).bind λks=>if szT P f.type=some ks.length then(AQG P g fs (off+ks.length)).map λr=>ks++r else none else none
def AGa(P:Program):Nat->TypeId->Option (List CK)
 |0,_=>none
 |d+1,t=>match P.underlying t with
  |some (.struct fs)=>if P.stoodInHeld t then none else AQG P (AGa P d) fs.toList 0
  |_=>(ckT P t).map λk=>[k]
def ekT(P:Program)(t:TypeId):Option EK:=
 match P.underlying t with
 |some (.struct _)=>if P.eqGuardType P.depth t then none else(AGa P 50 t).map .agg
 |some (.slice _)=>some .sl
 |some (.func _ _ _)=>some .fn
 |some (.map _ _)=>some .map
 |_=>(ckT P t).map .one
theorem zZ{v:V}{k:IntKind}{n:Int}{s:Nat}{b:Bool}(h:ARO v k n s=some b):∃m s',v=.int k m s'/\b=(n==m):=by
 cases v<;>simp only[ARO]at h<;>try (cases h;done)
 rename_i k' m s'
 cases hc:band (keq k k') (Nat.beq (Nat.add s s') 0)with
 |false=>rw[hc]at h;cases h
 |true=>
  rw[hc]at h
  simp only[BO,Bool.and_eq_true,NP]at hc
  obtain⟨rfl,_⟩:=hc
  have h':some (ieq n m)=some b:=h
  rw[WU]at h'
  exact⟨m,s',rfl,(Option.some.inj h').symm⟩
theorem ACp{ρ:Loc}{t:TypeId}{k:CK}(ht:ckT P t=some k){x y:V}{u u':Value}(hx:AZ ρ x u)(hy:AZ ρ y u'){b:Bool}(h:k.eq x y=some b)(d:Nat)(w:World):
 (Op.equalIn (d+1) t u u').run P w=.ok b w:=by
 unfold ckT at ht
 split at ht
 ·cases ht
  have h':AKl x y=some b:=h
  cases x<;>simp only[AKl]at h'<;>try (cases h';done)
  obtain⟨m,s',rfl,rfl⟩:=zZ h'
  simp only[AZ]at hx hy
  subst hx hy
  exact run_equalIn_int w d t _ _ _ _ (by assumption)
 ·cases ht
  have h':ALZ x y=some b:=h
  cases x<;>simp only[ALZ]at h'<;>try (cases h';done)
  cases y<;>simp only[eqStr]at h'<;>try (cases h';done)
  obtain⟨s1,rfl,rfl,rfl⟩:=J8 hx
  obtain⟨s2,rfl,rfl,rfl⟩:=J8 hy
  rw[run_equalIn_string w d t _ _ (by assumption),ByteArray.toList_eq,ByteArray.toList_eq,AIB]
  simp only[BO]at h'
  rw[Option.some.inj h']
 ·cases ht
  have h':ADU x y=some b:=h
  cases x<;>simp only[ADU]at h'<;>try (cases h';done)
  cases y<;>simp only[AMW]at h'<;>try (cases h';done)
  simp only[AZ]at hx hy
  subst hx hy
  rw[run_equalIn_bool' w d t _ _ (by assumption)]
  simp only[AJF]at h'
  rw[Option.some.inj h']
 ·rename_i e hu
  split at ht<;>cases ht
  rename_i m hm
  have hsz:=run_sizeOf (P:=P) hm w
  have h':AIQ x y=some b:=h
  cases x<;>simp only[AIQ]at h'<;>try (cases h';done)
  ·cases y<;>simp only[ARK]at h'<;>try (cases h';done)
   ·cases h';simp only[AZ]at hx hy;subst hx hy;simp[Op.equalIn,run_underlying hu]
   ·cases h';simp only[AZ]at hx hy;obtain⟨z,_,rfl⟩:=hy;subst hx;simp[Op.equalIn,run_underlying hu]
   ·cases h';simp only[AZ]at hx hy;subst hx hy;simp[Op.equalIn,run_underlying hu]
  ·rename_i id off
   cases y<;>simp only[AWp]at h'<;>try (cases h';done)
   ·cases h';simp only[AZ]at hx hy;obtain⟨z,_,rfl⟩:=hx;subst hy;simp[Op.equalIn,run_underlying hu]
   ·rename_i id' off'
    cases hb:Nat.beq id id' with
    |false=>rw[hb]at h';cases h'
    |true=>
     rw[hb]at h'
     have e1:id=id':=Nat.eq_of_beq_eq_true hb
     subst e1
     simp only[AZ]at hx hy
     obtain⟨z,hz,rfl⟩:=hx
     obtain⟨z',hz',rfl⟩:=hy
     have ez:z=z':=Option.some.inj (hz.symm.trans hz')
     subst ez
     have hbo:Nat.beq off off'=b:=Option.some.inj h'
     simp only[Op.equalIn,Sem.run_bind,run_underlying hu,Result.andThen_ok,hsz,ne_eq,Nat.add_one_ne_zero,not_false_eq_true,if_true,sameAddr,beq_self_eq_true,Sem.run_pure]
     congr 1
     rw[<-hbo,Bool.eq_iff_iff]
     simp
  ·cases y<;>simp only[ATf]at h'<;>try (cases h';done)
   cases h';simp only[AZ]at hx hy;subst hx hy;simp[Op.equalIn,run_underlying hu]
 ·cases ht
theorem RD{q:CK->V->V->Option Bool}{k:CK}{ks:List CK}{x:V}{xs:LV}{y:V}{ys:LV}{b:Bool}:yX q (k::ks) (x::xs) (y::ys)=some b↔∃r r',q k x y=some r/\yX q ks xs ys=some r'/\b=(r&&r'):=by
 show Qg (q k x y) (λr=>Qg (yX q ks xs ys) λr'=>some (band r r'))=some b↔_
 rw[AAZ]
 constructor
 ·rintro⟨r,hr,h⟩
  rw[AAZ]at h
  obtain⟨r',hr',h⟩:=h
  rw[BO]at h
  exact⟨r,r',hr,hr',(Option.some.inj h).symm⟩
 ·rintro⟨r,r',hr,hr',rfl⟩
  exact⟨r,hr,by rw[AAZ];exact⟨r',hr',by rw[BO]⟩⟩
theorem AFk{q:CK->V->V->Option Bool}:∀{ks:List CK} {xs ys:LV} {b:Bool},yX q ks xs ys=some b->xs.length=ks.length/\ys.length=ks.length
 |[],[],[],_,_=>⟨rfl,rfl⟩
 |[],[],_::_,_,h=>by cases h
 |[],_::_,_,_,h=>by cases h
 |_::_,[],_,_,h=>by cases h
 |_::_,_::_,[],_,h=>by cases h
 |k::ks,x::xs,y::ys,b,h=>by
  obtain⟨_,_,_,h2,_⟩:=RD.1 h
  have:=AFk h2
  simp[this.1,this.2]
theorem AC3{q:CK->V->V->Option Bool}:∀{ks ks':List CK} {xs ys:LV} {b:Bool},yX q (ks++ks') xs ys=some b->
 ∃r r',yX q ks (xs.take ks.length) (ys.take ks.length)=some r/\yX q ks' (xs.drop ks.length) (ys.drop ks.length)=some r'/\b=(r&&r')/\ks.length<=xs.length/\ks.length<=ys.length
 |[],ks',xs,ys,b,h=>⟨true,b,rfl,h,by simp,by simp,by simp⟩
 |k::ks,ks',[],ys,b,h=>by cases h
 |k::ks,ks',x::xs,[],b,h=>by cases h
 |k::ks,ks',x::xs,y::ys,b,h=>by
  obtain⟨r,r',hr,hr',rfl⟩:=RD.1 h
  obtain⟨r1,r2,h1,h2,rfl,h3,h4⟩:=AC3 hr'
  exact⟨r&&r1,r2,RD.2 ⟨r,r1,hr,h1,rfl⟩,h2,by rw[Bool.and_assoc],by simpa using h3,by simpa using h4⟩
mutual
theorem AM1{ρ:Loc}{q:CK->V->V->Option Bool}{w:World}(hq:∀{t:TypeId} {k:CK} {x y:V} {u u':Value} {b:Bool},ckT P t=some k->AZ ρ x u->AZ ρ y u'->q k x y=some b->∀d,(Op.equalIn (d+1) t u u').run P w=.ok b w):∀(d:Nat) (t:TypeId) (ks:List CK),AGa P d t=some ks->∀(xs ys:LV) (u u':List Value) (b:Bool),CV ρ xs u->CV ρ ys u'->yX q ks xs ys=some b->xs.length=ks.length->ys.length=ks.length->
 ∀(e:Nat),(NR P t=some true->(Op.equalIn (d+e+1) t (.agg u.toArray) (.agg u'.toArray)).run P w=.ok b w)/\
  (NR P t=some false->∃v v',u=[v]/\u'=[v']/\(Op.equalIn (d+e+1) t v v').run P w=.ok b w)
 |0,_,_,h=>by simp[AGa]at h
 |d+1,t,ks,h=>by
  intro xs ys u u' b hx hy hb hlx hly e
  simp only[AGa]at h
  split at h
  ·rename_i fs hu
   split at h
   ·cases h
   ·rename_i hst
    refine⟨λ_=>?_,λha=>by simp[NR,hu]at ha⟩
    have hf:P.underlying t=some (.struct (P.fieldsOf t)):=by simp[Program.fieldsOf,hu]
    have hfs:P.fieldsOf t=fs:=by simp[Program.fieldsOf,hu]
    rw[show d+1+e+1=(d+e+1)+1 by omega,run_equalIn_struct w (d+e+1) t _ _ hf (by simpa using hst),hfs]
    exact AHM hq d fs.toList 0 ks h xs ys u u' b hx hy (by simpa using hb) (by simpa using hlx) (by simpa using hly) e
  ·rename_i hns
   cases hk:ckT P t with
   |none=>rw[hk]at h;cases h
   |some k=>
    rw[hk]at h
    have hks:[k]=ks:=Option.some.inj h
    subst hks
    refine⟨λha=>?_,λ_=>?_⟩
    ·exfalso
     unfold ckT at hk
     unfold NR at ha
     split at ha<;>rename_i hu<;>rw[hu]at hk<;>first|(cases hk;done)|(cases ha;done)
    ·match xs,ys,hlx,hly with
     |[x],[y],_,_=>
      obtain⟨v,vs,rfl,hv,hr⟩:=KL.1 hx
      obtain⟨v',vs',rfl,hv',hr'⟩:=KL.1 hy
      simp only[ABW]at hr hr'
      subst hr hr'
      obtain⟨r,r',h1,h2,rfl⟩:=RD.1 hb
      have h2':some true=some r':=h2
      cases h2'
      exact⟨v,v',rfl,rfl,by rw[Bool.and_true];exact hq hk hv hv' h1 _⟩
theorem AHM{ρ:Loc}{q:CK->V->V->Option Bool}{w:World}(hq:∀{t:TypeId} {k:CK} {x y:V} {u u':Value} {b:Bool},ckT P t=some k->AZ ρ x u->AZ ρ y u'->q k x y=some b->∀d,(Op.equalIn (d+1) t u u').run P w=.ok b w):∀(d:Nat) (fs:List Field) (off:Nat) (ks:List CK),AQG P (AGa P d) fs off=some ks->∀(xs ys:LV) (u u':List Value) (b:Bool),CV ρ xs u->CV ρ ys u'->yX q ks (xs.drop off) (ys.drop off)=some b->
 xs.length=off+ks.length->ys.length=off+ks.length->∀(e:Nat),(Op.eqFields (d+e+1) u.toArray u'.toArray fs).run P w=.ok b w
 |d,[],off,ks,h=>by
  intro xs ys u u' b _ _ hb hlx hly e
  simp only[AQG]at h
  cases h
  have hxn:xs.drop off=[]:=by rw[List.drop_eq_nil_iff];simpa using Nat.le_of_eq hlx
  have hyn:ys.drop off=[]:=by rw[List.drop_eq_nil_iff];simpa using Nat.le_of_eq hly
  rw[hxn,hyn]at hb
  have hb':some true=some b:=hb
  cases hb'
  simp[Op.eqFields]
 |d,f::fs,off,ks,h=>by
  intro xs ys u u' b hx hy hb hlx hly e
  simp only[AQG]at h
  split at h
  ·rename_i hc
   obtain⟨hname,hoff⟩:=hc
   simp only[Option.bind_eq_some_iff]at h
   obtain⟨k1,hk1,h⟩:=h
   split at h
   ·rename_i hsz
    cases hg:AQG P (AGa P d) fs (off+k1.length)with
    |none=>rw[hg]at h;cases h
    |some k2=>
     rw[hg]at h
     have hks:k1++k2=ks:=Option.some.inj h
     subst hks
     obtain⟨r,r',h1,h2,rfl,h3,h4⟩:=AC3 hb
     rw[List.drop_drop]at h2
     rw[List.drop_drop]at h2
     simp only[List.length_append]at hlx hly
     have hlu:=hx.length
     have hlu':=hy.length
     have key:=AM1 (ρ:=ρ) hq d f.type k1 hk1 _ _ _ _ r ((hx.drop off).take k1.length) ((hy.drop off).take k1.length) h1 (by simp;omega) (by simp;omega) e
     have ih:=AHM (ρ:=ρ) hq d fs (off+k1.length) k2 hg xs ys u u' r' hx hy h2 (by omega) (by omega) e
     have hne:f.name≠ "_" :=hname
     simp only[Op.eqFields,hne,ne_eq,not_false_eq_true,if_true,Sem.run_bind]
     cases ha:NR P f.type with
     |none=>simp[NR]at ha;split at ha<;>simp_all;cases d<;>simp_all [AGa,ckT]
     |some bb=>
      have hagg:=gy (P:=P) ha w
      have hso:=run_sizeOf (P:=P) hsz w
      cases bb with
      |true=>
       have hrun:=key.1 ha
       have p1:(Go.part f.type u.toArray f.offset).run P w=.ok (.agg ((u.drop off).take k1.length).toArray) w:=by
        simp only[Go.part,Sem.run_bind,hagg,Result.andThen_ok,if_true,hso,Sem.run_pure,hoff]
        congr 2
        apply Array.ext'
        simp
       have p2:(Go.part f.type u'.toArray f.offset).run P w=.ok (.agg ((u'.drop off).take k1.length).toArray) w:=by
        simp only[Go.part,Sem.run_bind,hagg,Result.andThen_ok,if_true,hso,Sem.run_pure,hoff]
        congr 2
        apply Array.ext'
        simp
       rw[p1,Result.andThen_ok,p2,Result.andThen_ok,hrun,Result.andThen_ok]
       cases r with
       |true=>simpa using ih
       |false=>simp
      |false=>
       obtain⟨v,v',hv,hv',hrun⟩:=key.2 ha
       have q1:u[off]? =some v:=by
        have:((u.drop off).take k1.length)[0]? =some v:=by rw[hv];rfl
        rw[List.getElem?_take]at this
        split at this
        ·simpa using this
        ·cases this
       have q2:u'[off]? =some v':=by
        have:((u'.drop off).take k1.length)[0]? =some v':=by rw[hv'];rfl
        rw[List.getElem?_take]at this
        split at this
        ·simpa using this
        ·cases this
       have p1:(Go.part f.type u.toArray f.offset).run P w=.ok v w:=by
        simp[Go.part,Sem.run_bind,hagg,Result.andThen_ok,hoff,q1]
       have p2:(Go.part f.type u'.toArray f.offset).run P w=.ok v' w:=by
        simp[Go.part,Sem.run_bind,hagg,Result.andThen_ok,hoff,q2]
       rw[p1,Result.andThen_ok,p2,Result.andThen_ok,hrun,Result.andThen_ok]
       cases r with
       |true=>simpa using ih
       |false=>simp
   ·cases h
  ·cases h
end
def yN:Value->Bool
 |.bool _|.slice _ _ _|.map _|.nilFunc|.func _ _ _|.pointer _=>true
 |_=>false
theorem AAr{u u':Value}(hv:yN u=true){t:TypeId}{b:Bool}{w:World}(hrun:(Op.equalIn (9999+1) t u u').run P w=.ok b w)(o:BinOp)(ho:o=.eql∨o=.neq)(X Y:Operand):
 ((do eqGuard o t X Y u u';binOp o t u u'):Sem Value).run P w=.ok (.bool (if o=.neq then !b else b)) w:=by
 have hg:eqGuard o t X Y u u'=pure ():=by
  cases u<;>simp only[yN,Bool.false_eq_true]at hv
  ·exact eqGuard_at_bool _ _ _ _ _ _
  ·exact eqGuard_at_pointer _ _ _ _ _ _
  ·exact eqGuard_at_slice _ _ _ _ _ _ _ _
  ·exact eqGuard_at_map _ _ _ _ _ _
  ·exact eqGuard_at_func _ _ _ _ _ _ _ _
  ·exact eqGuard_at_nilFunc _ _ _ _ _
 have he:(Op.equal t u u').run P w=.ok b w:=hrun
 rcases ho with rfl|rfl
 ·have hb:binOp .eql t u u'=(do let r<-Op.equal t u u';pure (.bool r)):=by
   cases u<;>simp only[yN,Bool.false_eq_true]at hv<;>first|rfl|(cases u'<;>rfl)
  simp only[hg,hb,Sem.run_bind,Sem.run_pure,Result.andThen_ok,he]
  simp
 ·have hb:binOp .neq t u u'=(do let r<-Op.equal t u u';pure (.bool !r)):=by
   cases u<;>simp only[yN,Bool.false_eq_true]at hv<;>first|rfl|(cases u'<;>rfl)
  simp only[hg,hb,Sem.run_bind,Sem.run_pure,Result.andThen_ok,he]
  simp
theorem Abs{ρ:Loc}{t e:TypeId}(hu:P.underlying t=some (.slice e)){x y:V}{u u':Value}(hx:AZ ρ x u)(hy:AZ ρ y u'){b:Bool}(h:kSl x y=some b)(d:Nat)(w:World):
 yN u=true/\(Op.equalIn (d+1) t u u').run P w=.ok b w:=by
 have hsome:∀v,jS v=some false->AZ ρ v u'->u'=.slice none 0 0:=by
  intro v h h'
  cases v<;>simp only[jS]at h<;>first|(cases h;done)|skip
  exact h'
 have h2:∀p n c,u=.slice (some p) n c->u'=.slice none 0 0->b=false->yN u=true/\(Op.equalIn (d+1) t u u').run P w=.ok b w:=by
  rintro p n c rfl rfl rfl
  exact⟨rfl,by simp[Op.equalIn,run_underlying hu]⟩
 have h0:∀v,jS v=some b->b=false:=by
  intro v hv
  cases v<;>simp only[jS]at hv<;>first|(cases hv;done)|skip
  exact(Option.some.inj hv).symm
 cases x<;>simp only[kSl]at h<;>try (cases h;done)
 ·simp only[AZ]at hx
  subst hx
  refine⟨rfl,?_⟩
  have h3:∃q n c,u'=.slice q n c/\b=q.isNone:=by
   cases y<;>simp only[AQ7]at h<;>try (cases h;done)
   ·exact⟨_,_,_,hy,(Option.some.inj h).symm⟩
   ·simp only[AZ]at hy;obtain⟨_,a,_,hy,_⟩:=hy;exact⟨some a,_,_,hy,(Option.some.inj h).symm⟩
   ·simp only[AZ]at hy;obtain⟨_,a,_,_,hy,_⟩:=hy;exact⟨some a,_,_,hy,(Option.some.inj h).symm⟩
   ·simp only[AZ]at hy;obtain⟨a,hy,_⟩:=hy;exact⟨some a,_,_,hy,(Option.some.inj h).symm⟩
  obtain⟨q,n,c,rfl,rfl⟩:=h3
  simp[Op.equalIn,run_underlying hu]
 ·have hb:=h0 _ h
  subst hb
  simp only[AZ]at hx
  obtain⟨_,a,_,hx,_⟩:=hx
  exact h2 _ _ _ hx (hsome _ h hy) rfl
 ·have hb:=h0 _ h
  subst hb
  simp only[AZ]at hx
  obtain⟨_,a,_,_,hx,_⟩:=hx
  exact h2 _ _ _ hx (hsome _ h hy) rfl
 ·have hb:=h0 _ h
  subst hb
  simp only[AZ]at hx
  obtain⟨a,hx,_⟩:=hx
  exact h2 _ _ _ hx (hsome _ h hy) rfl
theorem AaT{ρ:Loc}{t:TypeId}{ps rs:Array TypeId}{vr:Bool}(hu:P.underlying t=some (.func ps rs vr)){x y:V}{u u':Value}(hx:AZ ρ x u)(hy:AZ ρ y u'){b:Bool}(h:kFn x y=some b)(d:Nat)(w:World):
 yN u=true/\(Op.equalIn (d+1) t u u').run P w=.ok b w:=by
 cases x<;>simp only[kFn]at h<;>try (cases h;done)
 ·simp only[AZ]at hx
  subst hx
  cases y<;>simp only[ASL]at h<;>try (cases h;done)
  ·cases h;simp only[AZ]at hy;subst hy;exact⟨rfl,by simp[Op.equalIn,run_underlying hu]⟩
  ·cases h;simp only[AZ]at hy;obtain⟨_,_,rfl,_⟩:=hy;exact⟨rfl,by simp[Op.equalIn,run_underlying hu]⟩
 ·simp only[AZ]at hx
  obtain⟨_,_,rfl,_⟩:=hx
  cases y<;>simp only[AOV]at h<;>try (cases h;done)
  cases h;simp only[AZ]at hy;subst hy;exact⟨rfl,by simp[Op.equalIn,run_underlying hu]⟩
theorem map_eq{ρ:Loc}{t kt et:TypeId}(hu:P.underlying t=some (.map kt et)){x y:V}{u u':Value}(hx:AZ ρ x u)(hy:AZ ρ y u'){b:Bool}(h:AXn x y=some b)(d:Nat)(w:World):
 yN u=true/\(Op.equalIn (d+1) t u u').run P w=.ok b w:=by
 cases x<;>simp only[AXn]at h<;>try (cases h;done)
 ·simp only[AZ]at hx
  subst hx
  cases y<;>simp only[AR7]at h<;>try (cases h;done)
  ·cases h;simp only[AZ]at hy;subst hy;exact⟨rfl,by simp[Op.equalIn,run_underlying hu]⟩
  ·cases h;simp only[AZ]at hy;obtain⟨_,_,rfl⟩:=hy;exact⟨rfl,by simp[Op.equalIn,run_underlying hu]⟩
 ·simp only[AZ]at hx
  obtain⟨_,_,rfl⟩:=hx
  cases y<;>simp only[APH]at h<;>try (cases h;done)
  cases h;simp only[AZ]at hy;subst hy;exact⟨rfl,by simp[Op.equalIn,run_underlying hu]⟩
theorem ASd{ρ:Loc}{x y:V}{u:Value}(hx:AZ ρ x u){b:Bool}(h:ADU x y=some b):yN u=true:=by
 cases x<;>simp only[ADU]at h<;>try (cases h;done)
 simp only[AZ]at hx;subst hx;rfl
theorem AVm{ρ:Loc}{x y:V}{u:Value}(hx:AZ ρ x u){b:Bool}(h:AIQ x y=some b):yN u=true:=by
 cases x<;>simp only[AIQ]at h<;>try (cases h;done)
 ·simp only[AZ]at hx;subst hx;rfl
 ·simp only[AZ]at hx;obtain⟨_,_,rfl⟩:=hx;rfl
 ·simp only[AZ]at hx;subst hx;rfl
theorem AWC{ρ:Loc}{t:TypeId}{k:EK}(ht:ekT P t=some k){x y:V}{u u':Value}(hx:AZ ρ x u)(hy:AZ ρ y u'){b:Bool}(h:k.eq x y=some b)(o:BinOp)(ho:o=.eql∨o=.neq)(X Y:Operand)(w:World):
 ((do eqGuard o t X Y u u';binOp o t u u'):Sem Value).run P w=.ok (.bool (if o=.neq then !b else b)) w:=by
 unfold ekT at ht
 split at ht
 ·rename_i fs hu
  split at ht
  ·cases ht
  ·rename_i hgd
   cases hk:AGa P 50 t with
   |none=>rw[hk]at ht;cases ht
   |some ks=>
    rw[hk]at ht
    have hks:EK.agg ks=k:=Option.some.inj ht
    subst hks
    have h':AYL x ks y=some b:=h
    cases x<;>simp only[AYL]at h'<;>try (cases h';done)
    cases y<;>simp only[AWc]at h'<;>try (cases h';done)
    rename_i xs ys
    simp only[AZ]at hx hy
    obtain⟨a,rfl,hra,_⟩:=hx
    obtain⟨a',rfl,hra',_⟩:=hy
    have h':yX CK.eq ks xs ys=some b:=h'
    have hlen:=AFk h'
    have hrun:=(AM1 (P:=P) (q:=CK.eq) (w:=w) (λht hx hy h d=>ACp ht hx hy h d w) 50 t ks hk xs ys _ _ b hra hra' h' hlen.1 hlen.2 9949).1 (by simp[NR,hu])
    simp only[Array.toArray_toList]at hrun
    have hg:=run_eqGuard_agg (P:=P) w o t X Y a a' (by simpa using hgd)
    rcases ho with rfl|rfl
    ·simp only[Sem.run_bind,hg,Result.andThen_ok,run_eql_struct]
     rw[hrun];simp
    ·simp only[Sem.run_bind,hg,Result.andThen_ok,run_neq_struct]
     rw[hrun];simp
 ·rename_i e hu
  cases ht
  obtain⟨hv,hrun⟩:=Abs hu hx hy h 9999 w
  exact AAr hv hrun o ho X Y
 ·rename_i hu
  cases ht
  obtain⟨hv,hrun⟩:=AaT hu hx hy h 9999 w
  exact AAr hv hrun o ho X Y
 ·rename_i hu
  cases ht
  obtain⟨hv,hrun⟩:=map_eq hu hx hy h 9999 w
  exact AAr hv hrun o ho X Y
 ·cases hk:ckT P t with
  |none=>rw[hk]at ht;cases ht
  |some c=>
   rw[hk]at ht
   have hks:EK.one c=k:=Option.some.inj ht
   subst hks
   have h':c.eq x y=some b:=h
   have hrun:=ACp (P:=P) hk hx hy h' 9999 w
   cases c with
   |int=>
    have h2:AKl x y=some b:=h'
    cases x<;>simp only[AKl]at h2<;>try (cases h2;done)
    obtain⟨m,s',rfl,rfl⟩:=zZ h2
    simp only[AZ]at hx hy
    subst hx hy
    rcases ho with rfl|rfl
    ·simp only[eqGuard_at_int,binOp_eql,Sem.run_bind,Sem.run_pure,Result.andThen_ok];simp
    ·simp only[eqGuard_at_int,binOp_neq,Sem.run_bind,Sem.run_pure,Result.andThen_ok,bne];simp
   |str=>
    have h2:ALZ x y=some b:=h'
    cases x<;>simp only[ALZ]at h2<;>try (cases h2;done)
    cases y<;>simp only[eqStr]at h2<;>try (cases h2;done)
    obtain⟨s1,rfl,rfl,rfl⟩:=J8 hx
    obtain⟨s2,rfl,rfl,rfl⟩:=J8 hy
    simp only[BO]at h2
    have e2:(s1.data.toList==s2.data.toList)=b:=by rw[AIB];exact Option.some.inj h2
    rcases ho with rfl|rfl
    ·simp only[eqGuard_at_string,binOp_string_eql,ByteArray.toList_eq,e2,Sem.run_bind,Sem.run_pure,Result.andThen_ok];simp
    ·simp only[eqGuard_at_string,binOp_string_neq,ByteArray.toList_eq,e2,Sem.run_bind,Sem.run_pure,Result.andThen_ok];simp
   |bool=>exact AAr (ASd hx h') hrun o ho X Y
   |ptr=>exact AAr (AVm hx h') hrun o ho X Y
theorem AFp{H:Heap}{id:Nat}(h:ZU H id=true):∃esz cnt c,T.get H id=some (.arr esz cnt c)/\esz≠1:=by
 unfold ZU at h
 cases hb:T.get H id with
 |none=>rw[hb]at h;cases h
 |some b=>
  rw[hb]at h
  cases b with
  |arr esz cnt c=>
   refine⟨esz,cnt,c,rfl,λe=>?_⟩
   subst e
   cases h
  |map=>cases h
  |dead=>cases h
  |iZ=>cases h
  |own=>cases h
theorem ANb{ok:Nat->Bool}{x y:V}{b:Bool}(h:AFP ok x y=some b):AIQ x y=some b∨∃i o j o',x=.ptr i o/\y=.ptr j o'/\i≠j/\ok i=true/\ok j=true/\b=false:=by
 unfold AFP at h
 cases hk:AIQ x y with
 |some c=>rw[hk]at h;exact .inl h
 |none=>
  rw[hk]at h
  right
  have h:APk ok x y=some b:=h
  unfold APk at h
  cases x with
  |ptr i o=>
   cases y with
   |ptr j o'=>
    have h:Bool.rec (motive:=λ_=>Option Bool) none (some false) (band (QD (Nat.beq i j)) (band (ok i) (ok j)))=some b:=h
    cases hc:band (QD (Nat.beq i j)) (band (ok i) (ok j))with
    |false=>rw[hc]at h;cases h
    |true=>
     rw[hc]at h
     cases h
     simp only[BO,Bool.and_eq_true]at hc
     refine⟨i,o,j,o',rfl,rfl,λe=>?_,hc.2.1,hc.2.2,rfl⟩
     subst e
     have:=hc.1
     rw[Nat.beq_refl]at this
     cases this
   |_=>cases h
  |_=>cases h
theorem AVF{w0:World}{ρ:Loc}{H:Heap}{n:Nat}{w:World}(hh:D8 w0 ρ H n w){t:TypeId}{ks:List CK}(ht:ekT P t=some (.agg ks)){x y:V}{u u':Value}(hx:AZ ρ x u)(hy:AZ ρ y u'){b:Bool}(h:ABA (ZU H) ks x y=some b)(o:BinOp)(ho:o=.eql∨o=.neq)(X Y:Operand):
 ((do eqGuard o t X Y u u';binOp o t u u'):Sem Value).run P w=.ok (.bool (if o=.neq then !b else b)) w:=by
 have hq:∀{t:TypeId} {k:CK} {x y:V} {u u':Value} {b:Bool},ckT P t=some k->AZ ρ x u->AZ ρ y u'->CK.eqH (ZU H) k x y=some b->∀d,(Op.equalIn (d+1) t u u').run P w=.ok b w:=by
  intro t k x y u u' b ht hx hy h d
  cases k with
  |int=>exact ACp ht hx hy (show CK.eq .int x y=some b from h) d w
  |str=>exact ACp ht hx hy (show CK.eq .str x y=some b from h) d w
  |bool=>exact ACp ht hx hy (show CK.eq .bool x y=some b from h) d w
  |ptr=>
   rcases ANb (show AFP (ZU H) x y=some b from h)with h|⟨i,o,j,o',rfl,rfl,hne,hi,hj,rfl⟩
   ·exact ACp ht hx hy (show CK.eq .ptr x y=some b from h) d w
   ·simp only[AZ]at hx hy
    obtain⟨z,hz,rfl⟩:=hx
    obtain⟨z',hz',rfl⟩:=hy
    obtain⟨e1,c1,s1,g1,n1⟩:=AFp hi
    obtain⟨e2,c2,s2,g2,n2⟩:=AFp hj
    obtain⟨vs1,t1,f1,a1⟩:=hh.arr _ _ _ _ _ hz g1
    obtain⟨vs2,t2,f2,a2⟩:=hh.arr _ _ _ _ _ hz' g2
    have q1:=a1.sh.resolve_left n1
    have q2:=a2.sh.resolve_left n2
    subst q1;subst q2
    have hb:z.b≠z'.b:=λe=>hne (hh.inj _ _ _ _ hz hz' ⟨_,g1,by simp⟩ ⟨_,g2,by simp⟩ e)
    unfold ckT at ht
    split at ht<;>try (cases ht;done)
    rename_i e hu
    split at ht<;>cases ht
    rename_i m hm
    have hsz:=run_sizeOf (P:=P) hm w
    simp only[Op.equalIn,Sem.run_bind,run_underlying hu,Result.andThen_ok,hsz,ne_eq,Nat.add_one_ne_zero,not_false_eq_true,if_true]
    exact run_sameAddr_other w (λe=>hb (congrArg Addr.block e)) a1.heap a2.heap
 unfold ekT at ht
 split at ht
 ·rename_i fs hu
  split at ht
  ·cases ht
  ·rename_i hgd
   cases hk:AGa P 50 t with
   |none=>rw[hk]at ht;cases ht
   |some ks'=>
    rw[hk]at ht
    have hks:ks'=ks:=by
     have e:EK.agg ks'=EK.agg ks:=Option.some.inj ht
     cases e;rfl
    subst hks
    cases x<;>try (cases h;done)
    cases y<;>try (cases h;done)
    rename_i xs ys
    have h':yX (CK.eqH (ZU H)) ks' xs ys=some b:=h
    simp only[AZ]at hx hy
    obtain⟨a,rfl,hra,_⟩:=hx
    obtain⟨a',rfl,hra',_⟩:=hy
    have hlen:=AFk h'
    have hrun:=(AM1 (P:=P) (q:=CK.eqH (ZU H)) (w:=w) hq 50 t ks' hk xs ys _ _ b hra hra' h' hlen.1 hlen.2 9949).1 (by simp[NR,hu])
    simp only[Array.toArray_toList]at hrun
    have hg:=run_eqGuard_agg (P:=P) w o t X Y a a' (by simpa using hgd)
    rcases ho with rfl|rfl
    ·simp only[Sem.run_bind,hg,Result.andThen_ok,run_eql_struct]
     rw[hrun];simp
    ·simp only[Sem.run_bind,hg,Result.andThen_ok,run_neq_struct]
     rw[hrun];simp
 ·cases ht
 ·cases ht
 ·cases ht
 ·cases hk:ckT P t with
  |none=>rw[hk]at ht;cases ht
  |some c=>rw[hk]at ht;cases ht
end Go.Bj
