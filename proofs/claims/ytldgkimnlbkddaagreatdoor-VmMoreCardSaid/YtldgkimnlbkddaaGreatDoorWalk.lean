/- Part of a proof; nothing is assumed. -/
import Derived.Test.YtldgkimnlbkddaaGreatDoorEngF
import Derived.Attr
import Derived.Test.YtldgkimnlbkddaaGreatDoorEngE
set_option linter.unusedVariables false
set_option linter.unusedSimpArgs false
namespace Go.Bf
section
variable{G:AY}{H:Heap}{id off m:Nat}{L:LV}{v:V}
theorem AU(h:T.get H id=some (one L))(d:L[off]? =some v):AX (.ptr id off) G H=some v:=by
 obtain⟨f,g⟩:=List.getElem?_eq_some_iff.1 d
 rw[AUq,ATg,ATI h (by omega) (by omega),AJT,AAT]
 rw[List.getElem?_take]
 simp[d]
theorem GH(h:T.get H id=some (one L))(d:0<m)(f:off+m<=L.length):Aj m (.ptr id off) G H=some (.agg ((L.drop off).take m)):=by
 rw[AbZ,ATg,ATI h d f,AJT]
theorem AJe{n:Nat}{k:KV}(h:T.get H id=some (one L))(f:Zp v=true)(d:(A8 v).length=m)(g:0<m)(i:off+m<=L.length):
 Bz m (.ptr id off) v H n k=k .undef (T.set H id (one (L.take off++(A8 v++L.drop (off+m))))) n:=by
 have p:stP (.ptr id off) H m (A8 v)=some (T.set H id (one (L.take off++(A8 v++L.drop (off+m))))):=Ab8 h g d i
 unfold Bz
 rw[f,len_eq,d]
 have q:band true (Nat.beq m m)=true:=by simp
 rw[q,p];rfl
theorem CG(h:T.get H id=some (one L))(d:0<m)(f:L.length=m):Aj m (.ptr id 0) G H=some (.agg L):=by
 rw[GH h d (by omega),List.drop_zero,List.take_of_length_le (by omega)]
theorem FU{n:Nat}{k:KV}{L':LV}(h:T.get H id=some (one L))(d:0<m)(g:L.length=m)(f:L'.length=m):
 Bz m (.ptr id 0) (.agg L') H n k=k .undef (T.set H id (one L')) n:=by
 rw[AJe h (by rfl) (by exact f) d (by omega)]
 have:L.take 0++(A8 (.agg L')++L.drop (0+m))=L':=by
  show[]++(L'++L.drop (0+m))=L'
  rw[List.drop_eq_nil_of_le (by omega)];simp
 rw[this]
theorem AVW:ED [] G H=some []:=rfl
theorem ANh{d:List AVr}:ED (.t v::d) G H=BO (ED d G H) λvs=>some (v::vs):=rfl
theorem EN{d:List AVr}(h:T.get H id=some (one L))(f:0<m)(g:L.length=m):ED (.cn (.ptr id 0) m::d) G H=BO (ED d G H) λvs=>some (.agg L::vs):=by
 show BO (Aj m (.ptr id 0) G H) (λv=>BO (ED d G H) λvs=>some (v::vs))=_
 rw[CG h f g];rfl
end
structure SL(G:AY)(v:V)(z:Nat)(LS:EL):Prop where
 mk'::
 is:(v=.Ad/\LS=[])∨∃b off cap,v=.rsl b off LS.length cap z/\∀i c,LS[i]? =some c->c.length=z/\G b (off+i*z) z=some c
theorem Ud{α d:Type}(a:α)(f:α->Option d):BO (some a) f=f a:=rfl
theorem AfN(a:V):JF [a]=a:=rfl
theorem AfU(a b:V)(l:LV):JF (a::b::l)=.Dl (a::b::l):=rfl
theorem AKu(a b l c:Nat):CU (.one .str) false (.str a b) (.str l c)=some (.bool (decide (a=l/\b=c))):=by
 show ofB (Ld (some (band (Nat.beq a l) (Nat.beq b c))) λb=>some b)=_
 have:band (Nat.beq a l) (Nat.beq b c)=decide (a=l/\b=c):=by rw[BK,Bool.eq_iff_iff];simp
 rw[this];cases decide (a=l/\b=c)<;>rfl
theorem DI{i:Nat}(h:i+1<9223372036854775808):B2.ev .add (.int .i64 (.ofNat i) 0) (.int .i64 (.ofNat 1) 0)=some (.int .i64 (.ofNat (i+1)) 0):=by
 show some (V.int .i64 (Z7 .i64 (AHI (.ofNat i) (.ofNat 1))) 0)=_
 rw[UM,jv,YF (by simp;omega) (by simp;omega)];rfl
structure Kp(H:Heap)(n:Nat)(H':Heap)(n':Nat):Prop where
 le:n<=n'
 same:∀id,id<n->T.get H' id=T.get H id
theorem Kp.refl(H:Heap)(n:Nat):Kp H n H n:=⟨Nat.le_refl _,λ_ _=>rfl⟩
theorem Kp.trans{H H' d:Heap}{n n' f:Nat}(a:Kp H n H' n')(b:Kp H' n' d f):Kp H n d f:=⟨Nat.le_trans a.le b.le,λid h=>(b.same id (Nat.lt_of_lt_of_le h a.le)).trans (a.same id h)⟩
theorem Kp.new{H0 H:Heap}{n0 n id:Nat}(a:Kp H0 n0 H n)(b:Nu)(h:n0<=id){m:Nat}(d:n<=m):Kp H0 n0 (T.set H id b) m:=
 ⟨Nat.le_trans a.le d,λj f=>by rw[T.Ac _ _ (by omega)];exact a.same j f⟩
theorem IY{d:Type}{b:(d->Prop)->d->Prop}{J:Nat->d->Prop}(h:∀I m s,J m s->(∀f g,f<m->J f g->I g)->b I s){m:Nat}{s:d}(k:J m s):lfp d b s:=by
 intro I p
 induction m using Nat.strongRecOn generalizing s with
 |_ m q=>exact p s (h I m s k λf g i u=>q f i u)
section
variable{G:AY}{H:Heap}{i j o m n:Nat}{L L':LV}{v w:V}{k:KV}{b:Nu}
theorem Aan{z:Nat}{P:KV}(h:L.length=z):Bc (Am z [L] E0) H n P=P (.ptr n 0) (T.set H n (one L)) (n+1):=AT9 h
theorem AMz(h:L[o]? =some v):AX (.ptr i o) G (T.set H i (one L))=some v:=AU (T.Ag ..) h
theorem Ace:AX (.ptr i 0) G (T.set H i (one (v::L)))=some v:=AMz rfl
theorem AKc(d:L.length=m)(h:0<m):Aj m (.ptr i 0) G (T.set H i (one L))=some (.agg L):=CG (T.Ag ..) h d
theorem AJt(d:L.length=m)(h:0<m)(f:L'.length=m):Bz m (.ptr i 0) (.agg L') (T.set H i (one L)) n k=k .undef (T.set (T.set H i (one L)) i (one L')) n:=FU (T.Ag ..) h d f
end
theorem AaS(L:LV):Zp (.agg L)=true:=rfl
theorem AaW(l c:Nat):Zp (.str l c)=true:=rfl
theorem AZ0(k:IntKind)(a:Int)(s:Nat):Zp (.int k a s)=true:=rfl
theorem AW9(b:Bool):Zp (.bool b)=true:=rfl
theorem Abz(L:LV):A8 (.agg L)=L:=rfl
theorem AdM(l c:Nat):A8 (.str l c)=[.str l c]:=rfl
theorem AcJ(k:IntKind)(a:Int)(s:Nat):A8 (.int k a s)=[.int k a s]:=rfl
theorem AaU(b:Bool):A8 (.bool b)=[.bool b]:=rfl
theorem AdK(L:LV)(H:Heap)(n:Nat)(P:KV):Bc (EM (.agg L)) H n P=P (.ptr n 0) (T.set H n (one L)) (n+1):=Abg rfl
theorem Ahe(n:Nat):n≠n+1:=by omega
theorem AhV(n:Nat):n+1≠n:=by omega
theorem AZ1{G:AY}{H:Heap}{i:Nat}{L:LV}{d v:V}:AX (.ptr i 1) G (T.set H i (one (d::v::L)))=some v:=AMz rfl
theorem AaX{G:AY}{H:Heap}{i:Nat}{L:LV}{d f v:V}:AX (.ptr i 2) G (T.set H i (one (d::f::v::L)))=some v:=AMz rfl
theorem AZQ{G:AY}{H:Heap}{i:Nat}{L:LV}{d f g v:V}:AX (.ptr i 3) G (T.set H i (one (d::f::g::v::L)))=some v:=AMz rfl
theorem AZO{G:AY}{H:Heap}{i:Nat}{L:LV}{d f g k v:V}:AX (.ptr i 4) G (T.set H i (one (d::f::g::k::v::L)))=some v:=AMz rfl
theorem AZZ{G:AY}{H:Heap}{i:Nat}{L:LV}{d f g k m v:V}:AX (.ptr i 5) G (T.set H i (one (d::f::g::k::m::v::L)))=some v:=AMz rfl
theorem Aeb(d f:V){G:AY}{H:Heap}{i:Nat}:Aj 2 (.ptr i 0) G (T.set H i (one [d,f]))=some (.agg [d,f]):=AKc rfl (by omega)
theorem AcW(d f g m:V){H:Heap}{i n:Nat}{k:KV}:Bz 2 (.ptr i 0) (.agg [g,m]) (T.set H i (one [d,f])) n k=k .undef (T.set (T.set H i (one [d,f])) i (one [g,m])) n:=AJt rfl (by omega) rfl
theorem Afk(d f:V){G:AY}{H:Heap}{i:Nat}{r:List AVr}:ED (.cn (.ptr i 0) 2::r) G (T.set H i (one [d,f]))=BO (ED r G (T.set H i (one [d,f]))) λvs=>some (.agg [d,f]::vs):=EN (T.Ag ..) (by omega) rfl
theorem Adf(d f g m p q:V){H:Heap}{i n:Nat}{k:KV}:Bz 3 (.ptr i 0) (.agg [m,p,q]) (T.set H i (one [d,f,g])) n k=k .undef (T.set (T.set H i (one [d,f,g])) i (one [m,p,q])) n:=AJt rfl (by omega) rfl
theorem Afg(d f g k:V){G:AY}{H:Heap}{i:Nat}:Aj 4 (.ptr i 0) G (T.set H i (one [d,f,g,k]))=some (.agg [d,f,g,k]):=AKc rfl (by omega)
theorem Adx(d f g m p q u v:V){H:Heap}{i n:Nat}{k:KV}:Bz 4 (.ptr i 0) (.agg [p,q,u,v]) (T.set H i (one [d,f,g,m])) n k=k .undef (T.set (T.set H i (one [d,f,g,m])) i (one [p,q,u,v])) n:=AJt rfl (by omega) rfl
theorem Aev(d f g k m:V){G:AY}{H:Heap}{i:Nat}:Aj 5 (.ptr i 0) G (T.set H i (one [d,f,g,k,m]))=some (.agg [d,f,g,k,m]):=AKc rfl (by omega)
theorem AcS(d f g m p q u v w x:V){H:Heap}{i n:Nat}{k:KV}:Bz 5 (.ptr i 0) (.agg [q,u,v,w,x]) (T.set H i (one [d,f,g,m,p])) n k=k .undef (T.set (T.set H i (one [d,f,g,m,p])) i (one [q,u,v,w,x])) n:=AJt rfl (by omega) rfl
theorem Aeu(d f g k m p:V){G:AY}{H:Heap}{i:Nat}:Aj 6 (.ptr i 0) G (T.set H i (one [d,f,g,k,m,p]))=some (.agg [d,f,g,k,m,p]):=AKc rfl (by omega)
theorem Ad4(d f g m p q u v w x y A:V){H:Heap}{i n:Nat}{k:KV}:Bz 6 (.ptr i 0) (.agg [u,v,w,x,y,A]) (T.set H i (one [d,f,g,m,p,q])) n k=k .undef (T.set (T.set H i (one [d,f,g,m,p,q])) i (one [u,v,w,x,y,A])) n:=AJt rfl (by omega) rfl
theorem Adq(d f g k m p q u v w:V){G:AY}{H:Heap}{i:Nat}:Aj 10 (.ptr i 0) G (T.set H i (one [d,f,g,k,m,p,q,u,v,w]))=some (.agg [d,f,g,k,m,p,q,u,v,w]):=AKc rfl (by omega)
theorem AZH(d f g m p q u v w x y A B C D E F G I J:V){H:Heap}{i n:Nat}{k:KV}:Bz 10 (.ptr i 0) (.agg [y,A,B,C,D,E,F,G,I,J]) (T.set H i (one [d,f,g,m,p,q,u,v,w,x])) n k=k .undef (T.set (T.set H i (one [d,f,g,m,p,q,u,v,w,x])) i (one [y,A,B,C,D,E,F,G,I,J])) n:=AJt rfl (by omega) rfl
attribute [go_sem] AdK Aan Ace AKc AJt AP V8 X5 BP BG AbL Abj Af4 AfZ AhT Aeh Af1 AgB Aef AhJ AaT AZj Ah AOD DV AJ5 AKJ Adl Ud AfN AfU AVW ANh AaS AaW AZ0 AW9 Abz AdM AcJ AaU
attribute [go_sem] ne_eq Ahe AhV AZ1 AaX AZQ AZO AZZ not_false_eq_true List.length_cons List.length_nil Nat.zero_add
attribute [go_sem] Aeb AcW Afk Adf Afg Adx Aev AcS Aeu Ad4 Adq AZH
theorem YO{H:Heap}{id z:Nat}:∀(n o:Nat) {LS:EL},CQ H id z n o=some LS->LS.length=n/\∀i c,LS[i]? =some c->mY H id ((o+i)*z) z=some c
 |0,o,LS,h=>by cases h;exact⟨rfl,λi c f=>by simp at f⟩
 |n+1,o,LS,h=>by
  have d:BO (mY H id (Nat.mul o z) z) (λL=>BO (CQ H id z n (Nat.succ o)) λLS=>some (L::LS))=some LS:=h
  rw[BX]at d
  obtain⟨L,k,d⟩:=d
  rw[BX]at d
  obtain⟨m,g,d⟩:=d
  cases d
  obtain⟨p,q⟩:=YO n (o+1) g
  refine⟨by simp[p],λi c f=>?_⟩
  cases i with
  |zero=>simp at f;subst f;exact k
  |succ i=>simp at f;rw[show o+(i+1)=o+1+i by omega];exact q i c f
theorem AEQ{G:AY}{b z:Nat}:∀(n o:Nat) {LS:EL},AAJ G b z n o=some LS->LS.length=n/\∀i c,LS[i]? =some c->G b (o+i*z) z=some c
 |0,o,LS,h=>by cases h;exact⟨rfl,λi c f=>by simp at f⟩
 |n+1,o,LS,h=>by
  have d:BO (G b o z) (λL=>BO (AAJ G b z n (Nat.add o z)) λLS=>some (L::LS))=some LS:=h
  rw[BX]at d
  obtain⟨L,k,d⟩:=d
  rw[BX]at d
  obtain⟨m,g,d⟩:=d
  cases d
  obtain⟨p,q⟩:=AEQ n (o+z) g
  refine⟨by simp[p],λi c f=>?_⟩
  cases i with
  |zero=>simp at f;subst f;simpa using k
  |succ i=>simp at f;rw[show o+(i+1)*z=o+z+i*z by rw[Nat.add_mul];omega];exact q i c f
def El(G:AY)(H:Heap)(v:V)(z:Nat)(LS:EL):Prop:=isStr v=false/\elems v G H z=some LS
theorem El.len{G:AY}{H:Heap}{v:V}{z:Nat}{LS:EL}(h:El G H v z LS):lenV v=some (.int .i64 (.ofNat LS.length) 0):=by
 obtain⟨g,h⟩:=h
 cases v<;>try (cases h;done)
 ·cases g
 ·cases h;rfl
 ·rename_i id off n c e
  cases f:Nat.beq e z with
  |false=>have d:(Bool.rec (motive:=λ_=>Option EL) none (CQ H id z n off) (Nat.beq e z):Option EL)=some LS:=h;rw[f]at d;cases d
  |true=>
   have d:(Bool.rec (motive:=λ_=>Option EL) none (CQ H id z n off) (Nat.beq e z):Option EL)=some LS:=h
   rw[f]at d;rw[(YO _ _ d).1];rfl
 ·rename_i id off n e
  cases f:Nat.beq e z with
  |false=>have d:(Bool.rec (motive:=λ_=>Option EL) none (CQ H id z n off) (Nat.beq e z):Option EL)=some LS:=h;rw[f]at d;cases d
  |true=>
   have d:(Bool.rec (motive:=λ_=>Option EL) none (CQ H id z n off) (Nat.beq e z):Option EL)=some LS:=h
   rw[f]at d;rw[(YO _ _ d).1];rfl
 ·rw[(AEQ _ _ h).1];rfl
theorem El.at{G:AY}{H:Heap}{v:V}{z:Nat}{LS:EL}(h:El G H v z LS){i:Nat}{c:LV}(hi:LS[i]? =some c):
 ∃p,Ai z v (.int .i64 (.ofNat i) 0)=some p/\ldP p G H z=some c:=by
 obtain⟨q,h⟩:=h
 obtain⟨k,_⟩:=List.getElem?_eq_some_iff.1 hi
 cases v<;>try (cases h;done)
 ·cases q
 ·cases h;simp at k
 ·rename_i id off n u e
  have d:(Bool.rec (motive:=λ_=>Option EL) none (CQ H id z n off) (Nat.beq e z):Option EL)=some LS:=h
  cases f:Nat.beq e z with
  |false=>rw[f]at d;cases d
  |true=>
   rw[f]at d
   obtain⟨m,g⟩:=YO _ _ d
   refine⟨.ptr id ((off+i)*z),?_,g i c hi⟩
   show BI (band (Nat.beq e z) (Nat.blt i n)) (Dx (Nat.mul (Nat.add off i) z) λo=>some (.ptr id o))=_
   rw[f,show Nat.blt i n=true by rw[Nat.blt_eq];omega,Bv];rfl
 ·rename_i id off n e
  have d:(Bool.rec (motive:=λ_=>Option EL) none (CQ H id z n off) (Nat.beq e z):Option EL)=some LS:=h
  cases f:Nat.beq e z with
  |false=>rw[f]at d;cases d
  |true=>
   rw[f]at d
   obtain⟨m,g⟩:=YO _ _ d
   refine⟨.ptr id ((off+i)*z),?_,g i c hi⟩
   show BI (band (Nat.beq e z) (Nat.blt i n)) (Dx (Nat.mul (Nat.add off i) z) λo=>some (.ptr id o))=_
   rw[f,show Nat.blt i n=true by rw[Nat.blt_eq];omega,Bv];rfl
 ·rename_i b off n u e
  obtain⟨m,g⟩:=AEQ _ _ h
  refine⟨.gptr b (off+i*z),?_,g i c hi⟩
  show BI (Nat.blt i n) (Dx (Nat.add off (Nat.mul i z)) λo=>some (.gptr b o))=_
  rw[show Nat.blt i n=true by rw[Nat.blt_eq];omega,Bv];rfl
theorem Bj{G:AY}{H:Heap}{p:V}{z:Nat}{c:LV}(h:ldP p G H z=some c):Aj z p G H=some (.agg c):=by rw[AbZ,h];rfl
theorem Jv{G:AY}{H:Heap}{p v:V}(h:ldP p G H 1=some [v]):AX p G H=some v:=by rw[AUq,h];rfl
noncomputable def V.XZ(v:V):Option Nat:=match v with|.sl id .. =>some id|.F9 id .. =>some id|_=>none
theorem El.same{G:AY}{H H':Heap}{v:V}{z:Nat}{LS:EL}(h:El G H v z LS)(hs:∀id,v.XZ=some id->T.get H' id=T.get H id):El G H' v z LS:=by
 refine⟨h.1,?_⟩
 have g:∀id,v.XZ=some id->∀n o,CQ H' id z n o=CQ H id z n o:=by
  intro id d n
  induction n with
  |zero=>intro o;rfl
  |succ n i=>
   intro o
   show BO (mY H' id (Nat.mul o z) z) (λL=>BO (CQ H' id z n (Nat.succ o)) λLS=>some (L::LS))=BO (mY H id (Nat.mul o z) z) (λL=>BO (CQ H id z n (Nat.succ o)) λLS=>some (L::LS))
   rw[i];unfold mY;rw[hs id d]
 have f:=h.2
 cases v<;>try exact f
 ·rename_i id off n c e
  show(Bool.rec (motive:=λ_=>Option EL) none (CQ H' id z n off) (Nat.beq e z):Option EL)=some LS
  rw[g id rfl];exact f
 ·rename_i id off n e
  show(Bool.rec (motive:=λ_=>Option EL) none (CQ H' id z n off) (Nat.beq e z):Option EL)=some LS
  rw[g id rfl];exact f
theorem T.AHJ{α:Type}(a b:α):∀(p:P2) (t:T α),T.iP b p (T.iP a p t)=T.iP b p t
 |.h,t=>rfl
 |.z p,t=>by show T.n t.val (T.iP b p (T.iP a p t.left)) t.right=T.n t.val (T.iP b p t.left) t.right;rw[T.AHJ a b p]
 |.o p,t=>by show T.n t.val t.left (T.iP b p (T.iP a p t.right))=T.n t.val t.left (T.iP b p t.right);rw[T.AHJ a b p]
theorem T.set_set{α:Type}(t:T α)(k:Nat)(a b:α):T.set (T.set t k a) k b=T.set t k b:=T.AHJ ..
theorem Kp.get{H H':Heap}{n n' id:Nat}{b:Nu}(f:Kp H n H' n')(h:T.get H id=some b)(hi:id<n):T.get H' id=some b:=(f.same id hi).trans h
theorem Kp.set{H0 H:Heap}{n0 n id:Nat}(a:Kp H0 n0 H n)(b:Nu)(h:n0<=id):Kp H0 n0 (T.set H id b) n:=a.new b h (Nat.le_refl _)
theorem BN{d:Type}{b:(d->Prop)->d->Prop}{N:Nat}{J:Nat->d->Prop}(hs:∀I i s,i<N->J i s->(∀f,J (i+1) f->I f)->b I s)(p:∀I s,J N s->b I s){s:d}(q:J 0 s):lfp d b s:=by
 refine IY (J:=λm s=>∃i,m=N-i/\i<=N/\J i s) ?_ (m:=N) ⟨0,rfl,Nat.zero_le _,q⟩
 rintro I m s ⟨i,rfl,v,k⟩ u
 rcases Nat.lt_or_ge i N with h|h
 ·exact hs I i s h k λf g=>u _ f (by omega) ⟨i+1,rfl,h,g⟩
 ·have:i=N:=by omega
  subst this;exact p I s k
section
variable{H:Heap}{n z:Nat}{L:LV}{P:KV}
theorem Af9{v:V}(f:Zp v=true)(h:∀d,Kp H n d (n+1)->T.get d n=some (one (A8 v))->P (.ptr n 0) d (n+1)):Bc (EM v) H n P:=by
 rw[Abg f];exact h _ ((Kp.refl H n).new _ (Nat.le_refl _) (by omega)) (T.Ag ..)
theorem FT(h:∀d,Kp H n d (n+1)->T.get d n=some (one L)->P (.ptr n 0) d (n+1)):Bc (EM (.agg L)) H n P:=Af9 rfl h
theorem Di(f:L.length=z)(h:∀d,Kp H n d (n+1)->T.get d n=some (one L)->P (.ptr n 0) d (n+1)):Bc (Am z [L] E0) H n P:=by
 rw[AT9 f];exact h _ ((Kp.refl H n).new _ (Nat.le_refl _) (by omega)) (T.Ag ..)
theorem Yb{L':LV}(g:L.length=z)(d:L'.length=z)(i:0<z)(h:∀f,Kp H n f (n+1)->T.get f n=some (one L')->P .undef f (n+1)):
 Bz z (.ptr n 0) (.agg L') (T.set H n (one L)) (n+1) P:=by
 rw[AJt g i d,T.set_set];exact h _ ((Kp.refl H n).new _ (Nat.le_refl _) (by omega)) (T.Ag ..)
theorem vC{i o m:Nat}{L:LV}{v:V}(f:T.get H i=some (one L))(g:Zp v=true)(k:(A8 v).length=m)(p:0<m)(q:o+m<=L.length)
 (h:∀d,T.get d i=some (one (L.take o++(A8 v++L.drop (o+m))))->(∀j,j≠i->T.get d j=T.get H j)->P .undef d n):Bz m (.ptr i o) v H n P:=by
 rw[AJe f g k p q];exact h _ (T.Ag ..) λj u=>T.Ac _ _ (Ne.symm u)
end
theorem bI{H:Heap}{id e c i:Nat}{t:T LV}(g:T.get H id=some (.arr e c t))(k:0<e)(hi:i<c):mY H id (i*e) e=T.get t i:=by
 unfold mY;rw[g]
 show ldB e c t (i*e) e=_
 unfold ldB
 have d:i*e/e=i:=Nat.mul_div_cancel _ k
 have f:i*e%e=0:=Nat.mul_mod_left ..
 have m:Nat.blt (Nat.div (i*e) e) c=true:=by rw[Nat.blt_eq];show i*e/e<c;omega
 rw[m]
 show BO (T.get t (Nat.div (i*e) e)) (ldC e (i*e) e)=_
 rw[show Nat.div (i*e) e=i from d]
 cases h:T.get t i with
 |none=>rfl
 |some L=>
  show ldC e (i*e) e L=_
  unfold ldC
  rw[show Nat.mod (i*e) e=0 from f,show band (Nat.beq e e) (Nat.beq 0 0)=true by simp]
theorem bW{H:Heap}{id z:Nat}:∀(n o:Nat) (LS:EL),LS.length=n->(∀i c,LS[i]? =some c->mY H id ((o+i)*z) z=some c)->CQ H id z n o=some LS
 |0,o,LS,d,_=>by cases LS with|nil=>rfl|cons a l=>simp at d
 |n+1,o,LS,d,h=>by
  cases LS with
  |nil=>simp at d
  |cons a l=>
   show BO (mY H id (Nat.mul o z) z) (λL=>BO (CQ H id z n (Nat.succ o)) λLS=>some (L::LS))=_
   have f:=h 0 a rfl
   rw[show Nat.mul o z=(o+0)*z from rfl,f,Ud,bW n (o+1) l (by simpa using d) λi c g=>by
    have:=h (i+1) c (by simpa using g);rwa [show o+(i+1)=o+1+i by omega]at this]
   rfl
inductive Gr(G:AY)(H:Heap)(m:Nat)(z:Nat):V->EL->Prop where
 |nil:Gr G H m z .Ad []
 |F9 {id c:Nat} {t:T LV} {LS:EL} (hg:T.get H id=some (.arr z c t)) (hc:LS.length<=c) (ht:∀i L,LS[i]? =some L->T.get t i=some L) (hid:m<=id):Gr G H m z (.F9 id 0 LS.length z) LS
theorem Cm(z:Nat):Nat.beq z z=true:=by simp
theorem Gr.el{G:AY}{H:Heap}{m z:Nat}{v:V}{LS:EL}(h:Gr G H m z v LS)(f:0<z):El G H v z LS:=by
 cases h with
 |nil=>exact⟨rfl,rfl⟩
 |F9 g u k p=>
  rename_i id c t
  refine⟨rfl,?_⟩
  show(Bool.rec (motive:=λ_=>Option EL) none (CQ H id z LS.length 0) (Nat.beq z z):Option EL)=some LS
  rw[Cm]
  exact bW _ _ _ rfl λi L d=>by
   have q:=(List.getElem?_eq_some_iff.1 d).1
   rw[Nat.zero_add,bI g f (by omega)];exact k i L d
theorem Gr.mono{G:AY}{H H':Heap}{m z:Nat}{v:V}{LS:EL}(h:Gr G H m z v LS)(hs:∀id,v.XZ=some id->T.get H' id=T.get H id):Gr G H' m z v LS:=by
 cases h with
 |nil=>exact .nil
 |F9 f g i d=>exact .F9 (hs _ rfl▸f) g i d
theorem Gr.lo{G:AY}{H:Heap}{m z:Nat}{v:V}{LS:EL}(h:Gr G H m z v LS){id:Nat}(d:v.XZ=some id):m<=id/\∃c t,T.get H id=some (.arr z c t):=by
 cases h with
 |nil=>cases d
 |F9 f i k g=>cases d;exact⟨g,_,_,f⟩
theorem bY{a b:Nat}(h:a*b<=140737488355328):Rk a b=true:=by unfold Rk;rw[Nat.ble_eq];exact h
theorem APu{id ln z g c n:Nat}{t:T LV}{d:EL}{H:Heap}{k:KV}(i:Rk (ln+d.length) g=true)(m:ln<=c):
 jw id 0 ln z g d H n k (.arr z c t)=k (.F9 n 0 (ln+d.length) z) (T.set (T.set H id .dead) n (.arr z (ln+d.length) (Et d ln t))) (n+1):=by
 show DT (Nat.add ln (len d)) (λf=>Ji (band (Rk f g) (band (Nat.beq z z) (Nat.ble (Nat.add 0 ln) c))) (DT n λn=>k (.F9 n 0 f z) (T.set (T.set H id .dead) n (.arr z f (Et d ln t))) (Nat.succ n)))=_
 rw[BL,BL,len_eq]
 show Ji (band (Rk (ln+d.length) g) (band (Nat.beq z z) (Nat.ble (Nat.add 0 ln) c))) (k (.F9 n 0 (ln+d.length) z) (T.set (T.set H id .dead) n (.arr z (ln+d.length) (Et d ln t))) (n+1))=_
 rw[i,Cm,show Nat.ble (Nat.add 0 ln) c=true by rw[Nat.ble_eq];show 0+ln<=c;omega]
 rfl
theorem Gr.app{G:AY}{H:Heap}{m n z p:Nat}{v w:V}{LS d:EL}{k:KV}(h:Gr G H m z v LS)(B:m<=n)(N:∀id,v.XZ=some id->id<n)(I:elems w G H z=some d)
 (C:(LS.length+d.length)*p<=140737488355328)
 (D:∀x y,Gr G y m z x (LS++d)->(∀id,id<n->v.XZ≠some id->T.get y id=T.get H id)->(∀id,x.XZ=some id->id<n+1)->k x y (n+1))
 (q:d=[]->k v H n):WV z p v w G H n k:=by
 unfold WV
 rw[I,V8]
 cases h with
 |nil=>
  cases d with
  |nil=>exact q rfl
  |cons a d=>
   show KH z p [] (a::d) H n k
   unfold KH
   rw[BL,BL,len_eq,len_eq,show Rk (Nat.add ([]:EL).length (a::d).length) p=true from bY C,X5]
   have e:Nat.add ([]:EL).length (a::d).length=(a::d).length:=Nat.zero_add _
   rw[e]
   refine D _ _ ?_ (λid g _=>T.Ac _ _ (by omega)) (λid g=>by cases g;omega)
   refine .F9 (LS:=a::d) (T.Ag ..) (Nat.le_refl _) (λi L f=>?_) B
   show T.get (Et (a::d) 0 .e) i=some L
   have u:=(List.getElem?_eq_some_iff.1 f).1
   rw[Ef,if_pos ⟨Nat.zero_le _,by omega⟩];exact f
 |F9 J K M g=>
  rename_i id c t
  show Ji (Nat.beq z z) _
  rw[Cm,X5]
  cases d with
  |nil=>exact q rfl
  |cons a d=>
   show Gu (T.get H id) (λb=>jw id 0 LS.length z p (a::d) H n k b)
   rw[J,V8]
   rw[APu (bY C) K,show LS.length+(a::d).length=(LS++a::d).length by rw[List.length_append]]
   refine D _ _ ?_ (λj E A=>?_) (λj E=>by cases E;omega)
   ·refine .F9 (LS:=LS++a::d) (T.Ag ..) (Nat.le_refl _) (λi L f=>?_) B
    rw[Ef]
    by_cases u:i<LS.length
    ·rw[if_neg (by omega)]
     rw[List.getElem?_append_left u]at f
     exact M i L f
    ·rw[List.getElem?_append_right (by omega)]at f
     have F:=(List.getElem?_eq_some_iff.1 f).1
     rw[if_pos ⟨by omega,by omega⟩];exact f
   ·rw[T.Ac _ _ (by omega),T.Ac _ _ (by intro e;subst e;exact A rfl)]
def AAd(H:Heap)(id:Nat)(ps:List ((Nat×Nat)×V)):Prop:=∃es ck,T.get H id=some (.map es ck)/\es.map (λe=>(e.1,e.2.1))=ps.map λp=>(V.str p.1.1 p.1.2,p.2)
def CY{α:Type}(ps:List ((Nat×Nat)×α))(s:Nat×Nat):Option α:=(ps.find? λp=>decide (p.1=s)).map (·.2)
theorem ckS(a b l c:Nat):CK.str.eq (.str a b) (.str l c)=some (decide ((a,b)=(l,c))):=by
 show some (band (Nat.beq a l) (Nat.beq b c))=_
 congr 1;rw[BK,Bool.eq_iff_iff];simp
theorem AHT:∀(d:ME) (ps:List ((Nat×Nat)×V)) (s:Nat×Nat) (i:Nat),d.map (λe=>(e.1,e.2.1))=ps.map (λp=>(V.str p.1.1 p.1.2,p.2))->
 vJ .str (.str s.1 s.2) d i=some ((CY ps s).map λv=>(i+(ps.findIdx λp=>decide (p.1=s)),v))
 |[],ps,s,i,h=>by
  cases ps with
  |nil=>rfl
  |cons p ps=>simp at h
 |e::d,ps,s,i,h=>by
  cases ps with
  |nil=>simp at h
  |cons p ps=>
   simp only[List.map_cons,List.cons.injEq,Prod.mk.injEq]at h
   obtain⟨⟨g,k⟩,m⟩:=h
   show BO (CK.str.eq e.1 (.str s.1 s.2)) (λr=>Bool.rec (vJ .str (.str s.1 s.2) d (Nat.succ i)) (some (some (i,e.2.1))) r)=_
   rw[g,ckS,Ud,AHT d ps s (i+1) m]
   by_cases f:p.1=s
   ·have hd:decide ((p.1.1,p.1.2)=(s.1,s.2))=true:=decide_eq_true f
    rw[hd]
    unfold CY
    simp[f,List.findIdx_cons,k]
   ·have hd:decide ((p.1.1,p.1.2)=(s.1,s.2))=false:=decide_eq_false f
    rw[hd]
    unfold CY
    simp only[List.find?_cons,f,decide_false,List.findIdx_cons,cond_false]
    show some (Option.map (λv=>(i+1+List.findIdx (λp=>decide (p.fst=s)) ps,v)) _)=_
    congr 2;funext v;congr 1;omega
theorem ASE{H:Heap}{id:Nat}{d:ME}{g:Nat}(h:T.get H id=some (.map d g))(f:ME->Nat->Option V):Qc H (.map id) f=f d g:=by
 show(Option.rec (motive:=λ_=>(ME->Nat->Option V)->Option V) (λ_=>none) Adi (T.get H id) f:Option V)=_
 rw[h];rfl
def AbR(z:V):Option V->V
 |some v=>.Dl [v,.bool true]
 |none=>.Dl [z,.bool false]
theorem AK9{H:Heap}{id:Nat}{ps:List ((Nat×Nat)×V)}(h:AAd H id ps)(z:V)(s:Nat×Nat):
 ACi .str true z (.map id) (.str s.1 s.2) H=some (AbR z (CY ps s)):=by
 obtain⟨d,i,f,g⟩:=h
 unfold ACi
 rw[ASE f,AHT d ps s 0 g,Ud]
 cases CY ps s<;>rfl
def XD{α:Type}(s:Nat×Nat)(v:α):List ((Nat×Nat)×α)->List ((Nat×Nat)×α)
 |[]=>[(s,v)]
 |p::ps=>if p.1=s then(s,v)::ps else p::XD s v ps
theorem RQ{α:Type}(s:Nat×Nat)(v:α):∀(ps:List ((Nat×Nat)×α)) (t:Nat×Nat),CY (XD s v ps) t=if s=t then some v else CY ps t
 |[],t=>by
  unfold XD CY
  by_cases h:s=t<;>simp[h]
 |p::ps,t=>by
  have g:=RQ s v ps t
  unfold XD
  by_cases h:p.1=s
  ·rw[if_pos h]
   by_cases d:s=t
   ·simp[CY,d]
   ·have f:¬p.1=t:=by rw[h];exact d
    simp[CY,d,f]
  ·rw[if_neg h]
   by_cases d:p.1=t
   ·have f:¬s=t:=by intro e;exact h (d.trans e.symm)
    simp[CY,d,f]
   ·unfold CY at g⊢
    simp only[List.find?_cons,d,decide_false]
    exact g
theorem APO{H:Heap}{id:Nat}{ps:List ((Nat×Nat)×V)}(h:AAd H id ps)(s:Nat×Nat)(v:V){n:Nat}{k:KV}
 (C:∀w,AAd w id (XD s v ps)->(∀j,j≠id->T.get w j=T.get H j)->k .undef w n):AOw .str (.map id) (.str s.1 s.2) v H n k:=by
 obtain⟨d,g,G,D⟩:=h
 show Gu (T.get H id) (λb=>Gu (AYH b (AL9 .str (.str s.1 s.2) v)) λb=>k .undef (T.set H id b) n)
 rw[G,V8]
 show Gu (AL9 .str (.str s.1 s.2) v d g) _
 unfold AL9
 rw[AHT d ps s 0 D,Ud]
 have key:∀(d:ME) (ps:List ((Nat×Nat)×V)),d.map (λe=>(e.1,e.2.1))=ps.map (λp=>(V.str p.1.1 p.1.2,p.2))->
  match CY ps s with
  |none=>(cat d [(V.str s.1 s.2,v,g)]).map (λe=>(e.1,e.2.1))=(XD s v ps).map (λp=>(V.str p.1.1 p.1.2,p.2))
  |some _=>∃e,nth d (ps.findIdx λp=>decide (p.1=s))=some e/\(rE (e.1,v,e.2.2) d (ps.findIdx λp=>decide (p.1=s))).map (λe=>(e.1,e.2.1))=(XD s v ps).map (λp=>(V.str p.1.1 p.1.2,p.2)):=by
  intro d
  induction d with
  |nil=>intro ps h;cases ps with
   |nil=>rfl
   |cons p ps=>simp at h
  |cons e d m=>
   intro ps h
   cases ps with
   |nil=>simp at h
   |cons p ps=>
    simp only[List.map_cons,List.cons.injEq,Prod.mk.injEq]at h
    obtain⟨⟨y,E⟩,F⟩:=h
    have m:=m ps F
    by_cases f:p.1=s
    ·have:CY (p::ps) s=some p.2:=by simp[CY,f]
     rw[this]
     refine⟨e,by simp[List.findIdx_cons,f],?_⟩
     simp only[XD,f,if_true,List.findIdx_cons,decide_true,cond_true]
     show((e.1,v,e.2.2)::d).map (λe=>(e.1,e.2.1))=_
     simp only[List.map_cons,y,f,F]
    ·have:CY (p::ps) s=CY ps s:=by simp[CY,f]
     rw[this]
     cases q:CY ps s with
     |none=>
      rw[q]at m
      simp only[XD,f,if_false]
      show((e::cat d [(V.str s.1 s.2,v,g)]).map λe=>(e.1,e.2.1))=_
      simp only[List.map_cons,y,E]
      rw[show List.map (λe=>(e.fst,e.snd.fst)) (cat d [(V.str s.1 s.2,v,g)])=_ from m]
     |some x=>
      rw[q]at m
      obtain⟨u,i,A⟩:=m
      refine⟨u,?_,?_⟩
      ·simp only[List.findIdx_cons,f,decide_false,cond_false];exact i
      ·simp only[List.findIdx_cons,f,decide_false,cond_false,XD,if_false]
       show(e::rE (u.1,v,u.2.2) d _).map (λe=>(e.1,e.2.1))=_
       simp only[List.map_cons,y,E]
       rw[show List.map (λe=>(e.fst,e.snd.fst)) (rE (u.1,v,u.2.2) d (List.findIdx (λp=>decide (p.fst=s)) ps))=_ from A]
 have key:=key d ps D
 cases q:CY ps s with
 |none=>
  rw[q]at key
  show Gu (some (.map (cat d [(V.str s.1 s.2,v,g)]) (Nat.succ g))) (λb=>k .undef (T.set H id b) n)
  rw[V8]
  exact C _ ⟨_,_,T.Ag ..,key⟩ λj B=>T.Ac _ _ (Ne.symm B)
 |some x=>
  rw[q]at key
  obtain⟨e,i,A⟩:=key
  show Gu (BO (nth d (0+ps.findIdx λp=>decide (p.1=s))) λe=>some (.map (rE (e.1,v,e.2.2) d (0+ps.findIdx λp=>decide (p.1=s))) g)) (λb=>k .undef (T.set H id b) n)
  rw[Nat.zero_add,i,Ud,V8]
  exact C _ ⟨_,_,T.Ag ..,A⟩ λj B=>T.Ac _ _ (Ne.symm B)
def Vz(G:AY):Prop:=∀b o z L,G b o z=some L->L.length=z/\∀i m,0<m->i+m<=z->G b (o+i) m=some ((L.drop i).take m)
theorem AWd(e off m:Nat)(L:LV):ldC e off m L=if m=e/\off%e=0 then some L else if off%e+m<=e then some ((L.drop (off%e)).take m)else none:=by
 have i:ldC e off m L=Bool.rec (motive:=λ_=>Option LV) (Bool.rec none (some (aK m (AAS (off%e) L))) (Nat.ble (off%e+m) e)) (some L) (band (Nat.beq m e) (Nat.beq (off%e) 0)):=rfl
 rw[i,gQ,yN]
 by_cases h:m=e/\off%e=0
 ·have g:band (Nat.beq m e) (Nat.beq (off%e) 0)=true:=by simp only[BK,Bool.and_eq_true,beq_iff];exact h
  rw[if_pos h,g]
 ·have g:band (Nat.beq m e) (Nat.beq (off%e) 0)=false:=by rw[Bool.eq_false_iff];intro d;simp only[BK,Bool.and_eq_true,beq_iff]at d;exact h d
  rw[if_neg h,g]
  by_cases f:off%e+m<=e
  ·rw[if_pos f,show Nat.ble (off%e+m) e=true by rw[Nat.ble_eq];exact f]
  ·rw[if_neg f,show Nat.ble (off%e+m) e=false by rw[Bool.eq_false_iff];intro d;rw[Nat.ble_eq]at d;exact f d]
theorem AYh{e d off m:Nat}{t:T LV}{c:LV}(h:ldB e d t off m=some c):∃L,off/e<d/\T.get t (off/e)=some L/\ldC e off m L=some c:=by
 unfold ldB at h
 rw[BX]at h
 obtain⟨L,f,i⟩:=h
 cases g:Nat.blt (Nat.div off e) d with
 |false=>rw[g]at f;cases f
 |true=>rw[g]at f;exact⟨L,by rw[Nat.blt_eq]at g;exact g,f,i⟩
theorem AUG{H:Heap}{id off z o m:Nat}{c:LV}(h:mY H id off z=some c)(x:c.length=z)(E:0<m)(F:o+m<=z):mY H id (off+o) m=some ((c.drop o).take m):=by
 unfold mY at h⊢
 cases w:T.get H id with
 |none=>rw[w]at h;cases h
 |some b=>
  rw[w]at h
  cases b with
  |map _ _=>cases h
  |dead=>cases h
  |qU _ _ _ _ _=>cases h
  |own _=>cases h
  |arr e g t=>
   have y:ldB e g t off z=some c:=h
   show ldB e g t (off+o) m=_
   obtain⟨L,A,B,d⟩:=AYh y
   rw[AWd]at d
   have key:off%e+z<=e/\c=(L.drop (off%e)).take z/\(z=e/\off%e=0->c=L):=by
    by_cases i:z=e/\off%e=0
    ·rw[if_pos i]at d
     cases d
     rw[i.2,List.drop_zero,List.take_of_length_le (by omega)]
     exact⟨by omega,rfl,λ_=>rfl⟩
    ·rw[if_neg i]at d
     by_cases q:off%e+z<=e
     ·rw[if_pos q]at d;exact⟨q,(Option.some.inj d).symm,λh=>absurd h i⟩
     ·rw[if_neg q]at d;cases d
   obtain⟨C,k,u⟩:=key
   have D:0<e:=by omega
   have p:off%e+o<e:=by omega
   have f:off+o=e*(off/e)+(off%e+o):=by have:=Nat.div_add_mod off e;omega
   have hd:(off+o)/e=off/e:=by rw[f,Nat.mul_add_div D,Nat.div_eq_of_lt p];omega
   have v:(off+o)%e=off%e+o:=by rw[f,Nat.mul_add_mod,Nat.mod_eq_of_lt p]
   unfold ldB
   rw[show Nat.div (off+o) e=off/e from hd,show Nat.blt (off/e) g=true by rw[Nat.blt_eq];exact A]
   show BO (T.get t (off/e)) (ldC e (off+o) m)=_
   rw[B,Ud,AWd,v]
   have G:z<=(L.drop (off%e)).length:=by rw[k,List.length_take]at x;omega
   by_cases i:m=e/\off%e+o=0
   ·rw[if_pos i,<-u ⟨by omega,by omega⟩,show o=0 by omega,List.drop_zero,List.take_of_length_le (by omega)]
   ·rw[if_neg i,if_pos (by omega),k,List.drop_take,List.take_take,List.drop_drop,Nat.min_eq_left (by omega)]
theorem AZ7{G:AY}(i:Vz G){H:Heap}{p:V}{z o m:Nat}{c:LV}(h:ldP p G H z=some c)(k:c.length=z)(d:0<m)(f:o+m<=z):
 ∃g,AQ o p=some g/\ldP g G H m=some ((c.drop o).take m):=by
 cases p<;>try (cases h;done)
 ·rename_i id off;exact⟨_,Ah ..,AUG h k d f⟩
 ·rename_i b off;exact⟨_,AOD ..,(i b off z c h).2 o m d f⟩
theorem dD{G:AY}(g:Vz G){H:Heap}{p:V}{z o:Nat}{c:LV}{x:V}(h:ldP p G H z=some c)(i:c.length=z)(f:c[o]? =some x):
 ∃d,AQ o p=some d/\AX d G H=some x:=by
 obtain⟨k,v⟩:=List.getElem?_eq_some_iff.1 f
 obtain⟨d,q,u⟩:=AZ7 g h i (o:=o) (m:=1) (by omega) (by omega)
 refine⟨d,q,?_⟩
 rw[AUq,u,AJT,AAT,List.getElem?_take]
 simp[f]
theorem AZ8{G:AY}{H:Heap}{n id m z g:Nat}{t:T LV}{w:V}{LS d:EL}{k:KV}(J:0<z)(E:T.get H id=some (.arr z m t))(x:id<n)(h:elems (.sl id 0 m m z) G H z=some LS)
 (K:elems w G H z=some d) (M:(m+d.length)*g<=140737488355328)
 (y:∀A B C,El G B A z (LS++d)->(∀j,j<n->T.get B j=T.get H j)->n<=C->(∀j,A.XZ=some j->j<C)->k A B C):WV z g (.sl id 0 m m z) w G H n k:=by
 unfold WV
 rw[K,V8]
 have p:(Bool.rec (motive:=λ_=>Option EL) none (CQ H id z m 0) (Nat.beq z z):Option EL)=some LS:=h
 rw[Cm]at p
 have p:CQ H id z m 0=some LS:=p
 obtain⟨N,O⟩:=YO _ _ p
 have P:APB (.sl id 0 m m z) G z g d H n k=Bool.rec (motive:=λ_=>Prop) (Gu (CQ H id z m 0) λq=>KH z g q d H n k) (Gu (T.get H id) λb=>ACp id 0 m m z (m+d.length) d H n k b) (Nat.ble (m+d.length) m):=by
  show Ji (Nat.beq z z) (DT (Nat.add m (len d)) λf=>Bool.rec (motive:=λ_=>Prop) (Gu (CQ H id z m 0) λq=>KH z g q d H n k) (Gu (T.get H id) λb=>ACp id 0 m m z f d H n k b) (Nat.ble f m))=_
  rw[Cm,X5,BL,len_eq];rfl
 rw[P]
 by_cases Q:d.length=0
 ·have:d=[]:=List.length_eq_zero_iff.1 Q
  subst this
  rw[show Nat.ble (m+([]:EL).length) m=true by rw[Nat.ble_eq];exact Nat.le_refl _]
  show Gu (T.get H id) (λb=>ACp id 0 m m z (m+0) [] H n k b)
  rw[E,V8]
  show Ji (band (Nat.beq z z) (Nat.ble (Nat.add 0 (m+0)) m)) (k (.sl id 0 (m+0) m z) (T.set H id (.arr z m t)) n)
  rw[Cm,show Nat.ble (Nat.add 0 (m+0)) m=true by rw[Nat.ble_eq];show 0+m<=m;omega]
  have F:∀j,T.get (T.set H id (.arr z m t)) j=T.get H j:=λj=>by
   rw[T.Qx];split
   ·rename_i e;subst e;exact E.symm
   ·rfl
  rw[List.append_nil]at y
  exact y _ _ _ ((show El G H (.sl id 0 m m z) z LS from⟨rfl,h⟩).same λj _=>F j) (λj _=>F j) (Nat.le_refl _) (λj v=>by cases v;exact x)
 ·rw[show Nat.ble (m+d.length) m=false by rw[Bool.eq_false_iff];intro R;rw[Nat.ble_eq]at R;omega]
  show Gu (CQ H id z m 0) (λq=>KH z g q d H n k)
  rw[p,V8]
  show DT (Nat.add (len LS) (len d)) (λf=>Ji (Rk f g) (DT n λn=>k (.F9 n 0 f z) (T.set H n (.arr z f (Et d (len LS) (Et LS 0 .e)))) (Nat.succ n)))
  rw[BL,BL,len_eq,len_eq,show Rk (Nat.add LS.length d.length) g=true from bY (by rw[N];exact M),X5]
  have e:Nat.add LS.length d.length=(LS++d).length:=by rw[List.length_append];rfl
  rw[e]
  refine y _ _ _ (Gr.el (m:=n) (.F9 (LS:=LS++d) (T.Ag ..) (Nat.le_refl _) (λi L u=>?_) (Nat.le_refl _)) J) (λj v=>T.Ac _ _ (by omega)) (by omega) (λj v=>by cases v;omega)
  rw[Ef,Ef]
  by_cases D:i<LS.length
  ·rw[if_neg (by omega),if_pos ⟨Nat.zero_le _,by omega⟩]
   rw[List.getElem?_append_left D]at u
   exact u
  ·rw[List.getElem?_append_right (by omega)]at u
   have I:=(List.getElem?_eq_some_iff.1 u).1
   rw[if_pos ⟨by omega,by omega⟩];exact u
theorem AOF{H:Heap}{n:Nat}{P:KV}:Bc (AGh E0) H n P=P (.map n) (T.set H n (.map [] 0)) (n+1):=by
 show DT n (λn=>P (.map n) (T.set H n (.map [] 0)) (Nat.succ n))=_
 rw[BL]
theorem ASs{m:Nat}(h:m+1<9223372036854775808):B2.ev .sub (.int .i64 (.ofNat (m+1)) 0) (.int .i64 (.ofNat 1) 0)=some (.int .i64 (.ofNat m) 0):=by
 show some (V.int .i64 (Z7 .i64 (AHI (.ofNat (m+1)) (Int.neg (.ofNat 1)))) 0)=_
 rw[UM,jv]
 have e:Int.ofNat (m+1)+Int.neg (Int.ofNat 1)=Int.ofNat m:=by show((m+1:Nat):Int)+ -((1:Nat):Int)=(m:Int);omega
 rw[e,YF (by show(-9223372036854775808:Int)<=(m:Int);omega) (by show(m:Int)<9223372036854775808;omega)]
end Go.Bf
namespace Go.Bf
open Go.ChangeShapes Go.WideShapes Go.RowKit
inductive Sh where
 |int (k:IntKind)|bool|str|sl (z:Nat) (t:Sh)|st (l:List Sh)
def RSl(v:V)(n:Nat):Prop:=(v=.Ad/\n=0)∨∃b o c,v=.rsl b o n c 0/\n<=c/\c<=maxLen
mutual
def Fits(G:AY):Sh->LV->Prop
 |.int k,vs=>∃n,vs=[.int k n 0]
 |.bool,vs=>∃b,vs=[.bool b]
 |.str,vs=>∃s:List UInt8,s.length<=maxLen/\vs=[.str s.length (enc s)]
 |.sl z t,vs=>∃v LS,vs=[v]/\RSl v LS.length/\(∀H,El G H v z LS)/\LS.length<=maxLen/\∀L∈LS,L.length=z/\Fits G t L
 |.st ts,vs=>jS G ts vs
def jS(G:AY):List Sh->LV->Prop
 |[],vs=>vs=[]
 |t::ts,vs=>∃L vs',vs=L++vs'/\Fits G t L/\jS G ts vs'
end
def zY(P:Program):Nat->TypeId->Option Sh
 |0,_=>none
 |d+1,t=>match P.underlying t with
  |some (.int k)=>some (.int k)
  |some .bool=>some .bool
  |some .string=>some .str
  |some (.slice e)=>if P.cellsOf e=0 then none else(zY P d e).map (.sl (P.cellsOf e))
  |some (.struct fs)=>if yC 0 (fs.toList.map λf=>(f.offset,P.cellsOf f.type)) (P.cellsOf t)=true then(fs.toList.mapM λf=>zY P d f.type).map .st else none
  |_=>none
theorem ATP{W:World}{b o n:Nat}{L:LV}(h:O9 W b o n=some L):L.length=n:=by
 unfold O9 at h
 split at h
 ·cases h;simp
 ·cases h
theorem ARu(W:World):Vz (O9 W):=by
 intro b o z L h
 refine⟨ATP h,λi m g k=>?_⟩
 unfold O9 at h⊢
 split at h
 ·rename_i f
  cases h
  rw[if_pos]
  ·congr 1
   apply List.ext_getElem?
   intro j
   rw[List.getElem?_take]
   by_cases d:j<m
   ·rw[if_pos d,List.getElem?_drop,List.getElem?_map,List.getElem?_map,List.getElem?_range d,List.getElem?_range (by omega),Option.map_some,Option.map_some,Nat.add_assoc]
   ·rw[if_neg d,List.getElem?_eq_none (by simp;omega)]
  ·intro j d
   have:=f (i+j) (by omega)
   rwa [<-Nat.add_assoc]at this
 ·cases h
theorem ANc{G:AY}{b z:Nat}:∀(n o:Nat) (LS:EL),LS.length=n->(∀i c,LS[i]? =some c->G b (o+i*z) z=some c)->AAJ G b z n o=some LS
 |0,o,LS,d,_=>by cases LS with|nil=>rfl|cons a l=>simp at d
 |n+1,o,LS,d,h=>by
  cases LS with
  |nil=>simp at d
  |cons a l=>
   show BO (G b o z) (λL=>BO (AAJ G b z n (Nat.add o z)) λLS=>some (L::LS))=_
   have f:=h 0 a rfl
   rw[Nat.zero_mul,Nat.add_zero]at f
   rw[f,Ud,show Nat.add o z=o+z from rfl,ANc n (o+z) l (by simpa using d) λi c g=>by
    have:=h (i+1) c (by simpa using g);rwa [show o+(i+1)*z=o+z+i*z by rw[Nat.add_mul];omega]at this]
   rfl
theorem AdO{G:AY}{H:Heap}{b o c z:Nat}{LS:EL}(h:∀i L,LS[i]? =some L->G b (o+i*z) z=some L){e:Nat}:El G H (.rsl b o LS.length c e) z LS:=
 ⟨rfl,ANc _ _ _ rfl h⟩
theorem AF7{G:AY}:∀{d:List Sh} {f:List LV},ASv (λt l=>Fits G t l) d f->jS G d f.flatten
 |_,_,.nil=>rfl
 |_,_,.cons h t=>⟨_,_,by simp,h,AF7 t⟩
theorem AMk{α i m:Type}{f:α->Option i}{R:i->m->Prop}{g:α->m}:∀{l:List α} {r:List i},l.mapM f=some r->(∀a b,a∈l->f a=some b->R b (g a))->ASv R r (l.map g)
 |[],r,h,_=>by simp at h;subst h;exact .nil
 |a::l,r,h,p=>by
  rw[List.mapM_cons]at h
  cases d:f a with
  |none=>rw[d]at h;cases h
  |some b=>
   rw[d]at h
   cases k:l.mapM f with
   |none=>simp[k]at h
   |some v=>
    simp[k]at h;subst h
    exact .cons (p a b (List.mem_cons_self ..) d) (AMk k λa b q u=>p a b (List.mem_cons_of_mem _ q) u)
theorem AGz{w:World}{base n:Nat}{a:Addr}{cs:List Value}(h:w.cells? base a n=some cs):cs.length=n/\∀j u,cs[j]? =some u->w.cell? (a.add j)=some u:=by
 unfold World.cells? at h
 split at h
 ·have f:=mapM_some_length h
  refine⟨by simpa using f,λj u g=>?_⟩
  have d:j<n:=by have:=(List.getElem?_eq_some_iff.1 g).1;simp at f;omega
  have:=mapM_some_get h j j (by rw[List.getElem?_range d])
  rw[this,g]
 ·cases h
theorem AZM{a:Addr}(h:a.spot=none)(k:Nat):a.add k=⟨a.block,a.off+k,none⟩:=by
 obtain⟨b,o,s⟩:=a;cases h;exact add_lit b o k
theorem cell_spot{w:World}{a:Addr}{u:Value}(h:w.cell? a=some u):a.spot=none:=by
 unfold World.cell? at h
 split at h
 ·split at h
  ·cases h
  ·rename_i d;cases f:a.spot<;>simp_all
 ·cases h
theorem AGq{P:Program}{w:World}{H:Type}{T:TypeId×Value->H}{U:Bool}:∀(fuel:Nat) {t:TypeId} {cs:List Value} {x:DataW H×List MemPlace} {m:Nat} {sh:Sh},DataW.trod T P w 0 (λ_=>true) U fuel t cs=some x->zY P m t=some sh->
 Fits (O9 w) sh (cs.map toV)/\(∀u∈cs,u.oneCell'=true)
 |0,_,_,_,_,_,h,_=>by simp[DataW.trod]at h
 |fuel+1,t,cs,x,0,sh,h,hs=>by cases hs
 |fuel+1,t,cs,x,m+1,sh,h,hs=>by
  simp only[zY]at hs
  split at hs
  ·rename_i k p
   obtain⟨i,rfl,e,_⟩:=DataW.trod_int p h
   cases hs
   exact⟨⟨i,rfl⟩,λu p=>by simp at p;subst p;rfl⟩
  ·rename_i p
   obtain⟨i,rfl,e⟩:=DataW.trod_bool p h
   cases hs
   exact⟨⟨i,rfl⟩,λu p=>by simp at p;subst p;rfl⟩
  ·rename_i p
   obtain⟨s,rfl,e,M⟩:=DataW.trod_string p h
   cases hs
   exact⟨⟨s.data.toList,by simpa using M,rfl⟩,λu p=>by simp at p;subst p;rfl⟩
  ·rename_i e p
   split at hs
   ·cases hs
   rename_i hz
   cases E:zY P m e with
   |none=>rw[E]at hs;cases hs
   |some N=>
   rw[E]at hs
   cases hs
   rcases DataW.trod_slice p h with⟨rfl,_⟩|⟨a,len,B,elems,f0,n,hn,rfl,_,_,M,V,K,O,d2,_⟩
   ·refine⟨⟨.Ad,[],?_,.inl ⟨rfl,rfl⟩,λH=>⟨rfl,rfl⟩,Nat.zero_le _,λL hL=>by cases hL⟩,λu p=>by simp at p;subst p;rfl⟩
    simp[toV]
   ·have d3:fuel=n:=by omega
    subst d3
    obtain⟨f1,Q⟩:=d2 rfl
    refine⟨?_,λu p=>by simp at p;subst p;rfl⟩
    have q:∀i,i<B->∃d,w.cells? 0 (a.add (i*P.cellsOf e)) (P.cellsOf e)=some d/\(i<len->Fits (O9 w) N (d.map toV)/\∀u∈d,u.oneCell'=true):=by
     intro i C
     by_cases J:i<len
     ·have D:=O i J
      rw[List.getElem?_eq_getElem (by omega)]at D
      cases v:w.cells? 0 (a.add (i*P.cellsOf e)) (P.cellsOf e)with
      |none=>rw[v]at D;cases D
      |some d=>
       rw[v]at D
       exact⟨d,rfl,λ_=>AGq fuel D E⟩
     ·have D:=Q (i-len) (by omega)
      rw[List.getElem?_eq_getElem (by omega),show len+(i-len)=i by omega]at D
      cases v:w.cells? 0 (a.add (i*P.cellsOf e)) (P.cellsOf e)with
      |none=>rw[v]at D;cases D
      |some d=>exact⟨d,rfl,λh=>absurd h J⟩
    have F:B=0∨a.spot=none:=by
     rcases Nat.eq_zero_or_pos B with W|W
     ·exact .inl W
     ·obtain⟨d,v,_⟩:=q 0 W
      obtain⟨hl,hg⟩:=AGz v
      have W:=hg 0 _ (List.getElem?_eq_getElem (by omega))
      have:=cell_spot W
      simp only[Nat.zero_mul]at this
      unfold Addr.add at this
      simp only[if_true]at this
      exact .inr this
    have d4:toV (.slice (some a) len B)=.rsl a.block a.off len B 0:=by
     simp only[toV];rw[if_pos ⟨M,F⟩]
    let X:EL:=(List.range len).map λi=>((w.cells? 0 (a.add (i*P.cellsOf e)) (P.cellsOf e)).getD []).map toV
    have S:X.length=len:=by simp[X]
    have get:∀i L,X[i]? =some L->i<len/\∃d,w.cells? 0 (a.add (i*P.cellsOf e)) (P.cellsOf e)=some d/\L=d.map toV:=by
     intro i L C
     have y:=(List.getElem?_eq_some_iff.1 C).1
     rw[S]at y
     simp only[X,List.getElem?_map,List.getElem?_range y,Option.map_some,Option.some.injEq]at C
     obtain⟨d,v,_⟩:=q i (by omega)
     rw[v]at C
     exact⟨y,d,v,C.symm⟩
    refine⟨.rsl a.block a.off len B 0,X,by simp[d4],.inr ⟨_,_,_,by rw[S],by omega,V⟩,λH=>?_,by omega,?_⟩
    ·rw[<-S]
     refine AdO λi L C=>?_
     obtain⟨y,d,v,rfl⟩:=get i L C
     obtain⟨hl,hg⟩:=AGz v
     have d5:a.spot=none:=by rcases F with h|h;omega;exact h
     obtain⟨d6,G,I⟩:=q i (by omega)
     rw[v]at G;cases G
     refine AIi hl (I y).2 λj u hj=>?_
     have:=hg j u hj
     rw[AZM d5,add_lit]at this
     exact this
    ·intro L hL
     obtain⟨i,C⟩:=List.mem_iff_getElem?.1 hL
     obtain⟨y,d,v,rfl⟩:=get i L C
     obtain⟨d6,G,I⟩:=q i (by omega)
     rw[v]at G;cases G
     exact⟨by simp[(AGz v).1],(I y).1⟩
  ·rename_i fs p
   split at hs
   ·rename_i Y
    cases hm:fs.toList.mapM (λf=>zY P m f.type)with
    |none=>rw[hm]at hs;cases hs
    |some d7=>
    rw[hm]at hs
    cases hs
    obtain⟨xs,n',f2,e,K,d8,O⟩:=DataW.trod_struct p h
    have Z:fuel=n':=by omega
    subst Z
    have A:=iY cs _ 0 (by rw[K];exact Y)
    simp only[List.drop_zero,List.map_map]at A
    have q:∀(f:Field) (sh:Sh),f∈fs.toList->zY P m f.type=some sh->Fits (O9 w) sh (((cs.drop f.offset).take (P.cellsOf f.type)).map toV)/\∀u∈(cs.drop f.offset).take (P.cellsOf f.type),u.oneCell'=true:=by
     intro f sh I E
     obtain⟨i,C⟩:=List.mem_iff_getElem?.1 I
     have D:=O i f (by simpa using C)
     have J:i<xs.length:=by rw[d8];simpa using(List.getElem?_eq_some_iff.1 C).1
     rw[List.getElem?_eq_getElem J]at D
     exact AGq fuel D E
    constructor
    ·show jS (O9 w) d7 _
     have:=AF7 (AMk (R:=λt l=>Fits (O9 w) t l) (g:=λf=>((cs.drop f.offset).take (P.cellsOf f.type)).map toV) hm λf b I hb=>(q f b I hb).1)
     have e2:cs.map toV=(fs.toList.map λf=>((cs.drop f.offset).take (P.cellsOf f.type)).map toV).flatten:=by
      conv=>lhs;rw[A]
      rw[List.map_flatten,List.map_map];rfl
     rw[e2];exact this
    ·intro u d0
     rw[A]at d0
     obtain⟨l,hl,d9⟩:=List.mem_flatten.1 d0
     obtain⟨f,I,rfl⟩:=List.mem_map.1 hl
     obtain⟨N,d1⟩:=AFD hm f I
     exact(q f N I d1).2 u d9
   ·cases hs
  ·cases hs
def AWm:V->Bool
 |.int _ _ b=>Nat.beq b 0
 |.bool _=>true
 |.str _ _=>true
 |_=>false
theorem Ac0{ρ:Loc}{v:V}{u:Value}(h:Aa ρ v u)(hp:AWm v=true):toV u=v:=by
 cases v<;>try (cases hp;done)
 ·rename_i k n s
  have:s=0:=Nat.eq_of_beq_eq_true hp
  subst this
  simp only[Aa]at h;subst h;rfl
 ·simp only[Aa]at h;subst h;rfl
 ·simp only[Aa]at h
  obtain⟨s,rfl,d,f⟩:=h
  subst d;subst f;rfl
theorem AKU{W:World}{g:Nat}{cs:List Value}{tab:LV}(p:∀i,W.cell? ⟨g,i,none⟩=cs[i]?)(q:Bq (λ_=>none) tab cs)(v:∀u∈cs,u.oneCell'=true)(hp:tab.all AWm=true){o n:Nat}(x:o+n<=tab.length):
 O9 W g o n=some ((tab.drop o).take n):=by
 obtain⟨m,k⟩:=(nP tab cs).1 q
 rw[AIi (cs:=(cs.drop o).take n) (by simp;omega) (λu w=>v u (List.mem_of_mem_drop (List.mem_of_mem_take w))) λj u d=>?_]
 ·congr 1
  apply List.ext_getElem?
  intro j
  rw[List.getElem?_map,List.getElem?_take,List.getElem?_take]
  by_cases d:j<n
  ·rw[if_pos d,if_pos d,List.getElem?_drop,List.getElem?_drop]
   have f:o+j<tab.length:=by omega
   rw[List.getElem?_eq_getElem f,List.getElem?_eq_getElem (by omega),Option.map_some]
   congr 1
   exact Ac0 (k _ _ _ (List.getElem?_eq_getElem f) (List.getElem?_eq_getElem (by omega))) (List.all_eq_true.1 hp _ (List.getElem_mem f))
  ·rw[if_neg d,if_neg d];rfl
 ·rw[List.getElem?_take]at d
  split at d
  ·rw[List.getElem?_drop]at d;rw[p];exact d
  ·cases d
end Go.Bf
namespace Go.Bf
section
variable{e:Option V}{P:V->Prop}{Q:KV}{t:KV->Prop}{H:Heap}{n:Nat}{a b:V}
theorem AEj(h:P (.Dl [])):Ak (.bool true) false e P:=h
theorem AB2(h:P (.Dl [])):Ak (.bool false) true e P:=h
theorem Ae0(h:Q (.Dl []) H n):DY (.bool true) false t H n Q:=h
theorem AUI(h:Q (.Dl []) H n):DY (.bool false) true t H n Q:=h
theorem mQ(h:P a):AL (Aw (.bool true) a b) P:=h
theorem pz(h:P b):AL (Aw (.bool false) a b) P:=h
end
end Go.Bf
