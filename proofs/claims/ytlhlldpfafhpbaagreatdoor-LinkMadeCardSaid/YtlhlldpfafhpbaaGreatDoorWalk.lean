/- Part of a proof; nothing is assumed. -/
import Derived.Test.YtlhlldpfafhpbaaGreatDoorEngF
import Derived.Attr
set_option linter.unusedVariables false
set_option linter.unusedSimpArgs false
namespace Go.BN
abbrev iN(n:Nat):V:=.int .i64 (.ofNat n) 0
variable{n:Nat}{k:KV}
section
variable{G:AQ}{H:Heap}{id off m:Nat}{L:LV}{v:V}
abbrev AK(h:T.get H id=some (one L))(d:L[off]? =some v):AM (.ptr id off) G H=some v:=by have⟨f,g⟩:=us.1 d;rw[AJH,xP,AHg h a6 a6,ACF,oW];simp[*]
abbrev BV(h:T.get H id=some (one L))(d:0<m)(f:off+m<=L.length):AX m (.ptr id off) G H=some (.agg ((L.drop off).take m)):=by simp[AIM,xP,AHg h d f,ACF]
abbrev ACr(h:T.get H id=some (one L))(f:Rb v=true)(d:(At v).length=m)(g:0<m)(i:off+m<=L.length):
 A1 m (.ptr id off) v H n k=k .undef (T.set H id (one (L.take off++(At v++L.drop (off+m))))) n:=by have p:stP (.ptr id off) H m _=some _:=ATO h g d i;unfold A1;rw[f,len_eq,d];have q:band true (Nat.beq m m)=true:=o6;rw[q,p];rfl
abbrev As(h:T.get H id=some (one L))(d:0<m)(f:L.length=m):AX m (.ptr id 0) G H=some (.agg L):=by rw[BV h d a6,_S,_d a6]
abbrev MG{L':LV}(h:T.get H id=some (one L))(d:0<m)(f:L.length=m)(g:L'.length=m):
 A1 m (.ptr id 0) (.agg L') H n k=k .undef (T.set H id (one L')) n:=by
 rw[ACr h (by rfl) (by trivial) d a6];have:L.take 0++(At (.agg L')++L.drop (0+m))=L':=by show[]++(L'++L.drop _)=L';simp[*]
 rw[this]
abbrev AKS:Ay [] G H=some []:=rfl
abbrev AZe{rest:List fu}:Ay (.t v::rest) G H=BB (Ay rest G H) λvs=>some (v::vs):=rfl
abbrev By{rest:List fu}(h:T.get H id=some (one L))(d:0<m)(f:L.length=m):Ay (.cn (.ptr id 0) m::rest) G H=BB (Ay rest G H) λvs=>some (.agg L::vs):=by show BB (AX m _ G H) _=_;rw[As h d f];rfl
end
structure SL(G:AQ)(v:V)(z:Nat)(LS:Bh):Prop where
 mk'::
 is:(v=.AT/\LS=[])∨∃b off cap,v=.rsl b off LS.length cap z/\∀i c,LS[i]? =some c->c.length=z/\G b (off+i*z) z=some c
abbrev Kl{d g:Type}(a:d)(f:d->Option g):BB (some a) f=f a:=rfl
abbrev AVD(a:V):Bb [a]=a:=rfl
abbrev AWL(a b:V)(l:LV):Bb (a::b::l)=.CV (a::b::l):=rfl
abbrev cK(a b l c:Nat):BM (.one .str) false (.str a b) (.str l c)=some (.bool (decide (a=l/\b=c))):=by
 show Ux (K8 (some _) λb=>some b)=_;have:band (Nat.beq a l) (Nat.beq b c)=decide (a=l/\b=c):=by rw[A6,zc];simp
 rw[this];cases decide (a=l/\b=c)<;>rfl
variable{i:Nat}
abbrev CA(h:i+1<9223372036854775808):B2.ev .add (iN i) (iN 1)=some (iN (i+1)):=by show some _=_;rw[NB,cr,NX (by simp;omega) (by simp;omega)];rfl
structure Kp(H:Heap)(n:Nat)(H':Heap)(n':Nat):Prop where
 le:n<=n'
 same:∀id,id<n->T.get H' id=T.get H id
abbrev Kp.refl(H:Heap)(n:Nat):Kp H n H n:=⟨ea _,λ_ _=>rfl⟩
variable{H:Heap}{H':Heap}{n':Nat}
abbrev Kp.trans{d:Heap}{f:Nat}(a:Kp H n H' n')(b:Kp H' n' d f):Kp H n d f:=⟨w_ a.le b.le,λid h=>(b.same id (b_ h a.le)).trans (a.same id h)⟩
variable{H0:Heap}{n0:Nat}{id:Nat}{m:Nat}
abbrev Kp.new(a:Kp H0 n0 H n)(b:LF)(h:n0<=id)(d:n<=m):Kp H0 n0 (T.set H id b) m:=
 ⟨w_ a.le d,λj f=>by rw[T.Ac _ _ a6];exact a.same j f⟩
abbrev ET{d:Type}{b:(d->Prop)->d->Prop}{J:Nat->d->Prop}(h:∀I m s,J m s->(∀f g,f<m->J f g->I g)->b I s){s:d}(k:J m s):lfp d b s:=by
 intro I p;induction m using Nat.strongRecOn generalizing s with
 |_ m q=>exact p s (h I m s k λf g i u=>q f i u)
variable{z:Nat}{P:KV}
section
variable{G:AQ}{H:Heap}{i j o m n:Nat}{L L':LV}{v w:V}{k:KV}{b:LF}
abbrev AOv(h:L.length=z):Au (Af z [L] E0) H n P=P (.ptr n 0) (T.set H n (one L)) (n+1):=AIN h
abbrev ABe(h:L[o]? =some v):AM (.ptr i o) G (T.set H i (one L))=some v:=AK (T.B4 ..) h
abbrev AR7:AM (.ptr i 0) G (T.set H i (one (v::L)))=some v:=ABe rfl
abbrev AFn(d:L.length=m)(h:0<m):AX m (.ptr i 0) G (T.set H i (one L))=some (.agg L):=As (T.B4 ..) h d
abbrev AS1(h:i≠j):AX m (.ptr i o) G (T.set H j b)=AX m (.ptr i o) G H:=by simp[AIM,xP,ZB,T.Ac _ _ (C_ h)]
abbrev AKF(d:L.length=m)(h:0<m)(f:L'.length=m):A1 m (.ptr i 0) (.agg L') (T.set H i (one L)) n k=k .undef (T.set (T.set H i (one L)) i (one L')) n:=MG (T.B4 ..) h d f
end
abbrev AOl(L:LV):Rb (.agg L)=true:=rfl
abbrev APx(l c:Nat):Rb (.str l c)=true:=rfl
abbrev AOb(k:IntKind)(a:Int)(s:Nat):Rb (.int k a s)=true:=rfl
abbrev AMm(b:Bool):Rb (.bool b)=true:=rfl
abbrev AT4(L:LV):At (.agg L)=L:=rfl
abbrev AS9(l c:Nat):At (.str l c)=[.str l c]:=rfl
abbrev AR0(k:IntKind)(a:Int)(s:Nat):At (.int k a s)=[.int k a s]:=rfl
abbrev AQb(b:Bool):At (.bool b)=[.bool b]:=rfl
abbrev AS6(L:LV)(H:Heap)(n:Nat)(P:KV):Au (BK (.agg L)) H n P=P (.ptr n 0) (T.set H n (one L)) (n+1):=AQw rfl
abbrev AZG(n:Nat):n≠n+1:=a6
variable{G:AQ}{L:LV}{a0:V}{v:V}
abbrev AQO:AM (.ptr i 1) G (T.set H i (one (a0::v::L)))=some v:=ABe rfl
variable{a1:V}
abbrev APy:AM (.ptr i 2) G (T.set H i (one (a0::a1::v::L)))=some v:=ABe rfl
variable{a2:V}
abbrev AON:AM (.ptr i 3) G (T.set H i (one (a0::a1::a2::v::L)))=some v:=ABe rfl
abbrev APd{d:V}:AM (.ptr i 4) G (T.set H i (one (a0::a1::a2::d::v::L)))=some v:=ABe rfl
abbrev APh{d f:V}:AM (.ptr i 5) G (T.set H i (one (a0::a1::a2::d::f::v::L)))=some v:=ABe rfl
abbrev AV3(a0 a1:V):AX 2 (.ptr i 0) G (T.set H i (one [a0,a1]))=some (.agg [a0,a1]):=AFn rfl a6
abbrev ASo(a0 a1 d f:V):A1 2 (.ptr i 0) (.agg [d,f]) (T.set H i (one [a0,a1])) n k=k .undef (T.set (T.set H i (one [a0,a1])) i (one [d,f])) n:=AKF rfl a6 rfl
abbrev AVK(a0 a1:V){r:List fu}:Ay (.cn (.ptr i 0) 2::r) G (T.set H i (one [a0,a1]))=BB (Ay r G (T.set H i (one [a0,a1]))) λvs=>some (.agg [a0,a1]::vs):=By (T.B4 ..) a6 rfl
abbrev ATC(a0 a1 a2 d f g:V):A1 3 (.ptr i 0) (.agg [d,f,g]) (T.set H i (one [a0,a1,a2])) n k=k .undef (T.set (T.set H i (one [a0,a1,a2])) i (one [d,f,g])) n:=AKF rfl a6 rfl
abbrev AVI(a0 a1 a2 d:V):AX 4 (.ptr i 0) G (T.set H i (one [a0,a1,a2,d]))=some (.agg [a0,a1,a2,d]):=AFn rfl a6
abbrev ATG(a0 a1 a2 d f g m p:V):A1 4 (.ptr i 0) (.agg [f,g,m,p]) (T.set H i (one [a0,a1,a2,d])) n k=k .undef (T.set (T.set H i (one [a0,a1,a2,d])) i (one [f,g,m,p])) n:=AKF rfl a6 rfl
abbrev AWC(a0 a1 a2 d f:V):AX 5 (.ptr i 0) G (T.set H i (one [a0,a1,a2,d,f]))=some (.agg [a0,a1,a2,d,f]):=AFn rfl a6
abbrev ASk(a0 a1 a2 d f g m p q u:V):A1 5 (.ptr i 0) (.agg [g,m,p,q,u]) (T.set H i (one [a0,a1,a2,d,f])) n k=k .undef (T.set (T.set H i (one [a0,a1,a2,d,f])) i (one [g,m,p,q,u])) n:=AKF rfl a6 rfl
abbrev j6(a0 a1 a2 d f g:V):AX 6 (.ptr i 0) G (T.set H i (one [a0,a1,a2,d,f,g]))=some (.agg [a0,a1,a2,d,f,g]):=AFn rfl a6
abbrev AUU(a0 a1 a2 d f g m p q u v w:V):A1 6 (.ptr i 0) (.agg [m,p,q,u,v,w]) (T.set H i (one [a0,a1,a2,d,f,g])) n k=k .undef (T.set (T.set H i (one [a0,a1,a2,d,f,g])) i (one [m,p,q,u,v,w])) n:=AKF rfl a6 rfl
abbrev em(a0 a1 a2 d f g m p q u v w x y A B C D E F:V):A1 10 (.ptr i 0) (.agg [v,w,x,y,A,B,C,D,E,F]) (T.set H i (one [a0,a1,a2,d,f,g,m,p,q,u])) n k=k .undef (T.set (T.set H i (one [a0,a1,a2,d,f,g,m,p,q,u])) i (one [v,w,x,y,A,B,C,D,E,F])) n:=AKF rfl a6 rfl
attribute [go_sem] AS6 AOv AR7 AFn AS1 AKF AJ SG YF Ah AZ AQ6 AQx AVz AWO ADE AU3 AVS AVW AU1 AYf APw APl AP AB5 A0 OC N4 AHD Kl AVD AWL AKS AZe AOl APx AOb AMm AT4 AS9 AR0 AQb
attribute [go_sem] ne_eq AZG AQO APy AON APd APh not_false_eq_true List.length_cons List.length_nil Nat.zero_add
attribute [go_sem] AV3 ASo AVK ATC AVI ATG AWC ASk j6 AUU em
abbrev NQ:∀(n o:Nat) {LS:Bh},BP H id z n o=some LS->LS.length=n/\∀i c,LS[i]? =some c->ZB H id ((o+i)*z) z=some c
 |0,o,LS,h=>by cases h;simp
 |n+1,o,LS,h=>by
  have d:BB _ _=some LS:=h;rw[BQ]at d;have⟨L,k,d⟩:=d;rw[BQ]at d;have⟨m,f,d⟩:=d;cases d;have⟨q,p⟩:=NQ n _ f;refine⟨by simp[*],λi c g=>?_⟩;cases i with
  |zero=>simp at g;subst g;exact k
  |succ i=>rw[show o+(i+1)=o+1+i by omega];exact p i c g
variable{b:Nat}
abbrev Vd:∀(n o:Nat) {LS:Bh},Y1 G b z n o=some LS->LS.length=n/\∀i c,LS[i]? =some c->G b (o+i*z) z=some c
 |0,o,LS,h=>by cases h;simp
 |n+1,o,LS,h=>by
  have d:BB _ _=some LS:=h;rw[BQ]at d;have⟨L,m,d⟩:=d;rw[BQ]at d;have⟨g,f,d⟩:=d;cases d;have⟨p,q⟩:=Vd n (o+z) f;refine⟨by simp[*],λi c k=>?_⟩;cases i with
  |zero=>simp_all
  |succ i=>simp at k;rw[show o+(i+1)*z=o+z+i*z by rw[pp];omega];simp[*]
def El(G:AQ)(H:Heap)(v:V)(z:Nat)(LS:Bh):Prop:=isStr v=false/\elems v G H z=some LS
variable{LS:Bh}
abbrev El.len(h:El G H v z LS):lenV v=some (iN LS.length):=by
 obtain⟨g,h⟩:=h;cases v<;>try (cases h;done)
 .trivial
 .cases h;rfl
 .rename_i id off n c e;cases f:Nat.beq e z with
  |false=>have d:(Bool.rec none _ _:aAs)=some LS:=h;simp_all
  |true=>
   have d:(Bool.rec none _ _:aAs)=some LS:=h;rw[f]at d;rw[(NQ _ _ d).1];rfl
 .rename_i id off n e;cases f:Nat.beq e z with
  |false=>have d:(Bool.rec none _ _:aAs)=some LS:=h;simp_all
  |true=>
   have d:(Bool.rec none _ _:aAs)=some LS:=h;rw[f]at d;rw[(NQ _ _ d).1];rfl
 .rw[(Vd _ _ h).1];rfl
variable{c:LV}
abbrev El.at(h:El G H v z LS)(hi:LS[i]? =some c):
 ∃p,Ai z v (iN i)=some p/\lG p G H z=some c:=by
 obtain⟨u,h⟩:=h;obtain⟨m,_⟩:=us.1 hi;cases v<;>try (cases h;done)
 .trivial
 .cases h;trivial
 .rename_i id off n q e;have d:(Bool.rec none _ _:aAs)=some LS:=h;cases f:Nat.beq e z with
  |false=>simp_all
  |true=>
   rw[f]at d;obtain⟨k,g⟩:=NQ _ _ d;refine⟨.ptr id _,?_,g i c hi⟩;show Az _ _=_;rw[f,show Nat.blt i n=true by simp;omega,BF];rfl
 .rename_i id off n e;have d:(Bool.rec none _ _:aAs)=some LS:=h;cases f:Nat.beq e z with
  |false=>simp_all
  |true=>
   rw[f]at d;obtain⟨k,g⟩:=NQ _ _ d;refine⟨.ptr id _,?_,g i c hi⟩;show Az _ _=_;rw[f,show Nat.blt i n=true by simp;omega,BF];rfl
 .rename_i b off n q e;obtain⟨k,g⟩:=Vd _ _ h;refine⟨.gptr b _,?_,g i c hi⟩;show Az _ _=_;rw[show Nat.blt i n=true by simp;omega,BF];rfl
variable{p:V}
abbrev BZ(h:lG p G H z=some c):AX z p G H=some (.agg c):=by rw[AIM,h];rfl
abbrev OE(h:lG p G H 1=some [v]):AM p G H=some v:=by rw[AJH,h];rfl
noncomputable def V.CD(v:V):Option Nat:=match v with|.sl id .. =>some id|.Hf id .. =>some id|_=>none
abbrev El.same(h:El G H v z LS)(g:∀id,v.CD=some id->T.get H' id=T.get H id):El G H' v z LS:=by
 refine⟨h.1,?_⟩;have f:∀id,v.CD=some id->∀n o,BP H' id z n o=BP H id z n o:=by
  intro id d n;induction n with
  |zero=>intro o;rfl
  |succ n i=>
   intro o;show BB _ (λL=>BB (BP H' id z n _) λLS=>some _)=BB _ (λL=>BB (BP H id z n _) λLS=>some _);simp[i,ZB,g id d]
 have k:=h.2;cases v<;>try exact k
 .rename_i id off n c e;show(Bool.rec none _ _:aAs)=some LS;rw[f id rfl];trivial
 .rename_i id off n e;show(Bool.rec none _ _:aAs)=some LS;rw[f id rfl];trivial
abbrev T.tv{d:Type}(a b:d):∀(p:P2) (t:T d),T.VB b p (T.VB a p t)=T.VB b p t
 |.h,t=>rfl
 |.z p,t=>by show T.n t.val (T.VB b p (T.VB a p t.left)) t.right=T.n t.val (T.VB b p t.left) t.right;rw[T.tv a b p]
 |.o p,t=>by show T.n t.val t.left (T.VB b p (T.VB a p t.right))=T.n t.val t.left (T.VB b p t.right);rw[T.tv a b p]
abbrev T.set_set{d:Type}(t:T d)(k:Nat)(a b:d):T.set (T.set t k a) k b=T.set t k b:=T.tv ..
abbrev Kp.get{b:LF}(f:Kp H n H' n')(h:T.get H id=some b)(hi:id<n):T.get H' id=some b:=(f.same id hi).trans h
abbrev Kp.set(a:Kp H0 n0 H n)(b:LF)(h:n0<=id):Kp H0 n0 (T.set H id b) n:=a.new b h o_
abbrev BL{d:Type}{b:(d->Prop)->d->Prop}{N:Nat}{J:Nat->d->Prop}(k:∀I i s,i<N->J i s->(∀f,J (i+1) f->I f)->b I s)(v:∀I s,J N s->b I s){s:d}(p:J 0 s):lfp d b s:=by
 refine ET (J:=λm s=>∃i,m=N-i/\i<=N/\J i s) ?_ ⟨0,rfl,j_ _,p⟩;rintro I m s ⟨i,rfl,w,q⟩ u;rcases _O i N with h|h
 .exact k I i s h q λf g=>u _ f a6 ⟨i+1,rfl,h,g⟩
 .have:i=N:=a6;simp_all
variable{o:Nat}
section
variable{H:Heap}{n z:Nat}{L:LV}{P:KV}
abbrev rc(f:Rb v=true)(h:∀d,Kp H n d (n+1)->T.get d n=some (one (At v))->P (.ptr n 0) d (n+1)):Au (BK v) H n P:=by rw[AQw f];exact h _ ((Kp.refl H n).new _ o_ a6) (T.B4 ..)
abbrev BE(h:∀d,Kp H n d (n+1)->T.get d n=some (one L)->P (.ptr n 0) d (n+1)):Au (BK (.agg L)) H n P:=rc rfl h
abbrev Ao(f:L.length=z)(h:∀d,Kp H n d (n+1)->T.get d n=some (one L)->P (.ptr n 0) d (n+1)):Au (Af z [L] E0) H n P:=by rw[AIN f];exact h _ ((Kp.refl H n).new _ o_ a6) (T.B4 ..)
abbrev uu(f:T.get H i=some (one L))(g:Rb v=true)(k:(At v).length=m)(p:0<m)(q:o+m<=L.length)
 (h:∀d,T.get d i=some (one (L.take o++(At v++L.drop (o+m))))->(∀j,j≠i->T.get d j=T.get H j)->P .undef d n):A1 m (.ptr i o) v H n P:=by rw[ACr f g k p q];exact h _ (T.B4 ..) λj u=>T.Ac _ _ (C_ u)
end
variable{e:Nat}{t:T LV}
abbrev AaP{c:Nat}(g:T.get H id=some (.arr e c t))(k:0<e)(hi:i<c):ZB H id (i*e) e=T.get t i:=by
 unfold ZB;rw[g];show VV e c t _ e=_;unfold VV;have d:i*e/e=i:=V_ _ k;have f:i*e%e=0:=aAa ..;have m:Nat.blt (Nat.div (i*e) e) c=true:=by rw[xi];show i*e/e<c;omega
 rw[m];rw[show Nat.div _ e=i from d];cases h:T.get t i with
 |none=>rfl
 |some L=>
  show Wl e _ e L=_;simp[Wl,show Nat.mod _ e=0 from f]
abbrev Pu:∀(n o:Nat) (LS:Bh),LS.length=n->(∀i c,LS[i]? =some c->ZB H id ((o+i)*z) z=some c)->BP H id z n o=some LS
 |0,o,LS,d,_=>by cases LS with|nil=>rfl|cons a l=>trivial
 |n+1,o,LS,d,h=>by
  cases LS with
  |nil=>trivial
  |cons a l=>
   show BB _ (λL=>BB (BP H id z n _) λLS=>some _)=_;have f:=h 0 a rfl;rw[show Nat.mul o z=(o+0)*z from rfl,f,Kl,Pu n _ l (by simp_all) λi c g=>by have:=h (i+1) c (by trivial);simp_all[show o+(i+1)=o+1+i by omega]]
   rfl
inductive Gr(G:AQ)(H:Heap)(m:Nat)(z:Nat):V->Bh->Prop where
 |nil:Gr G H m z .AT []
 |Hf {id c:Nat} {t:T LV} {LS:Bh} (hg:T.get H id=some (.arr z c t)) (hc:LS.length<=c) (ht:∀i L,LS[i]? =some L->T.get t i=some L) (hid:m<=id):Gr G H m z (.Hf id 0 LS.length z) LS
abbrev Bq(z:Nat):Nat.beq z z=true:=o6
abbrev Gr.el(h:Gr G H m z v LS)(d:0<z):El G H v z LS:=by
 cases h with
 |nil=>trivial
 |Hf f q u g=>
  refine⟨rfl,?_⟩;show(Bool.rec none _ _:aAs)=some LS;rw[Bq];exact Pu _ _ _ rfl λi L k=>by have p:=(us.1 k).1;rw[t_,AaP f d a6];simp_all
abbrev Gr.mono(h:Gr G H m z v LS)(f:∀id,v.CD=some id->T.get H' id=T.get H id):Gr G H' m z v LS:=by
 cases h with
 |nil=>exact .nil
 |Hf g i k d=>exact .Hf (f _ rfl▸g) i k d
abbrev Gr.lo(h:Gr G H m z v LS)(d:v.CD=some id):m<=id/\∃c t,T.get H id=some (.arr z c t):=by
 cases h with
 |nil=>trivial
 |Hf f g i k=>cases d;simp[*]
abbrev So{a:Nat}(h:a*b<=140737488355328):KZ a b=true:=by simp[*,KZ]
variable{bs:Nat}{d:Bh}
abbrev AFf{ln c:Nat}(g:KZ (ln+d.length) bs=true)(i:ln<=c):
 X2 id 0 ln z bs d H n k (.arr z c t)=k (.Hf n 0 (ln+d.length) z) (T.set (T.set H id .dead) n (.arr z (ln+d.length) (Dk d ln t))) (n+1):=by show CS _ (λf=>B7 _ (CS n λn=>k _ _ _))=_;simp[*]
abbrev Gr.app{w:V}(h:Gr G H m z v LS)(A:m<=n)(M:∀id,v.CD=some id->id<n)(F:elems w G H z=some d)
 (B:(LS.length+d.length)*bs<=140737488355328)
 (C:∀u x,Gr G x m z u (LS++d)->(∀id,id<n->v.CD≠some id->T.get x id=T.get H id)->(∀id,u.CD=some id->id<n+1)->k u x (n+1))
 (p:d=[]->k v H n):Ey z bs v w G H n k:=by
 unfold Ey;rw[F,SG];cases h with
 |nil=>
  cases d with
  |nil=>exact p rfl
  |cons a d=>
   show GR z bs [] (a::d) H n k;unfold GR;rw[A8,A8,len_eq,len_eq,show KZ (Nat.add ([]:Bh).length (a::d).length) bs=true from So B,YF];have e:Nat.add ([]:Bh).length (a::d).length=(a::d).length:=t_ _;rw[e];refine C _ _ ?_ (λid g _=>T.Ac _ _ a6) (λid g=>by cases g;omega);refine .Hf (LS:=a::d) (T.B4 ..) o_ (λi L f=>?_) A;show T.get (Dk (a::d) 0 .e) i=some L;have q:=(us.1 f).1;rw[DD,hD ⟨j_ _,a6⟩];exact f
 |Hf I J K g=>
  rename_i id c t;show B7 (Nat.beq z z) _;rw[Bq,YF];cases d with
  |nil=>exact p rfl
  |cons a d=>
   show CR (T.get H id) (λb=>X2 id 0 LS.length z bs (a::d) H n k b);rw[I,SG];rw[AFf (So B) J,show LS.length+(a::d).length=(LS++a::d).length by rw[uk]];refine C _ _ ?_ (λj D y=>?_) (λj D=>by cases D;omega)
   .refine .Hf (LS:=LS++a::d) (T.B4 ..) o_ (λi L f=>?_) A;rw[DD];by_cases q:i<LS.length
    .rw[g_ a6];rw[qi q]at f;exact K i L f
    .rw[i_ a6]at f;have E:=(us.1 f).1;rw[hD ⟨a6,a6⟩];exact f
   .rw[T.Ac _ _ a6,T.Ac _ _ (by intro e;subst e;exact y rfl)]
def qc(H:Heap)(id:Nat)(ps:List ((Nat×Nat)×V)):Prop:=∃es ck,T.get H id=some (.map es ck)/\es.map (λe=>(e.1,e.2.1))=ps.map λp=>(V.str p.1.1 p.1.2,p.2)
def DU{α:Type}(ps:List ((Nat×Nat)×α))(s:Nat×Nat):Option α:=(ps.find? λp=>decide (p.1=s)).map (·.2)
abbrev Tq(a b l c:Nat):CK.str.eq (.str a b) (.str l c)=some (decide ((a,b)=(l,c))):=by show some _=_;congr 1;rw[A6,zc];simp
abbrev tR:∀(es:ME) (ps:List _) (s:Nat×Nat) (i:Nat),es.map (λe=>(e.1,e.2.1))=ps.map (λp=>(V.str p.1.1 p.1.2,p.2))->
 iM .str (.str s.1 s.2) es i=some ((DU ps s).map λv=>(i+(ps.findIdx λp=>decide (p.1=s)),v))
 |[],ps,s,i,h=>by
  cases ps with
  |nil=>rfl
  |cons p ps=>trivial
 |e::es,ps,s,i,h=>by
  cases ps with
  |nil=>trivial
  |cons p ps=>
   simp only[rl,_h,Prod.mk.injEq]at h;have⟨⟨f,g⟩,k⟩:=h;show BB _ (λr=>Bool.rec (iM .str (.str s.1 s.2) es (Nat.succ i)) _ r)=_;rw[f,Tq,Kl,tR es ps s _ k];by_cases d:p.1=s
   .unfold DU;simp[d,_0,g]
   .have m:=eg d;rw[m];unfold DU;simp only[List.find?_cons,d,_0];congr 2;funext v;simp;omega
abbrev AHV{es:ME}{ck:Nat}(h:T.get H id=some (.map es ck))(f:ME->Nat->aAl):NV H (.map id) f=f es ck:=by show(Option.rec _ AXA _ f:aAl)=_;rw[h];rfl
def AQt(z:V):aAl->V
 |some v=>.CV [v,.bool true]
 |none=>.CV [z,.bool false]
abbrev ANv{ps:List _}(h:qc H id ps)(z:V)(s:Nat×Nat):
 ANB .str true z (.map id) (.str s.1 s.2) H=some (AQt z (DU ps s)):=by have⟨d,ck,f,g⟩:=h;unfold ANB;rw[AHV f,tR d ps s 0 g,Kl];cases DU ps s<;>rfl
def Sr{α:Type}(s:Nat×Nat)(v:α):List ((Nat×Nat)×α)->List ((Nat×Nat)×α)
 |[]=>[(s,v)]
 |p::ps=>if p.1=s then(s,v)::ps else p::Sr s v ps
abbrev AUi{g:Type}(s:Nat×Nat)(v:g):∀(ps:List _) (t:Nat×Nat),DU (Sr s v ps) t=if s=t then some v else DU ps t
 |[],t=>by unfold Sr DU;by_cases h:s=t<;>simp[h]
 |p::ps,t=>by
  have i:=AUi s v ps t;unfold Sr;by_cases h:p.1=s
  .rw[hD h];by_cases d:s=t
   .simp[DU,d]
   .have f:¬p.1=t:=by rwa [h]
    simp[DU,d,f]
  .rw[g_ h];by_cases d:p.1=t
   .have f:¬s=t:=by intro e;simp_all
    simp[DU,d,f]
   simp_all[DU]
abbrev AJD{ps:List ((Nat×Nat)×V)}(h:qc H id ps)(s:Nat×Nat)(v:V)
 (B:∀u,qc u id (Sr s v ps)->(∀j,j≠id->T.get u j=T.get H j)->k .undef u n):ASO .str (.map id) (.str s.1 s.2) v H n k:=by
 have⟨d,ck,F,C⟩:=h;show CR (T.get H id) (λb=>CR (ARr b (AGa .str (.str s.1 s.2) v)) λb=>k .undef (T.set H id b) n);rw[F,SG];show CR (AGa .str (.str s.1 s.2) v d ck) _;unfold AGa;rw[tR d ps s 0 C,Kl];have key:∀(d:ME) (ps:List ((Nat×Nat)×V)),d.map (λe=>(e.1,e.2.1))=ps.map (λp=>(V.str p.1.1 p.1.2,p.2))->
  match DU ps s with
  |none=>(cat d [(V.str s.1 s.2,v,ck)]).map (λe=>(e.1,e.2.1))=(Sr s v ps).map (λp=>(V.str p.1.1 p.1.2,p.2))
  |some _=>∃e,nth d (ps.findIdx λp=>decide (p.1=s))=some e/\(cA (e.1,v,e.2.2) d (ps.findIdx λp=>decide (p.1=s))).map (λe=>(e.1,e.2.1))=(Sr s v ps).map (λp=>(V.str p.1.1 p.1.2,p.2)):=by
  intro d;induction d with
  |nil=>intro ps h;cases ps with
   |nil=>rfl
   |cons p ps=>simp at h
  |cons e d i=>
   intro ps h;cases ps with
   |nil=>simp at h
   |cons p ps=>
    simp only[rl,_h,Prod.mk.injEq]at h;have⟨⟨w,D⟩,E⟩:=h;have i:=i ps E;by_cases f:p.1=s
    .have:DU (p::ps) s=some p.2:=by simp[DU,f]
     rw[this];refine⟨e,by simp[_0,f],?_⟩;simp only[Sr,f,_1,_0,_b,_K];show((e.1,v,e.2.2)::d).map (λe=>(e.1,e.2.1))=_;simp only[rl,w,f,E]
    .have:DU (p::ps) s=DU ps s:=by simp[DU,f]
     rw[this];cases m:DU ps s with
     |none=>
      rw[m]at i;simp only[Sr,f,J_];show((e::cat d [(V.str s.1 s.2,v,ck)]).map λe=>(e.1,e.2.1))=_;simp only[rl,w,D];rw[show List.map (λe=>(e.fst,e.snd.fst)) (cat d [(V.str s.1 s.2,v,ck)])=_ from i]
     |some x=>
      rw[m]at i;have⟨q,g,y⟩:=i;refine⟨q,?_,?_⟩
      .simp only[_0,f,v_,_j];exact g
      .simp only[_0,f,v_,_j,Sr,J_];show(e::cA (q.1,v,q.2.2) d _).map (λe=>(e.1,e.2.1))=_;simp only[rl,w,D];rw[show List.map (λe=>(e.fst,e.snd.fst)) (cA (q.1,v,q.2.2) d (List.findIdx (λp=>decide (p.fst=s)) ps))=_ from y]
 have key:=key d ps C;cases m:DU ps s with
 |none=>
  rw[m]at key;show CR (some (.map (cat d [(V.str s.1 s.2,v,ck)]) (Nat.succ ck))) (λb=>k .undef (T.set H id b) n);rw[SG];exact B _ ⟨_,_,T.B4 ..,key⟩ λj A=>T.Ac _ _ (C_ A)
 |some x=>
  rw[m]at key;have⟨e,g,y⟩:=key;show CR (BB (nth d (0+ps.findIdx λp=>decide (p.1=s))) λe=>some (.map (cA (e.1,v,e.2.2) d (0+ps.findIdx λp=>decide (p.1=s))) ck)) (λb=>k .undef (T.set H id b) n);rw[t_,g,Kl,SG];exact B _ ⟨_,_,T.B4 ..,y⟩ λj A=>T.Ac _ _ (C_ A)
def RN(G:AQ):Prop:=∀b o z L,G b o z=some L->L.length=z/\∀i m,0<m->i+m<=z->G b (o+i) m=some ((L.drop i).take m)
abbrev AKv(e off m:Nat)(L:LV):Wl e off m L=if m=e/\off%e=0 then some L else if off%e+m<=e then some ((L.drop (off%e)).take m)else none:=by
 have f:Wl e off m L=Bool.rec (Bool.rec none (some (Vu m (fk (off%e) L))) (Nat.ble (off%e+m) e)) _ (band _ (Nat.beq (off%e) 0)):=rfl;rw[f,aK,fK];by_cases h:m=e/\off%e=0
 .simp[*]
 .have g:band (Nat.beq m e) (Nat.beq (off%e) 0)=false:=by simp[*,_q]
  rw[g_ h,g];by_cases d:off%e+m<=e
  .rw[hD d,show Nat.ble _ e=true by simp[*]]
  .rw[g_ d,show Nat.ble _ e=false by simp[*,_q]]
abbrev AM6{d off:Nat}(h:VV e d t off m=some c):∃L,off/e<d/\T.get t (off/e)=some L/\Wl e off m L=some c:=by
 unfold VV at h;rw[BQ]at h;have⟨L,f,g⟩:=h;cases i:Nat.blt (Nat.div off e) d with
 |false=>simp_all
 |true=>rw[i]at f;exact⟨L,by simp_all;omega,f,g⟩
abbrev AOk{off:Nat}(h:ZB H id off z=some c)(v:c.length=z)(D:0<m)(E:o+m<=z):ZB H id (off+o) m=some ((c.drop o).take m):=by
 unfold ZB at h⊢;cases w:T.get H id with
 |none=>simp_all
 |some b=>
  rw[w]at h;cases b with
  |map _ _=>cases h
  |dead=>cases h
  |aq _ _ _ _ _=>cases h
  |own _=>cases h
  |arr e f t=>
   have x:VV e f t off z=some c:=h;show VV e f t (off+o) m=_;have⟨L,F,y,p⟩:=AM6 x;rw[AKv]at p;have key:off%e+z<=e/\c=(L.drop (off%e)).take z/\(z=e/\off%e=0->c=L):=by
    by_cases g:z=e/\off%e=0
    .rw[hD g]at p;cases p;rw[g.2,_S,_d a6];simp[*]
    simp_all
   have⟨A,i,q⟩:=key;have B:0<e:=a6;have k:off%e+o<e:=a6;have d:off+o=e*(off/e)+(off%e+o):=hN (Q_ off e);have C:(off+o)/e=off/e:=by simp[d,Nat.mul_add_div B,N_ k]
   have u:(off+o)%e=off%e+o:=by simp[d,Nat.mul_add_mod,_I k]
   unfold VV;rw[show Nat.div (off+o) e=off/e from C,show Nat.blt (off/e) f=true by simp[*]];show BB (T.get t (off/e)) (Wl e (off+o) m)=_;rw[y,Kl,AKv,u];have G:z<=(L.drop (off%e)).length:=by rw[i,xx]at v;omega
   by_cases g:m=e/\off%e+o=0
   .rw[hD g,<-q ⟨a6,a6⟩,show o=0 by omega,_S,_d a6]
   .rw[g_ g,hD a6,i,List.drop_take,List.take_take,C',aAi a6]
abbrev bo(g:RN G)(h:lG p G H z=some c)(i:c.length=z)(d:0<m)(f:o+m<=z):
 ∃p',AG o p=some p'/\lG p' G H m=some ((c.drop o).take m):=by
 cases p<;>try (cases h)
 .exact⟨_,AP ..,AOk h i d f⟩
 .rename_i b off;exact⟨_,AB5 ..,(g b off z c h).2 o m d f⟩
abbrev Z0(d:RN G){x:V}(h:lG p G H z=some c)(f:c.length=z)(g:c[o]? =some x):
 ∃p',AG o p=some p'/\AM p' G H=some x:=by have⟨i,k⟩:=us.1 g;have⟨p',q,u⟩:=bo d h f (o:=o) (m:=1) a6 a6;simp[*,AJH,ACF]
abbrev APr{w:V}(I:0<z)(D:T.get H id=some (.arr z m t))(v:id<n)(h:elems (.sl id 0 m m z) G H z=some LS)
 (J:elems w G H z=some d) (K:(m+d.length)*bs<=140737488355328)
 (x:∀y A B,El G A y z (LS++d)->(∀j,j<n->T.get A j=T.get H j)->n<=B->(∀j,y.CD=some j->j<B)->k y A B):Ey z bs (.sl id 0 m m z) w G H n k:=by
 unfold Ey;rw[J,SG];have g:(Bool.rec (motive:=λ_=>aAs) none (BP H id z m 0) (Nat.beq z z):aAs)=some LS:=h;rw[Bq]at g;have g:BP H id z m 0=some LS:=g;have⟨M,N⟩:=NQ _ _ g;have O:AAb (.sl id 0 m m z) G z bs d H n k=Bool.rec (motive:=λ_=>Prop) (CR (BP H id z m 0) λp=>GR z bs p d H n k) (CR (T.get H id) λb=>aD id 0 m m z (m+d.length) d H n k b) (Nat.ble (m+d.length) m):=by show B7 (Nat.beq z z) (CS (Nat.add m (len d)) λf=>Bool.rec (motive:=λ_=>Prop) (CR (BP H id z m 0) λp=>GR z bs p d H n k) (CR (T.get H id) λb=>aD id 0 m m z f d H n k b) (Nat.ble f m))=_;rw[Bq,YF,A8,len_eq];rfl
 rw[O];by_cases P:d.length=0
 .have:d=[]:=_n.1 P;subst this;rw[show Nat.ble (m+([]:Bh).length) m=true by rw[_e];exact ea _];show CR (T.get H id) (λb=>aD id 0 m m z (m+0) [] H n k b);rw[D,SG];show B7 (band (Nat.beq z z) (Nat.ble (Nat.add 0 (m+0)) m)) (k (.sl id 0 (m+0) m z) (T.set H id (.arr z m t)) n);rw[Bq,show Nat.ble (Nat.add 0 (m+0)) m=true by rw[_e];show 0+m<=m;omega];have E:∀j,T.get (T.set H id (.arr z m t)) j=T.get H j:=λj=>by
   rw[T.Mt];split
   .rename_i e;subst e;exact D.symm
   .rfl
  rw[qs]at x;exact x _ _ _ ((show El G H (.sl id 0 m m z) z LS from⟨rfl,h⟩).same λj _=>E j) (λj _=>E j) o_ (λj q=>by cases q;exact v)
 .rw[show Nat.ble (m+d.length) m=false by rw[_q];intro Q;rw[_e]at Q;omega];show CR (BP H id z m 0) (λp=>GR z bs p d H n k);rw[g,SG];show CS (Nat.add (len LS) (len d)) (λf=>B7 (KZ f bs) (CS n λn=>k (.Hf n 0 f z) (T.set H n (.arr z f (Dk d (len LS) (Dk LS 0 .e)))) (Nat.succ n)));rw[A8,A8,len_eq,len_eq,show KZ (Nat.add LS.length d.length) bs=true from So (by rw[M];exact K),YF];have e:Nat.add LS.length d.length=(LS++d).length:=by rw[uk];rfl
  rw[e];refine x _ _ _ (Gr.el (m:=n) (.Hf (LS:=LS++d) (T.B4 ..) o_ (λi L u=>?_) o_) I) (λj q=>T.Ac _ _ a6) a6 (λj q=>by cases q;omega);rw[DD,DD];by_cases C:i<LS.length
  .rw[g_ a6,hD ⟨j_ _,a6⟩];rw[qi C]at u;exact u
  .rw[i_ a6]at u;have F:=(us.1 u).1;simp_all;omega
abbrev AQK:Au (ABy E0) H n P=P (.map n) (T.set H n (.map [] 0)) (n+1):=by show CS n _=_;simp
abbrev AGY(h:m+1<9223372036854775808):B2.ev .sub (iN (m+1)) (iN 1)=some (iN m):=by
 show some (V.int .i64 (V9 .i64 (wh _ _)) 0)=_;rw[NB,cr];have e:Int.ofNat (m+1)+Int.neg (Int.ofNat 1)=Int.ofNat m:=by show((m+1:Nat):Int)+ -((1:Nat):Int)=(m:Int);omega
 rw[e,NX o6 (by simp;omega)]
end Go.BN
namespace Go.BN
open Go.ChangeShapes Go.WideShapes Go.RowKit
inductive Sh where
 |int (k:IntKind)|bool|str|sl (z:Nat) (t:Sh)|st (l:List Sh)
def RSl(v:V)(n:Nat):Prop:=(v=.AT/\n=0)∨∃b o c,v=.rsl b o n c 0/\n<=c/\c<=maxLen
mutual
def Fits(G:AQ):Sh->LV->Prop
 |.int k,vs=>∃n,vs=[.int k n 0]
 |.bool,vs=>∃b,vs=[.bool b]
 |.str,vs=>∃s:aAA,s.length<=maxLen/\vs=[.str s.length (enc s)]
 |.sl z t,vs=>∃v LS,vs=[v]/\RSl v LS.length/\(∀H,El G H v z LS)/\LS.length<=maxLen/\∀L∈LS,L.length=z/\Fits G t L
 |.st ts,vs=>AJM G ts vs
def AJM(G:AQ):List Sh->LV->Prop
 |[],vs=>vs=[]
 |t::ts,vs=>∃L vs',vs=L++vs'/\Fits G t L/\AJM G ts vs'
end
def iC(P:Program):Nat->TypeId->Option Sh
 |0,_=>none
 |d+1,t=>match P.underlying t with
  |some (.int k)=>some (.int k)
  |some .bool=>some .bool
  |some .string=>some .str
  |some (.slice e)=>if P.cellsOf e=0 then none else(iC P d e).map (.sl (P.cellsOf e))
  |some (.struct fs)=>if gG 0 (fs.toList.map λf=>(f.offset,P.cellsOf f.type)) (P.cellsOf t)=true then(fs.toList.mapM λf=>iC P d f.type).map .st else none
  |_=>none
variable{W:World}{b:Nat}{o:Nat}{n:Nat}{L:LV}
abbrev AHj(h:Kc W b o n=some L):L.length=n:=by
 unfold Kc at h;split at h
 .cases h;simp
 trivial
abbrev AGH(W:World):RN (Kc W):=by
 intro b o z L h;refine⟨AHj h,λi m g k=>?_⟩;unfold Kc at h⊢;split at h
 .rename_i f;cases h;rw[hD]
  .congr 1;apply _D;intro j;rw[x_];by_cases d:j<m
   .rw[hD d,_r,pe,pe,_C d,_C a6,_E,_E,G_]
   simp[*]
  .intro j d;have:=f (i+j) a6;simp[*,G_]
 trivial
variable{G:AQ}{z:Nat}
abbrev ABv:∀(n o:Nat) (LS:Bh),LS.length=n->(∀i c,LS[i]? =some c->G b (o+i*z) z=some c)->Y1 G b z n o=some LS
 |0,o,LS,f,_=>by cases LS with|nil=>rfl|cons a l=>trivial
 |n+1,o,LS,f,h=>by
  cases LS with
  |nil=>trivial
  |cons a l=>
   show BB _ (λL=>BB (Y1 G b z n _) λLS=>some _)=_;have d:=h 0 a rfl;rw[K',_Y]at d;rw[d,Kl,show Nat.add o z=o+z from rfl,ABv n _ l (by simp_all) λi c g=>by have:=h (i+1) c (by trivial);rwa [show o+(i+1)*z=o+z+i*z by rw[pp];omega]at this]
   rfl
variable{H:Heap}{LS:Bh}{e:Nat}
abbrev AMx{c:Nat}(h:∀i L,LS[i]? =some L->G b (o+i*z) z=some L):El G H (.rsl b o LS.length c e) z LS:=
 ⟨rfl,ABv _ _ _ rfl h⟩
abbrev rN:∀{d:List Sh} {f:List LV},AG1 (λt l=>Fits G t l) d f->AJM G d f.flatten
 |_,_,.nil=>rfl
 |_,_,.cons h t=>⟨_,_,o6,h,rN t⟩
abbrev AA7{i k m:Type}{f:i->Option k}{R:k->m->Prop}{g:i->m}:∀{l:List i} {r:List k},l.mapM f=some r->(∀a b,a∈l->f a=some b->R b (g a))->AG1 R r (l.map g)
 |[],r,h,_=>by simp at h;subst h;exact .nil
 |a::l,r,h,p=>by
  rw[_R]at h;cases d:f a with
  |none=>simp_all
  |some b=>
   rw[d]at h;cases q:l.mapM f with
   |none=>simp_all
   |some w=>
    simp[q]at h;subst h;exact .cons (p a b (u_ ..) d) (AA7 q λa b u v=>p a b (c_ _ u) v)
variable{w:World}{a:Addr}{cs:List Value}
abbrev uP{base:Nat}{cs:aAp}(h:w.cells? base a n=some cs):cs.length=n/\∀j u,cs[j]? =some u->w.cell? (a.add j)=some u:=by
 unfold World.cells? at h;split at h
 .have g:=mapM_some_length h;refine⟨by simp[*],λj u d=>?_⟩;have f:j<n:=by have:=(us.1 d).1;simp_all
  have:=mapM_some_get h j j (by simp[*]);simp_all
 trivial
abbrev AOM(h:a.spot=none)(k:Nat):a.add k=⟨a.block,a.off+k,none⟩:=by have⟨b,o,s⟩:=a;cases h;exact add_lit b o k
variable{u:Value}
abbrev cell_spot(h:w.cell? a=some u):a.spot=none:=by unfold World.cell? at h;split at h<;>simp_all
abbrev sN{P:Program}{H:Type}{U:TypeId×Value->H}{V:Bool}:∀(fuel:Nat) {t:TypeId} {cs:aAp} {x:DataW H×List MemPlace} {m:Nat} {sh:Sh},DataW.trod U P w 0 (λ_=>true) V fuel t cs=some x->iC P m t=some sh->
 Fits (Kc w) sh (cs.map xj)/\(∀u∈cs,u.oneCell'=true)
 |0,_,_,_,_,_,h,_=>by simp[DataW.trod]at h
 |fuel+1,t,cs,x,0,sh,h,v=>by cases v
 |fuel+1,t,cs,x,m+1,sh,h,v=>by
  simp only[iC]at v;split at v
  .rename_i k p;obtain⟨i,rfl,e,_⟩:=DataW.trod_int p h;cases v;exact⟨⟨i,rfl⟩,λu p=>by simp at p;subst p;rfl⟩
  .rename_i p;obtain⟨i,rfl,e⟩:=DataW.trod_bool p h;cases v;exact⟨⟨i,rfl⟩,λu p=>by simp at p;subst p;rfl⟩
  .rename_i p;obtain⟨s,rfl,e,N⟩:=DataW.trod_string p h;cases v;exact⟨⟨s.data.toList,by simpa using N,rfl⟩,λu p=>by simp at p;subst p;rfl⟩
  .rename_i e p;split at v
   .cases v
   rename_i hz;cases F:iC P m e with
   |none=>rw[F]at v;cases v
   |some O=>
   rw[F]at v;cases v;rcases DataW.trod_slice p h with⟨rfl,_⟩|⟨a,len,C,elems,rest,n,hn,rfl,_,_,N,W,M,Q,d3,_⟩
   .refine⟨⟨.AT,[],?_,.inl ⟨rfl,rfl⟩,λH=>⟨rfl,rfl⟩,j_ _,λL hL=>by cases hL⟩,λu p=>by simp at p;subst p;rfl⟩;simp[xj]
   .have d4:fuel=n:=a6;subst d4;have⟨f1,S⟩:=d3 rfl;refine⟨?_,λu p=>by simp at p;subst p;rfl⟩;have q:∀i,i<C->∃d,w.cells? 0 (a.add (i*P.cellsOf e)) (P.cellsOf e)=some d/\(i<len->Fits (Kc w) O (d.map xj)/\∀u∈d,u.oneCell'=true):=by
     intro i D;by_cases K:i<len
     .have E:=Q i K;rw[eb a6]at E;cases y:w.cells? 0 (a.add (i*P.cellsOf e)) (P.cellsOf e)with
      |none=>rw[y]at E;cases E
      |some d=>
       rw[y]at E;exact⟨d,rfl,λ_=>sN fuel E F⟩
     .have E:=S (i-len) a6;rw[eb a6,show len+(i-len)=i by omega]at E;cases y:w.cells? 0 (a.add (i*P.cellsOf e)) (P.cellsOf e)with
      |none=>rw[y]at E;cases E
      |some d=>exact⟨d,rfl,λh=>absurd h K⟩
    have G:C=0∨a.spot=none:=by
     rcases _F C with X|X
     .exact .inl X
     .obtain⟨d,y,_⟩:=q 0 X;have⟨hl,hg⟩:=uP y;have X:=hg 0 _ (eb a6);have:=cell_spot X;simp only[K']at this;unfold Addr.add at this;simp only[_1]at this;exact .inr this
    have d5:xj (.slice (some a) len C)=.rsl a.block a.off len C 0:=by simp only[xj];rw[hD ⟨N,G⟩]
    let Y:Bh:=(List.range len).map λi=>((w.cells? 0 (a.add (i*P.cellsOf e)) (P.cellsOf e)).getD []).map xj;have T:Y.length=len:=by simp[Y]
    have get:∀i L,Y[i]? =some L->i<len/\∃d,w.cells? 0 (a.add (i*P.cellsOf e)) (P.cellsOf e)=some d/\L=d.map xj:=by intro i L D;have A:=(us.1 D).1;rw[T]at A;simp only[Y,pe,_C A,_E,_u]at D;have⟨d,y,_⟩:=q i a6;rw[y]at D;exact⟨A,d,y,D.symm⟩
    refine⟨.rsl a.block a.off len C 0,Y,by simp[d5],.inr ⟨_,_,_,by rw[T],a6,W⟩,λH=>?_,a6,?_⟩
    .rw[<-T];refine AMx λi L D=>?_;obtain⟨A,d,y,rfl⟩:=get i L D;have⟨hl,hg⟩:=uP y;have d6:a.spot=none:=by rcases G with h|h;omega;exact h
     have⟨d7,I,J⟩:=q i a6;rw[y]at I;cases I;refine vu hl (J A).2 λj u hj=>?_;have:=hg j u hj;rw[AOM d6,add_lit]at this;exact this
    .intro L hL;have⟨i,D⟩:=_m.1 hL;obtain⟨A,d,y,rfl⟩:=get i L D;have⟨d7,I,J⟩:=q i a6;rw[y]at I;cases I;exact⟨by simp[(uP y).1],(J A).1⟩
  .rename_i fs p;split at v
   .rename_i Z;cases hm:fs.toList.mapM (λf=>iC P m f.type)with
    |none=>rw[hm]at v;cases v
    |some d8=>
    rw[hm]at v;cases v;have⟨xs,n',f2,e,M,d9,Q⟩:=DataW.trod_struct p h;have d0:fuel=n':=a6;subst d0;have B:=Xt cs _ 0 (by rw[M];exact Z);simp only[_S,T']at B;have q:∀(f:Field) (sh:Sh),f∈fs.toList->iC P m f.type=some sh->Fits (Kc w) sh (((cs.drop f.offset).take (P.cellsOf f.type)).map xj)/\∀u∈(cs.drop f.offset).take (P.cellsOf f.type),u.oneCell'=true:=by
     intro f sh J F;have⟨i,D⟩:=_m.1 J;have E:=Q i f (by simpa using D);have K:i<xs.length:=by rw[d9];simpa using(us.1 D).1
     rw[eb K]at E;exact sN fuel E F
    constructor
    .show AJM (Kc w) d8 _;have:=rN (AA7 (R:=λt l=>Fits (Kc w) t l) (g:=λf=>((cs.drop f.offset).take (P.cellsOf f.type)).map xj) hm λf b J hb=>(q f b J hb).1);have e2:cs.map xj=(fs.toList.map λf=>((cs.drop f.offset).take (P.cellsOf f.type)).map xj).flatten:=by
      conv=>lhs;rw[B]
      rw[List.map_flatten,T'];rfl
     rw[e2];exact this
    .intro u d1;rw[B]at d1;have⟨l,hl,f0⟩:=Z'.1 d1;obtain⟨f,J,rfl⟩:=_c.1 hl;have⟨O,d2⟩:=qj hm f J;exact(q f O J d2).2 u f0
   .cases v
  .cases v
def ANU:V->Bool
 |.int _ _ b=>Nat.beq b 0
 |.bool _=>true
 |.str _ _=>true
 |_=>false
variable{v:V}
abbrev ATf{ρ:Loc}(h:AW ρ v u)(d:ANU v=true):xj u=v:=by
 cases v<;>try (cases d)
 .have:=r_ d;subst this;subst h;rfl
 .subst h;rfl
 .obtain⟨s,rfl,f,g⟩:=h;subst f;subst g;rfl
abbrev xt{g:Nat}{cs:aAp}{tab:LV}(x:∀i,W.cell? ⟨g,i,none⟩=cs[i]?)(p:Bj (λ_=>none) tab cs)(q:∀u∈cs,u.oneCell'=true)(v:tab.all ANU=true)(y:o+n<=tab.length):
 Kc W g o n=some ((tab.drop o).take n):=by
 have⟨m,f⟩:=(ZA tab cs).1 p;rw[vu (cs:=(cs.drop o).take n) (by simp;omega) (λu w=>q u (_y (_k w))) λj u k=>?_]
 .congr 1;apply _D;intro j;rw[pe,x_,x_];by_cases k:j<n
  .rw[hD k,hD k,_r,_r];have d:o+j<tab.length:=a6;rw[eb d,eb a6,_E];congr 1;exact ATf (f _ _ _ (eb d) (eb _)) (_A.1 v _ (f_ d))
  simp[*]
 simp_all[x_]
end Go.BN
namespace Go.BN
section
variable{e:Option V}{P:V->Prop}{Q:KV}{t:KV->Prop}{H:Heap}{n:Nat}{a b:V}
abbrev QD(h:P (.CV [])):Ax (.bool true) false e P:=h
abbrev Wq(h:P (.CV [])):Ax (.bool false) true e P:=h
abbrev AFB(h:Q (.CV []) H n):Et (.bool true) false t H n Q:=h
abbrev jL(h:Q (.CV []) H n):Et (.bool false) true t H n Q:=h
abbrev V1(h:P a):AD (BI (.bool true) a b) P:=h
abbrev ah(h:P b):AD (BI (.bool false) a b) P:=h
end
end Go.BN
