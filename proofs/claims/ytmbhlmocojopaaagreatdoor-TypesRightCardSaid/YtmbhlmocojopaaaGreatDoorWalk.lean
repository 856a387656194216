/- Part of a proof; nothing is assumed. -/
import Derived.Test.YtmbhlmocojopaaaGreatDoorEngF
import Derived.Attr
import Derived.Test.YtmbhlmocojopaaaGreatDoorEngE
set_option linter.unusedVariables false
set_option linter.unusedSimpArgs false
namespace Go.DK
section
variable{G:AX}{H:Heap}{id off m:Nat}{L:LV}{v:V}
theorem AV(h:T.get H id=some (one L))(hl:L[off]? =some v):AY (.ptr id off) G H=some v:=by
 obtain⟨hlt,he⟩:=List.getElem?_eq_some_iff.1 hl
 rw[ASg,AEv,ANG h (by omega) (by omega),AJS,AA5]
 rw[List.getElem?_take]
 simp[hl]
theorem Dh(h:T.get H id=some (one L))(hm:0<m)(hl:off+m<=L.length):Ad m (.ptr id off) G H=some (.agg ((L.drop off).take m)):=by
 rw[AN8,AEv,ANG h hm hl,AJS]
theorem AOi{n:Nat}{k:KV}(h:T.get H id=some (one L))(hv:jc v=true)(hn:(Bl v).length=m)(hm:0<m)(hl:off+m<=L.length):
 BL m (.ptr id off) v H n k=k .undef (T.set H id (one (L.take off++(Bl v++L.drop (off+m))))) n:=by
 have hs:stP (.ptr id off) H m (Bl v)=some (T.set H id (one (L.take off++(Bl v++L.drop (off+m))))):=AWF h hm hn hl
 unfold BL
 rw[hv,len_eq,hn]
 have hb:band true (Nat.beq m m)=true:=by simp
 rw[hb,hs];rfl
theorem BI(h:T.get H id=some (one L))(hm:0<m)(hl:L.length=m):Ad m (.ptr id 0) G H=some (.agg L):=by
 rw[Dh h hm (by omega),List.drop_zero,List.take_of_length_le (by omega)]
theorem RI{n:Nat}{k:KV}{L':LV}(h:T.get H id=some (one L))(hm:0<m)(hl:L.length=m)(hn:L'.length=m):
 BL m (.ptr id 0) (.agg L') H n k=k .undef (T.set H id (one L')) n:=by
 rw[AOi h (by rfl) (by exact hn) hm (by omega)]
 have:L.take 0++(Bl (.agg L')++L.drop (0+m))=L':=by
  show[]++(L'++L.drop (0+m))=L'
  rw[List.drop_eq_nil_of_le (by omega)];simp
 rw[this]
theorem APL:BA [] G H=some []:=rfl
theorem AEq{rest:List AVr}:BA (.t v::rest) G H=DF (BA rest G H) λvs=>some (v::vs):=rfl
theorem Cm{rest:List AVr}(h:T.get H id=some (one L))(hm:0<m)(hl:L.length=m):BA (.cn (.ptr id 0) m::rest) G H=DF (BA rest G H) λvs=>some (.agg L::vs):=by
 show DF (Ad m (.ptr id 0) G H) (λv=>DF (BA rest G H) λvs=>some (v::vs))=_
 rw[BI h hm hl];rfl
end
structure SL(G:AX)(v:V)(z:Nat)(LS:Dy):Prop where
 mk'::
 is:(v=.Ag/\LS=[])∨∃b off cap,v=.rsl b off LS.length cap z/\∀i c,LS[i]? =some c->c.length=z/\G b (off+i*z) z=some c
theorem RN{α β:Type}(a:α)(f:α->Option β):DF (some a) f=f a:=rfl
theorem AZE(a:V):CG [a]=a:=rfl
theorem AZN(a b:V)(l:LV):CG (a::b::l)=.G5 (a::b::l):=rfl
theorem ADc(a b l c:Nat):Dc (.one .str) false (.str a b) (.str l c)=some (.bool (decide (a=l/\b=c))):=by
 show ofB (UK (some (band (Nat.beq a l) (Nat.beq b c))) λb=>some b)=_
 have:band (Nat.beq a l) (Nat.beq b c)=decide (a=l/\b=c):=by rw[Bv,Bool.eq_iff_iff];simp
 rw[this];cases decide (a=l/\b=c)<;>rfl
theorem Eu{i:Nat}(h:i+1<9223372036854775808):B2.ev .add (.int .i64 (.ofNat i) 0) (.int .i64 (.ofNat 1) 0)=some (.int .i64 (.ofNat (i+1)) 0):=by
 show some (V.int .i64 (qh .i64 (AHJ (.ofNat i) (.ofNat 1))) 0)=_
 rw[YU,ACO,Zk (by simp;omega) (by simp;omega)];rfl
structure Kp(H:Heap)(n:Nat)(H':Heap)(n':Nat):Prop where
 le:n<=n'
 same:∀id,id<n->T.get H' id=T.get H id
theorem Kp.refl(H:Heap)(n:Nat):Kp H n H n:=⟨Nat.le_refl _,λ_ _=>rfl⟩
theorem Kp.trans{H H' H'':Heap}{n n' n'':Nat}(a:Kp H n H' n')(b:Kp H' n' H'' n''):Kp H n H'' n'':=⟨Nat.le_trans a.le b.le,λid h=>(b.same id (Nat.lt_of_lt_of_le h a.le)).trans (a.same id h)⟩
theorem Kp.new{H0 H:Heap}{n0 n id:Nat}(a:Kp H0 n0 H n)(b:Ro)(h:n0<=id){m:Nat}(hm:n<=m):Kp H0 n0 (T.set H id b) m:=
 ⟨Nat.le_trans a.le hm,λj hj=>by rw[T.Ap _ _ (by omega)];exact a.same j hj⟩
theorem QL{σ:Type}{b:(σ->Prop)->σ->Prop}{J:Nat->σ->Prop}(h:∀I m s,J m s->(∀m' s',m'<m->J m' s'->I s')->b I s){m:Nat}{s:σ}(h0:J m s):lfp σ b s:=by
 intro I hI
 induction m using Nat.strongRecOn generalizing s with
 |_ m ih=>exact hI s (h I m s h0 λm' s' hlt hs=>ih m' hlt hs)
section
variable{G:AX}{H:Heap}{i j o m n:Nat}{L L':LV}{v w:V}{k:KV}{b:Ro}
theorem AUc{z:Nat}{P:KV}(h:L.length=z):BZ (Aq z [L] E0) H n P=P (.ptr n 0) (T.set H n (one L)) (n+1):=AOD h
theorem AVS(h:L[o]? =some v):AY (.ptr i o) G (T.set H i (one L))=some v:=AV (T.BX ..) h
theorem AWZ:AY (.ptr i 0) G (T.set H i (one (v::L)))=some v:=AVS rfl
theorem AN1(hl:L.length=m)(h:0<m):Ad m (.ptr i 0) G (T.set H i (one L))=some (.agg L):=BI (T.BX ..) h hl
theorem AXA(h:i≠j):Ad m (.ptr i o) G (T.set H j b)=Ad m (.ptr i o) G H:=by
 rw[AN8,AN8,AEv,AEv];unfold zf;rw[T.Ap _ _ (Ne.symm h)]
theorem AQS(hl:L.length=m)(h:0<m)(hn:L'.length=m):BL m (.ptr i 0) (.agg L') (T.set H i (one L)) n k=k .undef (T.set (T.set H i (one L)) i (one L')) n:=RI (T.BX ..) h hl hn
end
theorem AUC(L:LV):jc (.agg L)=true:=rfl
theorem AUI(l c:Nat):jc (.str l c)=true:=rfl
theorem ATh(k:IntKind)(a:Int)(s:Nat):jc (.int k a s)=true:=rfl
theorem AQz(b:Bool):jc (.bool b)=true:=rfl
theorem AV5(L:LV):Bl (.agg L)=L:=rfl
theorem AXM(l c:Nat):Bl (.str l c)=[.str l c]:=rfl
theorem AWJ(k:IntKind)(a:Int)(s:Nat):Bl (.int k a s)=[.int k a s]:=rfl
theorem AUG(b:Bool):Bl (.bool b)=[.bool b]:=rfl
theorem AXJ(L:LV)(H:Heap)(n:Nat)(P:KV):BZ (EW (.agg L)) H n P=P (.ptr n 0) (T.set H n (one L)) (n+1):=AVi rfl
theorem Ab2(n:Nat):n≠n+1:=by omega
theorem ATi{G:AX}{H:Heap}{i:Nat}{L:LV}{a0 v:V}:AY (.ptr i 1) G (T.set H i (one (a0::v::L)))=some v:=AVS rfl
theorem AYV(a0 a1:V){G:AX}{H:Heap}{i:Nat}:Ad 2 (.ptr i 0) G (T.set H i (one [a0,a1]))=some (.agg [a0,a1]):=AN1 rfl (by omega)
theorem AWV(a0 a1 b0 b1:V){H:Heap}{i n:Nat}{k:KV}:BL 2 (.ptr i 0) (.agg [b0,b1]) (T.set H i (one [a0,a1])) n k=k .undef (T.set (T.set H i (one [a0,a1])) i (one [b0,b1])) n:=AQS rfl (by omega) rfl
theorem AZe(a0 a1:V){G:AX}{H:Heap}{i:Nat}{r:List AVr}:BA (.cn (.ptr i 0) 2::r) G (T.set H i (one [a0,a1]))=DF (BA r G (T.set H i (one [a0,a1]))) λvs=>some (.agg [a0,a1]::vs):=Cm (T.BX ..) (by omega) rfl
theorem AXb(a0 a1 a2 b0 b1 b2:V){H:Heap}{i n:Nat}{k:KV}:BL 3 (.ptr i 0) (.agg [b0,b1,b2]) (T.set H i (one [a0,a1,a2])) n k=k .undef (T.set (T.set H i (one [a0,a1,a2])) i (one [b0,b1,b2])) n:=AQS rfl (by omega) rfl
theorem AZb(a0 a1 a2 a3:V){G:AX}{H:Heap}{i:Nat}:Ad 4 (.ptr i 0) G (T.set H i (one [a0,a1,a2,a3]))=some (.agg [a0,a1,a2,a3]):=AN1 rfl (by omega)
theorem AXn(a0 a1 a2 a3 b0 b1 b2 b3:V){H:Heap}{i n:Nat}{k:KV}:BL 4 (.ptr i 0) (.agg [b0,b1,b2,b3]) (T.set H i (one [a0,a1,a2,a3])) n k=k .undef (T.set (T.set H i (one [a0,a1,a2,a3])) i (one [b0,b1,b2,b3])) n:=AQS rfl (by omega) rfl
theorem AYw(a0 a1 a2 a3 a4:V){G:AX}{H:Heap}{i:Nat}:Ad 5 (.ptr i 0) G (T.set H i (one [a0,a1,a2,a3,a4]))=some (.agg [a0,a1,a2,a3,a4]):=AN1 rfl (by omega)
theorem AWP(a0 a1 a2 a3 a4 b0 b1 b2 b3 b4:V){H:Heap}{i n:Nat}{k:KV}:BL 5 (.ptr i 0) (.agg [b0,b1,b2,b3,b4]) (T.set H i (one [a0,a1,a2,a3,a4])) n k=k .undef (T.set (T.set H i (one [a0,a1,a2,a3,a4])) i (one [b0,b1,b2,b3,b4])) n:=AQS rfl (by omega) rfl
attribute [go_sem] AXJ AUc AWZ AN1 AXA AQS AQ Zq qx A8 Ai AU9 AVk AaC AZU Abr AYe AZ5 AaK AYZ Abh AUF ATS Ae ANp ATN O5 O7 xJ RN AZE AZN APL AEq AUC AUI ATh AQz AV5 AXM AWJ AUG
attribute [go_sem] ne_eq Ab2 ATi not_false_eq_true List.length_cons List.length_nil Nat.zero_add
attribute [go_sem] AYV AWV AZe AXb AZb AXn AYw AWP
theorem TK{H:Heap}{id z:Nat}:∀(n o:Nat) {LS:Dy},DV H id z n o=some LS->LS.length=n/\∀i c,LS[i]? =some c->zf H id ((o+i)*z) z=some c
 |0,o,LS,h=>by cases h;exact⟨rfl,λi c hc=>by simp at hc⟩
 |n+1,o,LS,h=>by
  have h':DF (zf H id (Nat.mul o z) z) (λL=>DF (DV H id z n (Nat.succ o)) λLS=>some (L::LS))=some LS:=h
  rw[Cj]at h'
  obtain⟨L,hL,h'⟩:=h'
  rw[Cj]at h'
  obtain⟨LS',hLS,h'⟩:=h'
  cases h'
  obtain⟨h1,h2⟩:=TK n (o+1) hLS
  refine⟨by simp[h1],λi c hc=>?_⟩
  cases i with
  |zero=>simp at hc;subst hc;exact hL
  |succ i=>simp at hc;rw[show o+(i+1)=o+1+i by omega];exact h2 i c hc
theorem aj{G:AX}{b z:Nat}:∀(n o:Nat) {LS:Dy},jJ G b z n o=some LS->LS.length=n/\∀i c,LS[i]? =some c->G b (o+i*z) z=some c
 |0,o,LS,h=>by cases h;exact⟨rfl,λi c hc=>by simp at hc⟩
 |n+1,o,LS,h=>by
  have h':DF (G b o z) (λL=>DF (jJ G b z n (Nat.add o z)) λLS=>some (L::LS))=some LS:=h
  rw[Cj]at h'
  obtain⟨L,hL,h'⟩:=h'
  rw[Cj]at h'
  obtain⟨LS',hLS,h'⟩:=h'
  cases h'
  obtain⟨h1,h2⟩:=aj n (o+z) hLS
  refine⟨by simp[h1],λi c hc=>?_⟩
  cases i with
  |zero=>simp at hc;subst hc;simpa using hL
  |succ i=>simp at hc;rw[show o+(i+1)*z=o+z+i*z by rw[Nat.add_mul];omega];exact h2 i c hc
def El(G:AX)(H:Heap)(v:V)(z:Nat)(LS:Dy):Prop:=isStr v=false/\elems v G H z=some LS
theorem El.len{G:AX}{H:Heap}{v:V}{z:Nat}{LS:Dy}(h:El G H v z LS):lenV v=some (.int .i64 (.ofNat LS.length) 0):=by
 obtain⟨hs,h⟩:=h
 cases v<;>try (cases h;done)
 ·cases hs
 ·cases h;rfl
 ·rename_i id off n c e
  cases hb:Nat.beq e z with
  |false=>have h':(Bool.rec (motive:=λ_=>Option Dy) none (DV H id z n off) (Nat.beq e z):Option Dy)=some LS:=h;rw[hb]at h';cases h'
  |true=>
   have h':(Bool.rec (motive:=λ_=>Option Dy) none (DV H id z n off) (Nat.beq e z):Option Dy)=some LS:=h
   rw[hb]at h';rw[(TK _ _ h').1];rfl
 ·rename_i id off n e
  cases hb:Nat.beq e z with
  |false=>have h':(Bool.rec (motive:=λ_=>Option Dy) none (DV H id z n off) (Nat.beq e z):Option Dy)=some LS:=h;rw[hb]at h';cases h'
  |true=>
   have h':(Bool.rec (motive:=λ_=>Option Dy) none (DV H id z n off) (Nat.beq e z):Option Dy)=some LS:=h
   rw[hb]at h';rw[(TK _ _ h').1];rfl
 ·rw[(aj _ _ h).1];rfl
theorem El.at{G:AX}{H:Heap}{v:V}{z:Nat}{LS:Dy}(h:El G H v z LS){i:Nat}{c:LV}(hi:LS[i]? =some c):
 ∃p,Az z v (.int .i64 (.ofNat i) 0)=some p/\ldP p G H z=some c:=by
 obtain⟨hs,h⟩:=h
 obtain⟨hlt,_⟩:=List.getElem?_eq_some_iff.1 hi
 cases v<;>try (cases h;done)
 ·cases hs
 ·cases h;simp at hlt
 ·rename_i id off n cp e
  have h':(Bool.rec (motive:=λ_=>Option Dy) none (DV H id z n off) (Nat.beq e z):Option Dy)=some LS:=h
  cases hb:Nat.beq e z with
  |false=>rw[hb]at h';cases h'
  |true=>
   rw[hb]at h'
   obtain⟨h1,h2⟩:=TK _ _ h'
   refine⟨.ptr id ((off+i)*z),?_,h2 i c hi⟩
   show CO (band (Nat.beq e z) (Nat.blt i n)) (En (Nat.mul (Nat.add off i) z) λo=>some (.ptr id o))=_
   rw[hb,show Nat.blt i n=true by rw[Nat.blt_eq];omega,DU];rfl
 ·rename_i id off n e
  have h':(Bool.rec (motive:=λ_=>Option Dy) none (DV H id z n off) (Nat.beq e z):Option Dy)=some LS:=h
  cases hb:Nat.beq e z with
  |false=>rw[hb]at h';cases h'
  |true=>
   rw[hb]at h'
   obtain⟨h1,h2⟩:=TK _ _ h'
   refine⟨.ptr id ((off+i)*z),?_,h2 i c hi⟩
   show CO (band (Nat.beq e z) (Nat.blt i n)) (En (Nat.mul (Nat.add off i) z) λo=>some (.ptr id o))=_
   rw[hb,show Nat.blt i n=true by rw[Nat.blt_eq];omega,DU];rfl
 ·rename_i b off n cp e
  obtain⟨h1,h2⟩:=aj _ _ h
  refine⟨.gptr b (off+i*z),?_,h2 i c hi⟩
  show CO (Nat.blt i n) (En (Nat.add off (Nat.mul i z)) λo=>some (.gptr b o))=_
  rw[show Nat.blt i n=true by rw[Nat.blt_eq];omega,DU];rfl
theorem DW{G:AX}{H:Heap}{p:V}{z:Nat}{c:LV}(h:ldP p G H z=some c):Ad z p G H=some (.agg c):=by rw[AN8,h];rfl
theorem qR{G:AX}{H:Heap}{p v:V}(h:ldP p G H 1=some [v]):AY p G H=some v:=by rw[ASg,h];rfl
noncomputable def V.D9(v:V):Option Nat:=match v with|.sl id .. =>some id|.OT id .. =>some id|_=>none
theorem El.same{G:AX}{H H':Heap}{v:V}{z:Nat}{LS:Dy}(h:El G H v z LS)(hs:∀id,v.D9=some id->T.get H' id=T.get H id):El G H' v z LS:=by
 refine⟨h.1,?_⟩
 have hB:∀id,v.D9=some id->∀n o,DV H' id z n o=DV H id z n o:=by
  intro id hid n
  induction n with
  |zero=>intro o;rfl
  |succ n ih=>
   intro o
   show DF (zf H' id (Nat.mul o z) z) (λL=>DF (DV H' id z n (Nat.succ o)) λLS=>some (L::LS))=DF (zf H id (Nat.mul o z) z) (λL=>DF (DV H id z n (Nat.succ o)) λLS=>some (L::LS))
   rw[ih];unfold zf;rw[hs id hid]
 have h2:=h.2
 cases v<;>try exact h2
 ·rename_i id off n c e
  show(Bool.rec (motive:=λ_=>Option Dy) none (DV H' id z n off) (Nat.beq e z):Option Dy)=some LS
  rw[hB id rfl];exact h2
 ·rename_i id off n e
  show(Bool.rec (motive:=λ_=>Option Dy) none (DV H' id z n off) (Nat.beq e z):Option Dy)=some LS
  rw[hB id rfl];exact h2
theorem T.ADd{α:Type}(a b:α):∀(p:P2) (t:T α),T.dW b p (T.dW a p t)=T.dW b p t
 |.h,t=>rfl
 |.z p,t=>by show T.n t.val (T.dW b p (T.dW a p t.left)) t.right=T.n t.val (T.dW b p t.left) t.right;rw[T.ADd a b p]
 |.o p,t=>by show T.n t.val t.left (T.dW b p (T.dW a p t.right))=T.n t.val t.left (T.dW b p t.right);rw[T.ADd a b p]
theorem T.set_set{α:Type}(t:T α)(k:Nat)(a b:α):T.set (T.set t k a) k b=T.set t k b:=T.ADd ..
theorem Kp.get{H H':Heap}{n n' id:Nat}{b:Ro}(f:Kp H n H' n')(h:T.get H id=some b)(hi:id<n):T.get H' id=some b:=(f.same id hi).trans h
theorem Kp.set{H0 H:Heap}{n0 n id:Nat}(a:Kp H0 n0 H n)(b:Ro)(h:n0<=id):Kp H0 n0 (T.set H id b) n:=a.new b h (Nat.le_refl _)
theorem CP{σ:Type}{b:(σ->Prop)->σ->Prop}{N:Nat}{J:Nat->σ->Prop}(hs:∀I i s,i<N->J i s->(∀s',J (i+1) s'->I s')->b I s)(he:∀I s,J N s->b I s){s:σ}(h0:J 0 s):lfp σ b s:=by
 refine QL (J:=λm s=>∃i,m=N-i/\i<=N/\J i s) ?_ (m:=N) ⟨0,rfl,Nat.zero_le _,h0⟩
 rintro I m s ⟨i,rfl,hi,hj⟩ ih
 rcases Nat.lt_or_ge i N with h|h
 ·exact hs I i s h hj λs' hj'=>ih _ s' (by omega) ⟨i+1,rfl,h,hj'⟩
 ·have:i=N:=by omega
  subst this;exact he I s hj
section
variable{H:Heap}{n z:Nat}{L:LV}{P:KV}
theorem AaI{v:V}(hv:jc v=true)(h:∀H',Kp H n H' (n+1)->T.get H' n=some (one (Bl v))->P (.ptr n 0) H' (n+1)):BZ (EW v) H n P:=by
 rw[AVi hv];exact h _ ((Kp.refl H n).new _ (Nat.le_refl _) (by omega)) (T.BX ..)
theorem DY(h:∀H',Kp H n H' (n+1)->T.get H' n=some (one L)->P (.ptr n 0) H' (n+1)):BZ (EW (.agg L)) H n P:=AaI rfl h
theorem Au(hL:L.length=z)(h:∀H',Kp H n H' (n+1)->T.get H' n=some (one L)->P (.ptr n 0) H' (n+1)):BZ (Aq z [L] E0) H n P:=by
 rw[AOD hL];exact h _ ((Kp.refl H n).new _ (Nat.le_refl _) (by omega)) (T.BX ..)
end
theorem AJm{H:Heap}{id e c i:Nat}{t:T LV}(hg:T.get H id=some (.arr e c t))(he:0<e)(hi:i<c):zf H id (i*e) e=T.get t i:=by
 unfold zf;rw[hg]
 show ldB e c t (i*e) e=_
 unfold ldB
 have hdiv:i*e/e=i:=Nat.mul_div_cancel _ he
 have hmod:i*e%e=0:=Nat.mul_mod_left ..
 have hb:Nat.blt (Nat.div (i*e) e) c=true:=by rw[Nat.blt_eq];show i*e/e<c;omega
 rw[hb]
 show DF (T.get t (Nat.div (i*e) e)) (ldC e (i*e) e)=_
 rw[show Nat.div (i*e) e=i from hdiv]
 cases h:T.get t i with
 |none=>rfl
 |some L=>
  show ldC e (i*e) e L=_
  unfold ldC
  rw[show Nat.mod (i*e) e=0 from hmod,show band (Nat.beq e e) (Nat.beq 0 0)=true by simp]
theorem Zn{H:Heap}{id z:Nat}:∀(n o:Nat) (LS:Dy),LS.length=n->(∀i c,LS[i]? =some c->zf H id ((o+i)*z) z=some c)->DV H id z n o=some LS
 |0,o,LS,hl,_=>by cases LS with|nil=>rfl|cons a l=>simp at hl
 |n+1,o,LS,hl,h=>by
  cases LS with
  |nil=>simp at hl
  |cons a l=>
   show DF (zf H id (Nat.mul o z) z) (λL=>DF (DV H id z n (Nat.succ o)) λLS=>some (L::LS))=_
   have h0:=h 0 a rfl
   rw[show Nat.mul o z=(o+0)*z from rfl,h0,RN,Zn n (o+1) l (by simpa using hl) λi c hc=>by
    have:=h (i+1) c (by simpa using hc);rwa [show o+(i+1)=o+1+i by omega]at this]
   rfl
inductive Gr(G:AX)(H:Heap)(m:Nat)(z:Nat):V->Dy->Prop where
 |nil:Gr G H m z .Ag []
 |OT {id c:Nat} {t:T LV} {LS:Dy} (hg:T.get H id=some (.arr z c t)) (hc:LS.length<=c) (ht:∀i L,LS[i]? =some L->T.get t i=some L) (hid:m<=id):Gr G H m z (.OT id 0 LS.length z) LS
theorem EZ(z:Nat):Nat.beq z z=true:=by simp
theorem Gr.el{G:AX}{H:Heap}{m z:Nat}{v:V}{LS:Dy}(h:Gr G H m z v LS)(hz:0<z):El G H v z LS:=by
 cases h with
 |nil=>exact⟨rfl,rfl⟩
 |OT hg hc ht hid=>
  rename_i id c t
  refine⟨rfl,?_⟩
  show(Bool.rec (motive:=λ_=>Option Dy) none (DV H id z LS.length 0) (Nat.beq z z):Option Dy)=some LS
  rw[EZ]
  exact Zn _ _ _ rfl λi L hi=>by
   have hlt:=(List.getElem?_eq_some_iff.1 hi).1
   rw[Nat.zero_add,AJm hg hz (by omega)];exact ht i L hi
theorem Gr.mono{G:AX}{H H':Heap}{m z:Nat}{v:V}{LS:Dy}(h:Gr G H m z v LS)(hs:∀id,v.D9=some id->T.get H' id=T.get H id):Gr G H' m z v LS:=by
 cases h with
 |nil=>exact .nil
 |OT hg hc ht hid=>exact .OT (hs _ rfl▸hg) hc ht hid
theorem Gr.lo{G:AX}{H:Heap}{m z:Nat}{v:V}{LS:Dy}(h:Gr G H m z v LS){id:Nat}(hid:v.D9=some id):m<=id/\∃c t,T.get H id=some (.arr z c t):=by
 cases h with
 |nil=>cases hid
 |OT hg hc ht hi=>cases hid;exact⟨hi,_,_,hg⟩
theorem Zp{a b:Nat}(h:a*b<=140737488355328):Sz a b=true:=by unfold Sz;rw[Nat.ble_eq];exact h
theorem AKS{id ln z bs c n:Nat}{t:T LV}{NS:Dy}{H:Heap}{k:KV}(hr:Sz (ln+NS.length) bs=true)(hc:ln<=c):
 gW id 0 ln z bs NS H n k (.arr z c t)=k (.OT n 0 (ln+NS.length) z) (T.set (T.set H id .dead) n (.arr z (ln+NS.length) (IX NS ln t))) (n+1):=by
 show FN (Nat.add ln (len NS)) (λneed=>Dj (band (Sz need bs) (band (Nat.beq z z) (Nat.ble (Nat.add 0 ln) c))) (FN n λn=>k (.OT n 0 need z) (T.set (T.set H id .dead) n (.arr z need (IX NS ln t))) (Nat.succ n)))=_
 rw[CV,CV,len_eq]
 show Dj (band (Sz (ln+NS.length) bs) (band (Nat.beq z z) (Nat.ble (Nat.add 0 ln) c))) (k (.OT n 0 (ln+NS.length) z) (T.set (T.set H id .dead) n (.arr z (ln+NS.length) (IX NS ln t))) (n+1))=_
 rw[hr,EZ,show Nat.ble (Nat.add 0 ln) c=true by rw[Nat.ble_eq];show 0+ln<=c;omega]
 rfl
theorem Gr.app{G:AX}{H:Heap}{m n z bs:Nat}{v w:V}{LS NS:Dy}{k:KV}(h:Gr G H m z v LS)(hm:m<=n)(hn:∀id,v.D9=some id->id<n)(hw:elems w G H z=some NS)
 (hb:(LS.length+NS.length)*bs<=140737488355328)
 (hk:∀v' H',Gr G H' m z v' (LS++NS)->(∀id,id<n->v.D9≠some id->T.get H' id=T.get H id)->(∀id,v'.D9=some id->id<n+1)->k v' H' (n+1))
 (hk0:NS=[]->k v H n):O8 z bs v w G H n k:=by
 unfold O8
 rw[hw,Zq]
 cases h with
 |nil=>
  cases NS with
  |nil=>exact hk0 rfl
  |cons a NS=>
   show Nu z bs [] (a::NS) H n k
   unfold Nu
   rw[CV,CV,len_eq,len_eq,show Sz (Nat.add ([]:Dy).length (a::NS).length) bs=true from Zp hb,qx]
   have e:Nat.add ([]:Dy).length (a::NS).length=(a::NS).length:=Nat.zero_add _
   rw[e]
   refine hk _ _ ?_ (λid hid _=>T.Ap _ _ (by omega)) (λid hid=>by cases hid;omega)
   refine .OT (LS:=a::NS) (T.BX ..) (Nat.le_refl _) (λi L hi=>?_) hm
   show T.get (IX (a::NS) 0 .e) i=some L
   have hlt:=(List.getElem?_eq_some_iff.1 hi).1
   rw[IY,if_pos ⟨Nat.zero_le _,by omega⟩];exact hi
 |OT hg hc ht hid=>
  rename_i id c t
  show Dj (Nat.beq z z) _
  rw[EZ,qx]
  cases NS with
  |nil=>exact hk0 rfl
  |cons a NS=>
   show Dz (T.get H id) (λb=>gW id 0 LS.length z bs (a::NS) H n k b)
   rw[hg,Zq]
   rw[AKS (Zp hb) hc,show LS.length+(a::NS).length=(LS++a::NS).length by rw[List.length_append]]
   refine hk _ _ ?_ (λj hj hne=>?_) (λj hj=>by cases hj;omega)
   ·refine .OT (LS:=LS++a::NS) (T.BX ..) (Nat.le_refl _) (λi L hi=>?_) hm
    rw[IY]
    by_cases hlt:i<LS.length
    ·rw[if_neg (by omega)]
     rw[List.getElem?_append_left hlt]at hi
     exact ht i L hi
    ·rw[List.getElem?_append_right (by omega)]at hi
     have hlt2:=(List.getElem?_eq_some_iff.1 hi).1
     rw[if_pos ⟨by omega,by omega⟩];exact hi
   ·rw[T.Ap _ _ (by omega),T.Ap _ _ (by intro e;subst e;exact hne rfl)]
def ACe(H:Heap)(id:Nat)(ps:List ((Nat×Nat)×V)):Prop:=∃es ck,T.get H id=some (.map es ck)/\es.map (λe=>(e.1,e.2.1))=ps.map λp=>(V.str p.1.1 p.1.2,p.2)
def Ie{α:Type}(ps:List ((Nat×Nat)×α))(s:Nat×Nat):Option α:=(ps.find? λp=>decide (p.1=s)).map (·.2)
theorem ckS(a b l c:Nat):CK.str.eq (.str a b) (.str l c)=some (decide ((a,b)=(l,c))):=by
 show some (band (Nat.beq a l) (Nat.beq b c))=_
 congr 1;rw[Bv,Bool.eq_iff_iff];simp
theorem ADm:∀(es:ME) (ps:List ((Nat×Nat)×V)) (s:Nat×Nat) (i:Nat),es.map (λe=>(e.1,e.2.1))=ps.map (λp=>(V.str p.1.1 p.1.2,p.2))->
 wS .str (.str s.1 s.2) es i=some ((Ie ps s).map λv=>(i+(ps.findIdx λp=>decide (p.1=s)),v))
 |[],ps,s,i,h=>by
  cases ps with
  |nil=>rfl
  |cons p ps=>simp at h
 |e::es,ps,s,i,h=>by
  cases ps with
  |nil=>simp at h
  |cons p ps=>
   simp only[List.map_cons,List.cons.injEq,Prod.mk.injEq]at h
   obtain⟨⟨h1,h2⟩,h3⟩:=h
   show DF (CK.str.eq e.1 (.str s.1 s.2)) (λr=>Bool.rec (wS .str (.str s.1 s.2) es (Nat.succ i)) (some (some (i,e.2.1))) r)=_
   rw[h1,ckS,RN,ADm es ps s (i+1) h3]
   by_cases hp:p.1=s
   ·have hd:decide ((p.1.1,p.1.2)=(s.1,s.2))=true:=decide_eq_true hp
    rw[hd]
    unfold Ie
    simp[hp,List.findIdx_cons,h2]
   ·have hd:decide ((p.1.1,p.1.2)=(s.1,s.2))=false:=decide_eq_false hp
    rw[hd]
    unfold Ie
    simp only[List.find?_cons,hp,decide_false,List.findIdx_cons,cond_false]
    show some (Option.map (λv=>(i+1+List.findIdx (λp=>decide (p.fst=s)) ps,v)) _)=_
    congr 2;funext v;congr 1;omega
theorem AMR{H:Heap}{id:Nat}{es:ME}{ck:Nat}(h:T.get H id=some (.map es ck))(f:ME->Nat->Option V):TS H (.map id) f=f es ck:=by
 show(Option.rec (motive:=λ_=>(ME->Nat->Option V)->Option V) (λ_=>none) AZz (T.get H id) f:Option V)=_
 rw[h];rfl
def AVM(z:V):Option V->V
 |some v=>.G5 [v,.bool true]
 |none=>.G5 [z,.bool false]
theorem ARy{H:Heap}{id:Nat}{ps:List ((Nat×Nat)×V)}(h:ACe H id ps)(z:V)(s:Nat×Nat):
 AP7 .str true z (.map id) (.str s.1 s.2) H=some (AVM z (Ie ps s)):=by
 obtain⟨es,ck,hg,he⟩:=h
 unfold AP7
 rw[AMR hg,ADm es ps s 0 he,RN]
 cases Ie ps s<;>rfl
def Yy{α:Type}(s:Nat×Nat)(v:α):List ((Nat×Nat)×α)->List ((Nat×Nat)×α)
 |[]=>[(s,v)]
 |p::ps=>if p.1=s then(s,v)::ps else p::Yy s v ps
theorem wI{α:Type}(s:Nat×Nat)(v:α):∀(ps:List ((Nat×Nat)×α)) (t:Nat×Nat),Ie (Yy s v ps) t=if s=t then some v else Ie ps t
 |[],t=>by
  unfold Yy Ie
  by_cases h:s=t<;>simp[h]
 |p::ps,t=>by
  have ih:=wI s v ps t
  unfold Yy
  by_cases h:p.1=s
  ·rw[if_pos h]
   by_cases h2:s=t
   ·simp[Ie,h2]
   ·have h3:¬p.1=t:=by rw[h];exact h2
    simp[Ie,h2,h3]
  ·rw[if_neg h]
   by_cases h2:p.1=t
   ·have h3:¬s=t:=by intro e;exact h (h2.trans e.symm)
    simp[Ie,h2,h3]
   ·unfold Ie at ih⊢
    simp only[List.find?_cons,h2,decide_false]
    exact ih
theorem AOg{H:Heap}{id:Nat}{ps:List ((Nat×Nat)×V)}(h:ACe H id ps)(s:Nat×Nat)(v:V){n:Nat}{k:KV}
 (hk:∀H',ACe H' id (Yy s v ps)->(∀j,j≠id->T.get H' j=T.get H j)->k .undef H' n):AXD .str (.map id) (.str s.1 s.2) v H n k:=by
 obtain⟨es,ck,hg,he⟩:=h
 show Dz (T.get H id) (λb=>Dz (AVm b (AMx .str (.str s.1 s.2) v)) λb=>k .undef (T.set H id b) n)
 rw[hg,Zq]
 show Dz (AMx .str (.str s.1 s.2) v es ck) _
 unfold AMx
 rw[ADm es ps s 0 he,RN]
 have key:∀(es:ME) (ps:List ((Nat×Nat)×V)),es.map (λe=>(e.1,e.2.1))=ps.map (λp=>(V.str p.1.1 p.1.2,p.2))->
  match Ie ps s with
  |none=>(cat es [(V.str s.1 s.2,v,ck)]).map (λe=>(e.1,e.2.1))=(Yy s v ps).map (λp=>(V.str p.1.1 p.1.2,p.2))
  |some _=>∃e,nth es (ps.findIdx λp=>decide (p.1=s))=some e/\(oP (e.1,v,e.2.2) es (ps.findIdx λp=>decide (p.1=s))).map (λe=>(e.1,e.2.1))=(Yy s v ps).map (λp=>(V.str p.1.1 p.1.2,p.2)):=by
  intro es
  induction es with
  |nil=>intro ps h;cases ps with
   |nil=>rfl
   |cons p ps=>simp at h
  |cons e es ih=>
   intro ps h
   cases ps with
   |nil=>simp at h
   |cons p ps=>
    simp only[List.map_cons,List.cons.injEq,Prod.mk.injEq]at h
    obtain⟨⟨h1,h2⟩,h3⟩:=h
    have ih:=ih ps h3
    by_cases hp:p.1=s
    ·have:Ie (p::ps) s=some p.2:=by simp[Ie,hp]
     rw[this]
     refine⟨e,by simp[List.findIdx_cons,hp],?_⟩
     simp only[Yy,hp,if_true,List.findIdx_cons,decide_true,cond_true]
     show((e.1,v,e.2.2)::es).map (λe=>(e.1,e.2.1))=_
     simp only[List.map_cons,h1,hp,h3]
    ·have:Ie (p::ps) s=Ie ps s:=by simp[Ie,hp]
     rw[this]
     cases hl:Ie ps s with
     |none=>
      rw[hl]at ih
      simp only[Yy,hp,if_false]
      show((e::cat es [(V.str s.1 s.2,v,ck)]).map λe=>(e.1,e.2.1))=_
      simp only[List.map_cons,h1,h2]
      rw[show List.map (λe=>(e.fst,e.snd.fst)) (cat es [(V.str s.1 s.2,v,ck)])=_ from ih]
     |some x=>
      rw[hl]at ih
      obtain⟨e',he',hs⟩:=ih
      refine⟨e',?_,?_⟩
      ·simp only[List.findIdx_cons,hp,decide_false,cond_false];exact he'
      ·simp only[List.findIdx_cons,hp,decide_false,cond_false,Yy,if_false]
       show(e::oP (e'.1,v,e'.2.2) es _).map (λe=>(e.1,e.2.1))=_
       simp only[List.map_cons,h1,h2]
       rw[show List.map (λe=>(e.fst,e.snd.fst)) (oP (e'.1,v,e'.2.2) es (List.findIdx (λp=>decide (p.fst=s)) ps))=_ from hs]
 have key:=key es ps he
 cases hl:Ie ps s with
 |none=>
  rw[hl]at key
  show Dz (some (.map (cat es [(V.str s.1 s.2,v,ck)]) (Nat.succ ck))) (λb=>k .undef (T.set H id b) n)
  rw[Zq]
  exact hk _ ⟨_,_,T.BX ..,key⟩ λj hj=>T.Ap _ _ (Ne.symm hj)
 |some x=>
  rw[hl]at key
  obtain⟨e,he',hs⟩:=key
  show Dz (DF (nth es (0+ps.findIdx λp=>decide (p.1=s))) λe=>some (.map (oP (e.1,v,e.2.2) es (0+ps.findIdx λp=>decide (p.1=s))) ck)) (λb=>k .undef (T.set H id b) n)
  rw[Nat.zero_add,he',RN,Zq]
  exact hk _ ⟨_,_,T.BX ..,hs⟩ λj hj=>T.Ap _ _ (Ne.symm hj)
def jS(G:AX):Prop:=∀b o z L,G b o z=some L->L.length=z/\∀i m,0<m->i+m<=z->G b (o+i) m=some ((L.drop i).take m)
theorem AQf(e off m:Nat)(L:LV):ldC e off m L=if m=e/\off%e=0 then some L else if off%e+m<=e then some ((L.drop (off%e)).take m)else none:=by
 have e1:ldC e off m L=Bool.rec (motive:=λ_=>Option LV) (Bool.rec none (some (aZ m (wZ (off%e) L))) (Nat.ble (off%e+m) e)) (some L) (band (Nat.beq m e) (Nat.beq (off%e) 0)):=rfl
 rw[e1,mQ,uj]
 by_cases h:m=e/\off%e=0
 ·have hb:band (Nat.beq m e) (Nat.beq (off%e) 0)=true:=by simp only[Bv,Bool.and_eq_true,beq_iff];exact h
  rw[if_pos h,hb]
 ·have hb:band (Nat.beq m e) (Nat.beq (off%e) 0)=false:=by rw[Bool.eq_false_iff];intro hc;simp only[Bv,Bool.and_eq_true,beq_iff]at hc;exact h hc
  rw[if_neg h,hb]
  by_cases h2:off%e+m<=e
  ·rw[if_pos h2,show Nat.ble (off%e+m) e=true by rw[Nat.ble_eq];exact h2]
  ·rw[if_neg h2,show Nat.ble (off%e+m) e=false by rw[Bool.eq_false_iff];intro hc;rw[Nat.ble_eq]at hc;exact h2 hc]
theorem ASN{e cnt off m:Nat}{t:T LV}{c:LV}(h:ldB e cnt t off m=some c):∃L,off/e<cnt/\T.get t (off/e)=some L/\ldC e off m L=some c:=by
 unfold ldB at h
 rw[Cj]at h
 obtain⟨L,h1,h2⟩:=h
 cases hb:Nat.blt (Nat.div off e) cnt with
 |false=>rw[hb]at h1;cases h1
 |true=>rw[hb]at h1;exact⟨L,by rw[Nat.blt_eq]at hb;exact hb,h1,h2⟩
theorem AUB{H:Heap}{id off z o m:Nat}{c:LV}(h:zf H id off z=some c)(hc:c.length=z)(hm:0<m)(ho:o+m<=z):zf H id (off+o) m=some ((c.drop o).take m):=by
 unfold zf at h⊢
 cases hb:T.get H id with
 |none=>rw[hb]at h;cases h
 |some b=>
  rw[hb]at h
  cases b with
  |map _ _=>cases h
  |dead=>cases h
  |nS _ _ _ _ _=>cases h
  |own _=>cases h
  |arr e cnt t=>
   have h':ldB e cnt t off z=some c:=h
   show ldB e cnt t (off+o) m=_
   obtain⟨L,h1,h2,h3⟩:=ASN h'
   rw[AQf]at h3
   have key:off%e+z<=e/\c=(L.drop (off%e)).take z/\(z=e/\off%e=0->c=L):=by
    by_cases hh:z=e/\off%e=0
    ·rw[if_pos hh]at h3
     cases h3
     rw[hh.2,List.drop_zero,List.take_of_length_le (by omega)]
     exact⟨by omega,rfl,λ_=>rfl⟩
    ·rw[if_neg hh]at h3
     by_cases h4:off%e+z<=e
     ·rw[if_pos h4]at h3;exact⟨h4,(Option.some.inj h3).symm,λh=>absurd h hh⟩
     ·rw[if_neg h4]at h3;cases h3
   obtain⟨hle,hcc,hcl⟩:=key
   have he:0<e:=by omega
   have hlt:off%e+o<e:=by omega
   have hoff:off+o=e*(off/e)+(off%e+o):=by have:=Nat.div_add_mod off e;omega
   have hd:(off+o)/e=off/e:=by rw[hoff,Nat.mul_add_div he,Nat.div_eq_of_lt hlt];omega
   have hmo:(off+o)%e=off%e+o:=by rw[hoff,Nat.mul_add_mod,Nat.mod_eq_of_lt hlt]
   unfold ldB
   rw[show Nat.div (off+o) e=off/e from hd,show Nat.blt (off/e) cnt=true by rw[Nat.blt_eq];exact h1]
   show DF (T.get t (off/e)) (ldC e (off+o) m)=_
   rw[h2,RN,AQf,hmo]
   have hL:z<=(L.drop (off%e)).length:=by rw[hcc,List.length_take]at hc;omega
   by_cases hh:m=e/\off%e+o=0
   ·rw[if_pos hh,<-hcl ⟨by omega,by omega⟩,show o=0 by omega,List.drop_zero,List.take_of_length_le (by omega)]
   ·rw[if_neg hh,if_pos (by omega),hcc,List.drop_take,List.take_take,List.drop_drop,Nat.min_eq_left (by omega)]
theorem gI{G:AX}(hG:jS G){H:Heap}{p:V}{z o m:Nat}{c:LV}(h:ldP p G H z=some c)(hc:c.length=z)(hm:0<m)(ho:o+m<=z):
 ∃p',AU o p=some p'/\ldP p' G H m=some ((c.drop o).take m):=by
 cases p<;>try (cases h;done)
 ·rename_i id off;exact⟨_,Ae ..,AUB h hc hm ho⟩
 ·rename_i b off;exact⟨_,ANp ..,(hG b off z c h).2 o m hm ho⟩
theorem Vu{G:AX}(hG:jS G){H:Heap}{p:V}{z o:Nat}{c:LV}{x:V}(h:ldP p G H z=some c)(hc:c.length=z)(ho:c[o]? =some x):
 ∃p',AU o p=some p'/\AY p' G H=some x:=by
 obtain⟨hlt,he⟩:=List.getElem?_eq_some_iff.1 ho
 obtain⟨p',h1,h2⟩:=gI hG h hc (o:=o) (m:=1) (by omega) (by omega)
 refine⟨p',h1,?_⟩
 rw[ASg,h2,AJS,AA5,List.getElem?_take]
 simp[ho]
theorem ATr{G:AX}{H:Heap}{n id m z bs:Nat}{t:T LV}{w:V}{LS NS:Dy}{k:KV}(hz:0<z)(hb:T.get H id=some (.arr z m t))(hid:id<n)(h:elems (.sl id 0 m m z) G H z=some LS)
 (hw:elems w G H z=some NS) (hr:(m+NS.length)*bs<=140737488355328)
 (hk:∀v' H' n',El G H' v' z (LS++NS)->(∀j,j<n->T.get H' j=T.get H j)->n<=n'->(∀j,v'.D9=some j->j<n')->k v' H' n'):O8 z bs (.sl id 0 m m z) w G H n k:=by
 unfold O8
 rw[hw,Zq]
 have h2:(Bool.rec (motive:=λ_=>Option Dy) none (DV H id z m 0) (Nat.beq z z):Option Dy)=some LS:=h
 rw[EZ]at h2
 have h2:DV H id z m 0=some LS:=h2
 obtain⟨hl,hat⟩:=TK _ _ h2
 have e0:AJj (.sl id 0 m m z) G z bs NS H n k=Bool.rec (motive:=λ_=>Prop) (Dz (DV H id z m 0) λOS=>Nu z bs OS NS H n k) (Dz (T.get H id) λb=>zk id 0 m m z (m+NS.length) NS H n k b) (Nat.ble (m+NS.length) m):=by
  show Dj (Nat.beq z z) (FN (Nat.add m (len NS)) λneed=>Bool.rec (motive:=λ_=>Prop) (Dz (DV H id z m 0) λOS=>Nu z bs OS NS H n k) (Dz (T.get H id) λb=>zk id 0 m m z need NS H n k b) (Nat.ble need m))=_
  rw[EZ,qx,CV,len_eq];rfl
 rw[e0]
 by_cases hN:NS.length=0
 ·have:NS=[]:=List.length_eq_zero_iff.1 hN
  subst this
  rw[show Nat.ble (m+([]:Dy).length) m=true by rw[Nat.ble_eq];exact Nat.le_refl _]
  show Dz (T.get H id) (λb=>zk id 0 m m z (m+0) [] H n k b)
  rw[hb,Zq]
  show Dj (band (Nat.beq z z) (Nat.ble (Nat.add 0 (m+0)) m)) (k (.sl id 0 (m+0) m z) (T.set H id (.arr z m t)) n)
  rw[EZ,show Nat.ble (Nat.add 0 (m+0)) m=true by rw[Nat.ble_eq];show 0+m<=m;omega]
  have hs:∀j,T.get (T.set H id (.arr z m t)) j=T.get H j:=λj=>by
   rw[T.Rz];split
   ·rename_i e;subst e;exact hb.symm
   ·rfl
  rw[List.append_nil]at hk
  exact hk _ _ _ ((show El G H (.sl id 0 m m z) z LS from⟨rfl,h⟩).same λj _=>hs j) (λj _=>hs j) (Nat.le_refl _) (λj hj=>by cases hj;exact hid)
 ·rw[show Nat.ble (m+NS.length) m=false by rw[Bool.eq_false_iff];intro hc;rw[Nat.ble_eq]at hc;omega]
  show Dz (DV H id z m 0) (λOS=>Nu z bs OS NS H n k)
  rw[h2,Zq]
  show FN (Nat.add (len LS) (len NS)) (λneed=>Dj (Sz need bs) (FN n λn=>k (.OT n 0 need z) (T.set H n (.arr z need (IX NS (len LS) (IX LS 0 .e)))) (Nat.succ n)))
  rw[CV,CV,len_eq,len_eq,show Sz (Nat.add LS.length NS.length) bs=true from Zp (by rw[hl];exact hr),qx]
  have e:Nat.add LS.length NS.length=(LS++NS).length:=by rw[List.length_append];rfl
  rw[e]
  refine hk _ _ _ (Gr.el (m:=n) (.OT (LS:=LS++NS) (T.BX ..) (Nat.le_refl _) (λi L hi=>?_) (Nat.le_refl _)) hz) (λj hj=>T.Ap _ _ (by omega)) (by omega) (λj hj=>by cases hj;omega)
  rw[IY,IY]
  by_cases hlt:i<LS.length
  ·rw[if_neg (by omega),if_pos ⟨Nat.zero_le _,by omega⟩]
   rw[List.getElem?_append_left hlt]at hi
   exact hi
  ·rw[List.getElem?_append_right (by omega)]at hi
   have hlt2:=(List.getElem?_eq_some_iff.1 hi).1
   rw[if_pos ⟨by omega,by omega⟩];exact hi
theorem ATd{H:Heap}{n:Nat}{P:KV}:BZ (AIc E0) H n P=P (.map n) (T.set H n (.map [] 0)) (n+1):=by
 show FN n (λn=>P (.map n) (T.set H n (.map [] 0)) (Nat.succ n))=_
 rw[CV]
theorem AMr{m:Nat}(h:m+1<9223372036854775808):B2.ev .sub (.int .i64 (.ofNat (m+1)) 0) (.int .i64 (.ofNat 1) 0)=some (.int .i64 (.ofNat m) 0):=by
 show some (V.int .i64 (qh .i64 (AHJ (.ofNat (m+1)) (Int.neg (.ofNat 1)))) 0)=_
 rw[YU,ACO]
 have e:Int.ofNat (m+1)+Int.neg (Int.ofNat 1)=Int.ofNat m:=by show((m+1:Nat):Int)+ -((1:Nat):Int)=(m:Int);omega
 rw[e,Zk (by show(-9223372036854775808:Int)<=(m:Int);omega) (by show(m:Int)<9223372036854775808;omega)]
end Go.DK
namespace Go.DK
open Go.ChangeShapes Go.WideShapes Go.RowKit
inductive Sh where
 |int (k:IntKind)|bool|str|sl (z:Nat) (t:Sh)|st (l:List Sh)
def RSl(v:V)(n:Nat):Prop:=(v=.Ag/\n=0)∨∃b o c,v=.rsl b o n c 0/\n<=c/\c<=maxLen
mutual
def Fits(G:AX):Sh->LV->Prop
 |.int k,vs=>∃n,vs=[.int k n 0]
 |.bool,vs=>∃b,vs=[.bool b]
 |.str,vs=>∃s:List UInt8,s.length<=maxLen/\vs=[.str s.length (enc s)]
 |.sl z t,vs=>∃v LS,vs=[v]/\RSl v LS.length/\(∀H,El G H v z LS)/\LS.length<=maxLen/\∀L∈LS,L.length=z/\Fits G t L
 |.st ts,vs=>ANr G ts vs
def ANr(G:AX):List Sh->LV->Prop
 |[],vs=>vs=[]
 |t::ts,vs=>∃L vs',vs=L++vs'/\Fits G t L/\ANr G ts vs'
end
def vk(P:Program):Nat->TypeId->Option Sh
 |0,_=>none
 |d+1,t=>match P.underlying t with
  |some (.int k)=>some (.int k)
  |some .bool=>some .bool
  |some .string=>some .str
  |some (.slice e)=>if P.cellsOf e=0 then none else(vk P d e).map (.sl (P.cellsOf e))
  |some (.struct fs)=>if uU 0 (fs.toList.map λf=>(f.offset,P.cellsOf f.type)) (P.cellsOf t)=true then(fs.toList.mapM λf=>vk P d f.type).map .st else none
  |_=>none
theorem ANN{W:World}{b o n:Nat}{L:LV}(h:Q9 W b o n=some L):L.length=n:=by
 unfold Q9 at h
 split at h
 ·cases h;simp
 ·cases h
theorem AL2(W:World):jS (Q9 W):=by
 intro b o z L h
 refine⟨ANN h,λi m hm hi=>?_⟩
 unfold Q9 at h⊢
 split at h
 ·rename_i hc
  cases h
  rw[if_pos]
  ·congr 1
   apply List.ext_getElem?
   intro j
   rw[List.getElem?_take]
   by_cases hj:j<m
   ·rw[if_pos hj,List.getElem?_drop,List.getElem?_map,List.getElem?_map,List.getElem?_range hj,List.getElem?_range (by omega),Option.map_some,Option.map_some,Nat.add_assoc]
   ·rw[if_neg hj,List.getElem?_eq_none (by simp;omega)]
  ·intro j hj
   have:=hc (i+j) (by omega)
   rwa [<-Nat.add_assoc]at this
 ·cases h
theorem AIW{G:AX}{b z:Nat}:∀(n o:Nat) (LS:Dy),LS.length=n->(∀i c,LS[i]? =some c->G b (o+i*z) z=some c)->jJ G b z n o=some LS
 |0,o,LS,hl,_=>by cases LS with|nil=>rfl|cons a l=>simp at hl
 |n+1,o,LS,hl,h=>by
  cases LS with
  |nil=>simp at hl
  |cons a l=>
   show DF (G b o z) (λL=>DF (jJ G b z n (Nat.add o z)) λLS=>some (L::LS))=_
   have h0:=h 0 a rfl
   rw[Nat.zero_mul,Nat.add_zero]at h0
   rw[h0,RN,show Nat.add o z=o+z from rfl,AIW n (o+z) l (by simpa using hl) λi c hc=>by
    have:=h (i+1) c (by simpa using hc);rwa [show o+(i+1)*z=o+z+i*z by rw[Nat.add_mul];omega]at this]
   rfl
theorem ARz{G:AX}{H:Heap}{b o c z:Nat}{LS:Dy}(h:∀i L,LS[i]? =some L->G b (o+i*z) z=some L){e:Nat}:El G H (.rsl b o LS.length c e) z LS:=
 ⟨rfl,AIW _ _ _ rfl h⟩
theorem ACR{G:AX}:∀{ts:List Sh} {ls:List LV},AMs (λt l=>Fits G t l) ts ls->ANr G ts ls.flatten
 |_,_,.nil=>rfl
 |_,_,.cons h t=>⟨_,_,by simp,h,ACR t⟩
theorem AHj{α β γ:Type}{f:α->Option β}{R:β->γ->Prop}{g:α->γ}:∀{l:List α} {r:List β},l.mapM f=some r->(∀a b,a∈l->f a=some b->R b (g a))->AMs R r (l.map g)
 |[],r,h,_=>by simp at h;subst h;exact .nil
 |a::l,r,h,hR=>by
  rw[List.mapM_cons]at h
  cases hfa:f a with
  |none=>rw[hfa]at h;cases h
  |some b=>
   rw[hfa]at h
   cases hr:l.mapM f with
   |none=>simp[hr]at h
   |some r'=>
    simp[hr]at h;subst h
    exact .cons (hR a b (List.mem_cons_self ..) hfa) (AHj hr λa b ha hb=>hR a b (List.mem_cons_of_mem _ ha) hb)
theorem ADC{w:World}{base n:Nat}{a:Addr}{cs:List Value}(h:w.cells? base a n=some cs):cs.length=n/\∀j u,cs[j]? =some u->w.cell? (a.add j)=some u:=by
 unfold World.cells? at h
 split at h
 ·have hl:=mapM_some_length h
  refine⟨by simpa using hl,λj u hj=>?_⟩
  have hlt:j<n:=by have:=(List.getElem?_eq_some_iff.1 hj).1;simp at hl;omega
  have:=mapM_some_get h j j (by rw[List.getElem?_range hlt])
  rw[this,hj]
 ·cases h
theorem AS4{a:Addr}(h:a.spot=none)(k:Nat):a.add k=⟨a.block,a.off+k,none⟩:=by
 obtain⟨b,o,s⟩:=a;cases h;exact add_lit b o k
theorem cell_spot{w:World}{a:Addr}{u:Value}(h:w.cell? a=some u):a.spot=none:=by
 unfold World.cell? at h
 split at h
 ·split at h
  ·cases h
  ·rename_i hs;cases hc:a.spot<;>simp_all
 ·cases h
theorem AC5{P:Program}{w:World}{H:Type}{enc':TypeId×Value->H}{held:Bool}:∀(fuel:Nat) {t:TypeId} {cs:List Value} {x:DataW H×List MemPlace} {m:Nat} {sh:Sh},DataW.trod enc' P w 0 (λ_=>true) held fuel t cs=some x->vk P m t=some sh->
 Fits (Q9 w) sh (cs.map toV)/\(∀u∈cs,u.oneCell'=true)
 |0,_,_,_,_,_,h,_=>by simp[DataW.trod]at h
 |fuel+1,t,cs,x,0,sh,h,hs=>by cases hs
 |fuel+1,t,cs,x,m+1,sh,h,hs=>by
  simp only[vk]at hs
  split at hs
  ·rename_i k hu
   obtain⟨i,rfl,e,_⟩:=DataW.trod_int hu h
   cases hs
   exact⟨⟨i,rfl⟩,λu hu=>by simp at hu;subst hu;rfl⟩
  ·rename_i hu
   obtain⟨i,rfl,e⟩:=DataW.trod_bool hu h
   cases hs
   exact⟨⟨i,rfl⟩,λu hu=>by simp at hu;subst hu;rfl⟩
  ·rename_i hu
   obtain⟨s,rfl,e,hle⟩:=DataW.trod_string hu h
   cases hs
   exact⟨⟨s.data.toList,by simpa using hle,rfl⟩,λu hu=>by simp at hu;subst hu;rfl⟩
  ·rename_i e hu
   split at hs
   ·cases hs
   rename_i hz
   cases hsh:vk P m e with
   |none=>rw[hsh]at hs;cases hs
   |some sh'=>
   rw[hsh]at hs
   cases hs
   rcases DataW.trod_slice hu h with⟨rfl,_⟩|⟨a,len,cap,elems,rest,n,hn,rfl,_,_,hle,hcap,hlen,hel,hsp,_⟩
   ·refine⟨⟨.Ag,[],?_,.inl ⟨rfl,rfl⟩,λH=>⟨rfl,rfl⟩,Nat.zero_le _,λL hL=>by cases hL⟩,λu hu=>by simp at hu;subst hu;rfl⟩
    simp[toV]
   ·have hn':fuel=n:=by omega
    subst hn'
    obtain⟨hrl,hrest⟩:=hsp rfl
    refine⟨?_,λu hu=>by simp at hu;subst hu;rfl⟩
    have each:∀i,i<cap->∃cs',w.cells? 0 (a.add (i*P.cellsOf e)) (P.cellsOf e)=some cs'/\(i<len->Fits (Q9 w) sh' (cs'.map toV)/\∀u∈cs',u.oneCell'=true):=by
     intro i hi
     by_cases hil:i<len
     ·have h1:=hel i hil
      rw[List.getElem?_eq_getElem (by omega)]at h1
      cases hc:w.cells? 0 (a.add (i*P.cellsOf e)) (P.cellsOf e)with
      |none=>rw[hc]at h1;cases h1
      |some cs'=>
       rw[hc]at h1
       exact⟨cs',rfl,λ_=>AC5 fuel h1 hsh⟩
     ·have h1:=hrest (i-len) (by omega)
      rw[List.getElem?_eq_getElem (by omega),show len+(i-len)=i by omega]at h1
      cases hc:w.cells? 0 (a.add (i*P.cellsOf e)) (P.cellsOf e)with
      |none=>rw[hc]at h1;cases h1
      |some cs'=>exact⟨cs',rfl,λh=>absurd h hil⟩
    have hspot:cap=0∨a.spot=none:=by
     rcases Nat.eq_zero_or_pos cap with h0|h0
     ·exact .inl h0
     ·obtain⟨cs',hc,_⟩:=each 0 h0
      obtain⟨hl,hg⟩:=ADC hc
      have h0:=hg 0 _ (List.getElem?_eq_getElem (by omega))
      have:=cell_spot h0
      simp only[Nat.zero_mul]at this
      unfold Addr.add at this
      simp only[if_true]at this
      exact .inr this
    have htv:toV (.slice (some a) len cap)=.rsl a.block a.off len cap 0:=by
     simp only[toV];rw[if_pos ⟨hle,hspot⟩]
    let LS:Dy:=(List.range len).map λi=>((w.cells? 0 (a.add (i*P.cellsOf e)) (P.cellsOf e)).getD []).map toV
    have hLS:LS.length=len:=by simp[LS]
    have get:∀i L,LS[i]? =some L->i<len/\∃cs',w.cells? 0 (a.add (i*P.cellsOf e)) (P.cellsOf e)=some cs'/\L=cs'.map toV:=by
     intro i L hi
     have hlt:=(List.getElem?_eq_some_iff.1 hi).1
     rw[hLS]at hlt
     simp only[LS,List.getElem?_map,List.getElem?_range hlt,Option.map_some,Option.some.injEq]at hi
     obtain⟨cs',hc,_⟩:=each i (by omega)
     rw[hc]at hi
     exact⟨hlt,cs',hc,hi.symm⟩
    refine⟨.rsl a.block a.off len cap 0,LS,by simp[htv],.inr ⟨_,_,_,by rw[hLS],by omega,hcap⟩,λH=>?_,by omega,?_⟩
    ·rw[<-hLS]
     refine ARz λi L hi=>?_
     obtain⟨hlt,cs',hc,rfl⟩:=get i L hi
     obtain⟨hl,hg⟩:=ADC hc
     have hsn:a.spot=none:=by rcases hspot with h|h;omega;exact h
     obtain⟨cs2,hc2,hf⟩:=each i (by omega)
     rw[hc]at hc2;cases hc2
     refine AEc hl (hf hlt).2 λj u hj=>?_
     have:=hg j u hj
     rw[AS4 hsn,add_lit]at this
     exact this
    ·intro L hL
     obtain⟨i,hi⟩:=List.mem_iff_getElem?.1 hL
     obtain⟨hlt,cs',hc,rfl⟩:=get i L hi
     obtain⟨cs2,hc2,hf⟩:=each i (by omega)
     rw[hc]at hc2;cases hc2
     exact⟨by simp[(ADC hc).1],(hf hlt).1⟩
  ·rename_i fs hu
   split at hs
   ·rename_i hcon
    cases hm:fs.toList.mapM (λf=>vk P m f.type)with
    |none=>rw[hm]at hs;cases hs
    |some shs=>
    rw[hm]at hs
    cases hs
    obtain⟨xs,n',hfe,e,hlen,hxl,hel⟩:=DataW.trod_struct hu h
    have hfe':fuel=n':=by omega
    subst hfe'
    have hflat:=fB cs _ 0 (by rw[hlen];exact hcon)
    simp only[List.drop_zero,List.map_map]at hflat
    have each:∀(f:Field) (sh:Sh),f∈fs.toList->vk P m f.type=some sh->Fits (Q9 w) sh (((cs.drop f.offset).take (P.cellsOf f.type)).map toV)/\∀u∈(cs.drop f.offset).take (P.cellsOf f.type),u.oneCell'=true:=by
     intro f sh hf hsh
     obtain⟨i,hi⟩:=List.mem_iff_getElem?.1 hf
     have h1:=hel i f (by simpa using hi)
     have hil:i<xs.length:=by rw[hxl];simpa using(List.getElem?_eq_some_iff.1 hi).1
     rw[List.getElem?_eq_getElem hil]at h1
     exact AC5 fuel h1 hsh
    constructor
    ·show ANr (Q9 w) shs _
     have:=ACR (AHj (R:=λt l=>Fits (Q9 w) t l) (g:=λf=>((cs.drop f.offset).take (P.cellsOf f.type)).map toV) hm λf b hf hb=>(each f b hf hb).1)
     have e2:cs.map toV=(fs.toList.map λf=>((cs.drop f.offset).take (P.cellsOf f.type)).map toV).flatten:=by
      conv=>lhs;rw[hflat]
      rw[List.map_flatten,List.map_map];rfl
     rw[e2];exact this
    ·intro u hu'
     rw[hflat]at hu'
     obtain⟨l,hl,hul⟩:=List.mem_flatten.1 hu'
     obtain⟨f,hf,rfl⟩:=List.mem_map.1 hl
     obtain⟨sh',hsh'⟩:=ABY hm f hf
     exact(each f sh' hf hsh').2 u hul
   ·cases hs
  ·cases hs
def AQn:V->Bool
 |.int _ _ b=>Nat.beq b 0
 |.bool _=>true
 |.str _ _=>true
 |_=>false
theorem AWs{ρ:Loc}{v:V}{u:Value}(h:Af ρ v u)(hp:AQn v=true):toV u=v:=by
 cases v<;>try (cases hp;done)
 ·rename_i k n s
  have:s=0:=Nat.eq_of_beq_eq_true hp
  subst this
  simp only[Af]at h;subst h;rfl
 ·simp only[Af]at h;subst h;rfl
 ·simp only[Af]at h
  obtain⟨s,rfl,h1,h2⟩:=h
  subst h1;subst h2;rfl
theorem AMV{W:World}{g:Nat}{cs:List Value}{tab:LV}(hc:∀i,W.cell? ⟨g,i,none⟩=cs[i]?)(hr:Dn (λ_=>none) tab cs)(h1:∀u∈cs,u.oneCell'=true)(hp:tab.all AQn=true){o n:Nat}(hl:o+n<=tab.length):
 Q9 W g o n=some ((tab.drop o).take n):=by
 obtain⟨hlen,hget⟩:=(jw tab cs).1 hr
 rw[AEc (cs:=(cs.drop o).take n) (by simp;omega) (λu hu=>h1 u (List.mem_of_mem_drop (List.mem_of_mem_take hu))) λj u hj=>?_]
 ·congr 1
  apply List.ext_getElem?
  intro j
  rw[List.getElem?_map,List.getElem?_take,List.getElem?_take]
  by_cases hj:j<n
  ·rw[if_pos hj,if_pos hj,List.getElem?_drop,List.getElem?_drop]
   have hlt:o+j<tab.length:=by omega
   rw[List.getElem?_eq_getElem hlt,List.getElem?_eq_getElem (by omega),Option.map_some]
   congr 1
   exact AWs (hget _ _ _ (List.getElem?_eq_getElem hlt) (List.getElem?_eq_getElem (by omega))) (List.all_eq_true.1 hp _ (List.getElem_mem hlt))
  ·rw[if_neg hj,if_neg hj];rfl
 ·rw[List.getElem?_take]at hj
  split at hj
  ·rw[List.getElem?_drop]at hj;rw[hc];exact hj
  ·cases hj
end Go.DK
namespace Go.DK
section
variable{e:Option V}{P:V->Prop}{Q:KV}{t:KV->Prop}{H:Heap}{n:Nat}{a b:V}
theorem Y0(h:P (.G5 [])):Ba (.bool true) false e P:=h
theorem ACQ(h:P (.G5 [])):Ba (.bool false) true e P:=h
theorem AHt(h:Q (.G5 []) H n):Ik (.bool true) false t H n Q:=h
theorem rD(h:Q (.G5 []) H n):Ik (.bool false) true t H n Q:=h
theorem eP(h:P a):AL (DT (.bool true) a b) P:=h
theorem lZ(h:P b):AL (DT (.bool false) a b) P:=h
end
end Go.DK
