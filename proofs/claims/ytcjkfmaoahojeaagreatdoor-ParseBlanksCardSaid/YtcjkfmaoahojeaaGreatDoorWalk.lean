/- Part of a proof; nothing is assumed. -/
import Derived.Test.YtcjkfmaoahojeaaGreatDoorEngF
import Derived.Attr
import Derived.Test.YtcjkfmaoahojeaaGreatDoorEngE
set_option linter.unusedVariables false
set_option linter.unusedSimpArgs false
namespace Go.Eng
section
variable{G:AV}{H:Heap}{id off m:Nat}{L:LV}{v:V}
theorem AQ(h:T.get H id=some (one L))(hl:L[off]? =some v):AX (.ptr id off) G H=some v:=by
 obtain⟨hlt,he⟩:=List.getElem?_eq_some_iff.1 hl
 rw[ACG,uO,AO5 h (by omega) (by omega),AGY,jK]
 rw[List.getElem?_take]
 simp[hl]
theorem ML(h:T.get H id=some (one L))(hm:0<m)(hl:off+m<=L.length):BF m (.ptr id off) G H=some (.agg ((L.drop off).take m)):=by
 rw[AFk,uO,AO5 h hm hl,AGY]
theorem AMU{n:Nat}{k:KV}(h:T.get H id=some (one L))(hv:kD v=true)(hn:(CZ v).length=m)(hm:0<m)(hl:off+m<=L.length):
 CP m (.ptr id off) v H n k=k .undef (T.set H id (one (L.take off++(CZ v++L.drop (off+m))))) n:=by
 have hs:stP (.ptr id off) H m (CZ v)=some (T.set H id (one (L.take off++(CZ v++L.drop (off+m))))):=AWh h hm hn hl
 unfold CP
 rw[hv,len_eq,hn]
 have hb:band true (Nat.beq m m)=true:=by simp
 rw[hb,hs];rfl
theorem Ai(h:T.get H id=some (one L))(hm:0<m)(hl:L.length=m):BF m (.ptr id 0) G H=some (.agg L):=by
 rw[ML h hm (by omega),List.drop_zero,List.take_of_length_le (by omega)]
theorem ZX{n:Nat}{k:KV}{L':LV}(h:T.get H id=some (one L))(hm:0<m)(hl:L.length=m)(hn:L'.length=m):
 CP m (.ptr id 0) (.agg L') H n k=k .undef (T.set H id (one L')) n:=by
 rw[AMU h (by rfl) (by exact hn) hm (by omega)]
 have:L.take 0++(CZ (.agg L')++L.drop (0+m))=L':=by
  show[]++(L'++L.drop (0+m))=L'
  rw[List.drop_eq_nil_of_le (by omega)];simp
 rw[this]
theorem ANl:D6 [] G H=some []:=rfl
theorem AUL{rest:List AVr}:D6 (.t v::rest) G H=DR (D6 rest G H) λvs=>some (v::vs):=rfl
theorem DX{rest:List AVr}(h:T.get H id=some (one L))(hm:0<m)(hl:L.length=m):D6 (.cn (.ptr id 0) m::rest) G H=DR (D6 rest G H) λvs=>some (.agg L::vs):=by
 show DR (BF m (.ptr id 0) G H) (λv=>DR (D6 rest G H) λvs=>some (v::vs))=_
 rw[Ai h hm hl];rfl
end
structure SL(G:AV)(v:V)(z:Nat)(LS:D5):Prop where
 mk'::
 is:(v=.Ae/\LS=[])∨∃b off cap,v=.rsl b off LS.length cap z/\∀i c,LS[i]? =some c->c.length=z/\G b (off+i*z) z=some c
theorem cZ{α β:Type}(a:α)(f:α->Option β):DR (some a) f=f a:=rfl
theorem AYT(a:V):GN [a]=a:=rfl
theorem AYQ(a b:V)(l:LV):GN (a::b::l)=.J4 (a::b::l):=rfl
theorem Aax(a b l c:Nat):EZ (.one .str) false (.str a b) (.str l c)=some (.bool (decide (a=l/\b=c))):=by
 show ofB (iY (some (band (Nat.beq a l) (Nat.beq b c))) λb=>some b)=_
 have:band (Nat.beq a l) (Nat.beq b c)=decide (a=l/\b=c):=by rw[CU,Bool.eq_iff_iff];simp
 rw[this];cases decide (a=l/\b=c)<;>rfl
structure Kp(H:Heap)(n:Nat)(H':Heap)(n':Nat):Prop where
 le:n<=n'
 same:∀id,id<n->T.get H' id=T.get H id
theorem Kp.refl(H:Heap)(n:Nat):Kp H n H n:=⟨Nat.le_refl _,λ_ _=>rfl⟩
theorem Kp.trans{H H' H'':Heap}{n n' n'':Nat}(a:Kp H n H' n')(b:Kp H' n' H'' n''):Kp H n H'' n'':=⟨Nat.le_trans a.le b.le,λid h=>(b.same id (Nat.lt_of_lt_of_le h a.le)).trans (a.same id h)⟩
theorem Kp.new{H0 H:Heap}{n0 n id:Nat}(a:Kp H0 n0 H n)(b:Rl)(h:n0<=id){m:Nat}(hm:n<=m):Kp H0 n0 (T.set H id b) m:=
 ⟨Nat.le_trans a.le hm,λj hj=>by rw[T.BA _ _ (by omega)];exact a.same j hj⟩
theorem O3{σ:Type}{b:(σ->Prop)->σ->Prop}{J:Nat->σ->Prop}(h:∀I m s,J m s->(∀m' s',m'<m->J m' s'->I s')->b I s){m:Nat}{s:σ}(h0:J m s):lfp σ b s:=by
 intro I hI
 induction m using Nat.strongRecOn generalizing s with
 |_ m ih=>exact hI s (h I m s h0 λm' s' hlt hs=>ih m' hlt hs)
section
variable{G:AV}{H:Heap}{i j o m n:Nat}{L L':LV}{v w:V}{k:KV}{b:Rl}
theorem ASd{z:Nat}{P:KV}(h:L.length=z):DY (BD z [L] E0) H n P=P (.ptr n 0) (T.set H n (one L)) (n+1):=ALv h
theorem AUy(hl:L.length=m)(h:0<m):BF m (.ptr i 0) G (T.set H i (one L))=some (.agg L):=Ai (T.DJ ..) h hl
theorem AWW(h:i≠j):AX (.ptr i o) G (T.set H j b)=AX (.ptr i o) G H:=by
 rw[ACG,ACG,uO,uO];unfold mW;rw[T.BA _ _ (Ne.symm h)]
theorem AWu(h:i≠j):BF m (.ptr i o) G (T.set H j b)=BF m (.ptr i o) G H:=by
 rw[AFk,AFk,uO,uO];unfold mW;rw[T.BA _ _ (Ne.symm h)]
theorem ASV(hl:L.length=m)(h:0<m)(hn:L'.length=m):CP m (.ptr i 0) (.agg L') (T.set H i (one L)) n k=k .undef (T.set (T.set H i (one L)) i (one L')) n:=ZX (T.DJ ..) h hl hn
end
theorem AR9(L:LV):kD (.agg L)=true:=rfl
theorem AUF(l c:Nat):kD (.str l c)=true:=rfl
theorem ARi(k:IntKind)(a:Int)(s:Nat):kD (.int k a s)=true:=rfl
theorem AOg(b:Bool):kD (.bool b)=true:=rfl
theorem AXK(L:LV):CZ (.agg L)=L:=rfl
theorem AXe(l c:Nat):CZ (.str l c)=[.str l c]:=rfl
theorem AWB(k:IntKind)(a:Int)(s:Nat):CZ (.int k a s)=[.int k a s]:=rfl
theorem ATB(b:Bool):CZ (.bool b)=[.bool b]:=rfl
theorem AVZ(L:LV)(H:Heap)(n:Nat)(P:KV):DY (JJ (.agg L)) H n P=P (.ptr n 0) (T.set H n (one L)) (n+1):=AUa rfl
theorem AVu(a0 a1 b0 b1:V){H:Heap}{i n:Nat}{k:KV}:CP 2 (.ptr i 0) (.agg [b0,b1]) (T.set H i (one [a0,a1])) n k=k .undef (T.set (T.set H i (one [a0,a1])) i (one [b0,b1])) n:=ASV rfl (by omega) rfl
theorem AYL(a0 a1:V){G:AV}{H:Heap}{i:Nat}{r:List AVr}:D6 (.cn (.ptr i 0) 2::r) G (T.set H i (one [a0,a1]))=DR (D6 r G (T.set H i (one [a0,a1]))) λvs=>some (.agg [a0,a1]::vs):=DX (T.DJ ..) (by omega) rfl
theorem AZz(a0 a1 a2 a3 a4:V){G:AV}{H:Heap}{i:Nat}:BF 5 (.ptr i 0) G (T.set H i (one [a0,a1,a2,a3,a4]))=some (.agg [a0,a1,a2,a3,a4]):=AUy rfl (by omega)
theorem AVb(a0 a1 a2 a3 a4 b0 b1 b2 b3 b4:V){H:Heap}{i n:Nat}{k:KV}:CP 5 (.ptr i 0) (.agg [b0,b1,b2,b3,b4]) (T.set H i (one [a0,a1,a2,a3,a4])) n k=k .undef (T.set (T.set H i (one [a0,a1,a2,a3,a4])) i (one [b0,b1,b2,b3,b4])) n:=ASV rfl (by omega) rfl
attribute [go_sem] AVZ ASd AUy AWW AWu ASV Au vW qR Ah Aq AYS AZi AYV AZC Aad AZX AYy AZc AY8 AaR AS6 ASi AZ AHR AUH wG wz AVl cZ AYT AYQ ANl AUL AR9 AUF ARi AOg AXK AXe AWB ATB
attribute [go_sem] ne_eq not_false_eq_true List.length_cons List.length_nil Nat.zero_add
attribute [go_sem] AVu AYL AZz AVb
theorem P8{H:Heap}{id z:Nat}:∀(n o:Nat) {LS:D5},DK H id z n o=some LS->LS.length=n/\∀i c,LS[i]? =some c->mW H id ((o+i)*z) z=some c
 |0,o,LS,h=>by cases h;exact⟨rfl,λi c hc=>by simp at hc⟩
 |n+1,o,LS,h=>by
  have h':DR (mW H id (Nat.mul o z) z) (λL=>DR (DK H id z n (Nat.succ o)) λLS=>some (L::LS))=some LS:=h
  rw[Bv]at h'
  obtain⟨L,hL,h'⟩:=h'
  rw[Bv]at h'
  obtain⟨LS',hLS,h'⟩:=h'
  cases h'
  obtain⟨h1,h2⟩:=P8 n (o+1) hLS
  refine⟨by simp[h1],λi c hc=>?_⟩
  cases i with
  |zero=>simp at hc;subst hc;exact hL
  |succ i=>simp at hc;rw[show o+(i+1)=o+1+i by omega];exact h2 i c hc
theorem xC{G:AV}{b z:Nat}:∀(n o:Nat) {LS:D5},qE G b z n o=some LS->LS.length=n/\∀i c,LS[i]? =some c->G b (o+i*z) z=some c
 |0,o,LS,h=>by cases h;exact⟨rfl,λi c hc=>by simp at hc⟩
 |n+1,o,LS,h=>by
  have h':DR (G b o z) (λL=>DR (qE G b z n (Nat.add o z)) λLS=>some (L::LS))=some LS:=h
  rw[Bv]at h'
  obtain⟨L,hL,h'⟩:=h'
  rw[Bv]at h'
  obtain⟨LS',hLS,h'⟩:=h'
  cases h'
  obtain⟨h1,h2⟩:=xC n (o+z) hLS
  refine⟨by simp[h1],λi c hc=>?_⟩
  cases i with
  |zero=>simp at hc;subst hc;simpa using hL
  |succ i=>simp at hc;rw[show o+(i+1)*z=o+z+i*z by rw[Nat.add_mul];omega];exact h2 i c hc
def El(G:AV)(H:Heap)(v:V)(z:Nat)(LS:D5):Prop:=isStr v=false/\elems v G H z=some LS
theorem El.len{G:AV}{H:Heap}{v:V}{z:Nat}{LS:D5}(h:El G H v z LS):lenV v=some (.int .i64 (.ofNat LS.length) 0):=by
 obtain⟨hs,h⟩:=h
 cases v<;>try (cases h;done)
 ·cases hs
 ·cases h;rfl
 ·rename_i id off n c e
  cases hb:Nat.beq e z with
  |false=>have h':(Bool.rec (motive:=λ_=>Option D5) none (DK H id z n off) (Nat.beq e z):Option D5)=some LS:=h;rw[hb]at h';cases h'
  |true=>
   have h':(Bool.rec (motive:=λ_=>Option D5) none (DK H id z n off) (Nat.beq e z):Option D5)=some LS:=h
   rw[hb]at h';rw[(P8 _ _ h').1];rfl
 ·rename_i id off n e
  cases hb:Nat.beq e z with
  |false=>have h':(Bool.rec (motive:=λ_=>Option D5) none (DK H id z n off) (Nat.beq e z):Option D5)=some LS:=h;rw[hb]at h';cases h'
  |true=>
   have h':(Bool.rec (motive:=λ_=>Option D5) none (DK H id z n off) (Nat.beq e z):Option D5)=some LS:=h
   rw[hb]at h';rw[(P8 _ _ h').1];rfl
 ·rw[(xC _ _ h).1];rfl
theorem El.at{G:AV}{H:Heap}{v:V}{z:Nat}{LS:D5}(h:El G H v z LS){i:Nat}{c:LV}(hi:LS[i]? =some c):
 ∃p,BO z v (.int .i64 (.ofNat i) 0)=some p/\ldP p G H z=some c:=by
 obtain⟨hs,h⟩:=h
 obtain⟨hlt,_⟩:=List.getElem?_eq_some_iff.1 hi
 cases v<;>try (cases h;done)
 ·cases hs
 ·cases h;simp at hlt
 ·rename_i id off n cp e
  have h':(Bool.rec (motive:=λ_=>Option D5) none (DK H id z n off) (Nat.beq e z):Option D5)=some LS:=h
  cases hb:Nat.beq e z with
  |false=>rw[hb]at h';cases h'
  |true=>
   rw[hb]at h'
   obtain⟨h1,h2⟩:=P8 _ _ h'
   refine⟨.ptr id ((off+i)*z),?_,h2 i c hi⟩
   show BP (band (Nat.beq e z) (Nat.blt i n)) (Dz (Nat.mul (Nat.add off i) z) λo=>some (.ptr id o))=_
   rw[hb,show Nat.blt i n=true by rw[Nat.blt_eq];omega,CB];rfl
 ·rename_i id off n e
  have h':(Bool.rec (motive:=λ_=>Option D5) none (DK H id z n off) (Nat.beq e z):Option D5)=some LS:=h
  cases hb:Nat.beq e z with
  |false=>rw[hb]at h';cases h'
  |true=>
   rw[hb]at h'
   obtain⟨h1,h2⟩:=P8 _ _ h'
   refine⟨.ptr id ((off+i)*z),?_,h2 i c hi⟩
   show BP (band (Nat.beq e z) (Nat.blt i n)) (Dz (Nat.mul (Nat.add off i) z) λo=>some (.ptr id o))=_
   rw[hb,show Nat.blt i n=true by rw[Nat.blt_eq];omega,CB];rfl
 ·rename_i b off n cp e
  obtain⟨h1,h2⟩:=xC _ _ h
  refine⟨.Xa b (off+i*z),?_,h2 i c hi⟩
  show BP (Nat.blt i n) (Dz (Nat.add off (Nat.mul i z)) λo=>some (.Xa b o))=_
  rw[show Nat.blt i n=true by rw[Nat.blt_eq];omega,CB];rfl
theorem Jl{G:AV}{H:Heap}{p:V}{z:Nat}{c:LV}(h:ldP p G H z=some c):BF z p G H=some (.agg c):=by rw[AFk,h];rfl
theorem aI{G:AV}{H:Heap}{p v:V}(h:ldP p G H 1=some [v]):AX p G H=some v:=by rw[ACG,h];rfl
noncomputable def V.Qa(v:V):Option Nat:=match v with|.sl id .. =>some id|.O5 id .. =>some id|_=>none
theorem El.same{G:AV}{H H':Heap}{v:V}{z:Nat}{LS:D5}(h:El G H v z LS)(hs:∀id,v.Qa=some id->T.get H' id=T.get H id):El G H' v z LS:=by
 refine⟨h.1,?_⟩
 have hB:∀id,v.Qa=some id->∀n o,DK H' id z n o=DK H id z n o:=by
  intro id hid n
  induction n with
  |zero=>intro o;rfl
  |succ n ih=>
   intro o
   show DR (mW H' id (Nat.mul o z) z) (λL=>DR (DK H' id z n (Nat.succ o)) λLS=>some (L::LS))=DR (mW H id (Nat.mul o z) z) (λL=>DR (DK H id z n (Nat.succ o)) λLS=>some (L::LS))
   rw[ih];unfold mW;rw[hs id hid]
 have h2:=h.2
 cases v<;>try exact h2
 ·rename_i id off n c e
  show(Bool.rec (motive:=λ_=>Option D5) none (DK H' id z n off) (Nat.beq e z):Option D5)=some LS
  rw[hB id rfl];exact h2
 ·rename_i id off n e
  show(Bool.rec (motive:=λ_=>Option D5) none (DK H' id z n off) (Nat.beq e z):Option D5)=some LS
  rw[hB id rfl];exact h2
theorem T.AA5{α:Type}(a b:α):∀(p:P2) (t:T α),T.aW b p (T.aW a p t)=T.aW b p t
 |.h,t=>rfl
 |.z p,t=>by show T.n t.val (T.aW b p (T.aW a p t.left)) t.right=T.n t.val (T.aW b p t.left) t.right;rw[T.AA5 a b p]
 |.o p,t=>by show T.n t.val t.left (T.aW b p (T.aW a p t.right))=T.n t.val t.left (T.aW b p t.right);rw[T.AA5 a b p]
theorem T.set_set{α:Type}(t:T α)(k:Nat)(a b:α):T.set (T.set t k a) k b=T.set t k b:=T.AA5 ..
theorem Kp.get{H H':Heap}{n n' id:Nat}{b:Rl}(f:Kp H n H' n')(h:T.get H id=some b)(hi:id<n):T.get H' id=some b:=(f.same id hi).trans h
theorem Kp.set{H0 H:Heap}{n0 n id:Nat}(a:Kp H0 n0 H n)(b:Rl)(h:n0<=id):Kp H0 n0 (T.set H id b) n:=a.new b h (Nat.le_refl _)
theorem EP{σ:Type}{b:(σ->Prop)->σ->Prop}{N:Nat}{J:Nat->σ->Prop}(hs:∀I i s,i<N->J i s->(∀s',J (i+1) s'->I s')->b I s)(he:∀I s,J N s->b I s){s:σ}(h0:J 0 s):lfp σ b s:=by
 refine O3 (J:=λm s=>∃i,m=N-i/\i<=N/\J i s) ?_ (m:=N) ⟨0,rfl,Nat.zero_le _,h0⟩
 rintro I m s ⟨i,rfl,hi,hj⟩ ih
 rcases Nat.lt_or_ge i N with h|h
 ·exact hs I i s h hj λs' hj'=>ih _ s' (by omega) ⟨i+1,rfl,h,hj'⟩
 ·have:i=N:=by omega
  subst this;exact he I s hj
section
variable{H:Heap}{n z:Nat}{L:LV}{P:KV}
theorem AJm{v:V}(hv:kD v=true)(h:∀H',Kp H n H' (n+1)->T.get H' n=some (one (CZ v))->P (.ptr n 0) H' (n+1)):DY (JJ v) H n P:=by
 rw[AUa hv];exact h _ ((Kp.refl H n).new _ (Nat.le_refl _) (by omega)) (T.DJ ..)
theorem Dk(h:∀H',Kp H n H' (n+1)->T.get H' n=some (one L)->P (.ptr n 0) H' (n+1)):DY (JJ (.agg L)) H n P:=AJm rfl h
theorem Az(hL:L.length=z)(h:∀H',Kp H n H' (n+1)->T.get H' n=some (one L)->P (.ptr n 0) H' (n+1)):DY (BD z [L] E0) H n P:=by
 rw[ALv hL];exact h _ ((Kp.refl H n).new _ (Nat.le_refl _) (by omega)) (T.DJ ..)
theorem AY2{L':LV}(hL:L.length=z)(hL':L'.length=z)(hz:0<z)(h:∀H',Kp H n H' (n+1)->T.get H' n=some (one L')->P .undef H' (n+1)):
 CP z (.ptr n 0) (.agg L') (T.set H n (one L)) (n+1) P:=by
 rw[ASV hL hz hL',T.set_set];exact h _ ((Kp.refl H n).new _ (Nat.le_refl _) (by omega)) (T.DJ ..)
theorem Ej{i o m:Nat}{L:LV}{v:V}(hg:T.get H i=some (one L))(hv:kD v=true)(hn:(CZ v).length=m)(hm:0<m)(hl:o+m<=L.length)
 (h:∀H',T.get H' i=some (one (L.take o++(CZ v++L.drop (o+m))))->(∀j,j≠i->T.get H' j=T.get H j)->P .undef H' n):CP m (.ptr i o) v H n P:=by
 rw[AMU hg hv hn hm hl];exact h _ (T.DJ ..) λj hj=>T.BA _ _ (Ne.symm hj)
end
theorem zf{H:Heap}{id e c i:Nat}{t:T LV}(hg:T.get H id=some (.arr e c t))(he:0<e)(hi:i<c):mW H id (i*e) e=T.get t i:=by
 unfold mW;rw[hg]
 show ldB e c t (i*e) e=_
 unfold ldB
 have hdiv:i*e/e=i:=Nat.mul_div_cancel _ he
 have hmod:i*e%e=0:=Nat.mul_mod_left ..
 have hb:Nat.blt (Nat.div (i*e) e) c=true:=by rw[Nat.blt_eq];show i*e/e<c;omega
 rw[hb]
 show DR (T.get t (Nat.div (i*e) e)) (ldC e (i*e) e)=_
 rw[show Nat.div (i*e) e=i from hdiv]
 cases h:T.get t i with
 |none=>rfl
 |some L=>
  show ldC e (i*e) e L=_
  unfold ldC
  rw[show Nat.mod (i*e) e=0 from hmod,show band (Nat.beq e e) (Nat.beq 0 0)=true by simp]
theorem iI{H:Heap}{id z:Nat}:∀(n o:Nat) (LS:D5),LS.length=n->(∀i c,LS[i]? =some c->mW H id ((o+i)*z) z=some c)->DK H id z n o=some LS
 |0,o,LS,hl,_=>by cases LS with|nil=>rfl|cons a l=>simp at hl
 |n+1,o,LS,hl,h=>by
  cases LS with
  |nil=>simp at hl
  |cons a l=>
   show DR (mW H id (Nat.mul o z) z) (λL=>DR (DK H id z n (Nat.succ o)) λLS=>some (L::LS))=_
   have h0:=h 0 a rfl
   rw[show Nat.mul o z=(o+0)*z from rfl,h0,cZ,iI n (o+1) l (by simpa using hl) λi c hc=>by
    have:=h (i+1) c (by simpa using hc);rwa [show o+(i+1)=o+1+i by omega]at this]
   rfl
inductive Gr(G:AV)(H:Heap)(m:Nat)(z:Nat):V->D5->Prop where
 |nil:Gr G H m z .Ae []
 |O5 {id c:Nat} {t:T LV} {LS:D5} (hg:T.get H id=some (.arr z c t)) (hc:LS.length<=c) (ht:∀i L,LS[i]? =some L->T.get t i=some L) (hid:m<=id):Gr G H m z (.O5 id 0 LS.length z) LS
theorem Es(z:Nat):Nat.beq z z=true:=by simp
theorem Gr.el{G:AV}{H:Heap}{m z:Nat}{v:V}{LS:D5}(h:Gr G H m z v LS)(hz:0<z):El G H v z LS:=by
 cases h with
 |nil=>exact⟨rfl,rfl⟩
 |O5 hg hc ht hid=>
  rename_i id c t
  refine⟨rfl,?_⟩
  show(Bool.rec (motive:=λ_=>Option D5) none (DK H id z LS.length 0) (Nat.beq z z):Option D5)=some LS
  rw[Es]
  exact iI _ _ _ rfl λi L hi=>by
   have hlt:=(List.getElem?_eq_some_iff.1 hi).1
   rw[Nat.zero_add,zf hg hz (by omega)];exact ht i L hi
theorem Gr.mono{G:AV}{H H':Heap}{m z:Nat}{v:V}{LS:D5}(h:Gr G H m z v LS)(hs:∀id,v.Qa=some id->T.get H' id=T.get H id):Gr G H' m z v LS:=by
 cases h with
 |nil=>exact .nil
 |O5 hg hc ht hid=>exact .O5 (hs _ rfl▸hg) hc ht hid
theorem Gr.lo{G:AV}{H:Heap}{m z:Nat}{v:V}{LS:D5}(h:Gr G H m z v LS){id:Nat}(hid:v.Qa=some id):m<=id/\∃c t,T.get H id=some (.arr z c t):=by
 cases h with
 |nil=>cases hid
 |O5 hg hc ht hi=>cases hid;exact⟨hi,_,_,hg⟩
theorem Zm{a b:Nat}(h:a*b<=140737488355328):Qk a b=true:=by unfold Qk;rw[Nat.ble_eq];exact h
theorem AJp{id ln z bs c n:Nat}{t:T LV}{NS:D5}{H:Heap}{k:KV}(hr:Qk (ln+NS.length) bs=true)(hc:ln<=c):
 bG id 0 ln z bs NS H n k (.arr z c t)=k (.O5 n 0 (ln+NS.length) z) (T.set (T.set H id .dead) n (.arr z (ln+NS.length) (GH NS ln t))) (n+1):=by
 show Ea (Nat.add ln (len NS)) (λneed=>En (band (Qk need bs) (band (Nat.beq z z) (Nat.ble (Nat.add 0 ln) c))) (Ea n λn=>k (.O5 n 0 need z) (T.set (T.set H id .dead) n (.arr z need (GH NS ln t))) (Nat.succ n)))=_
 rw[CO,CO,len_eq]
 show En (band (Qk (ln+NS.length) bs) (band (Nat.beq z z) (Nat.ble (Nat.add 0 ln) c))) (k (.O5 n 0 (ln+NS.length) z) (T.set (T.set H id .dead) n (.arr z (ln+NS.length) (GH NS ln t))) (n+1))=_
 rw[hr,Es,show Nat.ble (Nat.add 0 ln) c=true by rw[Nat.ble_eq];show 0+ln<=c;omega]
 rfl
theorem Gr.app{G:AV}{H:Heap}{m n z bs:Nat}{v w:V}{LS NS:D5}{k:KV}(h:Gr G H m z v LS)(hm:m<=n)(hn:∀id,v.Qa=some id->id<n)(hw:elems w G H z=some NS)
 (hb:(LS.length+NS.length)*bs<=140737488355328)
 (hk:∀v' H',Gr G H' m z v' (LS++NS)->(∀id,id<n->v.Qa≠some id->T.get H' id=T.get H id)->(∀id,v'.Qa=some id->id<n+1)->k v' H' (n+1))
 (hk0:NS=[]->k v H n):X0 z bs v w G H n k:=by
 unfold X0
 rw[hw,vW]
 cases h with
 |nil=>
  cases NS with
  |nil=>exact hk0 rfl
  |cons a NS=>
   show PK z bs [] (a::NS) H n k
   unfold PK
   rw[CO,CO,len_eq,len_eq,show Qk (Nat.add ([]:D5).length (a::NS).length) bs=true from Zm hb,qR]
   have e:Nat.add ([]:D5).length (a::NS).length=(a::NS).length:=Nat.zero_add _
   rw[e]
   refine hk _ _ ?_ (λid hid _=>T.BA _ _ (by omega)) (λid hid=>by cases hid;omega)
   refine .O5 (LS:=a::NS) (T.DJ ..) (Nat.le_refl _) (λi L hi=>?_) hm
   show T.get (GH (a::NS) 0 .e) i=some L
   have hlt:=(List.getElem?_eq_some_iff.1 hi).1
   rw[FY,if_pos ⟨Nat.zero_le _,by omega⟩];exact hi
 |O5 hg hc ht hid=>
  rename_i id c t
  show En (Nat.beq z z) _
  rw[Es,qR]
  cases NS with
  |nil=>exact hk0 rfl
  |cons a NS=>
   show IV (T.get H id) (λb=>bG id 0 LS.length z bs (a::NS) H n k b)
   rw[hg,vW]
   rw[AJp (Zm hb) hc,show LS.length+(a::NS).length=(LS++a::NS).length by rw[List.length_append]]
   refine hk _ _ ?_ (λj hj hne=>?_) (λj hj=>by cases hj;omega)
   ·refine .O5 (LS:=LS++a::NS) (T.DJ ..) (Nat.le_refl _) (λi L hi=>?_) hm
    rw[FY]
    by_cases hlt:i<LS.length
    ·rw[if_neg (by omega)]
     rw[List.getElem?_append_left hlt]at hi
     exact ht i L hi
    ·rw[List.getElem?_append_right (by omega)]at hi
     have hlt2:=(List.getElem?_eq_some_iff.1 hi).1
     rw[if_pos ⟨by omega,by omega⟩];exact hi
   ·rw[T.BA _ _ (by omega),T.BA _ _ (by intro e;subst e;exact hne rfl)]
def ALQ{α:Type}(s:Nat×Nat)(v:α):List ((Nat×Nat)×α)->List ((Nat×Nat)×α)
 |[]=>[(s,v)]
 |p::ps=>if p.1=s then(s,v)::ps else p::ALQ s v ps
def ADk(G:AV):Prop:=∀b o z L,G b o z=some L->L.length=z/\∀i m,0<m->i+m<=z->G b (o+i) m=some ((L.drop i).take m)
theorem AOW(e off m:Nat)(L:LV):ldC e off m L=if m=e/\off%e=0 then some L else if off%e+m<=e then some ((L.drop (off%e)).take m)else none:=by
 have e1:ldC e off m L=Bool.rec (motive:=λ_=>Option LV) (Bool.rec none (some (ZK m (mg (off%e) L))) (Nat.ble (off%e+m) e)) (some L) (band (Nat.beq m e) (Nat.beq (off%e) 0)):=rfl
 rw[e1,gX,qo]
 by_cases h:m=e/\off%e=0
 ·have hb:band (Nat.beq m e) (Nat.beq (off%e) 0)=true:=by simp only[CU,Bool.and_eq_true,beq_iff];exact h
  rw[if_pos h,hb]
 ·have hb:band (Nat.beq m e) (Nat.beq (off%e) 0)=false:=by rw[Bool.eq_false_iff];intro hc;simp only[CU,Bool.and_eq_true,beq_iff]at hc;exact h hc
  rw[if_neg h,hb]
  by_cases h2:off%e+m<=e
  ·rw[if_pos h2,show Nat.ble (off%e+m) e=true by rw[Nat.ble_eq];exact h2]
  ·rw[if_neg h2,show Nat.ble (off%e+m) e=false by rw[Bool.eq_false_iff];intro hc;rw[Nat.ble_eq]at hc;exact h2 hc]
theorem APO{e cnt off m:Nat}{t:T LV}{c:LV}(h:ldB e cnt t off m=some c):∃L,off/e<cnt/\T.get t (off/e)=some L/\ldC e off m L=some c:=by
 unfold ldB at h
 rw[Bv]at h
 obtain⟨L,h1,h2⟩:=h
 cases hb:Nat.blt (Nat.div off e) cnt with
 |false=>rw[hb]at h1;cases h1
 |true=>rw[hb]at h1;exact⟨L,by rw[Nat.blt_eq]at hb;exact hb,h1,h2⟩
theorem AMD{H:Heap}{id off z o m:Nat}{c:LV}(h:mW H id off z=some c)(hc:c.length=z)(hm:0<m)(ho:o+m<=z):mW H id (off+o) m=some ((c.drop o).take m):=by
 unfold mW at h⊢
 cases hb:T.get H id with
 |none=>rw[hb]at h;cases h
 |some b=>
  rw[hb]at h
  cases b with
  |map _ _=>cases h
  |dead=>cases h
  |VT _ _ _ _ _=>cases h
  |own _=>cases h
  |arr e cnt t=>
   have h':ldB e cnt t off z=some c:=h
   show ldB e cnt t (off+o) m=_
   obtain⟨L,h1,h2,h3⟩:=APO h'
   rw[AOW]at h3
   have key:off%e+z<=e/\c=(L.drop (off%e)).take z/\(z=e/\off%e=0->c=L):=by
    by_cases hh:z=e/\off%e=0
    ·rw[if_pos hh]at h3
     cases h3
     rw[hh.2,List.drop_zero,List.take_of_length_le (by omega)]
     exact⟨by omega,rfl,λ_=>rfl⟩
    ·rw[if_neg hh]at h3
     by_cases h4:off%e+z<=e
     ·rw[if_pos h4]at h3;exact⟨h4,(Option.some.inj h3).symm,λh=>absurd h hh⟩
     ·rw[if_neg h4]at h3;cases h3
   obtain⟨hle,hcc,hcl⟩:=key
   have he:0<e:=by omega
   have hlt:off%e+o<e:=by omega
   have hoff:off+o=e*(off/e)+(off%e+o):=by have:=Nat.div_add_mod off e;omega
   have hd:(off+o)/e=off/e:=by rw[hoff,Nat.mul_add_div he,Nat.div_eq_of_lt hlt];omega
   have hmo:(off+o)%e=off%e+o:=by rw[hoff,Nat.mul_add_mod,Nat.mod_eq_of_lt hlt]
   unfold ldB
   rw[show Nat.div (off+o) e=off/e from hd,show Nat.blt (off/e) cnt=true by rw[Nat.blt_eq];exact h1]
   show DR (T.get t (off/e)) (ldC e (off+o) m)=_
   rw[h2,cZ,AOW,hmo]
   have hL:z<=(L.drop (off%e)).length:=by rw[hcc,List.length_take]at hc;omega
   by_cases hh:m=e/\off%e+o=0
   ·rw[if_pos hh,<-hcl ⟨by omega,by omega⟩,show o=0 by omega,List.drop_zero,List.take_of_length_le (by omega)]
   ·rw[if_neg hh,if_pos (by omega),hcc,List.drop_take,List.take_take,List.drop_drop,Nat.min_eq_left (by omega)]
theorem ATS{G:AV}(hG:ADk G){H:Heap}{p:V}{z o m:Nat}{c:LV}(h:ldP p G H z=some c)(hc:c.length=z)(hm:0<m)(ho:o+m<=z):
 ∃p',AU o p=some p'/\ldP p' G H m=some ((c.drop o).take m):=by
 cases p<;>try (cases h;done)
 ·rename_i id off;exact⟨_,AZ ..,AMD h hc hm ho⟩
 ·rename_i b off;exact⟨_,AHR ..,(hG b off z c h).2 o m hm ho⟩
theorem AOe{G:AV}(hG:ADk G){H:Heap}{p:V}{z o:Nat}{c:LV}{x:V}(h:ldP p G H z=some c)(hc:c.length=z)(ho:c[o]? =some x):
 ∃p',AU o p=some p'/\AX p' G H=some x:=by
 obtain⟨hlt,he⟩:=List.getElem?_eq_some_iff.1 ho
 obtain⟨p',h1,h2⟩:=ATS hG h hc (o:=o) (m:=1) (by omega) (by omega)
 refine⟨p',h1,?_⟩
 rw[ACG,h2,AGY,jK,List.getElem?_take]
 simp[ho]
theorem AZl{t e:Nat}{H:Heap}{n:Nat}{P:KV}:DY (AQO t e E0) H n P=P (.ptr n 0) (T.set H n (.VT t e 0 0 0)) (n+1):=by
 show Ea n (λn=>P (.ptr n 0) (T.set H n (.VT t e 0 0 0)) (Nat.succ n))=_
 rw[CO]
theorem AV9{m:Nat}(h:m+1<9223372036854775808):B2.ev .sub (.int .i64 (.ofNat (m+1)) 0) (.int .i64 (.ofNat 1) 0)=some (.int .i64 (.ofNat m) 0):=by
 show some (V.int .i64 (Vz .i64 (AGo (.ofNat (m+1)) (Int.neg (.ofNat 1)))) 0)=_
 rw[X7,AAU]
 have e:Int.ofNat (m+1)+Int.neg (Int.ofNat 1)=Int.ofNat m:=by show((m+1:Nat):Int)+ -((1:Nat):Int)=(m:Int);omega
 rw[e,gK (by show(-9223372036854775808:Int)<=(m:Int);omega) (by show(m:Int)<9223372036854775808;omega)]
end Go.Eng
namespace Go.Eng
open Go.ChangeShapes Go.WideShapes Go.RowKit
inductive Sh where
 |int (k:IntKind)|bool|str|sl (z:Nat) (t:Sh)|st (l:List Sh)
def RSl(v:V)(n:Nat):Prop:=(v=.Ae/\n=0)∨∃b o c,v=.rsl b o n c 0/\n<=c/\c<=maxLen
theorem AJ7{W:World}{b o n:Nat}{L:LV}(h:Ql W b o n=some L):L.length=n:=by
 unfold Ql at h
 split at h
 ·cases h;simp
 ·cases h
theorem AKO(W:World):ADk (Ql W):=by
 intro b o z L h
 refine⟨AJ7 h,λi m hm hi=>?_⟩
 unfold Ql at h⊢
 split at h
 ·rename_i hc
  cases h
  rw[if_pos]
  ·congr 1
   apply List.ext_getElem?
   intro j
   rw[List.getElem?_take]
   by_cases hj:j<m
   ·rw[if_pos hj,List.getElem?_drop,List.getElem?_map,List.getElem?_map,List.getElem?_range hj,List.getElem?_range (by omega),Option.map_some,Option.map_some,Nat.add_assoc]
   ·rw[if_neg hj,List.getElem?_eq_none (by simp;omega)]
  ·intro j hj
   have:=hc (i+j) (by omega)
   rwa [<-Nat.add_assoc]at this
 ·cases h
theorem AF0{G:AV}{b z:Nat}:∀(n o:Nat) (LS:D5),LS.length=n->(∀i c,LS[i]? =some c->G b (o+i*z) z=some c)->qE G b z n o=some LS
 |0,o,LS,hl,_=>by cases LS with|nil=>rfl|cons a l=>simp at hl
 |n+1,o,LS,hl,h=>by
  cases LS with
  |nil=>simp at hl
  |cons a l=>
   show DR (G b o z) (λL=>DR (qE G b z n (Nat.add o z)) λLS=>some (L::LS))=_
   have h0:=h 0 a rfl
   rw[Nat.zero_mul,Nat.add_zero]at h0
   rw[h0,cZ,show Nat.add o z=o+z from rfl,AF0 n (o+z) l (by simpa using hl) λi c hc=>by
    have:=h (i+1) c (by simpa using hc);rwa [show o+(i+1)*z=o+z+i*z by rw[Nat.add_mul];omega]at this]
   rfl
theorem AWG{G:AV}{H:Heap}{b o c z:Nat}{LS:D5}(h:∀i L,LS[i]? =some L->G b (o+i*z) z=some L){e:Nat}:El G H (.rsl b o LS.length c e) z LS:=
 ⟨rfl,AF0 _ _ _ rfl h⟩
theorem ABk{w:World}{base n:Nat}{a:Addr}{cs:List Value}(h:w.cells? base a n=some cs):cs.length=n/\∀j u,cs[j]? =some u->w.cell? (a.add j)=some u:=by
 unfold World.cells? at h
 split at h
 ·have hl:=mapM_some_length h
  refine⟨by simpa using hl,λj u hj=>?_⟩
  have hlt:j<n:=by have:=(List.getElem?_eq_some_iff.1 hj).1;simp at hl;omega
  have:=mapM_some_get h j j (by rw[List.getElem?_range hlt])
  rw[this,hj]
 ·cases h
theorem ASY{a:Addr}(h:a.spot=none)(k:Nat):a.add k=⟨a.block,a.off+k,none⟩:=by
 obtain⟨b,o,s⟩:=a;cases h;exact add_lit b o k
theorem cell_spot{w:World}{a:Addr}{u:Value}(h:w.cell? a=some u):a.spot=none:=by
 unfold World.cell? at h
 split at h
 ·split at h
  ·cases h
  ·rename_i hs;cases hc:a.spot<;>simp_all
 ·cases h
def APc:V->Bool
 |.int _ _ b=>Nat.beq b 0
 |.bool _=>true
 |.str _ _=>true
 |_=>false
theorem AWo{ρ:Loc}{v:V}{u:Value}(h:AY ρ v u)(hp:APc v=true):toV u=v:=by
 cases v<;>try (cases hp;done)
 ·rename_i k n s
  have:s=0:=Nat.eq_of_beq_eq_true hp
  subst this
  simp only[AY]at h;subst h;rfl
 ·simp only[AY]at h;subst h;rfl
 ·simp only[AY]at h
  obtain⟨s,rfl,h1,h2⟩:=h
  subst h1;subst h2;rfl
theorem AEv{W:World}{g:Nat}{cs:List Value}{tab:LV}(hc:∀i,W.cell? ⟨g,i,none⟩=cs[i]?)(hr:DW (λ_=>none) tab cs)(h1:∀u∈cs,u.oneCell'=true)(hp:tab.all APc=true){o n:Nat}(hl:o+n<=tab.length):
 Ql W g o n=some ((tab.drop o).take n):=by
 obtain⟨hlen,hget⟩:=(jB tab cs).1 hr
 rw[ACk (cs:=(cs.drop o).take n) (by simp;omega) (λu hu=>h1 u (List.mem_of_mem_drop (List.mem_of_mem_take hu))) λj u hj=>?_]
 ·congr 1
  apply List.ext_getElem?
  intro j
  rw[List.getElem?_map,List.getElem?_take,List.getElem?_take]
  by_cases hj:j<n
  ·rw[if_pos hj,if_pos hj,List.getElem?_drop,List.getElem?_drop]
   have hlt:o+j<tab.length:=by omega
   rw[List.getElem?_eq_getElem hlt,List.getElem?_eq_getElem (by omega),Option.map_some]
   congr 1
   exact AWo (hget _ _ _ (List.getElem?_eq_getElem hlt) (List.getElem?_eq_getElem (by omega))) (List.all_eq_true.1 hp _ (List.getElem_mem hlt))
  ·rw[if_neg hj,if_neg hj];rfl
 ·rw[List.getElem?_take]at hj
  split at hj
  ·rw[List.getElem?_drop]at hj;rw[hc];exact hj
  ·cases hj
end Go.Eng
namespace Go.Eng
section
variable{e:Option V}{P:V->Prop}{Q:KV}{t:KV->Prop}{H:Heap}{n:Nat}{a b:V}
theorem yu(h:P (.J4 [])):Bd (.bool true) false e P:=h
theorem AE1(h:P (.J4 [])):Bd (.bool false) true e P:=h
theorem AAe(h:Q (.J4 []) H n):UO (.bool true) false t H n Q:=h
theorem AL6(h:Q (.J4 []) H n):UO (.bool false) true t H n Q:=h
theorem AAH(h:P a):AP (DZ (.bool true) a b) P:=h
theorem AFA(h:P b):AP (DZ (.bool false) a b) P:=h
end
def sB(l:List UInt8):V:=.str l.length (enc l)
theorem O8(l:List UInt8):N8 (sB l)=some (.int .i64 (.ofNat l.length) 0):=rfl
theorem AGA{l:List UInt8}{i:Nat}(h:i<l.length):Kz (sB l) (.int .i64 (.ofNat i) 0)=some (.int .u8 (.ofNat (l[i]).toNat) 0):=by
 show BP (Nat.blt i l.length) (Dz (AN3 (enc l) i) λb=>some (.int .u8 (.ofNat b) 0))=_
 rw[show Nat.blt i l.length=true by rw[Nat.blt_eq];exact h,CB,ADs l i h];rfl
theorem AQl{l:List UInt8}{a b:Nat}(h1:a<=b)(h2:b<=l.length):Zr (sB l) E0 (some (.c (.int .i64 (.ofNat a) 0))) (some (.c (.int .i64 (.ofNat b) 0)))=some (sB ((l.drop a).take (b-a))):=by
 show BP (band (Nat.ble a b) (Nat.ble b l.length)) (Dz (b-a) λd=>Dz (AQ3 (enc l) a b) λc=>Dz 0 λ_=>some (.str d c))=_
 rw[show Nat.ble a b=true by rw[Nat.ble_eq];exact h1,show Nat.ble b l.length=true by rw[Nat.ble_eq];exact h2,CB,CB,CB,AAM]
 have:((l.drop a).take (b-a)).length=b-a:=by rw[List.length_take,List.length_drop];omega
 show some (V.str (b-a) (enc ((l.drop a).take (b-a))))=_
 unfold sB;rw[this]
theorem ALA{l:List UInt8}{a:Nat}(h:a<=l.length):Zr (sB l) E0 (some (.c (.int .i64 (.ofNat a) 0))) none=some (sB (l.drop a)):=by
 show BP (band (Nat.ble a l.length) (Nat.ble l.length l.length)) (Dz (l.length-a) λd=>Dz (AQ3 (enc l) a l.length) λc=>Dz 0 λ_=>some (.str d c))=_
 rw[show Nat.ble a l.length=true by rw[Nat.ble_eq];exact h,show Nat.ble l.length l.length=true by rw[Nat.ble_eq];exact Nat.le_refl _,CB,CB,CB,AAM]
 have e:(l.drop a).take (l.length-a)=l.drop a:=List.take_of_length_le (by rw[List.length_drop];omega)
 rw[e]
 have:(l.drop a).length=l.length-a:=by rw[List.length_drop]
 show some (V.str (l.length-a) (enc (l.drop a)))=_
 unfold sB;rw[this]
theorem AaN{l:List UInt8}{b:Nat}(h:b<=l.length):Zr (sB l) E0 none (some (.c (.int .i64 (.ofNat b) 0)))=some (sB (l.take b)):=by
 show BP (band (Nat.ble 0 b) (Nat.ble b l.length)) (Dz (b-0) λd=>Dz (AQ3 (enc l) 0 b) λc=>Dz 0 λ_=>some (.str d c))=_
 rw[show Nat.ble 0 b=true by rw[Nat.ble_eq];omega,show Nat.ble b l.length=true by rw[Nat.ble_eq];exact h,CB,CB,CB,AAM]
 have:((l.drop 0).take (b-0)).length=b-0:=by rw[List.length_take,List.length_drop];omega
 show some (V.str (b-0) (enc ((l.drop 0).take (b-0))))=_
 unfold sB;rw[List.drop_zero,Nat.sub_zero,show(l.take b).length=b by rw[List.length_take];omega]
theorem APG(a b:List UInt8):(a.length=b.length/\enc a=enc b)↔a=b:=⟨λh=>AGV a b h.1 h.2,λh=>by subst h;exact⟨rfl,rfl⟩⟩
theorem AH6(a b:List UInt8):EZ (.one .str) false (sB a) (sB b)=some (.bool (decide (a=b))):=by
 unfold sB;rw[Aax];congr 2;rw[decide_eq_decide];exact APG a b
theorem ARr(a b:List UInt8):EZ (.one .str) true (sB a) (sB b)=some (.bool (!decide (a=b))):=by
 show ofB (iY (some (band (Nat.beq a.length b.length) (Nat.beq (enc a) (enc b)))) λb=>some (Yi b))=_
 have:band (Nat.beq a.length b.length) (Nat.beq (enc a) (enc b))=decide (a=b):=by rw[CU,Bool.eq_iff_iff,decide_eq_true_iff,<-APG];simp
 rw[this];cases decide (a=b)<;>rfl
theorem BX{a b:List UInt8}(h:a.length+b.length<9223372036854775808):B2.ev .add (sB a) (sB b)=some (sB (a++b)):=by
 show BP (Nat.blt (a.length+b.length) 9223372036854775808) (Dz (a.length+b.length) λn=>Dz (AXE a.length (enc a) (enc b)) λe=>some (.str n e))=_
 rw[show Nat.blt (a.length+b.length) 9223372036854775808=true by rw[Nat.blt_eq];exact h,CB,CB,AIx]
 unfold sB;rw[List.length_append];rfl
def AAk(b:Nat):List UInt8->Nat->Int
 |[],_=>.negSucc 0
 |c::l,i=>bif decide (c.toNat=b)then .ofNat i else AAk b l (i+1)
theorem ACS(b:Nat):∀(l:List UInt8) (i:Nat),fK b l.length (enc l) i=AAk b l i
 |[],i=>rfl
 |c::l,i=>by
  have ha:c.toNat<256:=c.toNat_lt
  have e1:enc (c::l)%256=c.toNat:=by simp only[enc];omega
  have e2:enc (c::l)/256=enc l:=by simp only[enc];omega
  have e:fK b (c::l).length (enc (c::l)) i=Bool.rec (fK b l.length (enc (c::l)/256) (i+1)) (.ofNat i) (Nat.beq (enc (c::l)%256) b):=rfl
  rw[e,e1,e2,ACS b l (i+1)]
  rw[show AAk b (c::l) i=bif decide (c.toNat=b)then .ofNat i else AAk b l (i+1)from rfl]
  by_cases h:c.toNat=b
  ·rw[show Nat.beq c.toNat b=true by rw[beq_iff];exact h];simp[h]
  ·rw[show Nat.beq c.toNat b=false by rw[Bool.eq_false_iff];intro hc;rw[beq_iff]at hc;exact h hc];simp[h]
theorem AaH{l:List UInt8}{b:Nat}(hb:b<256):AO4 (sB l) (.int .u8 (.ofNat b) 0)=some (.int .i64 (AAk b l 0) 0):=by
 show BP true (BP (Nat.blt b 256) (P5 (fK b l.length (enc l) 0) λi=>some (.int .i64 i 0)))=_
 rw[show Nat.blt b 256=true by rw[Nat.blt_eq];exact hb,ACS];rfl
def PE(l:List UInt8):D5:=l.map λc=>[.int .u8 (.ofNat c.toNat) 0]
theorem AEG:∀l:List UInt8,VB l.length (enc l)=PE l
 |[]=>rfl
 |c::l=>by
  have ha:c.toNat<256:=c.toNat_lt
  have e1:enc (c::l)%256=c.toNat:=by simp only[enc];omega
  have e2:enc (c::l)/256=enc l:=by simp only[enc];omega
  show[V.int .u8 (.ofNat (enc (c::l)%256)) 0]::VB l.length (enc (c::l)/256)=_
  rw[e1,e2,AEG l];rfl
theorem AUI{G:AV}{l:List UInt8}{H:Heap}{n:Nat}{k:KV}(h:∀H' v,Kp H n H' (n+1)->El G H' v 1 (PE l)->k v H' (n+1)):AZV (sB l) H n k:=by
 show Ea n λn=>k (.O5 n 0 l.length 1) (T.set H n (.arr 1 l.length (GH (VB l.length (enc l)) 0 .e))) (Nat.succ n)
 rw[CO,AEG]
 have hl:(PE l).length=l.length:=List.length_map ..
 refine h _ _ ((Kp.refl H n).new _ (Nat.le_refl _) (by omega)) ?_
 rw[<-hl]
 refine Gr.el (m:=n) (.O5 (LS:=PE l) (T.DJ ..) (Nat.le_refl _) (λi L hi=>?_) (Nat.le_refl _)) (by omega)
 have hlt:=(List.getElem?_eq_some_iff.1 hi).1
 rw[FY,if_pos ⟨Nat.zero_le _,by omega⟩];exact hi
theorem MF(b:Bool):Vb (.bool b)=some (.bool (!b)):=AZk b
theorem mO(q:IntKind)(a b:Nat):B2.ev .geq (.int q (.ofNat a) 0) (.int q (.ofNat b) 0)=some (.bool (decide (b<=a))):=by
 show BP (band (keq q q) true) (mkB (ile (.ofNat b) (.ofNat a)))=_
 rw[AA8,APM,show band (keq q q) true=true by simp[XL],show decide (Int.ofNat b<=Int.ofNat a)=decide (b<=a)by rw[decide_eq_decide];show(b:Int)<=a↔_;omega];rfl
theorem vO(q:IntKind)(a b:Nat):B2.ev .leq (.int q (.ofNat a) 0) (.int q (.ofNat b) 0)=some (.bool (decide (a<=b))):=by
 show BP (band (keq q q) true) (mkB (ile (.ofNat a) (.ofNat b)))=_
 rw[AA8,APM,show band (keq q q) true=true by simp[XL],show decide (Int.ofNat a<=Int.ofNat b)=decide (a<=b)by rw[decide_eq_decide];show(a:Int)<=b↔_;omega];rfl
theorem Ls(q:IntKind)(a b:Nat):B2.ev .gtr (.int q (.ofNat a) 0) (.int q (.ofNat b) 0)=some (.bool (decide (b<a))):=by
 show BP (band (keq q q) true) (mkB (ilt (.ofNat b) (.ofNat a)))=_
 rw[AA8,sJ,show band (keq q q) true=true by simp[XL],show decide (Int.ofNat b<Int.ofNat a)=decide (b<a)by rw[decide_eq_decide];show(b:Int)<a↔_;omega];rfl
theorem ES(q:IntKind)(a b:Nat):B2.ev .lss (.int q (.ofNat a) 0) (.int q (.ofNat b) 0)=some (.bool (decide (a<b))):=by
 show BP (band (keq q q) true) (mkB (ilt (.ofNat a) (.ofNat b)))=_
 rw[AA8,sJ,show band (keq q q) true=true by simp[XL],show decide (Int.ofNat a<Int.ofNat b)=decide (a<b)by rw[decide_eq_decide];show(a:Int)<b↔_;omega];rfl
theorem AU6(q:IntKind)(x y:Int):EZ (.one .int) false (.int q x 0) (.int q y 0)=some (.bool (decide (x=y))):=by
 have e:EZ (.one .int) false (.int q x 0) (.int q y 0)=ofB (iY (some (ieq x y)) λb=>some b):=by cases q<;>rfl
 rw[e,fD,show(x==y)=decide (x=y)by rw[Bool.eq_iff_iff];simp];cases decide (x=y)<;>rfl
theorem AZs(q:IntKind)(x y:Int):EZ (.one .int) true (.int q x 0) (.int q y 0)=some (.bool (!decide (x=y))):=by
 have e:EZ (.one .int) true (.int q x 0) (.int q y 0)=ofB (iY (some (ieq x y)) λb=>some (Yi b)):=by cases q<;>rfl
 rw[e,fD,show(x==y)=decide (x=y)by rw[Bool.eq_iff_iff];simp];cases decide (x=y)<;>rfl
theorem Xx(q:IntKind)(x y:Nat):EZ (.one .int) false (.int q (.ofNat x) 0) (.int q (.ofNat y) 0)=some (.bool (decide (x=y))):=by
 rw[AU6];congr 2;rw[decide_eq_decide];show(x:Int)=y↔_;omega
theorem YX(q:IntKind)(x y:Nat):EZ (.one .int) true (.int q (.ofNat x) 0) (.int q (.ofNat y) 0)=some (.bool (!decide (x=y))):=by
 rw[AZs];congr 3;rw[decide_eq_decide];show(x:Int)=y↔_;omega
theorem AB6(t:Int){m:Nat}(hm:m<9223372036854775808):B2.ev .and (.int .i64 t 0) (.int .i64 (.ofNat m) 0)=some (.int .i64 (.ofNat (aj t m)) 0):=by
 show BP true (P5 (ASr .i64 t (.ofNat m)) λm=>some (.int .i64 m 0))=_
 rw[ANm t hm];rfl
theorem ART(u:Nat){m:Nat}(hm:0<m):B2.ev .rem (.int .i64 (.ofNat u) 0) (.int .i64 (.ofNat m) 0)=some (.int .i64 (.ofNat (u%m)) 0):=by
 show BP (band true (band true (Yi (ieq (.ofNat m) 0)))) (mkN .i64 (Int.tmod (.ofNat u) (.ofNat m)) 0)=_
 have:ieq (.ofNat m) 0=false:=by rw[fD];simp;omega
 rw[this]
 show P5 (Int.tmod (.ofNat u) (.ofNat m)) (λm=>some (.int .i64 m 0))=_
 rw[SC];rfl
theorem Ef{a b:Nat}(h:a+b<9223372036854775808):B2.ev .add (.int .i64 (.ofNat a) 0) (.int .i64 (.ofNat b) 0)=some (.int .i64 (.ofNat (a+b)) 0):=by
 show some (V.int .i64 (Vz .i64 (AGo (.ofNat a) (.ofNat b))) 0)=_
 rw[X7,AAU,gK (by simp;omega) (by simp;omega)];rfl
theorem vS{a b:Nat}(hb:b<=a)(h:a<9223372036854775808):B2.ev .sub (.int .i64 (.ofNat a) 0) (.int .i64 (.ofNat b) 0)=some (.int .i64 (.ofNat (a-b)) 0):=by
 show some (V.int .i64 (Vz .i64 (AGo (.ofNat a) (Int.neg (.ofNat b)))) 0)=_
 rw[X7,AAU]
 have e:Int.ofNat a+Int.neg (Int.ofNat b)=Int.ofNat (a-b):=by show(a:Int)+ -(b:Int)=((a-b:Nat):Int);omega
 rw[e,gK (by show(-9223372036854775808:Int)<=((a-b:Nat):Int);omega) (by show((a-b:Nat):Int)<9223372036854775808;omega)]
theorem ADQ{d:V}{f:Nat}{a c args:List V}{H:Heap}{n:Nat}{k:KV}:AEf d (.fn f a c) args H n k=k (.J4 (.fn f (cat a args) c::uY d)) H n:=rfl
theorem uQ{f:Nat}{a c args:List V}{call:BQ}{H:Heap}{n:Nat}{k:KV}:FW (.fn f a c) args call H n k=call f (cat a (cat args c)) H n k:=rfl
def Lo(v:V)(n:Nat):Prop:=∀id,v.Qa=some id->id<n
theorem El.kp{G:AV}{H H':Heap}{v:V}{z n n':Nat}{LS:D5}(h:El G H v z LS)(hl:Lo v n)(f:Kp H n H' n'):El G H' v z LS:=h.same λid hid=>f.same id (hl id hid)
theorem Lo.mono{v:V}{n n':Nat}(h:Lo v n)(hn:n<=n'):Lo v n':=λid hid=>Nat.lt_of_lt_of_le (h id hid) hn
theorem AVI{n:Nat}:Lo .Ae n:=λ_ h=>by cases h
theorem yO{G:AV}{H:Heap}{z:Nat}:El G H .Ae z []:=⟨rfl,rfl⟩
structure Kx(b:Nat)(H:Heap)(n:Nat)(H':Heap)(n':Nat):Prop where
 le:n<=n'
 same:∀id,id<n->id≠b->T.get H' id=T.get H id
section
variable{b:Nat}{H H' H'':Heap}{n n' n'':Nat}
theorem Kx.refl(b:Nat)(H:Heap)(n:Nat):Kx b H n H n:=⟨Nat.le_refl _,λ_ _ _=>rfl⟩
theorem Kx.trans(x:Kx b H n H' n')(y:Kx b H' n' H'' n''):Kx b H n H'' n'':=⟨Nat.le_trans x.le y.le,λid h hb=>(y.same id (Nat.lt_of_lt_of_le h x.le) hb).trans (x.same id h hb)⟩
theorem Kx.get{id:Nat}{B:Rl}(f:Kx b H n H' n')(h:T.get H id=some B)(hi:id<n)(hb:id≠b):T.get H' id=some B:=(f.same id hi hb).trans h
theorem Kp.kx(f:Kp H n H' n'):Kx b H n H' n':=⟨f.le,λid h _=>f.same id h⟩
end
structure Own(G:AV)(H:Heap)(m n:Nat)(z:Nat)(v:V)(LS:D5):Prop where
 gr:Gr G H m z v LS
 lo:Lo v n
section
variable{G:AV}{H H':Heap}{m n n' b z:Nat}{v:V}{LS:D5}
theorem Own.el(h:Own G H m n z v LS)(hz:0<z):El G H v z LS:=h.gr.el hz
theorem Own.ge(h:Own G H m n z v LS){id:Nat}(hid:v.Qa=some id):m<=id:=(h.gr.lo hid).1
theorem Own.kx(h:Own G H m n z v LS)(f:Kx b H n H' n')(hb:b<m):Own G H' m n' z v LS:=
 ⟨h.gr.mono λid hid=>f.same id (h.lo id hid) (by have:=(h.gr.lo hid).1;omega),h.lo.mono f.le⟩
theorem Own.kp(h:Own G H m n z v LS)(f:Kp H n H' n'):Own G H' m n' z v LS:=⟨h.gr.mono λid hid=>f.same id (h.lo id hid),h.lo.mono f.le⟩
theorem Xp:Own G H m n z .Ae []:=⟨.nil,AVI⟩
end
def ADW:Nat->List V->List (Nat×X)
 |_,[]=>[]
 |i,v::vs=>(i,.c v)::ADW (i+1) vs
theorem AEV{z m:Nat}:∀(vs:List V) (i:Nat),i+vs.length<=m->(∀v∈vs,kD v=true/\(CZ v).length=z)->Zf (ADW i vs) E0 z m=true
 |[],_,_,_=>rfl
 |v::vs,i,h,hv=>by
  show band (band (kD v) (band (Nat.blt i m) (Nat.beq (len (CZ v)) z))) (Zf (ADW (i+1) vs) E0 z m)=true
  obtain⟨h1,h2⟩:=hv v (List.mem_cons_self ..)
  rw[h1,len_eq,h2,show Nat.blt i m=true by rw[Nat.blt_eq];simp at h;omega,Es,AEV vs (i+1) (by simp at h;omega) λw hw=>hv w (List.mem_cons_of_mem _ hw)];rfl
theorem AFg:∀(vs:List V) (i:Nat) (t:T LV) (j:Nat),T.get (lD (ADW i vs) E0 t) j=if i<=j/\j<i+vs.length then(vs[j-i]?).map CZ else T.get t j
 |[],i,t,j=>by rw[if_neg (by simp)];rfl
 |v::vs,i,t,j=>by
  show T.get (lD (ADW (i+1) vs) E0 (T.set t i (CZ v))) j=_
  rw[AFg vs (i+1)]
  by_cases h1:i+1<=j/\j<i+1+vs.length
  ·rw[if_pos h1,if_pos (by rw[List.length_cons];omega)]
   rw[show j-i=(j-(i+1))+1 by omega,List.getElem?_cons_succ]
  ·rw[if_neg h1,T.Ry]
   by_cases h2:i=j
   ·subst h2;rw[if_pos (by simp)];simp
   ·rw[if_neg h2,if_neg (by rw[List.length_cons];omega)]
theorem J9{G:AV}{z m:Nat}{Z:LV}{vs:List V}{H:Heap}{n:Nat}{P:KV}(hm:vs.length=m)(hz:0<z)(hv:∀v∈vs,kD v=true/\(CZ v).length=z)
 (h:∀H',Kp H n H' (n+1)->(∃t,T.get H' n=some (.arr z m t))->El G H' (.sl n 0 m m z) z (vs.map CZ)->P (.sl n 0 m m z) H' (n+1)):DY (Aj z m Z (ADW 0 vs) E0) H n P:=by
 show En (Zf (ADW 0 vs) E0 z m) (Ea n λn=>P (.sl n 0 m m z) (T.set H n (.arr z m (lD (ADW 0 vs) E0 (AKu Z m .e)))) (Nat.succ n))
 rw[AEV vs 0 (by omega) hv,qR,CO]
 refine h _ ((Kp.refl H n).new _ (Nat.le_refl _) (by omega)) ⟨_,T.DJ ..⟩ ⟨rfl,?_⟩
 show(Bool.rec (motive:=λ_=>Option D5) none (DK _ n z m 0) (Nat.beq z z):Option D5)=_
 rw[Es]
 refine iI _ _ _ (by simp[hm]) λi c hc=>?_
 have hlt:i<m:=by have:=(List.getElem?_eq_some_iff.1 hc).1;simp at this;omega
 rw[Nat.zero_add,zf (T.DJ ..) hz hlt,AFg,if_pos ⟨by omega,by omega⟩,Nat.sub_zero]
 simpa using hc
theorem AMY{id o m z:Nat}:AI5 z (.O5 id o (m+1) z) E0 (some (.c (.int .i64 (.ofNat 1) 0))) none none=some (.O5 id (o+1) m z):=by
 show BP (Nat.beq z z) (BP (band (Nat.ble 1 (m+1)) (Nat.ble (m+1) (m+1))) (f3 (o+1) (m+1-1) 0 λo d _=>.O5 id o d z))=_
 rw[Es,show Nat.ble 1 (m+1)=true by rw[Nat.ble_eq];omega,show Nat.ble (m+1) (m+1)=true by rw[Nat.ble_eq];omega]
 show Dz (o+1) (λa=>Dz (m+1-1) λb=>Dz 0 λ_=>some (.O5 id a b z))=_
 rw[CB,CB,CB];rfl
theorem AOf{G:AV}{H:Heap}{id o m z:Nat}{LS:D5}(h:El G H (.O5 id o m z) z LS):DK H id z m o=some LS:=by
 have h2:(Bool.rec (motive:=λ_=>Option D5) none (DK H id z m o) (Nat.beq z z):Option D5)=some LS:=h.2
 rw[Es]at h2;exact h2
theorem APu{G:AV}{H:Heap}{id o m z:Nat}{LS:D5}(h:DK H id z m o=some LS):El G H (.O5 id o m z) z LS:=by
 refine⟨rfl,?_⟩
 show(Bool.rec (motive:=λ_=>Option D5) none (DK H id z m o) (Nat.beq z z):Option D5)=some LS
 rw[Es];exact h
theorem APh{G:AV}{H:Heap}{id o m z:Nat}{L:LV}{LS:D5}(h:El G H (.O5 id o (m+1) z) z (L::LS)):El G H (.O5 id (o+1) m z) z LS:=by
 have h2:=AOf h
 have h3:DR (mW H id (Nat.mul o z) z) (λL=>DR (DK H id z m (Nat.succ o)) λLS=>some (L::LS))=some (L::LS):=h2
 rw[Bv]at h3
 obtain⟨L',_,h3⟩:=h3
 rw[Bv]at h3
 obtain⟨LS',h4,h3⟩:=h3
 cases h3
 exact APu h4
inductive Pw{α β:Type}(R:α->β->Prop):List α->List β->Prop where
 |nil:Pw R [] []
 |cons {a b l m} (h:R a b) (t:Pw R l m):Pw R (a::l) (b::m)
section
variable{α β:Type}{R S:α->β->Prop}
theorem Pw.len:∀{l:List α} {m:List β},Pw R l m->l.length=m.length
 |_,_,.nil=>rfl
 |_,_,.cons _ t=>by simp[t.len]
theorem Pw.app:∀{l l':List α} {m m':List β},Pw R l m->Pw R l' m'->Pw R (l++l') (m++m')
 |_,_,_,_,.nil,h=>h
 |_,_,_,_,.cons h t,h'=>.cons h (t.app h')
theorem Pw.at:∀{l:List α} {m:List β} (_:Pw R l m) {i:Nat} {b:β},m[i]? =some b->∃a,l[i]? =some a/\R a b
 |_,_,.nil,i,b,h=>by simp at h
 |_,_,.cons h t,0,b,hb=>by simp at hb;subst hb;exact⟨_,rfl,h⟩
 |_,_,.cons h t,i+1,b,hb=>by simp at hb;simpa using t.at hb
end
theorem AS5{H:Heap}{id e c i:Nat}{t:T LV}{L new:LV}(hg:T.get H id=some (.arr e c t))(he:0<e)(hi:i<c)(ht:T.get t i=some L):stH H id (i*e) e new=some (T.set H id (.arr e c (T.set t i new))):=by
 unfold stH
 rw[hg]
 show DR (stB e c t (i*e) e new) _=_
 unfold stB
 have hd:Nat.div (i*e) e=i:=Nat.mul_div_cancel i he
 have hm:Nat.mod (i*e) e=0:=Nat.mul_mod_left i e
 rw[hd,show Nat.blt i c=true by rw[Nat.blt_eq];exact hi]
 show DR (DR (T.get t i) (gI new e c t (i*e) e)) _=_
 rw[ht,cZ]
 unfold gI
 rw[hd,hm,Es]
 rfl
theorem AUs{H:Heap}{id e c i n:Nat}{t:T LV}{L:LV}{v:V}{P:KV}(hg:T.get H id=some (.arr e c t))(he:0<e)(hi:i<c)(ht:T.get t i=some L)(hv:kD v=true)(hn:(CZ v).length=e)
 (h:∀H',T.get H' id=some (.arr e c (T.set t i (CZ v)))->(∀j,j≠id->T.get H' j=T.get H j)->P .undef H' n):CP e (.ptr id (i*e)) v H n P:=by
 unfold CP
 rw[hv,len_eq,hn,Es,show stP (.ptr id (i*e)) H e (CZ v)=stH H id (i*e) e (CZ v)from rfl,AS5 hg he hi ht]
 exact h _ (T.DJ ..) λj hj=>T.BA _ _ (Ne.symm hj)
theorem AOw{id o m c z i:Nat}{q:IntKind}(h:i<m):BO z (.sl id o m c z) (.int q (.ofNat i) 0)=some (.ptr id ((o+i)*z)):=by
 show BP (band (Nat.beq z z) (Nat.blt i m)) (Dz (Nat.mul (Nat.add o i) z) λo=>some (.ptr id o))=_
 rw[Es,show Nat.blt i m=true by rw[Nat.blt_eq];exact h,CB];rfl
def uV:Nat->Nat->List UInt8
 |0,_=>[]
 |l+1,x=>uV l (x/10)++[UInt8.ofNat (48+x%10)]
def yw:Nat->Nat->Nat
 |0,_=>1
 |f+1,x=>if x<10 then 1 else yw f (x/10)+1
def Yo(x:Nat):List UInt8:=uV (yw 20 x) x
theorem Vl:∀l x,(uV l x).length=l
 |0,_=>rfl
 |l+1,x=>by unfold uV;rw[List.length_append,Vl];rfl
theorem AMt:∀(l x p:Nat),p<l->(uV l x)[p]? =some (UInt8.ofNat (48+x/10^(l-1-p)%10))
 |0,_,_,h=>by omega
 |l+1,x,p,h=>by
  unfold uV
  by_cases hp:p<l
  ·rw[List.getElem?_append_left (by rw[Vl];exact hp),AMt l (x/10) p hp,Nat.div_div_eq_div_mul]
   congr 5
   rw[show l+1-1-p=(l-1-p)+1 by omega,Nat.pow_succ,Nat.mul_comm]
  ·obtain rfl:p=l:=by omega
   rw[List.getElem?_append_right (by rw[Vl];omega),Vl,Nat.sub_self,show p+1-1-p=0 by omega]
   simp
theorem bF:∀f x,1<=yw f x
 |0,_=>Nat.le_refl 1
 |f+1,x=>by unfold yw;split<;>omega
theorem AAL:∀(f x d:Nat),x<10^f->1<=d->(d=yw f x↔(x<10^d/\(d=1∨10^(d-1)<=x)))
 |0,x,d,h,hd=>by
  have:x=0:=by simp at h;exact h
  subst this
  unfold yw
  constructor
  ·rintro rfl;exact⟨by decide,.inl rfl⟩
  ·rintro⟨_,h|h⟩
   ·exact h
   ·have:0<10^(d-1):=Nat.pow_pos (by decide);omega
 |f+1,x,d,h,hd=>by
  unfold yw
  by_cases hx:x<10
  ·rw[if_pos hx]
   constructor
   ·rintro rfl;exact⟨hx,.inl rfl⟩
   ·rintro⟨_,h|h⟩
    ·exact h
    ·by_cases h1:d=1
     ·exact h1
     ·have:10^1<=10^(d-1):=Nat.pow_le_pow_right (by decide) (by omega)
      omega
  ·rw[if_neg hx]
   have hdiv:x/10<10^f:=by rw[Nat.div_lt_iff_lt_mul (by decide)];rw[Nat.pow_succ]at h;exact h
   by_cases h1:d=1
   ·subst h1
    have:=bF f (x/10)
    constructor
    ·intro h;omega
    ·rintro⟨h,_⟩;omega
   ·have ih:=AAL f (x/10) (d-1) hdiv (by omega)
    have e1:d=yw f (x/10)+1↔d-1=yw f (x/10):=by omega
    rw[e1,ih]
    obtain⟨k,rfl⟩:∃k,d=k+2:=⟨d-2,by omega⟩
    have e2:k+2-1=k+1:=by omega
    have e3:k+1-1=k:=by omega
    rw[e2,e3]
    have p2:x/10<10^(k+1)↔x<10^(k+2):=by rw[Nat.div_lt_iff_lt_mul (by decide),<-Nat.pow_succ]
    have p1:10^k<=x/10↔10^(k+1)<=x:=by rw[Nat.le_div_iff_mul_le (by decide),<-Nat.pow_succ]
    rw[p2,p1]
    constructor
    ·rintro⟨a,b|b⟩
     ·have hk:k=0:=by omega
      subst hk
      exact⟨a,.inr (by simpa using Nat.not_lt.1 hx)⟩
     ·exact⟨a,.inr b⟩
    ·rintro⟨a,b|b⟩
     ·omega
     ·exact⟨a,.inr b⟩
def AN1:IntKind->Nat
 |.u8=>256|.u32=>4294967296|.u64=>18446744073709551616|.i64=>9223372036854775808|_=>0
theorem ASq{q:IntKind}{a:Nat}(h:a<AN1 q):inr q (.ofNat a)=true:=by
 cases q<;>first|(exact absurd h (Nat.not_lt_zero a))|(show Nat.blt a _=true;rw[Nat.blt_eq];exact h)
theorem zh{q:IntKind}{a:Nat}(h:a<AN1 q):Vz q (.ofNat a)=.ofNat a:=by
 unfold Vz;rw[ASq h]
theorem AJc(q:IntKind):keq q q=true:=by cases q<;>rfl
theorem ATv{q:IntKind}{a b:Nat}(h:a+b<AN1 q):B2.ev .add (.int q (.ofNat a) 0) (.int q (.ofNat b) 0)=some (.int q (.ofNat (a+b)) 0):=by
 have e:B2.ev .add (.int q (.ofNat a) 0) (.int q (.ofNat b) 0)=some (V.int q (Vz q (AGo (.ofNat a) (.ofNat b))) 0):=by cases q<;>rfl
 rw[e,AAU,show(Int.ofNat a+Int.ofNat b)=Int.ofNat (a+b)from rfl,zh h]
theorem AKk{q:IntKind}{a b:Nat}(h:a*b<AN1 q):B2.ev .mul (.int q (.ofNat a) 0) (.int q (.ofNat b) 0)=some (.int q (.ofNat (a*b)) 0):=by
 have e:B2.ev .mul (.int q (.ofNat a) 0) (.int q (.ofNat b) 0)=some (V.int q (Vz q (Int.mul (.ofNat a) (.ofNat b))) 0):=by cases q<;>rfl
 rw[e,show Int.mul (Int.ofNat a) (Int.ofNat b)=Int.ofNat (a*b)from rfl,zh h]
theorem AK3{q:IntKind}(a:Nat){m:Nat}(hm:0<m):B2.ev .rem (.int q (.ofNat a) 0) (.int q (.ofNat m) 0)=some (.int q (.ofNat (a%m)) 0):=by
 have:ieq (.ofNat m) 0=false:=by rw[fD];simp;omega
 show BP (band (keq q q) (band true (Yi (ieq (.ofNat m) 0)))) (mkN q (Int.tmod (.ofNat a) (.ofNat m)) 0)=_
 rw[this,AJc]
 show P5 (Int.tmod (.ofNat a) (.ofNat m)) (λm=>some (.int q m 0))=_
 rw[SC];rfl
theorem AKE{q:IntKind}{a m:Nat}(ha:a<AN1 q)(hm:0<m):B2.ev .quo (.int q (.ofNat a) 0) (.int q (.ofNat m) 0)=some (.int q (.ofNat (a/m)) 0):=by
 have:ieq (.ofNat m) 0=false:=by rw[fD];simp;omega
 show BP (band (keq q q) (band true (Yi (ieq (.ofNat m) 0)))) (mkI q (Int.tdiv (.ofNat a) (.ofNat m)) 0)=_
 rw[this,AJc]
 show mkI q (Int.tdiv (.ofNat a) (.ofNat m)) 0=_
 rw[show Int.tdiv (Int.ofNat a) (Int.ofNat m)=Int.ofNat (a/m)from rfl]
 show some (V.int q (Vz q (.ofNat (a/m))) 0)=_
 rw[zh (Nat.lt_of_le_of_lt (Nat.div_le_self ..) ha)]
theorem cvq{q r:IntKind}{a:Nat}(h:a<AN1 q):AA1 q (.int r (.ofNat a) 0)=some (.int q (.ofNat a) 0):=by
 show some (V.int q (Vz q (.ofNat a)) 0)=_
 rw[zh h]
theorem ASg{q r:IntKind}{a b:Nat}(hb:b<=ACj q):B2.ev .shr (.int q (.ofNat a) 0) (.int r (.ofNat b) 0)=some (.int q (.ofNat (a/2^b)) 0):=by
 show BP (band (Yi (ilt (.ofNat b) 0)) true) (P5 (AWj (.ofNat a) (Nat.min (Int.toNat (.ofNat b)) (ACj q))) λm=>some (.int q m 0))=_
 rw[show ilt (.ofNat b) 0=false from rfl,SC,show Nat.min (Int.toNat (.ofNat b)) (ACj q)=b from Nat.min_eq_left hb]
 show some (V.int q (Int.fdiv (a:Int) ((2^b:Nat):Int)) 0)=_
 rw[<-Int.ofNat_fdiv];rfl
theorem AWy{l:List UInt8}{i:Nat}{q:IntKind}(h:i<l.length):Kz (sB l) (.int q (.ofNat i) 0)=some (.int .u8 (.ofNat (l[i]).toNat) 0):=by
 show BP (Nat.blt i l.length) (Dz (AN3 (enc l) i) λb=>some (.int .u8 (.ofNat b) 0))=_
 rw[show Nat.blt i l.length=true by rw[Nat.blt_eq];exact h,CB,ADs l i h];rfl
theorem AQS{x:Nat}(h:x<256):Go.Eng.byteOf (.int .u8 (.ofNat x) 0)=some x:=by
 show Bool.rec (motive:=λ_=>Option Nat) none (some x) (band true (band (Nat.blt x 256) true))=_
 rw[show Nat.blt x 256=true by rw[Nat.blt_eq];exact h];rfl
theorem ACR:∀l:List UInt8,AAq (PE l)=some (enc l)
 |[]=>rfl
 |c::l=>by
  show DR (Go.Eng.byteOf (.int .u8 (.ofNat c.toNat) 0)) (λm=>DR (AAq (PE l)) λe=>some (m+256*e))=_
  rw[AQS c.toNat_lt,cZ,ACR l];rfl
theorem ALD{G:AV}{H:Heap}{v:V}{l:List UInt8}(h:El G H v 1 (PE l)):ANk v G H=some (sB l):=by
 unfold ANk
 rw[h.1,h.2,cZ,ACR,cZ]
 show Dz (len (PE l)) (λa=>Dz (enc l) λb=>Dz 0 λ_=>some (.str a b))=_
 rw[CB,CB,CB,len_eq]
 show some (V.str (PE l).length (enc l))=_
 rw[show(PE l).length=l.length from List.length_map ..];rfl
theorem AMh{id n a b:Nat}{q r:IntKind}(h1:a<=b)(h2:b<=n):ALf n 1 (.ptr id 0) (some (.c (.int q (.ofNat a) 0))) (some (.c (.int r (.ofNat b) 0)))=some (.sl id a (b-a) (n-a) 1):=by
 show BP (band (Nat.beq (Nat.mod 0 1) 0) (band (Nat.ble a b) (Nat.ble b n))) (f3 (Nat.add (Nat.div 0 1) a) (Nat.sub b a) (Nat.sub n a) λx y c=>.sl id x y c 1)=_
 rw[show Nat.ble a b=true by rw[Nat.ble_eq];exact h1,show Nat.ble b n=true by rw[Nat.ble_eq];exact h2]
 show Dz (0/1+a) (λx=>Dz (b-a) λy=>Dz (n-a) λc=>some (.sl id x y c 1))=_
 rw[CB,CB,CB,Nat.zero_div,Nat.zero_add]
end Go.Eng
namespace Go.Eng
open Go.ChangeShapes Go.WideShapes Go.RowKit
def AEI(R:TypeId->LV->Prop):List TypeId->LV->Prop
 |[],vs=>vs=[]
 |t::ts,vs=>∃L vs',vs=L++vs'/\R t L/\AEI R ts vs'
theorem ALh{R:TypeId->LV->Prop}{g:Field->LV}:∀fs:List Field,(∀f∈fs,R f.type (g f))->AEI R (fs.map (·.type)) (fs.map g).flatten
 |[],_=>rfl
 |f::fs,h=>⟨_,_,by simp,h f (List.mem_cons_self ..),ALh fs λf hf=>h f (List.mem_cons_of_mem _ hf)⟩
def ARn(P:Program)(S:List TypeId)(t:TypeId):Bool:=match P.underlying t with
 |some (.int _)=>true
 |some .bool=>true
 |some .string=>true
 |some (.slice e)=>decide (P.cellsOf e≠0)&&decide (e∈S)
 |some (.struct fs)=>o9 0 (fs.toList.map λf=>(f.offset,P.cellsOf f.type)) (P.cellsOf t)&&fs.toList.all λf=>decide (f.type∈S)
 |_=>false
def UC(P:Program)(G:AV):Nat->TypeId->LV->Prop
 |0,_,_=>False
 |d+1,t,vs=>match P.underlying t with
  |some (.int k)=>∃n,vs=[.int k n 0]
  |some .bool=>∃b,vs=[.bool b]
  |some .string=>∃s:List UInt8,s.length<=reachBytes/\vs=[.str s.length (enc s)]
  |some (.slice e)=>∃v LS,vs=[v]/\RSl v LS.length/\(∀H,El G H v (P.cellsOf e) LS)/\LS.length<=maxLen/\∀L∈LS,L.length=P.cellsOf e/\UC P G d e L
  |some (.struct fs)=>AEI (UC P G d) (fs.toList.map (·.type)) vs
  |_=>False
theorem AFh{P:Program}{H:Type}{b:Nat}:∀{ts:List TypeId} {ds:List (DataW H)} {i:Nat} {t:TypeId} {d:DataW H},(DataW.weightsEach P ts ds).all (· <=b)=true->ts[i]? =some t->ds[i]? =some d->(d.weights P t).all (· <=b)=true
 |t::ts,d::ds,0,_,_,h,rfl,rfl=>by
  have h:(d.weights P t++DataW.weightsEach P ts ds).all (· <=b)=true:=by simpa only[DataW.weightsEach]using h
  rw[List.all_append,Bool.and_eq_true]at h;exact h.1
 |t::ts,d::ds,i+1,_,_,h,h1,h2=>by
  have h:(d.weights P t++DataW.weightsEach P ts ds).all (· <=b)=true:=by simpa only[DataW.weightsEach]using h
  rw[List.all_append,Bool.and_eq_true]at h
  exact AFh (i:=i) h.2 (by simpa using h1) (by simpa using h2)
 |[],_,i,_,_,_,h,_=>by cases i<;>cases h
 |_::_,[],i,_,_,_,_,h=>by cases i<;>cases h
theorem AH7{P:Program}{H:Type}{b:Nat}{e:TypeId}:∀{ds:List (DataW H)} {d:DataW H},(DataW.weightsAll P e ds).all (· <=b)=true->d∈ds->(d.weights P e).all (· <=b)=true
 |d::ds,x,h,hx=>by
  have h:(d.weights P e++DataW.weightsAll P e ds).all (· <=b)=true:=by simpa only[DataW.weightsAll]using h
  rw[List.all_append,Bool.and_eq_true]at h
  rcases List.mem_cons.1 hx with rfl|hx
  ·exact h.1
  ·exact AH7 h.2 hx
theorem ABM{P:Program}{w:World}{H:Type}{enc':TypeId×Value->H}{held:Bool}{S:List TypeId}(hS:∀t∈S,ARn P S t=true):∀(fuel:Nat) {t:TypeId} {cs:List Value} {x:DataW H×List MemPlace},DataW.trod enc' P w 0 (λ_=>true) held fuel t cs=some x->t∈S->(x.1.weights P t).all (· <=reachBytes)=true->
 UC P (Ql w) fuel t (cs.map toV)/\(∀u∈cs,u.oneCell'=true)
 |0,_,_,_,h,_,_=>by simp[DataW.trod]at h
 |fuel+1,t,cs,x,h,ht,hw=>by
  have hs:=hS t ht
  unfold ARn at hs
  unfold UC
  split at hs
  ·rename_i k hu
   obtain⟨i,rfl,e,_⟩:=DataW.trod_int hu h
   try simp only[hu]
   exact⟨⟨i,rfl⟩,λu hu=>by simp at hu;subst hu;rfl⟩
  ·rename_i hu
   obtain⟨i,rfl,e⟩:=DataW.trod_bool hu h
   try simp only[hu]
   exact⟨⟨i,rfl⟩,λu hu=>by simp at hu;subst hu;rfl⟩
  ·rename_i hu
   obtain⟨s,rfl,e,hle⟩:=DataW.trod_string hu h
   rw[e]at hw
   simp only[DataW.weights,List.all_cons,List.all_nil,Bool.and_true,decide_eq_true_eq]at hw
   try simp only[hu]
   exact⟨⟨s.data.toList,hw,rfl⟩,λu hu=>by simp at hu;subst hu;rfl⟩
  ·rename_i e hu
   rw[Bool.and_eq_true,decide_eq_true_eq,decide_eq_true_eq]at hs
   obtain⟨hz,heS⟩:=hs
   try simp only[hu]
   rcases DataW.trod_slice hu h with⟨rfl,_⟩|⟨a,len,cap,elems,rest,n,hn,rfl,hxe,_,hle,hcap,hlen,hel,hsp,_⟩
   ·refine⟨⟨.Ae,[],?_,.inl ⟨rfl,rfl⟩,λH=>⟨rfl,rfl⟩,Nat.zero_le _,λL hL=>by cases hL⟩,λu hu=>by simp at hu;subst hu;rfl⟩
    simp[toV]
   ·have hn':fuel=n:=by omega
    subst hn'
    obtain⟨hrl,hrest⟩:=hsp rfl
    rw[hxe]at hw
    simp only[DataW.weights,hu,List.all_cons,List.all_append,Bool.and_eq_true]at hw
    refine⟨?_,λu hu=>by simp at hu;subst hu;rfl⟩
    have each:∀i,i<cap->∃cs',w.cells? 0 (a.add (i*P.cellsOf e)) (P.cellsOf e)=some cs'/\(i<len->UC P (Ql w) fuel e (cs'.map toV)/\∀u∈cs',u.oneCell'=true):=by
     intro i hi
     by_cases hil:i<len
     ·have h1:=hel i hil
      rw[List.getElem?_eq_getElem (by omega)]at h1
      cases hc:w.cells? 0 (a.add (i*P.cellsOf e)) (P.cellsOf e)with
      |none=>rw[hc]at h1;cases h1
      |some cs'=>
       rw[hc]at h1
       exact⟨cs',rfl,λ_=>ABM hS fuel h1 heS (AH7 hw.2.1 (List.mem_map_of_mem (List.getElem_mem (by omega))))⟩
     ·have h1:=hrest (i-len) (by omega)
      rw[List.getElem?_eq_getElem (by omega),show len+(i-len)=i by omega]at h1
      cases hc:w.cells? 0 (a.add (i*P.cellsOf e)) (P.cellsOf e)with
      |none=>rw[hc]at h1;cases h1
      |some cs'=>exact⟨cs',rfl,λh=>absurd h hil⟩
    have hspot:cap=0∨a.spot=none:=by
     rcases Nat.eq_zero_or_pos cap with h0|h0
     ·exact .inl h0
     ·obtain⟨cs',hc,_⟩:=each 0 h0
      obtain⟨hl,hg⟩:=ABk hc
      have h0:=hg 0 _ (List.getElem?_eq_getElem (by omega))
      have:=cell_spot h0
      simp only[Nat.zero_mul]at this
      unfold Addr.add at this
      simp only[if_true]at this
      exact .inr this
    have htv:toV (.slice (some a) len cap)=.rsl a.block a.off len cap 0:=by
     simp only[toV];rw[if_pos ⟨hle,hspot⟩]
    let LS:D5:=(List.range len).map λi=>((w.cells? 0 (a.add (i*P.cellsOf e)) (P.cellsOf e)).getD []).map toV
    have hLS:LS.length=len:=by simp[LS]
    have get:∀i L,LS[i]? =some L->i<len/\∃cs',w.cells? 0 (a.add (i*P.cellsOf e)) (P.cellsOf e)=some cs'/\L=cs'.map toV:=by
     intro i L hi
     have hlt:=(List.getElem?_eq_some_iff.1 hi).1
     rw[hLS]at hlt
     simp only[LS,List.getElem?_map,List.getElem?_range hlt,Option.map_some,Option.some.injEq]at hi
     obtain⟨cs',hc,_⟩:=each i (by omega)
     rw[hc]at hi
     exact⟨hlt,cs',hc,hi.symm⟩
    refine⟨.rsl a.block a.off len cap 0,LS,by simp[htv],.inr ⟨_,_,_,by rw[hLS],by omega,hcap⟩,λH=>?_,by omega,?_⟩
    ·rw[<-hLS]
     refine AWG λi L hi=>?_
     obtain⟨hlt,cs',hc,rfl⟩:=get i L hi
     obtain⟨hl,hg⟩:=ABk hc
     have hsn:a.spot=none:=by rcases hspot with h|h;omega;exact h
     obtain⟨cs2,hc2,hf⟩:=each i (by omega)
     rw[hc]at hc2;cases hc2
     refine ACk hl (hf hlt).2 λj u hj=>?_
     have:=hg j u hj
     rw[ASY hsn,add_lit]at this
     exact this
    ·intro L hL
     obtain⟨i,hi⟩:=List.mem_iff_getElem?.1 hL
     obtain⟨hlt,cs',hc,rfl⟩:=get i L hi
     obtain⟨cs2,hc2,hf⟩:=each i (by omega)
     rw[hc]at hc2;cases hc2
     exact⟨by simp[(ABk hc).1],(hf hlt).1⟩
  ·rename_i fs hu
   rw[Bool.and_eq_true]at hs
   obtain⟨hcon,hall⟩:=hs
   try simp only[hu]
   ·skip
    obtain⟨xs,n',hfe,e,hlen,hxl,hel⟩:=DataW.trod_struct hu h
    have hfe':fuel=n':=by omega
    subst hfe'
    have hflat:=au cs _ 0 (by rw[hlen];exact hcon)
    simp only[List.drop_zero,List.map_map]at hflat
    rw[e]at hw
    simp only[DataW.weights,hu]at hw
    have each:∀(f:Field),f∈fs.toList->UC P (Ql w) fuel f.type (((cs.drop f.offset).take (P.cellsOf f.type)).map toV)/\∀u∈(cs.drop f.offset).take (P.cellsOf f.type),u.oneCell'=true:=by
     intro f hf
     obtain⟨i,hi⟩:=List.mem_iff_getElem?.1 hf
     have h1:=hel i f (by simpa using hi)
     have hil:i<xs.length:=by rw[hxl];simpa using(List.getElem?_eq_some_iff.1 hi).1
     rw[List.getElem?_eq_getElem hil]at h1
     refine ABM hS fuel h1 (of_decide_eq_true (List.all_eq_true.1 hall f hf)) (AFh (i:=i) hw (by rw[List.getElem?_map,hi];rfl) (by rw[List.getElem?_map,List.getElem?_eq_getElem hil];rfl))
    constructor
    ·have:=ALh (R:=UC P (Ql w) fuel) (g:=λf=>((cs.drop f.offset).take (P.cellsOf f.type)).map toV) fs.toList λf hf=>(each f hf).1
     have e2:cs.map toV=(fs.toList.map λf=>((cs.drop f.offset).take (P.cellsOf f.type)).map toV).flatten:=by
      conv=>lhs;rw[hflat]
      rw[List.map_flatten,List.map_map];rfl
     rw[e2];exact this
    ·intro u hu'
     rw[hflat]at hu'
     obtain⟨l,hl,hul⟩:=List.mem_flatten.1 hu'
     obtain⟨f,hf,rfl⟩:=List.mem_map.1 hl
     exact(each f hf).2 u hul
  ·cases hs
end Go.Eng
