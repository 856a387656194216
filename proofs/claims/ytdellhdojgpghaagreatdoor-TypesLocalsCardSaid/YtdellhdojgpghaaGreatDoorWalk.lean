/- Part of a proof; nothing is assumed. -/
import Derived.Test.YtdellhdojgpghaaGreatDoorEngF
import Derived.Attr
import Derived.Test.YtdellhdojgpghaaGreatDoorEngE
set_option linter.unusedVariables false
set_option linter.unusedSimpArgs false
namespace Go.Bj
section
variable{G:AV}{H:Heap}{id off m:Nat}{L:LV}{v:V}
theorem AX(h:T.get H id=some (one L))(hl:L[off]? =some v):Aa (.ptr id off) G H=some v:=by
 obtain⟨hlt,he⟩:=List.getElem?_eq_some_iff.1 hl
 rw[ADs,vH,ANr h (by omega) (by omega),AJH,kQ]
 rw[List.getElem?_take]
 simp[hl]
theorem Dz(h:T.get H id=some (one L))(hm:0<m)(hl:off+m<=L.length):Ah m (.ptr id off) G H=some (.agg ((L.drop off).take m)):=by
 rw[AHZ,vH,ANr h hm hl,AJH]
theorem AJt{n:Nat}{k:KV}(h:T.get H id=some (one L))(hv:Wi v=true)(hn:(BA v).length=m)(hm:0<m)(hl:off+m<=L.length):
 Bd m (.ptr id off) v H n k=k .undef (T.set H id (one (L.take off++(BA v++L.drop (off+m))))) n:=by
 have hs:stP (.ptr id off) H m (BA v)=some (T.set H id (one (L.take off++(BA v++L.drop (off+m))))):=AXW h hm hn hl
 unfold Bd
 rw[hv,len_eq,hn]
 have hb:band true (Nat.beq m m)=true:=by simp
 rw[hb,hs];rfl
theorem Aw(h:T.get H id=some (one L))(hm:0<m)(hl:L.length=m):Ah m (.ptr id 0) G H=some (.agg L):=by
 rw[Dz h hm (by omega),List.drop_zero,List.take_of_length_le (by omega)]
theorem IY{n:Nat}{k:KV}{L':LV}(h:T.get H id=some (one L))(hm:0<m)(hl:L.length=m)(hn:L'.length=m):
 Bd m (.ptr id 0) (.agg L') H n k=k .undef (T.set H id (one L')) n:=by
 rw[AJt h (by rfl) (by exact hn) hm (by omega)]
 have:L.take 0++(BA (.agg L')++L.drop (0+m))=L':=by
  show[]++(L'++L.drop (0+m))=L'
  rw[List.drop_eq_nil_of_le (by omega)];simp
 rw[this]
theorem AP5:CP [] G H=some []:=rfl
theorem AED{rest:List AVr}:CP (.t v::rest) G H=Bl (CP rest G H) λvs=>some (v::vs):=rfl
theorem BU{rest:List AVr}(h:T.get H id=some (one L))(hm:0<m)(hl:L.length=m):CP (.cn (.ptr id 0) m::rest) G H=Bl (CP rest G H) λvs=>some (.agg L::vs):=by
 show Bl (Ah m (.ptr id 0) G H) (λv=>Bl (CP rest G H) λvs=>some (v::vs))=_
 rw[Aw h hm hl];rfl
end
structure SL(G:AV)(v:V)(z:Nat)(LS:CJ):Prop where
 mk'::
 is:(v=.Af/\LS=[])∨∃b off cap,v=.rsl b off LS.length cap z/\∀i c,LS[i]? =some c->c.length=z/\G b (off+i*z) z=some c
theorem QJ{α β:Type}(a:α)(f:α->Option β):Bl (some a) f=f a:=rfl
theorem Aag(a:V):EG [a]=a:=rfl
theorem Aam(a b:V)(l:LV):EG (a::b::l)=.EI (a::b::l):=rfl
theorem ACl(a b l c:Nat):Dw (.one .str) false (.str a b) (.str l c)=some (.bool (decide (a=l/\b=c))):=by
 show ofB (Qg (some (band (Nat.beq a l) (Nat.beq b c))) λb=>some b)=_
 have:band (Nat.beq a l) (Nat.beq b c)=decide (a=l/\b=c):=by rw[BO,Bool.eq_iff_iff];simp
 rw[this];cases decide (a=l/\b=c)<;>rfl
theorem GV{i:Nat}(h:i+1<9223372036854775808):B2.ev .add (.int .i64 (.ofNat i) 0) (.int .i64 (.ofNat 1) 0)=some (.int .i64 (.ofNat (i+1)) 0):=by
 show some (V.int .i64 (YP .i64 (AFv (.ofNat i) (.ofNat 1))) 0)=_
 rw[Qn,kH,RG (by simp;omega) (by simp;omega)];rfl
structure Kp(H:Heap)(n:Nat)(H':Heap)(n':Nat):Prop where
 le:n<=n'
 same:∀id,id<n->T.get H' id=T.get H id
theorem Kp.refl(H:Heap)(n:Nat):Kp H n H n:=⟨Nat.le_refl _,λ_ _=>rfl⟩
theorem Kp.trans{H H' H'':Heap}{n n' n'':Nat}(a:Kp H n H' n')(b:Kp H' n' H'' n''):Kp H n H'' n'':=⟨Nat.le_trans a.le b.le,λid h=>(b.same id (Nat.lt_of_lt_of_le h a.le)).trans (a.same id h)⟩
theorem Kp.new{H0 H:Heap}{n0 n id:Nat}(a:Kp H0 n0 H n)(b:Qc)(h:n0<=id){m:Nat}(hm:n<=m):Kp H0 n0 (T.set H id b) m:=
 ⟨Nat.le_trans a.le hm,λj hj=>by rw[T.Ad _ _ (by omega)];exact a.same j hj⟩
theorem FB{σ:Type}{b:(σ->Prop)->σ->Prop}{J:Nat->σ->Prop}(h:∀I m s,J m s->(∀m' s',m'<m->J m' s'->I s')->b I s){m:Nat}{s:σ}(h0:J m s):lfp σ b s:=by
 intro I hI
 induction m using Nat.strongRecOn generalizing s with
 |_ m ih=>exact hI s (h I m s h0 λm' s' hlt hs=>ih m' hlt hs)
section
variable{G:AV}{H:Heap}{i j o m n:Nat}{L L':LV}{v w:V}{k:KV}{b:Qc}
theorem AVp{z:Nat}{P:KV}(h:L.length=z):CB (Ap z [L] E0) H n P=P (.ptr n 0) (T.set H n (one L)) (n+1):=AOs h
theorem AWd(h:L[o]? =some v):Aa (.ptr i o) G (T.set H i (one L))=some v:=AX (T.Au ..) h
theorem AXz:Aa (.ptr i 0) G (T.set H i (one (v::L)))=some v:=AWd rfl
theorem AOg(hl:L.length=m)(h:0<m):Ah m (.ptr i 0) G (T.set H i (one L))=some (.agg L):=Aw (T.Au ..) h hl
theorem AY6(h:i≠j):Aa (.ptr i o) G (T.set H j b)=Aa (.ptr i o) G H:=by
 rw[ADs,ADs,vH,vH];unfold aB;rw[T.Ad _ _ (Ne.symm h)]
theorem AYZ(h:i≠j):Ah m (.ptr i o) G (T.set H j b)=Ah m (.ptr i o) G H:=by
 rw[AHZ,AHZ,vH,vH];unfold aB;rw[T.Ad _ _ (Ne.symm h)]
theorem APf(hl:L.length=m)(h:0<m)(hn:L'.length=m):Bd m (.ptr i 0) (.agg L') (T.set H i (one L)) n k=k .undef (T.set (T.set H i (one L)) i (one L')) n:=IY (T.Au ..) h hl hn
end
theorem AVT(L:LV):Wi (.agg L)=true:=rfl
theorem AVX(l c:Nat):Wi (.str l c)=true:=rfl
theorem AUm(k:IntKind)(a:Int)(s:Nat):Wi (.int k a s)=true:=rfl
theorem ARn(b:Bool):Wi (.bool b)=true:=rfl
theorem AXO(L:LV):BA (.agg L)=L:=rfl
theorem AYp(l c:Nat):BA (.str l c)=[.str l c]:=rfl
theorem AXj(k:IntKind)(a:Int)(s:Nat):BA (.int k a s)=[.int k a s]:=rfl
theorem AVV(b:Bool):BA (.bool b)=[.bool b]:=rfl
theorem AYk(L:LV)(H:Heap)(n:Nat)(P:KV):CB (Fg (.agg L)) H n P=P (.ptr n 0) (T.set H n (one L)) (n+1):=AWr rfl
theorem AdJ(n:Nat):n≠n+1:=by omega
theorem AUn{G:AV}{H:Heap}{i:Nat}{L:LV}{a0 v:V}:Aa (.ptr i 1) G (T.set H i (one (a0::v::L)))=some v:=AWd rfl
theorem AZy(a0 a1:V){G:AV}{H:Heap}{i:Nat}:Ah 2 (.ptr i 0) G (T.set H i (one [a0,a1]))=some (.agg [a0,a1]):=AOg rfl (by omega)
theorem AXt(a0 a1 b0 b1:V){H:Heap}{i n:Nat}{k:KV}:Bd 2 (.ptr i 0) (.agg [b0,b1]) (T.set H i (one [a0,a1])) n k=k .undef (T.set (T.set H i (one [a0,a1])) i (one [b0,b1])) n:=APf rfl (by omega) rfl
theorem AbA(a0 a1:V){G:AV}{H:Heap}{i:Nat}{r:List AVr}:CP (.cn (.ptr i 0) 2::r) G (T.set H i (one [a0,a1]))=Bl (CP r G (T.set H i (one [a0,a1]))) λvs=>some (.agg [a0,a1]::vs):=BU (T.Au ..) (by omega) rfl
theorem AZA(a0 a1 a2 b0 b1 b2:V){H:Heap}{i n:Nat}{k:KV}:Bd 3 (.ptr i 0) (.agg [b0,b1,b2]) (T.set H i (one [a0,a1,a2])) n k=k .undef (T.set (T.set H i (one [a0,a1,a2])) i (one [b0,b1,b2])) n:=APf rfl (by omega) rfl
theorem Aa6(a0 a1 a2 a3:V){G:AV}{H:Heap}{i:Nat}:Ah 4 (.ptr i 0) G (T.set H i (one [a0,a1,a2,a3]))=some (.agg [a0,a1,a2,a3]):=AOg rfl (by omega)
theorem AZM(a0 a1 a2 a3 b0 b1 b2 b3:V){H:Heap}{i n:Nat}{k:KV}:Bd 4 (.ptr i 0) (.agg [b0,b1,b2,b3]) (T.set H i (one [a0,a1,a2,a3])) n k=k .undef (T.set (T.set H i (one [a0,a1,a2,a3])) i (one [b0,b1,b2,b3])) n:=APf rfl (by omega) rfl
theorem AaO(a0 a1 a2 a3 a4:V){G:AV}{H:Heap}{i:Nat}:Ah 5 (.ptr i 0) G (T.set H i (one [a0,a1,a2,a3,a4]))=some (.agg [a0,a1,a2,a3,a4]):=AOg rfl (by omega)
theorem AXo(a0 a1 a2 a3 a4 b0 b1 b2 b3 b4:V){H:Heap}{i n:Nat}{k:KV}:Bd 5 (.ptr i 0) (.agg [b0,b1,b2,b3,b4]) (T.set H i (one [a0,a1,a2,a3,a4])) n k=k .undef (T.set (T.set H i (one [a0,a1,a2,a3,a4])) i (one [b0,b1,b2,b3,b4])) n:=APf rfl (by omega) rfl
attribute [go_sem] AYk AVp AXz AOg AY6 AYZ APf AU Qe UF A8 Ak AWP AWu Abh Aaz AdC AaB Abb Abp AZ4 Ac3 AVU AUa AY AOT AUT ZF ZN ANn QJ Aag Aam AP5 AED AVT AVX AUm ARn AXO AYp AXj AVV
attribute [go_sem] ne_eq AdJ AUn not_false_eq_true List.length_cons List.length_nil Nat.zero_add
attribute [go_sem] AZy AXt AbA AZA Aa6 AZM AaO AXo
theorem Kr{H:Heap}{id z:Nat}:∀(n o:Nat) {LS:CJ},BZ H id z n o=some LS->LS.length=n/\∀i c,LS[i]? =some c->aB H id ((o+i)*z) z=some c
 |0,o,LS,h=>by cases h;exact⟨rfl,λi c hc=>by simp at hc⟩
 |n+1,o,LS,h=>by
  have h':Bl (aB H id (Nat.mul o z) z) (λL=>Bl (BZ H id z n (Nat.succ o)) λLS=>some (L::LS))=some LS:=h
  rw[Bg]at h'
  obtain⟨L,hL,h'⟩:=h'
  rw[Bg]at h'
  obtain⟨LS',hLS,h'⟩:=h'
  cases h'
  obtain⟨h1,h2⟩:=Kr n (o+1) hLS
  refine⟨by simp[h1],λi c hc=>?_⟩
  cases i with
  |zero=>simp at hc;subst hc;exact hL
  |succ i=>simp at hc;rw[show o+(i+1)=o+1+i by omega];exact h2 i c hc
theorem Zf{G:AV}{b z:Nat}:∀(n o:Nat) {LS:CJ},dM G b z n o=some LS->LS.length=n/\∀i c,LS[i]? =some c->G b (o+i*z) z=some c
 |0,o,LS,h=>by cases h;exact⟨rfl,λi c hc=>by simp at hc⟩
 |n+1,o,LS,h=>by
  have h':Bl (G b o z) (λL=>Bl (dM G b z n (Nat.add o z)) λLS=>some (L::LS))=some LS:=h
  rw[Bg]at h'
  obtain⟨L,hL,h'⟩:=h'
  rw[Bg]at h'
  obtain⟨LS',hLS,h'⟩:=h'
  cases h'
  obtain⟨h1,h2⟩:=Zf n (o+z) hLS
  refine⟨by simp[h1],λi c hc=>?_⟩
  cases i with
  |zero=>simp at hc;subst hc;simpa using hL
  |succ i=>simp at hc;rw[show o+(i+1)*z=o+z+i*z by rw[Nat.add_mul];omega];exact h2 i c hc
def El(G:AV)(H:Heap)(v:V)(z:Nat)(LS:CJ):Prop:=isStr v=false/\elems v G H z=some LS
theorem El.len{G:AV}{H:Heap}{v:V}{z:Nat}{LS:CJ}(h:El G H v z LS):lenV v=some (.int .i64 (.ofNat LS.length) 0):=by
 obtain⟨hs,h⟩:=h
 cases v<;>try (cases h;done)
 ·cases hs
 ·cases h;rfl
 ·rename_i id off n c e
  cases hb:Nat.beq e z with
  |false=>have h':(Bool.rec (motive:=λ_=>Option CJ) none (BZ H id z n off) (Nat.beq e z):Option CJ)=some LS:=h;rw[hb]at h';cases h'
  |true=>
   have h':(Bool.rec (motive:=λ_=>Option CJ) none (BZ H id z n off) (Nat.beq e z):Option CJ)=some LS:=h
   rw[hb]at h';rw[(Kr _ _ h').1];rfl
 ·rename_i id off n e
  cases hb:Nat.beq e z with
  |false=>have h':(Bool.rec (motive:=λ_=>Option CJ) none (BZ H id z n off) (Nat.beq e z):Option CJ)=some LS:=h;rw[hb]at h';cases h'
  |true=>
   have h':(Bool.rec (motive:=λ_=>Option CJ) none (BZ H id z n off) (Nat.beq e z):Option CJ)=some LS:=h
   rw[hb]at h';rw[(Kr _ _ h').1];rfl
 ·rw[(Zf _ _ h).1];rfl
theorem El.at{G:AV}{H:Heap}{v:V}{z:Nat}{LS:CJ}(h:El G H v z LS){i:Nat}{c:LV}(hi:LS[i]? =some c):
 ∃p,BJ z v (.int .i64 (.ofNat i) 0)=some p/\ldP p G H z=some c:=by
 obtain⟨hs,h⟩:=h
 obtain⟨hlt,_⟩:=List.getElem?_eq_some_iff.1 hi
 cases v<;>try (cases h;done)
 ·cases hs
 ·cases h;simp at hlt
 ·rename_i id off n cp e
  have h':(Bool.rec (motive:=λ_=>Option CJ) none (BZ H id z n off) (Nat.beq e z):Option CJ)=some LS:=h
  cases hb:Nat.beq e z with
  |false=>rw[hb]at h';cases h'
  |true=>
   rw[hb]at h'
   obtain⟨h1,h2⟩:=Kr _ _ h'
   refine⟨.ptr id ((off+i)*z),?_,h2 i c hi⟩
   show BF (band (Nat.beq e z) (Nat.blt i n)) (CW (Nat.mul (Nat.add off i) z) λo=>some (.ptr id o))=_
   rw[hb,show Nat.blt i n=true by rw[Nat.blt_eq];omega,BP];rfl
 ·rename_i id off n e
  have h':(Bool.rec (motive:=λ_=>Option CJ) none (BZ H id z n off) (Nat.beq e z):Option CJ)=some LS:=h
  cases hb:Nat.beq e z with
  |false=>rw[hb]at h';cases h'
  |true=>
   rw[hb]at h'
   obtain⟨h1,h2⟩:=Kr _ _ h'
   refine⟨.ptr id ((off+i)*z),?_,h2 i c hi⟩
   show BF (band (Nat.beq e z) (Nat.blt i n)) (CW (Nat.mul (Nat.add off i) z) λo=>some (.ptr id o))=_
   rw[hb,show Nat.blt i n=true by rw[Nat.blt_eq];omega,BP];rfl
 ·rename_i b off n cp e
  obtain⟨h1,h2⟩:=Zf _ _ h
  refine⟨.gptr b (off+i*z),?_,h2 i c hi⟩
  show BF (Nat.blt i n) (CW (Nat.add off (Nat.mul i z)) λo=>some (.gptr b o))=_
  rw[show Nat.blt i n=true by rw[Nat.blt_eq];omega,BP];rfl
theorem EM{G:AV}{H:Heap}{p:V}{z:Nat}{c:LV}(h:ldP p G H z=some c):Ah z p G H=some (.agg c):=by rw[AHZ,h];rfl
theorem Zz{G:AV}{H:Heap}{p v:V}(h:ldP p G H 1=some [v]):Aa p G H=some v:=by rw[ADs,h];rfl
noncomputable def V.Dl(v:V):Option Nat:=match v with|.sl id .. =>some id|.G6 id .. =>some id|_=>none
theorem El.same{G:AV}{H H':Heap}{v:V}{z:Nat}{LS:CJ}(h:El G H v z LS)(hs:∀id,v.Dl=some id->T.get H' id=T.get H id):El G H' v z LS:=by
 refine⟨h.1,?_⟩
 have hB:∀id,v.Dl=some id->∀n o,BZ H' id z n o=BZ H id z n o:=by
  intro id hid n
  induction n with
  |zero=>intro o;rfl
  |succ n ih=>
   intro o
   show Bl (aB H' id (Nat.mul o z) z) (λL=>Bl (BZ H' id z n (Nat.succ o)) λLS=>some (L::LS))=Bl (aB H id (Nat.mul o z) z) (λL=>Bl (BZ H id z n (Nat.succ o)) λLS=>some (L::LS))
   rw[ih];unfold aB;rw[hs id hid]
 have h2:=h.2
 cases v<;>try exact h2
 ·rename_i id off n c e
  show(Bool.rec (motive:=λ_=>Option CJ) none (BZ H' id z n off) (Nat.beq e z):Option CJ)=some LS
  rw[hB id rfl];exact h2
 ·rename_i id off n e
  show(Bool.rec (motive:=λ_=>Option CJ) none (BZ H' id z n off) (Nat.beq e z):Option CJ)=some LS
  rw[hB id rfl];exact h2
theorem T.ACn{α:Type}(a b:α):∀(p:P2) (t:T α),T.aG b p (T.aG a p t)=T.aG b p t
 |.h,t=>rfl
 |.z p,t=>by show T.n t.val (T.aG b p (T.aG a p t.left)) t.right=T.n t.val (T.aG b p t.left) t.right;rw[T.ACn a b p]
 |.o p,t=>by show T.n t.val t.left (T.aG b p (T.aG a p t.right))=T.n t.val t.left (T.aG b p t.right);rw[T.ACn a b p]
theorem T.set_set{α:Type}(t:T α)(k:Nat)(a b:α):T.set (T.set t k a) k b=T.set t k b:=T.ACn ..
theorem Kp.get{H H':Heap}{n n' id:Nat}{b:Qc}(f:Kp H n H' n')(h:T.get H id=some b)(hi:id<n):T.get H' id=some b:=(f.same id hi).trans h
theorem Kp.set{H0 H:Heap}{n0 n id:Nat}(a:Kp H0 n0 H n)(b:Qc)(h:n0<=id):Kp H0 n0 (T.set H id b) n:=a.new b h (Nat.le_refl _)
theorem CG{σ:Type}{b:(σ->Prop)->σ->Prop}{N:Nat}{J:Nat->σ->Prop}(hs:∀I i s,i<N->J i s->(∀s',J (i+1) s'->I s')->b I s)(he:∀I s,J N s->b I s){s:σ}(h0:J 0 s):lfp σ b s:=by
 refine FB (J:=λm s=>∃i,m=N-i/\i<=N/\J i s) ?_ (m:=N) ⟨0,rfl,Nat.zero_le _,h0⟩
 rintro I m s ⟨i,rfl,hi,hj⟩ ih
 rcases Nat.lt_or_ge i N with h|h
 ·exact hs I i s h hj λs' hj'=>ih _ s' (by omega) ⟨i+1,rfl,h,hj'⟩
 ·have:i=N:=by omega
  subst this;exact he I s hj
section
variable{H:Heap}{n z:Nat}{L:LV}{P:KV}
theorem APU{v:V}(hv:Wi v=true)(h:∀H',Kp H n H' (n+1)->T.get H' n=some (one (BA v))->P (.ptr n 0) H' (n+1)):CB (Fg v) H n P:=by
 rw[AWr hv];exact h _ ((Kp.refl H n).new _ (Nat.le_refl _) (by omega)) (T.Au ..)
theorem Ei(h:∀H',Kp H n H' (n+1)->T.get H' n=some (one L)->P (.ptr n 0) H' (n+1)):CB (Fg (.agg L)) H n P:=APU rfl h
theorem Ar(hL:L.length=z)(h:∀H',Kp H n H' (n+1)->T.get H' n=some (one L)->P (.ptr n 0) H' (n+1)):CB (Ap z [L] E0) H n P:=by
 rw[AOs hL];exact h _ ((Kp.refl H n).new _ (Nat.le_refl _) (by omega)) (T.Au ..)
theorem AZ6{L':LV}(hL:L.length=z)(hL':L'.length=z)(hz:0<z)(h:∀H',Kp H n H' (n+1)->T.get H' n=some (one L')->P .undef H' (n+1)):
 Bd z (.ptr n 0) (.agg L') (T.set H n (one L)) (n+1) P:=by
 rw[APf hL hz hL',T.set_set];exact h _ ((Kp.refl H n).new _ (Nat.le_refl _) (by omega)) (T.Au ..)
theorem Em{i o m:Nat}{L:LV}{v:V}(hg:T.get H i=some (one L))(hv:Wi v=true)(hn:(BA v).length=m)(hm:0<m)(hl:o+m<=L.length)
 (h:∀H',T.get H' i=some (one (L.take o++(BA v++L.drop (o+m))))->(∀j,j≠i->T.get H' j=T.get H j)->P .undef H' n):Bd m (.ptr i o) v H n P:=by
 rw[AJt hg hv hn hm hl];exact h _ (T.Au ..) λj hj=>T.Ad _ _ (Ne.symm hj)
end
theorem ABp{H:Heap}{id e c i:Nat}{t:T LV}(hg:T.get H id=some (.arr e c t))(he:0<e)(hi:i<c):aB H id (i*e) e=T.get t i:=by
 unfold aB;rw[hg]
 show ldB e c t (i*e) e=_
 unfold ldB
 have hdiv:i*e/e=i:=Nat.mul_div_cancel _ he
 have hmod:i*e%e=0:=Nat.mul_mod_left ..
 have hb:Nat.blt (Nat.div (i*e) e) c=true:=by rw[Nat.blt_eq];show i*e/e<c;omega
 rw[hb]
 show Bl (T.get t (Nat.div (i*e) e)) (ldC e (i*e) e)=_
 rw[show Nat.div (i*e) e=i from hdiv]
 cases h:T.get t i with
 |none=>rfl
 |some L=>
  show ldC e (i*e) e L=_
  unfold ldC
  rw[show Nat.mod (i*e) e=0 from hmod,show band (Nat.beq e e) (Nat.beq 0 0)=true by simp]
theorem WY{H:Heap}{id z:Nat}:∀(n o:Nat) (LS:CJ),LS.length=n->(∀i c,LS[i]? =some c->aB H id ((o+i)*z) z=some c)->BZ H id z n o=some LS
 |0,o,LS,hl,_=>by cases LS with|nil=>rfl|cons a l=>simp at hl
 |n+1,o,LS,hl,h=>by
  cases LS with
  |nil=>simp at hl
  |cons a l=>
   show Bl (aB H id (Nat.mul o z) z) (λL=>Bl (BZ H id z n (Nat.succ o)) λLS=>some (L::LS))=_
   have h0:=h 0 a rfl
   rw[show Nat.mul o z=(o+0)*z from rfl,h0,QJ,WY n (o+1) l (by simpa using hl) λi c hc=>by
    have:=h (i+1) c (by simpa using hc);rwa [show o+(i+1)=o+1+i by omega]at this]
   rfl
inductive Gr(G:AV)(H:Heap)(m:Nat)(z:Nat):V->CJ->Prop where
 |nil:Gr G H m z .Af []
 |G6 {id c:Nat} {t:T LV} {LS:CJ} (hg:T.get H id=some (.arr z c t)) (hc:LS.length<=c) (ht:∀i L,LS[i]? =some L->T.get t i=some L) (hid:m<=id):Gr G H m z (.G6 id 0 LS.length z) LS
theorem CQ(z:Nat):Nat.beq z z=true:=by simp
theorem Gr.el{G:AV}{H:Heap}{m z:Nat}{v:V}{LS:CJ}(h:Gr G H m z v LS)(hz:0<z):El G H v z LS:=by
 cases h with
 |nil=>exact⟨rfl,rfl⟩
 |G6 hg hc ht hid=>
  rename_i id c t
  refine⟨rfl,?_⟩
  show(Bool.rec (motive:=λ_=>Option CJ) none (BZ H id z LS.length 0) (Nat.beq z z):Option CJ)=some LS
  rw[CQ]
  exact WY _ _ _ rfl λi L hi=>by
   have hlt:=(List.getElem?_eq_some_iff.1 hi).1
   rw[Nat.zero_add,ABp hg hz (by omega)];exact ht i L hi
theorem Gr.mono{G:AV}{H H':Heap}{m z:Nat}{v:V}{LS:CJ}(h:Gr G H m z v LS)(hs:∀id,v.Dl=some id->T.get H' id=T.get H id):Gr G H' m z v LS:=by
 cases h with
 |nil=>exact .nil
 |G6 hg hc ht hid=>exact .G6 (hs _ rfl▸hg) hc ht hid
theorem Gr.lo{G:AV}{H:Heap}{m z:Nat}{v:V}{LS:CJ}(h:Gr G H m z v LS){id:Nat}(hid:v.Dl=some id):m<=id/\∃c t,T.get H id=some (.arr z c t):=by
 cases h with
 |nil=>cases hid
 |G6 hg hc ht hi=>cases hid;exact⟨hi,_,_,hg⟩
theorem Pj{a b:Nat}(h:a*b<=140737488355328):Lm a b=true:=by unfold Lm;rw[Nat.ble_eq];exact h
theorem AEo{id ln z bs c n:Nat}{t:T LV}{NS:CJ}{H:Heap}{k:KV}(hr:Lm (ln+NS.length) bs=true)(hc:ln<=c):
 Yx id 0 ln z bs NS H n k (.arr z c t)=k (.G6 n 0 (ln+NS.length) z) (T.set (T.set H id .dead) n (.arr z (ln+NS.length) (Ew NS ln t))) (n+1):=by
 show DU (Nat.add ln (len NS)) (λneed=>EJ (band (Lm need bs) (band (Nat.beq z z) (Nat.ble (Nat.add 0 ln) c))) (DU n λn=>k (.G6 n 0 need z) (T.set (T.set H id .dead) n (.arr z need (Ew NS ln t))) (Nat.succ n)))=_
 rw[BL,BL,len_eq]
 show EJ (band (Lm (ln+NS.length) bs) (band (Nat.beq z z) (Nat.ble (Nat.add 0 ln) c))) (k (.G6 n 0 (ln+NS.length) z) (T.set (T.set H id .dead) n (.arr z (ln+NS.length) (Ew NS ln t))) (n+1))=_
 rw[hr,CQ,show Nat.ble (Nat.add 0 ln) c=true by rw[Nat.ble_eq];show 0+ln<=c;omega]
 rfl
theorem Gr.app{G:AV}{H:Heap}{m n z bs:Nat}{v w:V}{LS NS:CJ}{k:KV}(h:Gr G H m z v LS)(hm:m<=n)(hn:∀id,v.Dl=some id->id<n)(hw:elems w G H z=some NS)
 (hb:(LS.length+NS.length)*bs<=140737488355328)
 (hk:∀v' H',Gr G H' m z v' (LS++NS)->(∀id,id<n->v.Dl≠some id->T.get H' id=T.get H id)->(∀id,v'.Dl=some id->id<n+1)->k v' H' (n+1))
 (hk0:NS=[]->k v H n):Oq z bs v w G H n k:=by
 unfold Oq
 rw[hw,Qe]
 cases h with
 |nil=>
  cases NS with
  |nil=>exact hk0 rfl
  |cons a NS=>
   show Gv z bs [] (a::NS) H n k
   unfold Gv
   rw[BL,BL,len_eq,len_eq,show Lm (Nat.add ([]:CJ).length (a::NS).length) bs=true from Pj hb,UF]
   have e:Nat.add ([]:CJ).length (a::NS).length=(a::NS).length:=Nat.zero_add _
   rw[e]
   refine hk _ _ ?_ (λid hid _=>T.Ad _ _ (by omega)) (λid hid=>by cases hid;omega)
   refine .G6 (LS:=a::NS) (T.Au ..) (Nat.le_refl _) (λi L hi=>?_) hm
   show T.get (Ew (a::NS) 0 .e) i=some L
   have hlt:=(List.getElem?_eq_some_iff.1 hi).1
   rw[D9,if_pos ⟨Nat.zero_le _,by omega⟩];exact hi
 |G6 hg hc ht hid=>
  rename_i id c t
  show EJ (Nat.beq z z) _
  rw[CQ,UF]
  cases NS with
  |nil=>exact hk0 rfl
  |cons a NS=>
   show EN (T.get H id) (λb=>Yx id 0 LS.length z bs (a::NS) H n k b)
   rw[hg,Qe]
   rw[AEo (Pj hb) hc,show LS.length+(a::NS).length=(LS++a::NS).length by rw[List.length_append]]
   refine hk _ _ ?_ (λj hj hne=>?_) (λj hj=>by cases hj;omega)
   ·refine .G6 (LS:=LS++a::NS) (T.Au ..) (Nat.le_refl _) (λi L hi=>?_) hm
    rw[D9]
    by_cases hlt:i<LS.length
    ·rw[if_neg (by omega)]
     rw[List.getElem?_append_left hlt]at hi
     exact ht i L hi
    ·rw[List.getElem?_append_right (by omega)]at hi
     have hlt2:=(List.getElem?_eq_some_iff.1 hi).1
     rw[if_pos ⟨by omega,by omega⟩];exact hi
   ·rw[T.Ad _ _ (by omega),T.Ad _ _ (by intro e;subst e;exact hne rfl)]
def ABr(H:Heap)(id:Nat)(ps:List ((Nat×Nat)×V)):Prop:=∃es ck,T.get H id=some (.map es ck)/\es.map (λe=>(e.1,e.2.1))=ps.map λp=>(V.str p.1.1 p.1.2,p.2)
def JV{α:Type}(ps:List ((Nat×Nat)×α))(s:Nat×Nat):Option α:=(ps.find? λp=>decide (p.1=s)).map (·.2)
theorem ckS(a b l c:Nat):CK.str.eq (.str a b) (.str l c)=some (decide ((a,b)=(l,c))):=by
 show some (band (Nat.beq a l) (Nat.beq b c))=_
 congr 1;rw[BO,Bool.eq_iff_iff];simp
theorem ACq:∀(es:ME) (ps:List ((Nat×Nat)×V)) (s:Nat×Nat) (i:Nat),es.map (λe=>(e.1,e.2.1))=ps.map (λp=>(V.str p.1.1 p.1.2,p.2))->
 sO .str (.str s.1 s.2) es i=some ((JV ps s).map λv=>(i+(ps.findIdx λp=>decide (p.1=s)),v))
 |[],ps,s,i,h=>by
  cases ps with
  |nil=>rfl
  |cons p ps=>simp at h
 |e::es,ps,s,i,h=>by
  cases ps with
  |nil=>simp at h
  |cons p ps=>
   simp only[List.map_cons,List.cons.injEq,Prod.mk.injEq]at h
   obtain⟨⟨h1,h2⟩,h3⟩:=h
   show Bl (CK.str.eq e.1 (.str s.1 s.2)) (λr=>Bool.rec (sO .str (.str s.1 s.2) es (Nat.succ i)) (some (some (i,e.2.1))) r)=_
   rw[h1,ckS,QJ,ACq es ps s (i+1) h3]
   by_cases hp:p.1=s
   ·have hd:decide ((p.1.1,p.1.2)=(s.1,s.2))=true:=decide_eq_true hp
    rw[hd]
    unfold JV
    simp[hp,List.findIdx_cons,h2]
   ·have hd:decide ((p.1.1,p.1.2)=(s.1,s.2))=false:=decide_eq_false hp
    rw[hd]
    unfold JV
    simp only[List.find?_cons,hp,decide_false,List.findIdx_cons,cond_false]
    show some (Option.map (λv=>(i+1+List.findIdx (λp=>decide (p.fst=s)) ps,v)) _)=_
    congr 2;funext v;congr 1;omega
theorem AMx{H:Heap}{id:Nat}{es:ME}{ck:Nat}(h:T.get H id=some (.map es ck))(f:ME->Nat->Option V):RF H (.map id) f=f es ck:=by
 show(Option.rec (motive:=λ_=>(ME->Nat->Option V)->Option V) (λ_=>none) AbT (T.get H id) f:Option V)=_
 rw[h];rfl
def AWX(z:V):Option V->V
 |some v=>.EI [v,.bool true]
 |none=>.EI [z,.bool false]
theorem AS0{H:Heap}{id:Nat}{ps:List ((Nat×Nat)×V)}(h:ABr H id ps)(z:V)(s:Nat×Nat):
 AQr .str true z (.map id) (.str s.1 s.2) H=some (AWX z (JV ps s)):=by
 obtain⟨es,ck,hg,he⟩:=h
 unfold AQr
 rw[AMx hg,ACq es ps s 0 he,QJ]
 cases JV ps s<;>rfl
def Zl{α:Type}(s:Nat×Nat)(v:α):List ((Nat×Nat)×α)->List ((Nat×Nat)×α)
 |[]=>[(s,v)]
 |p::ps=>if p.1=s then(s,v)::ps else p::Zl s v ps
theorem ALJ{α:Type}(s:Nat×Nat)(v:α):∀(ps:List ((Nat×Nat)×α)) (t:Nat×Nat),JV (Zl s v ps) t=if s=t then some v else JV ps t
 |[],t=>by
  unfold Zl JV
  by_cases h:s=t<;>simp[h]
 |p::ps,t=>by
  have ih:=ALJ s v ps t
  unfold Zl
  by_cases h:p.1=s
  ·rw[if_pos h]
   by_cases h2:s=t
   ·simp[JV,h2]
   ·have h3:¬p.1=t:=by rw[h];exact h2
    simp[JV,h2,h3]
  ·rw[if_neg h]
   by_cases h2:p.1=t
   ·have h3:¬s=t:=by intro e;exact h (h2.trans e.symm)
    simp[JV,h2,h3]
   ·unfold JV at ih⊢
    simp only[List.find?_cons,h2,decide_false]
    exact ih
theorem APJ{H:Heap}{id:Nat}{ps:List ((Nat×Nat)×V)}(h:ABr H id ps)(s:Nat×Nat)(v:V){n:Nat}{k:KV}
 (hk:∀H',ABr H' id (Zl s v ps)->(∀j,j≠id->T.get H' j=T.get H j)->k .undef H' n):AYd .str (.map id) (.str s.1 s.2) v H n k:=by
 obtain⟨es,ck,hg,he⟩:=h
 show EN (T.get H id) (λb=>EN (AWy b (ANV .str (.str s.1 s.2) v)) λb=>k .undef (T.set H id b) n)
 rw[hg,Qe]
 show EN (ANV .str (.str s.1 s.2) v es ck) _
 unfold ANV
 rw[ACq es ps s 0 he,QJ]
 have key:∀(es:ME) (ps:List ((Nat×Nat)×V)),es.map (λe=>(e.1,e.2.1))=ps.map (λp=>(V.str p.1.1 p.1.2,p.2))->
  match JV ps s with
  |none=>(cat es [(V.str s.1 s.2,v,ck)]).map (λe=>(e.1,e.2.1))=(Zl s v ps).map (λp=>(V.str p.1.1 p.1.2,p.2))
  |some _=>∃e,nth es (ps.findIdx λp=>decide (p.1=s))=some e/\(jQ (e.1,v,e.2.2) es (ps.findIdx λp=>decide (p.1=s))).map (λe=>(e.1,e.2.1))=(Zl s v ps).map (λp=>(V.str p.1.1 p.1.2,p.2)):=by
  intro es
  induction es with
  |nil=>intro ps h;cases ps with
   |nil=>rfl
   |cons p ps=>simp at h
  |cons e es ih=>
   intro ps h
   cases ps with
   |nil=>simp at h
   |cons p ps=>
    simp only[List.map_cons,List.cons.injEq,Prod.mk.injEq]at h
    obtain⟨⟨h1,h2⟩,h3⟩:=h
    have ih:=ih ps h3
    by_cases hp:p.1=s
    ·have:JV (p::ps) s=some p.2:=by simp[JV,hp]
     rw[this]
     refine⟨e,by simp[List.findIdx_cons,hp],?_⟩
     simp only[Zl,hp,if_true,List.findIdx_cons,decide_true,cond_true]
     show((e.1,v,e.2.2)::es).map (λe=>(e.1,e.2.1))=_
     simp only[List.map_cons,h1,hp,h3]
    ·have:JV (p::ps) s=JV ps s:=by simp[JV,hp]
     rw[this]
     cases hl:JV ps s with
     |none=>
      rw[hl]at ih
      simp only[Zl,hp,if_false]
      show((e::cat es [(V.str s.1 s.2,v,ck)]).map λe=>(e.1,e.2.1))=_
      simp only[List.map_cons,h1,h2]
      rw[show List.map (λe=>(e.fst,e.snd.fst)) (cat es [(V.str s.1 s.2,v,ck)])=_ from ih]
     |some x=>
      rw[hl]at ih
      obtain⟨e',he',hs⟩:=ih
      refine⟨e',?_,?_⟩
      ·simp only[List.findIdx_cons,hp,decide_false,cond_false];exact he'
      ·simp only[List.findIdx_cons,hp,decide_false,cond_false,Zl,if_false]
       show(e::jQ (e'.1,v,e'.2.2) es _).map (λe=>(e.1,e.2.1))=_
       simp only[List.map_cons,h1,h2]
       rw[show List.map (λe=>(e.fst,e.snd.fst)) (jQ (e'.1,v,e'.2.2) es (List.findIdx (λp=>decide (p.fst=s)) ps))=_ from hs]
 have key:=key es ps he
 cases hl:JV ps s with
 |none=>
  rw[hl]at key
  show EN (some (.map (cat es [(V.str s.1 s.2,v,ck)]) (Nat.succ ck))) (λb=>k .undef (T.set H id b) n)
  rw[Qe]
  exact hk _ ⟨_,_,T.Au ..,key⟩ λj hj=>T.Ad _ _ (Ne.symm hj)
 |some x=>
  rw[hl]at key
  obtain⟨e,he',hs⟩:=key
  show EN (Bl (nth es (0+ps.findIdx λp=>decide (p.1=s))) λe=>some (.map (jQ (e.1,v,e.2.2) es (0+ps.findIdx λp=>decide (p.1=s))) ck)) (λb=>k .undef (T.set H id b) n)
  rw[Nat.zero_add,he',QJ,Qe]
  exact hk _ ⟨_,_,T.Au ..,hs⟩ λj hj=>T.Ad _ _ (Ne.symm hj)
def ACs(G:AV):Prop:=∀b o z L,G b o z=some L->L.length=z/\∀i m,0<m->i+m<=z->G b (o+i) m=some ((L.drop i).take m)
theorem ARR(e off m:Nat)(L:LV):ldC e off m L=if m=e/\off%e=0 then some L else if off%e+m<=e then some ((L.drop (off%e)).take m)else none:=by
 have e1:ldC e off m L=Bool.rec (motive:=λ_=>Option LV) (Bool.rec none (some (Yc m (lX (off%e) L))) (Nat.ble (off%e+m) e)) (some L) (band (Nat.beq m e) (Nat.beq (off%e) 0)):=rfl
 rw[e1,iI,qB]
 by_cases h:m=e/\off%e=0
 ·have hb:band (Nat.beq m e) (Nat.beq (off%e) 0)=true:=by simp only[BO,Bool.and_eq_true,beq_iff];exact h
  rw[if_pos h,hb]
 ·have hb:band (Nat.beq m e) (Nat.beq (off%e) 0)=false:=by rw[Bool.eq_false_iff];intro hc;simp only[BO,Bool.and_eq_true,beq_iff]at hc;exact h hc
  rw[if_neg h,hb]
  by_cases h2:off%e+m<=e
  ·rw[if_pos h2,show Nat.ble (off%e+m) e=true by rw[Nat.ble_eq];exact h2]
  ·rw[if_neg h2,show Nat.ble (off%e+m) e=false by rw[Bool.eq_false_iff];intro hc;rw[Nat.ble_eq]at hc;exact h2 hc]
theorem ATQ{e cnt off m:Nat}{t:T LV}{c:LV}(h:ldB e cnt t off m=some c):∃L,off/e<cnt/\T.get t (off/e)=some L/\ldC e off m L=some c:=by
 unfold ldB at h
 rw[Bg]at h
 obtain⟨L,h1,h2⟩:=h
 cases hb:Nat.blt (Nat.div off e) cnt with
 |false=>rw[hb]at h1;cases h1
 |true=>rw[hb]at h1;exact⟨L,by rw[Nat.blt_eq]at hb;exact hb,h1,h2⟩
theorem AOx{H:Heap}{id off z o m:Nat}{c:LV}(h:aB H id off z=some c)(hc:c.length=z)(hm:0<m)(ho:o+m<=z):aB H id (off+o) m=some ((c.drop o).take m):=by
 unfold aB at h⊢
 cases hb:T.get H id with
 |none=>rw[hb]at h;cases h
 |some b=>
  rw[hb]at h
  cases b with
  |map _ _=>cases h
  |dead=>cases h
  |iZ _ _ _ _ _=>cases h
  |own _=>cases h
  |arr e cnt t=>
   have h':ldB e cnt t off z=some c:=h
   show ldB e cnt t (off+o) m=_
   obtain⟨L,h1,h2,h3⟩:=ATQ h'
   rw[ARR]at h3
   have key:off%e+z<=e/\c=(L.drop (off%e)).take z/\(z=e/\off%e=0->c=L):=by
    by_cases hh:z=e/\off%e=0
    ·rw[if_pos hh]at h3
     cases h3
     rw[hh.2,List.drop_zero,List.take_of_length_le (by omega)]
     exact⟨by omega,rfl,λ_=>rfl⟩
    ·rw[if_neg hh]at h3
     by_cases h4:off%e+z<=e
     ·rw[if_pos h4]at h3;exact⟨h4,(Option.some.inj h3).symm,λh=>absurd h hh⟩
     ·rw[if_neg h4]at h3;cases h3
   obtain⟨hle,hcc,hcl⟩:=key
   have he:0<e:=by omega
   have hlt:off%e+o<e:=by omega
   have hoff:off+o=e*(off/e)+(off%e+o):=by have:=Nat.div_add_mod off e;omega
   have hd:(off+o)/e=off/e:=by rw[hoff,Nat.mul_add_div he,Nat.div_eq_of_lt hlt];omega
   have hmo:(off+o)%e=off%e+o:=by rw[hoff,Nat.mul_add_mod,Nat.mod_eq_of_lt hlt]
   unfold ldB
   rw[show Nat.div (off+o) e=off/e from hd,show Nat.blt (off/e) cnt=true by rw[Nat.blt_eq];exact h1]
   show Bl (T.get t (off/e)) (ldC e (off+o) m)=_
   rw[h2,QJ,ARR,hmo]
   have hL:z<=(L.drop (off%e)).length:=by rw[hcc,List.length_take]at hc;omega
   by_cases hh:m=e/\off%e+o=0
   ·rw[if_pos hh,<-hcl ⟨by omega,by omega⟩,show o=0 by omega,List.drop_zero,List.take_of_length_le (by omega)]
   ·rw[if_neg hh,if_pos (by omega),hcc,List.drop_take,List.take_take,List.drop_drop,Nat.min_eq_left (by omega)]
theorem vP{G:AV}(hG:ACs G){H:Heap}{p:V}{z o m:Nat}{c:LV}(h:ldP p G H z=some c)(hc:c.length=z)(hm:0<m)(ho:o+m<=z):
 ∃p',AQ o p=some p'/\ldP p' G H m=some ((c.drop o).take m):=by
 cases p<;>try (cases h;done)
 ·rename_i id off;exact⟨_,AY ..,AOx h hc hm ho⟩
 ·rename_i b off;exact⟨_,AOT ..,(hG b off z c h).2 o m hm ho⟩
theorem pR{G:AV}(hG:ACs G){H:Heap}{p:V}{z o:Nat}{c:LV}{x:V}(h:ldP p G H z=some c)(hc:c.length=z)(ho:c[o]? =some x):
 ∃p',AQ o p=some p'/\Aa p' G H=some x:=by
 obtain⟨hlt,he⟩:=List.getElem?_eq_some_iff.1 ho
 obtain⟨p',h1,h2⟩:=vP hG h hc (o:=o) (m:=1) (by omega) (by omega)
 refine⟨p',h1,?_⟩
 rw[ADs,h2,AJH,kQ,List.getElem?_take]
 simp[ho]
theorem AU0{G:AV}{H:Heap}{n id m z bs:Nat}{t:T LV}{w:V}{LS NS:CJ}{k:KV}(hz:0<z)(hb:T.get H id=some (.arr z m t))(hid:id<n)(h:elems (.sl id 0 m m z) G H z=some LS)
 (hw:elems w G H z=some NS) (hr:(m+NS.length)*bs<=140737488355328)
 (hk:∀v' H' n',El G H' v' z (LS++NS)->(∀j,j<n->T.get H' j=T.get H j)->n<=n'->(∀j,v'.Dl=some j->j<n')->k v' H' n'):Oq z bs (.sl id 0 m m z) w G H n k:=by
 unfold Oq
 rw[hw,Qe]
 have h2:(Bool.rec (motive:=λ_=>Option CJ) none (BZ H id z m 0) (Nat.beq z z):Option CJ)=some LS:=h
 rw[CQ]at h2
 have h2:BZ H id z m 0=some LS:=h2
 obtain⟨hl,hat⟩:=Kr _ _ h2
 have e0:AGA (.sl id 0 m m z) G z bs NS H n k=Bool.rec (motive:=λ_=>Prop) (EN (BZ H id z m 0) λOS=>Gv z bs OS NS H n k) (EN (T.get H id) λb=>YS id 0 m m z (m+NS.length) NS H n k b) (Nat.ble (m+NS.length) m):=by
  show EJ (Nat.beq z z) (DU (Nat.add m (len NS)) λneed=>Bool.rec (motive:=λ_=>Prop) (EN (BZ H id z m 0) λOS=>Gv z bs OS NS H n k) (EN (T.get H id) λb=>YS id 0 m m z need NS H n k b) (Nat.ble need m))=_
  rw[CQ,UF,BL,len_eq];rfl
 rw[e0]
 by_cases hN:NS.length=0
 ·have:NS=[]:=List.length_eq_zero_iff.1 hN
  subst this
  rw[show Nat.ble (m+([]:CJ).length) m=true by rw[Nat.ble_eq];exact Nat.le_refl _]
  show EN (T.get H id) (λb=>YS id 0 m m z (m+0) [] H n k b)
  rw[hb,Qe]
  show EJ (band (Nat.beq z z) (Nat.ble (Nat.add 0 (m+0)) m)) (k (.sl id 0 (m+0) m z) (T.set H id (.arr z m t)) n)
  rw[CQ,show Nat.ble (Nat.add 0 (m+0)) m=true by rw[Nat.ble_eq];show 0+m<=m;omega]
  have hs:∀j,T.get (T.set H id (.arr z m t)) j=T.get H j:=λj=>by
   rw[T.KT];split
   ·rename_i e;subst e;exact hb.symm
   ·rfl
  rw[List.append_nil]at hk
  exact hk _ _ _ ((show El G H (.sl id 0 m m z) z LS from⟨rfl,h⟩).same λj _=>hs j) (λj _=>hs j) (Nat.le_refl _) (λj hj=>by cases hj;exact hid)
 ·rw[show Nat.ble (m+NS.length) m=false by rw[Bool.eq_false_iff];intro hc;rw[Nat.ble_eq]at hc;omega]
  show EN (BZ H id z m 0) (λOS=>Gv z bs OS NS H n k)
  rw[h2,Qe]
  show DU (Nat.add (len LS) (len NS)) (λneed=>EJ (Lm need bs) (DU n λn=>k (.G6 n 0 need z) (T.set H n (.arr z need (Ew NS (len LS) (Ew LS 0 .e)))) (Nat.succ n)))
  rw[BL,BL,len_eq,len_eq,show Lm (Nat.add LS.length NS.length) bs=true from Pj (by rw[hl];exact hr),UF]
  have e:Nat.add LS.length NS.length=(LS++NS).length:=by rw[List.length_append];rfl
  rw[e]
  refine hk _ _ _ (Gr.el (m:=n) (.G6 (LS:=LS++NS) (T.Au ..) (Nat.le_refl _) (λi L hi=>?_) (Nat.le_refl _)) hz) (λj hj=>T.Ad _ _ (by omega)) (by omega) (λj hj=>by cases hj;omega)
  rw[D9,D9]
  by_cases hlt:i<LS.length
  ·rw[if_neg (by omega),if_pos ⟨Nat.zero_le _,by omega⟩]
   rw[List.getElem?_append_left hlt]at hi
   exact hi
  ·rw[List.getElem?_append_right (by omega)]at hi
   have hlt2:=(List.getElem?_eq_some_iff.1 hi).1
   rw[if_pos ⟨by omega,by omega⟩];exact hi
theorem AUh{H:Heap}{n:Nat}{P:KV}:CB (AIK E0) H n P=P (.map n) (T.set H n (.map [] 0)) (n+1):=by
 show DU n (λn=>P (.map n) (T.set H n (.map [] 0)) (Nat.succ n))=_
 rw[BL]
theorem AJN{m:Nat}(h:m+1<9223372036854775808):B2.ev .sub (.int .i64 (.ofNat (m+1)) 0) (.int .i64 (.ofNat 1) 0)=some (.int .i64 (.ofNat m) 0):=by
 show some (V.int .i64 (YP .i64 (AFv (.ofNat (m+1)) (Int.neg (.ofNat 1)))) 0)=_
 rw[Qn,kH]
 have e:Int.ofNat (m+1)+Int.neg (Int.ofNat 1)=Int.ofNat m:=by show((m+1:Nat):Int)+ -((1:Nat):Int)=(m:Int);omega
 rw[e,RG (by show(-9223372036854775808:Int)<=(m:Int);omega) (by show(m:Int)<9223372036854775808;omega)]
end Go.Bj
namespace Go.Bj
open Go.ChangeShapes Go.WideShapes Go.RowKit
inductive Sh where
 |int (k:IntKind)|bool|str|sl (z:Nat) (t:Sh)|st (l:List Sh)
theorem ANy{W:World}{b o n:Nat}{L:LV}(h:X9 W b o n=some L):L.length=n:=by
 unfold X9 at h
 split at h
 ·cases h;simp
 ·cases h
theorem AMS(W:World):ACs (X9 W):=by
 intro b o z L h
 refine⟨ANy h,λi m hm hi=>?_⟩
 unfold X9 at h⊢
 split at h
 ·rename_i hc
  cases h
  rw[if_pos]
  ·congr 1
   apply List.ext_getElem?
   intro j
   rw[List.getElem?_take]
   by_cases hj:j<m
   ·rw[if_pos hj,List.getElem?_drop,List.getElem?_map,List.getElem?_map,List.getElem?_range hj,List.getElem?_range (by omega),Option.map_some,Option.map_some,Nat.add_assoc]
   ·rw[if_neg hj,List.getElem?_eq_none (by simp;omega)]
  ·intro j hj
   have:=hc (i+j) (by omega)
   rwa [<-Nat.add_assoc]at this
 ·cases h
theorem AH9{G:AV}{b z:Nat}:∀(n o:Nat) (LS:CJ),LS.length=n->(∀i c,LS[i]? =some c->G b (o+i*z) z=some c)->dM G b z n o=some LS
 |0,o,LS,hl,_=>by cases LS with|nil=>rfl|cons a l=>simp at hl
 |n+1,o,LS,hl,h=>by
  cases LS with
  |nil=>simp at hl
  |cons a l=>
   show Bl (G b o z) (λL=>Bl (dM G b z n (Nat.add o z)) λLS=>some (L::LS))=_
   have h0:=h 0 a rfl
   rw[Nat.zero_mul,Nat.add_zero]at h0
   rw[h0,QJ,show Nat.add o z=o+z from rfl,AH9 n (o+z) l (by simpa using hl) λi c hc=>by
    have:=h (i+1) c (by simpa using hc);rwa [show o+(i+1)*z=o+z+i*z by rw[Nat.add_mul];omega]at this]
   rfl
theorem AYt{G:AV}{H:Heap}{b o c z:Nat}{LS:CJ}(h:∀i L,LS[i]? =some L->G b (o+i*z) z=some L){e:Nat}:El G H (.rsl b o LS.length c e) z LS:=
 ⟨rfl,AH9 _ _ _ rfl h⟩
def ARY:V->Bool
 |.int _ _ b=>Nat.beq b 0
 |.bool _=>true
 |.str _ _=>true
 |_=>false
theorem AYM{ρ:Loc}{v:V}{u:Value}(h:AZ ρ v u)(hp:ARY v=true):toV u=v:=by
 cases v<;>try (cases hp;done)
 ·rename_i k n s
  have:s=0:=Nat.eq_of_beq_eq_true hp
  subst this
  simp only[AZ]at h;subst h;rfl
 ·simp only[AZ]at h;subst h;rfl
 ·simp only[AZ]at h
  obtain⟨s,rfl,h1,h2⟩:=h
  subst h1;subst h2;rfl
theorem AMz{W:World}{g:Nat}{cs:List Value}{tab:LV}(hc:∀i,W.cell? ⟨g,i,none⟩=cs[i]?)(hr:CV (λ_=>none) tab cs)(h1:∀u∈cs,u.oneCell'=true)(hp:tab.all ARY=true){o n:Nat}(hl:o+n<=tab.length):
 X9 W g o n=some ((tab.drop o).take n):=by
 obtain⟨hlen,hget⟩:=(fD tab cs).1 hr
 rw[ALv (cs:=(cs.drop o).take n) (by simp;omega) (λu hu=>h1 u (List.mem_of_mem_drop (List.mem_of_mem_take hu))) λj u hj=>?_]
 ·congr 1
  apply List.ext_getElem?
  intro j
  rw[List.getElem?_map,List.getElem?_take,List.getElem?_take]
  by_cases hj:j<n
  ·rw[if_pos hj,if_pos hj,List.getElem?_drop,List.getElem?_drop]
   have hlt:o+j<tab.length:=by omega
   rw[List.getElem?_eq_getElem hlt,List.getElem?_eq_getElem (by omega),Option.map_some]
   congr 1
   exact AYM (hget _ _ _ (List.getElem?_eq_getElem hlt) (List.getElem?_eq_getElem (by omega))) (List.all_eq_true.1 hp _ (List.getElem_mem hlt))
  ·rw[if_neg hj,if_neg hj];rfl
 ·rw[List.getElem?_take]at hj
  split at hj
  ·rw[List.getElem?_drop]at hj;rw[hc];exact hj
  ·cases hj
end Go.Bj
namespace Go.Bj
section
variable{e:Option V}{P:V->Prop}{Q:KV}{t:KV->Prop}{H:Heap}{n:Nat}{a b:V}
theorem uO(h:P (.EI [])):BX (.bool true) false e P:=h
theorem AJQ(h:P (.EI [])):BX (.bool false) true e P:=h
theorem AWY(h:Q (.EI []) H n):Le (.bool true) false t H n Q:=h
theorem ASv(h:Q (.EI []) H n):Le (.bool false) true t H n Q:=h
theorem AL4(h:P a):AP (Cj (.bool true) a b) P:=h
theorem xP(h:P b):AP (Cj (.bool false) a b) P:=h
end
def sB(l:List UInt8):V:=.str l.length (enc l)
theorem yS(l:List UInt8):ZY (sB l)=some (.int .i64 (.ofNat l.length) 0):=rfl
theorem AKL{l:List UInt8}{i:Nat}(h:i<l.length):ABb (sB l) (.int .i64 (.ofNat i) 0)=some (.int .u8 (.ofNat (l[i]).toNat) 0):=by
 show BF (Nat.blt i l.length) (CW (AQS (enc l) i) λb=>some (.int .u8 (.ofNat b) 0))=_
 rw[show Nat.blt i l.length=true by rw[Nat.blt_eq];exact h,BP,ALe l i h];rfl
theorem Aa0{l:List UInt8}{a b:Nat}(h1:a<=b)(h2:b<=l.length):gV (sB l) E0 (some (.c (.int .i64 (.ofNat a) 0))) (some (.c (.int .i64 (.ofNat b) 0)))=some (sB ((l.drop a).take (b-a))):=by
 show BF (band (Nat.ble a b) (Nat.ble b l.length)) (CW (b-a) λd=>CW (ATA (enc l) a b) λc=>CW 0 λ_=>some (.str d c))=_
 rw[show Nat.ble a b=true by rw[Nat.ble_eq];exact h1,show Nat.ble b l.length=true by rw[Nat.ble_eq];exact h2,BP,BP,BP,AA6]
 have:((l.drop a).take (b-a)).length=b-a:=by rw[List.length_take,List.length_drop];omega
 show some (V.str (b-a) (enc ((l.drop a).take (b-a))))=_
 unfold sB;rw[this]
theorem AMm{l:List UInt8}{a:Nat}(h:a<=l.length):gV (sB l) E0 (some (.c (.int .i64 (.ofNat a) 0))) none=some (sB (l.drop a)):=by
 show BF (band (Nat.ble a l.length) (Nat.ble l.length l.length)) (CW (l.length-a) λd=>CW (ATA (enc l) a l.length) λc=>CW 0 λ_=>some (.str d c))=_
 rw[show Nat.ble a l.length=true by rw[Nat.ble_eq];exact h,show Nat.ble l.length l.length=true by rw[Nat.ble_eq];exact Nat.le_refl _,BP,BP,BP,AA6]
 have e:(l.drop a).take (l.length-a)=l.drop a:=List.take_of_length_le (by rw[List.length_drop];omega)
 rw[e]
 have:(l.drop a).length=l.length-a:=by rw[List.length_drop]
 show some (V.str (l.length-a) (enc (l.drop a)))=_
 unfold sB;rw[this]
theorem AcH{l:List UInt8}{b:Nat}(h:b<=l.length):gV (sB l) E0 none (some (.c (.int .i64 (.ofNat b) 0)))=some (sB (l.take b)):=by
 show BF (band (Nat.ble 0 b) (Nat.ble b l.length)) (CW (b-0) λd=>CW (ATA (enc l) 0 b) λc=>CW 0 λ_=>some (.str d c))=_
 rw[show Nat.ble 0 b=true by rw[Nat.ble_eq];omega,show Nat.ble b l.length=true by rw[Nat.ble_eq];exact h,BP,BP,BP,AA6]
 have:((l.drop 0).take (b-0)).length=b-0:=by rw[List.length_take,List.length_drop];omega
 show some (V.str (b-0) (enc ((l.drop 0).take (b-0))))=_
 unfold sB;rw[List.drop_zero,Nat.sub_zero,show(l.take b).length=b by rw[List.length_take];omega]
theorem AXI(a b:List UInt8):(a.length=b.length/\enc a=enc b)↔a=b:=⟨λh=>AI3 a b h.1 h.2,λh=>by subst h;exact⟨rfl,rfl⟩⟩
theorem AQv(a b:List UInt8):Dw (.one .str) false (sB a) (sB b)=some (.bool (decide (a=b))):=by
 unfold sB;rw[ACl];congr 2;rw[decide_eq_decide];exact AXI a b
theorem Acu(a b:List UInt8):Dw (.one .str) true (sB a) (sB b)=some (.bool (!decide (a=b))):=by
 show ofB (Qg (some (band (Nat.beq a.length b.length) (Nat.beq (enc a) (enc b)))) λb=>some (QD b))=_
 have:band (Nat.beq a.length b.length) (Nat.beq (enc a) (enc b))=decide (a=b):=by rw[BO,Bool.eq_iff_iff,decide_eq_true_iff,<-AXI];simp
 rw[this];cases decide (a=b)<;>rfl
theorem AC8{a b:List UInt8}(h:a.length+b.length<9223372036854775808):B2.ev .add (sB a) (sB b)=some (sB (a++b)):=by
 show BF (Nat.blt (a.length+b.length) 9223372036854775808) (CW (a.length+b.length) λn=>CW (AX5 a.length (enc a) (enc b)) λe=>some (.str n e))=_
 rw[show Nat.blt (a.length+b.length) 9223372036854775808=true by rw[Nat.blt_eq];exact h,BP,BP,AL3]
 unfold sB;rw[List.length_append];rfl
def ABh(b:Nat):List UInt8->Nat->Int
 |[],_=>.negSucc 0
 |c::l,i=>bif decide (c.toNat=b)then .ofNat i else ABh b l (i+1)
theorem ADe(b:Nat):∀(l:List UInt8) (i:Nat),cu b l.length (enc l) i=ABh b l i
 |[],i=>rfl
 |c::l,i=>by
  have ha:c.toNat<256:=c.toNat_lt
  have e1:enc (c::l)%256=c.toNat:=by simp only[enc];omega
  have e2:enc (c::l)/256=enc l:=by simp only[enc];omega
  have e:cu b (c::l).length (enc (c::l)) i=Bool.rec (cu b l.length (enc (c::l)/256) (i+1)) (.ofNat i) (Nat.beq (enc (c::l)%256) b):=rfl
  rw[e,e1,e2,ADe b l (i+1)]
  rw[show ABh b (c::l) i=bif decide (c.toNat=b)then .ofNat i else ABh b l (i+1)from rfl]
  by_cases h:c.toNat=b
  ·rw[show Nat.beq c.toNat b=true by rw[beq_iff];exact h];simp[h]
  ·rw[show Nat.beq c.toNat b=false by rw[Bool.eq_false_iff];intro hc;rw[beq_iff]at hc;exact h hc];simp[h]
theorem AdS{l:List UInt8}{b:Nat}(hb:b<256):ARD (sB l) (.int .u8 (.ofNat b) 0)=some (.int .i64 (ABh b l 0) 0):=by
 show BF true (BF (Nat.blt b 256) (Oo (cu b l.length (enc l) 0) λi=>some (.int .i64 i 0)))=_
 rw[show Nat.blt b 256=true by rw[Nat.blt_eq];exact hb,ADe];rfl
def yZ(l:List UInt8):CJ:=l.map λc=>[.int .u8 (.ofNat c.toNat) 0]
theorem AE6:∀l:List UInt8,TV l.length (enc l)=yZ l
 |[]=>rfl
 |c::l=>by
  have ha:c.toNat<256:=c.toNat_lt
  have e1:enc (c::l)%256=c.toNat:=by simp only[enc];omega
  have e2:enc (c::l)/256=enc l:=by simp only[enc];omega
  show[V.int .u8 (.ofNat (enc (c::l)%256)) 0]::TV l.length (enc (c::l)/256)=_
  rw[e1,e2,AE6 l];rfl
theorem AVs{G:AV}{l:List UInt8}{H:Heap}{n:Nat}{k:KV}(h:∀H' v,Kp H n H' (n+1)->El G H' v 1 (yZ l)->k v H' (n+1)):Aal (sB l) H n k:=by
 show DU n λn=>k (.G6 n 0 l.length 1) (T.set H n (.arr 1 l.length (Ew (TV l.length (enc l)) 0 .e))) (Nat.succ n)
 rw[BL,AE6]
 have hl:(yZ l).length=l.length:=List.length_map ..
 refine h _ _ ((Kp.refl H n).new _ (Nat.le_refl _) (by omega)) ?_
 rw[<-hl]
 refine Gr.el (m:=n) (.G6 (LS:=yZ l) (T.Au ..) (Nat.le_refl _) (λi L hi=>?_) (Nat.le_refl _)) (by omega)
 have hlt:=(List.getElem?_eq_some_iff.1 hi).1
 rw[D9,if_pos ⟨Nat.zero_le _,by omega⟩];exact hi
theorem Du(b:Bool):KP (.bool b)=some (.bool (!b)):=AWw b
theorem AFm(q:IntKind)(a b:Nat):B2.ev .geq (.int q (.ofNat a) 0) (.int q (.ofNat b) 0)=some (.bool (decide (b<=a))):=by
 show BF (band (keq q q) true) (mkB (ile (.ofNat b) (.ofNat a)))=_
 rw[TL,ACa,show band (keq q q) true=true by simp[NP],show decide (Int.ofNat b<=Int.ofNat a)=decide (b<=a)by rw[decide_eq_decide];show(b:Int)<=a↔_;omega];rfl
theorem qN(q:IntKind)(a b:Nat):B2.ev .leq (.int q (.ofNat a) 0) (.int q (.ofNat b) 0)=some (.bool (decide (a<=b))):=by
 show BF (band (keq q q) true) (mkB (ile (.ofNat a) (.ofNat b)))=_
 rw[TL,ACa,show band (keq q q) true=true by simp[NP],show decide (Int.ofNat a<=Int.ofNat b)=decide (a<=b)by rw[decide_eq_decide];show(a:Int)<=b↔_;omega];rfl
theorem AAs(q:IntKind)(a b:Nat):B2.ev .gtr (.int q (.ofNat a) 0) (.int q (.ofNat b) 0)=some (.bool (decide (b<a))):=by
 show BF (band (keq q q) true) (mkB (ilt (.ofNat b) (.ofNat a)))=_
 rw[TL,WS,show band (keq q q) true=true by simp[NP],show decide (Int.ofNat b<Int.ofNat a)=decide (b<a)by rw[decide_eq_decide];show(b:Int)<a↔_;omega];rfl
theorem FP(q:IntKind)(a b:Nat):B2.ev .lss (.int q (.ofNat a) 0) (.int q (.ofNat b) 0)=some (.bool (decide (a<b))):=by
 show BF (band (keq q q) true) (mkB (ilt (.ofNat a) (.ofNat b)))=_
 rw[TL,WS,show band (keq q q) true=true by simp[NP],show decide (Int.ofNat a<Int.ofNat b)=decide (a<b)by rw[decide_eq_decide];show(a:Int)<b↔_;omega];rfl
theorem Abj(q:IntKind)(x y:Int):Dw (.one .int) false (.int q x 0) (.int q y 0)=some (.bool (decide (x=y))):=by
 have e:Dw (.one .int) false (.int q x 0) (.int q y 0)=ofB (Qg (some (ieq x y)) λb=>some b):=by cases q<;>rfl
 rw[e,WU,show(x==y)=decide (x=y)by rw[Bool.eq_iff_iff];simp];cases decide (x=y)<;>rfl
theorem AZ8(q:IntKind)(x y:Int):Dw (.one .int) true (.int q x 0) (.int q y 0)=some (.bool (!decide (x=y))):=by
 have e:Dw (.one .int) true (.int q x 0) (.int q y 0)=ofB (Qg (some (ieq x y)) λb=>some (QD b)):=by cases q<;>rfl
 rw[e,WU,show(x==y)=decide (x=y)by rw[Bool.eq_iff_iff];simp];cases decide (x=y)<;>rfl
theorem xg(q:IntKind)(x y:Nat):Dw (.one .int) false (.int q (.ofNat x) 0) (.int q (.ofNat y) 0)=some (.bool (decide (x=y))):=by
 rw[Abj];congr 2;rw[decide_eq_decide];show(x:Int)=y↔_;omega
theorem AAg(q:IntKind)(x y:Nat):Dw (.one .int) true (.int q (.ofNat x) 0) (.int q (.ofNat y) 0)=some (.bool (!decide (x=y))):=by
 rw[AZ8];congr 3;rw[decide_eq_decide];show(x:Int)=y↔_;omega
theorem ATg(t:Int){m:Nat}(hm:m<9223372036854775808):B2.ev .and (.int .i64 t 0) (.int .i64 (.ofNat m) 0)=some (.int .i64 (.ofNat (AGo t m)) 0):=by
 show BF true (Oo (AR4 .i64 t (.ofNat m)) λm=>some (.int .i64 m 0))=_
 rw[AHe t hm];rfl
theorem AW6(u:Nat){m:Nat}(hm:0<m):B2.ev .rem (.int .i64 (.ofNat u) 0) (.int .i64 (.ofNat m) 0)=some (.int .i64 (.ofNat (u%m)) 0):=by
 show BF (band true (band true (QD (ieq (.ofNat m) 0)))) (mkN .i64 (Int.tmod (.ofNat u) (.ofNat m)) 0)=_
 have:ieq (.ofNat m) 0=false:=by rw[WU];simp;omega
 rw[this]
 show Oo (Int.tmod (.ofNat u) (.ofNat m)) (λm=>some (.int .i64 m 0))=_
 rw[TP];rfl
theorem Vu{a b:Nat}(h:a+b<9223372036854775808):B2.ev .add (.int .i64 (.ofNat a) 0) (.int .i64 (.ofNat b) 0)=some (.int .i64 (.ofNat (a+b)) 0):=by
 show some (V.int .i64 (YP .i64 (AFv (.ofNat a) (.ofNat b))) 0)=_
 rw[Qn,kH,RG (by simp;omega) (by simp;omega)];rfl
theorem Abm{a b:Nat}(hb:b<=a)(h:a<9223372036854775808):B2.ev .sub (.int .i64 (.ofNat a) 0) (.int .i64 (.ofNat b) 0)=some (.int .i64 (.ofNat (a-b)) 0):=by
 show some (V.int .i64 (YP .i64 (AFv (.ofNat a) (Int.neg (.ofNat b)))) 0)=_
 rw[Qn,kH]
 have e:Int.ofNat a+Int.neg (Int.ofNat b)=Int.ofNat (a-b):=by show(a:Int)+ -(b:Int)=((a-b:Nat):Int);omega
 rw[e,RG (by show(-9223372036854775808:Int)<=((a-b:Nat):Int);omega) (by show((a-b:Nat):Int)<9223372036854775808;omega)]
theorem AEU{d:V}{f:Nat}{a c args:List V}{H:Heap}{n:Nat}{k:KV}:AGO d (.fn f a c) args H n k=k (.EI (.fn f (cat a args) c::xC d)) H n:=rfl
theorem vw{f:Nat}{a c args:List V}{call:BD}{H:Heap}{n:Nat}{k:KV}:WQ (.fn f a c) args call H n k=call f (cat a (cat args c)) H n k:=rfl
def Lo(v:V)(n:Nat):Prop:=∀id,v.Dl=some id->id<n
theorem El.kq{G:AV}{H H':Heap}{v:V}{z n n':Nat}{LS:CJ}(h:El G H v z LS)(hl:Lo v n)(f:Kp H n H' n'):El G H' v z LS:=h.same λid hid=>f.same id (hl id hid)
theorem Lo.mono{v:V}{n n':Nat}(h:Lo v n)(hn:n<=n'):Lo v n':=λid hid=>Nat.lt_of_lt_of_le (h id hid) hn
theorem ACY{n:Nat}:Lo .Af n:=λ_ h=>by cases h
theorem AAY{G:AV}{H:Heap}{z:Nat}:El G H .Af z []:=⟨rfl,rfl⟩
structure Kx(b:Nat)(H:Heap)(n:Nat)(H':Heap)(n':Nat):Prop where
 le:n<=n'
 same:∀id,id<n->id≠b->T.get H' id=T.get H id
section
variable{b:Nat}{H H' H'':Heap}{n n' n'':Nat}
theorem Kx.refl(b:Nat)(H:Heap)(n:Nat):Kx b H n H n:=⟨Nat.le_refl _,λ_ _ _=>rfl⟩
theorem Kx.trans(x:Kx b H n H' n')(y:Kx b H' n' H'' n''):Kx b H n H'' n'':=⟨Nat.le_trans x.le y.le,λid h hb=>(y.same id (Nat.lt_of_lt_of_le h x.le) hb).trans (x.same id h hb)⟩
theorem Kx.get{id:Nat}{B:Qc}(f:Kx b H n H' n')(h:T.get H id=some B)(hi:id<n)(hb:id≠b):T.get H' id=some B:=(f.same id hi hb).trans h
theorem Kp.kx(f:Kp H n H' n'):Kx b H n H' n':=⟨f.le,λid h _=>f.same id h⟩
end
structure Own(G:AV)(H:Heap)(m n:Nat)(z:Nat)(v:V)(LS:CJ):Prop where
 gr:Gr G H m z v LS
 lo:Lo v n
section
variable{G:AV}{H H':Heap}{m n n' b z:Nat}{v:V}{LS:CJ}
theorem Own.el(h:Own G H m n z v LS)(hz:0<z):El G H v z LS:=h.gr.el hz
theorem Own.ge(h:Own G H m n z v LS){id:Nat}(hid:v.Dl=some id):m<=id:=(h.gr.lo hid).1
theorem Own.kx(h:Own G H m n z v LS)(f:Kx b H n H' n')(hb:b<m):Own G H' m n' z v LS:=
 ⟨h.gr.mono λid hid=>f.same id (h.lo id hid) (by have:=(h.gr.lo hid).1;omega),h.lo.mono f.le⟩
theorem Own.kp(h:Own G H m n z v LS)(f:Kp H n H' n'):Own G H' m n' z v LS:=⟨h.gr.mono λid hid=>f.same id (h.lo id hid),h.lo.mono f.le⟩
theorem vN:Own G H m n z .Af []:=⟨.nil,ACY⟩
end
def iP:Nat->List V->List (Nat×X)
 |_,[]=>[]
 |i,v::vs=>(i,.c v)::iP (i+1) vs
theorem AQs{e c i:Nat}{t:T LV}{L:LV}(he:0<e)(hi:i<c)(h:T.get t i=some L){H:Heap}{id:Nat}(hg:T.get H id=some (.arr e c t)):aB H id (i*e) e=some L:=(ABp hg he hi).trans h
theorem ZJ{z m:Nat}:∀(vs:List V) (i:Nat),i+vs.length<=m->(∀v∈vs,Wi v=true/\(BA v).length=z)->TF (iP i vs) E0 z m=true
 |[],_,_,_=>rfl
 |v::vs,i,h,hv=>by
  show band (band (Wi v) (band (Nat.blt i m) (Nat.beq (len (BA v)) z))) (TF (iP (i+1) vs) E0 z m)=true
  obtain⟨h1,h2⟩:=hv v (List.mem_cons_self ..)
  rw[h1,len_eq,h2,show Nat.blt i m=true by rw[Nat.blt_eq];simp at h;omega,CQ,ZJ vs (i+1) (by simp at h;omega) λw hw=>hv w (List.mem_cons_of_mem _ hw)];rfl
theorem gZ:∀(vs:List V) (i:Nat) (t:T LV) (j:Nat),T.get (X8 (iP i vs) E0 t) j=if i<=j/\j<i+vs.length then(vs[j-i]?).map BA else T.get t j
 |[],i,t,j=>by rw[if_neg (by simp)];rfl
 |v::vs,i,t,j=>by
  show T.get (X8 (iP (i+1) vs) E0 (T.set t i (BA v))) j=_
  rw[gZ vs (i+1)]
  by_cases h1:i+1<=j/\j<i+1+vs.length
  ·rw[if_pos h1,if_pos (by rw[List.length_cons];omega)]
   rw[show j-i=(j-(i+1))+1 by omega,List.getElem?_cons_succ]
  ·rw[if_neg h1,T.KT]
   by_cases h2:i=j
   ·subst h2;rw[if_pos (by simp)];simp
   ·rw[if_neg h2,if_neg (by rw[List.length_cons];omega)]
theorem Ld{G:AV}{z m:Nat}{Z:LV}{vs:List V}{H:Heap}{n:Nat}{P:KV}(hm:vs.length=m)(hz:0<z)(hv:∀v∈vs,Wi v=true/\(BA v).length=z)
 (h:∀H',Kp H n H' (n+1)->(∃t,T.get H' n=some (.arr z m t))->El G H' (.sl n 0 m m z) z (vs.map BA)->P (.sl n 0 m m z) H' (n+1)):CB (Aj z m Z (iP 0 vs) E0) H n P:=by
 show EJ (TF (iP 0 vs) E0 z m) (DU n λn=>P (.sl n 0 m m z) (T.set H n (.arr z m (X8 (iP 0 vs) E0 (AL1 Z m .e)))) (Nat.succ n))
 rw[ZJ vs 0 (by omega) hv,UF,BL]
 refine h _ ((Kp.refl H n).new _ (Nat.le_refl _) (by omega)) ⟨_,T.Au ..⟩ ⟨rfl,?_⟩
 show(Bool.rec (motive:=λ_=>Option CJ) none (BZ _ n z m 0) (Nat.beq z z):Option CJ)=_
 rw[CQ]
 refine WY _ _ _ (by simp[hm]) λi c hc=>?_
 have hlt:i<m:=by have:=(List.getElem?_eq_some_iff.1 hc).1;simp at this;omega
 rw[Nat.zero_add,ABp (T.Au ..) hz hlt,gZ,if_pos ⟨by omega,by omega⟩,Nat.sub_zero]
 simpa using hc
theorem AVt{id o m z:Nat}:ADx z (.G6 id o (m+1) z) E0 (some (.c (.int .i64 (.ofNat 1) 0))) none none=some (.G6 id (o+1) m z):=by
 show BF (Nat.beq z z) (BF (band (Nat.ble 1 (m+1)) (Nat.ble (m+1) (m+1))) (f3 (o+1) (m+1-1) 0 λo d _=>.G6 id o d z))=_
 rw[CQ,show Nat.ble 1 (m+1)=true by rw[Nat.ble_eq];omega,show Nat.ble (m+1) (m+1)=true by rw[Nat.ble_eq];omega]
 show CW (o+1) (λa=>CW (m+1-1) λb=>CW 0 λ_=>some (.G6 id a b z))=_
 rw[BP,BP,BP];rfl
theorem AQ5{G:AV}{H:Heap}{id o m z:Nat}{LS:CJ}(h:El G H (.G6 id o m z) z LS):BZ H id z m o=some LS:=by
 have h2:(Bool.rec (motive:=λ_=>Option CJ) none (BZ H id z m o) (Nat.beq z z):Option CJ)=some LS:=h.2
 rw[CQ]at h2;exact h2
theorem AN6{G:AV}{H:Heap}{id o m z:Nat}{LS:CJ}(h:BZ H id z m o=some LS):El G H (.G6 id o m z) z LS:=by
 refine⟨rfl,?_⟩
 show(Bool.rec (motive:=λ_=>Option CJ) none (BZ H id z m o) (Nat.beq z z):Option CJ)=some LS
 rw[CQ];exact h
theorem ARN{G:AV}{H:Heap}{id o m z:Nat}{L:LV}{LS:CJ}(h:El G H (.G6 id o (m+1) z) z (L::LS)):El G H (.G6 id (o+1) m z) z LS:=by
 have h2:=AQ5 h
 have h3:Bl (aB H id (Nat.mul o z) z) (λL=>Bl (BZ H id z m (Nat.succ o)) λLS=>some (L::LS))=some (L::LS):=h2
 rw[Bg]at h3
 obtain⟨L',_,h3⟩:=h3
 rw[Bg]at h3
 obtain⟨LS',h4,h3⟩:=h3
 cases h3
 exact AN6 h4
inductive Pw{α β:Type}(R:α->β->Prop):List α->List β->Prop where
 |nil:Pw R [] []
 |cons {a b l m} (h:R a b) (t:Pw R l m):Pw R (a::l) (b::m)
section
variable{α β:Type}{R S:α->β->Prop}
theorem Pw.app:∀{l l':List α} {m m':List β},Pw R l m->Pw R l' m'->Pw R (l++l') (m++m')
 |_,_,_,_,.nil,h=>h
 |_,_,_,_,.cons h t,h'=>.cons h (t.app h')
end
end Go.Bj
