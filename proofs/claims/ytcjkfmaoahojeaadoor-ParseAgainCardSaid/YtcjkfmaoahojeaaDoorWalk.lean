/- Part of a proof; nothing is assumed. -/
import Derived.Test.YtcjkfmaoahojeaaDoorEngF
import Derived.Attr
import Derived.Test.YtcjkfmaoahojeaaDoorEngE
set_option linter.unusedVariables false
set_option linter.unusedSimpArgs false
namespace Go.Eng
section
variable{G:AY}{H:Heap}{id off m:Nat}{L:LV}{v:V}
theorem AQ(h:T.get H id=some (one L))(hl:L[off]? =some v):AZ (.ptr id off) G H=some v:=by
 obtain⟨hlt,he⟩:=List.getElem?_eq_some_iff.1 hl
 rw[zH,mg,ANE h (by omega) (by omega),ADE,dA]
 rw[List.getElem?_take]
 simp[hl]
theorem VX(h:T.get H id=some (one L))(hm:0<m)(hl:off+m<=L.length):A8 m (.ptr id off) G H=some (.agg ((L.drop off).take m)):=by
 rw[ACi,mg,ANE h hm hl,ADE]
theorem AJF{n:Nat}{k:KV}(h:T.get H id=some (one L))(hv:kX v=true)(hn:(Cc v).length=m)(hm:0<m)(hl:off+m<=L.length):
 Df m (.ptr id off) v H n k=k .undef (T.set H id (one (L.take off++(Cc v++L.drop (off+m))))) n:=by
 have hs:stP (.ptr id off) H m (Cc v)=some (T.set H id (one (L.take off++(Cc v++L.drop (off+m))))):=ATt h hm hn hl
 unfold Df
 rw[hv,len_eq,hn]
 have hb:band true (Nat.beq m m)=true:=by simp
 rw[hb,hs];rfl
theorem Ah(h:T.get H id=some (one L))(hm:0<m)(hl:L.length=m):A8 m (.ptr id 0) G H=some (.agg L):=by
 rw[VX h hm (by omega),List.drop_zero,List.take_of_length_le (by omega)]
theorem Xc{n:Nat}{k:KV}{L':LV}(h:T.get H id=some (one L))(hm:0<m)(hl:L.length=m)(hn:L'.length=m):
 Df m (.ptr id 0) (.agg L') H n k=k .undef (T.set H id (one L')) n:=by
 rw[AJF h (by rfl) (by exact hn) hm (by omega)]
 have:L.take 0++(Cc (.agg L')++L.drop (0+m))=L':=by
  show[]++(L'++L.drop (0+m))=L'
  rw[List.drop_eq_nil_of_le (by omega)];simp
 rw[this]
theorem AKa:EI [] G H=some []:=rfl
theorem APf{rest:List AVr}:EI (.t v::rest) G H=Ci (EI rest G H) λvs=>some (v::vs):=rfl
theorem ED{rest:List AVr}(h:T.get H id=some (one L))(hm:0<m)(hl:L.length=m):EI (.cn (.ptr id 0) m::rest) G H=Ci (EI rest G H) λvs=>some (.agg L::vs):=by
 show Ci (A8 m (.ptr id 0) G H) (λv=>Ci (EI rest G H) λvs=>some (v::vs))=_
 rw[Ah h hm hl];rfl
end
structure SL(G:AY)(v:V)(z:Nat)(LS:EY):Prop where
 mk'::
 is:(v=.Aj/\LS=[])∨∃b off cap,v=.rsl b off LS.length cap z/\∀i c,LS[i]? =some c->c.length=z/\G b (off+i*z) z=some c
theorem fC{α β:Type}(a:α)(f:α->Option β):Ci (some a) f=f a:=rfl
theorem AVO(a:V):Hr [a]=a:=rfl
theorem AVq(a b:V)(l:LV):Hr (a::b::l)=.JL (a::b::l):=rfl
theorem AXb(a b l c:Nat):Ez (.one .str) false (.str a b) (.str l c)=some (.bool (decide (a=l/\b=c))):=by
 show ofB (Zp (some (band (Nat.beq a l) (Nat.beq b c))) λb=>some b)=_
 have:band (Nat.beq a l) (Nat.beq b c)=decide (a=l/\b=c):=by rw[CJ,Bool.eq_iff_iff];simp
 rw[this];cases decide (a=l/\b=c)<;>rfl
structure Kp(H:Heap)(n:Nat)(H':Heap)(n':Nat):Prop where
 le:n<=n'
 same:∀id,id<n->T.get H' id=T.get H id
theorem Kp.refl(H:Heap)(n:Nat):Kp H n H n:=⟨Nat.le_refl _,λ_ _=>rfl⟩
theorem Kp.trans{H H' H'':Heap}{n n' n'':Nat}(a:Kp H n H' n')(b:Kp H' n' H'' n''):Kp H n H'' n'':=⟨Nat.le_trans a.le b.le,λid h=>(b.same id (Nat.lt_of_lt_of_le h a.le)).trans (a.same id h)⟩
theorem Kp.new{H0 H:Heap}{n0 n id:Nat}(a:Kp H0 n0 H n)(b:Pn)(h:n0<=id){m:Nat}(hm:n<=m):Kp H0 n0 (T.set H id b) m:=
 ⟨Nat.le_trans a.le hm,λj hj=>by rw[T.Ak _ _ (by omega)];exact a.same j hj⟩
theorem NW{σ:Type}{b:(σ->Prop)->σ->Prop}{J:Nat->σ->Prop}(h:∀I m s,J m s->(∀m' s',m'<m->J m' s'->I s')->b I s){m:Nat}{s:σ}(h0:J m s):lfp σ b s:=by
 intro I hI
 induction m using Nat.strongRecOn generalizing s with
 |_ m ih=>exact hI s (h I m s h0 λm' s' hlt hs=>ih m' hlt hs)
section
variable{G:AY}{H:Heap}{i j o m n:Nat}{L L':LV}{v w:V}{k:KV}{b:Pn}
theorem APc{z:Nat}{P:KV}(h:L.length=z):EH (BH z [L] E0) H n P=P (.ptr n 0) (T.set H n (one L)) (n+1):=AIp h
theorem ARo(hl:L.length=m)(h:0<m):A8 m (.ptr i 0) G (T.set H i (one L))=some (.agg L):=Ah (T.Cm ..) h hl
theorem AUB(h:i≠j):AZ (.ptr i o) G (T.set H j b)=AZ (.ptr i o) G H:=by
 rw[zH,zH,mg,mg];unfold gX;rw[T.Ak _ _ (Ne.symm h)]
theorem ATK(h:i≠j):A8 m (.ptr i o) G (T.set H j b)=A8 m (.ptr i o) G H:=by
 rw[ACi,ACi,mg,mg];unfold gX;rw[T.Ak _ _ (Ne.symm h)]
theorem AP2(hl:L.length=m)(h:0<m)(hn:L'.length=m):Df m (.ptr i 0) (.agg L') (T.set H i (one L)) n k=k .undef (T.set (T.set H i (one L)) i (one L')) n:=Xc (T.Cm ..) h hl hn
end
theorem AOj(L:LV):kX (.agg L)=true:=rfl
theorem AQO(l c:Nat):kX (.str l c)=true:=rfl
theorem AQv(k:IntKind)(a:Int)(s:Nat):kX (.int k a s)=true:=rfl
theorem ANj(b:Bool):kX (.bool b)=true:=rfl
theorem ATq(L:LV):Cc (.agg L)=L:=rfl
theorem ASn(l c:Nat):Cc (.str l c)=[.str l c]:=rfl
theorem AUS(k:IntKind)(a:Int)(s:Nat):Cc (.int k a s)=[.int k a s]:=rfl
theorem APn(b:Bool):Cc (.bool b)=[.bool b]:=rfl
theorem AUb(L:LV)(H:Heap)(n:Nat)(P:KV):EH (L6 (.agg L)) H n P=P (.ptr n 0) (T.set H n (one L)) (n+1):=ARk rfl
theorem AXN(n:Nat):n≠n+1+1+1:=by omega
theorem ARv(a0 a1 b0 b1:V){H:Heap}{i n:Nat}{k:KV}:Df 2 (.ptr i 0) (.agg [b0,b1]) (T.set H i (one [a0,a1])) n k=k .undef (T.set (T.set H i (one [a0,a1])) i (one [b0,b1])) n:=AP2 rfl (by omega) rfl
theorem AUp(a0 a1:V){G:AY}{H:Heap}{i:Nat}{r:List AVr}:EI (.cn (.ptr i 0) 2::r) G (T.set H i (one [a0,a1]))=Ci (EI r G (T.set H i (one [a0,a1]))) λvs=>some (.agg [a0,a1]::vs):=ED (T.Cm ..) (by omega) rfl
theorem AVc(a0 a1 a2 a3 a4:V){G:AY}{H:Heap}{i:Nat}:A8 5 (.ptr i 0) G (T.set H i (one [a0,a1,a2,a3,a4]))=some (.agg [a0,a1,a2,a3,a4]):=ARo rfl (by omega)
theorem AUQ(a0 a1 a2 a3 a4 b0 b1 b2 b3 b4:V){H:Heap}{i n:Nat}{k:KV}:Df 5 (.ptr i 0) (.agg [b0,b1,b2,b3,b4]) (T.set H i (one [a0,a1,a2,a3,a4])) n k=k .undef (T.set (T.set H i (one [a0,a1,a2,a3,a4])) i (one [b0,b1,b2,b3,b4])) n:=AP2 rfl (by omega) rfl
attribute [go_sem] AUb APc ARo AUB ATK AP2 BA yh tX Bq Bg AVE AWQ AWE AVY AWn AVd AVL AWH AWT AXr APr APm Aa AEx AQo qZ qo AUG fC AVO AVq AKa APf AOj AQO AQv ANj ATq ASn AUS APn
attribute [go_sem] ne_eq AXN not_false_eq_true List.length_cons List.length_nil Nat.zero_add
attribute [go_sem] ARv AUp AVc AUQ
theorem SC{H:Heap}{id z:Nat}:∀(n o:Nat) {LS:EY},DX H id z n o=some LS->LS.length=n/\∀i c,LS[i]? =some c->gX H id ((o+i)*z) z=some c
 |0,o,LS,h=>by cases h;exact⟨rfl,λi c hc=>by simp at hc⟩
 |n+1,o,LS,h=>by
  have h':Ci (gX H id (Nat.mul o z) z) (λL=>Ci (DX H id z n (Nat.succ o)) λLS=>some (L::LS))=some LS:=h
  rw[Ba]at h'
  obtain⟨L,hL,h'⟩:=h'
  rw[Ba]at h'
  obtain⟨LS',hLS,h'⟩:=h'
  cases h'
  obtain⟨h1,h2⟩:=SC n (o+1) hLS
  refine⟨by simp[h1],λi c hc=>?_⟩
  cases i with
  |zero=>simp at hc;subst hc;exact hL
  |succ i=>simp at hc;rw[show o+(i+1)=o+1+i by omega];exact h2 i c hc
theorem qw{G:AY}{b z:Nat}:∀(n o:Nat) {LS:EY},vN G b z n o=some LS->LS.length=n/\∀i c,LS[i]? =some c->G b (o+i*z) z=some c
 |0,o,LS,h=>by cases h;exact⟨rfl,λi c hc=>by simp at hc⟩
 |n+1,o,LS,h=>by
  have h':Ci (G b o z) (λL=>Ci (vN G b z n (Nat.add o z)) λLS=>some (L::LS))=some LS:=h
  rw[Ba]at h'
  obtain⟨L,hL,h'⟩:=h'
  rw[Ba]at h'
  obtain⟨LS',hLS,h'⟩:=h'
  cases h'
  obtain⟨h1,h2⟩:=qw n (o+z) hLS
  refine⟨by simp[h1],λi c hc=>?_⟩
  cases i with
  |zero=>simp at hc;subst hc;simpa using hL
  |succ i=>simp at hc;rw[show o+(i+1)*z=o+z+i*z by rw[Nat.add_mul];omega];exact h2 i c hc
def El(G:AY)(H:Heap)(v:V)(z:Nat)(LS:EY):Prop:=isStr v=false/\elems v G H z=some LS
theorem El.len{G:AY}{H:Heap}{v:V}{z:Nat}{LS:EY}(h:El G H v z LS):lenV v=some (.int .i64 (.ofNat LS.length) 0):=by
 obtain⟨hs,h⟩:=h
 cases v<;>try (cases h;done)
 ·cases hs
 ·cases h;rfl
 ·rename_i id off n c e
  cases hb:Nat.beq e z with
  |false=>have h':(Bool.rec (motive:=λ_=>Option EY) none (DX H id z n off) (Nat.beq e z):Option EY)=some LS:=h;rw[hb]at h';cases h'
  |true=>
   have h':(Bool.rec (motive:=λ_=>Option EY) none (DX H id z n off) (Nat.beq e z):Option EY)=some LS:=h
   rw[hb]at h';rw[(SC _ _ h').1];rfl
 ·rename_i id off n e
  cases hb:Nat.beq e z with
  |false=>have h':(Bool.rec (motive:=λ_=>Option EY) none (DX H id z n off) (Nat.beq e z):Option EY)=some LS:=h;rw[hb]at h';cases h'
  |true=>
   have h':(Bool.rec (motive:=λ_=>Option EY) none (DX H id z n off) (Nat.beq e z):Option EY)=some LS:=h
   rw[hb]at h';rw[(SC _ _ h').1];rfl
 ·rw[(qw _ _ h).1];rfl
theorem El.at{G:AY}{H:Heap}{v:V}{z:Nat}{LS:EY}(h:El G H v z LS){i:Nat}{c:LV}(hi:LS[i]? =some c):
 ∃p,Bj z v (.int .i64 (.ofNat i) 0)=some p/\vM p G H z=some c:=by
 obtain⟨hs,h⟩:=h
 obtain⟨hlt,_⟩:=List.getElem?_eq_some_iff.1 hi
 cases v<;>try (cases h;done)
 ·cases hs
 ·cases h;simp at hlt
 ·rename_i id off n cp e
  have h':(Bool.rec (motive:=λ_=>Option EY) none (DX H id z n off) (Nat.beq e z):Option EY)=some LS:=h
  cases hb:Nat.beq e z with
  |false=>rw[hb]at h';cases h'
  |true=>
   rw[hb]at h'
   obtain⟨h1,h2⟩:=SC _ _ h'
   refine⟨.ptr id ((off+i)*z),?_,h2 i c hi⟩
   show BJ (band (Nat.beq e z) (Nat.blt i n)) (Dk (Nat.mul (Nat.add off i) z) λo=>some (.ptr id o))=_
   rw[hb,show Nat.blt i n=true by rw[Nat.blt_eq];omega,Bc];rfl
 ·rename_i id off n e
  have h':(Bool.rec (motive:=λ_=>Option EY) none (DX H id z n off) (Nat.beq e z):Option EY)=some LS:=h
  cases hb:Nat.beq e z with
  |false=>rw[hb]at h';cases h'
  |true=>
   rw[hb]at h'
   obtain⟨h1,h2⟩:=SC _ _ h'
   refine⟨.ptr id ((off+i)*z),?_,h2 i c hi⟩
   show BJ (band (Nat.beq e z) (Nat.blt i n)) (Dk (Nat.mul (Nat.add off i) z) λo=>some (.ptr id o))=_
   rw[hb,show Nat.blt i n=true by rw[Nat.blt_eq];omega,Bc];rfl
 ·rename_i b off n cp e
  obtain⟨h1,h2⟩:=qw _ _ h
  refine⟨.VG b (off+i*z),?_,h2 i c hi⟩
  show BJ (Nat.blt i n) (Dk (Nat.add off (Nat.mul i z)) λo=>some (.VG b o))=_
  rw[show Nat.blt i n=true by rw[Nat.blt_eq];omega,Bc];rfl
theorem Qs{G:AY}{H:Heap}{p:V}{z:Nat}{c:LV}(h:vM p G H z=some c):A8 z p G H=some (.agg c):=by rw[ACi,h];rfl
theorem vg{G:AY}{H:Heap}{p v:V}(h:vM p G H 1=some [v]):AZ p G H=some v:=by rw[zH,h];rfl
noncomputable def V.Ry(v:V):Option Nat:=match v with|.sl id .. =>some id|.Qg id .. =>some id|_=>none
theorem El.same{G:AY}{H H':Heap}{v:V}{z:Nat}{LS:EY}(h:El G H v z LS)(hs:∀id,v.Ry=some id->T.get H' id=T.get H id):El G H' v z LS:=by
 refine⟨h.1,?_⟩
 have hB:∀id,v.Ry=some id->∀n o,DX H' id z n o=DX H id z n o:=by
  intro id hid n
  induction n with
  |zero=>intro o;rfl
  |succ n ih=>
   intro o
   show Ci (gX H' id (Nat.mul o z) z) (λL=>Ci (DX H' id z n (Nat.succ o)) λLS=>some (L::LS))=Ci (gX H id (Nat.mul o z) z) (λL=>Ci (DX H id z n (Nat.succ o)) λLS=>some (L::LS))
   rw[ih];unfold gX;rw[hs id hid]
 have h2:=h.2
 cases v<;>try exact h2
 ·rename_i id off n c e
  show(Bool.rec (motive:=λ_=>Option EY) none (DX H' id z n off) (Nat.beq e z):Option EY)=some LS
  rw[hB id rfl];exact h2
 ·rename_i id off n e
  show(Bool.rec (motive:=λ_=>Option EY) none (DX H' id z n off) (Nat.beq e z):Option EY)=some LS
  rw[hB id rfl];exact h2
theorem T.xR{α:Type}(a b:α):∀(p:P2) (t:T α),T.Yd b p (T.Yd a p t)=T.Yd b p t
 |.h,t=>rfl
 |.z p,t=>by show T.n t.val (T.Yd b p (T.Yd a p t.left)) t.right=T.n t.val (T.Yd b p t.left) t.right;rw[T.xR a b p]
 |.o p,t=>by show T.n t.val t.left (T.Yd b p (T.Yd a p t.right))=T.n t.val t.left (T.Yd b p t.right);rw[T.xR a b p]
theorem T.set_set{α:Type}(t:T α)(k:Nat)(a b:α):T.set (T.set t k a) k b=T.set t k b:=T.xR ..
theorem Kp.get{H H':Heap}{n n' id:Nat}{b:Pn}(f:Kp H n H' n')(h:T.get H id=some b)(hi:id<n):T.get H' id=some b:=(f.same id hi).trans h
theorem Kp.set{H0 H:Heap}{n0 n id:Nat}(a:Kp H0 n0 H n)(b:Pn)(h:n0<=id):Kp H0 n0 (T.set H id b) n:=a.new b h (Nat.le_refl _)
theorem IZ{σ:Type}{b:(σ->Prop)->σ->Prop}{N:Nat}{J:Nat->σ->Prop}(hs:∀I i s,i<N->J i s->(∀s',J (i+1) s'->I s')->b I s)(he:∀I s,J N s->b I s){s:σ}(h0:J 0 s):lfp σ b s:=by
 refine NW (J:=λm s=>∃i,m=N-i/\i<=N/\J i s) ?_ (m:=N) ⟨0,rfl,Nat.zero_le _,h0⟩
 rintro I m s ⟨i,rfl,hi,hj⟩ ih
 rcases Nat.lt_or_ge i N with h|h
 ·exact hs I i s h hj λs' hj'=>ih _ s' (by omega) ⟨i+1,rfl,h,hj'⟩
 ·have:i=N:=by omega
  subst this;exact he I s hj
section
variable{H:Heap}{n z:Nat}{L:LV}{P:KV}
theorem AI5{v:V}(hv:kX v=true)(h:∀H',Kp H n H' (n+1)->T.get H' n=some (one (Cc v))->P (.ptr n 0) H' (n+1)):EH (L6 v) H n P:=by
 rw[ARk hv];exact h _ ((Kp.refl H n).new _ (Nat.le_refl _) (by omega)) (T.Cm ..)
theorem D5(h:∀H',Kp H n H' (n+1)->T.get H' n=some (one L)->P (.ptr n 0) H' (n+1)):EH (L6 (.agg L)) H n P:=AI5 rfl h
theorem BG(hL:L.length=z)(h:∀H',Kp H n H' (n+1)->T.get H' n=some (one L)->P (.ptr n 0) H' (n+1)):EH (BH z [L] E0) H n P:=by
 rw[AIp hL];exact h _ ((Kp.refl H n).new _ (Nat.le_refl _) (by omega)) (T.Cm ..)
theorem AV5{L':LV}(hL:L.length=z)(hL':L'.length=z)(hz:0<z)(h:∀H',Kp H n H' (n+1)->T.get H' n=some (one L')->P .undef H' (n+1)):
 Df z (.ptr n 0) (.agg L') (T.set H n (one L)) (n+1) P:=by
 rw[AP2 hL hz hL',T.set_set];exact h _ ((Kp.refl H n).new _ (Nat.le_refl _) (by omega)) (T.Cm ..)
theorem Ew{i o m:Nat}{L:LV}{v:V}(hg:T.get H i=some (one L))(hv:kX v=true)(hn:(Cc v).length=m)(hm:0<m)(hl:o+m<=L.length)
 (h:∀H',T.get H' i=some (one (L.take o++(Cc v++L.drop (o+m))))->(∀j,j≠i->T.get H' j=T.get H j)->P .undef H' n):Df m (.ptr i o) v H n P:=by
 rw[AJF hg hv hn hm hl];exact h _ (T.Cm ..) λj hj=>T.Ak _ _ (Ne.symm hj)
end
theorem ADO{H:Heap}{id e c i:Nat}{t:T LV}(hg:T.get H id=some (.arr e c t))(he:0<e)(hi:i<c):gX H id (i*e) e=T.get t i:=by
 unfold gX;rw[hg]
 show ldB e c t (i*e) e=_
 unfold ldB
 have hdiv:i*e/e=i:=Nat.mul_div_cancel _ he
 have hmod:i*e%e=0:=Nat.mul_mod_left ..
 have hb:Nat.blt (Nat.div (i*e) e) c=true:=by rw[Nat.blt_eq];show i*e/e<c;omega
 rw[hb]
 show Ci (T.get t (Nat.div (i*e) e)) (ldC e (i*e) e)=_
 rw[show Nat.div (i*e) e=i from hdiv]
 cases h:T.get t i with
 |none=>rfl
 |some L=>
  show ldC e (i*e) e L=_
  unfold ldC
  rw[show Nat.mod (i*e) e=0 from hmod,show band (Nat.beq e e) (Nat.beq 0 0)=true by simp]
theorem nG{H:Heap}{id z:Nat}:∀(n o:Nat) (LS:EY),LS.length=n->(∀i c,LS[i]? =some c->gX H id ((o+i)*z) z=some c)->DX H id z n o=some LS
 |0,o,LS,hl,_=>by cases LS with|nil=>rfl|cons a l=>simp at hl
 |n+1,o,LS,hl,h=>by
  cases LS with
  |nil=>simp at hl
  |cons a l=>
   show Ci (gX H id (Nat.mul o z) z) (λL=>Ci (DX H id z n (Nat.succ o)) λLS=>some (L::LS))=_
   have h0:=h 0 a rfl
   rw[show Nat.mul o z=(o+0)*z from rfl,h0,fC,nG n (o+1) l (by simpa using hl) λi c hc=>by
    have:=h (i+1) c (by simpa using hc);rwa [show o+(i+1)=o+1+i by omega]at this]
   rfl
inductive Gr(G:AY)(H:Heap)(m:Nat)(z:Nat):V->EY->Prop where
 |nil:Gr G H m z .Aj []
 |Qg {id c:Nat} {t:T LV} {LS:EY} (hg:T.get H id=some (.arr z c t)) (hc:LS.length<=c) (ht:∀i L,LS[i]? =some L->T.get t i=some L) (hid:m<=id):Gr G H m z (.Qg id 0 LS.length z) LS
theorem Fp(z:Nat):Nat.beq z z=true:=by simp
theorem Gr.el{G:AY}{H:Heap}{m z:Nat}{v:V}{LS:EY}(h:Gr G H m z v LS)(hz:0<z):El G H v z LS:=by
 cases h with
 |nil=>exact⟨rfl,rfl⟩
 |Qg hg hc ht hid=>
  rename_i id c t
  refine⟨rfl,?_⟩
  show(Bool.rec (motive:=λ_=>Option EY) none (DX H id z LS.length 0) (Nat.beq z z):Option EY)=some LS
  rw[Fp]
  exact nG _ _ _ rfl λi L hi=>by
   have hlt:=(List.getElem?_eq_some_iff.1 hi).1
   rw[Nat.zero_add,ADO hg hz (by omega)];exact ht i L hi
theorem Gr.mono{G:AY}{H H':Heap}{m z:Nat}{v:V}{LS:EY}(h:Gr G H m z v LS)(hs:∀id,v.Ry=some id->T.get H' id=T.get H id):Gr G H' m z v LS:=by
 cases h with
 |nil=>exact .nil
 |Qg hg hc ht hid=>exact .Qg (hs _ rfl▸hg) hc ht hid
theorem Gr.lo{G:AY}{H:Heap}{m z:Nat}{v:V}{LS:EY}(h:Gr G H m z v LS){id:Nat}(hid:v.Ry=some id):m<=id/\∃c t,T.get H id=some (.arr z c t):=by
 cases h with
 |nil=>cases hid
 |Qg hg hc ht hi=>cases hid;exact⟨hi,_,_,hg⟩
theorem Z4{a b:Nat}(h:a*b<=140737488355328):Ql a b=true:=by unfold Ql;rw[Nat.ble_eq];exact h
theorem AGV{id ln z bs c n:Nat}{t:T LV}{NS:EY}{H:Heap}{k:KV}(hr:Ql (ln+NS.length) bs=true)(hc:ln<=c):
 Y3 id 0 ln z bs NS H n k (.arr z c t)=k (.Qg n 0 (ln+NS.length) z) (T.set (T.set H id .dead) n (.arr z (ln+NS.length) (F5 NS ln t))) (n+1):=by
 show Ed (Nat.add ln (len NS)) (λneed=>FN (band (Ql need bs) (band (Nat.beq z z) (Nat.ble (Nat.add 0 ln) c))) (Ed n λn=>k (.Qg n 0 need z) (T.set (T.set H id .dead) n (.arr z need (F5 NS ln t))) (Nat.succ n)))=_
 rw[CU,CU,len_eq]
 show FN (band (Ql (ln+NS.length) bs) (band (Nat.beq z z) (Nat.ble (Nat.add 0 ln) c))) (k (.Qg n 0 (ln+NS.length) z) (T.set (T.set H id .dead) n (.arr z (ln+NS.length) (F5 NS ln t))) (n+1))=_
 rw[hr,Fp,show Nat.ble (Nat.add 0 ln) c=true by rw[Nat.ble_eq];show 0+ln<=c;omega]
 rfl
theorem Gr.app{G:AY}{H:Heap}{m n z bs:Nat}{v w:V}{LS NS:EY}{k:KV}(h:Gr G H m z v LS)(hm:m<=n)(hn:∀id,v.Ry=some id->id<n)(hw:elems w G H z=some NS)
 (hb:(LS.length+NS.length)*bs<=140737488355328)
 (hk:∀v' H',Gr G H' m z v' (LS++NS)->(∀id,id<n->v.Ry≠some id->T.get H' id=T.get H id)->(∀id,v'.Ry=some id->id<n+1)->k v' H' (n+1))
 (hk0:NS=[]->k v H n):iW z bs v w G H n k:=by
 unfold iW
 rw[hw,yh]
 cases h with
 |nil=>
  cases NS with
  |nil=>exact hk0 rfl
  |cons a NS=>
   show Qz z bs [] (a::NS) H n k
   unfold Qz
   rw[CU,CU,len_eq,len_eq,show Ql (Nat.add ([]:EY).length (a::NS).length) bs=true from Z4 hb,tX]
   have e:Nat.add ([]:EY).length (a::NS).length=(a::NS).length:=Nat.zero_add _
   rw[e]
   refine hk _ _ ?_ (λid hid _=>T.Ak _ _ (by omega)) (λid hid=>by cases hid;omega)
   refine .Qg (LS:=a::NS) (T.Cm ..) (Nat.le_refl _) (λi L hi=>?_) hm
   show T.get (F5 (a::NS) 0 .e) i=some L
   have hlt:=(List.getElem?_eq_some_iff.1 hi).1
   rw[Fh,if_pos ⟨Nat.zero_le _,by omega⟩];exact hi
 |Qg hg hc ht hid=>
  rename_i id c t
  show FN (Nat.beq z z) _
  rw[Fp,tX]
  cases NS with
  |nil=>exact hk0 rfl
  |cons a NS=>
   show Ip (T.get H id) (λb=>Y3 id 0 LS.length z bs (a::NS) H n k b)
   rw[hg,yh]
   rw[AGV (Z4 hb) hc,show LS.length+(a::NS).length=(LS++a::NS).length by rw[List.length_append]]
   refine hk _ _ ?_ (λj hj hne=>?_) (λj hj=>by cases hj;omega)
   ·refine .Qg (LS:=LS++a::NS) (T.Cm ..) (Nat.le_refl _) (λi L hi=>?_) hm
    rw[Fh]
    by_cases hlt:i<LS.length
    ·rw[if_neg (by omega)]
     rw[List.getElem?_append_left hlt]at hi
     exact ht i L hi
    ·rw[List.getElem?_append_right (by omega)]at hi
     have hlt2:=(List.getElem?_eq_some_iff.1 hi).1
     rw[if_pos ⟨by omega,by omega⟩];exact hi
   ·rw[T.Ak _ _ (by omega),T.Ak _ _ (by intro e;subst e;exact hne rfl)]
def AHa{α:Type}(s:Nat×Nat)(v:α):List ((Nat×Nat)×α)->List ((Nat×Nat)×α)
 |[]=>[(s,v)]
 |p::ps=>if p.1=s then(s,v)::ps else p::AHa s v ps
def AHG(G:AY):Prop:=∀b o z L,G b o z=some L->L.length=z/\∀i m,0<m->i+m<=z->G b (o+i) m=some ((L.drop i).take m)
theorem ANA(e off m:Nat)(L:LV):ldC e off m L=if m=e/\off%e=0 then some L else if off%e+m<=e then some ((L.drop (off%e)).take m)else none:=by
 have e1:ldC e off m L=Bool.rec (motive:=λ_=>Option LV) (Bool.rec none (some (XM m (fO (off%e) L))) (Nat.ble (off%e+m) e)) (some L) (band (Nat.beq m e) (Nat.beq (off%e) 0)):=rfl
 rw[e1,Zv,kG]
 by_cases h:m=e/\off%e=0
 ·have hb:band (Nat.beq m e) (Nat.beq (off%e) 0)=true:=by simp only[CJ,Bool.and_eq_true,beq_iff];exact h
  rw[if_pos h,hb]
 ·have hb:band (Nat.beq m e) (Nat.beq (off%e) 0)=false:=by rw[Bool.eq_false_iff];intro hc;simp only[CJ,Bool.and_eq_true,beq_iff]at hc;exact h hc
  rw[if_neg h,hb]
  by_cases h2:off%e+m<=e
  ·rw[if_pos h2,show Nat.ble (off%e+m) e=true by rw[Nat.ble_eq];exact h2]
  ·rw[if_neg h2,show Nat.ble (off%e+m) e=false by rw[Bool.eq_false_iff];intro hc;rw[Nat.ble_eq]at hc;exact h2 hc]
theorem AOF{e cnt off m:Nat}{t:T LV}{c:LV}(h:ldB e cnt t off m=some c):∃L,off/e<cnt/\T.get t (off/e)=some L/\ldC e off m L=some c:=by
 unfold ldB at h
 rw[Ba]at h
 obtain⟨L,h1,h2⟩:=h
 cases hb:Nat.blt (Nat.div off e) cnt with
 |false=>rw[hb]at h1;cases h1
 |true=>rw[hb]at h1;exact⟨L,by rw[Nat.blt_eq]at hb;exact hb,h1,h2⟩
theorem AJh{H:Heap}{id off z o m:Nat}{c:LV}(h:gX H id off z=some c)(hc:c.length=z)(hm:0<m)(ho:o+m<=z):gX H id (off+o) m=some ((c.drop o).take m):=by
 unfold gX at h⊢
 cases hb:T.get H id with
 |none=>rw[hb]at h;cases h
 |some b=>
  rw[hb]at h
  cases b with
  |map _ _=>cases h
  |dead=>cases h
  |TG _ _ _ _ _=>cases h
  |own _=>cases h
  |arr e cnt t=>
   have h':ldB e cnt t off z=some c:=h
   show ldB e cnt t (off+o) m=_
   obtain⟨L,h1,h2,h3⟩:=AOF h'
   rw[ANA]at h3
   have key:off%e+z<=e/\c=(L.drop (off%e)).take z/\(z=e/\off%e=0->c=L):=by
    by_cases hh:z=e/\off%e=0
    ·rw[if_pos hh]at h3
     cases h3
     rw[hh.2,List.drop_zero,List.take_of_length_le (by omega)]
     exact⟨by omega,rfl,λ_=>rfl⟩
    ·rw[if_neg hh]at h3
     by_cases h4:off%e+z<=e
     ·rw[if_pos h4]at h3;exact⟨h4,(Option.some.inj h3).symm,λh=>absurd h hh⟩
     ·rw[if_neg h4]at h3;cases h3
   obtain⟨hle,hcc,hcl⟩:=key
   have he:0<e:=by omega
   have hlt:off%e+o<e:=by omega
   have hoff:off+o=e*(off/e)+(off%e+o):=by have:=Nat.div_add_mod off e;omega
   have hd:(off+o)/e=off/e:=by rw[hoff,Nat.mul_add_div he,Nat.div_eq_of_lt hlt];omega
   have hmo:(off+o)%e=off%e+o:=by rw[hoff,Nat.mul_add_mod,Nat.mod_eq_of_lt hlt]
   unfold ldB
   rw[show Nat.div (off+o) e=off/e from hd,show Nat.blt (off/e) cnt=true by rw[Nat.blt_eq];exact h1]
   show Ci (T.get t (off/e)) (ldC e (off+o) m)=_
   rw[h2,fC,ANA,hmo]
   have hL:z<=(L.drop (off%e)).length:=by rw[hcc,List.length_take]at hc;omega
   by_cases hh:m=e/\off%e+o=0
   ·rw[if_pos hh,<-hcl ⟨by omega,by omega⟩,show o=0 by omega,List.drop_zero,List.take_of_length_le (by omega)]
   ·rw[if_neg hh,if_pos (by omega),hcc,List.drop_take,List.take_take,List.drop_drop,Nat.min_eq_left (by omega)]
theorem APv{G:AY}(hG:AHG G){H:Heap}{p:V}{z o m:Nat}{c:LV}(h:vM p G H z=some c)(hc:c.length=z)(hm:0<m)(ho:o+m<=z):
 ∃p',AU o p=some p'/\vM p' G H m=some ((c.drop o).take m):=by
 cases p<;>try (cases h;done)
 ·rename_i id off;exact⟨_,Aa ..,AJh h hc hm ho⟩
 ·rename_i b off;exact⟨_,AEx ..,(hG b off z c h).2 o m hm ho⟩
theorem AMv{G:AY}(hG:AHG G){H:Heap}{p:V}{z o:Nat}{c:LV}{x:V}(h:vM p G H z=some c)(hc:c.length=z)(ho:c[o]? =some x):
 ∃p',AU o p=some p'/\AZ p' G H=some x:=by
 obtain⟨hlt,he⟩:=List.getElem?_eq_some_iff.1 ho
 obtain⟨p',h1,h2⟩:=APv hG h hc (o:=o) (m:=1) (by omega) (by omega)
 refine⟨p',h1,?_⟩
 rw[zH,h2,ADE,dA,List.getElem?_take]
 simp[ho]
theorem AU4{t e:Nat}{H:Heap}{n:Nat}{P:KV}:EH (ANV t e E0) H n P=P (.ptr n 0) (T.set H n (.TG t e 0 0 0)) (n+1):=by
 show Ed n (λn=>P (.ptr n 0) (T.set H n (.TG t e 0 0 0)) (Nat.succ n))=_
 rw[CU]
theorem ASu{m:Nat}(h:m+1<9223372036854775808):B2.ev .sub (.int .i64 (.ofNat (m+1)) 0) (.int .i64 (.ofNat 1) 0)=some (.int .i64 (.ofNat m) 0):=by
 show some (V.int .i64 (U1 .i64 (ADI (.ofNat (m+1)) (Int.neg (.ofNat 1)))) 0)=_
 rw[Xy,vC]
 have e:Int.ofNat (m+1)+Int.neg (Int.ofNat 1)=Int.ofNat m:=by show((m+1:Nat):Int)+ -((1:Nat):Int)=(m:Int);omega
 rw[e,Zl (by show(-9223372036854775808:Int)<=(m:Int);omega) (by show(m:Int)<9223372036854775808;omega)]
end Go.Eng
namespace Go.Eng
open Go.ChangeShapes Go.WideShapes Go.RowKit
inductive Sh where
 |int (k:IntKind)|bool|str|sl (z:Nat) (t:Sh)|st (l:List Sh)
theorem AHs{W:World}{b o n:Nat}{L:LV}(h:VU W b o n=some L):L.length=n:=by
 unfold VU at h
 split at h
 ·cases h;simp
 ·cases h
theorem AIR(W:World):AHG (VU W):=by
 intro b o z L h
 refine⟨AHs h,λi m hm hi=>?_⟩
 unfold VU at h⊢
 split at h
 ·rename_i hc
  cases h
  rw[if_pos]
  ·congr 1
   apply List.ext_getElem?
   intro j
   rw[List.getElem?_take]
   by_cases hj:j<m
   ·rw[if_pos hj,List.getElem?_drop,List.getElem?_map,List.getElem?_map,List.getElem?_range hj,List.getElem?_range (by omega),Option.map_some,Option.map_some,Nat.add_assoc]
   ·rw[if_neg hj,List.getElem?_eq_none (by simp;omega)]
  ·intro j hj
   have:=hc (i+j) (by omega)
   rwa [<-Nat.add_assoc]at this
 ·cases h
def AMH:V->Bool
 |.int _ _ b=>Nat.beq b 0
 |.bool _=>true
 |.str _ _=>true
 |_=>false
theorem ASl{ρ:Loc}{v:V}{u:Value}(h:AV ρ v u)(hp:AMH v=true):toV u=v:=by
 cases v<;>try (cases hp;done)
 ·rename_i k n s
  have:s=0:=Nat.eq_of_beq_eq_true hp
  subst this
  simp only[AV]at h;subst h;rfl
 ·simp only[AV]at h;subst h;rfl
 ·simp only[AV]at h
  obtain⟨s,rfl,h1,h2⟩:=h
  subst h1;subst h2;rfl
theorem AAy{W:World}{g:Nat}{cs:List Value}{tab:LV}(hc:∀i,W.cell? ⟨g,i,none⟩=cs[i]?)(hr:DF (λ_=>none) tab cs)(h1:∀u∈cs,u.oneCell'=true)(hp:tab.all AMH=true){o n:Nat}(hl:o+n<=tab.length):
 VU W g o n=some ((tab.drop o).take n):=by
 obtain⟨hlen,hget⟩:=(Z8 tab cs).1 hr
 rw[AFJ (cs:=(cs.drop o).take n) (by simp;omega) (λu hu=>h1 u (List.mem_of_mem_drop (List.mem_of_mem_take hu))) λj u hj=>?_]
 ·congr 1
  apply List.ext_getElem?
  intro j
  rw[List.getElem?_map,List.getElem?_take,List.getElem?_take]
  by_cases hj:j<n
  ·rw[if_pos hj,if_pos hj,List.getElem?_drop,List.getElem?_drop]
   have hlt:o+j<tab.length:=by omega
   rw[List.getElem?_eq_getElem hlt,List.getElem?_eq_getElem (by omega),Option.map_some]
   congr 1
   exact ASl (hget _ _ _ (List.getElem?_eq_getElem hlt) (List.getElem?_eq_getElem (by omega))) (List.all_eq_true.1 hp _ (List.getElem_mem hlt))
  ·rw[if_neg hj,if_neg hj];rfl
 ·rw[List.getElem?_take]at hj
  split at hj
  ·rw[List.getElem?_drop]at hj;rw[hc];exact hj
  ·cases hj
end Go.Eng
namespace Go.Eng
section
variable{e:Option V}{P:V->Prop}{Q:KV}{t:KV->Prop}{H:Heap}{n:Nat}{a b:V}
theorem AKY(h:P (.JL [])):Bh (.bool true) false e P:=h
theorem ABz(h:P (.JL [])):Bh (.bool false) true e P:=h
theorem AVP(h:Q (.JL []) H n):Ub (.bool true) false t H n Q:=h
theorem AI2(h:Q (.JL []) H n):Ub (.bool false) true t H n Q:=h
theorem AR7(h:P a):AP (Dc (.bool true) a b) P:=h
theorem AB0(h:P b):AP (Dc (.bool false) a b) P:=h
end
def sB(l:List UInt8):V:=.str l.length (enc l)
theorem jM(l:List UInt8):aA (sB l)=some (.int .i64 (.ofNat l.length) 0):=rfl
theorem AE5{l:List UInt8}{i:Nat}(h:i<l.length):KP (sB l) (.int .i64 (.ofNat i) 0)=some (.int .u8 (.ofNat (l[i]).toNat) 0):=by
 show BJ (Nat.blt i l.length) (Dk (AJ7 (enc l) i) λb=>some (.int .u8 (.ofNat b) 0))=_
 rw[show Nat.blt i l.length=true by rw[Nat.blt_eq];exact h,Bc,AAr l i h];rfl
theorem AMk{l:List UInt8}{a b:Nat}(h1:a<=b)(h2:b<=l.length):X0 (sB l) E0 (some (.c (.int .i64 (.ofNat a) 0))) (some (.c (.int .i64 (.ofNat b) 0)))=some (sB ((l.drop a).take (b-a))):=by
 show BJ (band (Nat.ble a b) (Nat.ble b l.length)) (Dk (b-a) λd=>Dk (ANe (enc l) a b) λc=>Dk 0 λ_=>some (.str d c))=_
 rw[show Nat.ble a b=true by rw[Nat.ble_eq];exact h1,show Nat.ble b l.length=true by rw[Nat.ble_eq];exact h2,Bc,Bc,Bc,tK]
 have:((l.drop a).take (b-a)).length=b-a:=by rw[List.length_take,List.length_drop];omega
 show some (V.str (b-a) (enc ((l.drop a).take (b-a))))=_
 unfold sB;rw[this]
theorem AHL{l:List UInt8}{a:Nat}(h:a<=l.length):X0 (sB l) E0 (some (.c (.int .i64 (.ofNat a) 0))) none=some (sB (l.drop a)):=by
 show BJ (band (Nat.ble a l.length) (Nat.ble l.length l.length)) (Dk (l.length-a) λd=>Dk (ANe (enc l) a l.length) λc=>Dk 0 λ_=>some (.str d c))=_
 rw[show Nat.ble a l.length=true by rw[Nat.ble_eq];exact h,show Nat.ble l.length l.length=true by rw[Nat.ble_eq];exact Nat.le_refl _,Bc,Bc,Bc,tK]
 have e:(l.drop a).take (l.length-a)=l.drop a:=List.take_of_length_le (by rw[List.length_drop];omega)
 rw[e]
 have:(l.drop a).length=l.length-a:=by rw[List.length_drop]
 show some (V.str (l.length-a) (enc (l.drop a)))=_
 unfold sB;rw[this]
theorem AW9{l:List UInt8}{b:Nat}(h:b<=l.length):X0 (sB l) E0 none (some (.c (.int .i64 (.ofNat b) 0)))=some (sB (l.take b)):=by
 show BJ (band (Nat.ble 0 b) (Nat.ble b l.length)) (Dk (b-0) λd=>Dk (ANe (enc l) 0 b) λc=>Dk 0 λ_=>some (.str d c))=_
 rw[show Nat.ble 0 b=true by rw[Nat.ble_eq];omega,show Nat.ble b l.length=true by rw[Nat.ble_eq];exact h,Bc,Bc,Bc,tK]
 have:((l.drop 0).take (b-0)).length=b-0:=by rw[List.length_take,List.length_drop];omega
 show some (V.str (b-0) (enc ((l.drop 0).take (b-0))))=_
 unfold sB;rw[List.drop_zero,Nat.sub_zero,show(l.take b).length=b by rw[List.length_take];omega]
theorem ANw(a b:List UInt8):(a.length=b.length/\enc a=enc b)↔a=b:=⟨λh=>AD6 a b h.1 h.2,λh=>by subst h;exact⟨rfl,rfl⟩⟩
theorem AFM(a b:List UInt8):Ez (.one .str) false (sB a) (sB b)=some (.bool (decide (a=b))):=by
 unfold sB;rw[AXb];congr 2;rw[decide_eq_decide];exact ANw a b
theorem AU8(a b:List UInt8):Ez (.one .str) true (sB a) (sB b)=some (.bool (!decide (a=b))):=by
 show ofB (Zp (some (band (Nat.beq a.length b.length) (Nat.beq (enc a) (enc b)))) λb=>some (Xj b))=_
 have:band (Nat.beq a.length b.length) (Nat.beq (enc a) (enc b))=decide (a=b):=by rw[CJ,Bool.eq_iff_iff,decide_eq_true_iff,<-ANw];simp
 rw[this];cases decide (a=b)<;>rfl
theorem BO{a b:List UInt8}(h:a.length+b.length<9223372036854775808):B2.ev .add (sB a) (sB b)=some (sB (a++b)):=by
 show BJ (Nat.blt (a.length+b.length) 9223372036854775808) (Dk (a.length+b.length) λn=>Dk (ATA a.length (enc a) (enc b)) λe=>some (.str n e))=_
 rw[show Nat.blt (a.length+b.length) 9223372036854775808=true by rw[Nat.blt_eq];exact h,Bc,Bc,AGc]
 unfold sB;rw[List.length_append];rfl
def tV(b:Nat):List UInt8->Nat->Int
 |[],_=>.negSucc 0
 |c::l,i=>bif decide (c.toNat=b)then .ofNat i else tV b l (i+1)
theorem yX(b:Nat):∀(l:List UInt8) (i:Nat),ZW b l.length (enc l) i=tV b l i
 |[],i=>rfl
 |c::l,i=>by
  have ha:c.toNat<256:=c.toNat_lt
  have e1:enc (c::l)%256=c.toNat:=by simp only[enc];omega
  have e2:enc (c::l)/256=enc l:=by simp only[enc];omega
  have e:ZW b (c::l).length (enc (c::l)) i=Bool.rec (ZW b l.length (enc (c::l)/256) (i+1)) (.ofNat i) (Nat.beq (enc (c::l)%256) b):=rfl
  rw[e,e1,e2,yX b l (i+1)]
  rw[show tV b (c::l) i=bif decide (c.toNat=b)then .ofNat i else tV b l (i+1)from rfl]
  by_cases h:c.toNat=b
  ·rw[show Nat.beq c.toNat b=true by rw[beq_iff];exact h];simp[h]
  ·rw[show Nat.beq c.toNat b=false by rw[Bool.eq_false_iff];intro hc;rw[beq_iff]at hc;exact h hc];simp[h]
theorem AXL{l:List UInt8}{b:Nat}(hb:b<256):ANQ (sB l) (.int .u8 (.ofNat b) 0)=some (.int .i64 (tV b l 0) 0):=by
 show BJ true (BJ (Nat.blt b 256) (QF (ZW b l.length (enc l) 0) λi=>some (.int .i64 i 0)))=_
 rw[show Nat.blt b 256=true by rw[Nat.blt_eq];exact hb,yX];rfl
def PW(l:List UInt8):EY:=l.map λc=>[.int .u8 (.ofNat c.toNat) 0]
theorem ABs:∀l:List UInt8,SB l.length (enc l)=PW l
 |[]=>rfl
 |c::l=>by
  have ha:c.toNat<256:=c.toNat_lt
  have e1:enc (c::l)%256=c.toNat:=by simp only[enc];omega
  have e2:enc (c::l)/256=enc l:=by simp only[enc];omega
  show[V.int .u8 (.ofNat (enc (c::l)%256)) 0]::SB l.length (enc (c::l)/256)=_
  rw[e1,e2,ABs l];rfl
theorem AQ0{G:AY}{l:List UInt8}{H:Heap}{n:Nat}{k:KV}(h:∀H' v,Kp H n H' (n+1)->El G H' v 1 (PW l)->k v H' (n+1)):AVm (sB l) H n k:=by
 show Ed n λn=>k (.Qg n 0 l.length 1) (T.set H n (.arr 1 l.length (F5 (SB l.length (enc l)) 0 .e))) (Nat.succ n)
 rw[CU,ABs]
 have hl:(PW l).length=l.length:=List.length_map ..
 refine h _ _ ((Kp.refl H n).new _ (Nat.le_refl _) (by omega)) ?_
 rw[<-hl]
 refine Gr.el (m:=n) (.Qg (LS:=PW l) (T.Cm ..) (Nat.le_refl _) (λi L hi=>?_) (Nat.le_refl _)) (by omega)
 have hlt:=(List.getElem?_eq_some_iff.1 hi).1
 rw[Fh,if_pos ⟨Nat.zero_le _,by omega⟩];exact hi
theorem Qv(b:Bool):YF (.bool b)=some (.bool (!b)):=AVg b
theorem Ym(q:IntKind)(a b:Nat):B2.ev .geq (.int q (.ofNat a) 0) (.int q (.ofNat b) 0)=some (.bool (decide (b<=a))):=by
 show BJ (band (keq q q) true) (mkB (ile (.ofNat b) (.ofNat a)))=_
 rw[vP,AN0,show band (keq q q) true=true by simp[VP],show decide (Int.ofNat b<=Int.ofNat a)=decide (b<=a)by rw[decide_eq_decide];show(b:Int)<=a↔_;omega];rfl
theorem zG(q:IntKind)(a b:Nat):B2.ev .leq (.int q (.ofNat a) 0) (.int q (.ofNat b) 0)=some (.bool (decide (a<=b))):=by
 show BJ (band (keq q q) true) (mkB (ile (.ofNat a) (.ofNat b)))=_
 rw[vP,AN0,show band (keq q q) true=true by simp[VP],show decide (Int.ofNat a<=Int.ofNat b)=decide (a<=b)by rw[decide_eq_decide];show(a:Int)<=b↔_;omega];rfl
theorem kN(q:IntKind)(a b:Nat):B2.ev .gtr (.int q (.ofNat a) 0) (.int q (.ofNat b) 0)=some (.bool (decide (b<a))):=by
 show BJ (band (keq q q) true) (mkB (ilt (.ofNat b) (.ofNat a)))=_
 rw[vP,lD,show band (keq q q) true=true by simp[VP],show decide (Int.ofNat b<Int.ofNat a)=decide (b<a)by rw[decide_eq_decide];show(b:Int)<a↔_;omega];rfl
theorem Ht(q:IntKind)(a b:Nat):B2.ev .lss (.int q (.ofNat a) 0) (.int q (.ofNat b) 0)=some (.bool (decide (a<b))):=by
 show BJ (band (keq q q) true) (mkB (ilt (.ofNat a) (.ofNat b)))=_
 rw[vP,lD,show band (keq q q) true=true by simp[VP],show decide (Int.ofNat a<Int.ofNat b)=decide (a<b)by rw[decide_eq_decide];show(a:Int)<b↔_;omega];rfl
theorem AVx(q:IntKind)(x y:Int):Ez (.one .int) false (.int q x 0) (.int q y 0)=some (.bool (decide (x=y))):=by
 have e:Ez (.one .int) false (.int q x 0) (.int q y 0)=ofB (Zp (some (ieq x y)) λb=>some b):=by cases q<;>rfl
 rw[e,dY,show(x==y)=decide (x=y)by rw[Bool.eq_iff_iff];simp];cases decide (x=y)<;>rfl
theorem AU7(q:IntKind)(x y:Int):Ez (.one .int) true (.int q x 0) (.int q y 0)=some (.bool (!decide (x=y))):=by
 have e:Ez (.one .int) true (.int q x 0) (.int q y 0)=ofB (Zp (some (ieq x y)) λb=>some (Xj b)):=by cases q<;>rfl
 rw[e,dY,show(x==y)=decide (x=y)by rw[Bool.eq_iff_iff];simp];cases decide (x=y)<;>rfl
theorem VN(q:IntKind)(x y:Nat):Ez (.one .int) false (.int q (.ofNat x) 0) (.int q (.ofNat y) 0)=some (.bool (decide (x=y))):=by
 rw[AVx];congr 2;rw[decide_eq_decide];show(x:Int)=y↔_;omega
theorem aY(q:IntKind)(x y:Nat):Ez (.one .int) true (.int q (.ofNat x) 0) (.int q (.ofNat y) 0)=some (.bool (!decide (x=y))):=by
 rw[AU7];congr 3;rw[decide_eq_decide];show(x:Int)=y↔_;omega
theorem Iz{a b:Nat}(h:a+b<9223372036854775808):B2.ev .add (.int .i64 (.ofNat a) 0) (.int .i64 (.ofNat b) 0)=some (.int .i64 (.ofNat (a+b)) 0):=by
 show some (V.int .i64 (U1 .i64 (ADI (.ofNat a) (.ofNat b))) 0)=_
 rw[Xy,vC,Zl (by simp;omega) (by simp;omega)];rfl
theorem ACa{a b:Nat}(hb:b<=a)(h:a<9223372036854775808):B2.ev .sub (.int .i64 (.ofNat a) 0) (.int .i64 (.ofNat b) 0)=some (.int .i64 (.ofNat (a-b)) 0):=by
 show some (V.int .i64 (U1 .i64 (ADI (.ofNat a) (Int.neg (.ofNat b)))) 0)=_
 rw[Xy,vC]
 have e:Int.ofNat a+Int.neg (Int.ofNat b)=Int.ofNat (a-b):=by show(a:Int)+ -(b:Int)=((a-b:Nat):Int);omega
 rw[e,Zl (by show(-9223372036854775808:Int)<=((a-b:Nat):Int);omega) (by show((a-b:Nat):Int)<9223372036854775808;omega)]
theorem zx{d:V}{f:Nat}{a c args:List V}{H:Heap}{n:Nat}{k:KV}:ABN d (.fn f a c) args H n k=k (.JL (.fn f (cat a args) c::nV d)) H n:=rfl
theorem mP{f:Nat}{a c args:List V}{call:BN}{H:Heap}{n:Nat}{k:KV}:VQ (.fn f a c) args call H n k=call f (cat a (cat args c)) H n k:=rfl
def Lo(v:V)(n:Nat):Prop:=∀id,v.Ry=some id->id<n
theorem El.kp{G:AY}{H H':Heap}{v:V}{z n n':Nat}{LS:EY}(h:El G H v z LS)(hl:Lo v n)(f:Kp H n H' n'):El G H' v z LS:=h.same λid hid=>f.same id (hl id hid)
theorem Lo.mono{v:V}{n n':Nat}(h:Lo v n)(hn:n<=n'):Lo v n':=λid hid=>Nat.lt_of_lt_of_le (h id hid) hn
theorem ATC{n:Nat}:Lo .Aj n:=λ_ h=>by cases h
theorem AM6{G:AY}{H:Heap}{z:Nat}:El G H .Aj z []:=⟨rfl,rfl⟩
structure Kx(b:Nat)(H:Heap)(n:Nat)(H':Heap)(n':Nat):Prop where
 le:n<=n'
 same:∀id,id<n->id≠b->T.get H' id=T.get H id
section
variable{b:Nat}{H H' H'':Heap}{n n' n'':Nat}
theorem Kx.refl(b:Nat)(H:Heap)(n:Nat):Kx b H n H n:=⟨Nat.le_refl _,λ_ _ _=>rfl⟩
theorem Kx.trans(x:Kx b H n H' n')(y:Kx b H' n' H'' n''):Kx b H n H'' n'':=⟨Nat.le_trans x.le y.le,λid h hb=>(y.same id (Nat.lt_of_lt_of_le h x.le) hb).trans (x.same id h hb)⟩
theorem Kx.get{id:Nat}{B:Pn}(f:Kx b H n H' n')(h:T.get H id=some B)(hi:id<n)(hb:id≠b):T.get H' id=some B:=(f.same id hi hb).trans h
theorem Kp.kx(f:Kp H n H' n'):Kx b H n H' n':=⟨f.le,λid h _=>f.same id h⟩
end
structure Own(G:AY)(H:Heap)(m n:Nat)(z:Nat)(v:V)(LS:EY):Prop where
 gr:Gr G H m z v LS
 lo:Lo v n
section
variable{G:AY}{H H':Heap}{m n n' b z:Nat}{v:V}{LS:EY}
theorem Own.el(h:Own G H m n z v LS)(hz:0<z):El G H v z LS:=h.gr.el hz
theorem Own.ge(h:Own G H m n z v LS){id:Nat}(hid:v.Ry=some id):m<=id:=(h.gr.lo hid).1
theorem Own.kx(h:Own G H m n z v LS)(f:Kx b H n H' n')(hb:b<m):Own G H' m n' z v LS:=
 ⟨h.gr.mono λid hid=>f.same id (h.lo id hid) (by have:=(h.gr.lo hid).1;omega),h.lo.mono f.le⟩
theorem Own.kp(h:Own G H m n z v LS)(f:Kp H n H' n'):Own G H' m n' z v LS:=⟨h.gr.mono λid hid=>f.same id (h.lo id hid),h.lo.mono f.le⟩
theorem Yp:Own G H m n z .Aj []:=⟨.nil,ATC⟩
end
def ABg:Nat->List V->List (Nat×X)
 |_,[]=>[]
 |i,v::vs=>(i,.c v)::ABg (i+1) vs
theorem ABT{z m:Nat}:∀(vs:List V) (i:Nat),i+vs.length<=m->(∀v∈vs,kX v=true/\(Cc v).length=z)->Xg (ABg i vs) E0 z m=true
 |[],_,_,_=>rfl
 |v::vs,i,h,hv=>by
  show band (band (kX v) (band (Nat.blt i m) (Nat.beq (len (Cc v)) z))) (Xg (ABg (i+1) vs) E0 z m)=true
  obtain⟨h1,h2⟩:=hv v (List.mem_cons_self ..)
  rw[h1,len_eq,h2,show Nat.blt i m=true by rw[Nat.blt_eq];simp at h;omega,Fp,ABT vs (i+1) (by simp at h;omega) λw hw=>hv w (List.mem_cons_of_mem _ hw)];rfl
theorem ACt:∀(vs:List V) (i:Nat) (t:T LV) (j:Nat),T.get (dD (ABg i vs) E0 t) j=if i<=j/\j<i+vs.length then(vs[j-i]?).map Cc else T.get t j
 |[],i,t,j=>by rw[if_neg (by simp)];rfl
 |v::vs,i,t,j=>by
  show T.get (dD (ABg (i+1) vs) E0 (T.set t i (Cc v))) j=_
  rw[ACt vs (i+1)]
  by_cases h1:i+1<=j/\j<i+1+vs.length
  ·rw[if_pos h1,if_pos (by rw[List.length_cons];omega)]
   rw[show j-i=(j-(i+1))+1 by omega,List.getElem?_cons_succ]
  ·rw[if_neg h1,T.PZ]
   by_cases h2:i=j
   ·subst h2;rw[if_pos (by simp)];simp
   ·rw[if_neg h2,if_neg (by rw[List.length_cons];omega)]
theorem O3{G:AY}{z m:Nat}{Z:LV}{vs:List V}{H:Heap}{n:Nat}{P:KV}(hm:vs.length=m)(hz:0<z)(hv:∀v∈vs,kX v=true/\(Cc v).length=z)
 (h:∀H',Kp H n H' (n+1)->(∃t,T.get H' n=some (.arr z m t))->El G H' (.sl n 0 m m z) z (vs.map Cc)->P (.sl n 0 m m z) H' (n+1)):EH (Ar z m Z (ABg 0 vs) E0) H n P:=by
 show FN (Xg (ABg 0 vs) E0 z m) (Ed n λn=>P (.sl n 0 m m z) (T.set H n (.arr z m (dD (ABg 0 vs) E0 (AIN Z m .e)))) (Nat.succ n))
 rw[ABT vs 0 (by omega) hv,tX,CU]
 refine h _ ((Kp.refl H n).new _ (Nat.le_refl _) (by omega)) ⟨_,T.Cm ..⟩ ⟨rfl,?_⟩
 show(Bool.rec (motive:=λ_=>Option EY) none (DX _ n z m 0) (Nat.beq z z):Option EY)=_
 rw[Fp]
 refine nG _ _ _ (by simp[hm]) λi c hc=>?_
 have hlt:i<m:=by have:=(List.getElem?_eq_some_iff.1 hc).1;simp at this;omega
 rw[Nat.zero_add,ADO (T.Cm ..) hz hlt,ACt,if_pos ⟨by omega,by omega⟩,Nat.sub_zero]
 simpa using hc
theorem AI4{id o m z:Nat}:AE9 z (.Qg id o (m+1) z) E0 (some (.c (.int .i64 (.ofNat 1) 0))) none none=some (.Qg id (o+1) m z):=by
 show BJ (Nat.beq z z) (BJ (band (Nat.ble 1 (m+1)) (Nat.ble (m+1) (m+1))) (f3 (o+1) (m+1-1) 0 λo d _=>.Qg id o d z))=_
 rw[Fp,show Nat.ble 1 (m+1)=true by rw[Nat.ble_eq];omega,show Nat.ble (m+1) (m+1)=true by rw[Nat.ble_eq];omega]
 show Dk (o+1) (λa=>Dk (m+1-1) λb=>Dk 0 λ_=>some (.Qg id a b z))=_
 rw[Bc,Bc,Bc];rfl
theorem AOO{G:AY}{H:Heap}{id o m z:Nat}{LS:EY}(h:El G H (.Qg id o m z) z LS):DX H id z m o=some LS:=by
 have h2:(Bool.rec (motive:=λ_=>Option EY) none (DX H id z m o) (Nat.beq z z):Option EY)=some LS:=h.2
 rw[Fp]at h2;exact h2
theorem AMb{G:AY}{H:Heap}{id o m z:Nat}{LS:EY}(h:DX H id z m o=some LS):El G H (.Qg id o m z) z LS:=by
 refine⟨rfl,?_⟩
 show(Bool.rec (motive:=λ_=>Option EY) none (DX H id z m o) (Nat.beq z z):Option EY)=some LS
 rw[Fp];exact h
theorem ALb{G:AY}{H:Heap}{id o m z:Nat}{L:LV}{LS:EY}(h:El G H (.Qg id o (m+1) z) z (L::LS)):El G H (.Qg id (o+1) m z) z LS:=by
 have h2:=AOO h
 have h3:Ci (gX H id (Nat.mul o z) z) (λL=>Ci (DX H id z m (Nat.succ o)) λLS=>some (L::LS))=some (L::LS):=h2
 rw[Ba]at h3
 obtain⟨L',_,h3⟩:=h3
 rw[Ba]at h3
 obtain⟨LS',h4,h3⟩:=h3
 cases h3
 exact AMb h4
inductive Pw{α β:Type}(R:α->β->Prop):List α->List β->Prop where
 |nil:Pw R [] []
 |cons {a b l m} (h:R a b) (t:Pw R l m):Pw R (a::l) (b::m)
section
variable{α β:Type}{R S:α->β->Prop}
theorem Pw.app:∀{l l':List α} {m m':List β},Pw R l m->Pw R l' m'->Pw R (l++l') (m++m')
 |_,_,_,_,.nil,h=>h
 |_,_,_,_,.cons h t,h'=>.cons h (t.app h')
end
theorem AOd{H:Heap}{id e c i:Nat}{t:T LV}{L new:LV}(hg:T.get H id=some (.arr e c t))(he:0<e)(hi:i<c)(ht:T.get t i=some L):stH H id (i*e) e new=some (T.set H id (.arr e c (T.set t i new))):=by
 unfold stH
 rw[hg]
 show Ci (stB e c t (i*e) e new) _=_
 unfold stB
 have hd:Nat.div (i*e) e=i:=Nat.mul_div_cancel i he
 have hm:Nat.mod (i*e) e=0:=Nat.mul_mod_left i e
 rw[hd,show Nat.blt i c=true by rw[Nat.blt_eq];exact hi]
 show Ci (Ci (T.get t i) (ny new e c t (i*e) e)) _=_
 rw[ht,fC]
 unfold ny
 rw[hd,hm,Fp]
 rfl
theorem AVw{H:Heap}{id e c i n:Nat}{t:T LV}{L:LV}{v:V}{P:KV}(hg:T.get H id=some (.arr e c t))(he:0<e)(hi:i<c)(ht:T.get t i=some L)(hv:kX v=true)(hn:(Cc v).length=e)
 (h:∀H',T.get H' id=some (.arr e c (T.set t i (Cc v)))->(∀j,j≠id->T.get H' j=T.get H j)->P .undef H' n):Df e (.ptr id (i*e)) v H n P:=by
 unfold Df
 rw[hv,len_eq,hn,Fp,show stP (.ptr id (i*e)) H e (Cc v)=stH H id (i*e) e (Cc v)from rfl,AOd hg he hi ht]
 exact h _ (T.Cm ..) λj hj=>T.Ak _ _ (Ne.symm hj)
theorem AVI{id o m c z i:Nat}{q:IntKind}(h:i<m):Bj z (.sl id o m c z) (.int q (.ofNat i) 0)=some (.ptr id ((o+i)*z)):=by
 show BJ (band (Nat.beq z z) (Nat.blt i m)) (Dk (Nat.mul (Nat.add o i) z) λo=>some (.ptr id o))=_
 rw[Fp,show Nat.blt i m=true by rw[Nat.blt_eq];exact h,Bc];rfl
def nX:Nat->Nat->List UInt8
 |0,_=>[]
 |l+1,x=>nX l (x/10)++[UInt8.ofNat (48+x%10)]
def xW:Nat->Nat->Nat
 |0,_=>1
 |f+1,x=>if x<10 then 1 else xW f (x/10)+1
def YE(x:Nat):List UInt8:=nX (xW 20 x) x
theorem Tj:∀l x,(nX l x).length=l
 |0,_=>rfl
 |l+1,x=>by unfold nX;rw[List.length_append,Tj];rfl
theorem AIq:∀(l x p:Nat),p<l->(nX l x)[p]? =some (UInt8.ofNat (48+x/10^(l-1-p)%10))
 |0,_,_,h=>by omega
 |l+1,x,p,h=>by
  unfold nX
  by_cases hp:p<l
  ·rw[List.getElem?_append_left (by rw[Tj];exact hp),AIq l (x/10) p hp,Nat.div_div_eq_div_mul]
   congr 5
   rw[show l+1-1-p=(l-1-p)+1 by omega,Nat.pow_succ,Nat.mul_comm]
  ·obtain rfl:p=l:=by omega
   rw[List.getElem?_append_right (by rw[Tj];omega),Tj,Nat.sub_self,show p+1-1-p=0 by omega]
   simp
theorem cu:∀f x,1<=xW f x
 |0,_=>Nat.le_refl 1
 |f+1,x=>by unfold xW;split<;>omega
theorem uU:∀(f x d:Nat),x<10^f->1<=d->(d=xW f x↔(x<10^d/\(d=1∨10^(d-1)<=x)))
 |0,x,d,h,hd=>by
  have:x=0:=by simp at h;exact h
  subst this
  unfold xW
  constructor
  ·rintro rfl;exact⟨by decide,.inl rfl⟩
  ·rintro⟨_,h|h⟩
   ·exact h
   ·have:0<10^(d-1):=Nat.pow_pos (by decide);omega
 |f+1,x,d,h,hd=>by
  unfold xW
  by_cases hx:x<10
  ·rw[if_pos hx]
   constructor
   ·rintro rfl;exact⟨hx,.inl rfl⟩
   ·rintro⟨_,h|h⟩
    ·exact h
    ·by_cases h1:d=1
     ·exact h1
     ·have:10^1<=10^(d-1):=Nat.pow_le_pow_right (by decide) (by omega)
      omega
  ·rw[if_neg hx]
   have hdiv:x/10<10^f:=by rw[Nat.div_lt_iff_lt_mul (by decide)];rw[Nat.pow_succ]at h;exact h
   by_cases h1:d=1
   ·subst h1
    have:=cu f (x/10)
    constructor
    ·intro h;omega
    ·rintro⟨h,_⟩;omega
   ·have ih:=uU f (x/10) (d-1) hdiv (by omega)
    have e1:d=xW f (x/10)+1↔d-1=xW f (x/10):=by omega
    rw[e1,ih]
    obtain⟨k,rfl⟩:∃k,d=k+2:=⟨d-2,by omega⟩
    have e2:k+2-1=k+1:=by omega
    have e3:k+1-1=k:=by omega
    rw[e2,e3]
    have p2:x/10<10^(k+1)↔x<10^(k+2):=by rw[Nat.div_lt_iff_lt_mul (by decide),<-Nat.pow_succ]
    have p1:10^k<=x/10↔10^(k+1)<=x:=by rw[Nat.le_div_iff_mul_le (by decide),<-Nat.pow_succ]
    rw[p2,p1]
    constructor
    ·rintro⟨a,b|b⟩
     ·have hk:k=0:=by omega
      subst hk
      exact⟨a,.inr (by simpa using Nat.not_lt.1 hx)⟩
     ·exact⟨a,.inr b⟩
    ·rintro⟨a,b|b⟩
     ·omega
     ·exact⟨a,.inr b⟩
def AKw:IntKind->Nat
 |.u8=>256|.u32=>4294967296|.u64=>18446744073709551616|.i64=>9223372036854775808|_=>0
theorem APG{q:IntKind}{a:Nat}(h:a<AKw q):inr q (.ofNat a)=true:=by
 cases q<;>first|(exact absurd h (Nat.not_lt_zero a))|(show Nat.blt a _=true;rw[Nat.blt_eq];exact h)
theorem vK{q:IntKind}{a:Nat}(h:a<AKw q):U1 q (.ofNat a)=.ofNat a:=by
 unfold U1;rw[APG h]
theorem AE6(q:IntKind):keq q q=true:=by cases q<;>rfl
theorem AVn{q:IntKind}{a b:Nat}(h:a+b<AKw q):B2.ev .add (.int q (.ofNat a) 0) (.int q (.ofNat b) 0)=some (.int q (.ofNat (a+b)) 0):=by
 have e:B2.ev .add (.int q (.ofNat a) 0) (.int q (.ofNat b) 0)=some (V.int q (U1 q (ADI (.ofNat a) (.ofNat b))) 0):=by cases q<;>rfl
 rw[e,vC,show(Int.ofNat a+Int.ofNat b)=Int.ofNat (a+b)from rfl,vK h]
theorem AIA{q:IntKind}{a b:Nat}(h:a*b<AKw q):B2.ev .mul (.int q (.ofNat a) 0) (.int q (.ofNat b) 0)=some (.int q (.ofNat (a*b)) 0):=by
 have e:B2.ev .mul (.int q (.ofNat a) 0) (.int q (.ofNat b) 0)=some (V.int q (U1 q (Int.mul (.ofNat a) (.ofNat b))) 0):=by cases q<;>rfl
 rw[e,show Int.mul (Int.ofNat a) (Int.ofNat b)=Int.ofNat (a*b)from rfl,vK h]
theorem AG7{q:IntKind}(a:Nat){m:Nat}(hm:0<m):B2.ev .rem (.int q (.ofNat a) 0) (.int q (.ofNat m) 0)=some (.int q (.ofNat (a%m)) 0):=by
 have:ieq (.ofNat m) 0=false:=by rw[dY];simp;omega
 show BJ (band (keq q q) (band true (Xj (ieq (.ofNat m) 0)))) (mkN q (Int.tmod (.ofNat a) (.ofNat m)) 0)=_
 rw[this,AE6]
 show QF (Int.tmod (.ofNat a) (.ofNat m)) (λm=>some (.int q m 0))=_
 rw[SA];rfl
theorem AHN{q:IntKind}{a m:Nat}(ha:a<AKw q)(hm:0<m):B2.ev .quo (.int q (.ofNat a) 0) (.int q (.ofNat m) 0)=some (.int q (.ofNat (a/m)) 0):=by
 have:ieq (.ofNat m) 0=false:=by rw[dY];simp;omega
 show BJ (band (keq q q) (band true (Xj (ieq (.ofNat m) 0)))) (mkI q (Int.tdiv (.ofNat a) (.ofNat m)) 0)=_
 rw[this,AE6]
 show mkI q (Int.tdiv (.ofNat a) (.ofNat m)) 0=_
 rw[show Int.tdiv (Int.ofNat a) (Int.ofNat m)=Int.ofNat (a/m)from rfl]
 show some (V.int q (U1 q (.ofNat (a/m))) 0)=_
 rw[vK (Nat.lt_of_le_of_lt (Nat.div_le_self ..) ha)]
theorem cvq{q r:IntKind}{a:Nat}(h:a<AKw q):ABy q (.int r (.ofNat a) 0)=some (.int q (.ofNat a) 0):=by
 show some (V.int q (U1 q (.ofNat a)) 0)=_
 rw[vK h]
theorem AQt{q r:IntKind}{a b:Nat}(hb:b<=yO q):B2.ev .shr (.int q (.ofNat a) 0) (.int r (.ofNat b) 0)=some (.int q (.ofNat (a/2^b)) 0):=by
 show BJ (band (Xj (ilt (.ofNat b) 0)) true) (QF (ATc (.ofNat a) (Nat.min (Int.toNat (.ofNat b)) (yO q))) λm=>some (.int q m 0))=_
 rw[show ilt (.ofNat b) 0=false from rfl,SA,show Nat.min (Int.toNat (.ofNat b)) (yO q)=b from Nat.min_eq_left hb]
 show some (V.int q (Int.fdiv (a:Int) ((2^b:Nat):Int)) 0)=_
 rw[<-Int.ofNat_fdiv];rfl
theorem ATP{l:List UInt8}{i:Nat}{q:IntKind}(h:i<l.length):KP (sB l) (.int q (.ofNat i) 0)=some (.int .u8 (.ofNat (l[i]).toNat) 0):=by
 show BJ (Nat.blt i l.length) (Dk (AJ7 (enc l) i) λb=>some (.int .u8 (.ofNat b) 0))=_
 rw[show Nat.blt i l.length=true by rw[Nat.blt_eq];exact h,Bc,AAr l i h];rfl
theorem ANt{x:Nat}(h:x<256):Go.Eng.byteOf (.int .u8 (.ofNat x) 0)=some x:=by
 show Bool.rec (motive:=λ_=>Option Nat) none (some x) (band true (band (Nat.blt x 256) true))=_
 rw[show Nat.blt x 256=true by rw[Nat.blt_eq];exact h];rfl
theorem zC:∀l:List UInt8,vI (PW l)=some (enc l)
 |[]=>rfl
 |c::l=>by
  show Ci (Go.Eng.byteOf (.int .u8 (.ofNat c.toNat) 0)) (λm=>Ci (vI (PW l)) λe=>some (m+256*e))=_
  rw[ANt c.toNat_lt,fC,zC l];rfl
theorem AUc{G:AY}{H:Heap}{v:V}{l:List UInt8}(h:El G H v 1 (PW l)):APE v G H=some (sB l):=by
 unfold APE
 rw[h.1,h.2,fC,zC,fC]
 show Dk (len (PW l)) (λa=>Dk (enc l) λb=>Dk 0 λ_=>some (.str a b))=_
 rw[Bc,Bc,Bc,len_eq]
 show some (V.str (PW l).length (enc l))=_
 rw[show(PW l).length=l.length from List.length_map ..];rfl
theorem AJN{id n a b:Nat}{q r:IntKind}(h1:a<=b)(h2:b<=n):AJT n 1 (.ptr id 0) (some (.c (.int q (.ofNat a) 0))) (some (.c (.int r (.ofNat b) 0)))=some (.sl id a (b-a) (n-a) 1):=by
 show BJ (band (Nat.beq (Nat.mod 0 1) 0) (band (Nat.ble a b) (Nat.ble b n))) (f3 (Nat.add (Nat.div 0 1) a) (Nat.sub b a) (Nat.sub n a) λx y c=>.sl id x y c 1)=_
 rw[show Nat.ble a b=true by rw[Nat.ble_eq];exact h1,show Nat.ble b n=true by rw[Nat.ble_eq];exact h2]
 show Dk (0/1+a) (λx=>Dk (b-a) λy=>Dk (n-a) λc=>some (.sl id x y c 1))=_
 rw[Bc,Bc,Bc,Nat.zero_div,Nat.zero_add]
end Go.Eng
