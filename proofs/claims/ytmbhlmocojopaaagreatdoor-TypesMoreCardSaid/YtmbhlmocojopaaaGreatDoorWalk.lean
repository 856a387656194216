/- Part of a proof; nothing is assumed. -/
import Derived.Test.YtmbhlmocojopaaaGreatDoorEngF
import Derived.Attr
import Derived.Test.YtmbhlmocojopaaaGreatDoorEngE
set_option linter.unusedVariables false
set_option linter.unusedSimpArgs false
namespace Go.DW
section
variable{G:AX}{H:Heap}{id off m:Nat}{L:LV}{v:V}
theorem AV(h:T.get H id=some (one L))(hl:L[off]? =some v):AY (.ptr id off) G H=some v:=by
 obtain⟨hlt,he⟩:=List.getElem?_eq_some_iff.1 hl
 rw[AOy,AD4,AKg h (by omega) (by omega),AH0,AAJ]
 rw[List.getElem?_take]
 simp[hl]
theorem EM(h:T.get H id=some (one L))(hm:0<m)(hl:off+m<=L.length):Ag m (.ptr id off) G H=some (.agg ((L.drop off).take m)):=by
 rw[AMb,AD4,AKg h hm hl,AH0]
theorem AMw{n:Nat}{k:KV}(h:T.get H id=some (one L))(hv:jZ v=true)(hn:(Ba v).length=m)(hm:0<m)(hl:off+m<=L.length):
 Bq m (.ptr id off) v H n k=k .undef (T.set H id (one (L.take off++(Ba v++L.drop (off+m))))) n:=by
 have hs:stP (.ptr id off) H m (Ba v)=some (T.set H id (one (L.take off++(Ba v++L.drop (off+m))))):=AWJ h hm hn hl
 unfold Bq
 rw[hv,len_eq,hn]
 have hb:band true (Nat.beq m m)=true:=by simp
 rw[hb,hs];rfl
theorem Bf(h:T.get H id=some (one L))(hm:0<m)(hl:L.length=m):Ag m (.ptr id 0) G H=some (.agg L):=by
 rw[EM h hm (by omega),List.drop_zero,List.take_of_length_le (by omega)]
theorem TF{n:Nat}{k:KV}{L':LV}(h:T.get H id=some (one L))(hm:0<m)(hl:L.length=m)(hn:L'.length=m):
 Bq m (.ptr id 0) (.agg L') H n k=k .undef (T.set H id (one L')) n:=by
 rw[AMw h (by rfl) (by exact hn) hm (by omega)]
 have:L.take 0++(Ba (.agg L')++L.drop (0+m))=L':=by
  show[]++(L'++L.drop (0+m))=L'
  rw[List.drop_eq_nil_of_le (by omega)];simp
 rw[this]
theorem ANz:BO [] G H=some []:=rfl
theorem ADk{rest:List AVr}:BO (.t v::rest) G H=CZ (BO rest G H) λvs=>some (v::vs):=rfl
theorem D9{rest:List AVr}(h:T.get H id=some (one L))(hm:0<m)(hl:L.length=m):BO (.cn (.ptr id 0) m::rest) G H=CZ (BO rest G H) λvs=>some (.agg L::vs):=by
 show CZ (Ag m (.ptr id 0) G H) (λv=>CZ (BO rest G H) λvs=>some (v::vs))=_
 rw[Bf h hm hl];rfl
end
structure SL(G:AX)(v:V)(z:Nat)(LS:DZ):Prop where
 mk'::
 is:(v=.Ad/\LS=[])∨∃b off cap,v=.rsl b off LS.length cap z/\∀i c,LS[i]? =some c->c.length=z/\G b (off+i*z) z=some c
theorem SY{α β:Type}(a:α)(f:α->Option β):CZ (some a) f=f a:=rfl
theorem AXS(a:V):DX [a]=a:=rfl
theorem AYH(a b:V)(l:LV):DX (a::b::l)=.Io (a::b::l):=rfl
theorem ABt(a b l c:Nat):EN (.one .str) false (.str a b) (.str l c)=some (.bool (decide (a=l/\b=c))):=by
 show ofB (Va (some (band (Nat.beq a l) (Nat.beq b c))) λb=>some b)=_
 have:band (Nat.beq a l) (Nat.beq b c)=decide (a=l/\b=c):=by rw[Bg,Bool.eq_iff_iff];simp
 rw[this];cases decide (a=l/\b=c)<;>rfl
theorem FB{i:Nat}(h:i+1<9223372036854775808):B2.ev .add (.int .i64 (.ofNat i) 0) (.int .i64 (.ofNat 1) 0)=some (.int .i64 (.ofNat (i+1)) 0):=by
 show some (V.int .i64 (qN .i64 (AF9 (.ofNat i) (.ofNat 1))) 0)=_
 rw[Ze,ABR,ay (by simp;omega) (by simp;omega)];rfl
structure Kp(H:Heap)(n:Nat)(H':Heap)(n':Nat):Prop where
 le:n<=n'
 same:∀id,id<n->T.get H' id=T.get H id
theorem Kp.refl(H:Heap)(n:Nat):Kp H n H n:=⟨Nat.le_refl _,λ_ _=>rfl⟩
theorem Kp.trans{H H' H'':Heap}{n n' n'':Nat}(a:Kp H n H' n')(b:Kp H' n' H'' n''):Kp H n H'' n'':=⟨Nat.le_trans a.le b.le,λid h=>(b.same id (Nat.lt_of_lt_of_le h a.le)).trans (a.same id h)⟩
theorem Kp.new{H0 H:Heap}{n0 n id:Nat}(a:Kp H0 n0 H n)(b:S9)(h:n0<=id){m:Nat}(hm:n<=m):Kp H0 n0 (T.set H id b) m:=
 ⟨Nat.le_trans a.le hm,λj hj=>by rw[T.Ak _ _ (by omega)];exact a.same j hj⟩
theorem RF{σ:Type}{b:(σ->Prop)->σ->Prop}{J:Nat->σ->Prop}(h:∀I m s,J m s->(∀m' s',m'<m->J m' s'->I s')->b I s){m:Nat}{s:σ}(h0:J m s):lfp σ b s:=by
 intro I hI
 induction m using Nat.strongRecOn generalizing s with
 |_ m ih=>exact hI s (h I m s h0 λm' s' hlt hs=>ih m' hlt hs)
section
variable{G:AX}{H:Heap}{i j o m n:Nat}{L L':LV}{v w:V}{k:KV}{b:S9}
theorem ASj{z:Nat}{P:KV}(h:L.length=z):Bh (Au z [L] E0) H n P=P (.ptr n 0) (T.set H n (one L)) (n+1):=AL7 h
theorem AUY(h:L[o]? =some v):AY (.ptr i o) G (T.set H i (one L))=some v:=AV (T.BP ..) h
theorem AV9:AY (.ptr i 0) G (T.set H i (one (v::L)))=some v:=AUY rfl
theorem ANK(hl:L.length=m)(h:0<m):Ag m (.ptr i 0) G (T.set H i (one L))=some (.agg L):=Bf (T.BP ..) h hl
theorem AUh(h:i≠j):Ag m (.ptr i o) G (T.set H j b)=Ag m (.ptr i o) G H:=by
 rw[AMb,AMb,AD4,AD4];unfold yx;rw[T.Ak _ _ (Ne.symm h)]
theorem AQx(hl:L.length=m)(h:0<m)(hn:L'.length=m):Bq m (.ptr i 0) (.agg L') (T.set H i (one L)) n k=k .undef (T.set (T.set H i (one L)) i (one L')) n:=TF (T.BP ..) h hl hn
end
theorem ARy(L:LV):jZ (.agg L)=true:=rfl
theorem ATN(l c:Nat):jZ (.str l c)=true:=rfl
theorem ASY(k:IntKind)(a:Int)(s:Nat):jZ (.int k a s)=true:=rfl
theorem AQ0(b:Bool):jZ (.bool b)=true:=rfl
theorem AUc(L:LV):Ba (.agg L)=L:=rfl
theorem AVu(l c:Nat):Ba (.str l c)=[.str l c]:=rfl
theorem AVg(k:IntKind)(a:Int)(s:Nat):Ba (.int k a s)=[.int k a s]:=rfl
theorem ASO(b:Bool):Ba (.bool b)=[.bool b]:=rfl
theorem AQn(L:LV)(H:Heap)(n:Nat)(P:KV):Bh (Eo (.agg L)) H n P=P (.ptr n 0) (T.set H n (one L)) (n+1):=AT9 rfl
theorem AaK(n:Nat):n≠n+1:=by omega
theorem ATL{G:AX}{H:Heap}{i:Nat}{L:LV}{a0 v:V}:AY (.ptr i 1) G (T.set H i (one (a0::v::L)))=some v:=AUY rfl
theorem AXl(a0 a1:V){G:AX}{H:Heap}{i:Nat}:Ag 2 (.ptr i 0) G (T.set H i (one [a0,a1]))=some (.agg [a0,a1]):=ANK rfl (by omega)
theorem AVK(a0 a1 b0 b1:V){H:Heap}{i n:Nat}{k:KV}:Bq 2 (.ptr i 0) (.agg [b0,b1]) (T.set H i (one [a0,a1])) n k=k .undef (T.set (T.set H i (one [a0,a1])) i (one [b0,b1])) n:=AQx rfl (by omega) rfl
theorem AWy(a0 a1:V){G:AX}{H:Heap}{i:Nat}{r:List AVr}:BO (.cn (.ptr i 0) 2::r) G (T.set H i (one [a0,a1]))=CZ (BO r G (T.set H i (one [a0,a1]))) λvs=>some (.agg [a0,a1]::vs):=D9 (T.BP ..) (by omega) rfl
theorem AVy(a0 a1 a2 b0 b1 b2:V){H:Heap}{i n:Nat}{k:KV}:Bq 3 (.ptr i 0) (.agg [b0,b1,b2]) (T.set H i (one [a0,a1,a2])) n k=k .undef (T.set (T.set H i (one [a0,a1,a2])) i (one [b0,b1,b2])) n:=AQx rfl (by omega) rfl
theorem AXY(a0 a1 a2 a3:V){G:AX}{H:Heap}{i:Nat}:Ag 4 (.ptr i 0) G (T.set H i (one [a0,a1,a2,a3]))=some (.agg [a0,a1,a2,a3]):=ANK rfl (by omega)
theorem AVE(a0 a1 a2 a3 b0 b1 b2 b3:V){H:Heap}{i n:Nat}{k:KV}:Bq 4 (.ptr i 0) (.agg [b0,b1,b2,b3]) (T.set H i (one [a0,a1,a2,a3])) n k=k .undef (T.set (T.set H i (one [a0,a1,a2,a3])) i (one [b0,b1,b2,b3])) n:=AQx rfl (by omega) rfl
theorem AYd(a0 a1 a2 a3 a4:V){G:AX}{H:Heap}{i:Nat}:Ag 5 (.ptr i 0) G (T.set H i (one [a0,a1,a2,a3,a4]))=some (.agg [a0,a1,a2,a3,a4]):=ANK rfl (by omega)
theorem AVV(a0 a1 a2 a3 a4 b0 b1 b2 b3 b4:V){H:Heap}{i n:Nat}{k:KV}:Bq 5 (.ptr i 0) (.agg [b0,b1,b2,b3,b4]) (T.set H i (one [a0,a1,a2,a3,a4])) n k=k .undef (T.set (T.set H i (one [a0,a1,a2,a3,a4])) i (one [b0,b1,b2,b3,b4])) n:=AQx rfl (by omega) rfl
attribute [go_sem] AQn ASj AV9 ANK AUh AQx AQ dS qM Ar Aj ATR AUC AXx AXJ AZU AYV AYR AYA AYI AaD AS1 ASp Am AM0 ATE iY iK AKi SY AXS AYH ANz ADk ARy ATN ASY AQ0 AUc AVu AVg ASO
attribute [go_sem] ne_eq AaK ATL not_false_eq_true List.length_cons List.length_nil Nat.zero_add
attribute [go_sem] AXl AVK AWy AVy AXY AVE AYd AVV
theorem UJ{H:Heap}{id z:Nat}:∀(n o:Nat) {LS:DZ},DN H id z n o=some LS->LS.length=n/\∀i c,LS[i]? =some c->yx H id ((o+i)*z) z=some c
 |0,o,LS,h=>by cases h;exact⟨rfl,λi c hc=>by simp at hc⟩
 |n+1,o,LS,h=>by
  have h':CZ (yx H id (Nat.mul o z) z) (λL=>CZ (DN H id z n (Nat.succ o)) λLS=>some (L::LS))=some LS:=h
  rw[Ce]at h'
  obtain⟨L,hL,h'⟩:=h'
  rw[Ce]at h'
  obtain⟨LS',hLS,h'⟩:=h'
  cases h'
  obtain⟨h1,h2⟩:=UJ n (o+1) hLS
  refine⟨by simp[h1],λi c hc=>?_⟩
  cases i with
  |zero=>simp at hc;subst hc;exact hL
  |succ i=>simp at hc;rw[show o+(i+1)=o+1+i by omega];exact h2 i c hc
theorem bG{G:AX}{b z:Nat}:∀(n o:Nat) {LS:DZ},jY G b z n o=some LS->LS.length=n/\∀i c,LS[i]? =some c->G b (o+i*z) z=some c
 |0,o,LS,h=>by cases h;exact⟨rfl,λi c hc=>by simp at hc⟩
 |n+1,o,LS,h=>by
  have h':CZ (G b o z) (λL=>CZ (jY G b z n (Nat.add o z)) λLS=>some (L::LS))=some LS:=h
  rw[Ce]at h'
  obtain⟨L,hL,h'⟩:=h'
  rw[Ce]at h'
  obtain⟨LS',hLS,h'⟩:=h'
  cases h'
  obtain⟨h1,h2⟩:=bG n (o+z) hLS
  refine⟨by simp[h1],λi c hc=>?_⟩
  cases i with
  |zero=>simp at hc;subst hc;simpa using hL
  |succ i=>simp at hc;rw[show o+(i+1)*z=o+z+i*z by rw[Nat.add_mul];omega];exact h2 i c hc
def El(G:AX)(H:Heap)(v:V)(z:Nat)(LS:DZ):Prop:=isStr v=false/\elems v G H z=some LS
theorem El.len{G:AX}{H:Heap}{v:V}{z:Nat}{LS:DZ}(h:El G H v z LS):lenV v=some (.int .i64 (.ofNat LS.length) 0):=by
 obtain⟨hs,h⟩:=h
 cases v<;>try (cases h;done)
 ·cases hs
 ·cases h;rfl
 ·rename_i id off n c e
  cases hb:Nat.beq e z with
  |false=>have h':(Bool.rec (motive:=λ_=>Option DZ) none (DN H id z n off) (Nat.beq e z):Option DZ)=some LS:=h;rw[hb]at h';cases h'
  |true=>
   have h':(Bool.rec (motive:=λ_=>Option DZ) none (DN H id z n off) (Nat.beq e z):Option DZ)=some LS:=h
   rw[hb]at h';rw[(UJ _ _ h').1];rfl
 ·rename_i id off n e
  cases hb:Nat.beq e z with
  |false=>have h':(Bool.rec (motive:=λ_=>Option DZ) none (DN H id z n off) (Nat.beq e z):Option DZ)=some LS:=h;rw[hb]at h';cases h'
  |true=>
   have h':(Bool.rec (motive:=λ_=>Option DZ) none (DN H id z n off) (Nat.beq e z):Option DZ)=some LS:=h
   rw[hb]at h';rw[(UJ _ _ h').1];rfl
 ·rw[(bG _ _ h).1];rfl
theorem El.at{G:AX}{H:Heap}{v:V}{z:Nat}{LS:DZ}(h:El G H v z LS){i:Nat}{c:LV}(hi:LS[i]? =some c):
 ∃p,BD z v (.int .i64 (.ofNat i) 0)=some p/\ldP p G H z=some c:=by
 obtain⟨hs,h⟩:=h
 obtain⟨hlt,_⟩:=List.getElem?_eq_some_iff.1 hi
 cases v<;>try (cases h;done)
 ·cases hs
 ·cases h;simp at hlt
 ·rename_i id off n cp e
  have h':(Bool.rec (motive:=λ_=>Option DZ) none (DN H id z n off) (Nat.beq e z):Option DZ)=some LS:=h
  cases hb:Nat.beq e z with
  |false=>rw[hb]at h';cases h'
  |true=>
   rw[hb]at h'
   obtain⟨h1,h2⟩:=UJ _ _ h'
   refine⟨.ptr id ((off+i)*z),?_,h2 i c hi⟩
   show CG (band (Nat.beq e z) (Nat.blt i n)) (Et (Nat.mul (Nat.add off i) z) λo=>some (.ptr id o))=_
   rw[hb,show Nat.blt i n=true by rw[Nat.blt_eq];omega,DK];rfl
 ·rename_i id off n e
  have h':(Bool.rec (motive:=λ_=>Option DZ) none (DN H id z n off) (Nat.beq e z):Option DZ)=some LS:=h
  cases hb:Nat.beq e z with
  |false=>rw[hb]at h';cases h'
  |true=>
   rw[hb]at h'
   obtain⟨h1,h2⟩:=UJ _ _ h'
   refine⟨.ptr id ((off+i)*z),?_,h2 i c hi⟩
   show CG (band (Nat.beq e z) (Nat.blt i n)) (Et (Nat.mul (Nat.add off i) z) λo=>some (.ptr id o))=_
   rw[hb,show Nat.blt i n=true by rw[Nat.blt_eq];omega,DK];rfl
 ·rename_i b off n cp e
  obtain⟨h1,h2⟩:=bG _ _ h
  refine⟨.gptr b (off+i*z),?_,h2 i c hi⟩
  show CG (Nat.blt i n) (Et (Nat.add off (Nat.mul i z)) λo=>some (.gptr b o))=_
  rw[show Nat.blt i n=true by rw[Nat.blt_eq];omega,DK];rfl
theorem Dx{G:AX}{H:Heap}{p:V}{z:Nat}{c:LV}(h:ldP p G H z=some c):Ag z p G H=some (.agg c):=by rw[AMb,h];rfl
theorem ni{G:AX}{H:Heap}{p v:V}(h:ldP p G H 1=some [v]):AY p G H=some v:=by rw[AOy,h];rfl
noncomputable def V.Ec(v:V):Option Nat:=match v with|.sl id .. =>some id|.PO id .. =>some id|_=>none
theorem El.same{G:AX}{H H':Heap}{v:V}{z:Nat}{LS:DZ}(h:El G H v z LS)(hs:∀id,v.Ec=some id->T.get H' id=T.get H id):El G H' v z LS:=by
 refine⟨h.1,?_⟩
 have hB:∀id,v.Ec=some id->∀n o,DN H' id z n o=DN H id z n o:=by
  intro id hid n
  induction n with
  |zero=>intro o;rfl
  |succ n ih=>
   intro o
   show CZ (yx H' id (Nat.mul o z) z) (λL=>CZ (DN H' id z n (Nat.succ o)) λLS=>some (L::LS))=CZ (yx H id (Nat.mul o z) z) (λL=>CZ (DN H id z n (Nat.succ o)) λLS=>some (L::LS))
   rw[ih];unfold yx;rw[hs id hid]
 have h2:=h.2
 cases v<;>try exact h2
 ·rename_i id off n c e
  show(Bool.rec (motive:=λ_=>Option DZ) none (DN H' id z n off) (Nat.beq e z):Option DZ)=some LS
  rw[hB id rfl];exact h2
 ·rename_i id off n e
  show(Bool.rec (motive:=λ_=>Option DZ) none (DN H' id z n off) (Nat.beq e z):Option DZ)=some LS
  rw[hB id rfl];exact h2
theorem T.ACI{α:Type}(a b:α):∀(p:P2) (t:T α),T.eF b p (T.eF a p t)=T.eF b p t
 |.h,t=>rfl
 |.z p,t=>by show T.n t.val (T.eF b p (T.eF a p t.left)) t.right=T.n t.val (T.eF b p t.left) t.right;rw[T.ACI a b p]
 |.o p,t=>by show T.n t.val t.left (T.eF b p (T.eF a p t.right))=T.n t.val t.left (T.eF b p t.right);rw[T.ACI a b p]
theorem T.set_set{α:Type}(t:T α)(k:Nat)(a b:α):T.set (T.set t k a) k b=T.set t k b:=T.ACI ..
theorem Kp.get{H H':Heap}{n n' id:Nat}{b:S9}(f:Kp H n H' n')(h:T.get H id=some b)(hi:id<n):T.get H' id=some b:=(f.same id hi).trans h
theorem Kp.set{H0 H:Heap}{n0 n id:Nat}(a:Kp H0 n0 H n)(b:S9)(h:n0<=id):Kp H0 n0 (T.set H id b) n:=a.new b h (Nat.le_refl _)
theorem DF{σ:Type}{b:(σ->Prop)->σ->Prop}{N:Nat}{J:Nat->σ->Prop}(hs:∀I i s,i<N->J i s->(∀s',J (i+1) s'->I s')->b I s)(he:∀I s,J N s->b I s){s:σ}(h0:J 0 s):lfp σ b s:=by
 refine RF (J:=λm s=>∃i,m=N-i/\i<=N/\J i s) ?_ (m:=N) ⟨0,rfl,Nat.zero_le _,h0⟩
 rintro I m s ⟨i,rfl,hi,hj⟩ ih
 rcases Nat.lt_or_ge i N with h|h
 ·exact hs I i s h hj λs' hj'=>ih _ s' (by omega) ⟨i+1,rfl,h,hj'⟩
 ·have:i=N:=by omega
  subst this;exact he I s hj
section
variable{H:Heap}{n z:Nat}{L:LV}{P:KV}
theorem AWz{v:V}(hv:jZ v=true)(h:∀H',Kp H n H' (n+1)->T.get H' n=some (one (Ba v))->P (.ptr n 0) H' (n+1)):Bh (Eo v) H n P:=by
 rw[AT9 hv];exact h _ ((Kp.refl H n).new _ (Nat.le_refl _) (by omega)) (T.BP ..)
theorem Dq(h:∀H',Kp H n H' (n+1)->T.get H' n=some (one L)->P (.ptr n 0) H' (n+1)):Bh (Eo (.agg L)) H n P:=AWz rfl h
theorem Az(hL:L.length=z)(h:∀H',Kp H n H' (n+1)->T.get H' n=some (one L)->P (.ptr n 0) H' (n+1)):Bh (Au z [L] E0) H n P:=by
 rw[AL7 hL];exact h _ ((Kp.refl H n).new _ (Nat.le_refl _) (by omega)) (T.BP ..)
end
theorem AHh{H:Heap}{id e c i:Nat}{t:T LV}(hg:T.get H id=some (.arr e c t))(he:0<e)(hi:i<c):yx H id (i*e) e=T.get t i:=by
 unfold yx;rw[hg]
 show ldB e c t (i*e) e=_
 unfold ldB
 have hdiv:i*e/e=i:=Nat.mul_div_cancel _ he
 have hmod:i*e%e=0:=Nat.mul_mod_left ..
 have hb:Nat.blt (Nat.div (i*e) e) c=true:=by rw[Nat.blt_eq];show i*e/e<c;omega
 rw[hb]
 show CZ (T.get t (Nat.div (i*e) e)) (ldC e (i*e) e)=_
 rw[show Nat.div (i*e) e=i from hdiv]
 cases h:T.get t i with
 |none=>rfl
 |some L=>
  show ldC e (i*e) e L=_
  unfold ldC
  rw[show Nat.mod (i*e) e=0 from hmod,show band (Nat.beq e e) (Nat.beq 0 0)=true by simp]
theorem ah{H:Heap}{id z:Nat}:∀(n o:Nat) (LS:DZ),LS.length=n->(∀i c,LS[i]? =some c->yx H id ((o+i)*z) z=some c)->DN H id z n o=some LS
 |0,o,LS,hl,_=>by cases LS with|nil=>rfl|cons a l=>simp at hl
 |n+1,o,LS,hl,h=>by
  cases LS with
  |nil=>simp at hl
  |cons a l=>
   show CZ (yx H id (Nat.mul o z) z) (λL=>CZ (DN H id z n (Nat.succ o)) λLS=>some (L::LS))=_
   have h0:=h 0 a rfl
   rw[show Nat.mul o z=(o+0)*z from rfl,h0,SY,ah n (o+1) l (by simpa using hl) λi c hc=>by
    have:=h (i+1) c (by simpa using hc);rwa [show o+(i+1)=o+1+i by omega]at this]
   rfl
inductive Gr(G:AX)(H:Heap)(m:Nat)(z:Nat):V->DZ->Prop where
 |nil:Gr G H m z .Ad []
 |PO {id c:Nat} {t:T LV} {LS:DZ} (hg:T.get H id=some (.arr z c t)) (hc:LS.length<=c) (ht:∀i L,LS[i]? =some L->T.get t i=some L) (hid:m<=id):Gr G H m z (.PO id 0 LS.length z) LS
theorem Ea(z:Nat):Nat.beq z z=true:=by simp
theorem Gr.el{G:AX}{H:Heap}{m z:Nat}{v:V}{LS:DZ}(h:Gr G H m z v LS)(hz:0<z):El G H v z LS:=by
 cases h with
 |nil=>exact⟨rfl,rfl⟩
 |PO hg hc ht hid=>
  rename_i id c t
  refine⟨rfl,?_⟩
  show(Bool.rec (motive:=λ_=>Option DZ) none (DN H id z LS.length 0) (Nat.beq z z):Option DZ)=some LS
  rw[Ea]
  exact ah _ _ _ rfl λi L hi=>by
   have hlt:=(List.getElem?_eq_some_iff.1 hi).1
   rw[Nat.zero_add,AHh hg hz (by omega)];exact ht i L hi
theorem Gr.mono{G:AX}{H H':Heap}{m z:Nat}{v:V}{LS:DZ}(h:Gr G H m z v LS)(hs:∀id,v.Ec=some id->T.get H' id=T.get H id):Gr G H' m z v LS:=by
 cases h with
 |nil=>exact .nil
 |PO hg hc ht hid=>exact .PO (hs _ rfl▸hg) hc ht hid
theorem Gr.lo{G:AX}{H:Heap}{m z:Nat}{v:V}{LS:DZ}(h:Gr G H m z v LS){id:Nat}(hid:v.Ec=some id):m<=id/\∃c t,T.get H id=some (.arr z c t):=by
 cases h with
 |nil=>cases hid
 |PO hg hc ht hi=>cases hid;exact⟨hi,_,_,hg⟩
theorem aj{a b:Nat}(h:a*b<=140737488355328):TP a b=true:=by unfold TP;rw[Nat.ble_eq];exact h
theorem AIj{id ln z bs c n:Nat}{t:T LV}{NS:DZ}{H:Heap}{k:KV}(hr:TP (ln+NS.length) bs=true)(hc:ln<=c):
 fK id 0 ln z bs NS H n k (.arr z c t)=k (.PO n 0 (ln+NS.length) z) (T.set (T.set H id .dead) n (.arr z (ln+NS.length) (Ih NS ln t))) (n+1):=by
 show FT (Nat.add ln (len NS)) (λneed=>ER (band (TP need bs) (band (Nat.beq z z) (Nat.ble (Nat.add 0 ln) c))) (FT n λn=>k (.PO n 0 need z) (T.set (T.set H id .dead) n (.arr z need (Ih NS ln t))) (Nat.succ n)))=_
 rw[CS,CS,len_eq]
 show ER (band (TP (ln+NS.length) bs) (band (Nat.beq z z) (Nat.ble (Nat.add 0 ln) c))) (k (.PO n 0 (ln+NS.length) z) (T.set (T.set H id .dead) n (.arr z (ln+NS.length) (Ih NS ln t))) (n+1))=_
 rw[hr,Ea,show Nat.ble (Nat.add 0 ln) c=true by rw[Nat.ble_eq];show 0+ln<=c;omega]
 rfl
theorem Gr.app{G:AX}{H:Heap}{m n z bs:Nat}{v w:V}{LS NS:DZ}{k:KV}(h:Gr G H m z v LS)(hm:m<=n)(hn:∀id,v.Ec=some id->id<n)(hw:elems w G H z=some NS)
 (hb:(LS.length+NS.length)*bs<=140737488355328)
 (hk:∀v' H',Gr G H' m z v' (LS++NS)->(∀id,id<n->v.Ec≠some id->T.get H' id=T.get H id)->(∀id,v'.Ec=some id->id<n+1)->k v' H' (n+1))
 (hk0:NS=[]->k v H n):Rt z bs v w G H n k:=by
 unfold Rt
 rw[hw,dS]
 cases h with
 |nil=>
  cases NS with
  |nil=>exact hk0 rfl
  |cons a NS=>
   show Ny z bs [] (a::NS) H n k
   unfold Ny
   rw[CS,CS,len_eq,len_eq,show TP (Nat.add ([]:DZ).length (a::NS).length) bs=true from aj hb,qM]
   have e:Nat.add ([]:DZ).length (a::NS).length=(a::NS).length:=Nat.zero_add _
   rw[e]
   refine hk _ _ ?_ (λid hid _=>T.Ak _ _ (by omega)) (λid hid=>by cases hid;omega)
   refine .PO (LS:=a::NS) (T.BP ..) (Nat.le_refl _) (λi L hi=>?_) hm
   show T.get (Ih (a::NS) 0 .e) i=some L
   have hlt:=(List.getElem?_eq_some_iff.1 hi).1
   rw[Ic,if_pos ⟨Nat.zero_le _,by omega⟩];exact hi
 |PO hg hc ht hid=>
  rename_i id c t
  show ER (Nat.beq z z) _
  rw[Ea,qM]
  cases NS with
  |nil=>exact hk0 rfl
  |cons a NS=>
   show Ej (T.get H id) (λb=>fK id 0 LS.length z bs (a::NS) H n k b)
   rw[hg,dS]
   rw[AIj (aj hb) hc,show LS.length+(a::NS).length=(LS++a::NS).length by rw[List.length_append]]
   refine hk _ _ ?_ (λj hj hne=>?_) (λj hj=>by cases hj;omega)
   ·refine .PO (LS:=LS++a::NS) (T.BP ..) (Nat.le_refl _) (λi L hi=>?_) hm
    rw[Ic]
    by_cases hlt:i<LS.length
    ·rw[if_neg (by omega)]
     rw[List.getElem?_append_left hlt]at hi
     exact ht i L hi
    ·rw[List.getElem?_append_right (by omega)]at hi
     have hlt2:=(List.getElem?_eq_some_iff.1 hi).1
     rw[if_pos ⟨by omega,by omega⟩];exact hi
   ·rw[T.Ak _ _ (by omega),T.Ak _ _ (by intro e;subst e;exact hne rfl)]
def yc(H:Heap)(id:Nat)(ps:List ((Nat×Nat)×V)):Prop:=∃es ck,T.get H id=some (.map es ck)/\es.map (λe=>(e.1,e.2.1))=ps.map λp=>(V.str p.1.1 p.1.2,p.2)
def Hf{α:Type}(ps:List ((Nat×Nat)×α))(s:Nat×Nat):Option α:=(ps.find? λp=>decide (p.1=s)).map (·.2)
theorem ckS(a b l c:Nat):CK.str.eq (.str a b) (.str l c)=some (decide ((a,b)=(l,c))):=by
 show some (band (Nat.beq a l) (Nat.beq b c))=_
 congr 1;rw[Bg,Bool.eq_iff_iff];simp
theorem ACl:∀(es:ME) (ps:List ((Nat×Nat)×V)) (s:Nat×Nat) (i:Nat),es.map (λe=>(e.1,e.2.1))=ps.map (λp=>(V.str p.1.1 p.1.2,p.2))->
 uQ .str (.str s.1 s.2) es i=some ((Hf ps s).map λv=>(i+(ps.findIdx λp=>decide (p.1=s)),v))
 |[],ps,s,i,h=>by
  cases ps with
  |nil=>rfl
  |cons p ps=>simp at h
 |e::es,ps,s,i,h=>by
  cases ps with
  |nil=>simp at h
  |cons p ps=>
   simp only[List.map_cons,List.cons.injEq,Prod.mk.injEq]at h
   obtain⟨⟨h1,h2⟩,h3⟩:=h
   show CZ (CK.str.eq e.1 (.str s.1 s.2)) (λr=>Bool.rec (uQ .str (.str s.1 s.2) es (Nat.succ i)) (some (some (i,e.2.1))) r)=_
   rw[h1,ckS,SY,ACl es ps s (i+1) h3]
   by_cases hp:p.1=s
   ·have hd:decide ((p.1.1,p.1.2)=(s.1,s.2))=true:=decide_eq_true hp
    rw[hd]
    unfold Hf
    simp[hp,List.findIdx_cons,h2]
   ·have hd:decide ((p.1.1,p.1.2)=(s.1,s.2))=false:=decide_eq_false hp
    rw[hd]
    unfold Hf
    simp only[List.find?_cons,hp,decide_false,List.findIdx_cons,cond_false]
    show some (Option.map (λv=>(i+1+List.findIdx (λp=>decide (p.fst=s)) ps,v)) _)=_
    congr 2;funext v;congr 1;omega
theorem AKa{H:Heap}{id:Nat}{es:ME}{ck:Nat}(h:T.get H id=some (.map es ck))(f:ME->Nat->Option V):Ug H (.map id) f=f es ck:=by
 show(Option.rec (motive:=λ_=>(ME->Nat->Option V)->Option V) (λ_=>none) AXV (T.get H id) f:Option V)=_
 rw[h];rfl
def ATe(z:V):Option V->V
 |some v=>.Io [v,.bool true]
 |none=>.Io [z,.bool false]
theorem ARA{H:Heap}{id:Nat}{ps:List ((Nat×Nat)×V)}(h:yc H id ps)(z:V)(s:Nat×Nat):
 APr .str true z (.map id) (.str s.1 s.2) H=some (ATe z (Hf ps s)):=by
 obtain⟨es,ck,hg,he⟩:=h
 unfold APr
 rw[AKa hg,ACl es ps s 0 he,SY]
 cases Hf ps s<;>rfl
def Vg{α:Type}(s:Nat×Nat)(v:α):List ((Nat×Nat)×α)->List ((Nat×Nat)×α)
 |[]=>[(s,v)]
 |p::ps=>if p.1=s then(s,v)::ps else p::Vg s v ps
theorem TR{α:Type}(s:Nat×Nat)(v:α):∀(ps:List ((Nat×Nat)×α)) (t:Nat×Nat),Hf (Vg s v ps) t=if s=t then some v else Hf ps t
 |[],t=>by
  unfold Vg Hf
  by_cases h:s=t<;>simp[h]
 |p::ps,t=>by
  have ih:=TR s v ps t
  unfold Vg
  by_cases h:p.1=s
  ·rw[if_pos h]
   by_cases h2:s=t
   ·simp[Hf,h2]
   ·have h3:¬p.1=t:=by rw[h];exact h2
    simp[Hf,h2,h3]
  ·rw[if_neg h]
   by_cases h2:p.1=t
   ·have h3:¬s=t:=by intro e;exact h (h2.trans e.symm)
    simp[Hf,h2,h3]
   ·unfold Hf at ih⊢
    simp only[List.find?_cons,h2,decide_false]
    exact ih
theorem AM7{H:Heap}{id:Nat}{ps:List ((Nat×Nat)×V)}(h:yc H id ps)(s:Nat×Nat)(v:V){n:Nat}{k:KV}
 (hk:∀H',yc H' id (Vg s v ps)->(∀j,j≠id->T.get H' j=T.get H j)->k .undef H' n):AWC .str (.map id) (.str s.1 s.2) v H n k:=by
 obtain⟨es,ck,hg,he⟩:=h
 show Ej (T.get H id) (λb=>Ej (ATn b (AK1 .str (.str s.1 s.2) v)) λb=>k .undef (T.set H id b) n)
 rw[hg,dS]
 show Ej (AK1 .str (.str s.1 s.2) v es ck) _
 unfold AK1
 rw[ACl es ps s 0 he,SY]
 have key:∀(es:ME) (ps:List ((Nat×Nat)×V)),es.map (λe=>(e.1,e.2.1))=ps.map (λp=>(V.str p.1.1 p.1.2,p.2))->
  match Hf ps s with
  |none=>(cat es [(V.str s.1 s.2,v,ck)]).map (λe=>(e.1,e.2.1))=(Vg s v ps).map (λp=>(V.str p.1.1 p.1.2,p.2))
  |some _=>∃e,nth es (ps.findIdx λp=>decide (p.1=s))=some e/\(nR (e.1,v,e.2.2) es (ps.findIdx λp=>decide (p.1=s))).map (λe=>(e.1,e.2.1))=(Vg s v ps).map (λp=>(V.str p.1.1 p.1.2,p.2)):=by
  intro es
  induction es with
  |nil=>intro ps h;cases ps with
   |nil=>rfl
   |cons p ps=>simp at h
  |cons e es ih=>
   intro ps h
   cases ps with
   |nil=>simp at h
   |cons p ps=>
    simp only[List.map_cons,List.cons.injEq,Prod.mk.injEq]at h
    obtain⟨⟨h1,h2⟩,h3⟩:=h
    have ih:=ih ps h3
    by_cases hp:p.1=s
    ·have:Hf (p::ps) s=some p.2:=by simp[Hf,hp]
     rw[this]
     refine⟨e,by simp[List.findIdx_cons,hp],?_⟩
     simp only[Vg,hp,if_true,List.findIdx_cons,decide_true,cond_true]
     show((e.1,v,e.2.2)::es).map (λe=>(e.1,e.2.1))=_
     simp only[List.map_cons,h1,hp,h3]
    ·have:Hf (p::ps) s=Hf ps s:=by simp[Hf,hp]
     rw[this]
     cases hl:Hf ps s with
     |none=>
      rw[hl]at ih
      simp only[Vg,hp,if_false]
      show((e::cat es [(V.str s.1 s.2,v,ck)]).map λe=>(e.1,e.2.1))=_
      simp only[List.map_cons,h1,h2]
      rw[show List.map (λe=>(e.fst,e.snd.fst)) (cat es [(V.str s.1 s.2,v,ck)])=_ from ih]
     |some x=>
      rw[hl]at ih
      obtain⟨e',he',hs⟩:=ih
      refine⟨e',?_,?_⟩
      ·simp only[List.findIdx_cons,hp,decide_false,cond_false];exact he'
      ·simp only[List.findIdx_cons,hp,decide_false,cond_false,Vg,if_false]
       show(e::nR (e'.1,v,e'.2.2) es _).map (λe=>(e.1,e.2.1))=_
       simp only[List.map_cons,h1,h2]
       rw[show List.map (λe=>(e.fst,e.snd.fst)) (nR (e'.1,v,e'.2.2) es (List.findIdx (λp=>decide (p.fst=s)) ps))=_ from hs]
 have key:=key es ps he
 cases hl:Hf ps s with
 |none=>
  rw[hl]at key
  show Ej (some (.map (cat es [(V.str s.1 s.2,v,ck)]) (Nat.succ ck))) (λb=>k .undef (T.set H id b) n)
  rw[dS]
  exact hk _ ⟨_,_,T.BP ..,key⟩ λj hj=>T.Ak _ _ (Ne.symm hj)
 |some x=>
  rw[hl]at key
  obtain⟨e,he',hs⟩:=key
  show Ej (CZ (nth es (0+ps.findIdx λp=>decide (p.1=s))) λe=>some (.map (nR (e.1,v,e.2.2) es (0+ps.findIdx λp=>decide (p.1=s))) ck)) (λb=>k .undef (T.set H id b) n)
  rw[Nat.zero_add,he',SY,dS]
  exact hk _ ⟨_,_,T.BP ..,hs⟩ λj hj=>T.Ak _ _ (Ne.symm hj)
def AGA(G:AX):Prop:=∀b o z L,G b o z=some L->L.length=z/\∀i m,0<m->i+m<=z->G b (o+i) m=some ((L.drop i).take m)
theorem AQk(e off m:Nat)(L:LV):ldC e off m L=if m=e/\off%e=0 then some L else if off%e+m<=e then some ((L.drop (off%e)).take m)else none:=by
 have e1:ldC e off m L=Bool.rec (motive:=λ_=>Option LV) (Bool.rec none (some (bP m (vO (off%e) L))) (Nat.ble (off%e+m) e)) (some L) (band (Nat.beq m e) (Nat.beq (off%e) 0)):=rfl
 rw[e1,kP,sW]
 by_cases h:m=e/\off%e=0
 ·have hb:band (Nat.beq m e) (Nat.beq (off%e) 0)=true:=by simp only[Bg,Bool.and_eq_true,beq_iff];exact h
  rw[if_pos h,hb]
 ·have hb:band (Nat.beq m e) (Nat.beq (off%e) 0)=false:=by rw[Bool.eq_false_iff];intro hc;simp only[Bg,Bool.and_eq_true,beq_iff]at hc;exact h hc
  rw[if_neg h,hb]
  by_cases h2:off%e+m<=e
  ·rw[if_pos h2,show Nat.ble (off%e+m) e=true by rw[Nat.ble_eq];exact h2]
  ·rw[if_neg h2,show Nat.ble (off%e+m) e=false by rw[Bool.eq_false_iff];intro hc;rw[Nat.ble_eq]at hc;exact h2 hc]
theorem AQD{e cnt off m:Nat}{t:T LV}{c:LV}(h:ldB e cnt t off m=some c):∃L,off/e<cnt/\T.get t (off/e)=some L/\ldC e off m L=some c:=by
 unfold ldB at h
 rw[Ce]at h
 obtain⟨L,h1,h2⟩:=h
 cases hb:Nat.blt (Nat.div off e) cnt with
 |false=>rw[hb]at h1;cases h1
 |true=>rw[hb]at h1;exact⟨L,by rw[Nat.blt_eq]at hb;exact hb,h1,h2⟩
theorem ASB{H:Heap}{id off z o m:Nat}{c:LV}(h:yx H id off z=some c)(hc:c.length=z)(hm:0<m)(ho:o+m<=z):yx H id (off+o) m=some ((c.drop o).take m):=by
 unfold yx at h⊢
 cases hb:T.get H id with
 |none=>rw[hb]at h;cases h
 |some b=>
  rw[hb]at h
  cases b with
  |map _ _=>cases h
  |dead=>cases h
  |mM _ _ _ _ _=>cases h
  |own _=>cases h
  |arr e cnt t=>
   have h':ldB e cnt t off z=some c:=h
   show ldB e cnt t (off+o) m=_
   obtain⟨L,h1,h2,h3⟩:=AQD h'
   rw[AQk]at h3
   have key:off%e+z<=e/\c=(L.drop (off%e)).take z/\(z=e/\off%e=0->c=L):=by
    by_cases hh:z=e/\off%e=0
    ·rw[if_pos hh]at h3
     cases h3
     rw[hh.2,List.drop_zero,List.take_of_length_le (by omega)]
     exact⟨by omega,rfl,λ_=>rfl⟩
    ·rw[if_neg hh]at h3
     by_cases h4:off%e+z<=e
     ·rw[if_pos h4]at h3;exact⟨h4,(Option.some.inj h3).symm,λh=>absurd h hh⟩
     ·rw[if_neg h4]at h3;cases h3
   obtain⟨hle,hcc,hcl⟩:=key
   have he:0<e:=by omega
   have hlt:off%e+o<e:=by omega
   have hoff:off+o=e*(off/e)+(off%e+o):=by have:=Nat.div_add_mod off e;omega
   have hd:(off+o)/e=off/e:=by rw[hoff,Nat.mul_add_div he,Nat.div_eq_of_lt hlt];omega
   have hmo:(off+o)%e=off%e+o:=by rw[hoff,Nat.mul_add_mod,Nat.mod_eq_of_lt hlt]
   unfold ldB
   rw[show Nat.div (off+o) e=off/e from hd,show Nat.blt (off/e) cnt=true by rw[Nat.blt_eq];exact h1]
   show CZ (T.get t (off/e)) (ldC e (off+o) m)=_
   rw[h2,SY,AQk,hmo]
   have hL:z<=(L.drop (off%e)).length:=by rw[hcc,List.length_take]at hc;omega
   by_cases hh:m=e/\off%e+o=0
   ·rw[if_pos hh,<-hcl ⟨by omega,by omega⟩,show o=0 by omega,List.drop_zero,List.take_of_length_le (by omega)]
   ·rw[if_neg hh,if_pos (by omega),hcc,List.drop_take,List.take_take,List.drop_drop,Nat.min_eq_left (by omega)]
theorem wS{G:AX}(hG:AGA G){H:Heap}{p:V}{z o m:Nat}{c:LV}(h:ldP p G H z=some c)(hc:c.length=z)(hm:0<m)(ho:o+m<=z):
 ∃p',AU o p=some p'/\ldP p' G H m=some ((c.drop o).take m):=by
 cases p<;>try (cases h;done)
 ·rename_i id off;exact⟨_,Am ..,ASB h hc hm ho⟩
 ·rename_i b off;exact⟨_,AM0 ..,(hG b off z c h).2 o m hm ho⟩
theorem wK{G:AX}(hG:AGA G){H:Heap}{p:V}{z o:Nat}{c:LV}{x:V}(h:ldP p G H z=some c)(hc:c.length=z)(ho:c[o]? =some x):
 ∃p',AU o p=some p'/\AY p' G H=some x:=by
 obtain⟨hlt,he⟩:=List.getElem?_eq_some_iff.1 ho
 obtain⟨p',h1,h2⟩:=wS hG h hc (o:=o) (m:=1) (by omega) (by omega)
 refine⟨p',h1,?_⟩
 rw[AOy,h2,AH0,AAJ,List.getElem?_take]
 simp[ho]
theorem ANE{G:AX}{H:Heap}{n id m z bs:Nat}{t:T LV}{w:V}{LS NS:DZ}{k:KV}(hz:0<z)(hb:T.get H id=some (.arr z m t))(hid:id<n)(h:elems (.sl id 0 m m z) G H z=some LS)
 (hw:elems w G H z=some NS) (hr:(m+NS.length)*bs<=140737488355328)
 (hk:∀v' H' n',El G H' v' z (LS++NS)->(∀j,j<n->T.get H' j=T.get H j)->n<=n'->(∀j,v'.Ec=some j->j<n')->k v' H' n'):Rt z bs (.sl id 0 m m z) w G H n k:=by
 unfold Rt
 rw[hw,dS]
 have h2:(Bool.rec (motive:=λ_=>Option DZ) none (DN H id z m 0) (Nat.beq z z):Option DZ)=some LS:=h
 rw[Ea]at h2
 have h2:DN H id z m 0=some LS:=h2
 obtain⟨hl,hat⟩:=UJ _ _ h2
 have e0:AIT (.sl id 0 m m z) G z bs NS H n k=Bool.rec (motive:=λ_=>Prop) (Ej (DN H id z m 0) λOS=>Ny z bs OS NS H n k) (Ej (T.get H id) λb=>yU id 0 m m z (m+NS.length) NS H n k b) (Nat.ble (m+NS.length) m):=by
  show ER (Nat.beq z z) (FT (Nat.add m (len NS)) λneed=>Bool.rec (motive:=λ_=>Prop) (Ej (DN H id z m 0) λOS=>Ny z bs OS NS H n k) (Ej (T.get H id) λb=>yU id 0 m m z need NS H n k b) (Nat.ble need m))=_
  rw[Ea,qM,CS,len_eq];rfl
 rw[e0]
 by_cases hN:NS.length=0
 ·have:NS=[]:=List.length_eq_zero_iff.1 hN
  subst this
  rw[show Nat.ble (m+([]:DZ).length) m=true by rw[Nat.ble_eq];exact Nat.le_refl _]
  show Ej (T.get H id) (λb=>yU id 0 m m z (m+0) [] H n k b)
  rw[hb,dS]
  show ER (band (Nat.beq z z) (Nat.ble (Nat.add 0 (m+0)) m)) (k (.sl id 0 (m+0) m z) (T.set H id (.arr z m t)) n)
  rw[Ea,show Nat.ble (Nat.add 0 (m+0)) m=true by rw[Nat.ble_eq];show 0+m<=m;omega]
  have hs:∀j,T.get (T.set H id (.arr z m t)) j=T.get H j:=λj=>by
   rw[T.TQ];split
   ·rename_i e;subst e;exact hb.symm
   ·rfl
  rw[List.append_nil]at hk
  exact hk _ _ _ ((show El G H (.sl id 0 m m z) z LS from⟨rfl,h⟩).same λj _=>hs j) (λj _=>hs j) (Nat.le_refl _) (λj hj=>by cases hj;exact hid)
 ·rw[show Nat.ble (m+NS.length) m=false by rw[Bool.eq_false_iff];intro hc;rw[Nat.ble_eq]at hc;omega]
  show Ej (DN H id z m 0) (λOS=>Ny z bs OS NS H n k)
  rw[h2,dS]
  show FT (Nat.add (len LS) (len NS)) (λneed=>ER (TP need bs) (FT n λn=>k (.PO n 0 need z) (T.set H n (.arr z need (Ih NS (len LS) (Ih LS 0 .e)))) (Nat.succ n)))
  rw[CS,CS,len_eq,len_eq,show TP (Nat.add LS.length NS.length) bs=true from aj (by rw[hl];exact hr),qM]
  have e:Nat.add LS.length NS.length=(LS++NS).length:=by rw[List.length_append];rfl
  rw[e]
  refine hk _ _ _ (Gr.el (m:=n) (.PO (LS:=LS++NS) (T.BP ..) (Nat.le_refl _) (λi L hi=>?_) (Nat.le_refl _)) hz) (λj hj=>T.Ak _ _ (by omega)) (by omega) (λj hj=>by cases hj;omega)
  rw[Ic,Ic]
  by_cases hlt:i<LS.length
  ·rw[if_neg (by omega),if_pos ⟨Nat.zero_le _,by omega⟩]
   rw[List.getElem?_append_left hlt]at hi
   exact hi
  ·rw[List.getElem?_append_right (by omega)]at hi
   have hlt2:=(List.getElem?_eq_some_iff.1 hi).1
   rw[if_pos ⟨by omega,by omega⟩];exact hi
theorem ASt{H:Heap}{n:Nat}{P:KV}:Bh (AHx E0) H n P=P (.map n) (T.set H n (.map [] 0)) (n+1):=by
 show FT n (λn=>P (.map n) (T.set H n (.map [] 0)) (Nat.succ n))=_
 rw[CS]
theorem ALD{m:Nat}(h:m+1<9223372036854775808):B2.ev .sub (.int .i64 (.ofNat (m+1)) 0) (.int .i64 (.ofNat 1) 0)=some (.int .i64 (.ofNat m) 0):=by
 show some (V.int .i64 (qN .i64 (AF9 (.ofNat (m+1)) (Int.neg (.ofNat 1)))) 0)=_
 rw[Ze,ABR]
 have e:Int.ofNat (m+1)+Int.neg (Int.ofNat 1)=Int.ofNat m:=by show((m+1:Nat):Int)+ -((1:Nat):Int)=(m:Int);omega
 rw[e,ay (by show(-9223372036854775808:Int)<=(m:Int);omega) (by show(m:Int)<9223372036854775808;omega)]
end Go.DW
namespace Go.DW
open Go.ChangeShapes Go.WideShapes Go.RowKit
inductive Sh where
 |int (k:IntKind)|bool|str|sl (z:Nat) (t:Sh)|st (l:List Sh)
def RSl(v:V)(n:Nat):Prop:=(v=.Ad/\n=0)∨∃b o c,v=.rsl b o n c 0/\n<=c/\c<=maxLen
mutual
def Fits(G:AX):Sh->LV->Prop
 |.int k,vs=>∃n,vs=[.int k n 0]
 |.bool,vs=>∃b,vs=[.bool b]
 |.str,vs=>∃s:List UInt8,s.length<=maxLen/\vs=[.str s.length (enc s)]
 |.sl z t,vs=>∃v LS,vs=[v]/\RSl v LS.length/\(∀H,El G H v z LS)/\LS.length<=maxLen/\∀L∈LS,L.length=z/\Fits G t L
 |.st ts,vs=>AL4 G ts vs
def AL4(G:AX):List Sh->LV->Prop
 |[],vs=>vs=[]
 |t::ts,vs=>∃L vs',vs=L++vs'/\Fits G t L/\AL4 G ts vs'
end
def vZ(P:Program):Nat->TypeId->Option Sh
 |0,_=>none
 |d+1,t=>match P.underlying t with
  |some (.int k)=>some (.int k)
  |some .bool=>some .bool
  |some .string=>some .str
  |some (.slice e)=>if P.cellsOf e=0 then none else(vZ P d e).map (.sl (P.cellsOf e))
  |some (.struct fs)=>if nT 0 (fs.toList.map λf=>(f.offset,P.cellsOf f.type)) (P.cellsOf t)=true then(fs.toList.mapM λf=>vZ P d f.type).map .st else none
  |_=>none
theorem ALV{W:World}{b o n:Nat}{L:LV}(h:MZ W b o n=some L):L.length=n:=by
 unfold MZ at h
 split at h
 ·cases h;simp
 ·cases h
theorem ALs(W:World):AGA (MZ W):=by
 intro b o z L h
 refine⟨ALV h,λi m hm hi=>?_⟩
 unfold MZ at h⊢
 split at h
 ·rename_i hc
  cases h
  rw[if_pos]
  ·congr 1
   apply List.ext_getElem?
   intro j
   rw[List.getElem?_take]
   by_cases hj:j<m
   ·rw[if_pos hj,List.getElem?_drop,List.getElem?_map,List.getElem?_map,List.getElem?_range hj,List.getElem?_range (by omega),Option.map_some,Option.map_some,Nat.add_assoc]
   ·rw[if_neg hj,List.getElem?_eq_none (by simp;omega)]
  ·intro j hj
   have:=hc (i+j) (by omega)
   rwa [<-Nat.add_assoc]at this
 ·cases h
theorem AGu{G:AX}{b z:Nat}:∀(n o:Nat) (LS:DZ),LS.length=n->(∀i c,LS[i]? =some c->G b (o+i*z) z=some c)->jY G b z n o=some LS
 |0,o,LS,hl,_=>by cases LS with|nil=>rfl|cons a l=>simp at hl
 |n+1,o,LS,hl,h=>by
  cases LS with
  |nil=>simp at hl
  |cons a l=>
   show CZ (G b o z) (λL=>CZ (jY G b z n (Nat.add o z)) λLS=>some (L::LS))=_
   have h0:=h 0 a rfl
   rw[Nat.zero_mul,Nat.add_zero]at h0
   rw[h0,SY,show Nat.add o z=o+z from rfl,AGu n (o+z) l (by simpa using hl) λi c hc=>by
    have:=h (i+1) c (by simpa using hc);rwa [show o+(i+1)*z=o+z+i*z by rw[Nat.add_mul];omega]at this]
   rfl
theorem AKy{G:AX}{H:Heap}{b o c z:Nat}{LS:DZ}(h:∀i L,LS[i]? =some L->G b (o+i*z) z=some L){e:Nat}:El G H (.rsl b o LS.length c e) z LS:=
 ⟨rfl,AGu _ _ _ rfl h⟩
theorem ABl{G:AX}:∀{ts:List Sh} {ls:List LV},AKv (λt l=>Fits G t l) ts ls->AL4 G ts ls.flatten
 |_,_,.nil=>rfl
 |_,_,.cons h t=>⟨_,_,by simp,h,ABl t⟩
theorem AGy{α β γ:Type}{f:α->Option β}{R:β->γ->Prop}{g:α->γ}:∀{l:List α} {r:List β},l.mapM f=some r->(∀a b,a∈l->f a=some b->R b (g a))->AKv R r (l.map g)
 |[],r,h,_=>by simp at h;subst h;exact .nil
 |a::l,r,h,hR=>by
  rw[List.mapM_cons]at h
  cases hfa:f a with
  |none=>rw[hfa]at h;cases h
  |some b=>
   rw[hfa]at h
   cases hr:l.mapM f with
   |none=>simp[hr]at h
   |some r'=>
    simp[hr]at h;subst h
    exact .cons (hR a b (List.mem_cons_self ..) hfa) (AGy hr λa b ha hb=>hR a b (List.mem_cons_of_mem _ ha) hb)
theorem au{w:World}{base n:Nat}{a:Addr}{cs:List Value}(h:w.cells? base a n=some cs):cs.length=n/\∀j u,cs[j]? =some u->w.cell? (a.add j)=some u:=by
 unfold World.cells? at h
 split at h
 ·have hl:=mapM_some_length h
  refine⟨by simpa using hl,λj u hj=>?_⟩
  have hlt:j<n:=by have:=(List.getElem?_eq_some_iff.1 hj).1;simp at hl;omega
  have:=mapM_some_get h j j (by rw[List.getElem?_range hlt])
  rw[this,hj]
 ·cases h
theorem AMz{a:Addr}(h:a.spot=none)(k:Nat):a.add k=⟨a.block,a.off+k,none⟩:=by
 obtain⟨b,o,s⟩:=a;cases h;exact add_lit b o k
theorem cell_spot{w:World}{a:Addr}{u:Value}(h:w.cell? a=some u):a.spot=none:=by
 unfold World.cell? at h
 split at h
 ·split at h
  ·cases h
  ·rename_i hs;cases hc:a.spot<;>simp_all
 ·cases h
theorem ACo{P:Program}{w:World}{H:Type}{enc':TypeId×Value->H}{held:Bool}:∀(fuel:Nat) {t:TypeId} {cs:List Value} {x:DataW H×List MemPlace} {m:Nat} {sh:Sh},DataW.trod enc' P w 0 (λ_=>true) held fuel t cs=some x->vZ P m t=some sh->
 Fits (MZ w) sh (cs.map rG)/\(∀u∈cs,u.oneCell'=true)
 |0,_,_,_,_,_,h,_=>by simp[DataW.trod]at h
 |fuel+1,t,cs,x,0,sh,h,hs=>by cases hs
 |fuel+1,t,cs,x,m+1,sh,h,hs=>by
  simp only[vZ]at hs
  split at hs
  ·rename_i k hu
   obtain⟨i,rfl,e,_⟩:=DataW.trod_int hu h
   cases hs
   exact⟨⟨i,rfl⟩,λu hu=>by simp at hu;subst hu;rfl⟩
  ·rename_i hu
   obtain⟨i,rfl,e⟩:=DataW.trod_bool hu h
   cases hs
   exact⟨⟨i,rfl⟩,λu hu=>by simp at hu;subst hu;rfl⟩
  ·rename_i hu
   obtain⟨s,rfl,e,hle⟩:=DataW.trod_string hu h
   cases hs
   exact⟨⟨s.data.toList,by simpa using hle,rfl⟩,λu hu=>by simp at hu;subst hu;rfl⟩
  ·rename_i e hu
   split at hs
   ·cases hs
   rename_i hz
   cases hsh:vZ P m e with
   |none=>rw[hsh]at hs;cases hs
   |some sh'=>
   rw[hsh]at hs
   cases hs
   rcases DataW.trod_slice hu h with⟨rfl,_⟩|⟨a,len,cap,elems,rest,n,hn,rfl,_,_,hle,hcap,hlen,hel,hsp,_⟩
   ·refine⟨⟨.Ad,[],?_,.inl ⟨rfl,rfl⟩,λH=>⟨rfl,rfl⟩,Nat.zero_le _,λL hL=>by cases hL⟩,λu hu=>by simp at hu;subst hu;rfl⟩
    simp[rG]
   ·have hn':fuel=n:=by omega
    subst hn'
    obtain⟨hrl,hrest⟩:=hsp rfl
    refine⟨?_,λu hu=>by simp at hu;subst hu;rfl⟩
    have each:∀i,i<cap->∃cs',w.cells? 0 (a.add (i*P.cellsOf e)) (P.cellsOf e)=some cs'/\(i<len->Fits (MZ w) sh' (cs'.map rG)/\∀u∈cs',u.oneCell'=true):=by
     intro i hi
     by_cases hil:i<len
     ·have h1:=hel i hil
      rw[List.getElem?_eq_getElem (by omega)]at h1
      cases hc:w.cells? 0 (a.add (i*P.cellsOf e)) (P.cellsOf e)with
      |none=>rw[hc]at h1;cases h1
      |some cs'=>
       rw[hc]at h1
       exact⟨cs',rfl,λ_=>ACo fuel h1 hsh⟩
     ·have h1:=hrest (i-len) (by omega)
      rw[List.getElem?_eq_getElem (by omega),show len+(i-len)=i by omega]at h1
      cases hc:w.cells? 0 (a.add (i*P.cellsOf e)) (P.cellsOf e)with
      |none=>rw[hc]at h1;cases h1
      |some cs'=>exact⟨cs',rfl,λh=>absurd h hil⟩
    have hspot:cap=0∨a.spot=none:=by
     rcases Nat.eq_zero_or_pos cap with h0|h0
     ·exact .inl h0
     ·obtain⟨cs',hc,_⟩:=each 0 h0
      obtain⟨hl,hg⟩:=au hc
      have h0:=hg 0 _ (List.getElem?_eq_getElem (by omega))
      have:=cell_spot h0
      simp only[Nat.zero_mul]at this
      unfold Addr.add at this
      simp only[if_true]at this
      exact .inr this
    have htv:rG (.slice (some a) len cap)=.rsl a.block a.off len cap 0:=by
     simp only[rG];rw[if_pos ⟨hle,hspot⟩]
    let LS:DZ:=(List.range len).map λi=>((w.cells? 0 (a.add (i*P.cellsOf e)) (P.cellsOf e)).getD []).map rG
    have hLS:LS.length=len:=by simp[LS]
    have get:∀i L,LS[i]? =some L->i<len/\∃cs',w.cells? 0 (a.add (i*P.cellsOf e)) (P.cellsOf e)=some cs'/\L=cs'.map rG:=by
     intro i L hi
     have hlt:=(List.getElem?_eq_some_iff.1 hi).1
     rw[hLS]at hlt
     simp only[LS,List.getElem?_map,List.getElem?_range hlt,Option.map_some,Option.some.injEq]at hi
     obtain⟨cs',hc,_⟩:=each i (by omega)
     rw[hc]at hi
     exact⟨hlt,cs',hc,hi.symm⟩
    refine⟨.rsl a.block a.off len cap 0,LS,by simp[htv],.inr ⟨_,_,_,by rw[hLS],by omega,hcap⟩,λH=>?_,by omega,?_⟩
    ·rw[<-hLS]
     refine AKy λi L hi=>?_
     obtain⟨hlt,cs',hc,rfl⟩:=get i L hi
     obtain⟨hl,hg⟩:=au hc
     have hsn:a.spot=none:=by rcases hspot with h|h;omega;exact h
     obtain⟨cs2,hc2,hf⟩:=each i (by omega)
     rw[hc]at hc2;cases hc2
     refine vW hl (hf hlt).2 λj u hj=>?_
     have:=hg j u hj
     rw[AMz hsn,add_lit]at this
     exact this
    ·intro L hL
     obtain⟨i,hi⟩:=List.mem_iff_getElem?.1 hL
     obtain⟨hlt,cs',hc,rfl⟩:=get i L hi
     obtain⟨cs2,hc2,hf⟩:=each i (by omega)
     rw[hc]at hc2;cases hc2
     exact⟨by simp[(au hc).1],(hf hlt).1⟩
  ·rename_i fs hu
   split at hs
   ·rename_i hcon
    cases hm:fs.toList.mapM (λf=>vZ P m f.type)with
    |none=>rw[hm]at hs;cases hs
    |some shs=>
    rw[hm]at hs
    cases hs
    obtain⟨xs,n',hfe,e,hlen,hxl,hel⟩:=DataW.trod_struct hu h
    have hfe':fuel=n':=by omega
    subst hfe'
    have hflat:=ZC cs _ 0 (by rw[hlen];exact hcon)
    simp only[List.drop_zero,List.map_map]at hflat
    have each:∀(f:Field) (sh:Sh),f∈fs.toList->vZ P m f.type=some sh->Fits (MZ w) sh (((cs.drop f.offset).take (P.cellsOf f.type)).map rG)/\∀u∈(cs.drop f.offset).take (P.cellsOf f.type),u.oneCell'=true:=by
     intro f sh hf hsh
     obtain⟨i,hi⟩:=List.mem_iff_getElem?.1 hf
     have h1:=hel i f (by simpa using hi)
     have hil:i<xs.length:=by rw[hxl];simpa using(List.getElem?_eq_some_iff.1 hi).1
     rw[List.getElem?_eq_getElem hil]at h1
     exact ACo fuel h1 hsh
    constructor
    ·show AL4 (MZ w) shs _
     have:=ABl (AGy (R:=λt l=>Fits (MZ w) t l) (g:=λf=>((cs.drop f.offset).take (P.cellsOf f.type)).map rG) hm λf b hf hb=>(each f b hf hb).1)
     have e2:cs.map rG=(fs.toList.map λf=>((cs.drop f.offset).take (P.cellsOf f.type)).map rG).flatten:=by
      conv=>lhs;rw[hflat]
      rw[List.map_flatten,List.map_map];rfl
     rw[e2];exact this
    ·intro u hu'
     rw[hflat]at hu'
     obtain⟨l,hl,hul⟩:=List.mem_flatten.1 hu'
     obtain⟨f,hf,rfl⟩:=List.mem_map.1 hl
     obtain⟨sh',hsh'⟩:=ABN hm f hf
     exact(each f sh' hf hsh').2 u hul
   ·cases hs
  ·cases hs
def APA:V->Bool
 |.int _ _ b=>Nat.beq b 0
 |.bool _=>true
 |.str _ _=>true
 |_=>false
theorem AVh{ρ:Loc}{v:V}{u:Value}(h:Aa ρ v u)(hp:APA v=true):rG u=v:=by
 cases v<;>try (cases hp;done)
 ·rename_i k n s
  have:s=0:=Nat.eq_of_beq_eq_true hp
  subst this
  simp only[Aa]at h;subst h;rfl
 ·simp only[Aa]at h;subst h;rfl
 ·simp only[Aa]at h
  obtain⟨s,rfl,h1,h2⟩:=h
  subst h1;subst h2;rfl
theorem AKm{W:World}{g:Nat}{cs:List Value}{tab:LV}(hc:∀i,W.cell? ⟨g,i,none⟩=cs[i]?)(hr:Dc (λ_=>none) tab cs)(h1:∀u∈cs,u.oneCell'=true)(hp:tab.all APA=true){o n:Nat}(hl:o+n<=tab.length):
 MZ W g o n=some ((tab.drop o).take n):=by
 obtain⟨hlen,hget⟩:=(jq tab cs).1 hr
 rw[vW (cs:=(cs.drop o).take n) (by simp;omega) (λu hu=>h1 u (List.mem_of_mem_drop (List.mem_of_mem_take hu))) λj u hj=>?_]
 ·congr 1
  apply List.ext_getElem?
  intro j
  rw[List.getElem?_map,List.getElem?_take,List.getElem?_take]
  by_cases hj:j<n
  ·rw[if_pos hj,if_pos hj,List.getElem?_drop,List.getElem?_drop]
   have hlt:o+j<tab.length:=by omega
   rw[List.getElem?_eq_getElem hlt,List.getElem?_eq_getElem (by omega),Option.map_some]
   congr 1
   exact AVh (hget _ _ _ (List.getElem?_eq_getElem hlt) (List.getElem?_eq_getElem (by omega))) (List.all_eq_true.1 hp _ (List.getElem_mem hlt))
  ·rw[if_neg hj,if_neg hj];rfl
 ·rw[List.getElem?_take]at hj
  split at hj
  ·rw[List.getElem?_drop]at hj;rw[hc];exact hj
  ·cases hj
end Go.DW
namespace Go.DW
section
variable{e:Option V}{P:V->Prop}{Q:KV}{t:KV->Prop}{H:Heap}{n:Nat}{a b:V}
theorem SE(h:P (.Io [])):BF (.bool true) false e P:=h
theorem ABz(h:P (.Io [])):BF (.bool false) true e P:=h
theorem Zt(h:Q (.Io []) H n):I5 (.bool true) false t H n Q:=h
theorem vM(h:Q (.Io []) H n):I5 (.bool false) true t H n Q:=h
theorem Uj(h:P a):AP (CQ (.bool true) a b) P:=h
theorem jW(h:P b):AP (CQ (.bool false) a b) P:=h
end
end Go.DW
namespace Go.DW
open Go.ChangeShapes Go.WideShapes Go.RowKit
def AEH(R:TypeId->LV->Prop):List TypeId->LV->Prop
 |[],vs=>vs=[]
 |t::ts,vs=>∃L vs',vs=L++vs'/\R t L/\AEH R ts vs'
theorem AMt{R:TypeId->LV->Prop}{g:Field->LV}:∀fs:List Field,(∀f∈fs,R f.type (g f))->AEH R (fs.map (·.type)) (fs.map g).flatten
 |[],_=>rfl
 |f::fs,h=>⟨_,_,by simp,h f (List.mem_cons_self ..),AMt fs λf hf=>h f (List.mem_cons_of_mem _ hf)⟩
def ASP(P:Program)(S:List TypeId)(t:TypeId):Bool:=match P.underlying t with
 |some (.int _)=>true
 |some .bool=>true
 |some .string=>true
 |some (.slice e)=>decide (P.cellsOf e≠0)&&decide (e∈S)
 |some (.struct fs)=>nT 0 (fs.toList.map λf=>(f.offset,P.cellsOf f.type)) (P.cellsOf t)&&fs.toList.all λf=>decide (f.type∈S)
 |_=>false
def U9(P:Program)(G:AX):Nat->TypeId->LV->Prop
 |0,_,_=>False
 |d+1,t,vs=>match P.underlying t with
  |some (.int k)=>∃n,vs=[.int k n 0]
  |some .bool=>∃b,vs=[.bool b]
  |some .string=>∃s:List UInt8,s.length<=reachBytes/\vs=[.str s.length (enc s)]
  |some (.slice e)=>∃v LS,vs=[v]/\RSl v LS.length/\(∀H,El G H v (P.cellsOf e) LS)/\LS.length<=maxLen/\∀L∈LS,L.length=P.cellsOf e/\U9 P G d e L
  |some (.struct fs)=>AEH (U9 P G d) (fs.toList.map (·.type)) vs
  |_=>False
theorem AGI{P:Program}{H:Type}{b:Nat}:∀{ts:List TypeId} {ds:List (DataW H)} {i:Nat} {t:TypeId} {d:DataW H},(DataW.weightsEach P ts ds).all (· <=b)=true->ts[i]? =some t->ds[i]? =some d->(d.weights P t).all (· <=b)=true
 |t::ts,d::ds,0,_,_,h,rfl,rfl=>by
  have h:(d.weights P t++DataW.weightsEach P ts ds).all (· <=b)=true:=by simpa only[DataW.weightsEach]using h
  rw[List.all_append,Bool.and_eq_true]at h;exact h.1
 |t::ts,d::ds,i+1,_,_,h,h1,h2=>by
  have h:(d.weights P t++DataW.weightsEach P ts ds).all (· <=b)=true:=by simpa only[DataW.weightsEach]using h
  rw[List.all_append,Bool.and_eq_true]at h
  exact AGI (i:=i) h.2 (by simpa using h1) (by simpa using h2)
 |[],_,i,_,_,_,h,_=>by cases i<;>cases h
 |_::_,[],i,_,_,_,_,h=>by cases i<;>cases h
theorem AJQ{P:Program}{H:Type}{b:Nat}{e:TypeId}:∀{ds:List (DataW H)} {d:DataW H},(DataW.weightsAll P e ds).all (· <=b)=true->d∈ds->(d.weights P e).all (· <=b)=true
 |d::ds,x,h,hx=>by
  have h:(d.weights P e++DataW.weightsAll P e ds).all (· <=b)=true:=by simpa only[DataW.weightsAll]using h
  rw[List.all_append,Bool.and_eq_true]at h
  rcases List.mem_cons.1 hx with rfl|hx
  ·exact h.1
  ·exact AJQ h.2 hx
theorem AB7{P:Program}{w:World}{H:Type}{enc':TypeId×Value->H}{held:Bool}{S:List TypeId}(hS:∀t∈S,ASP P S t=true):∀(fuel:Nat) {t:TypeId} {cs:List Value} {x:DataW H×List MemPlace},DataW.trod enc' P w 0 (λ_=>true) held fuel t cs=some x->t∈S->(x.1.weights P t).all (· <=reachBytes)=true->
 U9 P (MZ w) fuel t (cs.map rG)/\(∀u∈cs,u.oneCell'=true)
 |0,_,_,_,h,_,_=>by simp[DataW.trod]at h
 |fuel+1,t,cs,x,h,ht,hw=>by
  have hs:=hS t ht
  unfold ASP at hs
  unfold U9
  split at hs
  ·rename_i k hu
   obtain⟨i,rfl,e,_⟩:=DataW.trod_int hu h
   try simp only[hu]
   exact⟨⟨i,rfl⟩,λu hu=>by simp at hu;subst hu;rfl⟩
  ·rename_i hu
   obtain⟨i,rfl,e⟩:=DataW.trod_bool hu h
   try simp only[hu]
   exact⟨⟨i,rfl⟩,λu hu=>by simp at hu;subst hu;rfl⟩
  ·rename_i hu
   obtain⟨s,rfl,e,hle⟩:=DataW.trod_string hu h
   rw[e]at hw
   simp only[DataW.weights,List.all_cons,List.all_nil,Bool.and_true,decide_eq_true_eq]at hw
   try simp only[hu]
   exact⟨⟨s.data.toList,hw,rfl⟩,λu hu=>by simp at hu;subst hu;rfl⟩
  ·rename_i e hu
   rw[Bool.and_eq_true,decide_eq_true_eq,decide_eq_true_eq]at hs
   obtain⟨hz,heS⟩:=hs
   try simp only[hu]
   rcases DataW.trod_slice hu h with⟨rfl,_⟩|⟨a,len,cap,elems,rest,n,hn,rfl,hxe,_,hle,hcap,hlen,hel,hsp,_⟩
   ·refine⟨⟨.Ad,[],?_,.inl ⟨rfl,rfl⟩,λH=>⟨rfl,rfl⟩,Nat.zero_le _,λL hL=>by cases hL⟩,λu hu=>by simp at hu;subst hu;rfl⟩
    simp[rG]
   ·have hn':fuel=n:=by omega
    subst hn'
    obtain⟨hrl,hrest⟩:=hsp rfl
    rw[hxe]at hw
    simp only[DataW.weights,hu,List.all_cons,List.all_append,Bool.and_eq_true]at hw
    refine⟨?_,λu hu=>by simp at hu;subst hu;rfl⟩
    have each:∀i,i<cap->∃cs',w.cells? 0 (a.add (i*P.cellsOf e)) (P.cellsOf e)=some cs'/\(i<len->U9 P (MZ w) fuel e (cs'.map rG)/\∀u∈cs',u.oneCell'=true):=by
     intro i hi
     by_cases hil:i<len
     ·have h1:=hel i hil
      rw[List.getElem?_eq_getElem (by omega)]at h1
      cases hc:w.cells? 0 (a.add (i*P.cellsOf e)) (P.cellsOf e)with
      |none=>rw[hc]at h1;cases h1
      |some cs'=>
       rw[hc]at h1
       exact⟨cs',rfl,λ_=>AB7 hS fuel h1 heS (AJQ hw.2.1 (List.mem_map_of_mem (List.getElem_mem (by omega))))⟩
     ·have h1:=hrest (i-len) (by omega)
      rw[List.getElem?_eq_getElem (by omega),show len+(i-len)=i by omega]at h1
      cases hc:w.cells? 0 (a.add (i*P.cellsOf e)) (P.cellsOf e)with
      |none=>rw[hc]at h1;cases h1
      |some cs'=>exact⟨cs',rfl,λh=>absurd h hil⟩
    have hspot:cap=0∨a.spot=none:=by
     rcases Nat.eq_zero_or_pos cap with h0|h0
     ·exact .inl h0
     ·obtain⟨cs',hc,_⟩:=each 0 h0
      obtain⟨hl,hg⟩:=au hc
      have h0:=hg 0 _ (List.getElem?_eq_getElem (by omega))
      have:=cell_spot h0
      simp only[Nat.zero_mul]at this
      unfold Addr.add at this
      simp only[if_true]at this
      exact .inr this
    have htv:rG (.slice (some a) len cap)=.rsl a.block a.off len cap 0:=by
     simp only[rG];rw[if_pos ⟨hle,hspot⟩]
    let LS:DZ:=(List.range len).map λi=>((w.cells? 0 (a.add (i*P.cellsOf e)) (P.cellsOf e)).getD []).map rG
    have hLS:LS.length=len:=by simp[LS]
    have get:∀i L,LS[i]? =some L->i<len/\∃cs',w.cells? 0 (a.add (i*P.cellsOf e)) (P.cellsOf e)=some cs'/\L=cs'.map rG:=by
     intro i L hi
     have hlt:=(List.getElem?_eq_some_iff.1 hi).1
     rw[hLS]at hlt
     simp only[LS,List.getElem?_map,List.getElem?_range hlt,Option.map_some,Option.some.injEq]at hi
     obtain⟨cs',hc,_⟩:=each i (by omega)
     rw[hc]at hi
     exact⟨hlt,cs',hc,hi.symm⟩
    refine⟨.rsl a.block a.off len cap 0,LS,by simp[htv],.inr ⟨_,_,_,by rw[hLS],by omega,hcap⟩,λH=>?_,by omega,?_⟩
    ·rw[<-hLS]
     refine AKy λi L hi=>?_
     obtain⟨hlt,cs',hc,rfl⟩:=get i L hi
     obtain⟨hl,hg⟩:=au hc
     have hsn:a.spot=none:=by rcases hspot with h|h;omega;exact h
     obtain⟨cs2,hc2,hf⟩:=each i (by omega)
     rw[hc]at hc2;cases hc2
     refine vW hl (hf hlt).2 λj u hj=>?_
     have:=hg j u hj
     rw[AMz hsn,add_lit]at this
     exact this
    ·intro L hL
     obtain⟨i,hi⟩:=List.mem_iff_getElem?.1 hL
     obtain⟨hlt,cs',hc,rfl⟩:=get i L hi
     obtain⟨cs2,hc2,hf⟩:=each i (by omega)
     rw[hc]at hc2;cases hc2
     exact⟨by simp[(au hc).1],(hf hlt).1⟩
  ·rename_i fs hu
   rw[Bool.and_eq_true]at hs
   obtain⟨hcon,hall⟩:=hs
   try simp only[hu]
   ·skip
    obtain⟨xs,n',hfe,e,hlen,hxl,hel⟩:=DataW.trod_struct hu h
    have hfe':fuel=n':=by omega
    subst hfe'
    have hflat:=ZC cs _ 0 (by rw[hlen];exact hcon)
    simp only[List.drop_zero,List.map_map]at hflat
    rw[e]at hw
    simp only[DataW.weights,hu]at hw
    have each:∀(f:Field),f∈fs.toList->U9 P (MZ w) fuel f.type (((cs.drop f.offset).take (P.cellsOf f.type)).map rG)/\∀u∈(cs.drop f.offset).take (P.cellsOf f.type),u.oneCell'=true:=by
     intro f hf
     obtain⟨i,hi⟩:=List.mem_iff_getElem?.1 hf
     have h1:=hel i f (by simpa using hi)
     have hil:i<xs.length:=by rw[hxl];simpa using(List.getElem?_eq_some_iff.1 hi).1
     rw[List.getElem?_eq_getElem hil]at h1
     refine AB7 hS fuel h1 (of_decide_eq_true (List.all_eq_true.1 hall f hf)) (AGI (i:=i) hw (by rw[List.getElem?_map,hi];rfl) (by rw[List.getElem?_map,List.getElem?_eq_getElem hil];rfl))
    constructor
    ·have:=AMt (R:=U9 P (MZ w) fuel) (g:=λf=>((cs.drop f.offset).take (P.cellsOf f.type)).map rG) fs.toList λf hf=>(each f hf).1
     have e2:cs.map rG=(fs.toList.map λf=>((cs.drop f.offset).take (P.cellsOf f.type)).map rG).flatten:=by
      conv=>lhs;rw[hflat]
      rw[List.map_flatten,List.map_map];rfl
     rw[e2];exact this
    ·intro u hu'
     rw[hflat]at hu'
     obtain⟨l,hl,hul⟩:=List.mem_flatten.1 hu'
     obtain⟨f,hf,rfl⟩:=List.mem_map.1 hl
     exact(each f hf).2 u hul
  ·cases hs
end Go.DW
