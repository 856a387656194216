/- Part of a proof; nothing is assumed. -/
import Derived.Test.YtmbhlmocojopaaaGreatDoorEngF
import Derived.Attr
import Derived.Test.YtmbhlmocojopaaaGreatDoorEngE
set_option linter.unusedVariables false
set_option linter.unusedSimpArgs false
namespace Go.DW
section
variable{G:AX}{H:Heap}{id off m:Nat}{L:LV}{v:V}
theorem AV(h:T.get H id=some (one L))(hl:L[off]? =some v):AY (.ptr id off) G H=some v:=by
 obtain⟨hlt,he⟩:=List.getElem?_eq_some_iff.1 hl
 rw[AQi,ADz,ALV h (by omega) (by omega),AG8,AAO]
 rw[List.getElem?_take]
 simp[hl]
theorem EN(h:T.get H id=some (one L))(hm:0<m)(hl:off+m<=L.length):Ag m (.ptr id off) G H=some (.agg ((L.drop off).take m)):=by
 rw[AMq,ADz,ALV h hm hl,AG8]
theorem AM9{n:Nat}{k:KV}(h:T.get H id=some (one L))(hv:jZ v=true)(hn:(Ba v).length=m)(hm:0<m)(hl:off+m<=L.length):
 Bl m (.ptr id off) v H n k=k .undef (T.set H id (one (L.take off++(Ba v++L.drop (off+m))))) n:=by
 have hs:stP (.ptr id off) H m (Ba v)=some (T.set H id (one (L.take off++(Ba v++L.drop (off+m))))):=AUU h hm hn hl
 unfold Bl
 rw[hv,len_eq,hn]
 have hb:band true (Nat.beq m m)=true:=by simp
 rw[hb,hs];rfl
theorem Bf(h:T.get H id=some (one L))(hm:0<m)(hl:L.length=m):Ag m (.ptr id 0) G H=some (.agg L):=by
 rw[EN h hm (by omega),List.drop_zero,List.take_of_length_le (by omega)]
theorem SQ{n:Nat}{k:KV}{L':LV}(h:T.get H id=some (one L))(hm:0<m)(hl:L.length=m)(hn:L'.length=m):
 Bl m (.ptr id 0) (.agg L') H n k=k .undef (T.set H id (one L')) n:=by
 rw[AM9 h (by rfl) (by exact hn) hm (by omega)]
 have:L.take 0++(Ba (.agg L')++L.drop (0+m))=L':=by
  show[]++(L'++L.drop (0+m))=L'
  rw[List.drop_eq_nil_of_le (by omega)];simp
 rw[this]
theorem AN5:BO [] G H=some []:=rfl
theorem AD6{rest:List AVr}:BO (.t v::rest) G H=Ce (BO rest G H) λvs=>some (v::vs):=rfl
theorem D9{rest:List AVr}(h:T.get H id=some (one L))(hm:0<m)(hl:L.length=m):BO (.cn (.ptr id 0) m::rest) G H=Ce (BO rest G H) λvs=>some (.agg L::vs):=by
 show Ce (Ag m (.ptr id 0) G H) (λv=>Ce (BO rest G H) λvs=>some (v::vs))=_
 rw[Bf h hm hl];rfl
end
structure SL(G:AX)(v:V)(z:Nat)(LS:DZ):Prop where
 mk'::
 is:(v=.Ad/\LS=[])∨∃b off cap,v=.rsl b off LS.length cap z/\∀i c,LS[i]? =some c->c.length=z/\G b (off+i*z) z=some c
theorem Sj{α β:Type}(a:α)(f:α->Option β):Ce (some a) f=f a:=rfl
theorem AYM(a:V):DX [a]=a:=rfl
theorem AWm(a b:V)(l:LV):DX (a::b::l)=.Io (a::b::l):=rfl
theorem AB9(a b l c:Nat):EL (.one .str) false (.str a b) (.str l c)=some (.bool (decide (a=l/\b=c))):=by
 show ofB (Vg (some (band (Nat.beq a l) (Nat.beq b c))) λb=>some b)=_
 have:band (Nat.beq a l) (Nat.beq b c)=decide (a=l/\b=c):=by rw[Bg,Bool.eq_iff_iff];simp
 rw[this];cases decide (a=l/\b=c)<;>rfl
theorem FI{i:Nat}(h:i+1<9223372036854775808):B2.ev .add (.int .i64 (.ofNat i) 0) (.int .i64 (.ofNat 1) 0)=some (.int .i64 (.ofNat (i+1)) 0):=by
 show some (V.int .i64 (qQ .i64 (AFk (.ofNat i) (.ofNat 1))) 0)=_
 rw[ZM,ABi,aj (by simp;omega) (by simp;omega)];rfl
structure Kp(H:Heap)(n:Nat)(H':Heap)(n':Nat):Prop where
 le:n<=n'
 same:∀id,id<n->T.get H' id=T.get H id
theorem Kp.refl(H:Heap)(n:Nat):Kp H n H n:=⟨Nat.le_refl _,λ_ _=>rfl⟩
theorem Kp.trans{H H' H'':Heap}{n n' n'':Nat}(a:Kp H n H' n')(b:Kp H' n' H'' n''):Kp H n H'' n'':=⟨Nat.le_trans a.le b.le,λid h=>(b.same id (Nat.lt_of_lt_of_le h a.le)).trans (a.same id h)⟩
theorem Kp.new{H0 H:Heap}{n0 n id:Nat}(a:Kp H0 n0 H n)(b:SV)(h:n0<=id){m:Nat}(hm:n<=m):Kp H0 n0 (T.set H id b) m:=
 ⟨Nat.le_trans a.le hm,λj hj=>by rw[T.Ak _ _ (by omega)];exact a.same j hj⟩
theorem Qv{σ:Type}{b:(σ->Prop)->σ->Prop}{J:Nat->σ->Prop}(h:∀I m s,J m s->(∀m' s',m'<m->J m' s'->I s')->b I s){m:Nat}{s:σ}(h0:J m s):lfp σ b s:=by
 intro I hI
 induction m using Nat.strongRecOn generalizing s with
 |_ m ih=>exact hI s (h I m s h0 λm' s' hlt hs=>ih m' hlt hs)
section
variable{G:AX}{H:Heap}{i j o m n:Nat}{L L':LV}{v w:V}{k:KV}{b:SV}
theorem AR5{z:Nat}{P:KV}(h:L.length=z):Bh (Au z [L] E0) H n P=P (.ptr n 0) (T.set H n (one L)) (n+1):=ANL h
theorem AUB(h:L[o]? =some v):AY (.ptr i o) G (T.set H i (one L))=some v:=AV (T.BP ..) h
theorem AU1:AY (.ptr i 0) G (T.set H i (one (v::L)))=some v:=AUB rfl
theorem ANG(hl:L.length=m)(h:0<m):Ag m (.ptr i 0) G (T.set H i (one L))=some (.agg L):=Bf (T.BP ..) h hl
theorem AUf(h:i≠j):Ag m (.ptr i o) G (T.set H j b)=Ag m (.ptr i o) G H:=by
 rw[AMq,AMq,ADz,ADz];unfold yw;rw[T.Ak _ _ (Ne.symm h)]
theorem APh(hl:L.length=m)(h:0<m)(hn:L'.length=m):Bl m (.ptr i 0) (.agg L') (T.set H i (one L)) n k=k .undef (T.set (T.set H i (one L)) i (one L')) n:=SQ (T.BP ..) h hl hn
end
theorem ARe(L:LV):jZ (.agg L)=true:=rfl
theorem ASk(l c:Nat):jZ (.str l c)=true:=rfl
theorem ARp(k:IntKind)(a:Int)(s:Nat):jZ (.int k a s)=true:=rfl
theorem AOV(b:Bool):jZ (.bool b)=true:=rfl
theorem AWD(L:LV):Ba (.agg L)=L:=rfl
theorem AUx(l c:Nat):Ba (.str l c)=[.str l c]:=rfl
theorem AVk(k:IntKind)(a:Int)(s:Nat):Ba (.int k a s)=[.int k a s]:=rfl
theorem ASZ(b:Bool):Ba (.bool b)=[.bool b]:=rfl
theorem AQl(L:LV)(H:Heap)(n:Nat)(P:KV):Bh (Eo (.agg L)) H n P=P (.ptr n 0) (T.set H n (one L)) (n+1):=ATl rfl
theorem AZr(n:Nat):n≠n+1:=by omega
theorem ASv{G:AX}{H:Heap}{i:Nat}{L:LV}{a0 v:V}:AY (.ptr i 1) G (T.set H i (one (a0::v::L)))=some v:=AUB rfl
theorem AYf(a0 a1:V){G:AX}{H:Heap}{i:Nat}:Ag 2 (.ptr i 0) G (T.set H i (one [a0,a1]))=some (.agg [a0,a1]):=ANG rfl (by omega)
theorem AUW(a0 a1 b0 b1:V){H:Heap}{i n:Nat}{k:KV}:Bl 2 (.ptr i 0) (.agg [b0,b1]) (T.set H i (one [a0,a1])) n k=k .undef (T.set (T.set H i (one [a0,a1])) i (one [b0,b1])) n:=APh rfl (by omega) rfl
theorem AXK(a0 a1:V){G:AX}{H:Heap}{i:Nat}{r:List AVr}:BO (.cn (.ptr i 0) 2::r) G (T.set H i (one [a0,a1]))=Ce (BO r G (T.set H i (one [a0,a1]))) λvs=>some (.agg [a0,a1]::vs):=D9 (T.BP ..) (by omega) rfl
theorem AVK(a0 a1 a2 b0 b1 b2:V){H:Heap}{i n:Nat}{k:KV}:Bl 3 (.ptr i 0) (.agg [b0,b1,b2]) (T.set H i (one [a0,a1,a2])) n k=k .undef (T.set (T.set H i (one [a0,a1,a2])) i (one [b0,b1,b2])) n:=APh rfl (by omega) rfl
theorem AWd(a0 a1 a2 a3:V){G:AX}{H:Heap}{i:Nat}:Ag 4 (.ptr i 0) G (T.set H i (one [a0,a1,a2,a3]))=some (.agg [a0,a1,a2,a3]):=ANG rfl (by omega)
theorem AU5(a0 a1 a2 a3 b0 b1 b2 b3:V){H:Heap}{i n:Nat}{k:KV}:Bl 4 (.ptr i 0) (.agg [b0,b1,b2,b3]) (T.set H i (one [a0,a1,a2,a3])) n k=k .undef (T.set (T.set H i (one [a0,a1,a2,a3])) i (one [b0,b1,b2,b3])) n:=APh rfl (by omega) rfl
theorem AYP(a0 a1 a2 a3 a4:V){G:AX}{H:Heap}{i:Nat}:Ag 5 (.ptr i 0) G (T.set H i (one [a0,a1,a2,a3,a4]))=some (.agg [a0,a1,a2,a3,a4]):=ANG rfl (by omega)
theorem AVe(a0 a1 a2 a3 a4 b0 b1 b2 b3 b4:V){H:Heap}{i n:Nat}{k:KV}:Bl 5 (.ptr i 0) (.agg [b0,b1,b2,b3,b4]) (T.set H i (one [a0,a1,a2,a3,a4])) n k=k .undef (T.set (T.set H i (one [a0,a1,a2,a3,a4])) i (one [b0,b1,b2,b3,b4])) n:=APh rfl (by omega) rfl
attribute [go_sem] AQl AR5 AU1 ANG AUf APh AQ dI qN Ar Aj AT3 ATQ AWg AWk AZ1 AXl AXY AXH AWo AZD ATE ASb Am AMD ARg iR iL ALT Sj AYM AWm AN5 AD6 ARe ASk ARp AOV AWD AUx AVk ASZ
attribute [go_sem] ne_eq AZr ASv not_false_eq_true List.length_cons List.length_nil Nat.zero_add
attribute [go_sem] AYf AUW AXK AVK AWd AU5 AYP AVe
theorem Tq{H:Heap}{id z:Nat}:∀(n o:Nat) {LS:DZ},DN H id z n o=some LS->LS.length=n/\∀i c,LS[i]? =some c->yw H id ((o+i)*z) z=some c
 |0,o,LS,h=>by cases h;exact⟨rfl,λi c hc=>by simp at hc⟩
 |n+1,o,LS,h=>by
  have h':Ce (yw H id (Nat.mul o z) z) (λL=>Ce (DN H id z n (Nat.succ o)) λLS=>some (L::LS))=some LS:=h
  rw[CZ]at h'
  obtain⟨L,hL,h'⟩:=h'
  rw[CZ]at h'
  obtain⟨LS',hLS,h'⟩:=h'
  cases h'
  obtain⟨h1,h2⟩:=Tq n (o+1) hLS
  refine⟨by simp[h1],λi c hc=>?_⟩
  cases i with
  |zero=>simp at hc;subst hc;exact hL
  |succ i=>simp at hc;rw[show o+(i+1)=o+1+i by omega];exact h2 i c hc
theorem cO{G:AX}{b z:Nat}:∀(n o:Nat) {LS:DZ},jT G b z n o=some LS->LS.length=n/\∀i c,LS[i]? =some c->G b (o+i*z) z=some c
 |0,o,LS,h=>by cases h;exact⟨rfl,λi c hc=>by simp at hc⟩
 |n+1,o,LS,h=>by
  have h':Ce (G b o z) (λL=>Ce (jT G b z n (Nat.add o z)) λLS=>some (L::LS))=some LS:=h
  rw[CZ]at h'
  obtain⟨L,hL,h'⟩:=h'
  rw[CZ]at h'
  obtain⟨LS',hLS,h'⟩:=h'
  cases h'
  obtain⟨h1,h2⟩:=cO n (o+z) hLS
  refine⟨by simp[h1],λi c hc=>?_⟩
  cases i with
  |zero=>simp at hc;subst hc;simpa using hL
  |succ i=>simp at hc;rw[show o+(i+1)*z=o+z+i*z by rw[Nat.add_mul];omega];exact h2 i c hc
def El(G:AX)(H:Heap)(v:V)(z:Nat)(LS:DZ):Prop:=isStr v=false/\elems v G H z=some LS
theorem El.len{G:AX}{H:Heap}{v:V}{z:Nat}{LS:DZ}(h:El G H v z LS):lenV v=some (.int .i64 (.ofNat LS.length) 0):=by
 obtain⟨hs,h⟩:=h
 cases v<;>try (cases h;done)
 ·cases hs
 ·cases h;rfl
 ·rename_i id off n c e
  cases hb:Nat.beq e z with
  |false=>have h':(Bool.rec (motive:=λ_=>Option DZ) none (DN H id z n off) (Nat.beq e z):Option DZ)=some LS:=h;rw[hb]at h';cases h'
  |true=>
   have h':(Bool.rec (motive:=λ_=>Option DZ) none (DN H id z n off) (Nat.beq e z):Option DZ)=some LS:=h
   rw[hb]at h';rw[(Tq _ _ h').1];rfl
 ·rename_i id off n e
  cases hb:Nat.beq e z with
  |false=>have h':(Bool.rec (motive:=λ_=>Option DZ) none (DN H id z n off) (Nat.beq e z):Option DZ)=some LS:=h;rw[hb]at h';cases h'
  |true=>
   have h':(Bool.rec (motive:=λ_=>Option DZ) none (DN H id z n off) (Nat.beq e z):Option DZ)=some LS:=h
   rw[hb]at h';rw[(Tq _ _ h').1];rfl
 ·rw[(cO _ _ h).1];rfl
theorem El.at{G:AX}{H:Heap}{v:V}{z:Nat}{LS:DZ}(h:El G H v z LS){i:Nat}{c:LV}(hi:LS[i]? =some c):
 ∃p,BD z v (.int .i64 (.ofNat i) 0)=some p/\ldP p G H z=some c:=by
 obtain⟨hs,h⟩:=h
 obtain⟨hlt,_⟩:=List.getElem?_eq_some_iff.1 hi
 cases v<;>try (cases h;done)
 ·cases hs
 ·cases h;simp at hlt
 ·rename_i id off n cp e
  have h':(Bool.rec (motive:=λ_=>Option DZ) none (DN H id z n off) (Nat.beq e z):Option DZ)=some LS:=h
  cases hb:Nat.beq e z with
  |false=>rw[hb]at h';cases h'
  |true=>
   rw[hb]at h'
   obtain⟨h1,h2⟩:=Tq _ _ h'
   refine⟨.ptr id ((off+i)*z),?_,h2 i c hi⟩
   show CB (band (Nat.beq e z) (Nat.blt i n)) (Es (Nat.mul (Nat.add off i) z) λo=>some (.ptr id o))=_
   rw[hb,show Nat.blt i n=true by rw[Nat.blt_eq];omega,DK];rfl
 ·rename_i id off n e
  have h':(Bool.rec (motive:=λ_=>Option DZ) none (DN H id z n off) (Nat.beq e z):Option DZ)=some LS:=h
  cases hb:Nat.beq e z with
  |false=>rw[hb]at h';cases h'
  |true=>
   rw[hb]at h'
   obtain⟨h1,h2⟩:=Tq _ _ h'
   refine⟨.ptr id ((off+i)*z),?_,h2 i c hi⟩
   show CB (band (Nat.beq e z) (Nat.blt i n)) (Es (Nat.mul (Nat.add off i) z) λo=>some (.ptr id o))=_
   rw[hb,show Nat.blt i n=true by rw[Nat.blt_eq];omega,DK];rfl
 ·rename_i b off n cp e
  obtain⟨h1,h2⟩:=cO _ _ h
  refine⟨.gptr b (off+i*z),?_,h2 i c hi⟩
  show CB (Nat.blt i n) (Es (Nat.add off (Nat.mul i z)) λo=>some (.gptr b o))=_
  rw[show Nat.blt i n=true by rw[Nat.blt_eq];omega,DK];rfl
theorem Dy{G:AX}{H:Heap}{p:V}{z:Nat}{c:LV}(h:ldP p G H z=some c):Ag z p G H=some (.agg c):=by rw[AMq,h];rfl
theorem nP{G:AX}{H:Heap}{p v:V}(h:ldP p G H 1=some [v]):AY p G H=some v:=by rw[AQi,h];rfl
noncomputable def V.Ec(v:V):Option Nat:=match v with|.sl id .. =>some id|.PV id .. =>some id|_=>none
theorem El.same{G:AX}{H H':Heap}{v:V}{z:Nat}{LS:DZ}(h:El G H v z LS)(hs:∀id,v.Ec=some id->T.get H' id=T.get H id):El G H' v z LS:=by
 refine⟨h.1,?_⟩
 have hB:∀id,v.Ec=some id->∀n o,DN H' id z n o=DN H id z n o:=by
  intro id hid n
  induction n with
  |zero=>intro o;rfl
  |succ n ih=>
   intro o
   show Ce (yw H' id (Nat.mul o z) z) (λL=>Ce (DN H' id z n (Nat.succ o)) λLS=>some (L::LS))=Ce (yw H id (Nat.mul o z) z) (λL=>Ce (DN H id z n (Nat.succ o)) λLS=>some (L::LS))
   rw[ih];unfold yw;rw[hs id hid]
 have h2:=h.2
 cases v<;>try exact h2
 ·rename_i id off n c e
  show(Bool.rec (motive:=λ_=>Option DZ) none (DN H' id z n off) (Nat.beq e z):Option DZ)=some LS
  rw[hB id rfl];exact h2
 ·rename_i id off n e
  show(Bool.rec (motive:=λ_=>Option DZ) none (DN H' id z n off) (Nat.beq e z):Option DZ)=some LS
  rw[hB id rfl];exact h2
theorem T.ACm{α:Type}(a b:α):∀(p:P2) (t:T α),T.fJ b p (T.fJ a p t)=T.fJ b p t
 |.h,t=>rfl
 |.z p,t=>by show T.n t.val (T.fJ b p (T.fJ a p t.left)) t.right=T.n t.val (T.fJ b p t.left) t.right;rw[T.ACm a b p]
 |.o p,t=>by show T.n t.val t.left (T.fJ b p (T.fJ a p t.right))=T.n t.val t.left (T.fJ b p t.right);rw[T.ACm a b p]
theorem T.set_set{α:Type}(t:T α)(k:Nat)(a b:α):T.set (T.set t k a) k b=T.set t k b:=T.ACm ..
theorem Kp.get{H H':Heap}{n n' id:Nat}{b:SV}(f:Kp H n H' n')(h:T.get H id=some b)(hi:id<n):T.get H' id=some b:=(f.same id hi).trans h
theorem Kp.set{H0 H:Heap}{n0 n id:Nat}(a:Kp H0 n0 H n)(b:SV)(h:n0<=id):Kp H0 n0 (T.set H id b) n:=a.new b h (Nat.le_refl _)
theorem DF{σ:Type}{b:(σ->Prop)->σ->Prop}{N:Nat}{J:Nat->σ->Prop}(hs:∀I i s,i<N->J i s->(∀s',J (i+1) s'->I s')->b I s)(he:∀I s,J N s->b I s){s:σ}(h0:J 0 s):lfp σ b s:=by
 refine Qv (J:=λm s=>∃i,m=N-i/\i<=N/\J i s) ?_ (m:=N) ⟨0,rfl,Nat.zero_le _,h0⟩
 rintro I m s ⟨i,rfl,hi,hj⟩ ih
 rcases Nat.lt_or_ge i N with h|h
 ·exact hs I i s h hj λs' hj'=>ih _ s' (by omega) ⟨i+1,rfl,h,hj'⟩
 ·have:i=N:=by omega
  subst this;exact he I s hj
section
variable{H:Heap}{n z:Nat}{L:LV}{P:KV}
theorem AYe{v:V}(hv:jZ v=true)(h:∀H',Kp H n H' (n+1)->T.get H' n=some (one (Ba v))->P (.ptr n 0) H' (n+1)):Bh (Eo v) H n P:=by
 rw[ATl hv];exact h _ ((Kp.refl H n).new _ (Nat.le_refl _) (by omega)) (T.BP ..)
theorem Dp(h:∀H',Kp H n H' (n+1)->T.get H' n=some (one L)->P (.ptr n 0) H' (n+1)):Bh (Eo (.agg L)) H n P:=AYe rfl h
theorem Az(hL:L.length=z)(h:∀H',Kp H n H' (n+1)->T.get H' n=some (one L)->P (.ptr n 0) H' (n+1)):Bh (Au z [L] E0) H n P:=by
 rw[ANL hL];exact h _ ((Kp.refl H n).new _ (Nat.le_refl _) (by omega)) (T.BP ..)
end
theorem AIM{H:Heap}{id e c i:Nat}{t:T LV}(hg:T.get H id=some (.arr e c t))(he:0<e)(hi:i<c):yw H id (i*e) e=T.get t i:=by
 unfold yw;rw[hg]
 show ldB e c t (i*e) e=_
 unfold ldB
 have hdiv:i*e/e=i:=Nat.mul_div_cancel _ he
 have hmod:i*e%e=0:=Nat.mul_mod_left ..
 have hb:Nat.blt (Nat.div (i*e) e) c=true:=by rw[Nat.blt_eq];show i*e/e<c;omega
 rw[hb]
 show Ce (T.get t (Nat.div (i*e) e)) (ldC e (i*e) e)=_
 rw[show Nat.div (i*e) e=i from hdiv]
 cases h:T.get t i with
 |none=>rfl
 |some L=>
  show ldC e (i*e) e L=_
  unfold ldC
  rw[show Nat.mod (i*e) e=0 from hmod,show band (Nat.beq e e) (Nat.beq 0 0)=true by simp]
theorem ak{H:Heap}{id z:Nat}:∀(n o:Nat) (LS:DZ),LS.length=n->(∀i c,LS[i]? =some c->yw H id ((o+i)*z) z=some c)->DN H id z n o=some LS
 |0,o,LS,hl,_=>by cases LS with|nil=>rfl|cons a l=>simp at hl
 |n+1,o,LS,hl,h=>by
  cases LS with
  |nil=>simp at hl
  |cons a l=>
   show Ce (yw H id (Nat.mul o z) z) (λL=>Ce (DN H id z n (Nat.succ o)) λLS=>some (L::LS))=_
   have h0:=h 0 a rfl
   rw[show Nat.mul o z=(o+0)*z from rfl,h0,Sj,ak n (o+1) l (by simpa using hl) λi c hc=>by
    have:=h (i+1) c (by simpa using hc);rwa [show o+(i+1)=o+1+i by omega]at this]
   rfl
inductive Gr(G:AX)(H:Heap)(m:Nat)(z:Nat):V->DZ->Prop where
 |nil:Gr G H m z .Ad []
 |PV {id c:Nat} {t:T LV} {LS:DZ} (hg:T.get H id=some (.arr z c t)) (hc:LS.length<=c) (ht:∀i L,LS[i]? =some L->T.get t i=some L) (hid:m<=id):Gr G H m z (.PV id 0 LS.length z) LS
theorem Eb(z:Nat):Nat.beq z z=true:=by simp
theorem Gr.el{G:AX}{H:Heap}{m z:Nat}{v:V}{LS:DZ}(h:Gr G H m z v LS)(hz:0<z):El G H v z LS:=by
 cases h with
 |nil=>exact⟨rfl,rfl⟩
 |PV hg hc ht hid=>
  rename_i id c t
  refine⟨rfl,?_⟩
  show(Bool.rec (motive:=λ_=>Option DZ) none (DN H id z LS.length 0) (Nat.beq z z):Option DZ)=some LS
  rw[Eb]
  exact ak _ _ _ rfl λi L hi=>by
   have hlt:=(List.getElem?_eq_some_iff.1 hi).1
   rw[Nat.zero_add,AIM hg hz (by omega)];exact ht i L hi
theorem Gr.mono{G:AX}{H H':Heap}{m z:Nat}{v:V}{LS:DZ}(h:Gr G H m z v LS)(hs:∀id,v.Ec=some id->T.get H' id=T.get H id):Gr G H' m z v LS:=by
 cases h with
 |nil=>exact .nil
 |PV hg hc ht hid=>exact .PV (hs _ rfl▸hg) hc ht hid
theorem Gr.lo{G:AX}{H:Heap}{m z:Nat}{v:V}{LS:DZ}(h:Gr G H m z v LS){id:Nat}(hid:v.Ec=some id):m<=id/\∃c t,T.get H id=some (.arr z c t):=by
 cases h with
 |nil=>cases hid
 |PV hg hc ht hi=>cases hid;exact⟨hi,_,_,hg⟩
theorem au{a b:Nat}(h:a*b<=140737488355328):UF a b=true:=by unfold UF;rw[Nat.ble_eq];exact h
theorem AKC{id ln z bs c n:Nat}{t:T LV}{NS:DZ}{H:Heap}{k:KV}(hr:UF (ln+NS.length) bs=true)(hc:ln<=c):
 gQ id 0 ln z bs NS H n k (.arr z c t)=k (.PV n 0 (ln+NS.length) z) (T.set (T.set H id .dead) n (.arr z (ln+NS.length) (Ih NS ln t))) (n+1):=by
 show FT (Nat.add ln (len NS)) (λneed=>EO (band (UF need bs) (band (Nat.beq z z) (Nat.ble (Nat.add 0 ln) c))) (FT n λn=>k (.PV n 0 need z) (T.set (T.set H id .dead) n (.arr z need (Ih NS ln t))) (Nat.succ n)))=_
 rw[CS,CS,len_eq]
 show EO (band (UF (ln+NS.length) bs) (band (Nat.beq z z) (Nat.ble (Nat.add 0 ln) c))) (k (.PV n 0 (ln+NS.length) z) (T.set (T.set H id .dead) n (.arr z (ln+NS.length) (Ih NS ln t))) (n+1))=_
 rw[hr,Eb,show Nat.ble (Nat.add 0 ln) c=true by rw[Nat.ble_eq];show 0+ln<=c;omega]
 rfl
theorem Gr.app{G:AX}{H:Heap}{m n z bs:Nat}{v w:V}{LS NS:DZ}{k:KV}(h:Gr G H m z v LS)(hm:m<=n)(hn:∀id,v.Ec=some id->id<n)(hw:elems w G H z=some NS)
 (hb:(LS.length+NS.length)*bs<=140737488355328)
 (hk:∀v' H',Gr G H' m z v' (LS++NS)->(∀id,id<n->v.Ec≠some id->T.get H' id=T.get H id)->(∀id,v'.Ec=some id->id<n+1)->k v' H' (n+1))
 (hk0:NS=[]->k v H n):Rz z bs v w G H n k:=by
 unfold Rz
 rw[hw,dI]
 cases h with
 |nil=>
  cases NS with
  |nil=>exact hk0 rfl
  |cons a NS=>
   show N7 z bs [] (a::NS) H n k
   unfold N7
   rw[CS,CS,len_eq,len_eq,show UF (Nat.add ([]:DZ).length (a::NS).length) bs=true from au hb,qN]
   have e:Nat.add ([]:DZ).length (a::NS).length=(a::NS).length:=Nat.zero_add _
   rw[e]
   refine hk _ _ ?_ (λid hid _=>T.Ak _ _ (by omega)) (λid hid=>by cases hid;omega)
   refine .PV (LS:=a::NS) (T.BP ..) (Nat.le_refl _) (λi L hi=>?_) hm
   show T.get (Ih (a::NS) 0 .e) i=some L
   have hlt:=(List.getElem?_eq_some_iff.1 hi).1
   rw[Ig,if_pos ⟨Nat.zero_le _,by omega⟩];exact hi
 |PV hg hc ht hid=>
  rename_i id c t
  show EO (Nat.beq z z) _
  rw[Eb,qN]
  cases NS with
  |nil=>exact hk0 rfl
  |cons a NS=>
   show Ei (T.get H id) (λb=>gQ id 0 LS.length z bs (a::NS) H n k b)
   rw[hg,dI]
   rw[AKC (au hb) hc,show LS.length+(a::NS).length=(LS++a::NS).length by rw[List.length_append]]
   refine hk _ _ ?_ (λj hj hne=>?_) (λj hj=>by cases hj;omega)
   ·refine .PV (LS:=LS++a::NS) (T.BP ..) (Nat.le_refl _) (λi L hi=>?_) hm
    rw[Ig]
    by_cases hlt:i<LS.length
    ·rw[if_neg (by omega)]
     rw[List.getElem?_append_left hlt]at hi
     exact ht i L hi
    ·rw[List.getElem?_append_right (by omega)]at hi
     have hlt2:=(List.getElem?_eq_some_iff.1 hi).1
     rw[if_pos ⟨by omega,by omega⟩];exact hi
   ·rw[T.Ak _ _ (by omega),T.Ak _ _ (by intro e;subst e;exact hne rfl)]
def yX(H:Heap)(id:Nat)(ps:List ((Nat×Nat)×V)):Prop:=∃es ck,T.get H id=some (.map es ck)/\es.map (λe=>(e.1,e.2.1))=ps.map λp=>(V.str p.1.1 p.1.2,p.2)
def Hl{α:Type}(ps:List ((Nat×Nat)×α))(s:Nat×Nat):Option α:=(ps.find? λp=>decide (p.1=s)).map (·.2)
theorem ckS(a b l c:Nat):CK.str.eq (.str a b) (.str l c)=some (decide ((a,b)=(l,c))):=by
 show some (band (Nat.beq a l) (Nat.beq b c))=_
 congr 1;rw[Bg,Bool.eq_iff_iff];simp
theorem ACq:∀(es:ME) (ps:List ((Nat×Nat)×V)) (s:Nat×Nat) (i:Nat),es.map (λe=>(e.1,e.2.1))=ps.map (λp=>(V.str p.1.1 p.1.2,p.2))->
 tK .str (.str s.1 s.2) es i=some ((Hl ps s).map λv=>(i+(ps.findIdx λp=>decide (p.1=s)),v))
 |[],ps,s,i,h=>by
  cases ps with
  |nil=>rfl
  |cons p ps=>simp at h
 |e::es,ps,s,i,h=>by
  cases ps with
  |nil=>simp at h
  |cons p ps=>
   simp only[List.map_cons,List.cons.injEq,Prod.mk.injEq]at h
   obtain⟨⟨h1,h2⟩,h3⟩:=h
   show Ce (CK.str.eq e.1 (.str s.1 s.2)) (λr=>Bool.rec (tK .str (.str s.1 s.2) es (Nat.succ i)) (some (some (i,e.2.1))) r)=_
   rw[h1,ckS,Sj,ACq es ps s (i+1) h3]
   by_cases hp:p.1=s
   ·have hd:decide ((p.1.1,p.1.2)=(s.1,s.2))=true:=decide_eq_true hp
    rw[hd]
    unfold Hl
    simp[hp,List.findIdx_cons,h2]
   ·have hd:decide ((p.1.1,p.1.2)=(s.1,s.2))=false:=decide_eq_false hp
    rw[hd]
    unfold Hl
    simp only[List.find?_cons,hp,decide_false,List.findIdx_cons,cond_false]
    show some (Option.map (λv=>(i+1+List.findIdx (λp=>decide (p.fst=s)) ps,v)) _)=_
    congr 2;funext v;congr 1;omega
theorem ALJ{H:Heap}{id:Nat}{es:ME}{ck:Nat}(h:T.get H id=some (.map es ck))(f:ME->Nat->Option V):Ue H (.map id) f=f es ck:=by
 show(Option.rec (motive:=λ_=>(ME->Nat->Option V)->Option V) (λ_=>none) AW5 (T.get H id) f:Option V)=_
 rw[h];rfl
def AUC(z:V):Option V->V
 |some v=>.Io [v,.bool true]
 |none=>.Io [z,.bool false]
theorem AP0{H:Heap}{id:Nat}{ps:List ((Nat×Nat)×V)}(h:yX H id ps)(z:V)(s:Nat×Nat):
 AQD .str true z (.map id) (.str s.1 s.2) H=some (AUC z (Hl ps s)):=by
 obtain⟨es,ck,hg,he⟩:=h
 unfold AQD
 rw[ALJ hg,ACq es ps s 0 he,Sj]
 cases Hl ps s<;>rfl
def VP{α:Type}(s:Nat×Nat)(v:α):List ((Nat×Nat)×α)->List ((Nat×Nat)×α)
 |[]=>[(s,v)]
 |p::ps=>if p.1=s then(s,v)::ps else p::VP s v ps
theorem TU{α:Type}(s:Nat×Nat)(v:α):∀(ps:List ((Nat×Nat)×α)) (t:Nat×Nat),Hl (VP s v ps) t=if s=t then some v else Hl ps t
 |[],t=>by
  unfold VP Hl
  by_cases h:s=t<;>simp[h]
 |p::ps,t=>by
  have ih:=TU s v ps t
  unfold VP
  by_cases h:p.1=s
  ·rw[if_pos h]
   by_cases h2:s=t
   ·simp[Hl,h2]
   ·have h3:¬p.1=t:=by rw[h];exact h2
    simp[Hl,h2,h3]
  ·rw[if_neg h]
   by_cases h2:p.1=t
   ·have h3:¬s=t:=by intro e;exact h (h2.trans e.symm)
    simp[Hl,h2,h3]
   ·unfold Hl at ih⊢
    simp only[List.find?_cons,h2,decide_false]
    exact ih
theorem ALy{H:Heap}{id:Nat}{ps:List ((Nat×Nat)×V)}(h:yX H id ps)(s:Nat×Nat)(v:V){n:Nat}{k:KV}
 (hk:∀H',yX H' id (VP s v ps)->(∀j,j≠id->T.get H' j=T.get H j)->k .undef H' n):AUd .str (.map id) (.str s.1 s.2) v H n k:=by
 obtain⟨es,ck,hg,he⟩:=h
 show Ei (T.get H id) (λb=>Ei (AT8 b (ALe .str (.str s.1 s.2) v)) λb=>k .undef (T.set H id b) n)
 rw[hg,dI]
 show Ei (ALe .str (.str s.1 s.2) v es ck) _
 unfold ALe
 rw[ACq es ps s 0 he,Sj]
 have key:∀(es:ME) (ps:List ((Nat×Nat)×V)),es.map (λe=>(e.1,e.2.1))=ps.map (λp=>(V.str p.1.1 p.1.2,p.2))->
  match Hl ps s with
  |none=>(cat es [(V.str s.1 s.2,v,ck)]).map (λe=>(e.1,e.2.1))=(VP s v ps).map (λp=>(V.str p.1.1 p.1.2,p.2))
  |some _=>∃e,nth es (ps.findIdx λp=>decide (p.1=s))=some e/\(nU (e.1,v,e.2.2) es (ps.findIdx λp=>decide (p.1=s))).map (λe=>(e.1,e.2.1))=(VP s v ps).map (λp=>(V.str p.1.1 p.1.2,p.2)):=by
  intro es
  induction es with
  |nil=>intro ps h;cases ps with
   |nil=>rfl
   |cons p ps=>simp at h
  |cons e es ih=>
   intro ps h
   cases ps with
   |nil=>simp at h
   |cons p ps=>
    simp only[List.map_cons,List.cons.injEq,Prod.mk.injEq]at h
    obtain⟨⟨h1,h2⟩,h3⟩:=h
    have ih:=ih ps h3
    by_cases hp:p.1=s
    ·have:Hl (p::ps) s=some p.2:=by simp[Hl,hp]
     rw[this]
     refine⟨e,by simp[List.findIdx_cons,hp],?_⟩
     simp only[VP,hp,if_true,List.findIdx_cons,decide_true,cond_true]
     show((e.1,v,e.2.2)::es).map (λe=>(e.1,e.2.1))=_
     simp only[List.map_cons,h1,hp,h3]
    ·have:Hl (p::ps) s=Hl ps s:=by simp[Hl,hp]
     rw[this]
     cases hl:Hl ps s with
     |none=>
      rw[hl]at ih
      simp only[VP,hp,if_false]
      show((e::cat es [(V.str s.1 s.2,v,ck)]).map λe=>(e.1,e.2.1))=_
      simp only[List.map_cons,h1,h2]
      rw[show List.map (λe=>(e.fst,e.snd.fst)) (cat es [(V.str s.1 s.2,v,ck)])=_ from ih]
     |some x=>
      rw[hl]at ih
      obtain⟨e',he',hs⟩:=ih
      refine⟨e',?_,?_⟩
      ·simp only[List.findIdx_cons,hp,decide_false,cond_false];exact he'
      ·simp only[List.findIdx_cons,hp,decide_false,cond_false,VP,if_false]
       show(e::nU (e'.1,v,e'.2.2) es _).map (λe=>(e.1,e.2.1))=_
       simp only[List.map_cons,h1,h2]
       rw[show List.map (λe=>(e.fst,e.snd.fst)) (nU (e'.1,v,e'.2.2) es (List.findIdx (λp=>decide (p.fst=s)) ps))=_ from hs]
 have key:=key es ps he
 cases hl:Hl ps s with
 |none=>
  rw[hl]at key
  show Ei (some (.map (cat es [(V.str s.1 s.2,v,ck)]) (Nat.succ ck))) (λb=>k .undef (T.set H id b) n)
  rw[dI]
  exact hk _ ⟨_,_,T.BP ..,key⟩ λj hj=>T.Ak _ _ (Ne.symm hj)
 |some x=>
  rw[hl]at key
  obtain⟨e,he',hs⟩:=key
  show Ei (Ce (nth es (0+ps.findIdx λp=>decide (p.1=s))) λe=>some (.map (nU (e.1,v,e.2.2) es (0+ps.findIdx λp=>decide (p.1=s))) ck)) (λb=>k .undef (T.set H id b) n)
  rw[Nat.zero_add,he',Sj,dI]
  exact hk _ ⟨_,_,T.BP ..,hs⟩ λj hj=>T.Ak _ _ (Ne.symm hj)
def AFl(G:AX):Prop:=∀b o z L,G b o z=some L->L.length=z/\∀i m,0<m->i+m<=z->G b (o+i) m=some ((L.drop i).take m)
theorem AQ3(e off m:Nat)(L:LV):ldC e off m L=if m=e/\off%e=0 then some L else if off%e+m<=e then some ((L.drop (off%e)).take m)else none:=by
 have e1:ldC e off m L=Bool.rec (motive:=λ_=>Option LV) (Bool.rec none (some (dQ m (tu (off%e) L))) (Nat.ble (off%e+m) e)) (some L) (band (Nat.beq m e) (Nat.beq (off%e) 0)):=rfl
 rw[e1,lF,wJ]
 by_cases h:m=e/\off%e=0
 ·have hb:band (Nat.beq m e) (Nat.beq (off%e) 0)=true:=by simp only[Bg,Bool.and_eq_true,beq_iff];exact h
  rw[if_pos h,hb]
 ·have hb:band (Nat.beq m e) (Nat.beq (off%e) 0)=false:=by rw[Bool.eq_false_iff];intro hc;simp only[Bg,Bool.and_eq_true,beq_iff]at hc;exact h hc
  rw[if_neg h,hb]
  by_cases h2:off%e+m<=e
  ·rw[if_pos h2,show Nat.ble (off%e+m) e=true by rw[Nat.ble_eq];exact h2]
  ·rw[if_neg h2,show Nat.ble (off%e+m) e=false by rw[Bool.eq_false_iff];intro hc;rw[Nat.ble_eq]at hc;exact h2 hc]
theorem AQw{e cnt off m:Nat}{t:T LV}{c:LV}(h:ldB e cnt t off m=some c):∃L,off/e<cnt/\T.get t (off/e)=some L/\ldC e off m L=some c:=by
 unfold ldB at h
 rw[CZ]at h
 obtain⟨L,h1,h2⟩:=h
 cases hb:Nat.blt (Nat.div off e) cnt with
 |false=>rw[hb]at h1;cases h1
 |true=>rw[hb]at h1;exact⟨L,by rw[Nat.blt_eq]at hb;exact hb,h1,h2⟩
theorem ARK{H:Heap}{id off z o m:Nat}{c:LV}(h:yw H id off z=some c)(hc:c.length=z)(hm:0<m)(ho:o+m<=z):yw H id (off+o) m=some ((c.drop o).take m):=by
 unfold yw at h⊢
 cases hb:T.get H id with
 |none=>rw[hb]at h;cases h
 |some b=>
  rw[hb]at h
  cases b with
  |map _ _=>cases h
  |dead=>cases h
  |mP _ _ _ _ _=>cases h
  |own _=>cases h
  |arr e cnt t=>
   have h':ldB e cnt t off z=some c:=h
   show ldB e cnt t (off+o) m=_
   obtain⟨L,h1,h2,h3⟩:=AQw h'
   rw[AQ3]at h3
   have key:off%e+z<=e/\c=(L.drop (off%e)).take z/\(z=e/\off%e=0->c=L):=by
    by_cases hh:z=e/\off%e=0
    ·rw[if_pos hh]at h3
     cases h3
     rw[hh.2,List.drop_zero,List.take_of_length_le (by omega)]
     exact⟨by omega,rfl,λ_=>rfl⟩
    ·rw[if_neg hh]at h3
     by_cases h4:off%e+z<=e
     ·rw[if_pos h4]at h3;exact⟨h4,(Option.some.inj h3).symm,λh=>absurd h hh⟩
     ·rw[if_neg h4]at h3;cases h3
   obtain⟨hle,hcc,hcl⟩:=key
   have he:0<e:=by omega
   have hlt:off%e+o<e:=by omega
   have hoff:off+o=e*(off/e)+(off%e+o):=by have:=Nat.div_add_mod off e;omega
   have hd:(off+o)/e=off/e:=by rw[hoff,Nat.mul_add_div he,Nat.div_eq_of_lt hlt];omega
   have hmo:(off+o)%e=off%e+o:=by rw[hoff,Nat.mul_add_mod,Nat.mod_eq_of_lt hlt]
   unfold ldB
   rw[show Nat.div (off+o) e=off/e from hd,show Nat.blt (off/e) cnt=true by rw[Nat.blt_eq];exact h1]
   show Ce (T.get t (off/e)) (ldC e (off+o) m)=_
   rw[h2,Sj,AQ3,hmo]
   have hL:z<=(L.drop (off%e)).length:=by rw[hcc,List.length_take]at hc;omega
   by_cases hh:m=e/\off%e+o=0
   ·rw[if_pos hh,<-hcl ⟨by omega,by omega⟩,show o=0 by omega,List.drop_zero,List.take_of_length_le (by omega)]
   ·rw[if_neg hh,if_pos (by omega),hcc,List.drop_take,List.take_take,List.drop_drop,Nat.min_eq_left (by omega)]
theorem wW{G:AX}(hG:AFl G){H:Heap}{p:V}{z o m:Nat}{c:LV}(h:ldP p G H z=some c)(hc:c.length=z)(hm:0<m)(ho:o+m<=z):
 ∃p',AU o p=some p'/\ldP p' G H m=some ((c.drop o).take m):=by
 cases p<;>try (cases h;done)
 ·rename_i id off;exact⟨_,Am ..,ARK h hc hm ho⟩
 ·rename_i b off;exact⟨_,AMD ..,(hG b off z c h).2 o m hm ho⟩
theorem vg{G:AX}(hG:AFl G){H:Heap}{p:V}{z o:Nat}{c:LV}{x:V}(h:ldP p G H z=some c)(hc:c.length=z)(ho:c[o]? =some x):
 ∃p',AU o p=some p'/\AY p' G H=some x:=by
 obtain⟨hlt,he⟩:=List.getElem?_eq_some_iff.1 ho
 obtain⟨p',h1,h2⟩:=wW hG h hc (o:=o) (m:=1) (by omega) (by omega)
 refine⟨p',h1,?_⟩
 rw[AQi,h2,AG8,AAO,List.getElem?_take]
 simp[ho]
theorem AMC{G:AX}{H:Heap}{n id m z bs:Nat}{t:T LV}{w:V}{LS NS:DZ}{k:KV}(hz:0<z)(hb:T.get H id=some (.arr z m t))(hid:id<n)(h:elems (.sl id 0 m m z) G H z=some LS)
 (hw:elems w G H z=some NS) (hr:(m+NS.length)*bs<=140737488355328)
 (hk:∀v' H' n',El G H' v' z (LS++NS)->(∀j,j<n->T.get H' j=T.get H j)->n<=n'->(∀j,v'.Ec=some j->j<n')->k v' H' n'):Rz z bs (.sl id 0 m m z) w G H n k:=by
 unfold Rz
 rw[hw,dI]
 have h2:(Bool.rec (motive:=λ_=>Option DZ) none (DN H id z m 0) (Nat.beq z z):Option DZ)=some LS:=h
 rw[Eb]at h2
 have h2:DN H id z m 0=some LS:=h2
 obtain⟨hl,hat⟩:=Tq _ _ h2
 have e0:AH1 (.sl id 0 m m z) G z bs NS H n k=Bool.rec (motive:=λ_=>Prop) (Ei (DN H id z m 0) λOS=>N7 z bs OS NS H n k) (Ei (T.get H id) λb=>yc id 0 m m z (m+NS.length) NS H n k b) (Nat.ble (m+NS.length) m):=by
  show EO (Nat.beq z z) (FT (Nat.add m (len NS)) λneed=>Bool.rec (motive:=λ_=>Prop) (Ei (DN H id z m 0) λOS=>N7 z bs OS NS H n k) (Ei (T.get H id) λb=>yc id 0 m m z need NS H n k b) (Nat.ble need m))=_
  rw[Eb,qN,CS,len_eq];rfl
 rw[e0]
 by_cases hN:NS.length=0
 ·have:NS=[]:=List.length_eq_zero_iff.1 hN
  subst this
  rw[show Nat.ble (m+([]:DZ).length) m=true by rw[Nat.ble_eq];exact Nat.le_refl _]
  show Ei (T.get H id) (λb=>yc id 0 m m z (m+0) [] H n k b)
  rw[hb,dI]
  show EO (band (Nat.beq z z) (Nat.ble (Nat.add 0 (m+0)) m)) (k (.sl id 0 (m+0) m z) (T.set H id (.arr z m t)) n)
  rw[Eb,show Nat.ble (Nat.add 0 (m+0)) m=true by rw[Nat.ble_eq];show 0+m<=m;omega]
  have hs:∀j,T.get (T.set H id (.arr z m t)) j=T.get H j:=λj=>by
   rw[T.TW];split
   ·rename_i e;subst e;exact hb.symm
   ·rfl
  rw[List.append_nil]at hk
  exact hk _ _ _ ((show El G H (.sl id 0 m m z) z LS from⟨rfl,h⟩).same λj _=>hs j) (λj _=>hs j) (Nat.le_refl _) (λj hj=>by cases hj;exact hid)
 ·rw[show Nat.ble (m+NS.length) m=false by rw[Bool.eq_false_iff];intro hc;rw[Nat.ble_eq]at hc;omega]
  show Ei (DN H id z m 0) (λOS=>N7 z bs OS NS H n k)
  rw[h2,dI]
  show FT (Nat.add (len LS) (len NS)) (λneed=>EO (UF need bs) (FT n λn=>k (.PV n 0 need z) (T.set H n (.arr z need (Ih NS (len LS) (Ih LS 0 .e)))) (Nat.succ n)))
  rw[CS,CS,len_eq,len_eq,show UF (Nat.add LS.length NS.length) bs=true from au (by rw[hl];exact hr),qN]
  have e:Nat.add LS.length NS.length=(LS++NS).length:=by rw[List.length_append];rfl
  rw[e]
  refine hk _ _ _ (Gr.el (m:=n) (.PV (LS:=LS++NS) (T.BP ..) (Nat.le_refl _) (λi L hi=>?_) (Nat.le_refl _)) hz) (λj hj=>T.Ak _ _ (by omega)) (by omega) (λj hj=>by cases hj;omega)
  rw[Ig,Ig]
  by_cases hlt:i<LS.length
  ·rw[if_neg (by omega),if_pos ⟨Nat.zero_le _,by omega⟩]
   rw[List.getElem?_append_left hlt]at hi
   exact hi
  ·rw[List.getElem?_append_right (by omega)]at hi
   have hlt2:=(List.getElem?_eq_some_iff.1 hi).1
   rw[if_pos ⟨by omega,by omega⟩];exact hi
theorem ARt{H:Heap}{n:Nat}{P:KV}:Bh (AHU E0) H n P=P (.map n) (T.set H n (.map [] 0)) (n+1):=by
 show FT n (λn=>P (.map n) (T.set H n (.map [] 0)) (Nat.succ n))=_
 rw[CS]
theorem ALD{m:Nat}(h:m+1<9223372036854775808):B2.ev .sub (.int .i64 (.ofNat (m+1)) 0) (.int .i64 (.ofNat 1) 0)=some (.int .i64 (.ofNat m) 0):=by
 show some (V.int .i64 (qQ .i64 (AFk (.ofNat (m+1)) (Int.neg (.ofNat 1)))) 0)=_
 rw[ZM,ABi]
 have e:Int.ofNat (m+1)+Int.neg (Int.ofNat 1)=Int.ofNat m:=by show((m+1:Nat):Int)+ -((1:Nat):Int)=(m:Int);omega
 rw[e,aj (by show(-9223372036854775808:Int)<=(m:Int);omega) (by show(m:Int)<9223372036854775808;omega)]
end Go.DW
namespace Go.DW
open Go.ChangeShapes Go.WideShapes Go.RowKit
inductive Sh where
 |int (k:IntKind)|bool|str|sl (z:Nat) (t:Sh)|st (l:List Sh)
def RSl(v:V)(n:Nat):Prop:=(v=.Ad/\n=0)∨∃b o c,v=.rsl b o n c 0/\n<=c/\c<=maxLen
mutual
def Fits(G:AX):Sh->LV->Prop
 |.int k,vs=>∃n,vs=[.int k n 0]
 |.bool,vs=>∃b,vs=[.bool b]
 |.str,vs=>∃s:List UInt8,s.length<=maxLen/\vs=[.str s.length (enc s)]
 |.sl z t,vs=>∃v LS,vs=[v]/\RSl v LS.length/\(∀H,El G H v z LS)/\LS.length<=maxLen/\∀L∈LS,L.length=z/\Fits G t L
 |.st ts,vs=>AM0 G ts vs
def AM0(G:AX):List Sh->LV->Prop
 |[],vs=>vs=[]
 |t::ts,vs=>∃L vs',vs=L++vs'/\Fits G t L/\AM0 G ts vs'
end
def uT(P:Program):Nat->TypeId->Option Sh
 |0,_=>none
 |d+1,t=>match P.underlying t with
  |some (.int k)=>some (.int k)
  |some .bool=>some .bool
  |some .string=>some .str
  |some (.slice e)=>if P.cellsOf e=0 then none else(uT P d e).map (.sl (P.cellsOf e))
  |some (.struct fs)=>if nT 0 (fs.toList.map λf=>(f.offset,P.cellsOf f.type)) (P.cellsOf t)=true then(fs.toList.mapM λf=>uT P d f.type).map .st else none
  |_=>none
theorem ALa{W:World}{b o n:Nat}{L:LV}(h:NC W b o n=some L):L.length=n:=by
 unfold NC at h
 split at h
 ·cases h;simp
 ·cases h
theorem AKV(W:World):AFl (NC W):=by
 intro b o z L h
 refine⟨ALa h,λi m hm hi=>?_⟩
 unfold NC at h⊢
 split at h
 ·rename_i hc
  cases h
  rw[if_pos]
  ·congr 1
   apply List.ext_getElem?
   intro j
   rw[List.getElem?_take]
   by_cases hj:j<m
   ·rw[if_pos hj,List.getElem?_drop,List.getElem?_map,List.getElem?_map,List.getElem?_range hj,List.getElem?_range (by omega),Option.map_some,Option.map_some,Nat.add_assoc]
   ·rw[if_neg hj,List.getElem?_eq_none (by simp;omega)]
  ·intro j hj
   have:=hc (i+j) (by omega)
   rwa [<-Nat.add_assoc]at this
 ·cases h
theorem AGv{G:AX}{b z:Nat}:∀(n o:Nat) (LS:DZ),LS.length=n->(∀i c,LS[i]? =some c->G b (o+i*z) z=some c)->jT G b z n o=some LS
 |0,o,LS,hl,_=>by cases LS with|nil=>rfl|cons a l=>simp at hl
 |n+1,o,LS,hl,h=>by
  cases LS with
  |nil=>simp at hl
  |cons a l=>
   show Ce (G b o z) (λL=>Ce (jT G b z n (Nat.add o z)) λLS=>some (L::LS))=_
   have h0:=h 0 a rfl
   rw[Nat.zero_mul,Nat.add_zero]at h0
   rw[h0,Sj,show Nat.add o z=o+z from rfl,AGv n (o+z) l (by simpa using hl) λi c hc=>by
    have:=h (i+1) c (by simpa using hc);rwa [show o+(i+1)*z=o+z+i*z by rw[Nat.add_mul];omega]at this]
   rfl
theorem AKq{G:AX}{H:Heap}{b o c z:Nat}{LS:DZ}(h:∀i L,LS[i]? =some L->G b (o+i*z) z=some L){e:Nat}:El G H (.rsl b o LS.length c e) z LS:=
 ⟨rfl,AGv _ _ _ rfl h⟩
theorem ABK{G:AX}:∀{ts:List Sh} {ls:List LV},ALp (λt l=>Fits G t l) ts ls->AM0 G ts ls.flatten
 |_,_,.nil=>rfl
 |_,_,.cons h t=>⟨_,_,by simp,h,ABK t⟩
theorem AGb{α β γ:Type}{f:α->Option β}{R:β->γ->Prop}{g:α->γ}:∀{l:List α} {r:List β},l.mapM f=some r->(∀a b,a∈l->f a=some b->R b (g a))->ALp R r (l.map g)
 |[],r,h,_=>by simp at h;subst h;exact .nil
 |a::l,r,h,hR=>by
  rw[List.mapM_cons]at h
  cases hfa:f a with
  |none=>rw[hfa]at h;cases h
  |some b=>
   rw[hfa]at h
   cases hr:l.mapM f with
   |none=>simp[hr]at h
   |some r'=>
    simp[hr]at h;subst h
    exact .cons (hR a b (List.mem_cons_self ..) hfa) (AGb hr λa b ha hb=>hR a b (List.mem_cons_of_mem _ ha) hb)
theorem ay{w:World}{base n:Nat}{a:Addr}{cs:List Value}(h:w.cells? base a n=some cs):cs.length=n/\∀j u,cs[j]? =some u->w.cell? (a.add j)=some u:=by
 unfold World.cells? at h
 split at h
 ·have hl:=mapM_some_length h
  refine⟨by simpa using hl,λj u hj=>?_⟩
  have hlt:j<n:=by have:=(List.getElem?_eq_some_iff.1 hj).1;simp at hl;omega
  have:=mapM_some_get h j j (by rw[List.getElem?_range hlt])
  rw[this,hj]
 ·cases h
theorem AML{a:Addr}(h:a.spot=none)(k:Nat):a.add k=⟨a.block,a.off+k,none⟩:=by
 obtain⟨b,o,s⟩:=a;cases h;exact add_lit b o k
theorem cell_spot{w:World}{a:Addr}{u:Value}(h:w.cell? a=some u):a.spot=none:=by
 unfold World.cell? at h
 split at h
 ·split at h
  ·cases h
  ·rename_i hs;cases hc:a.spot<;>simp_all
 ·cases h
theorem ACi{P:Program}{w:World}{H:Type}{enc':TypeId×Value->H}{held:Bool}:∀(fuel:Nat) {t:TypeId} {cs:List Value} {x:DataW H×List MemPlace} {m:Nat} {sh:Sh},DataW.trod enc' P w 0 (λ_=>true) held fuel t cs=some x->uT P m t=some sh->
 Fits (NC w) sh (cs.map qh)/\(∀u∈cs,u.oneCell'=true)
 |0,_,_,_,_,_,h,_=>by simp[DataW.trod]at h
 |fuel+1,t,cs,x,0,sh,h,hs=>by cases hs
 |fuel+1,t,cs,x,m+1,sh,h,hs=>by
  simp only[uT]at hs
  split at hs
  ·rename_i k hu
   obtain⟨i,rfl,e,_⟩:=DataW.trod_int hu h
   cases hs
   exact⟨⟨i,rfl⟩,λu hu=>by simp at hu;subst hu;rfl⟩
  ·rename_i hu
   obtain⟨i,rfl,e⟩:=DataW.trod_bool hu h
   cases hs
   exact⟨⟨i,rfl⟩,λu hu=>by simp at hu;subst hu;rfl⟩
  ·rename_i hu
   obtain⟨s,rfl,e,hle⟩:=DataW.trod_string hu h
   cases hs
   exact⟨⟨s.data.toList,by simpa using hle,rfl⟩,λu hu=>by simp at hu;subst hu;rfl⟩
  ·rename_i e hu
   split at hs
   ·cases hs
   rename_i hz
   cases hsh:uT P m e with
   |none=>rw[hsh]at hs;cases hs
   |some sh'=>
   rw[hsh]at hs
   cases hs
   rcases DataW.trod_slice hu h with⟨rfl,_⟩|⟨a,len,cap,elems,rest,n,hn,rfl,_,_,hle,hcap,hlen,hel,hsp,_⟩
   ·refine⟨⟨.Ad,[],?_,.inl ⟨rfl,rfl⟩,λH=>⟨rfl,rfl⟩,Nat.zero_le _,λL hL=>by cases hL⟩,λu hu=>by simp at hu;subst hu;rfl⟩
    simp[qh]
   ·have hn':fuel=n:=by omega
    subst hn'
    obtain⟨hrl,hrest⟩:=hsp rfl
    refine⟨?_,λu hu=>by simp at hu;subst hu;rfl⟩
    have each:∀i,i<cap->∃cs',w.cells? 0 (a.add (i*P.cellsOf e)) (P.cellsOf e)=some cs'/\(i<len->Fits (NC w) sh' (cs'.map qh)/\∀u∈cs',u.oneCell'=true):=by
     intro i hi
     by_cases hil:i<len
     ·have h1:=hel i hil
      rw[List.getElem?_eq_getElem (by omega)]at h1
      cases hc:w.cells? 0 (a.add (i*P.cellsOf e)) (P.cellsOf e)with
      |none=>rw[hc]at h1;cases h1
      |some cs'=>
       rw[hc]at h1
       exact⟨cs',rfl,λ_=>ACi fuel h1 hsh⟩
     ·have h1:=hrest (i-len) (by omega)
      rw[List.getElem?_eq_getElem (by omega),show len+(i-len)=i by omega]at h1
      cases hc:w.cells? 0 (a.add (i*P.cellsOf e)) (P.cellsOf e)with
      |none=>rw[hc]at h1;cases h1
      |some cs'=>exact⟨cs',rfl,λh=>absurd h hil⟩
    have hspot:cap=0∨a.spot=none:=by
     rcases Nat.eq_zero_or_pos cap with h0|h0
     ·exact .inl h0
     ·obtain⟨cs',hc,_⟩:=each 0 h0
      obtain⟨hl,hg⟩:=ay hc
      have h0:=hg 0 _ (List.getElem?_eq_getElem (by omega))
      have:=cell_spot h0
      simp only[Nat.zero_mul]at this
      unfold Addr.add at this
      simp only[if_true]at this
      exact .inr this
    have htv:qh (.slice (some a) len cap)=.rsl a.block a.off len cap 0:=by
     simp only[qh];rw[if_pos ⟨hle,hspot⟩]
    let LS:DZ:=(List.range len).map λi=>((w.cells? 0 (a.add (i*P.cellsOf e)) (P.cellsOf e)).getD []).map qh
    have hLS:LS.length=len:=by simp[LS]
    have get:∀i L,LS[i]? =some L->i<len/\∃cs',w.cells? 0 (a.add (i*P.cellsOf e)) (P.cellsOf e)=some cs'/\L=cs'.map qh:=by
     intro i L hi
     have hlt:=(List.getElem?_eq_some_iff.1 hi).1
     rw[hLS]at hlt
     simp only[LS,List.getElem?_map,List.getElem?_range hlt,Option.map_some,Option.some.injEq]at hi
     obtain⟨cs',hc,_⟩:=each i (by omega)
     rw[hc]at hi
     exact⟨hlt,cs',hc,hi.symm⟩
    refine⟨.rsl a.block a.off len cap 0,LS,by simp[htv],.inr ⟨_,_,_,by rw[hLS],by omega,hcap⟩,λH=>?_,by omega,?_⟩
    ·rw[<-hLS]
     refine AKq λi L hi=>?_
     obtain⟨hlt,cs',hc,rfl⟩:=get i L hi
     obtain⟨hl,hg⟩:=ay hc
     have hsn:a.spot=none:=by rcases hspot with h|h;omega;exact h
     obtain⟨cs2,hc2,hf⟩:=each i (by omega)
     rw[hc]at hc2;cases hc2
     refine vX hl (hf hlt).2 λj u hj=>?_
     have:=hg j u hj
     rw[AML hsn,add_lit]at this
     exact this
    ·intro L hL
     obtain⟨i,hi⟩:=List.mem_iff_getElem?.1 hL
     obtain⟨hlt,cs',hc,rfl⟩:=get i L hi
     obtain⟨cs2,hc2,hf⟩:=each i (by omega)
     rw[hc]at hc2;cases hc2
     exact⟨by simp[(ay hc).1],(hf hlt).1⟩
  ·rename_i fs hu
   split at hs
   ·rename_i hcon
    cases hm:fs.toList.mapM (λf=>uT P m f.type)with
    |none=>rw[hm]at hs;cases hs
    |some shs=>
    rw[hm]at hs
    cases hs
    obtain⟨xs,n',hfe,e,hlen,hxl,hel⟩:=DataW.trod_struct hu h
    have hfe':fuel=n':=by omega
    subst hfe'
    have hflat:=Zd cs _ 0 (by rw[hlen];exact hcon)
    simp only[List.drop_zero,List.map_map]at hflat
    have each:∀(f:Field) (sh:Sh),f∈fs.toList->uT P m f.type=some sh->Fits (NC w) sh (((cs.drop f.offset).take (P.cellsOf f.type)).map qh)/\∀u∈(cs.drop f.offset).take (P.cellsOf f.type),u.oneCell'=true:=by
     intro f sh hf hsh
     obtain⟨i,hi⟩:=List.mem_iff_getElem?.1 hf
     have h1:=hel i f (by simpa using hi)
     have hil:i<xs.length:=by rw[hxl];simpa using(List.getElem?_eq_some_iff.1 hi).1
     rw[List.getElem?_eq_getElem hil]at h1
     exact ACi fuel h1 hsh
    constructor
    ·show AM0 (NC w) shs _
     have:=ABK (AGb (R:=λt l=>Fits (NC w) t l) (g:=λf=>((cs.drop f.offset).take (P.cellsOf f.type)).map qh) hm λf b hf hb=>(each f b hf hb).1)
     have e2:cs.map qh=(fs.toList.map λf=>((cs.drop f.offset).take (P.cellsOf f.type)).map qh).flatten:=by
      conv=>lhs;rw[hflat]
      rw[List.map_flatten,List.map_map];rfl
     rw[e2];exact this
    ·intro u hu'
     rw[hflat]at hu'
     obtain⟨l,hl,hul⟩:=List.mem_flatten.1 hu'
     obtain⟨f,hf,rfl⟩:=List.mem_map.1 hl
     obtain⟨sh',hsh'⟩:=ABT hm f hf
     exact(each f sh' hf hsh').2 u hul
   ·cases hs
  ·cases hs
def AOk:V->Bool
 |.int _ _ b=>Nat.beq b 0
 |.bool _=>true
 |.str _ _=>true
 |_=>false
theorem AUo{ρ:Loc}{v:V}{u:Value}(h:Aa ρ v u)(hp:AOk v=true):qh u=v:=by
 cases v<;>try (cases hp;done)
 ·rename_i k n s
  have:s=0:=Nat.eq_of_beq_eq_true hp
  subst this
  simp only[Aa]at h;subst h;rfl
 ·simp only[Aa]at h;subst h;rfl
 ·simp only[Aa]at h
  obtain⟨s,rfl,h1,h2⟩:=h
  subst h1;subst h2;rfl
theorem AKw{W:World}{g:Nat}{cs:List Value}{tab:LV}(hc:∀i,W.cell? ⟨g,i,none⟩=cs[i]?)(hr:Dc (λ_=>none) tab cs)(h1:∀u∈cs,u.oneCell'=true)(hp:tab.all AOk=true){o n:Nat}(hl:o+n<=tab.length):
 NC W g o n=some ((tab.drop o).take n):=by
 obtain⟨hlen,hget⟩:=(lY tab cs).1 hr
 rw[vX (cs:=(cs.drop o).take n) (by simp;omega) (λu hu=>h1 u (List.mem_of_mem_drop (List.mem_of_mem_take hu))) λj u hj=>?_]
 ·congr 1
  apply List.ext_getElem?
  intro j
  rw[List.getElem?_map,List.getElem?_take,List.getElem?_take]
  by_cases hj:j<n
  ·rw[if_pos hj,if_pos hj,List.getElem?_drop,List.getElem?_drop]
   have hlt:o+j<tab.length:=by omega
   rw[List.getElem?_eq_getElem hlt,List.getElem?_eq_getElem (by omega),Option.map_some]
   congr 1
   exact AUo (hget _ _ _ (List.getElem?_eq_getElem hlt) (List.getElem?_eq_getElem (by omega))) (List.all_eq_true.1 hp _ (List.getElem_mem hlt))
  ·rw[if_neg hj,if_neg hj];rfl
 ·rw[List.getElem?_take]at hj
  split at hj
  ·rw[List.getElem?_drop]at hj;rw[hc];exact hj
  ·cases hj
end Go.DW
namespace Go.DW
section
variable{e:Option V}{P:V->Prop}{Q:KV}{t:KV->Prop}{H:Heap}{n:Nat}{a b:V}
theorem Ry(h:P (.Io [])):BF (.bool true) false e P:=h
theorem ACO(h:P (.Io [])):BF (.bool false) true e P:=h
theorem Zr(h:Q (.Io []) H n):I4 (.bool true) false t H n Q:=h
theorem sW(h:Q (.Io []) H n):I4 (.bool false) true t H n Q:=h
theorem Uf(h:P a):AP (CQ (.bool true) a b) P:=h
theorem jC(h:P b):AP (CQ (.bool false) a b) P:=h
end
end Go.DW
namespace Go.DW
open Go.ChangeShapes Go.WideShapes Go.RowKit
def AFa(R:TypeId->LV->Prop):List TypeId->LV->Prop
 |[],vs=>vs=[]
 |t::ts,vs=>∃L vs',vs=L++vs'/\R t L/\AFa R ts vs'
theorem ANB{R:TypeId->LV->Prop}{g:Field->LV}:∀fs:List Field,(∀f∈fs,R f.type (g f))->AFa R (fs.map (·.type)) (fs.map g).flatten
 |[],_=>rfl
 |f::fs,h=>⟨_,_,by simp,h f (List.mem_cons_self ..),ANB fs λf hf=>h f (List.mem_cons_of_mem _ hf)⟩
def ARR(P:Program)(S:List TypeId)(t:TypeId):Bool:=match P.underlying t with
 |some (.int _)=>true
 |some .bool=>true
 |some .string=>true
 |some (.slice e)=>decide (P.cellsOf e≠0)&&decide (e∈S)
 |some (.struct fs)=>nT 0 (fs.toList.map λf=>(f.offset,P.cellsOf f.type)) (P.cellsOf t)&&fs.toList.all λf=>decide (f.type∈S)
 |_=>false
def U4(P:Program)(G:AX):Nat->TypeId->LV->Prop
 |0,_,_=>False
 |d+1,t,vs=>match P.underlying t with
  |some (.int k)=>∃n,vs=[.int k n 0]
  |some .bool=>∃b,vs=[.bool b]
  |some .string=>∃s:List UInt8,s.length<=reachBytes/\vs=[.str s.length (enc s)]
  |some (.slice e)=>∃v LS,vs=[v]/\RSl v LS.length/\(∀H,El G H v (P.cellsOf e) LS)/\LS.length<=maxLen/\∀L∈LS,L.length=P.cellsOf e/\U4 P G d e L
  |some (.struct fs)=>AFa (U4 P G d) (fs.toList.map (·.type)) vs
  |_=>False
theorem AGq{P:Program}{H:Type}{b:Nat}:∀{ts:List TypeId} {ds:List (DataW H)} {i:Nat} {t:TypeId} {d:DataW H},(DataW.weightsEach P ts ds).all (· <=b)=true->ts[i]? =some t->ds[i]? =some d->(d.weights P t).all (· <=b)=true
 |t::ts,d::ds,0,_,_,h,rfl,rfl=>by
  have h:(d.weights P t++DataW.weightsEach P ts ds).all (· <=b)=true:=by simpa only[DataW.weightsEach]using h
  rw[List.all_append,Bool.and_eq_true]at h;exact h.1
 |t::ts,d::ds,i+1,_,_,h,h1,h2=>by
  have h:(d.weights P t++DataW.weightsEach P ts ds).all (· <=b)=true:=by simpa only[DataW.weightsEach]using h
  rw[List.all_append,Bool.and_eq_true]at h
  exact AGq (i:=i) h.2 (by simpa using h1) (by simpa using h2)
 |[],_,i,_,_,_,h,_=>by cases i<;>cases h
 |_::_,[],i,_,_,_,_,h=>by cases i<;>cases h
theorem AJm{P:Program}{H:Type}{b:Nat}{e:TypeId}:∀{ds:List (DataW H)} {d:DataW H},(DataW.weightsAll P e ds).all (· <=b)=true->d∈ds->(d.weights P e).all (· <=b)=true
 |d::ds,x,h,hx=>by
  have h:(d.weights P e++DataW.weightsAll P e ds).all (· <=b)=true:=by simpa only[DataW.weightsAll]using h
  rw[List.all_append,Bool.and_eq_true]at h
  rcases List.mem_cons.1 hx with rfl|hx
  ·exact h.1
  ·exact AJm h.2 hx
theorem AB7{P:Program}{w:World}{H:Type}{enc':TypeId×Value->H}{held:Bool}{S:List TypeId}(hS:∀t∈S,ARR P S t=true):∀(fuel:Nat) {t:TypeId} {cs:List Value} {x:DataW H×List MemPlace},DataW.trod enc' P w 0 (λ_=>true) held fuel t cs=some x->t∈S->(x.1.weights P t).all (· <=reachBytes)=true->
 U4 P (NC w) fuel t (cs.map qh)/\(∀u∈cs,u.oneCell'=true)
 |0,_,_,_,h,_,_=>by simp[DataW.trod]at h
 |fuel+1,t,cs,x,h,ht,hw=>by
  have hs:=hS t ht
  unfold ARR at hs
  unfold U4
  split at hs
  ·rename_i k hu
   obtain⟨i,rfl,e,_⟩:=DataW.trod_int hu h
   try simp only[hu]
   exact⟨⟨i,rfl⟩,λu hu=>by simp at hu;subst hu;rfl⟩
  ·rename_i hu
   obtain⟨i,rfl,e⟩:=DataW.trod_bool hu h
   try simp only[hu]
   exact⟨⟨i,rfl⟩,λu hu=>by simp at hu;subst hu;rfl⟩
  ·rename_i hu
   obtain⟨s,rfl,e,hle⟩:=DataW.trod_string hu h
   rw[e]at hw
   simp only[DataW.weights,List.all_cons,List.all_nil,Bool.and_true,decide_eq_true_eq]at hw
   try simp only[hu]
   exact⟨⟨s.data.toList,hw,rfl⟩,λu hu=>by simp at hu;subst hu;rfl⟩
  ·rename_i e hu
   rw[Bool.and_eq_true,decide_eq_true_eq,decide_eq_true_eq]at hs
   obtain⟨hz,heS⟩:=hs
   try simp only[hu]
   rcases DataW.trod_slice hu h with⟨rfl,_⟩|⟨a,len,cap,elems,rest,n,hn,rfl,hxe,_,hle,hcap,hlen,hel,hsp,_⟩
   ·refine⟨⟨.Ad,[],?_,.inl ⟨rfl,rfl⟩,λH=>⟨rfl,rfl⟩,Nat.zero_le _,λL hL=>by cases hL⟩,λu hu=>by simp at hu;subst hu;rfl⟩
    simp[qh]
   ·have hn':fuel=n:=by omega
    subst hn'
    obtain⟨hrl,hrest⟩:=hsp rfl
    rw[hxe]at hw
    simp only[DataW.weights,hu,List.all_cons,List.all_append,Bool.and_eq_true]at hw
    refine⟨?_,λu hu=>by simp at hu;subst hu;rfl⟩
    have each:∀i,i<cap->∃cs',w.cells? 0 (a.add (i*P.cellsOf e)) (P.cellsOf e)=some cs'/\(i<len->U4 P (NC w) fuel e (cs'.map qh)/\∀u∈cs',u.oneCell'=true):=by
     intro i hi
     by_cases hil:i<len
     ·have h1:=hel i hil
      rw[List.getElem?_eq_getElem (by omega)]at h1
      cases hc:w.cells? 0 (a.add (i*P.cellsOf e)) (P.cellsOf e)with
      |none=>rw[hc]at h1;cases h1
      |some cs'=>
       rw[hc]at h1
       exact⟨cs',rfl,λ_=>AB7 hS fuel h1 heS (AJm hw.2.1 (List.mem_map_of_mem (List.getElem_mem (by omega))))⟩
     ·have h1:=hrest (i-len) (by omega)
      rw[List.getElem?_eq_getElem (by omega),show len+(i-len)=i by omega]at h1
      cases hc:w.cells? 0 (a.add (i*P.cellsOf e)) (P.cellsOf e)with
      |none=>rw[hc]at h1;cases h1
      |some cs'=>exact⟨cs',rfl,λh=>absurd h hil⟩
    have hspot:cap=0∨a.spot=none:=by
     rcases Nat.eq_zero_or_pos cap with h0|h0
     ·exact .inl h0
     ·obtain⟨cs',hc,_⟩:=each 0 h0
      obtain⟨hl,hg⟩:=ay hc
      have h0:=hg 0 _ (List.getElem?_eq_getElem (by omega))
      have:=cell_spot h0
      simp only[Nat.zero_mul]at this
      unfold Addr.add at this
      simp only[if_true]at this
      exact .inr this
    have htv:qh (.slice (some a) len cap)=.rsl a.block a.off len cap 0:=by
     simp only[qh];rw[if_pos ⟨hle,hspot⟩]
    let LS:DZ:=(List.range len).map λi=>((w.cells? 0 (a.add (i*P.cellsOf e)) (P.cellsOf e)).getD []).map qh
    have hLS:LS.length=len:=by simp[LS]
    have get:∀i L,LS[i]? =some L->i<len/\∃cs',w.cells? 0 (a.add (i*P.cellsOf e)) (P.cellsOf e)=some cs'/\L=cs'.map qh:=by
     intro i L hi
     have hlt:=(List.getElem?_eq_some_iff.1 hi).1
     rw[hLS]at hlt
     simp only[LS,List.getElem?_map,List.getElem?_range hlt,Option.map_some,Option.some.injEq]at hi
     obtain⟨cs',hc,_⟩:=each i (by omega)
     rw[hc]at hi
     exact⟨hlt,cs',hc,hi.symm⟩
    refine⟨.rsl a.block a.off len cap 0,LS,by simp[htv],.inr ⟨_,_,_,by rw[hLS],by omega,hcap⟩,λH=>?_,by omega,?_⟩
    ·rw[<-hLS]
     refine AKq λi L hi=>?_
     obtain⟨hlt,cs',hc,rfl⟩:=get i L hi
     obtain⟨hl,hg⟩:=ay hc
     have hsn:a.spot=none:=by rcases hspot with h|h;omega;exact h
     obtain⟨cs2,hc2,hf⟩:=each i (by omega)
     rw[hc]at hc2;cases hc2
     refine vX hl (hf hlt).2 λj u hj=>?_
     have:=hg j u hj
     rw[AML hsn,add_lit]at this
     exact this
    ·intro L hL
     obtain⟨i,hi⟩:=List.mem_iff_getElem?.1 hL
     obtain⟨hlt,cs',hc,rfl⟩:=get i L hi
     obtain⟨cs2,hc2,hf⟩:=each i (by omega)
     rw[hc]at hc2;cases hc2
     exact⟨by simp[(ay hc).1],(hf hlt).1⟩
  ·rename_i fs hu
   rw[Bool.and_eq_true]at hs
   obtain⟨hcon,hall⟩:=hs
   try simp only[hu]
   ·skip
    obtain⟨xs,n',hfe,e,hlen,hxl,hel⟩:=DataW.trod_struct hu h
    have hfe':fuel=n':=by omega
    subst hfe'
    have hflat:=Zd cs _ 0 (by rw[hlen];exact hcon)
    simp only[List.drop_zero,List.map_map]at hflat
    rw[e]at hw
    simp only[DataW.weights,hu]at hw
    have each:∀(f:Field),f∈fs.toList->U4 P (NC w) fuel f.type (((cs.drop f.offset).take (P.cellsOf f.type)).map qh)/\∀u∈(cs.drop f.offset).take (P.cellsOf f.type),u.oneCell'=true:=by
     intro f hf
     obtain⟨i,hi⟩:=List.mem_iff_getElem?.1 hf
     have h1:=hel i f (by simpa using hi)
     have hil:i<xs.length:=by rw[hxl];simpa using(List.getElem?_eq_some_iff.1 hi).1
     rw[List.getElem?_eq_getElem hil]at h1
     refine AB7 hS fuel h1 (of_decide_eq_true (List.all_eq_true.1 hall f hf)) (AGq (i:=i) hw (by rw[List.getElem?_map,hi];rfl) (by rw[List.getElem?_map,List.getElem?_eq_getElem hil];rfl))
    constructor
    ·have:=ANB (R:=U4 P (NC w) fuel) (g:=λf=>((cs.drop f.offset).take (P.cellsOf f.type)).map qh) fs.toList λf hf=>(each f hf).1
     have e2:cs.map qh=(fs.toList.map λf=>((cs.drop f.offset).take (P.cellsOf f.type)).map qh).flatten:=by
      conv=>lhs;rw[hflat]
      rw[List.map_flatten,List.map_map];rfl
     rw[e2];exact this
    ·intro u hu'
     rw[hflat]at hu'
     obtain⟨l,hl,hul⟩:=List.mem_flatten.1 hu'
     obtain⟨f,hf,rfl⟩:=List.mem_map.1 hl
     exact(each f hf).2 u hul
  ·cases hs
end Go.DW
