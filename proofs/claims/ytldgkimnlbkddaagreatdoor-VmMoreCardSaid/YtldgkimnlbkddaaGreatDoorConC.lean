/- Part of a proof; nothing is assumed. -/
import Derived.Test.YtldgkimnlbkddaaGreatDoorConB
import Derived.Test.YtldgkimnlbkddaaGreatDoorEngE
set_option linter.unusedVariables false
set_option linter.unusedSimpArgs false
namespace Go.RL
open Go.Bf
set_option maxRecDepth 100000
theorem ASL(q:IntKind)(a b:Nat):B2.ev .geq (.int q (.ofNat a) 0) (.int q (.ofNat b) 0)=some (.bool (decide (b<=a))):=by
 show BI (band (keq q q) true) (mkB (ile (.ofNat b) (.ofNat a)))=_
 rw[TR,AD8,show band (keq q q) true=true by simp[OJ],show decide (Int.ofNat b<=Int.ofNat a)=decide (b<=a)by rw[decide_eq_decide];show(b:Int)<=a↔_;omega];rfl
theorem ALA(q:IntKind)(a b:Nat):B2.ev .gtr (.int q (.ofNat a) 0) (.int q (.ofNat b) 0)=some (.bool (decide (b<a))):=by
 show BI (band (keq q q) true) (mkB (ilt (.ofNat b) (.ofNat a)))=_
 rw[TR,ZX,show band (keq q q) true=true by simp[OJ],show decide (Int.ofNat b<Int.ofNat a)=decide (b<a)by rw[decide_eq_decide];show(b:Int)<a↔_;omega];rfl
theorem AHQ(q:IntKind)(x y:Int):CU (.one .int) false (.int q x 0) (.int q y 0)=some (.bool (decide (x=y))):=by
 have e:CU (.one .int) false (.int q x 0) (.int q y 0)=ofB (Ld (some (ieq x y)) λb=>some b):=by cases q<;>rfl
 rw[e,U4,show(x==y)=decide (x=y)by rw[Bool.eq_iff_iff];simp];cases decide (x=y)<;>rfl
theorem APP(q:IntKind)(x y:Int):CU (.one .int) true (.int q x 0) (.int q y 0)=some (.bool (!decide (x=y))):=by
 have e:CU (.one .int) true (.int q x 0) (.int q y 0)=ofB (Ld (some (ieq x y)) λb=>some (Qq b)):=by cases q<;>rfl
 rw[e,U4,show(x==y)=decide (x=y)by rw[Bool.eq_iff_iff];simp];cases decide (x=y)<;>rfl
theorem ER(q:IntKind)(x y:Nat):CU (.one .int) false (.int q (.ofNat x) 0) (.int q (.ofNat y) 0)=some (.bool (decide (x=y))):=by
 rw[AHQ];congr 2;rw[decide_eq_decide];show(x:Int)=y↔_;omega
theorem AAI(q:IntKind)(x y:Nat):CU (.one .int) true (.int q (.ofNat x) 0) (.int q (.ofNat y) 0)=some (.bool (!decide (x=y))):=by
 rw[APP];congr 3;rw[decide_eq_decide];show(x:Int)=y↔_;omega
theorem AKY{a b:Nat}(d:b<=a)(h:a<9223372036854775808):B2.ev .sub (.int .i64 (.ofNat a) 0) (.int .i64 (.ofNat b) 0)=some (.int .i64 (.ofNat (a-b)) 0):=by
 show some (V.int .i64 (Z7 .i64 (AHI (.ofNat a) (Int.neg (.ofNat b)))) 0)=_
 rw[UM,jv]
 have e:Int.ofNat a+Int.neg (Int.ofNat b)=Int.ofNat (a-b):=by show(a:Int)+ -(b:Int)=((a-b:Nat):Int);omega
 rw[e,YF (by show(-9223372036854775808:Int)<=((a-b:Nat):Int);omega) (by show((a-b:Nat):Int)<9223372036854775808;omega)]
theorem Tq(q:IntKind)(a b:Nat):B2.ev .lss (.int q (.ofNat a) 0) (.int q (.ofNat b) 0)=some (.bool (decide (a<b))):=by
 show BI (band (keq q q) true) (mkB (ilt (.ofNat a) (.ofNat b)))=_
 rw[TR,ZX,show band (keq q q) true=true by simp[OJ],show decide (Int.ofNat a<Int.ofNat b)=decide (a<b)by rw[decide_eq_decide];show(a:Int)<b↔_;omega];rfl
def AJD:Nat->List V->List (Nat×X)
 |_,[]=>[]
 |i,v::vs=>(i,.c v)::AJD (i+1) vs
theorem AKG{z m:Nat}:∀(vs:List V) (i:Nat),i+vs.length<=m->(∀v∈vs,Zp v=true/\(A8 v).length=z)->bJ (AJD i vs) E0 z m=true
 |[],_,_,_=>rfl
 |v::vs,i,h,d=>by
  show band (band (Zp v) (band (Nat.blt i m) (Nat.beq (len (A8 v)) z))) (bJ (AJD (i+1) vs) E0 z m)=true
  obtain⟨f,g⟩:=d v (List.mem_cons_self ..)
  rw[f,len_eq,g,show Nat.blt i m=true by rw[Nat.blt_eq];simp at h;omega,Cm,AKG vs (i+1) (by simp at h;omega) λw k=>d w (List.mem_cons_of_mem _ k)];rfl
theorem AM8:∀(vs:List V) (i:Nat) (t:T LV) (j:Nat),T.get (uU (AJD i vs) E0 t) j=if i<=j/\j<i+vs.length then(vs[j-i]?).map A8 else T.get t j
 |[],i,t,j=>by rw[if_neg (by simp)];rfl
 |v::vs,i,t,j=>by
  show T.get (uU (AJD (i+1) vs) E0 (T.set t i (A8 v))) j=_
  rw[AM8 vs (i+1)]
  by_cases d:i+1<=j/\j<i+1+vs.length
  ·rw[if_pos d,if_pos (by rw[List.length_cons];omega)]
   rw[show j-i=(j-(i+1))+1 by omega,List.getElem?_cons_succ]
  ·rw[if_neg d,T.Qx]
   by_cases f:i=j
   ·subst f;rw[if_pos (by simp)];simp
   ·rw[if_neg f,if_neg (by rw[List.length_cons];omega)]
theorem ARa{G:AY}{z m:Nat}{Z:LV}{vs:List V}{H:Heap}{n:Nat}{P:KV}(g:vs.length=m)(k:0<z)(p:∀v∈vs,Zp v=true/\(A8 v).length=z)
 (h:∀H',Kp H n H' (n+1)->(∃t,T.get H' n=some (.arr z m t))->El G H' (.sl n 0 m m z) z (vs.map A8)->P (.sl n 0 m m z) H' (n+1)):Bc (Ar z m Z (AJD 0 vs) E0) H n P:=by
 show Ji (bJ (AJD 0 vs) E0 z m) (DT n λn=>P (.sl n 0 m m z) (T.set H n (.arr z m (uU (AJD 0 vs) E0 (AGU Z m .e)))) (Nat.succ n))
 rw[AKG vs 0 (by omega) p,X5,BL]
 refine h _ ((Kp.refl H n).new _ (Nat.le_refl _) (by omega)) ⟨_,T.Ag ..⟩ ⟨rfl,?_⟩
 show(Bool.rec (motive:=λ_=>Option EL) none (CQ _ n z m 0) (Nat.beq z z):Option EL)=_
 rw[Cm]
 refine bW _ _ _ (by simp[g]) λi c f=>?_
 have d:i<m:=by have:=(List.getElem?_eq_some_iff.1 f).1;simp at this;omega
 rw[Nat.zero_add,bI (T.Ag ..) k d,AM8,if_pos ⟨by omega,by omega⟩,Nat.sub_zero]
 simpa using f
theorem AYz{G:AY}{H:Heap}{id o m z:Nat}{LS:EL}(h:CQ H id z m o=some LS):El G H (.F9 id o m z) z LS:=by
 refine⟨rfl,?_⟩
 show(Bool.rec (motive:=λ_=>Option EL) none (CQ H id z m o) (Nat.beq z z):Option EL)=some LS
 rw[Cm];exact h
theorem AZX{H:Heap}{id e c i:Nat}{t:T LV}{L new:LV}(d:T.get H id=some (.arr e c t))(f:0<e)(hi:i<c)(g:T.get t i=some L):stH H id (i*e) e new=some (T.set H id (.arr e c (T.set t i new))):=by
 unfold stH
 rw[d]
 show BO (stB e c t (i*e) e new) _=_
 unfold stB
 have hd:Nat.div (i*e) e=i:=Nat.mul_div_cancel i f
 have k:Nat.mod (i*e) e=0:=Nat.mul_mod_left i e
 rw[hd,show Nat.blt i c=true by rw[Nat.blt_eq];exact hi]
 show BO (BO (T.get t i) (stC new e c t (i*e) e)) _=_
 rw[g,Ud]
 unfold stC
 rw[hd,k,Cm]
 rfl
theorem APq{H:Heap}{id e c i n:Nat}{t:T LV}{L:LV}{v:V}{P:KV}(d:T.get H id=some (.arr e c t))(f:0<e)(hi:i<c)(g:T.get t i=some L)(k:Zp v=true)(m:(A8 v).length=e)
 (h:∀H',T.get H' id=some (.arr e c (T.set t i (A8 v)))->(∀j,j≠id->T.get H' j=T.get H j)->P .undef H' n):Bz e (.ptr id (i*e)) v H n P:=by
 unfold Bz
 rw[k,len_eq,m,Cm,show stP (.ptr id (i*e)) H e (A8 v)=stH H id (i*e) e (A8 v)from rfl,AZX d f hi g]
 exact h _ (T.Ag ..) λj p=>T.Ac _ _ (Ne.symm p)
theorem AMV{id o m c z i:Nat}{q:IntKind}(h:i<m):Ai z (.sl id o m c z) (.int q (.ofNat i) 0)=some (.ptr id ((o+i)*z)):=by
 show BI (band (Nat.beq z z) (Nat.blt i m)) (Dx (Nat.mul (Nat.add o i) z) λo=>some (.ptr id o))=_
 rw[Cm,show Nat.blt i m=true by rw[Nat.blt_eq];exact h,Bv];rfl
theorem AYn{id o m z i:Nat}{q:IntKind}(h:i<m):Ai z (.F9 id o m z) (.int q (.ofNat i) 0)=some (.ptr id ((o+i)*z)):=by
 show BI (band (Nat.beq z z) (Nat.blt i m)) (Dx (Nat.mul (Nat.add o i) z) λo=>some (.ptr id o))=_
 rw[Cm,show Nat.blt i m=true by rw[Nat.blt_eq];exact h,Bv];rfl
theorem AJG{G:AY}{H:Heap}{m n z p:Nat}{v w:V}{LS d:EL}{k:KV}(h:Gr G H m z v LS)(A:m<=n)(M:∀id,v.XZ=some id->id<n)(F:elems w G H z=some d)
 (B:(LS.length+d.length)*p<=140737488355328)
 (C:∀x H',Gr G H' m z x (LS++d)->(∀id,id<n->v.XZ≠some id->T.get H' id=T.get H id)->(∀id,x.XZ=some id->id=n)->k x H' (n+1))
 (q:d=[]->k v H n):WV z p v w G H n k:=by
 unfold WV
 rw[F,V8]
 cases h with
 |nil=>
  cases d with
  |nil=>exact q rfl
  |cons a d=>
   show KH z p [] (a::d) H n k
   unfold KH
   rw[BL,BL,len_eq,len_eq,show Rk (Nat.add ([]:EL).length (a::d).length) p=true from bY B,X5]
   have e:Nat.add ([]:EL).length (a::d).length=(a::d).length:=Nat.zero_add _
   rw[e]
   refine C _ _ ?_ (λid g _=>T.Ac _ _ (by omega)) (λid g=>by cases g;rfl)
   refine .F9 (LS:=a::d) (T.Ag ..) (Nat.le_refl _) (λi L f=>?_) A
   show T.get (Et (a::d) 0 .e) i=some L
   have u:=(List.getElem?_eq_some_iff.1 f).1
   rw[Ef,if_pos ⟨Nat.zero_le _,by omega⟩];exact f
 |F9 I J K g=>
  rename_i id c t
  show Ji (Nat.beq z z) _
  rw[Cm,X5]
  cases d with
  |nil=>exact q rfl
  |cons a d=>
   show Gu (T.get H id) (λb=>jw id 0 LS.length z p (a::d) H n k b)
   rw[I,V8]
   rw[APu (bY B) J,show LS.length+(a::d).length=(LS++a::d).length by rw[List.length_append]]
   refine C _ _ ?_ (λj D y=>?_) (λj D=>by cases D;rfl)
   ·refine .F9 (LS:=LS++a::d) (T.Ag ..) (Nat.le_refl _) (λi L f=>?_) A
    rw[Ef]
    by_cases u:i<LS.length
    ·rw[if_neg (by omega)]
     rw[List.getElem?_append_left u]at f
     exact K i L f
    ·rw[List.getElem?_append_right (by omega)]at f
     have E:=(List.getElem?_eq_some_iff.1 f).1
     rw[if_pos ⟨by omega,by omega⟩];exact f
   ·rw[T.Ac _ _ (by omega),T.Ac _ _ (by intro e;subst e;exact y rfl)]
theorem ANt{e:Option V}{v:V}{P:V->Prop}(h:e=some v)(hp:P v):AL e P:=by rw[h];exact hp
theorem AKE{v:V}{P:Prop}(h:Es v v=true)(hp:P):Ji (Es v v) P:=by rw[h];exact hp
theorem AVV{e:Option V}{a:V}{P:Prop}(h:e=some a)(d:Es a a=true)(hp:P):ACX (.bool true) true e a P:=by
 subst h
 show Ji (Es a a) P
 rw[d];exact hp
theorem Aee{e:Option V}{a:V}{P:Prop}(h:e=some a)(d:Es a a=true)(hp:P):ACX (.bool false) false e a P:=by
 subst h
 show Ji (Es a a) P
 rw[d];exact hp
theorem iQ{e:Option V}{a:V}{P:V->Prop}(h:e=some a)(hp:P a):Ak (.bool true) true e P:=by rw[AbL];exact ANt h hp
theorem Ya{e:Option V}{a:V}{P:V->Prop}(h:e=some a)(hp:P a):Ak (.bool false) false e P:=by rw[Abj];exact ANt h hp
theorem AYP{t:KV->Prop}{H:Heap}{n:Nat}{Q:KV}(hp:t Q):DY (.bool true) true t H n Q:=hp
theorem Ae1{t:KV->Prop}{H:Heap}{n:Nat}{Q:KV}(hp:t Q):DY (.bool false) false t H n Q:=hp
theorem Rn{H:Heap}{n m b:Nat}{d L:LV}{P:KV}(g:T.get H b=some (one d))(f:d.length=m)(i:L.length=m)(k:0<m)(h:∀H',T.get H' b=some (one L)->(∀j,j≠b->T.get H' j=T.get H j)->P .undef H' n):
 Bz m (.ptr b 0) (.agg L) H n P:=by
 rw[FU g k f i];exact h _ (T.Ag ..) λj p=>T.Ac _ _ (Ne.symm p)
theorem AXj(a b c d e:Nat):Es (.sl a b c d e) (.sl a b c d e)=true:=by
 show Rj (.sl a b c d e) (.sl a b c d e)=true
 simp[Rj,AZa,BK]
theorem Afi(a b c d:Nat):Es (.F9 a b c d) (.F9 a b c d)=true:=by
 show Rj (.F9 a b c d) (.F9 a b c d)=true
 simp[Rj,AUB,BK]
theorem AJK{G:AY}{H:Heap}{n id z g:Nat}{t:T LV}{w:V}{a:LV}{d:EL}{k:KV}(C:0<z)(v:elems w G H z=some (a::d))(x:(a::d).length*g<=140737488355328)
 (y:∀q H',Gr G H' 0 z q (a::d)->(∀j,j<n->T.get H' j=T.get H j)->(∀i,q.XZ=some i->i=n)->k q H' (n+1)):WV z g (.sl id 0 0 0 z) w G H n k:=by
 unfold WV
 rw[v,V8]
 have A:APB (.sl id 0 0 0 z) G z g (a::d) H n k=Bool.rec (motive:=λ_=>Prop) (Gu (CQ H id z 0 0) λm=>KH z g m (a::d) H n k) (Gu (T.get H id) λb=>ACp id 0 0 0 z (0+(a::d).length) (a::d) H n k b) (Nat.ble (0+(a::d).length) 0):=by
  show Ji (Nat.beq z z) (DT (Nat.add 0 (len (a::d))) λf=>Bool.rec (motive:=λ_=>Prop) (Gu (CQ H id z 0 0) λm=>KH z g m (a::d) H n k) (Gu (T.get H id) λb=>ACp id 0 0 0 z f (a::d) H n k b) (Nat.ble f 0))=_
  rw[Cm,X5,BL,len_eq];rfl
 rw[A,show Nat.ble (0+(a::d).length) 0=false by rw[Bool.eq_false_iff];intro u;rw[Nat.ble_eq]at u;simp at u]
 show Gu (some []) (λm=>KH z g m (a::d) H n k)
 rw[V8]
 unfold KH
 rw[BL,BL,len_eq,len_eq,show Rk (Nat.add ([]:EL).length (a::d).length) g=true from bY (by rw[show Nat.add ([]:EL).length (a::d).length=(a::d).length from Nat.zero_add _];exact x),X5]
 have e:Nat.add ([]:EL).length (a::d).length=(a::d).length:=Nat.zero_add _
 rw[e]
 refine y _ _ ?_ (λj D=>T.Ac _ _ (by omega)) (λi p=>by cases p;rfl)
 refine .F9 (LS:=a::d) (T.Ag ..) (Nat.le_refl _) (λi L p=>?_) (Nat.zero_le _)
 show T.get (Et (a::d) 0 .e) i=some L
 have B:=(List.getElem?_eq_some_iff.1 p).1
 rw[Ef,if_pos ⟨Nat.zero_le _,by omega⟩];exact p
inductive Sk(H:Heap)(z:Nat)(A:Nat->Prop):V->EL->Prop where
 |nil:Sk H z A .Ad []
 |emp {id:Nat} {t:T LV} (hg:T.get H id=some (.arr z 0 t)) (ha:A id):Sk H z A (.sl id 0 0 0 z) []
 |F9 {id c:Nat} {t:T LV} {LS:EL} (hg:T.get H id=some (.arr z c t)) (hc:LS.length<=c) (ht:∀i L,LS[i]? =some L->T.get t i=some L) (ha:A id):Sk H z A (.F9 id 0 LS.length z) LS
section
variable{G:AY}{H H':Heap}{z n:Nat}{A B:Nat->Prop}{v:V}{LS:EL}
theorem Sk.own(h:Sk H z A v LS){id:Nat}(d:v.XZ=some id):A id:=by cases h<;>cases d<;>assumption
theorem Sk.mono(h:Sk H z A v LS)(g:∀id,A id->B id)(hs:∀id,A id->T.get H' id=T.get H id):Sk H' z B v LS:=by
 cases h with
 |nil=>exact .nil
 |emp f d=>exact .emp ((hs _ d).trans f) (g _ d)
 |F9 f i k d=>exact .F9 ((hs _ d).trans f) i k (g _ d)
theorem Sk.AHu(h:Sk H z A v LS)(f:∀id,v.XZ=some id->B id)(hs:∀id,v.XZ=some id->T.get H' id=T.get H id):Sk H' z B v LS:=by
 cases h with
 |nil=>exact .nil
 |emp d g=>exact .emp ((hs _ rfl).trans d) (f _ rfl)
 |F9 d i k g=>exact .F9 ((hs _ rfl).trans d) i k (f _ rfl)
theorem Sk.el(h:Sk H z A v LS)(g:0<z):El G H v z LS:=by
 cases h with
 |nil=>exact⟨rfl,rfl⟩
 |emp d k=>
  refine⟨rfl,?_⟩
  show(Bool.rec (motive:=λ_=>Option EL) none (CQ H _ z 0 0) (Nat.beq z z):Option EL)=some []
  rw[Cm];rfl
 |F9 d q m k=>exact AYz (bW _ _ _ rfl λi c f=>by
  have p:=(List.getElem?_eq_some_iff.1 f).1
  rw[Nat.zero_add,bI d g (by omega)];exact m i c f)
theorem Sk.ok(h:Sk H z A v LS):Zp v=true/\A8 v=[v]/\Es v v=true:=by
 cases h with
 |nil=>exact⟨rfl,rfl,rfl⟩
 |emp=>exact⟨rfl,rfl,AXj ..⟩
 |F9=>exact⟨rfl,rfl,Afi ..⟩
theorem Sk.put{i:Nat}{q:IntKind}{w:V}{P:KV}(h:Sk H z A v LS)(m:0<z)(hi:i<LS.length)(u:Zp w=true)(x:(A8 w).length=z)
 (y:∀H',Sk H' z A v (LS.set i (A8 w))->(∀j,v.XZ≠some j->T.get H' j=T.get H j)->P .undef H' n):AL (Ai z v (.int q (.ofNat i) 0)) λp=>Bz z p w H n P:=by
 cases h with
 |nil=>simp at hi
 |emp=>simp at hi
 |F9 B C f D=>
  rename_i E c t
  refine ANt (AYn hi) ?_
  rw[Nat.zero_add]
  refine APq B m (by omega) (f i _ (List.getElem?_eq_getElem hi)) u x λH' g s=>?_
  refine y H' ?_ λj d=>s j λe=>d (by rw[e];rfl)
  have k:(LS.set i (A8 w)).length=LS.length:=by simp
  rw[<-k]
  refine .F9 g (by rw[k];exact C) (λj L d=>?_) D
  by_cases e:i=j
  ·subst e
   rw[List.getElem?_set_self hi]at d
   rw[T.Ag];exact d
  ·rw[List.getElem?_set_ne e]at d
   rw[T.Ac _ _ e];exact f j L d
theorem Sk.app{K m:Nat}{c:V}{P:KV}{Z:LV}(h:Sk H z A v LS)(L:∀id,v.XZ=some id->id<n)(M:0<z)(C:Zp c=true)(D:(A8 c).length=z)(E:(LS.length+1)*K<=140737488355328)
 (F:∀v' H',(∀B:Nat->Prop,B (n+1)->Sk H' z B v' (LS++[A8 c]))->(∀id,id<n->v.XZ≠some id->T.get H' id=T.get H id)->v'.XZ=some (n+1)->P v' H' (n+2)):
 Bc (Ar z 1 Z [(0,.c c)] E0) H n λw H n=>WV z K v w G H n P:=by
 refine ARa (G:=G) (vs:=[c]) rfl M (λv N=>by simp at N;subst N;exact⟨C,D⟩) λO u _ k=>?_
 have fin:∀{v':V} {i:Heap},Gr G i 0 z v' (LS++[A8 c])->(∀id,v'.XZ=some id->id=n+1)->v'.XZ=some (n+1)/\∀B:Nat->Prop,B (n+1)->Sk i z B v' (LS++[A8 c]):=by
  intro v' i f g
  generalize hX:LS++[A8 c]=X at f
  cases f with
  |nil=>simp at hX
  |F9 x D I p=>
   have e:=g _ rfl
   subst e
   exact⟨rfl,λB Q=>.F9 x D I Q⟩
 cases h with
 |nil=>
  refine AJG (m:=0) .nil (by omega) (λ_ h=>by cases h) k.2 E ?_ (λh=>by cases h)
  intro v' i f d g
  obtain⟨q1,q2⟩:=fin (v':=v') f g
  exact F v' i q2 (λid q y=>(d id (by omega) y).trans (u.same id q)) q1
 |emp x R=>
  rename_i id t
  have p:=L id rfl
  refine AJK (t:=t) M k.2 (by simpa using E) ?_
  intro v' i f d g
  obtain⟨q1,q2⟩:=fin (v':=v') f g
  exact F v' i q2 (λid q y=>(d id (by omega)).trans (u.same id q)) q1
 |F9 x J I R=>
  rename_i id S t
  have p:=L id rfl
  have f:Gr G O 0 z (.F9 id 0 LS.length z) LS:=.F9 ((u.same id p).trans x) J I (Nat.zero_le _)
  refine AJG (m:=0) f (by omega) (λj h=>by cases h;omega) k.2 E ?_ (λh=>by cases h)
  intro v' i f d g
  obtain⟨q1,q2⟩:=fin (v':=v') f g
  exact F v' i q2 (λid q y=>(d id (by omega) y).trans (u.same id q)) q1
theorem Sk.pop{i:Nat}{q:IntKind}(h:Sk H z A v LS)(hi:i<LS.length):∃v',wB z v E0 none (some (.c (.int q (.ofNat i) 0))) none=some v'/\v'.XZ=v.XZ/\Sk H z A v' (LS.take i):=by
 cases h with
 |nil=>simp at hi
 |emp=>simp at hi
 |F9 m w p u=>
  rename_i g c t
  have k:(LS.take i).length=i:=by rw[List.length_take];omega
  refine⟨.F9 g 0 i z,?_,rfl,?_⟩
  ·show BI (Nat.beq z z) (BI (band (Nat.ble 0 i) (Nat.ble i LS.length)) (f3 0 (i-0) 0 λo d _=>.F9 g o d z))=_
   rw[Cm,show Nat.ble 0 i=true by rw[Nat.ble_eq];omega,show Nat.ble i LS.length=true by rw[Nat.ble_eq];omega]
   show Dx 0 (λa=>Dx (i-0) λb=>Dx 0 λ_=>some (.F9 g a b z))=_
   rw[Bv,Bv,Bv,Nat.sub_zero]
  ·have:=Sk.F9 (z:=z) (LS:=LS.take i) m (by rw[k];omega) (λj L f=>p j L (by rw[List.getElem?_take]at f;split at f;exact f;cases f)) u
   rw[k]at this;exact this
end
theorem bU{G:AY}{H:Heap}{n:Nat}{k:KV}(d:∀H' n',Kp H n H' n'->k CZ.v H' n'):Runs F G IX [] H n k:=by
 refine go0 (AKz BF G) ?_
 delta ACk
 simp only[go_sem,Nat.reduceAdd,show BH [.str 0 0,.bool false] [(0,1,.c (.str 4 1819047278))]=some (.agg [.str 4 1819047278,.bool false])from rfl]
 exact d _ _ (((Kp.refl H n).new (m:=n+1) _ (Nat.le_refl _) (by omega)).new _ (Nat.le_refl _) (Nat.le_refl _))
theorem AF4{G:AY}{H:Heap}{n:Nat}{k:KV}(d:∀H' n',Kp H n H' n'->k C9.v H' n'):Runs F G PX [] H n k:=by
 refine go0 (ASF BF G) ?_
 delta AMf
 simp only[go_sem,Nat.reduceAdd,show BH [.str 0 0,.bool false] [(0,1,.c (.str 3 7630441))]=some (.agg [.str 3 7630441,.bool false])from rfl]
 exact d _ _ (((Kp.refl H n).new (m:=n+1) _ (Nat.le_refl _) (by omega)).new _ (Nat.le_refl _) (Nat.le_refl _))
theorem ASo{G:AY}{H:Heap}{n:Nat}{k:KV}(d:∀H' n',Kp H n H' n'->k Ew.v H' n'):Runs F G AC9 [] H n k:=by
 refine go0 (ARB BF G) ?_
 delta AJ4
 simp only[go_sem,Nat.reduceAdd,show BH [.str 0 0,.bool false] [(0,1,.c (.str 4 1819242338))]=some (.agg [.str 4 1819242338,.bool false])from rfl]
 exact d _ _ (((Kp.refl H n).new (m:=n+1) _ (Nat.le_refl _) (by omega)).new _ (Nat.le_refl _) (Nat.le_refl _))
theorem BD{G:AY}{H:Heap}{i:Nat}{t:Ty}(h:T.get H i=some (one t.cells)):Aj 2 (.ptr i 0) G H=some t.v:=CG h (by omega) rfl
theorem AYs{G:AY}{t:Ty}{H:Heap}{n:Nat}{k:KV}(g:∀H' n',Kp H n H' n'->k (Xr t).v H' n'):Runs F G Zg [t.v] H n k:=by
 refine go1 (AG6 BF G) ?_
 delta vM
 refine FT λu i p=>?_
 refine Di rfl λw f q=>?_
 have d:=f.get p (by omega)
 simp only[go_sem,Nat.reduceAdd,AU (off:=0) d (v:=t.nm.v) rfl,show BH [.str 0 0,.bool false] [(0,1,.c t.nm.v)]=some (.agg (Xr t).cells)from rfl]
 rw[FU (m:=2) q (by omega) rfl rfl,EN (m:=2) (T.Ag ..) (by omega) rfl]
 exact g _ _ ((i.trans f).new _ (by omega) (Nat.le_refl _))
theorem AMU{G:AY}{t:Ty}(d:t.nm.ok){H:Heap}{n:Nat}{k:KV}(f:∀H' n',Kp H n H' n'->k (.bool t.cls) H' n'):Runs F G CX [t.v] H n k:=AA6 d f
theorem LH(t:Ty):Es t.v t.v=true:=by
 show band (band (Nat.beq t.nm.1 t.nm.1) (Nat.beq t.nm.2 t.nm.2)) (band (AK5 (.bool t.arr) t.arr) true)=true
 obtain⟨⟨l,c⟩,r⟩:=t
 cases r<;>simp[AK5,BK]<;>rfl
theorem AaA:CZ.nm.ok:=by intro h;cases h
theorem oL{G:AY}{t:Ty}(w:t.nm.ok){H:Heap}{n:Nat}{k:KV}(d:∀H' n',Kp H n H' n'->k (.bool t.obj) H' n'):Runs F G FD [t.v] H n k:=by
 refine go1 (ADv BF G) ?_
 delta jP
 refine FT λA i f=>?_
 unfold Ty.obj at d
 simp only[go_sem,Nat.reduceAdd,AU (off:=1) f (v:=.bool t.arr) rfl]
 cases m:t.arr with
 |true=>
  rw[m]at d
  simp only[go_sem]
  exact d _ _ i
 |false=>
  rw[m]at d
  simp only[go_sem,BD f]
  refine AMU w λB C g=>?_
  have f3:=i.trans g
  have p:=g.get f (by omega)
  cases q:t.cls with
  |true=>
   rw[q]at d
   simp only[go_sem]
   exact d _ _ f3
  |false=>
   rw[q]at d
   simp only[go_sem,BD p]
   refine bU λD E u=>?_
   have x:=f3.trans u
   have y:=u.get p (by have:=g.le;omega)
   refine Aee (BD y) (LH t) ?_
   simp only[go_sem,vH]
   exact d _ _ x
theorem ANz{G:AY}{H:Heap}{n n0 t a b:Nat}{fs:Tab}(h:TabAt G H n0 t a b fs)(i:n0<=n)(d:fs.length<=1000){x y:St}{k:KV}
 (m:∀H' n',Kb b H n H' n'->k (.bool (Dk fs x y)) H' n'):Runs F G O3 [.ptr t 0,x.v,y.v] H n k:=by
 refine go3 (ACU BF G) ?_
 delta iI
 have h:=h.kb (f:=⟨i,λ_ _ _=>rfl,λh=>h⟩)
 refine tu h d λu w v p q g=>?_
 simp only[go_sem]
 refine AEd (q.el (by omega)) (by omega) ?_
 exact m _ _ p
theorem AYv{G:AY}{H:Heap}{n n0 t a b:Nat}{fs:Tab}(h:TabAt G H n0 t a b fs)(O:n0<=n)(u:fs.length<=1000){x y:St}{k:KV}
 (d:∀H' n',Kb b H n H' n'->k (Ir fs x y).v H' n'):Runs F G Zq [.ptr t 0,x.v,y.v] H n k:=by
 refine go3 (AAn BF G) ?_
 delta aI
 have h:=h.kb (f:=⟨O,λ_ _ _=>rfl,λh=>h⟩)
 have B:=h.bn
 unfold Ir at d
 refine tu h u λP Q v E g w=>?_
 generalize(above fs x).1=cs at g d w
 simp only[go_sem,(g.el (by omega)).len,JH]
 have R:=E.le
 refine BN (N:=cs.length) (J:=λi st=>∃H' n',st=(.ptr t 0,y.v,v,.int .i64 (.ofNat cs.length) 0,.int .i64 (.ofNat i) 0,H',n')/\Kb b H n H' n'/\Own G H' n n' 1 v (strs cs)/\
  (∀H' n',Kb b H n H' n'->k (I4 fs y (cs.drop i)).v H' n')) ?_ ?_ ⟨P,Q,rfl,E,g,d⟩
 ·rintro I i st p ⟨C,D,rfl,f3,g,d⟩ S
  show Gj lfp G (Runs F G) k I (.ptr t 0) y.v v (.int .i64 (.ofNat cs.length) 0) (.int .i64 (.ofNat i) 0) C D
  delta Gj
  obtain⟨q,T,A⟩:=(g.el (by omega)).at (Sz p)
  rw[List.drop_eq_getElem_cons p]at d
  unfold I4 at d
  generalize cs[i]=m at A d
  simp only[go_sem,BR,p,decide_true,T,Jv A]
  refine ANz (h.kb f3) (Nat.le_refl _) u λU V K=>?_
  have L:=f3.trans K
  cases M:Dk fs y m with
  |true=>
   rw[M]at d
   simp only[go_sem]
   exact d _ _ L
  |false=>
   rw[M]at d
   simp only[go_sem,DI (show i+1<9223372036854775808 by omega)]
   exact S _ ⟨_,_,rfl,L,g.kb K B,d⟩
 ·rintro I st ⟨C,D,rfl,f3,g,d⟩
  show Gj lfp G (Runs F G) k I (.ptr t 0) y.v v (.int .i64 (.ofNat cs.length) 0) (.int .i64 (.ofNat cs.length) 0) C D
  delta Gj
  rw[List.drop_eq_nil_of_le (Nat.le_refl _)]at d
  simp only[go_sem,BR,Nat.lt_irrefl,decide_false]
  delta OH
  exact d _ _ f3
theorem AHB:BH [.str 0 0,.bool false] []=some BU.v:=rfl
theorem AWS{G:AY}{y:Ty}{c:Bool}{p:V}{H:Heap}{n:Nat}{P:V->Heap->Nat->Prop}(g:y.nm.ok)(d:Aj 2 p G H=some y.v)(h:∀H' n',Kp H n H' n'->P (.bool (c&&y.obj)) H' n'):
 Ak (.bool c) true (Aj 2 p G H) λv=>DY (.bool c) true (Runs F G FD [v] H n) H n λw H n=>AL (Aw (.bool c) w (.bool false)) λu=>P u H n:=by
 cases c with
 |false=>simp only[go_sem];exact h _ _ (Kp.refl _ _)
 |true=>
  simp only[go_sem,d]
  exact oL g λH' n' f=>h _ _ f
theorem AdA{G:AY}{y:Ty}{c:Bool}{p:V}{H:Heap}{n:Nat}{P:V->Heap->Nat->Prop}(g:y.nm.ok)(d:Aj 2 p G H=some y.v)(h:∀H' n',Kp H n H' n'->P (.bool (c&&y.cls)) H' n'):
 Ak (.bool c) true (Aj 2 p G H) λv=>DY (.bool c) true (Runs F G CX [v] H n) H n λw H n=>AL (Aw (.bool c) w (.bool false)) λu=>P u H n:=by
 cases c with
 |false=>simp only[go_sem];exact h _ _ (Kp.refl _ _)
 |true=>
  simp only[go_sem,d]
  exact AMU g λH' n' f=>h _ _ f
theorem AcD{G:AY}{H:Heap}{n n0 t a b:Nat}{fs:Tab}(h:TabAt G H n0 t a b fs)(N:n0<=n)(u:fs.length<=1000){x y:Ty}(O:x.nm.ok)(C:y.nm.ok){k:KV}
 (d:∀H' n',Kb b H n H' n'->k (.bool (fitsT fs x y)) H' n'):Runs F G kH [.ptr t 0,x.v,y.v] H n k:=by
 refine go3 (AEx BF G) ?_
 delta kD
 have h:=h.kb (f:=⟨N,λ_ _ _=>rfl,λh=>h⟩)
 have w:=h.bn
 unfold fitsT at d
 refine FT λX P g=>?_
 refine FT λY D i=>?_
 have f3:=(P.trans D).kb (b:=b) w
 have g:=D.get g (by omega)
 simp only[go_sem,BD g,BD i,vH]
 cases E:x.is y with
 |true=>
  rw[E]at d
  simp only[go_sem]
  exact d _ _ f3
 |false=>
  rw[E]at d
  simp only[go_sem,BD g]
  refine bU λZ n4 p=>?_
  have I:=f3.trans (p.kb (by omega))
  have g:=p.get g (by omega)
  have i:=p.get i (by omega)
  have Q:=p.le
  rw[BD g,AP,LH,X5]
  simp only[go_sem,vH]
  cases J:x.is CZ with
  |true=>
   rw[J]at d
   simp only[go_sem,BD i]
   refine oL C λR S m=>?_
   exact d _ _ (I.trans (m.kb (by omega)))
  |false=>
   rw[J]at d
   simp only[go_sem,BD g]
   refine AMU O λR S m=>?_
   have K:=I.trans (m.kb (by omega))
   have g:=m.get g (by omega)
   have i:=m.get i (by omega)
   have T:=m.le
   cases L:x.cls with
   |false=>
    rw[L]at d
    simp only[go_sem]
    exact d _ _ K
   |true=>
    rw[L]at d
    simp only[go_sem,BD i]
    refine AMU C λH8 n8 q=>?_
    have A:=K.trans (q.kb (by omega))
    have g:=q.get g (by omega)
    have i:=q.get i (by omega)
    have U:=q.le
    cases M:y.cls with
    |false=>
     rw[M]at d
     simp only[go_sem]
     exact d _ _ A
    |true=>
     rw[M]at d
     simp only[go_sem,Nat.reduceAdd,AU (off:=0) g (v:=x.nm.v) rfl,AU (off:=0) i (v:=y.nm.v) rfl]
     refine ANz (h.kb A) (Nat.le_refl _) u λV W B=>?_
     exact d _ _ (A.trans B)
theorem AXG{G:AY}{H:Heap}{n n0 i t a b fm:Nat}{vn:V}{fs:Tab}(h:NQ G H n0 i t a b fm vn fs)(M:n0<=n)(N:fs.length<=1000){x y:Ty}(P:x.nm.ok)(Q:y.nm.ok){k:KV}
 (p:∀H' n',Kb b H n H' n'->k (.Dl [(Ed fs x y).1.v,.bool (Ed fs x y).2]) H' n'):Runs F G lF [.ptr i 0,x.v,y.v] H n k:=by
 refine go3 (AJz BF G) ?_
 delta ACr
 have h:=h.kb (f:=⟨M,λ_ _ _=>rfl,λh=>h⟩)
 have D:=h.tab.bn
 unfold Ed at p
 refine FT λH1 f1 d=>?_
 refine FT λH2 R q=>?_
 refine Di rfl λH3 f3 u=>?_
 have f:=((f1.trans R).trans f3).kb (b:=b) D
 have d:=(R.trans f3).get d (by omega)
 have q:=f3.get q (by omega)
 have w:∀(H':Heap) (n':Nat) (L:LV) (r:Ty) (ok:Bool),Kb b H n H' n'->n+2<n'->T.get H' (n+2)=some (one L)->L.length=2->(∀H' n',Kb b H n H' n'->k (.Dl [r.v,.bool ok]) H' n')->
  Bz 2 (.ptr (n+2) 0) r.v H' n' λ_ H n1=>Gu (ED [.cn (.ptr (n+2) 0) 2,.t (.bool ok)] G H) λl=>k (JF l) H n1:=by
  intro H' n' L r ok f M g hL p
  show Bz 2 (.ptr (n+2) 0) (.agg r.cells) H' n' _
  rw[FU (m:=2) g (by omega) hL rfl,EN (m:=2) (T.Ag ..) (by omega) rfl]
  exact p _ _ (f.trans' (m:=n') (λid d0=>T.Ac _ _ (by omega)) (Nat.le_refl _) D)
 simp only[go_sem,BD d,BD q,vH]
 cases S:x.is y with
 |true=>
  rw[S]at p
  simp only[go_sem,BD d]
  exact w _ _ _ _ _ f (by omega) u rfl p
 |false=>
  rw[S]at p
  simp only[go_sem,BD d]
  refine bU λH4 n4 E=>?_
  have f:=f.trans (E.kb (by omega))
  have d:=E.get d (by omega)
  have q:=E.get q (by omega)
  have u:=E.get u (by omega)
  have d1:=E.le
  rw[BD d,AP,LH,X5]
  simp only[go_sem,vH]
  have C:∀(H':Heap) (n':Nat),Kb b H n H' n'->n+2<n'->T.get H' (n+2)=some (one [.str 0 0,.bool false])->(∀H' n',Kb b H n H' n'->k (.Dl [BU.v,.bool false]) H' n')->NT lfp G (Runs F G) k (.ptr (n+2) 0) H' n':=by
   intro H' n' f M g p
   delta NT
   rw[AHB,AP]
   exact w _ _ _ BU _ f M g rfl p
  refine AWS Q (BD q) λH5 n5 I=>?_
  have f:=f.trans (I.kb (by omega))
  have d:=I.get d (by omega)
  have q:=I.get q (by omega)
  have u:=I.get u (by omega)
  have d2:=I.le
  cases U:x.is CZ&&y.obj with
  |true=>
   rw[U]at p
   simp only[go_sem,BD q]
   exact w _ _ _ _ _ f (by omega) u rfl p
  |false=>
  rw[U]at p
  simp only[go_sem,BD q]
  refine bU λH6 n6 J=>?_
  have f:=f.trans (J.kb (by omega))
  have d:=J.get d (by omega)
  have q:=J.get q (by omega)
  have u:=J.get u (by omega)
  have d3:=J.le
  rw[BD q,AP,LH,X5]
  simp only[go_sem,vH]
  refine AWS P (BD d) λH7 n7 A=>?_
  have f:=f.trans (A.kb (by omega))
  have d:=A.get d (by omega)
  have q:=A.get q (by omega)
  have u:=A.get u (by omega)
  have O:=A.le
  cases W:y.is CZ&&x.obj with
  |true=>
   rw[W]at p
   simp only[go_sem,BD d]
   exact w _ _ _ _ _ f (by omega) u rfl p
  |false=>
  rw[W]at p
  simp only[go_sem,BD d]
  refine AMU P λH8 n8 B=>?_
  have f:=f.trans (B.kb (by omega))
  have d:=B.get d (by omega)
  have q:=B.get q (by omega)
  have u:=B.get u (by omega)
  have d4:=B.le
  refine AdA Q (BD q) λH9 n9 K=>?_
  have f:=f.trans (K.kb (by omega))
  have d:=K.get d (by omega)
  have q:=K.get q (by omega)
  have u:=K.get u (by omega)
  have d5:=K.le
  cases X:x.cls&&y.cls with
  |false=>
   rw[X]at p
   simp only[go_sem]
   exact C _ _ f (by omega) u p
  |true=>
  rw[X]at p
  have Y:=h.kb f
  simp only[go_sem,Nat.reduceAdd,AU (off:=0) d (v:=x.nm.v) rfl,AU (off:=0) q (v:=y.nm.v) rfl,AU (off:=0) Y.at' (v:=.ptr t 0) rfl]
  refine AYv Y.tab (Nat.le_refl _) N λH7 n7 A=>?_
  have f:=f.trans A
  have u:=A.get u (by omega) (by omega)
  have O:=A.le
  rw[show CU (.one .str) true (Ir fs x.nm y.nm).v (.str 0 0)=some (.bool (!decide (Ir fs x.nm y.nm=(0,0))))by
   unfold St.v;rw[AaD,show decide ((Ir fs x.nm y.nm).1=0/\(Ir fs x.nm y.nm).2=0)=decide (Ir fs x.nm y.nm=(0,0))by rw[decide_eq_decide,Prod.ext_iff]]]
  simp only[go_sem]
  cases Z:decide (Ir fs x.nm y.nm=(0,0))with
  |true=>
   rw[Z]at p
   simp only[Bool.not_true,go_sem]
   exact C _ _ f (by omega) u p
  |false=>
   rw[Z]at p
   simp only[Bool.not_false,go_sem]
   refine AFA λH8 n8 B=>?_
   exact w _ _ _ ⟨Ir fs x.nm y.nm,false⟩ true (f.trans (B.kb (by omega))) (by have:=B.le;omega) (B.get u (by omega)) rfl p
structure Kw(b m:Nat)(H:Heap)(n:Nat)(H':Heap)(n':Nat):Prop where
 le:n<=n'
 kb:Kb b H m H' m
theorem Kw.refl(b m:Nat)(H:Heap)(n:Nat):Kw b m H n H n:=⟨Nat.le_refl _,Kb.refl ..⟩
theorem Kw.trans{b m n n' n'':Nat}{H H' H'':Heap}(x:Kw b m H n H' n')(y:Kw b m H' n' H'' n''):Kw b m H n H'' n'':=⟨Nat.le_trans x.le y.le,x.kb.trans y.kb⟩
theorem Kb.kw{b m n n':Nat}{H H':Heap}(x:Kb b H n H' n')(d:m<=n):Kw b m H n H' n':=⟨x.le,x.low d⟩
theorem _root_.Go.Bf.Kp.kw{b m n n':Nat}{H H':Heap}(x:Kp H n H' n')(d:m<=n)(f:b<m):Kw b m H n H' n':=(x.kb (b:=b) (by omega)).kw d
theorem Kw.of{b m n n':Nat}{H H':Heap}(d:b<m)(f:n<=n')(h:∀id,id<m->T.get H' id=T.get H id):Kw b m H n H' n':=
 ⟨f,Nat.le_refl _,λid g _=>h id g,λi=>i.same (h b d)⟩
structure IZ(H:Heap)(m n q:Nat)(s:CP):Prop where
 mk'::
 mq:m<=q
 qn:q<n
 is:∃vl vs,T.get H q=some (one [vl,vs])/\Sk H 2 (λid=>m<=id/\id<n/\id≠q) vl (tys s.loc)/\Sk H 2 (λid=>m<=id/\id<n/\id≠q) vs (tys s.stk.reverse)/\(∀id,vl.XZ=some id->vs.XZ≠some id)
 ol:∀t∈s.loc,t.nm.ok
 os:∀t∈s.stk,t.nm.ok
 bl:s.loc.length<=100000
 bs:s.stk.length<=100000
theorem IZ.mono{H H':Heap}{m n n' q:Nat}{s:CP}(h:IZ H m n q s)(d:n<=n')(e:∀id,m<=id->id<n->T.get H' id=T.get H id):IZ H' m n' q s:=by
 obtain⟨f,i,g,k,p,hd⟩:=h.is
 exact⟨h.mq,Nat.lt_of_lt_of_le h.qn d,⟨f,i,(e q h.mq h.qn).trans g,k.mono (λid ⟨a,b,c⟩=>⟨a,Nat.lt_of_lt_of_le b d,c⟩) (λid ⟨a,b,c⟩=>e id a b),
  p.mono (λid ⟨a,b,c⟩=>⟨a,Nat.lt_of_lt_of_le b d,c⟩) (λid ⟨a,b,c⟩=>e id a b),hd⟩,h.ol,h.os,h.bl,h.bs⟩
theorem IZ.kb{H H':Heap}{m n n' q b:Nat}{s:CP}(h:IZ H m n q s)(f:Kb b H n H' n')(i:b<m):IZ H' m n' q s:=
 h.mono f.le λd k g=>f.same d g (by omega)
theorem IZ.kp{H H':Heap}{m n n' q:Nat}{s:CP}(h:IZ H m n q s)(f:Kp H n H' n'):IZ H' m n' q s:=h.mono f.le λd _ g=>f.same d g
theorem AdD{v:V}{H:Heap}{z:Nat}{A:Nat->Prop}{LS:EL}(h:Sk H z A v LS):v=.Ad/\LS=[]∨CU .sl false v .Ad=some (.bool false):=by
 cases h with
 |nil=>exact .inl ⟨rfl,rfl⟩
 |emp=>exact .inr rfl
 |F9=>exact .inr rfl
theorem ARC{G:AY}{H:Heap}{n id z f:Nat}{t:T LV}{w:V}{k:KV}(i:T.get H id=some (.arr z 0 t))(m:elems w G H z=some [])
 (p:∀H',(∀j,T.get H' j=T.get H j)->k (.sl id 0 0 0 z) H' n):WV z f (.sl id 0 0 0 z) w G H n k:=by
 unfold WV
 rw[m,V8]
 have q:APB (.sl id 0 0 0 z) G z f [] H n k=Bool.rec (motive:=λ_=>Prop) (Gu (CQ H id z 0 0) λg=>KH z f g [] H n k) (Gu (T.get H id) λb=>ACp id 0 0 0 z (0+([]:EL).length) [] H n k b) (Nat.ble (0+([]:EL).length) 0):=by
  show Ji (Nat.beq z z) (DT (Nat.add 0 (len ([]:EL))) λd=>Bool.rec (motive:=λ_=>Prop) (Gu (CQ H id z 0 0) λg=>KH z f g [] H n k) (Gu (T.get H id) λb=>ACp id 0 0 0 z d [] H n k b) (Nat.ble d 0))=_
  rw[Cm,X5,BL,len_eq];rfl
 rw[q]
 show Gu (T.get H id) (λb=>ACp id 0 0 0 z (0+0) [] H n k b)
 rw[i,V8]
 show Ji (band (Nat.beq z z) (Nat.ble (Nat.add 0 (0+0)) 0)) (k (.sl id 0 (0+0) 0 z) (T.set H id (.arr z 0 t)) n)
 rw[Cm,show Nat.ble (Nat.add 0 (0+0)) 0=true by rw[Nat.ble_eq];exact Nat.le_refl _]
 refine p _ λj=>?_
 rw[T.Qx];split
 ·rename_i e;subst e;exact i.symm
 ·rfl
theorem AWp{H H':Heap}{z d:Nat}{A B:Nat->Prop}{v w:V}{LS f:EL}(h:Sk H z A v LS)(g:Sk H' d B w f):BH [.Ad,.Ad] [(0,1,.c v),(1,1,.c w)]=some (.agg [v,w]):=by
 cases h<;>cases g<;>rfl
structure eU where
 kb:Nat
 i:Nat
 t:Nat
 a:Nat
 b:Nat
 fm:Nat
 vn:V
 fs:Tab
 nm:St
 sup:St
 vf:V
 vm:V
 v0:V
 v1:V
 v2:V
 v3:V
 v4:V
 vb:V
 pool:Pool
 ws:List V
 nl:Nat
 mx:Int
 vc:V
 code:List Ins
 mn:St
 st:Bool
 vp:V
 ps:List Ty
 ret:Ty
def eU.cells(K:eU)(at' td:V):LV:=[.ptr K.i 0,K.nm.v,K.sup.v,K.vf,K.vm,K.v0,K.v1,K.v2,K.v3,K.v4,K.vb,.int .i64 (.ofNat K.nl) 0,.int .i64 K.mx 0,K.vc,K.mn.v,.bool K.st,K.vp,K.ret.nm.v,.bool K.ret.arr,at',td]
def eU.cx(K:eU):Cx:=⟨K.fs,K.pool,K.mx,K.ret,K.code⟩
structure eU.At(K:eU)(G:AY)(H:Heap)(m:Nat)(at' td:V):Prop where
 box:T.get H K.kb=some (one (K.cells at' td))
 km:K.kb<m
 kb:K.kb≠K.b
 ki:K.kb≠K.i
 img:NQ G H m K.i K.t K.a K.b K.fm K.vn K.fs
 small:K.fs.length<=1000
 pool:Fh G H m K.pool K.v0 K.v1 K.v2 K.v3 K.v4 K.ws
 code:O1 G H m K.vc K.code
 ps:GY G H m K.vp K.ps
 rok:K.ret.nm.ok
 nok:K.nm.ok
 mx:K.mx<=1000
 nl:K.nl<=401
 cl:K.code.length<=16384
theorem eU.At.kb'{K:eU}{G:AY}{H H':Heap}{m:Nat}{at' td:V}(h:K.At G H m at' td)(f:Kb K.b H m H' m):K.At G H' m at' td:=by
 have e:=f.ke (G:=G) h.img.tab.seen
 exact⟨f.get h.box h.km h.kb,h.km,h.kb,h.ki,h.img.kb f,h.small,h.pool.ke e,⟨h.code.el.ke h.code.lo e,h.code.lo,h.code.lt⟩,h.ps.ke e,h.rok,h.nok,h.mx,h.nl,h.cl⟩
theorem eU.At.kw{K:eU}{G:AY}{H H':Heap}{m n n':Nat}{at' td:V}(h:K.At G H m at' td)(f:Kw K.b m H n H' n'):K.At G H' m at' td:=h.kb' f.kb
theorem AMq(x y:Int):B2.ev .leq (.int .i64 x 0) (.int .i64 y 0)=some (.bool (decide (x<=y))):=by
 show BI (band (keq .i64 .i64) true) (mkB (ile x y))=_
 rw[TR,AD8];rfl
theorem AdP{K:eU}{G:AY}{H:Heap}{n m q:Nat}{at' td:V}{s:CP}{t:Ty}(i:K.At G H m at' td)(h:IZ H m n q s)(U:t.nm.ok){k:KV}
 (W:∀H' n',Kw K.b m H n H' n'->Cc K.mx t s.stk=none->k (.bool false) H' n')
 (O:∀H' n' r,Kw K.b m H n H' n'->Cc K.mx t s.stk=some r->IZ H' m n' q ⟨s.loc,r⟩->k (.bool true) H' n'):Runs F G Az [.ptr K.kb 0,.ptr q 0,t.v] H n k:=by
 refine go3 (rC BF G) ?_
 delta X0
 have p:K.b<m:=i.img.tab.bn
 have X:=i.km
 have P:=h.mq
 have Y:=h.qn
 refine FT λH1 Q Z=>?_
 have h:=h.kp Q
 have i:=i.kw (Q.kw (by omega) p)
 obtain⟨R,vs,L,M,y,hd⟩:=h.is
 simp only[go_sem,Nat.reduceAdd,AU (off:=1) L (v:=vs) rfl,BD Z]
 refine y.app (m:=0) (c:=t.v) (λd f=>(y.own f).2.1) (by omega) rfl rfl (by rw[EP,List.length_reverse];have:=h.bs;omega) λN H2 A g f=>?_
 have L:=(g q (by omega) λe=>(y.own e).2.2 rfl).trans L
 have u:=(A (λ_=>True) trivial).ok
 refine vC L u.1 (by rw[u.2.1];rfl) (by omega) (by show 1+1<=2;omega) λC D E=>?_
 rw[u.2.1]at D
 have D:T.get C q=some (one [R,N]):=D
 have f3:Kw K.b m H n C (n+1+2):=(Q.kw (by omega) p).trans (.of p (by omega) λd f=>by
  rw[E d (by omega)];exact g d (by omega) λe=>by have:=(y.own e).1;omega)
 have i:=i.kw (H':=C) (n:=n) (n':=n) ⟨by omega,⟨by omega,λd f _=>by rw[E d (by omega)];exact g d (by omega) λe=>by have:=(y.own e).1;omega,λI=>I.same (by rw[E _ (by omega)];exact g _ (by omega) λe=>by have:=(y.own e).1;omega)⟩⟩
 have J:Sk C 2 (λd=>m<=d/\d<n+1+2/\d≠q) N (tys (t::s.stk).reverse):=by
  have:=(A (λd=>d=n+1+1) rfl).mono (H':=C) (B:=λd=>m<=d/\d<n+1+2/\d≠q) (λd f=>⟨by omega,by omega,by omega⟩) (λd f=>E d (by omega))
  rw[show tys (t::s.stk).reverse=tys s.stk.reverse++[t.cells]by rw[List.reverse_cons];exact List.map_append]
  exact this
 have e2:B2.ev .leq (.int .i64 (.ofNat (s.stk.length+1)) 0) (.int .i64 K.mx 0)=some (.bool (decide (((s.stk.length+1:Nat):Int)<=K.mx))):=AMq ..
 simp only[go_sem,Nat.reduceAdd,AU (off:=1) D (v:=N) rfl,(J.el (G:=G) (by omega)).len,EP,List.length_reverse,List.length_cons,AU (off:=12) i.box (v:=.int .i64 K.mx 0) rfl,e2]
 cases w:decide (((s.stk.length+1:Nat):Int)<=K.mx)with
 |false=>exact W _ _ f3 (by unfold Cc;rw[w];rfl)
 |true=>
  refine O _ _ (t::s.stk) f3 (by unfold Cc;rw[w];rfl) ⟨P,by omega,⟨R,N,D,?_,J,?_⟩,h.ol,?_,h.bl,?_⟩
  ·refine M.AHu (λd f=>?_) λd f=>?_
   ·have:=M.own f;exact⟨by omega,by omega,by omega⟩
   ·have:=M.own f
    rw[E d (by omega)];exact g d (by omega) (hd d f)
  ·intro d O S
   have:=M.own O
   rw[f]at S;cases S;omega
  ·intro x I
   rcases List.mem_cons.1 I with rfl|I
   ·exact U
   ·exact h.os x I
  ·have:=of_decide_eq_true w
   have:=i.mx
   show s.stk.length+1<=100000
   omega
theorem sub_one(a:Nat)(h:a<9223372036854775808):B2.ev .sub (.int .i64 (.ofNat a) 0) (.int .i64 (.ofNat 1) 0)=some (.int .i64 ((a:Int)-1) 0):=by
 show some (V.int .i64 (Z7 .i64 (AHI (.ofNat a) (Int.neg (.ofNat 1)))) 0)=_
 rw[UM,jv]
 have e:Int.ofNat a+Int.neg (Int.ofNat 1)=(a:Int)-1:=by show(a:Int)+ -(1:Int)=(a:Int)-1;omega
 rw[e,YF (by omega) (by omega)]
theorem AYd(x:Int):B2.ev .lss (.int .i64 x 0) (.int .i64 (.ofNat 0) 0)=some (.bool (decide (x<0))):=by rw[APy];rfl
theorem IZ.drop{H:Heap}{m n q:Nat}{s:CP}{t:Ty}{r:List Ty}(h:IZ H m n q s)(e:s.stk=t::r){p vs:V}(g:T.get H q=some (one [p,vs])):
 ∃v',wB 2 vs E0 none (some (.c (.int .i64 (.ofNat r.length) 0))) none=some v'/\Zp v'=true/\A8 v'=[v']/\∀H',T.get H' q=some (one [p,v'])->(∀j,j≠q->T.get H' j=T.get H j)->IZ H' m n q ⟨s.loc,r⟩:=by
 obtain⟨y,A,u,B,C,hd⟩:=h.is
 rw[g]at u
 cases u
 have v:(tys s.stk.reverse).length=r.length+1:=by rw[EP,List.length_reverse,e];rfl
 obtain⟨v',D,E,k⟩:=C.pop (i:=r.length) (q:=.i64) (by omega)
 have F:(tys s.stk.reverse).take r.length=tys r.reverse:=by
  rw[e,List.reverse_cons,show tys (r.reverse++[t])=tys r.reverse++[t.cells]from List.map_append]
  exact List.take_left' (by rw[EP,List.length_reverse])
 rw[F]at k
 refine⟨v',D,k.ok.1,k.ok.2.1,λH' G w=>⟨h.mq,h.qn,⟨p,v',G,?_,?_,?_⟩,h.ol,λx I=>h.os x (by rw[e];exact List.mem_cons_of_mem _ I),h.bl,?_⟩⟩
 ·exact B.mono (λ_ h=>h) λf d=>w f d.2.2
 ·exact k.mono (λ_ h=>h) λf d=>w f d.2.2
 ·intro f a;rw[E];exact hd f a
 ·have:=h.bs;rw[e]at this;simp only[List.length_cons]at this;show r.length<=100000;omega
theorem IZ.top{G:AY}{H:Heap}{m n q:Nat}{s:CP}{t:Ty}{r:List Ty}(h:IZ H m n q s)(e:s.stk=t::r){k vs:V}(g:T.get H q=some (one [k,vs])):
 ∃p,Ai 2 vs (.int .i64 (.ofNat r.length) 0)=some p/\Aj 2 p G H=some t.v:=by
 obtain⟨u,w,f,A,x,hd⟩:=h.is
 rw[g]at f
 cases f
 obtain⟨p,y,d⟩:=(x.el (G:=G) (by omega)).at (i:=r.length) (c:=t.cells) (by
  rw[e,List.reverse_cons,show tys (r.reverse++[t])=tys r.reverse++[t.cells]from List.map_append,List.getElem?_append_right (by rw[EP,List.length_reverse];omega),EP,List.length_reverse,Nat.sub_self];rfl)
 exact⟨p,y,by rw[Bj d];rfl⟩
theorem IZ.len{G:AY}{H:Heap}{m n q:Nat}{s:CP}(h:IZ H m n q s){f vs:V}(g:T.get H q=some (one [f,vs])):lenV vs=some (.int .i64 (.ofNat s.stk.length) 0):=by
 obtain⟨i,k,d,u,p,hd⟩:=h.is
 rw[g]at d
 cases d
 rw[(p.el (G:=G) (by omega)).len,EP,List.length_reverse]
structure Kq(b q:Nat)(H:Heap)(n:Nat)(H':Heap)(n':Nat):Prop where
 le:n<=n'
 same:∀id,id<n->id≠b->id≠q->T.get H' id=T.get H id
 seen:Js H b->Js H' b
theorem Kq.refl(b q:Nat)(H:Heap)(n:Nat):Kq b q H n H n:=⟨Nat.le_refl _,λ_ _ _ _=>rfl,λh=>h⟩
theorem Kq.trans{b q n n' n'':Nat}{H H' H'':Heap}(x:Kq b q H n H' n')(y:Kq b q H' n' H'' n''):Kq b q H n H'' n'':=
 ⟨Nat.le_trans x.le y.le,λd f g i=>(y.same d (Nat.lt_of_lt_of_le f x.le) g i).trans (x.same d f g i),λh=>y.seen (x.seen h)⟩
theorem Kq.kw{b m q n n':Nat}{H H':Heap}(x:Kq b q H n H' n')(g:m<=n)(i:m<=q):Kw b m H n H' n':=⟨x.le,Nat.le_refl _,λd k f=>x.same d (by omega) f (by omega),x.seen⟩
theorem Kb.kq{b q n n':Nat}{H H':Heap}(x:Kb b H n H' n'):Kq b q H n H' n':=⟨x.le,λd f g _=>x.same d f g,x.seen⟩
theorem Kq.of{b q n n':Nat}{H H':Heap}(d:b<n)(f:b≠q)(g:n<=n')(h:∀id,id<n->id≠q->T.get H' id=T.get H id):Kq b q H n H' n':=⟨g,λid i _ k=>h id i k,λm=>m.same (h b d f)⟩
theorem _root_.Go.Bf.Kp.kq{b q n n':Nat}{H H':Heap}(x:Kp H n H' n')(d:b<n):Kq b q H n H' n':=(x.kb d).kq
theorem Acl{G:AY}{H:Heap}{n m q b:Nat}{s:CP}(hb:b<m)(h:IZ H m n q s){k:KV}
 (Q:s.stk=[]->∀H' n',Kq b q H n H' n'->IZ H' m n' q s->k (.Dl [BU.v,.bool false]) H' n')
 (M:∀t r,s.stk=t::r->∀H' n',Kq b q H n H' n'->IZ H' m n' q ⟨s.loc,r⟩->k (.Dl [t.v,.bool true]) H' n'):Runs F G EF [.ptr q 0] H n k:=by
 refine go1 (yh BF G) ?_
 delta Z5
 have R:=h.mq
 have S:=h.qn
 refine Di rfl λU f N=>?_
 have E:=h
 have h:=h.kp f
 obtain⟨O,I,g,-⟩:=E.is
 have i:=f.get g (by omega)
 have V:=h.bs
 simp only[go_sem,Nat.reduceAdd,AU (off:=1) i (v:=I) rfl,h.len (G:=G) i,sub_one _ (show s.stk.length<9223372036854775808 by omega),AYd]
 cases e:s.stk with
 |nil=>
  rw[show decide (((([]:List Ty).length:Nat):Int)-1<0)=true from rfl]
  simp only[go_sem]
  rw[AHB,AP]
  show Bz 2 (.ptr n 0) (.agg BU.cells) U (n+1) _
  rw[FU (m:=2) N (by omega) rfl rfl,EN (m:=2) (T.Ag ..) (by omega) rfl]
  exact Q e _ _ (.of (by omega) (by omega) (by omega) λy u _=>by rw[T.Ac _ _ (by omega),f.same _ u]) (E.mono (by omega) λy _ J=>by rw[T.Ac _ _ (by omega),f.same _ J])
 |cons t r=>
  have el:(((t::r).length:Nat):Int)-1=Int.ofNat r.length:=by simp only[List.length_cons];show((r.length+1:Nat):Int)-1=(r.length:Int);omega
  obtain⟨p,W,K⟩:=h.top (G:=G) e i
  obtain⟨P,L,ok1,w,d⟩:=E.drop e g
  rw[el,show decide (Int.ofNat r.length<0)=false by rw[decide_eq_false_iff_not];show ¬(r.length:Int)<0;omega]
  simp only[go_sem,Nat.reduceAdd,AU (off:=1) i (v:=I) rfl,W,K]
  show Bz 2 (.ptr (n+1) 0) (.agg t.cells) _ _ _
  refine Yb rfl rfl (by omega) λH2 A X=>?_
  have x:=A.get i (by omega)
  rw[AU (off:=1) x (v:=I) rfl,AP,L,AP]
  refine vC x ok1 (by rw[w];rfl) (by omega) (by show 1+1<=2;omega) λY B C=>?_
  rw[w]at B
  have B:T.get Y q=some (one [O,P]):=B
  rw[BD ((C (n+1) (by omega)).trans X),AP]
  show Bz 2 (.ptr n 0) (.agg t.cells) _ _ _
  rw[FU (m:=2) ((C n (by omega)).trans (A.get N (by omega))) (by omega) rfl rfl,EN (m:=2) (T.Ag ..) (by omega) rfl]
  have d:=d (T.set H q (one [O,P])) (T.Ag ..) λj Z=>T.Ac _ _ (Ne.symm Z)
  refine M t r e _ _ (.of (by omega) (by omega) (by omega) λy u D=>?_) (d.mono (by omega) λy M J=>?_)
  ·rw[T.Ac _ _ (by omega),C _ (by omega),A.same _ (by omega),f.same _ (by omega)]
  ·rw[T.Ac _ _ (by omega)]
   by_cases D:y=q
   ·subst D;rw[B,T.Ag]
   ·rw[C _ D,T.Ac _ _ (Ne.symm D),A.same _ (by omega),f.same _ J]
theorem AT7{K:eU}{G:AY}{H:Heap}{n m q:Nat}{at' td w:V}{ws:List Ty}{s:CP}(M:K.At G H m at' td)(h:IZ H m n q s)(Z:∀H' n',Kq K.b q H n H' n'->El G H' w 2 (tys ws))(A:ws.length<big)(N:∀t∈ws,t.nm.ok){k:KV}
 (h0:∀H' n',Kq K.b q H n H' n'->Dv K.fs ws.reverse s.stk=none->k (.bool false) H' n')
 (h1:∀H' n' r,Kq K.b q H n H' n'->Dv K.fs ws.reverse s.stk=some r->IZ H' m n' q ⟨s.loc,r⟩->k (.bool true) H' n'):Runs F G BA [.ptr K.kb 0,.ptr q 0,w] H n k:=by
 refine go3 (wC BF G) ?_
 delta ZE
 have O:K.b<m:=M.img.tab.bn
 have d0:=M.km
 have P:=h.mq
 have d1:=h.qn
 rw[(Z H n (.refl ..)).len,EP,AP,sub_one _ (by unfold big at A;omega),AP]
 refine IY (J:=λj st=>∃H' n' Q,j<=ws.length/\st=(.ptr K.kb 0,.ptr q 0,w,.int .i64 ((j:Int)-1) 0,H',n')/\Kq K.b q H n H' n'/\IZ H' m n' q Q/\Q.loc=s.loc/\Dv K.fs ws.reverse s.stk=Dv K.fs (ws.take j).reverse Q.stk) ?_ (m:=ws.length)
  ⟨H,n,s,Nat.le_refl _,rfl,.refl ..,h,rfl,by rw[List.take_length]⟩
 rintro I j st ⟨H2,n2,L,hj,rfl,f,h,B,d⟩ ih
 show NK lfp G (Runs F G) k I (.ptr K.kb 0) (.ptr q 0) w (.int .i64 ((j:Int)-1) 0) H2 n2
 delta NK
 have d2:=f.le
 cases j with
 |zero=>
  rw[show B2.ev .geq (.int .i64 (((0:Nat):Int)-1) 0) (.int .i64 (.ofNat 0) 0)=some (.bool false)from rfl]
  simp only[go_sem]
  delta Nj
  refine h1 _ _ L.stk f (by rw[d];rfl) ?_
  rw[<-B];exact h
 |succ j=>
  have ej:((j+1:Nat):Int)-1=Int.ofNat j:=by show((j+1:Nat):Int)-1=(j:Int);omega
  obtain⟨vl,R,g,-⟩:=h.is
  have d3:=h.bs
  rw[ej,AUF,show decide (0<=Int.ofNat j)=true by rw[decide_eq_true_eq];show(0:Int)<=(j:Int);omega]
  simp only[go_sem,Nat.reduceAdd,AU (off:=1) g (v:=R) rfl,h.len (G:=G) g,sub_one _ (show L.stk.length<9223372036854775808 by omega),AYd]
  have C:(ws.take (j+1)).reverse=ws[j]::(ws.take j).reverse:=by
   rw[List.take_succ_eq_append_getElem (by omega),List.reverse_append];rfl
  rw[C]at d
  cases e:L.stk with
  |nil=>
   rw[e]at d
   rw[show decide (((([]:List Ty).length:Nat):Int)-1<0)=true from rfl]
   simp only[go_sem]
   exact h0 _ _ f d
  |cons t r=>
   rw[e]at d
   have el:(((t::r).length:Nat):Int)-1=Int.ofNat r.length:=by simp only[List.length_cons];show((r.length+1:Nat):Int)-1=(r.length:Int);omega
   obtain⟨p,S,T⟩:=h.top (G:=G) e g
   obtain⟨p2,U,D⟩:=(Z _ _ f).at (Tj (show j<ws.length by omega))
   rw[el,show decide (Int.ofNat r.length<0)=false by rw[decide_eq_false_iff_not];show ¬(r.length:Int)<0;omega]
   have u:=M.kw (f.kw (by omega) P)
   simp only[go_sem,Nat.reduceAdd,AU (off:=1) g (v:=R) rfl,S,T,U,Bj D,AU (off:=0) u.box (v:=.ptr K.i 0) rfl,AU (off:=0) u.img.at' (v:=.ptr K.t 0) rfl]
   refine AcD (x:=t) (y:=ws[j]) u.img.tab (by omega) u.small (h.os t (by rw[e];exact List.mem_cons_self ..)) (N _ (List.getElem_mem _)) λH3 n3 f3=>?_
   have f':=f.trans (f3.kq (q:=q))
   have h:=h.kb f3 O
   have g:=f3.get g (by omega) (by omega)
   have d4:=f3.le
   have d:Dv K.fs ws.reverse s.stk=bif fitsT K.fs t ws[j]then Dv K.fs (ws.take j).reverse r else none:=d
   cases hf:fitsT K.fs t ws[j]with
   |false=>
    rw[hf]at d
    simp only[go_sem,BZ,Bool.not_false]
    exact h0 _ _ f' d
   |true=>
    rw[hf]at d
    simp only[go_sem,BZ,Bool.not_true,Nat.reduceAdd,AU (off:=1) g (v:=R) rfl]
    obtain⟨v',W,ok1,E,X⟩:=h.drop e g
    rw[W,AP]
    refine vC g ok1 (by rw[E];rfl) (by omega) (by show 1+1<=2;omega) λH4 g4 Y=>?_
    rw[E]at g4
    rw[sub_one _ (by unfold big at A;omega),AP]
    refine ih j _ (by omega) ⟨H4,n3,⟨L.loc,r⟩,by omega,rfl,f'.trans ⟨Nat.le_refl _,λid _ _ hq=>Y id hq,λhs=>hs.same (Y _ (by omega))⟩,X H4 g4 Y,B,d⟩
structure Dn(b m:Nat)(H:Heap)(n q:Nat)(k:KV)(o:Option CP):Prop where
 no:∀H' n',Kw b m H n H' n'->o=none->k (.bool false) H' n'
 yes:∀H' n' s',Kw b m H n H' n'->o=some s'->IZ H' m n' q s'->k (.bool true) H' n'
theorem Dn.later{b m n n' q:Nat}{H H':Heap}{k:KV}{o:Option CP}(h:Dn b m H n q k o)(f:Kw b m H n H' n'):Dn b m H' n' q k o:=
 ⟨λ_ _ d e=>h.no _ _ (f.trans d) e,λ_ _ _ d e g=>h.yes _ _ _ (f.trans d) e g⟩
section
variable{K:eU}{G:AY}{H:Heap}{n m q:Nat}{at' td w:V}{ws:List Ty}{s:CP}{t:Ty}{k:KV}{p:V}
theorem Uh(g:K.At G H m at' td)(h:IZ H m n q s)(i:t.nm.ok)(d:Dn K.b m H n q k ((Cc K.mx t s.stk).map λr=>⟨s.loc,r⟩)):Runs F G Az [.ptr K.kb 0,.ptr q 0,t.v] H n k:=
 AdP g h i (λ_ _ f e=>d.no _ _ f (by rw[e];rfl)) λ_ _ r f e p=>d.yes _ _ _ f (by rw[e];rfl) p
theorem AgC(u:K.At G H m at' td)(h:IZ H m n q s)(v:∀H' n',Kq K.b q H n H' n'->El G H' w 2 (tys ws))(g:ws.length<big)(p:∀t∈ws,t.nm.ok)(i:m<=n)
 (d:Dn K.b m H n q k ((Dv K.fs ws.reverse s.stk).map λr=>⟨s.loc,r⟩)):Runs F G BA [.ptr K.kb 0,.ptr q 0,w] H n k:=
 AT7 u h v g p (λ_ _ f e=>d.no _ _ (f.kw i h.mq) (by rw[e];rfl)) λ_ _ r f e x=>d.yes _ _ _ (f.kw i h.mq) (by rw[e];rfl) x
theorem AVD(B:K.At G H m at' td)(h:IZ H m n q s)(C:∀H' n',Kq K.b q H n H' n'->El G H' w 2 (tys ws))(i:ws.length<big)(A:∀t∈ws,t.nm.ok)(g:m<=n)(D:t.nm.ok)
 (hp:∀H' n',Kq K.b q H n H' n'->Aj 2 p G H'=some t.v)
 (d:Dn K.b m H n q k ((Dv K.fs ws.reverse s.stk).bind λr=>(Cc K.mx t r).map λr=>⟨s.loc,r⟩)):
 Runs F G BA [.ptr K.kb 0,.ptr q 0,w] H n λv H n=>Ak v true (some (.ptr K.kb 0)) λx=>Ak v true (some (.ptr q 0)) λy=>Ak v true (Aj 2 p G H) λz=>DY v true (Runs F G Az [x,y,z] H n) H n λu H n=>
  AL (Aw v u (.bool false)) λr=>k r H n:=by
 refine AT7 B h C i A (λE I f e=>?_) λE I r f e J=>?_
 ·simp only[go_sem]
  exact d.no _ _ (f.kw g h.mq) (by rw[e];rfl)
 ·simp only[go_sem,hp _ _ f]
  rw[e]at d
  exact Uh (B.kw (f.kw g h.mq)) J D (d.later (f.kw g h.mq))
end
theorem Kq.get{b q n n' id:Nat}{H H':Heap}{B:Nu}(f:Kq b q H n H' n')(h:T.get H id=some B)(hi:id<n)(d:id≠b)(g:id≠q):T.get H' id=some B:=(f.same id hi d g).trans h
theorem AfB{G:AY}{H H':Heap}{b q n n' j o l c z:Nat}{LS:EL}(h:El G H (.sl j o l c z) z LS)(f:Kq b q H n H' n')(d:j<n)(g:j≠b)(i:j≠q):El G H' (.sl j o l c z) z LS:=
 h.same λk e=>by cases e;exact f.same j d g i
theorem SB:C9.nm.ok:=by intro h;cases h
theorem Yq:Ew.nm.ok:=by intro h;cases h
structure AGS(p:Pool)(nl:Nat)(c i:Nat):Prop where
 lo:1<=c
 hi:c<=32
 lc:c=3∨c=4->i<nl
 nm:c=18∨c=23∨c=24->i<p.names.length
 ty:c=19∨c=20∨c=21->i<p.types.length
 fl:c=16∨c=17->i<p.fields.length
 me:c=25∨c=26->i<p.Bg.length
theorem Dn.cast{b m n q:Nat}{H:Heap}{k:KV}{o o':Option CP}(h:Dn b m H n q k o)(e:o=o'):Dn b m H n q k o':=e▸h
theorem lW(x y:Nat):CU (.one .int) false (.int .i64 (.ofNat x) 0) (.int .i64 (.ofNat y) 0)=some (.bool (decide (x=y))):=ER ..
section
variable{K:eU}{G:AY}{H:Heap}{n m q:Nat}{at' td w:V}{ws:List Ty}{s:CP}{t:Ty}{k:KV}{p:V}{N:Nat}{Z:LV}
theorem ATD{vs:List V}(g:vs=ws.map Ty.v)(m:ws.length=N)(p:K.b<n)(u:q<n){P:KV}(h:∀H',Kp H n H' (n+1)->(∀i k,Kq K.b q H' (n+1) i k->El G i (.sl n 0 N N 2) 2 (tys ws))->P (.sl n 0 N N 2) H' (n+1)):
 Bc (Ar 2 N Z (AJD 0 vs) E0) H n P:=by
 subst g
 refine ARa (G:=G) (by simp[m]) (by omega) (λv g=>by obtain⟨t,-,rfl⟩:=List.mem_map.1 g;exact⟨rfl,rfl⟩) λH' f x d=>?_
 have e:(ws.map Ty.v).map A8=tys ws:=by rw[List.map_map];rfl
 rw[e]at d
 exact h H' f λi k w=>AfB d w (by omega) (by omega) (by omega)
theorem zO(u:K.At G H m at' td)(h:IZ H m n q s){vs:List V}(y:vs=ws.map Ty.v)(A:ws.length=N)(D:N<=100)(g:∀t∈ws,t.nm.ok)
 (d:Dn K.b m H n q k ((Dv K.fs ws.reverse s.stk).map λr=>⟨s.loc,r⟩)):
 Bc (Ar 2 N Z (AJD 0 vs) E0) H n λw H n=>Runs F G BA [.ptr K.kb 0,.ptr q 0,w] H n k:=by
 have i:K.b<m:=u.img.tab.bn
 have B:=h.mq
 have p:=h.qn
 refine ATD (G:=G) (K:=K) (q:=q) y A (by omega) p λH' f C=>?_
 have x:=f.kw (b:=K.b) (m:=m) (by omega) i
 exact AgC (u.kw x) (h.kp f) C (by unfold big;omega) g (by omega) (d.later x)
theorem aj(B:K.At G H m at' td)(h:IZ H m n q s){vs:List V}(D:vs=ws.map Ty.v)(E:ws.length=N)(O:N<=100)(g:∀t∈ws,t.nm.ok)(I:t.nm.ok)
 (hp:∀H' n',Kq K.b q H n H' n'->Aj 2 p G H'=some t.v)
 (d:Dn K.b m H n q k ((Dv K.fs ws.reverse s.stk).bind λr=>(Cc K.mx t r).map λr=>⟨s.loc,r⟩)):
 Bc (Ar 2 N Z (AJD 0 vs) E0) H n λw H n=>Runs F G BA [.ptr K.kb 0,.ptr q 0,w] H n λv H n=>Ak v true (some (.ptr K.kb 0)) λx=>Ak v true (some (.ptr q 0)) λy=>Ak v true (Aj 2 p G H) λz=>
  DY v true (Runs F G Az [x,y,z] H n) H n λu H n=>AL (Aw v u (.bool false)) λr=>k r H n:=by
 have i:K.b<m:=B.img.tab.bn
 have J:=h.mq
 have A:=h.qn
 refine ATD (G:=G) (K:=K) (q:=q) D E (by omega) A λH' f L=>?_
 have C:=f.kw (b:=K.b) (m:=m) (by omega) i
 exact AVD (B.kw C) (h.kp f) L (by unfold big;omega) g (by omega) I (λP Q M=>hp _ _ ((f.kq (by omega)).trans M)) (d.later C)
theorem aY(u:K.At G H m at' td)(h:IZ H m n q s){vs:List V}(x:vs=ws.map Ty.v)(y:ws.length=N)(I:N<=100)(d:∀t∈ws,t.nm.ok)
 (A:∀H' n',Kq K.b q H n H' n'->Dv K.fs ws.reverse s.stk=none->k (.bool false) H' n')
 (B:∀H' n' r,Kq K.b q H n H' n'->Dv K.fs ws.reverse s.stk=some r->IZ H' m n' q ⟨s.loc,r⟩->k (.bool true) H' n'):
 Bc (Ar 2 N Z (AJD 0 vs) E0) H n λw H n=>Runs F G BA [.ptr K.kb 0,.ptr q 0,w] H n k:=by
 have g:K.b<m:=u.img.tab.bn
 have C:=h.mq
 have i:=h.qn
 refine ATD (G:=G) (K:=K) (q:=q) x y (by omega) i λH' f D=>?_
 have E:=f.kw (b:=K.b) (m:=m) (by omega) g
 exact AT7 (u.kw E) (h.kp f) D (by unfold big;omega) d (λ_ _ p=>A _ _ ((f.kq (by omega)).trans p)) λ_ _ r p=>B _ _ r ((f.kq (by omega)).trans p)
theorem qh{b:Nat}{P:Nat->V->KV}(A:b<m)(h:IZ H m n q s)
 (B:s.stk=[]->∀H' p,Kq b q H n H' (p+1)->n<=p->T.get H' p=some (one BU.cells)->IZ H' m p q s->P p (.bool false) .undef H' (p+1))
 (C:∀t r,s.stk=t::r->∀H' p,Kq b q H n H' (p+1)->n<=p->T.get H' p=some (one t.cells)->IZ H' m p q ⟨s.loc,r⟩->P p (.bool true) .undef H' (p+1)):
 Runs F G EF [.ptr q 0] H n λv H n=>AL (CS v 0) λx=>AL (CS v 1) λy=>Bz 2 (.ptr n 0) x (T.set H n (one [.str 0 0,.bool false])) (n+1) λu H D=>P n y u H D:=by
 have E:=h.mq
 have I:=h.qn
 refine Acl A h (λe J f d g=>?_) λt r e J f d g=>?_
 ·have i:=d.le
  simp only[go_sem]
  show Bz 2 (.ptr f 0) (.agg BU.cells) _ _ _
  refine Yb rfl rfl (by omega) λK f3 k=>?_
  exact B e _ _ (d.trans (f3.kq (by omega))) i k (g.mono (Nat.le_refl _) λw _ h=>f3.same w h)
 ·have i:=d.le
  simp only[go_sem]
  show Bz 2 (.ptr f 0) (.agg t.cells) _ _ _
  refine Yb rfl rfl (by omega) λK f3 k=>?_
  exact C t r e _ _ (d.trans (f3.kq (by omega))) i k (g.mono (Nat.le_refl _) λw _ h=>f3.same w h)
theorem AW7{c:Bool}{P:V->Heap->Nat->Prop}(d:Aj 2 p G H=some t.v)(f:∀H',Kp H n H' n->Aj 2 p G H'=some t.v)(h:∀H' n',Kp H n H' n'->P (.bool (c||t.is CZ)) H' n'):
 Ak (.bool c) false (Aj 2 p G H) λx=>DY (.bool c) false (Runs F G IX [] H n) H n λy H n=>ACX (.bool c) false (Aj 2 p G H) x <| Ak (.bool c) false (CU (.agg [.str,.bool]) false x y) λz=>AL (Aw (.bool c) (.bool true) z) λu=>P u H n:=by
 cases c with
 |true=>simp only[go_sem];exact h _ _ (Kp.refl _ _)
 |false=>
  simp only[go_sem,d]
  refine bU λH' n' g=>?_
  refine Aee (f H' ⟨Nat.le_refl _,g.same⟩) (LH t) ?_
  simp only[go_sem,vH]
  exact h _ _ g
theorem AZl{c i:Nat}(y:K.At G H m at' td)(h:IZ H m n q s)(W:c=20∨c=21∨c=22)(hi:c=20∨c=21->i<K.pool.types.length)
 (d:Dn K.b m H n q k (stepT K.cx s ⟨.ofNat c,.ofNat i⟩)):Runs F G WW [.ptr K.kb 0,.ptr q 0,.agg (Ins.cells ⟨.ofNat c,.ofNat i⟩)] H n k:=by
 refine go3 (oP BF G) ?_
 delta XR
 have g:K.b<m:=y.img.tab.bn
 have C:=h.mq
 have d4:=h.qn
 refine FT λX f1 O=>?_
 have h:=h.kp f1
 have P:=f1.kw (b:=K.b) (m:=m) (by omega) g
 have y:=y.kw P
 have d:=d.later P
 simp only[go_sem,Nat.reduceAdd,AU (off:=0) O (v:=.int .i64 (.ofNat c) 0) rfl,lW]
 by_cases Q:c=22
 ·subst Q
  simp only[decide_true,go_sem]
  refine qh g h (λe E p I hp A _=>?_) λt r e E p I hp A Y=>?_
  ·simp only[go_sem]
   exact d.no _ _ (I.kw (by omega) C) (by show(match s.stk with|[]=>none|t::k=>_)=none;rw[e])
  ·have M:t.nm.ok:=h.os t (by rw[e];exact List.mem_cons_self ..)
   have d:Dn K.b m X (n+1) q k (bif t.arr||t.is CZ then(Cc K.mx C9 r).map λr=>⟨s.loc,r⟩else none):=by
    have d:Dn K.b m X (n+1) q k (match s.stk with|[]=>none|t::r=>bif t.arr||t.is CZ then(Cc K.mx C9 r).map λr=>⟨s.loc,r⟩else none):=d
    rw[e]at d;exact d
   have D:=I.kw (m:=m) (by omega) C
   have Z:=Y.mono (H':=E) (Nat.le_succ p) λ_ _ _=>rfl
   simp only[go_sem,Nat.reduceAdd,AU (off:=1) A (v:=.bool t.arr) rfl]
   refine AW7 (t:=t) (c:=t.arr) (BD A) (f:=λH' f=>BD (f.get A (by omega))) λH3 n3 f3=>?_
   have R:=f3.le
   have w:=D.trans (f3.kw (by omega) g)
   cases hb:t.arr||t.is CZ with
   |false=>
    rw[hb]at d
    simp only[go_sem]
    exact d.no _ _ w rfl
   |true=>
    rw[hb]at d
    simp only[go_sem]
    refine AF4 λH4 n4 x=>?_
    have B:=w.trans (x.kw (by omega) g)
    exact Uh (y.kw B) ((Z.kp f3).kp x) SB (d.later B)
 ·have J:i<K.pool.types.length:=hi (by omega)
  obtain⟨pt,d0,L⟩:=y.pool.t2.el.at (Tj J)
  have L:=Bj L
  have S:K.pool.types.getD i BU=K.pool.types[i]:=by rw[List.getD_eq_getElem?_getD,List.getElem?_eq_getElem J];rfl
  have u:=y.pool.t2.ok _ (List.getElem_mem J)
  have d1:AX (.ptr n 1) G X=some (.int .i64 (.ofNat i) 0):=AU O rfl
  simp only[Q,decide_false,go_sem,Nat.reduceAdd,AU (off:=7) y.box (v:=K.v2) rfl,d1,d0,L]
  generalize K.pool.types[i]=ty at*
  show Bz 2 (.ptr (n+1) 0) (.agg ty.cells) _ _ _
  refine Yb rfl rfl (by omega) λE I A=>?_
  have O:=I.get O (by omega)
  have h:=h.kp I
  have D:=I.kw (b:=K.b) (m:=m) (by omega) g
  have y:=y.kw D
  have d:=d.later D
  simp only[go_sem,Nat.reduceAdd,AU (off:=0) O (v:=.int .i64 (.ofNat c) 0) rfl,lW]
  by_cases T:c=21
  ·subst T
   have d:Dn K.b m E (n+2) q k ((bif ty.arr then some ([Xr ty,C9,ty],(none:Option Ty))else none).bind λe=>(Dv K.fs e.1 s.stk).bind λr=>(aZ K.mx e.2 r).map λr=>(⟨s.loc,r⟩:CP)):=by
    have d:Dn K.b m E (n+2) q k ((bif (K.pool.types.getD i BU).arr then some ([Xr (K.pool.types.getD i BU),C9,K.pool.types.getD i BU],(none:Option Ty))else none).bind λe=>(Dv K.fs e.1 s.stk).bind λr=>(aZ K.mx e.2 r).map λr=>(⟨s.loc,r⟩:CP)):=d
    rw[S]at d;exact d
   simp only[decide_true,go_sem,Nat.reduceAdd,AU (off:=1) A (v:=.bool ty.arr) rfl]
   cases U:ty.arr with
   |false=>
    rw[U]at d
    simp only[go_sem]
    exact d.no _ _ (.refl ..) rfl
   |true=>
    rw[U]at d
    simp only[go_sem,BD A]
    refine AF4 λH3 n3 f3=>?_
    have R:=f3.le
    have N:=f3.get A (by omega)
    refine AVV (BD N) (LH ty) ?_
    refine AVV (BD N) (LH ty) ?_
    refine AYs λH4 n4 x=>?_
    have d2:=x.le
    refine AVV (BD (x.get N (by omega))) (LH ty) ?_
    have B:=(f3.trans x).kw (b:=K.b) (m:=m) (by omega) g
    refine zO (ws:=[ty,C9,Xr ty]) (y.kw B) (h.kp (f3.trans x)) rfl rfl (by omega) (λt M=>?_) ((d.later B).cast ?_)
    ·simp only[List.mem_cons,List.not_mem_nil,or_false]at M
     rcases M with rfl|rfl|rfl
     ·exact u
     ·exact SB
     ·exact u
    ·show(Dv K.fs [Xr ty,C9,ty] s.stk).bind (λr=>some (⟨s.loc,r⟩:CP))=(Dv K.fs [Xr ty,C9,ty] s.stk).map λr=>⟨s.loc,r⟩
     cases Dv K.fs [Xr ty,C9,ty] s.stk<;>rfl
  ·have d3:c=20:=by omega
   subst d3
   have d:Dn K.b m E (n+2) q k ((bif ty.arr then some ([C9,ty],some (Xr ty))else none).bind λe=>(Dv K.fs e.1 s.stk).bind λr=>(aZ K.mx e.2 r).map λr=>(⟨s.loc,r⟩:CP)):=by
    have d:Dn K.b m E (n+2) q k ((bif (K.pool.types.getD i BU).arr then some ([C9,K.pool.types.getD i BU],some (Xr (K.pool.types.getD i BU)))else none).bind λe=>(Dv K.fs e.1 s.stk).bind λr=>(aZ K.mx e.2 r).map λr=>(⟨s.loc,r⟩:CP)):=d
    rw[S]at d;exact d
   simp only[T,decide_false,go_sem,Nat.reduceAdd,AU (off:=1) A (v:=.bool ty.arr) rfl]
   cases U:ty.arr with
   |false=>
    rw[U]at d
    simp only[go_sem]
    exact d.no _ _ (.refl ..) rfl
   |true=>
    rw[U]at d
    simp only[go_sem,BD A]
    refine AF4 λH3 n3 f3=>?_
    have R:=f3.le
    have N:=f3.get A (by omega)
    refine AVV (BD N) (LH ty) ?_
    have w:=f3.kw (b:=K.b) (m:=m) (by omega) g
    have d:=d.later w
    refine aY (ws:=[ty,C9]) (y.kw w) (h.kp f3) rfl rfl (by omega) (λt M=>?_) (λH4 n4 x e=>?_) λH4 n4 r x e Y=>?_
    ·simp only[List.mem_cons,List.not_mem_nil,or_false]at M
     rcases M with rfl|rfl
     ·exact u
     ·exact SB
    ·simp only[go_sem]
     refine d.no _ _ (x.kw (by omega) C) ?_
     show(Dv K.fs [C9,ty] s.stk).bind _=none
     rw[show Dv K.fs [C9,ty] s.stk=none from e];rfl
    ·have g4:=x.get N (by omega) (by omega) (by omega)
     simp only[go_sem,BD g4]
     refine AYs λH5 n5 f5=>?_
     have d2:=x.le
     have V:=(x.kw (m:=m) (by omega) C).trans (f5.kw (by omega) g)
     refine Uh ((y.kw w).kw V) (Y.kp f5) (t:=Xr ty) u ((d.later V).cast ?_)
     show(Dv K.fs [C9,ty] s.stk).bind _=_
     rw[show Dv K.fs [C9,ty] s.stk=some r from e];rfl
end
theorem AQM(fs:Tab):∀(a b s:List Ty),Dv fs (a++b) s=(Dv fs a s).bind (Dv fs b)
 |[],_,_=>rfl
 |_::_,_,[]=>rfl
 |w::a,b,t::s=>by
  show(bif fitsT fs t w then Dv fs (a++b) s else none)=(bif fitsT fs t w then Dv fs a s else none).bind (Dv fs b)
  cases fitsT fs t w with
  |true=>exact AQM fs a b s
  |false=>rfl
section
variable{K:eU}{G:AY}{H:Heap}{n m q:Nat}{at' td w:V}{ws:List Ty}{s:CP}{t:Ty}{k:KV}{p:V}{N:Nat}{Z:LV}
theorem AN8(f:K.At G H m at' td){i:Nat}(hi:i<K.pool.names.length):∃p,Ai 1 K.v1 (.int .i64 (.ofNat i) 0)=some p/\AX p G H=some (K.cx.cl i).nm.v/\(K.cx.cl i).nm.ok:=by
 obtain⟨p,g,d⟩:=f.pool.e1.at (Sz hi)
 have e:(K.cx.cl (i:Int)).nm=K.pool.names[i]:=by
  show K.pool.names.getD (i:Int).toNat (0,0)=_
  rw[List.getD_eq_getElem?_getD,Int.toNat_natCast,List.getElem?_eq_getElem hi];rfl
 rw[e]
 exact⟨p,g,Jv d,f.pool.o1 _ (List.getElem_mem hi)⟩
theorem Kq.el{b n':Nat}{H':Heap}{v:V}{z:Nat}{LS:EL}(f:Kq b q H n H' n')(d:m<=n)(g:m<=q)(hs:Js H b)(i:El G H v z LS)(k:Lo v m):El G H' v z LS:=
 ((f.kw d g).kb.ke (G:=G) hs).el v z LS k i
theorem AWg{c i x:Nat}{u:V}(hc:K.At G H m at' td)(h:IZ H m n q s)(hx:T.get H x=some (one (Ins.cells ⟨.ofNat c,.ofNat i⟩)))(X:x<n)(Y:x≠q)(Z:x≠K.b)(N:c=23∨c=24)(hi:i<K.pool.names.length)(f6:m<=n)
 (d:Dn K.b m H n q k (stepT K.cx s ⟨.ofNat c,.ofNat i⟩)):Df lfp G (Runs F G) k (.ptr K.kb 0) (.ptr q 0) (.ptr x 0) u (.bool true) H n:=by
 delta Df
 have g:K.b<m:=hc.img.tab.bn
 have d0:=h.mq
 have f7:=h.qn
 simp only[go_sem]
 have fin:∀(H':Heap) (n' p y:Nat) (t ty:Ty) (r:List Ty),Kw K.b m H n H' n'->IZ H' m n' q ⟨s.loc,r⟩->T.get H' p=some (one t.cells)->T.get H' y=some (one ty.cells)->p<n'->y<n'->t.nm.ok->ty.nm.ok->s.stk=t::r->
  stepT K.cx s ⟨.ofNat c,.ofNat i⟩=(bif t.cls||t.is CZ then(Cc K.mx ty r).map λr=>⟨s.loc,r⟩else none)->Ci lfp G (Runs F G) k (.ptr K.kb 0) (.ptr q 0) (.ptr p 0) (.bool true) (.ptr y 0) H' n':=by
  intro H' n' p y t ty r f hs gp gy C d9 d1 O e eq
  have d:=(d.later f).cast eq
  delta Ci
  have hn:=f.le
  simp only[go_sem,BD gp]
  refine AMU d1 λH3 M f3=>?_
  have d2:=f3.le
  have gp:=f3.get gp C
  have gy:=f3.get gy d9
  refine AW7 (t:=t) (BD gp) (f:=λH' f=>BD (f.get gp (by omega))) λH4 n4 A=>?_
  have gy:=A.get gy (by omega)
  have f8:=A.le
  have d3:=f3.trans A
  have D:=d3.kw (b:=K.b) (m:=m) (by omega) g
  cases hb:t.cls||t.is CZ with
  |false=>
   rw[hb]at d
   simp only[go_sem]
   exact d.no _ _ D rfl
  |true=>
   rw[hb]at d
   simp only[go_sem,BD gy]
   exact Uh ((hc.kw f).kw D) (hs.kp d3) O (d.later D)
 refine qh g h (λe H2 p f2 hp g2 _=>?_) λt r e H2 p f2 hp g2 hs=>?_
 ·have P:=f2.kw (m:=m) (by omega) d0
  have d4:stepT K.cx s ⟨.ofNat c,.ofNat i⟩=none:=by
   rcases N with rfl|rfl
   ·show(match s.stk with|[]=>none|t::k=>_)=none;rw[e]
   ·show(match s.stk with|[]=>none|t::k=>_)=none;rw[e]
  have d5:p+1<=p+1:=Nat.le_refl _
  refine ASo λH3 M f3=>?_
  have d2:=f3.le
  have w:=f2.get hx X Z Y
  have w:=f3.get w (by omega)
  have Q:=f3.get g2 (by omega)
  show Bz 2 (.ptr M 0) (.agg Ew.cells) _ _ _
  refine Yb rfl rfl (by omega) λH4 A g4=>?_
  have E:=A.get w (by omega)
  have L:=A.get Q (by omega)
  have D:=P.trans ((f3.trans A).kw (b:=K.b) (m:=m) (by omega) g)
  simp only[go_sem,Nat.reduceAdd,AU (off:=0) E (v:=.int .i64 (.ofNat c) 0) rfl,lW]
  by_cases B:c=23
  ·have I:=hc.kw D
   obtain⟨pn,C,R,d6⟩:=AN8 I hi
   have S:AX (.ptr x 1) G H4=some (.int .i64 (.ofNat i) 0):=AU E rfl
   simp only[B,decide_true,go_sem,Nat.reduceAdd,AU (off:=6) I.box (v:=K.v1) rfl,S,C,R]
   refine AFA λH5 n5 J=>?_
   have f0:=J.le
   show Bz 2 (.ptr M 0) (.agg (K.cx.cl i).cells) _ _ _
   refine Rn (J.get g4 (by omega)) rfl rfl (by omega) λH6 g6 W=>?_
   have U:=(D.trans (J.kw (b:=K.b) (m:=m) (by omega) g)).trans (Kw.of (b:=K.b) (m:=m) (H':=H6) (n:=n5) (n':=n5) g (Nat.le_refl _) λid f1=>W id (by omega))
   have d7:=(W p (by omega)).trans (J.get L (by omega))
   delta Ci
   simp only[go_sem]
   exact d.no _ _ U d4
  ·have d8:c=24:=by omega
   simp only[B,decide_false,go_sem]
   delta Ci
   simp only[go_sem]
   exact d.no _ _ D d4
 ·have P:=f2.kw (m:=m) (by omega) d0
  have d5:p+1<=p+1:=Nat.le_refl _
  refine ASo λH3 M f3=>?_
  have d2:=f3.le
  have w:=f2.get hx X Z Y
  have w:=f3.get w (by omega)
  have Q:=f3.get g2 (by omega)
  show Bz 2 (.ptr M 0) (.agg Ew.cells) _ _ _
  refine Yb rfl rfl (by omega) λH4 A g4=>?_
  have E:=A.get w (by omega)
  have L:=A.get Q (by omega)
  have D:=P.trans ((f3.trans A).kw (b:=K.b) (m:=m) (by omega) g)
  simp only[go_sem,Nat.reduceAdd,AU (off:=0) E (v:=.int .i64 (.ofNat c) 0) rfl,lW]
  by_cases B:c=23
  ·have I:=hc.kw D
   obtain⟨pn,C,R,d6⟩:=AN8 I hi
   have S:AX (.ptr x 1) G H4=some (.int .i64 (.ofNat i) 0):=AU E rfl
   simp only[B,decide_true,go_sem,Nat.reduceAdd,AU (off:=6) I.box (v:=K.v1) rfl,S,C,R]
   refine AFA λH5 n5 J=>?_
   have f0:=J.le
   show Bz 2 (.ptr M 0) (.agg (K.cx.cl i).cells) _ _ _
   refine Rn (J.get g4 (by omega)) rfl rfl (by omega) λH6 g6 W=>?_
   have U:=(D.trans (J.kw (b:=K.b) (m:=m) (by omega) g)).trans (Kw.of (b:=K.b) (m:=m) (H':=H6) (n:=n5) (n':=n5) g (Nat.le_refl _) λid f1=>W id (by omega))
   have d7:=(W p (by omega)).trans (J.get L (by omega))
   refine fin _ _ p M t (K.cx.cl i) r U (hs.mono (by omega) (λid _ h2=>by rw[W _ (by omega),J.same _ (by omega),A.same _ (by omega),f3.same _ (by omega)])) d7 g6 (by omega) (by omega) (h.os t (by rw[e];exact List.mem_cons_self ..)) d6 e ?_
   subst B
   show(match s.stk with|[]=>none|t::k=>bif t.cls||t.is CZ then(Cc K.mx (K.cx.cl i) k).map λk=>(⟨s.loc,k⟩:CP)else none)=_
   rw[e]
  ·have d8:c=24:=by omega
   simp only[B,decide_false,go_sem]
   refine fin _ _ p M t Ew r D (hs.mono (by omega) (λid _ h2=>by rw[A.same _ (by omega),f3.same _ (by omega)])) L g4 (by omega) (by omega) (h.os t (by rw[e];exact List.mem_cons_self ..)) Yq e ?_
   subst d8
   show(match s.stk with|[]=>none|t::k=>bif t.cls||t.is CZ then(Cc K.mx Ew k).map λk=>(⟨s.loc,k⟩:CP)else none)=_
   rw[e]
end
section
variable{K:eU}{G:AY}{H:Heap}{n m q:Nat}{at' td w:V}{ws:List Ty}{s:CP}{t:Ty}{k:KV}{p:V}{N:Nat}{Z:LV}
theorem Ag2(a b:Bool):CU (.one .bool) true (.bool a) (.bool b)=some (.bool (!(a==b))):=by cases a<;>cases b<;>rfl
theorem ARc(g:K.At G H m at' td){i:Nat}(hi:i<K.pool.fields.length):∃p,Ai 4 K.v3 (.int .i64 (.ofNat i) 0)=some p/\Aj 4 p G H=some (.agg (K.cx.fl i).cells)/\(K.cx.fl i).f.ty.nm.ok/\(K.cx.fl i).own.ok:=by
 obtain⟨p,k,d⟩:=g.pool.e3.at (i:=i) (c:=K.pool.fields[i].cells) (by simp[hi])
 have e:K.cx.fl (i:Int)=K.pool.fields[i]:=by
  show K.pool.fields.getD (i:Int).toNat fZ=_
  rw[List.getD_eq_getElem?_getD,Int.toNat_natCast,List.getElem?_eq_getElem hi];rfl
 rw[e]
 exact⟨p,k,Bj d,(g.pool.o3 _ (List.getElem_mem hi)).2⟩
theorem AZv(d:K.At G H m at' td){i:Nat}(hi:i<K.pool.Bg.length):∃p w,Ai 6 K.v4 (.int .i64 (.ofNat i) 0)=some p/\Aj 6 p G H=some (.agg ((K.cx.me i).cells w))/\GY G H m w (K.cx.me i).m.ps/\(K.cx.me i).m.ret.nm.ok/\(K.cx.me i).own.ok:=by
 have g:i<K.ws.length:=by rw[d.pool.AHO];exact hi
 obtain⟨p,k,f⟩:=d.pool.e4.at (i:=i) (c:=K.pool.Bg[i].cells K.ws[i]) (by simp[List.getElem?_zipWith,hi,g])
 have e:K.cx.me (i:Int)=K.pool.Bg[i]:=by
  show K.pool.Bg.getD (i:Int).toNat mZ=_
  rw[List.getD_eq_getElem?_getD,Int.toNat_natCast,List.getElem?_eq_getElem hi];rfl
 rw[e]
 exact⟨p,K.ws[i],k,Bj f,d.pool.at4 i _ _ (List.getElem?_eq_getElem hi) (List.getElem?_eq_getElem g),(d.pool.o4 _ (List.getElem_mem hi)).2⟩
theorem AYS{c i x:Nat}(p:K.At G H m at' td)(h:IZ H m n q s)(hx:T.get H x=some (one (Ins.cells ⟨.ofNat c,.ofNat i⟩)))(S:x<n)(d2:x≠q)(d3:x≠K.b)(B:c=25∨c=26)(hi:i<K.pool.Bg.length)(d4:m<=n)
 (d:Dn K.b m H n q k (stepT K.cx s ⟨.ofNat c,.ofNat i⟩)):DU lfp G (Runs F G) k (.ptr K.kb 0) (.ptr q 0) (.ptr x 0) (.bool true) H n:=by
 delta DU
 have E:K.b<m:=p.img.tab.bn
 have u:=h.mq
 have d5:=h.qn
 obtain⟨pm,w,U,V,W,A,I⟩:=AZv p hi
 have X:AX (.ptr x 1) G H=some (.int .i64 (.ofNat i) 0):=AU hx rfl
 simp only[go_sem,Nat.reduceAdd,AU (off:=9) p.box (v:=K.v4) rfl,X,U,V]
 have dd:stepT K.cx s ⟨.ofNat c,.ofNat i⟩=bif !((K.cx.me i).m.st==decide (c=26))then none else(Dv K.fs (K.cx.me i).m.ps.reverse s.stk).bind λr=>
  (bif decide (c=25)then Dv K.fs [⟨(K.cx.me i).own,false⟩] r else some r).bind λr=>(Cc K.mx (K.cx.me i).m.ret r).map λr=>(⟨s.loc,r⟩:CP):=by
  rcases B with rfl|rfl
  ·show(Option.bind (bif (K.cx.me i).m.st then none else some ((K.cx.me i).m.ps.reverse++[⟨(K.cx.me i).own,false⟩],some (K.cx.me i).m.ret)) _)=_
   cases(K.cx.me i).m.st with
   |true=>rfl
   |false=>
    show(Dv K.fs ((K.cx.me i).m.ps.reverse++[⟨(K.cx.me i).own,false⟩]) s.stk).bind _=(Dv K.fs (K.cx.me i).m.ps.reverse s.stk).bind _
    rw[AQM]
    cases Dv K.fs (K.cx.me i).m.ps.reverse s.stk<;>rfl
  ·show(Option.bind (bif (K.cx.me i).m.st then some ((K.cx.me i).m.ps.reverse,some (K.cx.me i).m.ret)else none) _)=_
   cases(K.cx.me i).m.st with
   |false=>rfl
   |true=>rfl
 rw[dd]at d
 generalize K.cx.me (i:Int)=mm at*
 show Bz 6 (.ptr n 0) (.agg (mm.cells w)) _ _ _
 refine Yb rfl rfl (by omega) λH2 Y Z=>?_
 have J:=Y.get hx S
 have C:=Y.kw (b:=K.b) (m:=m) (by omega) E
 have d0:=p.img.tab.seen
 have h:=h.kp Y
 have p:=p.kw C
 have d:=d.later C
 simp only[go_sem,Nat.reduceAdd,AU (off:=1) Z (v:=.bool mm.m.st) rfl,AU (off:=0) J (v:=.int .i64 (.ofNat c) 0) rfl,lW,Ag2]
 cases L:mm.m.st==decide (c=26)with
 |false=>
  rw[L]at d
  simp only[Bool.not_false,go_sem]
  exact d.no _ _ (.refl ..) rfl
 |true=>
  rw[L]at d
  simp only[Bool.not_true,go_sem,Nat.reduceAdd,AU (off:=2) Z (v:=w) rfl]
  have M:=W.ke ((C.kb).ke (G:=G) d0)
  refine AT7 (ws:=mm.m.ps) p h (λH' n' f=>f.el (m:=m) (by omega) u p.img.tab.seen M.el M.lo) W.lt W.ok (λH3 n3 f3 e=>?_) λH3 n3 r f3 e Q=>?_
  ·simp only[go_sem,BZ,Bool.not_false]
   exact d.no _ _ (f3.kw (by omega) u) (by rw[show Dv K.fs mm.m.ps.reverse s.stk=none from e];rfl)
  ·have d6:=f3.le
   have d1:=f3.get J (by omega) (by omega) (by omega)
   have g3:=f3.get Z (by omega) (by omega) (by omega)
   have N:=f3.kw (m:=m) (by omega) u
   have p:=p.kw N
   have d:=(d.later N).cast (o':=(bif decide (c=25)then Dv K.fs [⟨mm.own,false⟩] r else some r).bind λr=>(Cc K.mx mm.m.ret r).map λr=>(⟨s.loc,r⟩:CP)) (by rw[show Dv K.fs mm.m.ps.reverse s.stk=some r from e];rfl)
   have gr:∀{H':Heap},T.get H' n=some (one (mm.cells w))->Aj 2 (.ptr n 3) G H'=some mm.m.ret.v:=λg=>by
    rw[GH g (by omega) (by show 3+2<=6;omega)];rfl
   simp only[BZ,Bool.not_true,go_sem,Nat.reduceAdd,AU (off:=0) d1 (v:=.int .i64 (.ofNat c) 0) rfl,lW]
   by_cases y:c=25
   ·simp only[y,decide_true,go_sem,Nat.reduceAdd,AU (off:=5) g3 (v:=mm.own.v) rfl]
    rw[decide_eq_true y]at d
    refine AFA λH4 n4 R=>?_
    have d7:=R.le
    have D:=R.kw (b:=K.b) (m:=m) (by omega) E
    have g4:=R.get g3 (by omega)
    have d:=d.later D
    refine aY (ws:=[⟨mm.own,false⟩]) (p.kw D) (Q.kp R) rfl rfl (by omega) (λt ht=>?_) (λH5 n5 O e=>?_) λH5 n5 r2 O e Q=>?_
    ·rw[List.mem_singleton.1 ht];exact I
    ·exact d.no _ _ (O.kw (by omega) u) (by show(Dv K.fs [⟨mm.own,false⟩] r).bind _=none;rw[show Dv K.fs [⟨mm.own,false⟩] r=none from e];rfl)
    ·have d8:=O.le
     have P:=O.kw (m:=m) (by omega) u
     simp only[BZ,Bool.not_true,go_sem,gr (O.get g4 (by omega) (by omega) (by omega))]
     exact Uh ((p.kw D).kw P) Q A ((d.later P).cast (by show(Dv K.fs [⟨mm.own,false⟩] r).bind _=_;rw[show Dv K.fs [⟨mm.own,false⟩] r=some r2 from e];rfl))
   ·simp only[y,decide_false,go_sem,gr g3]
    rw[decide_eq_false y]at d
    exact Uh p Q A d
end
section
variable{K:eU}{G:AY}{H:Heap}{n m q:Nat}{at' td w:V}{ws:List Ty}{s:CP}{t:Ty}{k:KV}{p:V}{N:Nat}{Z:LV}
theorem AJV(o:Option (List Ty))(f:List Ty->CP):(o.bind λr=>some (f r))=o.map f:=by cases o<;>rfl
theorem AWh(hG:Vz G){c i:Nat}(p:K.At G H m at' td)(h:IZ H m n q s)(g0:m<=n)(u:AGS K.pool s.loc.length c i)(d8:16<=c/\c<=26)
 (d:Dn K.b m H n q k (stepT K.cx s ⟨.ofNat c,.ofNat i⟩)):Runs F G VZ [.ptr K.kb 0,.ptr q 0,.agg (Ins.cells ⟨.ofNat c,.ofNat i⟩)] H n k:=by
 refine go3 (mG BF G) ?_
 delta VR
 have C:K.b<m:=p.img.tab.bn
 have J:=h.mq
 have g4:=h.qn
 refine FT λH1 f1 O=>?_
 have h:=h.kp f1
 have X:=f1.kw (b:=K.b) (m:=m) (by omega) C
 have p:=p.kw X
 have d:=d.later X
 have L:AX (.ptr n 1) G H1=some (.int .i64 (.ofNat i) 0):=AU O rfl
 simp only[go_sem,Nat.reduceAdd,AU (off:=0) O (v:=.int .i64 (.ofNat c) 0) rfl,lW]
 by_cases Y:c=18
 ·subst Y
  obtain⟨pn,d9,D,f0⟩:=AN8 p (u.nm (by omega))
  simp only[decide_true,go_sem,Nat.reduceAdd,AU (off:=6) p.box (v:=K.v1) rfl,L,d9,D]
  refine AFA λH2 n2 A=>?_
  have E:=A.kw (b:=K.b) (m:=m) (by omega) C
  exact Uh (t:=K.cx.cl i) (p.kw E) (h.kp A) f0 (d.later E)
 simp only[Y,decide_false,go_sem]
 by_cases Z:c=19
 ·subst Z
  have M:=u.ty (by omega)
  obtain⟨pt,f5,d0⟩:=p.pool.t2.el.at (Tj M)
  have f6:K.pool.types.getD i BU=K.pool.types[i]:=by rw[List.getD_eq_getElem?_getD,List.getElem?_eq_getElem M];rfl
  have w:=p.pool.t2.ok _ (List.getElem_mem M)
  have d:Dn K.b m H1 (n+1) q k ((bif (K.pool.types.getD i BU).arr then some ([C9],some (K.pool.types.getD i BU))else none).bind λe=>(Dv K.fs e.1 s.stk).bind λr=>(aZ K.mx e.2 r).map λr=>(⟨s.loc,r⟩:CP)):=d
  rw[f6]at d
  obtain⟨p1,f7,d1⟩:=dD hG d0 (by rfl) (o:=1) (x:=.bool K.pool.types[i].arr) rfl
  simp only[decide_true,go_sem,Nat.reduceAdd,AU (off:=7) p.box (v:=K.v2) rfl,L,f5,f7,d1]
  cases ha:K.pool.types[i].arr with
  |false=>
   rw[ha]at d
   simp only[go_sem]
   exact d.no _ _ (.refl ..) rfl
  |true=>
   rw[ha]at d
   simp only[go_sem]
   refine AF4 λH2 n2 A=>?_
   have g5:=A.le
   have E:=A.kw (b:=K.b) (m:=m) (by omega) C
   have d2:=p.kw E
   have P:=A.get O (by omega)
   have d:=d.later E
   refine aY (N:=1) (ws:=[C9]) d2 (h.kp A) rfl rfl (by omega) (λt W=>?_) (λH3 n3 f3 e=>?_) λH3 n3 r f3 e hs=>?_
   ·rw[List.mem_singleton.1 W];exact SB
   ·simp only[go_sem]
    refine d.no _ _ (f3.kw (by omega) J) ?_
    show(Dv K.fs [C9] s.stk).bind _=none
    rw[show Dv K.fs [C9] s.stk=none from e];rfl
   ·have y:=f3.kw (m:=m) (by omega) J
    have B:=d2.kw y
    have g3:=f3.get P (by omega) (by omega) (by omega)
    have f8:AX (.ptr n 1) G H3=some (.int .i64 (.ofNat i) 0):=AU g3 rfl
    obtain⟨g6,d3,d4⟩:=B.pool.t2.el.at (Tj M)
    simp only[go_sem,Nat.reduceAdd,AU (off:=7) B.box (v:=K.v2) rfl,f8,d3,Bj d4]
    refine Uh B hs w ((d.later y).cast ?_)
    show(Dv K.fs [C9] s.stk).bind _=_
    rw[show Dv K.fs [C9] s.stk=some r from e];rfl
 simp only[Z,decide_false,go_sem]
 by_cases Q:c=23
 ·simp only[Q,decide_true,go_sem]
  subst Q
  exact AWg p h O (by omega) (by omega) (by omega) (by omega) (u.nm (by omega)) (by omega) d
 simp only[Q,decide_false,go_sem]
 by_cases R:c=24
 ·simp only[R,decide_true]
  subst R
  exact AWg p h O (by omega) (by omega) (by omega) (by omega) (u.nm (by omega)) (by omega) d
 simp only[R,decide_false]
 delta Df
 simp only[go_sem,lW]
 by_cases d5:c=16
 ·subst d5
  obtain⟨pf,S,D,w,I⟩:=ARc p (u.fl (by omega))
  simp only[decide_true,go_sem,Nat.reduceAdd,AU (off:=8) p.box (v:=K.v3) rfl,L,S,D]
  have d:Dn K.b m H1 (n+1) q k ((Dv K.fs [⟨(K.cx.fl i).own,false⟩] s.stk).bind λr=>(Cc K.mx (K.cx.fl i).f.ty r).map λr=>(⟨s.loc,r⟩:CP)):=d
  generalize K.cx.fl (i:Int)=ff at*
  show Bz 4 (.ptr (n+1) 0) (.agg ff.cells) _ _ _
  refine Yb rfl rfl (by omega) λH2 A P=>?_
  simp only[go_sem,Nat.reduceAdd,AU (off:=3) P (v:=ff.own.v) rfl]
  refine AFA λH3 n3 f3=>?_
  have f9:=f3.le
  have g3:=f3.get P (by omega)
  have gr:∀{H':Heap},T.get H' (n+1)=some (one ff.cells)->Aj 2 (.ptr (n+1) 1) G H'=some ff.f.ty.v:=λg=>by
   rw[GH g (by omega) (by show 1+2<=4;omega)];rfl
  have y:=(A.trans f3).kw (b:=K.b) (m:=m) (by omega) C
  have d:=d.later y
  have B:=p.kw y
  refine aY (N:=1) (ws:=[⟨ff.own,false⟩]) B (h.kp (A.trans f3)) rfl rfl (by omega) (λt W=>by rw[List.mem_singleton.1 W];exact I) (λH4 n4 f4 e=>?_) λH4 n4 r f4 e hs=>?_
  ·simp only[go_sem]
   refine d.no _ _ (f4.kw (by omega) J) ?_
   rw[show Dv K.fs [⟨ff.own,false⟩] s.stk=none from e];rfl
  ·have d6:=f4.kw (m:=m) (by omega) J
   simp only[go_sem,Nat.reduceAdd,gr (f4.get g3 (by omega) (by omega) (by omega))]
   exact Uh (B.kw d6) hs w ((d.later d6).cast (by rw[show Dv K.fs [⟨ff.own,false⟩] s.stk=some r from e];rfl))
 simp only[d5,decide_false,go_sem]
 by_cases d7:c=17
 ·subst d7
  obtain⟨pf,S,D,w,I⟩:=ARc p (u.fl (by omega))
  simp only[decide_true,go_sem,Nat.reduceAdd,AU (off:=8) p.box (v:=K.v3) rfl,L,S,D]
  have d:Dn K.b m H1 (n+1) q k ((Dv K.fs [(K.cx.fl i).f.ty,⟨(K.cx.fl i).own,false⟩] s.stk).bind λr=>some (⟨s.loc,r⟩:CP)):=d
  rw[AJV]at d
  generalize K.cx.fl (i:Int)=ff at*
  show Bz 4 (.ptr (n+1) 0) (.agg ff.cells) _ _ _
  refine Yb rfl rfl (by omega) λH2 A P=>?_
  have gr:∀{H':Heap},T.get H' (n+1)=some (one ff.cells)->Aj 2 (.ptr (n+1) 1) G H'=some ff.f.ty.v:=λg=>by
   rw[GH g (by omega) (by show 1+2<=4;omega)];rfl
  simp only[go_sem,Nat.reduceAdd,AU (off:=3) P (v:=ff.own.v) rfl,gr P]
  refine AFA λH3 n3 f3=>?_
  have f9:=f3.le
  have g3:=f3.get P (by omega)
  have y:=(A.trans f3).kw (b:=K.b) (m:=m) (by omega) C
  rw[gr g3,AP,LH,X5]
  refine zO (ws:=[⟨ff.own,false⟩,ff.f.ty]) (p.kw y) (h.kp (A.trans f3)) rfl rfl (by omega) (λt W=>?_) (d.later y)
  simp only[List.mem_cons,List.not_mem_nil,or_false]at W
  rcases W with rfl|rfl
  ·exact I
  ·exact w
 simp only[d7,decide_false,go_sem]
 by_cases U:c=25
 ·simp only[U,decide_true,go_sem]
  subst U
  exact AYS p h O (by omega) (by omega) (by omega) (by omega) (u.me (by omega)) (by omega) d
 simp only[U,decide_false,go_sem]
 by_cases V:c=26
 ·simp only[V,decide_true]
  subst V
  exact AYS p h O (by omega) (by omega) (by omega) (by omega) (u.me (by omega)) (by omega) d
 simp only[V,decide_false]
 delta DU
 simp only[go_sem,CG (m:=2) O (by omega) rfl]
 exact AZl p h (by omega) (λ_=>u.ty (by omega)) d
end
section
variable{K:eU}{G:AY}{H:Heap}{n m q:Nat}{at' td w:V}{ws:List Ty}{s:CP}{t:Ty}{k:KV}{p:V}{N:Nat}{Z:LV}
theorem AYw{c i x y z:Nat}(O:K.At G H m at' td)(h:IZ H m n q s)(hx:T.get H x=some (one (Ins.cells ⟨.ofNat c,.ofNat i⟩)))(d1:x<n)(d2:x≠q)(d3:x≠K.b)(hz:T.get H z=some (one Ew.cells))(d4:z<n)(d5:z≠q)(d6:z≠K.b)
 (f:c=12∨c=13) (d7:m<=n)
 (d:Dn K.b m H n q k (stepT K.cx s ⟨.ofNat c,.ofNat i⟩)):DN lfp G (Runs F G) k (.ptr K.kb 0) (.ptr q 0) (.ptr x 0) (.ptr y 0) (.ptr z 0) (.int .i64 (.ofNat c) 0) (.bool true) H n:=by
 delta DN
 have u:K.b<m:=O.img.tab.bn
 have C:=h.mq
 have d8:=h.qn
 simp only[go_sem]
 refine qh u h (λe H2 p P hp g2 hs=>?_) λa r e H2 p P hp g2 hs=>?_
 ·have I:=P.kw (m:=m) (by omega) C
  have J:stepT K.cx s ⟨.ofNat c,.ofNat i⟩=none:=by
   rcases f with rfl|rfl
   ·show(match s.stk with|a::b::k=>_|_=>none)=none;rw[e]
   ·show(match s.stk with|a::b::k=>_|_=>none)=none;rw[e]
  refine qh u (hs.mono (H':=H2) (Nat.le_succ p) λ_ _ _=>rfl) (λD W X f3 L N w=>?_) λa r D W X f3 L N w=>?_
  ·simp only[go_sem]
   exact d.no _ _ (I.trans (f3.kw (by omega) C)) J
  ·rw[e]at D;cases D
 ·have I:=P.kw (m:=m) (by omega) C
  have E:a.nm.ok:=h.os a (by rw[e];exact List.mem_cons_self ..)
  refine qh u (hs.mono (H':=H2) (Nat.le_succ p) λ_ _ _=>rfl) (λD W X f3 L N w=>?_) λb r3 D W X f3 L N w=>?_
  ·have D:r=[]:=D
   subst D
   have J:stepT K.cx s ⟨.ofNat c,.ofNat i⟩=none:=by
    rcases f with rfl|rfl
    ·show(match s.stk with|a::b::k=>_|_=>none)=none;rw[e]
    ·show(match s.stk with|a::b::k=>_|_=>none)=none;rw[e]
   simp only[go_sem]
   exact d.no _ _ (I.trans (f3.kw (by omega) C)) J
  ·have D:r=b::r3:=D
   subst D
   have Q:b.nm.ok:=h.os b (by rw[e];exact List.mem_cons_of_mem _ (List.mem_cons_self ..))
   have R:=I.trans (f3.kw (m:=m) (by omega) C)
   have O:=O.kw R
   have Y:=f3.get (P.get hx (by omega) (by omega) (by omega)) (by omega) (by omega) (by omega)
   have gz:=f3.get (P.get hz (by omega) (by omega) (by omega)) (by omega) (by omega) (by omega)
   have ga:=f3.get g2 (by omega) (by omega) (by omega)
   have w:=w.mono (H':=W) (Nat.le_succ X) λ_ _ _=>rfl
   have d:=d.later R
   rcases f with rfl|rfl
   ·have d:=d.cast (o':=bif a.is b&& !a.obj then(Cc K.mx Ew r3).map λk=>⟨s.loc,k⟩else none) (by
     show(match s.stk with|a::b::k=>bif a.is b&& !a.obj then(Cc K.mx Ew k).map λk=>(⟨s.loc,k⟩:CP)else none|_=>none)=_
     rw[e])
    simp only[go_sem,Nat.reduceAdd,AU (off:=0) Y (v:=.int .i64 (.ofNat 12) 0) rfl,lW,decide_true,BD ga,BD N,vH]
    have S:∀{H':Heap},T.get H' x=some (one (Ins.cells ⟨.ofNat 12,.ofNat i⟩))->AX (.ptr x 0) G H'=some (.int .i64 (.ofNat 12) 0):=λg=>AU g rfl
    cases M:a.is b with
    |false=>
     rw[M]at d
     simp only[go_sem,S Y,lW,Nat.reduceEqDiff,decide_false]
     exact d.no _ _ (.refl ..) rfl
    |true=>
     rw[M]at d
     simp only[go_sem,BD ga]
     refine oL E λH4 n4 B=>?_
     have d0:=B.le
     have A:=B.kw (b:=K.b) (m:=m) (by omega) u
     have d:=d.later A
     cases U:a.obj with
     |true=>
      rw[U]at d
      simp only[go_sem,BZ,Bool.not_true,Nat.reduceAdd,S (B.get Y (by omega)),lW,Nat.reduceEqDiff,decide_false]
      exact d.no _ _ (.refl ..) rfl
     |false=>
      rw[U]at d
      simp only[go_sem,BZ,Bool.not_false,BD (B.get gz (by omega))]
      exact Uh (O.kw A) (w.kp B) Yq d
   ·have d:=d.cast (o':=bif a.obj&&b.obj then(Cc K.mx Ew r3).map λk=>⟨s.loc,k⟩else none) (by
     show(match s.stk with|a::b::k=>bif a.obj&&b.obj then(Cc K.mx Ew k).map λk=>(⟨s.loc,k⟩:CP)else none|_=>none)=_
     rw[e])
    simp only[go_sem,Nat.reduceAdd,AU (off:=0) Y (v:=.int .i64 (.ofNat 13) 0) rfl,lW,BD ga,BD N,vH,decide_false,decide_true]
    cases M:a.obj with
    |false=>
     rw[M]at d
     refine oL E λH4 n4 B=>?_
     have A:=B.kw (b:=K.b) (m:=m) (by omega) u
     rw[M]
     simp only[go_sem]
     exact d.no _ _ A rfl
    |true=>
     rw[M]at d
     refine oL E λH4 n4 B=>?_
     have d0:=B.le
     have A:=B.kw (b:=K.b) (m:=m) (by omega) u
     have d:=d.later A
     rw[M]
     simp only[go_sem,BD (B.get N (by omega))]
     refine oL Q λH5 n5 Z=>?_
     have d9:=Z.le
     have V:=Z.kw (b:=K.b) (m:=m) (by omega) u
     have d:=d.later V
     cases U:b.obj with
     |false=>
      rw[U]at d
      simp only[go_sem]
      exact d.no _ _ (.refl ..) rfl
     |true=>
      rw[U]at d
      simp only[go_sem,BD (Z.get (B.get gz (by omega)) (by omega))]
      exact Uh ((O.kw A).kw V) ((w.kp B).kp Z) Yq d
end
section
variable{K:eU}{G:AY}{H:Heap}{n m q:Nat}{at' td w:V}{ws:List Ty}{s:CP}{t:Ty}{k:KV}{p:V}{N:Nat}{Z:LV}
theorem IZ.AXy{D:IntKind}{i:Nat}{P:KV}(h:IZ H m n q s)(hi:i<s.loc.length)(E:t.nm.ok){k vs:V}(g:T.get H q=some (one [k,vs]))
 (F:∀H',(∀id,id<m->T.get H' id=T.get H id)->IZ H' m n q ⟨s.loc.set i t,s.stk⟩->P .undef H' n):AL (Ai 2 k (.int D (.ofNat i) 0)) λp=>Bz 2 p t.v H n P:=by
 obtain⟨G,I,B,u,C,hd⟩:=h.is
 rw[g]at B
 cases B
 refine u.put (w:=t.v) (by omega) (by rw[EP];exact hi) rfl rfl λH' f y=>?_
 have e:(tys s.loc).set i (A8 t.v)=tys (s.loc.set i t):=by rw[show A8 t.v=t.cells from rfl];exact(List.map_set ..).symm
 rw[e]at f
 refine F H' (λid d=>y id λe=>by have:=(u.own e).1;omega) ⟨h.mq,h.qn,⟨k,vs,(y q λe=>(u.own e).2.2 rfl).trans g,f,?_,hd⟩,?_,h.os,?_,h.bs⟩
 ·exact C.AHu (λid d=>C.own d) λid d=>y id λe=>hd id e d
 ·intro x A
  rcases List.mem_or_eq_of_mem_set A with A|rfl
  ·exact h.ol x A
  ·exact E
 ·show(s.loc.set i t).length<=100000
  rw[List.length_set];exact h.bl
structure APJ(H:Heap)(n q b x y z c i:Nat):Prop where
 gx:T.get H x=some (one (Ins.cells ⟨.ofNat c,.ofNat i⟩))
 gy:T.get H y=some (one C9.cells)
 gz:T.get H z=some (one Ew.cells)
 xn:x<n
 yn:y<n
 zn:z<n
 xq:x≠q
 yq:y≠q
 zq:z≠q
 xb:x≠b
 yb:y≠b
 zb:z≠b
theorem APJ.kq{b x y z c i n':Nat}{H':Heap}(h:APJ H n q b x y z c i)(f:Kq b q H n H' n'):APJ H' n' q b x y z c i:=
 ⟨f.get h.gx h.xn h.xb h.xq,f.get h.gy h.yn h.yb h.yq,f.get h.gz h.zn h.zb h.zq,Nat.lt_of_lt_of_le h.xn f.le,Nat.lt_of_lt_of_le h.yn f.le,Nat.lt_of_lt_of_le h.zn f.le,h.xq,h.yq,h.zq,h.xb,h.yb,h.zb⟩
theorem AKt{u:Ty}(d:u.nm.ok):∀t∈[u],t.nm.ok:=λt f=>by rw[List.mem_singleton.1 f];exact d
theorem AX4{u v:Ty}(f:u.nm.ok)(g:v.nm.ok):∀t∈[u,v],t.nm.ok:=λt d=>by
 simp only[List.mem_cons,List.not_mem_nil,or_false]at d
 rcases d with rfl|rfl
 ·exact f
 ·exact g
theorem AWu(O:Vz G){c i x y z:Nat}(f:K.At G H m at' td)(h:IZ H m n q s)(D:APJ H n q K.b x y z c i)(E:m<=n)(I:AGS K.pool s.loc.length c i)(J:16<=c/\c<=31)
 (d:Dn K.b m H n q k (stepT K.cx s ⟨.ofNat c,.ofNat i⟩)):DN lfp G (Runs F G) k (.ptr K.kb 0) (.ptr q 0) (.ptr x 0) (.ptr y 0) (.ptr z 0) (.int .i64 (.ofNat c) 0) (.bool false) H n:=by
 delta DN
 have L:K.b<m:=f.img.tab.bn
 have g:=h.mq
 have P:=h.qn
 simp only[go_sem,lW]
 by_cases u:c=30
 ·subst u
  simp only[decide_true,go_sem,BD D.gy]
  refine zO (ws:=[C9]) f h rfl rfl (by omega) (AKt SB) (d.cast ?_)
  show(Dv K.fs [C9] s.stk).bind (λr=>some (⟨s.loc,r⟩:CP))=_
  rw[AJV];rfl
 simp only[u,decide_false,go_sem]
 by_cases w:c=28
 ·subst w
  simp only[decide_true,go_sem,BD D.gz]
  refine zO (ws:=[Ew]) f h rfl rfl (by omega) (AKt Yq) (d.cast ?_)
  show(Dv K.fs [Ew] s.stk).bind (λr=>some (⟨s.loc,r⟩:CP))=_
  rw[AJV];rfl
 simp only[w,decide_false,go_sem]
 by_cases A:c=31
 ·subst A
  simp only[decide_true,go_sem]
  refine qh L h (λe Q p M R S N=>?_) λa r e Q p M R S N=>?_
  ·exact d.no _ _ (M.kw (by omega) g) (by show(match s.stk with|[]=>none|_::k=>_)=none;rw[e])
  ·exact d.yes _ _ _ (M.kw (by omega) g) (by show(match s.stk with|[]=>none|_::k=>some (⟨s.loc,k⟩:CP))=_;rw[e]) (N.mono (Nat.le_succ p) λ_ _ _=>rfl)
 simp only[A,decide_false,go_sem]
 by_cases B:c=29
 ·subst B
  have T:Aj 2 (.ptr K.kb 17) G H=some K.ret.v:=by rw[GH f.box (by omega) (by show 17+2<=21;omega)];rfl
  simp only[decide_true,go_sem,Nat.reduceAdd,T]
  refine zO (ws:=[K.ret]) f h rfl rfl (by omega) (AKt f.rok) (d.cast ?_)
  show(Dv K.fs [K.ret] s.stk).bind (λr=>some (⟨s.loc,r⟩:CP))=_
  rw[AJV];rfl
 simp only[B,decide_false,go_sem]
 by_cases C:c=27
 ·subst C
  simp only[decide_true,go_sem]
  exact d.yes _ _ _ (.refl ..) rfl h
 simp only[C,decide_false,go_sem,CG (m:=2) D.gx (by omega) rfl]
 exact AWh O f h E I (by omega) d
theorem AXV(E:Vz G){c i x y z:Nat}(w:K.At G H m at' td)(h:IZ H m n q s)(g:APJ H n q K.b x y z c i)(p:m<=n)(C:AGS K.pool s.loc.length c i)(D:12<=c/\c<=31)
 (d:Dn K.b m H n q k (stepT K.cx s ⟨.ofNat c,.ofNat i⟩)):DR lfp G (Runs F G) k (.ptr K.kb 0) (.ptr q 0) (.ptr x 0) (.ptr y 0) (.ptr z 0) (.int .i64 (.ofNat c) 0) (.bool false) H n:=by
 delta DR
 simp only[go_sem,lW]
 by_cases A:c=14
 ·subst A
  simp only[decide_true,go_sem,BD g.gy]
  refine aj (N:=1) (ws:=[C9]) (t:=C9) w h rfl rfl (by omega) (AKt SB) SB (λH' n' f=>BD (g.kq f).gy) d
 simp only[A,decide_false,go_sem]
 by_cases B:c=15
 ·subst B
  simp only[decide_true,go_sem,BD g.gz]
  refine aj (N:=1) (ws:=[Ew]) (t:=Ew) w h rfl rfl (by omega) (AKt Yq) Yq (λH' n' f=>BD (g.kq f).gz) d
 simp only[B,decide_false,go_sem]
 by_cases u:c=12
 ·simp only[u,decide_true,go_sem]
  subst u
  exact AYw w h g.gx g.xn g.xq g.xb g.gz g.zn g.zq g.zb (by omega) p d
 simp only[u,decide_false,go_sem]
 by_cases v:c=13
 ·simp only[v,decide_true]
  subst v
  exact AYw w h g.gx g.xn g.xq g.xb g.gz g.zn g.zq g.zb (by omega) p d
 simp only[v,decide_false]
 exact AWu E w h g p C (by omega) d
theorem AM7{c i x y z:Nat}(v:K.At G H m at' td)(h:IZ H m n q s)(p:APJ H n q K.b x y z c i)(g:c=10∨c=11){u:V}
 (d:Dn K.b m H n q k (stepT K.cx s ⟨.ofNat c,.ofNat i⟩)):DR lfp G (Runs F G) k (.ptr K.kb 0) (.ptr q 0) (.ptr x 0) (.ptr y 0) (.ptr z 0) u (.bool true) H n:=by
 delta DR
 simp only[go_sem,BD p.gy]
 refine aj (N:=2) (ws:=[C9,C9]) (t:=Ew) v h rfl rfl (by omega) (AX4 SB SB) Yq (λH' n' f=>BD (p.kq f).gz) (d.cast ?_)
 rcases g with rfl|rfl<;>rfl
theorem AXM(B:Vz G){c i x y z:Nat}(p:K.At G H m at' td)(h:IZ H m n q s)(u:APJ H n q K.b x y z c i)(v:m<=n)(w:AGS K.pool s.loc.length c i)(A:10<=c/\c<=31)
 (d:Dn K.b m H n q k (stepT K.cx s ⟨.ofNat c,.ofNat i⟩)):Ba lfp G (Runs F G) k (.ptr K.kb 0) (.ptr q 0) (.ptr x 0) (.ptr y 0) (.ptr z 0) (.int .i64 (.ofNat c) 0) (.bool false) H n:=by
 delta Ba
 simp only[go_sem,lW]
 by_cases f:c=10
 ·simp only[f,decide_true,go_sem]
  exact AM7 p h u (by omega) d
 simp only[f,decide_false,go_sem]
 by_cases g:c=11
 ·simp only[g,decide_true]
  exact AM7 p h u (by omega) d
 simp only[g,decide_false]
 exact AXV B p h u v w (by omega) d
theorem oH{c i x y z:Nat}(v:K.At G H m at' td)(h:IZ H m n q s)(p:APJ H n q K.b x y z c i)(g:5<=c/\c<=9){u:V}
 (d:Dn K.b m H n q k (stepT K.cx s ⟨.ofNat c,.ofNat i⟩)):Ba lfp G (Runs F G) k (.ptr K.kb 0) (.ptr q 0) (.ptr x 0) (.ptr y 0) (.ptr z 0) u (.bool true) H n:=by
 delta Ba
 simp only[go_sem,BD p.gy]
 refine aj (N:=2) (ws:=[C9,C9]) (t:=C9) v h rfl rfl (by omega) (AX4 SB SB) SB (λH' n' f=>BD (p.kq f).gy) (d.cast ?_)
 obtain rfl|rfl|rfl|rfl|rfl:c=5∨c=6∨c=7∨c=8∨c=9:=by omega
 all_goals rfl
end
section
variable{K:eU}{G:AY}{H:Heap}{n m q:Nat}{at' td w:V}{ws:List Ty}{s:CP}{t:Ty}{k:KV}{p:V}{N:Nat}{Z:LV}
theorem IZ.AfX(h:IZ H m n q s){f vs:V}(g:T.get H q=some (one [f,vs])){i:Nat}(hi:i<s.loc.length):∃p,Ai 2 f (.int .i64 (.ofNat i) 0)=some p/\Aj 2 p G H=some (s.loc.getD i BU).v/\(s.loc.getD i BU).nm.ok:=by
 obtain⟨u,w,k,x,A,hd⟩:=h.is
 rw[g]at k
 cases k
 obtain⟨p,y,d⟩:=(x.el (G:=G) (by omega)).at (Tj hi)
 have e:s.loc.getD i BU=s.loc[i]:=by rw[List.getD_eq_getElem?_getD,List.getElem?_eq_getElem hi];rfl
 rw[e]
 exact⟨p,y,Bj d,h.ol _ (List.getElem_mem hi)⟩
theorem AaB(t:Ty):CU (.agg [.str,.bool]) true t.v BU.v=some (.bool (!t.is BU)):=ALZ ..
theorem Acu(hG:Vz G){c i:Nat}(f:K.At G H m at' td)(h:IZ H m n q s)(d0:m<=n)(g:AGS K.pool s.loc.length c i)
 (d:Dn K.b m H n q k (stepT K.cx s ⟨.ofNat c,.ofNat i⟩)):Runs F G Xl [.ptr K.kb 0,.ptr q 0,.agg (Ins.cells ⟨.ofNat c,.ofNat i⟩)] H n k:=by
 refine go3 (uS BF G) ?_
 delta Xo
 have w:K.b<m:=f.img.tab.bn
 have C:=h.mq
 have d1:=h.qn
 refine FT λH1 f1 g1=>?_
 refine AF4 λQ n2 x=>?_
 have d2:=x.le
 refine ASo λH3 A f3=>?_
 have d3:=f3.le
 refine Di rfl λH4 X g4=>?_
 refine Di rfl λH5 R g5=>?_
 show Bz 2 (.ptr A 0) (.agg C9.cells) _ _ _
 refine Rn (R.get g4 (by omega)) rfl rfl (by omega) λH6 g6 S=>?_
 show Bz 2 (.ptr (A+1) 0) (.agg Ew.cells) _ _ _
 refine Rn ((S _ (by omega)).trans g5) rfl rfl (by omega) λU g7 V=>?_
 have D:T.get U n=some (one (Ins.cells ⟨.ofNat c,.ofNat i⟩)):=by
  rw[V _ (by omega),S _ (by omega)]
  exact R.get (X.get (f3.get (x.get g1 (by omega)) (by omega)) (by omega)) (by omega)
 have f7:Kp H n U (A+1+1):=⟨by omega,λid Y=>by rw[V _ (by omega),S _ (by omega),R.same _ (by omega),X.same _ (by omega),f3.same _ (by omega),x.same _ (by omega),f1.same _ Y]⟩
 have u:APJ U (A+1+1) q K.b n A (A+1) c i:=⟨D,(V _ (by omega)).trans g6,g7,by omega,by omega,by omega,by omega,by omega,by omega,by omega,by omega,by omega⟩
 have h:=h.kp f7
 have E:=f7.kw (b:=K.b) (m:=m) (by omega) w
 have f:=f.kw E
 have d:=d.later E
 clear f1 x f3 X R g1 g4 g5 g6 g7 S V D
 have I:AX (.ptr n 1) G U=some (.int .i64 (.ofNat i) 0):=AU u.gx rfl
 simp only[go_sem,Nat.reduceAdd,AU (off:=0) u.gx (v:=.int .i64 (.ofNat c) 0) rfl,lW]
 by_cases h1:c=1
 ·subst h1
  simp only[decide_true,go_sem,BD u.gy]
  exact Uh f h SB d
 simp only[h1,decide_false,go_sem]
 by_cases J:c=32
 ·subst J
  simp only[decide_true,go_sem,BD u.gz]
  exact Uh f h Yq d
 simp only[J,decide_false,go_sem]
 by_cases h2:c=2
 ·subst h2
  simp only[decide_true,go_sem]
  refine bU λH8 n8 f8=>?_
  have L:=f8.kw (b:=K.b) (m:=m) (by omega) w
  exact Uh (f.kw L) (h.kp f8) AaA (d.later L)
 simp only[h2,decide_false,go_sem]
 by_cases h3:c=3
 ·subst h3
  obtain⟨B,vs,y,-⟩:=h.is
  obtain⟨p,W,M,Z⟩:=h.AfX (G:=G) y (g.lc (by omega))
  have d:=d.cast (o':=bif (s.loc.getD i BU).is BU then none else(Cc K.mx (s.loc.getD i BU) s.stk).map λk=>⟨s.loc,k⟩) rfl
  simp only[decide_true,go_sem,Nat.reduceAdd,AU (off:=0) y (v:=B) rfl,I,W,M]
  rw[AHB,AP,AaB,AP]
  cases hb:(s.loc.getD i BU).is BU with
  |true=>
   rw[hb]at d
   simp only[Bool.not_true,go_sem]
   exact d.no _ _ (.refl ..) rfl
  |false=>
   rw[hb]at d
   simp only[Bool.not_false,go_sem,Nat.reduceAdd,AU (off:=0) y (v:=B) rfl,I,W,M]
   exact Uh f h Z d
 simp only[h3,decide_false,go_sem]
 by_cases h4:c=4
 ·subst h4
  simp only[decide_true,go_sem]
  refine qh w h (λe Q p x W g2 N=>?_) λa r e Q p x W g2 N=>?_
  ·obtain⟨B,vs,y,-⟩:=N.is
   have gx:=(u.kq x).gx
   simp only[go_sem,Nat.reduceAdd,AU (off:=0) y (v:=B) rfl,AU (off:=1) gx (v:=.int .i64 (.ofNat i) 0) rfl,BD g2]
   refine(N.mono (H':=Q) (Nat.le_succ p) λ_ _ _=>rfl).AXy (t:=BU) (g.lc (by omega)) (λ_=>rfl) y λH3 s3 O=>?_
   exact d.no _ _ ((x.kw (by omega) C).trans (.of w (Nat.le_refl _) s3)) (by show(match s.stk with|[]=>none|t::k=>some (⟨s.loc.set i t,k⟩:CP))=none;rw[e])
  ·obtain⟨B,vs,y,-⟩:=N.is
   have gx:=(u.kq x).gx
   have P:a.nm.ok:=h.os a (by rw[e];exact List.mem_cons_self ..)
   simp only[go_sem,Nat.reduceAdd,AU (off:=0) y (v:=B) rfl,AU (off:=1) gx (v:=.int .i64 (.ofNat i) 0) rfl,BD g2]
   refine(N.mono (H':=Q) (Nat.le_succ p) λ_ _ _=>rfl).AXy (g.lc (by omega)) P y λH3 s3 O=>?_
   exact d.yes _ _ _ ((x.kw (by omega) C).trans (.of w (Nat.le_refl _) s3)) (by show(match s.stk with|[]=>none|t::k=>some (⟨s.loc.set i t,k⟩:CP))=_;rw[e]) O
 simp only[h4,decide_false,go_sem]
 have d4:=g.lo
 have d5:=g.hi
 by_cases h5:c=5
 ·simp only[h5,decide_true,go_sem]
  exact oH f h u (by omega) d
 simp only[h5,decide_false,go_sem]
 by_cases h6:c=6
 ·simp only[h6,decide_true,go_sem]
  exact oH f h u (by omega) d
 simp only[h6,decide_false,go_sem]
 by_cases h7:c=7
 ·simp only[h7,decide_true,go_sem]
  exact oH f h u (by omega) d
 simp only[h7,decide_false,go_sem]
 by_cases h8:c=8
 ·simp only[h8,decide_true,go_sem]
  exact oH f h u (by omega) d
 simp only[h8,decide_false,go_sem]
 by_cases h9:c=9
 ·simp only[h9,decide_true]
  exact oH f h u (by omega) d
 simp only[h9,decide_false]
 exact AXM hG f h u (by omega) g (by omega) d
end
structure Sv(G:AY)(H:Heap)(A:Nat->Prop)(v:V)(ts:List Ty):Prop where
 el:El G H v 2 (tys ts)
 own:∀id,v.XZ=some id->A id
 nn:v=.Ad/\ts=[]∨CU .sl false v .Ad=some (.bool false)
 ok:Zp v=true/\A8 v=[v]/\Es v v=true
 bl:BH [.Ad] [(0,1,.c v)]=some (.agg [v])
theorem Sk.sv{G:AY}{H:Heap}{A:Nat->Prop}{v:V}{d:List Ty}(h:Sk H 2 A v (tys d)):Sv G H A v d:=by
 refine⟨h.el (by omega),λi=>h.own,?_,h.ok,?_⟩
 ·rcases AdD h with⟨f,g⟩|h
  ·refine .inl ⟨f,?_⟩
   exact List.map_eq_nil_iff.1 g
  ·exact .inr h
 ·generalize tys d=LS at h
  cases h<;>rfl
theorem Sv.mono{G:AY}{H H':Heap}{A B:Nat->Prop}{v:V}{f:List Ty}(h:Sv G H A v f)(g:∀id,A id->B id)(hs:∀id,A id->T.get H' id=T.get H id):Sv G H' B v f:=
 ⟨h.el.same λid d=>hs id (h.own id d),λid d=>g id (h.own id d),h.nn,h.ok,h.bl⟩
theorem AUQ{G:AY}{H:Heap}{n:Nat}{A:Nat->Prop}{v:V}{i:List Ty}(h:Sv G H A v i)(p:∀d,A d->d<n)(x:i.length<=100000){k:KV}
 (q:∀u H' n',Kp H n H' n'->Sk H' 2 (λd=>n<=d/\d<n') u (tys i)->k u H' n'):Runs F G Gh [v] H n k:=by
 refine go1 (Vy BF G) ?_
 delta LM
 rcases h.nn with⟨rfl,rfl⟩|e
 ·simp only[go_sem,show CU .sl false .Ad .Ad=some (.bool true)from rfl]
  exact q _ _ _ (Kp.refl _ _) .nil
 ·simp only[go_sem,e]
  rw[AWT]
  have y:=h.el.kp (n:=n) (n':=n+1) (H':=T.set H n (.arr 2 0 .e)) (λd f=>p d (h.own d f)) ((Kp.refl H n).new _ (Nat.le_refl _) (by omega))
  have x:(tys i).length<=100000:=by rw[EP];exact x
  generalize tys i=LS at*
  cases LS with
  |nil=>exact ARC (T.Ag ..) y.2 λH' B=>q _ _ _ ((Kp.refl H n).trans ⟨by omega,λd f=>by rw[B,T.Ac _ _ (by omega)]⟩) (.emp ((B _).trans (T.Ag ..)) ⟨Nat.le_refl _,by omega⟩)
  |cons a C=>
   refine AJK (t:=.e) (by omega) y.2 (by omega) λu H' m g w=>?_
   refine q _ _ _ ⟨by omega,λd f=>(g d (by omega)).trans (T.Ac _ _ (by omega))⟩ ?_
   generalize hX:a::C=X at m
   cases m with
   |nil=>cases hX
   |F9 D E I f=>
    have e:=w _ rfl
    exact .F9 D E I ⟨by omega,by omega⟩
theorem AUd{G:AY}{H:Heap}{n:Nat}{A:Nat->Prop}{u vs:V}{l s:List Ty}(L:Sv G H A u l)(hs:Sv G H A vs s)(d:∀id,A id->id<n)(x:l.length<=100000)(y:s.length<=100000){k:KV}
 (M:∀H' n' v w,Kp H n H' n'->Sk H' 2 (λid=>n<=id/\id<n') v (tys l)->Sk H' 2 (λid=>n<=id/\id<n') w (tys s)->(∀id,v.XZ=some id->w.XZ≠some id)->k (.agg [v,w]) H' n'):
 Runs F G RP [.agg [u,vs]] H n k:=by
 refine go1 (xH BF G) ?_
 delta Yj
 refine FT λS N g=>?_
 refine Di rfl λU K p=>?_
 have f:=N.trans K
 have g:=K.get g (by omega)
 simp only[go_sem,Nat.reduceAdd,AU (off:=0) g (v:=u) rfl,AU (off:=1) g (v:=vs) rfl]
 have C:=L.mono (B:=λid=>id<n) (λid h=>d id h) (λid h=>f.same id (d id h))
 have i:=hs.mono (B:=λid=>id<n) (λid h=>d id h) (λid h=>f.same id (d id h))
 refine AUQ C (λid h=>by omega) x λv W O f3 D=>?_
 have P:=f3.le
 have g:=f3.get g (by omega)
 have p:=f3.get p (by omega)
 simp only[go_sem,AU (off:=1) g (v:=vs) rfl,i.ok.2.2]
 have i:=i.mono (B:=λid=>id<n) (λid h=>h) (λid h=>f3.same id (by omega))
 refine AUQ i (λid h=>by omega) y λw Q X q E=>?_
 have R:=q.le
 have p:=q.get p (by omega)
 have I:=D.mono (B:=λid=>n<=id/\id<O) (H':=Q) (λid h=>⟨by omega,h.2⟩) (λid h=>q.same id h.2)
 rw[AWp I E,AP,FU (m:=2) p (by omega) rfl rfl,EN (m:=2) (T.Ag ..) (by omega) rfl]
 refine M _ _ _ _ ⟨by omega,λid J=>?_⟩ ?_ ?_ ?_
 ·rw[T.Ac _ _ (by omega),q.same _ (by omega),f3.same _ (by omega),f.same _ J]
 ·exact D.mono (λid h=>⟨by omega,by omega⟩) λid h=>by rw[T.Ac _ _ (by omega),q.same _ (by omega)]
 ·exact E.mono (λid h=>⟨by omega,by omega⟩) λid h=>by rw[T.Ac _ _ (by omega)]
 ·intro id C i
  have:=D.own C
  have:=E.own i
  omega
structure eU.En(K:eU)(G:AY)(H:Heap):Prop where
 kb:K.kb≠K.b
 ki:K.kb≠K.i
 img:NQ G H K.kb K.i K.t K.a K.b K.fm K.vn K.fs
 small:K.fs.length<=1000
 pool:Fh G H K.kb K.pool K.v0 K.v1 K.v2 K.v3 K.v4 K.ws
 code:O1 G H K.kb K.vc K.code
 ps:GY G H K.kb K.vp K.ps
 rok:K.ret.nm.ok
 nok:K.nm.ok
 mx:K.mx<=1000
 nl:K.nl<=401
 cl:K.code.length<=16384
theorem eU.En.kb'{K:eU}{G:AY}{H H':Heap}(h:K.En G H)(f:Kb K.b H K.kb H' K.kb):K.En G H':=by
 have e:=f.ke (G:=G) h.img.tab.seen
 exact⟨h.kb,h.ki,h.img.kb f,h.small,h.pool.ke e,⟨h.code.el.ke h.code.lo e,h.code.lo,h.code.lt⟩,h.ps.ke e,h.rok,h.nok,h.mx,h.nl,h.cl⟩
theorem eU.En.at'{K:eU}{G:AY}{H:Heap}{m:Nat}{vat d:V}(h:K.En G H)(g:T.get H K.kb=some (one (K.cells vat d)))(f:K.kb<m):K.At G H m vat d:=by
 have e:Ke G H K.kb H m:=⟨by omega,λ_ _ _ _ h=>h⟩
 exact⟨g,f,h.kb,h.ki,h.img.kb ⟨by omega,λ_ _ _=>rfl,λh=>h⟩,h.small,h.pool.ke e,⟨h.code.el,h.code.lo.mono (by omega),h.code.lt⟩,h.ps.ke e,h.rok,h.nok,h.mx,h.nl,h.cl⟩
structure Wv where
 ab:Nat
 own:Nat->Nat
 q:Nat->Nat
 vl:Nat->V
 vs:Nat->V
 td:V
def nums(xs:List Nat):EL:=xs.map λi=>[.int .i64 (.ofNat i) 0]
def eU.vat(K:eU)(W:Wv):V:=.sl W.ab 0 K.code.length K.code.length 1
structure jO(K:eU)(W:Wv)(H:Heap)(n:Nat)(g:Uf)(td:List Nat):Prop where
 kn:K.kb<n
 ko:W.own K.kb=1
 box:T.get H K.kb=some (one (K.cells (K.vat W) W.td))
 gl:g.length=K.code.length
 abn:K.kb<W.ab/\W.ab<n
 abo:W.own W.ab=2
 ats:∃ta,T.get H W.ab=some (.arr 1 K.code.length ta)/\∀(i:Nat) (o:Option CP),g[i]? =some o->T.get ta i=some [match o with|none=>.Bo|some _=>.ptr (W.q i) 0]
 st:∀(i:Nat) (s:CP),g[i]? =some (some s)->T.get H (W.q i)=some (one [W.vl i,W.vs i])/\(K.kb<W.q i/\W.q i<n/\W.own (W.q i)=4+3*i)/\Sk H 2 (λid=>K.kb<id/\id<n/\W.own id=5+3*i) (W.vl i) (tys s.loc)/\Sk H 2 (λid=>K.kb<id/\id<n/\W.own id=6+3*i) (W.vs i) (tys s.stk.reverse)
 ok:∀(i:Nat) (s:CP),g[i]? =some (some s)->(∀t∈s.loc,t.nm.ok)/\(∀t∈s.stk,t.nm.ok)/\s.loc.length=K.nl/\s.stk.length<=100000
 todo:Sk H 1 (λid=>K.kb<id/\id<n/\W.own id=3) W.td (nums td.reverse)
 tl:td.length<=1099511627776
theorem jO.mono{K:eU}{W:Wv}{H H':Heap}{n n':Nat}{g:Uf}{td:List Nat}(h:jO K W H n g td)(u:n<=n')(e:∀id,K.kb<=id->id<n->W.own id≠0->T.get H' id=T.get H id):jO K W H' n' g td:=by
 refine⟨by have:=h.kn;omega,h.ko,(e _ (Nat.le_refl _) h.kn (by rw[h.ko];omega)).trans h.box,h.gl,⟨h.abn.1,by have:=h.abn.2;omega⟩,h.abo,?_,λi s f=>?_,h.ok,h.todo.mono (λid h=>⟨h.1,by omega,h.2.2⟩) λid h=>e id (by omega) h.2.1 (by omega),h.tl⟩
 ·obtain⟨k,g,m⟩:=h.ats
  exact⟨k,(e _ (by have:=h.abn;omega) h.abn.2 (by rw[h.abo];omega)).trans g,m⟩
 ·obtain⟨g,d,p,q⟩:=h.st i s f
  exact⟨(e _ (by omega) d.2.1 (by omega)).trans g,⟨d.1,by omega,d.2.2⟩,p.mono (λid h=>⟨h.1,by omega,h.2.2⟩) (λid h=>e id (by omega) h.2.1 (by omega)),q.mono (λid h=>⟨h.1,by omega,h.2.2⟩) λid h=>e id (by omega) h.2.1 (by omega)⟩
def jn(fs:Tab)(a b:Ty):Ty:=(Ed fs a b).1
def upTo(fs:Tab)(os ns:List Ty)(i:Nat):List Ty:=(List.zipWith (jn fs) os ns).take i++os.drop i
theorem AAz(fs:Tab)(os d:List Ty):upTo fs os d 0=os:=rfl
theorem ALe{fs:Tab}{os d:List Ty}(h:os.length=d.length){i:Nat}(hi:i<=os.length):(upTo fs os d i).length=os.length:=by
 unfold upTo
 rw[List.length_append,List.length_take,List.length_drop,List.length_zipWith];omega
theorem dJ{fs:Tab}{os d:List Ty}(h:os.length=d.length){i:Nat}(hi:i<=os.length)(j:Nat):(upTo fs os d i)[j]? =if j<i then(List.zipWith (jn fs) os d)[j]? else os[j]? :=by
 unfold upTo
 have g:((List.zipWith (jn fs) os d).take i).length=i:=by rw[List.length_take,List.length_zipWith];omega
 by_cases f:j<i
 ·rw[if_pos f,List.getElem?_append_left (by omega),List.getElem?_take,if_pos f]
 ·rw[if_neg f,List.getElem?_append_right (by omega),g,List.getElem?_drop]
  congr 1;omega
theorem AM0{fs:Tab}{os d:List Ty}(h:os.length=d.length):upTo fs os d os.length=List.zipWith (jn fs) os d:=by
 unfold upTo
 rw[List.drop_length,List.append_nil,List.take_of_length_le (by rw[List.length_zipWith];omega)]
theorem AHf{fs:Tab}{os d:List Ty}(h:os.length=d.length){i:Nat}(hi:i<os.length):upTo fs os d (i+1)=(upTo fs os d i).set i (jn fs os[i] (d[i]'(by omega))):=by
 refine List.ext_getElem? λj=>?_
 have g:=ALe (fs:=fs) h (i:=i) (by omega)
 rw[dJ h (by omega),List.getElem?_set,dJ h (by omega)]
 by_cases e:i=j
 ·subst e
  rw[if_pos (by omega),if_pos rfl,if_pos (by omega),List.getElem?_zipWith,List.getElem?_eq_getElem hi,List.getElem?_eq_getElem (by omega)]
 ·rw[if_neg e]
  by_cases f:j<i
  ·rw[if_pos (by omega),if_pos f]
  ·rw[if_neg (by omega),if_neg f]
theorem ANL{fs:Tab}{os d:List Ty}(h:os.length=d.length){i:Nat}(hi:i<os.length):Fj (upTo fs os d (i+1)) os=(Fj (upTo fs os d i) os&&(jn fs os[i] (d[i]'(by omega))).is os[i]):=by
 rw[Bool.eq_iff_iff,Bool.and_eq_true,PW,PW,Ty.Jr]
 constructor
 ·intro e
  have g:∀j:Nat,(upTo fs os d (i+1))[j]? =os[j]? :=λj=>by rw[e]
  refine⟨List.ext_getElem? λj=>?_,?_⟩
  ·have:=g j
   rw[dJ h (by omega)]at this
   rw[dJ h (by omega)]
   by_cases f:j<i
   ·rw[if_pos f];rw[if_pos (by omega)]at this;exact this
   ·rw[if_neg f]
  ·have:=g i
   rw[dJ h (by omega),if_pos (by omega),List.getElem?_zipWith,List.getElem?_eq_getElem hi,List.getElem?_eq_getElem (by omega)]at this
   exact Option.some.inj this
 ·rintro⟨k,m⟩
  rw[AHf h hi,k,m]
  exact List.set_getElem_self hi
theorem AFo(fs:Tab):∀(l m:List Ty),l.length≠m.length->Ip fs l m=none
 |[],[],h=>absurd rfl h
 |[],_::_,_=>rfl
 |_::_,[],_=>rfl
 |a::l,b::m,h=>by
  unfold Ip
  rw[AFo fs l m (λe=>h (by simp[e]))]
  cases(Ed fs a b).2<;>rfl
theorem AHz(fs:Tab):∀(l m:List Ty) (i:Nat) (a b:Ty),l[i]? =some a->m[i]? =some b->(Ed fs a b).2=false->Ip fs l m=none
 |[],_,_,_,_,h,_,_=>by simp at h
 |_::_,[],_,_,_,_,h,_=>by simp at h
 |x::l,y::m,0,a,b,d,f,h=>by
  simp only[List.getElem?_cons_zero,Option.some.injEq]at d f
  subst d;subst f
  unfold Ip
  rw[h];rfl
 |x::l,y::m,i+1,a,b,d,f,h=>by
  unfold Ip
  rw[AHz fs l m i a b (by simpa using d) (by simpa using f) h]
  cases(Ed fs x y).2<;>rfl
theorem AE9(fs:Tab):∀(l m:List Ty),l.length=m.length->(∀(i:Nat) (a b:Ty),l[i]? =some a->m[i]? =some b->(Ed fs a b).2=true)->Ip fs l m=some (List.zipWith (jn fs) l m)
 |[],[],_,_=>rfl
 |[],_::_,h,_=>by simp at h
 |_::_,[],h,_=>by simp at h
 |a::l,b::m,h,d=>by
  unfold Ip
  rw[d 0 a b rfl rfl,AE9 fs l m (by simpa using h) λi x y f g=>d (i+1) x y (by simpa using f) (by simpa using g)]
  rfl
theorem AHo(fs:Tab):∀(l m:List Ty),l.length=m.length->Dq fs l m=List.zipWith (jn fs) l m
 |[],[],_=>rfl
 |[],_::_,h=>by simp at h
 |_::_,[],h=>by simp at h
 |a::l,b::m,h=>by
  unfold Dq
  rw[AHo fs l m (by simpa using h)];rfl
theorem AVl(l m:List Ty):Fj l.reverse m.reverse=Fj l m:=by
 rw[Bool.eq_iff_iff,PW,PW,List.reverse_inj]
theorem jO.upd{K:eU}{W:Wv}{H H':Heap}{n:Nat}{g:Uf}{td:List Nat}{f:Nat}{s s':CP}(h:jO K W H n g td)(p:g[f]? =some (some s))
 (e:∀id,K.kb<=id->id<n->W.own id≠0->W.own id≠5+3*f->W.own id≠6+3*f->T.get H' id=T.get H id)
 (A:Sk H' 2 (λid=>K.kb<id/\id<n/\W.own id=5+3*f) (W.vl f) (tys s'.loc)) (hs:Sk H' 2 (λid=>K.kb<id/\id<n/\W.own id=6+3*f) (W.vs f) (tys s'.stk.reverse))
 (q:(∀t∈s'.loc,t.nm.ok)/\(∀t∈s'.stk,t.nm.ok)/\s'.loc.length=K.nl/\s'.stk.length<=100000):jO K W H' n (g.set f (some s')) td:=by
 have u:f<g.length:=(List.getElem?_eq_some_iff.1 p).1
 have look:∀(i:Nat) (o:Option CP),(g.set f (some s'))[i]? =some o->(i=f/\o=some s')∨(i≠f/\g[i]? =some o):=by
  intro i o d
  by_cases e:i=f
  ·subst e
   rw[List.getElem?_set_self u]at d
   exact .inl ⟨rfl,(Option.some.inj d).symm⟩
  ·rw[List.getElem?_set_ne (Ne.symm e)]at d
   exact .inr ⟨e,d⟩
 refine⟨h.kn,h.ko,(e _ (Nat.le_refl _) h.kn (by rw[h.ko];omega) (by rw[h.ko];omega) (by rw[h.ko];omega)).trans h.box,by rw[List.length_set];exact h.gl,h.abn,h.abo,?_,λi x d=>?_,λi x d=>?_,
  h.todo.mono (λid h=>h) λid h=>e id (by omega) h.2.1 (by omega) (by omega) (by omega),h.tl⟩
 ·obtain⟨B,k,y⟩:=h.ats
  refine⟨B,(e _ (by have:=h.abn;omega) h.abn.2 (by rw[h.abo];omega) (by rw[h.abo];omega) (by rw[h.abo];omega)).trans k,λi o d=>?_⟩
  rcases look i o d with⟨rfl,rfl⟩|⟨_,d⟩
  ·exact y _ _ p
  ·exact y i o d
 ·rcases look i _ d with⟨rfl,v⟩|⟨w,d⟩
  ·cases v
   obtain⟨k,m,_,_⟩:=h.st i s p
   exact⟨(e _ (by omega) m.2.1 (by omega) (by omega) (by omega)).trans k,m,A,hs⟩
  ·obtain⟨k,m,C,D⟩:=h.st i x d
   exact⟨(e _ (by omega) m.2.1 (by omega) (by omega) (by omega)).trans k,m,C.mono (λid h=>h) (λid h=>e id (by omega) h.2.1 (by omega) (by omega) (by omega)),
    D.mono (λid h=>h) λid h=>e id (by omega) h.2.1 (by omega) (by omega) (by omega)⟩
 ·rcases look i _ d with⟨rfl,v⟩|⟨w,d⟩
  ·cases v;exact q
  ·exact h.ok i x d
structure Kf(K:eU)(W:Wv)(N:Nat)(H:Heap)(n:Nat)(H':Heap)(n':Nat):Prop where
 le:n<=n'
 same:∀id,id<n->id≠K.b->(id<K.kb∨N<=id∨W.own id=0)->T.get H' id=T.get H id
 seen:Js H K.b->Js H' K.b
section
variable{K:eU}{W:Wv}{G:AY}{H H' H'':Heap}{n n' n'' N:Nat}{g:Uf}{td:List Nat}
theorem Kf.refl:Kf K W N H n H n:=⟨Nat.le_refl _,λ_ _ _ _=>rfl,λh=>h⟩
theorem Kf.trans(x:Kf K W N H n H' n')(y:Kf K W N H' n' H'' n''):Kf K W N H n H'' n'':=
 ⟨Nat.le_trans x.le y.le,λd f g i=>(y.same d (Nat.lt_of_lt_of_le f x.le) g i).trans (x.same d f g i),λh=>y.seen (x.seen h)⟩
theorem Kb.kf(x:Kb K.b H n H' n'):Kf K W N H n H' n':=⟨x.le,λd f g _=>x.same d f g,x.seen⟩
theorem Kf.kb(x:Kf K W N H n H' n')(h:K.kb<=n):Kb K.b H K.kb H' K.kb:=⟨Nat.le_refl _,λd f g=>x.same d (by omega) g (.inl f),x.seen⟩
theorem Kf.get{id:Nat}{B:Nu}(x:Kf K W N H n H' n')(h:T.get H id=some B)(d:N<=id)(f:id<n)(g:K.b<N):T.get H' id=some B:=(x.same id f (by omega) (.inr (.inl d))).trans h
theorem jO.kb(h:jO K W H N g td)(f:Kb K.b H n H' n')(i:N<=n)(k:K.b<K.kb):jO K W H' N g td:=h.mono (Nat.le_refl _) λd m p _=>f.same d (by omega) (by omega)
theorem Sv.kf{v:V}{d:List Ty}(h:Sv G H (λid=>K.kb<id/\id<N/\W.own id=0) v d)(f:Kf K W N H n H' n')(g:N<=n)(i:K.b<K.kb):Sv G H' (λid=>K.kb<id/\id<N/\W.own id=0) v d:=
 h.mono (λ_ h=>h) λid h=>f.same id (by omega) (by omega) (.inr (.inr h.2.2))
theorem jO.Adg{A:IntKind}{f i:Nat}{s:CP}{t:Ty}{P:KV}(h:jO K W H N g td)(m:g[f]? =some (some s))(hi:i<s.stk.length)(B:t.nm.ok)
 (C:∀H',jO K W H' N (g.set f (some ⟨s.loc,(s.stk.reverse.set i t).reverse⟩)) td->(∀id,¬(K.kb<id/\id<N/\W.own id=6+3*f)->T.get H' id=T.get H id)->P .undef H' n):
 AL (Ai 2 (W.vs f) (.int A (.ofNat i) 0)) λp=>Bz 2 p t.v H n P:=by
 obtain⟨M,O,D,y⟩:=h.st f s m
 obtain⟨E,F,G,I⟩:=h.ok f s m
 refine y.put (w:=t.v) (by omega) (by rw[EP,List.length_reverse];exact hi) rfl rfl λH' k J=>?_
 have e:(tys s.stk.reverse).set i (A8 t.v)=tys (s.stk.reverse.set i t):=by rw[show A8 t.v=t.cells from rfl];exact(List.map_set ..).symm
 rw[e]at k
 have d:∀id,¬(K.kb<id/\id<N/\W.own id=6+3*f)->T.get H' id=T.get H id:=λid q=>J id λe=>q (y.own e)
 refine C H' (h.upd m (λid _ _ _ _ L=>d id λh=>L h.2.2) (D.mono (λ_ h=>h) λid h=>d id (by omega)) (by rw[List.reverse_reverse];exact k) ⟨E,λx u=>?_,G,?_⟩) d
 ·rcases List.mem_or_eq_of_mem_set (List.mem_reverse.1 u)with u|rfl
  ·exact F x (List.mem_reverse.1 u)
  ·exact B
 ·show((s.stk.reverse.set i t).reverse).length<=100000
  rw[List.length_reverse,List.length_set,List.length_reverse];exact I
theorem jO.Acb{A:IntKind}{f i:Nat}{s:CP}{t:Ty}{P:KV}(h:jO K W H N g td)(m:g[f]? =some (some s))(hi:i<s.loc.length)(B:t.nm.ok)
 (C:∀H',jO K W H' N (g.set f (some ⟨s.loc.set i t,s.stk⟩)) td->(∀id,¬(K.kb<id/\id<N/\W.own id=5+3*f)->T.get H' id=T.get H id)->P .undef H' n):
 AL (Ai 2 (W.vl f) (.int A (.ofNat i) 0)) λp=>Bz 2 p t.v H n P:=by
 obtain⟨M,O,y,D⟩:=h.st f s m
 obtain⟨E,F,G,I⟩:=h.ok f s m
 refine y.put (w:=t.v) (by omega) (by rw[EP];exact hi) rfl rfl λH' k J=>?_
 have e:(tys s.loc).set i (A8 t.v)=tys (s.loc.set i t):=by rw[show A8 t.v=t.cells from rfl];exact(List.map_set ..).symm
 rw[e]at k
 have d:∀id,¬(K.kb<id/\id<N/\W.own id=5+3*f)->T.get H' id=T.get H id:=λid q=>J id λe=>q (y.own e)
 refine C H' (h.upd m (λid _ _ _ L _=>d id λh=>L h.2.2) k (D.mono (λ_ h=>h) λid h=>d id (by omega)) ⟨λx u=>?_,F,?_,I⟩) d
 ·rcases List.mem_or_eq_of_mem_set u with u|rfl
  ·exact E x u
  ·exact B
 ·show(s.loc.set i t).length=K.nl
  rw[List.length_set];exact G
theorem AIe{fs:Tab}{b:St}:∀(l:List St),(∀x∈l,x.ok)->(I4 fs b l).ok
 |[],_=>λ_=>rfl
 |c::cs,h=>by
  unfold I4
  cases Dk fs b c with
  |true=>exact h c (List.mem_cons_self ..)
  |false=>exact AIe cs λx d=>h x (List.mem_cons_of_mem _ d)
end
theorem AWH{G:AY}{H:Heap}{n t a b:Nat}{fs:Tab}(h:TabAt G H n t a b fs){s:St}{c:Fc}(d:CY fs s=some c):c.sup.ok:=by
 obtain⟨g,-,i,k⟩:=h.faces.is
 have:=qH i s
 rw[d]at this
 cases f:CY g s with
 |none=>rw[f]at this;cases this
 |some v=>
  obtain⟨_,_,_,m,-⟩:=k s v c f d
  exact m.ok.2
theorem AMd{fs:Tab}(hs:∀s c,CY fs s=some c->c.sup.ok):∀(m:Nat) (out:List St) (s:St),(∀x∈out,x.ok)->s.ok->∀x∈(G7 m fs out s).1,x.ok
 |0,out,_,h,_,x,d=>h x d
 |m+1,out,s,h,k,x,d=>by
  unfold G7 at d
  cases i:decide (s.1=0/\s.2=0)with
  |true=>rw[i]at d;exact h x d
  |false=>
   rw[i,cond_false]at d
   cases g:CY fs s with
   |none=>rw[g]at d;exact h x d
   |some c=>
    rw[g]at d
    cases hh:tN s out with
    |true=>simp only[hh,cond_true]at d;exact h x d
    |false=>
     simp only[hh,cond_false]at d
     refine AMd hs m _ _ (λy f=>?_) (hs s c g) x d
     rcases List.mem_append.1 f with f|f
     ·exact h y f
     ·rw[List.mem_singleton.1 f];exact k
theorem AUT{fs:Tab}(hs:∀s c,CY fs s=some c->c.sup.ok){a b:Ty}(d:a.nm.ok)(f:b.nm.ok):(jn fs a b).nm.ok:=by
 unfold jn Ed
 cases a.is b with
 |true=>exact d
 |false=>
 cases a.is CZ&&b.obj with
 |true=>exact f
 |false=>
 cases b.is CZ&&a.obj with
 |true=>exact d
 |false=>
 cases(a.cls&&b.cls)&& !decide (Ir fs a.nm b.nm=(0,0))with
 |true=>exact AIe _ λx g=>AMd hs _ _ _ (λ_ h=>absurd h List.not_mem_nil) d x g
 |false=>exact λ_=>rfl
section
variable{K:eU}{W:Wv}{G:AY}{H H' H'':Heap}{n n' n'' N:Nat}{g:Uf}{td:List Nat}{k:KV}
theorem AU7(hE:K.En G H)(hw:jO K W H N g td)(f6:N<=n){d b1:Nat}{old s:CP}{vs:V}(hg:g[d]? =some (some old))(f7:Sv G H (λid=>K.kb<id/\id<N/\W.own id=0) vs s.stk.reverse)(f:old.stk.length=s.stk.length)(f8:∀t∈s.stk,t.nm.ok)
 (h0:∀H' n',Kf K W N H n H' n'->T.get H' K.kb=some (one (K.cells (K.vat W) W.td))->Ip K.fs old.stk s.stk=none->k (.bool false) H' n')
 (h1:∀H' n' ks,Kf K W N H n H' n'->Ip K.fs old.stk s.stk=some ks->jO K W H' N (g.set d (some ⟨old.loc,ks⟩)) td->Hg lfp G (Runs F G) k (.ptr K.kb 0) (.int .i64 (.ofNat d) 0) (.ptr b1 0) (.ptr (W.q d) 0) (.bool (!Fj ks old.stk)) H' n'):
 lfp _ (Gl lfp G (Runs F G) k) (.ptr K.kb 0,.int .i64 (.ofNat d) 0,.ptr b1 0,.ptr (W.q d) 0,.bool false,vs,.int .i64 (.ofNat s.stk.length) 0,.int .i64 (.ofNat 0) 0,H,n):=by
 have hb:K.b<K.kb:=hE.img.tab.bn
 have hk:=hw.kn
 have Q:d<g.length:=(List.getElem?_eq_some_iff.1 hg).1
 obtain⟨ol,os,g5,obs⟩:=hw.ok d old hg
 have w:old.stk.reverse.length=s.stk.reverse.length:=by simp[f]
 refine BN (N:=s.stk.length) (J:=λi st=>∃H' n',st=(.ptr K.kb 0,.int .i64 (.ofNat d) 0,.ptr b1 0,.ptr (W.q d) 0,.bool (!Fj (upTo K.fs old.stk.reverse s.stk.reverse i) old.stk.reverse),vs,.int .i64 (.ofNat s.stk.length) 0,.int .i64 (.ofNat i) 0,H',n')/\
  Kf K W N H n H' n'/\jO K W H' N (g.set d (some ⟨old.loc,(upTo K.fs old.stk.reverse s.stk.reverse i).reverse⟩)) td/\i<=s.stk.length/\
  (∀(j:Nat) (a b:Ty),j<i->old.stk.reverse[j]? =some a->s.stk.reverse[j]? =some b->(Ed K.fs a b).2=true)) ?_ ?_ ⟨H,n,?_,.refl,?_,Nat.zero_le _,λ_ _ _ h=>absurd h (Nat.not_lt_zero _)⟩
 ·rintro I i st hi ⟨H2,O,rfl,R,u,f9,A⟩ ih
  show Ep lfp G (Runs F G) k I (.ptr K.kb 0) (.int .i64 (.ofNat d) 0) (.ptr b1 0) (.ptr (W.q d) 0) (.bool (!Fj (upTo K.fs old.stk.reverse s.stk.reverse i) old.stk.reverse)) vs (.int .i64 (.ofNat s.stk.length) 0) (.int .i64 (.ofNat i) 0) H2 O
  delta Ep
  have g7:=R.le
  have g0:=hE.kb' (R.kb (by omega))
  have d0:=f7.kf R f6 hb
  have m:i<old.stk.reverse.length:=by rw[List.length_reverse];omega
  have M:i<s.stk.reverse.length:=by rw[List.length_reverse];omega
  obtain⟨p,hp,S⟩:=d0.el.at (Tj M)
  have S:=Bj S
  simp only[go_sem,BR,hi,decide_true,hp,S]
  show Bz 2 (.ptr O 0) (.agg (s.stk.reverse[i]).cells) _ _ _
  refine Yb rfl rfl (by omega) λH3 f3 g3=>?_
  have d1:=u.kb (f3.kb (b:=K.b) (by omega)) (by omega) hb
  have B:(g.set d (some (⟨old.loc,(upTo K.fs old.stk.reverse s.stk.reverse i).reverse⟩:CP)))[d]? =some (some ⟨old.loc,(upTo K.fs old.stk.reverse s.stk.reverse i).reverse⟩):=List.getElem?_set_self Q
  obtain⟨gq,hq,-,d2⟩:=d1.st d _ B
  rw[List.reverse_reverse]at d2
  have d3:(upTo K.fs old.stk.reverse s.stk.reverse i)[i]? =some old.stk.reverse[i]:=by rw[dJ w (by omega),if_neg (by omega),List.getElem?_eq_getElem m]
  obtain⟨p2,g1,C⟩:=(d2.el (G:=G) (by omega)).at (i:=i) (c:=(old.stk.reverse[i]).cells) (by unfold tys;rw[List.getElem?_map,d3];rfl)
  have C:=Bj C
  simp only[go_sem,Nat.reduceAdd,AU (off:=0) d1.box (v:=.ptr K.i 0) rfl,AU (off:=1) gq (v:=W.vs d) rfl,g1,C,BD g3]
  refine run_set λH4 f4 g4=>?_
  have d4:(old.stk.reverse[i]).nm.ok:=os _ (List.mem_reverse.1 (List.getElem_mem m))
  have d5:(s.stk.reverse[i]).nm.ok:=f8 _ (List.mem_reverse.1 (List.getElem_mem M))
  have d6:Kb K.b H2 O H4 (O+1+1):=(f3.trans f4).kb (by omega)
  have d7:=g0.kb' (d6.low (by omega))
  refine AXG (x:=old.stk.reverse[i]) (y:=s.stk.reverse[i]) d7.img (by omega) d7.small d4 d5 λH5 n5 f5=>?_
  have g8:=f5.le
  simp only[go_sem]
  show Bz 2 (.ptr (O+1) 0) (.agg (Ed K.fs old.stk.reverse[i] s.stk.reverse[i]).1.cells) _ _ _
  refine Rn (f5.get g4 (by omega) (by omega)) rfl rfl (by omega) λH6 g6 s6=>?_
  have U:Kb K.b H2 O H6 n5:=(d6.trans f5).trans' (λid g9=>s6 _ (by omega)) (Nat.le_refl _) (by omega)
  have X:=u.kb U (by omega) hb
  cases hj:(Ed K.fs old.stk.reverse[i] s.stk.reverse[i]).2 with
  |false=>
   simp only[BZ,Bool.not_false,go_sem]
   refine h0 _ _ (R.trans U.kf) X.box (AHz _ _ _ (old.stk.length-1-i) _ _ ?_ ?_ hj)
   ·rw[<-List.getElem?_reverse (by omega),List.getElem?_eq_getElem m]
   ·rw[f,<-List.getElem?_reverse (by omega),List.getElem?_eq_getElem M]
  |true=>
   obtain⟨d8,i0,-,P⟩:=X.st d _ B
   rw[List.reverse_reverse]at P
   obtain⟨p3,d9,D⟩:=(P.el (G:=G) (by omega)).at (i:=i) (c:=(old.stk.reverse[i]).cells) (by unfold tys;rw[List.getElem?_map,d3];rfl)
   have D:Aj 2 p3 G H6=some (Ty.v old.stk.reverse[i]):=Bj D
   have Y:=ANL (fs:=K.fs) w m
   have Z:=AHf (fs:=K.fs) w m
   have g2:(Ed K.fs old.stk.reverse[i] s.stk.reverse[i]).1=jn K.fs old.stk.reverse[i] s.stk.reverse[i]:=rfl
   have f0:=AUT (λs c hl=>AWH hE.img.tab hl) d4 d5
   rw[g2]at g6
   have fin:∀fl:Bool,fl=(!Fj (upTo K.fs old.stk.reverse s.stk.reverse (i+1)) old.stk.reverse)->(AL (Ai 2 (W.vs d) (.int .i64 (.ofNat i) 0)) λv=>Bz 2 v (jn K.fs old.stk.reverse[i] s.stk.reverse[i]).v H6 n5 λ_ H n=>AL (B2.ev .add (.int .i64 (.ofNat i) 0) (.int .i64 (.ofNat 1) 0)) λv=>
    I (.ptr K.kb 0,.int .i64 (.ofNat d) 0,.ptr b1 0,.ptr (W.q d) 0,.bool fl,vs,.int .i64 (.ofNat s.stk.length) 0,v,H,n)):=by
    rintro fl rfl
    refine X.Adg B (i:=i) (by show i<((upTo K.fs old.stk.reverse s.stk.reverse i).reverse).length;rw[List.length_reverse,ALe w (by omega)];exact m) f0 λH7 E s7=>?_
    rw[DI (show i+1<9223372036854775808 by omega),AP]
    refine ih _ ⟨H7,n5,rfl,(R.trans U.kf).trans ⟨Nat.le_refl _,λid h1 h2 h3=>s7 id λh=>by omega,λhs=>hs.same (s7 _ λh=>by omega)⟩,?_,by omega,?_⟩
    ·rw[Z]
     rw[List.set_set]at E
     have e:(upTo K.fs old.stk.reverse s.stk.reverse i).reverse.reverse=upTo K.fs old.stk.reverse s.stk.reverse i:=List.reverse_reverse ..
     have E:jO K W H7 N (g.set d (some ⟨old.loc,((upTo K.fs old.stk.reverse s.stk.reverse i).reverse.reverse.set i (jn K.fs old.stk.reverse[i] s.stk.reverse[i])).reverse⟩)) td:=E
     rw[e]at E
     exact E
    ·intro j a b i1 ha L
     rcases Nat.lt_or_ge j i with h|h
     ·exact A j a b h ha L
     ·have:j=i:=by omega
      subst this
      rw[List.getElem?_eq_getElem m]at ha
      rw[List.getElem?_eq_getElem M]at L
      cases ha;cases L;exact hj
   rw[Y]at fin
   cases f1:Fj (upTo K.fs old.stk.reverse s.stk.reverse i) old.stk.reverse with
   |true=>
    rw[f1]at fin
    simp only[BZ,Bool.not_true,go_sem,Nat.reduceAdd,BD g6,AU (off:=1) d8 (v:=W.vs d) rfl,d9,D,ALZ]
    have:=fin _ rfl
    rw[d9]at this
    simpa only[go_sem,Bool.true_and]using this
   |false=>
    rw[f1]at fin
    simp only[BZ,Bool.not_true,Bool.not_false,go_sem,Nat.reduceAdd,BD g6,AU (off:=1) d8 (v:=W.vs d) rfl]
    exact fin _ rfl
 ·rintro I st ⟨H2,O,rfl,R,u,f9,A⟩
  show Ep lfp G (Runs F G) k I (.ptr K.kb 0) (.int .i64 (.ofNat d) 0) (.ptr b1 0) (.ptr (W.q d) 0) (.bool (!Fj (upTo K.fs old.stk.reverse s.stk.reverse s.stk.length) old.stk.reverse)) vs (.int .i64 (.ofNat s.stk.length) 0) (.int .i64 (.ofNat s.stk.length) 0) H2 O
  delta Ep
  simp only[go_sem,BR,Nat.lt_irrefl,decide_false]
  have e1:upTo K.fs old.stk.reverse s.stk.reverse s.stk.length=List.zipWith (jn K.fs) old.stk.reverse s.stk.reverse:=by
   have:=AM0 (fs:=K.fs) w
   rw[List.length_reverse,f]at this;exact this
  have e2:(List.zipWith (jn K.fs) old.stk s.stk).reverse=List.zipWith (jn K.fs) old.stk.reverse s.stk.reverse:=List.reverse_zipWith f
  rw[e1,<-e2]at u
  rw[e1,<-e2,AVl]
  rw[List.reverse_reverse]at u
  refine h1 _ _ _ R (AE9 _ _ _ f λj a b ha L=>?_) u
  have hj:j<old.stk.length:=(List.getElem?_eq_some_iff.1 ha).1
  refine A (old.stk.length-1-j) a b (by omega) ?_ ?_
  ·rw[List.getElem?_reverse (by omega),show old.stk.length-1-(old.stk.length-1-j)=j by omega];exact ha
  ·rw[List.getElem?_reverse (by omega),show s.stk.length-1-(old.stk.length-1-j)=j by omega];exact L
 ·rw[AAz,show Fj old.stk.reverse old.stk.reverse=true from PW.2 rfl];rfl
 ·rw[AAz,List.reverse_reverse]
  have:g.set d (some ⟨old.loc,old.stk⟩)=g:=by
   have e:g[d]=some old:=by rw[List.getElem?_eq_getElem Q]at hg;exact Option.some.inj hg
   show g.set d (some old)=g
   rw[<-e];exact List.set_getElem_self Q
  rw[this];exact hw
end
section
variable{K:eU}{W:Wv}{G:AY}{H H' H'':Heap}{n n' n'' N:Nat}{g:Uf}{td:List Nat}{k:KV}
theorem jO.raise{own:Nat->Nat}(h:jO K W H N g td)(k:N<=n)(d:∀id,id<N->own id=W.own id):jO K {W with own:=own} H n g td:=by
 refine⟨by have:=h.kn;omega,(d _ h.kn).trans h.ko,h.box,h.gl,⟨h.abn.1,Nat.lt_of_lt_of_le h.abn.2 k⟩,(d _ h.abn.2).trans h.abo,h.ats,λi s m=>?_,h.ok,h.todo.mono (λid h=>⟨h.1,by omega,(d _ h.2.1).trans h.2.2⟩) λ_ _=>rfl,h.tl⟩
 obtain⟨p,f,q,u⟩:=h.st i s m
 exact⟨p,⟨f.1,Nat.lt_of_lt_of_le f.2.1 k,(d _ f.2.1).trans f.2.2⟩,q.mono (λid h=>⟨h.1,by omega,(d _ h.2.1).trans h.2.2⟩) λ_ _=>rfl,u.mono (λid h=>⟨h.1,by omega,(d _ h.2.1).trans h.2.2⟩) λ_ _=>rfl⟩
theorem AK2(K:eU)(a v w:V):(K.cells a v).take 20++([w]++(K.cells a v).drop (20+1))=K.cells a w:=rfl
theorem Afv(V:K.En G H)(f:jO K W H N g td)(L:N<=n){A:Nat}{c:Bool}(ht:td.length<1099511627776)
 (h:∀R H' n',jO K R H' n' g (bif c then A::td else td)->(∀id,id<N->R.own id=W.own id)->Kf K W N H n H' n'->k (.bool true) H' n'):
 Eu lfp G (Runs F G) k (.ptr K.kb 0) (.int .i64 (.ofNat A) 0) (.bool c) H n:=by
 delta Eu
 delta Hf
 have X:K.b<K.kb:=V.img.tab.bn
 have Y:=f.kn
 cases c with
 |false=>
  simp only[go_sem]
  exact h _ _ _ (f.raise (own:=λid=>if id<N then W.own id else 0) L λid d=>if_pos d) (λid d=>if_pos d) .refl
 |true=>
  simp only[go_sem,Nat.reduceAdd,AU (off:=20) f.box (v:=W.td) rfl]
  refine f.todo.app (m:=0) (c:=.int .i64 (.ofNat A) 0) (λid d=>by have:=f.todo.own d;omega) (by omega) rfl rfl (by unfold nums;rw[List.length_map,List.length_reverse];omega) λS Z C p d=>?_
  have y:=(C (λ_=>True) trivial).ok
  have u:∀id,id<n->W.own id≠3->T.get Z id=T.get H id:=λid B E=>p id B λe=>E (f.todo.own e).2.2
  refine vC ((u _ (by omega) (by rw[f.ko];omega)).trans f.box) y.1 (by rw[y.2.1];rfl) (by omega) (by show 20+1<=21;omega) λI U J=>?_
  rw[y.2.1,AK2]at U
  have D:∀id,id<n->id≠K.kb->W.own id≠3->T.get I id=T.get H id:=λid B E w=>(J id E).trans (u id B w)
  have x:∀id,id<K.kb->T.get I id=T.get H id:=λid d=>(J id (by omega)).trans (p id (by omega) λe=>by have:=(f.todo.own e).1;omega)
  refine h ⟨W.ab,λid=>if id<N then W.own id else if id=n+1 then 3 else 0,W.q,W.vl,W.vs,S⟩ I _ ?_ (λid d=>if_pos d) ⟨by omega,λid B E w=>?_,λM=>M.same (x _ X)⟩
  ·refine⟨by omega,(if_pos Y).trans f.ko,U,f.gl,⟨f.abn.1,by have:=f.abn.2;show W.ab<_;omega⟩,(if_pos f.abn.2).trans f.abo,?_,λi s hi=>?_,f.ok,?_,by show td.length+1<=_;omega⟩
   ·obtain⟨ta,O,P⟩:=f.ats
    exact⟨ta,(D _ (by have:=f.abn;show W.ab<_;omega) (by have:=f.abn;show W.ab≠_;omega) (by show W.own W.ab≠3;rw[f.abo];omega)).trans O,P⟩
   ·obtain⟨O,Q,hl,M⟩:=f.st i s hi
    refine⟨(D _ (by show W.q i<_;omega) (by show W.q i≠_;omega) (by show W.own (W.q i)≠3;omega)).trans O,⟨Q.1,by show W.q i<_;omega,(if_pos Q.2.1).trans Q.2.2⟩,hl.mono (λid h=>⟨h.1,by omega,(if_pos h.2.1).trans h.2.2⟩) (λid h=>D id (by omega) (by omega) (by omega)),
     M.mono (λid h=>⟨h.1,by omega,(if_pos h.2.1).trans h.2.2⟩) λid h=>D id (by omega) (by omega) (by omega)⟩
   ·have e:nums (A::td).reverse=nums td.reverse++[A8 (.int .i64 (.ofNat A) 0)]:=by
     rw[List.reverse_cons];exact List.map_append
    show Sk I 1 _ S (nums (A::td).reverse)
    rw[e]
    refine(C (λid=>id=n+1) rfl).mono (λid d=>?_) λid d=>J id (by omega)
    subst d
    exact⟨by omega,by omega,by show(if n+1<N then _ else _)=3;rw[if_neg (by omega),if_pos rfl]⟩
  ·rcases w with w|w|w
   ·exact x id w
   ·exact(J id (by omega)).trans (p id B λe=>by have:=(f.todo.own e).2.1;omega)
   ·exact D id B (λe=>by rw[e,f.ko]at w;omega) (by omega)
end
end Go.RL
