/- Part of a proof; nothing is assumed. -/
import Derived.Test.YtibbhhkcjjeclaaDoorConB
import Derived.Test.YtibbhhkcjjeclaaDoorEngE
set_option linter.unusedVariables false
set_option linter.unusedSimpArgs false
namespace Go.RL
open Go.Bv
set_option maxRecDepth 100000
theorem AMp(q:IntKind)(a b:Nat):B2.ev .geq (.int q (.ofNat a) 0) (.int q (.ofNat b) 0)=some (.bool (decide (b<=a))):=by
 show BQ (band (keq q q) true) (mkB (ile (.ofNat b) (.ofNat a)))=_
 rw[TV,uD,show band (keq q q) true=true by simp[Ob],show decide (Int.ofNat b<=Int.ofNat a)=decide (b<=a)by rw[decide_eq_decide];show(b:Int)<=a↔_;omega];rfl
theorem ANo(q:IntKind)(a b:Nat):B2.ev .gtr (.int q (.ofNat a) 0) (.int q (.ofNat b) 0)=some (.bool (decide (b<a))):=by
 show BQ (band (keq q q) true) (mkB (ilt (.ofNat b) (.ofNat a)))=_
 rw[TV,WV,show band (keq q q) true=true by simp[Ob],show decide (Int.ofNat b<Int.ofNat a)=decide (b<a)by rw[decide_eq_decide];show(b:Int)<a↔_;omega];rfl
theorem iM(q:IntKind)(x y:Int):Cc (.one .int) false (.int q x 0) (.int q y 0)=some (.bool (decide (x=y))):=by
 have e:Cc (.one .int) false (.int q x 0) (.int q y 0)=ofB (RX (some (ieq x y)) λb=>some b):=by cases q<;>rfl
 rw[e,VQ,show(x==y)=decide (x=y)by rw[Bool.eq_iff_iff];simp];cases decide (x=y)<;>rfl
theorem AIM(q:IntKind)(x y:Int):Cc (.one .int) true (.int q x 0) (.int q y 0)=some (.bool (!decide (x=y))):=by
 have e:Cc (.one .int) true (.int q x 0) (.int q y 0)=ofB (RX (some (ieq x y)) λb=>some (aC b)):=by cases q<;>rfl
 rw[e,VQ,show(x==y)=decide (x=y)by rw[Bool.eq_iff_iff];simp];cases decide (x=y)<;>rfl
theorem Dy(q:IntKind)(x y:Nat):Cc (.one .int) false (.int q (.ofNat x) 0) (.int q (.ofNat y) 0)=some (.bool (decide (x=y))):=by
 rw[iM];congr 2;rw[decide_eq_decide];show(x:Int)=y↔_;omega
theorem AJp(q:IntKind)(x y:Nat):Cc (.one .int) true (.int q (.ofNat x) 0) (.int q (.ofNat y) 0)=some (.bool (!decide (x=y))):=by
 rw[AIM];congr 3;rw[decide_eq_decide];show(x:Int)=y↔_;omega
theorem AFV{a b:Nat}(hb:b<=a)(h:a<9223372036854775808):B2.ev .sub (.int .i64 (.ofNat a) 0) (.int .i64 (.ofNat b) 0)=some (.int .i64 (.ofNat (a-b)) 0):=by
 show some (V.int .i64 (iH .i64 (ABa (.ofNat a) (Int.neg (.ofNat b)))) 0)=_
 rw[VK,oZ]
 have e:Int.ofNat a+Int.neg (Int.ofNat b)=Int.ofNat (a-b):=by show(a:Int)+ -(b:Int)=((a-b:Nat):Int);omega
 rw[e,Yu (by show(-9223372036854775808:Int)<=((a-b:Nat):Int);omega) (by show((a-b:Nat):Int)<9223372036854775808;omega)]
theorem OT(q:IntKind)(a b:Nat):B2.ev .lss (.int q (.ofNat a) 0) (.int q (.ofNat b) 0)=some (.bool (decide (a<b))):=by
 show BQ (band (keq q q) true) (mkB (ilt (.ofNat a) (.ofNat b)))=_
 rw[TV,WV,show band (keq q q) true=true by simp[Ob],show decide (Int.ofNat a<Int.ofNat b)=decide (a<b)by rw[decide_eq_decide];show(a:Int)<b↔_;omega];rfl
def AAZ:Nat->List V->List (Nat×X)
 |_,[]=>[]
 |i,v::vs=>(i,.c v)::AAZ (i+1) vs
theorem ABR{z m:Nat}:∀(vs:List V) (i:Nat),i+vs.length<=m->(∀v∈vs,YR v=true/\(Aq v).length=z)->Ye (AAZ i vs) E0 z m=true
 |[],_,_,_=>rfl
 |v::vs,i,h,hv=>by
  show band (band (YR v) (band (Nat.blt i m) (Nat.beq (len (Aq v)) z))) (Ye (AAZ (i+1) vs) E0 z m)=true
  obtain⟨h1,h2⟩:=hv v (List.mem_cons_self ..)
  rw[h1,len_eq,h2,show Nat.blt i m=true by rw[Nat.blt_eq];simp at h;omega,Du,ABR vs (i+1) (by simp at h;omega) λw hw=>hv w (List.mem_cons_of_mem _ hw)];rfl
theorem ADa:∀(vs:List V) (i:Nat) (t:T LV) (j:Nat),T.get (jF (AAZ i vs) E0 t) j=if i<=j/\j<i+vs.length then(vs[j-i]?).map Aq else T.get t j
 |[],i,t,j=>by rw[if_neg (by simp)];rfl
 |v::vs,i,t,j=>by
  show T.get (jF (AAZ (i+1) vs) E0 (T.set t i (Aq v))) j=_
  rw[ADa vs (i+1)]
  by_cases h1:i+1<=j/\j<i+1+vs.length
  ·rw[if_pos h1,if_pos (by rw[List.length_cons];omega)]
   rw[show j-i=(j-(i+1))+1 by omega,List.getElem?_cons_succ]
  ·rw[if_neg h1,T.Qs]
   by_cases h2:i=j
   ·subst h2;rw[if_pos (by simp)];simp
   ·rw[if_neg h2,if_neg (by rw[List.length_cons];omega)]
theorem ABW{G:AX}{z m:Nat}{Z:LV}{vs:List V}{H:Heap}{n:Nat}{P:KV}(hm:vs.length=m)(hz:0<z)(hv:∀v∈vs,YR v=true/\(Aq v).length=z)
 (h:∀H',Kp H n H' (n+1)->(∃t,T.get H' n=some (.arr z m t))->El G H' (.sl n 0 m m z) z (vs.map Aq)->P (.sl n 0 m m z) H' (n+1)):Bg (Az z m Z (AAZ 0 vs) E0) H n P:=by
 show NI (Ye (AAZ 0 vs) E0 z m) (DU n λn=>P (.sl n 0 m m z) (T.set H n (.arr z m (jF (AAZ 0 vs) E0 (wz Z m .e)))) (Nat.succ n))
 rw[ABR vs 0 (by omega) hv,WG,BO]
 refine h _ ((Kp.refl H n).new _ (Nat.le_refl _) (by omega)) ⟨_,T.Ai ..⟩ ⟨rfl,?_⟩
 show(Bool.rec (motive:=λ_=>Option ET) none (CU _ n z m 0) (Nat.beq z z):Option ET)=_
 rw[Du]
 refine Yq _ _ _ (by simp[hm]) λi c hc=>?_
 have hlt:i<m:=by have:=(List.getElem?_eq_some_iff.1 hc).1;simp at this;omega
 rw[Nat.zero_add,XD (T.Ai ..) hz hlt,ADa,if_pos ⟨by omega,by omega⟩,Nat.sub_zero]
 simpa using hc
theorem AQx{G:AX}{H:Heap}{id o m z:Nat}{LS:ET}(h:CU H id z m o=some LS):El G H (.Rh id o m z) z LS:=by
 refine⟨rfl,?_⟩
 show(Bool.rec (motive:=λ_=>Option ET) none (CU H id z m o) (Nat.beq z z):Option ET)=some LS
 rw[Du];exact h
theorem APJ{H:Heap}{id e c i:Nat}{t:T LV}{L new:LV}(hg:T.get H id=some (.arr e c t))(he:0<e)(hi:i<c)(ht:T.get t i=some L):stH H id (i*e) e new=some (T.set H id (.arr e c (T.set t i new))):=by
 unfold stH
 rw[hg]
 show BR (stB e c t (i*e) e new) _=_
 unfold stB
 have hd:Nat.div (i*e) e=i:=Nat.mul_div_cancel i he
 have hm:Nat.mod (i*e) e=0:=Nat.mul_mod_left i e
 rw[hd,show Nat.blt i c=true by rw[Nat.blt_eq];exact hi]
 show BR (BR (T.get t i) (stC new e c t (i*e) e)) _=_
 rw[ht,V4]
 unfold stC
 rw[hd,hm,Du]
 rfl
theorem AGR{H:Heap}{id e c i n:Nat}{t:T LV}{L:LV}{v:V}{P:KV}(hg:T.get H id=some (.arr e c t))(he:0<e)(hi:i<c)(ht:T.get t i=some L)(hv:YR v=true)(hn:(Aq v).length=e)
 (h:∀H',T.get H' id=some (.arr e c (T.set t i (Aq v)))->(∀j,j≠id->T.get H' j=T.get H j)->P .undef H' n):BZ e (.ptr id (i*e)) v H n P:=by
 unfold BZ
 rw[hv,len_eq,hn,Du,show stP (.ptr id (i*e)) H e (Aq v)=stH H id (i*e) e (Aq v)from rfl,APJ hg he hi ht]
 exact h _ (T.Ai ..) λj hj=>T.Ac _ _ (Ne.symm hj)
theorem ABp{id o m c z i:Nat}{q:IntKind}(h:i<m):Ad z (.sl id o m c z) (.int q (.ofNat i) 0)=some (.ptr id ((o+i)*z)):=by
 show BQ (band (Nat.beq z z) (Nat.blt i m)) (GX (Nat.mul (Nat.add o i) z) λo=>some (.ptr id o))=_
 rw[Du,show Nat.blt i m=true by rw[Nat.blt_eq];exact h,EL];rfl
theorem ANX{id o m z i:Nat}{q:IntKind}(h:i<m):Ad z (.Rh id o m z) (.int q (.ofNat i) 0)=some (.ptr id ((o+i)*z)):=by
 show BQ (band (Nat.beq z z) (Nat.blt i m)) (GX (Nat.mul (Nat.add o i) z) λo=>some (.ptr id o))=_
 rw[Du,show Nat.blt i m=true by rw[Nat.blt_eq];exact h,EL];rfl
theorem AJh{G:AX}{H:Heap}{m n z bs:Nat}{v w:V}{LS NS:ET}{k:KV}(h:Gr G H m z v LS)(hm:m<=n)(hn:∀id,v.Xt=some id->id<n)(hw:elems w G H z=some NS)
 (hb:(LS.length+NS.length)*bs<=140737488355328)
 (hk:∀v' H',Gr G H' m z v' (LS++NS)->(∀id,id<n->v.Xt≠some id->T.get H' id=T.get H id)->(∀id,v'.Xt=some id->id=n)->k v' H' (n+1))
 (hk0:NS=[]->k v H n):V8 z bs v w G H n k:=by
 unfold V8
 rw[hw,XQ]
 cases h with
 |nil=>
  cases NS with
  |nil=>exact hk0 rfl
  |cons a NS=>
   show LZ z bs [] (a::NS) H n k
   unfold LZ
   rw[BO,BO,len_eq,len_eq,show RP (Nat.add ([]:ET).length (a::NS).length) bs=true from Yv hb,WG]
   have e:Nat.add ([]:ET).length (a::NS).length=(a::NS).length:=Nat.zero_add _
   rw[e]
   refine hk _ _ ?_ (λid hid _=>T.Ac _ _ (by omega)) (λid hid=>by cases hid;rfl)
   refine .Rh (LS:=a::NS) (T.Ai ..) (Nat.le_refl _) (λi L hi=>?_) hm
   show T.get (Fv (a::NS) 0 .e) i=some L
   have hlt:=(List.getElem?_eq_some_iff.1 hi).1
   rw[F6,if_pos ⟨Nat.zero_le _,by omega⟩];exact hi
 |Rh hg hc ht hid=>
  rename_i id c t
  show NI (Nat.beq z z) _
  rw[Du,WG]
  cases NS with
  |nil=>exact hk0 rfl
  |cons a NS=>
   show Gz (T.get H id) (λb=>aS id 0 LS.length z bs (a::NS) H n k b)
   rw[hg,XQ]
   rw[AGt (Yv hb) hc,show LS.length+(a::NS).length=(LS++a::NS).length by rw[List.length_append]]
   refine hk _ _ ?_ (λj hj hne=>?_) (λj hj=>by cases hj;rfl)
   ·refine .Rh (LS:=LS++a::NS) (T.Ai ..) (Nat.le_refl _) (λi L hi=>?_) hm
    rw[F6]
    by_cases hlt:i<LS.length
    ·rw[if_neg (by omega)]
     rw[List.getElem?_append_left hlt]at hi
     exact ht i L hi
    ·rw[List.getElem?_append_right (by omega)]at hi
     have hlt2:=(List.getElem?_eq_some_iff.1 hi).1
     rw[if_pos ⟨by omega,by omega⟩];exact hi
   ·rw[T.Ac _ _ (by omega),T.Ac _ _ (by intro e;subst e;exact hne rfl)]
theorem AFY{e:Option V}{v:V}{P:V->Prop}(h:e=some v)(hp:P v):AL e P:=by rw[h];exact hp
theorem AJ7{v:V}{P:Prop}(h:GK v v=true)(hp:P):NI (GK v v) P:=by rw[h];exact hp
theorem ALd{e:Option V}{a:V}{P:Prop}(h:e=some a)(hv:GK a a=true)(hp:P):uO (.bool true) true e a P:=by
 subst h
 show NI (GK a a) P
 rw[hv];exact hp
theorem ATZ{e:Option V}{a:V}{P:Prop}(h:e=some a)(hv:GK a a=true)(hp:P):uO (.bool false) false e a P:=by
 subst h
 show NI (GK a a) P
 rw[hv];exact hp
theorem iJ{e:Option V}{a:V}{P:V->Prop}(h:e=some a)(hp:P a):Aj (.bool true) true e P:=by rw[AQg];exact AFY h hp
theorem xH{e:Option V}{a:V}{P:V->Prop}(h:e=some a)(hp:P a):Aj (.bool false) false e P:=by rw[AQM];exact AFY h hp
theorem ATw{t:KV->Prop}{H:Heap}{n:Nat}{Q:KV}(hp:t Q):D5 (.bool true) true t H n Q:=hp
theorem AVj{t:KV->Prop}{H:Heap}{n:Nat}{Q:KV}(hp:t Q):D5 (.bool false) false t H n Q:=hp
theorem IG{H:Heap}{n m b:Nat}{L0 L:LV}{P:KV}(g:T.get H b=some (one L0))(h0:L0.length=m)(h1:L.length=m)(hm:0<m)(h:∀H',T.get H' b=some (one L)->(∀j,j≠b->T.get H' j=T.get H j)->P .undef H' n):
 BZ m (.ptr b 0) (.agg L) H n P:=by
 rw[Gq g hm h0 h1];exact h _ (T.Ai ..) λj hj=>T.Ac _ _ (Ne.symm hj)
theorem AMa(a b c d e:Nat):GK (.sl a b c d e) (.sl a b c d e)=true:=by
 show J4 (.sl a b c d e) (.sl a b c d e)=true
 simp[J4,ALZ,BP]
theorem AP5(a b c d:Nat):GK (.Rh a b c d) (.Rh a b c d)=true:=by
 show J4 (.Rh a b c d) (.Rh a b c d)=true
 simp[J4,AHY,BP]
theorem AJe{G:AX}{H:Heap}{n id z bs:Nat}{t:T LV}{w:V}{a:LV}{NS:ET}{k:KV}(hz:0<z)(hw:elems w G H z=some (a::NS))(hr:(a::NS).length*bs<=140737488355328)
 (hk:∀v' H',Gr G H' 0 z v' (a::NS)->(∀j,j<n->T.get H' j=T.get H j)->(∀i,v'.Xt=some i->i=n)->k v' H' (n+1)):V8 z bs (.sl id 0 0 0 z) w G H n k:=by
 unfold V8
 rw[hw,XQ]
 have e0:AEz (.sl id 0 0 0 z) G z bs (a::NS) H n k=Bool.rec (motive:=λ_=>Prop) (Gz (CU H id z 0 0) λOS=>LZ z bs OS (a::NS) H n k) (Gz (T.get H id) λb=>qj id 0 0 0 z (0+(a::NS).length) (a::NS) H n k b) (Nat.ble (0+(a::NS).length) 0):=by
  show NI (Nat.beq z z) (DU (Nat.add 0 (len (a::NS))) λneed=>Bool.rec (motive:=λ_=>Prop) (Gz (CU H id z 0 0) λOS=>LZ z bs OS (a::NS) H n k) (Gz (T.get H id) λb=>qj id 0 0 0 z need (a::NS) H n k b) (Nat.ble need 0))=_
  rw[Du,WG,BO,len_eq];rfl
 rw[e0,show Nat.ble (0+(a::NS).length) 0=false by rw[Bool.eq_false_iff];intro hc;rw[Nat.ble_eq]at hc;simp at hc]
 show Gz (some []) (λOS=>LZ z bs OS (a::NS) H n k)
 rw[XQ]
 unfold LZ
 rw[BO,BO,len_eq,len_eq,show RP (Nat.add ([]:ET).length (a::NS).length) bs=true from Yv (by rw[show Nat.add ([]:ET).length (a::NS).length=(a::NS).length from Nat.zero_add _];exact hr),WG]
 have e:Nat.add ([]:ET).length (a::NS).length=(a::NS).length:=Nat.zero_add _
 rw[e]
 refine hk _ _ ?_ (λj hj=>T.Ac _ _ (by omega)) (λi hi=>by cases hi;rfl)
 refine .Rh (LS:=a::NS) (T.Ai ..) (Nat.le_refl _) (λi L hi=>?_) (Nat.zero_le _)
 show T.get (Fv (a::NS) 0 .e) i=some L
 have hlt:=(List.getElem?_eq_some_iff.1 hi).1
 rw[F6,if_pos ⟨Nat.zero_le _,by omega⟩];exact hi
inductive Sk(H:Heap)(z:Nat)(A:Nat->Prop):V->ET->Prop where
 |nil:Sk H z A .AZ []
 |emp {id:Nat} {t:T LV} (hg:T.get H id=some (.arr z 0 t)) (ha:A id):Sk H z A (.sl id 0 0 0 z) []
 |Rh {id c:Nat} {t:T LV} {LS:ET} (hg:T.get H id=some (.arr z c t)) (hc:LS.length<=c) (ht:∀i L,LS[i]? =some L->T.get t i=some L) (ha:A id):Sk H z A (.Rh id 0 LS.length z) LS
section
variable{G:AX}{H H':Heap}{z n:Nat}{A B:Nat->Prop}{v:V}{LS:ET}
theorem Sk.own(h:Sk H z A v LS){id:Nat}(hid:v.Xt=some id):A id:=by cases h<;>cases hid<;>assumption
theorem Sk.mono(h:Sk H z A v LS)(hA:∀id,A id->B id)(hs:∀id,A id->T.get H' id=T.get H id):Sk H' z B v LS:=by
 cases h with
 |nil=>exact .nil
 |emp hg ha=>exact .emp ((hs _ ha).trans hg) (hA _ ha)
 |Rh hg hc ht ha=>exact .Rh ((hs _ ha).trans hg) hc ht (hA _ ha)
theorem Sk.AHL(h:Sk H z A v LS)(hA:∀id,v.Xt=some id->B id)(hs:∀id,v.Xt=some id->T.get H' id=T.get H id):Sk H' z B v LS:=by
 cases h with
 |nil=>exact .nil
 |emp hg ha=>exact .emp ((hs _ rfl).trans hg) (hA _ rfl)
 |Rh hg hc ht ha=>exact .Rh ((hs _ rfl).trans hg) hc ht (hA _ rfl)
theorem Sk.el(h:Sk H z A v LS)(hz:0<z):El G H v z LS:=by
 cases h with
 |nil=>exact⟨rfl,rfl⟩
 |emp hg ha=>
  refine⟨rfl,?_⟩
  show(Bool.rec (motive:=λ_=>Option ET) none (CU H _ z 0 0) (Nat.beq z z):Option ET)=some []
  rw[Du];rfl
 |Rh hg hc ht ha=>exact AQx (Yq _ _ _ rfl λi c hi=>by
  have hlt:=(List.getElem?_eq_some_iff.1 hi).1
  rw[Nat.zero_add,XD hg hz (by omega)];exact ht i c hi)
theorem Sk.ok(h:Sk H z A v LS):YR v=true/\Aq v=[v]/\GK v v=true:=by
 cases h with
 |nil=>exact⟨rfl,rfl,rfl⟩
 |emp=>exact⟨rfl,rfl,AMa ..⟩
 |Rh=>exact⟨rfl,rfl,AP5 ..⟩
theorem Sk.put{i:Nat}{q:IntKind}{w:V}{P:KV}(h:Sk H z A v LS)(hz:0<z)(hi:i<LS.length)(hw:YR w=true)(hn:(Aq w).length=z)
 (hk:∀H',Sk H' z A v (LS.set i (Aq w))->(∀j,v.Xt≠some j->T.get H' j=T.get H j)->P .undef H' n):AL (Ad z v (.int q (.ofNat i) 0)) λp=>BZ z p w H n P:=by
 cases h with
 |nil=>simp at hi
 |emp=>simp at hi
 |Rh hg hc ht ha=>
  rename_i id c t
  refine AFY (ANX hi) ?_
  rw[Nat.zero_add]
  refine AGR hg hz (by omega) (ht i _ (List.getElem?_eq_getElem hi)) hw hn λH' g s=>?_
  refine hk H' ?_ λj hj=>s j λe=>hj (by rw[e];rfl)
  have hl:(LS.set i (Aq w)).length=LS.length:=by simp
  rw[<-hl]
  refine .Rh g (by rw[hl];exact hc) (λj L hj=>?_) ha
  by_cases e:i=j
  ·subst e
   rw[List.getElem?_set_self hi]at hj
   rw[T.Ai];exact hj
  ·rw[List.getElem?_set_ne e]at hj
   rw[T.Ac _ _ e];exact ht j L hj
theorem Sk.app{bs m:Nat}{c:V}{P:KV}{Z:LV}(h:Sk H z A v LS)(hn:∀id,v.Xt=some id->id<n)(hz:0<z)(hok:YR c=true)(hc:(Aq c).length=z)(hb:(LS.length+1)*bs<=140737488355328)
 (hk:∀v' H',(∀B:Nat->Prop,B (n+1)->Sk H' z B v' (LS++[Aq c]))->(∀id,id<n->v.Xt≠some id->T.get H' id=T.get H id)->v'.Xt=some (n+1)->P v' H' (n+2)):
 Bg (Az z 1 Z [(0,.c c)] E0) H n λw H n=>V8 z bs v w G H n P:=by
 refine ABW (G:=G) (vs:=[c]) rfl hz (λv hv=>by simp at hv;subst hv;exact⟨hok,hc⟩) λH6 f6 _ hel=>?_
 have fin:∀{v':V} {H7:Heap},Gr G H7 0 z v' (LS++[Aq c])->(∀id,v'.Xt=some id->id=n+1)->v'.Xt=some (n+1)/\∀B:Nat->Prop,B (n+1)->Sk H7 z B v' (LS++[Aq c]):=by
  intro v' H7 hgr hlo
  generalize hX:LS++[Aq c]=X at hgr
  cases hgr with
  |nil=>simp at hX
  |Rh hg hc ht hid=>
   have e:=hlo _ rfl
   subst e
   exact⟨rfl,λB hB=>.Rh hg hc ht hB⟩
 cases h with
 |nil=>
  refine AJh (m:=0) .nil (by omega) (λ_ h=>by cases h) hel.2 hb ?_ (λh=>by cases h)
  intro v' H7 hgr hsame hlo
  obtain⟨q1,q2⟩:=fin (v':=v') hgr hlo
  exact hk v' H7 q2 (λid h1 h2=>(hsame id (by omega) h2).trans (f6.same id h1)) q1
 |emp hg ha=>
  rename_i id t
  have hid:=hn id rfl
  refine AJe (t:=t) hz hel.2 (by simpa using hb) ?_
  intro v' H7 hgr hsame hlo
  obtain⟨q1,q2⟩:=fin (v':=v') hgr hlo
  exact hk v' H7 q2 (λid h1 h2=>(hsame id (by omega)).trans (f6.same id h1)) q1
 |Rh hg hc' ht ha=>
  rename_i id c' t
  have hid:=hn id rfl
  have hgr:Gr G H6 0 z (.Rh id 0 LS.length z) LS:=.Rh ((f6.same id hid).trans hg) hc' ht (Nat.zero_le _)
  refine AJh (m:=0) hgr (by omega) (λj h=>by cases h;omega) hel.2 hb ?_ (λh=>by cases h)
  intro v' H7 hgr hsame hlo
  obtain⟨q1,q2⟩:=fin (v':=v') hgr hlo
  exact hk v' H7 q2 (λid h1 h2=>(hsame id (by omega) h2).trans (f6.same id h1)) q1
theorem Sk.pop{i:Nat}{q:IntKind}(h:Sk H z A v LS)(hi:i<LS.length):∃v',xK z v E0 none (some (.c (.int q (.ofNat i) 0))) none=some v'/\v'.Xt=v.Xt/\Sk H z A v' (LS.take i):=by
 cases h with
 |nil=>simp at hi
 |emp=>simp at hi
 |Rh hg hc ht ha=>
  rename_i id c t
  have hl:(LS.take i).length=i:=by rw[List.length_take];omega
  refine⟨.Rh id 0 i z,?_,rfl,?_⟩
  ·show BQ (Nat.beq z z) (BQ (band (Nat.ble 0 i) (Nat.ble i LS.length)) (f3 0 (i-0) 0 λo d _=>.Rh id o d z))=_
   rw[Du,show Nat.ble 0 i=true by rw[Nat.ble_eq];omega,show Nat.ble i LS.length=true by rw[Nat.ble_eq];omega]
   show GX 0 (λa=>GX (i-0) λb=>GX 0 λ_=>some (.Rh id a b z))=_
   rw[EL,EL,EL,Nat.sub_zero]
  ·have:=Sk.Rh (z:=z) (LS:=LS.take i) hg (by rw[hl];omega) (λj L hj=>ht j L (by rw[List.getElem?_take]at hj;split at hj;exact hj;cases hj)) ha
   rw[hl]at this;exact this
end
theorem Ty.OV{a b:Ty}:a.is b=true↔a=b:=by
 cases a with
 |mk n r=>
 cases b with
 |mk m s=>
 simp only[Ty.is,Bool.and_eq_true,decide_eq_true_eq,beq_iff_eq,Ty.mk.injEq]
 constructor
 ·rintro⟨⟨h1,h2⟩,h3⟩;exact⟨Prod.ext h1 h2,h3⟩
 ·rintro⟨rfl,rfl⟩;exact⟨⟨rfl,rfl⟩,rfl⟩
theorem Ty.AAr(a:Ty):a.is a=true:=Ty.OV.2 rfl
theorem Ty.Xg{a b:Ty}:a.is b=false↔a≠b:=by rw[<-Bool.not_eq_true,Ty.OV]
def CB:Ty:=⟨(0,0),false⟩
def Dw:Ty:=⟨(3,7630441),false⟩
def FQ:Ty:=⟨(4,1819242338),false⟩
def CQ:Ty:=⟨(4,1819047278),false⟩
def Ty.cls(t:Ty):Bool:=isClass t.nm.1 t.nm.2 t.arr
def Ty.obj(t:Ty):Bool:=t.arr||(t.cls||t.is CQ)
def Gw(fs:Tab)(a b:St):Bool:=jK b (above fs a).1
def Js(fs:Tab)(b:St):List St->St
 |[]=>(0,0)
 |c::cs=>bif Gw fs b c then c else Js fs b cs
def JW(fs:Tab)(a b:St):St:=Js fs b (above fs a).1
def fitsT(fs:Tab)(a b:Ty):Bool:=bif a.is b then true else bif a.is CQ then b.obj else a.cls&&(b.cls&&Gw fs a.nm b.nm)
def FB(fs:Tab)(a b:Ty):Ty×Bool:=
 bif a.is b then(a,true)else bif a.is CQ&&b.obj then(b,true)else bif b.is CQ&&a.obj then(a,true)else
 bif (a.cls&&b.cls)&& !decide (JW fs a.nm b.nm=(0,0))then(⟨JW fs a.nm b.nm,false⟩,true)else(CB,false)
theorem PV:CQ.cls=false:=by decide
theorem jP:CB.cls=false:=by decide
theorem AFn:CB.obj=false:=by decide
theorem AEN:∀(m:Nat) (fs:Tab) (out:List St) (s x:St),x∈(IJ m fs out s).1->x∈out∨x≠(0,0)
 |0,_,_,_,_,h=>.inl h
 |m+1,fs,out,s,x,h=>by
  unfold IJ at h
  cases h0:decide (s.1=0/\s.2=0)with
  |true=>rw[h0]at h;exact .inl h
  |false=>
   rw[h0,cond_false]at h
   cases hl:Cj fs s with
   |none=>rw[hl]at h;exact .inl h
   |some c=>
    rw[hl]at h
    cases hh:jK s out with
    |true=>simp only[hh,cond_true]at h;exact .inl h
    |false=>
     simp only[hh,cond_false]at h
     rcases AEN m fs _ _ x h with h|h
     ·rcases List.mem_append.1 h with h|h
      ·exact .inl h
      ·rw[List.mem_singleton.1 h];exact .inr λe=>by rw[e]at h0;simp at h0
     ·exact .inr h
def Whole(fs:Tab):Prop:=∀s c,Cj fs s=some c->(above fs s).2=true
inductive Chain(fs:Tab):St->List St->Prop
 |nil:Chain fs (0,0) []
 |cons {s:St} {c:Fc} {l:List St} (h0:s≠(0,0)) (hl:Cj fs s=some c) (t:Chain fs c.sup l):Chain fs s (s::l)
theorem vM:∀(m:Nat) (fs:Tab) (out:List St) (s:St) (r:List St),IJ m fs out s=(r,true)->∃l,r=out++l/\Chain fs s l
 |0,_,_,_,_,h=>by simp[IJ]at h
 |m+1,fs,out,s,r,h=>by
  unfold IJ at h
  cases h0:decide (s.1=0/\s.2=0)with
  |true=>
   rw[h0]at h
   have e:s=(0,0):=by have:=of_decide_eq_true h0;exact Prod.ext this.1 this.2
   subst e
   cases h
   exact⟨[],by simp,.nil⟩
  |false=>
   rw[h0,cond_false]at h
   cases hl:Cj fs s with
   |none=>rw[hl]at h;cases h
   |some c=>
    rw[hl]at h
    cases hh:jK s out with
    |true=>simp only[hh,cond_true]at h;cases h
    |false=>
     simp only[hh,cond_false]at h
     obtain⟨l,rfl,hc⟩:=vM m fs _ _ r h
     exact⟨s::l,by simp,.cons (λe=>by rw[e]at h0;simp at h0) hl hc⟩
theorem Chain.det{fs:Tab}:∀{s:St} {l m:List St},Chain fs s l->Chain fs s m->l=m
 |_,_,_,.nil,.nil=>rfl
 |_,_,_,.nil,.cons h _ _=>absurd rfl h
 |_,_,_,.cons h _ _,.nil=>absurd rfl h
 |_,_,_,.cons _ h1 t1,.cons _ h2 t2=>by
  rw[h1]at h2;cases h2
  rw[t1.det t2]
theorem EW{fs:Tab}{s:St}(h:(above fs s).2=true):Chain fs s (above fs s).1:=by
 obtain⟨l,h1,h2⟩:=vM _ fs [] s (above fs s).1 (by rw[<-h];rfl)
 rw[List.nil_append]at h1
 rw[h1];exact h2
theorem Chain.suffix{fs:Tab}:∀{s x:St} {l:List St},Chain fs s l->x∈l->∃p m,l=p++m/\Chain fs x m
 |_,_,_,.nil,h=>by cases h
 |s,x,_,.cons (l:=l) h0 hl t,h=>by
  rcases List.mem_cons.1 h with rfl|h
  ·exact⟨[],_,rfl,.cons h0 hl t⟩
  ·obtain⟨p,m,e,hc⟩:=t.suffix h
   exact⟨s::p,m,by rw[e];rfl,hc⟩
theorem Chain.known{fs:Tab}:∀{s x:St} {l:List St},Chain fs s l->x∈l->∃c,Cj fs x=some c
 |_,_,_,.nil,h=>by cases h
 |s,x,_,.cons h0 hl t,h=>by
  rcases List.mem_cons.1 h with rfl|h
  ·exact⟨_,hl⟩
  ·exact t.known h
theorem Chain.hd{fs:Tab}{s:St}{l:List St}(h:Chain fs s l)(h0:s≠(0,0)):s∈l:=by
 cases h with
 |nil=>exact absurd rfl h0
 |cons=>exact List.mem_cons_self ..
section
variable{fs:Tab}(hw:Whole fs)
include hw
omit hw in
theorem KJ{a x:St}(h:x∈(above fs a).1):∃c,Cj fs a=some c:=by
 unfold above IJ at h
 cases h0:decide (a.1=0/\a.2=0)with
 |true=>rw[h0]at h;cases h
 |false=>
  rw[h0,cond_false]at h
  cases hl:Cj fs a with
  |none=>rw[hl]at h;cases h
  |some c=>exact⟨c,rfl⟩
theorem Vd{a b:St}(h:b∈(above fs a).1):∃p,(above fs a).1=p++(above fs b).1/\b∈(above fs b).1:=by
 obtain⟨c,hc⟩:=KJ h
 have ha:=EW (hw a c hc)
 obtain⟨p,m,e,hm⟩:=ha.suffix h
 obtain⟨d,hd⟩:=ha.known h
 have hb:=EW (hw b d hd)
 have:=hm.det hb
 subst this
 have h0:b≠(0,0):=by
  rcases AEN _ _ _ _ _ h with h|h
  ·cases h
  ·exact h
 exact⟨p,e,hb.hd h0⟩
theorem zu{a b c:St}(h1:Gw fs a b=true)(h2:Gw fs b c=true):Gw fs a c=true:=by
 unfold Gw at*
 rw[OU]at*
 obtain⟨p,e,_⟩:=Vd hw h1
 rw[e];exact List.mem_append_right _ h2
theorem AEH{b:St}:∀{l:List St} {a:St},Chain fs a l->∀u,u∈l->Gw fs b u=true->Js fs b l≠(0,0)/\Js fs b l∈l/\Gw fs b (Js fs b l)=true/\Gw fs (Js fs b l) u=true
 |_,_,.nil,u,h,_=>by cases h
 |_,_,.cons (s:=s) (l:=l) h0 hl t,u,h,hu=>by
  unfold Js
  cases hb:Gw fs b s with
  |true=>
   refine⟨h0,List.mem_cons_self ..,hb,?_⟩
   have hc:=EW (hw s _ hl)
   have e:=(Chain.cons h0 hl t).det hc
   unfold Gw
   rw[OU]
   show u∈(above fs s).1
   rw[<-e];exact h
  |false=>
   rcases List.mem_cons.1 h with rfl|h
   ·rw[hu]at hb;cases hb
   ·obtain⟨h1,h2,h3,h4⟩:=AEH t u h hu
    exact⟨h1,List.mem_cons_of_mem _ h2,h3,h4⟩
omit hw in
theorem zD{b:St}:∀{l:List St},Js fs b l≠(0,0)->Js fs b l∈l/\Gw fs b (Js fs b l)=true
 |[],h=>absurd rfl h
 |c::l,h=>by
  unfold Js at*
  cases hb:Gw fs b c with
  |true=>exact⟨List.mem_cons_self ..,hb⟩
  |false=>
   rw[hb,cond_false]at h
   obtain⟨h1,h2⟩:=zD h
   exact⟨List.mem_cons_of_mem _ h1,h2⟩
end
def Upper(fs:Tab):Prop:=∀s c,Cj fs s=some c->upper s.1 s.2=true
theorem GN{fs:Tab}{a b:Ty}:fitsT fs a b=true↔a=b∨(a=CQ/\b.obj=true)∨(a.cls=true/\b.cls=true/\Gw fs a.nm b.nm=true):=by
 unfold fitsT
 cases h:a.is b with
 |true=>simp[Ty.OV.1 h]
 |false=>
  have hne:=Ty.Xg.1 h
  cases h2:a.is CQ with
  |true=>
   have e:=Ty.OV.1 h2
   subst e
   have:=PV
   simp[hne,this]
  |false=>
   have hne2:=Ty.Xg.1 h2
   simp[hne,hne2,Bool.and_eq_true]
theorem KL(fs:Tab)(a:Ty):fitsT fs a a=true:=GN.2 (.inl rfl)
theorem AFG{a:Ty}(h:a.cls=true):a.obj=true:=by unfold Ty.obj;rw[h];simp
theorem AA2:CQ.obj=true:=by decide
theorem AGu{a:Ty}(h:a.cls=true):a≠CQ:=λe=>by rw[e,PV]at h;cases h
section
variable{fs:Tab}(hw:Whole fs)
include hw
theorem rO{a b c:Ty}(h1:fitsT fs a b=true)(h2:fitsT fs b c=true):fitsT fs a c=true:=by
 rw[GN]at*
 rcases h1 with rfl|⟨rfl,h1⟩|⟨h1,h2',h3⟩
 ·exact h2
 ·rcases h2 with rfl|⟨rfl,h2⟩|⟨h4,h5,_⟩
  ·exact .inr (.inl ⟨rfl,h1⟩)
  ·exact .inr (.inl ⟨rfl,h2⟩)
  ·exact .inr (.inl ⟨rfl,AFG h5⟩)
 ·rcases h2 with rfl|⟨rfl,h2⟩|⟨h4,h5,h6⟩
  ·exact .inr (.inr ⟨h1,h2',h3⟩)
  ·rw[PV]at h2';cases h2'
  ·exact .inr (.inr ⟨h1,h5,zu hw h3 h6⟩)
omit hw in
theorem Z5{a b:Ty}(h:fitsT fs a b=true)(hb:b.obj=true):a.obj=true:=by
 rw[GN]at h
 rcases h with rfl|⟨rfl,h1⟩|⟨h1,_,_⟩
 ·exact hb
 ·exact AA2
 ·exact AFG h1
omit hw in
theorem ACp{a b:Ty}(h:fitsT fs a b=true)(hb:b.obj=false):a=b:=by
 rw[GN]at h
 rcases h with rfl|⟨rfl,h1⟩|⟨_,h1,_⟩
 ·rfl
 ·rw[hb]at h1;cases h1
 ·rw[AFG h1]at hb;cases hb
variable(hu:Upper fs)
include hu
theorem AFI{a b j:Ty}(h:FB fs a b=(j,true)):fitsT fs a j=true/\fitsT fs b j=true:=by
 unfold FB at h
 cases h1:a.is b with
 |true=>
  rw[h1]at h;cases h
  have:=Ty.OV.1 h1;subst this
  exact⟨KL ..,KL ..⟩
 |false=>
  rw[h1,cond_false]at h
  cases h2:a.is CQ&&b.obj with
  |true=>
   rw[h2]at h;cases h
   rw[Bool.and_eq_true]at h2
   exact⟨GN.2 (.inr (.inl ⟨Ty.OV.1 h2.1,h2.2⟩)),KL ..⟩
  |false=>
   rw[h2,cond_false]at h
   cases h3:b.is CQ&&a.obj with
   |true=>
    rw[h3]at h;cases h
    rw[Bool.and_eq_true]at h3
    exact⟨KL ..,GN.2 (.inr (.inl ⟨Ty.OV.1 h3.1,h3.2⟩))⟩
   |false=>
    rw[h3,cond_false]at h
    cases h4:(a.cls&&b.cls)&& !decide (JW fs a.nm b.nm=(0,0))with
    |false=>rw[h4]at h;cases h
    |true=>
     rw[h4]at h;cases h
     simp only[Bool.and_eq_true,Bool.not_eq_true',decide_eq_false_iff_not]at h4
     obtain⟨⟨ha,hb⟩,hc⟩:=h4
     obtain⟨m1,m2⟩:=zD (fs:=fs) hc
     have hk:∃c,Cj fs (JW fs a.nm b.nm)=some c:=by
      have m1':JW fs a.nm b.nm∈(above fs a.nm).1:=m1
      obtain⟨c,hc⟩:=KJ m1'
      exact(EW (hw _ _ hc)).known m1'
     obtain⟨c,hk⟩:=hk
     have hcls:(⟨JW fs a.nm b.nm,false⟩:Ty).cls=true:=by
      show(!false&&upper _ _)=true
      rw[hu _ _ hk];rfl
     exact⟨GN.2 (.inr (.inr ⟨ha,hcls,by unfold Gw;rw[OU];exact m1⟩)),GN.2 (.inr (.inr ⟨hb,hcls,m2⟩))⟩
omit hw hu in
theorem vU{a:Ty}(h:a.cls=true):a.arr=false:=by
 unfold Ty.cls isClass at h
 cases ha:a.arr with
 |true=>rw[ha]at h;cases h
 |false=>rfl
theorem AHN{a b u:Ty}(h1:fitsT fs a u=true)(h2:fitsT fs b u=true):∃j,FB fs a b=(j,true)/\fitsT fs j u=true:=by
 unfold FB
 cases e1:a.is b with
 |true=>exact⟨a,rfl,h1⟩
 |false=>
  have hne:=Ty.Xg.1 e1
  rw[cond_false]
  cases e2:a.is CQ&&b.obj with
  |true=>exact⟨b,rfl,h2⟩
  |false=>
   rw[cond_false]
   cases e3:b.is CQ&&a.obj with
   |true=>exact⟨a,rfl,h1⟩
   |false=>
    rw[cond_false]
    have na:a≠CQ:=λe=>by
     subst e
     rw[Ty.AAr,Bool.true_and]at e2
     rcases GN.1 h1 with rfl|⟨_,hu'⟩|⟨h,_,_⟩
     ·have:=Z5 h2 AA2;rw[this]at e2;cases e2
     ·have:=Z5 h2 hu';rw[this]at e2;cases e2
     ·rw[PV]at h;cases h
    have nb:b≠CQ:=λe=>by
     subst e
     rw[Ty.AAr,Bool.true_and]at e3
     rcases GN.1 h2 with rfl|⟨_,hu'⟩|⟨h,_,_⟩
     ·have:=Z5 h1 AA2;rw[this]at e3;cases e3
     ·have:=Z5 h1 hu';rw[this]at e3;cases e3
     ·rw[PV]at h;cases h
    have fin:∀{x y:St},a.cls=true->b.cls=true->u.cls=true->u.nm∈(above fs a.nm).1->Gw fs b.nm u.nm=true->∃j,(bif (a.cls&&b.cls)&& !decide (JW fs a.nm b.nm=(0,0))then((⟨JW fs a.nm b.nm,false⟩:Ty),true)else(CB,false))=(j,true)/\fitsT fs j u=true:=by
     intro _ _ ca cb cu hin hbl
     obtain⟨c,hc⟩:=KJ hin
     obtain⟨q1,q2,q3,q4⟩:=AEH hw (b:=b.nm) (EW (hw _ _ hc)) u.nm hin hbl
     rw[ca,cb,show JW fs a.nm b.nm=Js fs b.nm (above fs a.nm).1 from rfl,decide_eq_false q1]
     refine⟨_,rfl,GN.2 (.inr (.inr ⟨?_,cu,q4⟩))⟩
     obtain⟨d,hd⟩:=(EW (hw _ _ hc)).known q2
     show(!false&&upper _ _)=true
     rw[hu _ _ hd];rfl
    have self:∀{x:Ty},x.cls=true->(∃y,y∈(above fs x.nm).1)->x.nm∈(above fs x.nm).1:=λ{x} hx ⟨y,hy⟩=>by
     obtain⟨c,hc⟩:=KJ hy
     refine(EW (hw _ _ hc)).hd λe=>?_
     unfold Ty.cls isClass upper at hx
     rw[e]at hx
     simp at hx
    rcases GN.1 h1 with rfl|⟨h,_⟩|⟨a1,a2,a3⟩
    ·rcases GN.1 h2 with rfl|⟨h,_⟩|⟨b1,b2,b3⟩
     ·exact absurd rfl hne
     ·exact absurd h nb
     ·have hin:a.nm∈(above fs a.nm).1:=by
       have h5:a.nm∈(above fs b.nm).1:=by unfold Gw at b3;rw[OU]at b3;exact b3
       exact(Vd hw h5).elim λ_ h=>h.2
      exact fin (x:=(0,0)) (y:=(0,0)) b2 b1 b2 hin b3
    ·exact absurd h na
    ·rcases GN.1 h2 with rfl|⟨h,_⟩|⟨b1,b2,b3⟩
     ·have h5:b.nm∈(above fs a.nm).1:=by unfold Gw at a3;rw[OU]at a3;exact a3
      have h6:b.nm∈(above fs b.nm).1:=(Vd hw h5).elim λ_ h=>h.2
      exact fin (x:=(0,0)) (y:=(0,0)) a1 a2 a2 h5 (by unfold Gw;rw[OU];exact h6)
     ·exact absurd h nb
     ·exact fin (x:=(0,0)) (y:=(0,0)) a1 b1 a2 (by unfold Gw at a3;rw[OU]at a3;exact a3) b3
end
structure Ce where
 loc:List Ty
 stk:List Ty
structure Cx where
 fs:Tab
 pool:Pool
 max:Int
 ret:Ty
 code:List Ins
def DY(fs:Tab):List Ty->List Ty->Option (List Ty)
 |[],s=>some s
 |_::_,[]=>none
 |w::ws,t::s=>bif fitsT fs t w then DY fs ws s else none
def CX(mx:Int)(t:Ty)(s:List Ty):Option (List Ty):=bif decide (((s.length+1:Nat):Int)<=mx)then some (t::s)else none
def Cx.cl(c:Cx)(i:Int):Ty:=⟨c.pool.names.getD i.toNat (0,0),false⟩
def Cx.ty(c:Cx)(i:Int):Ty:=c.pool.types.getD i.toNat CB
def fZ:PF:=⟨⟨(0,0),CB⟩,(0,0)⟩
def mZ:PM:=⟨⟨(0,0),false,[],CB⟩,(0,0)⟩
def Cx.fl(c:Cx)(i:Int):PF:=c.pool.fields.getD i.toNat fZ
def Cx.me(c:Cx)(i:Int):PM:=c.pool.CV.getD i.toNat mZ
def RQ(t:Ty):Ty:=⟨t.nm,false⟩
def iY(c:Cx)(x:Ins):Option (List Ty×Option Ty):=match x.code with
 |1=>some ([],some Dw)|2=>some ([],some CQ)|32=>some ([],some FQ)
 |5=>some ([Dw,Dw],some Dw)|6=>some ([Dw,Dw],some Dw)|7=>some ([Dw,Dw],some Dw)|8=>some ([Dw,Dw],some Dw)|9=>some ([Dw,Dw],some Dw)
 |10=>some ([Dw,Dw],some FQ)|11=>some ([Dw,Dw],some FQ)
 |14=>some ([Dw],some Dw)|15=>some ([FQ],some FQ)
 |16=>some ([⟨(c.fl x.arg).own,false⟩],some (c.fl x.arg).f.ty)
 |17=>some ([(c.fl x.arg).f.ty,⟨(c.fl x.arg).own,false⟩],none)
 |18=>some ([],some (c.cl x.arg))
 |19=>bif (c.ty x.arg).arr then some ([Dw],some (c.ty x.arg))else none
 |20=>bif (c.ty x.arg).arr then some ([Dw,c.ty x.arg],some (RQ (c.ty x.arg)))else none
 |21=>bif (c.ty x.arg).arr then some ([RQ (c.ty x.arg),Dw,c.ty x.arg],none)else none
 |25=>bif (c.me x.arg).m.st then none else some ((c.me x.arg).m.ps.reverse++[⟨(c.me x.arg).own,false⟩],some (c.me x.arg).m.ret)
 |26=>bif (c.me x.arg).m.st then some ((c.me x.arg).m.ps.reverse,some (c.me x.arg).m.ret)else none
 |27=>some ([],none)|28=>some ([FQ],none)|29=>some ([c.ret],none)|30=>some ([Dw],none)
 |_=>none
def rH(mx:Int):Option Ty->List Ty->Option (List Ty)
 |none,s=>some s
 |some t,s=>CX mx t s
def stepT(c:Cx)(s:Ce)(x:Ins):Option Ce:=match x.code with
 |3=>bif (s.loc.getD x.arg.toNat CB).is CB then none else(CX c.max (s.loc.getD x.arg.toNat CB) s.stk).map λk=>⟨s.loc,k⟩
 |4=>match s.stk with|[]=>none|t::k=>some ⟨s.loc.set x.arg.toNat t,k⟩
 |12=>match s.stk with|a::b::k=>bif a.is b&& !a.obj then(CX c.max FQ k).map λk=>⟨s.loc,k⟩else none|_=>none
 |13=>match s.stk with|a::b::k=>bif a.obj&&b.obj then(CX c.max FQ k).map λk=>⟨s.loc,k⟩else none|_=>none
 |31=>match s.stk with|[]=>none|_::k=>some ⟨s.loc,k⟩
 |23=>match s.stk with|[]=>none|t::k=>bif t.cls||t.is CQ then(CX c.max (c.cl x.arg) k).map λk=>⟨s.loc,k⟩else none
 |24=>match s.stk with|[]=>none|t::k=>bif t.cls||t.is CQ then(CX c.max FQ k).map λk=>⟨s.loc,k⟩else none
 |22=>match s.stk with|[]=>none|t::k=>bif t.arr||t.is CQ then(CX c.max Dw k).map λk=>⟨s.loc,k⟩else none
 |_=>(iY c x).bind λe=>(DY c.fs e.1 s.stk).bind λk=>(rH c.max e.2 k).map λk=>⟨s.loc,k⟩
inductive Z9(R:Ty->Ty->Prop):List Ty->List Ty->Prop
 |nil:Z9 R [] []
 |cons {a b:Ty} {l m:List Ty} (h:R a b) (t:Z9 R l m):Z9 R (a::l) (b::m)
theorem Z9.len{R:Ty->Ty->Prop}:∀{l m:List Ty},Z9 R l m->l.length=m.length
 |_,_,.nil=>rfl
 |_,_,.cons _ t=>by simp[t.len]
theorem Z9.refl{R:Ty->Ty->Prop}(h:∀a,R a a):∀l,Z9 R l l
 |[]=>.nil
 |a::l=>.cons (h a) (Z9.refl h l)
theorem Z9.trans{R:Ty->Ty->Prop}(h:∀a b c,R a b->R b c->R a c):∀{l m k:List Ty},Z9 R l m->Z9 R m k->Z9 R l k
 |_,_,_,.nil,.nil=>.nil
 |_,_,_,.cons h1 t1,.cons h2 t2=>.cons (h _ _ _ h1 h2) (t1.trans h t2)
theorem Z9.getD{R:Ty->Ty->Prop}(h0:∀a,R a a):∀{l m:List Ty} (i:Nat) (z:Ty),Z9 R l m->R (l.getD i z) (m.getD i z)
 |_,_,i,z,.nil=>by simpa using h0 z
 |_,_,0,z,.cons h _=>by simpa using h
 |_,_,i+1,z,.cons _ t=>by simpa using t.getD h0 i z
theorem Z9.set{R:Ty->Ty->Prop}{a b:Ty}(h:R a b):∀{l m:List Ty} (i:Nat),Z9 R l m->Z9 R (l.set i a) (m.set i b)
 |_,_,_,.nil=>.nil
 |_,_,0,.cons _ t=>.cons h t
 |_,_,i+1,.cons h' t=>.cons h' (t.set h i)
theorem wZ:CB≠CQ:=λh=>by have:=Ty.OV.2 h;revert this;decide
def lQ(fs:Tab)(a b:Ty):Prop:=fitsT fs a b=true
def kD(fs:Tab)(a b:Ty):Prop:=b=CB∨fitsT fs a b=true
def Ce.le(fs:Tab)(s t:Ce):Prop:=Z9 (kD fs) s.loc t.loc/\Z9 (lQ fs) s.stk t.stk
theorem Ce.le_refl(fs:Tab)(s:Ce):Ce.le fs s s:=⟨Z9.refl (λa=>.inr (KL fs a)) _,Z9.refl (KL fs) _⟩
section
variable{fs:Tab}(hw:Whole fs)
include hw
theorem AIw{a b c:Ty}(h1:kD fs a b)(h2:kD fs b c):kD fs a c:=by
 rcases h2 with h2|h2
 ·exact .inl h2
 ·rcases h1 with rfl|h1
  ·rcases GN.1 h2 with rfl|⟨h,_⟩|⟨h,_,_⟩
   ·exact .inl rfl
   ·exact absurd h wZ
   ·rw[jP]at h;cases h
  ·exact .inr (rO hw h1 h2)
theorem Ce.le_trans{a b c:Ce}(h1:Ce.le fs a b)(h2:Ce.le fs b c):Ce.le fs a c:=
 ⟨Z9.trans (R:=kD fs) (λ_ _ _ a b=>AIw hw a b) h1.1 h2.1,Z9.trans (R:=lQ fs) (λ_ _ _ a b=>rO hw a b) h1.2 h2.2⟩
theorem AHZ:∀(ws:List Ty) {s t r:List Ty},Z9 (lQ fs) s t->DY fs ws t=some r->∃q,DY fs ws s=some q/\Z9 (lQ fs) q r
 |[],_,_,_,h,e=>by cases e;exact⟨_,rfl,h⟩
 |w::ws,_,_,_,.nil,e=>by cases e
 |w::ws,_,_,r,.cons (a:=a) (b:=b) h t,e=>by
  have e:(bif fitsT fs b w then DY fs ws _ else none)=some r:=e
  cases hb:fitsT fs b w with
  |false=>rw[hb]at e;cases e
  |true=>
   rw[hb,cond_true]at e
   obtain⟨q,h1,h2⟩:=AHZ ws t e
   refine⟨q,?_,h2⟩
   show(bif fitsT fs a w then DY fs ws _ else none)=some q
   rw[rO hw h hb];exact h1
end
theorem AKV{fs:Tab}{mx:Int}{a b:Ty}{s t r:List Ty}(hab:lQ fs a b)(h:Z9 (lQ fs) s t)(e:CX mx b t=some r):∃q,CX mx a s=some q/\Z9 (lQ fs) q r:=by
 unfold CX at*
 rw[h.len]
 cases hd:decide (((t.length+1:Nat):Int)<=mx)with
 |false=>rw[hd]at e;cases e
 |true=>rw[hd]at e;cases e;exact⟨_,rfl,.cons hab h⟩
theorem Uj{fs:Tab}{mx:Int}{a b:Ty}{l m:List Ty}{s t:List Ty}{r:Ce}(hab:lQ fs a b)(hl:Z9 (kD fs) l m)(h:Z9 (lQ fs) s t)(e:(CX mx b t).map (λk=>(⟨m,k⟩:Ce))=some r):
 ∃q,(CX mx a s).map (λk=>(⟨l,k⟩:Ce))=some q/\Ce.le fs q r:=by
 obtain⟨k,h1,h2⟩:=Option.map_eq_some_iff.1 e
 subst h2
 obtain⟨q,h3,h4⟩:=AKV hab h h1
 exact⟨⟨l,q⟩,by rw[h3];rfl,hl,h4⟩
theorem AKe{c:Cx}(hw:Whole c.fs){x:Ins}{s t r:Ce}(h:Ce.le c.fs s t)(e:stepT c t x=some r):∃q,stepT c s x=some q/\Ce.le c.fs q r:=by
 obtain⟨sl,ss⟩:=s
 obtain⟨tl,ts⟩:=t
 obtain⟨hl,hs⟩:=h
 have hl:Z9 (kD c.fs) sl tl:=hl
 have hs:Z9 (lQ c.fs) ss ts:=hs
 unfold stepT at*
 split at e
 ·
  cases hn:(tl.getD x.arg.toNat CB).is CB with
  |true=>simp only[hn,cond_true]at e;cases e
  |false=>
   simp only[hn,cond_false]at e
   have hf:lQ c.fs (sl.getD x.arg.toNat CB) (tl.getD x.arg.toNat CB):=by
    rcases hl.getD (λa=>.inr (KL _ a)) x.arg.toNat CB with h|h
    ·rw[h]at hn;cases hn
    ·exact h
   have hn2:(sl.getD x.arg.toNat CB).is CB=false:=by
    rw[Ty.Xg];intro h0
    rw[h0]at hf
    rcases GN.1 hf with h|⟨h,_⟩|⟨h,_,_⟩
    ·rw[<-h]at hn;cases hn
    ·exact absurd h wZ
    ·rw[jP]at h;cases h
   simp only[hn2,cond_false]
   exact Uj hf hl hs e
 ·cases hs with
  |nil=>cases e
  |cons h t=>cases e;exact⟨_,rfl,hl.set (.inr h) _,t⟩
 ·cases hs with
  |nil=>cases e
  | @cons a a' _ _ h t=>
   cases t with
   |nil=>cases e
   | @cons b b' k k' h' t=>
    have e:(bif a'.is b'&& !a'.obj then(CX c.max FQ k').map λk=>(⟨tl,k⟩:Ce)else none)=some r:=e
    cases hc:a'.is b'&& !a'.obj with
    |false=>rw[hc]at e;cases e
    |true=>
     rw[hc,cond_true]at e
     simp only[Bool.and_eq_true,Bool.not_eq_true']at hc
     have hab:=Ty.OV.1 hc.1
     have e1:=ACp h hc.2
     have e2:=ACp h' (hab▸hc.2)
     show ∃q,(bif a.is b&& !a.obj then(CX c.max FQ k).map λk=>(⟨sl,k⟩:Ce)else none)=some q/\_
     rw[e1,e2,hc.1,hc.2]
     exact Uj (KL ..) hl t e
 ·cases hs with
  |nil=>cases e
  | @cons a a' _ _ h t=>
   cases t with
   |nil=>cases e
   | @cons b b' k k' h' t=>
    have e:(bif a'.obj&&b'.obj then(CX c.max FQ k').map λk=>(⟨tl,k⟩:Ce)else none)=some r:=e
    cases hc:a'.obj&&b'.obj with
    |false=>rw[hc]at e;cases e
    |true=>
     rw[hc,cond_true]at e
     simp only[Bool.and_eq_true]at hc
     show ∃q,(bif a.obj&&b.obj then(CX c.max FQ k).map λk=>(⟨sl,k⟩:Ce)else none)=some q/\_
     rw[Z5 h hc.1,Z5 h' hc.2]
     exact Uj (KL ..) hl t e
 ·cases hs with
  |nil=>cases e
  |cons h t=>cases e;exact⟨_,rfl,hl,t⟩
 ·cases hs with
  |nil=>cases e
  | @cons a a' k k' h t=>
   have e:(bif a'.cls||a'.is CQ then(CX c.max (c.cl x.arg) k').map λk=>(⟨tl,k⟩:Ce)else none)=some r:=e
   cases hc:a'.cls||a'.is CQ with
   |false=>rw[hc]at e;cases e
   |true=>
    rw[hc,cond_true]at e
    have hc2:(a.cls||a.is CQ)=true:=by
     simp only[Bool.or_eq_true,Ty.OV]at*
     rcases GN.1 h with rfl|⟨h,_⟩|⟨h,_,_⟩
     ·exact hc
     ·exact .inr h
     ·exact .inl h
    show ∃q,(bif a.cls||a.is CQ then(CX c.max (c.cl x.arg) k).map λk=>(⟨sl,k⟩:Ce)else none)=some q/\_
    rw[hc2]
    exact Uj (KL ..) hl t e
 ·cases hs with
  |nil=>cases e
  | @cons a a' k k' h t=>
   have e:(bif a'.cls||a'.is CQ then(CX c.max FQ k').map λk=>(⟨tl,k⟩:Ce)else none)=some r:=e
   cases hc:a'.cls||a'.is CQ with
   |false=>rw[hc]at e;cases e
   |true=>
    rw[hc,cond_true]at e
    have hc2:(a.cls||a.is CQ)=true:=by
     simp only[Bool.or_eq_true,Ty.OV]at*
     rcases GN.1 h with rfl|⟨h,_⟩|⟨h,_,_⟩
     ·exact hc
     ·exact .inr h
     ·exact .inl h
    show ∃q,(bif a.cls||a.is CQ then(CX c.max FQ k).map λk=>(⟨sl,k⟩:Ce)else none)=some q/\_
    rw[hc2]
    exact Uj (KL ..) hl t e
 ·cases hs with
  |nil=>cases e
  | @cons a a' k k' h t=>
   have e:(bif a'.arr||a'.is CQ then(CX c.max Dw k').map λk=>(⟨tl,k⟩:Ce)else none)=some r:=e
   cases hc:a'.arr||a'.is CQ with
   |false=>rw[hc]at e;cases e
   |true=>
    rw[hc,cond_true]at e
    have hc2:(a.arr||a.is CQ)=true:=by
     simp only[Bool.or_eq_true,Ty.OV]at*
     rcases GN.1 h with rfl|⟨h,_⟩|⟨_,h,_⟩
     ·exact hc
     ·exact .inr h
     ·unfold Ty.cls isClass at h
      rcases hc with hc|hc
      ·rw[hc]at h;cases h
      ·rw[hc]at h;exact absurd h (by decide)
    show ∃q,(bif a.arr||a.is CQ then(CX c.max Dw k).map λk=>(⟨sl,k⟩:Ce)else none)=some q/\_
    rw[hc2]
    exact Uj (KL ..) hl t e
 ·obtain⟨f,h1,e⟩:=Option.bind_eq_some_iff.1 e
  obtain⟨k,h2,e⟩:=Option.bind_eq_some_iff.1 e
  obtain⟨q,h3,h4⟩:=AHZ hw _ hs h2
  rw[h1]
  show ∃q,((DY c.fs f.1 ss).bind λk=>(rH c.max f.2 k).map λk=>(⟨sl,k⟩:Ce))=some q/\_
  rw[h3]
  obtain⟨ps,o⟩:=f
  cases o with
  |none=>cases e;exact⟨_,rfl,hl,h4⟩
  |some u=>exact Uj (KL ..) hl h4 e
theorem Yr{G:AX}{H:Heap}{n:Nat}{k:KV}(hk:∀H' n',Kp H n H' n'->k CQ.v H' n'):Runs F G I8 [] H n k:=by
 refine BL (s:=ar0 (Tt lfp G)) Yz (by obtain⟨h,o⟩:=lH BK G;rw[Yz]at h;cases h;exact o) ?_
 show Tt lfp G (Runs F G) H n k
 delta Tt
 simp only[go_sem,Nat.reduceAdd,show BA [.str 0 0,.bool false] [(0,1,.c (.str 4 1819047278))]=some (.agg [.str 4 1819047278,.bool false])from rfl]
 exact hk _ _ (((Kp.refl H n).new (m:=n+1) _ (Nat.le_refl _) (by omega)).new _ (Nat.le_refl _) (Nat.le_refl _))
theorem ADl{G:AX}{H:Heap}{n:Nat}{k:KV}(hk:∀H' n',Kp H n H' n'->k Dw.v H' n'):Runs F G KN [] H n k:=by
 refine BL (s:=ar0 (gQ lfp G)) sJ (by obtain⟨h,o⟩:=ABU BK G;rw[sJ]at h;cases h;exact o) ?_
 show gQ lfp G (Runs F G) H n k
 delta gQ
 simp only[go_sem,Nat.reduceAdd,show BA [.str 0 0,.bool false] [(0,1,.c (.str 3 7630441))]=some (.agg [.str 3 7630441,.bool false])from rfl]
 exact hk _ _ (((Kp.refl H n).new (m:=n+1) _ (Nat.le_refl _) (by omega)).new _ (Nat.le_refl _) (Nat.le_refl _))
theorem AH4{G:AX}{H:Heap}{n:Nat}{k:KV}(hk:∀H' n',Kp H n H' n'->k FQ.v H' n'):Runs F G sD [] H n k:=by
 refine BL (s:=ar0 (ZB lfp G)) lg (by obtain⟨h,o⟩:=zl BK G;rw[lg]at h;cases h;exact o) ?_
 show ZB lfp G (Runs F G) H n k
 delta ZB
 simp only[go_sem,Nat.reduceAdd,show BA [.str 0 0,.bool false] [(0,1,.c (.str 4 1819242338))]=some (.agg [.str 4 1819242338,.bool false])from rfl]
 exact hk _ _ (((Kp.refl H n).new (m:=n+1) _ (Nat.le_refl _) (by omega)).new _ (Nat.le_refl _) (Nat.le_refl _))
theorem BF{G:AX}{H:Heap}{i:Nat}{t:Ty}(h:T.get H i=some (one t.cells)):Ae 2 (.ptr i 0) G H=some t.v:=Cb h (by omega) rfl
theorem AMY{G:AX}{t:Ty}{H:Heap}{n:Nat}{k:KV}(hk:∀H' n',Kp H n H' n'->k (RQ t).v H' n'):Runs F G Xw [t.v] H n k:=by
 refine BL (s:=MZ (Po lfp G)) WS (by obtain⟨h,o⟩:=gK BK G;rw[WS]at h;cases h;exact o) ?_
 show Po lfp G (Runs F G) t.v H n k
 delta Po
 refine Ez λH1 f1 g1=>?_
 refine BU rfl λH2 f2 g2=>?_
 have g1':=f2.get g1 (by omega)
 simp only[go_sem,Nat.reduceAdd,AU (off:=0) g1' (v:=t.nm.v) rfl,show BA [.str 0 0,.bool false] [(0,1,.c t.nm.v)]=some (.agg (RQ t).cells)from rfl]
 rw[Gq (m:=2) g2 (by omega) rfl rfl,Eh (m:=2) (T.Ai ..) (by omega) rfl]
 exact hk _ _ ((f1.trans f2).new _ (by omega) (Nat.le_refl _))
theorem ADP{G:AX}{t:Ty}(hl:t.nm.ok){H:Heap}{n:Nat}{k:KV}(hk:∀H' n',Kp H n H' n'->k (.bool t.cls) H' n'):Runs F G CY [t.v] H n k:=pG hl hk
theorem Qx(t:Ty):GK t.v t.v=true:=by
 show band (band (Nat.beq t.nm.1 t.nm.1) (Nat.beq t.nm.2 t.nm.2)) (band (ACQ (.bool t.arr) t.arr) true)=true
 obtain⟨⟨l,c⟩,r⟩:=t
 cases r<;>simp[ACQ,BP]<;>rfl
theorem APn:CQ.nm.ok:=by intro h;cases h
theorem eY{G:AX}{t:Ty}(hl:t.nm.ok){H:Heap}{n:Nat}{k:KV}(hk:∀H' n',Kp H n H' n'->k (.bool t.obj) H' n'):Runs F G Fp [t.v] H n k:=by
 refine BL (s:=MZ (Lp lfp G)) Uh (by obtain⟨h,o⟩:=ZI BK G;rw[Uh]at h;cases h;exact o) ?_
 show Lp lfp G (Runs F G) t.v H n k
 delta Lp
 refine Ez λH1 f1 g1=>?_
 unfold Ty.obj at hk
 simp only[go_sem,Nat.reduceAdd,AU (off:=1) g1 (v:=.bool t.arr) rfl]
 cases h1:t.arr with
 |true=>
  rw[h1]at hk
  simp only[go_sem]
  exact hk _ _ f1
 |false=>
  rw[h1]at hk
  simp only[go_sem,BF g1]
  refine ADP hl λH2 n2 f2=>?_
  have f3:=f1.trans f2
  have g2:=f2.get g1 (by omega)
  cases h2:t.cls with
  |true=>
   rw[h2]at hk
   simp only[go_sem]
   exact hk _ _ f3
  |false=>
   rw[h2]at hk
   simp only[go_sem,BF g2]
   refine Yr λH4 n4 f4=>?_
   have f5:=f3.trans f4
   have g4:=f4.get g2 (by have:=f2.le;omega)
   refine ATZ (BF g4) (Qx t) ?_
   simp only[go_sem,nD]
   exact hk _ _ f5
theorem AEr{G:AX}{H:Heap}{n n0 t a b:Nat}{fs:Tab}(h:TabAt G H n0 t a b fs)(hn:n0<=n)(hfs:fs.length<=1000){x y:St}{k:KV}
 (hk:∀H' n',Kb b H n H' n'->k (.bool (Gw fs x y)) H' n'):Runs F G Om [.ptr t 0,x.v,y.v] H n k:=by
 refine BL (s:=ar3 (Ko lfp G)) TF (by obtain⟨h,o⟩:=YO BK G;rw[TF]at h;cases h;exact o) ?_
 show Ko lfp G (Runs F G) (.ptr t 0) x.v y.v H n k
 delta Ko
 have h:=h.kb (f:=⟨hn,λ_ _ _=>rfl,λh=>h⟩)
 refine bZ h hfs λH2 n2 v f2 ho hlen=>?_
 simp only[go_sem]
 refine uG (ho.el (by omega)) (by omega) ?_
 exact hk _ _ f2
theorem ALw{G:AX}{H:Heap}{n n0 t a b:Nat}{fs:Tab}(h:TabAt G H n0 t a b fs)(hn:n0<=n)(hfs:fs.length<=1000){x y:St}{k:KV}
 (hk:∀H' n',Kb b H n H' n'->k (JW fs x y).v H' n'):Runs F G YQ [.ptr t 0,x.v,y.v] H n k:=by
 refine BL (s:=ar3 (Jg lfp G)) RD (by obtain⟨h,o⟩:=Xm BK G;rw[RD]at h;cases h;exact o) ?_
 show Jg lfp G (Runs F G) (.ptr t 0) x.v y.v H n k
 delta Jg
 have h:=h.kb (f:=⟨hn,λ_ _ _=>rfl,λh=>h⟩)
 have hbn:=h.bn
 unfold JW at hk
 refine bZ h hfs λH2 n2 v f2 ho hlen=>?_
 generalize(above fs x).1=cs at ho hk hlen
 simp only[go_sem,(ho.el (by omega)).len,Gf]
 have h2n:=f2.le
 refine BN (N:=cs.length) (J:=λi st=>∃H' n',st=(.ptr t 0,y.v,v,.int .i64 (.ofNat cs.length) 0,.int .i64 (.ofNat i) 0,H',n')/\Kb b H n H' n'/\Own G H' n n' 1 v (strs cs)/\
  (∀H' n',Kb b H n H' n'->k (Js fs y (cs.drop i)).v H' n')) ?_ ?_ ⟨H2,n2,rfl,f2,ho,hk⟩
 ·rintro I i st hlt ⟨H3,n3,rfl,f3,ho,hk⟩ ih
  show Hz lfp G (Runs F G) k I (.ptr t 0) y.v v (.int .i64 (.ofNat cs.length) 0) (.int .i64 (.ofNat i) 0) H3 n3
  delta Hz
  obtain⟨q,hp,hld⟩:=(ho.el (by omega)).at (O4 hlt)
  rw[List.drop_eq_getElem_cons hlt]at hk
  unfold Js at hk
  generalize cs[i]=m at hld hk
  simp only[go_sem,Bh,hlt,decide_true,hp,Lh hld]
  refine AEr (h.kb f3) (Nat.le_refl _) hfs λH4 n4 f4=>?_
  have f5:=f3.trans f4
  cases hb:Gw fs y m with
  |true=>
   rw[hb]at hk
   simp only[go_sem]
   exact hk _ _ f5
  |false=>
   rw[hb]at hk
   simp only[go_sem,DJ (show i+1<9223372036854775808 by omega)]
   exact ih _ ⟨_,_,rfl,f5,ho.kb f4 hbn,hk⟩
 ·rintro I st ⟨H3,n3,rfl,f3,ho,hk⟩
  show Hz lfp G (Runs F G) k I (.ptr t 0) y.v v (.int .i64 (.ofNat cs.length) 0) (.int .i64 (.ofNat cs.length) 0) H3 n3
  delta Hz
  rw[List.drop_eq_nil_of_le (Nat.le_refl _)]at hk
  simp only[go_sem,Bh,Nat.lt_irrefl,decide_false]
  delta Ov
  exact hk _ _ f3
theorem xw:BA [.str 0 0,.bool false] []=some CB.v:=rfl
theorem ANP{G:AX}{y:Ty}{c:Bool}{p:V}{H:Heap}{n:Nat}{P:V->Heap->Nat->Prop}(hy:y.nm.ok)(hld:Ae 2 p G H=some y.v)(h:∀H' n',Kp H n H' n'->P (.bool (c&&y.obj)) H' n'):
 Aj (.bool c) true (Ae 2 p G H) λv=>D5 (.bool c) true (Runs F G Fp [v] H n) H n λw H n=>AL (Aw (.bool c) w (.bool false)) λu=>P u H n:=by
 cases c with
 |false=>simp only[go_sem];exact h _ _ (Kp.refl _ _)
 |true=>
  simp only[go_sem,hld]
  exact eY hy λH' n' f=>h _ _ f
theorem ASg{G:AX}{y:Ty}{c:Bool}{p:V}{H:Heap}{n:Nat}{P:V->Heap->Nat->Prop}(hy:y.nm.ok)(hld:Ae 2 p G H=some y.v)(h:∀H' n',Kp H n H' n'->P (.bool (c&&y.cls)) H' n'):
 Aj (.bool c) true (Ae 2 p G H) λv=>D5 (.bool c) true (Runs F G CY [v] H n) H n λw H n=>AL (Aw (.bool c) w (.bool false)) λu=>P u H n:=by
 cases c with
 |false=>simp only[go_sem];exact h _ _ (Kp.refl _ _)
 |true=>
  simp only[go_sem,hld]
  exact ADP hy λH' n' f=>h _ _ f
theorem ARd{G:AX}{H:Heap}{n n0 t a b:Nat}{fs:Tab}(h:TabAt G H n0 t a b fs)(hn:n0<=n)(hfs:fs.length<=1000){x y:Ty}(hx:x.nm.ok)(hy:y.nm.ok){k:KV}
 (hk:∀H' n',Kb b H n H' n'->k (.bool (fitsT fs x y)) H' n'):Runs F G bV [.ptr t 0,x.v,y.v] H n k:=by
 refine BL (s:=ar3 (MW lfp G)) Um (by obtain⟨h,o⟩:=Zv BK G;rw[Um]at h;cases h;exact o) ?_
 show MW lfp G (Runs F G) (.ptr t 0) x.v y.v H n k
 delta MW
 have h:=h.kb (f:=⟨hn,λ_ _ _=>rfl,λh=>h⟩)
 have hbn:=h.bn
 unfold fitsT at hk
 refine Ez λH1 f1 g1=>?_
 refine Ez λH2 f2 g2=>?_
 have f3:=(f1.trans f2).kb (b:=b) hbn
 have g1:=f2.get g1 (by omega)
 simp only[go_sem,BF g1,BF g2,nD]
 cases h1:x.is y with
 |true=>
  rw[h1]at hk
  simp only[go_sem]
  exact hk _ _ f3
 |false=>
  rw[h1]at hk
  simp only[go_sem,BF g1]
  refine Yr λH4 n4 f4=>?_
  have f5:=f3.trans (f4.kb (by omega))
  have g1:=f4.get g1 (by omega)
  have g2:=f4.get g2 (by omega)
  have hn4:=f4.le
  rw[BF g1,AB,Qx,WG]
  simp only[go_sem,nD]
  cases h2:x.is CQ with
  |true=>
   rw[h2]at hk
   simp only[go_sem,BF g2]
   refine eY hy λH6 n6 f6=>?_
   exact hk _ _ (f5.trans (f6.kb (by omega)))
  |false=>
   rw[h2]at hk
   simp only[go_sem,BF g1]
   refine ADP hx λH6 n6 f6=>?_
   have f7:=f5.trans (f6.kb (by omega))
   have g1:=f6.get g1 (by omega)
   have g2:=f6.get g2 (by omega)
   have hn6:=f6.le
   cases h3:x.cls with
   |false=>
    rw[h3]at hk
    simp only[go_sem]
    exact hk _ _ f7
   |true=>
    rw[h3]at hk
    simp only[go_sem,BF g2]
    refine ADP hy λH8 n8 f8=>?_
    have f9:=f7.trans (f8.kb (by omega))
    have g1:=f8.get g1 (by omega)
    have g2:=f8.get g2 (by omega)
    have hn8:=f8.le
    cases h4:y.cls with
    |false=>
     rw[h4]at hk
     simp only[go_sem]
     exact hk _ _ f9
    |true=>
     rw[h4]at hk
     simp only[go_sem,Nat.reduceAdd,AU (off:=0) g1 (v:=x.nm.v) rfl,AU (off:=0) g2 (v:=y.nm.v) rfl]
     refine AEr (h.kb f9) (Nat.le_refl _) hfs λH10 n10 f10=>?_
     exact hk _ _ (f9.trans f10)
theorem AL1{G:AX}{H:Heap}{n n0 i t a b fm:Nat}{vn:V}{fs:Tab}(h:Tz G H n0 i t a b fm vn fs)(hn:n0<=n)(hfs:fs.length<=1000){x y:Ty}(hx:x.nm.ok)(hy:y.nm.ok){k:KV}
 (hk:∀H' n',Kb b H n H' n'->k (.Df [(FB fs x y).1.v,.bool (FB fs x y).2]) H' n'):Runs F G dJ [.ptr i 0,x.v,y.v] H n k:=by
 refine BL (s:=ar3 (Tc lfp G)) ZO (by obtain⟨h,o⟩:=nU BK G;rw[ZO]at h;cases h;exact o) ?_
 show Tc lfp G (Runs F G) (.ptr i 0) x.v y.v H n k
 delta Tc
 have h:=h.kb (f:=⟨hn,λ_ _ _=>rfl,λh=>h⟩)
 have hbn:=h.tab.bn
 unfold FB at hk
 refine Ez λH1 f1 g1=>?_
 refine Ez λH2 f2 g2=>?_
 refine BU rfl λH3 f3 g3=>?_
 have f:=((f1.trans f2).trans f3).kb (b:=b) hbn
 have g1:=(f2.trans f3).get g1 (by omega)
 have g2:=f3.get g2 (by omega)
 have out:∀(H':Heap) (n':Nat) (L:LV) (r:Ty) (ok:Bool),Kb b H n H' n'->n+2<n'->T.get H' (n+2)=some (one L)->L.length=2->(∀H' n',Kb b H n H' n'->k (.Df [r.v,.bool ok]) H' n')->
  BZ 2 (.ptr (n+2) 0) r.v H' n' λ_ H n1=>Gz (Dh [.cn (.ptr (n+2) 0) 2,.t (.bool ok)] G H) λl=>k (IC l) H n1:=by
  intro H' n' L r ok f hn g hL hk
  show BZ 2 (.ptr (n+2) 0) (.agg r.cells) H' n' _
  rw[Gq (m:=2) g (by omega) hL rfl,Eh (m:=2) (T.Ai ..) (by omega) rfl]
  exact hk _ _ (f.trans' (m:=n') (λid hid=>T.Ac _ _ (by omega)) (Nat.le_refl _) hbn)
 simp only[go_sem,BF g1,BF g2,nD]
 cases h1:x.is y with
 |true=>
  rw[h1]at hk
  simp only[go_sem,BF g1]
  exact out _ _ _ _ _ f (by omega) g3 rfl hk
 |false=>
  rw[h1]at hk
  simp only[go_sem,BF g1]
  refine Yr λH4 n4 f4=>?_
  have f:=f.trans (f4.kb (by omega))
  have g1:=f4.get g1 (by omega)
  have g2:=f4.get g2 (by omega)
  have g3:=f4.get g3 (by omega)
  have hn4:=f4.le
  rw[BF g1,AB,Qx,WG]
  simp only[go_sem,nD]
  have fin2:∀(H':Heap) (n':Nat),Kb b H n H' n'->n+2<n'->T.get H' (n+2)=some (one [.str 0 0,.bool false])->(∀H' n',Kb b H n H' n'->k (.Df [CB.v,.bool false]) H' n')->Oa lfp G (Runs F G) k (.ptr (n+2) 0) H' n':=by
   intro H' n' f hn g hk
   delta Oa
   rw[xw,AB]
   exact out _ _ _ CB _ f hn g rfl hk
  refine ANP hy (BF g2) λH5 n5 f5=>?_
  have f:=f.trans (f5.kb (by omega))
  have g1:=f5.get g1 (by omega)
  have g2:=f5.get g2 (by omega)
  have g3:=f5.get g3 (by omega)
  have hn5:=f5.le
  cases h2:x.is CQ&&y.obj with
  |true=>
   rw[h2]at hk
   simp only[go_sem,BF g2]
   exact out _ _ _ _ _ f (by omega) g3 rfl hk
  |false=>
  rw[h2]at hk
  simp only[go_sem,BF g2]
  refine Yr λH6 n6 f6=>?_
  have f:=f.trans (f6.kb (by omega))
  have g1:=f6.get g1 (by omega)
  have g2:=f6.get g2 (by omega)
  have g3:=f6.get g3 (by omega)
  have hn6:=f6.le
  rw[BF g2,AB,Qx,WG]
  simp only[go_sem,nD]
  refine ANP hx (BF g1) λH7 n7 f7=>?_
  have f:=f.trans (f7.kb (by omega))
  have g1:=f7.get g1 (by omega)
  have g2:=f7.get g2 (by omega)
  have g3:=f7.get g3 (by omega)
  have hn7:=f7.le
  cases h3:y.is CQ&&x.obj with
  |true=>
   rw[h3]at hk
   simp only[go_sem,BF g1]
   exact out _ _ _ _ _ f (by omega) g3 rfl hk
  |false=>
  rw[h3]at hk
  simp only[go_sem,BF g1]
  refine ADP hx λH8 n8 f8=>?_
  have f:=f.trans (f8.kb (by omega))
  have g1:=f8.get g1 (by omega)
  have g2:=f8.get g2 (by omega)
  have g3:=f8.get g3 (by omega)
  have hn8:=f8.le
  refine ASg hy (BF g2) λH9 n9 f9=>?_
  have f:=f.trans (f9.kb (by omega))
  have g1:=f9.get g1 (by omega)
  have g2:=f9.get g2 (by omega)
  have g3:=f9.get g3 (by omega)
  have hn9:=f9.le
  cases h4:x.cls&&y.cls with
  |false=>
   rw[h4]at hk
   simp only[go_sem]
   exact fin2 _ _ f (by omega) g3 hk
  |true=>
  rw[h4]at hk
  have hi:=h.kb f
  simp only[go_sem,Nat.reduceAdd,AU (off:=0) g1 (v:=x.nm.v) rfl,AU (off:=0) g2 (v:=y.nm.v) rfl,AU (off:=0) hi.at' (v:=.ptr t 0) rfl]
  refine ALw hi.tab (Nat.le_refl _) hfs λH7 n7 f7=>?_
  have f:=f.trans f7
  have g3:=f7.get g3 (by omega) (by omega)
  have hn7:=f7.le
  rw[show Cc (.one .str) true (JW fs x.nm y.nm).v (.str 0 0)=some (.bool (!decide (JW fs x.nm y.nm=(0,0))))by
   unfold St.v;rw[APm,show decide ((JW fs x.nm y.nm).1=0/\(JW fs x.nm y.nm).2=0)=decide (JW fs x.nm y.nm=(0,0))by rw[decide_eq_decide,Prod.ext_iff]]]
  simp only[go_sem]
  cases h5:decide (JW fs x.nm y.nm=(0,0))with
  |true=>
   rw[h5]at hk
   simp only[Bool.not_true,go_sem]
   exact fin2 _ _ f (by omega) g3 hk
  |false=>
   rw[h5]at hk
   simp only[Bool.not_false,go_sem]
   refine wF λH8 n8 f8=>?_
   exact out _ _ _ ⟨JW fs x.nm y.nm,false⟩ true (f.trans (f8.kb (by omega))) (by have:=f8.le;omega) (f8.get g3 (by omega)) rfl hk
structure Kw(b m:Nat)(H:Heap)(n:Nat)(H':Heap)(n':Nat):Prop where
 le:n<=n'
 kb:Kb b H m H' m
theorem Kw.refl(b m:Nat)(H:Heap)(n:Nat):Kw b m H n H n:=⟨Nat.le_refl _,Kb.refl ..⟩
theorem Kw.trans{b m n n' n'':Nat}{H H' H'':Heap}(x:Kw b m H n H' n')(y:Kw b m H' n' H'' n''):Kw b m H n H'' n'':=⟨Nat.le_trans x.le y.le,x.kb.trans y.kb⟩
theorem Kb.kw{b m n n':Nat}{H H':Heap}(x:Kb b H n H' n')(hm:m<=n):Kw b m H n H' n':=⟨x.le,x.low hm⟩
theorem _root_.Go.Bv.Kp.kw{b m n n':Nat}{H H':Heap}(x:Kp H n H' n')(hm:m<=n)(hb:b<m):Kw b m H n H' n':=(x.kb (b:=b) (by omega)).kw hm
theorem Kw.of{b m n n':Nat}{H H':Heap}(hb:b<m)(hn:n<=n')(h:∀id,id<m->T.get H' id=T.get H id):Kw b m H n H' n':=
 ⟨hn,Nat.le_refl _,λid h1 _=>h id h1,λhs=>hs.same (h b hb)⟩
structure JF(H:Heap)(m n q:Nat)(s:Ce):Prop where
 mk'::
 mq:m<=q
 qn:q<n
 is:∃vl vs,T.get H q=some (one [vl,vs])/\Sk H 2 (λid=>m<=id/\id<n/\id≠q) vl (tys s.loc)/\Sk H 2 (λid=>m<=id/\id<n/\id≠q) vs (tys s.stk.reverse)/\(∀id,vl.Xt=some id->vs.Xt≠some id)
 ol:∀t∈s.loc,t.nm.ok
 os:∀t∈s.stk,t.nm.ok
 bl:s.loc.length<=100000
 bs:s.stk.length<=100000
theorem JF.mono{H H':Heap}{m n n' q:Nat}{s:Ce}(h:JF H m n q s)(hn:n<=n')(e:∀id,m<=id->id<n->T.get H' id=T.get H id):JF H' m n' q s:=by
 obtain⟨vl,vs,g,h1,h2,hd⟩:=h.is
 exact⟨h.mq,Nat.lt_of_lt_of_le h.qn hn,⟨vl,vs,(e q h.mq h.qn).trans g,h1.mono (λid ⟨a,b,c⟩=>⟨a,Nat.lt_of_lt_of_le b hn,c⟩) (λid ⟨a,b,c⟩=>e id a b),
  h2.mono (λid ⟨a,b,c⟩=>⟨a,Nat.lt_of_lt_of_le b hn,c⟩) (λid ⟨a,b,c⟩=>e id a b),hd⟩,h.ol,h.os,h.bl,h.bs⟩
theorem JF.kb{H H':Heap}{m n n' q b:Nat}{s:Ce}(h:JF H m n q s)(f:Kb b H n H' n')(hb:b<m):JF H' m n' q s:=
 h.mono f.le λid h1 h2=>f.same id h2 (by omega)
theorem JF.kp{H H':Heap}{m n n' q:Nat}{s:Ce}(h:JF H m n q s)(f:Kp H n H' n'):JF H' m n' q s:=h.mono f.le λid _ h2=>f.same id h2
theorem ARg{v:V}{H:Heap}{z:Nat}{A:Nat->Prop}{LS:ET}(h:Sk H z A v LS):v=.AZ/\LS=[]∨Cc .sl false v .AZ=some (.bool false):=by
 cases h with
 |nil=>exact .inl ⟨rfl,rfl⟩
 |emp=>exact .inr rfl
 |Rh=>exact .inr rfl
theorem ALW{G:AX}{H:Heap}{n id z bs:Nat}{t:T LV}{w:V}{k:KV}(hg:T.get H id=some (.arr z 0 t))(hw:elems w G H z=some [])
 (hk:∀H',(∀j,T.get H' j=T.get H j)->k (.sl id 0 0 0 z) H' n):V8 z bs (.sl id 0 0 0 z) w G H n k:=by
 unfold V8
 rw[hw,XQ]
 have e0:AEz (.sl id 0 0 0 z) G z bs [] H n k=Bool.rec (motive:=λ_=>Prop) (Gz (CU H id z 0 0) λOS=>LZ z bs OS [] H n k) (Gz (T.get H id) λb=>qj id 0 0 0 z (0+([]:ET).length) [] H n k b) (Nat.ble (0+([]:ET).length) 0):=by
  show NI (Nat.beq z z) (DU (Nat.add 0 (len ([]:ET))) λneed=>Bool.rec (motive:=λ_=>Prop) (Gz (CU H id z 0 0) λOS=>LZ z bs OS [] H n k) (Gz (T.get H id) λb=>qj id 0 0 0 z need [] H n k b) (Nat.ble need 0))=_
  rw[Du,WG,BO,len_eq];rfl
 rw[e0]
 show Gz (T.get H id) (λb=>qj id 0 0 0 z (0+0) [] H n k b)
 rw[hg,XQ]
 show NI (band (Nat.beq z z) (Nat.ble (Nat.add 0 (0+0)) 0)) (k (.sl id 0 (0+0) 0 z) (T.set H id (.arr z 0 t)) n)
 rw[Du,show Nat.ble (Nat.add 0 (0+0)) 0=true by rw[Nat.ble_eq];exact Nat.le_refl _]
 refine hk _ λj=>?_
 rw[T.Qs];split
 ·rename_i e;subst e;exact hg.symm
 ·rfl
theorem ALt{H H':Heap}{z z':Nat}{A B:Nat->Prop}{v w:V}{LS MS:ET}(h:Sk H z A v LS)(h':Sk H' z' B w MS):BA [.AZ,.AZ] [(0,1,.c v),(1,1,.c w)]=some (.agg [v,w]):=by
 cases h<;>cases h'<;>rfl
structure Za where
 kb:Nat
 i:Nat
 t:Nat
 a:Nat
 b:Nat
 fm:Nat
 vn:V
 fs:Tab
 nm:St
 sup:St
 vf:V
 vm:V
 v0:V
 v1:V
 v2:V
 v3:V
 v4:V
 vb:V
 pool:Pool
 ws:List V
 nl:Nat
 mx:Int
 vc:V
 code:List Ins
 mn:St
 st:Bool
 vp:V
 ps:List Ty
 ret:Ty
def Za.cells(K:Za)(at' td:V):LV:=[.ptr K.i 0,K.nm.v,K.sup.v,K.vf,K.vm,K.v0,K.v1,K.v2,K.v3,K.v4,K.vb,.int .i64 (.ofNat K.nl) 0,.int .i64 K.mx 0,K.vc,K.mn.v,.bool K.st,K.vp,K.ret.nm.v,.bool K.ret.arr,at',td]
def Za.cx(K:Za):Cx:=⟨K.fs,K.pool,K.mx,K.ret,K.code⟩
structure Za.At(K:Za)(G:AX)(H:Heap)(m:Nat)(at' td:V):Prop where
 box:T.get H K.kb=some (one (K.cells at' td))
 km:K.kb<m
 kb:K.kb≠K.b
 ki:K.kb≠K.i
 img:Tz G H m K.i K.t K.a K.b K.fm K.vn K.fs
 small:K.fs.length<=1000
 pool:FD G H m K.pool K.v0 K.v1 K.v2 K.v3 K.v4 K.ws
 code:Oq G H m K.vc K.code
 ps:KI G H m K.vp K.ps
 rok:K.ret.nm.ok
 nok:K.nm.ok
 mx:K.mx<=1000
 nl:K.nl<=401
 cl:K.code.length<=16384
theorem Za.At.kb'{K:Za}{G:AX}{H H':Heap}{m:Nat}{at' td:V}(h:K.At G H m at' td)(f:Kb K.b H m H' m):K.At G H' m at' td:=by
 have e:=f.ke (G:=G) h.img.tab.seen
 exact⟨f.get h.box h.km h.kb,h.km,h.kb,h.ki,h.img.kb f,h.small,h.pool.ke e,⟨h.code.el.ke h.code.lo e,h.code.lo,h.code.lt⟩,h.ps.ke e,h.rok,h.nok,h.mx,h.nl,h.cl⟩
theorem Za.At.kw{K:Za}{G:AX}{H H':Heap}{m n n':Nat}{at' td:V}(h:K.At G H m at' td)(f:Kw K.b m H n H' n'):K.At G H' m at' td:=h.kb' f.kb
theorem ADs(x y:Int):B2.ev .leq (.int .i64 x 0) (.int .i64 y 0)=some (.bool (decide (x<=y))):=by
 show BQ (band (keq .i64 .i64) true) (mkB (ile x y))=_
 rw[TV,uD];rfl
theorem ARq{K:Za}{G:AX}{H:Heap}{n m q:Nat}{at' td:V}{s:Ce}{t:Ty}(hc:K.At G H m at' td)(h:JF H m n q s)(ht:t.nm.ok){k:KV}
 (h0:∀H' n',Kw K.b m H n H' n'->CX K.mx t s.stk=none->k (.bool false) H' n')
 (h1:∀H' n' r,Kw K.b m H n H' n'->CX K.mx t s.stk=some r->JF H' m n' q ⟨s.loc,r⟩->k (.bool true) H' n'):Runs F G Ar [.ptr K.kb 0,.ptr q 0,t.v] H n k:=by
 refine BL (s:=ar3 (Ic lfp G)) O8 (by obtain⟨h,o⟩:=Vq BK G;rw[O8]at h;cases h;exact o) ?_
 show Ic lfp G (Runs F G) (.ptr K.kb 0) (.ptr q 0) t.v H n k
 delta Ic
 have hbm:K.b<m:=hc.img.tab.bn
 have hkm:=hc.km
 have hqm:=h.mq
 have hqn:=h.qn
 refine Ez λH1 f1 g1=>?_
 have h:=h.kp f1
 have hc:=hc.kw (f1.kw (by omega) hbm)
 obtain⟨vl,vs,gq,hl,hs,hd⟩:=h.is
 simp only[go_sem,Nat.reduceAdd,AU (off:=1) gq (v:=vs) rfl,BF g1]
 refine hs.app (m:=0) (c:=t.v) (λid hid=>(hs.own hid).2.1) (by omega) rfl rfl (by rw[F5,List.length_reverse];have:=h.bs;omega) λv' H2 hv' hsame hid=>?_
 have gq:=(hsame q (by omega) λe=>(hs.own e).2.2 rfl).trans gq
 have hv1:=(hv' (λ_=>True) trivial).ok
 refine ZP gq hv1.1 (by rw[hv1.2.1];rfl) (by omega) (by show 1+1<=2;omega) λH3 g3 s3=>?_
 rw[hv1.2.1]at g3
 have g3:T.get H3 q=some (one [vl,v']):=g3
 have f3:Kw K.b m H n H3 (n+1+2):=(f1.kw (by omega) hbm).trans (.of hbm (by omega) λid hid=>by
  rw[s3 id (by omega)];exact hsame id (by omega) λe=>by have:=(hs.own e).1;omega)
 have hc:=hc.kw (H':=H3) (n:=n) (n':=n) ⟨by omega,⟨by omega,λid hid _=>by rw[s3 id (by omega)];exact hsame id (by omega) λe=>by have:=(hs.own e).1;omega,λhx=>hx.same (by rw[s3 _ (by omega)];exact hsame _ (by omega) λe=>by have:=(hs.own e).1;omega)⟩⟩
 have hv3:Sk H3 2 (λid=>m<=id/\id<n+1+2/\id≠q) v' (tys (t::s.stk).reverse):=by
  have:=(hv' (λid=>id=n+1+1) rfl).mono (H':=H3) (B:=λid=>m<=id/\id<n+1+2/\id≠q) (λid hid=>⟨by omega,by omega,by omega⟩) (λid hid=>s3 id (by omega))
  rw[show tys (t::s.stk).reverse=tys s.stk.reverse++[t.cells]by rw[List.reverse_cons];exact List.map_append]
  exact this
 have e2:B2.ev .leq (.int .i64 (.ofNat (s.stk.length+1)) 0) (.int .i64 K.mx 0)=some (.bool (decide (((s.stk.length+1:Nat):Int)<=K.mx))):=ADs ..
 simp only[go_sem,Nat.reduceAdd,AU (off:=1) g3 (v:=v') rfl,(hv3.el (G:=G) (by omega)).len,F5,List.length_reverse,List.length_cons,AU (off:=12) hc.box (v:=.int .i64 K.mx 0) rfl,e2]
 cases hd2:decide (((s.stk.length+1:Nat):Int)<=K.mx)with
 |false=>exact h0 _ _ f3 (by unfold CX;rw[hd2];rfl)
 |true=>
  refine h1 _ _ (t::s.stk) f3 (by unfold CX;rw[hd2];rfl) ⟨hqm,by omega,⟨vl,v',g3,?_,hv3,?_⟩,h.ol,?_,h.bl,?_⟩
  ·refine hl.AHL (λid hid=>?_) λid hid=>?_
   ·have:=hl.own hid;exact⟨by omega,by omega,by omega⟩
   ·have:=hl.own hid
    rw[s3 id (by omega)];exact hsame id (by omega) (hd id hid)
  ·intro id h1 h2
   have:=hl.own h1
   rw[hid]at h2;cases h2;omega
  ·intro x hx
   rcases List.mem_cons.1 hx with rfl|hx
   ·exact ht
   ·exact h.os x hx
  ·have:=of_decide_eq_true hd2
   have:=hc.mx
   show s.stk.length+1<=100000
   omega
theorem sub_one(a:Nat)(h:a<9223372036854775808):B2.ev .sub (.int .i64 (.ofNat a) 0) (.int .i64 (.ofNat 1) 0)=some (.int .i64 ((a:Int)-1) 0):=by
 show some (V.int .i64 (iH .i64 (ABa (.ofNat a) (Int.neg (.ofNat 1)))) 0)=_
 rw[VK,oZ]
 have e:Int.ofNat a+Int.neg (Int.ofNat 1)=(a:Int)-1:=by show(a:Int)+ -(1:Int)=(a:Int)-1;omega
 rw[e,Yu (by omega) (by omega)]
theorem ACT(x:Int):B2.ev .lss (.int .i64 x 0) (.int .i64 (.ofNat 0) 0)=some (.bool (decide (x<0))):=by rw[AM7];rfl
theorem JF.drop{H:Heap}{m n q:Nat}{s:Ce}{t:Ty}{r:List Ty}(h:JF H m n q s)(e:s.stk=t::r){vl vs:V}(g:T.get H q=some (one [vl,vs])):
 ∃v',xK 2 vs E0 none (some (.c (.int .i64 (.ofNat r.length) 0))) none=some v'/\YR v'=true/\Aq v'=[v']/\∀H',T.get H' q=some (one [vl,v'])->(∀j,j≠q->T.get H' j=T.get H j)->JF H' m n q ⟨s.loc,r⟩:=by
 obtain⟨vl2,vs2,g2,hl,hs,hd⟩:=h.is
 rw[g]at g2
 cases g2
 have hlen:(tys s.stk.reverse).length=r.length+1:=by rw[F5,List.length_reverse,e];rfl
 obtain⟨v',h1,h2,h3⟩:=hs.pop (i:=r.length) (q:=.i64) (by omega)
 have e3:(tys s.stk.reverse).take r.length=tys r.reverse:=by
  rw[e,List.reverse_cons,show tys (r.reverse++[t])=tys r.reverse++[t.cells]from List.map_append]
  exact List.take_left' (by rw[F5,List.length_reverse])
 rw[e3]at h3
 refine⟨v',h1,h3.ok.1,h3.ok.2.1,λH' g' s'=>⟨h.mq,h.qn,⟨vl,v',g',?_,?_,?_⟩,h.ol,λx hx=>h.os x (by rw[e];exact List.mem_cons_of_mem _ hx),h.bl,?_⟩⟩
 ·exact hl.mono (λ_ h=>h) λid hid=>s' id hid.2.2
 ·exact h3.mono (λ_ h=>h) λid hid=>s' id hid.2.2
 ·intro id a;rw[h2];exact hd id a
 ·have:=h.bs;rw[e]at this;simp only[List.length_cons]at this;show r.length<=100000;omega
theorem JF.top{G:AX}{H:Heap}{m n q:Nat}{s:Ce}{t:Ty}{r:List Ty}(h:JF H m n q s)(e:s.stk=t::r){vl vs:V}(g:T.get H q=some (one [vl,vs])):
 ∃p,Ad 2 vs (.int .i64 (.ofNat r.length) 0)=some p/\Ae 2 p G H=some t.v:=by
 obtain⟨vl2,vs2,g2,hl,hs,hd⟩:=h.is
 rw[g]at g2
 cases g2
 obtain⟨p,hp,hld⟩:=(hs.el (G:=G) (by omega)).at (i:=r.length) (c:=t.cells) (by
  rw[e,List.reverse_cons,show tys (r.reverse++[t])=tys r.reverse++[t.cells]from List.map_append,List.getElem?_append_right (by rw[F5,List.length_reverse];omega),F5,List.length_reverse,Nat.sub_self];rfl)
 exact⟨p,hp,by rw[Bq hld];rfl⟩
theorem JF.len{G:AX}{H:Heap}{m n q:Nat}{s:Ce}(h:JF H m n q s){vl vs:V}(g:T.get H q=some (one [vl,vs])):lenV vs=some (.int .i64 (.ofNat s.stk.length) 0):=by
 obtain⟨vl2,vs2,g2,hl,hs,hd⟩:=h.is
 rw[g]at g2
 cases g2
 rw[(hs.el (G:=G) (by omega)).len,F5,List.length_reverse]
structure Kq(b q:Nat)(H:Heap)(n:Nat)(H':Heap)(n':Nat):Prop where
 le:n<=n'
 same:∀id,id<n->id≠b->id≠q->T.get H' id=T.get H id
 seen:Hu H b->Hu H' b
theorem Kq.refl(b q:Nat)(H:Heap)(n:Nat):Kq b q H n H n:=⟨Nat.le_refl _,λ_ _ _ _=>rfl,λh=>h⟩
theorem Kq.trans{b q n n' n'':Nat}{H H' H'':Heap}(x:Kq b q H n H' n')(y:Kq b q H' n' H'' n''):Kq b q H n H'' n'':=
 ⟨Nat.le_trans x.le y.le,λid h1 h2 h3=>(y.same id (Nat.lt_of_lt_of_le h1 x.le) h2 h3).trans (x.same id h1 h2 h3),λh=>y.seen (x.seen h)⟩
theorem Kq.kw{b m q n n':Nat}{H H':Heap}(x:Kq b q H n H' n')(hm:m<=n)(hq:m<=q):Kw b m H n H' n':=⟨x.le,Nat.le_refl _,λid h1 h2=>x.same id (by omega) h2 (by omega),x.seen⟩
theorem Kb.kq{b q n n':Nat}{H H':Heap}(x:Kb b H n H' n'):Kq b q H n H' n':=⟨x.le,λid h1 h2 _=>x.same id h1 h2,x.seen⟩
theorem Kq.of{b q n n':Nat}{H H':Heap}(hb:b<n)(hq:b≠q)(hn:n<=n')(h:∀id,id<n->id≠q->T.get H' id=T.get H id):Kq b q H n H' n':=⟨hn,λid h1 _ h3=>h id h1 h3,λhs=>hs.same (h b hb hq)⟩
theorem _root_.Go.Bv.Kp.kq{b q n n':Nat}{H H':Heap}(x:Kp H n H' n')(hb:b<n):Kq b q H n H' n':=(x.kb hb).kq
theorem ARW{G:AX}{H:Heap}{n m q b:Nat}{s:Ce}(hb:b<m)(h:JF H m n q s){k:KV}
 (h0:s.stk=[]->∀H' n',Kq b q H n H' n'->JF H' m n' q s->k (.Df [CB.v,.bool false]) H' n')
 (h1:∀t r,s.stk=t::r->∀H' n',Kq b q H n H' n'->JF H' m n' q ⟨s.loc,r⟩->k (.Df [t.v,.bool true]) H' n'):Runs F G EU [.ptr q 0] H n k:=by
 refine BL (s:=MZ (Jh lfp G)) RU (by obtain⟨h,o⟩:=XZ BK G;rw[RU]at h;cases h;exact o) ?_
 show Jh lfp G (Runs F G) (.ptr q 0) H n k
 delta Jh
 have hqm:=h.mq
 have hqn:=h.qn
 refine BU rfl λH1 f1 g1=>?_
 have hO:=h
 have h:=h.kp f1
 obtain⟨vl,vs,gqO,-⟩:=hO.is
 have gq:=f1.get gqO (by omega)
 have hbs:=h.bs
 simp only[go_sem,Nat.reduceAdd,AU (off:=1) gq (v:=vs) rfl,h.len (G:=G) gq,sub_one _ (show s.stk.length<9223372036854775808 by omega),ACT]
 cases e:s.stk with
 |nil=>
  rw[show decide (((([]:List Ty).length:Nat):Int)-1<0)=true from rfl]
  simp only[go_sem]
  rw[xw,AB]
  show BZ 2 (.ptr n 0) (.agg CB.cells) H1 (n+1) _
  rw[Gq (m:=2) g1 (by omega) rfl rfl,Eh (m:=2) (T.Ai ..) (by omega) rfl]
  exact h0 e _ _ (.of (by omega) (by omega) (by omega) λid hid _=>by rw[T.Ac _ _ (by omega),f1.same _ hid]) (hO.mono (by omega) λid _ h2=>by rw[T.Ac _ _ (by omega),f1.same _ h2])
 |cons t r=>
  have el:(((t::r).length:Nat):Int)-1=Int.ofNat r.length:=by simp only[List.length_cons];show((r.length+1:Nat):Int)-1=(r.length:Int);omega
  obtain⟨p,hp,hld⟩:=h.top (G:=G) e gq
  obtain⟨v',hv',ok1,ok2,hst⟩:=hO.drop e gqO
  rw[el,show decide (Int.ofNat r.length<0)=false by rw[decide_eq_false_iff_not];show ¬(r.length:Int)<0;omega]
  simp only[go_sem,Nat.reduceAdd,AU (off:=1) gq (v:=vs) rfl,hp,hld]
  show BZ 2 (.ptr (n+1) 0) (.agg t.cells) _ _ _
  refine Xa rfl rfl (by omega) λH2 f2 g2=>?_
  have gq2:=f2.get gq (by omega)
  rw[AU (off:=1) gq2 (v:=vs) rfl,AB,hv',AB]
  refine ZP gq2 ok1 (by rw[ok2];rfl) (by omega) (by show 1+1<=2;omega) λH3 g3 s3=>?_
  rw[ok2]at g3
  have g3:T.get H3 q=some (one [vl,v']):=g3
  rw[BF ((s3 (n+1) (by omega)).trans g2),AB]
  show BZ 2 (.ptr n 0) (.agg t.cells) _ _ _
  rw[Gq (m:=2) ((s3 n (by omega)).trans (f2.get g1 (by omega))) (by omega) rfl rfl,Eh (m:=2) (T.Ai ..) (by omega) rfl]
  have hst:=hst (T.set H q (one [vl,v'])) (T.Ai ..) λj hj=>T.Ac _ _ (Ne.symm hj)
  refine h1 t r e _ _ (.of (by omega) (by omega) (by omega) λid hid hq=>?_) (hst.mono (by omega) λid h1 h2=>?_)
  ·rw[T.Ac _ _ (by omega),s3 _ (by omega),f2.same _ (by omega),f1.same _ (by omega)]
  ·rw[T.Ac _ _ (by omega)]
   by_cases hq:id=q
   ·subst hq;rw[g3,T.Ai]
   ·rw[s3 _ hq,T.Ac _ _ (Ne.symm hq),f2.same _ (by omega),f1.same _ h2]
theorem AJr{K:Za}{G:AX}{H:Heap}{n m q:Nat}{at' td w:V}{ws:List Ty}{s:Ce}(hc:K.At G H m at' td)(h:JF H m n q s)(hw:∀H' n',Kq K.b q H n H' n'->El G H' w 2 (tys ws))(hlen:ws.length<big)(hok:∀t∈ws,t.nm.ok){k:KV}
 (h0:∀H' n',Kq K.b q H n H' n'->DY K.fs ws.reverse s.stk=none->k (.bool false) H' n')
 (h1:∀H' n' r,Kq K.b q H n H' n'->DY K.fs ws.reverse s.stk=some r->JF H' m n' q ⟨s.loc,r⟩->k (.bool true) H' n'):Runs F G A8 [.ptr K.kb 0,.ptr q 0,w] H n k:=by
 refine BL (s:=ar3 (JC lfp G)) QZ (by obtain⟨h,o⟩:=V9 BK G;rw[QZ]at h;cases h;exact o) ?_
 show JC lfp G (Runs F G) (.ptr K.kb 0) (.ptr q 0) w H n k
 delta JC
 have hbm:K.b<m:=hc.img.tab.bn
 have hkm:=hc.km
 have hqm:=h.mq
 have hqn:=h.qn
 rw[(hw H n (.refl ..)).len,F5,AB,sub_one _ (by unfold big at hlen;omega),AB]
 refine JJ (J:=λj st=>∃H' n' s',j<=ws.length/\st=(.ptr K.kb 0,.ptr q 0,w,.int .i64 ((j:Int)-1) 0,H',n')/\Kq K.b q H n H' n'/\JF H' m n' q s'/\s'.loc=s.loc/\DY K.fs ws.reverse s.stk=DY K.fs (ws.take j).reverse s'.stk) ?_ (m:=ws.length)
  ⟨H,n,s,Nat.le_refl _,rfl,.refl ..,h,rfl,by rw[List.take_length]⟩
 rintro I j st ⟨H2,n2,s2,hj,rfl,f,h,hloc,hp⟩ ih
 show OA lfp G (Runs F G) k I (.ptr K.kb 0) (.ptr q 0) w (.int .i64 ((j:Int)-1) 0) H2 n2
 delta OA
 have hn2:=f.le
 cases j with
 |zero=>
  rw[show B2.ev .geq (.int .i64 (((0:Nat):Int)-1) 0) (.int .i64 (.ofNat 0) 0)=some (.bool false)from rfl]
  simp only[go_sem]
  delta OC
  refine h1 _ _ s2.stk f (by rw[hp];rfl) ?_
  rw[<-hloc];exact h
 |succ j=>
  have ej:((j+1:Nat):Int)-1=Int.ofNat j:=by show((j+1:Nat):Int)-1=(j:Int);omega
  obtain⟨vl,vs,gq,-⟩:=h.is
  have hbs:=h.bs
  rw[ej,AJw,show decide (0<=Int.ofNat j)=true by rw[decide_eq_true_eq];show(0:Int)<=(j:Int);omega]
  simp only[go_sem,Nat.reduceAdd,AU (off:=1) gq (v:=vs) rfl,h.len (G:=G) gq,sub_one _ (show s2.stk.length<9223372036854775808 by omega),ACT]
  have htake:(ws.take (j+1)).reverse=ws[j]::(ws.take j).reverse:=by
   rw[List.take_succ_eq_append_getElem (by omega),List.reverse_append];rfl
  rw[htake]at hp
  cases e:s2.stk with
  |nil=>
   rw[e]at hp
   rw[show decide (((([]:List Ty).length:Nat):Int)-1<0)=true from rfl]
   simp only[go_sem]
   exact h0 _ _ f hp
  |cons t r=>
   rw[e]at hp
   have el:(((t::r).length:Nat):Int)-1=Int.ofNat r.length:=by simp only[List.length_cons];show((r.length+1:Nat):Int)-1=(r.length:Int);omega
   obtain⟨p,hpp,hld⟩:=h.top (G:=G) e gq
   obtain⟨p2,hp2,hld2⟩:=(hw _ _ f).at (UW (show j<ws.length by omega))
   rw[el,show decide (Int.ofNat r.length<0)=false by rw[decide_eq_false_iff_not];show ¬(r.length:Int)<0;omega]
   have hc2:=hc.kw (f.kw (by omega) hqm)
   simp only[go_sem,Nat.reduceAdd,AU (off:=1) gq (v:=vs) rfl,hpp,hld,hp2,Bq hld2,AU (off:=0) hc2.box (v:=.ptr K.i 0) rfl,AU (off:=0) hc2.img.at' (v:=.ptr K.t 0) rfl]
   refine ARd (x:=t) (y:=ws[j]) hc2.img.tab (by omega) hc2.small (h.os t (by rw[e];exact List.mem_cons_self ..)) (hok _ (List.getElem_mem _)) λH3 n3 f3=>?_
   have f':=f.trans (f3.kq (q:=q))
   have h:=h.kb f3 hbm
   have gq:=f3.get gq (by omega) (by omega)
   have hn3:=f3.le
   have hp:DY K.fs ws.reverse s.stk=bif fitsT K.fs t ws[j]then DY K.fs (ws.take j).reverse r else none:=hp
   cases hf:fitsT K.fs t ws[j]with
   |false=>
    rw[hf]at hp
    simp only[go_sem,Bl,Bool.not_false]
    exact h0 _ _ f' hp
   |true=>
    rw[hf]at hp
    simp only[go_sem,Bl,Bool.not_true,Nat.reduceAdd,AU (off:=1) gq (v:=vs) rfl]
    obtain⟨v',hv',ok1,ok2,hst⟩:=h.drop e gq
    rw[hv',AB]
    refine ZP gq ok1 (by rw[ok2];rfl) (by omega) (by show 1+1<=2;omega) λH4 g4 s4=>?_
    rw[ok2]at g4
    rw[sub_one _ (by unfold big at hlen;omega),AB]
    refine ih j _ (by omega) ⟨H4,n3,⟨s2.loc,r⟩,by omega,rfl,f'.trans ⟨Nat.le_refl _,λid _ _ hq=>s4 id hq,λhs=>hs.same (s4 _ (by omega))⟩,hst H4 g4 s4,hloc,hp⟩
structure Dn(b m:Nat)(H:Heap)(n q:Nat)(k:KV)(o:Option Ce):Prop where
 no:∀H' n',Kw b m H n H' n'->o=none->k (.bool false) H' n'
 yes:∀H' n' s',Kw b m H n H' n'->o=some s'->JF H' m n' q s'->k (.bool true) H' n'
theorem Dn.later{b m n n' q:Nat}{H H':Heap}{k:KV}{o:Option Ce}(h:Dn b m H n q k o)(f:Kw b m H n H' n'):Dn b m H' n' q k o:=
 ⟨λ_ _ f2 e=>h.no _ _ (f.trans f2) e,λ_ _ _ f2 e hs=>h.yes _ _ _ (f.trans f2) e hs⟩
section
variable{K:Za}{G:AX}{H:Heap}{n m q:Nat}{at' td w:V}{ws:List Ty}{s:Ce}{t:Ty}{k:KV}{p:V}
theorem Ue(hc:K.At G H m at' td)(h:JF H m n q s)(ht:t.nm.ok)(d:Dn K.b m H n q k ((CX K.mx t s.stk).map λr=>⟨s.loc,r⟩)):Runs F G Ar [.ptr K.kb 0,.ptr q 0,t.v] H n k:=
 ARq hc h ht (λ_ _ f e=>d.no _ _ f (by rw[e];rfl)) λ_ _ r f e hs=>d.yes _ _ _ f (by rw[e];rfl) hs
theorem ATx(hc:K.At G H m at' td)(h:JF H m n q s)(hw:∀H' n',Kq K.b q H n H' n'->El G H' w 2 (tys ws))(hlen:ws.length<big)(hok:∀t∈ws,t.nm.ok)(hmn:m<=n)
 (d:Dn K.b m H n q k ((DY K.fs ws.reverse s.stk).map λr=>⟨s.loc,r⟩)):Runs F G A8 [.ptr K.kb 0,.ptr q 0,w] H n k:=
 AJr hc h hw hlen hok (λ_ _ f e=>d.no _ _ (f.kw hmn h.mq) (by rw[e];rfl)) λ_ _ r f e hs=>d.yes _ _ _ (f.kw hmn h.mq) (by rw[e];rfl) hs
theorem AKM(hc:K.At G H m at' td)(h:JF H m n q s)(hw:∀H' n',Kq K.b q H n H' n'->El G H' w 2 (tys ws))(hlen:ws.length<big)(hok:∀t∈ws,t.nm.ok)(hmn:m<=n)(ht:t.nm.ok)
 (hp:∀H' n',Kq K.b q H n H' n'->Ae 2 p G H'=some t.v)
 (d:Dn K.b m H n q k ((DY K.fs ws.reverse s.stk).bind λr=>(CX K.mx t r).map λr=>⟨s.loc,r⟩)):
 Runs F G A8 [.ptr K.kb 0,.ptr q 0,w] H n λv H n=>Aj v true (some (.ptr K.kb 0)) λx=>Aj v true (some (.ptr q 0)) λy=>Aj v true (Ae 2 p G H) λz=>D5 v true (Runs F G Ar [x,y,z] H n) H n λu H n=>
  AL (Aw v u (.bool false)) λr=>k r H n:=by
 refine AJr hc h hw hlen hok (λH1 n1 f e=>?_) λH1 n1 r f e hs=>?_
 ·simp only[go_sem]
  exact d.no _ _ (f.kw hmn h.mq) (by rw[e];rfl)
 ·simp only[go_sem,hp _ _ f]
  rw[e]at d
  exact Ue (hc.kw (f.kw hmn h.mq)) hs ht (d.later (f.kw hmn h.mq))
end
theorem Kq.get{b q n n' id:Nat}{H H':Heap}{B:P7}(f:Kq b q H n H' n')(h:T.get H id=some B)(hi:id<n)(hb:id≠b)(hq:id≠q):T.get H' id=some B:=(f.same id hi hb hq).trans h
theorem AUD{G:AX}{H H':Heap}{b q n n' j o l c z:Nat}{LS:ET}(h:El G H (.sl j o l c z) z LS)(f:Kq b q H n H' n')(hj:j<n)(hb:j≠b)(hq:j≠q):El G H' (.sl j o l c z) z LS:=
 h.same λid e=>by cases e;exact f.same j hj hb hq
theorem Rk:Dw.nm.ok:=by intro h;cases h
theorem Xi:FQ.nm.ok:=by intro h;cases h
structure ql(p:Pool)(nl:Nat)(c i:Nat):Prop where
 lo:1<=c
 hi:c<=32
 lc:c=3∨c=4->i<nl
 nm:c=18∨c=23∨c=24->i<p.names.length
 ty:c=19∨c=20∨c=21->i<p.types.length
 fl:c=16∨c=17->i<p.fields.length
 me:c=25∨c=26->i<p.CV.length
theorem Dn.cast{b m n q:Nat}{H:Heap}{k:KV}{o o':Option Ce}(h:Dn b m H n q k o)(e:o=o'):Dn b m H n q k o':=e▸h
theorem dO(x y:Nat):Cc (.one .int) false (.int .i64 (.ofNat x) 0) (.int .i64 (.ofNat y) 0)=some (.bool (decide (x=y))):=Dy ..
section
variable{K:Za}{G:AX}{H:Heap}{n m q:Nat}{at' td w:V}{ws:List Ty}{s:Ce}{t:Ty}{k:KV}{p:V}{N:Nat}{Z:LV}
theorem AH0{vs:List V}(hv:vs=ws.map Ty.v)(hm:ws.length=N)(hbn:K.b<n)(hqn:q<n){P:KV}(h:∀H',Kp H n H' (n+1)->(∀H2 n2,Kq K.b q H' (n+1) H2 n2->El G H2 (.sl n 0 N N 2) 2 (tys ws))->P (.sl n 0 N N 2) H' (n+1)):
 Bg (Az 2 N Z (AAZ 0 vs) E0) H n P:=by
 subst hv
 refine ABW (G:=G) (by simp[hm]) (by omega) (λv hv=>by obtain⟨t,-,rfl⟩:=List.mem_map.1 hv;exact⟨rfl,rfl⟩) λH' f ht hel=>?_
 have e:(ws.map Ty.v).map Aq=tys ws:=by rw[List.map_map];rfl
 rw[e]at hel
 exact h H' f λH2 n2 f2=>AUD hel f2 (by omega) (by omega) (by omega)
theorem oO(hc:K.At G H m at' td)(h:JF H m n q s){vs:List V}(hv:vs=ws.map Ty.v)(hm:ws.length=N)(hN:N<=100)(hok:∀t∈ws,t.nm.ok)
 (d:Dn K.b m H n q k ((DY K.fs ws.reverse s.stk).map λr=>⟨s.loc,r⟩)):
 Bg (Az 2 N Z (AAZ 0 vs) E0) H n λw H n=>Runs F G A8 [.ptr K.kb 0,.ptr q 0,w] H n k:=by
 have hbm:K.b<m:=hc.img.tab.bn
 have hqm:=h.mq
 have hqn:=h.qn
 refine AH0 (G:=G) (K:=K) (q:=q) hv hm (by omega) hqn λH' f hw=>?_
 have f':=f.kw (b:=K.b) (m:=m) (by omega) hbm
 exact ATx (hc.kw f') (h.kp f) hw (by unfold big;omega) hok (by omega) (d.later f')
theorem Yo(hc:K.At G H m at' td)(h:JF H m n q s){vs:List V}(hv:vs=ws.map Ty.v)(hm:ws.length=N)(hN:N<=100)(hok:∀t∈ws,t.nm.ok)(ht:t.nm.ok)
 (hp:∀H' n',Kq K.b q H n H' n'->Ae 2 p G H'=some t.v)
 (d:Dn K.b m H n q k ((DY K.fs ws.reverse s.stk).bind λr=>(CX K.mx t r).map λr=>⟨s.loc,r⟩)):
 Bg (Az 2 N Z (AAZ 0 vs) E0) H n λw H n=>Runs F G A8 [.ptr K.kb 0,.ptr q 0,w] H n λv H n=>Aj v true (some (.ptr K.kb 0)) λx=>Aj v true (some (.ptr q 0)) λy=>Aj v true (Ae 2 p G H) λz=>
  D5 v true (Runs F G Ar [x,y,z] H n) H n λu H n=>AL (Aw v u (.bool false)) λr=>k r H n:=by
 have hbm:K.b<m:=hc.img.tab.bn
 have hqm:=h.mq
 have hqn:=h.qn
 refine AH0 (G:=G) (K:=K) (q:=q) hv hm (by omega) hqn λH' f hw=>?_
 have f':=f.kw (b:=K.b) (m:=m) (by omega) hbm
 exact AKM (hc.kw f') (h.kp f) hw (by unfold big;omega) hok (by omega) ht (λH2 n2 f2=>hp _ _ ((f.kq (by omega)).trans f2)) (d.later f')
theorem Yk(hc:K.At G H m at' td)(h:JF H m n q s){vs:List V}(hv:vs=ws.map Ty.v)(hm:ws.length=N)(hN:N<=100)(hok:∀t∈ws,t.nm.ok)
 (h0:∀H' n',Kq K.b q H n H' n'->DY K.fs ws.reverse s.stk=none->k (.bool false) H' n')
 (h1:∀H' n' r,Kq K.b q H n H' n'->DY K.fs ws.reverse s.stk=some r->JF H' m n' q ⟨s.loc,r⟩->k (.bool true) H' n'):
 Bg (Az 2 N Z (AAZ 0 vs) E0) H n λw H n=>Runs F G A8 [.ptr K.kb 0,.ptr q 0,w] H n k:=by
 have hbm:K.b<m:=hc.img.tab.bn
 have hqm:=h.mq
 have hqn:=h.qn
 refine AH0 (G:=G) (K:=K) (q:=q) hv hm (by omega) hqn λH' f hw=>?_
 have f':=f.kw (b:=K.b) (m:=m) (by omega) hbm
 exact AJr (hc.kw f') (h.kp f) hw (by unfold big;omega) hok (λ_ _ f2=>h0 _ _ ((f.kq (by omega)).trans f2)) λ_ _ r f2=>h1 _ _ r ((f.kq (by omega)).trans f2)
theorem iZ{b:Nat}{P:Nat->V->KV}(hb:b<m)(h:JF H m n q s)
 (h0:s.stk=[]->∀H' p,Kq b q H n H' (p+1)->n<=p->T.get H' p=some (one CB.cells)->JF H' m p q s->P p (.bool false) .undef H' (p+1))
 (h1:∀t r,s.stk=t::r->∀H' p,Kq b q H n H' (p+1)->n<=p->T.get H' p=some (one t.cells)->JF H' m p q ⟨s.loc,r⟩->P p (.bool true) .undef H' (p+1)):
 Runs F G EU [.ptr q 0] H n λv H n=>AL (Bz v 0) λx=>AL (Bz v 1) λy=>BZ 2 (.ptr n 0) x (T.set H n (one [.str 0 0,.bool false])) (n+1) λu H n1=>P n y u H n1:=by
 have hqm:=h.mq
 have hqn:=h.qn
 refine ARW hb h (λe H2 n2 f2 hs=>?_) λt r e H2 n2 f2 hs=>?_
 ·have hn:=f2.le
  simp only[go_sem]
  show BZ 2 (.ptr n2 0) (.agg CB.cells) _ _ _
  refine Xa rfl rfl (by omega) λH3 f3 g3=>?_
  exact h0 e _ _ (f2.trans (f3.kq (by omega))) hn g3 (hs.mono (Nat.le_refl _) λid _ h=>f3.same id h)
 ·have hn:=f2.le
  simp only[go_sem]
  show BZ 2 (.ptr n2 0) (.agg t.cells) _ _ _
  refine Xa rfl rfl (by omega) λH3 f3 g3=>?_
  exact h1 t r e _ _ (f2.trans (f3.kq (by omega))) hn g3 (hs.mono (Nat.le_refl _) λid _ h=>f3.same id h)
theorem ALg{c:Bool}{P:V->Heap->Nat->Prop}(hld:Ae 2 p G H=some t.v)(f:∀H',Kp H n H' n->Ae 2 p G H'=some t.v)(h:∀H' n',Kp H n H' n'->P (.bool (c||t.is CQ)) H' n'):
 Aj (.bool c) false (Ae 2 p G H) λx=>D5 (.bool c) false (Runs F G I8 [] H n) H n λy H n=>uO (.bool c) false (Ae 2 p G H) x <| Aj (.bool c) false (Cc (.agg [.str,.bool]) false x y) λz=>AL (Aw (.bool c) (.bool true) z) λu=>P u H n:=by
 cases c with
 |true=>simp only[go_sem];exact h _ _ (Kp.refl _ _)
 |false=>
  simp only[go_sem,hld]
  refine Yr λH' n' f'=>?_
  refine ATZ (f H' ⟨Nat.le_refl _,f'.same⟩) (Qx t) ?_
  simp only[go_sem,nD]
  exact h _ _ f'
theorem AOA{c i:Nat}(hc:K.At G H m at' td)(h:JF H m n q s)(hcode:c=20∨c=21∨c=22)(hi:c=20∨c=21->i<K.pool.types.length)
 (d:Dn K.b m H n q k (stepT K.cx s ⟨.ofNat c,.ofNat i⟩)):Runs F G Vj [.ptr K.kb 0,.ptr q 0,.agg (Ins.cells ⟨.ofNat c,.ofNat i⟩)] H n k:=by
 refine BL (s:=ar3 (G8 lfp G)) OB (by obtain⟨h,o⟩:=U7 BK G;rw[OB]at h;cases h;exact o) ?_
 show G8 lfp G (Runs F G) (.ptr K.kb 0) (.ptr q 0) (.agg (Ins.cells ⟨.ofNat c,.ofNat i⟩)) H n k
 delta G8
 have hbm:K.b<m:=hc.img.tab.bn
 have hqm:=h.mq
 have hqn:=h.qn
 refine Ez λH1 f1 g1=>?_
 have h:=h.kp f1
 have f1':=f1.kw (b:=K.b) (m:=m) (by omega) hbm
 have hc:=hc.kw f1'
 have d:=d.later f1'
 simp only[go_sem,Nat.reduceAdd,AU (off:=0) g1 (v:=.int .i64 (.ofNat c) 0) rfl,dO]
 by_cases h22:c=22
 ·subst h22
  simp only[decide_true,go_sem]
  refine iZ hbm h (λe H2 p f2 hp g2 _=>?_) λt r e H2 p f2 hp g2 hs=>?_
  ·simp only[go_sem]
   exact d.no _ _ (f2.kw (by omega) hqm) (by show(match s.stk with|[]=>none|t::k=>_)=none;rw[e])
  ·have ht:t.nm.ok:=h.os t (by rw[e];exact List.mem_cons_self ..)
   have d:Dn K.b m H1 (n+1) q k (bif t.arr||t.is CQ then(CX K.mx Dw r).map λr=>⟨s.loc,r⟩else none):=by
    have d:Dn K.b m H1 (n+1) q k (match s.stk with|[]=>none|t::r=>bif t.arr||t.is CQ then(CX K.mx Dw r).map λr=>⟨s.loc,r⟩else none):=d
    rw[e]at d;exact d
   have f2':=f2.kw (m:=m) (by omega) hqm
   have hs':=hs.mono (H':=H2) (Nat.le_succ p) λ_ _ _=>rfl
   simp only[go_sem,Nat.reduceAdd,AU (off:=1) g2 (v:=.bool t.arr) rfl]
   refine ALg (t:=t) (c:=t.arr) (BF g2) (f:=λH' f=>BF (f.get g2 (by omega))) λH3 n3 f3=>?_
   have hn3:=f3.le
   have f3':=f2'.trans (f3.kw (by omega) hbm)
   cases hb:t.arr||t.is CQ with
   |false=>
    rw[hb]at d
    simp only[go_sem]
    exact d.no _ _ f3' rfl
   |true=>
    rw[hb]at d
    simp only[go_sem]
    refine ADl λH4 n4 f4=>?_
    have f4':=f3'.trans (f4.kw (by omega) hbm)
    exact Ue (hc.kw f4') ((hs'.kp f3).kp f4) Rk (d.later f4')
 ·have hi':i<K.pool.types.length:=hi (by omega)
  obtain⟨pt,hpt,hld⟩:=hc.pool.t2.el.at (UW hi')
  have hld:=Bq hld
  have hty:K.pool.types.getD i CB=K.pool.types[i]:=by rw[List.getD_eq_getElem?_getD,List.getElem?_eq_getElem hi'];rfl
  have htok:=hc.pool.t2.ok _ (List.getElem_mem hi')
  have g1c:AV (.ptr n 1) G H1=some (.int .i64 (.ofNat i) 0):=AU g1 rfl
  simp only[h22,decide_false,go_sem,Nat.reduceAdd,AU (off:=7) hc.box (v:=K.v2) rfl,g1c,hpt,hld]
  generalize K.pool.types[i]=ty at*
  show BZ 2 (.ptr (n+1) 0) (.agg ty.cells) _ _ _
  refine Xa rfl rfl (by omega) λH2 f2 g2=>?_
  have g1:=f2.get g1 (by omega)
  have h:=h.kp f2
  have f2':=f2.kw (b:=K.b) (m:=m) (by omega) hbm
  have hc:=hc.kw f2'
  have d:=d.later f2'
  simp only[go_sem,Nat.reduceAdd,AU (off:=0) g1 (v:=.int .i64 (.ofNat c) 0) rfl,dO]
  by_cases h21:c=21
  ·subst h21
   have d:Dn K.b m H2 (n+2) q k ((bif ty.arr then some ([RQ ty,Dw,ty],(none:Option Ty))else none).bind λe=>(DY K.fs e.1 s.stk).bind λr=>(rH K.mx e.2 r).map λr=>(⟨s.loc,r⟩:Ce)):=by
    have d:Dn K.b m H2 (n+2) q k ((bif (K.pool.types.getD i CB).arr then some ([RQ (K.pool.types.getD i CB),Dw,K.pool.types.getD i CB],(none:Option Ty))else none).bind λe=>(DY K.fs e.1 s.stk).bind λr=>(rH K.mx e.2 r).map λr=>(⟨s.loc,r⟩:Ce)):=d
    rw[hty]at d;exact d
   simp only[decide_true,go_sem,Nat.reduceAdd,AU (off:=1) g2 (v:=.bool ty.arr) rfl]
   cases ha:ty.arr with
   |false=>
    rw[ha]at d
    simp only[go_sem]
    exact d.no _ _ (.refl ..) rfl
   |true=>
    rw[ha]at d
    simp only[go_sem,BF g2]
    refine ADl λH3 n3 f3=>?_
    have hn3:=f3.le
    have g3:=f3.get g2 (by omega)
    refine ALd (BF g3) (Qx ty) ?_
    refine ALd (BF g3) (Qx ty) ?_
    refine AMY λH4 n4 f4=>?_
    have hn4:=f4.le
    refine ALd (BF (f4.get g3 (by omega))) (Qx ty) ?_
    have f4':=(f3.trans f4).kw (b:=K.b) (m:=m) (by omega) hbm
    refine oO (ws:=[ty,Dw,RQ ty]) (hc.kw f4') (h.kp (f3.trans f4)) rfl rfl (by omega) (λt ht=>?_) ((d.later f4').cast ?_)
    ·simp only[List.mem_cons,List.not_mem_nil,or_false]at ht
     rcases ht with rfl|rfl|rfl
     ·exact htok
     ·exact Rk
     ·exact htok
    ·show(DY K.fs [RQ ty,Dw,ty] s.stk).bind (λr=>some (⟨s.loc,r⟩:Ce))=(DY K.fs [RQ ty,Dw,ty] s.stk).map λr=>⟨s.loc,r⟩
     cases DY K.fs [RQ ty,Dw,ty] s.stk<;>rfl
  ·have h20:c=20:=by omega
   subst h20
   have d:Dn K.b m H2 (n+2) q k ((bif ty.arr then some ([Dw,ty],some (RQ ty))else none).bind λe=>(DY K.fs e.1 s.stk).bind λr=>(rH K.mx e.2 r).map λr=>(⟨s.loc,r⟩:Ce)):=by
    have d:Dn K.b m H2 (n+2) q k ((bif (K.pool.types.getD i CB).arr then some ([Dw,K.pool.types.getD i CB],some (RQ (K.pool.types.getD i CB)))else none).bind λe=>(DY K.fs e.1 s.stk).bind λr=>(rH K.mx e.2 r).map λr=>(⟨s.loc,r⟩:Ce)):=d
    rw[hty]at d;exact d
   simp only[h21,decide_false,go_sem,Nat.reduceAdd,AU (off:=1) g2 (v:=.bool ty.arr) rfl]
   cases ha:ty.arr with
   |false=>
    rw[ha]at d
    simp only[go_sem]
    exact d.no _ _ (.refl ..) rfl
   |true=>
    rw[ha]at d
    simp only[go_sem,BF g2]
    refine ADl λH3 n3 f3=>?_
    have hn3:=f3.le
    have g3:=f3.get g2 (by omega)
    refine ALd (BF g3) (Qx ty) ?_
    have f3':=f3.kw (b:=K.b) (m:=m) (by omega) hbm
    have d:=d.later f3'
    refine Yk (ws:=[ty,Dw]) (hc.kw f3') (h.kp f3) rfl rfl (by omega) (λt ht=>?_) (λH4 n4 f4 e=>?_) λH4 n4 r f4 e hs=>?_
    ·simp only[List.mem_cons,List.not_mem_nil,or_false]at ht
     rcases ht with rfl|rfl
     ·exact htok
     ·exact Rk
    ·simp only[go_sem]
     refine d.no _ _ (f4.kw (by omega) hqm) ?_
     show(DY K.fs [Dw,ty] s.stk).bind _=none
     rw[show DY K.fs [Dw,ty] s.stk=none from e];rfl
    ·have g4:=f4.get g3 (by omega) (by omega) (by omega)
     simp only[go_sem,BF g4]
     refine AMY λH5 n5 f5=>?_
     have hn4:=f4.le
     have f5':=(f4.kw (m:=m) (by omega) hqm).trans (f5.kw (by omega) hbm)
     refine Ue ((hc.kw f3').kw f5') (hs.kp f5) (t:=RQ ty) htok ((d.later f5').cast ?_)
     show(DY K.fs [Dw,ty] s.stk).bind _=_
     rw[show DY K.fs [Dw,ty] s.stk=some r from e];rfl
end
theorem AHI(fs:Tab):∀(a b s:List Ty),DY fs (a++b) s=(DY fs a s).bind (DY fs b)
 |[],_,_=>rfl
 |_::_,_,[]=>rfl
 |w::a,b,t::s=>by
  show(bif fitsT fs t w then DY fs (a++b) s else none)=(bif fitsT fs t w then DY fs a s else none).bind (DY fs b)
  cases fitsT fs t w with
  |true=>exact AHI fs a b s
  |false=>rfl
section
variable{K:Za}{G:AX}{H:Heap}{n m q:Nat}{at' td w:V}{ws:List Ty}{s:Ce}{t:Ty}{k:KV}{p:V}{N:Nat}{Z:LV}
theorem AFa(hc:K.At G H m at' td){i:Nat}(hi:i<K.pool.names.length):∃p,Ad 1 K.v1 (.int .i64 (.ofNat i) 0)=some p/\AV p G H=some (K.cx.cl i).nm.v/\(K.cx.cl i).nm.ok:=by
 obtain⟨p,hp,hld⟩:=hc.pool.e1.at (O4 hi)
 have e:(K.cx.cl (i:Int)).nm=K.pool.names[i]:=by
  show K.pool.names.getD (i:Int).toNat (0,0)=_
  rw[List.getD_eq_getElem?_getD,Int.toNat_natCast,List.getElem?_eq_getElem hi];rfl
 rw[e]
 exact⟨p,hp,Lh hld,hc.pool.o1 _ (List.getElem_mem hi)⟩
theorem Kq.el{b n':Nat}{H':Heap}{v:V}{z:Nat}{LS:ET}(f:Kq b q H n H' n')(hm:m<=n)(hq:m<=q)(hs:Hu H b)(he:El G H v z LS)(hl:Lo v m):El G H' v z LS:=
 ((f.kw hm hq).kb.ke (G:=G) hs).el v z LS hl he
theorem ALQ{c i x:Nat}{u:V}(hc:K.At G H m at' td)(h:JF H m n q s)(hx:T.get H x=some (one (Ins.cells ⟨.ofNat c,.ofNat i⟩)))(hxn:x<n)(hxq:x≠q)(hxb:x≠K.b)(hcode:c=23∨c=24)(hi:i<K.pool.names.length)(hmn:m<=n)
 (d:Dn K.b m H n q k (stepT K.cx s ⟨.ofNat c,.ofNat i⟩)):Dl lfp G (Runs F G) k (.ptr K.kb 0) (.ptr q 0) (.ptr x 0) u (.bool true) H n:=by
 delta Dl
 have hbm:K.b<m:=hc.img.tab.bn
 have hqm:=h.mq
 have hqn:=h.qn
 simp only[go_sem]
 have fin:∀(H':Heap) (n' p y:Nat) (t ty:Ty) (r:List Ty),Kw K.b m H n H' n'->JF H' m n' q ⟨s.loc,r⟩->T.get H' p=some (one t.cells)->T.get H' y=some (one ty.cells)->p<n'->y<n'->t.nm.ok->ty.nm.ok->s.stk=t::r->
  stepT K.cx s ⟨.ofNat c,.ofNat i⟩=(bif t.cls||t.is CQ then(CX K.mx ty r).map λr=>⟨s.loc,r⟩else none)->DF lfp G (Runs F G) k (.ptr K.kb 0) (.ptr q 0) (.ptr p 0) (.bool true) (.ptr y 0) H' n':=by
  intro H' n' p y t ty r f hs gp gy hpn hyn htok htyok e eq
  have d:=(d.later f).cast eq
  delta DF
  have hn:=f.le
  simp only[go_sem,BF gp]
  refine ADP htok λH3 n3 f3=>?_
  have hn3:=f3.le
  have gp:=f3.get gp hpn
  have gy:=f3.get gy hyn
  refine ALg (t:=t) (BF gp) (f:=λH' f=>BF (f.get gp (by omega))) λH4 n4 f4=>?_
  have gy:=f4.get gy (by omega)
  have hn4:=f4.le
  have f34:=f3.trans f4
  have fk:=f34.kw (b:=K.b) (m:=m) (by omega) hbm
  cases hb:t.cls||t.is CQ with
  |false=>
   rw[hb]at d
   simp only[go_sem]
   exact d.no _ _ fk rfl
  |true=>
   rw[hb]at d
   simp only[go_sem,BF gy]
   exact Ue ((hc.kw f).kw fk) (hs.kp f34) htyok (d.later fk)
 refine iZ hbm h (λe H2 p f2 hp g2 _=>?_) λt r e H2 p f2 hp g2 hs=>?_
 ·have f2':=f2.kw (m:=m) (by omega) hqm
  have hno:stepT K.cx s ⟨.ofNat c,.ofNat i⟩=none:=by
   rcases hcode with rfl|rfl
   ·show(match s.stk with|[]=>none|t::k=>_)=none;rw[e]
   ·show(match s.stk with|[]=>none|t::k=>_)=none;rw[e]
  have hn3p:p+1<=p+1:=Nat.le_refl _
  refine AH4 λH3 n3 f3=>?_
  have hn3:=f3.le
  have g3x:=f2.get hx hxn hxb hxq
  have g3x:=f3.get g3x (by omega)
  have g3p:=f3.get g2 (by omega)
  show BZ 2 (.ptr n3 0) (.agg FQ.cells) _ _ _
  refine Xa rfl rfl (by omega) λH4 f4 g4=>?_
  have g4x:=f4.get g3x (by omega)
  have g4p:=f4.get g3p (by omega)
  have fk:=f2'.trans ((f3.trans f4).kw (b:=K.b) (m:=m) (by omega) hbm)
  simp only[go_sem,Nat.reduceAdd,AU (off:=0) g4x (v:=.int .i64 (.ofNat c) 0) rfl,dO]
  by_cases h23:c=23
  ·have hc4:=hc.kw fk
   obtain⟨pn,hpn,hld,hok⟩:=AFa hc4 hi
   have g4c:AV (.ptr x 1) G H4=some (.int .i64 (.ofNat i) 0):=AU g4x rfl
   simp only[h23,decide_true,go_sem,Nat.reduceAdd,AU (off:=6) hc4.box (v:=K.v1) rfl,g4c,hpn,hld]
   refine wF λH5 n5 f5=>?_
   have hn5:=f5.le
   show BZ 2 (.ptr n3 0) (.agg (K.cx.cl i).cells) _ _ _
   refine IG (f5.get g4 (by omega)) rfl rfl (by omega) λH6 g6 s6=>?_
   have fk6:=(fk.trans (f5.kw (b:=K.b) (m:=m) (by omega) hbm)).trans (Kw.of (b:=K.b) (m:=m) (H':=H6) (n:=n5) (n':=n5) hbm (Nat.le_refl _) λid hid=>s6 id (by omega))
   have g6p:=(s6 p (by omega)).trans (f5.get g4p (by omega))
   delta DF
   simp only[go_sem]
   exact d.no _ _ fk6 hno
  ·have h24:c=24:=by omega
   simp only[h23,decide_false,go_sem]
   delta DF
   simp only[go_sem]
   exact d.no _ _ fk hno
 ·have f2':=f2.kw (m:=m) (by omega) hqm
  have hn3p:p+1<=p+1:=Nat.le_refl _
  refine AH4 λH3 n3 f3=>?_
  have hn3:=f3.le
  have g3x:=f2.get hx hxn hxb hxq
  have g3x:=f3.get g3x (by omega)
  have g3p:=f3.get g2 (by omega)
  show BZ 2 (.ptr n3 0) (.agg FQ.cells) _ _ _
  refine Xa rfl rfl (by omega) λH4 f4 g4=>?_
  have g4x:=f4.get g3x (by omega)
  have g4p:=f4.get g3p (by omega)
  have fk:=f2'.trans ((f3.trans f4).kw (b:=K.b) (m:=m) (by omega) hbm)
  simp only[go_sem,Nat.reduceAdd,AU (off:=0) g4x (v:=.int .i64 (.ofNat c) 0) rfl,dO]
  by_cases h23:c=23
  ·have hc4:=hc.kw fk
   obtain⟨pn,hpn,hld,hok⟩:=AFa hc4 hi
   have g4c:AV (.ptr x 1) G H4=some (.int .i64 (.ofNat i) 0):=AU g4x rfl
   simp only[h23,decide_true,go_sem,Nat.reduceAdd,AU (off:=6) hc4.box (v:=K.v1) rfl,g4c,hpn,hld]
   refine wF λH5 n5 f5=>?_
   have hn5:=f5.le
   show BZ 2 (.ptr n3 0) (.agg (K.cx.cl i).cells) _ _ _
   refine IG (f5.get g4 (by omega)) rfl rfl (by omega) λH6 g6 s6=>?_
   have fk6:=(fk.trans (f5.kw (b:=K.b) (m:=m) (by omega) hbm)).trans (Kw.of (b:=K.b) (m:=m) (H':=H6) (n:=n5) (n':=n5) hbm (Nat.le_refl _) λid hid=>s6 id (by omega))
   have g6p:=(s6 p (by omega)).trans (f5.get g4p (by omega))
   refine fin _ _ p n3 t (K.cx.cl i) r fk6 (hs.mono (by omega) (λid _ h2=>by rw[s6 _ (by omega),f5.same _ (by omega),f4.same _ (by omega),f3.same _ (by omega)])) g6p g6 (by omega) (by omega) (h.os t (by rw[e];exact List.mem_cons_self ..)) hok e ?_
   subst h23
   show(match s.stk with|[]=>none|t::k=>bif t.cls||t.is CQ then(CX K.mx (K.cx.cl i) k).map λk=>(⟨s.loc,k⟩:Ce)else none)=_
   rw[e]
  ·have h24:c=24:=by omega
   simp only[h23,decide_false,go_sem]
   refine fin _ _ p n3 t FQ r fk (hs.mono (by omega) (λid _ h2=>by rw[f4.same _ (by omega),f3.same _ (by omega)])) g4p g4 (by omega) (by omega) (h.os t (by rw[e];exact List.mem_cons_self ..)) Xi e ?_
   subst h24
   show(match s.stk with|[]=>none|t::k=>bif t.cls||t.is CQ then(CX K.mx FQ k).map λk=>(⟨s.loc,k⟩:Ce)else none)=_
   rw[e]
end
section
variable{K:Za}{G:AX}{H:Heap}{n m q:Nat}{at' td w:V}{ws:List Ty}{s:Ce}{t:Ty}{k:KV}{p:V}{N:Nat}{Z:LV}
theorem AV5(a b:Bool):Cc (.one .bool) true (.bool a) (.bool b)=some (.bool (!(a==b))):=by cases a<;>cases b<;>rfl
theorem AFy(hc:K.At G H m at' td){i:Nat}(hi:i<K.pool.fields.length):∃p,Ad 4 K.v3 (.int .i64 (.ofNat i) 0)=some p/\Ae 4 p G H=some (.agg (K.cx.fl i).cells)/\(K.cx.fl i).f.ty.nm.ok/\(K.cx.fl i).own.ok:=by
 obtain⟨p,hp,hld⟩:=hc.pool.e3.at (i:=i) (c:=K.pool.fields[i].cells) (by simp[hi])
 have e:K.cx.fl (i:Int)=K.pool.fields[i]:=by
  show K.pool.fields.getD (i:Int).toNat fZ=_
  rw[List.getD_eq_getElem?_getD,Int.toNat_natCast,List.getElem?_eq_getElem hi];rfl
 rw[e]
 exact⟨p,hp,Bq hld,(hc.pool.o3 _ (List.getElem_mem hi)).2⟩
theorem AON(hc:K.At G H m at' td){i:Nat}(hi:i<K.pool.CV.length):∃p w,Ad 6 K.v4 (.int .i64 (.ofNat i) 0)=some p/\Ae 6 p G H=some (.agg ((K.cx.me i).cells w))/\KI G H m w (K.cx.me i).m.ps/\(K.cx.me i).m.ret.nm.ok/\(K.cx.me i).own.ok:=by
 have hw:i<K.ws.length:=by rw[hc.pool.yF];exact hi
 obtain⟨p,hp,hld⟩:=hc.pool.e4.at (i:=i) (c:=K.pool.CV[i].cells K.ws[i]) (by simp[List.getElem?_zipWith,hi,hw])
 have e:K.cx.me (i:Int)=K.pool.CV[i]:=by
  show K.pool.CV.getD (i:Int).toNat mZ=_
  rw[List.getD_eq_getElem?_getD,Int.toNat_natCast,List.getElem?_eq_getElem hi];rfl
 rw[e]
 exact⟨p,K.ws[i],hp,Bq hld,hc.pool.at4 i _ _ (List.getElem?_eq_getElem hi) (List.getElem?_eq_getElem hw),(hc.pool.o4 _ (List.getElem_mem hi)).2⟩
theorem AMM{c i x:Nat}(hc:K.At G H m at' td)(h:JF H m n q s)(hx:T.get H x=some (one (Ins.cells ⟨.ofNat c,.ofNat i⟩)))(hxn:x<n)(hxq:x≠q)(hxb:x≠K.b)(hcode:c=25∨c=26)(hi:i<K.pool.CV.length)(hmn:m<=n)
 (d:Dn K.b m H n q k (stepT K.cx s ⟨.ofNat c,.ofNat i⟩)):DX lfp G (Runs F G) k (.ptr K.kb 0) (.ptr q 0) (.ptr x 0) (.bool true) H n:=by
 delta DX
 have hbm:K.b<m:=hc.img.tab.bn
 have hqm:=h.mq
 have hqn:=h.qn
 obtain⟨pm,w,hpm,hld,hw,hrok,hook⟩:=AON hc hi
 have gxc:AV (.ptr x 1) G H=some (.int .i64 (.ofNat i) 0):=AU hx rfl
 simp only[go_sem,Nat.reduceAdd,AU (off:=9) hc.box (v:=K.v4) rfl,gxc,hpm,hld]
 have dd:stepT K.cx s ⟨.ofNat c,.ofNat i⟩=bif !((K.cx.me i).m.st==decide (c=26))then none else(DY K.fs (K.cx.me i).m.ps.reverse s.stk).bind λr=>
  (bif decide (c=25)then DY K.fs [⟨(K.cx.me i).own,false⟩] r else some r).bind λr=>(CX K.mx (K.cx.me i).m.ret r).map λr=>(⟨s.loc,r⟩:Ce):=by
  rcases hcode with rfl|rfl
  ·show(Option.bind (bif (K.cx.me i).m.st then none else some ((K.cx.me i).m.ps.reverse++[⟨(K.cx.me i).own,false⟩],some (K.cx.me i).m.ret)) _)=_
   cases(K.cx.me i).m.st with
   |true=>rfl
   |false=>
    show(DY K.fs ((K.cx.me i).m.ps.reverse++[⟨(K.cx.me i).own,false⟩]) s.stk).bind _=(DY K.fs (K.cx.me i).m.ps.reverse s.stk).bind _
    rw[AHI]
    cases DY K.fs (K.cx.me i).m.ps.reverse s.stk<;>rfl
  ·show(Option.bind (bif (K.cx.me i).m.st then some ((K.cx.me i).m.ps.reverse,some (K.cx.me i).m.ret)else none) _)=_
   cases(K.cx.me i).m.st with
   |false=>rfl
   |true=>rfl
 rw[dd]at d
 generalize K.cx.me (i:Int)=mm at*
 show BZ 6 (.ptr n 0) (.agg (mm.cells w)) _ _ _
 refine Xa rfl rfl (by omega) λH2 f2 g2=>?_
 have gx2:=f2.get hx hxn
 have f2':=f2.kw (b:=K.b) (m:=m) (by omega) hbm
 have hseen:=hc.img.tab.seen
 have h:=h.kp f2
 have hc:=hc.kw f2'
 have d:=d.later f2'
 simp only[go_sem,Nat.reduceAdd,AU (off:=1) g2 (v:=.bool mm.m.st) rfl,AU (off:=0) gx2 (v:=.int .i64 (.ofNat c) 0) rfl,dO,AV5]
 cases hst:mm.m.st==decide (c=26)with
 |false=>
  rw[hst]at d
  simp only[Bool.not_false,go_sem]
  exact d.no _ _ (.refl ..) rfl
 |true=>
  rw[hst]at d
  simp only[Bool.not_true,go_sem,Nat.reduceAdd,AU (off:=2) g2 (v:=w) rfl]
  have hw2:=hw.ke ((f2'.kb).ke (G:=G) hseen)
  refine AJr (ws:=mm.m.ps) hc h (λH' n' f=>f.el (m:=m) (by omega) hqm hc.img.tab.seen hw2.el hw2.lo) hw.lt hw.ok (λH3 n3 f3 e=>?_) λH3 n3 r f3 e hs=>?_
  ·simp only[go_sem,Bl,Bool.not_false]
   exact d.no _ _ (f3.kw (by omega) hqm) (by rw[show DY K.fs mm.m.ps.reverse s.stk=none from e];rfl)
  ·have hn3:=f3.le
   have gx3:=f3.get gx2 (by omega) (by omega) (by omega)
   have g3:=f3.get g2 (by omega) (by omega) (by omega)
   have f3':=f3.kw (m:=m) (by omega) hqm
   have hc:=hc.kw f3'
   have d:=(d.later f3').cast (o':=(bif decide (c=25)then DY K.fs [⟨mm.own,false⟩] r else some r).bind λr=>(CX K.mx mm.m.ret r).map λr=>(⟨s.loc,r⟩:Ce)) (by rw[show DY K.fs mm.m.ps.reverse s.stk=some r from e];rfl)
   have gr:∀{H':Heap},T.get H' n=some (one (mm.cells w))->Ae 2 (.ptr n 3) G H'=some mm.m.ret.v:=λg=>by
    rw[G7 g (by omega) (by show 3+2<=6;omega)];rfl
   simp only[Bl,Bool.not_true,go_sem,Nat.reduceAdd,AU (off:=0) gx3 (v:=.int .i64 (.ofNat c) 0) rfl,dO]
   by_cases h25:c=25
   ·simp only[h25,decide_true,go_sem,Nat.reduceAdd,AU (off:=5) g3 (v:=mm.own.v) rfl]
    rw[decide_eq_true h25]at d
    refine wF λH4 n4 f4=>?_
    have hn4:=f4.le
    have f4':=f4.kw (b:=K.b) (m:=m) (by omega) hbm
    have g4:=f4.get g3 (by omega)
    have d:=d.later f4'
    refine Yk (ws:=[⟨mm.own,false⟩]) (hc.kw f4') (hs.kp f4) rfl rfl (by omega) (λt ht=>?_) (λH5 n5 f5 e=>?_) λH5 n5 r2 f5 e hs=>?_
    ·rw[List.mem_singleton.1 ht];exact hook
    ·exact d.no _ _ (f5.kw (by omega) hqm) (by show(DY K.fs [⟨mm.own,false⟩] r).bind _=none;rw[show DY K.fs [⟨mm.own,false⟩] r=none from e];rfl)
    ·have hn5:=f5.le
     have f5':=f5.kw (m:=m) (by omega) hqm
     simp only[Bl,Bool.not_true,go_sem,gr (f5.get g4 (by omega) (by omega) (by omega))]
     exact Ue ((hc.kw f4').kw f5') hs hrok ((d.later f5').cast (by show(DY K.fs [⟨mm.own,false⟩] r).bind _=_;rw[show DY K.fs [⟨mm.own,false⟩] r=some r2 from e];rfl))
   ·simp only[h25,decide_false,go_sem,gr g3]
    rw[decide_eq_false h25]at d
    exact Ue hc hs hrok d
end
section
variable{K:Za}{G:AX}{H:Heap}{n m q:Nat}{at' td w:V}{ws:List Ty}{s:Ce}{t:Ty}{k:KV}{p:V}{N:Nat}{Z:LV}
theorem AAs(o:Option (List Ty))(f:List Ty->Ce):(o.bind λr=>some (f r))=o.map f:=by cases o<;>rfl
theorem AMf(hG:QG G){c i:Nat}(hc:K.At G H m at' td)(h:JF H m n q s)(hmn:m<=n)(hin:ql K.pool s.loc.length c i)(hcode:16<=c/\c<=26)
 (d:Dn K.b m H n q k (stepT K.cx s ⟨.ofNat c,.ofNat i⟩)):Runs F G U9 [.ptr K.kb 0,.ptr q 0,.agg (Ins.cells ⟨.ofNat c,.ofNat i⟩)] H n k:=by
 refine BL (s:=ar3 (GZ lfp G)) NC (by obtain⟨h,o⟩:=Td BK G;rw[NC]at h;cases h;exact o) ?_
 show GZ lfp G (Runs F G) (.ptr K.kb 0) (.ptr q 0) (.agg (Ins.cells ⟨.ofNat c,.ofNat i⟩)) H n k
 delta GZ
 have hbm:K.b<m:=hc.img.tab.bn
 have hqm:=h.mq
 have hqn:=h.qn
 refine Ez λH1 f1 g1=>?_
 have h:=h.kp f1
 have f1':=f1.kw (b:=K.b) (m:=m) (by omega) hbm
 have hc:=hc.kw f1'
 have d:=d.later f1'
 have g1c:AV (.ptr n 1) G H1=some (.int .i64 (.ofNat i) 0):=AU g1 rfl
 simp only[go_sem,Nat.reduceAdd,AU (off:=0) g1 (v:=.int .i64 (.ofNat c) 0) rfl,dO]
 by_cases h18:c=18
 ·subst h18
  obtain⟨pn,hpn,hld,hok⟩:=AFa hc (hin.nm (by omega))
  simp only[decide_true,go_sem,Nat.reduceAdd,AU (off:=6) hc.box (v:=K.v1) rfl,g1c,hpn,hld]
  refine wF λH2 n2 f2=>?_
  have f2':=f2.kw (b:=K.b) (m:=m) (by omega) hbm
  exact Ue (t:=K.cx.cl i) (hc.kw f2') (h.kp f2) hok (d.later f2')
 simp only[h18,decide_false,go_sem]
 by_cases h19:c=19
 ·subst h19
  have hi':=hin.ty (by omega)
  obtain⟨pt,hpt,hld0⟩:=hc.pool.t2.el.at (UW hi')
  have hty:K.pool.types.getD i CB=K.pool.types[i]:=by rw[List.getD_eq_getElem?_getD,List.getElem?_eq_getElem hi'];rfl
  have htok:=hc.pool.t2.ok _ (List.getElem_mem hi')
  have d:Dn K.b m H1 (n+1) q k ((bif (K.pool.types.getD i CB).arr then some ([Dw],some (K.pool.types.getD i CB))else none).bind λe=>(DY K.fs e.1 s.stk).bind λr=>(rH K.mx e.2 r).map λr=>(⟨s.loc,r⟩:Ce)):=d
  rw[hty]at d
  obtain⟨p1,hp1,hld1⟩:=Xe hG hld0 (by rfl) (o:=1) (x:=.bool K.pool.types[i].arr) rfl
  simp only[decide_true,go_sem,Nat.reduceAdd,AU (off:=7) hc.box (v:=K.v2) rfl,g1c,hpt,hp1,hld1]
  cases ha:K.pool.types[i].arr with
  |false=>
   rw[ha]at d
   simp only[go_sem]
   exact d.no _ _ (.refl ..) rfl
  |true=>
   rw[ha]at d
   simp only[go_sem]
   refine ADl λH2 n2 f2=>?_
   have hn2:=f2.le
   have f2':=f2.kw (b:=K.b) (m:=m) (by omega) hbm
   have hc2:=hc.kw f2'
   have g2:=f2.get g1 (by omega)
   have d:=d.later f2'
   refine Yk (N:=1) (ws:=[Dw]) hc2 (h.kp f2) rfl rfl (by omega) (λt ht=>?_) (λH3 n3 f3 e=>?_) λH3 n3 r f3 e hs=>?_
   ·rw[List.mem_singleton.1 ht];exact Rk
   ·simp only[go_sem]
    refine d.no _ _ (f3.kw (by omega) hqm) ?_
    show(DY K.fs [Dw] s.stk).bind _=none
    rw[show DY K.fs [Dw] s.stk=none from e];rfl
   ·have f3':=f3.kw (m:=m) (by omega) hqm
    have hc3:=hc2.kw f3'
    have g3:=f3.get g2 (by omega) (by omega) (by omega)
    have g3c:AV (.ptr n 1) G H3=some (.int .i64 (.ofNat i) 0):=AU g3 rfl
    obtain⟨pt3,hpt3,hld3⟩:=hc3.pool.t2.el.at (UW hi')
    simp only[go_sem,Nat.reduceAdd,AU (off:=7) hc3.box (v:=K.v2) rfl,g3c,hpt3,Bq hld3]
    refine Ue hc3 hs htok ((d.later f3').cast ?_)
    show(DY K.fs [Dw] s.stk).bind _=_
    rw[show DY K.fs [Dw] s.stk=some r from e];rfl
 simp only[h19,decide_false,go_sem]
 by_cases h23:c=23
 ·simp only[h23,decide_true,go_sem]
  subst h23
  exact ALQ hc h g1 (by omega) (by omega) (by omega) (by omega) (hin.nm (by omega)) (by omega) d
 simp only[h23,decide_false,go_sem]
 by_cases h24:c=24
 ·simp only[h24,decide_true]
  subst h24
  exact ALQ hc h g1 (by omega) (by omega) (by omega) (by omega) (hin.nm (by omega)) (by omega) d
 simp only[h24,decide_false]
 delta Dl
 simp only[go_sem,dO]
 by_cases h16:c=16
 ·subst h16
  obtain⟨pf,hpf,hld,htok,hook⟩:=AFy hc (hin.fl (by omega))
  simp only[decide_true,go_sem,Nat.reduceAdd,AU (off:=8) hc.box (v:=K.v3) rfl,g1c,hpf,hld]
  have d:Dn K.b m H1 (n+1) q k ((DY K.fs [⟨(K.cx.fl i).own,false⟩] s.stk).bind λr=>(CX K.mx (K.cx.fl i).f.ty r).map λr=>(⟨s.loc,r⟩:Ce)):=d
  generalize K.cx.fl (i:Int)=ff at*
  show BZ 4 (.ptr (n+1) 0) (.agg ff.cells) _ _ _
  refine Xa rfl rfl (by omega) λH2 f2 g2=>?_
  simp only[go_sem,Nat.reduceAdd,AU (off:=3) g2 (v:=ff.own.v) rfl]
  refine wF λH3 n3 f3=>?_
  have hn3:=f3.le
  have g3:=f3.get g2 (by omega)
  have gr:∀{H':Heap},T.get H' (n+1)=some (one ff.cells)->Ae 2 (.ptr (n+1) 1) G H'=some ff.f.ty.v:=λg=>by
   rw[G7 g (by omega) (by show 1+2<=4;omega)];rfl
  have f3':=(f2.trans f3).kw (b:=K.b) (m:=m) (by omega) hbm
  have d:=d.later f3'
  have hc3:=hc.kw f3'
  refine Yk (N:=1) (ws:=[⟨ff.own,false⟩]) hc3 (h.kp (f2.trans f3)) rfl rfl (by omega) (λt ht=>by rw[List.mem_singleton.1 ht];exact hook) (λH4 n4 f4 e=>?_) λH4 n4 r f4 e hs=>?_
  ·simp only[go_sem]
   refine d.no _ _ (f4.kw (by omega) hqm) ?_
   rw[show DY K.fs [⟨ff.own,false⟩] s.stk=none from e];rfl
  ·have f4':=f4.kw (m:=m) (by omega) hqm
   simp only[go_sem,Nat.reduceAdd,gr (f4.get g3 (by omega) (by omega) (by omega))]
   exact Ue (hc3.kw f4') hs htok ((d.later f4').cast (by rw[show DY K.fs [⟨ff.own,false⟩] s.stk=some r from e];rfl))
 simp only[h16,decide_false,go_sem]
 by_cases h17:c=17
 ·subst h17
  obtain⟨pf,hpf,hld,htok,hook⟩:=AFy hc (hin.fl (by omega))
  simp only[decide_true,go_sem,Nat.reduceAdd,AU (off:=8) hc.box (v:=K.v3) rfl,g1c,hpf,hld]
  have d:Dn K.b m H1 (n+1) q k ((DY K.fs [(K.cx.fl i).f.ty,⟨(K.cx.fl i).own,false⟩] s.stk).bind λr=>some (⟨s.loc,r⟩:Ce)):=d
  rw[AAs]at d
  generalize K.cx.fl (i:Int)=ff at*
  show BZ 4 (.ptr (n+1) 0) (.agg ff.cells) _ _ _
  refine Xa rfl rfl (by omega) λH2 f2 g2=>?_
  have gr:∀{H':Heap},T.get H' (n+1)=some (one ff.cells)->Ae 2 (.ptr (n+1) 1) G H'=some ff.f.ty.v:=λg=>by
   rw[G7 g (by omega) (by show 1+2<=4;omega)];rfl
  simp only[go_sem,Nat.reduceAdd,AU (off:=3) g2 (v:=ff.own.v) rfl,gr g2]
  refine wF λH3 n3 f3=>?_
  have hn3:=f3.le
  have g3:=f3.get g2 (by omega)
  have f3':=(f2.trans f3).kw (b:=K.b) (m:=m) (by omega) hbm
  rw[gr g3,AB,Qx,WG]
  refine oO (ws:=[⟨ff.own,false⟩,ff.f.ty]) (hc.kw f3') (h.kp (f2.trans f3)) rfl rfl (by omega) (λt ht=>?_) (d.later f3')
  simp only[List.mem_cons,List.not_mem_nil,or_false]at ht
  rcases ht with rfl|rfl
  ·exact hook
  ·exact htok
 simp only[h17,decide_false,go_sem]
 by_cases h25:c=25
 ·simp only[h25,decide_true,go_sem]
  subst h25
  exact AMM hc h g1 (by omega) (by omega) (by omega) (by omega) (hin.me (by omega)) (by omega) d
 simp only[h25,decide_false,go_sem]
 by_cases h26:c=26
 ·simp only[h26,decide_true]
  subst h26
  exact AMM hc h g1 (by omega) (by omega) (by omega) (by omega) (hin.me (by omega)) (by omega) d
 simp only[h26,decide_false]
 delta DX
 simp only[go_sem,Cb (m:=2) g1 (by omega) rfl]
 exact AOA hc h (by omega) (λ_=>hin.ty (by omega)) d
end
section
variable{K:Za}{G:AX}{H:Heap}{n m q:Nat}{at' td w:V}{ws:List Ty}{s:Ce}{t:Ty}{k:KV}{p:V}{N:Nat}{Z:LV}
theorem ANe{c i x y z:Nat}(hc:K.At G H m at' td)(h:JF H m n q s)(hx:T.get H x=some (one (Ins.cells ⟨.ofNat c,.ofNat i⟩)))(hxn:x<n)(hxq:x≠q)(hxb:x≠K.b)(hz:T.get H z=some (one FQ.cells))(hzn:z<n)(hzq:z≠q)(hzb:z≠K.b)
 (hcode:c=12∨c=13) (hmn:m<=n)
 (d:Dn K.b m H n q k (stepT K.cx s ⟨.ofNat c,.ofNat i⟩)):DV lfp G (Runs F G) k (.ptr K.kb 0) (.ptr q 0) (.ptr x 0) (.ptr y 0) (.ptr z 0) (.int .i64 (.ofNat c) 0) (.bool true) H n:=by
 delta DV
 have hbm:K.b<m:=hc.img.tab.bn
 have hqm:=h.mq
 have hqn:=h.qn
 simp only[go_sem]
 refine iZ hbm h (λe H2 p f2 hp g2 hs=>?_) λa r e H2 p f2 hp g2 hs=>?_
 ·have f2':=f2.kw (m:=m) (by omega) hqm
  have hno:stepT K.cx s ⟨.ofNat c,.ofNat i⟩=none:=by
   rcases hcode with rfl|rfl
   ·show(match s.stk with|a::b::k=>_|_=>none)=none;rw[e]
   ·show(match s.stk with|a::b::k=>_|_=>none)=none;rw[e]
  refine iZ hbm (hs.mono (H':=H2) (Nat.le_succ p) λ_ _ _=>rfl) (λe3 H3 p3 f3 hp3 g3 hs3=>?_) λa r e3 H3 p3 f3 hp3 g3 hs3=>?_
  ·simp only[go_sem]
   exact d.no _ _ (f2'.trans (f3.kw (by omega) hqm)) hno
  ·rw[e]at e3;cases e3
 ·have f2':=f2.kw (m:=m) (by omega) hqm
  have haok:a.nm.ok:=h.os a (by rw[e];exact List.mem_cons_self ..)
  refine iZ hbm (hs.mono (H':=H2) (Nat.le_succ p) λ_ _ _=>rfl) (λe3 H3 p3 f3 hp3 g3 hs3=>?_) λb r3 e3 H3 p3 f3 hp3 g3 hs3=>?_
  ·have e3:r=[]:=e3
   subst e3
   have hno:stepT K.cx s ⟨.ofNat c,.ofNat i⟩=none:=by
    rcases hcode with rfl|rfl
    ·show(match s.stk with|a::b::k=>_|_=>none)=none;rw[e]
    ·show(match s.stk with|a::b::k=>_|_=>none)=none;rw[e]
   simp only[go_sem]
   exact d.no _ _ (f2'.trans (f3.kw (by omega) hqm)) hno
  ·have e3:r=b::r3:=e3
   subst e3
   have hbok:b.nm.ok:=h.os b (by rw[e];exact List.mem_cons_of_mem _ (List.mem_cons_self ..))
   have f3':=f2'.trans (f3.kw (m:=m) (by omega) hqm)
   have hc:=hc.kw f3'
   have gx:=f3.get (f2.get hx (by omega) (by omega) (by omega)) (by omega) (by omega) (by omega)
   have gz:=f3.get (f2.get hz (by omega) (by omega) (by omega)) (by omega) (by omega) (by omega)
   have ga:=f3.get g2 (by omega) (by omega) (by omega)
   have hs3:=hs3.mono (H':=H3) (Nat.le_succ p3) λ_ _ _=>rfl
   have d:=d.later f3'
   rcases hcode with rfl|rfl
   ·have d:=d.cast (o':=bif a.is b&& !a.obj then(CX K.mx FQ r3).map λk=>⟨s.loc,k⟩else none) (by
     show(match s.stk with|a::b::k=>bif a.is b&& !a.obj then(CX K.mx FQ k).map λk=>(⟨s.loc,k⟩:Ce)else none|_=>none)=_
     rw[e])
    simp only[go_sem,Nat.reduceAdd,AU (off:=0) gx (v:=.int .i64 (.ofNat 12) 0) rfl,dO,decide_true,BF ga,BF g3,nD]
    have gx1:∀{H':Heap},T.get H' x=some (one (Ins.cells ⟨.ofNat 12,.ofNat i⟩))->AV (.ptr x 0) G H'=some (.int .i64 (.ofNat 12) 0):=λg=>AU g rfl
    cases h1:a.is b with
    |false=>
     rw[h1]at d
     simp only[go_sem,gx1 gx,dO,Nat.reduceEqDiff,decide_false]
     exact d.no _ _ (.refl ..) rfl
    |true=>
     rw[h1]at d
     simp only[go_sem,BF ga]
     refine eY haok λH4 n4 f4=>?_
     have hn4:=f4.le
     have f4':=f4.kw (b:=K.b) (m:=m) (by omega) hbm
     have d:=d.later f4'
     cases h2:a.obj with
     |true=>
      rw[h2]at d
      simp only[go_sem,Bl,Bool.not_true,Nat.reduceAdd,gx1 (f4.get gx (by omega)),dO,Nat.reduceEqDiff,decide_false]
      exact d.no _ _ (.refl ..) rfl
     |false=>
      rw[h2]at d
      simp only[go_sem,Bl,Bool.not_false,BF (f4.get gz (by omega))]
      exact Ue (hc.kw f4') (hs3.kp f4) Xi d
   ·have d:=d.cast (o':=bif a.obj&&b.obj then(CX K.mx FQ r3).map λk=>⟨s.loc,k⟩else none) (by
     show(match s.stk with|a::b::k=>bif a.obj&&b.obj then(CX K.mx FQ k).map λk=>(⟨s.loc,k⟩:Ce)else none|_=>none)=_
     rw[e])
    simp only[go_sem,Nat.reduceAdd,AU (off:=0) gx (v:=.int .i64 (.ofNat 13) 0) rfl,dO,BF ga,BF g3,nD,decide_false,decide_true]
    cases h1:a.obj with
    |false=>
     rw[h1]at d
     refine eY haok λH4 n4 f4=>?_
     have f4':=f4.kw (b:=K.b) (m:=m) (by omega) hbm
     rw[h1]
     simp only[go_sem]
     exact d.no _ _ f4' rfl
    |true=>
     rw[h1]at d
     refine eY haok λH4 n4 f4=>?_
     have hn4:=f4.le
     have f4':=f4.kw (b:=K.b) (m:=m) (by omega) hbm
     have d:=d.later f4'
     rw[h1]
     simp only[go_sem,BF (f4.get g3 (by omega))]
     refine eY hbok λH5 n5 f5=>?_
     have hn5:=f5.le
     have f5':=f5.kw (b:=K.b) (m:=m) (by omega) hbm
     have d:=d.later f5'
     cases h2:b.obj with
     |false=>
      rw[h2]at d
      simp only[go_sem]
      exact d.no _ _ (.refl ..) rfl
     |true=>
      rw[h2]at d
      simp only[go_sem,BF (f5.get (f4.get gz (by omega)) (by omega))]
      exact Ue ((hc.kw f4').kw f5') ((hs3.kp f4).kp f5) Xi d
end
section
variable{K:Za}{G:AX}{H:Heap}{n m q:Nat}{at' td w:V}{ws:List Ty}{s:Ce}{t:Ty}{k:KV}{p:V}{N:Nat}{Z:LV}
theorem JF.ANq{q':IntKind}{i:Nat}{P:KV}(h:JF H m n q s)(hi:i<s.loc.length)(ht:t.nm.ok){vl vs:V}(g:T.get H q=some (one [vl,vs]))
 (hk:∀H',(∀id,id<m->T.get H' id=T.get H id)->JF H' m n q ⟨s.loc.set i t,s.stk⟩->P .undef H' n):AL (Ad 2 vl (.int q' (.ofNat i) 0)) λp=>BZ 2 p t.v H n P:=by
 obtain⟨vl2,vs2,g2,hl,hs,hd⟩:=h.is
 rw[g]at g2
 cases g2
 refine hl.put (w:=t.v) (by omega) (by rw[F5];exact hi) rfl rfl λH' hl' s'=>?_
 have e:(tys s.loc).set i (Aq t.v)=tys (s.loc.set i t):=by rw[show Aq t.v=t.cells from rfl];exact(List.map_set ..).symm
 rw[e]at hl'
 refine hk H' (λid hid=>s' id λe=>by have:=(hl.own e).1;omega) ⟨h.mq,h.qn,⟨vl,vs,(s' q λe=>(hl.own e).2.2 rfl).trans g,hl',?_,hd⟩,?_,h.os,?_,h.bs⟩
 ·exact hs.AHL (λid hid=>hs.own hid) λid hid=>s' id λe=>hd id e hid
 ·intro x hx
  rcases List.mem_or_eq_of_mem_set hx with hx|rfl
  ·exact h.ol x hx
  ·exact ht
 ·show(s.loc.set i t).length<=100000
  rw[List.length_set];exact h.bl
structure AEl(H:Heap)(n q b x y z c i:Nat):Prop where
 gx:T.get H x=some (one (Ins.cells ⟨.ofNat c,.ofNat i⟩))
 gy:T.get H y=some (one Dw.cells)
 gz:T.get H z=some (one FQ.cells)
 xn:x<n
 yn:y<n
 zn:z<n
 xq:x≠q
 yq:y≠q
 zq:z≠q
 xb:x≠b
 yb:y≠b
 zb:z≠b
theorem AEl.kq{b x y z c i n':Nat}{H':Heap}(h:AEl H n q b x y z c i)(f:Kq b q H n H' n'):AEl H' n' q b x y z c i:=
 ⟨f.get h.gx h.xn h.xb h.xq,f.get h.gy h.yn h.yb h.yq,f.get h.gz h.zn h.zb h.zq,Nat.lt_of_lt_of_le h.xn f.le,Nat.lt_of_lt_of_le h.yn f.le,Nat.lt_of_lt_of_le h.zn f.le,h.xq,h.yq,h.zq,h.xb,h.yb,h.zb⟩
theorem ABx{u:Ty}(hu:u.nm.ok):∀t∈[u],t.nm.ok:=λt ht=>by rw[List.mem_singleton.1 ht];exact hu
theorem ANK{u v:Ty}(hu:u.nm.ok)(hv:v.nm.ok):∀t∈[u,v],t.nm.ok:=λt ht=>by
 simp only[List.mem_cons,List.not_mem_nil,or_false]at ht
 rcases ht with rfl|rfl
 ·exact hu
 ·exact hv
theorem ANs(hG:QG G){c i x y z:Nat}(hc:K.At G H m at' td)(h:JF H m n q s)(hx:AEl H n q K.b x y z c i)(hmn:m<=n)(hin:ql K.pool s.loc.length c i)(hcode:16<=c/\c<=31)
 (d:Dn K.b m H n q k (stepT K.cx s ⟨.ofNat c,.ofNat i⟩)):DV lfp G (Runs F G) k (.ptr K.kb 0) (.ptr q 0) (.ptr x 0) (.ptr y 0) (.ptr z 0) (.int .i64 (.ofNat c) 0) (.bool false) H n:=by
 delta DV
 have hbm:K.b<m:=hc.img.tab.bn
 have hqm:=h.mq
 have hqn:=h.qn
 simp only[go_sem,dO]
 by_cases h30:c=30
 ·subst h30
  simp only[decide_true,go_sem,BF hx.gy]
  refine oO (ws:=[Dw]) hc h rfl rfl (by omega) (ABx Rk) (d.cast ?_)
  show(DY K.fs [Dw] s.stk).bind (λr=>some (⟨s.loc,r⟩:Ce))=_
  rw[AAs];rfl
 simp only[h30,decide_false,go_sem]
 by_cases h28:c=28
 ·subst h28
  simp only[decide_true,go_sem,BF hx.gz]
  refine oO (ws:=[FQ]) hc h rfl rfl (by omega) (ABx Xi) (d.cast ?_)
  show(DY K.fs [FQ] s.stk).bind (λr=>some (⟨s.loc,r⟩:Ce))=_
  rw[AAs];rfl
 simp only[h28,decide_false,go_sem]
 by_cases h31:c=31
 ·subst h31
  simp only[decide_true,go_sem]
  refine iZ hbm h (λe H2 p f2 hp g2 hs=>?_) λa r e H2 p f2 hp g2 hs=>?_
  ·exact d.no _ _ (f2.kw (by omega) hqm) (by show(match s.stk with|[]=>none|_::k=>_)=none;rw[e])
  ·exact d.yes _ _ _ (f2.kw (by omega) hqm) (by show(match s.stk with|[]=>none|_::k=>some (⟨s.loc,k⟩:Ce))=_;rw[e]) (hs.mono (Nat.le_succ p) λ_ _ _=>rfl)
 simp only[h31,decide_false,go_sem]
 by_cases h29:c=29
 ·subst h29
  have gr:Ae 2 (.ptr K.kb 17) G H=some K.ret.v:=by rw[G7 hc.box (by omega) (by show 17+2<=21;omega)];rfl
  simp only[decide_true,go_sem,Nat.reduceAdd,gr]
  refine oO (ws:=[K.ret]) hc h rfl rfl (by omega) (ABx hc.rok) (d.cast ?_)
  show(DY K.fs [K.ret] s.stk).bind (λr=>some (⟨s.loc,r⟩:Ce))=_
  rw[AAs];rfl
 simp only[h29,decide_false,go_sem]
 by_cases h27:c=27
 ·subst h27
  simp only[decide_true,go_sem]
  exact d.yes _ _ _ (.refl ..) rfl h
 simp only[h27,decide_false,go_sem,Cb (m:=2) hx.gx (by omega) rfl]
 exact AMf hG hc h hmn hin (by omega) d
theorem ALf(hG:QG G){c i x y z:Nat}(hc:K.At G H m at' td)(h:JF H m n q s)(hx:AEl H n q K.b x y z c i)(hmn:m<=n)(hin:ql K.pool s.loc.length c i)(hcode:12<=c/\c<=31)
 (d:Dn K.b m H n q k (stepT K.cx s ⟨.ofNat c,.ofNat i⟩)):DT lfp G (Runs F G) k (.ptr K.kb 0) (.ptr q 0) (.ptr x 0) (.ptr y 0) (.ptr z 0) (.int .i64 (.ofNat c) 0) (.bool false) H n:=by
 delta DT
 simp only[go_sem,dO]
 by_cases h14:c=14
 ·subst h14
  simp only[decide_true,go_sem,BF hx.gy]
  refine Yo (N:=1) (ws:=[Dw]) (t:=Dw) hc h rfl rfl (by omega) (ABx Rk) Rk (λH' n' f=>BF (hx.kq f).gy) d
 simp only[h14,decide_false,go_sem]
 by_cases h15:c=15
 ·subst h15
  simp only[decide_true,go_sem,BF hx.gz]
  refine Yo (N:=1) (ws:=[FQ]) (t:=FQ) hc h rfl rfl (by omega) (ABx Xi) Xi (λH' n' f=>BF (hx.kq f).gz) d
 simp only[h15,decide_false,go_sem]
 by_cases h12:c=12
 ·simp only[h12,decide_true,go_sem]
  subst h12
  exact ANe hc h hx.gx hx.xn hx.xq hx.xb hx.gz hx.zn hx.zq hx.zb (by omega) hmn d
 simp only[h12,decide_false,go_sem]
 by_cases h13:c=13
 ·simp only[h13,decide_true]
  subst h13
  exact ANe hc h hx.gx hx.xn hx.xq hx.xb hx.gz hx.zn hx.zq hx.zb (by omega) hmn d
 simp only[h13,decide_false]
 exact ANs hG hc h hx hmn hin (by omega) d
theorem ADg{c i x y z:Nat}(hc:K.At G H m at' td)(h:JF H m n q s)(hx:AEl H n q K.b x y z c i)(hcode:c=10∨c=11){u:V}
 (d:Dn K.b m H n q k (stepT K.cx s ⟨.ofNat c,.ofNat i⟩)):DT lfp G (Runs F G) k (.ptr K.kb 0) (.ptr q 0) (.ptr x 0) (.ptr y 0) (.ptr z 0) u (.bool true) H n:=by
 delta DT
 simp only[go_sem,BF hx.gy]
 refine Yo (N:=2) (ws:=[Dw,Dw]) (t:=FQ) hc h rfl rfl (by omega) (ANK Rk Rk) Xi (λH' n' f=>BF (hx.kq f).gz) (d.cast ?_)
 rcases hcode with rfl|rfl<;>rfl
theorem ALT(hG:QG G){c i x y z:Nat}(hc:K.At G H m at' td)(h:JF H m n q s)(hx:AEl H n q K.b x y z c i)(hmn:m<=n)(hin:ql K.pool s.loc.length c i)(hcode:10<=c/\c<=31)
 (d:Dn K.b m H n q k (stepT K.cx s ⟨.ofNat c,.ofNat i⟩)):Bj lfp G (Runs F G) k (.ptr K.kb 0) (.ptr q 0) (.ptr x 0) (.ptr y 0) (.ptr z 0) (.int .i64 (.ofNat c) 0) (.bool false) H n:=by
 delta Bj
 simp only[go_sem,dO]
 by_cases h10:c=10
 ·simp only[h10,decide_true,go_sem]
  exact ADg hc h hx (by omega) d
 simp only[h10,decide_false,go_sem]
 by_cases h11:c=11
 ·simp only[h11,decide_true]
  exact ADg hc h hx (by omega) d
 simp only[h11,decide_false]
 exact ALf hG hc h hx hmn hin (by omega) d
theorem fQ{c i x y z:Nat}(hc:K.At G H m at' td)(h:JF H m n q s)(hx:AEl H n q K.b x y z c i)(hcode:5<=c/\c<=9){u:V}
 (d:Dn K.b m H n q k (stepT K.cx s ⟨.ofNat c,.ofNat i⟩)):Bj lfp G (Runs F G) k (.ptr K.kb 0) (.ptr q 0) (.ptr x 0) (.ptr y 0) (.ptr z 0) u (.bool true) H n:=by
 delta Bj
 simp only[go_sem,BF hx.gy]
 refine Yo (N:=2) (ws:=[Dw,Dw]) (t:=Dw) hc h rfl rfl (by omega) (ANK Rk Rk) Rk (λH' n' f=>BF (hx.kq f).gy) (d.cast ?_)
 obtain rfl|rfl|rfl|rfl|rfl:c=5∨c=6∨c=7∨c=8∨c=9:=by omega
 all_goals rfl
end
section
variable{K:Za}{G:AX}{H:Heap}{n m q:Nat}{at' td w:V}{ws:List Ty}{s:Ce}{t:Ty}{k:KV}{p:V}{N:Nat}{Z:LV}
theorem JF.ATP(h:JF H m n q s){vl vs:V}(g:T.get H q=some (one [vl,vs])){i:Nat}(hi:i<s.loc.length):∃p,Ad 2 vl (.int .i64 (.ofNat i) 0)=some p/\Ae 2 p G H=some (s.loc.getD i CB).v/\(s.loc.getD i CB).nm.ok:=by
 obtain⟨vl2,vs2,g2,hl,hs,hd⟩:=h.is
 rw[g]at g2
 cases g2
 obtain⟨p,hp,hld⟩:=(hl.el (G:=G) (by omega)).at (UW hi)
 have e:s.loc.getD i CB=s.loc[i]:=by rw[List.getD_eq_getElem?_getD,List.getElem?_eq_getElem hi];rfl
 rw[e]
 exact⟨p,hp,Bq hld,h.ol _ (List.getElem_mem hi)⟩
theorem AN6(t:Ty):Cc (.agg [.str,.bool]) true t.v CB.v=some (.bool (!t.is CB)):=AHP ..
theorem ARu(hG:QG G){c i:Nat}(hc:K.At G H m at' td)(h:JF H m n q s)(hmn:m<=n)(hin:ql K.pool s.loc.length c i)
 (d:Dn K.b m H n q k (stepT K.cx s ⟨.ofNat c,.ofNat i⟩)):Runs F G WB [.ptr K.kb 0,.ptr q 0,.agg (Ins.cells ⟨.ofNat c,.ofNat i⟩)] H n k:=by
 refine BL (s:=ar3 (Il lfp G)) O7 (by obtain⟨h,o⟩:=VZ BK G;rw[O7]at h;cases h;exact o) ?_
 show Il lfp G (Runs F G) (.ptr K.kb 0) (.ptr q 0) (.agg (Ins.cells ⟨.ofNat c,.ofNat i⟩)) H n k
 delta Il
 have hbm:K.b<m:=hc.img.tab.bn
 have hqm:=h.mq
 have hqn:=h.qn
 refine Ez λH1 f1 g1=>?_
 refine ADl λH2 n2 f2=>?_
 have hn2:=f2.le
 refine AH4 λH3 n3 f3=>?_
 have hn3:=f3.le
 refine BU rfl λH4 f4 g4=>?_
 refine BU rfl λH5 f5 g5=>?_
 show BZ 2 (.ptr n3 0) (.agg Dw.cells) _ _ _
 refine IG (f5.get g4 (by omega)) rfl rfl (by omega) λH6 g6 s6=>?_
 show BZ 2 (.ptr (n3+1) 0) (.agg FQ.cells) _ _ _
 refine IG ((s6 _ (by omega)).trans g5) rfl rfl (by omega) λH7 g7 s7=>?_
 have g7x:T.get H7 n=some (one (Ins.cells ⟨.ofNat c,.ofNat i⟩)):=by
  rw[s7 _ (by omega),s6 _ (by omega)]
  exact f5.get (f4.get (f3.get (f2.get g1 (by omega)) (by omega)) (by omega)) (by omega)
 have f7:Kp H n H7 (n3+1+1):=⟨by omega,λid hid=>by rw[s7 _ (by omega),s6 _ (by omega),f5.same _ (by omega),f4.same _ (by omega),f3.same _ (by omega),f2.same _ (by omega),f1.same _ hid]⟩
 have hx:AEl H7 (n3+1+1) q K.b n n3 (n3+1) c i:=⟨g7x,(s7 _ (by omega)).trans g6,g7,by omega,by omega,by omega,by omega,by omega,by omega,by omega,by omega,by omega⟩
 have h:=h.kp f7
 have f7':=f7.kw (b:=K.b) (m:=m) (by omega) hbm
 have hc:=hc.kw f7'
 have d:=d.later f7'
 clear f1 f2 f3 f4 f5 g1 g4 g5 g6 g7 s6 s7 g7x
 have gxc:AV (.ptr n 1) G H7=some (.int .i64 (.ofNat i) 0):=AU hx.gx rfl
 simp only[go_sem,Nat.reduceAdd,AU (off:=0) hx.gx (v:=.int .i64 (.ofNat c) 0) rfl,dO]
 by_cases h1:c=1
 ·subst h1
  simp only[decide_true,go_sem,BF hx.gy]
  exact Ue hc h Rk d
 simp only[h1,decide_false,go_sem]
 by_cases h32:c=32
 ·subst h32
  simp only[decide_true,go_sem,BF hx.gz]
  exact Ue hc h Xi d
 simp only[h32,decide_false,go_sem]
 by_cases h2:c=2
 ·subst h2
  simp only[decide_true,go_sem]
  refine Yr λH8 n8 f8=>?_
  have f8':=f8.kw (b:=K.b) (m:=m) (by omega) hbm
  exact Ue (hc.kw f8') (h.kp f8) APn (d.later f8')
 simp only[h2,decide_false,go_sem]
 by_cases h3:c=3
 ·subst h3
  obtain⟨vl,vs,gq,-⟩:=h.is
  obtain⟨p,hp,hld,hok⟩:=h.ATP (G:=G) gq (hin.lc (by omega))
  have d:=d.cast (o':=bif (s.loc.getD i CB).is CB then none else(CX K.mx (s.loc.getD i CB) s.stk).map λk=>⟨s.loc,k⟩) rfl
  simp only[decide_true,go_sem,Nat.reduceAdd,AU (off:=0) gq (v:=vl) rfl,gxc,hp,hld]
  rw[xw,AB,AN6,AB]
  cases hb:(s.loc.getD i CB).is CB with
  |true=>
   rw[hb]at d
   simp only[Bool.not_true,go_sem]
   exact d.no _ _ (.refl ..) rfl
  |false=>
   rw[hb]at d
   simp only[Bool.not_false,go_sem,Nat.reduceAdd,AU (off:=0) gq (v:=vl) rfl,gxc,hp,hld]
   exact Ue hc h hok d
 simp only[h3,decide_false,go_sem]
 by_cases h4:c=4
 ·subst h4
  simp only[decide_true,go_sem]
  refine iZ hbm h (λe H2 p f2 hp g2 hs=>?_) λa r e H2 p f2 hp g2 hs=>?_
  ·obtain⟨vl,vs,gq,-⟩:=hs.is
   have gx:=(hx.kq f2).gx
   simp only[go_sem,Nat.reduceAdd,AU (off:=0) gq (v:=vl) rfl,AU (off:=1) gx (v:=.int .i64 (.ofNat i) 0) rfl,BF g2]
   refine(hs.mono (H':=H2) (Nat.le_succ p) λ_ _ _=>rfl).ANq (t:=CB) (hin.lc (by omega)) (λ_=>rfl) gq λH3 s3 hs3=>?_
   exact d.no _ _ ((f2.kw (by omega) hqm).trans (.of hbm (Nat.le_refl _) s3)) (by show(match s.stk with|[]=>none|t::k=>some (⟨s.loc.set i t,k⟩:Ce))=none;rw[e])
  ·obtain⟨vl,vs,gq,-⟩:=hs.is
   have gx:=(hx.kq f2).gx
   have haok:a.nm.ok:=h.os a (by rw[e];exact List.mem_cons_self ..)
   simp only[go_sem,Nat.reduceAdd,AU (off:=0) gq (v:=vl) rfl,AU (off:=1) gx (v:=.int .i64 (.ofNat i) 0) rfl,BF g2]
   refine(hs.mono (H':=H2) (Nat.le_succ p) λ_ _ _=>rfl).ANq (hin.lc (by omega)) haok gq λH3 s3 hs3=>?_
   exact d.yes _ _ _ ((f2.kw (by omega) hqm).trans (.of hbm (Nat.le_refl _) s3)) (by show(match s.stk with|[]=>none|t::k=>some (⟨s.loc.set i t,k⟩:Ce))=_;rw[e]) hs3
 simp only[h4,decide_false,go_sem]
 have hlo:=hin.lo
 have hhi:=hin.hi
 by_cases h5:c=5
 ·simp only[h5,decide_true,go_sem]
  exact fQ hc h hx (by omega) d
 simp only[h5,decide_false,go_sem]
 by_cases h6:c=6
 ·simp only[h6,decide_true,go_sem]
  exact fQ hc h hx (by omega) d
 simp only[h6,decide_false,go_sem]
 by_cases h7:c=7
 ·simp only[h7,decide_true,go_sem]
  exact fQ hc h hx (by omega) d
 simp only[h7,decide_false,go_sem]
 by_cases h8:c=8
 ·simp only[h8,decide_true,go_sem]
  exact fQ hc h hx (by omega) d
 simp only[h8,decide_false,go_sem]
 by_cases h9:c=9
 ·simp only[h9,decide_true]
  exact fQ hc h hx (by omega) d
 simp only[h9,decide_false]
 exact ALT hG hc h hx (by omega) hin (by omega) d
end
def JY(fs:Tab):List Ty->List Ty->Option (List Ty)
 |[],[]=>some []
 |a::l,b::m=>bif (FB fs a b).2 then(JY fs l m).map λk=>(FB fs a b).1::k else none
 |_,_=>none
def Dz(fs:Tab):List Ty->List Ty->List Ty
 |a::l,b::m=>(FB fs a b).1::Dz fs l m
 |l,_=>l
def Gl:List Ty->List Ty->Bool
 |[],[]=>true
 |a::l,b::m=>a.is b&&Gl l m
 |_,_=>false
theorem QC:∀{l m:List Ty},Gl l m=true↔l=m
 |[],[]=>by simp[Gl]
 |[],_::_=>by simp[Gl]
 |_::_,[]=>by simp[Gl]
 |a::l,b::m=>by simp[Gl,Ty.OV,QC]
abbrev Uc:=List (Option Ce)
def GV(fs:Tab)(at':Uc)(to:Nat)(s:Ce):Option (Uc×Bool):=match at'[to]? with
 |none=>none
 |some none=>some (at'.set to (some s),true)
 |some (some old)=>(JY fs old.stk s.stk).map λk=>(at'.set to (some ⟨Dz fs old.loc s.loc,k⟩),!(Gl k old.stk&&Gl (Dz fs old.loc s.loc) old.loc))
def jumps(x:Ins):Bool:=decide (x.code=27)||decide (x.code=28)
def ends(x:Ins):Bool:=decide (x.code=27)||decide (x.code=29)
def Xz(n i to:Nat):Nat:=bif decide (n<=to)then i else to
def Vw(c:Cx)(at':Uc)(i:Nat)(x:Ins)(s:Ce):Nat ⊕ (Uc×List Nat):=match stepT c s x with
 |none=>.inl i
 |some t=>match(bif jumps x then GV c.fs at' x.arg.toNat t else some (at',false))with
  |none=>.inl (Xz c.code.length i x.arg.toNat)
  |some (a1,b1)=>match(bif ends x then some (a1,false)else GV c.fs a1 (i+1) t)with
   |none=>.inl (Xz c.code.length i (i+1))
   |some (a2,b2)=>.inr (a2,(bif b2 then[i+1]else[])++(bif b1 then[x.arg.toNat]else[]))
def xZ:Ins:=⟨0,0⟩
def sZ:Ce:=⟨[],[]⟩
def Uc.st(a:Uc)(i:Nat):Ce:=((a[i]?).getD none).getD sZ
def Cx.at(c:Cx)(i:Nat):Ins:=(c.code[i]?).getD xZ
def runT(c:Cx):Nat->Uc->List Nat->Option Int
 |0,_,_=>none
 |_+1,_,[]=>some (-1)
 |f+1,a,i::todo=>match Vw c a i (c.at i) (Uc.st a i)with
  |.inl j=>some j
  |.inr (b,ps)=>runT c f b (ps++todo)
def oG(x:Ins)(i:Nat):List Nat:=(bif jumps x then[x.arg.toNat]else[])++(bif ends x then[]else[i+1])
structure Post(c:Cx)(init:Ce)(A:Nat->Option Ce):Prop where
 init:∃s,A 0=some s/\Ce.le c.fs init s
 step:∀i s,i<c.code.length->A i=some s->∃t,stepT c s (c.at i)=some t/\∀j∈oG (c.at i) i,j<c.code.length/\∃u,A j=some u/\Ce.le c.fs t u
theorem yK{fs:Tab}{a b:Ty}(h:(FB fs a b).2=false):(FB fs a b).1=CB:=by
 unfold FB at*
 cases h1:a.is b<;>cases h2:a.is CQ&&b.obj<;>cases h3:b.is CQ&&a.obj<;>cases h4:(a.cls&&b.cls)&& !decide (JW fs a.nm b.nm=(0,0))<;>simp_all
section
variable{fs:Tab}(hw:Whole fs)(hu:Upper fs)
include hw hu
theorem ACH:∀{l m k:List Ty},JY fs l m=some k->Z9 (lQ fs) l k/\Z9 (lQ fs) m k
 |[],[],_,h=>by cases h;exact⟨.nil,.nil⟩
 |[],_::_,_,h=>by cases h
 |_::_,[],_,h=>by cases h
 |a::l,b::m,k,h=>by
  have h:(bif (FB fs a b).2 then(JY fs l m).map λk=>(FB fs a b).1::k else none)=some k:=h
  cases hb:(FB fs a b).2 with
  |false=>rw[hb]at h;cases h
  |true=>
   rw[hb,cond_true]at h
   obtain⟨q,h1,rfl⟩:=Option.map_eq_some_iff.1 h
   obtain⟨i1,i2⟩:=ACH h1
   obtain⟨u1,u2⟩:=AFI hw hu (a:=a) (b:=b) (j:=(FB fs a b).1) (Prod.ext rfl hb)
   exact⟨.cons u1 i1,.cons u2 i2⟩
theorem zQ:∀{l m u:List Ty},Z9 (lQ fs) l u->Z9 (lQ fs) m u->∃k,JY fs l m=some k/\Z9 (lQ fs) k u
 |_,_,_,.nil,.nil=>⟨[],rfl,.nil⟩
 |_,_,_,@Z9.cons _ a c l n h t,@Z9.cons _ b _ m _ h' t'=>by
  obtain⟨k,h1,h2⟩:=zQ t t'
  obtain⟨j,h3,h4⟩:=AHN hw hu h h'
  refine⟨j::k,?_,.cons h4 h2⟩
  show(bif (FB fs a b).2 then(JY fs l m).map λk=>(FB fs a b).1::k else none)=_
  rw[h3,h1];rfl
theorem AHV{a b:Ty}:kD fs a (FB fs a b).1/\kD fs b (FB fs a b).1:=by
 cases hb:(FB fs a b).2 with
 |true=>
  obtain⟨u1,u2⟩:=AFI hw hu (a:=a) (b:=b) (j:=(FB fs a b).1) (Prod.ext rfl hb)
  exact⟨.inr u1,.inr u2⟩
 |false=>exact⟨.inl (yK hb),.inl (yK hb)⟩
theorem AHc{a b u:Ty}(h1:kD fs a u)(h2:kD fs b u):kD fs (FB fs a b).1 u:=by
 rcases h1 with h1|h1
 ·exact .inl h1
 ·rcases h2 with h2|h2
  ·exact .inl h2
  ·obtain⟨j,h3,h4⟩:=AHN hw hu h1 h2
   rw[h3];exact .inr h4
theorem ABP:∀{l m:List Ty},l.length=m.length->Z9 (kD fs) l (Dz fs l m)/\Z9 (kD fs) m (Dz fs l m)
 |[],[],_=>⟨.nil,.nil⟩
 |[],_::_,h=>by simp at h
 |_::_,[],h=>by simp at h
 |a::l,b::m,h=>by
  obtain⟨h1,h2⟩:=ABP (l:=l) (m:=m) (by simpa using h)
  obtain⟨u1,u2⟩:=AHV hw hu (a:=a) (b:=b)
  exact⟨.cons u1 h1,.cons u2 h2⟩
theorem zN:∀{l m u:List Ty},Z9 (kD fs) l u->Z9 (kD fs) m u->Z9 (kD fs) (Dz fs l m) u
 |_,_,_,.nil,.nil=>.nil
 |_,_,_,.cons h t,.cons h' t'=>.cons (AHc hw hu h h') (zN t t')
structure Came(a:Uc)(to:Nat)(s:Ce)(b:Uc)(ch:Bool):Prop where
 lt:to<a.length
 len:b.length=a.length
 other:∀j,j≠to->b[j]? =a[j]?
 here:∃u,b[to]? =some (some u)/\Ce.le fs s u/\u.loc.length=s.loc.length/\∀old,a[to]? =some (some old)->Ce.le fs old u
 same:ch=false->b=a
theorem AER{a b:Uc}{to:Nat}{s:Ce}{ch:Bool}(h:GV fs a to s=some (b,ch))(hl:∀old,a[to]? =some (some old)->old.loc.length=s.loc.length):Came (fs:=fs) a to s b ch:=by
 unfold GV at h
 cases e:a[to]? with
 |none=>rw[e]at h;cases h
 |some o=>
  have hlt:=(List.getElem?_eq_some_iff.1 e).1
  rw[e]at h
  cases o with
  |none=>
   cases h
   exact⟨hlt,by simp,λj hj=>by rw[List.getElem?_set_ne (Ne.symm hj)],⟨s,by rw[List.getElem?_set_self hlt],Ce.le_refl ..,rfl,λold ho=>by rw[e]at ho;cases ho⟩,λh=>by cases h⟩
  |some old=>
   obtain⟨k,hk,he⟩:=Option.map_eq_some_iff.1 h
   cases he
   obtain⟨s1,s2⟩:=ACH hw hu hk
   have hll:=hl old e
   obtain⟨l1,l2⟩:=ABP hw hu hll
   refine⟨hlt,by simp,λj hj=>by rw[List.getElem?_set_ne (Ne.symm hj)],⟨⟨Dz fs old.loc s.loc,k⟩,by rw[List.getElem?_set_self hlt],⟨l2,s2⟩,by show(Dz fs old.loc s.loc).length=_;rw[<-l2.len],λo ho=>?_⟩,λhc=>?_⟩
   ·rw[e]at ho;cases ho;exact⟨l1,s1⟩
   ·simp only[Bool.not_eq_false',Bool.and_eq_true,QC]at hc
    rw[hc.1,hc.2]
    have:a[to]=some ⟨old.loc,old.stk⟩:=by
     have:=(List.getElem?_eq_some_iff.1 e).2
     rw[this]
    rw[<-this];exact List.set_getElem_self hlt
def Under(a:Uc)(A:Nat->Option Ce):Prop:=∀j s,a[j]? =some (some s)->∃t,A j=some t/\Ce.le fs s t
theorem AGz{a:Uc}{to:Nat}{s t:Ce}{A:Nat->Option Ce}(hu':Under (fs:=fs) a A)(ht:A to=some t)(hs:Ce.le fs s t)(hlt:to<a.length):∃b ch,GV fs a to s=some (b,ch)/\Under (fs:=fs) b A/\b.length=a.length:=by
 unfold GV
 cases e:a[to]? with
 |none=>rw[List.getElem?_eq_none_iff]at e;omega
 |some o=>
  have put:∀x:Ce,Ce.le fs x t->Under (fs:=fs) (a.set to (some x)) A:=λx hx j y hy=>by
   by_cases hj:j=to
   ·subst hj
    rw[List.getElem?_set_self hlt]at hy
    cases hy
    exact⟨t,ht,hx⟩
   ·rw[List.getElem?_set_ne (Ne.symm hj)]at hy
    exact hu' j y hy
  cases o with
  |none=>exact⟨_,_,rfl,put s hs,by simp⟩
  |some old=>
   obtain⟨t',ht',ho⟩:=hu' to old e
   rw[ht]at ht';cases ht'
   obtain⟨k,h1,h2⟩:=zQ hw hu ho.2 hs.2
   refine⟨a.set to (some ⟨Dz fs old.loc s.loc,k⟩),!(Gl k old.stk&&Gl (Dz fs old.loc s.loc) old.loc),?_,put _ ⟨zN hw hu ho.1 hs.1,h2⟩,by simp⟩
   show(JY fs old.stk s.stk).map _=_
   rw[h1];rfl
end
end Go.RL
