/- Part of a proof; nothing is assumed. -/
import Derived.Test.YtibbhhkcjjeclaaDoorConB
import Derived.Test.YtibbhhkcjjeclaaDoorEngE
set_option linter.unusedVariables false
set_option linter.unusedSimpArgs false
namespace Go.RL
open Go.Bh
set_option maxRecDepth 100000
theorem AKl(q:IntKind)(a b:Nat):B2.ev .geq (.int q (.ofNat a) 0) (.int q (.ofNat b) 0)=some (.bool (decide (b<=a))):=by
 show BK (band (keq q q) true) (mkB (ile (.ofNat b) (.ofNat a)))=_
 rw[Rw,pJ,show band (keq q q) true=true by simp[NQ],show decide (Int.ofNat b<=Int.ofNat a)=decide (b<=a)by rw[decide_eq_decide];show(b:Int)<=a↔_;omega];rfl
theorem AHP(q:IntKind)(a b:Nat):B2.ev .gtr (.int q (.ofNat a) 0) (.int q (.ofNat b) 0)=some (.bool (decide (b<a))):=by
 show BK (band (keq q q) true) (mkB (ilt (.ofNat b) (.ofNat a)))=_
 rw[Rw,Vp,show band (keq q q) true=true by simp[NQ],show decide (Int.ofNat b<Int.ofNat a)=decide (b<a)by rw[decide_eq_decide];show(b:Int)<a↔_;omega];rfl
theorem ah(q:IntKind)(x y:Int):CX (.one .int) false (.int q x 0) (.int q y 0)=some (.bool (decide (x=y))):=by
 have e:CX (.one .int) false (.int q x 0) (.int q y 0)=ofB (QW (some (ieq x y)) λb=>some b):=by cases q<;>rfl
 rw[e,Tt,show(x==y)=decide (x=y)by rw[Bool.eq_iff_iff];simp];cases decide (x=y)<;>rfl
theorem AHW(q:IntKind)(x y:Int):CX (.one .int) true (.int q x 0) (.int q y 0)=some (.bool (!decide (x=y))):=by
 have e:CX (.one .int) true (.int q x 0) (.int q y 0)=ofB (QW (some (ieq x y)) λb=>some (Yk b)):=by cases q<;>rfl
 rw[e,Tt,show(x==y)=decide (x=y)by rw[Bool.eq_iff_iff];simp];cases decide (x=y)<;>rfl
theorem DR(q:IntKind)(x y:Nat):CX (.one .int) false (.int q (.ofNat x) 0) (.int q (.ofNat y) 0)=some (.bool (decide (x=y))):=by
 rw[ah];congr 2;rw[decide_eq_decide];show(x:Int)=y↔_;omega
theorem AIV(q:IntKind)(x y:Nat):CX (.one .int) true (.int q (.ofNat x) 0) (.int q (.ofNat y) 0)=some (.bool (!decide (x=y))):=by
 rw[AHW];congr 3;rw[decide_eq_decide];show(x:Int)=y↔_;omega
theorem AEN{a b:Nat}(hb:b<=a)(h:a<9223372036854775808):B2.ev .sub (.int .i64 (.ofNat a) 0) (.int .i64 (.ofNat b) 0)=some (.int .i64 (.ofNat (a-b)) 0):=by
 show some (V.int .i64 (bT .i64 (ABD (.ofNat a) (Int.neg (.ofNat b)))) 0)=_
 rw[SQ,fM]
 have e:Int.ofNat a+Int.neg (Int.ofNat b)=Int.ofNat (a-b):=by show(a:Int)+ -(b:Int)=((a-b:Nat):Int);omega
 rw[e,Vr (by show(-9223372036854775808:Int)<=((a-b:Nat):Int);omega) (by show((a-b:Nat):Int)<9223372036854775808;omega)]
theorem SB(q:IntKind)(a b:Nat):B2.ev .lss (.int q (.ofNat a) 0) (.int q (.ofNat b) 0)=some (.bool (decide (a<b))):=by
 show BK (band (keq q q) true) (mkB (ilt (.ofNat a) (.ofNat b)))=_
 rw[Rw,Vp,show band (keq q q) true=true by simp[NQ],show decide (Int.ofNat a<Int.ofNat b)=decide (a<b)by rw[decide_eq_decide];show(a:Int)<b↔_;omega];rfl
def yO:Nat->List V->List (Nat×X)
 |_,[]=>[]
 |i,v::vs=>(i,.c v)::yO (i+1) vs
theorem zh{z m:Nat}:∀(vs:List V) (i:Nat),i+vs.length<=m->(∀v∈vs,Wl v=true/\(Aq v).length=z)->X3 (yO i vs) E0 z m=true
 |[],_,_,_=>rfl
 |v::vs,i,h,hv=>by
  show band (band (Wl v) (band (Nat.blt i m) (Nat.beq (len (Aq v)) z))) (X3 (yO (i+1) vs) E0 z m)=true
  obtain⟨h1,h2⟩:=hv v (List.mem_cons_self ..)
  rw[h1,len_eq,h2,show Nat.blt i m=true by rw[Nat.blt_eq];simp at h;omega,Dl,zh vs (i+1) (by simp at h;omega) λw hw=>hv w (List.mem_cons_of_mem _ hw)];rfl
theorem ACN:∀(vs:List V) (i:Nat) (t:T LV) (j:Nat),T.get (gB (yO i vs) E0 t) j=if i<=j/\j<i+vs.length then(vs[j-i]?).map Aq else T.get t j
 |[],i,t,j=>by rw[if_neg (by simp)];rfl
 |v::vs,i,t,j=>by
  show T.get (gB (yO (i+1) vs) E0 (T.set t i (Aq v))) j=_
  rw[ACN vs (i+1)]
  by_cases h1:i+1<=j/\j<i+1+vs.length
  ·rw[if_pos h1,if_pos (by rw[List.length_cons];omega)]
   rw[show j-i=(j-(i+1))+1 by omega,List.getElem?_cons_succ]
  ·rw[if_neg h1,T.Qg]
   by_cases h2:i=j
   ·subst h2;rw[if_pos (by simp)];simp
   ·rw[if_neg h2,if_neg (by rw[List.length_cons];omega)]
theorem yB{G:AX}{z m:Nat}{Z:LV}{vs:List V}{H:Heap}{n:Nat}{P:KV}(hm:vs.length=m)(hz:0<z)(hv:∀v∈vs,Wl v=true/\(Aq v).length=z)
 (h:∀H',Kp H n H' (n+1)->(∃t,T.get H' n=some (.arr z m t))->El G H' (.sl n 0 m m z) z (vs.map Aq)->P (.sl n 0 m m z) H' (n+1)):Bf (Az z m Z (yO 0 vs) E0) H n P:=by
 show L9 (X3 (yO 0 vs) E0 z m) (DX n λn=>P (.sl n 0 m m z) (T.set H n (.arr z m (gB (yO 0 vs) E0 (tq Z m .e)))) (Nat.succ n))
 rw[zh vs 0 (by omega) hv,VU,BL]
 refine h _ ((Kp.refl H n).new _ (Nat.le_refl _) (by omega)) ⟨_,T.Ah ..⟩ ⟨rfl,?_⟩
 show(Bool.rec (motive:=λ_=>Option ER) none (CQ _ n z m 0) (Nat.beq z z):Option ER)=_
 rw[Dl]
 refine X8 _ _ _ (by simp[hm]) λi c hc=>?_
 have hlt:i<m:=by have:=(List.getElem?_eq_some_iff.1 hc).1;simp at this;omega
 rw[Nat.zero_add,V5 (T.Ah ..) hz hlt,ACN,if_pos ⟨by omega,by omega⟩,Nat.sub_zero]
 simpa using hc
theorem AQw{G:AX}{H:Heap}{id o m z:Nat}{LS:ER}(h:CQ H id z m o=some LS):El G H (.Qq id o m z) z LS:=by
 refine⟨rfl,?_⟩
 show(Bool.rec (motive:=λ_=>Option ER) none (CQ H id z m o) (Nat.beq z z):Option ER)=some LS
 rw[Dl];exact h
theorem AOR{H:Heap}{id e c i:Nat}{t:T LV}{L new:LV}(hg:T.get H id=some (.arr e c t))(he:0<e)(hi:i<c)(ht:T.get t i=some L):stH H id (i*e) e new=some (T.set H id (.arr e c (T.set t i new))):=by
 unfold stH
 rw[hg]
 show BP (stB e c t (i*e) e new) _=_
 unfold stB
 have hd:Nat.div (i*e) e=i:=Nat.mul_div_cancel i he
 have hm:Nat.mod (i*e) e=0:=Nat.mul_mod_left i e
 rw[hd,show Nat.blt i c=true by rw[Nat.blt_eq];exact hi]
 show BP (BP (T.get t i) (stC new e c t (i*e) e)) _=_
 rw[ht,Uh]
 unfold stC
 rw[hd,hm,Dl]
 rfl
theorem AEh{H:Heap}{id e c i n:Nat}{t:T LV}{L:LV}{v:V}{P:KV}(hg:T.get H id=some (.arr e c t))(he:0<e)(hi:i<c)(ht:T.get t i=some L)(hv:Wl v=true)(hn:(Aq v).length=e)
 (h:∀H',T.get H' id=some (.arr e c (T.set t i (Aq v)))->(∀j,j≠id->T.get H' j=T.get H j)->P .undef H' n):Ba e (.ptr id (i*e)) v H n P:=by
 unfold Ba
 rw[hv,len_eq,hn,Dl,show stP (.ptr id (i*e)) H e (Aq v)=stH H id (i*e) e (Aq v)from rfl,AOR hg he hi ht]
 exact h _ (T.Ah ..) λj hj=>T.Ac _ _ (Ne.symm hj)
theorem ABP{id o m c z i:Nat}{q:IntKind}(h:i<m):Ag z (.sl id o m c z) (.int q (.ofNat i) 0)=some (.ptr id ((o+i)*z)):=by
 show BK (band (Nat.beq z z) (Nat.blt i m)) (GU (Nat.mul (Nat.add o i) z) λo=>some (.ptr id o))=_
 rw[Dl,show Nat.blt i m=true by rw[Nat.blt_eq];exact h,EI];rfl
theorem AKb{id o m z i:Nat}{q:IntKind}(h:i<m):Ag z (.Qq id o m z) (.int q (.ofNat i) 0)=some (.ptr id ((o+i)*z)):=by
 show BK (band (Nat.beq z z) (Nat.blt i m)) (GU (Nat.mul (Nat.add o i) z) λo=>some (.ptr id o))=_
 rw[Dl,show Nat.blt i m=true by rw[Nat.blt_eq];exact h,EI];rfl
theorem AHs{G:AX}{H:Heap}{m n z bs:Nat}{v w:V}{LS NS:ER}{k:KV}(h:Gr G H m z v LS)(hm:m<=n)(hn:∀id,v.XZ=some id->id<n)(hw:elems w G H z=some NS)
 (hb:(LS.length+NS.length)*bs<=140737488355328)
 (hk:∀v' H',Gr G H' m z v' (LS++NS)->(∀id,id<n->v.XZ≠some id->T.get H' id=T.get H id)->(∀id,v'.XZ=some id->id=n)->k v' H' (n+1))
 (hk0:NS=[]->k v H n):Va z bs v w G H n k:=by
 unfold Va
 rw[hw,WR]
 cases h with
 |nil=>
  cases NS with
  |nil=>exact hk0 rfl
  |cons a NS=>
   show Ku z bs [] (a::NS) H n k
   unfold Ku
   rw[BL,BL,len_eq,len_eq,show QV (Nat.add ([]:ER).length (a::NS).length) bs=true from X7 hb,VU]
   have e:Nat.add ([]:ER).length (a::NS).length=(a::NS).length:=Nat.zero_add _
   rw[e]
   refine hk _ _ ?_ (λid hid _=>T.Ac _ _ (by omega)) (λid hid=>by cases hid;rfl)
   refine .Qq (LS:=a::NS) (T.Ah ..) (Nat.le_refl _) (λi L hi=>?_) hm
   show T.get (Fj (a::NS) 0 .e) i=some L
   have hlt:=(List.getElem?_eq_some_iff.1 hi).1
   rw[Fq,if_pos ⟨Nat.zero_le _,by omega⟩];exact hi
 |Qq hg hc ht hid=>
  rename_i id c t
  show L9 (Nat.beq z z) _
  rw[Dl,VU]
  cases NS with
  |nil=>exact hk0 rfl
  |cons a NS=>
   show Hw (T.get H id) (λb=>Zj id 0 LS.length z bs (a::NS) H n k b)
   rw[hg,WR]
   rw[AFA (X7 hb) hc,show LS.length+(a::NS).length=(LS++a::NS).length by rw[List.length_append]]
   refine hk _ _ ?_ (λj hj hne=>?_) (λj hj=>by cases hj;rfl)
   ·refine .Qq (LS:=LS++a::NS) (T.Ah ..) (Nat.le_refl _) (λi L hi=>?_) hm
    rw[Fq]
    by_cases hlt:i<LS.length
    ·rw[if_neg (by omega)]
     rw[List.getElem?_append_left hlt]at hi
     exact ht i L hi
    ·rw[List.getElem?_append_right (by omega)]at hi
     have hlt2:=(List.getElem?_eq_some_iff.1 hi).1
     rw[if_pos ⟨by omega,by omega⟩];exact hi
   ·rw[T.Ac _ _ (by omega),T.Ac _ _ (by intro e;subst e;exact hne rfl)]
theorem ADo{e:Option V}{v:V}{P:V->Prop}(h:e=some v)(hp:P v):AP e P:=by rw[h];exact hp
theorem AHi{v:V}{P:Prop}(h:F8 v v=true)(hp:P):L9 (F8 v v) P:=by rw[h];exact hp
theorem ANB{e:Option V}{a:V}{P:Prop}(h:e=some a)(hv:F8 a a=true)(hp:P):wB (.bool true) true e a P:=by
 subst h
 show L9 (F8 a a) P
 rw[hv];exact hp
theorem ASi{e:Option V}{a:V}{P:Prop}(h:e=some a)(hv:F8 a a=true)(hp:P):wB (.bool false) false e a P:=by
 subst h
 show L9 (F8 a a) P
 rw[hv];exact hp
theorem iH{e:Option V}{a:V}{P:V->Prop}(h:e=some a)(hp:P a):Aj (.bool true) true e P:=by rw[AOx];exact ADo h hp
theorem wY{e:Option V}{a:V}{P:V->Prop}(h:e=some a)(hp:P a):Aj (.bool false) false e P:=by rw[AO5];exact ADo h hp
theorem AUQ{t:KV->Prop}{H:Heap}{n:Nat}{Q:KV}(hp:t Q):EN (.bool true) true t H n Q:=hp
theorem IU{H:Heap}{n m b:Nat}{L0 L:LV}{P:KV}(g:T.get H b=some (one L0))(h0:L0.length=m)(h1:L.length=m)(hm:0<m)(h:∀H',T.get H' b=some (one L)->(∀j,j≠b->T.get H' j=T.get H j)->P .undef H' n):
 Ba m (.ptr b 0) (.agg L) H n P:=by
 rw[Gt g hm h0 h1];exact h _ (T.Ah ..) λj hj=>T.Ac _ _ (Ne.symm hj)
theorem AKI(a b c d e:Nat):F8 (.sl a b c d e) (.sl a b c d e)=true:=by
 show Jm (.sl a b c d e) (.sl a b c d e)=true
 simp[Jm,AMD,BM]
theorem AOl(a b c d:Nat):F8 (.Qq a b c d) (.Qq a b c d)=true:=by
 show Jm (.Qq a b c d) (.Qq a b c d)=true
 simp[Jm,AE3,BM]
theorem AHe{G:AX}{H:Heap}{n id z bs:Nat}{t:T LV}{w:V}{a:LV}{NS:ER}{k:KV}(hz:0<z)(hw:elems w G H z=some (a::NS))(hr:(a::NS).length*bs<=140737488355328)
 (hk:∀v' H',Gr G H' 0 z v' (a::NS)->(∀j,j<n->T.get H' j=T.get H j)->(∀i,v'.XZ=some i->i=n)->k v' H' (n+1)):Va z bs (.sl id 0 0 0 z) w G H n k:=by
 unfold Va
 rw[hw,WR]
 have e0:ADQ (.sl id 0 0 0 z) G z bs (a::NS) H n k=Bool.rec (motive:=λ_=>Prop) (Hw (CQ H id z 0 0) λOS=>Ku z bs OS (a::NS) H n k) (Hw (T.get H id) λb=>oL id 0 0 0 z (0+(a::NS).length) (a::NS) H n k b) (Nat.ble (0+(a::NS).length) 0):=by
  show L9 (Nat.beq z z) (DX (Nat.add 0 (len (a::NS))) λneed=>Bool.rec (motive:=λ_=>Prop) (Hw (CQ H id z 0 0) λOS=>Ku z bs OS (a::NS) H n k) (Hw (T.get H id) λb=>oL id 0 0 0 z need (a::NS) H n k b) (Nat.ble need 0))=_
  rw[Dl,VU,BL,len_eq];rfl
 rw[e0,show Nat.ble (0+(a::NS).length) 0=false by rw[Bool.eq_false_iff];intro hc;rw[Nat.ble_eq]at hc;simp at hc]
 show Hw (some []) (λOS=>Ku z bs OS (a::NS) H n k)
 rw[WR]
 unfold Ku
 rw[BL,BL,len_eq,len_eq,show QV (Nat.add ([]:ER).length (a::NS).length) bs=true from X7 (by rw[show Nat.add ([]:ER).length (a::NS).length=(a::NS).length from Nat.zero_add _];exact hr),VU]
 have e:Nat.add ([]:ER).length (a::NS).length=(a::NS).length:=Nat.zero_add _
 rw[e]
 refine hk _ _ ?_ (λj hj=>T.Ac _ _ (by omega)) (λi hi=>by cases hi;rfl)
 refine .Qq (LS:=a::NS) (T.Ah ..) (Nat.le_refl _) (λi L hi=>?_) (Nat.zero_le _)
 show T.get (Fj (a::NS) 0 .e) i=some L
 have hlt:=(List.getElem?_eq_some_iff.1 hi).1
 rw[Fq,if_pos ⟨Nat.zero_le _,by omega⟩];exact hi
inductive Sk(H:Heap)(z:Nat)(A:Nat->Prop):V->ER->Prop where
 |nil:Sk H z A .AY []
 |emp {id:Nat} {t:T LV} (hg:T.get H id=some (.arr z 0 t)) (ha:A id):Sk H z A (.sl id 0 0 0 z) []
 |Qq {id c:Nat} {t:T LV} {LS:ER} (hg:T.get H id=some (.arr z c t)) (hc:LS.length<=c) (ht:∀i L,LS[i]? =some L->T.get t i=some L) (ha:A id):Sk H z A (.Qq id 0 LS.length z) LS
section
variable{G:AX}{H H':Heap}{z n:Nat}{A B:Nat->Prop}{v:V}{LS:ER}
theorem Sk.own(h:Sk H z A v LS){id:Nat}(hid:v.XZ=some id):A id:=by cases h<;>cases hid<;>assumption
theorem Sk.mono(h:Sk H z A v LS)(hA:∀id,A id->B id)(hs:∀id,A id->T.get H' id=T.get H id):Sk H' z B v LS:=by
 cases h with
 |nil=>exact .nil
 |emp hg ha=>exact .emp ((hs _ ha).trans hg) (hA _ ha)
 |Qq hg hc ht ha=>exact .Qq ((hs _ ha).trans hg) hc ht (hA _ ha)
theorem Sk.AFK(h:Sk H z A v LS)(hA:∀id,v.XZ=some id->B id)(hs:∀id,v.XZ=some id->T.get H' id=T.get H id):Sk H' z B v LS:=by
 cases h with
 |nil=>exact .nil
 |emp hg ha=>exact .emp ((hs _ rfl).trans hg) (hA _ rfl)
 |Qq hg hc ht ha=>exact .Qq ((hs _ rfl).trans hg) hc ht (hA _ rfl)
theorem Sk.el(h:Sk H z A v LS)(hz:0<z):El G H v z LS:=by
 cases h with
 |nil=>exact⟨rfl,rfl⟩
 |emp hg ha=>
  refine⟨rfl,?_⟩
  show(Bool.rec (motive:=λ_=>Option ER) none (CQ H _ z 0 0) (Nat.beq z z):Option ER)=some []
  rw[Dl];rfl
 |Qq hg hc ht ha=>exact AQw (X8 _ _ _ rfl λi c hi=>by
  have hlt:=(List.getElem?_eq_some_iff.1 hi).1
  rw[Nat.zero_add,V5 hg hz (by omega)];exact ht i c hi)
theorem Sk.ok(h:Sk H z A v LS):Wl v=true/\Aq v=[v]/\F8 v v=true:=by
 cases h with
 |nil=>exact⟨rfl,rfl,rfl⟩
 |emp=>exact⟨rfl,rfl,AKI ..⟩
 |Qq=>exact⟨rfl,rfl,AOl ..⟩
theorem Sk.put{i:Nat}{q:IntKind}{w:V}{P:KV}(h:Sk H z A v LS)(hz:0<z)(hi:i<LS.length)(hw:Wl w=true)(hn:(Aq w).length=z)
 (hk:∀H',Sk H' z A v (LS.set i (Aq w))->(∀j,v.XZ≠some j->T.get H' j=T.get H j)->P .undef H' n):AP (Ag z v (.int q (.ofNat i) 0)) λp=>Ba z p w H n P:=by
 cases h with
 |nil=>simp at hi
 |emp=>simp at hi
 |Qq hg hc ht ha=>
  rename_i id c t
  refine ADo (AKb hi) ?_
  rw[Nat.zero_add]
  refine AEh hg hz (by omega) (ht i _ (List.getElem?_eq_getElem hi)) hw hn λH' g s=>?_
  refine hk H' ?_ λj hj=>s j λe=>hj (by rw[e];rfl)
  have hl:(LS.set i (Aq w)).length=LS.length:=by simp
  rw[<-hl]
  refine .Qq g (by rw[hl];exact hc) (λj L hj=>?_) ha
  by_cases e:i=j
  ·subst e
   rw[List.getElem?_set_self hi]at hj
   rw[T.Ah];exact hj
  ·rw[List.getElem?_set_ne e]at hj
   rw[T.Ac _ _ e];exact ht j L hj
theorem Sk.app{bs m:Nat}{c:V}{P:KV}{Z:LV}(h:Sk H z A v LS)(hn:∀id,v.XZ=some id->id<n)(hz:0<z)(hok:Wl c=true)(hc:(Aq c).length=z)(hb:(LS.length+1)*bs<=140737488355328)
 (hk:∀v' H',(∀B:Nat->Prop,B (n+1)->Sk H' z B v' (LS++[Aq c]))->(∀id,id<n->v.XZ≠some id->T.get H' id=T.get H id)->v'.XZ=some (n+1)->P v' H' (n+2)):
 Bf (Az z 1 Z [(0,.c c)] E0) H n λw H n=>Va z bs v w G H n P:=by
 refine yB (G:=G) (vs:=[c]) rfl hz (λv hv=>by simp at hv;subst hv;exact⟨hok,hc⟩) λH6 f6 _ hel=>?_
 have fin:∀{v':V} {H7:Heap},Gr G H7 0 z v' (LS++[Aq c])->(∀id,v'.XZ=some id->id=n+1)->v'.XZ=some (n+1)/\∀B:Nat->Prop,B (n+1)->Sk H7 z B v' (LS++[Aq c]):=by
  intro v' H7 hgr hlo
  generalize hX:LS++[Aq c]=X at hgr
  cases hgr with
  |nil=>simp at hX
  |Qq hg hc ht hid=>
   have e:=hlo _ rfl
   subst e
   exact⟨rfl,λB hB=>.Qq hg hc ht hB⟩
 cases h with
 |nil=>
  refine AHs (m:=0) .nil (by omega) (λ_ h=>by cases h) hel.2 hb ?_ (λh=>by cases h)
  intro v' H7 hgr hsame hlo
  obtain⟨q1,q2⟩:=fin (v':=v') hgr hlo
  exact hk v' H7 q2 (λid h1 h2=>(hsame id (by omega) h2).trans (f6.same id h1)) q1
 |emp hg ha=>
  rename_i id t
  have hid:=hn id rfl
  refine AHe (t:=t) hz hel.2 (by simpa using hb) ?_
  intro v' H7 hgr hsame hlo
  obtain⟨q1,q2⟩:=fin (v':=v') hgr hlo
  exact hk v' H7 q2 (λid h1 h2=>(hsame id (by omega)).trans (f6.same id h1)) q1
 |Qq hg hc' ht ha=>
  rename_i id c' t
  have hid:=hn id rfl
  have hgr:Gr G H6 0 z (.Qq id 0 LS.length z) LS:=.Qq ((f6.same id hid).trans hg) hc' ht (Nat.zero_le _)
  refine AHs (m:=0) hgr (by omega) (λj h=>by cases h;omega) hel.2 hb ?_ (λh=>by cases h)
  intro v' H7 hgr hsame hlo
  obtain⟨q1,q2⟩:=fin (v':=v') hgr hlo
  exact hk v' H7 q2 (λid h1 h2=>(hsame id (by omega) h2).trans (f6.same id h1)) q1
theorem Sk.pop{i:Nat}{q:IntKind}(h:Sk H z A v LS)(hi:i<LS.length):∃v',wG z v E0 none (some (.c (.int q (.ofNat i) 0))) none=some v'/\v'.XZ=v.XZ/\Sk H z A v' (LS.take i):=by
 cases h with
 |nil=>simp at hi
 |emp=>simp at hi
 |Qq hg hc ht ha=>
  rename_i id c t
  have hl:(LS.take i).length=i:=by rw[List.length_take];omega
  refine⟨.Qq id 0 i z,?_,rfl,?_⟩
  ·show BK (Nat.beq z z) (BK (band (Nat.ble 0 i) (Nat.ble i LS.length)) (f3 0 (i-0) 0 λo d _=>.Qq id o d z))=_
   rw[Dl,show Nat.ble 0 i=true by rw[Nat.ble_eq];omega,show Nat.ble i LS.length=true by rw[Nat.ble_eq];omega]
   show GU 0 (λa=>GU (i-0) λb=>GU 0 λ_=>some (.Qq id a b z))=_
   rw[EI,EI,EI,Nat.sub_zero]
  ·have:=Sk.Qq (z:=z) (LS:=LS.take i) hg (by rw[hl];omega) (λj L hj=>ht j L (by rw[List.getElem?_take]at hj;split at hj;exact hj;cases hj)) ha
   rw[hl]at this;exact this
end
theorem Ty.Oh{a b:Ty}:a.is b=true↔a=b:=by
 cases a with
 |mk n r=>
 cases b with
 |mk m s=>
 simp only[Ty.is,Bool.and_eq_true,decide_eq_true_eq,beq_iff_eq,Ty.mk.injEq]
 constructor
 ·rintro⟨⟨h1,h2⟩,h3⟩;exact⟨Prod.ext h1 h2,h3⟩
 ·rintro⟨rfl,rfl⟩;exact⟨⟨rfl,rfl⟩,rfl⟩
theorem Ty.y7(a:Ty):a.is a=true:=Ty.Oh.2 rfl
theorem Ty.V9{a b:Ty}:a.is b=false↔a≠b:=by rw[<-Bool.not_eq_true,Ty.Oh]
def Bq:Ty:=⟨(0,0),false⟩
def DV:Ty:=⟨(3,7630441),false⟩
def FY:Ty:=⟨(4,1819242338),false⟩
def CO:Ty:=⟨(4,1819047278),false⟩
def Ty.cls(t:Ty):Bool:=isClass t.nm.1 t.nm.2 t.arr
def Ty.obj(t:Ty):Bool:=t.arr||(t.cls||t.is CO)
def Gq(fs:Tab)(a b:St):Bool:=fC b (above fs a).1
def JZ(fs:Tab)(b:St):List St->St
 |[]=>(0,0)
 |c::cs=>bif Gq fs b c then c else JZ fs b cs
def JH(fs:Tab)(a b:St):St:=JZ fs b (above fs a).1
def fitsT(fs:Tab)(a b:Ty):Bool:=bif a.is b then true else bif a.is CO then b.obj else a.cls&&(b.cls&&Gq fs a.nm b.nm)
def E5(fs:Tab)(a b:Ty):Ty×Bool:=
 bif a.is b then(a,true)else bif a.is CO&&b.obj then(b,true)else bif b.is CO&&a.obj then(a,true)else
 bif (a.cls&&b.cls)&& !decide (JH fs a.nm b.nm=(0,0))then(⟨JH fs a.nm b.nm,false⟩,true)else(Bq,false)
theorem OT:CO.cls=false:=by decide
theorem dZ:Bq.cls=false:=by decide
theorem ADm:Bq.obj=false:=by decide
theorem ACx:∀(m:Nat) (fs:Tab) (out:List St) (s x:St),x∈(Hz m fs out s).1->x∈out∨x≠(0,0)
 |0,_,_,_,_,h=>.inl h
 |m+1,fs,out,s,x,h=>by
  unfold Hz at h
  cases h0:decide (s.1=0/\s.2=0)with
  |true=>rw[h0]at h;exact .inl h
  |false=>
   rw[h0,cond_false]at h
   cases hl:Ci fs s with
   |none=>rw[hl]at h;exact .inl h
   |some c=>
    rw[hl]at h
    cases hh:fC s out with
    |true=>simp only[hh,cond_true]at h;exact .inl h
    |false=>
     simp only[hh,cond_false]at h
     rcases ACx m fs _ _ x h with h|h
     ·rcases List.mem_append.1 h with h|h
      ·exact .inl h
      ·rw[List.mem_singleton.1 h];exact .inr λe=>by rw[e]at h0;simp at h0
     ·exact .inr h
def Whole(fs:Tab):Prop:=∀s c,Ci fs s=some c->(above fs s).2=true
inductive Chain(fs:Tab):St->List St->Prop
 |nil:Chain fs (0,0) []
 |cons {s:St} {c:Fc} {l:List St} (h0:s≠(0,0)) (hl:Ci fs s=some c) (t:Chain fs c.sup l):Chain fs s (s::l)
theorem tY:∀(m:Nat) (fs:Tab) (out:List St) (s:St) (r:List St),Hz m fs out s=(r,true)->∃l,r=out++l/\Chain fs s l
 |0,_,_,_,_,h=>by simp[Hz]at h
 |m+1,fs,out,s,r,h=>by
  unfold Hz at h
  cases h0:decide (s.1=0/\s.2=0)with
  |true=>
   rw[h0]at h
   have e:s=(0,0):=by have:=of_decide_eq_true h0;exact Prod.ext this.1 this.2
   subst e
   cases h
   exact⟨[],by simp,.nil⟩
  |false=>
   rw[h0,cond_false]at h
   cases hl:Ci fs s with
   |none=>rw[hl]at h;cases h
   |some c=>
    rw[hl]at h
    cases hh:fC s out with
    |true=>simp only[hh,cond_true]at h;cases h
    |false=>
     simp only[hh,cond_false]at h
     obtain⟨l,rfl,hc⟩:=tY m fs _ _ r h
     exact⟨s::l,by simp,.cons (λe=>by rw[e]at h0;simp at h0) hl hc⟩
theorem Chain.det{fs:Tab}:∀{s:St} {l m:List St},Chain fs s l->Chain fs s m->l=m
 |_,_,_,.nil,.nil=>rfl
 |_,_,_,.nil,.cons h _ _=>absurd rfl h
 |_,_,_,.cons h _ _,.nil=>absurd rfl h
 |_,_,_,.cons _ h1 t1,.cons _ h2 t2=>by
  rw[h1]at h2;cases h2
  rw[t1.det t2]
theorem ET{fs:Tab}{s:St}(h:(above fs s).2=true):Chain fs s (above fs s).1:=by
 obtain⟨l,h1,h2⟩:=tY _ fs [] s (above fs s).1 (by rw[<-h];rfl)
 rw[List.nil_append]at h1
 rw[h1];exact h2
theorem Chain.suffix{fs:Tab}:∀{s x:St} {l:List St},Chain fs s l->x∈l->∃p m,l=p++m/\Chain fs x m
 |_,_,_,.nil,h=>by cases h
 |s,x,_,.cons (l:=l) h0 hl t,h=>by
  rcases List.mem_cons.1 h with rfl|h
  ·exact⟨[],_,rfl,.cons h0 hl t⟩
  ·obtain⟨p,m,e,hc⟩:=t.suffix h
   exact⟨s::p,m,by rw[e];rfl,hc⟩
theorem Chain.known{fs:Tab}:∀{s x:St} {l:List St},Chain fs s l->x∈l->∃c,Ci fs x=some c
 |_,_,_,.nil,h=>by cases h
 |s,x,_,.cons h0 hl t,h=>by
  rcases List.mem_cons.1 h with rfl|h
  ·exact⟨_,hl⟩
  ·exact t.known h
theorem Chain.hd{fs:Tab}{s:St}{l:List St}(h:Chain fs s l)(h0:s≠(0,0)):s∈l:=by
 cases h with
 |nil=>exact absurd rfl h0
 |cons=>exact List.mem_cons_self ..
section
variable{fs:Tab}(hw:Whole fs)
include hw
omit hw in
theorem Jw{a x:St}(h:x∈(above fs a).1):∃c,Ci fs a=some c:=by
 unfold above Hz at h
 cases h0:decide (a.1=0/\a.2=0)with
 |true=>rw[h0]at h;cases h
 |false=>
  rw[h0,cond_false]at h
  cases hl:Ci fs a with
  |none=>rw[hl]at h;cases h
  |some c=>exact⟨c,rfl⟩
theorem VG{a b:St}(h:b∈(above fs a).1):∃p,(above fs a).1=p++(above fs b).1/\b∈(above fs b).1:=by
 obtain⟨c,hc⟩:=Jw h
 have ha:=ET (hw a c hc)
 obtain⟨p,m,e,hm⟩:=ha.suffix h
 obtain⟨d,hd⟩:=ha.known h
 have hb:=ET (hw b d hd)
 have:=hm.det hb
 subst this
 have h0:b≠(0,0):=by
  rcases ACx _ _ _ _ _ h with h|h
  ·cases h
  ·exact h
 exact⟨p,e,hb.hd h0⟩
theorem yD{a b c:St}(h1:Gq fs a b=true)(h2:Gq fs b c=true):Gq fs a c=true:=by
 unfold Gq at*
 rw[Nv]at*
 obtain⟨p,e,_⟩:=VG hw h1
 rw[e];exact List.mem_append_right _ h2
theorem ACw{b:St}:∀{l:List St} {a:St},Chain fs a l->∀u,u∈l->Gq fs b u=true->JZ fs b l≠(0,0)/\JZ fs b l∈l/\Gq fs b (JZ fs b l)=true/\Gq fs (JZ fs b l) u=true
 |_,_,.nil,u,h,_=>by cases h
 |_,_,.cons (s:=s) (l:=l) h0 hl t,u,h,hu=>by
  unfold JZ
  cases hb:Gq fs b s with
  |true=>
   refine⟨h0,List.mem_cons_self ..,hb,?_⟩
   have hc:=ET (hw s _ hl)
   have e:=(Chain.cons h0 hl t).det hc
   unfold Gq
   rw[Nv]
   show u∈(above fs s).1
   rw[<-e];exact h
  |false=>
   rcases List.mem_cons.1 h with rfl|h
   ·rw[hu]at hb;cases hb
   ·obtain⟨h1,h2,h3,h4⟩:=ACw t u h hu
    exact⟨h1,List.mem_cons_of_mem _ h2,h3,h4⟩
omit hw in
theorem wZ{b:St}:∀{l:List St},JZ fs b l≠(0,0)->JZ fs b l∈l/\Gq fs b (JZ fs b l)=true
 |[],h=>absurd rfl h
 |c::l,h=>by
  unfold JZ at*
  cases hb:Gq fs b c with
  |true=>exact⟨List.mem_cons_self ..,hb⟩
  |false=>
   rw[hb,cond_false]at h
   obtain⟨h1,h2⟩:=wZ h
   exact⟨List.mem_cons_of_mem _ h1,h2⟩
end
def Upper(fs:Tab):Prop:=∀s c,Ci fs s=some c->upper s.1 s.2=true
theorem F9{fs:Tab}{a b:Ty}:fitsT fs a b=true↔a=b∨(a=CO/\b.obj=true)∨(a.cls=true/\b.cls=true/\Gq fs a.nm b.nm=true):=by
 unfold fitsT
 cases h:a.is b with
 |true=>simp[Ty.Oh.1 h]
 |false=>
  have hne:=Ty.V9.1 h
  cases h2:a.is CO with
  |true=>
   have e:=Ty.Oh.1 h2
   subst e
   have:=OT
   simp[hne,this]
  |false=>
   have hne2:=Ty.V9.1 h2
   simp[hne,hne2,Bool.and_eq_true]
theorem Jy(fs:Tab)(a:Ty):fitsT fs a a=true:=F9.2 (.inl rfl)
theorem ADR{a:Ty}(h:a.cls=true):a.obj=true:=by unfold Ty.obj;rw[h];simp
theorem AAy:CO.obj=true:=by decide
theorem AFO{a:Ty}(h:a.cls=true):a≠CO:=λe=>by rw[e,OT]at h;cases h
section
variable{fs:Tab}(hw:Whole fs)
include hw
theorem qA{a b c:Ty}(h1:fitsT fs a b=true)(h2:fitsT fs b c=true):fitsT fs a c=true:=by
 rw[F9]at*
 rcases h1 with rfl|⟨rfl,h1⟩|⟨h1,h2',h3⟩
 ·exact h2
 ·rcases h2 with rfl|⟨rfl,h2⟩|⟨h4,h5,_⟩
  ·exact .inr (.inl ⟨rfl,h1⟩)
  ·exact .inr (.inl ⟨rfl,h2⟩)
  ·exact .inr (.inl ⟨rfl,ADR h5⟩)
 ·rcases h2 with rfl|⟨rfl,h2⟩|⟨h4,h5,h6⟩
  ·exact .inr (.inr ⟨h1,h2',h3⟩)
  ·rw[OT]at h2';cases h2'
  ·exact .inr (.inr ⟨h1,h5,yD hw h3 h6⟩)
omit hw in
theorem X9{a b:Ty}(h:fitsT fs a b=true)(hb:b.obj=true):a.obj=true:=by
 rw[F9]at h
 rcases h with rfl|⟨rfl,h1⟩|⟨h1,_,_⟩
 ·exact hb
 ·exact AAy
 ·exact ADR h1
omit hw in
theorem ABZ{a b:Ty}(h:fitsT fs a b=true)(hb:b.obj=false):a=b:=by
 rw[F9]at h
 rcases h with rfl|⟨rfl,h1⟩|⟨_,h1,_⟩
 ·rfl
 ·rw[hb]at h1;cases h1
 ·rw[ADR h1]at hb;cases hb
variable(hu:Upper fs)
include hu
theorem AEQ{a b j:Ty}(h:E5 fs a b=(j,true)):fitsT fs a j=true/\fitsT fs b j=true:=by
 unfold E5 at h
 cases h1:a.is b with
 |true=>
  rw[h1]at h;cases h
  have:=Ty.Oh.1 h1;subst this
  exact⟨Jy ..,Jy ..⟩
 |false=>
  rw[h1,cond_false]at h
  cases h2:a.is CO&&b.obj with
  |true=>
   rw[h2]at h;cases h
   rw[Bool.and_eq_true]at h2
   exact⟨F9.2 (.inr (.inl ⟨Ty.Oh.1 h2.1,h2.2⟩)),Jy ..⟩
  |false=>
   rw[h2,cond_false]at h
   cases h3:b.is CO&&a.obj with
   |true=>
    rw[h3]at h;cases h
    rw[Bool.and_eq_true]at h3
    exact⟨Jy ..,F9.2 (.inr (.inl ⟨Ty.Oh.1 h3.1,h3.2⟩))⟩
   |false=>
    rw[h3,cond_false]at h
    cases h4:(a.cls&&b.cls)&& !decide (JH fs a.nm b.nm=(0,0))with
    |false=>rw[h4]at h;cases h
    |true=>
     rw[h4]at h;cases h
     simp only[Bool.and_eq_true,Bool.not_eq_true',decide_eq_false_iff_not]at h4
     obtain⟨⟨ha,hb⟩,hc⟩:=h4
     obtain⟨m1,m2⟩:=wZ (fs:=fs) hc
     have hk:∃c,Ci fs (JH fs a.nm b.nm)=some c:=by
      have m1':JH fs a.nm b.nm∈(above fs a.nm).1:=m1
      obtain⟨c,hc⟩:=Jw m1'
      exact(ET (hw _ _ hc)).known m1'
     obtain⟨c,hk⟩:=hk
     have hcls:(⟨JH fs a.nm b.nm,false⟩:Ty).cls=true:=by
      show(!false&&upper _ _)=true
      rw[hu _ _ hk];rfl
     exact⟨F9.2 (.inr (.inr ⟨ha,hcls,by unfold Gq;rw[Nv];exact m1⟩)),F9.2 (.inr (.inr ⟨hb,hcls,m2⟩))⟩
omit hw hu in
theorem sO{a:Ty}(h:a.cls=true):a.arr=false:=by
 unfold Ty.cls isClass at h
 cases ha:a.arr with
 |true=>rw[ha]at h;cases h
 |false=>rfl
theorem AF8{a b u:Ty}(h1:fitsT fs a u=true)(h2:fitsT fs b u=true):∃j,E5 fs a b=(j,true)/\fitsT fs j u=true:=by
 unfold E5
 cases e1:a.is b with
 |true=>exact⟨a,rfl,h1⟩
 |false=>
  have hne:=Ty.V9.1 e1
  rw[cond_false]
  cases e2:a.is CO&&b.obj with
  |true=>exact⟨b,rfl,h2⟩
  |false=>
   rw[cond_false]
   cases e3:b.is CO&&a.obj with
   |true=>exact⟨a,rfl,h1⟩
   |false=>
    rw[cond_false]
    have na:a≠CO:=λe=>by
     subst e
     rw[Ty.y7,Bool.true_and]at e2
     rcases F9.1 h1 with rfl|⟨_,hu'⟩|⟨h,_,_⟩
     ·have:=X9 h2 AAy;rw[this]at e2;cases e2
     ·have:=X9 h2 hu';rw[this]at e2;cases e2
     ·rw[OT]at h;cases h
    have nb:b≠CO:=λe=>by
     subst e
     rw[Ty.y7,Bool.true_and]at e3
     rcases F9.1 h2 with rfl|⟨_,hu'⟩|⟨h,_,_⟩
     ·have:=X9 h1 AAy;rw[this]at e3;cases e3
     ·have:=X9 h1 hu';rw[this]at e3;cases e3
     ·rw[OT]at h;cases h
    have fin:∀{x y:St},a.cls=true->b.cls=true->u.cls=true->u.nm∈(above fs a.nm).1->Gq fs b.nm u.nm=true->∃j,(bif (a.cls&&b.cls)&& !decide (JH fs a.nm b.nm=(0,0))then((⟨JH fs a.nm b.nm,false⟩:Ty),true)else(Bq,false))=(j,true)/\fitsT fs j u=true:=by
     intro _ _ ca cb cu hin hbl
     obtain⟨c,hc⟩:=Jw hin
     obtain⟨q1,q2,q3,q4⟩:=ACw hw (b:=b.nm) (ET (hw _ _ hc)) u.nm hin hbl
     rw[ca,cb,show JH fs a.nm b.nm=JZ fs b.nm (above fs a.nm).1 from rfl,decide_eq_false q1]
     refine⟨_,rfl,F9.2 (.inr (.inr ⟨?_,cu,q4⟩))⟩
     obtain⟨d,hd⟩:=(ET (hw _ _ hc)).known q2
     show(!false&&upper _ _)=true
     rw[hu _ _ hd];rfl
    have self:∀{x:Ty},x.cls=true->(∃y,y∈(above fs x.nm).1)->x.nm∈(above fs x.nm).1:=λ{x} hx ⟨y,hy⟩=>by
     obtain⟨c,hc⟩:=Jw hy
     refine(ET (hw _ _ hc)).hd λe=>?_
     unfold Ty.cls isClass upper at hx
     rw[e]at hx
     simp at hx
    rcases F9.1 h1 with rfl|⟨h,_⟩|⟨a1,a2,a3⟩
    ·rcases F9.1 h2 with rfl|⟨h,_⟩|⟨b1,b2,b3⟩
     ·exact absurd rfl hne
     ·exact absurd h nb
     ·have hin:a.nm∈(above fs a.nm).1:=by
       have h5:a.nm∈(above fs b.nm).1:=by unfold Gq at b3;rw[Nv]at b3;exact b3
       exact(VG hw h5).elim λ_ h=>h.2
      exact fin (x:=(0,0)) (y:=(0,0)) b2 b1 b2 hin b3
    ·exact absurd h na
    ·rcases F9.1 h2 with rfl|⟨h,_⟩|⟨b1,b2,b3⟩
     ·have h5:b.nm∈(above fs a.nm).1:=by unfold Gq at a3;rw[Nv]at a3;exact a3
      have h6:b.nm∈(above fs b.nm).1:=(VG hw h5).elim λ_ h=>h.2
      exact fin (x:=(0,0)) (y:=(0,0)) a1 a2 a2 h5 (by unfold Gq;rw[Nv];exact h6)
     ·exact absurd h nb
     ·exact fin (x:=(0,0)) (y:=(0,0)) a1 b1 a2 (by unfold Gq at a3;rw[Nv]at a3;exact a3) b3
end
structure Ce where
 loc:List Ty
 stk:List Ty
structure Cx where
 fs:Tab
 pool:Pool
 max:Int
 ret:Ty
 code:List Ins
def Dh(fs:Tab):List Ty->List Ty->Option (List Ty)
 |[],s=>some s
 |_::_,[]=>none
 |w::ws,t::s=>bif fitsT fs t w then Dh fs ws s else none
def CW(mx:Int)(t:Ty)(s:List Ty):Option (List Ty):=bif decide (((s.length+1:Nat):Int)<=mx)then some (t::s)else none
def Cx.cl(c:Cx)(i:Int):Ty:=⟨c.pool.names.getD i.toNat (0,0),false⟩
def Cx.ty(c:Cx)(i:Int):Ty:=c.pool.types.getD i.toNat Bq
def fZ:PF:=⟨⟨(0,0),Bq⟩,(0,0)⟩
def mZ:PM:=⟨⟨(0,0),false,[],Bq⟩,(0,0)⟩
def Cx.fl(c:Cx)(i:Int):PF:=c.pool.fields.getD i.toNat fZ
def Cx.me(c:Cx)(i:Int):PM:=c.pool.DN.getD i.toNat mZ
def Qn(t:Ty):Ty:=⟨t.nm,false⟩
def dn(c:Cx)(x:Ins):Option (List Ty×Option Ty):=match x.code with
 |1=>some ([],some DV)|2=>some ([],some CO)|32=>some ([],some FY)
 |5=>some ([DV,DV],some DV)|6=>some ([DV,DV],some DV)|7=>some ([DV,DV],some DV)|8=>some ([DV,DV],some DV)|9=>some ([DV,DV],some DV)
 |10=>some ([DV,DV],some FY)|11=>some ([DV,DV],some FY)
 |14=>some ([DV],some DV)|15=>some ([FY],some FY)
 |16=>some ([⟨(c.fl x.arg).own,false⟩],some (c.fl x.arg).f.ty)
 |17=>some ([(c.fl x.arg).f.ty,⟨(c.fl x.arg).own,false⟩],none)
 |18=>some ([],some (c.cl x.arg))
 |19=>bif (c.ty x.arg).arr then some ([DV],some (c.ty x.arg))else none
 |20=>bif (c.ty x.arg).arr then some ([DV,c.ty x.arg],some (Qn (c.ty x.arg)))else none
 |21=>bif (c.ty x.arg).arr then some ([Qn (c.ty x.arg),DV,c.ty x.arg],none)else none
 |25=>bif (c.me x.arg).m.st then none else some ((c.me x.arg).m.ps.reverse++[⟨(c.me x.arg).own,false⟩],some (c.me x.arg).m.ret)
 |26=>bif (c.me x.arg).m.st then some ((c.me x.arg).m.ps.reverse,some (c.me x.arg).m.ret)else none
 |27=>some ([],none)|28=>some ([FY],none)|29=>some ([c.ret],none)|30=>some ([DV],none)
 |_=>none
def qc(mx:Int):Option Ty->List Ty->Option (List Ty)
 |none,s=>some s
 |some t,s=>CW mx t s
def stepT(c:Cx)(s:Ce)(x:Ins):Option Ce:=match x.code with
 |3=>bif (s.loc.getD x.arg.toNat Bq).is Bq then none else(CW c.max (s.loc.getD x.arg.toNat Bq) s.stk).map λk=>⟨s.loc,k⟩
 |4=>match s.stk with|[]=>none|t::k=>some ⟨s.loc.set x.arg.toNat t,k⟩
 |12=>match s.stk with|a::b::k=>bif a.is b&& !a.obj then(CW c.max FY k).map λk=>⟨s.loc,k⟩else none|_=>none
 |13=>match s.stk with|a::b::k=>bif a.obj&&b.obj then(CW c.max FY k).map λk=>⟨s.loc,k⟩else none|_=>none
 |31=>match s.stk with|[]=>none|_::k=>some ⟨s.loc,k⟩
 |23=>match s.stk with|[]=>none|t::k=>bif t.cls||t.is CO then(CW c.max (c.cl x.arg) k).map λk=>⟨s.loc,k⟩else none
 |24=>match s.stk with|[]=>none|t::k=>bif t.cls||t.is CO then(CW c.max FY k).map λk=>⟨s.loc,k⟩else none
 |22=>match s.stk with|[]=>none|t::k=>bif t.arr||t.is CO then(CW c.max DV k).map λk=>⟨s.loc,k⟩else none
 |_=>(dn c x).bind λe=>(Dh c.fs e.1 s.stk).bind λk=>(qc c.max e.2 k).map λk=>⟨s.loc,k⟩
inductive ZM(R:Ty->Ty->Prop):List Ty->List Ty->Prop
 |nil:ZM R [] []
 |cons {a b:Ty} {l m:List Ty} (h:R a b) (t:ZM R l m):ZM R (a::l) (b::m)
theorem ZM.len{R:Ty->Ty->Prop}:∀{l m:List Ty},ZM R l m->l.length=m.length
 |_,_,.nil=>rfl
 |_,_,.cons _ t=>by simp[t.len]
theorem ZM.refl{R:Ty->Ty->Prop}(h:∀a,R a a):∀l,ZM R l l
 |[]=>.nil
 |a::l=>.cons (h a) (ZM.refl h l)
theorem ZM.trans{R:Ty->Ty->Prop}(h:∀a b c,R a b->R b c->R a c):∀{l m k:List Ty},ZM R l m->ZM R m k->ZM R l k
 |_,_,_,.nil,.nil=>.nil
 |_,_,_,.cons h1 t1,.cons h2 t2=>.cons (h _ _ _ h1 h2) (t1.trans h t2)
theorem ZM.getD{R:Ty->Ty->Prop}(h0:∀a,R a a):∀{l m:List Ty} (i:Nat) (z:Ty),ZM R l m->R (l.getD i z) (m.getD i z)
 |_,_,i,z,.nil=>by simpa using h0 z
 |_,_,0,z,.cons h _=>by simpa using h
 |_,_,i+1,z,.cons _ t=>by simpa using t.getD h0 i z
theorem ZM.set{R:Ty->Ty->Prop}{a b:Ty}(h:R a b):∀{l m:List Ty} (i:Nat),ZM R l m->ZM R (l.set i a) (m.set i b)
 |_,_,_,.nil=>.nil
 |_,_,0,.cons _ t=>.cons h t
 |_,_,i+1,.cons h' t=>.cons h' (t.set h i)
theorem uJ:Bq≠CO:=λh=>by have:=Ty.Oh.2 h;revert this;decide
def kW(fs:Tab)(a b:Ty):Prop:=fitsT fs a b=true
def iQ(fs:Tab)(a b:Ty):Prop:=b=Bq∨fitsT fs a b=true
def Ce.le(fs:Tab)(s t:Ce):Prop:=ZM (iQ fs) s.loc t.loc/\ZM (kW fs) s.stk t.stk
theorem Ce.le_refl(fs:Tab)(s:Ce):Ce.le fs s s:=⟨ZM.refl (λa=>.inr (Jy fs a)) _,ZM.refl (Jy fs) _⟩
section
variable{fs:Tab}(hw:Whole fs)
include hw
theorem AGo{a b c:Ty}(h1:iQ fs a b)(h2:iQ fs b c):iQ fs a c:=by
 rcases h2 with h2|h2
 ·exact .inl h2
 ·rcases h1 with rfl|h1
  ·rcases F9.1 h2 with rfl|⟨h,_⟩|⟨h,_,_⟩
   ·exact .inl rfl
   ·exact absurd h uJ
   ·rw[dZ]at h;cases h
  ·exact .inr (qA hw h1 h2)
theorem Ce.le_trans{a b c:Ce}(h1:Ce.le fs a b)(h2:Ce.le fs b c):Ce.le fs a c:=
 ⟨ZM.trans (R:=iQ fs) (λ_ _ _ a b=>AGo hw a b) h1.1 h2.1,ZM.trans (R:=kW fs) (λ_ _ _ a b=>qA hw a b) h1.2 h2.2⟩
theorem AGD:∀(ws:List Ty) {s t r:List Ty},ZM (kW fs) s t->Dh fs ws t=some r->∃q,Dh fs ws s=some q/\ZM (kW fs) q r
 |[],_,_,_,h,e=>by cases e;exact⟨_,rfl,h⟩
 |w::ws,_,_,_,.nil,e=>by cases e
 |w::ws,_,_,r,.cons (a:=a) (b:=b) h t,e=>by
  have e:(bif fitsT fs b w then Dh fs ws _ else none)=some r:=e
  cases hb:fitsT fs b w with
  |false=>rw[hb]at e;cases e
  |true=>
   rw[hb,cond_true]at e
   obtain⟨q,h1,h2⟩:=AGD ws t e
   refine⟨q,?_,h2⟩
   show(bif fitsT fs a w then Dh fs ws _ else none)=some q
   rw[qA hw h hb];exact h1
end
theorem AJE{fs:Tab}{mx:Int}{a b:Ty}{s t r:List Ty}(hab:kW fs a b)(h:ZM (kW fs) s t)(e:CW mx b t=some r):∃q,CW mx a s=some q/\ZM (kW fs) q r:=by
 unfold CW at*
 rw[h.len]
 cases hd:decide (((t.length+1:Nat):Int)<=mx)with
 |false=>rw[hd]at e;cases e
 |true=>rw[hd]at e;cases e;exact⟨_,rfl,.cons hab h⟩
theorem TR{fs:Tab}{mx:Int}{a b:Ty}{l m:List Ty}{s t:List Ty}{r:Ce}(hab:kW fs a b)(hl:ZM (iQ fs) l m)(h:ZM (kW fs) s t)(e:(CW mx b t).map (λk=>(⟨m,k⟩:Ce))=some r):
 ∃q,(CW mx a s).map (λk=>(⟨l,k⟩:Ce))=some q/\Ce.le fs q r:=by
 obtain⟨k,h1,h2⟩:=Option.map_eq_some_iff.1 e
 subst h2
 obtain⟨q,h3,h4⟩:=AJE hab h h1
 exact⟨⟨l,q⟩,by rw[h3];rfl,hl,h4⟩
theorem AIu{c:Cx}(hw:Whole c.fs){x:Ins}{s t r:Ce}(h:Ce.le c.fs s t)(e:stepT c t x=some r):∃q,stepT c s x=some q/\Ce.le c.fs q r:=by
 obtain⟨sl,ss⟩:=s
 obtain⟨tl,ts⟩:=t
 obtain⟨hl,hs⟩:=h
 have hl:ZM (iQ c.fs) sl tl:=hl
 have hs:ZM (kW c.fs) ss ts:=hs
 unfold stepT at*
 split at e
 ·
  cases hn:(tl.getD x.arg.toNat Bq).is Bq with
  |true=>simp only[hn,cond_true]at e;cases e
  |false=>
   simp only[hn,cond_false]at e
   have hf:kW c.fs (sl.getD x.arg.toNat Bq) (tl.getD x.arg.toNat Bq):=by
    rcases hl.getD (λa=>.inr (Jy _ a)) x.arg.toNat Bq with h|h
    ·rw[h]at hn;cases hn
    ·exact h
   have hn2:(sl.getD x.arg.toNat Bq).is Bq=false:=by
    rw[Ty.V9];intro h0
    rw[h0]at hf
    rcases F9.1 hf with h|⟨h,_⟩|⟨h,_,_⟩
    ·rw[<-h]at hn;cases hn
    ·exact absurd h uJ
    ·rw[dZ]at h;cases h
   simp only[hn2,cond_false]
   exact TR hf hl hs e
 ·cases hs with
  |nil=>cases e
  |cons h t=>cases e;exact⟨_,rfl,hl.set (.inr h) _,t⟩
 ·cases hs with
  |nil=>cases e
  | @cons a a' _ _ h t=>
   cases t with
   |nil=>cases e
   | @cons b b' k k' h' t=>
    have e:(bif a'.is b'&& !a'.obj then(CW c.max FY k').map λk=>(⟨tl,k⟩:Ce)else none)=some r:=e
    cases hc:a'.is b'&& !a'.obj with
    |false=>rw[hc]at e;cases e
    |true=>
     rw[hc,cond_true]at e
     simp only[Bool.and_eq_true,Bool.not_eq_true']at hc
     have hab:=Ty.Oh.1 hc.1
     have e1:=ABZ h hc.2
     have e2:=ABZ h' (hab▸hc.2)
     show ∃q,(bif a.is b&& !a.obj then(CW c.max FY k).map λk=>(⟨sl,k⟩:Ce)else none)=some q/\_
     rw[e1,e2,hc.1,hc.2]
     exact TR (Jy ..) hl t e
 ·cases hs with
  |nil=>cases e
  | @cons a a' _ _ h t=>
   cases t with
   |nil=>cases e
   | @cons b b' k k' h' t=>
    have e:(bif a'.obj&&b'.obj then(CW c.max FY k').map λk=>(⟨tl,k⟩:Ce)else none)=some r:=e
    cases hc:a'.obj&&b'.obj with
    |false=>rw[hc]at e;cases e
    |true=>
     rw[hc,cond_true]at e
     simp only[Bool.and_eq_true]at hc
     show ∃q,(bif a.obj&&b.obj then(CW c.max FY k).map λk=>(⟨sl,k⟩:Ce)else none)=some q/\_
     rw[X9 h hc.1,X9 h' hc.2]
     exact TR (Jy ..) hl t e
 ·cases hs with
  |nil=>cases e
  |cons h t=>cases e;exact⟨_,rfl,hl,t⟩
 ·cases hs with
  |nil=>cases e
  | @cons a a' k k' h t=>
   have e:(bif a'.cls||a'.is CO then(CW c.max (c.cl x.arg) k').map λk=>(⟨tl,k⟩:Ce)else none)=some r:=e
   cases hc:a'.cls||a'.is CO with
   |false=>rw[hc]at e;cases e
   |true=>
    rw[hc,cond_true]at e
    have hc2:(a.cls||a.is CO)=true:=by
     simp only[Bool.or_eq_true,Ty.Oh]at*
     rcases F9.1 h with rfl|⟨h,_⟩|⟨h,_,_⟩
     ·exact hc
     ·exact .inr h
     ·exact .inl h
    show ∃q,(bif a.cls||a.is CO then(CW c.max (c.cl x.arg) k).map λk=>(⟨sl,k⟩:Ce)else none)=some q/\_
    rw[hc2]
    exact TR (Jy ..) hl t e
 ·cases hs with
  |nil=>cases e
  | @cons a a' k k' h t=>
   have e:(bif a'.cls||a'.is CO then(CW c.max FY k').map λk=>(⟨tl,k⟩:Ce)else none)=some r:=e
   cases hc:a'.cls||a'.is CO with
   |false=>rw[hc]at e;cases e
   |true=>
    rw[hc,cond_true]at e
    have hc2:(a.cls||a.is CO)=true:=by
     simp only[Bool.or_eq_true,Ty.Oh]at*
     rcases F9.1 h with rfl|⟨h,_⟩|⟨h,_,_⟩
     ·exact hc
     ·exact .inr h
     ·exact .inl h
    show ∃q,(bif a.cls||a.is CO then(CW c.max FY k).map λk=>(⟨sl,k⟩:Ce)else none)=some q/\_
    rw[hc2]
    exact TR (Jy ..) hl t e
 ·cases hs with
  |nil=>cases e
  | @cons a a' k k' h t=>
   have e:(bif a'.arr||a'.is CO then(CW c.max DV k').map λk=>(⟨tl,k⟩:Ce)else none)=some r:=e
   cases hc:a'.arr||a'.is CO with
   |false=>rw[hc]at e;cases e
   |true=>
    rw[hc,cond_true]at e
    have hc2:(a.arr||a.is CO)=true:=by
     simp only[Bool.or_eq_true,Ty.Oh]at*
     rcases F9.1 h with rfl|⟨h,_⟩|⟨_,h,_⟩
     ·exact hc
     ·exact .inr h
     ·unfold Ty.cls isClass at h
      rcases hc with hc|hc
      ·rw[hc]at h;cases h
      ·rw[hc]at h;exact absurd h (by decide)
    show ∃q,(bif a.arr||a.is CO then(CW c.max DV k).map λk=>(⟨sl,k⟩:Ce)else none)=some q/\_
    rw[hc2]
    exact TR (Jy ..) hl t e
 ·obtain⟨f,h1,e⟩:=Option.bind_eq_some_iff.1 e
  obtain⟨k,h2,e⟩:=Option.bind_eq_some_iff.1 e
  obtain⟨q,h3,h4⟩:=AGD hw _ hs h2
  rw[h1]
  show ∃q,((Dh c.fs f.1 ss).bind λk=>(qc c.max f.2 k).map λk=>(⟨sl,k⟩:Ce))=some q/\_
  rw[h3]
  obtain⟨ps,o⟩:=f
  cases o with
  |none=>cases e;exact⟨_,rfl,hl,h4⟩
  |some u=>exact TR (Jy ..) hl h4 e
theorem X5{G:AX}{H:Heap}{n:Nat}{k:KV}(hk:∀H' n',Kp H n H' n'->k CO.v H' n'):Runs F G Iu [] H n k:=by
 refine BN (s:=ar0 (Sr lfp G)) Y2 (by obtain⟨h,o⟩:=lI BO G;rw[Y2]at h;cases h;exact o) ?_
 show Sr lfp G (Runs F G) H n k
 delta Sr
 simp only[go_sem,Nat.reduceAdd,show Ap [.str 0 0,.bool false] [(0,1,.c (.str 4 1819047278))]=some (.agg [.str 4 1819047278,.bool false])from rfl]
 exact hk _ _ (((Kp.refl H n).new (m:=n+1) _ (Nat.le_refl _) (by omega)).new _ (Nat.le_refl _) (Nat.le_refl _))
theorem jB{G:AX}{H:Heap}{n:Nat}{k:KV}(hk:∀H' n',Kp H n H' n'->k DV.v H' n'):Runs F G Kv [] H n k:=by
 refine BN (s:=ar0 (bP lfp G)) qV (by obtain⟨h,o⟩:=zK BO G;rw[qV]at h;cases h;exact o) ?_
 show bP lfp G (Runs F G) H n k
 delta bP
 simp only[go_sem,Nat.reduceAdd,show Ap [.str 0 0,.bool false] [(0,1,.c (.str 3 7630441))]=some (.agg [.str 3 7630441,.bool false])from rfl]
 exact hk _ _ (((Kp.refl H n).new (m:=n+1) _ (Nat.le_refl _) (by omega)).new _ (Nat.le_refl _) (Nat.le_refl _))
theorem AHA{G:AX}{H:Heap}{n:Nat}{k:KV}(hk:∀H' n',Kp H n H' n'->k FY.v H' n'):Runs F G og [] H n k:=by
 refine BN (s:=ar0 (YJ lfp G)) jf (by obtain⟨h,o⟩:=yA BO G;rw[jf]at h;cases h;exact o) ?_
 show YJ lfp G (Runs F G) H n k
 delta YJ
 simp only[go_sem,Nat.reduceAdd,show Ap [.str 0 0,.bool false] [(0,1,.c (.str 4 1819242338))]=some (.agg [.str 4 1819242338,.bool false])from rfl]
 exact hk _ _ (((Kp.refl H n).new (m:=n+1) _ (Nat.le_refl _) (by omega)).new _ (Nat.le_refl _) (Nat.le_refl _))
theorem BG{G:AX}{H:Heap}{i:Nat}{t:Ty}(h:T.get H i=some (one t.cells)):Af 2 (.ptr i 0) G H=some t.v:=CV h (by omega) rfl
theorem AMK{G:AX}{t:Ty}{H:Heap}{n:Nat}{k:KV}(hk:∀H' n',Kp H n H' n'->k (Qn t).v H' n'):Runs F G XK [t.v] H n k:=by
 refine BN (s:=N9 (O3 lfp G)) Vg (by obtain⟨h,o⟩:=dB BO G;rw[Vg]at h;cases h;exact o) ?_
 show O3 lfp G (Runs F G) t.v H n k
 delta O3
 refine FZ λH1 f1 g1=>?_
 refine BZ rfl λH2 f2 g2=>?_
 have g1':=f2.get g1 (by omega)
 simp only[go_sem,Nat.reduceAdd,AU (off:=0) g1' (v:=t.nm.v) rfl,show Ap [.str 0 0,.bool false] [(0,1,.c t.nm.v)]=some (.agg (Qn t).cells)from rfl]
 rw[Gt (m:=2) g2 (by omega) rfl rfl,Ei (m:=2) (T.Ah ..) (by omega) rfl]
 exact hk _ _ ((f1.trans f2).new _ (by omega) (Nat.le_refl _))
theorem AC0{G:AX}{t:Ty}(hl:t.nm.ok){H:Heap}{n:Nat}{k:KV}(hk:∀H' n',Kp H n H' n'->k (.bool t.cls) H' n'):Runs F G CY [t.v] H n k:=lu hl hk
theorem TB(t:Ty):F8 t.v t.v=true:=by
 show band (band (Nat.beq t.nm.1 t.nm.1) (Nat.beq t.nm.2 t.nm.2)) (band (AAF (.bool t.arr) t.arr) true)=true
 obtain⟨⟨l,c⟩,r⟩:=t
 cases r<;>simp[AAF,BM]<;>rfl
theorem AOU:CO.nm.ok:=by intro h;cases h
theorem bC{G:AX}{t:Ty}(hl:t.nm.ok){H:Heap}{n:Nat}{k:KV}(hk:∀H' n',Kp H n H' n'->k (.bool t.obj) H' n'):Runs F G Fe [t.v] H n k:=by
 refine BN (s:=N9 (LD lfp G)) TP (by obtain⟨h,o⟩:=YG BO G;rw[TP]at h;cases h;exact o) ?_
 show LD lfp G (Runs F G) t.v H n k
 delta LD
 refine FZ λH1 f1 g1=>?_
 unfold Ty.obj at hk
 simp only[go_sem,Nat.reduceAdd,AU (off:=1) g1 (v:=.bool t.arr) rfl]
 cases h1:t.arr with
 |true=>
  rw[h1]at hk
  simp only[go_sem]
  exact hk _ _ f1
 |false=>
  rw[h1]at hk
  simp only[go_sem,BG g1]
  refine AC0 hl λH2 n2 f2=>?_
  have f3:=f1.trans f2
  have g2:=f2.get g1 (by omega)
  cases h2:t.cls with
  |true=>
   rw[h2]at hk
   simp only[go_sem]
   exact hk _ _ f3
  |false=>
   rw[h2]at hk
   simp only[go_sem,BG g2]
   refine X5 λH4 n4 f4=>?_
   have f5:=f3.trans f4
   have g4:=f4.get g2 (by have:=f2.le;omega)
   refine ASi (BG g4) (TB t) ?_
   simp only[go_sem,oM]
   exact hk _ _ f5
theorem ADi{G:AX}{H:Heap}{n n0 t a b:Nat}{fs:Tab}(h:TabAt G H n0 t a b fs)(hn:n0<=n)(hfs:fs.length<=1000){x y:St}{k:KV}
 (hk:∀H' n',Kb b H n H' n'->k (.bool (Gq fs x y)) H' n'):Runs F G OQ [.ptr t 0,x.v,y.v] H n k:=by
 refine BN (s:=ar3 (J9 lfp G)) Ri (by obtain⟨h,o⟩:=XT BO G;rw[Ri]at h;cases h;exact o) ?_
 show J9 lfp G (Runs F G) (.ptr t 0) x.v y.v H n k
 delta J9
 have h:=h.kb (f:=⟨hn,λ_ _ _=>rfl,λh=>h⟩)
 refine Zo h hfs λH2 n2 v f2 ho hlen=>?_
 simp only[go_sem]
 refine ou (ho.el (by omega)) (by omega) ?_
 exact hk _ _ f2
theorem ALF{G:AX}{H:Heap}{n n0 t a b:Nat}{fs:Tab}(h:TabAt G H n0 t a b fs)(hn:n0<=n)(hfs:fs.length<=1000){x y:St}{k:KV}
 (hk:∀H' n',Kb b H n H' n'->k (JH fs x y).v H' n'):Runs F G Xc [.ptr t 0,x.v,y.v] H n k:=by
 refine BN (s:=ar3 (Jf lfp G)) QL (by obtain⟨h,o⟩:=WJ BO G;rw[QL]at h;cases h;exact o) ?_
 show Jf lfp G (Runs F G) (.ptr t 0) x.v y.v H n k
 delta Jf
 have h:=h.kb (f:=⟨hn,λ_ _ _=>rfl,λh=>h⟩)
 have hbn:=h.bn
 unfold JH at hk
 refine Zo h hfs λH2 n2 v f2 ho hlen=>?_
 generalize(above fs x).1=cs at ho hk hlen
 simp only[go_sem,(ho.el (by omega)).len,Gz]
 have h2n:=f2.le
 refine CJ (N:=cs.length) (J:=λi st=>∃H' n',st=(.ptr t 0,y.v,v,.int .i64 (.ofNat cs.length) 0,.int .i64 (.ofNat i) 0,H',n')/\Kb b H n H' n'/\Own G H' n n' 1 v (strs cs)/\
  (∀H' n',Kb b H n H' n'->k (JZ fs y (cs.drop i)).v H' n')) ?_ ?_ ⟨H2,n2,rfl,f2,ho,hk⟩
 ·rintro I i st hlt ⟨H3,n3,rfl,f3,ho,hk⟩ ih
  show Ht lfp G (Runs F G) k I (.ptr t 0) y.v v (.int .i64 (.ofNat cs.length) 0) (.int .i64 (.ofNat i) 0) H3 n3
  delta Ht
  obtain⟨q,hp,hld⟩:=(ho.el (by omega)).at (QB hlt)
  rw[List.drop_eq_getElem_cons hlt]at hk
  unfold JZ at hk
  generalize cs[i]=m at hld hk
  simp only[go_sem,Cc,hlt,decide_true,hp,L6 hld]
  refine ADi (h.kb f3) (Nat.le_refl _) hfs λH4 n4 f4=>?_
  have f5:=f3.trans f4
  cases hb:Gq fs y m with
  |true=>
   rw[hb]at hk
   simp only[go_sem]
   exact hk _ _ f5
  |false=>
   rw[hb]at hk
   simp only[go_sem,D7 (show i+1<9223372036854775808 by omega)]
   exact ih _ ⟨_,_,rfl,f5,ho.kb f4 hbn,hk⟩
 ·rintro I st ⟨H3,n3,rfl,f3,ho,hk⟩
  show Ht lfp G (Runs F G) k I (.ptr t 0) y.v v (.int .i64 (.ofNat cs.length) 0) (.int .i64 (.ofNat cs.length) 0) H3 n3
  delta Ht
  rw[List.drop_eq_nil_of_le (Nat.le_refl _)]at hk
  simp only[go_sem,Cc,Nat.lt_irrefl,decide_false]
  delta Oi
  exact hk _ _ f3
theorem vg:Ap [.str 0 0,.bool false] []=some Bq.v:=rfl
theorem ALQ{G:AX}{y:Ty}{c:Bool}{p:V}{H:Heap}{n:Nat}{P:V->Heap->Nat->Prop}(hy:y.nm.ok)(hld:Af 2 p G H=some y.v)(h:∀H' n',Kp H n H' n'->P (.bool (c&&y.obj)) H' n'):
 Aj (.bool c) true (Af 2 p G H) λv=>EN (.bool c) true (Runs F G Fe [v] H n) H n λw H n=>AP (BF (.bool c) w (.bool false)) λu=>P u H n:=by
 cases c with
 |false=>simp only[go_sem];exact h _ _ (Kp.refl _ _)
 |true=>
  simp only[go_sem,hld]
  exact bC hy λH' n' f=>h _ _ f
theorem AQ7{G:AX}{y:Ty}{c:Bool}{p:V}{H:Heap}{n:Nat}{P:V->Heap->Nat->Prop}(hy:y.nm.ok)(hld:Af 2 p G H=some y.v)(h:∀H' n',Kp H n H' n'->P (.bool (c&&y.cls)) H' n'):
 Aj (.bool c) true (Af 2 p G H) λv=>EN (.bool c) true (Runs F G CY [v] H n) H n λw H n=>AP (BF (.bool c) w (.bool false)) λu=>P u H n:=by
 cases c with
 |false=>simp only[go_sem];exact h _ _ (Kp.refl _ _)
 |true=>
  simp only[go_sem,hld]
  exact AC0 hy λH' n' f=>h _ _ f
theorem AQG{G:AX}{H:Heap}{n n0 t a b:Nat}{fs:Tab}(h:TabAt G H n0 t a b fs)(hn:n0<=n)(hfs:fs.length<=1000){x y:Ty}(hx:x.nm.ok)(hy:y.nm.ok){k:KV}
 (hk:∀H' n',Kb b H n H' n'->k (.bool (fitsT fs x y)) H' n'):Runs F G Zx [.ptr t 0,x.v,y.v] H n k:=by
 refine BN (s:=ar3 (Lh lfp G)) Tj (by obtain⟨h,o⟩:=YL BO G;rw[Tj]at h;cases h;exact o) ?_
 show Lh lfp G (Runs F G) (.ptr t 0) x.v y.v H n k
 delta Lh
 have h:=h.kb (f:=⟨hn,λ_ _ _=>rfl,λh=>h⟩)
 have hbn:=h.bn
 unfold fitsT at hk
 refine FZ λH1 f1 g1=>?_
 refine FZ λH2 f2 g2=>?_
 have f3:=(f1.trans f2).kb (b:=b) hbn
 have g1:=f2.get g1 (by omega)
 simp only[go_sem,BG g1,BG g2,oM]
 cases h1:x.is y with
 |true=>
  rw[h1]at hk
  simp only[go_sem]
  exact hk _ _ f3
 |false=>
  rw[h1]at hk
  simp only[go_sem,BG g1]
  refine X5 λH4 n4 f4=>?_
  have f5:=f3.trans (f4.kb (by omega))
  have g1:=f4.get g1 (by omega)
  have g2:=f4.get g2 (by omega)
  have hn4:=f4.le
  rw[BG g1,AB,TB,VU]
  simp only[go_sem,oM]
  cases h2:x.is CO with
  |true=>
   rw[h2]at hk
   simp only[go_sem,BG g2]
   refine bC hy λH6 n6 f6=>?_
   exact hk _ _ (f5.trans (f6.kb (by omega)))
  |false=>
   rw[h2]at hk
   simp only[go_sem,BG g1]
   refine AC0 hx λH6 n6 f6=>?_
   have f7:=f5.trans (f6.kb (by omega))
   have g1:=f6.get g1 (by omega)
   have g2:=f6.get g2 (by omega)
   have hn6:=f6.le
   cases h3:x.cls with
   |false=>
    rw[h3]at hk
    simp only[go_sem]
    exact hk _ _ f7
   |true=>
    rw[h3]at hk
    simp only[go_sem,BG g2]
    refine AC0 hy λH8 n8 f8=>?_
    have f9:=f7.trans (f8.kb (by omega))
    have g1:=f8.get g1 (by omega)
    have g2:=f8.get g2 (by omega)
    have hn8:=f8.le
    cases h4:y.cls with
    |false=>
     rw[h4]at hk
     simp only[go_sem]
     exact hk _ _ f9
    |true=>
     rw[h4]at hk
     simp only[go_sem,Nat.reduceAdd,AU (off:=0) g1 (v:=x.nm.v) rfl,AU (off:=0) g2 (v:=y.nm.v) rfl]
     refine ADi (h.kb f9) (Nat.le_refl _) hfs λH10 n10 f10=>?_
     exact hk _ _ (f9.trans f10)
theorem AJs{G:AX}{H:Heap}{n n0 i t a b fm:Nat}{vn:V}{fs:Tab}(h:S9 G H n0 i t a b fm vn fs)(hn:n0<=n)(hfs:fs.length<=1000){x y:Ty}(hx:x.nm.ok)(hy:y.nm.ok){k:KV}
 (hk:∀H' n',Kb b H n H' n'->k (.Di [(E5 fs x y).1.v,.bool (E5 fs x y).2]) H' n'):Runs F G aU [.ptr i 0,x.v,y.v] H n k:=by
 refine BN (s:=ar3 (Sl lfp G)) YU (by obtain⟨h,o⟩:=kY BO G;rw[YU]at h;cases h;exact o) ?_
 show Sl lfp G (Runs F G) (.ptr i 0) x.v y.v H n k
 delta Sl
 have h:=h.kb (f:=⟨hn,λ_ _ _=>rfl,λh=>h⟩)
 have hbn:=h.tab.bn
 unfold E5 at hk
 refine FZ λH1 f1 g1=>?_
 refine FZ λH2 f2 g2=>?_
 refine BZ rfl λH3 f3 g3=>?_
 have f:=((f1.trans f2).trans f3).kb (b:=b) hbn
 have g1:=(f2.trans f3).get g1 (by omega)
 have g2:=f3.get g2 (by omega)
 have out:∀(H':Heap) (n':Nat) (L:LV) (r:Ty) (ok:Bool),Kb b H n H' n'->n+2<n'->T.get H' (n+2)=some (one L)->L.length=2->(∀H' n',Kb b H n H' n'->k (.Di [r.v,.bool ok]) H' n')->
  Ba 2 (.ptr (n+2) 0) r.v H' n' λ_ H n1=>Hw (Du [.cn (.ptr (n+2) 0) 2,.t (.bool ok)] G H) λl=>k (IC l) H n1:=by
  intro H' n' L r ok f hn g hL hk
  show Ba 2 (.ptr (n+2) 0) (.agg r.cells) H' n' _
  rw[Gt (m:=2) g (by omega) hL rfl,Ei (m:=2) (T.Ah ..) (by omega) rfl]
  exact hk _ _ (f.trans' (m:=n') (λid hid=>T.Ac _ _ (by omega)) (Nat.le_refl _) hbn)
 simp only[go_sem,BG g1,BG g2,oM]
 cases h1:x.is y with
 |true=>
  rw[h1]at hk
  simp only[go_sem,BG g1]
  exact out _ _ _ _ _ f (by omega) g3 rfl hk
 |false=>
  rw[h1]at hk
  simp only[go_sem,BG g1]
  refine X5 λH4 n4 f4=>?_
  have f:=f.trans (f4.kb (by omega))
  have g1:=f4.get g1 (by omega)
  have g2:=f4.get g2 (by omega)
  have g3:=f4.get g3 (by omega)
  have hn4:=f4.le
  rw[BG g1,AB,TB,VU]
  simp only[go_sem,oM]
  have fin2:∀(H':Heap) (n':Nat),Kb b H n H' n'->n+2<n'->T.get H' (n+2)=some (one [.str 0 0,.bool false])->(∀H' n',Kb b H n H' n'->k (.Di [Bq.v,.bool false]) H' n')->Nz lfp G (Runs F G) k (.ptr (n+2) 0) H' n':=by
   intro H' n' f hn g hk
   delta Nz
   rw[vg,AB]
   exact out _ _ _ Bq _ f hn g rfl hk
  refine ALQ hy (BG g2) λH5 n5 f5=>?_
  have f:=f.trans (f5.kb (by omega))
  have g1:=f5.get g1 (by omega)
  have g2:=f5.get g2 (by omega)
  have g3:=f5.get g3 (by omega)
  have hn5:=f5.le
  cases h2:x.is CO&&y.obj with
  |true=>
   rw[h2]at hk
   simp only[go_sem,BG g2]
   exact out _ _ _ _ _ f (by omega) g3 rfl hk
  |false=>
  rw[h2]at hk
  simp only[go_sem,BG g2]
  refine X5 λH6 n6 f6=>?_
  have f:=f.trans (f6.kb (by omega))
  have g1:=f6.get g1 (by omega)
  have g2:=f6.get g2 (by omega)
  have g3:=f6.get g3 (by omega)
  have hn6:=f6.le
  rw[BG g2,AB,TB,VU]
  simp only[go_sem,oM]
  refine ALQ hx (BG g1) λH7 n7 f7=>?_
  have f:=f.trans (f7.kb (by omega))
  have g1:=f7.get g1 (by omega)
  have g2:=f7.get g2 (by omega)
  have g3:=f7.get g3 (by omega)
  have hn7:=f7.le
  cases h3:y.is CO&&x.obj with
  |true=>
   rw[h3]at hk
   simp only[go_sem,BG g1]
   exact out _ _ _ _ _ f (by omega) g3 rfl hk
  |false=>
  rw[h3]at hk
  simp only[go_sem,BG g1]
  refine AC0 hx λH8 n8 f8=>?_
  have f:=f.trans (f8.kb (by omega))
  have g1:=f8.get g1 (by omega)
  have g2:=f8.get g2 (by omega)
  have g3:=f8.get g3 (by omega)
  have hn8:=f8.le
  refine AQ7 hy (BG g2) λH9 n9 f9=>?_
  have f:=f.trans (f9.kb (by omega))
  have g1:=f9.get g1 (by omega)
  have g2:=f9.get g2 (by omega)
  have g3:=f9.get g3 (by omega)
  have hn9:=f9.le
  cases h4:x.cls&&y.cls with
  |false=>
   rw[h4]at hk
   simp only[go_sem]
   exact fin2 _ _ f (by omega) g3 hk
  |true=>
  rw[h4]at hk
  have hi:=h.kb f
  simp only[go_sem,Nat.reduceAdd,AU (off:=0) g1 (v:=x.nm.v) rfl,AU (off:=0) g2 (v:=y.nm.v) rfl,AU (off:=0) hi.at' (v:=.ptr t 0) rfl]
  refine ALF hi.tab (Nat.le_refl _) hfs λH7 n7 f7=>?_
  have f:=f.trans f7
  have g3:=f7.get g3 (by omega) (by omega)
  have hn7:=f7.le
  rw[show CX (.one .str) true (JH fs x.nm y.nm).v (.str 0 0)=some (.bool (!decide (JH fs x.nm y.nm=(0,0))))by
   unfold St.v;rw[AMm,show decide ((JH fs x.nm y.nm).1=0/\(JH fs x.nm y.nm).2=0)=decide (JH fs x.nm y.nm=(0,0))by rw[decide_eq_decide,Prod.ext_iff]]]
  simp only[go_sem]
  cases h5:decide (JH fs x.nm y.nm=(0,0))with
  |true=>
   rw[h5]at hk
   simp only[Bool.not_true,go_sem]
   exact fin2 _ _ f (by omega) g3 hk
  |false=>
   rw[h5]at hk
   simp only[Bool.not_false,go_sem]
   refine uO λH8 n8 f8=>?_
   exact out _ _ _ ⟨JH fs x.nm y.nm,false⟩ true (f.trans (f8.kb (by omega))) (by have:=f8.le;omega) (f8.get g3 (by omega)) rfl hk
structure Kw(b m:Nat)(H:Heap)(n:Nat)(H':Heap)(n':Nat):Prop where
 le:n<=n'
 kb:Kb b H m H' m
theorem Kw.refl(b m:Nat)(H:Heap)(n:Nat):Kw b m H n H n:=⟨Nat.le_refl _,Kb.refl ..⟩
theorem Kw.trans{b m n n' n'':Nat}{H H' H'':Heap}(x:Kw b m H n H' n')(y:Kw b m H' n' H'' n''):Kw b m H n H'' n'':=⟨Nat.le_trans x.le y.le,x.kb.trans y.kb⟩
theorem Kb.kw{b m n n':Nat}{H H':Heap}(x:Kb b H n H' n')(hm:m<=n):Kw b m H n H' n':=⟨x.le,x.low hm⟩
theorem _root_.Go.Bh.Kp.kw{b m n n':Nat}{H H':Heap}(x:Kp H n H' n')(hm:m<=n)(hb:b<m):Kw b m H n H' n':=(x.kb (b:=b) (by omega)).kw hm
theorem Kw.of{b m n n':Nat}{H H':Heap}(hb:b<m)(hn:n<=n')(h:∀id,id<m->T.get H' id=T.get H id):Kw b m H n H' n':=
 ⟨hn,Nat.le_refl _,λid h1 _=>h id h1,λhs=>hs.same (h b hb)⟩
structure JF(H:Heap)(m n q:Nat)(s:Ce):Prop where
 mk'::
 mq:m<=q
 qn:q<n
 is:∃vl vs,T.get H q=some (one [vl,vs])/\Sk H 2 (λid=>m<=id/\id<n/\id≠q) vl (tys s.loc)/\Sk H 2 (λid=>m<=id/\id<n/\id≠q) vs (tys s.stk.reverse)/\(∀id,vl.XZ=some id->vs.XZ≠some id)
 ol:∀t∈s.loc,t.nm.ok
 os:∀t∈s.stk,t.nm.ok
 bl:s.loc.length<=100000
 bs:s.stk.length<=100000
theorem JF.mono{H H':Heap}{m n n' q:Nat}{s:Ce}(h:JF H m n q s)(hn:n<=n')(e:∀id,m<=id->id<n->T.get H' id=T.get H id):JF H' m n' q s:=by
 obtain⟨vl,vs,g,h1,h2,hd⟩:=h.is
 exact⟨h.mq,Nat.lt_of_lt_of_le h.qn hn,⟨vl,vs,(e q h.mq h.qn).trans g,h1.mono (λid ⟨a,b,c⟩=>⟨a,Nat.lt_of_lt_of_le b hn,c⟩) (λid ⟨a,b,c⟩=>e id a b),
  h2.mono (λid ⟨a,b,c⟩=>⟨a,Nat.lt_of_lt_of_le b hn,c⟩) (λid ⟨a,b,c⟩=>e id a b),hd⟩,h.ol,h.os,h.bl,h.bs⟩
theorem JF.kb{H H':Heap}{m n n' q b:Nat}{s:Ce}(h:JF H m n q s)(f:Kb b H n H' n')(hb:b<m):JF H' m n' q s:=
 h.mono f.le λid h1 h2=>f.same id h2 (by omega)
theorem JF.kp{H H':Heap}{m n n' q:Nat}{s:Ce}(h:JF H m n q s)(f:Kp H n H' n'):JF H' m n' q s:=h.mono f.le λid _ h2=>f.same id h2
theorem AQz{v:V}{H:Heap}{z:Nat}{A:Nat->Prop}{LS:ER}(h:Sk H z A v LS):v=.AY/\LS=[]∨CX .sl false v .AY=some (.bool false):=by
 cases h with
 |nil=>exact .inl ⟨rfl,rfl⟩
 |emp=>exact .inr rfl
 |Qq=>exact .inr rfl
theorem AKq{G:AX}{H:Heap}{n id z bs:Nat}{t:T LV}{w:V}{k:KV}(hg:T.get H id=some (.arr z 0 t))(hw:elems w G H z=some [])
 (hk:∀H',(∀j,T.get H' j=T.get H j)->k (.sl id 0 0 0 z) H' n):Va z bs (.sl id 0 0 0 z) w G H n k:=by
 unfold Va
 rw[hw,WR]
 have e0:ADQ (.sl id 0 0 0 z) G z bs [] H n k=Bool.rec (motive:=λ_=>Prop) (Hw (CQ H id z 0 0) λOS=>Ku z bs OS [] H n k) (Hw (T.get H id) λb=>oL id 0 0 0 z (0+([]:ER).length) [] H n k b) (Nat.ble (0+([]:ER).length) 0):=by
  show L9 (Nat.beq z z) (DX (Nat.add 0 (len ([]:ER))) λneed=>Bool.rec (motive:=λ_=>Prop) (Hw (CQ H id z 0 0) λOS=>Ku z bs OS [] H n k) (Hw (T.get H id) λb=>oL id 0 0 0 z need [] H n k b) (Nat.ble need 0))=_
  rw[Dl,VU,BL,len_eq];rfl
 rw[e0]
 show Hw (T.get H id) (λb=>oL id 0 0 0 z (0+0) [] H n k b)
 rw[hg,WR]
 show L9 (band (Nat.beq z z) (Nat.ble (Nat.add 0 (0+0)) 0)) (k (.sl id 0 (0+0) 0 z) (T.set H id (.arr z 0 t)) n)
 rw[Dl,show Nat.ble (Nat.add 0 (0+0)) 0=true by rw[Nat.ble_eq];exact Nat.le_refl _]
 refine hk _ λj=>?_
 rw[T.Qg];split
 ·rename_i e;subst e;exact hg.symm
 ·rfl
theorem ALc{H H':Heap}{z z':Nat}{A B:Nat->Prop}{v w:V}{LS MS:ER}(h:Sk H z A v LS)(h':Sk H' z' B w MS):Ap [.AY,.AY] [(0,1,.c v),(1,1,.c w)]=some (.agg [v,w]):=by
 cases h<;>cases h'<;>rfl
structure Yv where
 kb:Nat
 i:Nat
 t:Nat
 a:Nat
 b:Nat
 fm:Nat
 vn:V
 fs:Tab
 nm:St
 sup:St
 vf:V
 vm:V
 v0:V
 v1:V
 v2:V
 v3:V
 v4:V
 vb:V
 pool:Pool
 ws:List V
 nl:Nat
 mx:Int
 vc:V
 code:List Ins
 mn:St
 st:Bool
 vp:V
 ps:List Ty
 ret:Ty
def Yv.cells(K:Yv)(at' td:V):LV:=[.ptr K.i 0,K.nm.v,K.sup.v,K.vf,K.vm,K.v0,K.v1,K.v2,K.v3,K.v4,K.vb,.int .i64 (.ofNat K.nl) 0,.int .i64 K.mx 0,K.vc,K.mn.v,.bool K.st,K.vp,K.ret.nm.v,.bool K.ret.arr,at',td]
def Yv.cx(K:Yv):Cx:=⟨K.fs,K.pool,K.mx,K.ret,K.code⟩
structure Yv.At(K:Yv)(G:AX)(H:Heap)(m:Nat)(at' td:V):Prop where
 box:T.get H K.kb=some (one (K.cells at' td))
 km:K.kb<m
 kb:K.kb≠K.b
 ki:K.kb≠K.i
 img:S9 G H m K.i K.t K.a K.b K.fm K.vn K.fs
 small:K.fs.length<=1000
 pool:Gp G H m K.pool K.v0 K.v1 K.v2 K.v3 K.v4 K.ws
 code:NI G H m K.vc K.code
 ps:N7 G H m K.vp K.ps
 rok:K.ret.nm.ok
 nok:K.nm.ok
 mx:K.mx<=1000
 nl:K.nl<=401
 cl:K.code.length<=16384
theorem Yv.At.kb'{K:Yv}{G:AX}{H H':Heap}{m:Nat}{at' td:V}(h:K.At G H m at' td)(f:Kb K.b H m H' m):K.At G H' m at' td:=by
 have e:=f.ke (G:=G) h.img.tab.seen
 exact⟨f.get h.box h.km h.kb,h.km,h.kb,h.ki,h.img.kb f,h.small,h.pool.ke e,⟨h.code.el.ke h.code.lo e,h.code.lo,h.code.lt⟩,h.ps.ke e,h.rok,h.nok,h.mx,h.nl,h.cl⟩
theorem Yv.At.kw{K:Yv}{G:AX}{H H':Heap}{m n n':Nat}{at' td:V}(h:K.At G H m at' td)(f:Kw K.b m H n H' n'):K.At G H' m at' td:=h.kb' f.kb
theorem AEl(x y:Int):B2.ev .leq (.int .i64 x 0) (.int .i64 y 0)=some (.bool (decide (x<=y))):=by
 show BK (band (keq .i64 .i64) true) (mkB (ile x y))=_
 rw[Rw,pJ];rfl
theorem APe{K:Yv}{G:AX}{H:Heap}{n m q:Nat}{at' td:V}{s:Ce}{t:Ty}(hc:K.At G H m at' td)(h:JF H m n q s)(ht:t.nm.ok){k:KV}
 (h0:∀H' n',Kw K.b m H n H' n'->CW K.mx t s.stk=none->k (.bool false) H' n')
 (h1:∀H' n' r,Kw K.b m H n H' n'->CW K.mx t s.stk=some r->JF H' m n' q ⟨s.loc,r⟩->k (.bool true) H' n'):Runs F G Ar [.ptr K.kb 0,.ptr q 0,t.v] H n k:=by
 refine BN (s:=ar3 (Ia lfp G)) Ol (by obtain⟨h,o⟩:=Ue BO G;rw[Ol]at h;cases h;exact o) ?_
 show Ia lfp G (Runs F G) (.ptr K.kb 0) (.ptr q 0) t.v H n k
 delta Ia
 have hbm:K.b<m:=hc.img.tab.bn
 have hkm:=hc.km
 have hqm:=h.mq
 have hqn:=h.qn
 refine FZ λH1 f1 g1=>?_
 have h:=h.kp f1
 have hc:=hc.kw (f1.kw (by omega) hbm)
 obtain⟨vl,vs,gq,hl,hs,hd⟩:=h.is
 simp only[go_sem,Nat.reduceAdd,AU (off:=1) gq (v:=vs) rfl,BG g1]
 refine hs.app (m:=0) (c:=t.v) (λid hid=>(hs.own hid).2.1) (by omega) rfl rfl (by rw[GN,List.length_reverse];have:=h.bs;omega) λv' H2 hv' hsame hid=>?_
 have gq:=(hsame q (by omega) λe=>(hs.own e).2.2 rfl).trans gq
 have hv1:=(hv' (λ_=>True) trivial).ok
 refine XM gq hv1.1 (by rw[hv1.2.1];rfl) (by omega) (by show 1+1<=2;omega) λH3 g3 s3=>?_
 rw[hv1.2.1]at g3
 have g3:T.get H3 q=some (one [vl,v']):=g3
 have f3:Kw K.b m H n H3 (n+1+2):=(f1.kw (by omega) hbm).trans (.of hbm (by omega) λid hid=>by
  rw[s3 id (by omega)];exact hsame id (by omega) λe=>by have:=(hs.own e).1;omega)
 have hc:=hc.kw (H':=H3) (n:=n) (n':=n) ⟨by omega,⟨by omega,λid hid _=>by rw[s3 id (by omega)];exact hsame id (by omega) λe=>by have:=(hs.own e).1;omega,λhx=>hx.same (by rw[s3 _ (by omega)];exact hsame _ (by omega) λe=>by have:=(hs.own e).1;omega)⟩⟩
 have hv3:Sk H3 2 (λid=>m<=id/\id<n+1+2/\id≠q) v' (tys (t::s.stk).reverse):=by
  have:=(hv' (λid=>id=n+1+1) rfl).mono (H':=H3) (B:=λid=>m<=id/\id<n+1+2/\id≠q) (λid hid=>⟨by omega,by omega,by omega⟩) (λid hid=>s3 id (by omega))
  rw[show tys (t::s.stk).reverse=tys s.stk.reverse++[t.cells]by rw[List.reverse_cons];exact List.map_append]
  exact this
 have e2:B2.ev .leq (.int .i64 (.ofNat (s.stk.length+1)) 0) (.int .i64 K.mx 0)=some (.bool (decide (((s.stk.length+1:Nat):Int)<=K.mx))):=AEl ..
 simp only[go_sem,Nat.reduceAdd,AU (off:=1) g3 (v:=v') rfl,(hv3.el (G:=G) (by omega)).len,GN,List.length_reverse,List.length_cons,AU (off:=12) hc.box (v:=.int .i64 K.mx 0) rfl,e2]
 cases hd2:decide (((s.stk.length+1:Nat):Int)<=K.mx)with
 |false=>exact h0 _ _ f3 (by unfold CW;rw[hd2];rfl)
 |true=>
  refine h1 _ _ (t::s.stk) f3 (by unfold CW;rw[hd2];rfl) ⟨hqm,by omega,⟨vl,v',g3,?_,hv3,?_⟩,h.ol,?_,h.bl,?_⟩
  ·refine hl.AFK (λid hid=>?_) λid hid=>?_
   ·have:=hl.own hid;exact⟨by omega,by omega,by omega⟩
   ·have:=hl.own hid
    rw[s3 id (by omega)];exact hsame id (by omega) (hd id hid)
  ·intro id h1 h2
   have:=hl.own h1
   rw[hid]at h2;cases h2;omega
  ·intro x hx
   rcases List.mem_cons.1 hx with rfl|hx
   ·exact ht
   ·exact h.os x hx
  ·have:=of_decide_eq_true hd2
   have:=hc.mx
   show s.stk.length+1<=100000
   omega
theorem sub_one(a:Nat)(h:a<9223372036854775808):B2.ev .sub (.int .i64 (.ofNat a) 0) (.int .i64 (.ofNat 1) 0)=some (.int .i64 ((a:Int)-1) 0):=by
 show some (V.int .i64 (bT .i64 (ABD (.ofNat a) (Int.neg (.ofNat 1)))) 0)=_
 rw[SQ,fM]
 have e:Int.ofNat a+Int.neg (Int.ofNat 1)=(a:Int)-1:=by show(a:Int)+ -(1:Int)=(a:Int)-1;omega
 rw[e,Vr (by omega) (by omega)]
theorem AAr(x:Int):B2.ev .lss (.int .i64 x 0) (.int .i64 (.ofNat 0) 0)=some (.bool (decide (x<0))):=by rw[ALV];rfl
theorem JF.drop{H:Heap}{m n q:Nat}{s:Ce}{t:Ty}{r:List Ty}(h:JF H m n q s)(e:s.stk=t::r){vl vs:V}(g:T.get H q=some (one [vl,vs])):
 ∃v',wG 2 vs E0 none (some (.c (.int .i64 (.ofNat r.length) 0))) none=some v'/\Wl v'=true/\Aq v'=[v']/\∀H',T.get H' q=some (one [vl,v'])->(∀j,j≠q->T.get H' j=T.get H j)->JF H' m n q ⟨s.loc,r⟩:=by
 obtain⟨vl2,vs2,g2,hl,hs,hd⟩:=h.is
 rw[g]at g2
 cases g2
 have hlen:(tys s.stk.reverse).length=r.length+1:=by rw[GN,List.length_reverse,e];rfl
 obtain⟨v',h1,h2,h3⟩:=hs.pop (i:=r.length) (q:=.i64) (by omega)
 have e3:(tys s.stk.reverse).take r.length=tys r.reverse:=by
  rw[e,List.reverse_cons,show tys (r.reverse++[t])=tys r.reverse++[t.cells]from List.map_append]
  exact List.take_left' (by rw[GN,List.length_reverse])
 rw[e3]at h3
 refine⟨v',h1,h3.ok.1,h3.ok.2.1,λH' g' s'=>⟨h.mq,h.qn,⟨vl,v',g',?_,?_,?_⟩,h.ol,λx hx=>h.os x (by rw[e];exact List.mem_cons_of_mem _ hx),h.bl,?_⟩⟩
 ·exact hl.mono (λ_ h=>h) λid hid=>s' id hid.2.2
 ·exact h3.mono (λ_ h=>h) λid hid=>s' id hid.2.2
 ·intro id a;rw[h2];exact hd id a
 ·have:=h.bs;rw[e]at this;simp only[List.length_cons]at this;show r.length<=100000;omega
theorem JF.top{G:AX}{H:Heap}{m n q:Nat}{s:Ce}{t:Ty}{r:List Ty}(h:JF H m n q s)(e:s.stk=t::r){vl vs:V}(g:T.get H q=some (one [vl,vs])):
 ∃p,Ag 2 vs (.int .i64 (.ofNat r.length) 0)=some p/\Af 2 p G H=some t.v:=by
 obtain⟨vl2,vs2,g2,hl,hs,hd⟩:=h.is
 rw[g]at g2
 cases g2
 obtain⟨p,hp,hld⟩:=(hs.el (G:=G) (by omega)).at (i:=r.length) (c:=t.cells) (by
  rw[e,List.reverse_cons,show tys (r.reverse++[t])=tys r.reverse++[t.cells]from List.map_append,List.getElem?_append_right (by rw[GN,List.length_reverse];omega),GN,List.length_reverse,Nat.sub_self];rfl)
 exact⟨p,hp,by rw[DI hld];rfl⟩
theorem JF.len{G:AX}{H:Heap}{m n q:Nat}{s:Ce}(h:JF H m n q s){vl vs:V}(g:T.get H q=some (one [vl,vs])):lenV vs=some (.int .i64 (.ofNat s.stk.length) 0):=by
 obtain⟨vl2,vs2,g2,hl,hs,hd⟩:=h.is
 rw[g]at g2
 cases g2
 rw[(hs.el (G:=G) (by omega)).len,GN,List.length_reverse]
structure Kq(b q:Nat)(H:Heap)(n:Nat)(H':Heap)(n':Nat):Prop where
 le:n<=n'
 same:∀id,id<n->id≠b->id≠q->T.get H' id=T.get H id
 seen:Gv H b->Gv H' b
theorem Kq.refl(b q:Nat)(H:Heap)(n:Nat):Kq b q H n H n:=⟨Nat.le_refl _,λ_ _ _ _=>rfl,λh=>h⟩
theorem Kq.trans{b q n n' n'':Nat}{H H' H'':Heap}(x:Kq b q H n H' n')(y:Kq b q H' n' H'' n''):Kq b q H n H'' n'':=
 ⟨Nat.le_trans x.le y.le,λid h1 h2 h3=>(y.same id (Nat.lt_of_lt_of_le h1 x.le) h2 h3).trans (x.same id h1 h2 h3),λh=>y.seen (x.seen h)⟩
theorem Kq.kw{b m q n n':Nat}{H H':Heap}(x:Kq b q H n H' n')(hm:m<=n)(hq:m<=q):Kw b m H n H' n':=⟨x.le,Nat.le_refl _,λid h1 h2=>x.same id (by omega) h2 (by omega),x.seen⟩
theorem Kb.kq{b q n n':Nat}{H H':Heap}(x:Kb b H n H' n'):Kq b q H n H' n':=⟨x.le,λid h1 h2 _=>x.same id h1 h2,x.seen⟩
theorem Kq.of{b q n n':Nat}{H H':Heap}(hb:b<n)(hq:b≠q)(hn:n<=n')(h:∀id,id<n->id≠q->T.get H' id=T.get H id):Kq b q H n H' n':=⟨hn,λid h1 _ h3=>h id h1 h3,λhs=>hs.same (h b hb hq)⟩
theorem _root_.Go.Bh.Kp.kq{b q n n':Nat}{H H':Heap}(x:Kp H n H' n')(hb:b<n):Kq b q H n H' n':=(x.kb hb).kq
theorem AQ8{G:AX}{H:Heap}{n m q b:Nat}{s:Ce}(hb:b<m)(h:JF H m n q s){k:KV}
 (h0:s.stk=[]->∀H' n',Kq b q H n H' n'->JF H' m n' q s->k (.Di [Bq.v,.bool false]) H' n')
 (h1:∀t r,s.stk=t::r->∀H' n',Kq b q H n H' n'->JF H' m n' q ⟨s.loc,r⟩->k (.Di [t.v,.bool true]) H' n'):Runs F G EX [.ptr q 0] H n k:=by
 refine BN (s:=N9 (Jg lfp G)) Qb (by obtain⟨h,o⟩:=WA BO G;rw[Qb]at h;cases h;exact o) ?_
 show Jg lfp G (Runs F G) (.ptr q 0) H n k
 delta Jg
 have hqm:=h.mq
 have hqn:=h.qn
 refine BZ rfl λH1 f1 g1=>?_
 have hO:=h
 have h:=h.kp f1
 obtain⟨vl,vs,gqO,-⟩:=hO.is
 have gq:=f1.get gqO (by omega)
 have hbs:=h.bs
 simp only[go_sem,Nat.reduceAdd,AU (off:=1) gq (v:=vs) rfl,h.len (G:=G) gq,sub_one _ (show s.stk.length<9223372036854775808 by omega),AAr]
 cases e:s.stk with
 |nil=>
  rw[show decide (((([]:List Ty).length:Nat):Int)-1<0)=true from rfl]
  simp only[go_sem]
  rw[vg,AB]
  show Ba 2 (.ptr n 0) (.agg Bq.cells) H1 (n+1) _
  rw[Gt (m:=2) g1 (by omega) rfl rfl,Ei (m:=2) (T.Ah ..) (by omega) rfl]
  exact h0 e _ _ (.of (by omega) (by omega) (by omega) λid hid _=>by rw[T.Ac _ _ (by omega),f1.same _ hid]) (hO.mono (by omega) λid _ h2=>by rw[T.Ac _ _ (by omega),f1.same _ h2])
 |cons t r=>
  have el:(((t::r).length:Nat):Int)-1=Int.ofNat r.length:=by simp only[List.length_cons];show((r.length+1:Nat):Int)-1=(r.length:Int);omega
  obtain⟨p,hp,hld⟩:=h.top (G:=G) e gq
  obtain⟨v',hv',ok1,ok2,hst⟩:=hO.drop e gqO
  rw[el,show decide (Int.ofNat r.length<0)=false by rw[decide_eq_false_iff_not];show ¬(r.length:Int)<0;omega]
  simp only[go_sem,Nat.reduceAdd,AU (off:=1) gq (v:=vs) rfl,hp,hld]
  show Ba 2 (.ptr (n+1) 0) (.agg t.cells) _ _ _
  refine WY rfl rfl (by omega) λH2 f2 g2=>?_
  have gq2:=f2.get gq (by omega)
  rw[AU (off:=1) gq2 (v:=vs) rfl,AB,hv',AB]
  refine XM gq2 ok1 (by rw[ok2];rfl) (by omega) (by show 1+1<=2;omega) λH3 g3 s3=>?_
  rw[ok2]at g3
  have g3:T.get H3 q=some (one [vl,v']):=g3
  rw[BG ((s3 (n+1) (by omega)).trans g2),AB]
  show Ba 2 (.ptr n 0) (.agg t.cells) _ _ _
  rw[Gt (m:=2) ((s3 n (by omega)).trans (f2.get g1 (by omega))) (by omega) rfl rfl,Ei (m:=2) (T.Ah ..) (by omega) rfl]
  have hst:=hst (T.set H q (one [vl,v'])) (T.Ah ..) λj hj=>T.Ac _ _ (Ne.symm hj)
  refine h1 t r e _ _ (.of (by omega) (by omega) (by omega) λid hid hq=>?_) (hst.mono (by omega) λid h1 h2=>?_)
  ·rw[T.Ac _ _ (by omega),s3 _ (by omega),f2.same _ (by omega),f1.same _ (by omega)]
  ·rw[T.Ac _ _ (by omega)]
   by_cases hq:id=q
   ·subst hq;rw[g3,T.Ah]
   ·rw[s3 _ hq,T.Ac _ _ (Ne.symm hq),f2.same _ (by omega),f1.same _ h2]
theorem AHm{K:Yv}{G:AX}{H:Heap}{n m q:Nat}{at' td w:V}{ws:List Ty}{s:Ce}(hc:K.At G H m at' td)(h:JF H m n q s)(hw:∀H' n',Kq K.b q H n H' n'->El G H' w 2 (tys ws))(hlen:ws.length<big)(hok:∀t∈ws,t.nm.ok){k:KV}
 (h0:∀H' n',Kq K.b q H n H' n'->Dh K.fs ws.reverse s.stk=none->k (.bool false) H' n')
 (h1:∀H' n' r,Kq K.b q H n H' n'->Dh K.fs ws.reverse s.stk=some r->JF H' m n' q ⟨s.loc,r⟩->k (.bool true) H' n'):Runs F G A8 [.ptr K.kb 0,.ptr q 0,w] H n k:=by
 refine BN (s:=ar3 (JC lfp G)) PO (by obtain⟨h,o⟩:=VW BO G;rw[PO]at h;cases h;exact o) ?_
 show JC lfp G (Runs F G) (.ptr K.kb 0) (.ptr q 0) w H n k
 delta JC
 have hbm:K.b<m:=hc.img.tab.bn
 have hkm:=hc.km
 have hqm:=h.mq
 have hqn:=h.qn
 rw[(hw H n (.refl ..)).len,GN,AB,sub_one _ (by unfold big at hlen;omega),AB]
 refine JD (J:=λj st=>∃H' n' s',j<=ws.length/\st=(.ptr K.kb 0,.ptr q 0,w,.int .i64 ((j:Int)-1) 0,H',n')/\Kq K.b q H n H' n'/\JF H' m n' q s'/\s'.loc=s.loc/\Dh K.fs ws.reverse s.stk=Dh K.fs (ws.take j).reverse s'.stk) ?_ (m:=ws.length)
  ⟨H,n,s,Nat.le_refl _,rfl,.refl ..,h,rfl,by rw[List.take_length]⟩
 rintro I j st ⟨H2,n2,s2,hj,rfl,f,h,hloc,hp⟩ ih
 show NW lfp G (Runs F G) k I (.ptr K.kb 0) (.ptr q 0) w (.int .i64 ((j:Int)-1) 0) H2 n2
 delta NW
 have hn2:=f.le
 cases j with
 |zero=>
  rw[show B2.ev .geq (.int .i64 (((0:Nat):Int)-1) 0) (.int .i64 (.ofNat 0) 0)=some (.bool false)from rfl]
  simp only[go_sem]
  delta NU
  refine h1 _ _ s2.stk f (by rw[hp];rfl) ?_
  rw[<-hloc];exact h
 |succ j=>
  have ej:((j+1:Nat):Int)-1=Int.ofNat j:=by show((j+1:Nat):Int)-1=(j:Int);omega
  obtain⟨vl,vs,gq,-⟩:=h.is
  have hbs:=h.bs
  rw[ej,AHq,show decide (0<=Int.ofNat j)=true by rw[decide_eq_true_eq];show(0:Int)<=(j:Int);omega]
  simp only[go_sem,Nat.reduceAdd,AU (off:=1) gq (v:=vs) rfl,h.len (G:=G) gq,sub_one _ (show s2.stk.length<9223372036854775808 by omega),AAr]
  have htake:(ws.take (j+1)).reverse=ws[j]::(ws.take j).reverse:=by
   rw[List.take_succ_eq_append_getElem (by omega),List.reverse_append];rfl
  rw[htake]at hp
  cases e:s2.stk with
  |nil=>
   rw[e]at hp
   rw[show decide (((([]:List Ty).length:Nat):Int)-1<0)=true from rfl]
   simp only[go_sem]
   exact h0 _ _ f hp
  |cons t r=>
   rw[e]at hp
   have el:(((t::r).length:Nat):Int)-1=Int.ofNat r.length:=by simp only[List.length_cons];show((r.length+1:Nat):Int)-1=(r.length:Int);omega
   obtain⟨p,hpp,hld⟩:=h.top (G:=G) e gq
   obtain⟨p2,hp2,hld2⟩:=(hw _ _ f).at (XF (show j<ws.length by omega))
   rw[el,show decide (Int.ofNat r.length<0)=false by rw[decide_eq_false_iff_not];show ¬(r.length:Int)<0;omega]
   have hc2:=hc.kw (f.kw (by omega) hqm)
   simp only[go_sem,Nat.reduceAdd,AU (off:=1) gq (v:=vs) rfl,hpp,hld,hp2,DI hld2,AU (off:=0) hc2.box (v:=.ptr K.i 0) rfl,AU (off:=0) hc2.img.at' (v:=.ptr K.t 0) rfl]
   refine AQG (x:=t) (y:=ws[j]) hc2.img.tab (by omega) hc2.small (h.os t (by rw[e];exact List.mem_cons_self ..)) (hok _ (List.getElem_mem _)) λH3 n3 f3=>?_
   have f':=f.trans (f3.kq (q:=q))
   have h:=h.kb f3 hbm
   have gq:=f3.get gq (by omega) (by omega)
   have hn3:=f3.le
   have hp:Dh K.fs ws.reverse s.stk=bif fitsT K.fs t ws[j]then Dh K.fs (ws.take j).reverse r else none:=hp
   cases hf:fitsT K.fs t ws[j]with
   |false=>
    rw[hf]at hp
    simp only[go_sem,Bo,Bool.not_false]
    exact h0 _ _ f' hp
   |true=>
    rw[hf]at hp
    simp only[go_sem,Bo,Bool.not_true,Nat.reduceAdd,AU (off:=1) gq (v:=vs) rfl]
    obtain⟨v',hv',ok1,ok2,hst⟩:=h.drop e gq
    rw[hv',AB]
    refine XM gq ok1 (by rw[ok2];rfl) (by omega) (by show 1+1<=2;omega) λH4 g4 s4=>?_
    rw[ok2]at g4
    rw[sub_one _ (by unfold big at hlen;omega),AB]
    refine ih j _ (by omega) ⟨H4,n3,⟨s2.loc,r⟩,by omega,rfl,f'.trans ⟨Nat.le_refl _,λid _ _ hq=>s4 id hq,λhs=>hs.same (s4 _ (by omega))⟩,hst H4 g4 s4,hloc,hp⟩
structure Dn(b m:Nat)(H:Heap)(n q:Nat)(k:KV)(o:Option Ce):Prop where
 no:∀H' n',Kw b m H n H' n'->o=none->k (.bool false) H' n'
 yes:∀H' n' s',Kw b m H n H' n'->o=some s'->JF H' m n' q s'->k (.bool true) H' n'
theorem Dn.later{b m n n' q:Nat}{H H':Heap}{k:KV}{o:Option Ce}(h:Dn b m H n q k o)(f:Kw b m H n H' n'):Dn b m H' n' q k o:=
 ⟨λ_ _ f2 e=>h.no _ _ (f.trans f2) e,λ_ _ _ f2 e hs=>h.yes _ _ _ (f.trans f2) e hs⟩
section
variable{K:Yv}{G:AX}{H:Heap}{n m q:Nat}{at' td w:V}{ws:List Ty}{s:Ce}{t:Ty}{k:KV}{p:V}
theorem Tv(hc:K.At G H m at' td)(h:JF H m n q s)(ht:t.nm.ok)(d:Dn K.b m H n q k ((CW K.mx t s.stk).map λr=>⟨s.loc,r⟩)):Runs F G Ar [.ptr K.kb 0,.ptr q 0,t.v] H n k:=
 APe hc h ht (λ_ _ f e=>d.no _ _ f (by rw[e];rfl)) λ_ _ r f e hs=>d.yes _ _ _ f (by rw[e];rfl) hs
theorem ASS(hc:K.At G H m at' td)(h:JF H m n q s)(hw:∀H' n',Kq K.b q H n H' n'->El G H' w 2 (tys ws))(hlen:ws.length<big)(hok:∀t∈ws,t.nm.ok)(hmn:m<=n)
 (d:Dn K.b m H n q k ((Dh K.fs ws.reverse s.stk).map λr=>⟨s.loc,r⟩)):Runs F G A8 [.ptr K.kb 0,.ptr q 0,w] H n k:=
 AHm hc h hw hlen hok (λ_ _ f e=>d.no _ _ (f.kw hmn h.mq) (by rw[e];rfl)) λ_ _ r f e hs=>d.yes _ _ _ (f.kw hmn h.mq) (by rw[e];rfl) hs
theorem AIl(hc:K.At G H m at' td)(h:JF H m n q s)(hw:∀H' n',Kq K.b q H n H' n'->El G H' w 2 (tys ws))(hlen:ws.length<big)(hok:∀t∈ws,t.nm.ok)(hmn:m<=n)(ht:t.nm.ok)
 (hp:∀H' n',Kq K.b q H n H' n'->Af 2 p G H'=some t.v)
 (d:Dn K.b m H n q k ((Dh K.fs ws.reverse s.stk).bind λr=>(CW K.mx t r).map λr=>⟨s.loc,r⟩)):
 Runs F G A8 [.ptr K.kb 0,.ptr q 0,w] H n λv H n=>Aj v true (some (.ptr K.kb 0)) λx=>Aj v true (some (.ptr q 0)) λy=>Aj v true (Af 2 p G H) λz=>EN v true (Runs F G Ar [x,y,z] H n) H n λu H n=>
  AP (BF v u (.bool false)) λr=>k r H n:=by
 refine AHm hc h hw hlen hok (λH1 n1 f e=>?_) λH1 n1 r f e hs=>?_
 ·simp only[go_sem]
  exact d.no _ _ (f.kw hmn h.mq) (by rw[e];rfl)
 ·simp only[go_sem,hp _ _ f]
  rw[e]at d
  exact Tv (hc.kw (f.kw hmn h.mq)) hs ht (d.later (f.kw hmn h.mq))
end
theorem Kq.get{b q n n' id:Nat}{H H':Heap}{B:O7}(f:Kq b q H n H' n')(h:T.get H id=some B)(hi:id<n)(hb:id≠b)(hq:id≠q):T.get H' id=some B:=(f.same id hi hb hq).trans h
theorem ARd{G:AX}{H H':Heap}{b q n n' j o l c z:Nat}{LS:ER}(h:El G H (.sl j o l c z) z LS)(f:Kq b q H n H' n')(hj:j<n)(hb:j≠b)(hq:j≠q):El G H' (.sl j o l c z) z LS:=
 h.same λid e=>by cases e;exact f.same j hj hb hq
theorem Qr:DV.nm.ok:=by intro h;cases h
theorem WC:FY.nm.ok:=by intro h;cases h
structure ny(p:Pool)(nl:Nat)(c i:Nat):Prop where
 lo:1<=c
 hi:c<=32
 lc:c=3∨c=4->i<nl
 nm:c=18∨c=23∨c=24->i<p.names.length
 ty:c=19∨c=20∨c=21->i<p.types.length
 fl:c=16∨c=17->i<p.fields.length
 me:c=25∨c=26->i<p.DN.length
theorem Dn.cast{b m n q:Nat}{H:Heap}{k:KV}{o o':Option Ce}(h:Dn b m H n q k o)(e:o=o'):Dn b m H n q k o':=e▸h
theorem aP(x y:Nat):CX (.one .int) false (.int .i64 (.ofNat x) 0) (.int .i64 (.ofNat y) 0)=some (.bool (decide (x=y))):=DR ..
section
variable{K:Yv}{G:AX}{H:Heap}{n m q:Nat}{at' td w:V}{ws:List Ty}{s:Ce}{t:Ty}{k:KV}{p:V}{N:Nat}{Z:LV}
theorem AGj{vs:List V}(hv:vs=ws.map Ty.v)(hm:ws.length=N)(hbn:K.b<n)(hqn:q<n){P:KV}(h:∀H',Kp H n H' (n+1)->(∀H2 n2,Kq K.b q H' (n+1) H2 n2->El G H2 (.sl n 0 N N 2) 2 (tys ws))->P (.sl n 0 N N 2) H' (n+1)):
 Bf (Az 2 N Z (yO 0 vs) E0) H n P:=by
 subst hv
 refine yB (G:=G) (by simp[hm]) (by omega) (λv hv=>by obtain⟨t,-,rfl⟩:=List.mem_map.1 hv;exact⟨rfl,rfl⟩) λH' f ht hel=>?_
 have e:(ws.map Ty.v).map Aq=tys ws:=by rw[List.map_map];rfl
 rw[e]at hel
 exact h H' f λH2 n2 f2=>ARd hel f2 (by omega) (by omega) (by omega)
theorem jI(hc:K.At G H m at' td)(h:JF H m n q s){vs:List V}(hv:vs=ws.map Ty.v)(hm:ws.length=N)(hN:N<=100)(hok:∀t∈ws,t.nm.ok)
 (d:Dn K.b m H n q k ((Dh K.fs ws.reverse s.stk).map λr=>⟨s.loc,r⟩)):
 Bf (Az 2 N Z (yO 0 vs) E0) H n λw H n=>Runs F G A8 [.ptr K.kb 0,.ptr q 0,w] H n k:=by
 have hbm:K.b<m:=hc.img.tab.bn
 have hqm:=h.mq
 have hqn:=h.qn
 refine AGj (G:=G) (K:=K) (q:=q) hv hm (by omega) hqn λH' f hw=>?_
 have f':=f.kw (b:=K.b) (m:=m) (by omega) hbm
 exact ASS (hc.kw f') (h.kp f) hw (by unfold big;omega) hok (by omega) (d.later f')
theorem Xk(hc:K.At G H m at' td)(h:JF H m n q s){vs:List V}(hv:vs=ws.map Ty.v)(hm:ws.length=N)(hN:N<=100)(hok:∀t∈ws,t.nm.ok)(ht:t.nm.ok)
 (hp:∀H' n',Kq K.b q H n H' n'->Af 2 p G H'=some t.v)
 (d:Dn K.b m H n q k ((Dh K.fs ws.reverse s.stk).bind λr=>(CW K.mx t r).map λr=>⟨s.loc,r⟩)):
 Bf (Az 2 N Z (yO 0 vs) E0) H n λw H n=>Runs F G A8 [.ptr K.kb 0,.ptr q 0,w] H n λv H n=>Aj v true (some (.ptr K.kb 0)) λx=>Aj v true (some (.ptr q 0)) λy=>Aj v true (Af 2 p G H) λz=>
  EN v true (Runs F G Ar [x,y,z] H n) H n λu H n=>AP (BF v u (.bool false)) λr=>k r H n:=by
 have hbm:K.b<m:=hc.img.tab.bn
 have hqm:=h.mq
 have hqn:=h.qn
 refine AGj (G:=G) (K:=K) (q:=q) hv hm (by omega) hqn λH' f hw=>?_
 have f':=f.kw (b:=K.b) (m:=m) (by omega) hbm
 exact AIl (hc.kw f') (h.kp f) hw (by unfold big;omega) hok (by omega) ht (λH2 n2 f2=>hp _ _ ((f.kq (by omega)).trans f2)) (d.later f')
theorem Xl(hc:K.At G H m at' td)(h:JF H m n q s){vs:List V}(hv:vs=ws.map Ty.v)(hm:ws.length=N)(hN:N<=100)(hok:∀t∈ws,t.nm.ok)
 (h0:∀H' n',Kq K.b q H n H' n'->Dh K.fs ws.reverse s.stk=none->k (.bool false) H' n')
 (h1:∀H' n' r,Kq K.b q H n H' n'->Dh K.fs ws.reverse s.stk=some r->JF H' m n' q ⟨s.loc,r⟩->k (.bool true) H' n'):
 Bf (Az 2 N Z (yO 0 vs) E0) H n λw H n=>Runs F G A8 [.ptr K.kb 0,.ptr q 0,w] H n k:=by
 have hbm:K.b<m:=hc.img.tab.bn
 have hqm:=h.mq
 have hqn:=h.qn
 refine AGj (G:=G) (K:=K) (q:=q) hv hm (by omega) hqn λH' f hw=>?_
 have f':=f.kw (b:=K.b) (m:=m) (by omega) hbm
 exact AHm (hc.kw f') (h.kp f) hw (by unfold big;omega) hok (λ_ _ f2=>h0 _ _ ((f.kq (by omega)).trans f2)) λ_ _ r f2=>h1 _ _ r ((f.kq (by omega)).trans f2)
theorem fH{b:Nat}{P:Nat->V->KV}(hb:b<m)(h:JF H m n q s)
 (h0:s.stk=[]->∀H' p,Kq b q H n H' (p+1)->n<=p->T.get H' p=some (one Bq.cells)->JF H' m p q s->P p (.bool false) .undef H' (p+1))
 (h1:∀t r,s.stk=t::r->∀H' p,Kq b q H n H' (p+1)->n<=p->T.get H' p=some (one t.cells)->JF H' m p q ⟨s.loc,r⟩->P p (.bool true) .undef H' (p+1)):
 Runs F G EX [.ptr q 0] H n λv H n=>AP (Bl v 0) λx=>AP (Bl v 1) λy=>Ba 2 (.ptr n 0) x (T.set H n (one [.str 0 0,.bool false])) (n+1) λu H n1=>P n y u H n1:=by
 have hqm:=h.mq
 have hqn:=h.qn
 refine AQ8 hb h (λe H2 n2 f2 hs=>?_) λt r e H2 n2 f2 hs=>?_
 ·have hn:=f2.le
  simp only[go_sem]
  show Ba 2 (.ptr n2 0) (.agg Bq.cells) _ _ _
  refine WY rfl rfl (by omega) λH3 f3 g3=>?_
  exact h0 e _ _ (f2.trans (f3.kq (by omega))) hn g3 (hs.mono (Nat.le_refl _) λid _ h=>f3.same id h)
 ·have hn:=f2.le
  simp only[go_sem]
  show Ba 2 (.ptr n2 0) (.agg t.cells) _ _ _
  refine WY rfl rfl (by omega) λH3 f3 g3=>?_
  exact h1 t r e _ _ (f2.trans (f3.kq (by omega))) hn g3 (hs.mono (Nat.le_refl _) λid _ h=>f3.same id h)
theorem AL3{c:Bool}{P:V->Heap->Nat->Prop}(hld:Af 2 p G H=some t.v)(f:∀H',Kp H n H' n->Af 2 p G H'=some t.v)(h:∀H' n',Kp H n H' n'->P (.bool (c||t.is CO)) H' n'):
 Aj (.bool c) false (Af 2 p G H) λx=>EN (.bool c) false (Runs F G Iu [] H n) H n λy H n=>wB (.bool c) false (Af 2 p G H) x <| Aj (.bool c) false (CX (.agg [.str,.bool]) false x y) λz=>AP (BF (.bool c) (.bool true) z) λu=>P u H n:=by
 cases c with
 |true=>simp only[go_sem];exact h _ _ (Kp.refl _ _)
 |false=>
  simp only[go_sem,hld]
  refine X5 λH' n' f'=>?_
  refine ASi (f H' ⟨Nat.le_refl _,f'.same⟩) (TB t) ?_
  simp only[go_sem,oM]
  exact h _ _ f'
theorem ANA{c i:Nat}(hc:K.At G H m at' td)(h:JF H m n q s)(hcode:c=20∨c=21∨c=22)(hi:c=20∨c=21->i<K.pool.types.length)
 (d:Dn K.b m H n q k (stepT K.cx s ⟨.ofNat c,.ofNat i⟩)):Runs F G U1 [.ptr K.kb 0,.ptr q 0,.agg (Ins.cells ⟨.ofNat c,.ofNat i⟩)] H n k:=by
 refine BN (s:=ar3 (G8 lfp G)) Na (by obtain⟨h,o⟩:=UG BO G;rw[Na]at h;cases h;exact o) ?_
 show G8 lfp G (Runs F G) (.ptr K.kb 0) (.ptr q 0) (.agg (Ins.cells ⟨.ofNat c,.ofNat i⟩)) H n k
 delta G8
 have hbm:K.b<m:=hc.img.tab.bn
 have hqm:=h.mq
 have hqn:=h.qn
 refine FZ λH1 f1 g1=>?_
 have h:=h.kp f1
 have f1':=f1.kw (b:=K.b) (m:=m) (by omega) hbm
 have hc:=hc.kw f1'
 have d:=d.later f1'
 simp only[go_sem,Nat.reduceAdd,AU (off:=0) g1 (v:=.int .i64 (.ofNat c) 0) rfl,aP]
 by_cases h22:c=22
 ·subst h22
  simp only[decide_true,go_sem]
  refine fH hbm h (λe H2 p f2 hp g2 _=>?_) λt r e H2 p f2 hp g2 hs=>?_
  ·simp only[go_sem]
   exact d.no _ _ (f2.kw (by omega) hqm) (by show(match s.stk with|[]=>none|t::k=>_)=none;rw[e])
  ·have ht:t.nm.ok:=h.os t (by rw[e];exact List.mem_cons_self ..)
   have d:Dn K.b m H1 (n+1) q k (bif t.arr||t.is CO then(CW K.mx DV r).map λr=>⟨s.loc,r⟩else none):=by
    have d:Dn K.b m H1 (n+1) q k (match s.stk with|[]=>none|t::r=>bif t.arr||t.is CO then(CW K.mx DV r).map λr=>⟨s.loc,r⟩else none):=d
    rw[e]at d;exact d
   have f2':=f2.kw (m:=m) (by omega) hqm
   have hs':=hs.mono (H':=H2) (Nat.le_succ p) λ_ _ _=>rfl
   simp only[go_sem,Nat.reduceAdd,AU (off:=1) g2 (v:=.bool t.arr) rfl]
   refine AL3 (t:=t) (c:=t.arr) (BG g2) (f:=λH' f=>BG (f.get g2 (by omega))) λH3 n3 f3=>?_
   have hn3:=f3.le
   have f3':=f2'.trans (f3.kw (by omega) hbm)
   cases hb:t.arr||t.is CO with
   |false=>
    rw[hb]at d
    simp only[go_sem]
    exact d.no _ _ f3' rfl
   |true=>
    rw[hb]at d
    simp only[go_sem]
    refine jB λH4 n4 f4=>?_
    have f4':=f3'.trans (f4.kw (by omega) hbm)
    exact Tv (hc.kw f4') ((hs'.kp f3).kp f4) Qr (d.later f4')
 ·have hi':i<K.pool.types.length:=hi (by omega)
  obtain⟨pt,hpt,hld⟩:=hc.pool.t2.el.at (XF hi')
  have hld:=DI hld
  have hty:K.pool.types.getD i Bq=K.pool.types[i]:=by rw[List.getD_eq_getElem?_getD,List.getElem?_eq_getElem hi'];rfl
  have htok:=hc.pool.t2.ok _ (List.getElem_mem hi')
  have g1c:AV (.ptr n 1) G H1=some (.int .i64 (.ofNat i) 0):=AU g1 rfl
  simp only[h22,decide_false,go_sem,Nat.reduceAdd,AU (off:=7) hc.box (v:=K.v2) rfl,g1c,hpt,hld]
  generalize K.pool.types[i]=ty at*
  show Ba 2 (.ptr (n+1) 0) (.agg ty.cells) _ _ _
  refine WY rfl rfl (by omega) λH2 f2 g2=>?_
  have g1:=f2.get g1 (by omega)
  have h:=h.kp f2
  have f2':=f2.kw (b:=K.b) (m:=m) (by omega) hbm
  have hc:=hc.kw f2'
  have d:=d.later f2'
  simp only[go_sem,Nat.reduceAdd,AU (off:=0) g1 (v:=.int .i64 (.ofNat c) 0) rfl,aP]
  by_cases h21:c=21
  ·subst h21
   have d:Dn K.b m H2 (n+2) q k ((bif ty.arr then some ([Qn ty,DV,ty],(none:Option Ty))else none).bind λe=>(Dh K.fs e.1 s.stk).bind λr=>(qc K.mx e.2 r).map λr=>(⟨s.loc,r⟩:Ce)):=by
    have d:Dn K.b m H2 (n+2) q k ((bif (K.pool.types.getD i Bq).arr then some ([Qn (K.pool.types.getD i Bq),DV,K.pool.types.getD i Bq],(none:Option Ty))else none).bind λe=>(Dh K.fs e.1 s.stk).bind λr=>(qc K.mx e.2 r).map λr=>(⟨s.loc,r⟩:Ce)):=d
    rw[hty]at d;exact d
   simp only[decide_true,go_sem,Nat.reduceAdd,AU (off:=1) g2 (v:=.bool ty.arr) rfl]
   cases ha:ty.arr with
   |false=>
    rw[ha]at d
    simp only[go_sem]
    exact d.no _ _ (.refl ..) rfl
   |true=>
    rw[ha]at d
    simp only[go_sem,BG g2]
    refine jB λH3 n3 f3=>?_
    have hn3:=f3.le
    have g3:=f3.get g2 (by omega)
    refine ANB (BG g3) (TB ty) ?_
    refine ANB (BG g3) (TB ty) ?_
    refine AMK λH4 n4 f4=>?_
    have hn4:=f4.le
    refine ANB (BG (f4.get g3 (by omega))) (TB ty) ?_
    have f4':=(f3.trans f4).kw (b:=K.b) (m:=m) (by omega) hbm
    refine jI (ws:=[ty,DV,Qn ty]) (hc.kw f4') (h.kp (f3.trans f4)) rfl rfl (by omega) (λt ht=>?_) ((d.later f4').cast ?_)
    ·simp only[List.mem_cons,List.not_mem_nil,or_false]at ht
     rcases ht with rfl|rfl|rfl
     ·exact htok
     ·exact Qr
     ·exact htok
    ·show(Dh K.fs [Qn ty,DV,ty] s.stk).bind (λr=>some (⟨s.loc,r⟩:Ce))=(Dh K.fs [Qn ty,DV,ty] s.stk).map λr=>⟨s.loc,r⟩
     cases Dh K.fs [Qn ty,DV,ty] s.stk<;>rfl
  ·have h20:c=20:=by omega
   subst h20
   have d:Dn K.b m H2 (n+2) q k ((bif ty.arr then some ([DV,ty],some (Qn ty))else none).bind λe=>(Dh K.fs e.1 s.stk).bind λr=>(qc K.mx e.2 r).map λr=>(⟨s.loc,r⟩:Ce)):=by
    have d:Dn K.b m H2 (n+2) q k ((bif (K.pool.types.getD i Bq).arr then some ([DV,K.pool.types.getD i Bq],some (Qn (K.pool.types.getD i Bq)))else none).bind λe=>(Dh K.fs e.1 s.stk).bind λr=>(qc K.mx e.2 r).map λr=>(⟨s.loc,r⟩:Ce)):=d
    rw[hty]at d;exact d
   simp only[h21,decide_false,go_sem,Nat.reduceAdd,AU (off:=1) g2 (v:=.bool ty.arr) rfl]
   cases ha:ty.arr with
   |false=>
    rw[ha]at d
    simp only[go_sem]
    exact d.no _ _ (.refl ..) rfl
   |true=>
    rw[ha]at d
    simp only[go_sem,BG g2]
    refine jB λH3 n3 f3=>?_
    have hn3:=f3.le
    have g3:=f3.get g2 (by omega)
    refine ANB (BG g3) (TB ty) ?_
    have f3':=f3.kw (b:=K.b) (m:=m) (by omega) hbm
    have d:=d.later f3'
    refine Xl (ws:=[ty,DV]) (hc.kw f3') (h.kp f3) rfl rfl (by omega) (λt ht=>?_) (λH4 n4 f4 e=>?_) λH4 n4 r f4 e hs=>?_
    ·simp only[List.mem_cons,List.not_mem_nil,or_false]at ht
     rcases ht with rfl|rfl
     ·exact htok
     ·exact Qr
    ·simp only[go_sem]
     refine d.no _ _ (f4.kw (by omega) hqm) ?_
     show(Dh K.fs [DV,ty] s.stk).bind _=none
     rw[show Dh K.fs [DV,ty] s.stk=none from e];rfl
    ·have g4:=f4.get g3 (by omega) (by omega) (by omega)
     simp only[go_sem,BG g4]
     refine AMK λH5 n5 f5=>?_
     have hn4:=f4.le
     have f5':=(f4.kw (m:=m) (by omega) hqm).trans (f5.kw (by omega) hbm)
     refine Tv ((hc.kw f3').kw f5') (hs.kp f5) (t:=Qn ty) htok ((d.later f5').cast ?_)
     show(Dh K.fs [DV,ty] s.stk).bind _=_
     rw[show Dh K.fs [DV,ty] s.stk=some r from e];rfl
end
theorem AE1(fs:Tab):∀(a b s:List Ty),Dh fs (a++b) s=(Dh fs a s).bind (Dh fs b)
 |[],_,_=>rfl
 |_::_,_,[]=>rfl
 |w::a,b,t::s=>by
  show(bif fitsT fs t w then Dh fs (a++b) s else none)=(bif fitsT fs t w then Dh fs a s else none).bind (Dh fs b)
  cases fitsT fs t w with
  |true=>exact AE1 fs a b s
  |false=>rfl
section
variable{K:Yv}{G:AX}{H:Heap}{n m q:Nat}{at' td w:V}{ws:List Ty}{s:Ce}{t:Ty}{k:KV}{p:V}{N:Nat}{Z:LV}
theorem AEL(hc:K.At G H m at' td){i:Nat}(hi:i<K.pool.names.length):∃p,Ag 1 K.v1 (.int .i64 (.ofNat i) 0)=some p/\AV p G H=some (K.cx.cl i).nm.v/\(K.cx.cl i).nm.ok:=by
 obtain⟨p,hp,hld⟩:=hc.pool.e1.at (QB hi)
 have e:(K.cx.cl (i:Int)).nm=K.pool.names[i]:=by
  show K.pool.names.getD (i:Int).toNat (0,0)=_
  rw[List.getD_eq_getElem?_getD,Int.toNat_natCast,List.getElem?_eq_getElem hi];rfl
 rw[e]
 exact⟨p,hp,L6 hld,hc.pool.o1 _ (List.getElem_mem hi)⟩
theorem Kq.el{b n':Nat}{H':Heap}{v:V}{z:Nat}{LS:ER}(f:Kq b q H n H' n')(hm:m<=n)(hq:m<=q)(hs:Gv H b)(he:El G H v z LS)(hl:Lo v m):El G H' v z LS:=
 ((f.kw hm hq).kb.ke (G:=G) hs).el v z LS hl he
theorem AJp{c i x:Nat}{u:V}(hc:K.At G H m at' td)(h:JF H m n q s)(hx:T.get H x=some (one (Ins.cells ⟨.ofNat c,.ofNat i⟩)))(hxn:x<n)(hxq:x≠q)(hxb:x≠K.b)(hcode:c=23∨c=24)(hi:i<K.pool.names.length)(hmn:m<=n)
 (d:Dn K.b m H n q k (stepT K.cx s ⟨.ofNat c,.ofNat i⟩)):Dk lfp G (Runs F G) k (.ptr K.kb 0) (.ptr q 0) (.ptr x 0) u (.bool true) H n:=by
 delta Dk
 have hbm:K.b<m:=hc.img.tab.bn
 have hqm:=h.mq
 have hqn:=h.qn
 simp only[go_sem]
 have fin:∀(H':Heap) (n' p y:Nat) (t ty:Ty) (r:List Ty),Kw K.b m H n H' n'->JF H' m n' q ⟨s.loc,r⟩->T.get H' p=some (one t.cells)->T.get H' y=some (one ty.cells)->p<n'->y<n'->t.nm.ok->ty.nm.ok->s.stk=t::r->
  stepT K.cx s ⟨.ofNat c,.ofNat i⟩=(bif t.cls||t.is CO then(CW K.mx ty r).map λr=>⟨s.loc,r⟩else none)->Cm lfp G (Runs F G) k (.ptr K.kb 0) (.ptr q 0) (.ptr p 0) (.bool true) (.ptr y 0) H' n':=by
  intro H' n' p y t ty r f hs gp gy hpn hyn htok htyok e eq
  have d:=(d.later f).cast eq
  delta Cm
  have hn:=f.le
  simp only[go_sem,BG gp]
  refine AC0 htok λH3 n3 f3=>?_
  have hn3:=f3.le
  have gp:=f3.get gp hpn
  have gy:=f3.get gy hyn
  refine AL3 (t:=t) (BG gp) (f:=λH' f=>BG (f.get gp (by omega))) λH4 n4 f4=>?_
  have gy:=f4.get gy (by omega)
  have hn4:=f4.le
  have f34:=f3.trans f4
  have fk:=f34.kw (b:=K.b) (m:=m) (by omega) hbm
  cases hb:t.cls||t.is CO with
  |false=>
   rw[hb]at d
   simp only[go_sem]
   exact d.no _ _ fk rfl
  |true=>
   rw[hb]at d
   simp only[go_sem,BG gy]
   exact Tv ((hc.kw f).kw fk) (hs.kp f34) htyok (d.later fk)
 refine fH hbm h (λe H2 p f2 hp g2 _=>?_) λt r e H2 p f2 hp g2 hs=>?_
 ·have f2':=f2.kw (m:=m) (by omega) hqm
  have hno:stepT K.cx s ⟨.ofNat c,.ofNat i⟩=none:=by
   rcases hcode with rfl|rfl
   ·show(match s.stk with|[]=>none|t::k=>_)=none;rw[e]
   ·show(match s.stk with|[]=>none|t::k=>_)=none;rw[e]
  have hn3p:p+1<=p+1:=Nat.le_refl _
  refine AHA λH3 n3 f3=>?_
  have hn3:=f3.le
  have g3x:=f2.get hx hxn hxb hxq
  have g3x:=f3.get g3x (by omega)
  have g3p:=f3.get g2 (by omega)
  show Ba 2 (.ptr n3 0) (.agg FY.cells) _ _ _
  refine WY rfl rfl (by omega) λH4 f4 g4=>?_
  have g4x:=f4.get g3x (by omega)
  have g4p:=f4.get g3p (by omega)
  have fk:=f2'.trans ((f3.trans f4).kw (b:=K.b) (m:=m) (by omega) hbm)
  simp only[go_sem,Nat.reduceAdd,AU (off:=0) g4x (v:=.int .i64 (.ofNat c) 0) rfl,aP]
  by_cases h23:c=23
  ·have hc4:=hc.kw fk
   obtain⟨pn,hpn,hld,hok⟩:=AEL hc4 hi
   have g4c:AV (.ptr x 1) G H4=some (.int .i64 (.ofNat i) 0):=AU g4x rfl
   simp only[h23,decide_true,go_sem,Nat.reduceAdd,AU (off:=6) hc4.box (v:=K.v1) rfl,g4c,hpn,hld]
   refine uO λH5 n5 f5=>?_
   have hn5:=f5.le
   show Ba 2 (.ptr n3 0) (.agg (K.cx.cl i).cells) _ _ _
   refine IU (f5.get g4 (by omega)) rfl rfl (by omega) λH6 g6 s6=>?_
   have fk6:=(fk.trans (f5.kw (b:=K.b) (m:=m) (by omega) hbm)).trans (Kw.of (b:=K.b) (m:=m) (H':=H6) (n:=n5) (n':=n5) hbm (Nat.le_refl _) λid hid=>s6 id (by omega))
   have g6p:=(s6 p (by omega)).trans (f5.get g4p (by omega))
   delta Cm
   simp only[go_sem]
   exact d.no _ _ fk6 hno
  ·have h24:c=24:=by omega
   simp only[h23,decide_false,go_sem]
   delta Cm
   simp only[go_sem]
   exact d.no _ _ fk hno
 ·have f2':=f2.kw (m:=m) (by omega) hqm
  have hn3p:p+1<=p+1:=Nat.le_refl _
  refine AHA λH3 n3 f3=>?_
  have hn3:=f3.le
  have g3x:=f2.get hx hxn hxb hxq
  have g3x:=f3.get g3x (by omega)
  have g3p:=f3.get g2 (by omega)
  show Ba 2 (.ptr n3 0) (.agg FY.cells) _ _ _
  refine WY rfl rfl (by omega) λH4 f4 g4=>?_
  have g4x:=f4.get g3x (by omega)
  have g4p:=f4.get g3p (by omega)
  have fk:=f2'.trans ((f3.trans f4).kw (b:=K.b) (m:=m) (by omega) hbm)
  simp only[go_sem,Nat.reduceAdd,AU (off:=0) g4x (v:=.int .i64 (.ofNat c) 0) rfl,aP]
  by_cases h23:c=23
  ·have hc4:=hc.kw fk
   obtain⟨pn,hpn,hld,hok⟩:=AEL hc4 hi
   have g4c:AV (.ptr x 1) G H4=some (.int .i64 (.ofNat i) 0):=AU g4x rfl
   simp only[h23,decide_true,go_sem,Nat.reduceAdd,AU (off:=6) hc4.box (v:=K.v1) rfl,g4c,hpn,hld]
   refine uO λH5 n5 f5=>?_
   have hn5:=f5.le
   show Ba 2 (.ptr n3 0) (.agg (K.cx.cl i).cells) _ _ _
   refine IU (f5.get g4 (by omega)) rfl rfl (by omega) λH6 g6 s6=>?_
   have fk6:=(fk.trans (f5.kw (b:=K.b) (m:=m) (by omega) hbm)).trans (Kw.of (b:=K.b) (m:=m) (H':=H6) (n:=n5) (n':=n5) hbm (Nat.le_refl _) λid hid=>s6 id (by omega))
   have g6p:=(s6 p (by omega)).trans (f5.get g4p (by omega))
   refine fin _ _ p n3 t (K.cx.cl i) r fk6 (hs.mono (by omega) (λid _ h2=>by rw[s6 _ (by omega),f5.same _ (by omega),f4.same _ (by omega),f3.same _ (by omega)])) g6p g6 (by omega) (by omega) (h.os t (by rw[e];exact List.mem_cons_self ..)) hok e ?_
   subst h23
   show(match s.stk with|[]=>none|t::k=>bif t.cls||t.is CO then(CW K.mx (K.cx.cl i) k).map λk=>(⟨s.loc,k⟩:Ce)else none)=_
   rw[e]
  ·have h24:c=24:=by omega
   simp only[h23,decide_false,go_sem]
   refine fin _ _ p n3 t FY r fk (hs.mono (by omega) (λid _ h2=>by rw[f4.same _ (by omega),f3.same _ (by omega)])) g4p g4 (by omega) (by omega) (h.os t (by rw[e];exact List.mem_cons_self ..)) WC e ?_
   subst h24
   show(match s.stk with|[]=>none|t::k=>bif t.cls||t.is CO then(CW K.mx FY k).map λk=>(⟨s.loc,k⟩:Ce)else none)=_
   rw[e]
end
section
variable{K:Yv}{G:AX}{H:Heap}{n m q:Nat}{at' td w:V}{ws:List Ty}{s:Ce}{t:Ty}{k:KV}{p:V}{N:Nat}{Z:LV}
theorem ATi(a b:Bool):CX (.one .bool) true (.bool a) (.bool b)=some (.bool (!(a==b))):=by cases a<;>cases b<;>rfl
theorem AFz(hc:K.At G H m at' td){i:Nat}(hi:i<K.pool.fields.length):∃p,Ag 4 K.v3 (.int .i64 (.ofNat i) 0)=some p/\Af 4 p G H=some (.agg (K.cx.fl i).cells)/\(K.cx.fl i).f.ty.nm.ok/\(K.cx.fl i).own.ok:=by
 obtain⟨p,hp,hld⟩:=hc.pool.e3.at (i:=i) (c:=K.pool.fields[i].cells) (by simp[hi])
 have e:K.cx.fl (i:Int)=K.pool.fields[i]:=by
  show K.pool.fields.getD (i:Int).toNat fZ=_
  rw[List.getD_eq_getElem?_getD,Int.toNat_natCast,List.getElem?_eq_getElem hi];rfl
 rw[e]
 exact⟨p,hp,DI hld,(hc.pool.o3 _ (List.getElem_mem hi)).2⟩
theorem AOA(hc:K.At G H m at' td){i:Nat}(hi:i<K.pool.DN.length):∃p w,Ag 6 K.v4 (.int .i64 (.ofNat i) 0)=some p/\Af 6 p G H=some (.agg ((K.cx.me i).cells w))/\N7 G H m w (K.cx.me i).m.ps/\(K.cx.me i).m.ret.nm.ok/\(K.cx.me i).own.ok:=by
 have hw:i<K.ws.length:=by rw[hc.pool.ABt];exact hi
 obtain⟨p,hp,hld⟩:=hc.pool.e4.at (i:=i) (c:=K.pool.DN[i].cells K.ws[i]) (by simp[List.getElem?_zipWith,hi,hw])
 have e:K.cx.me (i:Int)=K.pool.DN[i]:=by
  show K.pool.DN.getD (i:Int).toNat mZ=_
  rw[List.getD_eq_getElem?_getD,Int.toNat_natCast,List.getElem?_eq_getElem hi];rfl
 rw[e]
 exact⟨p,K.ws[i],hp,DI hld,hc.pool.at4 i _ _ (List.getElem?_eq_getElem hi) (List.getElem?_eq_getElem hw),(hc.pool.o4 _ (List.getElem_mem hi)).2⟩
theorem ALT{c i x:Nat}(hc:K.At G H m at' td)(h:JF H m n q s)(hx:T.get H x=some (one (Ins.cells ⟨.ofNat c,.ofNat i⟩)))(hxn:x<n)(hxq:x≠q)(hxb:x≠K.b)(hcode:c=25∨c=26)(hi:i<K.pool.DN.length)(hmn:m<=n)
 (d:Dn K.b m H n q k (stepT K.cx s ⟨.ofNat c,.ofNat i⟩)):DZ lfp G (Runs F G) k (.ptr K.kb 0) (.ptr q 0) (.ptr x 0) (.bool true) H n:=by
 delta DZ
 have hbm:K.b<m:=hc.img.tab.bn
 have hqm:=h.mq
 have hqn:=h.qn
 obtain⟨pm,w,hpm,hld,hw,hrok,hook⟩:=AOA hc hi
 have gxc:AV (.ptr x 1) G H=some (.int .i64 (.ofNat i) 0):=AU hx rfl
 simp only[go_sem,Nat.reduceAdd,AU (off:=9) hc.box (v:=K.v4) rfl,gxc,hpm,hld]
 have dd:stepT K.cx s ⟨.ofNat c,.ofNat i⟩=bif !((K.cx.me i).m.st==decide (c=26))then none else(Dh K.fs (K.cx.me i).m.ps.reverse s.stk).bind λr=>
  (bif decide (c=25)then Dh K.fs [⟨(K.cx.me i).own,false⟩] r else some r).bind λr=>(CW K.mx (K.cx.me i).m.ret r).map λr=>(⟨s.loc,r⟩:Ce):=by
  rcases hcode with rfl|rfl
  ·show(Option.bind (bif (K.cx.me i).m.st then none else some ((K.cx.me i).m.ps.reverse++[⟨(K.cx.me i).own,false⟩],some (K.cx.me i).m.ret)) _)=_
   cases(K.cx.me i).m.st with
   |true=>rfl
   |false=>
    show(Dh K.fs ((K.cx.me i).m.ps.reverse++[⟨(K.cx.me i).own,false⟩]) s.stk).bind _=(Dh K.fs (K.cx.me i).m.ps.reverse s.stk).bind _
    rw[AE1]
    cases Dh K.fs (K.cx.me i).m.ps.reverse s.stk<;>rfl
  ·show(Option.bind (bif (K.cx.me i).m.st then some ((K.cx.me i).m.ps.reverse,some (K.cx.me i).m.ret)else none) _)=_
   cases(K.cx.me i).m.st with
   |false=>rfl
   |true=>rfl
 rw[dd]at d
 generalize K.cx.me (i:Int)=mm at*
 show Ba 6 (.ptr n 0) (.agg (mm.cells w)) _ _ _
 refine WY rfl rfl (by omega) λH2 f2 g2=>?_
 have gx2:=f2.get hx hxn
 have f2':=f2.kw (b:=K.b) (m:=m) (by omega) hbm
 have hseen:=hc.img.tab.seen
 have h:=h.kp f2
 have hc:=hc.kw f2'
 have d:=d.later f2'
 simp only[go_sem,Nat.reduceAdd,AU (off:=1) g2 (v:=.bool mm.m.st) rfl,AU (off:=0) gx2 (v:=.int .i64 (.ofNat c) 0) rfl,aP,ATi]
 cases hst:mm.m.st==decide (c=26)with
 |false=>
  rw[hst]at d
  simp only[Bool.not_false,go_sem]
  exact d.no _ _ (.refl ..) rfl
 |true=>
  rw[hst]at d
  simp only[Bool.not_true,go_sem,Nat.reduceAdd,AU (off:=2) g2 (v:=w) rfl]
  have hw2:=hw.ke ((f2'.kb).ke (G:=G) hseen)
  refine AHm (ws:=mm.m.ps) hc h (λH' n' f=>f.el (m:=m) (by omega) hqm hc.img.tab.seen hw2.el hw2.lo) hw.lt hw.ok (λH3 n3 f3 e=>?_) λH3 n3 r f3 e hs=>?_
  ·simp only[go_sem,Bo,Bool.not_false]
   exact d.no _ _ (f3.kw (by omega) hqm) (by rw[show Dh K.fs mm.m.ps.reverse s.stk=none from e];rfl)
  ·have hn3:=f3.le
   have gx3:=f3.get gx2 (by omega) (by omega) (by omega)
   have g3:=f3.get g2 (by omega) (by omega) (by omega)
   have f3':=f3.kw (m:=m) (by omega) hqm
   have hc:=hc.kw f3'
   have d:=(d.later f3').cast (o':=(bif decide (c=25)then Dh K.fs [⟨mm.own,false⟩] r else some r).bind λr=>(CW K.mx mm.m.ret r).map λr=>(⟨s.loc,r⟩:Ce)) (by rw[show Dh K.fs mm.m.ps.reverse s.stk=some r from e];rfl)
   have gr:∀{H':Heap},T.get H' n=some (one (mm.cells w))->Af 2 (.ptr n 3) G H'=some mm.m.ret.v:=λg=>by
    rw[Iq g (by omega) (by show 3+2<=6;omega)];rfl
   simp only[Bo,Bool.not_true,go_sem,Nat.reduceAdd,AU (off:=0) gx3 (v:=.int .i64 (.ofNat c) 0) rfl,aP]
   by_cases h25:c=25
   ·simp only[h25,decide_true,go_sem,Nat.reduceAdd,AU (off:=5) g3 (v:=mm.own.v) rfl]
    rw[decide_eq_true h25]at d
    refine uO λH4 n4 f4=>?_
    have hn4:=f4.le
    have f4':=f4.kw (b:=K.b) (m:=m) (by omega) hbm
    have g4:=f4.get g3 (by omega)
    have d:=d.later f4'
    refine Xl (ws:=[⟨mm.own,false⟩]) (hc.kw f4') (hs.kp f4) rfl rfl (by omega) (λt ht=>?_) (λH5 n5 f5 e=>?_) λH5 n5 r2 f5 e hs=>?_
    ·rw[List.mem_singleton.1 ht];exact hook
    ·exact d.no _ _ (f5.kw (by omega) hqm) (by show(Dh K.fs [⟨mm.own,false⟩] r).bind _=none;rw[show Dh K.fs [⟨mm.own,false⟩] r=none from e];rfl)
    ·have hn5:=f5.le
     have f5':=f5.kw (m:=m) (by omega) hqm
     simp only[Bo,Bool.not_true,go_sem,gr (f5.get g4 (by omega) (by omega) (by omega))]
     exact Tv ((hc.kw f4').kw f5') hs hrok ((d.later f5').cast (by show(Dh K.fs [⟨mm.own,false⟩] r).bind _=_;rw[show Dh K.fs [⟨mm.own,false⟩] r=some r2 from e];rfl))
   ·simp only[h25,decide_false,go_sem,gr g3]
    rw[decide_eq_false h25]at d
    exact Tv hc hs hrok d
end
section
variable{K:Yv}{G:AX}{H:Heap}{n m q:Nat}{at' td w:V}{ws:List Ty}{s:Ce}{t:Ty}{k:KV}{p:V}{N:Nat}{Z:LV}
theorem yx(o:Option (List Ty))(f:List Ty->Ce):(o.bind λr=>some (f r))=o.map f:=by cases o<;>rfl
theorem AK6(hG:QT G){c i:Nat}(hc:K.At G H m at' td)(h:JF H m n q s)(hmn:m<=n)(hin:ny K.pool s.loc.length c i)(hcode:16<=c/\c<=26)
 (d:Dn K.b m H n q k (stepT K.cx s ⟨.ofNat c,.ofNat i⟩)):Runs F G UJ [.ptr K.kb 0,.ptr q 0,.agg (Ins.cells ⟨.ofNat c,.ofNat i⟩)] H n k:=by
 refine BN (s:=ar3 (Gg lfp G)) MI (by obtain⟨h,o⟩:=SX BO G;rw[MI]at h;cases h;exact o) ?_
 show Gg lfp G (Runs F G) (.ptr K.kb 0) (.ptr q 0) (.agg (Ins.cells ⟨.ofNat c,.ofNat i⟩)) H n k
 delta Gg
 have hbm:K.b<m:=hc.img.tab.bn
 have hqm:=h.mq
 have hqn:=h.qn
 refine FZ λH1 f1 g1=>?_
 have h:=h.kp f1
 have f1':=f1.kw (b:=K.b) (m:=m) (by omega) hbm
 have hc:=hc.kw f1'
 have d:=d.later f1'
 have g1c:AV (.ptr n 1) G H1=some (.int .i64 (.ofNat i) 0):=AU g1 rfl
 simp only[go_sem,Nat.reduceAdd,AU (off:=0) g1 (v:=.int .i64 (.ofNat c) 0) rfl,aP]
 by_cases h18:c=18
 ·subst h18
  obtain⟨pn,hpn,hld,hok⟩:=AEL hc (hin.nm (by omega))
  simp only[decide_true,go_sem,Nat.reduceAdd,AU (off:=6) hc.box (v:=K.v1) rfl,g1c,hpn,hld]
  refine uO λH2 n2 f2=>?_
  have f2':=f2.kw (b:=K.b) (m:=m) (by omega) hbm
  exact Tv (t:=K.cx.cl i) (hc.kw f2') (h.kp f2) hok (d.later f2')
 simp only[h18,decide_false,go_sem]
 by_cases h19:c=19
 ·subst h19
  have hi':=hin.ty (by omega)
  obtain⟨pt,hpt,hld0⟩:=hc.pool.t2.el.at (XF hi')
  have hty:K.pool.types.getD i Bq=K.pool.types[i]:=by rw[List.getD_eq_getElem?_getD,List.getElem?_eq_getElem hi'];rfl
  have htok:=hc.pool.t2.ok _ (List.getElem_mem hi')
  have d:Dn K.b m H1 (n+1) q k ((bif (K.pool.types.getD i Bq).arr then some ([DV],some (K.pool.types.getD i Bq))else none).bind λe=>(Dh K.fs e.1 s.stk).bind λr=>(qc K.mx e.2 r).map λr=>(⟨s.loc,r⟩:Ce)):=d
  rw[hty]at d
  obtain⟨p1,hp1,hld1⟩:=WI hG hld0 (by rfl) (o:=1) (x:=.bool K.pool.types[i].arr) rfl
  simp only[decide_true,go_sem,Nat.reduceAdd,AU (off:=7) hc.box (v:=K.v2) rfl,g1c,hpt,hp1,hld1]
  cases ha:K.pool.types[i].arr with
  |false=>
   rw[ha]at d
   simp only[go_sem]
   exact d.no _ _ (.refl ..) rfl
  |true=>
   rw[ha]at d
   simp only[go_sem]
   refine jB λH2 n2 f2=>?_
   have hn2:=f2.le
   have f2':=f2.kw (b:=K.b) (m:=m) (by omega) hbm
   have hc2:=hc.kw f2'
   have g2:=f2.get g1 (by omega)
   have d:=d.later f2'
   refine Xl (N:=1) (ws:=[DV]) hc2 (h.kp f2) rfl rfl (by omega) (λt ht=>?_) (λH3 n3 f3 e=>?_) λH3 n3 r f3 e hs=>?_
   ·rw[List.mem_singleton.1 ht];exact Qr
   ·simp only[go_sem]
    refine d.no _ _ (f3.kw (by omega) hqm) ?_
    show(Dh K.fs [DV] s.stk).bind _=none
    rw[show Dh K.fs [DV] s.stk=none from e];rfl
   ·have f3':=f3.kw (m:=m) (by omega) hqm
    have hc3:=hc2.kw f3'
    have g3:=f3.get g2 (by omega) (by omega) (by omega)
    have g3c:AV (.ptr n 1) G H3=some (.int .i64 (.ofNat i) 0):=AU g3 rfl
    obtain⟨pt3,hpt3,hld3⟩:=hc3.pool.t2.el.at (XF hi')
    simp only[go_sem,Nat.reduceAdd,AU (off:=7) hc3.box (v:=K.v2) rfl,g3c,hpt3,DI hld3]
    refine Tv hc3 hs htok ((d.later f3').cast ?_)
    show(Dh K.fs [DV] s.stk).bind _=_
    rw[show Dh K.fs [DV] s.stk=some r from e];rfl
 simp only[h19,decide_false,go_sem]
 by_cases h23:c=23
 ·simp only[h23,decide_true,go_sem]
  subst h23
  exact AJp hc h g1 (by omega) (by omega) (by omega) (by omega) (hin.nm (by omega)) (by omega) d
 simp only[h23,decide_false,go_sem]
 by_cases h24:c=24
 ·simp only[h24,decide_true]
  subst h24
  exact AJp hc h g1 (by omega) (by omega) (by omega) (by omega) (hin.nm (by omega)) (by omega) d
 simp only[h24,decide_false]
 delta Dk
 simp only[go_sem,aP]
 by_cases h16:c=16
 ·subst h16
  obtain⟨pf,hpf,hld,htok,hook⟩:=AFz hc (hin.fl (by omega))
  simp only[decide_true,go_sem,Nat.reduceAdd,AU (off:=8) hc.box (v:=K.v3) rfl,g1c,hpf,hld]
  have d:Dn K.b m H1 (n+1) q k ((Dh K.fs [⟨(K.cx.fl i).own,false⟩] s.stk).bind λr=>(CW K.mx (K.cx.fl i).f.ty r).map λr=>(⟨s.loc,r⟩:Ce)):=d
  generalize K.cx.fl (i:Int)=ff at*
  show Ba 4 (.ptr (n+1) 0) (.agg ff.cells) _ _ _
  refine WY rfl rfl (by omega) λH2 f2 g2=>?_
  simp only[go_sem,Nat.reduceAdd,AU (off:=3) g2 (v:=ff.own.v) rfl]
  refine uO λH3 n3 f3=>?_
  have hn3:=f3.le
  have g3:=f3.get g2 (by omega)
  have gr:∀{H':Heap},T.get H' (n+1)=some (one ff.cells)->Af 2 (.ptr (n+1) 1) G H'=some ff.f.ty.v:=λg=>by
   rw[Iq g (by omega) (by show 1+2<=4;omega)];rfl
  have f3':=(f2.trans f3).kw (b:=K.b) (m:=m) (by omega) hbm
  have d:=d.later f3'
  have hc3:=hc.kw f3'
  refine Xl (N:=1) (ws:=[⟨ff.own,false⟩]) hc3 (h.kp (f2.trans f3)) rfl rfl (by omega) (λt ht=>by rw[List.mem_singleton.1 ht];exact hook) (λH4 n4 f4 e=>?_) λH4 n4 r f4 e hs=>?_
  ·simp only[go_sem]
   refine d.no _ _ (f4.kw (by omega) hqm) ?_
   rw[show Dh K.fs [⟨ff.own,false⟩] s.stk=none from e];rfl
  ·have f4':=f4.kw (m:=m) (by omega) hqm
   simp only[go_sem,Nat.reduceAdd,gr (f4.get g3 (by omega) (by omega) (by omega))]
   exact Tv (hc3.kw f4') hs htok ((d.later f4').cast (by rw[show Dh K.fs [⟨ff.own,false⟩] s.stk=some r from e];rfl))
 simp only[h16,decide_false,go_sem]
 by_cases h17:c=17
 ·subst h17
  obtain⟨pf,hpf,hld,htok,hook⟩:=AFz hc (hin.fl (by omega))
  simp only[decide_true,go_sem,Nat.reduceAdd,AU (off:=8) hc.box (v:=K.v3) rfl,g1c,hpf,hld]
  have d:Dn K.b m H1 (n+1) q k ((Dh K.fs [(K.cx.fl i).f.ty,⟨(K.cx.fl i).own,false⟩] s.stk).bind λr=>some (⟨s.loc,r⟩:Ce)):=d
  rw[yx]at d
  generalize K.cx.fl (i:Int)=ff at*
  show Ba 4 (.ptr (n+1) 0) (.agg ff.cells) _ _ _
  refine WY rfl rfl (by omega) λH2 f2 g2=>?_
  have gr:∀{H':Heap},T.get H' (n+1)=some (one ff.cells)->Af 2 (.ptr (n+1) 1) G H'=some ff.f.ty.v:=λg=>by
   rw[Iq g (by omega) (by show 1+2<=4;omega)];rfl
  simp only[go_sem,Nat.reduceAdd,AU (off:=3) g2 (v:=ff.own.v) rfl,gr g2]
  refine uO λH3 n3 f3=>?_
  have hn3:=f3.le
  have g3:=f3.get g2 (by omega)
  have f3':=(f2.trans f3).kw (b:=K.b) (m:=m) (by omega) hbm
  rw[gr g3,AB,TB,VU]
  refine jI (ws:=[⟨ff.own,false⟩,ff.f.ty]) (hc.kw f3') (h.kp (f2.trans f3)) rfl rfl (by omega) (λt ht=>?_) (d.later f3')
  simp only[List.mem_cons,List.not_mem_nil,or_false]at ht
  rcases ht with rfl|rfl
  ·exact hook
  ·exact htok
 simp only[h17,decide_false,go_sem]
 by_cases h25:c=25
 ·simp only[h25,decide_true,go_sem]
  subst h25
  exact ALT hc h g1 (by omega) (by omega) (by omega) (by omega) (hin.me (by omega)) (by omega) d
 simp only[h25,decide_false,go_sem]
 by_cases h26:c=26
 ·simp only[h26,decide_true]
  subst h26
  exact ALT hc h g1 (by omega) (by omega) (by omega) (by omega) (hin.me (by omega)) (by omega) d
 simp only[h26,decide_false]
 delta DZ
 simp only[go_sem,CV (m:=2) g1 (by omega) rfl]
 exact ANA hc h (by omega) (λ_=>hin.ty (by omega)) d
end
section
variable{K:Yv}{G:AX}{H:Heap}{n m q:Nat}{at' td w:V}{ws:List Ty}{s:Ce}{t:Ty}{k:KV}{p:V}{N:Nat}{Z:LV}
theorem AJr{c i x y z:Nat}(hc:K.At G H m at' td)(h:JF H m n q s)(hx:T.get H x=some (one (Ins.cells ⟨.ofNat c,.ofNat i⟩)))(hxn:x<n)(hxq:x≠q)(hxb:x≠K.b)(hz:T.get H z=some (one FY.cells))(hzn:z<n)(hzq:z≠q)(hzb:z≠K.b)
 (hcode:c=12∨c=13) (hmn:m<=n)
 (d:Dn K.b m H n q k (stepT K.cx s ⟨.ofNat c,.ofNat i⟩)):DU lfp G (Runs F G) k (.ptr K.kb 0) (.ptr q 0) (.ptr x 0) (.ptr y 0) (.ptr z 0) (.int .i64 (.ofNat c) 0) (.bool true) H n:=by
 delta DU
 have hbm:K.b<m:=hc.img.tab.bn
 have hqm:=h.mq
 have hqn:=h.qn
 simp only[go_sem]
 refine fH hbm h (λe H2 p f2 hp g2 hs=>?_) λa r e H2 p f2 hp g2 hs=>?_
 ·have f2':=f2.kw (m:=m) (by omega) hqm
  have hno:stepT K.cx s ⟨.ofNat c,.ofNat i⟩=none:=by
   rcases hcode with rfl|rfl
   ·show(match s.stk with|a::b::k=>_|_=>none)=none;rw[e]
   ·show(match s.stk with|a::b::k=>_|_=>none)=none;rw[e]
  refine fH hbm (hs.mono (H':=H2) (Nat.le_succ p) λ_ _ _=>rfl) (λe3 H3 p3 f3 hp3 g3 hs3=>?_) λa r e3 H3 p3 f3 hp3 g3 hs3=>?_
  ·simp only[go_sem]
   exact d.no _ _ (f2'.trans (f3.kw (by omega) hqm)) hno
  ·rw[e]at e3;cases e3
 ·have f2':=f2.kw (m:=m) (by omega) hqm
  have haok:a.nm.ok:=h.os a (by rw[e];exact List.mem_cons_self ..)
  refine fH hbm (hs.mono (H':=H2) (Nat.le_succ p) λ_ _ _=>rfl) (λe3 H3 p3 f3 hp3 g3 hs3=>?_) λb r3 e3 H3 p3 f3 hp3 g3 hs3=>?_
  ·have e3:r=[]:=e3
   subst e3
   have hno:stepT K.cx s ⟨.ofNat c,.ofNat i⟩=none:=by
    rcases hcode with rfl|rfl
    ·show(match s.stk with|a::b::k=>_|_=>none)=none;rw[e]
    ·show(match s.stk with|a::b::k=>_|_=>none)=none;rw[e]
   simp only[go_sem]
   exact d.no _ _ (f2'.trans (f3.kw (by omega) hqm)) hno
  ·have e3:r=b::r3:=e3
   subst e3
   have hbok:b.nm.ok:=h.os b (by rw[e];exact List.mem_cons_of_mem _ (List.mem_cons_self ..))
   have f3':=f2'.trans (f3.kw (m:=m) (by omega) hqm)
   have hc:=hc.kw f3'
   have gx:=f3.get (f2.get hx (by omega) (by omega) (by omega)) (by omega) (by omega) (by omega)
   have gz:=f3.get (f2.get hz (by omega) (by omega) (by omega)) (by omega) (by omega) (by omega)
   have ga:=f3.get g2 (by omega) (by omega) (by omega)
   have hs3:=hs3.mono (H':=H3) (Nat.le_succ p3) λ_ _ _=>rfl
   have d:=d.later f3'
   rcases hcode with rfl|rfl
   ·have d:=d.cast (o':=bif a.is b&& !a.obj then(CW K.mx FY r3).map λk=>⟨s.loc,k⟩else none) (by
     show(match s.stk with|a::b::k=>bif a.is b&& !a.obj then(CW K.mx FY k).map λk=>(⟨s.loc,k⟩:Ce)else none|_=>none)=_
     rw[e])
    simp only[go_sem,Nat.reduceAdd,AU (off:=0) gx (v:=.int .i64 (.ofNat 12) 0) rfl,aP,decide_true,BG ga,BG g3,oM]
    have gx1:∀{H':Heap},T.get H' x=some (one (Ins.cells ⟨.ofNat 12,.ofNat i⟩))->AV (.ptr x 0) G H'=some (.int .i64 (.ofNat 12) 0):=λg=>AU g rfl
    cases h1:a.is b with
    |false=>
     rw[h1]at d
     simp only[go_sem,gx1 gx,aP,Nat.reduceEqDiff,decide_false]
     exact d.no _ _ (.refl ..) rfl
    |true=>
     rw[h1]at d
     simp only[go_sem,BG ga]
     refine bC haok λH4 n4 f4=>?_
     have hn4:=f4.le
     have f4':=f4.kw (b:=K.b) (m:=m) (by omega) hbm
     have d:=d.later f4'
     cases h2:a.obj with
     |true=>
      rw[h2]at d
      simp only[go_sem,Bo,Bool.not_true,Nat.reduceAdd,gx1 (f4.get gx (by omega)),aP,Nat.reduceEqDiff,decide_false]
      exact d.no _ _ (.refl ..) rfl
     |false=>
      rw[h2]at d
      simp only[go_sem,Bo,Bool.not_false,BG (f4.get gz (by omega))]
      exact Tv (hc.kw f4') (hs3.kp f4) WC d
   ·have d:=d.cast (o':=bif a.obj&&b.obj then(CW K.mx FY r3).map λk=>⟨s.loc,k⟩else none) (by
     show(match s.stk with|a::b::k=>bif a.obj&&b.obj then(CW K.mx FY k).map λk=>(⟨s.loc,k⟩:Ce)else none|_=>none)=_
     rw[e])
    simp only[go_sem,Nat.reduceAdd,AU (off:=0) gx (v:=.int .i64 (.ofNat 13) 0) rfl,aP,BG ga,BG g3,oM,decide_false,decide_true]
    cases h1:a.obj with
    |false=>
     rw[h1]at d
     refine bC haok λH4 n4 f4=>?_
     have f4':=f4.kw (b:=K.b) (m:=m) (by omega) hbm
     rw[h1]
     simp only[go_sem]
     exact d.no _ _ f4' rfl
    |true=>
     rw[h1]at d
     refine bC haok λH4 n4 f4=>?_
     have hn4:=f4.le
     have f4':=f4.kw (b:=K.b) (m:=m) (by omega) hbm
     have d:=d.later f4'
     rw[h1]
     simp only[go_sem,BG (f4.get g3 (by omega))]
     refine bC hbok λH5 n5 f5=>?_
     have hn5:=f5.le
     have f5':=f5.kw (b:=K.b) (m:=m) (by omega) hbm
     have d:=d.later f5'
     cases h2:b.obj with
     |false=>
      rw[h2]at d
      simp only[go_sem]
      exact d.no _ _ (.refl ..) rfl
     |true=>
      rw[h2]at d
      simp only[go_sem,BG (f5.get (f4.get gz (by omega)) (by omega))]
      exact Tv ((hc.kw f4').kw f5') ((hs3.kp f4).kp f5) WC d
end
section
variable{K:Yv}{G:AX}{H:Heap}{n m q:Nat}{at' td w:V}{ws:List Ty}{s:Ce}{t:Ty}{k:KV}{p:V}{N:Nat}{Z:LV}
theorem JF.ALp{q':IntKind}{i:Nat}{P:KV}(h:JF H m n q s)(hi:i<s.loc.length)(ht:t.nm.ok){vl vs:V}(g:T.get H q=some (one [vl,vs]))
 (hk:∀H',(∀id,id<m->T.get H' id=T.get H id)->JF H' m n q ⟨s.loc.set i t,s.stk⟩->P .undef H' n):AP (Ag 2 vl (.int q' (.ofNat i) 0)) λp=>Ba 2 p t.v H n P:=by
 obtain⟨vl2,vs2,g2,hl,hs,hd⟩:=h.is
 rw[g]at g2
 cases g2
 refine hl.put (w:=t.v) (by omega) (by rw[GN];exact hi) rfl rfl λH' hl' s'=>?_
 have e:(tys s.loc).set i (Aq t.v)=tys (s.loc.set i t):=by rw[show Aq t.v=t.cells from rfl];exact(List.map_set ..).symm
 rw[e]at hl'
 refine hk H' (λid hid=>s' id λe=>by have:=(hl.own e).1;omega) ⟨h.mq,h.qn,⟨vl,vs,(s' q λe=>(hl.own e).2.2 rfl).trans g,hl',?_,hd⟩,?_,h.os,?_,h.bs⟩
 ·exact hs.AFK (λid hid=>hs.own hid) λid hid=>s' id λe=>hd id e hid
 ·intro x hx
  rcases List.mem_or_eq_of_mem_set hx with hx|rfl
  ·exact h.ol x hx
  ·exact ht
 ·show(s.loc.set i t).length<=100000
  rw[List.length_set];exact h.bl
structure ADS(H:Heap)(n q b x y z c i:Nat):Prop where
 gx:T.get H x=some (one (Ins.cells ⟨.ofNat c,.ofNat i⟩))
 gy:T.get H y=some (one DV.cells)
 gz:T.get H z=some (one FY.cells)
 xn:x<n
 yn:y<n
 zn:z<n
 xq:x≠q
 yq:y≠q
 zq:z≠q
 xb:x≠b
 yb:y≠b
 zb:z≠b
theorem ADS.kq{b x y z c i n':Nat}{H':Heap}(h:ADS H n q b x y z c i)(f:Kq b q H n H' n'):ADS H' n' q b x y z c i:=
 ⟨f.get h.gx h.xn h.xb h.xq,f.get h.gy h.yn h.yb h.yq,f.get h.gz h.zn h.zb h.zq,Nat.lt_of_lt_of_le h.xn f.le,Nat.lt_of_lt_of_le h.yn f.le,Nat.lt_of_lt_of_le h.zn f.le,h.xq,h.yq,h.zq,h.xb,h.yb,h.zb⟩
theorem ABR{u:Ty}(hu:u.nm.ok):∀t∈[u],t.nm.ok:=λt ht=>by rw[List.mem_singleton.1 ht];exact hu
theorem AL9{u v:Ty}(hu:u.nm.ok)(hv:v.nm.ok):∀t∈[u,v],t.nm.ok:=λt ht=>by
 simp only[List.mem_cons,List.not_mem_nil,or_false]at ht
 rcases ht with rfl|rfl
 ·exact hu
 ·exact hv
theorem AJ1(hG:QT G){c i x y z:Nat}(hc:K.At G H m at' td)(h:JF H m n q s)(hx:ADS H n q K.b x y z c i)(hmn:m<=n)(hin:ny K.pool s.loc.length c i)(hcode:16<=c/\c<=31)
 (d:Dn K.b m H n q k (stepT K.cx s ⟨.ofNat c,.ofNat i⟩)):DU lfp G (Runs F G) k (.ptr K.kb 0) (.ptr q 0) (.ptr x 0) (.ptr y 0) (.ptr z 0) (.int .i64 (.ofNat c) 0) (.bool false) H n:=by
 delta DU
 have hbm:K.b<m:=hc.img.tab.bn
 have hqm:=h.mq
 have hqn:=h.qn
 simp only[go_sem,aP]
 by_cases h30:c=30
 ·subst h30
  simp only[decide_true,go_sem,BG hx.gy]
  refine jI (ws:=[DV]) hc h rfl rfl (by omega) (ABR Qr) (d.cast ?_)
  show(Dh K.fs [DV] s.stk).bind (λr=>some (⟨s.loc,r⟩:Ce))=_
  rw[yx];rfl
 simp only[h30,decide_false,go_sem]
 by_cases h28:c=28
 ·subst h28
  simp only[decide_true,go_sem,BG hx.gz]
  refine jI (ws:=[FY]) hc h rfl rfl (by omega) (ABR WC) (d.cast ?_)
  show(Dh K.fs [FY] s.stk).bind (λr=>some (⟨s.loc,r⟩:Ce))=_
  rw[yx];rfl
 simp only[h28,decide_false,go_sem]
 by_cases h31:c=31
 ·subst h31
  simp only[decide_true,go_sem]
  refine fH hbm h (λe H2 p f2 hp g2 hs=>?_) λa r e H2 p f2 hp g2 hs=>?_
  ·exact d.no _ _ (f2.kw (by omega) hqm) (by show(match s.stk with|[]=>none|_::k=>_)=none;rw[e])
  ·exact d.yes _ _ _ (f2.kw (by omega) hqm) (by show(match s.stk with|[]=>none|_::k=>some (⟨s.loc,k⟩:Ce))=_;rw[e]) (hs.mono (Nat.le_succ p) λ_ _ _=>rfl)
 simp only[h31,decide_false,go_sem]
 by_cases h29:c=29
 ·subst h29
  have gr:Af 2 (.ptr K.kb 17) G H=some K.ret.v:=by rw[Iq hc.box (by omega) (by show 17+2<=21;omega)];rfl
  simp only[decide_true,go_sem,Nat.reduceAdd,gr]
  refine jI (ws:=[K.ret]) hc h rfl rfl (by omega) (ABR hc.rok) (d.cast ?_)
  show(Dh K.fs [K.ret] s.stk).bind (λr=>some (⟨s.loc,r⟩:Ce))=_
  rw[yx];rfl
 simp only[h29,decide_false,go_sem]
 by_cases h27:c=27
 ·subst h27
  simp only[decide_true,go_sem]
  exact d.yes _ _ _ (.refl ..) rfl h
 simp only[h27,decide_false,go_sem,CV (m:=2) hx.gx (by omega) rfl]
 exact AK6 hG hc h hmn hin (by omega) d
theorem AL7(hG:QT G){c i x y z:Nat}(hc:K.At G H m at' td)(h:JF H m n q s)(hx:ADS H n q K.b x y z c i)(hmn:m<=n)(hin:ny K.pool s.loc.length c i)(hcode:12<=c/\c<=31)
 (d:Dn K.b m H n q k (stepT K.cx s ⟨.ofNat c,.ofNat i⟩)):DT lfp G (Runs F G) k (.ptr K.kb 0) (.ptr q 0) (.ptr x 0) (.ptr y 0) (.ptr z 0) (.int .i64 (.ofNat c) 0) (.bool false) H n:=by
 delta DT
 simp only[go_sem,aP]
 by_cases h14:c=14
 ·subst h14
  simp only[decide_true,go_sem,BG hx.gy]
  refine Xk (N:=1) (ws:=[DV]) (t:=DV) hc h rfl rfl (by omega) (ABR Qr) Qr (λH' n' f=>BG (hx.kq f).gy) d
 simp only[h14,decide_false,go_sem]
 by_cases h15:c=15
 ·subst h15
  simp only[decide_true,go_sem,BG hx.gz]
  refine Xk (N:=1) (ws:=[FY]) (t:=FY) hc h rfl rfl (by omega) (ABR WC) WC (λH' n' f=>BG (hx.kq f).gz) d
 simp only[h15,decide_false,go_sem]
 by_cases h12:c=12
 ·simp only[h12,decide_true,go_sem]
  subst h12
  exact AJr hc h hx.gx hx.xn hx.xq hx.xb hx.gz hx.zn hx.zq hx.zb (by omega) hmn d
 simp only[h12,decide_false,go_sem]
 by_cases h13:c=13
 ·simp only[h13,decide_true]
  subst h13
  exact AJr hc h hx.gx hx.xn hx.xq hx.xb hx.gz hx.zn hx.zq hx.zb (by omega) hmn d
 simp only[h13,decide_false]
 exact AJ1 hG hc h hx hmn hin (by omega) d
theorem AB8{c i x y z:Nat}(hc:K.At G H m at' td)(h:JF H m n q s)(hx:ADS H n q K.b x y z c i)(hcode:c=10∨c=11){u:V}
 (d:Dn K.b m H n q k (stepT K.cx s ⟨.ofNat c,.ofNat i⟩)):DT lfp G (Runs F G) k (.ptr K.kb 0) (.ptr q 0) (.ptr x 0) (.ptr y 0) (.ptr z 0) u (.bool true) H n:=by
 delta DT
 simp only[go_sem,BG hx.gy]
 refine Xk (N:=2) (ws:=[DV,DV]) (t:=FY) hc h rfl rfl (by omega) (AL9 Qr Qr) WC (λH' n' f=>BG (hx.kq f).gz) (d.cast ?_)
 rcases hcode with rfl|rfl<;>rfl
theorem ALw(hG:QT G){c i x y z:Nat}(hc:K.At G H m at' td)(h:JF H m n q s)(hx:ADS H n q K.b x y z c i)(hmn:m<=n)(hin:ny K.pool s.loc.length c i)(hcode:10<=c/\c<=31)
 (d:Dn K.b m H n q k (stepT K.cx s ⟨.ofNat c,.ofNat i⟩)):Bc lfp G (Runs F G) k (.ptr K.kb 0) (.ptr q 0) (.ptr x 0) (.ptr y 0) (.ptr z 0) (.int .i64 (.ofNat c) 0) (.bool false) H n:=by
 delta Bc
 simp only[go_sem,aP]
 by_cases h10:c=10
 ·simp only[h10,decide_true,go_sem]
  exact AB8 hc h hx (by omega) d
 simp only[h10,decide_false,go_sem]
 by_cases h11:c=11
 ·simp only[h11,decide_true]
  exact AB8 hc h hx (by omega) d
 simp only[h11,decide_false]
 exact AL7 hG hc h hx hmn hin (by omega) d
theorem bY{c i x y z:Nat}(hc:K.At G H m at' td)(h:JF H m n q s)(hx:ADS H n q K.b x y z c i)(hcode:5<=c/\c<=9){u:V}
 (d:Dn K.b m H n q k (stepT K.cx s ⟨.ofNat c,.ofNat i⟩)):Bc lfp G (Runs F G) k (.ptr K.kb 0) (.ptr q 0) (.ptr x 0) (.ptr y 0) (.ptr z 0) u (.bool true) H n:=by
 delta Bc
 simp only[go_sem,BG hx.gy]
 refine Xk (N:=2) (ws:=[DV,DV]) (t:=DV) hc h rfl rfl (by omega) (AL9 Qr Qr) Qr (λH' n' f=>BG (hx.kq f).gy) (d.cast ?_)
 obtain rfl|rfl|rfl|rfl|rfl:c=5∨c=6∨c=7∨c=8∨c=9:=by omega
 all_goals rfl
end
section
variable{K:Yv}{G:AX}{H:Heap}{n m q:Nat}{at' td w:V}{ws:List Ty}{s:Ce}{t:Ty}{k:KV}{p:V}{N:Nat}{Z:LV}
theorem JF.ASy(h:JF H m n q s){vl vs:V}(g:T.get H q=some (one [vl,vs])){i:Nat}(hi:i<s.loc.length):∃p,Ag 2 vl (.int .i64 (.ofNat i) 0)=some p/\Af 2 p G H=some (s.loc.getD i Bq).v/\(s.loc.getD i Bq).nm.ok:=by
 obtain⟨vl2,vs2,g2,hl,hs,hd⟩:=h.is
 rw[g]at g2
 cases g2
 obtain⟨p,hp,hld⟩:=(hl.el (G:=G) (by omega)).at (XF hi)
 have e:s.loc.getD i Bq=s.loc[i]:=by rw[List.getD_eq_getElem?_getD,List.getElem?_eq_getElem hi];rfl
 rw[e]
 exact⟨p,hp,DI hld,h.ol _ (List.getElem_mem hi)⟩
theorem AMf(t:Ty):CX (.agg [.str,.bool]) true t.v Bq.v=some (.bool (!t.is Bq)):=AEd ..
theorem AQd(hG:QT G){c i:Nat}(hc:K.At G H m at' td)(h:JF H m n q s)(hmn:m<=n)(hin:ny K.pool s.loc.length c i)
 (d:Dn K.b m H n q k (stepT K.cx s ⟨.ofNat c,.ofNat i⟩)):Runs F G VQ [.ptr K.kb 0,.ptr q 0,.agg (Ins.cells ⟨.ofNat c,.ofNat i⟩)] H n k:=by
 refine BN (s:=ar3 (Ib lfp G)) Ot (by obtain⟨h,o⟩:=Uj BO G;rw[Ot]at h;cases h;exact o) ?_
 show Ib lfp G (Runs F G) (.ptr K.kb 0) (.ptr q 0) (.agg (Ins.cells ⟨.ofNat c,.ofNat i⟩)) H n k
 delta Ib
 have hbm:K.b<m:=hc.img.tab.bn
 have hqm:=h.mq
 have hqn:=h.qn
 refine FZ λH1 f1 g1=>?_
 refine jB λH2 n2 f2=>?_
 have hn2:=f2.le
 refine AHA λH3 n3 f3=>?_
 have hn3:=f3.le
 refine BZ rfl λH4 f4 g4=>?_
 refine BZ rfl λH5 f5 g5=>?_
 show Ba 2 (.ptr n3 0) (.agg DV.cells) _ _ _
 refine IU (f5.get g4 (by omega)) rfl rfl (by omega) λH6 g6 s6=>?_
 show Ba 2 (.ptr (n3+1) 0) (.agg FY.cells) _ _ _
 refine IU ((s6 _ (by omega)).trans g5) rfl rfl (by omega) λH7 g7 s7=>?_
 have g7x:T.get H7 n=some (one (Ins.cells ⟨.ofNat c,.ofNat i⟩)):=by
  rw[s7 _ (by omega),s6 _ (by omega)]
  exact f5.get (f4.get (f3.get (f2.get g1 (by omega)) (by omega)) (by omega)) (by omega)
 have f7:Kp H n H7 (n3+1+1):=⟨by omega,λid hid=>by rw[s7 _ (by omega),s6 _ (by omega),f5.same _ (by omega),f4.same _ (by omega),f3.same _ (by omega),f2.same _ (by omega),f1.same _ hid]⟩
 have hx:ADS H7 (n3+1+1) q K.b n n3 (n3+1) c i:=⟨g7x,(s7 _ (by omega)).trans g6,g7,by omega,by omega,by omega,by omega,by omega,by omega,by omega,by omega,by omega⟩
 have h:=h.kp f7
 have f7':=f7.kw (b:=K.b) (m:=m) (by omega) hbm
 have hc:=hc.kw f7'
 have d:=d.later f7'
 clear f1 f2 f3 f4 f5 g1 g4 g5 g6 g7 s6 s7 g7x
 have gxc:AV (.ptr n 1) G H7=some (.int .i64 (.ofNat i) 0):=AU hx.gx rfl
 simp only[go_sem,Nat.reduceAdd,AU (off:=0) hx.gx (v:=.int .i64 (.ofNat c) 0) rfl,aP]
 by_cases h1:c=1
 ·subst h1
  simp only[decide_true,go_sem,BG hx.gy]
  exact Tv hc h Qr d
 simp only[h1,decide_false,go_sem]
 by_cases h32:c=32
 ·subst h32
  simp only[decide_true,go_sem,BG hx.gz]
  exact Tv hc h WC d
 simp only[h32,decide_false,go_sem]
 by_cases h2:c=2
 ·subst h2
  simp only[decide_true,go_sem]
  refine X5 λH8 n8 f8=>?_
  have f8':=f8.kw (b:=K.b) (m:=m) (by omega) hbm
  exact Tv (hc.kw f8') (h.kp f8) AOU (d.later f8')
 simp only[h2,decide_false,go_sem]
 by_cases h3:c=3
 ·subst h3
  obtain⟨vl,vs,gq,-⟩:=h.is
  obtain⟨p,hp,hld,hok⟩:=h.ASy (G:=G) gq (hin.lc (by omega))
  have d:=d.cast (o':=bif (s.loc.getD i Bq).is Bq then none else(CW K.mx (s.loc.getD i Bq) s.stk).map λk=>⟨s.loc,k⟩) rfl
  simp only[decide_true,go_sem,Nat.reduceAdd,AU (off:=0) gq (v:=vl) rfl,gxc,hp,hld]
  rw[vg,AB,AMf,AB]
  cases hb:(s.loc.getD i Bq).is Bq with
  |true=>
   rw[hb]at d
   simp only[Bool.not_true,go_sem]
   exact d.no _ _ (.refl ..) rfl
  |false=>
   rw[hb]at d
   simp only[Bool.not_false,go_sem,Nat.reduceAdd,AU (off:=0) gq (v:=vl) rfl,gxc,hp,hld]
   exact Tv hc h hok d
 simp only[h3,decide_false,go_sem]
 by_cases h4:c=4
 ·subst h4
  simp only[decide_true,go_sem]
  refine fH hbm h (λe H2 p f2 hp g2 hs=>?_) λa r e H2 p f2 hp g2 hs=>?_
  ·obtain⟨vl,vs,gq,-⟩:=hs.is
   have gx:=(hx.kq f2).gx
   simp only[go_sem,Nat.reduceAdd,AU (off:=0) gq (v:=vl) rfl,AU (off:=1) gx (v:=.int .i64 (.ofNat i) 0) rfl,BG g2]
   refine(hs.mono (H':=H2) (Nat.le_succ p) λ_ _ _=>rfl).ALp (t:=Bq) (hin.lc (by omega)) (λ_=>rfl) gq λH3 s3 hs3=>?_
   exact d.no _ _ ((f2.kw (by omega) hqm).trans (.of hbm (Nat.le_refl _) s3)) (by show(match s.stk with|[]=>none|t::k=>some (⟨s.loc.set i t,k⟩:Ce))=none;rw[e])
  ·obtain⟨vl,vs,gq,-⟩:=hs.is
   have gx:=(hx.kq f2).gx
   have haok:a.nm.ok:=h.os a (by rw[e];exact List.mem_cons_self ..)
   simp only[go_sem,Nat.reduceAdd,AU (off:=0) gq (v:=vl) rfl,AU (off:=1) gx (v:=.int .i64 (.ofNat i) 0) rfl,BG g2]
   refine(hs.mono (H':=H2) (Nat.le_succ p) λ_ _ _=>rfl).ALp (hin.lc (by omega)) haok gq λH3 s3 hs3=>?_
   exact d.yes _ _ _ ((f2.kw (by omega) hqm).trans (.of hbm (Nat.le_refl _) s3)) (by show(match s.stk with|[]=>none|t::k=>some (⟨s.loc.set i t,k⟩:Ce))=_;rw[e]) hs3
 simp only[h4,decide_false,go_sem]
 have hlo:=hin.lo
 have hhi:=hin.hi
 by_cases h5:c=5
 ·simp only[h5,decide_true,go_sem]
  exact bY hc h hx (by omega) d
 simp only[h5,decide_false,go_sem]
 by_cases h6:c=6
 ·simp only[h6,decide_true,go_sem]
  exact bY hc h hx (by omega) d
 simp only[h6,decide_false,go_sem]
 by_cases h7:c=7
 ·simp only[h7,decide_true,go_sem]
  exact bY hc h hx (by omega) d
 simp only[h7,decide_false,go_sem]
 by_cases h8:c=8
 ·simp only[h8,decide_true,go_sem]
  exact bY hc h hx (by omega) d
 simp only[h8,decide_false,go_sem]
 by_cases h9:c=9
 ·simp only[h9,decide_true]
  exact bY hc h hx (by omega) d
 simp only[h9,decide_false]
 exact ALw hG hc h hx (by omega) hin (by omega) d
end
def JI(fs:Tab):List Ty->List Ty->Option (List Ty)
 |[],[]=>some []
 |a::l,b::m=>bif (E5 fs a b).2 then(JI fs l m).map λk=>(E5 fs a b).1::k else none
 |_,_=>none
def Dx(fs:Tab):List Ty->List Ty->List Ty
 |a::l,b::m=>(E5 fs a b).1::Dx fs l m
 |l,_=>l
def GV:List Ty->List Ty->Bool
 |[],[]=>true
 |a::l,b::m=>a.is b&&GV l m
 |_,_=>false
theorem PN:∀{l m:List Ty},GV l m=true↔l=m
 |[],[]=>by simp[GV]
 |[],_::_=>by simp[GV]
 |_::_,[]=>by simp[GV]
 |a::l,b::m=>by simp[GV,Ty.Oh,PN]
abbrev TS:=List (Option Ce)
def GR(fs:Tab)(at':TS)(to:Nat)(s:Ce):Option (TS×Bool):=match at'[to]? with
 |none=>none
 |some none=>some (at'.set to (some s),true)
 |some (some old)=>(JI fs old.stk s.stk).map λk=>(at'.set to (some ⟨Dx fs old.loc s.loc,k⟩),!(GV k old.stk&&GV (Dx fs old.loc s.loc) old.loc))
def jumps(x:Ins):Bool:=decide (x.code=27)||decide (x.code=28)
def ends(x:Ins):Bool:=decide (x.code=27)||decide (x.code=29)
def XJ(n i to:Nat):Nat:=bif decide (n<=to)then i else to
def Uy(c:Cx)(at':TS)(i:Nat)(x:Ins)(s:Ce):Nat ⊕ (TS×List Nat):=match stepT c s x with
 |none=>.inl i
 |some t=>match(bif jumps x then GR c.fs at' x.arg.toNat t else some (at',false))with
  |none=>.inl (XJ c.code.length i x.arg.toNat)
  |some (a1,b1)=>match(bif ends x then some (a1,false)else GR c.fs a1 (i+1) t)with
   |none=>.inl (XJ c.code.length i (i+1))
   |some (a2,b2)=>.inr (a2,(bif b2 then[i+1]else[])++(bif b1 then[x.arg.toNat]else[]))
def xZ:Ins:=⟨0,0⟩
def sZ:Ce:=⟨[],[]⟩
def TS.st(a:TS)(i:Nat):Ce:=((a[i]?).getD none).getD sZ
def Cx.at(c:Cx)(i:Nat):Ins:=(c.code[i]?).getD xZ
def runT(c:Cx):Nat->TS->List Nat->Option Int
 |0,_,_=>none
 |_+1,_,[]=>some (-1)
 |f+1,a,i::todo=>match Uy c a i (c.at i) (TS.st a i)with
  |.inl j=>some j
  |.inr (b,ps)=>runT c f b (ps++todo)
def kZ(x:Ins)(i:Nat):List Nat:=(bif jumps x then[x.arg.toNat]else[])++(bif ends x then[]else[i+1])
structure Post(c:Cx)(init:Ce)(A:Nat->Option Ce):Prop where
 init:∃s,A 0=some s/\Ce.le c.fs init s
 step:∀i s,i<c.code.length->A i=some s->∃t,stepT c s (c.at i)=some t/\∀j∈kZ (c.at i) i,j<c.code.length/\∃u,A j=some u/\Ce.le c.fs t u
theorem uX{fs:Tab}{a b:Ty}(h:(E5 fs a b).2=false):(E5 fs a b).1=Bq:=by
 unfold E5 at*
 cases h1:a.is b<;>cases h2:a.is CO&&b.obj<;>cases h3:b.is CO&&a.obj<;>cases h4:(a.cls&&b.cls)&& !decide (JH fs a.nm b.nm=(0,0))<;>simp_all
section
variable{fs:Tab}(hw:Whole fs)(hu:Upper fs)
include hw hu
theorem AA3:∀{l m k:List Ty},JI fs l m=some k->ZM (kW fs) l k/\ZM (kW fs) m k
 |[],[],_,h=>by cases h;exact⟨.nil,.nil⟩
 |[],_::_,_,h=>by cases h
 |_::_,[],_,h=>by cases h
 |a::l,b::m,k,h=>by
  have h:(bif (E5 fs a b).2 then(JI fs l m).map λk=>(E5 fs a b).1::k else none)=some k:=h
  cases hb:(E5 fs a b).2 with
  |false=>rw[hb]at h;cases h
  |true=>
   rw[hb,cond_true]at h
   obtain⟨q,h1,rfl⟩:=Option.map_eq_some_iff.1 h
   obtain⟨i1,i2⟩:=AA3 h1
   obtain⟨u1,u2⟩:=AEQ hw hu (a:=a) (b:=b) (j:=(E5 fs a b).1) (Prod.ext rfl hb)
   exact⟨.cons u1 i1,.cons u2 i2⟩
theorem xH:∀{l m u:List Ty},ZM (kW fs) l u->ZM (kW fs) m u->∃k,JI fs l m=some k/\ZM (kW fs) k u
 |_,_,_,.nil,.nil=>⟨[],rfl,.nil⟩
 |_,_,_,@ZM.cons _ a c l n h t,@ZM.cons _ b _ m _ h' t'=>by
  obtain⟨k,h1,h2⟩:=xH t t'
  obtain⟨j,h3,h4⟩:=AF8 hw hu h h'
  refine⟨j::k,?_,.cons h4 h2⟩
  show(bif (E5 fs a b).2 then(JI fs l m).map λk=>(E5 fs a b).1::k else none)=_
  rw[h3,h1];rfl
theorem AEa{a b:Ty}:iQ fs a (E5 fs a b).1/\iQ fs b (E5 fs a b).1:=by
 cases hb:(E5 fs a b).2 with
 |true=>
  obtain⟨u1,u2⟩:=AEQ hw hu (a:=a) (b:=b) (j:=(E5 fs a b).1) (Prod.ext rfl hb)
  exact⟨.inr u1,.inr u2⟩
 |false=>exact⟨.inl (uX hb),.inl (uX hb)⟩
theorem AFV{a b u:Ty}(h1:iQ fs a u)(h2:iQ fs b u):iQ fs (E5 fs a b).1 u:=by
 rcases h1 with h1|h1
 ·exact .inl h1
 ·rcases h2 with h2|h2
  ·exact .inl h2
  ·obtain⟨j,h3,h4⟩:=AF8 hw hu h1 h2
   rw[h3];exact .inr h4
theorem AAi:∀{l m:List Ty},l.length=m.length->ZM (iQ fs) l (Dx fs l m)/\ZM (iQ fs) m (Dx fs l m)
 |[],[],_=>⟨.nil,.nil⟩
 |[],_::_,h=>by simp at h
 |_::_,[],h=>by simp at h
 |a::l,b::m,h=>by
  obtain⟨h1,h2⟩:=AAi (l:=l) (m:=m) (by simpa using h)
  obtain⟨u1,u2⟩:=AEa hw hu (a:=a) (b:=b)
  exact⟨.cons u1 h1,.cons u2 h2⟩
theorem xJ:∀{l m u:List Ty},ZM (iQ fs) l u->ZM (iQ fs) m u->ZM (iQ fs) (Dx fs l m) u
 |_,_,_,.nil,.nil=>.nil
 |_,_,_,.cons h t,.cons h' t'=>.cons (AFV hw hu h h') (xJ t t')
structure Came(a:TS)(to:Nat)(s:Ce)(b:TS)(ch:Bool):Prop where
 lt:to<a.length
 len:b.length=a.length
 other:∀j,j≠to->b[j]? =a[j]?
 here:∃u,b[to]? =some (some u)/\Ce.le fs s u/\u.loc.length=s.loc.length/\∀old,a[to]? =some (some old)->Ce.le fs old u
 same:ch=false->b=a
theorem ADb{a b:TS}{to:Nat}{s:Ce}{ch:Bool}(h:GR fs a to s=some (b,ch))(hl:∀old,a[to]? =some (some old)->old.loc.length=s.loc.length):Came (fs:=fs) a to s b ch:=by
 unfold GR at h
 cases e:a[to]? with
 |none=>rw[e]at h;cases h
 |some o=>
  have hlt:=(List.getElem?_eq_some_iff.1 e).1
  rw[e]at h
  cases o with
  |none=>
   cases h
   exact⟨hlt,by simp,λj hj=>by rw[List.getElem?_set_ne (Ne.symm hj)],⟨s,by rw[List.getElem?_set_self hlt],Ce.le_refl ..,rfl,λold ho=>by rw[e]at ho;cases ho⟩,λh=>by cases h⟩
  |some old=>
   obtain⟨k,hk,he⟩:=Option.map_eq_some_iff.1 h
   cases he
   obtain⟨s1,s2⟩:=AA3 hw hu hk
   have hll:=hl old e
   obtain⟨l1,l2⟩:=AAi hw hu hll
   refine⟨hlt,by simp,λj hj=>by rw[List.getElem?_set_ne (Ne.symm hj)],⟨⟨Dx fs old.loc s.loc,k⟩,by rw[List.getElem?_set_self hlt],⟨l2,s2⟩,by show(Dx fs old.loc s.loc).length=_;rw[<-l2.len],λo ho=>?_⟩,λhc=>?_⟩
   ·rw[e]at ho;cases ho;exact⟨l1,s1⟩
   ·simp only[Bool.not_eq_false',Bool.and_eq_true,PN]at hc
    rw[hc.1,hc.2]
    have:a[to]=some ⟨old.loc,old.stk⟩:=by
     have:=(List.getElem?_eq_some_iff.1 e).2
     rw[this]
    rw[<-this];exact List.set_getElem_self hlt
def Under(a:TS)(A:Nat->Option Ce):Prop:=∀j s,a[j]? =some (some s)->∃t,A j=some t/\Ce.le fs s t
theorem AFL{a:TS}{to:Nat}{s t:Ce}{A:Nat->Option Ce}(hu':Under (fs:=fs) a A)(ht:A to=some t)(hs:Ce.le fs s t)(hlt:to<a.length):∃b ch,GR fs a to s=some (b,ch)/\Under (fs:=fs) b A/\b.length=a.length:=by
 unfold GR
 cases e:a[to]? with
 |none=>rw[List.getElem?_eq_none_iff]at e;omega
 |some o=>
  have put:∀x:Ce,Ce.le fs x t->Under (fs:=fs) (a.set to (some x)) A:=λx hx j y hy=>by
   by_cases hj:j=to
   ·subst hj
    rw[List.getElem?_set_self hlt]at hy
    cases hy
    exact⟨t,ht,hx⟩
   ·rw[List.getElem?_set_ne (Ne.symm hj)]at hy
    exact hu' j y hy
  cases o with
  |none=>exact⟨_,_,rfl,put s hs,by simp⟩
  |some old=>
   obtain⟨t',ht',ho⟩:=hu' to old e
   rw[ht]at ht';cases ht'
   obtain⟨k,h1,h2⟩:=xH hw hu ho.2 hs.2
   refine⟨a.set to (some ⟨Dx fs old.loc s.loc,k⟩),!(GV k old.stk&&GV (Dx fs old.loc s.loc) old.loc),?_,put _ ⟨xJ hw hu ho.1 hs.1,h2⟩,by simp⟩
   show(JI fs old.stk s.stk).map _=_
   rw[h1];rfl
end
end Go.RL
