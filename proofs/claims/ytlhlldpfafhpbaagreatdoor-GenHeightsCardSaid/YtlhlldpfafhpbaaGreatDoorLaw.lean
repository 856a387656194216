/- Part of a proof; nothing is assumed. -/
import Derived.Test.YtlhlldpfafhpbaaGreatDoorConK
set_option linter.unusedVariables false
set_option linter.unusedSimpArgs false
namespace Go.RL
open Go.BN
set_option maxRecDepth 100000
def uS:LV:=[.str 2 15677,.str 2 15649,.str 2 15676,.str 2 9766,.str 2 31868,.str 1 43,.str 1 45,.str 1 42,.str 1 47,.str 1 37,.str 1 60,.str 1 61,.str 1 33,.str 1 40,.str 1 41,.str 1 91,.str 1 93,.str 1 123,.str 1 125,.str 1 59,.str 1 44,.str 1 46]
def qA(G:AQ):Prop:=G 2 0 22=some uS
def opT:LV:=[.str 0 0,.int .i32 (.ofNat 0) 0,.str 3 7630441,.int .i32 (.ofNat 110) 0,.str 4 1819047278,.int .i32 (.ofNat 0) 0,.str 5 465490374508,.int .i32 (.ofNat 108) 0,.str 5 435711603827,.int .i32 (.ofNat 108) 0,.str 3 6579297,.int .i32 (.ofNat 0) 0,.str 3 6452595,.int .i32 (.ofNat 0) 0,.str 3 7107949,.int .i32 (.ofNat 0) 0,.str 3 7760228,.int .i32 (.ofNat 0) 0,.str 3 6582125,.int .i32 (.ofNat 0) 0,.str 4 1936942444,.int .i32 (.ofNat 0) 0,.str 4 1953722221,.int .i32 (.ofNat 0) 0,.str 4 1701667187,.int .i32 (.ofNat 0) 0,.str 5 491327616111,.int .i32 (.ofNat 0) 0,.str 3 6776174,.int .i32 (.ofNat 0) 0,.str 3 7630702,.int .i32 (.ofNat 0) 0,.str 3 7628135,.int .i32 (.ofNat 102) 0,.str 3 7632240,.int .i32 (.ofNat 102) 0,.str 3 7824750,.int .i32 (.ofNat 99) 0,.str 5 521325933153,.int .i32 (.ofNat 116) 0,.str 4 1684107116,.int .i32 (.ofNat 116) 0,.str 4 1702257011,.int .i32 (.ofNat 116) 0,.str 6 114849160783212,.int .i32 (.ofNat 0) 0,.str 4 1953718627,.int .i32 (.ofNat 99) 0,.str 2 29545,.int .i32 (.ofNat 99) 0,.str 4 1819042147,.int .i32 (.ofNat 109) 0,.str 6 109304575259763,.int .i32 (.ofNat 109) 0,.str 4 1886221674,.int .i32 (.ofNat 106) 0,.str 6 126939460038261,.int .i32 (.ofNat 106) 0,.str 6 121437875889522,.int .i32 (.ofNat 0) 0,.str 5 500068610672,.int .i32 (.ofNat 0) 0,.str 3 7368560,.int .i32 (.ofNat 0) 0,.str 4 1819242338,.int .i32 (.ofNat 98) 0]
def AAu(G:AQ):Prop:=∀o,o<66->G 0 o 1=some ((opT.drop o).take 1)
abbrev AR8:∀c,c<33->(opT.drop (c*2+1)).take 1=[V.int .i32 (.ofNat (AIC.getD c 0)) 0]:=λc d=>
 match c,d with
 |0,_=>rfl
 |1,_=>rfl
 |2,_=>rfl
 |3,_=>rfl
 |4,_=>rfl
 |5,_=>rfl
 |6,_=>rfl
 |7,_=>rfl
 |8,_=>rfl
 |9,_=>rfl
 |10,_=>rfl
 |11,_=>rfl
 |12,_=>rfl
 |13,_=>rfl
 |14,_=>rfl
 |15,_=>rfl
 |16,_=>rfl
 |17,_=>rfl
 |18,_=>rfl
 |19,_=>rfl
 |20,_=>rfl
 |21,_=>rfl
 |22,_=>rfl
 |23,_=>rfl
 |24,_=>rfl
 |25,_=>rfl
 |26,_=>rfl
 |27,_=>rfl
 |28,_=>rfl
 |29,_=>rfl
 |30,_=>rfl
 |31,_=>rfl
 |32,_=>rfl
 |n+33,h=>absurd h a6
variable{G:AQ}
abbrev AAu.op(h:AAu G):dZ G:=λc d=>by rw[h _ a6,AR8 c d]
noncomputable def wq(G:AQ):AQ:=λb off m=>
 Bool.rec (motive:=λ_=>Option LV) (G b off m) (some ((opT.drop off).take 1)) (band (Nat.beq b 0) (band (Nat.beq m 1) (Nat.ble off 65)))
abbrev ALC(f:AAu G):wq G=G:=by
 funext b off m;unfold wq;cases d:band (Nat.beq b 0) (band (Nat.beq m 1) (Nat.ble off 65))with
 |false=>rfl
 |true=>
  simp only[A6,ez,beq_iff,_e]at d;obtain⟨rfl,rfl,g⟩:=d;exact(f off a6).symm
noncomputable def Gmk(G:AQ):AQ:=λb o z=>Bool.rec (motive:=λ_=>Option LV) (G b o z) (some uS) (band (Nat.beq b 2) (band (Nat.beq o 0) (Nat.beq z 22)))
abbrev ASF(h:qA G):Gmk G=G:=by
 funext b o z;show(Bool.rec (motive:=λ_=>aAB) (G b o z) (some uS) (band (Nat.beq b 2) (band (Nat.beq o 0) (Nat.beq z 22))):aAB)=_;cases d:band (Nat.beq b 2) (band (Nat.beq o 0) (Nat.beq z 22))with
 |false=>rfl
 |true=>
  rw[A6,A6,ez,ez,Nat.beq_eq,Nat.beq_eq,Nat.beq_eq]at d;obtain⟨rfl,rfl,rfl⟩:=d;exact h.symm
set_option maxHeartbeats 0 in
abbrev AGO(G:AQ)(K:V->Prop):run F (Gmk (wq G)) 100 100 Ni [] .e 0 (λv _ _=>K v)=K (.bool true):=o5
attribute [local irreducible] run
abbrev AMT{k:KV}(d:AAu G)(f:qA G)(g:∀H n,k (.bool true) H n):Runs F G Ni [] .e 0 k:=by
 have h:=of_eq_true (p:=run F (Gmk (wq G)) 100 100 Ni [] .e 0 (λv _ _=>v=.bool true))
  (by rw[AGO G λv=>v=.bool true];exact eq_true rfl)
 rw[ALC d,ASF f]at h;exact AKI (λv H n i=>by subst i;exact g H n) ⟨100,h⟩
variable{x:Ins}{L:LV}{f:Fl}
section
variable{G:AQ}{H H':Heap}{n n':Nat}{k:KV}{A:Nat->Prop}
abbrev ABn(h:known x.code=true):∃c:Nat,x.code=c/\1<=c/\c<=32:=by unfold known at h;simp only[ez,_v]at h;exact⟨x.code.toNat,a6,a6,a6⟩
theorem ANu(hG:RN G){L:LV}{f:Fl}{b:Bd}{x:Ins}(h:sH G H n (.agg L) f)(y:Nz (mny f.pool b) x=true)(d:∀H' n',Kp H n H' n'->k (.int .i64 (MV f.pool x) 0) H' n'):Runs F G WO [.agg L,.agg x.cells] H n k:=by
 refine go2 (kC Ae G) ?_
 delta V6
 obtain⟨L',vf,vm,v0,v1,v2,v3,v4,vb,d2,E,d3,A,e⟩:=h
 cases e
 have I:known x.code=true:=by unfold Nz at y;rw[Bool.and_eq_true]at y;exact y.1
 obtain⟨c,J,c1,c2⟩:=ABn I
 obtain⟨xc,a⟩:=x
 have J:xc=c:=J
 subst J
 rw[A.is]
 refine BE λH1 f1 K=>?_
 refine BE λM f2 b2=>?_
 have B:=f1.trans f2
 replace K:=f2.get K (by omega)
 refine AB (AP ..) (AB (AK (off:=0+0) b2 (v:=nI c) rfl) ?_)
 have d:=d _ _ B
 have p:∀m,f.pool.BS[a.toNat]? =some m->m.m.ps.length<9223372036854775808:=λm g=>by
  have N:=(List.getElem?_eq_some_iff.1 g).1
  have O:a.toNat<E.length:=by rw[A.pool.AEJ];exact N
  exact(A.pool.at4 _ m _ g (List.getElem?_eq_getElem O)).lt
 have q:(c=25∨c=26)->∀{Q:V->Prop},(∀m,f.pool.BS[a.toNat]? =some m->Q (nI m.m.ps.length))->AD (AG 4 (.ptr n 0)) λP=>AD (AG 4 P) λR=>AD (AM R G M) λS=>AD (AG 1 (.ptr (n+1) 0)) λT=>AD (AM T G M) λU=>AD (Ai 6 S U) λW=>AD (AG 0 W) λX=>AD (AG 2 X) λY=>AD (AM Y G M) λZ=>AD (lenV Z) Q:=by
  intro d0 Q D
  have ha:0<=a/\a<(f.pool.BS.length:Nat):=by
   unfold Nz at y
   rw[Bool.and_eq_true]at y
   have u:=y.2
   rcases d0 with rfl|rfl
   ·have u:(decide (0<=a)&&decide (a<(f.pool.BS.length:Nat)))=true:=u
    simp only[Bool.and_eq_true,decide_eq_true_eq]at u;exact u
   ·have u:(decide (0<=a)&&decide (a<(f.pool.BS.length:Nat)))=true:=u
    simp only[Bool.and_eq_true,decide_eq_true_eq]at u;exact u
  obtain⟨i,rfl⟩:∃i:Nat,a=i:=⟨a.toNat,by omega⟩
  have hi:i<f.pool.BS.length:=by omega
  have O:i<E.length:=by rw[A.pool.AEJ];exact hi
  have g:=List.getElem?_eq_getElem hi
  have hv:=List.getElem?_eq_getElem O
  have D:=D _ (by rw[Int.toNat_natCast];exact g)
  generalize f.pool.BS[i]=m at g D
  generalize E[i]=w at hv
  have C:=A.pool.kp B
  obtain⟨r,hr,d1⟩:=C.e4.at (i:=i) (c:=m.cells w) (by rw[List.getElem?_zipWith,g,hv])
  obtain⟨r0,q1,q2⟩:=bo hG d1 (c:=m.cells w) (z:=6) (o:=0) (m:=6) rfl (by omega) (by omega)
  obtain⟨r2,q3,q4⟩:=Z0 hG q2 (z:=6) (o:=2) (x:=w) (by rfl) (by rfl)
  refine AB (AP ..) (AB (AP ..) (AB (AK (off:=0+4+4) K (v:=v4) rfl) ?_))
  refine AB (AP ..) (AB (AK (off:=0+1) b2 (v:=nI i) rfl) ?_)
  refine AB hr (AB q1 (AB q3 (AB q4 ?_)))
  exact AB (v:=nI m.m.ps.length) (by rw[(C.at4 i m w g hv).el.len,tys,List.length_map]) D
 rcases(show(c=1∨c=2∨c=3∨c=18∨c=32)∨(c=4∨c=5∨c=6∨c=7∨c=8∨c=9∨c=10∨c=11∨c=12∨c=13∨c=20∨c=28∨c=29∨c=30∨c=31)∨(c=14∨c=15∨c=16∨c=19∨c=22∨c=23∨c=24∨c=27)∨c=17∨c=21∨c=25∨c=26 by omega)with h|h|h|h|h|h|h
 ·rcases h with rfl|rfl|rfl|rfl|rfl
  all_goals
   (repeat (first|refine Bn (by decide) ?_|refine Ci ?_))
   (first|exact d|(simp[MV]at d;exact d))
 ·rcases h with rfl|rfl|rfl|rfl|rfl|rfl|rfl|rfl|rfl|rfl|rfl|rfl|rfl|rfl|rfl
  all_goals
   (repeat (first|refine Bn (by decide) ?_|refine Ci ?_))
   (first|exact d|(simp[MV]at d;exact d))
 ·rcases h with rfl|rfl|rfl|rfl|rfl|rfl|rfl|rfl
  all_goals
   (repeat (first|refine Bn (by decide) ?_|refine Ci ?_))
   (first|exact d|(simp[MV]at d;exact d))
 all_goals
  subst h
  (repeat (first|refine Bn (by decide) ?_|refine Ci ?_))
 ·simp[MV]at d;exact d
 ·simp[MV]at d;exact d
 ·refine q (.inl rfl) λm g=>?_
  simp[MV,g]at d
  exact AB (ARk (c:= -((m.m.ps.length:Nat):Int)) rfl (by have:=p m g;omega) (by have:=p m g;omega)) d
 ·refine q (.inr rfl) λm g=>?_
  simp[MV,g]at d
  exact AB (ARR (c:=1-((m.m.ps.length:Nat):Int)) rfl (by have:=p m g;omega) (by have:=p m g;omega)) d
end
inductive Tq(H:Heap)(A:Nat->Prop):V->Bh->Prop where
 |sk {v:V} {LS:Bh} (h:Sk H 1 A v LS):Tq H A v LS
 |lit {id c m:Nat} {t:T LV} {LS:Bh} (hg:T.get H id=some (.arr 1 c t)) (hm:m<=c) (hc:LS.length<=m) (ht:∀i L,LS[i]? =some L->T.get t i=some L) (ha:A id):Tq H A (.sl id 0 LS.length m 1) LS
variable{i:Nat}
section
variable{G:AQ}{H H':Heap}{n n':Nat}{k:KV}{A B:Nat->Prop}{v:V}{LS:Bh}{L:LV}
abbrev Tq.mono(h:Tq H A v LS)(d:∀id,A id->B id)(f:∀id,A id->T.get H' id=T.get H id):Tq H' B v LS:=by
 cases h with
 |sk h=>exact .sk (h.mono d f)
 |lit i k m p g=>exact .lit ((f _ g).trans i) k m p (d _ g)
abbrev Tq.el(h:Tq H A v LS):El G H v 1 LS:=by
 cases h with
 |sk h=>exact h.el a6
 |lit f q u g w=>
  rename_i k c m t;refine⟨rfl,?_⟩;show(Bool.rec (motive:=λ_=>aAs) none (BP H k 1 LS.length 0) (Nat.beq 1 1):aAs)=some LS;rw[Bq];exact Pu _ _ _ rfl λi L d=>by have p:=(us.1 d).1;rw[t_,c8 f a6 a6];exact g i L d
abbrev Tq.cut(h:Tq H A v LS)(hi:i<=LS.length):∃v2,lV 1 v E0 none (some (.c (nI i))) none=some v2/\Tq H A v2 (LS.take i):=by
 cases h with
 |sk h=>
  have⟨v2,p,q⟩:=h.back hi;exact⟨v2,p,.sk q⟩
 |lit u w B x y=>
  rename_i g c m t;have k:(LS.take i).length=i:=by rw[xx];omega
  refine⟨.sl g 0 i m 1,?_,?_⟩
  .show Az (Nat.beq 1 1) (Az (band (Nat.ble 0 i) (band (Nat.ble i m) (Nat.ble m m))) (f3 (0+0) (i-0) (m-0) λo d c=>.sl g o d c 1))=_;rw[show Nat.ble 0 i=true by rw[_e];omega,show Nat.ble i m=true by rw[_e];omega,show Nat.ble m m=true by rw[_e];omega];show CC (0+0) (λa=>CC (i-0) λb=>CC (m-0) λc=>some (.sl g a b c 1))=_;rw[BF,BF,BF];rfl
  .have:=Tq.lit (LS:=LS.take i) u w (by rw[k];omega) (λj L f=>x j L (by rw[x_]at f;split at f;exact f;cases f)) y;rw[k]at this;exact this
abbrev Tq.app{w:V}(h:Tq H A v LS)(K:∀id,A id->id<n)(M:elems w G H 1=some [L])(N:(LS.length+1)*8<=140737488355328)
 (E:∀C H' n',n<=n'->(∀B:Nat->Prop,(∀id,A id->B id)->(∀id,n<=id->id<n'->B id)->Tq H' B C (LS++[L]))->(∀id,id<n->¬A id->T.get H' id=T.get H id)->k C H' n'):Ey 1 8 v w G H n k:=by
 cases h with
 |sk h=>exact h.app1 (G:=G) (λid x=>K id (h.own x)) M N (λC H' F s=>E C H' (n+1) a6 (λB D q=>.sk (F B (q n o_ a6))) λid D q=>s id D λe=>q (h.own e)) a6
 |lit O S P Q I=>
  rename_i id c m t;have x:=K _ I;unfold Ey;rw[M,SG];have U:AAb (.sl id 0 LS.length m 1) G 1 8 [L] H n k=Bool.rec (motive:=λ_=>Prop) (CR (BP H id 1 LS.length 0) λy=>GR 1 8 y [L] H n k) (CR (T.get H id) λb=>aD id 0 LS.length m 1 (LS.length+1) [L] H n k b) (Nat.ble (LS.length+1) m):=by show B7 (Nat.beq 1 1) (CS (Nat.add LS.length (len [L])) λd=>Bool.rec (motive:=λ_=>Prop) (CR (BP H id 1 LS.length 0) λy=>GR 1 8 y [L] H n k) (CR (T.get H id) λb=>aD id 0 LS.length m 1 d [L] H n k b) (Nat.ble d m))=_;rw[Bq,YF,A8];rfl
  rw[U];have p:(LS++[L]).length=LS.length+1:=by rw[uk];rfl
  by_cases W:LS.length+1<=m
  .rw[show Nat.ble (LS.length+1) m=true by rw[_e];exact W];show CR (T.get H id) λb=>aD id 0 LS.length m 1 (LS.length+1) [L] H n k b;rw[O,SG];show B7 (band (Nat.beq 1 1) (Nat.ble (Nat.add 0 (LS.length+1)) c)) (k (.sl id 0 (LS.length+1) m 1) (T.set H id (.arr 1 c (Dk [L] (Nat.add 0 LS.length) t))) n);rw[Bq,show Nat.ble (Nat.add 0 (LS.length+1)) c=true by rw[_e];show 0+(LS.length+1)<=c;omega];refine E _ _ n o_ (λB D _=>?_) λj _ q=>T.Ac _ _ λe=>q (by rw[<-e];exact I);rw[<-p];refine .lit (T.Ap ..) S a6 (λi R f=>?_) (D _ I);rw[DD];by_cases g:i<LS.length
   .rw[g_ (by show ¬(0+LS.length<=i/\_);omega)];rw[qi g]at f;exact Q i R f
   .rw[i_ a6]at f;have u:=(us.1 f).1;have u:i-LS.length<1:=u;rw[hD ⟨by show 0+LS.length<=i;omega,by show i<0+LS.length+1;omega⟩];show[L][i-(0+LS.length)]? =_;rw[t_];exact f
  .rw[show Nat.ble (LS.length+1) m=false by rw[_q];intro P;rw[_e]at P;omega];show CR (BP H id 1 LS.length 0) λy=>GR 1 8 y [L] H n k;have J:BP H id 1 LS.length 0=some LS:=Pu _ _ _ rfl λi L f=>by have g:=(us.1 f).1;rw[t_,c8 O a6 a6];exact Q i L f
   rw[J,SG];show CS (Nat.add (len LS) (len [L])) (λd=>B7 (KZ d 8) (CS n λn=>k (.Hf n 0 d 1) (T.set H n (.arr 1 d (Dk [L] (len LS) (Dk LS 0 .e)))) (Nat.succ n)));rw[A8,A8,len_eq,len_eq,show KZ (Nat.add LS.length [L].length) 8=true from So N,YF];have e:Nat.add LS.length [L].length=(LS++[L]).length:=by rw[p];rfl
   rw[e];refine E _ _ (n+1) a6 (λB _ q=>.sk (.Hf (T.Ap ..) o_ (λi R f=>?_) (q n o_ a6))) λj X _=>T.Ac _ _ a6;rw[DD,DD];by_cases g:i<LS.length
   .rw[g_ a6,hD ⟨j_ _,a6⟩];rw[qi g]at f;exact f
   .rw[i_ a6]at f;have u:=(us.1 f).1;rw[hD ⟨a6,a6⟩];exact f
end
variable{m:Nat}
abbrev AQ8{z bs:Nat}{Z:LV}{H:Heap}{n:Nat}{P:KV}(d:bs*m<=281474976710656)(h:∀H',Kp H n H' (n+1)->(∃t,T.get H' n=some (.arr z m t)/\∀i,i<m->T.get t i=some Z)->P (.sl n 0 m m z) H' (n+1)):
 Au (JQ z bs Z (.c (iN m)) (.c (iN m)) E0) H n P:=by show B7 (band (Nat.ble m m) (Nat.ble (Nat.mul bs m) 281474976710656)) (CS n λn=>P (.sl n 0 m m z) (T.set H n (.arr z m (qe Z m .e))) (Nat.succ n));rw[show Nat.ble m m=true by rw[_e];omega,show Nat.ble (Nat.mul bs m) 281474976710656=true by rw[_e];exact d];show CS n λn=>P (.sl n 0 m m z) (T.set H n (.arr z m (qe Z m .e))) (Nat.succ n);rw[A8];exact h _ ((Kp.refl H n).new _ o_ a6) ⟨_,T.Ap ..,λi f=>by rw[xb,hD f]⟩
def gP(sn:Nat->Bool):Nat->Nat
 |0=>0
 |m+1=>gP sn m+(bif sn m then 0 else 1)
def updB(sn:Nat->Bool)(k:Nat):Nat->Bool:=λj=>bif decide (j=k)then true else sn j
abbrev ADZ(sn:Nat->Bool)(k:Nat):updB sn k k=true:=by unfold updB;rw[ui rfl];rfl
variable{k:Nat}
abbrev jp{sn:Nat->Bool}{j:Nat}(h:j≠k):updB sn k j=sn j:=by unfold updB;rw[e9 h];rfl
abbrev AEj{sn:Nat->Bool}(h:sn k=false):∀m,(m<=k->gP (updB sn k) m=gP sn m)/\(k<m->gP (updB sn k) m+1=gP sn m)
 |0=>⟨λ_=>rfl,λh=>a6⟩
 |m+1=>by
  have⟨d,f⟩:=AEj h m;simp only[gP];refine⟨λq=>?_,λq=>?_⟩
  .rw[jp a6,d a6]
  .by_cases e:m=k
   .subst e;rw[ADZ,h,d o_];rfl
   .rw[jp e];have:=f a6;omega
abbrev xW(a m:Nat):V:=.sl a 0 m m 1
structure Wl(a1 a2:Nat)(b:Bd)(h:Nat->Nat)(H:Heap)(n:Nat)(R:Nat->Prop)(sn:Nat->Bool)(v:V)(td:List Nat):Prop where
 g1:∃t,T.get H a1=some (.arr 1 (b.code.length+1) t)/\∀k,k<=b.code.length->∃x:Int,T.get t k=some [.int .i64 x 0]/\(sn k=true->x=h k)
 g2:∃t,T.get H a2=some (.arr 1 (b.code.length+1) t)/\∀k,k<=b.code.length->T.get t k=some [.bool (sn k)]
 lt:∀k,sn k=true->k<b.code.length
 tq:Tq H R v (td.map λk=>[nI k])
 ok:∀k∈td,sn k=true
 rg:∀id,R id->a2<id/\id<n
 od:a1<a2/\a2<n
variable{id:Nat}{c:Nat}{t:T LV}{D:V}{E:V}{K:V}{M:V}
section
variable{G:AQ}{H H':Heap}{n n':Nat}{k:KV}{a1 a2 n1:Nat}{b:Bd}{h:Nat->Nat}{R:Nat->Prop}{sn:Nat->Bool}{v:V}{td:List Nat}
abbrev Wl.kp(w:Wl a1 a2 b h H n R sn v td)(f:Kp H n H' n'):Wl a1 a2 b h H' n' R sn v td:=by have i:=w.od;have k:=f.le;have⟨t,q1,q2⟩:=w.g1;have⟨u,q3,q4⟩:=w.g2;exact⟨⟨t,f.get q1 a6,q2⟩,⟨u,f.get q3 i.2,q4⟩,w.lt,w.tq.mono (λ_ h=>h) λg d=>f.same g (w.rg g d).2,w.ok,λg d=>by have:=w.rg g d;omega,i.1,a6⟩
abbrev ARY{x:V}(d:T.get H id=some (.arr 1 c t))(hi:i<c)(f:T.get t i=some [x]):AM (.ptr id ((0+i)*1)) G H=some x:=by rw[AJH];show Pe (ZB H id ((0+i)*1) 1) _=_;rw[t_,c8 d a6 hi,f];rfl
abbrev Wl.at1(w:Wl a1 a2 b h H n R sn v td)(hi:sn i=true):AM (.ptr a1 ((0+i)*1)) G H=some (nI (h i)):=by have⟨t,q1,q2⟩:=w.g1;have d:=w.lt i hi;have⟨x,q3,q4⟩:=q2 i a6;have:=q4 hi;subst this;exact ARY q1 a6 q3
abbrev Wl.at2(w:Wl a1 a2 b h H n R sn v td)(hi:i<b.code.length):AM (.ptr a2 ((0+i)*1)) G H=some (.bool (sn i)):=by have⟨t,q1,q2⟩:=w.g2;exact ARY q1 a6 (q2 i a6)
abbrev AUA{ks:aAw}{X x9 L O S U:V}{hh:Nat}{p:(V×V×V×Heap×Nat)->Prop}{A:(V×V×V×V×V×V×V×Heap×Nat)->Prop}{f:(V×V×V×V×V×V×V×V×V×V×V×V×Heap×Nat)->Prop}
 (w:Wl a1 a2 b h H n R sn v td) (i2:n1<=a1) (hl:b.code.length<=20000) (hm:2*gP sn (b.code.length+1)+td.length<=m) (i3:m<=100000) (he:El G H X 1 (ks.map λk=>[nI k])) (Y:∀id,X.CD=some id->a2<id/\id<n/\¬R id) (f1:∀k∈ks,k<b.code.length/\h k=hh) (i4:ks.length<=2)
 (hk:∀H' n' R' Z v' d0,Kp H n1 H' n1->n<=n'->Wl a1 a2 b h H' n' R' Z v' d0->2*gP Z (b.code.length+1)+d0.length<=m->f (x9,D,xW a1 (b.code.length+1),xW a2 (b.code.length+1),v',E,K,L,M,O,S,U,H',n')):
 Cj lfp G (Runs F G) k p A f x9 D (xW a1 (b.code.length+1)) (xW a2 (b.code.length+1)) v E (nI hh) X K L M O S U H n:=by
 delta Cj;refine AB (v:=nI ks.length) (by rw[he.len,uc]) ?_;refine BL (N:=ks.length) (J:=λi s=>∃H' n' R' Z v' d0,s=(x9,D,xW a1 (b.code.length+1),xW a2 (b.code.length+1),v',E,nI hh,K,L,M,O,S,U,X,nI ks.length,nI i,H',n')/\Kp H n1 H' n1/\n<=n'/\Wl a1 a2 b h H' n' R' Z v' d0/\(∀id,X.CD=some id->¬R' id)/\El G H' X 1 (ks.map λk=>[nI k])/\2*gP Z (b.code.length+1)+d0.length<=m) ?_ ?_
  ⟨H,n,R,sn,v,td,rfl,.refl _ _,ea _,w,λid d=>(Y id d).2.2,he,hm⟩
 .rintro I i s d8 ⟨H3,n3,R3,d3,v3,d1,rfl,f3,d9,C,d4,d2,f0⟩ ih;show DR lfp G (Runs F G) k p A f I x9 D (xW a1 (b.code.length+1)) (xW a2 (b.code.length+1)) v3 E (nI hh) K L M O S U X (nI ks.length) (nI i) H3 n3;delta DR;have d5:=eb d8;have d6:=f_ d8;generalize ks[i]=q at d5 d6;have⟨q1,q2⟩:=f1 q d6;have⟨r,hr,f2⟩:=d2.at (i:=i) (c:=[nI q]) (by rw[pe,d5];rfl);have od:=C.od;rw[Bf,AJ,ui d8,Ah];refine AB hr (AB (OE f2) (AB (rj a6) (AB (C.at2 q1) ?_)));have d7:∀{H4:Heap} {n4:Nat} {R4:Nat->Prop} {sn4:Nat->Bool} {v4:V} {td4:aAw},Kp H n1 H4 n1->n<=n4->Wl a1 a2 b h H4 n4 R4 sn4 v4 td4->(∀id,X.CD=some id->¬R4 id)->El G H4 X 1 (ks.map λk=>[nI k])->2*gP sn4 (b.code.length+1)+td4.length<=m->
   DM lfp G (Runs F G) k p A f I x9 D (xW a1 (b.code.length+1)) (xW a2 (b.code.length+1)) v4 E (nI hh) K L M O S U X (nI ks.length) (nI i) H4 n4:=λf4 f5 w4 f7 f8 f9=>by delta DM;rw[CA a6,AJ];exact ih _ ⟨_,_,_,_,_,_,rfl,f4,f5,w4,f7,f8,f9⟩
  cases hs:d3 q with
  |true=>
   refine MT rfl (MT rfl (MT (rj a6) (MT (C.at1 hs) (MT rfl (MT (AGf ..) (V1 ?_))))));rw[show(!decide (Int.ofNat (h q)=Int.ofNat hh))=false by rw[q2,ui rfl];rfl,AZ];refine AB (rj a6) (AB (C.at2 q1) ?_);rw[hs,Bw,AJ];exact d7 f3 d9 C d4 d2 f0
  |false=>
   refine Wq (Wq (Wq (Wq (Wq (Wq (ah ?_))))));rw[AZ];refine AB (rj a6) (AB (C.at2 q1) ?_);rw[hs,Bw,AJ];refine(show ∀P Q:Prop,P->AS (.bool (!false)) P Q from λP Q h=>h) _ _ ?_;have⟨t,t1,t2⟩:=C.g1;have⟨u,u1,u2⟩:=C.g2;refine AB (rj a6) ?_;rw[t_];refine AIs u1 a6 a6 (u2 q a6) rfl rfl λH4 g4 s4=>?_;refine AB (rj a6) ?_;rw[t_];have⟨x,tx,_⟩:=t2 q a6;refine AIs ((s4 a1 a6).trans t1) a6 a6 tx rfl rfl λH5 g5 s5=>?_;have e5:∀id,id≠a1->id≠a2->T.get H5 id=T.get H3 id:=λid h1 h2=>(s5 id h1).trans (s4 id h2);have g:=C.rg;have i5:=d2.same (H':=H5) λid d=>e5 id (by have:=Y id d;omega) (by have:=Y id d;omega);have g0:=C.tq.mono (H':=H5) (B:=R3) (λ_ h=>h) λid d=>e5 id (by have:=g id d;omega) (by have:=g id d;omega);refine L6 (G:=G) (vs:=[nI q]) rfl a6 (λx hx=>by simp at hx;subst hx;exact⟨rfl,rfl⟩) λH6 f6 _ g3=>?_;have g6:=g0.mono (H':=H6) (B:=R3) (λ_ h=>h) λid d=>f6.same id (g id d).2;have i6:=(AEj hs (b.code.length+1)).2 a6;have i7:d1.length<=100000:=a6;refine g6.app (G:=G) (λid d=>by have:=g id d;omega) g3.2 (by rw[uc];omega) λv7 H7 n7 i8 g7 s7=>?_;have e7:∀id,id<n3->id≠a1->id≠a2->¬R3 id->T.get H7 id=T.get H3 id:=λid h1 h2 h3 h4=>(s7 id a6 h4).trans ((f6.same id h1).trans (e5 id h2 h3));have g8:¬R3 a1:=λd=>by have:=g _ d;omega
   have g9:¬R3 a2:=λd=>by have:=g _ d;omega
   refine d7 (R4:=λid=>R3 id∨(n3+1<=id/\id<n7)) (sn4:=updB d3 q) (td4:=d1++[q]) ⟨ea _,λid d=>(e7 id a6 a6 a6 λhr=>by have:=g _ hr;omega).trans (f3.same id d)⟩ a6 ?_ (λid d hr=>?_) (d2.same (H':=H7) λid d=>by have:=Y id d;exact e7 id a6 a6 a6 (d4 id d)) (by rw[uk];show _+(d1.length+1)<=m;omega)
   .have i0:=(s7 a1 a6 g8).trans ((f6.same a1 a6).trans g5);have i1:=(s7 a2 a6 g9).trans ((f6.same a2 a6).trans ((s5 a2 a6).trans g4));refine⟨⟨_,i0,λj W=>?_⟩,⟨_,i1,λj W=>?_⟩,λj W=>?_,?_,λj W=>?_,λid d=>?_,od.1,a6⟩
    .by_cases e:j=q
     .subst e;exact⟨hh,by rw[T.Ap];rfl,λ_=>by rw[q2]⟩
     .obtain⟨y,y1,y2⟩:=t2 j W;exact⟨y,by rw[T.Ac _ _ (C_ e)];exact y1,λq'=>y2 (by rw[jp e]at q';exact q')⟩
    .by_cases e:j=q
     .subst e;rw[T.Ap,ADZ];rfl
     .rw[T.Ac _ _ (C_ e),jp e];exact u2 j W
    .by_cases e:j=q
     .rw[e];exact q1
     .rw[jp e]at W;exact C.lt j W
    .rw[wm];exact g7 _ (λid d=>.inl d) λid h1 h2=>.inr ⟨h1,h2⟩
    .by_cases e:j=q
     .rw[e];exact ADZ ..
     .rw[jp e];rcases q_.1 W with W|W
      .exact C.ok j W
      .exact absurd (ff.1 W) e
    .rcases d with d|d
     .have:=g id d;omega
     .omega
   .rcases hr with hr|hr
    .exact d4 id d hr
    .have:=Y id d;omega
 .rintro I s ⟨H3,n3,R3,d3,v3,d1,rfl,f3,d9,C,d4,d2,f0⟩;show DR lfp G (Runs F G) k p A f I x9 D (xW a1 (b.code.length+1)) (xW a2 (b.code.length+1)) v3 E (nI hh) K L M O S U X (nI ks.length) (nI ks.length) H3 n3;delta DR;rw[Bf,AJ,e9 (m_ _),AZ];exact hk H3 n3 R3 d3 v3 d1 f3 d9 C f0
end
variable{fb:Nat}
section
variable{G:AQ}{H H':Heap}{n n':Nat}{k:KV}{a1 a2 n1:Nat}{b:Bd}{h:Nat->Nat}{R:Nat->Prop}{sn:Nat->Bool}{v:V}{td:List Nat}
abbrev ATp(d:k (.bool (decide (c=27)||decide (c=29))) H n):Runs F G jN [nI c] H n k:=by
 refine go1 (vz Ae G) ?_;delta hU;refine AB (A9 ..) ?_;cases f:decide (c=27)with
 |true=>rw[f]at d;exact QD (QD (V1 d))
 |false=>rw[f]at d;exact S9 rfl (S9 (A9 ..) (ah d))
abbrev ATv(hG:RN G){H1:Heap}{vc B C:V}{bb:Nat}{u:(V×V×V×Heap×Nat)->Prop}{y:(V×V×V×V×V×V×V×Heap×Nat)->Prop}(k1:sH G H1 n1 (.agg L) f)(hL:L.length=10)(gf:fb<n1/\T.get H1 fb=some (one L))(gb:bb<n1/\T.get H1 bb=some (one (b.cells vc)))
 (k2:Yr G H1 n1 vc b.code) (hc:Cfy f.pool b h) (hl:b.code.length<=20000) (m5:b.stack<=1000) (k3:n1<=a1) (w:Wl a1 a2 b h H n R sn v td) (hf:Kp H1 n1 H n1) (hm:2*gP sn (b.code.length+1)+td.length<=100000)
 (O:∀H' n' d,Kp H1 n1 H' n1->n1<=n'->((d:Nat):Int)<=b.stack->Eg lfp G (Runs F G) k u y (.ptr fb 0) (.ptr bb 0) (nI d) B C D E K M H' n'):
 lfp (V×V×V×V×V×V×V×V×V×V×V×V×Heap×Nat) (Gz lfp G (Runs F G) k u y) (.ptr fb 0,.ptr bb 0,xW a1 (b.code.length+1),xW a2 (b.code.length+1),v,nI 0,B,C,D,E,K,M,H,n):=by
 have k4:(0:Int)<=b.stack:=by have k5:=hc.ne;have⟨_,q1,q2,_⟩:=hc.at' 0 _ (eb k5);omega
 refine ET (J:=λm s=>∃H n R sn v td d,m=2*gP sn (b.code.length+1)+td.length/\s=(.ptr fb 0,.ptr bb 0,xW a1 (b.code.length+1),xW a2 (b.code.length+1),v,nI d,B,C,D,E,K,M,H,n)/\Kp H1 n1 H n1/\Wl a1 a2 b h H n R sn v td/\((d:Nat):Int)<=b.stack/\m<=100000) ?_ (m:=2*gP sn (b.code.length+1)+td.length) ⟨H,n,R,sn,v,td,0,rfl,rfl,hf,w,k4,hm⟩;rintro I m s ⟨H2,U,R2,W,v2,d6,d,rfl,rfl,f2,S,d7,d8⟩ ih;show HN lfp G (Runs F G) k u y I (.ptr fb 0) (.ptr bb 0) (xW a1 (b.code.length+1)) (xW a2 (b.code.length+1)) v2 (nI d) B C D E K M H2 U;delta HN;have od:=S.od;have d9:=S.tq.el (G:=G);have snoc:d6=[]∨∃l i,d6=l++[i]:=by
  rcases List.eq_nil_or_concat d6 with e|⟨l,i,e⟩
  .exact .inl e
  .exact .inr ⟨l,i,by rw[e,List.concat_eq_append]⟩
 rcases snoc with rfl|⟨l,i,rfl⟩
 .refine AB (v:=nI 0) d9.len (AB (cM ..) ?_);rw[show decide (0<0)=false from rfl,AZ];exact O H2 U d f2 a6 d7
 have f0:W i=true:=S.ok i o6;have k6:=S.lt i f0;have ln:lenV v2=some (nI (l.length+1)):=by rw[d9.len,uc,uk];rfl
 refine AB ln (AB (cM ..) ?_);rw[ui (Nat.succ_pos _),Ah];have m6:l.length+1<=100000:=by rw[uk]at d8;have:([i]:aAw).length=1:=rfl;omega
 refine AB ln (AB (zF (a:=l.length+1) a6 a6) ?_);rw[show l.length+1-1=l.length by omega];have⟨r,hr,k7⟩:=d9.at (i:=l.length) (c:=[nI i]) (by rw[pe,i_ o_,T_];rfl);refine AB hr (AB (OE k7) (AB ln (AB (zF (a:=l.length+1) a6 a6) ?_)));rw[show l.length+1-1=l.length by omega];have⟨X,k8,d3⟩:=S.tq.cut (i:=l.length) (by rw[uc,uk];omega);have w3:Wl a1 a2 b h H2 U R2 W X l:=⟨S.g1,S.g2,S.lt,by rw[wm,R1 (by rw[uc])]at d3;exact d3,λk O=>S.ok k (n_ _ O),S.rg,od⟩;have g9:=(f2.same bb gb.1).trans gb.2;have i0:=(k2.kp (H':=H2) (n':=U) ⟨a6,f2.same⟩).el;refine AB k8 (AB (AP ..) (AB (AK (off:=0+2) g9 (v:=vc) rfl) ?_));refine AB (v:=nI b.code.length) (by rw[i0.len,uc]) (AB (AUD ..) ?_);rw[e9 a6,AZ];have hx:=eb k6;generalize b.code[i]=x at hx;have⟨io,m7,m8,hj,hn⟩:=hc.at' i x hx;have⟨r2,k9,i1⟩:=i0.at (i:=i) (c:=x.cells) (by rw[pe,hx];rfl);refine AB (AP ..) (AB (AK (off:=0+2) g9 (v:=vc) rfl) (AB k9 (AB (BZ i1) ?_)));refine Ao rfl λH4 f4 g4=>?_;refine BX (L:=x.cells) g4 rfl rfl a6 λH5 g5 s5=>?_;have i2:Kp H2 U H5 (U+1):=⟨a6,λp g=>(s5 p a6).trans (f4.same p g)⟩;have w5:=w3.kp i2;have f1:Kp H1 n1 H5 (U+1):=⟨a6,λp g=>(i2.same p a6).trans (f2.same p g)⟩;refine AB (rj a6) (AB (w5.at1 f0) ?_);refine AB (As (m:=10) (L:=L) (f1.get gf.2 gf.1) a6 hL) (AB (As (m:=2) (L:=x.cells) g5 a6 rfl) ?_);refine ANu hG (k1.ke f1.ke) io λH6 Y f6=>?_;have m9:=f6.le;have w6:=w5.kp f6;have g6:=f6.get g5 a6;have m0:=f1.trans f6;refine AB (w6.at1 f0) (Ba (sr ..) ?_);obtain⟨N,m1⟩:∃N:Nat,(N:Int)=h i+MV f.pool x:=⟨((h i:Int)+MV f.pool x).toNat,a6⟩;have i3:((h i:Nat):Int)+MV f.pool x=((N:Nat):Int):=m1.symm;refine AB (AIa i3 a6 a6) (AB (AHe (a:=d) (b:=N)) (AB (ADl .i64 N 0) ?_));rw[e9 (_8 _),AZ];refine sB a6 λH7 f7 g7=>?_;have⟨t7,g7⟩:=g7;have f3:=f7.get g6 a6;have m2:known x.code=true:=by unfold Nz at io;rw[ez]at io;exact io.1
 have⟨c,f5,c1,c2⟩:=ABn m2;have⟨xc,xa⟩:=x;have f5:xc=c:=f5;subst f5;have Z:∀q:Nat,((⟨(c:Int),xa⟩:Ins).code=(q:Int))↔c=q:=λq=>by show((c:Int)=(q:Int))↔_;omega
 have d0:((max d N:Nat):Int)<=b.stack:=a6;have p0:2*gP W (b.code.length+1)+(l.length+1)<=100000:=by rw[uk]at d8;exact d8
 have d4:∀{H8:Heap} {n8:Nat} {nv:V} {ks:aAw},Kp H6 Y H8 n8->Sk H8 1 (λp=>Y<=p/\p<n8) nv (ks.map λk=>[nI k])->(∀k∈ks,k<b.code.length/\h k=N)->ks.length<=2->
  Cj lfp G (Runs F G) k u y I (.ptr fb 0) (.ptr bb 0) (xW a1 (b.code.length+1)) (xW a2 (b.code.length+1)) X (nI (max d N)) (nI N) nv B C D E K M H8 n8:=λ{H8 n8 nv ks} f8 A d1 i4=>by have w8:=w6.kp f8;refine AUA w8 k3 hl (m:=2*gP W (b.code.length+1)+l.length) o_ a6 (A.el a6) (λp g=>⟨by have:=(A.own g).1;omega,(A.own g).2,λhr=>by have:=(S.rg p hr).2;have:=(A.own g).1;omega⟩) d1 i4 λH9 n9 R9 m3 v9 m4 f9 p1 w9 p2=>?_;exact ih _ _ (by rw[uk];show _<_+(l.length+1);omega) ⟨H9,n9,R9,m3,v9,m4,max d N,rfl,rfl,⟨ea _,λp g=>(f9.same p g).trans ((m0.trans f8).same p g)⟩,w9,d0,a6⟩
 have i5:∀{H8:Heap} {n8:Nat} {nv:V} {ks:aAw},Kp H6 Y H8 n8->Sk H8 1 (λp=>Y<=p/\p<n8) nv (ks.map λk=>[nI k])->(∀k∈ks,k<b.code.length/\h k=N)->ks.length<=1->
  Cp lfp G (Runs F G) k u y I (.ptr fb 0) (.ptr bb 0) (xW a1 (b.code.length+1)) (xW a2 (b.code.length+1)) X (nI (max d N)) (nI i) (.ptr U 0) (nI N) nv B C D E K M H8 n8:=λ{H8 n8 nv ks} f8 A d1 i4=>by
  delta Cp;refine AB (AP ..) (AB (AK (off:=0+0) (f8.get g6 a6) (v:=nI c) rfl) ?_);refine ATp ?_;rw[Bw,AJ];cases he:(decide (c=27)||decide (c=29))with
  |true=>
   refine(show ∀P Q:Prop,Q->AS (.bool (!true)) P Q from λP Q h=>h) _ _ ?_;exact d4 f8 A d1 a6
  |false=>
   refine(show ∀P Q:Prop,P->AS (.bool (!false)) P Q from λP Q h=>h) _ _ ?_;rw[Bool.or_eq_false_iff]at he;have e1:¬c=27:=_w he.1;have e2:¬c=29:=_w he.2;have⟨q1,q2⟩:=hn (λe=>e1 ((Z 27).1 e)) λe=>e2 ((Z 29).1 e);rw[CA a6,AJ];have p3:=f8.le;refine A.app (G:=G) (m:=0) (c:=nI (i+1)) (λp g=>(A.own g).2) a6 rfl rfl (by rw[uc];omega) λv9 H9 g0 s9 i6=>?_;refine d4 (ks:=ks++[i+1]) (n8:=n8+2) ⟨a6,λp g=>(s9 p a6 λe=>by have:=(A.own e).1;omega).trans (f8.same p g)⟩ (by rw[wm];exact g0 _ ⟨a6,a6⟩) (λk O=>?_) (by rw[uk];show ks.length+1<=2;omega);rcases q_.1 O with O|O
   .exact d1 k O
   .rw[ff.1 O];exact⟨q1,a6⟩
 have d2:Sk H7 1 (λp=>Y<=p/\p<Y+1) (.sl Y 0 0 0 1) (([]:aAw).map λk=>[nI k]):=.emp g7 ⟨ea _,a6⟩;refine AB (AP ..) (AB (AK (off:=0+0) f3 (v:=nI c) rfl) (AB (A9 ..) ?_));have d5:(c=27∨c=28)->AD (AG 1 (.ptr U 0)) λi7=>AD (AM i7 G H7) λi8=>Au (AY 1 1 [(iN 0)] [(0,.c i8)] E0) H7 (Y+1) λi9 H n=>Ey 1 8 (.sl Y 0 0 0 1) i9 G H n λk0 H n=>
  Cp lfp G (Runs F G) k u y I (.ptr fb 0) (.ptr bb 0) (xW a1 (b.code.length+1)) (xW a2 (b.code.length+1)) X (nI (max d N)) (nI i) (.ptr U 0) (nI N) k0 B C D E K M H n:=λhc=>by have⟨t,t1,t2,t3⟩:=hj (by rcases hc with e|e;exact .inl ((Z 27).2 e);exact .inr ((Z 28).2 e));have t1:xa=(t:Int):=t1;subst t1;refine AB (AP ..) (AB (AK (off:=0+1) f3 (v:=nI t) rfl) ?_);refine d2.app (G:=G) (m:=0) (c:=nI t) (λp g=>(d2.own g).2) a6 rfl rfl a_ λv9 H9 g0 s9 i6=>?_;exact i5 (ks:=[t]) ⟨a6,λp g=>(s9 p a6 λe=>by have:=(d2.own e).1;omega).trans (f7.same p g)⟩ (g0 _ ⟨a6,a6⟩) (λk O=>by rw[ff.1 O];exact⟨t2,a6⟩) o_
 by_cases g3:c=27
 .rw[ui g3];refine QD (QD (QD (V1 ?_)));rw[Ah];exact d5 (.inl g3)
 .rw[e9 g3];refine S9 (AP ..) (S9 (AK (off:=0+0) f3 (v:=nI c) rfl) (S9 (A9 ..) (ah ?_)));by_cases g8:c=28
  .rw[ui g8,Ah];exact d5 (.inr g8)
  .rw[e9 g8,AZ];exact i5 (ks:=[]) f7 d2 (λ_ h=>by cases h) (j_ _)
end
variable{tb:Tab}
abbrev qT{c f:Tc}(d:lI c)(h:ckC tb c=some f):lI f:=by obtain⟨g,u,rfl⟩:=d_.1 (show((lE tb c.nm c.ms).map λp=>({c with ms:=p}:Tc))=some f from h);have⟨B,v,x⟩:=AAB u;refine⟨d.nm,d.sup,d.fs,λy i=>?_,d.lf,by show g.length<20;rw[v];exact d.lm⟩;have⟨m,A,k⟩:=x y i;have w:=AGx k;have q:=d.ms m A;exact⟨by rw[w.nm];exact q.nm,by rw[w.ret];exact q.ret,by rw[w.ps];exact q.ps,by rw[w.ps];exact q.ln⟩
variable{v:V}
section
variable{G:AQ}{H:Heap}{n:Nat}{k:KV}{A:Nat->Prop}
abbrev yA{v:V}(h:sH G H n (.agg L) f):L.length=10:=by have⟨k,m,p,q,u,w,x,y,A,d,B,g,i,e⟩:=h;cases e;rw[i.is];rfl
abbrev AQT(hG:RN G)(hO:dZ G){t a b:Nat}{ds:Bh}{cs:List Tc}{fls:List Fl}(ht:TabAt G H n t a b tb)(d7:tb.length<=1000)(d0:El G H v 6 ds)(d1:∀id,v.CD=some id->A id)(hA:∀id,A id->id<n/\id≠b)(d8:ds.length=cs.length)(g6:fls.length=cs.length)(g9:cs.length<=100)
 (d9:∀(i:Nat) (c:Tc) (f:Fl),cs[i]? =some c->fls[i]? =some f->∃d,ds[i]? =some d/\WP G H A d c/\lI c/\RgC tb c/\FlG tb c f)
 (hk:∀H' n' w y,Kb b H n H' n'->Sk H' 10 (λid=>n<=id/\id<n') w y->y.length=fls.length->(∀(i:Nat) (f:Fl),fls[i]? =some f->∃L,y[i]? =some L/\vj G H' n (λid=>n<=id/\id<n') (.agg L) f)->k (.CV [w,.bool true]) H' n'):Runs F G Xs [.ptr t 0,v] H n k:=by
 refine go2 (pG Ae G) ?_;delta Xw;have f0:=ht.bn;refine sB a6 λH1 f1 g1=>?_;have⟨t1,g1⟩:=g1;have f8:=d0.same (H':=H1) λid g=>f1.same id (hA id (d1 id g)).1;refine AB (v:=.int .i64 (.ofNat cs.length) 0) (by rw[f8.len,d8]) ?_;refine BL (N:=cs.length) (J:=λj s=>∃H' n' w y,s=(.ptr t 0,w,v,iN cs.length,iN j,H',n')/\Kb b H n H' n'/\n<=n'/\Sk H' 10 (λid=>n<=id/\id<n') w y/\y.length=j/\
  (∀(i:Nat) (f:Fl),i<j->fls[i]? =some f->∃L,y[i]? =some L/\vj G H' n (λid=>n<=id/\id<n'/\w.CD≠some id) (.agg L) f)) ?_ ?_
  ⟨H1,n+1,_,[],rfl,f1.kb f0,a6,.emp g1 ⟨a6,a6⟩,rfl,λi f h=>a6⟩
 .rintro I j s d2 ⟨B,C,w,y,rfl,f3,f9,O,P,Q⟩ ih;show Fq lfp G (Runs F G) k I (.ptr t 0) w v (iN cs.length) (iN j) B C;delta Fq;have D:=eb d2;have R:=eb (show j<fls.length by omega);have⟨d,hd,hc,d3,d4,S⟩:=d9 j _ _ D R;generalize cs[j]=c at D hc d3 d4 S;generalize fls[j]=f at R S;have E:∀id,A id->T.get B id=T.get H id:=λid g=>f3.same id (hA id g).1 (hA id g).2;have⟨p,hp,g0⟩:=(d0.same (H':=B) λid g=>E id (d1 id g)).at hd;rw[Bf,AJ,ui d2,Ah];refine AB hp (AB (BZ g0) ?_);refine Ao rfl λH4 f4 g4=>?_;refine BX g4 rfl hc.len a6 λH5 g5 s5=>?_;refine AB (As (m:=6) g5 a6 hc.len) ?_;have U:Kp B C H5 (C+1):=⟨f4.le,λid g=>(s5 id a6).trans (f4.same id g)⟩;have f5:=f3.trans (U.kb (b:=b) a6);refine APO (n0:=n) (A:=A) hG hO (ht.kb (f5.low o_)) a6 d7 (hc.mono (λ_ h=>h) λid g=>(U.same id (by have:=hA id g;omega)).trans (E id g)) (λid g=>by have:=hA id g;omega) d3 d4 S λH6 n6 w6 f6 d5=>?_;have i0:=f6.le;rw[OC,AJ,N4,AJ];have d6:=d5 H6 n6 .refl a6 (λ_ _=>rfl) λid g=>g.2;obtain⟨L,e0⟩:∃L,w6=.agg L:=by have⟨L',vf,vm,v0,v1,v2,v3,v4,vb,i1,ws,i2,S,e⟩:=d6;exact⟨L',e⟩
  subst e0;have hL:=yA (v:=.AT) d6;refine Ao rfl λH7 f7 g7=>?_;refine BX g7 rfl hL a6 λH8 g8 s8=>?_;have W:Kp H6 n6 H8 (n6+1):=⟨f7.le,λid g=>(s8 id a6).trans (f7.same id g)⟩;refine AB (zN ..) ?_;show AS (.bool false) _ _;rw[AZ];refine AB (As (m:=10) g8 a6 hL) ?_;have x:Kb b B C H8 (n6+1):=(U.kb (b:=b) a6).trans (f6.trans (W.kb a6));have X:Sk H8 10 (λid=>n<=id/\id<C) w y:=O.mono (λ_ h=>h) λid h=>x.same id h.2 a6;refine X.app (bs:=224) (c:=.agg L) (m:=0) (λid g=>by have:=X.own g;omega) a6 rfl hL a6 λw' H9 g2 u K=>?_;rw[CA a6,AJ];have Z:∀id,w.CD=some id->n<=id/\id<C:=λid e=>X.own e;refine ih _ ⟨H9,n6+1+2,w',y++[L],rfl,⟨a6,λid h1 h2=>(u id a6 λe=>by have:=Z _ e;omega).trans ((x.same id a6 h2).trans (f3.same id h1 h2)),λhs=>(x.seen (f3.seen hs)).same (u _ a6 λe=>by have:=Z _ e;omega)⟩,a6,g2 _ ⟨a6,a6⟩,by rw[uk,P];rfl,λi f2 hi Y=>?_⟩;by_cases e:i=j
  .subst e;rw[R]at Y;cases Y;refine⟨L,by rw[i_ a6,P];simp,?_⟩;refine d5.mono (Kp.ke ⟨ea _,λid g=>(u id a6 λe=>by have:=Z _ e;omega).trans (W.same id a6)⟩) (λid g=>⟨a6,a6,by rw[K];intro e;cases e;omega⟩) λid g=>?_;exact(u id a6 λe=>by have:=Z _ e;omega).trans (W.same id g.2)
  .obtain⟨M,h1,h2⟩:=Q i f2 a6 Y;refine⟨M,by rw[qi (by have:=(us.1 h1).1;omega)];exact h1,?_⟩;have g3:Kb b B n H9 n:=⟨ea _,λid q1 q2=>(u id a6 λe=>by have:=Z _ e;omega).trans (x.same id a6 q2),λq=>(x.seen q).same (u _ a6 λe=>by have:=Z _ e;omega)⟩;exact h2.mono (g3.ke (f3.seen ht.seen)) (λid g=>⟨g.1,a6,by rw[K];intro e;cases e;omega⟩) λid g=>(u id a6 g.2.2).trans (x.same id a6 a6)
 .rintro I s ⟨B,C,w,y,rfl,f3,f9,O,P,Q⟩;show Fq lfp G (Runs F G) k I (.ptr t 0) w v (iN cs.length) (iN cs.length) B C;delta Fq;rw[Bf,AJ,e9 (m_ _),AZ];delta Mz;refine hk B C w y f3 O a6 λi f S=>?_;have⟨L,h1,h2⟩:=Q i f (by have:=(us.1 S).1;omega) S;exact⟨L,h1,h2.mono .refl (λid g=>⟨g.1,g.2.1⟩) λ_ _=>rfl⟩
end
abbrev AA6{p:Pool}:∀{ms:aAF} {bs:List Bd},Ob p ms bs=true->bs.length=ms.length->∀b∈bs,b.stack<=1000/\b.code.length<=16384
 |_,[],_,_,b,d=>by cases d
 |[],_::_,_,h,_,_=>by cases h
 |m::ms,x::bs,h,g,b,d=>by
  have h:(cj p m x&&Ob p ms bs)=true:=h;rw[ez]at h;rcases qk.1 d with rfl|d
  .have f:=h.1;unfold cj at f;simp only[ez,_l,_o]at f;omega
  .exact AA6 h.2 (by simpa using g) b d
abbrev AIX(sn:Nat->Bool):∀m,gP sn m<=m
 |0=>ea _
 |m+1=>by have:=AIX sn m;simp only[gP];cases sn m<;>simp only[_K,_j]<;>omega
structure Gf(f:Fl):Prop where
 ok:bq f=true
 cf:∀b∈f.bodies,∃H,Cfy f.pool b H
variable{vp:V}{ps:List Int}
section
variable{G:AQ}{H:Heap}{n:Nat}{k:KV}{A:Nat->Prop}
abbrev ASJ{x:V}(g:T.get H id=some (.arr 1 1 t))(k:El G H (.sl id 0 1 1 1) 1 [[x]]):T.get t 0=some [x]:=by have⟨p,f,d⟩:=k.at (i:=0) rfl;rw[rj a6]at f;cases f;have d:ZB H id ((0+0)*1) 1=some [x]:=d;rw[show(0+0)*1=0*1 from rfl,c8 g a6 a6]at d;exact d
abbrev ALG(hG:RN G){u y A vb:V}{ws:aAo}{m:(V×V×V×Heap×Nat)->Prop}(Q:sH G H n (.agg L) f)(gf:fb<n/\T.get H fb=some (one L))(X:OY G H n vb f.bodies ws)(R:Gf f)
 (hk:∀H' n',Kp H n H' n'->Ed lfp G (Runs F G) k m u y A H' n'):
 lfp (V×V×V×V×V×V×V×Heap×Nat) (Gi lfp G (Runs F G) k m) (.ptr fb 0,u,y,A,vb,iN f.bodies.length,iN 0,H,n):=by
 have D:=R.ok;unfold bq at D;simp only[ez,_v]at D;have hL:=yA (v:=.AT) Q;have d0:=X.lt;unfold big at d0;refine BL (N:=f.bodies.length) (J:=λi s=>∃H' n',s=(.ptr fb 0,u,y,A,vb,iN f.bodies.length,iN i,H',n')/\Kp H n H' n') ?_ ?_ ⟨H,n,rfl,.refl _ _⟩
 .rintro I i s E ⟨S,d,rfl,f3⟩ ih;show DQ lfp G (Runs F G) k m I (.ptr fb 0) u y A vb (iN f.bodies.length) (iN i) S d;delta DQ;have B:=eb E;have C:=f_ E;have d1:i<ws.length:=by rw[X.len];exact E
  have hw:=eb d1;have f5:=f3.le;generalize f.bodies[i]=b at B C;generalize ws[i]=w at hw;have⟨d2,f9⟩:=AA6 D.2.2.2 D.2.2.1 b C;have⟨h,hc⟩:=R.cf b C;have d3:=(X.kp f3).at' i b w B hw;have⟨p,hp,d4⟩:=(X.kp f3).el.at (i:=i) (c:=b.cells w) (by rw[_U,B,hw]);rw[Bf,AJ,ui E,Ah];refine AB hp (AB (BZ d4) ?_);refine Ao rfl λH4 f4 g4=>?_;refine BX (L:=b.cells w) g4 rfl rfl a6 λH5 Y s5=>?_;have U:Kp S d H5 (d+1):=⟨f4.le,λq g=>(s5 q a6).trans (f4.same q g)⟩;have K:=d3.kp U;have ln:∀{H':Heap},Kp H5 (d+1) H' (d+1)->lenV w=some (iN b.code.length):=λ_=>by rw[K.el.len,uc]
  refine AB (AP ..) (AB (AK (off:=0+2) Y (v:=w) rfl) (AB (ln (.refl _ _)) (AB (CA a6) ?_)));refine AQ8 a6 λH6 f6 g6=>?_;have⟨t6,g6,z6⟩:=g6;refine AB (AP ..) (AB (AK (off:=0+2) (f6.get Y a6) (v:=w) rfl) (AB (ln (.refl _ _)) (AB (CA a6) ?_)));refine AQ8 a6 λH7 f7 g7=>?_;have⟨t7,g7,z7⟩:=g7;refine L6 (G:=G) (vs:=[nI 0]) rfl a6 (λx hx=>by simp at hx;subst hx;exact⟨rfl,rfl⟩) λH8 f8 Z d5=>?_;have⟨t8,Z⟩:=Z;have z8:=ASJ Z d5;have d6:=f8.get g7 a6;have d7:=f8.get (f7.get g6 a6) a6;refine AB (rj a6) ?_;rw[t_];refine AIs d6 a6 a6 (z7 0 a6) rfl rfl λH9 g9 s9=>?_;have d8:Kp H5 (d+1) H9 (d+1):=⟨ea _,λq g=>(s9 q a6).trans ((f8.same q a6).trans ((f7.same q a6).trans (f6.same q g)))⟩;have P:=f3.trans U;have wl:Wl (d+1) (d+1+1) b h H9 (d+1+1+1+1) (λq=>q=d+1+1+1) (λj=>decide (j=0)) (.sl (d+1+1+1) 0 1 1 1) [0]:=by
   refine⟨⟨t6,(s9 _ a6).trans d7,λj M=>⟨0,z6 j a6,λe=>?_⟩⟩,⟨_,g9,λj M=>?_⟩,λj M=>?_,.lit (LS:=[[nI 0]]) ((s9 _ a6).trans Z) o_ o_ (λj L M=>?_) rfl,λj M=>?_,λq g=>by subst g;omega,a6,a6⟩
   .have:=kh e;subst this;rw[hc.z];rfl
   .by_cases e:j=0
    .subst e;rw[T.Ap];rfl
    .rw[T.Ac _ _ (C_ e),z7 j a6,e9 e]
   .have:=kh M;subst this;exact hc.ne
   .cases j with
    |zero=>cases M;exact z8
    |succ j=>cases M
   .rw[ff.1 M];rfl
  refine ATv (n1:=d+1) hG (Q.ke (P.ke)) hL ⟨a6,P.get gf.2 gf.1⟩ ⟨a6,Y⟩ K hc a6 d2 a6 wl d8 (by have:=AIX (λj=>decide (j=0)) (b.code.length+1);show _+1<=_;omega) λd9 f0 O W f1 f2=>?_;delta Eg;refine AB (AP ..) (AB (AK (off:=0+1) (W.get Y a6) (v:=.int .i64 b.stack 0) rfl) (AB (ANj ..) ?_));rw[show decide (b.stack<Int.ofNat O)=false by rw[e9];show ¬b.stack<((O:Nat):Int);omega,AZ];delta HK;rw[CA a6,AJ];exact ih _ ⟨d9,f0,rfl,a6,λq g=>(W.same q a6).trans (P.same q g)⟩
 .rintro I s ⟨S,d,rfl,f3⟩;show DQ lfp G (Runs F G) k m I (.ptr fb 0) u y A vb (iN f.bodies.length) (iN f.bodies.length) S d;delta DQ;rw[Bf,AJ,e9 (m_ _),AZ];exact hk S d f3
abbrev AOo(U:RN G){B:Bh}{fls:List Fl}(C:El G H v 10 B)(D:∀d,v.CD=some d->d<n)(W:B.length=fls.length)(hl:fls.length<=1000)(E:∀(i:Nat) (f:Fl),fls[i]? =some f->∃L,B[i]? =some L/\sH G H n (.agg L) f)(K:∀f∈fls,Gf f)
 (X:∀H' n',k (.bool true) H' n'):lfp (V×V×V×Heap×Nat) (G2 lfp G (Runs F G) k) (v,iN fls.length,iN 0,H,n):=by
 refine BL (N:=fls.length) (J:=λi s=>∃H' n',s=(v,iN fls.length,iN i,H',n')/\Kp H n H' n') ?_ ?_ ⟨H,n,rfl,.refl _ _⟩
 .rintro I i s q ⟨x,y,rfl,f3⟩ Y;show DN lfp G (Runs F G) k I v (iN fls.length) (iN i) x y;delta DN;have g:=eb q;have m:=f_ q;generalize fls[i]=f at g m;have Z:=f3.le;have⟨L,l1,M⟩:=E i f g;have hL:=yA (v:=.AT) M;have⟨p,hp,O⟩:=(C.same (H':=x) λd u=>f3.same d (D d u)).at l1;rw[Bf,AJ,ui q,Ah];refine AB hp (AB (BZ O) ?_);refine Ao rfl λH4 R g4=>?_;refine BX g4 rfl hL a6 λH5 S s5=>?_;have P:Kp x y H5 (y+1):=⟨R.le,λd u=>(s5 d a6).trans (R.same d u)⟩;have w:=f3.trans P;have Q:=M.ke w.ke;have⟨L',vf,vm,v0,v1,v2,v3,v4,T,d0,ws,d1,A,e⟩:=Q;cases e;have Q:=M.ke w.ke;have h9:L[9]? =some T:=by rw[A.is];rfl
  refine AB (AP ..) (AB (AK (off:=0+9) S (v:=T) (by exact h9)) ?_);refine AB (v:=.int .i64 (.ofNat f.bodies.length) 0) (by rw[A.bodies.el.len,_x,A.bodies.len,_4]) ?_;refine ALG U Q ⟨a6,S⟩ A.bodies (K f m) λH6 n6 f6=>?_;delta Ed;rw[CA a6,AJ];exact Y _ ⟨H6,n6,rfl,w.trans f6⟩
 .rintro I s ⟨x,y,rfl,f3⟩;show DN lfp G (Runs F G) k I v (iN fls.length) (iN fls.length) x y;delta DN;rw[Bf,AJ,e9 (m_ _),AZ];delta HJ;exact X x y
structure Mk2(A B A' B':Tc):Prop where
 w:zZ A B
 la:A.ms.length<=4/\B.ms.length<=4
 ca:ckC (Ef ([A,B].map Ar)) A=some A'
 cb:ckC (Ef ([A,B].map Ar)) B=some B'
abbrev AMd(hG:RN G)(hp:∀H,El G H vp 1 (ints ps))(S:vp=.AT∨∃b o l c z,vp=.rsl b o l c z)(d5:ps.length<=200)
 (hk:∀H' n' v D t a b A B E I n1,Kp H n H' n'->n1<=n'->n1<=b->TabAt G H' n' t a b (Ef ([A,B].map Ar))->El G H' v 6 D->D.length=2->(∀p,v.CD=some p->p<n1)->(∃d,D[0]? =some d/\WP G H' (λp=>p<n1) d E)->(∃d,D[1]? =some d/\WP G H' (λp=>p<n1) d I)->Mk2 A B E I->k (.CV [v,.ptr t 0,.bool true]) H' n'):
 Runs F G aG [vp] H n k:=by
 refine go1 (qw Ae G) ?_;delta aB;refine AJi ⟨ps,hp,a6⟩ S λH2 P v lA lB A B f2 T d6 d7 d8 L hA hB K=>?_;have d9:=f2.le;have⟨F1,B1,B2⟩:=APe K.w;have hR:∀p,Rg n P p->p<P:=λp h=>h.2;refine AP4 (cs:=[A,B]) hG T (λp f=>(L p f).2) (.cons hA.fc (.cons hB.fc .nil)) hR F1 (λi c C=>?_) (by show 2<=100;omega) λH3 U w D f3 M W N=>?_
 .match i,C with
  |0,C=>cases C;exact⟨lA,rfl,hA,B1⟩
  |1,C=>cases C;exact⟨lB,rfl,hB,B2⟩
  |i+2,C=>simp at C
 have f0:=f3.le;rw[OC,AJ,N4,AJ];have⟨d0,E,X,t0,Y⟩:=N 0 A rfl;have⟨d1,I,Z,t1,c1⟩:=N 1 B rfl;have d2:D=[d0,d1]:=by
  match D,W,X,Z with
  |[x,y],_,X,Z=>cases X;cases Z;rfl
 subst d2;have J:A.ms.length<=4/\B.ms.length<=4:=by
  cases K with
  |mk g s h1 h2 h3 h4 hg hs=>
   rename_i m1 m2 m3 m4 Q R;refine⟨ea 4,?_⟩;show(Q++R).length<=4;rw[uk];have x1:Q.length<=1:=by
    cases g
    .obtain rfl:Q=[]:=hg;exact j_ _
    .obtain⟨x,rfl,q⟩:=(show ∃m,Q=[m]/\jU nB m Hp from hg);exact ea _
   have x2:R.length<=1:=by
    cases s
    .obtain rfl:R=[]:=hs;exact j_ _
    .obtain⟨x,rfl,q⟩:=(show ∃m,R=[m]/\jU nB m IB from hs);exact ea _
   omega
 have⟨⟨ra,fa,na⟩,rb,fb,nb⟩:=AI0 K.w J.1 J.2 Y c1;have u:∀p,(Rg n P p∨(P<=p/\p<U))->p<U:=λp f=>by rcases f with h|h;have:=h.2;omega;exact h.2
 refine AKR (cs:=[E,I]) (M.el a6) (λp f=>(M.own f).2) (.cons t0.fc (.cons t1.fc .nil)) u (λc C=>by simp at C;rcases C with rfl|rfl;exact qT K.w.oa Y;exact qT K.w.ob c1) (by show 2<=100;omega) λH4 n4 t a b O hb ht=>?_;have d3:=O.le;have d4:Ef ([E,I].map Ar)=Ef ([A,B].map Ar):=by show Ef [Ar E,Ar I]=Ef [Ar A,Ar B];rw[fa,fb]
 rw[d4]at ht;refine hk H4 n4 w _ t a b A B E I U ((f2.trans f3).trans O) d3 hb.1 ht ((M.el a6).same λp f=>O.same p (M.own f).2) rfl (λp f=>(M.own f).2) ⟨d0,rfl,t0.mono (λp f=>u p f) λp f=>O.same p (u p f)⟩ ⟨d1,rfl,t1.mono (λp f=>u p f) λp f=>O.same p (u p f)⟩ ⟨K.w,J,Y,c1⟩
abbrev AJe{A B d i:Tc}(h:Mk2 A B d i):∃f g,FlG (Ef ([A,B].map Ar)) d f/\FlG (Ef ([A,B].map Ar)) i g/\RgC (Ef ([A,B].map Ar)) d/\RgC (Ef ([A,B].map Ar)) i/\lI d/\lI i:=by have⟨⟨k,u,v⟩,m,x,y⟩:=AI0 h.w h.la.1 h.la.2 h.ca h.cb;have⟨f,p⟩:=ABa k;have⟨g,q⟩:=ABa m;exact⟨f,g,p,q,k,m,qT h.w.oa h.ca,qT h.w.ob h.cb⟩
abbrev FlG.gf{c:Tc}(h:FlG tb c f):Gf f:=⟨h.ok,h.cf⟩
abbrev ACP(E:RN G)(hO:AAu G)(I:dZ G)(hM:qA G)(T:∀H,El G H vp 1 (ints ps))(J:vp=.AT∨∃b o l c z,vp=.rsl b o l c z)(U:∀H' n',k (.bool true) H' n'):Runs F G bC [vp] .e 0 k:=by
 refine go1 (ZV Ae G) ?_;delta Qk;refine AMT hO hM λH0 n0=>?_;refine AB (Bw ..) ?_;show AS (.bool false) _ _;have u:(ints ps).length=ps.length:=uc ..;rw[AZ];refine AB (T H0).len ?_;rw[u,cM,AJ];cases W:decide (200<ps.length)with
 |true=>rw[Ah];exact U _ _
 |false=>
 have W:=_w W;rw[AZ];refine AMd E T J a6 λH2 n2 v ds t a b A B A' B' n1 f2 d0 d1 ht K M N O P X=>?_;rw[OC,AJ,N4,AJ];refine AB (v:=.bool true) rfl (AB (Bw ..) ?_);show AS (.bool false) _ _;rw[AZ];have⟨f,g,Y,Z,ra,rb,oa,ob⟩:=AJe X;have⟨b1,F1,_,_⟩:=AA9 X.w;refine AQT (A:=λD=>D<n1) (cs:=[A',B']) (fls:=[f,g]) E I ht F1.tl K N (λD p=>⟨a6,a6⟩) M rfl (by show 2<=100;omega) (λi c Q q m=>?_) λH3 n3 w Ls f3 x y R=>?_
 .match i,q,m with
  |0,q,m=>cases q;cases m;have⟨d,q1,q2⟩:=O;exact⟨d,q1,q2,oa,ra,Y⟩
  |1,q,m=>cases q;cases m;have⟨d,q1,q2⟩:=P;exact⟨d,q1,q2,ob,rb,Z⟩
  |i+2,q,_=>simp at q
 have S:=f3.le;rw[OC,AJ,N4,AJ];refine AB (Bw ..) ?_;show AS (.bool false) _ _;rw[AZ];have C:=x.el (G:=G) a6;refine AB (v:=.int .i64 (.ofNat ([f,g]:List Fl).length) 0) (by rw[C.len,y]) ?_;refine AOo E C (λD p=>(x.own p).2) y (by show 2<=1000;omega) (λi Q m=>?_) (λQ m=>?_) U
 .obtain⟨L,q1,q2⟩:=R i Q m;exact⟨L,q1,q2 H3 n3 .refl S (λ_ _=>rfl) λD p=>p.2⟩
 .rcases qk.1 m with rfl|m
  .exact Y.gf
  .rw[ff.1 m];exact Z.gf
end
end Go.RL
