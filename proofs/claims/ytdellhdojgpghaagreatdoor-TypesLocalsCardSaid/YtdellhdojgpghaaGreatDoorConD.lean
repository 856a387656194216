/- Part of a proof; nothing is assumed. -/
import Derived.Test.YtdellhdojgpghaaGreatDoorConC
set_option linter.unusedVariables false
set_option linter.unusedSimpArgs false
namespace Go.PQ
open Go.RL
open Go.Bj
set_option maxRecDepth 100000
def exC(kind num:Nat)(nm ty:Bs)(arr:Bool)(line col:Nat)(v:V):LV:=
 [.int .i64 (.ofNat kind) 0,.int .i64 (.ofNat line) 0,.int .i64 (.ofNat col) 0,.int .i64 (.ofNat num) 0,sB nm,sB ty,.bool arr,v,.str 0 0,.bool false,.str 0 0]
def KS(v:V):Prop:=EU v v=true/\(∀id o m c e,v=.sl id o m c e->m<=c)/\∀b o m c e,v≠.rsl b o m c e
mutual
inductive Fa(G:AV)(H:Heap)(A:Nat->Prop):LV->Ex->Prop where
 |mk (kind num:Nat) (nm ty:Bs) (arr:Bool) (line col:Nat) {v:V} {cs:CJ} {kids:List Ex} (he:El G H v 11 cs) (hv:KS v) (ha:∀id,v.Dl=some id->A id) (hc:Zg G H A cs kids):
  Fa G H A (exC kind num nm ty arr line col v) (.mk kind num nm ty arr kids)
inductive Zg(G:AV)(H:Heap)(A:Nat->Prop):CJ->List Ex->Prop where
 |nil:Zg G H A [] []
 |cons {c:LV} {e:Ex} {cs:CJ} {es:List Ex} (h:Fa G H A c e) (t:Zg G H A cs es):Zg G H A (c::cs) (e::es)
end
mutual
theorem Fa.mono{G:AV}{H H':Heap}{A B:Nat->Prop}(hA:∀id,A id->B id)(hs:∀id,A id->T.get H' id=T.get H id):∀{c:LV} {e:Ex},Fa G H A c e->Fa G H' B c e
 |_,_,.mk kind num nm ty arr line col he hv ha hc=>.mk kind num nm ty arr line col (he.same λid hid=>hs id (ha id hid)) hv (λid hid=>hA id (ha id hid)) (Zg.mono hA hs hc)
theorem Zg.mono{G:AV}{H H':Heap}{A B:Nat->Prop}(hA:∀id,A id->B id)(hs:∀id,A id->T.get H' id=T.get H id):∀{cs:CJ} {es:List Ex},Zg G H A cs es->Zg G H' B cs es
 |_,_,.nil=>.nil
 |_,_,.cons h t=>.cons (Fa.mono hA hs h) (Zg.mono hA hs t)
end
theorem Zg.app{G:AV}{H:Heap}{A:Nat->Prop}:∀{cs:CJ} {es:List Ex} {cs':CJ} {es':List Ex},Zg G H A cs es->Zg G H A cs' es'->Zg G H A (cs++cs') (es++es')
 |_,_,_,_,.nil,h=>h
 |_,_,_,_,.cons h t,h'=>.cons h (t.app h')
theorem Zg.len{G:AV}{H:Heap}{A:Nat->Prop}:∀{cs:CJ} {es:List Ex},Zg G H A cs es->cs.length=es.length
 |_,_,.nil=>rfl
 |_,_,.cons h t=>by simp[t.len]
theorem Xv(q:IntKind)(a:Int):EU (.int q a 0) (.int q a 0)=true:=by simp[EU,ALV,BO,NP,WU]
theorem jH(l c:Nat):EU (.str l c) (.str l c)=true:=by simp[EU,AKu,BO]
theorem AIl(b:Bool):EU (.bool b) (.bool b)=true:=by cases b<;>rfl
theorem AKt(a b c d e:Nat):EU (.sl a b c d e) (.sl a b c d e)=true:=by simp[EU,APl,BO]
theorem AFf(a b c d:Nat):EU (.G6 a b c d) (.G6 a b c d)=true:=by simp[EU,AFr,BO]
theorem aT{a b c d e:Nat}(h:c<=d):KS (.sl a b c d e):=⟨AKt ..,λ_ _ _ _ _ h'=>(by cases h';exact h),by simp⟩
theorem AFX(a b c d:Nat):KS (.G6 a b c d):=⟨AFf ..,λ_ _ _ _ _ h=>(by cases h),by simp⟩
theorem vK:KS .Af:=⟨rfl,λ_ _ _ _ _ h=>(by cases h),by simp⟩
theorem vsL:∀L:LV,(∀v∈L,EU v v=true)->uD L L=true
 |[],_=>rfl
 |v::L,h=>by
  show band (EU v v) (uD L L)=true
  rw[h v (List.mem_cons_self ..),vsL L λw hw=>h w (List.mem_cons_of_mem _ hw)];rfl
theorem dF{L:LV}(h:∀v∈L,EU v v=true):BH (.agg L) (.agg L)=true:=vsL L h
theorem Jf(line col:Nat):BH (.agg [.int .i64 (.ofNat line) 0,.int .i64 (.ofNat col) 0]) (.agg [.int .i64 (.ofNat line) 0,.int .i64 (.ofNat col) 0])=true:=
 dF λv hv=>by simp at hv;rcases hv with rfl|rfl<;>exact Xv ..
theorem ARZ(l:Bs):BH (sB l) (sB l)=true:=jH ..
section
variable{G:AV}{H:Heap}{A:Nat->Prop}{c:LV}{e:Ex}
theorem Fa.len(h:Fa G H A c e):c.length=11:=by cases h;rfl
theorem Fa.kd(h:Fa G H A c e):c[0]? =some (.int .i64 (.ofNat e.kind) 0):=by cases h;rfl
theorem Fa.vs(h:Fa G H A c e):BH (.agg c) (.agg c)=true:=by
 cases h with
 |mk kind num nm ty arr line col he hv ha hc=>
  refine dF λv hv'=>?_
  simp only[exC,List.mem_cons,List.not_mem_nil,or_false]at hv'
  rcases hv' with rfl|rfl|rfl|rfl|rfl|rfl|rfl|rfl|rfl|rfl|rfl<;>first|exact Xv .. |exact jH .. |exact AIl .. |exact hv.1
end
def Rg(a b:Nat):Nat->Prop:=λid=>a<=id/\id<b
def Al(a b x:Nat):Nat->Prop:=λid=>a<id/\id<b/\id≠x
theorem CX{v:V}{P:Prop}(h:BH v v=true)(hp:P):EJ (BH v v) P:=by rw[h];exact hp
abbrev exZ:LV:=[.int .i64 (.ofNat 0) 0,.int .i64 (.ofNat 0) 0,.int .i64 (.ofNat 0) 0,.int .i64 (.ofNat 0) 0,.str 0 0,.str 0 0,.bool false,.Af,.str 0 0,.bool false,.str 0 0]
def ExK(G:AV)(pb:Nat)(H:Heap)(n:Nat)(s':S)(e:Ex)(k:KV):Prop:=∀H' n' c,Fr G pb H n H' n' s'->Fa G H' (Rg n n') c e->k (.agg c) H' n'
def Bxs(H:Heap)(n pb:Nat)(bs:List Nat):Prop:=∀b∈bs,pb<b/\b<n/\T.get H b=some (one [.ptr pb 0])
theorem Bxs.fr{G:AV}{H H':Heap}{n n' pb:Nat}{s':S}{bs:List Nat}(h:Bxs H n pb bs)(y:Fr G pb H n H' n' s'):Bxs H' n' pb bs:=λb hb=>by
 obtain⟨h1,h2,h3⟩:=h b hb
 exact⟨h1,Nat.lt_of_lt_of_le h2 y.le,y.get h3 h2 h1⟩
theorem Bxs.nil{H:Heap}{n pb:Nat}:Bxs H n pb []:=λ_ h=>by cases h
def FnC(G:AV)(pb:Nat)(bs:List Nat)(m:PM Ex)(v:V):Prop:=∀(s:S) (H:Heap) (n:Nat) (s':S) (e:Ex) (k:KV),ZR G H pb s->pb<n->Bxs H n pb bs->m s=some (e,s')->ExK G pb H n s' e k->WQ v [] (Runs F G) H n k
theorem ANm{kd:Nat}{x y:V}{id o l c:Nat}:BN exZ [(0,1,.c (.int .i64 (.ofNat kd) 0)),(1,2,.c (.agg [x,y])),(7,1,.c (.sl id o l c 11))]=
 some (.agg [.int .i64 (.ofNat kd) 0,x,y,.int .i64 (.ofNat 0) 0,.str 0 0,.str 0 0,.bool false,.sl id o l c 11,.str 0 0,.bool false,.str 0 0]):=rfl
section
variable{G:AV}{H:Heap}{n pb:Nat}{s s':S}{k:KV}
theorem zD{H0 H:Heap}{n0 n r b:Nat}{c L0:LV}{e:Ex}{A:Nat->Prop}(x:Fr G pb H0 n0 H n s')(gr:T.get H r=some (one L0))(hl:L0.length=11)(gb:T.get H b=some (one c))(hr:n0<=r)(he:Fa G H A c e)
 (hA:∀id,A id->n0<=id/\id<n/\id≠r) (hk:ExK G pb H0 n0 s' e k):
 AP (Ah 11 (.ptr b 0) G H) λv6=>Bd 11 (.ptr r 0) v6 H n λ_ H n=>EN (CP [.cn (.ptr r 0) 11] G H) λl=>k (EG l) H n:=by
 rw[Aw (m:=11) gb (by omega) he.len,AU]
 refine Bf gr hl he.len (by omega) λH1 g1 s1=>?_
 rw[BU (m:=11) g1 (by omega) he.len]
 simp only[go_sem]
 exact hk _ _ _ (x.st hr s1) (he.mono (λid h=>⟨(hA id h).1,(hA id h).2.1⟩) λid h=>s1 id (hA id h).2.2)
theorem ALS{bs:List Nat}{m:PM Ex}{v:V}{kd f:Nat}{w:Bs}{e:Ex}(hf:FnC G pb bs m v)(hbs:Bxs H n pb bs)(h:ZR G H pb s)(hb:pb<n)(hm:either kd w m f s=some (e,s'))(hk:ExK G pb H n s' e k):
 Runs F G P5 [.ptr pb 0,.int .i64 (.ofNat kd) 0,sB w,v] H n k:=by
 refine go4 (jv Aq G) ?_
 delta WA
 have x:=Fr.refl h hb
 refine Ar rfl λH1 f1 g1=>?_
 have x:=x.al f1
 unfold either at hm
 rw[Option.bind_eq_some_iff]at hm
 obtain⟨⟨e1,s1⟩,h1,hm⟩:=hm
 have hm:vX kd w m f e1 s1=some (e,s'):=hm
 refine hf s H1 (n+1) s1 e1 _ x.p x.lt (hbs.fr x) h1 λH2 n2 c y hx=>?_
 have x:=x.tr y
 have g1:=y.get g1 (by omega) hb
 have hn2:=y.le
 refine Ar rfl λH3 f3 g3=>?_
 have x:=x.al f3
 have g1:=f3.get g1 (by omega)
 refine Bf g3 rfl hx.len (by omega) λH4 g4 s4=>?_
 have x:=x.st (by omega) s4
 have g1:=(s4 n (by omega)).trans g1
 have hx:Fa G H4 (Al n (n2+1) n2) c e1:=hx.mono (λid h=>⟨by have:=h.1;omega,by have:=h.2;omega,by have:=h.2;omega⟩) λid h=>(s4 id (by have:=h.2;omega)).trans (f3.same id h.2)
 refine FB (J:=λg q=>∃H' n' t c e1,q=(.ptr pb 0,.int .i64 (.ofNat kd) 0,sB w,v,.ptr n 0,.ptr n2 0,H',n')/\Fr G pb H n H' n' t/\n2<n'/\T.get H' n=some (one exZ)/\T.get H' n2=some (one c)/\Fa G H' (Al n n' n2) c e1/\vX kd w m g e1 t=some (e,s')) ?_ (m:=f)
  ⟨H4,n2+1,s1,c,e1,rfl,x,by omega,g1,g4,hx,hm⟩
 rintro I g q ⟨H5,n5,t,c,e1,rfl,x,hn5,g1,g4,hx,hm⟩ ih
 show NV lfp G (Runs F G) k I (.ptr pb 0) (.int .i64 (.ofNat kd) 0) (sB w) v (.ptr n 0) (.ptr n2 0) H5 n5
 delta NV
 cases g with
 |zero=>cases hm
 |succ g=>
  have hm:(bif WZ [w] t then(Qj t).bind λs1=>(m s1).bind λp=>vX kd w m g (.mk kd 0 [] [] false [e1,p.1]) p.2 else some (e1,t))=some (e,s'):=hm
  refine yO (ws:=[w]) x.p x.lt rfl (by show 1<=1000;omega) λH6 n6 y=>?_
  have x:=x.tr y
  have hn6:=y.le
  have g1:=y.get g1 (by omega) hb
  have g4:=y.get g4 (by omega) (by omega)
  have hx:Fa G H6 (Al n n6 n2) c e1:=hx.mono (λid h=>⟨h.1,by have:=h.2.1;omega,h.2.2⟩) λid h=>y.f.same id h.2.1 (by have:=h.1;omega)
  cases hi:WZ [w] t with
  |false=>
   rw[hi]at hm
   cases hm
   simp only[go_sem]
   delta NQ
   exact zD x g1 rfl g4 (Nat.le_refl _) hx (λid h=>⟨by have:=h.1;omega,h.2.1,by have:=h.1;omega⟩) hk
  |true=>
   rw[hi,cond_true,Option.bind_eq_some_iff]at hm
   obtain⟨t1,h1,hm⟩:=hm
   rw[Option.bind_eq_some_iff]at hm
   obtain⟨⟨e2,t2⟩,h2,hm⟩:=hm
   rw[A8]
   refine dn x.p x.lt h1 λH7 n7 line col _ _ y=>?_
   have x:=x.tr y
   have hn7:=y.le
   have g1:=y.get g1 (by omega) hb
   have g4:=y.get g4 (by omega) (by omega)
   have hx:Fa G H7 (Al n n7 n2) c e1:=hx.mono (λid h=>⟨h.1,by have:=h.2.1;omega,h.2.2⟩) λid h=>y.f.same id h.2.1 (by have:=h.1;omega)
   rw[show AaA 3 2 (.agg (UK t.t line col))=some (.agg [.int .i64 (.ofNat line) 0,.int .i64 (.ofNat col) 0])from rfl,AU]
   refine Ar rfl λH8 f8 g8=>?_
   have x:=x.al f8
   refine Bf g8 rfl (L:=[.int .i64 (.ofNat line) 0,.int .i64 (.ofNat col) 0]) rfl (by omega) λH9 g9 s9=>?_
   have x:=x.st (by omega) s9
   have g1:=(s9 n (by omega)).trans (f8.get g1 (by omega))
   have g4:=(s9 n2 (by omega)).trans (f8.get g4 (by omega))
   have hx:Fa G H9 (Al n n7 n2) c e1:=hx.mono (λid h=>h) λid h=>(s9 id (by have:=h.2.1;omega)).trans (f8.same id h.2.1)
   rw[Aw (m:=2) g9 (by omega) rfl,AU,Aw (m:=11) g4 (by omega) hx.len,AU]
   refine hf _ H9 (n7+1) _ _ _ x.p x.lt (hbs.fr x) h2 λH10 n10 c2 y hx2=>?_
   have x:=x.tr y
   have hn10:=y.le
   have g1:=y.get g1 (by omega) hb
   have g4:=y.get g4 (by omega) (by omega)
   have g9:=y.get g9 (by omega) (by omega)
   rw[Aw (m:=2) g9 (by omega) rfl,AU,Aw (m:=11) g4 (by omega) hx.len]
   refine CX (Jf ..) (CX hx.vs ?_)
   refine Ld (G:=G) (vs:=[.agg c,.agg c2]) rfl (by omega) (λv hv=>by simp at hv;rcases hv with rfl|rfl;exact⟨rfl,hx.len⟩;exact⟨rfl,hx2.len⟩) λH11 f11 _ hel=>?_
   have x:=x.al f11
   have g1:=f11.get g1 (by omega)
   have g4:=f11.get g4 (by omega)
   rw[ANm,AU]
   refine Bf g4 hx.len rfl (by omega) λH12 g12 s12=>?_
   have x:=x.st (by omega) s12
   refine ih g _ (by omega) ⟨H12,n10+1,t2,_,.mk kd 0 [] [] false [e1,e2],rfl,x,by omega,(s12 n (by omega)).trans g1,g12,?_,hm⟩
   refine .mk kd 0 [] [] false line col (hel.same λid hid=>s12 id (by cases JM hid;omega)) (aT (by omega)) (λid hid=>⟨by cases JM hid;omega,by cases JM hid;omega,by cases JM hid;omega⟩) ?_
   refine .cons (hx.mono (λid h=>⟨h.1,by have:=h.2.1;omega,h.2.2⟩) λid h=>?_) (.cons (hx2.mono (λid h=>⟨by have:=h.1;omega,by have:=h.2;omega,by have:=h.1;omega⟩) λid h=>?_) .nil)
   ·have h1:=h.1;have h2:=h.2.1
    exact(s12 id h.2.2).trans ((f11.same id (by omega)).trans (y.f.same id (by omega) (by omega)))
   ·have h1:=h.1;have h2:=h.2
    exact(s12 id (by omega)).trans (f11.same id h2)
end
open Go.Bj
set_option maxRecDepth 100000
theorem AJO{kd:Nat}{x y:V}{nm:Bs}{id o l c:Nat}:BN exZ [(0,1,.c (.int .i64 (.ofNat kd) 0)),(1,2,.c (.agg [x,y])),(4,1,.c (sB nm)),(7,1,.c (.sl id o l c 11))]=
 some (.agg [.int .i64 (.ofNat kd) 0,x,y,.int .i64 (.ofNat 0) 0,sB nm,.str 0 0,.bool false,.sl id o l c 11,.str 0 0,.bool false,.str 0 0]):=rfl
section
variable{G:AV}{H:Heap}{n pb:Nat}{s s':S}{k:KV}
theorem ANu{H0 H:Heap}{n0 n r:Nat}{c L0:LV}{e:Ex}{A:Nat->Prop}(x:Fr G pb H0 n0 H n s')(gr:T.get H r=some (one L0))(hl:L0.length=11)(hr:n0<=r)(he:Fa G H A c e)
 (hA:∀id,A id->n0<=id/\id<n/\id≠r) (hk:ExK G pb H0 n0 s' e k):
 Bd 11 (.ptr r 0) (.agg c) H n λ_ H n=>EN (CP [.cn (.ptr r 0) 11] G H) λl=>k (EG l) H n:=by
 refine Bf gr hl he.len (by omega) λH1 g1 s1=>?_
 rw[BU (m:=11) g1 (by omega) he.len]
 simp only[go_sem]
 exact hk _ _ _ (x.st hr s1) (he.mono (λid h=>⟨(hA id h).1,(hA id h).2.1⟩) λid h=>s1 id (hA id h).2.2)
theorem AOh{bs:List Nat}{ws:List Bs}{m:PM Ex}{v:V}{i o l cp f:Nat}{e:Ex}(hf:FnC G pb bs m v)(hbs:Bxs H n pb bs)(hv:El G H (.sl i o l cp 1) 1 (wsC ws))(hin:i<n)(hip:pb<i)(hw:ws.length<=1000)
 (h:ZR G H pb s) (hb:pb<n) (hm:signs ws m f s=some (e,s')) (hk:ExK G pb H n s' e k):
 Runs F G Ql [.ptr pb 0,v,.sl i o l cp 1] H n k:=by
 refine go3 (oM Aq G) ?_
 delta XP
 have x:=Fr.refl h hb
 refine Ar rfl λH1 f1 g1=>?_
 have x:=x.al f1
 unfold signs at hm
 rw[Option.bind_eq_some_iff]at hm
 obtain⟨⟨e1,s1⟩,h1,hm⟩:=hm
 have hm:ACi ws m f e1 s1=some (e,s'):=hm
 refine hf s H1 (n+1) s1 e1 _ x.p x.lt (hbs.fr x) h1 λH2 n2 c y hx=>?_
 have x:=x.tr y
 have g1:=y.get g1 (by omega) hb
 have hn2:=y.le
 refine Ar rfl λH3 f3 g3=>?_
 have x:=x.al f3
 have g1:=f3.get g1 (by omega)
 refine Bf g3 rfl hx.len (by omega) λH4 g4 s4=>?_
 have x:=x.st (by omega) s4
 have g1:=(s4 n (by omega)).trans g1
 have hx:Fa G H4 (Al n (n2+1) n2) c e1:=hx.mono (λid h=>⟨by have:=h.1;omega,by have:=h.2;omega,by have:=h.2;omega⟩) λid h=>(s4 id (by have:=h.2;omega)).trans (f3.same id h.2)
 refine FB (J:=λg q=>∃H' n' t c e1,q=(.ptr pb 0,v,.sl i o l cp 1,.ptr n 0,.ptr n2 0,H',n')/\Fr G pb H n H' n' t/\n2<n'/\T.get H' n=some (one exZ)/\T.get H' n2=some (one c)/\Fa G H' (Al n n' n2) c e1/\ACi ws m g e1 t=some (e,s')) ?_ (m:=f)
  ⟨H4,n2+1,s1,c,e1,rfl,x,by omega,g1,g4,hx,hm⟩
 rintro I g q ⟨H5,n5,t,c,e1,rfl,x,hn5,g1,g4,hx,hm⟩ ih
 show OL lfp G (Runs F G) k I (.ptr pb 0) v (.sl i o l cp 1) (.ptr n 0) (.ptr n2 0) H5 n5
 delta OL
 cases g with
 |zero=>cases hm
 |succ g=>
  have hm:(bif WZ ws t then(Qj t).bind λs1=>(m s1).bind λp=>ACi ws m g (.mk 16 0 t.t.text [] false [e1,p.1]) p.2 else some (e1,t))=some (e,s'):=hm
  refine AbH x.p (hv.same λj hj=>by cases JM hj;exact x.f.same _ hin (by omega)) hw ?_
  cases hi:WZ ws t with
  |false=>
   rw[hi]at hm
   cases hm
   rw[Ak]
   delta OY
   exact zD x g1 rfl g4 (Nat.le_refl _) hx (λid h=>⟨by have:=h.1;omega,h.2.1,by have:=h.1;omega⟩) hk
  |true=>
   rw[hi,cond_true,Option.bind_eq_some_iff]at hm
   obtain⟨t1,h1,hm⟩:=hm
   rw[Option.bind_eq_some_iff]at hm
   obtain⟨⟨e2,t2⟩,h2,hm⟩:=hm
   rw[A8]
   refine dn x.p x.lt h1 λH7 n7 line col _ _ y=>?_
   have x:=x.tr y
   have hn7:=y.le
   have g1:=y.get g1 (by omega) hb
   have g4:=y.get g4 (by omega) (by omega)
   have hx:Fa G H7 (Al n n7 n2) c e1:=hx.mono (λid h=>⟨h.1,by have:=h.2.1;omega,h.2.2⟩) λid h=>y.f.same id h.2.1 (by have:=h.1;omega)
   refine Ar rfl λH8 f8 g8=>?_
   have x:=x.al f8
   refine Bf g8 rfl (L:=UK t.t line col) rfl (by omega) λH9 g9 s9=>?_
   have x:=x.st (by omega) s9
   have g1:=(s9 n (by omega)).trans (f8.get g1 (by omega))
   have g4:=(s9 n2 (by omega)).trans (f8.get g4 (by omega))
   have hx:Fa G H9 (Al n n7 n2) c e1:=hx.mono (λid h=>h) λid h=>(s9 id (by have:=h.2.1;omega)).trans (f8.same id h.2.1)
   rw[AY,AU,AY]
   simp only[Nat.zero_add]
   rw[QK (m:=2) (o:=3) g9 (by omega) (by show 3+2<=5;omega),AU,AU,AX (off:=1) g9 (v:=sB t.t.text) rfl,AU,Aw (m:=11) g4 (by omega) hx.len,AU]
   refine hf _ H9 (n7+1) _ _ _ x.p x.lt (hbs.fr x) h2 λH10 n10 c2 y hx2=>?_
   have x:=x.tr y
   have hn10:=y.le
   have g1:=y.get g1 (by omega) hb
   have g4:=y.get g4 (by omega) (by omega)
   have g9:=y.get g9 (by omega) (by omega)
   rw[QK (m:=2) (o:=3) g9 (by omega) (by show 3+2<=5;omega),AU,AX (off:=1) g9 (v:=sB t.t.text) rfl,AU,Aw (m:=11) g4 (by omega) hx.len]
   refine CX (Jf ..) (CX (ARZ _) (CX hx.vs ?_))
   refine Ld (G:=G) (vs:=[.agg c,.agg c2]) rfl (by omega) (λv hv=>by simp at hv;rcases hv with rfl|rfl;exact⟨rfl,hx.len⟩;exact⟨rfl,hx2.len⟩) λH11 f11 _ hel=>?_
   have x:=x.al f11
   have g1:=f11.get g1 (by omega)
   have g4:=f11.get g4 (by omega)
   refine(show ∀{P:V->Prop},P _->AP (BN exZ [(0,1,.c (.int .i64 (.ofNat 16) 0)),(1,2,.c (.agg [.int .i64 (.ofNat line) 0,.int .i64 (.ofNat col) 0])),(4,1,.c (sB t.t.text)),(7,1,.c (.sl n10 0 2 2 11))]) P from λh=>by rw[AJO];exact h) ?_
   refine Bf g4 hx.len rfl (by omega) λH12 g12 s12=>?_
   have x:=x.st (by omega) s12
   refine ih g _ (by omega) ⟨H12,n10+1,t2,_,.mk 16 0 t.t.text [] false [e1,e2],rfl,x,by omega,(s12 n (by omega)).trans g1,g12,?_,hm⟩
   refine .mk 16 0 t.t.text [] false line col (hel.same λid hid=>s12 id (by cases JM hid;omega)) (aT (by omega)) (λid hid=>⟨by cases JM hid;omega,by cases JM hid;omega,by cases JM hid;omega⟩) ?_
   refine .cons (hx.mono (λid h=>⟨h.1,by have:=h.2.1;omega,h.2.2⟩) λid h=>?_) (.cons (hx2.mono (λid h=>⟨by have:=h.1;omega,by have:=h.2;omega,by have:=h.1;omega⟩) λid h=>?_) .nil)
   ·have h1:=h.1;have h2:=h.2.1
    exact(s12 id h.2.2).trans ((f11.same id (by omega)).trans (y.f.same id (by omega) (by omega)))
   ·have h1:=h.1;have h2:=h.2
    exact(s12 id (by omega)).trans (f11.same id h2)
end
open Go.Bj
set_option maxRecDepth 100000
section
variable{G:AV}{pb:Nat}
theorem one1{H:Heap}{n b:Nat}(h:Bxs H n pb [b]):pb<b/\b<n/\T.get H b=some (one [.ptr pb 0]):=h b (List.mem_cons_self ..)
theorem AZD{un:PM Ex}{f b:Nat}(hf:FnC G pb [] un (.fn Ci [.ptr pb 0] [])):FnC G pb [b] (signs [zq,Yq,AE5] un f) (.fn Jz [] [.ptr b 0]):=by
 intro s H n s' e k h hb hbs hm hk
 rw[vw]
 show Runs F G Jz [.ptr b 0] H n k
 refine go1 (Xx Aq G) ?_
 delta QE
 obtain⟨b1,b2,b3⟩:=one1 hbs
 have x:=Fr.refl h hb
 refine Ar rfl λH1 f1 g1=>?_
 have x:=x.al f1
 have b3:=f1.get b3 b2
 have q:Aa (.ptr b 0) G H1=some (.ptr pb 0):=AX b3 rfl
 rw[q,AU,AU]
 refine ABB (G:=G) (ws:=[zq,Yq,AE5]) rfl λH2 f2 hel=>?_
 have x:=x.al f2
 have g1:=f2.get g1 (by omega)
 refine AOh hf Bxs.nil hel (by omega) (by omega) (by show 3<=1000;omega) x.p x.lt hm λH3 n3 c y hx=>?_
 have hn:=y.le
 exact ANu (x.tr y) (y.get g1 (by omega) hb) rfl (Nat.le_refl _) hx (λid h=>⟨by have:=h.1;omega,h.2,by have:=h.1;omega⟩) hk
theorem AWV{un:PM Ex}{f b:Nat}(hf:FnC G pb [] un (.fn Ci [.ptr pb 0] [])):FnC G pb [b] (sumP un f) (.fn Ia [] [.ptr b 0]):=by
 intro s H n s' e k h hb hbs hm hk
 rw[vw]
 show Runs F G Ia [.ptr b 0] H n k
 refine go1 (Za Aq G) ?_
 delta Ri
 obtain⟨b1,b2,b3⟩:=one1 hbs
 have x:=Fr.refl h hb
 refine Ar rfl λH1 f1 g1=>?_
 have x:=x.al f1
 have b3:=f1.get b3 b2
 have q:Aa (.ptr b 0) G H1=some (.ptr pb 0):=AX b3 rfl
 rw[q,AU]
 refine ABB (G:=G) (ws:=[AGJ,Kz]) rfl λH2 f2 hel=>?_
 have x:=x.al f2
 have g1:=f2.get g1 (by omega)
 refine AOh (AZD hf) (λj hj=>by simp at hj;subst hj;exact⟨b1,by omega,f2.get b3 (by omega)⟩) hel (by omega) (by omega) (by show 2<=1000;omega) x.p x.lt hm λH3 n3 c y hx=>?_
 have hn:=y.le
 exact ANu (x.tr y) (y.get g1 (by omega) hb) rfl (Nat.le_refl _) hx (λid h=>⟨by have:=h.1;omega,h.2,by have:=h.1;omega⟩) hk
theorem AMv{un:PM Ex}{f:Nat}(hf:FnC G pb [] un (.fn Ci [.ptr pb 0] [])):FnC G pb [] (compared un f) (.fn OD [.ptr pb 0] []):=by
 intro s H n s' e k h hb hbs hm hk
 rw[vw]
 show Runs F G OD [.ptr pb 0] H n k
 refine go1 (dR Aq G) ?_
 delta Tq
 unfold compared at hm
 rw[Option.bind_eq_some_iff]at hm
 obtain⟨⟨e1,t⟩,h1,hm⟩:=hm
 have hm:(bif WZ [pz,ADK,dh,ADM] t then(Qj t).bind λs1=>(sumP un f s1).bind λq=>some (.mk 16 0 t.t.text [] false [e1,q.1],q.2)else some (e1,t))=some (e,s'):=hm
 have x:=Fr.refl h hb
 refine APU rfl λH0 f0 g0=>?_
 have x:=x.al f0
 have g0:T.get H0 n=some (one [.ptr pb 0]):=g0
 refine Ar rfl λH1 f1 g1=>?_
 have x:=x.al f1
 have g0:=f1.get g0 (by omega)
 refine AWV (b:=n) hf _ H1 (n+1+1) _ _ _ x.p x.lt (λj hj=>by simp at hj;subst hj;exact⟨hb,by omega,g0⟩) h1 λH2 n2 c y hx=>?_
 have x:=x.tr y
 have g0:=y.get g0 (by omega) hb
 have g1:=y.get g1 (by omega) (by omega)
 have hn2:=y.le
 refine Ar rfl λH3 f3 g3=>?_
 have x:=x.al f3
 have g0:=f3.get g0 (by omega)
 have g1:=f3.get g1 (by omega)
 refine Bf g3 rfl hx.len (by omega) λH4 g4 s4=>?_
 have x:=x.st (by omega) s4
 have g0:=(s4 n (by omega)).trans g0
 have g1:=(s4 (n+1) (by omega)).trans g1
 have hx:Fa G H4 (Al (n+1) (n2+1) n2) c e1:=hx.mono (λid h=>⟨by have:=h.1;omega,by have:=h.2;omega,by have:=h.2;omega⟩) λid h=>(s4 id (by have:=h.2;omega)).trans (f3.same id h.2)
 have q:Aa (.ptr n 0) G H4=some (.ptr pb 0):=AX g0 rfl
 rw[q,AU]
 refine yO (ws:=[pz,ADK,dh,ADM]) x.p x.lt rfl (by show 4<=1000;omega) λH6 n6 y=>?_
 have x:=x.tr y
 have hn6:=y.le
 have g0:=y.get g0 (by omega) hb
 have g1:=y.get g1 (by omega) (by omega)
 have g4:=y.get g4 (by omega) (by omega)
 have hx:Fa G H6 (Al (n+1) n6 n2) c e1:=hx.mono (λid h=>⟨h.1,by have:=h.2.1;omega,h.2.2⟩) λid h=>y.f.same id h.2.1 (by have:=h.1;omega)
 cases hi:WZ [pz,ADK,dh,ADM] t with
 |false=>
  rw[hi]at hm
  cases hm
  rw[Ak]
  delta FC
  exact zD x g1 rfl g4 (by omega) hx (λid h=>⟨by have:=h.1;omega,h.2.1,by have:=h.1;omega⟩) hk
 |true=>
  rw[hi,cond_true,Option.bind_eq_some_iff]at hm
  obtain⟨t1,h1,hm⟩:=hm
  rw[Option.bind_eq_some_iff]at hm
  obtain⟨⟨e2,t2⟩,h2,hm⟩:=hm
  cases hm
  have q:Aa (.ptr n 0) G H6=some (.ptr pb 0):=AX g0 rfl
  rw[A8,q,AU]
  refine dn x.p x.lt h1 λH7 n7 line col _ _ y=>?_
  have x:=x.tr y
  have hn7:=y.le
  have g0:=y.get g0 (by omega) hb
  have g1:=y.get g1 (by omega) (by omega)
  have g4:=y.get g4 (by omega) (by omega)
  have hx:Fa G H7 (Al (n+1) n7 n2) c e1:=hx.mono (λid h=>⟨h.1,by have:=h.2.1;omega,h.2.2⟩) λid h=>y.f.same id h.2.1 (by have:=h.1;omega)
  refine Ar rfl λH8 f8 g8=>?_
  have x:=x.al f8
  refine Bf g8 rfl (L:=UK t.t line col) rfl (by omega) λH9 g9 s9=>?_
  have x:=x.st (by omega) s9
  have g0:=(s9 n (by omega)).trans (f8.get g0 (by omega))
  have g1:=(s9 (n+1) (by omega)).trans (f8.get g1 (by omega))
  have g4:=(s9 n2 (by omega)).trans (f8.get g4 (by omega))
  have hx:Fa G H9 (Al (n+1) n7 n2) c e1:=hx.mono (λid h=>h) λid h=>(s9 id (by have:=h.2.1;omega)).trans (f8.same id h.2.1)
  rw[AY,AU,AY]
  simp only[Nat.zero_add]
  rw[QK (m:=2) (o:=3) g9 (by omega) (by show 3+2<=5;omega),AU,AU,AX (off:=1) g9 (v:=sB t.t.text) rfl,AU,Aw (m:=11) g4 (by omega) hx.len,AU]
  refine AWV (b:=n) hf _ H9 (n7+1) _ _ _ x.p x.lt (λj hj=>by simp at hj;subst hj;exact⟨hb,by omega,g0⟩) h2 λH10 n10 c2 y hx2=>?_
  have x:=x.tr y
  have hn10:=y.le
  have g1:=y.get g1 (by omega) (by omega)
  have g4:=y.get g4 (by omega) (by omega)
  have g9:=y.get g9 (by omega) (by omega)
  rw[QK (m:=2) (o:=3) g9 (by omega) (by show 3+2<=5;omega),AU,AX (off:=1) g9 (v:=sB t.t.text) rfl,AU,Aw (m:=11) g4 (by omega) hx.len]
  refine CX (Jf ..) (CX (ARZ _) (CX hx.vs ?_))
  refine Ld (G:=G) (vs:=[.agg c,.agg c2]) rfl (by omega) (λv hv=>by simp at hv;rcases hv with rfl|rfl;exact⟨rfl,hx.len⟩;exact⟨rfl,hx2.len⟩) λH11 f11 _ hel=>?_
  have x:=x.al f11
  have g1:=f11.get g1 (by omega)
  have g4:=f11.get g4 (by omega)
  refine(show ∀{P:V->Prop},P _->AP (BN exZ [(0,1,.c (.int .i64 (.ofNat 16) 0)),(1,2,.c (.agg [.int .i64 (.ofNat line) 0,.int .i64 (.ofNat col) 0])),(4,1,.c (sB t.t.text)),(7,1,.c (.sl n10 0 2 2 11))]) P from λh=>by rw[AJO];exact h) ?_
  refine Bf g4 hx.len rfl (by omega) λH12 g12 s12=>?_
  have x:=x.st (by omega) s12
  delta FC
  refine zD (A:=Al (n+1) (n10+1) n2) (e:=.mk 16 0 t.t.text [] false [e1,e2]) x ((s12 (n+1) (by omega)).trans g1) rfl g12 (by omega) ?_ (λid h=>⟨by have:=h.1;omega,h.2.1,by have:=h.1;omega⟩) hk
  refine .mk 16 0 t.t.text [] false line col (hel.same λid hid=>s12 id (by cases JM hid;omega)) (aT (by omega)) (λid hid=>⟨by cases JM hid;omega,by cases JM hid;omega,by cases JM hid;omega⟩) ?_
  refine .cons (hx.mono (λid h=>⟨h.1,by have:=h.2.1;omega,h.2.2⟩) λid h=>?_) (.cons (hx2.mono (λid h=>⟨by have:=h.1;omega,by have:=h.2;omega,by have:=h.1;omega⟩) λid h=>?_) .nil)
  ·have h1:=h.1;have h2:=h.2.1
   exact(s12 id h.2.2).trans ((f11.same id (by omega)).trans (y.f.same id (by omega) (by omega)))
  ·have h1:=h.1;have h2:=h.2
   exact(s12 id (by omega)).trans (f11.same id h2)
theorem AUl{un:PM Ex}{f b:Nat}(hf:FnC G pb [] un (.fn Ci [.ptr pb 0] [])):FnC G pb [b] (either 17 AAy (compared un f) f) (.fn Pz [] [.ptr b 0]):=by
 intro s H n s' e k h hb hbs hm hk
 rw[vw]
 show Runs F G Pz [.ptr b 0] H n k
 refine go1 (jy Aq G) ?_
 delta WL
 obtain⟨b1,b2,b3⟩:=one1 hbs
 have x:=Fr.refl h hb
 refine Ar rfl λH1 f1 g1=>?_
 have x:=x.al f1
 have b3:=f1.get b3 b2
 have q:Aa (.ptr b 0) G H1=some (.ptr pb 0):=AX b3 rfl
 rw[q,AU,AU,AZ7]
 refine ALS (AMv hf) Bxs.nil x.p x.lt hm λH3 n3 c y hx=>?_
 have hn:=y.le
 exact ANu (x.tr y) (y.get g1 (by omega) hb) rfl (Nat.le_refl _) hx (λid h=>⟨by have:=h.1;omega,h.2,by have:=h.1;omega⟩) hk
theorem AUp{rec:PM Ex}{f:Nat}{s s':S}{H:Heap}{n:Nat}{e:Ex}{k:KV}(hf:FnC G pb [] (unary rec f) (.fn Ci [.ptr pb 0] []))(h:ZR G H pb s)(hb:pb<n)(hm:ALf rec f s=some (e,s'))(hk:ExK G pb H n s' e k):
 Runs F G CO [.ptr pb 0] H n k:=by
 refine go1 (ru Aq G) ?_
 delta Yi
 unfold ALf at hm
 rw[Option.bind_eq_some_iff]at hm
 obtain⟨s1,h1,hm⟩:=hm
 rw[Option.bind_eq_some_iff]at hm
 obtain⟨⟨e1,s2⟩,h2,hm⟩:=hm
 rw[Option.bind_eq_some_iff]at hm
 obtain⟨s3,h3,hm⟩:=hm
 cases hm
 have x:=Fr.refl h hb
 refine APU rfl λH0 f0 g0=>?_
 have x:=x.al f0
 have g0:T.get H0 n=some (one [.ptr pb 0]):=g0
 refine Ar rfl λH1 f1 g1=>?_
 have x:=x.al f1
 have g0:=f1.get g0 (by omega)
 have q:Aa (.ptr n 0) G H1=some (.ptr pb 0):=AX g0 rfl
 rw[q,AU]
 refine AID x.p x.lt h1 λH2 n2 q y hq1 hq2 hq3=>?_
 have x:=x.tr y
 have g0:=y.get g0 (by omega) hb
 have g1:=y.get g1 (by omega) (by omega)
 rw[AEU]
 have q':Aa (.ptr n 0) G H2=some (.ptr pb 0):=AX g0 rfl
 rw[q',AU,AcU]
 refine ALS (AUl (b:=n) hf) (λj hj=>by simp at hj;subst hj;exact⟨hb,by omega,g0⟩) x.p x.lt h2 λH3 n3 c y hx=>?_
 have x:=x.tr y
 have g1:=y.get g1 (by omega) (by omega)
 have hq3:=y.get hq3 hq2 (by omega)
 have hn3:=y.le
 refine Bf g1 rfl hx.len (by omega) λH4 g4 s4=>?_
 have x:=x.st (by omega) s4
 have hx:Fa G H4 (Rg n2 n3) c e1:=hx.mono (λid h=>h) λid h=>s4 id (by have:=h.1;omega)
 refine AUN x.p x.lt ((s4 q (by omega)).trans hq3) h3 λH5 n5 y=>?_
 have x:=x.tr y
 have g4:=y.get g4 (by omega) (by omega)
 have hn5:=y.le
 rw[BU (m:=11) g4 (by omega) hx.len]
 simp only[go_sem]
 exact hk _ _ _ x (hx.mono (λid h=>⟨by have:=h.1;omega,by have:=h.2;omega⟩) λid h=>y.f.same id h.2 (by have:=h.1;omega))
end
open Go.Bj
set_option maxRecDepth 100000
theorem AFG{G:AV}{H:Heap}{n id m z bs:Nat}{t:T LV}{w:V}{LS NS:CJ}{k:KV}(hz:0<z)(hb:T.get H id=some (.arr z m t))(hid:id<n)(h:elems (.sl id 0 m m z) G H z=some LS)
 (hw:elems w G H z=some NS) (hr:(m+NS.length)*bs<=140737488355328)
 (hk:∀v' H' n',El G H' v' z (LS++NS)->(∀j,j<n->T.get H' j=T.get H j)->n<=n'->((∃l,v'=.sl id 0 l m z/\l<=m)∨∃l,v'=.G6 n 0 l z/\n<n')->k v' H' n'):Oq z bs (.sl id 0 m m z) w G H n k:=by
 unfold Oq
 rw[hw,Qe]
 have h2:(Bool.rec (motive:=λ_=>Option CJ) none (BZ H id z m 0) (Nat.beq z z):Option CJ)=some LS:=h
 rw[CQ]at h2
 have h2:BZ H id z m 0=some LS:=h2
 obtain⟨hl,hat⟩:=Kr _ _ h2
 have e0:AGA (.sl id 0 m m z) G z bs NS H n k=Bool.rec (motive:=λ_=>Prop) (EN (BZ H id z m 0) λOS=>Gv z bs OS NS H n k) (EN (T.get H id) λb=>YS id 0 m m z (m+NS.length) NS H n k b) (Nat.ble (m+NS.length) m):=by
  show EJ (Nat.beq z z) (DU (Nat.add m (len NS)) λneed=>Bool.rec (motive:=λ_=>Prop) (EN (BZ H id z m 0) λOS=>Gv z bs OS NS H n k) (EN (T.get H id) λb=>YS id 0 m m z need NS H n k b) (Nat.ble need m))=_
  rw[CQ,UF,BL,len_eq];rfl
 rw[e0]
 by_cases hN:NS.length=0
 ·have:NS=[]:=List.length_eq_zero_iff.1 hN
  subst this
  rw[show Nat.ble (m+([]:CJ).length) m=true by rw[Nat.ble_eq];exact Nat.le_refl _]
  show EN (T.get H id) (λb=>YS id 0 m m z (m+0) [] H n k b)
  rw[hb,Qe]
  show EJ (band (Nat.beq z z) (Nat.ble (Nat.add 0 (m+0)) m)) (k (.sl id 0 (m+0) m z) (T.set H id (.arr z m t)) n)
  rw[CQ,show Nat.ble (Nat.add 0 (m+0)) m=true by rw[Nat.ble_eq];show 0+m<=m;omega]
  have hs:∀j,T.get (T.set H id (.arr z m t)) j=T.get H j:=λj=>by
   rw[T.KT];split
   ·rename_i e;subst e;exact hb.symm
   ·rfl
  rw[List.append_nil]at hk
  exact hk _ _ _ ((show El G H (.sl id 0 m m z) z LS from⟨rfl,h⟩).same λj _=>hs j) (λj _=>hs j) (Nat.le_refl _) (.inl ⟨_,rfl,Nat.le_refl _⟩)
 ·rw[show Nat.ble (m+NS.length) m=false by rw[Bool.eq_false_iff];intro hc;rw[Nat.ble_eq]at hc;omega]
  show EN (BZ H id z m 0) (λOS=>Gv z bs OS NS H n k)
  rw[h2,Qe]
  show DU (Nat.add (len LS) (len NS)) (λneed=>EJ (Lm need bs) (DU n λn=>k (.G6 n 0 need z) (T.set H n (.arr z need (Ew NS (len LS) (Ew LS 0 .e)))) (Nat.succ n)))
  rw[BL,BL,len_eq,len_eq,show Lm (Nat.add LS.length NS.length) bs=true from Pj (by rw[hl];exact hr),UF]
  have e:Nat.add LS.length NS.length=(LS++NS).length:=by rw[List.length_append];rfl
  rw[e]
  refine hk _ _ _ (Gr.el (m:=n) (.G6 (LS:=LS++NS) (T.Au ..) (Nat.le_refl _) (λi L hi=>?_) (Nat.le_refl _)) hz) (λj hj=>T.Ad _ _ (by omega)) (by omega) (.inr ⟨_,rfl,by omega⟩)
  rw[D9,D9]
  by_cases hlt:i<LS.length
  ·rw[if_neg (by omega),if_pos ⟨Nat.zero_le _,by omega⟩]
   rw[List.getElem?_append_left hlt]at hi
   exact hi
  ·rw[List.getElem?_append_right (by omega)]at hi
   have hlt2:=(List.getElem?_eq_some_iff.1 hi).1
   rw[if_pos ⟨by omega,by omega⟩];exact hi
theorem aP{G:AV}{H:Heap}{m n z bs:Nat}{v w:V}{LS NS:CJ}{k:KV}(h:Gr G H m z v LS)(hm:m<=n)(hn:∀id,v.Dl=some id->id<n)(hw:elems w G H z=some NS)
 (hb:(LS.length+NS.length)*bs<=140737488355328)
 (hk:∀v' H',Gr G H' m z v' (LS++NS)->(∀id,id<n->v.Dl≠some id->T.get H' id=T.get H id)->(∀id,v'.Dl=some id->id=n)->k v' H' (n+1))
 (hk0:NS=[]->k v H n):Oq z bs v w G H n k:=by
 unfold Oq
 rw[hw,Qe]
 cases h with
 |nil=>
  cases NS with
  |nil=>exact hk0 rfl
  |cons a NS=>
   show Gv z bs [] (a::NS) H n k
   unfold Gv
   rw[BL,BL,len_eq,len_eq,show Lm (Nat.add ([]:CJ).length (a::NS).length) bs=true from Pj hb,UF]
   have e:Nat.add ([]:CJ).length (a::NS).length=(a::NS).length:=Nat.zero_add _
   rw[e]
   refine hk _ _ ?_ (λid hid _=>T.Ad _ _ (by omega)) (λid hid=>by cases hid;rfl)
   refine .G6 (LS:=a::NS) (T.Au ..) (Nat.le_refl _) (λi L hi=>?_) hm
   show T.get (Ew (a::NS) 0 .e) i=some L
   have hlt:=(List.getElem?_eq_some_iff.1 hi).1
   rw[D9,if_pos ⟨Nat.zero_le _,by omega⟩];exact hi
 |G6 hg hc ht hid=>
  rename_i id c t
  show EJ (Nat.beq z z) _
  rw[CQ,UF]
  cases NS with
  |nil=>exact hk0 rfl
  |cons a NS=>
   show EN (T.get H id) (λb=>Yx id 0 LS.length z bs (a::NS) H n k b)
   rw[hg,Qe]
   rw[AEo (Pj hb) hc,show LS.length+(a::NS).length=(LS++a::NS).length by rw[List.length_append]]
   refine hk _ _ ?_ (λj hj hne=>?_) (λj hj=>by cases hj;rfl)
   ·refine .G6 (LS:=LS++a::NS) (T.Au ..) (Nat.le_refl _) (λi L hi=>?_) hm
    rw[D9]
    by_cases hlt:i<LS.length
    ·rw[if_neg (by omega)]
     rw[List.getElem?_append_left hlt]at hi
     exact ht i L hi
    ·rw[List.getElem?_append_right (by omega)]at hi
     have hlt2:=(List.getElem?_eq_some_iff.1 hi).1
     rw[if_pos ⟨by omega,by omega⟩];exact hi
   ·rw[T.Ad _ _ (by omega),T.Ad _ _ (by intro e;subst e;exact hne rfl)]
def Ob(G:AV)(H:Heap)(A:Nat->Prop)(v:V)(es:List Ex):Prop:=∃cs,El G H v 11 cs/\KS v/\Wi v=true/\BA v=[v]/\(∀id,v.Dl=some id->A id)/\Zg G H A cs es
def EsK(G:AV)(pb:Nat)(H:Heap)(n:Nat)(s':S)(es:List Ex)(k:KV):Prop:=∀H' n' v,Fr G pb H n H' n' s'->Ob G H' (Rg n n') v es->es.length<=201->k v H' n'
def AMe(G:AV)(pb:Nat)(rec:PM Ex):Prop:=∀(s:S) (H:Heap) (n:Nat) (s':S) (e:Ex) (k:KV),ZR G H pb s->pb<n->rec s=some (e,s')->ExK G pb H n s' e k->Runs F G CO [.ptr pb 0] H n k
theorem Ph{G:AV}{H:Heap}{m z:Nat}{v:V}{LS:CJ}(h:Gr G H m z v LS):KS v/\Wi v=true/\BA v=[v]:=by
 cases h with
 |nil=>exact⟨vK,rfl,rfl⟩
 |G6=>exact⟨AFX ..,rfl,rfl⟩
section
variable{G:AV}{pb:Nat}{H:Heap}{n:Nat}{s s':S}
theorem ABt{w:Bs}{B E:Heap->Nat->Prop}(h:ZR G H pb s)(hb:pb<n)(h0:s.ok=false->E H n)
 (h1:s.ok=true->∃b s',Dk w s=some (b,s')/\∀H' n',Fr G pb H n H' n' s'->bif b then E H' n' else B H' n'):
 Runs F G D6 [.ptr pb 0] H n λv5 H n=>BX v5 true (some (.ptr pb 0)) λv6=>Le v5 true (Runs F G Am [v6,sB w] H n) H n λv7 H n=>BX v5 true (KP v7) λv8=>AP (Cj v5 v8 (.bool false)) λv9=>Ac v9 true (B H n) (E H n):=by
 refine AP2 h ?_
 cases ho:s.ok with
 |false=>simp only[go_sem];exact h0 ho
 |true=>
  obtain⟨b,s',h2,h3⟩:=h1 ho
  simp only[go_sem]
  refine OI h hb h2 λH' n' y=>?_
  have:=h3 H' n' y
  cases b<;>simp only[go_sem,Du,Bool.not_true,Bool.not_false]<;>exact this
theorem Fa.ok{A:Nat->Prop}{c:LV}{e:Ex}(h:Fa G H A c e):Wi (.agg c)=true/\(BA (.agg c)).length=11:=⟨rfl,h.len⟩
theorem ATJ{rec:PM Ex}{f:Nat}{es:List Ex}{k:KV}(hr:AMe G pb rec)(h:ZR G H pb s)(hb:pb<n)(hm:AHG rec f s=some (es,s'))(hk:EsK G pb H n s' es k):Runs F G Rx [.ptr pb 0] H n k:=by
 refine go1 (rP Aq G) ?_
 delta YW
 unfold AHG at hm
 rw[Option.bind_eq_some_iff]at hm
 obtain⟨s1,h1,hm⟩:=hm
 refine LW (ws:=[VZ]) h hb rfl (by show 1<=1000;omega) h1 λH1 n1 x=>?_
 refine FB (J:=λg q=>∃H' n' t v cs out,q=(.ptr pb 0,v,H',n')/\Fr G pb H n H' n' t/\Own G H' n n' 11 v cs/\Zg G H' (λid=>n<=id/\id<n'/\v.Dl≠some id) cs out/\(t.ok=true->out.length<=200)/\out.length<=201/\AKx rec g out t=some (es,s')) ?_ (m:=f)
  ⟨H1,n1,s1,.Af,[],[],rfl,x,vN,.nil,λ_=>Nat.zero_le _,Nat.zero_le _,hm⟩
 rintro I g q ⟨H2,n2,t,v,cs,out,rfl,x,ho,hc,hle,hle2,hm⟩ ih
 show Ox lfp G (Runs F G) k I (.ptr pb 0) v H2 n2
 delta Ox
 cases g with
 |zero=>cases hm
 |succ g=>
  have hm:(bif t.ok then(Dk Ov t).bind λp=>bif p.1 then some (out,p.2)else
   (bif decide (0<out.length)then D7 [LX] p.2 else some p.2).bind λs1=>(rec s1).bind λq=>AKx rec g (out++[q.1]) (Ls (out.length+1) q.2)
   else some (out,t))=some (es,s'):=hm
  have hn2:=x.le
  have fin:∀{H3:Heap} {n3:Nat} {t3:S},Fr G pb H2 n2 H3 n3 t3->some (out,t3)=some (es,s')->KC lfp G (Runs F G) k v H3 n3:=by
   intro H3 n3 t3 y he
   cases he
   delta KC
   have ho3:=ho.kx y.f x.b
   refine hk _ _ _ (x.tr y) ⟨cs,ho3.el (by omega),(Ph ho3.gr).1,(Ph ho3.gr).2.1,(Ph ho3.gr).2.2,λid hid=>⟨ho3.ge hid,ho3.lo id hid⟩,?_⟩ hle2
   exact hc.mono (λid h=>⟨h.1,by have:=h.2.1;have:=y.le;omega⟩) λid h=>y.f.same id h.2.1 (by have:=h.1;have:=x.b;omega)
  rw[Aa9]
  refine ABt x.p x.lt (λhf=>fin (Fr.refl x.p x.lt) (by rw[hf]at hm;exact hm)) λht=>?_
  rw[ht,cond_true,Option.bind_eq_some_iff]at hm
  obtain⟨⟨b,t2⟩,h2,hm⟩:=hm
  refine⟨b,t2,h2,λH3 n3 y=>?_⟩
  cases b with
  |true=>exact fin y hm
  |false=>
   show AP (lenV v) _
   have hm:((bif decide (0<out.length)then D7 [LX] t2 else some t2).bind λs1=>(rec s1).bind λq=>AKx rec g (out++[q.1]) (Ls (out.length+1) q.2))=some (es,s'):=hm
   rw[Option.bind_eq_some_iff]at hm
   obtain⟨t3,h3,hm⟩:=hm
   rw[Option.bind_eq_some_iff]at hm
   obtain⟨⟨e,t4⟩,h4,hm⟩:=hm
   have hlen:=hle ht
   have body:∀{H4:Heap} {n4:Nat},Fr G pb H2 n2 H4 n4 t3->Gj lfp G (Runs F G) k I (.ptr pb 0) v H4 n4:=by
    intro H4 n4 y
    delta Gj
    have ho4:=ho.kx y.f x.b
    have hc4:Zg G H4 (λid=>n<=id/\id<n4/\v.Dl≠some id) cs out:=hc.mono (λid h=>⟨h.1,by have:=h.2.1;have:=y.le;omega,h.2.2⟩) λid h=>y.f.same id h.2.1 (by have:=h.1;have:=x.b;omega)
    have x:=x.tr y
    refine hr _ _ _ _ _ _ x.p x.lt h4 λH5 n5 c y hx=>?_
    have hn4:=x.le
    have hpb:=x.b
    have x:=x.tr y
    have ho5:=ho4.kx y.f hpb
    have hc5:Zg G H5 (λid=>n<=id/\id<n4/\v.Dl≠some id) cs out:=hc4.mono (λid h=>h) λid h=>y.f.same id h.2.1 (by have:=h.1;omega)
    have hn5:=y.le
    refine Ld (G:=G) (vs:=[.agg c]) rfl (by omega) (λv hv=>by simp at hv;subst hv;exact hx.ok) λH6 f6 _ hel=>?_
    have x:=x.al f6
    have ho6:=ho5.kp f6
    refine aP ho6.gr (by omega) ho6.lo hel.2 (by have:=hc.len;show(cs.length+1)*136<=_;omega) ?_ (λh=>by cases h)
    intro v' H7 hgr hsame hlo
    have hgr:Gr G H7 n 11 v' (cs++[c]):=hgr
    have f7:Fr G pb H n H7 (n5+1+1) t4:=⟨⟨by omega,λid hid hp=>(hsame id (by omega) (λh=>by have:=ho6.ge h;omega)).trans (x.f.same id hid hp)⟩,x.p.same λid hid=>hsame id (by omega) (λh=>by have:=ho6.ge h;omega),hpb⟩
    have hv4:∀id,v.Dl=some id->id<n4:=ho4.lo
    rw[(hgr.el (by omega)).len,AU,List.length_append,show cs.length+[c].length=out.length+1 by rw[hc.len];rfl]
    refine AIk f7.p f7.lt λH8 n8 y8=>?_
    have hn8:=y8.le
    refine ih g (_,_,H8,n8) (by omega) ⟨H8,n8,_,v',cs++[c],out++[e],rfl,f7.tr y8,?_,?_,?_,by rw[List.length_append];show out.length+1<=201;omega,hm⟩
    ·exact(show Own G H7 n (n5+1+1) 11 v' (cs++[c])from⟨hgr,λid hid=>by have:=hlo id hid;omega⟩).kx y8.f hpb
    ·refine(hc5.mono (λid h=>⟨h.1,by have:=h.2.1;omega,λhv=>by have:=hlo id hv;have:=h.2.1;omega⟩) λid h=>?_).app (.cons (hx.mono (λid h=>⟨by have:=h.1;omega,by have:=h.2;omega,λhv=>by have:=hlo id hv;have:=h.2;omega⟩) λid h=>?_) .nil)
     ·have h1:=h.1;have h2:=h.2.1
      exact(y8.f.same id (by omega) (by omega)).trans ((hsame id (by omega) h.2.2).trans (f6.same id (by omega)))
     ·have h1:=h.1;have h2:=h.2
      exact(y8.f.same id (by omega) (by omega)).trans ((hsame id (by omega) (λhv=>by have:=hv4 id hv;omega)).trans (f6.same id (by omega)))
    ·intro hok
     rw[List.length_append]
     unfold Ls at hok
     cases hd:decide (200<out.length+1)with
     |false=>have:=of_decide_eq_false hd;show out.length+1<=200;omega
     |true=>
      rw[hd]at hok
      exfalso
      unfold Jt at hok
      cases ho:t4.ok with
      |false=>rw[ho]at hok;simp[ho]at hok
      |true=>rw[ho]at hok;cases hok
   have hv3:=(ho.kx y.f x.b).el (by omega)
   rw[hv3.len,AU,hc.len,AAs,AU]
   cases hd:decide (0<out.length)with
   |false=>
    rw[hd]at h3
    cases h3
    rw[Ak]
    exact body y
   |true=>
    rw[hd]at h3
    have h3:D7 [LX] t2=some t3:=h3
    rw[A8]
    exact LW (ws:=[LX]) y.p (by have:=y.le;have:=x.lt;omega) rfl (by show 1<=1000;omega) h3 λH4 n4 y4=>body (y.tr y4)
end
open Go.Bj
set_option maxRecDepth 100000
theorem AZU{kd:Nat}{x y:V}{nm:Bs}{id o l:Nat}:BN exZ [(0,1,.c (.int .i64 (.ofNat kd) 0)),(1,2,.c (.agg [x,y])),(4,1,.c (sB nm)),(7,1,.c (.G6 id o l 11))]=
 some (.agg [.int .i64 (.ofNat kd) 0,x,y,.int .i64 (.ofNat 0) 0,sB nm,.str 0 0,.bool false,.G6 id o l 11,.str 0 0,.bool false,.str 0 0]):=rfl
theorem AX2{x y:V}:BN exZ [(1,2,.c (.agg [x,y]))]=
 some (.agg [.int .i64 (.ofNat 0) 0,x,y,.int .i64 (.ofNat 0) 0,.str 0 0,.str 0 0,.bool false,.Af,.str 0 0,.bool false,.str 0 0]):=rfl
theorem AB{e:Option V}{v:V}{P:V->Prop}(h:e=some v)(hp:P v):AP e P:=by rw[h];exact hp
section
variable{G:AV}{pb:Nat}{H:Heap}{n:Nat}{s s':S}{k:KV}
theorem AV5{t:Ty}(hk:∀H',Kp H n H' (n+1)->k (.bool (AE1 t)) H' (n+1)):Runs F G EF [.agg (tyC t)] H n k:=by
 refine go1 (aK Aq G) ?_
 delta WX
 refine Ei λH1 f1 g1=>?_
 have q0:Aa (.ptr n 0) G H1=some (sB t.nm):=AX g1 rfl
 have q1:Aa (.ptr n 1) G H1=some (.bool t.arr):=AX g1 rfl
 have ne0:∀l:Bs,Dw (.one .str) true (sB l) (.str 0 0)=some (.bool (!decide (l=[]))):=λl=>Acu l []
 have hk:=hk _ f1
 unfold AE1 at hk
 simp only[go_sem,Nat.reduceAdd,q1,Du]
 cases ha:t.arr with
 |true=>
  rw[ha]at hk
  simp only[Bool.not_true]
  repeat (first|with_reducible refine AJQ ?_|with_reducible refine AKM ?_|with_reducible refine xP ?_)
  exact hk
 |false=>
  rw[ha]at hk
  simp only[Bool.not_false,go_sem,Nat.reduceAdd,q0,ne0]
  cases hn:t.nm with
  |nil=>
   rw[hn]at hk
   simp only[decide_true,Bool.not_true]
   repeat (first|with_reducible refine AJQ ?_|with_reducible refine AKM ?_|with_reducible refine xP ?_)
   exact hk
  |cons c l=>
   rw[hn]at hk q0
   have hk:k (.bool (great c)) H1 (n+1):=hk
   unfold great at hk
   have ix:ABb (sB (c::l)) (.int .i64 (.ofNat 0) 0)=some (.int .u8 (.ofNat c.toNat) 0):=AKL (l:=c::l) (i:=0) (by simp)
   simp only[show decide (c::l=[])=false from rfl,Bool.not_false,go_sem,Nat.reduceAdd,q0,ix,AFm]
   cases h1:decide (65<=c.toNat)with
   |false=>rw[h1]at hk;simp only[go_sem];exact hk
   |true=>rw[h1]at hk;simp only[go_sem,Nat.reduceAdd,q0,ix,qN];exact hk
def AZu(G:AV)(pb:Nat)(H:Heap)(n:Nat)(A:Nat->Prop)(s':S)(e:Ex)(k:KV):Prop:=∀H' n' c,Fr G pb H n H' n' s'->Fa G H' (λid=>A id∨Rg n n' id) c e->k (.agg c) H' n'
theorem AEY{H0 H:Heap}{n0 n r:Nat}{c L0:LV}{e:Ex}{A:Nat->Prop}(x:Fr G pb H0 n0 H n s')(gr:T.get H r=some (one L0))(hl:L0.length=11)(hr:n0<=r)(he:Fa G H (λid=>A id∨(Rg n0 n id/\id≠r)) c e)(hA:∀id,A id->id<n0)
 (hk:AZu G pb H0 n0 A s' e k):Bd 11 (.ptr r 0) (.agg c) H n λ_ H n=>EN (CP [.cn (.ptr r 0) 11] G H) λl=>k (EG l) H n:=by
 refine Bf gr hl he.len (by omega) λH1 g1 s1=>?_
 rw[BU (m:=11) g1 (by omega) he.len]
 simp only[go_sem]
 exact hk _ _ _ (x.st hr s1) (he.mono (λid h=>h.imp (λh=>h) λh=>h.1) λid h=>s1 id (by rcases h with h|h;have:=hA id h;omega;exact h.2))
theorem AR1{rec:PM Ex}{f:Nat}{e e':Ex}{c:LV}{A:Nat->Prop}{line col:Nat}(hr:AMe G pb rec)(hA:∀id,A id->pb<id/\id<n)(hx:Fa G H A c e)(h:ZR G H pb s)(hb:pb<n)(hm:ABe rec f e s=some (e',s'))(hk:AZu G pb H n A s' e' k):
 Runs F G V8 [.ptr pb 0,.agg c,.agg [.int .i64 (.ofNat line) 0,.int .i64 (.ofNat col) 0]] H n k:=by
 refine go3 (jY Aq G) ?_
 delta WI
 unfold ABe at hm
 rw[Option.bind_eq_some_iff]at hm
 obtain⟨⟨b,t⟩,h1,hm⟩:=hm
 have hm:(bif b then some ((.mk 13 0 [] [] false [e]:Ex),t)else(Jh 3 t).bind λq=>bif WZ [VZ] q.2 then(AHG rec f q.2).bind λa=>some (.mk 8 0 q.1 [] false (e::a.1),a.2)else some (.mk 7 0 q.1 [] false [e],q.2))=some (e',s'):=hm
 have x:=Fr.refl h hb
 refine Ei λH1 f1 g1=>?_
 have x:=x.al f1
 refine Ei λH2 f2 g2=>?_
 have x:=x.al f2
 have g1:=f2.get g1 (by omega)
 refine Ar rfl λH3 f3 g3=>?_
 have x:=x.al f3
 have g1:=f3.get g1 (by omega)
 have g2:=f3.get g2 (by omega)
 have hx:Fa G H3 A c e:=hx.mono (λid h=>h) λid h=>x.f.same id (hA id h).2 (by have:=(hA id h).1;omega)
 rw[show V.str 6 114849160783212=sB AAk from rfl]
 refine OI x.p x.lt h1 λH4 n4 y=>?_
 have x:=x.tr y
 have hn4:=y.le
 have g1:=y.get g1 (by omega) hb
 have g2:=y.get g2 (by omega) (by omega)
 have g3:=y.get g3 (by omega) (by omega)
 have hx:Fa G H4 A c e:=hx.mono (λid h=>h) λid h=>y.f.same id (by have:=(hA id h).2;omega) (by have:=(hA id h).1;omega)
 have mkOne:∀{H6:Heap} {m:Nat} {kd:Nat} {nm:Bs},Fa G H6 A c e->n<=m->m≠n+1+1->El G H6 (.sl m 0 1 1 11) 11 [c]->Fa G H6 (λid=>A id∨(Rg n (m+1) id/\id≠n+1+1)) (exC kd 0 nm [] false line col (.sl m 0 1 1 11)) (.mk kd 0 nm [] false [e]):=by
  intro H6 m kd nm hx h1 h2 hel
  exact .mk kd 0 nm [] false line col hel (aT (by omega)) (λid hid=>.inr (by cases JM hid;exact⟨⟨h1,by omega⟩,h2⟩)) (.cons (hx.mono (λid h=>.inl h) λid h=>rfl) .nil)
 cases b with
 |true=>
  cases hm
  rw[A8,Aw (m:=2) g2 (by omega) rfl,AU,Aw (m:=11) g1 (by omega) hx.len,AU]
  refine Ld (G:=G) (vs:=[.agg c]) rfl (by omega) (λv hv=>by simp at hv;subst hv;exact hx.ok) λH6 f6 _ hel=>?_
  have x:=x.al f6
  have hx:Fa G H6 A c e:=hx.mono (λid h=>h) λid h=>f6.same id (by have:=(hA id h).2;omega)
  refine AB ANm ?_
  exact AEY x (f6.get g3 (by omega)) rfl (by omega) (mkOne (kd:=13) (nm:=[]) hx (by omega) (by omega) hel) (λid h=>(hA id h).2) hk
 |false=>
  rw[cond_false,Option.bind_eq_some_iff]at hm
  obtain⟨⟨nm,t2⟩,h2,hm⟩:=hm
  have hm:(bif WZ [VZ] t2 then(AHG rec f t2).bind λa=>some ((.mk 8 0 nm [] false (e::a.1):Ex),a.2)else some (.mk 7 0 nm [] false [e],t2))=some (e',s'):=hm
  rw[Ak]
  refine dJ x.p x.lt h2 λH5 n5 y=>?_
  have x:=x.tr y
  have hn5:=y.le
  have g1:=y.get g1 (by omega) hb
  have g2:=y.get g2 (by omega) (by omega)
  have g3:=y.get g3 (by omega) (by omega)
  have hx:Fa G H5 A c e:=hx.mono (λid h=>h) λid h=>y.f.same id (by have:=(hA id h).2;omega) (by have:=(hA id h).1;omega)
  refine yO (ws:=[VZ]) x.p x.lt rfl (by show 1<=1000;omega) λH6 n6 y=>?_
  have x:=x.tr y
  have hn6:=y.le
  have g1:=y.get g1 (by omega) hb
  have g2:=y.get g2 (by omega) (by omega)
  have g3:=y.get g3 (by omega) (by omega)
  have hx:Fa G H6 A c e:=hx.mono (λid h=>h) λid h=>y.f.same id (by have:=(hA id h).2;omega) (by have:=(hA id h).1;omega)
  rw[Du,AU]
  cases hi:WZ [VZ] t2 with
  |false=>
   rw[hi]at hm
   cases hm
   rw[Bool.not_false,A8,Aw (m:=2) g2 (by omega) rfl,AU,Aw (m:=11) g1 (by omega) hx.len,AU]
   refine Ld (G:=G) (vs:=[.agg c]) rfl (by omega) (λv hv=>by simp at hv;subst hv;exact hx.ok) λH7 f7 _ hel=>?_
   have x:=x.al f7
   have hx:Fa G H7 A c e:=hx.mono (λid h=>h) λid h=>f7.same id (by have:=(hA id h).2;omega)
   refine AB AJO ?_
   exact AEY x (f7.get g3 (by omega)) rfl (by omega) (mkOne (kd:=7) (nm:=nm) hx (by omega) (by omega) hel) (λid h=>(hA id h).2) hk
  |true=>
   rw[hi,cond_true,Option.bind_eq_some_iff]at hm
   obtain⟨⟨es,t3⟩,h3,hm⟩:=hm
   cases hm
   rw[Bool.not_true,Ak,Aw (m:=2) g2 (by omega) rfl,AU,Aw (m:=11) g1 (by omega) hx.len,AU]
   refine Ld (G:=G) (vs:=[.agg c]) rfl (by omega) (λv hv=>by simp at hv;subst hv;exact hx.ok) λH7 f7 hb7 hel=>?_
   have x:=x.al f7
   have hx:Fa G H7 A c e:=hx.mono (λid h=>h) λid h=>f7.same id (by have:=(hA id h).2;omega)
   have g1:=f7.get g1 (by omega)
   have g2:=f7.get g2 (by omega)
   have g3:=f7.get g3 (by omega)
   refine ATJ hr x.p x.lt h3 λH8 n8 v y hes hle=>?_
   have x:=x.tr y
   have hn8:=y.le
   have g1:=y.get g1 (by omega) hb
   have g2:=y.get g2 (by omega) (by omega)
   have g3:=y.get g3 (by omega) (by omega)
   have hx:Fa G H8 A c e:=hx.mono (λid h=>h) λid h=>y.f.same id (by have:=(hA id h).2;omega) (by have:=(hA id h).1;omega)
   rw[Aw (m:=2) g2 (by omega) rfl,AU,Aw (m:=11) g1 (by omega) hx.len,AU]
   refine CX (Jf ..) (CX hx.vs ?_)
   obtain⟨cs,he1,he2,he3,he4,he5,he6⟩:=hes
   obtain⟨t7,hb7⟩:=hb7
   have hel8:El G H8 (.sl n6 0 1 1 11) 11 [c]:=hel.same λid hid=>by cases JM hid;exact y.f.same _ (by omega) (by omega)
   refine AFG (by omega) ((y.f.same _ (by omega) (by omega)).trans hb7) (by omega) hel8.2 he1.2 ?_ ?_
   ·have:=he6.len;rw[this];omega
   intro v' H9 n9 hel9 hs9 hn9 hv'
   have x:Fr G pb H n H9 n9 t3:=⟨⟨by omega,λid hid hp=>(hs9 id (by omega)).trans (x.f.same id hid hp)⟩,x.p.same λid hid=>hs9 id (by omega),hb⟩
   have g2:=(hs9 (n+1) (by omega)).trans g2
   have g3:=(hs9 (n+1+1) (by omega)).trans g3
   rw[Aw (m:=2) g2 (by omega) rfl,AU]
   refine CX (Jf ..) ?_
   have hcs:Zg G H9 (λid=>A id∨(Rg n n9 id/\id≠n+1+1)) ([c]++cs) (e::es):=by
    refine Zg.cons (hx.mono (λid h=>.inl h) λid h=>hs9 id (by have:=(hA id h).2;omega)) ?_
    exact he6.mono (λid h=>.inr ⟨⟨by have:=h.1;omega,by have:=h.2;omega⟩,by have:=h.1;omega⟩) λid h=>hs9 id h.2
   have fin:∀w:V,El G H9 w 11 ([c]++cs)->KS w->(∀id,w.Dl=some id->n6<=id/\id<n9)->Fa G H9 (λid=>A id∨(Rg n n9 id/\id≠n+1+1)) (exC 8 0 nm [] false line col w) (.mk 8 0 nm [] false (e::es)):=λw h1 h2 h3=>
    .mk 8 0 nm [] false line col h1 h2 (λid hid=>.inr ⟨⟨by have:=(h3 id hid).1;omega,(h3 id hid).2⟩,by have:=(h3 id hid).1;omega⟩) hcs
   rcases hv' with⟨l,rfl,hl1⟩|⟨l,rfl,hn9'⟩
   ·refine AB AJO ?_
    exact AEY x g3 rfl (by omega) (fin _ hel9 (aT hl1) λid hid=>by cases JM hid;omega) (λid h=>(hA id h).2) hk
   ·refine AB AZU ?_
    exact AEY x g3 rfl (by omega) (fin _ hel9 (AFX ..) λid hid=>by cases yc hid;omega) (λid h=>(hA id h).2) hk
end
open Go.Bj
set_option maxRecDepth 100000
section
variable{G:AV}{pb:Nat}{H:Heap}{n:Nat}{s s':S}{k:KV}
theorem AYr{rec:PM Ex}{f:Nat}{e:Ex}(hr:AMe G pb rec)(h:ZR G H pb s)(hb:pb<n)(hm:AEi rec f s=some (e,s'))(hk:ExK G pb H n s' e k):
 Runs F G YQ [.ptr pb 0] H n k:=by
 refine go1 (su Aq G) ?_
 delta Ya
 have x:=Fr.refl h hb
 refine Ar rfl λH1 f1 g1=>?_
 have x:=x.al f1
 obtain⟨v,tid,o,line,col,e0,e1,_,_,e2,_,_,_⟩:=x.p.tok
 refine AB (v:=.ptr pb 0) rfl (AB (v:=.ptr pb 0) rfl (AB e0 (AB e1 (AB e2 ?_))))
 refine Ar rfl λH2 f2 g2=>?_
 have x:=x.al f2
 have g1:=f2.get g1 (by omega)
 refine Bf (L:=UK s.t line col) g2 rfl rfl (by omega) λH3 g2 s3=>?_
 have x:=x.st (by omega) s3
 have g1:=(s3 n (by omega)).trans g1
 refine AB (v:=.ptr (n+1) 3) (AY ..) (AB (QK (m:=2) (o:=3) g2 (by omega) (by show 3+2<=5;omega)) (AB AX2 ?_))
 refine Ar rfl λH4 f4 g4=>?_
 have x:=x.al f4
 have g1:=f4.get g1 (by omega)
 have g2:=f4.get g2 (by omega)
 refine Bf (L:=exC 0 0 [] [] false line col .Af) g4 rfl rfl (by omega) λH5 g4 s5=>?_
 have x:=x.st (by omega) s5
 have g1:=(s5 n (by omega)).trans g1
 have g2:=(s5 (n+1) (by omega)).trans g2
 clear s5 f4 s3 f2 f1 e0 e1 e2
 have fin:∀{H':Heap} {n':Nat} {c:LV},Fr G pb H n H' n' s'->T.get H' n=some (one exZ)->T.get H' (n+2)=some (one c)->Fa G H' (λid=>n+2<id/\id<n') c e->BI lfp G (Runs F G) k (.ptr n 0) (.ptr (n+2) 0) H' n':=by
  intro H' n' c x g1 g4 hx
  delta BI
  exact zD x g1 rfl g4 (Nat.le_refl _) hx (λid h=>⟨by have:=h.1;omega,h.2,by have:=h.1;omega⟩) hk
 have leaf:∀{H':Heap} {n' kd num:Nat} {nm ty:Bs} {arr:Bool},Fr G pb H n H' n' s'->T.get H' n=some (one exZ)->T.get H' (n+2)=some (one (exC kd num nm ty arr line col .Af))->e=.mk kd num nm ty arr []->BI lfp G (Runs F G) k (.ptr n 0) (.ptr (n+2) 0) H' n':=by
  intro H' n' kd num nm ty arr x g1 g4 he
  subst he
  exact fin x g1 g4 (.mk kd num nm ty arr line col AAY vK (λid h=>by cases h) .nil)
 have AQa:∀{H':Heap} {n' kd kd' num:Nat} {nm ty:Bs} {arr:Bool} {w:V} {P:KV},T.get H' (n+2)=some (one (exC kd num nm ty arr line col w))->(∀H'',T.get H'' (n+2)=some (one (exC kd' num nm ty arr line col w))->(∀j,j≠n+2->T.get H'' j=T.get H' j)->P .undef H'' n')->Bd 1 (.ptr (n+2) 0) (.int .i64 (.ofNat kd') 0) H' n' P:=by
  intro H' n' kd kd' num nm ty arr w P g hP
  exact Em g rfl rfl (by omega) (by show 0+1<=11;omega) λH'' g'' s''=>hP H'' g'' s''
 unfold AEi at hm
 refine AP2 x.p ?_
 rw[Du,AU]
 cases ho:s.ok with
 |false=>
  rw[ho]at hm
  cases hm
  rw[Bool.not_false,A8]
  exact leaf x g1 g4 rfl
 |true=>
  rw[ho,Bool.not_true,cond_false]at hm
  have q0:Aa (.ptr (n+1) 0) G H5=some (.int .i64 (.ofNat s.t.kind) 0):=AX g2 rfl
  rw[Bool.not_true,Ak]
  refine AB (v:=.ptr (n+1) 0) (AY ..) (AB q0 (AB (xg ..) ?_))
  cases k4:decide (s.t.kind=4)with
  |true=>
   rw[k4,cond_true,Option.bind_eq_some_iff]at hm
   obtain⟨s1,h1,hm⟩:=hm
   cases hm
   rw[A8]
   refine dn x.p x.lt h1 λH6 n6 _ _ _ _ y=>?_
   have x:=x.tr y
   have g1:=y.get g1 (by omega) hb
   have g2:=y.get g2 (by omega) (by omega)
   have g4:=y.get g4 (by omega) (by omega)
   have q2:Aa (.ptr (n+1) 2) G H6=some (.int .i64 (.ofNat s.t.num) 0):=AX g2 rfl
   refine AB (v:=.ptr (n+1) 2) (AY ..) (AB q2 (AB (v:=.ptr (n+2) 0) (AY ..) ?_))
   refine AQa g4 λH7 g4 s7=>?_
   have x:=x.st (by omega) s7
   have g1:=(s7 n (by omega)).trans g1
   have g2:=(s7 (n+1) (by omega)).trans g2
   have q2:Aa (.ptr (n+1) 2) G H7=some (.int .i64 (.ofNat s.t.num) 0):=AX g2 rfl
   refine AB q2 (CX (Xv ..) (AB (v:=.ptr (n+2) 3) (AY ..) ?_))
   refine Em g4 rfl rfl (by omega) (by show 3+1<=11;omega) λH8 g8 s8=>?_
   exact leaf (kd:=1) (num:=s.t.num) (nm:=[]) (ty:=[]) (arr:=false) (x.st (by omega) s8) ((s8 n (by omega)).trans g1) g8 rfl
  |false=>
  rw[k4,cond_false]at hm
  rw[Ak]
  refine AB (v:=.ptr (n+1) 0) (AY ..) (AB q0 (AB (xg ..) ?_))
  cases k3:decide (s.t.kind=3)with
  |true=>
   rw[k3,cond_true,Option.bind_eq_some_iff]at hm
   obtain⟨s1,h1,hm⟩:=hm
   cases hm
   rw[A8]
   refine dn x.p x.lt h1 λH6 n6 _ _ _ _ y=>?_
   have x:=x.tr y
   have g1:=y.get g1 (by omega) hb
   have g2:=y.get g2 (by omega) (by omega)
   have g4:=y.get g4 (by omega) (by omega)
   have q2:Aa (.ptr (n+1) 1) G H6=some (sB s.t.text):=AX g2 rfl
   refine AB (v:=.ptr (n+1) 1) (AY ..) (AB q2 (AB (v:=.ptr (n+2) 0) (AY ..) ?_))
   refine AQa g4 λH7 g4 s7=>?_
   have x:=x.st (by omega) s7
   have g1:=(s7 n (by omega)).trans g1
   have g2:=(s7 (n+1) (by omega)).trans g2
   have q2:Aa (.ptr (n+1) 1) G H7=some (sB s.t.text):=AX g2 rfl
   refine AB q2 (CX (ARZ ..) (AB (v:=.ptr (n+2) 4) (AY ..) ?_))
   refine Em g4 rfl rfl (by omega) (by show 4+1<=11;omega) λH8 g8 s8=>?_
   exact leaf (kd:=6) (num:=0) (nm:=s.t.text) (ty:=[]) (arr:=false) (x.st (by omega) s8) ((s8 n (by omega)).trans g1) g8 rfl
  |false=>
  rw[k3,cond_false]at hm
  rw[Ak]
  refine AB (v:=.ptr (n+1) 0) (AY ..) (AB q0 (AB (xg ..) ?_))
  cases k2:decide (s.t.kind=2)with
  |true=>
   rw[k2,cond_true,Option.bind_eq_some_iff]at hm
   obtain⟨s1,h1,hm⟩:=hm
   rw[Option.bind_eq_some_iff]at hm
   obtain⟨s2,h2,hm⟩:=hm
   rw[Option.bind_eq_some_iff]at hm
   obtain⟨⟨nm,s3⟩,h3,hm⟩:=hm
   rw[Option.bind_eq_some_iff]at hm
   obtain⟨⟨es,s4⟩,h4,hm⟩:=hm
   cases hm
   rw[A8]
   refine dn x.p x.lt h1 λH6 n6 l6 c6 _ _ y=>?_
   have x:=x.tr y
   have hn6:=y.le
   have g1:=y.get g1 (by omega) hb
   have g4:=y.get g4 (by omega) (by omega)
   refine AB (v:=sB s.t.text) (ATG rfl) ?_
   refine AEz λH7 f7=>?_
   have x:=x.al f7
   have g1:=f7.get g1 (by omega)
   have g4:=f7.get g4 (by omega)
   refine AB (v:=.ptr (n+2) 0) (AY ..) ?_
   refine AQa g4 λH8 g4 s8=>?_
   have x:=x.st (by omega) s8
   have g1:=(s8 n (by omega)).trans g1
   refine AB (v:=.ptr (n+2) 5) (AY ..) ?_
   refine Em g4 rfl rfl (by omega) (by show 5+2<=11;omega) λH9 g4 s9=>?_
   have x:=x.st (by omega) s9
   have g1:=(s9 n (by omega)).trans g1
   have g4:T.get H9 (n+2)=some (one (exC 9 0 [] s.t.text false line col .Af)):=g4
   refine LW (ws:=[ug]) x.p x.lt rfl (by show 1<=1000;omega) h2 λH10 n10 y=>?_
   have x:=x.tr y
   have hn10:=y.le
   have g1:=y.get g1 (by omega) hb
   have g4:=y.get g4 (by omega) (by omega)
   refine dJ x.p x.lt h3 λH11 n11 y=>?_
   have x:=x.tr y
   have hn11:=y.le
   have g1:=y.get g1 (by omega) hb
   have g4:=y.get g4 (by omega) (by omega)
   refine AB (v:=.ptr (n+2) 4) (AY ..) ?_
   refine Em g4 rfl rfl (by omega) (by show 4+1<=11;omega) λH12 g4 s12=>?_
   have x:=x.st (by omega) s12
   have g1:=(s12 n (by omega)).trans g1
   have g4:T.get H12 (n+2)=some (one (exC 9 0 nm s.t.text false line col .Af)):=g4
   refine ATJ hr x.p x.lt h4 λH13 n13 v y hes hle=>?_
   have x:=x.tr y
   have hn13:=y.le
   have g1:=y.get g1 (by omega) hb
   have g4:=y.get g4 (by omega) (by omega)
   obtain⟨cs,he1,he2,he3,he4,he5,he6⟩:=hes
   refine AB (v:=.ptr (n+2) 7) (AY ..) ?_
   refine Em g4 he3 (by rw[he4];rfl) (by omega) (by show 7+1<=11;omega) λH14 g14 s14=>?_
   rw[he4]at g14
   refine fin (c:=exC 9 0 nm s.t.text false line col v) (x.st (by omega) s14) ((s14 n (by omega)).trans g1) g14 ?_
   refine .mk 9 0 nm s.t.text false line col (he1.same λid hid=>s14 id (by have:=(he5 id hid).1;omega)) he2 (λid hid=>⟨by have:=(he5 id hid).1;omega,(he5 id hid).2⟩) (he6.mono (λid h=>⟨by have:=h.1;omega,h.2⟩) λid h=>s14 id (by have:=h.1;omega))
  |false=>
  rw[k2,cond_false]at hm
  rw[Ak]
  have kw:∀{w:Bs} {kd:Nat} {H':Heap} {n':Nat} {s1:S} {N:Bool×S->Option (Ex×S)} {R:Heap->Nat->Prop},Fr G pb H n H' n' s1->n+2<n'->T.get H' n=some (one exZ)->T.get H' (n+2)=some (one (exC 0 0 [] [] false line col .Af))->
   (Dk w s1).bind N=some (e,s')->(∀s2,N (true,s2)=some (.mk kd 0 [] [] false [],s2))->
   (∀H'' n'' s2,Fr G pb H n H'' n'' s2->n+2<n''->T.get H'' n=some (one exZ)->T.get H'' (n+2)=some (one (exC 0 0 [] [] false line col .Af))->N (false,s2)=some (e,s')->R H'' n'')->
   Runs F G Am [.ptr pb 0,sB w] H' n' λv H n'=>Ac v true (AP (AQ 0 (.ptr (n+2) 0)) λv60=>Bd 1 v60 (.int .i64 (.ofNat kd) 0) H n' λ_ H n'=>BI lfp G (Runs F G) k (.ptr n 0) (.ptr (n+2) 0) H n') (R H n'):=by
   intro w kd H' n' s1 N R x hn' g1 g4 hm hN hR
   rw[Option.bind_eq_some_iff]at hm
   obtain⟨⟨b,s2⟩,h2,hm⟩:=hm
   refine OI x.p x.lt h2 λH6 n6 y=>?_
   have x:=x.tr y
   have hn6:=y.le
   have g1:=y.get g1 (by omega) hb
   have g4:=y.get g4 (by omega) (by omega)
   cases b with
   |true=>
    rw[hN]at hm
    cases hm
    rw[A8]
    refine AB (v:=.ptr (n+2) 0) (AY ..) ?_
    refine AQa g4 λH7 g4 s7=>?_
    exact leaf (kd:=kd) (num:=0) (nm:=[]) (ty:=[]) (arr:=false) (x.st (by omega) s7) ((s7 n (by omega)).trans g1) g4 rfl
   |false=>rw[Ak];exact hR _ _ _ x (by omega) g1 g4 hm
  refine kw (w:=Zm) x (by omega) g1 g4 hm (λ_=>rfl) λH6 n6 s6 x hn6 g1 g4 hm=>?_
  refine kw (w:=AEQ) x (by omega) g1 g4 hm (λ_=>rfl) λH6 n6 s6 x hn6 g1 g4 hm=>?_
  refine kw (w:=AJZ) x (by omega) g1 g4 hm (λ_=>rfl) λH6 n6 s6 x hn6 g1 g4 hm=>?_
  refine kw (w:=AJS) x (by omega) g1 g4 hm (λ_=>rfl) λH6 n6 s6 x hn6 g1 g4 hm=>?_
  obtain⟨⟨b,s7⟩,h7,hm⟩:=Option.bind_eq_some_iff.1 hm
  rw[show V.str 3 7824750=sB AO8 from rfl]
  refine OI x.p x.lt h7 λH7 n7 y=>?_
  have x:=x.tr y
  have hn7:=y.le
  have g1:=y.get g1 (by omega) hb
  have g4:=y.get g4 (by omega) (by omega)
  cases b with
  |true=>
   have hm:((ALU s7).bind λb=>(Dk zF b.2).bind λq=>bif q.1 then(rec q.2).bind λx=>(D7 [ACm] x.2).bind λs1=>some ((.mk 11 0 [] b.1.nm b.1.arr [x.1]:Ex),s1)
    else some (.mk 10 0 [] b.1.nm b.1.arr [],bif AE1 b.1 then q.2 else Jt 21 q.2))=some (e,s'):=hm
   rw[Option.bind_eq_some_iff]at hm
   obtain⟨⟨t,s8⟩,h8,hm⟩:=hm
   rw[Option.bind_eq_some_iff]at hm
   obtain⟨⟨b,s9⟩,h9,hm⟩:=hm
   rw[A8]
   refine ASt x.p x.lt h8 λH8 n8 y=>?_
   have x:=x.tr y
   have hn8:=y.le
   have g1:=y.get g1 (by omega) hb
   have g4:=y.get g4 (by omega) (by omega)
   refine AB (v:=.ptr (n+2) 0) (AY ..) ?_
   refine AQa g4 λH9 g4 t9=>?_
   have x:=x.st (by omega) t9
   have g1:=(t9 n (by omega)).trans g1
   refine AB (v:=.ptr (n+2) 5) (AY ..) ?_
   refine Em g4 rfl rfl (by omega) (by show 5+2<=11;omega) λH10 g4 t10=>?_
   have x:=x.st (by omega) t10
   have g1:=(t10 n (by omega)).trans g1
   have g4:T.get H10 (n+2)=some (one (exC 10 0 [] t.nm t.arr line col .Af)):=g4
   rw[show V.str 1 91=sB zF from rfl]
   refine OI x.p x.lt h9 λH11 n11 y=>?_
   have x:=x.tr y
   have hn11:=y.le
   have g1:=y.get g1 (by omega) hb
   have g4:=y.get g4 (by omega) (by omega)
   cases b with
   |true=>
    have hm:((rec s9).bind λx=>(D7 [ACm] x.2).bind λs1=>some ((.mk 11 0 [] t.nm t.arr [x.1]:Ex),s1))=some (e,s'):=hm
    rw[Option.bind_eq_some_iff]at hm
    obtain⟨⟨e1,s10⟩,h10,hm⟩:=hm
    rw[Option.bind_eq_some_iff]at hm
    obtain⟨s11,h11,hm⟩:=hm
    cases hm
    rw[A8]
    refine hr _ _ _ _ _ _ x.p x.lt h10 λH12 n12 c y hx=>?_
    have x:=x.tr y
    have hn12:=y.le
    have g1:=y.get g1 (by omega) hb
    have g4:=y.get g4 (by omega) (by omega)
    refine Ld (G:=G) (vs:=[.agg c]) rfl (by omega) (λv hv=>by simp at hv;subst hv;exact hx.ok) λH13 f13 _ hel=>?_
    have x:=x.al f13
    have g1:=f13.get g1 (by omega)
    have g4:=f13.get g4 (by omega)
    refine AB (v:=.ptr (n+2) 0) (AY ..) ?_
    refine AQa g4 λH14 g4 t14=>?_
    have x:=x.st (by omega) t14
    have g1:=(t14 n (by omega)).trans g1
    refine AB (v:=.ptr (n+2) 7) (AY ..) ?_
    refine Em g4 rfl rfl (by omega) (by show 7+1<=11;omega) λH15 g4 t15=>?_
    have x:=x.st (by omega) t15
    have g1:=(t15 n (by omega)).trans g1
    have g4:T.get H15 (n+2)=some (one (exC 11 0 [] t.nm t.arr line col (.sl n12 0 1 1 11))):=g4
    refine LW (ws:=[ACm]) x.p x.lt rfl (by show 1<=1000;omega) h11 λH16 n16 y=>?_
    have x:=x.tr y
    have hn16:=y.le
    have g1:=y.get g1 (by omega) hb
    have g4:=y.get g4 (by omega) (by omega)
    have same:∀id,n+2<id->id<n12+1->T.get H16 id=T.get H13 id:=λid h1 h2=>(y.f.same id (by omega) (by omega)).trans ((t15 id (by omega)).trans (t14 id (by omega)))
    refine fin x g1 g4 (.mk 11 0 [] t.nm t.arr line col (hel.same λid hid=>by cases JM hid;exact same _ (by omega) (by omega)) (aT (by omega)) (λid hid=>by cases JM hid;exact⟨by omega,by omega⟩) (.cons ?_ .nil))
    exact hx.mono (λid h=>⟨by have:=h.1;omega,by have:=h.2;omega⟩) λid h=>(same id (by have:=h.1;omega) (by have:=h.2;omega)).trans (f13.same id h.2)
   |false=>
    cases hm
    rw[Ak]
    have q5:Ah 2 (.ptr (n+2) 5) G H11=some (.agg (tyC t)):=QK g4 (by omega) (by show 5+2<=11;omega)
    refine AB (v:=.ptr (n+2) 5) (AY ..) (AB q5 ?_)
    refine AV5 λH12 f12=>?_
    have x:=x.al f12
    have g1:=f12.get g1 (by omega)
    have g4:=f12.get g4 (by omega)
    refine AB (Du _) ?_
    cases hc:AE1 t with
    |true=>
     have x:Fr G pb H n H12 (n11+1) s9:=x
     have leaf':= @leaf H12 (n11+1) 10 0 [] t.nm t.arr
     rw[hc]at leaf'
     rw[Bool.not_true,Ak]
     exact leaf' x g1 g4 rfl
    |false=>
     rw[Bool.not_false,A8]
     refine kJ x.p x.lt λH13 n13 y=>?_
     have x:=x.tr y
     have g1:=y.get g1 (by omega) hb
     have g4:=y.get g4 (by omega) (by omega)
     have leaf':= @leaf H13 n13 10 0 [] t.nm t.arr
     rw[hc]at leaf'
     exact leaf' x g1 g4 rfl
  |false=>
   have hm:((Dk VZ s7).bind λp=>bif p.1 then(rec p.2).bind λx=>(D7 [Ov] x.2).bind λs1=>some (x.1,s1)else
    some (.mk 0 0 [] [] false [],Jt 21 p.2))=some (e,s'):=hm
   rw[Option.bind_eq_some_iff]at hm
   obtain⟨⟨b,s8⟩,h8,hm⟩:=hm
   rw[Ak,show V.str 1 40=sB VZ from rfl]
   refine OI x.p x.lt h8 λH8 n8 y=>?_
   have x:=x.tr y
   have hn8:=y.le
   have g1:=y.get g1 (by omega) hb
   have g4:=y.get g4 (by omega) (by omega)
   cases b with
   |true=>
    have hm:((rec s8).bind λx=>(D7 [Ov] x.2).bind λs1=>some (x.1,s1))=some (e,s'):=hm
    rw[Option.bind_eq_some_iff]at hm
    obtain⟨⟨e1,s10⟩,h10,hm⟩:=hm
    rw[Option.bind_eq_some_iff]at hm
    obtain⟨s11,h11,hm⟩:=hm
    cases hm
    rw[A8]
    refine hr _ _ _ _ _ _ x.p x.lt h10 λH12 n12 c y hx=>?_
    have x:=x.tr y
    have hn12:=y.le
    have g1:=y.get g1 (by omega) hb
    have g4:=y.get g4 (by omega) (by omega)
    refine Bf g4 rfl hx.len (by omega) λH13 g4 t13=>?_
    have x:=x.st (by omega) t13
    have g1:=(t13 n (by omega)).trans g1
    refine LW (ws:=[Ov]) x.p x.lt rfl (by show 1<=1000;omega) h11 λH16 n16 y=>?_
    have x:=x.tr y
    have hn16:=y.le
    have g1:=y.get g1 (by omega) hb
    have g4:=y.get g4 (by omega) (by omega)
    refine fin x g1 g4 (hx.mono (λid h=>⟨by have:=h.1;omega,by have:=h.2;omega⟩) λid h=>?_)
    exact(y.f.same id h.2 (by have:=h.1;omega)).trans (t13 id (by have:=h.1;omega))
   |false=>
    cases hm
    rw[Ak]
    refine kJ x.p x.lt λH13 n13 y=>?_
    have x:=x.tr y
    exact leaf (kd:=0) (num:=0) (nm:=[]) (ty:=[]) (arr:=false) x (y.get g1 (by omega) hb) (y.get g4 (by omega) (by omega)) rfl
end
open Go.Bj
set_option maxRecDepth 100000
section
variable{G:AV}{pb:Nat}{H:Heap}{n:Nat}{s s':S}{k:KV}
theorem AU8{rec:PM Ex}{f:Nat}{e:Ex}(hr:AMe G pb rec)(h:ZR G H pb s)(hb:pb<n)(hm:pY rec f s=some (e,s'))(hk:ExK G pb H n s' e k):
 Runs F G Xc [.ptr pb 0] H n k:=by
 refine go1 (oz Aq G) ?_
 delta Xu
 have x:=Fr.refl h hb
 refine Ar rfl λH1 f1 g1=>?_
 have x:=x.al f1
 obtain⟨⟨e1,s1⟩,h1,hm⟩:=Option.bind_eq_some_iff.1 hm
 have hm:jT rec f e1 s1=some (e,s'):=hm
 refine AYr hr x.p x.lt h1 λH2 n2 c y hx=>?_
 have x:=x.tr y
 have g1:=y.get g1 (by omega) hb
 have hn2:=y.le
 refine Ar rfl λH3 f3 g3=>?_
 have x:=x.al f3
 have g1:=f3.get g1 (by omega)
 refine Bf g3 rfl hx.len (by omega) λH4 g4 s4=>?_
 have x:=x.st (by omega) s4
 have g1:=(s4 n (by omega)).trans g1
 have hx:Fa G H4 (Al n (n2+1) n2) c e1:=hx.mono (λid h=>⟨by have:=h.1;omega,by have:=h.2;omega,by have:=h.2;omega⟩) λid h=>(s4 id (by have:=h.2;omega)).trans (f3.same id h.2)
 refine FB (J:=λg q=>∃H' n' t c e1,q=(.ptr pb 0,.ptr n 0,.ptr n2 0,H',n')/\Fr G pb H n H' n' t/\n2<n'/\T.get H' n=some (one exZ)/\T.get H' n2=some (one c)/\Fa G H' (Al n n' n2) c e1/\jT rec g e1 t=some (e,s')) ?_ (m:=f)
  ⟨H4,n2+1,s1,c,e1,rfl,x,by omega,g1,g4,hx,hm⟩
 rintro I g q ⟨H5,n5,t,c,e1,rfl,x,hn5,g1,g4,hx,hm⟩ ih
 show OJ lfp G (Runs F G) k I (.ptr pb 0) (.ptr n 0) (.ptr n2 0) H5 n5
 delta OJ
 cases g with
 |zero=>cases hm
 |succ g=>
  obtain⟨v,tid,o,line,col,e0,ea,_,_,_,_,_,e5⟩:=x.p.tok
  refine AB (v:=.ptr pb 0) rfl (AB (v:=.ptr pb 0) rfl (AB e0 (AB ea (AB (v:=.ptr tid (o+3)) (AY ..) (AB e5 ?_)))))
  refine Ar rfl λH8 f8 g8=>?_
  have x:=x.al f8
  refine Bf g8 rfl (L:=[.int .i64 (.ofNat line) 0,.int .i64 (.ofNat col) 0]) rfl (by omega) λH9 g9 s9=>?_
  have x:=x.st (by omega) s9
  have g1:=(s9 n (by omega)).trans (f8.get g1 (by omega))
  have g4:=(s9 n2 (by omega)).trans (f8.get g4 (by omega))
  have hx:Fa G H9 (Al n n5 n2) c e1:=hx.mono (λid h=>h) λid h=>(s9 id (by have:=h.2.1;omega)).trans (f8.same id h.2.1)
  obtain⟨⟨b,t2⟩,h2,hm⟩:=Option.bind_eq_some_iff.1 hm
  have hm:(bif b then(rec t2).bind λq=>(D7 [ACm] q.2).bind λs1=>jT rec g (.mk 12 0 [] [] false [e1,q.1]) s1 else
   (Dk ug t2).bind λp=>bif p.1 then(ABe rec g e1 p.2).bind λq=>jT rec g q.1 q.2 else some (e1,p.2))=some (e,s'):=hm
  rw[show V.str 1 91=sB zF from rfl]
  refine OI x.p x.lt h2 λH10 n10 y=>?_
  have x:=x.tr y
  have hn10:=y.le
  have g1:=y.get g1 (by omega) hb
  have g4:=y.get g4 (by omega) (by omega)
  have g9:=y.get g9 (by omega) (by omega)
  have hx:Fa G H10 (Al n n5 n2) c e1:=hx.mono (λid h=>h) λid h=>y.f.same id (by have:=h.2.1;omega) (by have:=h.1;omega)
  cases b with
  |true=>
   rw[cond_true]at hm
   obtain⟨⟨e2,t3⟩,h3,hm⟩:=Option.bind_eq_some_iff.1 hm
   obtain⟨t4,h4,hm⟩:=Option.bind_eq_some_iff.1 hm
   rw[A8,Aw (m:=2) g9 (by omega) rfl,AU,Aw (m:=11) g4 (by omega) hx.len,AU]
   refine hr _ _ _ _ _ _ x.p x.lt h3 λH11 n11 c2 y hx2=>?_
   have x:=x.tr y
   have hn11:=y.le
   have g1:=y.get g1 (by omega) hb
   have g4:=y.get g4 (by omega) (by omega)
   have g9:=y.get g9 (by omega) (by omega)
   have hx:Fa G H11 (Al n n5 n2) c e1:=hx.mono (λid h=>h) λid h=>y.f.same id (by have:=h.2.1;omega) (by have:=h.1;omega)
   rw[Aw (m:=2) g9 (by omega) rfl,AU,Aw (m:=11) g4 (by omega) hx.len]
   refine CX (Jf ..) (CX hx.vs ?_)
   refine Ld (G:=G) (vs:=[.agg c,.agg c2]) rfl (by omega) (λv hv=>by simp at hv;rcases hv with rfl|rfl;exact hx.ok;exact hx2.ok) λH12 f12 _ hel=>?_
   have x:=x.al f12
   have g1:=f12.get g1 (by omega)
   have g4:=f12.get g4 (by omega)
   refine AB ANm ?_
   refine Bf g4 hx.len rfl (by omega) λH13 g4 s13=>?_
   have x:=x.st (by omega) s13
   have g1:=(s13 n (by omega)).trans g1
   refine LW (ws:=[ACm]) x.p x.lt rfl (by show 1<=1000;omega) h4 λH14 n14 y=>?_
   have x:=x.tr y
   have hn14:=y.le
   have g1:=y.get g1 (by omega) hb
   have g4:=y.get g4 (by omega) (by omega)
   have same:∀id,n<id->id≠n2->id<n11+1->T.get H14 id=T.get H12 id:=λid h1 h2 h3=>(y.f.same id (by omega) (by omega)).trans (s13 id h2)
   refine ih g _ (by omega) ⟨H14,n14,t4,_,.mk 12 0 [] [] false [e1,e2],rfl,x,by omega,g1,g4,?_,hm⟩
   refine .mk 12 0 [] [] false line col (hel.same λid hid=>by cases JM hid;exact same _ (by omega) (by omega) (by omega)) (aT (by omega)) (λid hid=>by cases JM hid;exact⟨by omega,by omega,by omega⟩) ?_
   refine .cons (hx.mono (λid h=>⟨h.1,by have:=h.2.1;omega,h.2.2⟩) λid h=>?_) (.cons (hx2.mono (λid h=>⟨by have:=h.1;omega,by have:=h.2;omega,by have:=h.1;omega⟩) λid h=>?_) .nil)
   ·have h1:=h.1;have h2:=h.2.1
    exact(same id h1 h.2.2 (by omega)).trans (f12.same id (by omega))
   ·have h1:=h.1;have h2:=h.2
    exact(same id (by omega) (by omega) (by omega)).trans (f12.same id h2)
  |false=>
   rw[cond_false]at hm
   obtain⟨⟨b,t3⟩,h3,hm⟩:=Option.bind_eq_some_iff.1 hm
   have hm:(bif b then(ABe rec g e1 t3).bind λq=>jT rec g q.1 q.2 else some (e1,t3))=some (e,s'):=hm
   rw[Ak,show V.str 1 46=sB ug from rfl]
   refine OI x.p x.lt h3 λH11 n11 y=>?_
   have x:=x.tr y
   have hn11:=y.le
   have g1:=y.get g1 (by omega) hb
   have g4:=y.get g4 (by omega) (by omega)
   have g9:=y.get g9 (by omega) (by omega)
   have hx:Fa G H11 (Al n n5 n2) c e1:=hx.mono (λid h=>h) λid h=>y.f.same id (by have:=h.2.1;omega) (by have:=h.1;omega)
   cases b with
   |true=>
    rw[cond_true]at hm
    obtain⟨⟨e2,t4⟩,h4,hm⟩:=Option.bind_eq_some_iff.1 hm
    rw[A8,Aw (m:=11) g4 (by omega) hx.len,AU,Aw (m:=2) g9 (by omega) rfl,AU]
    refine AR1 hr (λid h=>⟨by have:=h.1;omega,by have:=h.2.1;omega⟩) hx x.p x.lt h4 λH12 n12 c2 y hx2=>?_
    have x:=x.tr y
    have hn12:=y.le
    have g1:=y.get g1 (by omega) hb
    have g4:=y.get g4 (by omega) (by omega)
    refine Bf g4 hx.len hx2.len (by omega) λH13 g4 s13=>?_
    have x:=x.st (by omega) s13
    have g1:=(s13 n (by omega)).trans g1
    refine ih g _ (by omega) ⟨H13,n12,t4,c2,e2,rfl,x,by omega,g1,g4,?_,hm⟩
    refine hx2.mono (λid h=>?_) λid h=>s13 id ?_
    ·rcases h with h|h
     ·exact⟨h.1,by have:=h.2.1;omega,h.2.2⟩
     ·exact⟨by have:=h.1;omega,h.2,by have:=h.1;omega⟩
    ·rcases h with h|h
     ·exact h.2.2
     ·have:=h.1;omega
   |false=>
    cases hm
    rw[Ak]
    exact zD x g1 rfl g4 (Nat.le_refl _) hx (λid h=>⟨by have:=h.1;omega,by have:=h.2.1;omega,by have:=h.1;omega⟩) hk
end
end Go.PQ
