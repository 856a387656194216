/- Part of a proof: texts VXJ VXK VXL VXM VVM VXN VXO VUM VXP of the engine and what is proved with it; nothing is assumed. -/
import Derived.Test.YtibbhhkcjjeclaaDoorConF
import Derived.Test.YtibbhhkcjjeclaaDoorConD
import Derived.Test.YtibbhhkcjjeclaaDoorConE
import Derived.Test.YtibbhhkcjjeclaaDoorConB
import Derived.Test.YtibbhhkcjjeclaaDoorConA
set_option linter.unusedVariables false
set_option linter.unusedSimpArgs false
namespace Go.RL
open Go.CS
set_option maxRecDepth 100000
section
variable{K:O6}{W:Wv}{D:Gn}{G:AQ}{H0 H H' H'':Heap}{n n' n'' i x:Nat}{g:JU}{c a:Nat}{loc loc':List Ty}{p p':mg}{more:Bool}{k:KV}{s:CG}
theorem ACz(hE:K.En G H)(hi:a<K.pool.fields.length):∃p,Ai 4 K.v3 (.int .i64 (.ofNat a) 0)=some p/\lX p G H 4=some (K.cx.fl (.ofNat a)).cells/\(K.cx.fl (.ofNat a)).f.ty.nm.ok/\(K.cx.fl (.ofNat a)).own.ok:=by
 obtain⟨p,hp,hld⟩:=hE.pool.e3.at (i:=a) (c:=K.pool.fields[a].cells) (by simp[hi])
 have e:K.cx.fl (.ofNat a)=K.pool.fields[a]:=by
  show K.pool.fields.getD a fZ=_
  rw[List.getD_eq_getElem?_getD,List.getElem?_eq_getElem hi];rfl
 rw[e]
 exact⟨p,hp,hld,(hE.pool.o3 _ (List.getElem_mem hi)).2⟩
theorem AKU(hE:K.En G H)(hi:a<K.pool.names.length):∃p,Ai 1 K.v1 (.int .i64 (.ofNat a) 0)=some p/\AY p G H=some (K.cx.cl (.ofNat a)).nm.v/\(K.cx.cl (.ofNat a)).nm.ok:=by
 obtain⟨p,hp,hld⟩:=hE.pool.e1.at (i:=a) (c:=[K.pool.names[a].v]) (by simp[strs,hi])
 have e:(K.cx.cl (.ofNat a)).nm=K.pool.names[a]:=by
  show K.pool.names.getD a (0,0)=_
  rw[List.getD_eq_getElem?_getD,List.getElem?_eq_getElem hi];rfl
 rw[e]
 exact⟨p,hp,QL hld,hE.pool.o1 _ (List.getElem_mem hi)⟩
theorem AKv(hE:K.En G H)(hi:a<K.pool.types.length):(K.cx.ty (.ofNat a)).nm.ok:=by
 have e:K.cx.ty (.ofNat a)=K.pool.types[a]:=by
  show K.pool.types.getD a BI=_
  rw[List.getD_eq_getElem?_getD,List.getElem?_eq_getElem hi];rfl
 rw[e]
 exact hE.pool.t2.ok _ (List.getElem_mem hi)
theorem Gl.own{P:KV}(hG:Oh G)(o:Gl K W D G H0 H n g c a loc p more)(hi:a<K.pool.fields.length)(hk:∀H' n',Gl K W D G H0 H' n' g c a loc p more->P (⟨(K.cx.fl (.ofNat a)).own,false⟩:Ty).v H' n'):
 AL (AY (.ptr D.pb 0) G H) λv=>AL (Ah v) λv=>AL (AP 1 v) λv=>AL (AP 4 v) λv=>AL (AP 3 v) λv=>AL (AY v G H) λv180=>AL (AP 1 (.ptr D.xb 0)) λv181=>AL (AY v181 G H) λv182=>
  AL (Ai 4 v180 v182) λv183=>AL (AP 3 v183) λv184=>AL (AY v184 G H) λv185=>Runs F G FH [v185] H n P:=by
 obtain⟨q,hq,hld,hok1,hok2⟩:=ACz o.o.en hi
 obtain⟨q3,hq3,hl3⟩:=Um hG (o:=3) (x:=(K.cx.fl (.ofNat a)).own.v) hld rfl rfl
 simp only[go_sem,Nat.reduceAdd,AU (off:=0) o.o.gs.Wl (v:=.ptr K.kb 0) rfl,AU (off:=8) o.o.gs.w.box (v:=K.v3) rfl,AU (off:=1) o.o.x (v:=.int .i64 (.ofNat a) 0) rfl,hq,hq3,hl3]
 exact iO λH1 n1 f1=>hk H1 n1 (o.kp f1)
theorem Gl.fty{P:V->Prop}(hG:Oh G)(o:Gl K W D G H0 H n g c a loc p more)(hi:a<K.pool.fields.length)(hk:P (K.cx.fl (.ofNat a)).f.ty.v):
 AL (AY (.ptr D.pb 0) G H) λv=>AL (Ah v) λv=>AL (AP 1 v) λv=>AL (AP 4 v) λv=>AL (AP 3 v) λv=>AL (AY v G H) λv180=>AL (AP 1 (.ptr D.xb 0)) λv181=>AL (AY v181 G H) λv182=>
  AL (Ai 4 v180 v182) λv183=>AL (AP 0 v183) λv184=>AL (AP 1 v184) λv185=>AL (Af 2 v185 G H) P:=by
 obtain⟨q,hq,hld,hok1,hok2⟩:=ACz o.o.en hi
 obtain⟨q0,hq0,hl0⟩:=ADp hG (o:=0) (m:=4) hld rfl (by omega) (by omega)
 obtain⟨q1,hq1,hl1⟩:=ADp hG (o:=1) (m:=2) hl0 rfl (by omega) (by omega)
 simp only[go_sem,Nat.reduceAdd,AU (off:=0) o.o.gs.Wl (v:=.ptr K.kb 0) rfl,AU (off:=8) o.o.gs.w.box (v:=K.v3) rfl,AU (off:=1) o.o.x (v:=.int .i64 (.ofNat a) 0) rfl,hq,hq0,hq1,Bl hl1]
 exact hk
theorem Gl.cls{P:KV}(o:Gl K W D G H0 H n g c a loc p more)(hi:a<K.pool.names.length)(hk:∀H' n',Gl K W D G H0 H' n' g c a loc p more->P (K.cx.cl (.ofNat a)).v H' n'):
 AL (AY (.ptr D.pb 0) G H) λv=>AL (Ah v) λv=>AL (AP 1 v) λv=>AL (AP 4 v) λv=>AL (AP 1 v) λv=>AL (AY v G H) λv180=>AL (AP 1 (.ptr D.xb 0)) λv181=>AL (AY v181 G H) λv182=>
  AL (Ai 1 v180 v182) λv183=>AL (AY v183 G H) λv185=>Runs F G FH [v185] H n P:=by
 obtain⟨q,hq,hld,hok⟩:=AKU o.o.en hi
 simp only[go_sem,Nat.reduceAdd,AU (off:=0) o.o.gs.Wl (v:=.ptr K.kb 0) rfl,AU (off:=6) o.o.gs.w.box (v:=K.v1) rfl,AU (off:=1) o.o.x (v:=.int .i64 (.ofNat a) 0) rfl,hq,hld]
 exact iO λH1 n1 f1=>hk H1 n1 (o.kp f1)
theorem jh{t:Ty}(h:t.arr=true)(p:mg):(p.1,p.2|| !t.arr)=p:=by
 rw[h];obtain⟨x,y⟩:=p;cases y<;>rfl
theorem tK{q:mg}(h:q.2=true):VW q=none:=by unfold VW;rw[h];rfl
theorem ABP{fs:Tab}{w:Ty}{q:mg}(h:q.2=true):(RX fs w q).2=true:=by
 obtain⟨x,y⟩:=q
 cases(show y=true from h)
 unfold RX
 rw[AMb];rfl
theorem rD{mx:Int}{t:Ty}{q:mg}(h:q.2=true):(ay mx t q).2=true:=by
 unfold ay;rw[h];rfl
theorem AFn{t:Ty}(h:t.arr=false)(q:mg):(q.1,q.2|| !t.arr).2=true:=by
 show(q.2|| !t.arr)=true
 rw[h];cases q.2<;>rfl
theorem Gl.ARw(o:Gl K W D G H0 H n g c a s.loc (s.stk,false) more)(hc:c=22)(f:Fin K W D G H0 g c a more k i s.loc.length s):
 AL (AY (.ptr D.ab 0) G H) λv266=>BQ v266 [] (Runs F G) H n λv267 H n=>Bo (Am 2 [[(.str 0 0),(.bool false)]] E0) H n λv268 H n=>Bg 2 v268 v267 H n λv269 H n=>
  AL (AP 1 v268) λv270=>AL (AY v270 G H) λv271=>AL (Et v271) λv272=>Ak v272 true (Af 2 v268 G H) λv273=>Dx v272 true (Runs F G D8 [] H n) H n λv274 H n=>mX v272 true (Af 2 v268 G H) v273 <|
  Ak v272 true (Cc (.agg [.str,.bool]) true v273 v274) λv275=>AL (Aw v272 v275 (.bool false)) λv276=>AZ v276 true (AL (AY (.ptr D.pb 0) G H) λv277=>AL (Ah v277) λv278=>AL (AP 20 v278) λv279=>Bg 1 v279 (.bool true) H n λv280 H n=>
  CP lfp G (Runs F G) k (.int .i64 (.ofNat i) 0) (.ptr D.pb 0) (.ptr D.xb 0) D.lv (.ptr D.sb 0) (Ep D) (.ptr D.nb 0) H n) (CP lfp G (Runs F G) k (.int .i64 (.ofNat i) 0) (.ptr D.pb 0) (.ptr D.xb 0) D.lv (.ptr D.sb 0) (Ep D) (.ptr D.nb 0) H n):=by
 subst hc
 have o0:=o.o
 rw[AU (off:=0) o.o.a (v:=kM D) rfl,AV]
 refine o.any λH1 n1 o _=>?_
 refine o.lay λH2 o g2 _=>?_
 have key:∀b,b=(!((I5 (s.stk,false)).1.arr||(I5 (s.stk,false)).1.is Ba))->stS s.loc (VW (ay K.mx CY ((I5 (s.stk,false)).2.1,(I5 (s.stk,false)).2.2||b)))=stepT K.cx s ⟨.ofNat 22,.ofNat a⟩:=by
  rintro b rfl
  rw[kN]
  obtain⟨loc,stk⟩:=s
  cases stk with
  |nil=>rfl
  |cons t r=>
   have e:stepT K.cx ⟨loc,t::r⟩ ⟨.ofNat 22,.ofNat a⟩=bif t.arr||t.is Ba then(C9 K.mx CY r).map λk=>⟨loc,k⟩else none:=rfl
   rw[e]
   show stS loc ((VW (r,false|| !(t.arr||t.is Ba))).bind (C9 K.mx CY))=_
   cases t.arr<;>cases t.is Ba<;>rfl
 generalize(I5 (s.stk,false)).1=ta at*
 have fin:∀{b:Bool} {H' n'},Gl K W (D.more n1) G H0 H' n' g 22 a s.loc (I5 (s.stk,false)).2 more->b=(!(ta.arr||ta.is Ba))->
  AZ (.bool b) true (AL (AY (.ptr D.pb 0) G H') λv277=>AL (Ah v277) λv278=>AL (AP 20 v278) λv279=>Bg 1 v279 (.bool true) H' n' λv280 H n=>
  CP lfp G (Runs F G) k (.int .i64 (.ofNat i) 0) (.ptr D.pb 0) (.ptr D.xb 0) D.lv (.ptr D.sb 0) (Ep D) (.ptr D.nb 0) H n) (CP lfp G (Runs F G) k (.int .i64 (.ofNat i) 0) (.ptr D.pb 0) (.ptr D.xb 0) D.lv (.ptr D.sb 0) (Ep D) (.ptr D.nb 0) H' n'):=by
  rintro b H' n' o hb
  refine o.tst (P:=λH n=>CP lfp G (Runs F G) k (.int .i64 (.ofNat i) 0) (.ptr D.pb 0) (.ptr D.xb 0) D.lv (.ptr D.sb 0) (Ep D) (.ptr D.nb 0) H n) λH5 o _=>?_
  delta CP
  rw[Aj o.o.num,AV]
  exact o.give (D:=D.more n1) FN λH6 n6 o _=>f _ _ _ _ (o0.weak o) rfl (key b hb)
 rw[BG,AV,AU (off:=0+1) g2 (v:=.bool ta.arr) rfl,AV,BL,AV]
 cases h1:ta.arr with
 |true=>
  rw[h1]at fin
  simp only[Bool.not_true,go_sem]
  exact fin o rfl
 |false=>
  rw[h1]at fin
  simp only[Bool.not_false,go_sem,Aj g2]
  refine Qk λH3 n3 f3=>?_
  refine AIo (Aj (f3.get g2 (by omega))) (NU ta) ?_
  simp only[go_sem,fQ]
  exact fin (o.kp f3) rfl
theorem AQa(hG:Oh G)(o:Gl K W D G H0 H n g c a s.loc (s.stk,false) more)(hc:14<=c)(hin:U1 K.pool K.nl c a)(f:Fin K W D G H0 g c a more k i s.loc.length s)
 (next:23<=c->Ci lfp G (Runs F G) k (.int .i64 (.ofNat i) 0) (.ptr D.pb 0) (.ptr D.xb 0) D.lv (.ptr D.sb 0) (.ptr D.ab 0) (Lh D) (Ep D) (.ptr D.nb 0) (.ptr D.yb 0) (.int .i64 (.ofNat c) 0) (.bool (decide (c=23)||decide (c=24))) H n):
 Ce lfp G (Runs F G) k (.int .i64 (.ofNat i) 0) (.ptr D.pb 0) (.ptr D.xb 0) D.lv (.ptr D.sb 0) (.ptr D.ab 0) (Lh D) (Ep D) (.ptr D.nb 0) (.ptr D.yb 0) (tJ D) (.int .i64 (.ofNat c) 0) (.bool false) H n:=by
 delta Ce
 rw[BZ,Fa,AV]
 by_cases h:c=14
 ·rw[decide_eq_true h,Bz,Aj o.o.num,AV]
  refine o.take FN λH1 n1 o _=>?_
  rw[Aj o.o.num,AV]
  refine o.give FN λH2 n2 o _=>f _ _ _ _ o rfl ?_
  subst h
  exact MX (c:=K.cx) (s:=s) (ws:=[CY]) (t:=CY)
 rw[decide_eq_false h,BZ,Fa,AV]
 by_cases h:c=15
 ·rw[decide_eq_true h,Bz,Aj o.o.yes,AV]
  refine o.take J7 λH1 n1 o _=>?_
  rw[Aj o.o.yes,AV]
  refine o.give J7 λH2 n2 o _=>f _ _ _ _ o rfl ?_
  subst h
  exact MX (c:=K.cx) (s:=s) (ws:=[Dh]) (t:=Dh)
 rw[decide_eq_false h,BZ,Fa,AV]
 by_cases h:c=16
 ·rw[decide_eq_true h,Bz]
  have hi:=hin.fl (.inl h)
  obtain⟨_,_,_,ok1,ok2⟩:=ACz o.o.en hi
  refine o.own hG hi λH1 n1 o=>?_
  refine o.take ok2 λH2 n2 o _=>?_
  refine o.fty hG hi ?_
  refine o.give ok1 λH2 n2 o _=>f _ _ _ _ o rfl ?_
  subst h
  exact MX (c:=K.cx) (s:=s) (ws:=[⟨(K.cx.fl (.ofNat a)).own,false⟩]) (t:=(K.cx.fl (.ofNat a)).f.ty)
 rw[decide_eq_false h,BZ,Fa,AV]
 by_cases h:c=17
 ·rw[decide_eq_true h,Bz]
  have hi:=hin.fl (.inr h)
  obtain⟨_,_,_,ok1,ok2⟩:=ACz o.o.en hi
  refine o.fty hG hi ?_
  refine o.take ok1 λH1 n1 o _=>?_
  refine o.own hG hi λH2 n2 o=>?_
  refine o.take ok2 λH2 n2 o _=>f _ _ _ _ o.o rfl ?_
  subst h
  exact aY (c:=K.cx) (s:=s) (ws:=[(K.cx.fl (.ofNat a)).f.ty,⟨(K.cx.fl (.ofNat a)).own,false⟩])
 rw[decide_eq_false h,BZ,Fa,AV]
 by_cases h:c=18
 ·rw[decide_eq_true h,Bz]
  have hi:=hin.nm (.inl h)
  obtain⟨_,_,_,ok1⟩:=AKU o.o.en hi
  refine o.cls hi λH1 n1 o=>?_
  refine o.give (t:=K.cx.cl (.ofNat a)) ok1 λH2 n2 o _=>f _ _ _ _ o rfl ?_
  subst h
  exact MX (c:=K.cx) (s:=s) (ws:=[]) (t:=K.cx.cl (.ofNat a))
 rw[decide_eq_false h,BZ,Fa,AV]
 by_cases h:c=19
 ·rw[decide_eq_true h,Bz,Aj o.o.num,AV]
  have hi:=hin.ty (.inl h)
  have ok1:=AKv o.o.en hi
  refine o.take FN λH1 n1 o _=>?_
  refine o.arr hi λH2 n2 o _=>?_
  refine o.give ok1 λH3 n3 o _=>f _ _ _ _ o rfl ?_
  subst h
  have e:stepT K.cx s ⟨.ofNat 19,.ofNat a⟩=ABG K.cx s (bif (K.cx.ty (.ofNat a)).arr then some ([CY],some (K.cx.ty (.ofNat a)))else none):=rfl
  rw[e]
  cases ha:(K.cx.ty (.ofNat a)).arr with
  |true=>
   have:=jh ha (RX K.fs CY (s.stk,false))
   rw[ha]at this
   rw[this]
   exact MX (c:=K.cx) (s:=s) (ws:=[CY])
  |false=>
   have:=AFn ha (RX K.fs CY (s.stk,false))
   rw[ha]at this
   rw[tK (rD this)];rfl
 rw[decide_eq_false h,BZ,Fa,AV]
 by_cases h:c=20
 ·rw[decide_eq_true h,Bz,Aj o.o.num,AV]
  have hi:=hin.ty (.inr (.inl h))
  have ok1:=AKv o.o.en hi
  refine o.take FN λH1 n1 o _=>?_
  refine o.arr hi λH2 n2 o _=>?_
  refine o.take ok1 λH3 n3 o _=>?_
  refine o.arr hi λH4 n4 o _=>?_
  refine ADo λH5 n5 f5=>?_
  have o:=o.kp f5
  refine o.give (t:=Rl (K.cx.ty (.ofNat a))) ok1 λH3 n3 o _=>f _ _ _ _ o rfl ?_
  subst h
  have e:stepT K.cx s ⟨.ofNat 20,.ofNat a⟩=ABG K.cx s (bif (K.cx.ty (.ofNat a)).arr then some ([CY,K.cx.ty (.ofNat a)],some (Rl (K.cx.ty (.ofNat a))))else none):=rfl
  rw[e]
  cases ha:(K.cx.ty (.ofNat a)).arr with
  |true=>
   have e1:=jh ha (RX K.fs CY (s.stk,false))
   rw[ha]at e1
   rw[e1]
   have e2:=jh ha (RX K.fs (K.cx.ty (.ofNat a)) (RX K.fs CY (s.stk,false)))
   rw[ha]at e2
   rw[e2]
   exact MX (c:=K.cx) (s:=s) (ws:=[CY,K.cx.ty (.ofNat a)])
  |false=>
   have e1:=AFn ha (RX K.fs (K.cx.ty (.ofNat a)) ((RX K.fs CY (s.stk,false)).1,(RX K.fs CY (s.stk,false)).2|| !(K.cx.ty (.ofNat a)).arr))
   rw[ha]at e1
   rw[tK (rD e1)];rfl
 rw[decide_eq_false h,BZ,Fa,AV]
 by_cases h:c=21
 ·rw[decide_eq_true h,Bz]
  have hi:=hin.ty (.inr (.inr h))
  have ok1:=AKv o.o.en hi
  refine o.arr hi λH1 n1 o _=>?_
  refine ADo λH2 n2 f2=>?_
  have o:=o.kp f2
  refine o.take (t:=Rl (K.cx.ty (.ofNat a))) ok1 λH3 n3 o _=>?_
  rw[Aj o.o.num,AV]
  refine o.take FN λH4 n4 o _=>?_
  refine o.arr hi λH5 n5 o _=>?_
  refine o.take ok1 λH6 n6 o _=>f _ _ _ _ o.o rfl ?_
  subst h
  have e:stepT K.cx s ⟨.ofNat 21,.ofNat a⟩=ABG K.cx s (bif (K.cx.ty (.ofNat a)).arr then some ([Rl (K.cx.ty (.ofNat a)),CY,K.cx.ty (.ofNat a)],none)else none):=rfl
  rw[e]
  cases ha:(K.cx.ty (.ofNat a)).arr with
  |true=>
   have e1:=jh ha (s.stk,false)
   rw[ha]at e1
   rw[e1]
   have e2:=jh ha (RX K.fs CY (RX K.fs (Rl (K.cx.ty (.ofNat a))) (s.stk,false)))
   rw[ha]at e2
   rw[e2]
   exact aY (c:=K.cx) (s:=s) (ws:=[Rl (K.cx.ty (.ofNat a)),CY,K.cx.ty (.ofNat a)])
  |false=>
   rw[tK (ABP (by show(_|| !false)=true;exact Bool.or_true _))];rfl
 rw[decide_eq_false h,BZ,Fa,AV]
 by_cases h:c=22
 ·rw[decide_eq_true h,Bz]
  exact o.ARw h f
 rw[decide_eq_false h,BZ,Fa,AV]
 have nx:=next (by omega)
 by_cases h:c=23
 ·rw[decide_eq_true h]at nx⊢
  rw[Bz]
  exact nx
 rw[decide_eq_false h]at nx⊢
 rw[BZ,Fa,AV]
 exact nx
end
section
variable{K:O6}{W:Wv}{D:Gn}{G:AQ}{H0 H H' H'':Heap}{n n' n'' i x:Nat}{g:JU}{c a:Nat}{loc loc':List Ty}{p p':mg}{more:Bool}{k:KV}{s:CG}
theorem AQj(o:Gl K W D G H0 H n g c a s.loc (s.stk,false) more)(hc:c=23∨c=24)(hin:U1 K.pool K.nl c a)(f:Fin K W D G H0 g c a more k i s.loc.length s){v:V}:
 Ci lfp G (Runs F G) k (.int .i64 (.ofNat i) 0) (.ptr D.pb 0) (.ptr D.xb 0) D.lv (.ptr D.sb 0) (.ptr D.ab 0) (Lh D) (Ep D) (.ptr D.nb 0) (.ptr D.yb 0) v (.bool true) H n:=by
 delta Ci
 have o0:=o.o
 have hok:=o.o.gs.ok
 have hi:=hin.nm (by omega)
 obtain⟨_,_,_,okn⟩:=AKU o.o.en hi
 obtain⟨hok1,hok1'⟩:=any_ok (b:=false) hok
 rw[Bz,AU (off:=0) o.o.a (v:=kM D) rfl,AV]
 refine o.any λH1 n1 o _=>?_
 refine o.lay λH2 o g2 _=>?_
 have key:∀b,b=(!((I5 (s.stk,false)).1.cls||(I5 (s.stk,false)).1.is Ba))->stS s.loc (VW (ay K.mx (bif decide (c=24)then Dh else K.cx.cl (.ofNat a)) ((I5 (s.stk,false)).2.1,(I5 (s.stk,false)).2.2||b)))=stepT K.cx s ⟨.ofNat c,.ofNat a⟩:=by
  rintro b rfl
  rw[kN]
  obtain⟨loc,stk⟩:=s
  cases stk with
  |nil=>rcases hc with rfl|rfl<;>rfl
  |cons t r=>
   have e:stepT K.cx ⟨loc,t::r⟩ ⟨.ofNat c,.ofNat a⟩=bif t.cls||t.is Ba then(C9 K.mx (bif decide (c=24)then Dh else K.cx.cl (.ofNat a)) r).map λk=>⟨loc,k⟩else none:=by
    rcases hc with rfl|rfl<;>rfl
   rw[e]
   show stS loc ((VW (r,false|| !(t.cls||t.is Ba))).bind _)=_
   cases t.cls<;>cases t.is Ba<;>rfl
 generalize(I5 (s.stk,false)).1=ta at*
 have fin:∀{b:Bool} {H' n'},Gl K W (D.more n1) G H0 H' n' g c a s.loc (I5 (s.stk,false)).2 more->b=(!(ta.cls||ta.is Ba))->
  AZ (.bool b) true (AL (AY (.ptr D.pb 0) G H') λv277=>AL (Ah v277) λv278=>AL (AP 20 v278) λv279=>Bg 1 v279 (.bool true) H' n' λv280 H n=>
  DZ lfp G (Runs F G) k (.int .i64 (.ofNat i) 0) (.ptr D.pb 0) (.ptr D.xb 0) D.lv (.ptr D.sb 0) (Ep D) (.ptr D.yb 0) H n) (DZ lfp G (Runs F G) k (.int .i64 (.ofNat i) 0) (.ptr D.pb 0) (.ptr D.xb 0) D.lv (.ptr D.sb 0) (Ep D) (.ptr D.yb 0) H' n'):=by
  rintro b H' n' o hb
  refine o.tst (P:=λH n=>DZ lfp G (Runs F G) k (.int .i64 (.ofNat i) 0) (.ptr D.pb 0) (.ptr D.xb 0) D.lv (.ptr D.sb 0) (Ep D) (.ptr D.yb 0) H n) λH5 o _=>?_
  delta DZ
  have kk:=key b hb
  rw[BG,AV,AU (off:=0+0) o.o.x (v:=.int .i64 (.ofNat c) 0) rfl,AV,Fa,AV]
  cases h24:decide (c=24)with
  |true=>
   rw[h24]at kk
   rw[Bz,Aj o.o.yes,AV]
   exact o.give (D:=D.more n1) J7 λH6 n6 o _=>f _ _ _ _ (o0.weak o) rfl kk
  |false=>
   rw[h24]at kk
   rw[BZ]
   refine o.cls (D:=D.more n1) hi λH6 n6 o=>?_
   exact o.give (D:=D.more n1) (t:=K.cx.cl (.ofNat a)) okn λH6 n6 o _=>f _ _ _ _ (o0.weak o) rfl kk
 rw[Aj g2,AV]
 refine uJ hok1 λH3 n3 f3=>?_
 have o:=o.kp f3
 have g3:=f3.get g2 (by omega)
 rw[BL,AV]
 cases h1:ta.cls with
 |true=>
  rw[h1]at fin
  simp only[Bool.not_true,go_sem]
  exact fin o rfl
 |false=>
  rw[h1]at fin
  simp only[Bool.not_false,go_sem,Aj g3]
  refine Qk λH4 n4 f4=>?_
  refine AIo (Aj (f4.get g3 (by have:=f3.le;omega))) (NU ta) ?_
  simp only[go_sem,fQ]
  exact fin (o.kp f4) rfl
theorem ARs(hE:K.En G H)(hi:a<K.pool.Bv.length):∃p w,Ai 6 K.v4 (.int .i64 (.ofNat a) 0)=some p/\Af 6 p G H=some (.agg ((K.cx.me (.ofNat a)).cells w))/\L6 G H K.kb w (K.cx.me (.ofNat a)).m.ps/\(K.cx.me (.ofNat a)).m.ret.nm.ok/\(K.cx.me (.ofNat a)).own.ok:=by
 have hw:a<K.ws.length:=by rw[hE.pool.vJ];exact hi
 obtain⟨p,hp,hld⟩:=hE.pool.e4.at (i:=a) (c:=K.pool.Bv[a].cells K.ws[a]) (by simp[List.getElem?_zipWith,hi,hw])
 have e:K.cx.me (.ofNat a)=K.pool.Bv[a]:=by
  show K.pool.Bv.getD a mZ=_
  rw[List.getD_eq_getElem?_getD,List.getElem?_eq_getElem hi];rfl
 rw[e]
 exact⟨p,K.ws[a],hp,Bl hld,hE.pool.at4 a _ _ (List.getElem?_eq_getElem hi) (List.getElem?_eq_getElem hw),(hE.pool.o4 _ (List.getElem_mem hi)).2⟩
theorem AML(o:Gl K W D G H0 H n g c a loc p more){mb:Nat}{m:PM}{w:V}(hmb:D.Pr mb/\mb≠D.sb)(gm:T.get H mb=some (one (m.cells w)))(hw:L6 G H K.kb w m.m.ps)(hlen:m.m.ps.length<=100000)
 (hk:∀H' n',Gl K W D G H0 H' n' g c a loc (VX K.fs m.m.ps.reverse p) more->T.get H' mb=some (one (m.cells w))->G5 lfp G (Runs F G) k (.int .i64 (.ofNat i) 0) (.ptr D.pb 0) (.ptr D.xb 0) D.lv (.ptr D.sb 0) (Lh D) (Ep D) (.ptr mb 0) H' n'):
 DW lfp G (Runs F G) k (.int .i64 (.ofNat i) 0) (.ptr D.pb 0) (.ptr D.xb 0) D.lv (.ptr D.sb 0) (Lh D) (Ep D) (.ptr mb 0) H n:=by
 delta DW
 have kn:=o.o.gs.w.kn
 rw[BG,AV,BG,AV,AU (off:=0+0+2) gm (v:=w) rfl,AV,hw.len,AV,sub_one _ (by omega),AV]
 refine Bc (N:=m.m.ps.length) (J:=λj st=>∃H' n',st=(.int .i64 (.ofNat i) 0,.ptr D.pb 0,.ptr D.xb 0,D.lv,.ptr D.sb 0,Lh D,Ep D,.ptr mb 0,.int .i64 ((m.m.ps.length:Int)-1-(j:Int)) 0,H',n')/\
  Gl K W D G H0 H' n' g c a loc (VX K.fs (m.m.ps.reverse.take j) p) more/\Kg K W D.N D.Pr D.sb H n H' n'/\j<=m.m.ps.length) ?_ ?_ ⟨H,n,by simp,o,.refl,Nat.zero_le _⟩
 ·rintro I j st hj ⟨H1,n1,rfl,o1,kg1,hle⟩ ih
  show FC lfp G (Runs F G) k I (.int .i64 (.ofNat i) 0) (.ptr D.pb 0) (.ptr D.xb 0) D.lv (.ptr D.sb 0) (Lh D) (Ep D) (.ptr mb 0) (.int .i64 ((m.m.ps.length:Int)-1-(j:Int)) 0) H1 n1
  delta FC
  have gm1:=(kg1.pr mb hmb.1 hmb.2).trans gm
  have hw1:=hw.ke ((kg1.kb (by omega)).ke (G:=G) o.o.en.img.tab.seen)
  have hidx:m.m.ps.length-1-j<m.m.ps.length:=by omega
  have ei:(m.m.ps.length:Int)-1-(j:Int)=Int.ofNat (m.m.ps.length-1-j):=by show _=((m.m.ps.length-1-j:Nat):Int);omega
  obtain⟨q,hq,hld⟩:=hw1.el.at (NT hidx)
  have hld:Af 2 q G H1=some (m.m.ps[m.m.ps.length-1-j]).v:=Bl hld
  have hok:=hw.ok _ (List.getElem_mem hidx)
  have et:m.m.ps.reverse.take (j+1)=m.m.ps.reverse.take j++[m.m.ps[m.m.ps.length-1-j]]:=by
   rw[List.take_succ_eq_append_getElem (by simpa using hj),List.getElem_reverse]
  rw[AIP,decide_eq_true (by show(0:Int)<=_;omega),AV,Bz,BG,AV,BG,AV,AU (off:=0+0+2) gm1 (v:=w) rfl,AV,ei,hq,AV,hld,AV]
  refine o1.take hok λH2 n2 o2 kg2=>?_
  rw[sub_one _ (by omega),AV]
  refine ih _ ⟨H2,n2,?_,?_,kg1.trans kg2,hj⟩
  ·have:((m.m.ps.length-1-j:Nat):Int)-1=(m.m.ps.length:Int)-1-((j+1:Nat):Int):=by omega
   rw[this]
  ·rw[et,vF]
   exact o2
 ·rintro I st ⟨H1,n1,rfl,o1,kg1,hle⟩
  show FC lfp G (Runs F G) k I (.int .i64 (.ofNat i) 0) (.ptr D.pb 0) (.ptr D.xb 0) D.lv (.ptr D.sb 0) (Lh D) (Ep D) (.ptr mb 0) (.int .i64 ((m.m.ps.length:Int)-1-(m.m.ps.length:Int)) 0) H1 n1
  delta FC
  rw[AIP,decide_eq_false (by show ¬((0:Int)<=_);omega),AV,BZ]
  rw[List.take_of_length_le (by simp)]at o1
  exact hk _ _ o1 ((kg1.pr mb hmb.1 hmb.2).trans gm)
theorem uw{fs:Tab}:∀(ws:List Ty) {q:mg},q.2=true->(VX fs ws q).2=true
 |[],_,h=>h
 |_::ws,_,h=>uw ws (ABP h)
theorem AL3(o:Gl K W D G H0 H n g c a s.loc (s.stk,false) more)(hc:c=25∨c=26)(hin:U1 K.pool K.nl c a)(hps:∀m∈K.pool.Bv,m.m.ps.length<=100000)(f:Fin K W D G H0 g c a more k i s.loc.length s){v:V}:
 DT lfp G (Runs F G) k (.int .i64 (.ofNat i) 0) (.ptr D.pb 0) (.ptr D.xb 0) D.lv (.ptr D.sb 0) (.ptr D.ab 0) (Lh D) (Ep D) (.ptr D.nb 0) (.ptr D.yb 0) v (.bool true) H n:=by
 delta DT
 have o0:=o.o
 have hi:=hin.me (by omega)
 obtain⟨q,w,hq,hld,hw,okr,oko⟩:=ARs o.o.en hi
 have hlen:(K.cx.me (.ofNat a)).m.ps.length<=100000:=by
  have e:K.cx.me (.ofNat a)=K.pool.Bv[a]:=by
   show K.pool.Bv.getD a mZ=_
   rw[List.getD_eq_getElem?_getD,List.getElem?_eq_getElem hi];rfl
  rw[e]
  exact hps _ (List.getElem_mem hi)
 have key:∀b,b=(!((K.cx.me (.ofNat a)).m.st==decide (c=26)))->stS s.loc (VW (ay K.mx (K.cx.me (.ofNat a)).m.ret (bif decide (c=25)then RX K.fs ⟨(K.cx.me (.ofNat a)).own,false⟩ (VX K.fs (K.cx.me (.ofNat a)).m.ps.reverse (s.stk,false||b))else VX K.fs (K.cx.me (.ofNat a)).m.ps.reverse (s.stk,false||b))))=stepT K.cx s ⟨.ofNat c,.ofNat a⟩:=by
  rintro b rfl
  rcases hc with rfl|rfl
  ·have e:stepT K.cx s ⟨.ofNat 25,.ofNat a⟩=ABG K.cx s (bif (K.cx.me (.ofNat a)).m.st then none else some ((K.cx.me (.ofNat a)).m.ps.reverse++[⟨(K.cx.me (.ofNat a)).own,false⟩],some (K.cx.me (.ofNat a)).m.ret)):=rfl
   rw[e]
   cases hst:(K.cx.me (.ofNat a)).m.st with
   |true=>
    rw[tK (rD (by exact ABP (uw _ rfl)))];rfl
   |false=>
    have:=MX (c:=K.cx) (s:=s) (ws:=(K.cx.me (.ofNat a)).m.ps.reverse++[⟨(K.cx.me (.ofNat a)).own,false⟩]) (t:=(K.cx.me (.ofNat a)).m.ret)
    rw[vF]at this
    exact this
  ·have e:stepT K.cx s ⟨.ofNat 26,.ofNat a⟩=ABG K.cx s (bif (K.cx.me (.ofNat a)).m.st then some ((K.cx.me (.ofNat a)).m.ps.reverse,some (K.cx.me (.ofNat a)).m.ret)else none):=rfl
   rw[e]
   cases hst:(K.cx.me (.ofNat a)).m.st with
   |false=>
    rw[tK (rD (by exact uw _ rfl))];rfl
   |true=>
    exact MX (c:=K.cx) (s:=s) (ws:=(K.cx.me (.ofNat a)).m.ps.reverse) (t:=(K.cx.me (.ofNat a)).m.ret)
 generalize K.cx.me (.ofNat a)=mm at*
 have kn:=o.o.gs.w.kn
 have hN:=o.o.gs.hN
 simp only[Bz,go_sem,Nat.reduceAdd,AU (off:=0) o.o.gs.Wl (v:=.ptr K.kb 0) rfl,AU (off:=9) o.o.gs.w.box (v:=K.v4) rfl,AU (off:=1) o.o.x (v:=.int .i64 (.ofNat a) 0) rfl,hq,hld]
 show Bg 6 (.ptr n 0) (.agg (mm.cells w)) _ _ _
 refine VH rfl rfl (by omega) λH2 f2 g2=>?_
 have o:=o.box f2
 have hw:=hw.ke ((f2.kb (b:=K.b) (by have:=o0.en.img.tab.bn;omega)).low (m:=K.kb) (by omega) |>.ke (G:=G) o0.en.img.tab.seen)
 have hsb:n≠D.sb:=by have:=(o0.gs.pr _ o0.gs.ps).2;omega
 have fin:∀{b:Bool} {H' n'},Gl K W (D.more n) G H0 H' n' g c a s.loc (s.stk,false||b) more->T.get H' n=some (one (mm.cells w))->L6 G H' K.kb w mm.m.ps->b=(!(mm.m.st==decide (c=26)))->
  DW lfp G (Runs F G) k (.int .i64 (.ofNat i) 0) (.ptr D.pb 0) (.ptr D.xb 0) D.lv (.ptr D.sb 0) (Lh D) (Ep D) (.ptr n 0) H' n':=by
  rintro b H' n' o g' hw' hb
  have kk:=key b hb
  refine AML (D:=D.more n) o ⟨.inr rfl,hsb⟩ g' hw' hlen λH3 n3 o g3=>?_
  delta G5
  rw[BG,AV,AU (off:=0+0) o.o.x (v:=.int .i64 (.ofNat c) 0) rfl,AV,Fa,AV]
  have last:∀{q:mg} {H' n'},Gl K W (D.more n) G H0 H' n' g c a s.loc q more->T.get H' n=some (one (mm.cells w))->stS s.loc (VW (ay K.mx mm.m.ret q))=stepT K.cx s ⟨.ofNat c,.ofNat a⟩->
   FK lfp G (Runs F G) k (.int .i64 (.ofNat i) 0) (.ptr D.pb 0) (.ptr D.xb 0) D.lv (.ptr D.sb 0) (Ep D) (.ptr n 0) H' n':=by
   intro q H' n' o g' kk
   delta FK
   rw[BG,AV,BG,AV,F8 g' (by omega) (by show 0+0+3+2<=6;omega),AV]
   exact o.give (D:=D.more n) (t:=mm.m.ret) okr λH6 n6 o _=>f _ _ _ _ (o0.weak o) rfl kk
  cases h25:decide (c=25)with
  |true=>
   rw[h25]at kk
   rw[Bz,BG,AV,AU (off:=0+5) g3 (v:=mm.own.v) rfl,AV]
   refine iO λH4 n4 f4=>?_
   have o4:=o.kp f4
   refine o4.take (t:=⟨mm.own,false⟩) oko λH5 n5 o5 kg5=>?_
   exact last o5 ((kg5.pr n (.inr rfl) hsb).trans (f4.get g3 (o.o.gs.pr n (.inr rfl)).2)) kk
  |false=>
   rw[h25]at kk
   rw[BZ]
   exact last o g3 kk
 simp only[go_sem,Nat.reduceAdd,AU (off:=1) g2 (v:=.bool mm.m.st) rfl,AU (off:=0) o.o.x (v:=.int .i64 (.ofNat c) 0) rfl,Fa,ATS]
 have tst:=o.tst (b:= !(mm.m.st==decide (c=26))) (P:=λH n'=>DW lfp G (Runs F G) k (.int .i64 (.ofNat i) 0) (.ptr D.pb 0) (.ptr D.xb 0) D.lv (.ptr D.sb 0) (Lh D) (Ep D) (.ptr n 0) H n') λH5 o5 kg5=>
  fin o5 ((kg5.pr n (.inr rfl) hsb).trans g2) (hw.ke ((kg5.kb (by show K.kb<=D.N;omega)).ke (G:=G) o.o.en.img.tab.seen)) rfl
 simpa only[go_sem,Nat.reduceAdd,AU (off:=0) o.o.gs.Wl (v:=.ptr K.kb 0) rfl]using tst
theorem APP(o:Gl K W D G H0 H n g c a s.loc (s.stk,false) more)(hc:27<=c/\c<=31)(f:Fin K W D G H0 g c a more k i s.loc.length s):
 DT lfp G (Runs F G) k (.int .i64 (.ofNat i) 0) (.ptr D.pb 0) (.ptr D.xb 0) D.lv (.ptr D.sb 0) (.ptr D.ab 0) (Lh D) (Ep D) (.ptr D.nb 0) (.ptr D.yb 0) (.int .i64 (.ofNat c) 0) (.bool false) H n:=by
 delta DT
 rw[BZ,Fa,AV]
 by_cases h:c=28
 ·rw[decide_eq_true h,Bz,Aj o.o.yes,AV]
  refine o.take J7 λH1 n1 o _=>f _ _ _ _ o.o rfl ?_
  subst h
  exact aY (c:=K.cx) (s:=s) (ws:=[Dh])
 rw[decide_eq_false h,BZ,Fa,AV]
 by_cases h:c=30
 ·rw[decide_eq_true h,Bz,Aj o.o.num,AV]
  refine o.take FN λH1 n1 o _=>f _ _ _ _ o.o rfl ?_
  subst h
  exact aY (c:=K.cx) (s:=s) (ws:=[CY])
 rw[decide_eq_false h,BZ,Fa,AV]
 by_cases h:c=31
 ·rw[decide_eq_true h,Bz,AU (off:=0) o.o.a (v:=kM D) rfl,AV]
  refine o.any λH1 n1 o _=>f _ _ _ _ o.o rfl ?_
  subst h
  obtain⟨loc,stk⟩:=s
  cases stk<;>rfl
 rw[decide_eq_false h,BZ,Fa,AV]
 by_cases h:c=29
 ·rw[decide_eq_true h,Bz]
  have hr:Af 2 (.ptr K.kb 17) G H=some K.ret.v:=F8 o.o.gs.w.box (by omega) (by show 17+2<=22;omega)
  simp only[go_sem,Nat.reduceAdd,AU (off:=0) o.o.gs.Wl (v:=.ptr K.kb 0) rfl,hr]
  refine o.take o.o.en.rok λH1 n1 o _=>f _ _ _ _ o.o rfl ?_
  subst h
  exact aY (c:=K.cx) (s:=s) (ws:=[K.ret])
 rw[decide_eq_false h,BZ]
 refine f _ _ _ _ o.o rfl ?_
 have h:c=27:=by omega
 subst h
 exact aY (c:=K.cx) (s:=s) (ws:=[])
end
theorem AE3{G:AQ}{H:Heap}{n m:Nat}{t:T LV}{A:Nat->Prop}{v:V}{ts:List Ty}{P:KV}(hg:T.get H m=some (.arr 2 0 t))(hm:m<n)(h:Sv G H A v ts)(hb:ts.length<=100000)
 (hk:∀v' H' n',Kp H n H' n'->Sk H' 2 (λid=>(id=m∨n<=id)/\id<n') v' (tys ts)->P v' H' n'):Va 2 24 (.sl m 0 0 0 2) v G H n P:=by
 have he:=h.el
 have hb:(tys ts).length<=100000:=by rw[Cb];exact hb
 generalize tys ts=LS at*
 cases LS with
 |nil=>exact zx hg he.2 λH' hs=>hk _ _ _ ⟨Nat.le_refl _,λid hid=>hs id⟩ (.emp ((hs _).trans hg) ⟨.inl rfl,hm⟩)
 |cons a NS=>
  refine yc (t:=t) (by omega) he.2 (by omega) λv' H' hgr hsame hlo=>?_
  refine hk _ _ _ ⟨by omega,λid hid=>hsame id hid⟩ ?_
  generalize hX:a::NS=X at hgr
  cases hgr with
  |nil=>cases hX
  |Ol hg hc ht hid=>
   have e:=hlo _ rfl
   exact .Ol hg hc ht ⟨.inr (by omega),by omega⟩
theorem ASC(q:IntKind)(x:Int):Fe (.int q x 0) (.int q x 0)=true:=by
 show QI (.int q x 0) (.int q x 0)=true
 simp[QI,ACj,BP]
section
variable{K:O6}{W:Wv}{D:Gn}{G:AQ}{H0 H H' H'':Heap}{n n' n'' i x:Nat}{g:JU}{c a:Nat}{loc loc':List Ty}{p p':mg}{more:Bool}{k:KV}{s:CG}
theorem ALd(o:Gl K W D G H0 H n g c a s.loc (s.stk,false) more)(hc:23<=c/\c<=31)(hin:U1 K.pool K.nl c a)(hps:∀m∈K.pool.Bv,m.m.ps.length<=100000)(f:Fin K W D G H0 g c a more k i s.loc.length s):
 Ci lfp G (Runs F G) k (.int .i64 (.ofNat i) 0) (.ptr D.pb 0) (.ptr D.xb 0) D.lv (.ptr D.sb 0) (.ptr D.ab 0) (Lh D) (Ep D) (.ptr D.nb 0) (.ptr D.yb 0) (.int .i64 (.ofNat c) 0) (.bool (decide (c=23)||decide (c=24))) H n:=by
 by_cases h:c=23∨c=24
 ·rw[show(decide (c=23)||decide (c=24))=true by simp[h]]
  exact AQj o h hin f
 ·rw[show(decide (c=23)||decide (c=24))=false by simp;omega]
  delta Ci
  rw[BZ,Fa,AV]
  by_cases h25:c=25
  ·rw[decide_eq_true h25,Bz]
   exact AL3 o (.inl h25) hin hps f
  rw[decide_eq_false h25,BZ,Fa,AV]
  by_cases h26:c=26
  ·rw[decide_eq_true h26]
   exact AL3 o (.inr h26) hin hps f
  rw[decide_eq_false h26]
  exact APP o (by omega) f
theorem AEn(hG:Oh G)(o:Gl K W D G H0 H n g c a s.loc (s.stk,false) more)(hc:12<=c/\c<=31)(hin:U1 K.pool K.nl c a)(hps:∀m∈K.pool.Bv,m.m.ps.length<=100000)(hgood:∀t∈s.stk,Gt t)(f:Fin K W D G H0 g c a more k i s.loc.length s){b:Bool}(hb:b=(decide (c=12)||decide (c=13))):
 Ce lfp G (Runs F G) k (.int .i64 (.ofNat i) 0) (.ptr D.pb 0) (.ptr D.xb 0) D.lv (.ptr D.sb 0) (.ptr D.ab 0) (Lh D) (Ep D) (.ptr D.nb 0) (.ptr D.yb 0) (tJ D) (.int .i64 (.ofNat c) 0) (.bool b) H n:=by
 subst hb
 by_cases h:c=12∨c=13
 ·rw[show(decide (c=12)||decide (c=13))=true by simp[h]]
  exact APB o h hgood f
 ·rw[show(decide (c=12)||decide (c=13))=false by simp;omega]
  exact AQa hG o (by omega) hin f λh=>ALd o ⟨h,hc.2⟩ hin hps f
theorem AEL(hG:Oh G)(o:Gl K W D G H0 H n g c a s.loc (s.stk,false) more)(hc:10<=c/\c<=31)(hin:U1 K.pool K.nl c a)(hps:∀m∈K.pool.Bv,m.m.ps.length<=100000)(hgood:∀t∈s.stk,Gt t)(f:Fin K W D G H0 g c a more k i s.loc.length s){b:Bool}(hb:b=(decide (c=10)||decide (c=11))):
 DR lfp G (Runs F G) k (.int .i64 (.ofNat i) 0) (.ptr D.pb 0) (.ptr D.xb 0) D.lv (.ptr D.sb 0) (.ptr D.ab 0) (Lh D) (Ep D) (.ptr D.nb 0) (.ptr D.yb 0) (tJ D) (.int .i64 (.ofNat c) 0) (.bool b) H n:=by
 subst hb
 by_cases h:c=10∨c=11
 ·rw[show(decide (c=10)||decide (c=11))=true by simp[h]]
  exact AQX o h f
 ·rw[show(decide (c=10)||decide (c=11))=false by simp;omega]
  delta DR
  rw[BZ,Fa,AV]
  by_cases h12:c=12
  ·rw[decide_eq_true h12,Bz]
   exact AEn hG o (by omega) hin hps hgood f (by simp[h12])
  rw[decide_eq_false h12,BZ,Fa,AV]
  exact AEn hG o (by omega) hin hps hgood f (by simp[h12])
theorem ALW(hG:Oh G)(o:Gl K W D G H0 H n g c a s.loc (s.stk,false) more)(hc:5<=c/\c<=31)(hin:U1 K.pool K.nl c a)(hps:∀m∈K.pool.Bv,m.m.ps.length<=100000)(hgood:∀t∈s.stk,Gt t)(f:Fin K W D G H0 g c a more k i s.loc.length s){b:Bool}(hb:b=decide (c<=9)):
 BD lfp G (Runs F G) k (.int .i64 (.ofNat i) 0) (.ptr D.pb 0) (.ptr D.xb 0) D.lv (.ptr D.sb 0) (.ptr D.ab 0) (Lh D) (Ep D) (.ptr D.nb 0) (.ptr D.yb 0) (tJ D) (.int .i64 (.ofNat c) 0) (.bool b) H n:=by
 subst hb
 by_cases h:c<=9
 ·rw[decide_eq_true h]
  exact APG o ⟨hc.1,h⟩ f
 ·rw[decide_eq_false h]
  delta BD
  rw[BZ,Fa,AV]
  by_cases h12:c=10
  ·rw[decide_eq_true h12,Bz]
   exact AEL hG o (by omega) hin hps hgood f (by simp[h12])
  rw[decide_eq_false h12,BZ,Fa,AV]
  exact AEL hG o (by omega) hin hps hgood f (by simp[h12])
theorem Go.AAo{q':IntKind}{t:Ty}{P:KV}(o:Go K W D G H0 H n g c a loc p more)(hi:x<loc.length)(ht:t.nm.ok)(hk:∀H',Go K W D G H0 H' n g c a (loc.set x t) p more->P .undef H' n):
 AL (Ai 2 D.lv (.int q' (.ofNat x) 0)) λq=>Bg 2 q t.v H n P:=by
 refine o.lv.put (w:=t.v) (by omega) (by rw[Cb];exact hi) rfl rfl λH' hl' s'=>?_
 have e:(tys loc).set x (Az t.v)=tys (loc.set x t):=by rw[show Az t.v=t.cells from rfl];exact(List.map_set ..).symm
 rw[e]at hl'
 have kn:=o.gs.w.kn
 have hpr:=o.gs.pr
 have hN:=o.gs.hN
 have same:∀id,¬(D.Pr id/\id≠D.sb/\id≠D.pb/\id≠D.xb/\id≠D.ab/\id≠D.nb/\id≠D.yb)->T.get H' id=T.get H id:=λid hid=>s' id λe=>hid (o.lv.own e)
 have ALi:∀id,id<D.N->T.get H' id=T.get H id:=λid hid=>same id λh=>by have:=hpr id h.1;omega
 obtain⟨v,gs,sk⟩:=o.gs.ABq
 refine hk H' ⟨⟨o.gs.w.mono (Nat.le_refl _) λid _ h2 _=>ALi id h2,hN,(same _ λh=>h.2.2.1 rfl).trans o.gs.Wl,⟨v,(same _ λh=>h.2.1 rfl).trans gs,sk.mono (λ_ h=>h) λid h=>same id λhh=>h.2.2 hh.1⟩,o.gs.pp,o.gs.ps,hpr,o.gs.ne,o.gs.ok⟩,
  o.en.bV ⟨Nat.le_refl _,λid h1 _=>ALi id (by omega),λhs=>hs.same (ALi _ (by have:=o.en.img.tab.bn;omega))⟩,(same _ λh=>h.2.2.2.1 rfl).trans o.x,(same _ λh=>h.2.2.2.2.1 rfl).trans o.a,(same _ λh=>h.2.2.2.2.2.1 rfl).trans o.num,(same _ λh=>h.2.2.2.2.2.2 rfl).trans o.yes,
  o.px,o.pa,o.pn,o.py,hl',λy hy=>?_,λid h1 h2 h3=>(ALi id h1).trans (o.low id h1 h2 h3),λhs=>(o.seen hs).same (ALi _ (by have:=o.en.img.tab.bn;omega))⟩
 rcases List.mem_or_eq_of_mem_set hy with hy|rfl
 ·exact o.okl y hy
 ·exact ht
end
section
variable{K:O6}{W:Wv}{D:Gn}{G:AQ}{H0 H H' H'':Heap}{n n' n'' i x:Nat}{g:JU}{c a:Nat}{loc loc':List Ty}{p p':mg}{more:Bool}{k:KV}{s:CG}
theorem AK9(hG:Oh G)(o:Gl K W D G H0 H n g c a s.loc (s.stk,false) more)(hin:U1 K.pool K.nl c a)(hnl:s.loc.length=K.nl)(hps:∀m∈K.pool.Bv,m.m.ps.length<=100000)
 (hgood:∀t∈s.stk,Gt t) (hgl:∀t∈s.loc,Gt t∨t=BI) (f:Fin K W D G H0 g c a more k i s.loc.length s):
 AL (AP 0 (.ptr D.xb 0)) λv68=>AL (AY v68 G H) λv69=>AL (Cc (.one .int) false v69 (.int .i64 (.ofNat 1) 0)) λv70=>AZ v70 true (AL (Af 2 (.ptr D.nb 0) G H) λv71=>BQ (.fn Ap [] [(.ptr D.sb 0),(.ptr D.pb 0)]) [v71] (Runs F G) H n λv72 H n=>Ad lfp G (Runs F G) k (.int .i64 (.ofNat i) 0) (.ptr D.pb 0) (.ptr D.xb 0) D.lv (.ptr D.sb 0) H n) (AL (Cc (.one .int) false v69 (.int .i64 (.ofNat 32) 0)) λv73=>AZ v73 true (AL (Af 2 (.ptr D.yb 0) G H) λv74=>BQ (.fn Ap [] [(.ptr D.sb 0),(.ptr D.pb 0)]) [v74] (Runs F G) H n λv75 H n=>Ad lfp G (Runs F G) k (.int .i64 (.ofNat i) 0) (.ptr D.pb 0) (.ptr D.xb 0) D.lv (.ptr D.sb 0) H n) (AL (Cc (.one .int) false v69 (.int .i64 (.ofNat 2) 0)) λv76=>AZ v76 true (Runs F G D8 [] H n λv77 H n=>BQ (.fn Ap [] [(.ptr D.sb 0),(.ptr D.pb 0)]) [v77] (Runs F G) H n λv78 H n=>Ad lfp G (Runs F G) k (.int .i64 (.ofNat i) 0) (.ptr D.pb 0) (.ptr D.xb 0) D.lv (.ptr D.sb 0) H n) (AL (Cc (.one .int) false v69 (.int .i64 (.ofNat 3) 0)) λv79=>AZ v79 true (AL (AP 1 (.ptr D.xb 0)) λv86=>AL (AY v86 G H) λv87=>AL (Ai 2 D.lv v87) λv88=>AL (AP 0 v88) λv89=>AL (AY v89 G H) λv90=>AL (Cc (.one .str) false v90 (.str 0 0)) λv91=>AZ v91 true (AL (AY (.ptr D.pb 0) G H) λv92=>AL (Ah v92) λv93=>AL (AP 20 v93) λv94=>Bg 1 v94 (.bool true) H n λv95 H n=>Dp lfp G (Runs F G) k (.int .i64 (.ofNat i) 0) (.ptr D.pb 0) (.ptr D.xb 0) D.lv (.ptr D.sb 0) (.fn Ap [] [(.ptr D.sb 0),(.ptr D.pb 0)]) H n) (Dp lfp G (Runs F G) k (.int .i64 (.ofNat i) 0) (.ptr D.pb 0) (.ptr D.xb 0) D.lv (.ptr D.sb 0) (.fn Ap [] [(.ptr D.sb 0),(.ptr D.pb 0)]) H n)) (AL (Cc (.one .int) false v69 (.int .i64 (.ofNat 4) 0)) λv96=>AZ v96 true (AL (AP 1 (.ptr D.xb 0)) λv97=>AL (AY v97 G H) λv98=>AL (AY (.ptr D.ab 0) G H) λv99=>BQ v99 [] (Runs F G) H n λv100 H n=>AL (AY v97 G H) λv=>Lc (Fe v v98) <| AL (Ai 2 D.lv v98) λv101=>Bg 2 v101 v100 H n λv102 H n=>Ad lfp G (Runs F G) k (.int .i64 (.ofNat i) 0) (.ptr D.pb 0) (.ptr D.xb 0) D.lv (.ptr D.sb 0) H n) (AL (Cc (.one .int) false v69 (.int .i64 (.ofNat 5) 0)) λv391=>AZ v391 true (BD lfp G (Runs F G) k (.int .i64 (.ofNat i) 0) (.ptr D.pb 0) (.ptr D.xb 0) D.lv (.ptr D.sb 0) (.ptr D.ab 0) (.fn BU [] [(.ptr D.pb 0),(.ptr D.ab 0)]) (.fn Ap [] [(.ptr D.sb 0),(.ptr D.pb 0)]) (.ptr D.nb 0) (.ptr D.yb 0) (.fn BR [] [(.ptr D.pb 0),(.ptr D.xb 0)]) v69 v391 H n) (AL (Cc (.one .int) false v69 (.int .i64 (.ofNat 6) 0)) λv392=>AZ v392 true (BD lfp G (Runs F G) k (.int .i64 (.ofNat i) 0) (.ptr D.pb 0) (.ptr D.xb 0) D.lv (.ptr D.sb 0) (.ptr D.ab 0) (.fn BU [] [(.ptr D.pb 0),(.ptr D.ab 0)]) (.fn Ap [] [(.ptr D.sb 0),(.ptr D.pb 0)]) (.ptr D.nb 0) (.ptr D.yb 0) (.fn BR [] [(.ptr D.pb 0),(.ptr D.xb 0)]) v69 v392 H n) (AL (Cc (.one .int) false v69 (.int .i64 (.ofNat 7) 0)) λv393=>AZ v393 true (BD lfp G (Runs F G) k (.int .i64 (.ofNat i) 0) (.ptr D.pb 0) (.ptr D.xb 0) D.lv (.ptr D.sb 0) (.ptr D.ab 0) (.fn BU [] [(.ptr D.pb 0),(.ptr D.ab 0)]) (.fn Ap [] [(.ptr D.sb 0),(.ptr D.pb 0)]) (.ptr D.nb 0) (.ptr D.yb 0) (.fn BR [] [(.ptr D.pb 0),(.ptr D.xb 0)]) v69 v393 H n) (AL (Cc (.one .int) false v69 (.int .i64 (.ofNat 8) 0)) λv394=>AZ v394 true (BD lfp G (Runs F G) k (.int .i64 (.ofNat i) 0) (.ptr D.pb 0) (.ptr D.xb 0) D.lv (.ptr D.sb 0) (.ptr D.ab 0) (.fn BU [] [(.ptr D.pb 0),(.ptr D.ab 0)]) (.fn Ap [] [(.ptr D.sb 0),(.ptr D.pb 0)]) (.ptr D.nb 0) (.ptr D.yb 0) (.fn BR [] [(.ptr D.pb 0),(.ptr D.xb 0)]) v69 v394 H n) (AL (Cc (.one .int) false v69 (.int .i64 (.ofNat 9) 0)) λv395=>BD lfp G (Runs F G) k (.int .i64 (.ofNat i) 0) (.ptr D.pb 0) (.ptr D.xb 0) D.lv (.ptr D.sb 0) (.ptr D.ab 0) (.fn BU [] [(.ptr D.pb 0),(.ptr D.ab 0)]) (.fn Ap [] [(.ptr D.sb 0),(.ptr D.pb 0)]) (.ptr D.nb 0) (.ptr D.yb 0) (.fn BR [] [(.ptr D.pb 0),(.ptr D.xb 0)]) v69 v395 H n))))))))):=by
 have ho:=o.o
 have hlo:=hin.lo
 have hhi:=hin.hi
 rw[BG,AV,AU (off:=0+0) o.o.x (v:=.int .i64 (.ofNat c) 0) rfl,AV,Fa,AV]
 by_cases h:c=1
 ·rw[decide_eq_true h,Bz,Aj o.o.num,AV]
  refine o.give FN λH1 n1 o _=>f _ _ _ _ o rfl ?_
  subst h
  exact MX (c:=K.cx) (s:=s) (ws:=[]) (t:=CY)
 rw[decide_eq_false h,BZ,Fa,AV]
 by_cases h:c=32
 ·rw[decide_eq_true h,Bz,Aj o.o.yes,AV]
  refine o.give J7 λH1 n1 o _=>f _ _ _ _ o rfl ?_
  subst h
  exact MX (c:=K.cx) (s:=s) (ws:=[]) (t:=Dh)
 rw[decide_eq_false h,BZ,Fa,AV]
 by_cases h:c=2
 ·rw[decide_eq_true h,Bz]
  refine Qk λH1 n1 f1=>?_
  have o:=o.kp f1
  refine o.give AIM λH1 n1 o _=>f _ _ _ _ o rfl ?_
  subst h
  exact MX (c:=K.cx) (s:=s) (ws:=[]) (t:=Ba)
 rw[decide_eq_false h,BZ,Fa,AV]
 by_cases h:c=3
 ·rw[decide_eq_true h,Bz]
  have hi:=hin.lc (.inl h)
  rw[<-hnl]at hi
  have okt:=o.o.okl _ (List.getElem_mem hi)
  have hgt:=hgl _ (List.getElem_mem hi)
  have egd:s.loc.getD a BI=s.loc[a]:=by rw[List.getD_eq_getElem?_getD,List.getElem?_eq_getElem hi];rfl
  have e:stepT K.cx s ⟨.ofNat 3,.ofNat a⟩=bif (s.loc.getD a BI).is BI then none else(C9 K.mx (s.loc.getD a BI) s.stk).map λk=>⟨s.loc,k⟩:=rfl
  rw[egd]at e
  have ld:∀{H' n' q},Gl K W D G H0 H' n' g c a s.loc q more->∃p p0,Ai 2 D.lv (.int .i64 (.ofNat a) 0)=some p/\Af 2 p G H'=some (s.loc[a]).v/\AP 0 p=some p0/\AY p0 G H'=some (s.loc[a]).nm.v:=λo=>by
   obtain⟨p,hp,hld⟩:=(o.o.lv.el (G:=G) (by omega)).at (NT hi)
   obtain⟨p0,hp0,hl0⟩:=Um hG (o:=0) (x:=(s.loc[a]).nm.v) hld rfl rfl
   exact⟨p,p0,hp,Bl hld,hp0,hl0⟩
  generalize s.loc[a]=t at*
  have hb:decide (t.nm.1=0/\t.nm.2=0)=t.is BI:=by
   rw[Bool.eq_iff_iff,decide_eq_true_eq,Ty.QX]
   constructor
   ·rintro⟨h1,h2⟩
    rcases hgt with hg|hg
    ·exact absurd (Prod.ext h1 h2) hg.1
    ·exact hg
   ·rintro rfl
    exact⟨rfl,rfl⟩
  obtain⟨p,p0,hp,-,hp0,hl0⟩:=ld o
  rw[BG,AV,AU (off:=0+1) o.o.x (v:=.int .i64 (.ofNat a) 0) rfl,AV,hp,AV,hp0,AV,hl0,AV,show Cc (.one .str) false t.nm.v (.str 0 0)=some (.bool (decide (t.nm.1=0/\t.nm.2=0)))from yL ..,AV,hb]
  refine o.tst (P:=λH n=>Dp lfp G (Runs F G) k (.int .i64 (.ofNat i) 0) (.ptr D.pb 0) (.ptr D.xb 0) D.lv (.ptr D.sb 0) (Ep D) H n) λH1 o _=>?_
  delta Dp
  obtain⟨q,q0,hq,hl,-,-⟩:=ld o
  rw[BG,AV,AU (off:=0+1) o.o.x (v:=.int .i64 (.ofNat a) 0) rfl,AV,hq,AV,hl,AV]
  refine o.give okt λH2 n2 o _=>f _ _ _ _ o rfl ?_
  subst h
  rw[e,kN]
  show stS s.loc ((VW (s.stk,false||t.is BI)).bind _)=_
  cases t.is BI<;>rfl
 rw[decide_eq_false h,BZ,Fa,AV]
 by_cases h:c=4
 ·rw[decide_eq_true h,Bz]
  have hi:=hin.lc (.inr h)
  rw[<-hnl]at hi
  obtain⟨hok1,hok1'⟩:=any_ok (b:=false) o.o.gs.ok
  rw[BG,AV,AU (off:=0+1) o.o.x (v:=.int .i64 (.ofNat a) 0) rfl,AV,AU (off:=0) o.o.a (v:=kM D) rfl,AV]
  refine o.any λH1 n1 o _=>?_
  rw[AU (off:=0+1) o.o.x (v:=.int .i64 (.ofNat a) 0) rfl,AV,ASC,Qa]
  refine o.o.AAo hi hok1 λH2 o=>f _ _ _ _ o (by rw[List.length_set]) ?_
  subst h
  obtain⟨loc,stk⟩:=s
  cases stk<;>rfl
 rw[decide_eq_false h,BZ,Fa,AV]
 have rest:∀b,b=decide (c<=9)->_:=λb hb=>ALW hG o (by omega) hin hps hgood f hb
 by_cases h:c=5
 ·rw[decide_eq_true h,Bz]
  exact rest _ (by simp[h])
 rw[decide_eq_false h,BZ,Fa,AV]
 by_cases h:c=6
 ·rw[decide_eq_true h,Bz]
  exact rest _ (by simp[h])
 rw[decide_eq_false h,BZ,Fa,AV]
 by_cases h:c=7
 ·rw[decide_eq_true h,Bz]
  exact rest _ (by simp[h])
 rw[decide_eq_false h,BZ,Fa,AV]
 by_cases h:c=8
 ·rw[decide_eq_true h,Bz]
  exact rest _ (by simp[h])
 rw[decide_eq_false h,BZ,Fa,AV]
 exact rest _ (by rw[decide_eq_decide];omega)
theorem ASw(hG:Oh G)(hE:K.En G H)(hw:Qe K W H n g false more)(hg:g[i]? =some (some s))(hx:K.code[i]? =some ⟨.ofNat c,.ofNat a⟩)(hin:U1 K.pool K.nl c a)(hps:∀m∈K.pool.Bv,m.m.ps.length<=100000)
 (hgood:∀t∈s.stk,Gt t) (hgl:∀t∈s.loc,Gt t∨t=BI) (hst:s.stk.length<=K.mx.toNat)
 (h0:∀W' H' n' g' m' j,Qe K W' H' n' g' true m'->(∀id,id<n->W'.own id=W.own id)->Kf K W n H n H' n'->Gj K.cx g i ⟨.ofNat c,.ofNat a⟩ s=.inl j->k (.Fh []) H' n')
 (h1:∀W' H' n' g' ps,Gj K.cx g i ⟨.ofNat c,.ofNat a⟩ s=.inr (g',ps)->Qe K W' H' n' g' false (more|| !ps.isEmpty)->(∀id,id<n->W'.own id=W.own id)->Kf K W n H n H' n'->k (.Fh []) H' n'):
 Runs F G WH [.ptr K.kb 0,.int .i64 (.ofNat i) 0] H n k:=by
 refine BN (s:=RP (Ih lfp G)) Pq (by obtain⟨h,o⟩:=VD BO G;rw[Pq]at h;cases h;exact o) ?_
 show Ih lfp G (Runs F G) (.ptr K.kb 0) (.int .i64 (.ofNat i) 0) H n k
 delta Ih
 have hb:K.b<K.kb:=hE.img.tab.bn
 have kn:=hw.kn
 have hmx:=hE.mx
 have hcl:=hE.cl
 have hKnl:=hE.nl
 obtain⟨ol,os,onl,obs⟩:=hw.ok i s hg
 have hilt:i<K.code.length:=(List.getElem?_eq_some_iff.1 hx).1
 refine AOT rfl λH1 f1 g1=>?_
 have g1:T.get H1 n=some (one [.ptr K.kb 0]):=g1
 have hw1:=hw.kb (f1.kb (b:=K.b) (by omega)) (Nat.le_refl _) hb
 have hE1:=hE.bV ((f1.kb (b:=K.b) (by omega)).low (by omega))
 obtain⟨q,hq,hld⟩:=hE1.code.el.at (i:=i) (c:=[.int .i64 (.ofNat c) 0,.int .i64 (.ofNat a) 0]) (by rw[List.getElem?_map,hx];rfl)
 rw[AU (off:=0) g1 (v:=.ptr K.kb 0) rfl,AV,EM,AV,BG,AV,BG,AV,AU (off:=0+11+2) hw1.box (v:=K.vc) rfl,AV,hq,AV,Bl hld,AV]
 refine EJ rfl λH2 f2 g2=>?_
 rw[ED (m:=2) g2 (by omega) rfl rfl]
 have g2:=T.Ag H2 (n+1) (one [.int .i64 (.ofNat c) 0,.int .i64 (.ofNat a) 0])
 have f12:Kp H1 (n+1) (T.set H2 (n+1) (one [.int .i64 (.ofNat c) 0,.int .i64 (.ofNat a) 0])) (n+1+1):=⟨by omega,λid hid=>by rw[T.Ac _ _ (by omega),f2.same _ hid]⟩
 generalize T.set H2 (n+1) (one [.int .i64 (.ofNat c) 0,.int .i64 (.ofNat a) 0])=H3 at g2 f12
 have f3:=f1.trans f12
 have g3:=(f12.same n (by omega)).trans g1
 rw[ADt]
 have gm4:=T.Ag H3 (n+1+1) (.arr 2 0 .e)
 have f34:Kp H3 (n+1+1) (T.set H3 (n+1+1) (.arr 2 0 .e)) (n+1+1+1):=(Kp.refl _ _).new _ (Nat.le_refl _) (by omega)
 generalize T.set H3 (n+1+1) (.arr 2 0 .e)=H4 at gm4 f34
 have f4:=f3.trans f34
 have g4:=(f34.same n (by omega)).trans g3
 have hw4:=hw.kb (f4.kb (b:=K.b) (by omega)) (Nat.le_refl _) hb
 obtain⟨hia,-,hvv4⟩:=hw4.ABc hG hg
 obtain⟨hvl4,-⟩:=hvv4 rfl
 rw[AU (off:=0) g4 (v:=.ptr K.kb 0) rfl,AV,EM,AV,BG,AV,AU (off:=0+19) hw4.box (v:=K.pat W) rfl,AV,hia,AV,BG,AV,hvl4,AV]
 have sl4:=(hw4.st i s hg).1.sv (G:=G)
 refine AE3 gm4 (by omega) sl4 (by omega) λlv H5 n5 f45 hlv=>?_
 have hn5:=f45.le
 have f5:=f4.trans f45
 rw[ADt]
 have gm6:=T.Ag H5 n5 (.arr 2 0 .e)
 have f56:Kp H5 n5 (T.set H5 n5 (.arr 2 0 .e)) (n5+1):=(Kp.refl _ _).new _ (Nat.le_refl _) (by omega)
 generalize T.set H5 n5 (.arr 2 0 .e)=H6 at gm6 f56
 have f6:=f5.trans f56
 have g6:=(f56.same n (by omega)).trans ((f45.same n (by omega)).trans g4)
 have hw6:=hw.kb (f6.kb (b:=K.b) (by omega)) (Nat.le_refl _) hb
 obtain⟨-,-,hvv6⟩:=hw6.ABc hG hg
 obtain⟨-,hvs6⟩:=hvv6 rfl
 rw[AU (off:=0) g6 (v:=.ptr K.kb 0) rfl,AV,EM,AV,BG,AV,AU (off:=0+19) hw6.box (v:=K.pat W) rfl,AV,hia,AV,BG,AV,hvs6,AV]
 have ss6:=(hw6.st i s hg).2.sv (G:=G)
 refine AE3 gm6 (by omega) ss6 (by rw[List.length_reverse];omega) λsv H7 n7 f67 hsv=>?_
 have hn7:=f67.le
 have f7:=f6.trans f67
 refine EJ rfl λH8 f8 g8=>?_
 refine Y4 g8 hsv.ok.1 (by rw[hsv.ok.2.1];rfl) (by omega) (by show 0+1<=1;omega) λH9 g9 s9=>?_
 rw[hsv.ok.2.1]at g9
 have g9:T.get H9 n7=some (one [sv]):=g9
 have f79:Kp H7 n7 H9 (n7+1):=⟨by omega,λid hid=>by rw[s9 _ (by omega),f8.same _ hid]⟩
 refine EJ rfl λH10 f10 g10=>?_
 refine Y4 g10 rfl rfl (by omega) (by show 0+1<=1;omega) λH11 g11 s11=>?_
 have g11:T.get H11 (n7+1)=some (one [.fn Df [] [.ptr n7 0,.ptr n 0]]):=g11
 have AUl:Kp H9 (n7+1) H11 (n7+1+1):=⟨by omega,λid hid=>by rw[s11 _ (by omega),f10.same _ hid]⟩
 refine ACg λH12 n12 f12'=>?_
 have hn12:=f12'.le
 refine EJ rfl λH13 f13 g13=>?_
 show Bg 2 (.ptr n12 0) (.agg CY.cells) _ _ _
 refine nV g13 rfl rfl (by omega) λH14 g14 s14=>?_
 have ATF:Kp H12 n12 H14 (n12+1):=⟨by omega,λid hid=>by rw[s14 _ (by omega),f13.same _ hid]⟩
 refine AC3 λH15 n15 f15=>?_
 have hn15:=f15.le
 refine EJ rfl λH16 f16 g16=>?_
 show Bg 2 (.ptr n15 0) (.agg Dh.cells) _ _ _
 refine nV g16 rfl rfl (by omega) λH17 g17 s17=>?_
 have ASQ:Kp H15 n15 H17 (n15+1):=⟨by omega,λid hid=>by rw[s17 _ (by omega),f16.same _ hid]⟩
 have AOd:Kp H14 (n12+1) H17 (n15+1):=f15.trans ASQ
 have AOJ:Kp H11 (n7+1+1) H17 (n15+1):=(f12'.trans ATF).trans AOd
 have ARj:Kp H9 (n7+1) H17 (n15+1):=AUl.trans AOJ
 have AS6:Kp H7 n7 H17 (n15+1):=f79.trans ARj
 have AR3:Kp H5 n5 H17 (n15+1):=(f56.trans f67).trans AS6
 have f317:Kp H3 (n+1+1) H17 (n15+1):=(f34.trans f45).trans AR3
 have fall:Kp H n H17 (n15+1):=f3.trans f317
 have hwF:=hw.kb (fall.kb (b:=K.b) (by omega)) (Nat.le_refl _) hb
 have hEF:=hE.bV ((fall.kb (b:=K.b) (by omega)).low (by omega))
 let D:Gn:=⟨n,n,n7,n+1,n7+1,n12,n15,lv,λid=>id=n∨id=n7∨id=n+1∨id=n7+1∨id=n12∨id=n15∨lv.Xb=some id⟩
 have ADO:∀id,lv.Xb=some id->n+1+1<=id/\id<n5:=λid hid=>by
  have:=hlv.own hid
  omega
 have AM1:∀id,sv.Xb=some id->n5<=id/\id<n7:=λid hid=>by
  have:=hsv.own hid
  omega
 have o:Gl K W D G H H17 (n15+1) g c a s.loc (s.stk,false) more:=by
  refine⟨⟨⟨hwF,by show n<=_;omega,(f317.same _ (by show n<_;omega)).trans g3,⟨sv,(ARj.same _ (by show n7<_;omega)).trans g9,?_⟩,.inl rfl,.inr (.inl rfl),?_,by show n≠n7;omega,os⟩,hEF,(f317.same _ (by show n+1<_;omega)).trans g2,(AOJ.same _ (by show n7+1<_;omega)).trans g11,(AOd.same _ (by show n12<_;omega)).trans g14,g17,
   ⟨.inr (.inr (.inl rfl)),by show n+1≠n7;omega⟩,⟨.inr (.inr (.inr (.inl rfl))),by show n7+1≠n7;omega⟩,⟨.inr (.inr (.inr (.inr (.inl rfl)))),by show n12≠n7;omega⟩,⟨.inr (.inr (.inr (.inr (.inr (.inl rfl))))),by show n15≠n7;omega⟩,?_,ol,λid h1 _ _=>fall.same id h1,λhs=>hs.same (fall.same _ (by omega))⟩,obs⟩
  ·refine hsv.su (λid hid=>⟨?_,?_,λhp=>?_⟩) λid hid=>?_
   ·have:=AM1 id hid;show n<=id;omega
   ·have:=AM1 id hid;omega
   ·have h5:=AM1 id hid
    rcases hp with h|h|h|h|h|h|h
    ·omega
    ·omega
    ·omega
    ·omega
    ·omega
    ·omega
    ·have:=ADO id h;omega
   ·have:=AM1 id hid;exact AS6.same _ (by omega)
  ·intro id hp
   rcases hp with h|h|h|h|h|h|h
   ·show n<=id/\_;omega
   ·show n<=id/\_;omega
   ·show n<=id/\_;omega
   ·show n<=id/\_;omega
   ·show n<=id/\_;omega
   ·show n<=id/\_;omega
   ·have:=ADO id h;show n<=id/\_;omega
  ·refine hlv.su (λid hid=>⟨.inr (.inr (.inr (.inr (.inr (.inr hid))))),?_,?_,?_,?_,?_,?_⟩) λid hid=>?_
   ·have:=ADO id hid;show id≠n7;omega
   ·have:=ADO id hid;show id≠n;omega
   ·have:=ADO id hid;show id≠n+1;omega
   ·have:=ADO id hid;show id≠n7+1;omega
   ·have:=ADO id hid;show id≠n12;omega
   ·have:=ADO id hid;show id≠n15;omega
   ·have:=ADO id hid;exact AR3.same _ (by omega)
 have f:Fin K W D G H g c a more k i s.loc.length s:=by
  intro H' n' loc' p' o hl hs
  refine ATI hG o (x:=⟨.ofNat c,.ofNat a⟩) (s:=s) ⟨rfl,rfl⟩ (by omega) (hl.trans onl) (λhb=>?_) ?_ h0 h1
  ·have e:stepT K.cx s ⟨.ofNat c,.ofNat a⟩=some ⟨loc',p'.1⟩:=by
    rw[<-hs];unfold VW;rw[hb];rfl
   have:=AEv e (by show s.stk.length<=K.mx.toNat;exact hst)
   have:p'.1.length<=K.mx.toNat:=this
   omega
  ·rw[<-hs]
   obtain⟨q1,q2⟩:=p'
   cases q2<;>rfl
 exact AK9 hG o hin onl hps hgood hgl f
end
theorem lT{t:Ty}(h0:ND t.nm=true):Gt t:=by
 obtain⟨⟨l,c⟩,r⟩:=t
 have h:kQ l c=true:=h0
 clear h0
 unfold kQ at h
 simp only[Bool.or_eq_true,Bool.and_eq_true,decide_eq_true_eq]at h
 have hne:(⟨(l,c),r⟩:Ty).nm≠(0,0):=by
  rintro e
  have e:(l,c)=(0,0):=e
  cases e
  rcases h with h|h|h
  ·omega
  ·omega
  ·have:=h.1;revert this;decide
 refine⟨hne,?_⟩
 cases r with
 |true=>exact .inl rfl
 |false=>
  rcases h with⟨rfl,rfl⟩|⟨rfl,rfl⟩|⟨h,-⟩
  ·exact .inr (.inl rfl)
  ·exact .inr (.inr rfl)
  ·refine .inl (tC ?_)
   show isClass l c false=true
   unfold isClass
   rw[h];rfl
structure PG(p:Pool):Prop where
 names:∀s∈p.names,upper s.1 s.2=true
 types:∀t∈p.types,ND t.nm=true
 fields:∀f∈p.fields,ND f.f.ty.nm=true
 Bv:∀m∈p.Bv,ND m.m.ret.nm=true/\m.m.ps.length<=200
theorem AJ2{s:St}(h:upper s.1 s.2=true):s≠(0,0):=by
 rintro rfl;revert h;decide
theorem rC{s:St}(h:upper s.1 s.2=true):Gt ⟨s,false⟩:=by
 refine⟨AJ2 h,.inl (tC ?_)⟩
 show isClass s.1 s.2 false=true
 unfold isClass
 rw[h];rfl
theorem AI0{f:Fl}(h:PK f=true):PG f.pool:=by
 unfold PK at h
 simp only[Bool.and_eq_true]at h
 have h:=h.2.1
 unfold AD4 jr at h
 simp only[Bool.and_eq_true,List.all_eq_true]at h
 obtain⟨-,h1,h2,h3,h4⟩:=h
 refine⟨λs hs=>?_,h2,λf hf=>?_,λm hm=>?_⟩
 ·have:=h1 s hs
  unfold YC at this
  rw[Bool.and_eq_true]at this;exact this.1
 ·have:=h3 f hf
  unfold AFd at this
  simp only[Bool.and_eq_true]at this
  exact this.2.2.2
 ·have:=h4 m hm
  unfold ABn ACU P9 at this
  simp only[Bool.and_eq_true,Bool.not_eq_true',decide_eq_false_iff_not]at this
  exact⟨this.2.2.2.1,by omega⟩
def GoodS(s:CG):Prop:=(∀t∈s.stk,Gt t)/\∀t∈s.loc,Gt t∨t=BI
theorem TD:Gt CY:=⟨by decide,.inr (.inl rfl)⟩
theorem SE:Gt Dh:=⟨by decide,.inr (.inr rfl)⟩
theorem AGW:Gt Ba:=⟨by decide,.inl (by decide)⟩
theorem AHr{fs:Tab}:∀{ws s r:List Ty},EG fs ws s=some r->∀t∈r,t∈s
 |[],_,_,h,t,ht=>by cases h;exact ht
 |_::_,[],_,h,_,_=>by cases h
 |w::ws,x::s,r,h,t,ht=>by
  unfold EG at h
  cases hf:fitsT fs x w with
  |false=>rw[hf]at h;cases h
  |true=>rw[hf]at h;exact List.mem_cons_of_mem _ (AHr (show EG fs ws s=some r from h) t ht)
theorem AKh{mx:Int}{u:Ty}{s r:List Ty}(h:C9 mx u s=some r):r=u::s:=by
 unfold C9 at h
 cases hd:decide (((s.length+1:Nat):Int)<=mx)with
 |false=>rw[hd]at h;cases h
 |true=>rw[hd]at h;cases h;rfl
theorem VN{mx:Int}{u:Ty}{loc s:List Ty}{t:CG}(h:(C9 mx u s).map (λk=>(⟨loc,k⟩:CG))=some t)(hu:Gt u)(hs:∀x∈s,Gt x)(hl:∀t∈loc,Gt t∨t=BI):GoodS t:=by
 obtain⟨k,h1,rfl⟩:=Option.map_eq_some_iff.1 h
 rw[AKh h1]
 exact⟨λx hx=>by rcases List.mem_cons.1 hx with rfl|hx;exact hu;exact hs x hx,hl⟩
section
variable{c:Cx}{cc a L:Nat}{s t:CG}
theorem AQp(h:a<c.pool.fields.length):c.fl (.ofNat a)∈c.pool.fields:=by
 have e:c.fl (.ofNat a)=c.pool.fields[a]:=by
  show c.pool.fields.getD a fZ=_
  rw[List.getD_eq_getElem?_getD,List.getElem?_eq_getElem h];rfl
 rw[e];exact List.getElem_mem h
theorem AJy(h:a<c.pool.types.length):c.ty (.ofNat a)∈c.pool.types:=by
 have e:c.ty (.ofNat a)=c.pool.types[a]:=by
  show c.pool.types.getD a BI=_
  rw[List.getD_eq_getElem?_getD,List.getElem?_eq_getElem h];rfl
 rw[e];exact List.getElem_mem h
theorem AJS(h:a<c.pool.Bv.length):c.me (.ofNat a)∈c.pool.Bv:=by
 have e:c.me (.ofNat a)=c.pool.Bv[a]:=by
  show c.pool.Bv.getD a mZ=_
  rw[List.getD_eq_getElem?_getD,List.getElem?_eq_getElem h];rfl
 rw[e];exact List.getElem_mem h
theorem AIK(hp:PG c.pool)(h:a<c.pool.names.length):Gt (c.cl (.ofNat a)):=by
 have e:c.cl (.ofNat a)=⟨c.pool.names[a],false⟩:=by
  show(⟨c.pool.names.getD a (0,0),false⟩:Ty)=_
  rw[List.getD_eq_getElem?_getD,List.getElem?_eq_getElem h];rfl
 rw[e];exact rC (hp.names _ (List.getElem_mem h))
theorem ALI(hp:PG c.pool)(hin:U1 c.pool L cc a)(hs:GoodS s){e:Option (List Ty×Option Ty)}(he:∀ws u,e=some (ws,some u)->Gt u)(h:ABG c s e=some t):GoodS t:=by
 unfold ABG at h
 obtain⟨⟨ws,lay⟩,h1,h2⟩:=Option.bind_eq_some_iff.1 h
 obtain⟨k,h3,h4⟩:=Option.bind_eq_some_iff.1 h2
 have hk:∀x∈k,Gt x:=λx hx=>hs.1 x (AHr h3 x hx)
 cases lay with
 |none=>cases h4;exact⟨hk,hs.2⟩
 |some u=>exact VN h4 (he _ _ h1) hk hs.2
theorem rG{α:Type}{b:Bool}{x y:α}(h:(bif b then some x else none)=some y):x=y:=by cases b<;>cases h;rfl
theorem AKT{α:Type}{b:Bool}{x y:α}(h:(bif b then none else some x)=some y):x=y:=by cases b<;>cases h;rfl
theorem AIj(hp:PG c.pool)(hin:U1 c.pool L cc a)(hL:s.loc.length=L)(hs:GoodS s)(h:stepT c s ⟨.ofNat cc,.ofNat a⟩=some t):GoodS t:=by
 have hlo:=hin.lo
 have hhi:=hin.hi
 have ge:=λe he h=>ALI (e:=e) hp hin hs he (t:=t) h
 have one:∀{ws u},Gt u->ABG c s (some (ws,some u))=some t->GoodS t:=λhu h=>ge _ (λws u e=>by cases e;exact hu) h
 have non:∀{ws},ABG c s (some (ws,none))=some t->GoodS t:=λh=>ge _ (λws u e=>by cases e) h
 obtain rfl|rfl|rfl|rfl|rfl|rfl|rfl|rfl|rfl|rfl|rfl|rfl|rfl|rfl|rfl|rfl|rfl|rfl|rfl|rfl|rfl|rfl|rfl|rfl|rfl|rfl|rfl|rfl|rfl|rfl|rfl|rfl:cc=1∨cc=2∨cc=3∨cc=4∨cc=5∨cc=6∨cc=7∨cc=8∨cc=9∨cc=10∨cc=11∨cc=12∨cc=13∨cc=14∨cc=15∨cc=16∨cc=17∨cc=18∨cc=19∨cc=20∨cc=21∨cc=22∨cc=23∨cc=24∨cc=25∨cc=26∨cc=27∨cc=28∨cc=29∨cc=30∨cc=31∨cc=32:=by omega
 ·exact one TD h
 ·exact one AGW h
 ·have h:(bif (s.loc.getD a BI).is BI then none else(C9 c.max (s.loc.getD a BI) s.stk).map λk=>(⟨s.loc,k⟩:CG))=some t:=h
  have hi:a<s.loc.length:=by rw[hL];exact hin.lc (.inl rfl)
  rw[show s.loc.getD a BI=s.loc[a]by rw[List.getD_eq_getElem?_getD,List.getElem?_eq_getElem hi];rfl]at h
  cases hb:(s.loc[a]).is BI with
  |true=>rw[hb]at h;cases h
  |false=>
   rw[hb]at h
   refine VN h ?_ hs.1 hs.2
   rcases hs.2 _ (List.getElem_mem hi)with h|h
   ·exact h
   ·rw[Ty.QX.2 h]at hb;cases hb
 ·obtain⟨loc,stk⟩:=s
  cases stk with
  |nil=>cases h
  |cons x k=>
   cases h
   refine⟨λy hy=>hs.1 y (List.mem_cons_of_mem _ hy),λy hy=>?_⟩
   rcases List.mem_or_eq_of_mem_set hy with hy|rfl
   ·exact hs.2 y hy
   ·exact .inl (hs.1 _ (List.mem_cons_self ..))
 ·exact one TD h
 ·exact one TD h
 ·exact one TD h
 ·exact one TD h
 ·exact one TD h
 ·exact one SE h
 ·exact one SE h
 ·obtain⟨loc,stk⟩:=s
  cases stk with
  |nil=>cases h
  |cons x k=>
   cases k with
   |nil=>cases h
   |cons y k=>
    have h:(bif x.is y&& !x.obj then(C9 c.max Dh k).map λk=>(⟨loc,k⟩:CG)else none)=some t:=h
    cases hb:x.is y&& !x.obj with
    |false=>rw[hb]at h;cases h
    |true=>
     rw[hb]at h
     exact VN h SE (λz hz=>hs.1 z (List.mem_cons_of_mem _ (List.mem_cons_of_mem _ hz))) hs.2
 ·obtain⟨loc,stk⟩:=s
  cases stk with
  |nil=>cases h
  |cons x k=>
   cases k with
   |nil=>cases h
   |cons y k=>
    have h:(bif x.obj&&y.obj then(C9 c.max Dh k).map λk=>(⟨loc,k⟩:CG)else none)=some t:=h
    cases hb:x.obj&&y.obj with
    |false=>rw[hb]at h;cases h
    |true=>
     rw[hb]at h
     exact VN h SE (λz hz=>hs.1 z (List.mem_cons_of_mem _ (List.mem_cons_of_mem _ hz))) hs.2
 ·exact one TD h
 ·exact one SE h
 ·exact one (lT (hp.fields _ (AQp (hin.fl (.inl rfl))))) h
 ·exact non h
 ·exact one (AIK hp (hin.nm (.inl rfl))) h
 ·exact ge (bif (c.ty (.ofNat a)).arr then some ([CY],some (c.ty (.ofNat a)))else none) (λws u e=>by have:=rG e;cases this;exact lT (hp.types _ (AJy (hin.ty (.inl rfl))))) h
 ·exact ge (bif (c.ty (.ofNat a)).arr then some ([CY,c.ty (.ofNat a)],some (Rl (c.ty (.ofNat a))))else none) (λws u e=>by have:=rG e;cases this;exact lT (show ND (c.ty (.ofNat a)).nm=true from hp.types _ (AJy (hin.ty (.inr (.inl rfl)))))) h
 ·exact ge (bif (c.ty (.ofNat a)).arr then some ([Rl (c.ty (.ofNat a)),CY,c.ty (.ofNat a)],none)else none) (λws u e=>by have:=rG e;cases this) h
 ·obtain⟨loc,stk⟩:=s
  cases stk with
  |nil=>cases h
  |cons x k=>
   have h:(bif x.arr||x.is Ba then(C9 c.max CY k).map λk=>(⟨loc,k⟩:CG)else none)=some t:=h
   cases hb:x.arr||x.is Ba with
   |false=>rw[hb]at h;cases h
   |true=>
    rw[hb]at h
    exact VN h TD (λz hz=>hs.1 z (List.mem_cons_of_mem _ hz)) hs.2
 ·obtain⟨loc,stk⟩:=s
  cases stk with
  |nil=>cases h
  |cons x k=>
   have h:(bif x.cls||x.is Ba then(C9 c.max (c.cl (.ofNat a)) k).map λk=>(⟨loc,k⟩:CG)else none)=some t:=h
   cases hb:x.cls||x.is Ba with
   |false=>rw[hb]at h;cases h
   |true=>
    rw[hb]at h
    exact VN h (AIK hp (hin.nm (.inr (.inl rfl)))) (λz hz=>hs.1 z (List.mem_cons_of_mem _ hz)) hs.2
 ·obtain⟨loc,stk⟩:=s
  cases stk with
  |nil=>cases h
  |cons x k=>
   have h:(bif x.cls||x.is Ba then(C9 c.max Dh k).map λk=>(⟨loc,k⟩:CG)else none)=some t:=h
   cases hb:x.cls||x.is Ba with
   |false=>rw[hb]at h;cases h
   |true=>
    rw[hb]at h
    exact VN h SE (λz hz=>hs.1 z (List.mem_cons_of_mem _ hz)) hs.2
 ·exact ge (bif (c.me (.ofNat a)).m.st then none else some ((c.me (.ofNat a)).m.ps.reverse++[(⟨(c.me (.ofNat a)).own,false⟩:Ty)],some (c.me (.ofNat a)).m.ret)) (λws u e=>by have:=AKT e;cases this;exact lT (hp.Bv _ (AJS (hin.me (.inl rfl)))).1) h
 ·exact ge (bif (c.me (.ofNat a)).m.st then some ((c.me (.ofNat a)).m.ps.reverse,some (c.me (.ofNat a)).m.ret)else none) (λws u e=>by have:=rG e;cases this;exact lT (hp.Bv _ (AJS (hin.me (.inr rfl)))).1) h
 ·exact non h
 ·exact non h
 ·exact non h
 ·exact non h
 ·obtain⟨loc,stk⟩:=s
  cases stk with
  |nil=>cases h
  |cons x k=>
   cases h
   exact⟨λy hy=>hs.1 y (List.mem_cons_of_mem _ hy),hs.2⟩
 ·exact one SE h
theorem uO{fs:Tab}(hu:Upper fs){a b:St}(h:Eu fs a b≠(0,0)):upper (Eu fs a b).1 (Eu fs a b).2=true:=by
 have key:∀(l:List St),(∀x∈l,(EO fs x).isSome)->EC fs b l≠(0,0)->upper (EC fs b l).1 (EC fs b l).2=true:=by
  intro l
  induction l with
  |nil=>intro _ h;exact absurd rfl h
  |cons c cs ih=>
   intro hl h
   have e:EC fs b (c::cs)=bif Gy fs b c then c else EC fs b cs:=rfl
   rw[e]at h⊢
   cases hb:Gy fs b c with
   |true=>
    have:=hl c (List.mem_cons_self ..)
    cases hk:EO fs c with
    |none=>rw[hk]at this;cases this
    |some d=>exact hu c d hk
   |false=>
    rw[hb]at h
    exact ih (λx hx=>hl x (List.mem_cons_of_mem _ hx)) h
 refine key _ (λx hx=>?_) h
 rcases ABD _ _ _ _ _ hx with h|h
 ·cases h
 ·exact h
theorem AJM{fs:Tab}(hu:Upper fs){a b:Ty}(h:(Cm fs a b).2=true)(ha:a=BI∨Gt a)(hb:b=BI∨Gt b):(Cm fs a b).1=BI∨Gt (Cm fs a b).1:=by
 unfold Cm at*
 cases h1:a.is b with
 |true=>exact ha
 |false=>
 rw[h1]at h
 cases h2:a.is Ba&&b.obj with
 |true=>exact hb
 |false=>
 rw[h2]at h
 cases h3:b.is Ba&&a.obj with
 |true=>exact ha
 |false=>
 rw[h3]at h
 cases h4:(a.cls&&b.cls)&& !decide (Eu fs a.nm b.nm=(0,0))with
 |true=>
  rw[Bool.and_eq_true,Bool.not_eq_true',decide_eq_false_iff_not]at h4
  exact .inr (rC (uO hu h4.2))
 |false=>rw[h4]at h;cases h
theorem AFy{fs:Tab}{a b:Ty}(h:(Cm fs a b).2=false):(Cm fs a b).1=BI:=by
 unfold Cm at*
 cases h1:a.is b with
 |true=>rw[h1]at h;cases h
 |false=>
 rw[h1]at h
 cases h2:a.is Ba&&b.obj with
 |true=>rw[h2]at h;cases h
 |false=>
 rw[h2]at h
 cases h3:b.is Ba&&a.obj with
 |true=>rw[h3]at h;cases h
 |false=>
 rw[h3]at h
 cases h4:(a.cls&&b.cls)&& !decide (Eu fs a.nm b.nm=(0,0))with
 |true=>rw[h4]at h;cases h
 |false=>rfl
theorem AGR{fs:Tab}(hu:Upper fs){a b:Ty}(h:(Cm fs a b).2=true)(ha:Gt a)(hb:Gt b):Gt (Cm fs a b).1:=by
 unfold Cm at*
 cases h1:a.is b with
 |true=>exact ha
 |false=>
 rw[h1]at h
 cases h2:a.is Ba&&b.obj with
 |true=>exact hb
 |false=>
 rw[h2]at h
 cases h3:b.is Ba&&a.obj with
 |true=>exact ha
 |false=>
 rw[h3]at h
 cases h4:(a.cls&&b.cls)&& !decide (Eu fs a.nm b.nm=(0,0))with
 |true=>
  rw[Bool.and_eq_true,Bool.not_eq_true',decide_eq_false_iff_not]at h4
  exact rC (uO hu h4.2)
 |false=>rw[h4]at h;cases h
theorem zS{fs:Tab}(hu:Upper fs):∀{l m k:List Ty},Es fs l m=some k->(∀t∈l,Gt t)->(∀t∈m,Gt t)->∀t∈k,Gt t
 |[],[],k,h,_,_=>by cases h;exact λt ht=>by cases ht
 |[],_::_,_,h,_,_=>by cases h
 |_::_,[],_,h,_,_=>by cases h
 |a::l,b::m,k,h,hl,hm=>by
  unfold Es at h
  cases hj:(Cm fs a b).2 with
  |false=>rw[hj]at h;cases h
  |true=>
   rw[hj]at h
   obtain⟨r,h1,rfl⟩:=Option.map_eq_some_iff.1 (show(Es fs l m).map _=_ from h)
   intro t ht
   rcases List.mem_cons.1 ht with rfl|ht
   ·exact AGR hu hj (hl a (List.mem_cons_self ..)) (hm b (List.mem_cons_self ..))
   ·exact zS hu h1 (λt ht=>hl t (List.mem_cons_of_mem _ ht)) (λt ht=>hm t (List.mem_cons_of_mem _ ht)) t ht
theorem ABK{fs:Tab}(hu:Upper fs):∀{l m:List Ty},(∀t∈l,Gt t∨t=BI)->(∀t∈m,Gt t∨t=BI)->∀t∈CX fs l m,Gt t∨t=BI
 |[],[],_,_,t,ht=>by cases ht
 |[],_::_,_,_,t,ht=>by cases ht
 |a::l,[],hl,_,t,ht=>hl t ht
 |a::l,b::m,hl,hm,t,ht=>by
  unfold CX at ht
  rcases List.mem_cons.1 ht with rfl|ht
  ·cases hj:(Cm fs a b).2 with
   |false=>exact .inr (AFy hj)
   |true=>exact(AJM hu hj (hl a (List.mem_cons_self ..)).symm (hm b (List.mem_cons_self ..)).symm).symm
  ·exact ABK hu (λt ht=>hl t (List.mem_cons_of_mem _ ht)) (λt ht=>hm t (List.mem_cons_of_mem _ ht)) t ht
def ABH(a:JU):Prop:=∀(i:Nat) (s:CG),a[i]? =some (some s)->GoodS s
theorem AB4{fs:Tab}(hu:Upper fs){a b:JU}{to:Nat}{s:CG}{ch:Bool}(h:DK fs a to s=some (b,ch))(ha:ABH a)(hs:GoodS s):ABH b:=by
 have put:∀{s':CG},GoodS s'->ABH (a.set to (some s')):=λ{s'} hs' i x hi=>by
  by_cases e:i=to
  ·subst e
   have hlt:i<a.length:=by
    have:=(List.getElem?_eq_some_iff.1 hi).1
    simpa using this
   rw[List.getElem?_set_self hlt]at hi
   cases hi;exact hs'
  ·rw[List.getElem?_set_ne (Ne.symm e)]at hi
   exact ha i x hi
 unfold DK at h
 cases hg:a[to]? with
 |none=>rw[hg]at h;cases h
 |some o=>
  rw[hg]at h
  cases o with
  |none=>cases h;exact put hs
  |some old=>
   obtain⟨k,h1,h2⟩:=Option.map_eq_some_iff.1 (show(Es fs old.stk s.stk).map _=_ from h)
   cases h2
   have ho:=ha to old hg
   exact put ⟨zS hu h1 ho.1 hs.1,ABK hu ho.2 hs.2⟩
theorem AIY(hu:Upper c.fs)(hp:PG c.pool){i:Nat}{b g:JU}{ps:List Nat}(hin:U1 c.pool L cc a)(hL:s.loc.length=L)(hs:GoodS s)(ha:ABH g)(h:Gj c g i ⟨.ofNat cc,.ofNat a⟩ s=.inr (b,ps)):ABH b:=by
 unfold Gj at h
 cases hst:stepT c s ⟨.ofNat cc,.ofNat a⟩with
 |none=>rw[hst]at h;cases h
 |some t=>
  have ht:=AIj hp hin hL hs hst
  simp only[hst]at h
  cases h1:(bif jumps ⟨.ofNat cc,.ofNat a⟩then DK c.fs g (Ins.mk (.ofNat cc) (.ofNat a)).arg.toNat t else some (g,false))with
  |none=>simp only[h1]at h;cases h
  |some r=>
   obtain⟨a1,b1⟩:=r
   simp only[h1]at h
   cases h2:(bif ends ⟨.ofNat cc,.ofNat a⟩then some (a1,false)else DK c.fs a1 (i+1) t)with
   |none=>simp only[h2]at h;cases h
   |some r=>
    obtain⟨a2,b2⟩:=r
    simp only[h2]at h
    have hb:a2=b:=by cases h;rfl
    subst hb
    have g1:ABH a1:=by
     cases hj:jumps ⟨.ofNat cc,.ofNat a⟩with
     |false=>rw[hj]at h1;cases h1;exact ha
     |true=>rw[hj]at h1;exact AB4 hu h1 ha ht
    cases hj:ends ⟨.ofNat cc,.ofNat a⟩with
    |true=>rw[hj]at h2;cases h2;exact g1
    |false=>rw[hj]at h2;exact AB4 hu h2 g1 ht
end
section
variable{K:O6}{W:Wv}{G:AQ}{H H' H'':Heap}{n n' n'' i x:Nat}{g:JU}{k:KV}
structure Rnd(K:O6)(g:JU):Prop where
 good:ABH g
 inv:Inv2 K.nl K.mx.toNat g
theorem ANs(hG:Oh G)(hI:oz K)(hw0:Whole K.fs)(hu:Upper K.fs)(hp:PG K.pool){H0:Heap}{n0:Nat}(hE:K.En G H0){a:JU}(hw:Qe K W H n a false false)(hr:Rnd K a)(hn:n0<=n)(f0:Kb K.b H0 K.kb H K.kb){ih35:(V×Heap×Nat)->Prop}
 (hk:∀W' H' n' a' b m,Qe K W' H' n' a' b m->n0<=n'->Kb K.b H0 K.kb H' K.kb->(b=true->Gx K.cx (List.range K.code.length) a false=none)->(b=false->Gx K.cx (List.range K.code.length) a false=some (a',m)/\Rnd K a')->ih35 (.ptr K.kb 0,H',n')):
 lfp _ (Og lfp G (Runs F G) k ih35) (.ptr K.kb 0,.int .i64 (.ofNat K.code.length) 0,.int .i64 (.ofNat 0) 0,H,n):=by
 have hb:K.b<K.kb:=hE.img.tab.bn
 have hcl:=hE.cl
 refine Bc (N:=K.code.length) (J:=λj st=>∃H' n' W' a' b m,st=(.ptr K.kb 0,.int .i64 (.ofNat K.code.length) 0,.int .i64 (.ofNat j) 0,H',n')/\Qe K W' H' n' a' b m/\n0<=n'/\Kb K.b H0 K.kb H' K.kb/\j<=K.code.length/\
  (b=true->Gx K.cx (List.range K.code.length) a false=none)/\(b=false->Gx K.cx (List.range K.code.length) a false=Gx K.cx ((List.range K.code.length).drop j) a' m/\Rnd K a')) ?_ ?_
  ⟨H,n,W,a,false,false,rfl,hw,hn,f0,Nat.zero_le _,(λh=>by cases h),λ_=>⟨rfl,hr⟩⟩
 ·rintro I j st hj ⟨H1,n1,W1,a1,b,m,rfl,hw1,hn1,f1,hjl,hbt,hbf⟩ ih
  show Hw lfp G (Runs F G) k ih35 I (.ptr K.kb 0) (.int .i64 (.ofNat K.code.length) 0) (.int .i64 (.ofNat j) 0) H1 n1
  delta Hw
  have hE1:=hE.bV f1
  have kn1:=hw1.kn
  have hlt:j<a1.length:=by rw[hw1.gl];exact hj
  have hjr:j<(List.range K.code.length).length:=by rw[List.length_range];exact hj
  obtain⟨o,ho⟩:∃o,a1[j]? =some o:=⟨_,List.getElem?_eq_getElem hlt⟩
  obtain⟨hia,hth,-⟩:=hw1.ABc hG ho
  have hdrop:(List.range K.code.length).drop j=j::(List.range K.code.length).drop (j+1):=by
   rw[List.drop_eq_getElem_cons hjr,List.getElem_range]
  have next:∀{H' n' W' a' b' m'},Qe K W' H' n' a' b' m'->n0<=n'->Kb K.b H0 K.kb H' K.kb->(b'=true->Gx K.cx (List.range K.code.length) a false=none)->(b'=false->Gx K.cx (List.range K.code.length) a false=Gx K.cx ((List.range K.code.length).drop (j+1)) a' m'/\Rnd K a')->
   Hy lfp G (Runs F G) k ih35 I (.ptr K.kb 0) (.int .i64 (.ofNat K.code.length) 0) (.int .i64 (.ofNat j) 0) H' n':=by
   intro H' n' W' a' b' m' h1 h2 h3 h4 h5
   delta Hy
   rw[Dl (by omega),AV]
   exact ih _ ⟨H',n',W',a',b',m',rfl,h1,h2,h3,hj,h4,h5⟩
  rw[UJ,decide_eq_true hj,AV,Bz,EM,AV,BG,AV,AU (off:=0+19) hw1.box (v:=K.pat W1) rfl,AV,hia,AV,BG,AV,hth,AV]
  have hbad:AY (.ptr K.kb (0+20)) G H1=some (.bool b):=AU hw1.box rfl
  cases o with
  |none=>
   rw[show(none:Option CG).isSome=false from rfl]
   repeat (first|with_reducible refine APn ?_|with_reducible refine AQW ?_)
   rw[BZ]
   refine next hw1 hn1 f1 hbt λh=>?_
   obtain⟨e,hr1⟩:=hbf h
   refine⟨?_,hr1⟩
   rw[e,hdrop]
   show(match(a1[j]?).getD none with|none=>_|some s=>_)=_
   rw[ho];rfl
  |some s=>
   rw[show(some s:Option CG).isSome=true from rfl]
   simp only[go_sem,Nat.reduceAdd,Nat.zero_add]at hbad⊢
   simp only[hbad,go_sem,BL]
   cases b with
   |true=>
    rw[Bool.not_true,BZ]
    exact next hw1 hn1 f1 hbt λh=>by cases h
   |false=>
    rw[Bool.not_false,Bz]
    obtain⟨e,hr1⟩:=hbf rfl
    have hxe:K.code[j]? =some K.code[j]:=List.getElem?_eq_getElem hj
    obtain⟨c,aa,hxx,hin⟩:=hI K.code[j] (List.getElem_mem hj)
    have hat:K.cx.at j=⟨.ofNat c,.ofNat aa⟩:=by
     show(K.code[j]?).getD xZ=_
     rw[hxe,hxx];rfl
    rw[hxx]at hxe
    have hgs:=hr1.good j s ho
    have hloc:=hr1.inv.loc j s ho
    have hstk:=hr1.inv.stk j s ho
    have e2:Gx K.cx (List.range K.code.length) a false=match Gj K.cx a1 j ⟨.ofNat c,.ofNat aa⟩ s with|.inl _=>none|.inr (b,ps)=>Gx K.cx ((List.range K.code.length).drop (j+1)) b (m|| !ps.isEmpty):=by
     rw[e,hdrop]
     show(match(a1[j]?).getD none with|none=>_|some s=>match Gj K.cx a1 j (K.cx.at j) s with|.inl _=>none|.inr (b,ps)=>_)=_
     rw[ho,hat];rfl
    refine ASw hG hE1 hw1 ho hxe hin (λmm hm=>by have:=(hp.Bv mm hm).2;omega) hgs.1 hgs.2 hstk (λW2 H2 n2 g2 m2 j2 hw2 _ f2 hwk=>?_) λW2 H2 n2 g2 ps hwk hw2 _ f2=>?_
    ·have hn2:=f2.le
     refine next hw2 (by omega) (f1.trans (f2.kb (by omega))) (λ_=>?_) λh=>by cases h
     rw[e2,hwk]
    ·have hn2:=f2.le
     refine next hw2 (by omega) (f1.trans (f2.kb (by omega))) (λh=>by cases h) λ_=>⟨?_,?_⟩
     ·rw[e2,hwk]
     ·exact⟨AIY hu hp hin hloc hgs hr1.good hwk,(AGe hw0 hu hr1.inv hloc hstk hwk).2⟩
 ·rintro I st ⟨H1,n1,W1,a1,b,m,rfl,hw1,hn1,f1,hjl,hbt,hbf⟩
  show Hw lfp G (Runs F G) k ih35 I (.ptr K.kb 0) (.int .i64 (.ofNat K.code.length) 0) (.int .i64 (.ofNat K.code.length) 0) H1 n1
  delta Hw
  rw[UJ,decide_eq_false (Nat.lt_irrefl _),AV,BZ]
  refine hk W1 H1 n1 a1 b m hw1 hn1 f1 hbt λh=>?_
  obtain⟨e,hr1⟩:=hbf h
  refine⟨?_,hr1⟩
  rw[e,List.drop_eq_nil_of_le (by rw[List.length_range];exact Nat.le_refl _)];rfl
theorem ALw(hG:Oh G)(hI:oz K)(hw0:Whole K.fs)(hu:Upper K.fs)(hp:PG K.pool){H0:Heap}{n0 fuel:Nat}{r:Bool}(hE:K.En G H0){a:JU}(hw:Qe K W H n a false true)(hr:Rnd K a)(hpg:YG K.cx fuel a=some r)(hn:n0<=n)(f0:Kb K.b H0 K.kb H K.kb)
 (hk:∀H' n',n0<=n'->Kb K.b H0 K.kb H' K.kb->k (.bool r) H' n'):lfp _ (OO lfp G (Runs F G) k) (.ptr K.kb 0,H,n):=by
 have hb:K.b<K.kb:=hE.img.tab.bn
 refine Ia (J:=λm st=>∃H' n' W' a' b mo,st=(.ptr K.kb 0,H',n')/\Qe K W' H' n' a' b mo/\n0<=n'/\Kb K.b H0 K.kb H' K.kb/\(b=true->r=true)/\(b=false->mo=false->r=false)/\(b=false->mo=true->YG K.cx m a'=some r/\Rnd K a')) ?_ (m:=fuel)
  ⟨H,n,W,a,false,true,rfl,hw,hn,f0,(λh=>by cases h),(λ_ h=>by cases h),λ_ _=>⟨hpg,hr⟩⟩
 rintro I m st ⟨H1,n1,W1,a1,b,mo,rfl,hw1,hn1,f1,h1,h2,h3⟩ ih
 show PY lfp G (Runs F G) k I (.ptr K.kb 0) H1 n1
 delta PY
 have hE1:=hE.bV f1
 have kn1:=hw1.kn
 have hbad:AY (.ptr K.kb 20) G H1=some (.bool b):=AU hw1.box rfl
 have out:b=r->KG lfp G (Runs F G) k (.ptr K.kb 0) H1 n1:=λe=>by
  delta KG
  rw[EM,AV,BG,AV,show(0+20)=20 from rfl,hbad,AV,e]
  exact hk _ _ hn1 f1
 rw[EM,AV,BG,AV,AU (off:=0+21) hw1.box (v:=.bool mo) rfl,AV]
 cases mo with
 |false=>
  repeat (first|with_reducible refine APn ?_|with_reducible refine AQW ?_)
  rw[BZ]
  exact out (by cases b with|true=>exact(h1 rfl).symm|false=>exact(h2 rfl rfl).symm)
 |true=>
 simp only[go_sem,Nat.reduceAdd,Nat.zero_add,hbad,BL]
 cases b with
 |true=>
  rw[Bool.not_true,BZ]
  exact out (h1 rfl).symm
 |false=>
 obtain⟨hpg,hr1⟩:=h3 rfl rfl
 rw[Bool.not_false,Bz]
 refine hw1.AD7 (m':=false) λH2 hw2 s2=>?_
 have f2:Kb K.b H0 K.kb H2 K.kb:=f1.trans ⟨Nat.le_refl _,λid q _=>s2 id (by omega),λhs=>hs.same (s2 _ (by omega))⟩
 have hE2:=hE.bV f2
 have wL:lenV K.vc=some (.int .i64 (.ofNat K.code.length) 0):=by rw[hE2.code.el.len,List.length_map]
 rw[AU (off:=13) hw2.box (v:=K.vc) rfl,AV,wL,AV]
 cases m with
 |zero=>cases hpg
 |succ m=>
 refine ANs hG hI hw0 hu hp hE hw2 hr1 hn1 f2 λW3 H3 n3 a3 b3 m3 hw3 hn3 f3 e0 e1=>?_
 have hpg:(match Gx K.cx (List.range K.code.length) a1 false with|none=>some true|some (b,m')=>bif m' then YG K.cx m b else some false)=some r:=hpg
 refine ih _ _ (Nat.lt_succ_self m) ⟨H3,n3,W3,a3,b3,m3,rfl,hw3,hn3,f3,λe=>?_,λe em=>?_,λe em=>?_⟩
 ·rw[e0 e]at hpg;cases hpg;rfl
 ·rw[(e1 e).1,em]at hpg;cases hpg;rfl
 ·obtain⟨q1,q2⟩:=e1 e
  rw[q1,em]at hpg
  exact⟨hpg,q2⟩
end
def XC(H:Heap)(lb:Nat)(cur:List Ty):Prop:=∃t,T.get H lb=some (.arr 2 cur.length t)/\∀(i:Nat) (x:Ty),cur[i]? =some x->T.get t i=some x.cells
theorem XC.same{H H':Heap}{lb:Nat}{cur:List Ty}(h:XC H lb cur)(e:T.get H' lb=T.get H lb):XC H' lb cur:=by
 obtain⟨t,g,ht⟩:=h
 exact⟨t,e.trans g,ht⟩
theorem XC.el{G:AQ}{H:Heap}{lb:Nat}{cur:List Ty}(h:XC H lb cur):El G H (.sl lb 0 cur.length cur.length 2) 2 (tys cur):=by
 obtain⟨t,g,ht⟩:=h
 refine⟨rfl,?_⟩
 show(Bool.rec (motive:=λ_=>Option EW) none (CV H lb 2 cur.length 0) (Nat.beq 2 2):Option EW)=_
 rw[Dq]
 refine Xq _ _ _ (by rw[Cb]) λi c hi=>?_
 have hlt:i<cur.length:=by have:=(List.getElem?_eq_some_iff.1 hi).1;rw[Cb]at this;exact this
 rw[Nat.zero_add,dI g (by omega) hlt]
 unfold tys at hi
 rw[List.getElem?_map]at hi
 obtain⟨x,hx,rfl⟩:=Option.map_eq_some_iff.1 hi
 exact ht i x hx
theorem XC.put{H:Heap}{n lb i:Nat}{cur:List Ty}{x:Ty}{q:IntKind}{P:KV}(h:XC H lb cur)(hi:i<cur.length)
 (hk:∀H',XC H' lb (cur.set i x)->(∀id,id≠lb->T.get H' id=T.get H id)->P .undef H' n):AL (Ai 2 (.sl lb 0 cur.length cur.length 2) (.int q (.ofNat i) 0)) λp=>Bg 2 p x.v H n P:=by
 obtain⟨t,g,ht⟩:=h
 rw[AHf hi,AV,Nat.zero_add]
 refine AFZ g (by omega) hi (ht i _ (List.getElem?_eq_getElem hi)) rfl rfl λH' g' s'=>hk H' ⟨_,by rw[List.length_set];exact g',λj y hj=>?_⟩ s'
 by_cases e:i=j
 ·subst e
  rw[List.getElem?_set_self hi]at hj
  cases hj
  rw[T.Ag];rfl
 ·rw[List.getElem?_set_ne e]at hj
  rw[T.Ac _ _ e];exact ht j y hj
theorem AKQ{kb i t a b fm:Nat}{vn:V}{fs:Tab}{f:Fl}{vf vm v0 v1 v2 v3 v4 vb:V}{ws:List V}{m:ES}{w:V}{bd:Bd}{wc:V}(h:0<=bd.locals):
 BX [.Lp,.str 0 0,.str 0 0,.Ae,.Ae,.Ae,.Ae,.Ae,.Ae,.Ae,.Ae,.int .i64 (.ofNat 0) 0,.int .i64 (.ofNat 0) 0,.Ae,.str 0 0,.bool false,.Ae,.str 0 0,.bool false,.Ae,.bool false,.bool false]
  [(0,1,.c (.ptr i 0)),(1,10,.c (.agg [f.face.nm.v,f.face.sup.v,vf,vm,v0,v1,v2,v3,v4,vb])),(11,3,.c (.agg (bd.cells wc))),(14,5,.c (.agg (m.cells w)))]=some (.agg ((mkK kb i t a b fm vn fs f vf vm v0 v1 v2 v3 v4 vb ws m w bd wc).Wi .Ae false false)):=by
 unfold O6.Wi mkK
 simp only
 rw[show Int.ofNat bd.locals.toNat=bd.locals from Int.toNat_of_nonneg h]
 rfl
theorem AJz{pre ps:List Ty}{x z:Ty}{j m:Nat}(hj:j<ps.length)(hx:ps[j]=x):(pre++ps.take j++List.replicate (m+1) z).set (pre.length+j) x=pre++ps.take (j+1)++List.replicate m z:=by
 have hl:(pre++ps.take j).length=pre.length+j:=by rw[List.length_append,List.length_take];omega
 rw[List.set_append_right _ _ (by omega),hl,Nat.sub_self,List.replicate_succ,List.set_cons_zero,List.take_succ_eq_append_getElem hj,hx,List.append_assoc,List.append_assoc,List.append_assoc]
 rfl
section
variable{K:O6}{W:Wv}{G:AQ}{H H' H'':Heap}{n n' n'' i x:Nat}{g:JU}{k:KV}
theorem ASM(hG:Oh G)(hI:oz K)(hw0:Whole K.fs)(hu:Upper K.fs)(hp:PG K.pool){H0:Heap}{n0 fuel lb:Nat}{r:Bool}(hE0:K.En G H0)(hN:0<K.code.length)(hlen:(KU K).length+K.ps.length<=K.nl)(f0:Kb K.b H0 K.kb H K.kb)
 (hw:Qe K W H n (List.replicate K.code.length none) false false) (hl:XC H lb (KU K++List.replicate (K.nl-(KU K).length) BI)) (hlb:K.kb<lb/\lb<n/\W.own lb=0) (hn0:n0<=n)
 (hgood:∀t∈(XU K).loc,Gt t∨t=BI) (hpg:YG K.cx fuel (at0 K.code.length (XU K))=some r)
 (hk:∀H' n',n0<=n'->Kb K.b H0 K.kb H' K.kb->k (.bool r) H' n'):
 ER lfp G (Runs F G) k (.ptr K.kb 0) (.sl lb 0 K.nl K.nl 2) (.int .i64 (.ofNat (KU K).length) 0) H n:=by
 delta ER
 have hE:=hE0.bV f0
 have hb:K.b<K.kb:=hE.img.tab.bn
 have kn:=hw.kn
 have hKnl:=hE.nl
 rw[EM,AV,BG,AV,BG,AV,AU (off:=0+14+2) hw.box (v:=K.vp) rfl,AV,hE.ps.len,AV]
 have cl:∀j,j<=K.ps.length->(KU K++K.ps.take j++List.replicate (K.nl-(KU K).length-j) BI).length=K.nl:=λj hj=>by
  rw[List.length_append,List.length_append,List.length_take,List.length_replicate];omega
 refine Bc (N:=K.ps.length) (J:=λj st=>∃H' n',st=(.ptr K.kb 0,.sl lb 0 K.nl K.nl 2,.int .i64 (.ofNat (KU K).length) 0,K.vp,.int .i64 (.ofNat K.ps.length) 0,.int .i64 (.ofNat j) 0,H',n')/\n<=n'/\(∀id,id<n->id≠lb->T.get H' id=T.get H id)/\
  XC H' lb (KU K++K.ps.take j++List.replicate (K.nl-(KU K).length-j) BI)/\j<=K.ps.length) ?_ ?_ ⟨H,n,rfl,Nat.le_refl _,λ_ _ _=>rfl,by simpa using hl,Nat.zero_le _⟩
 ·rintro I j st hj ⟨H1,n1,rfl,hn1,s1,hl1,hle⟩ ih
  show Ho lfp G (Runs F G) k I (.ptr K.kb 0) (.sl lb 0 K.nl K.nl 2) (.int .i64 (.ofNat (KU K).length) 0) K.vp (.int .i64 (.ofNat K.ps.length) 0) (.int .i64 (.ofNat j) 0) H1 n1
  delta Ho
  have pl:=AMD K
  obtain⟨q,hq,hld⟩:=(hE.ps.el.same (H':=H1) λid hid=>by have:=hE.ps.lo id hid;exact s1 id (by omega) (by omega)).at (NT hj)
  have hld:Af 2 q G H1=some (K.ps[j]).v:=Bl hld
  rw[UJ,decide_eq_true hj,AV,Bz,hq,AV,hld,AV]
  refine EJ rfl λH2 f2 g2=>?_
  show Bg 2 (.ptr n1 0) (.agg (K.ps[j]).cells) _ _ _
  rw[ED (m:=2) g2 (by omega) rfl rfl]
  have g3:=T.Ag H2 n1 (one (K.ps[j]).cells)
  have f3:Kp H1 n1 (T.set H2 n1 (one (K.ps[j]).cells)) (n1+1):=⟨by omega,λid hid=>by rw[T.Ac _ _ (by omega),f2.same _ hid]⟩
  generalize T.set H2 n1 (one (K.ps[j]).cells)=H3 at g3 f3
  rw[AS1 (show(KU K).length+j<9223372036854775808 by omega),AV,Aj g3,AV]
  have hl3:=hl1.same (f3.same lb (by omega))
  have hcl:=cl j hle
  have put:=XC.put (n:=n1+1) (i:=(KU K).length+j) (x:=K.ps[j]) (q:=.i64) (P:=λ_ H n=>AL (B2.ev .add (.int .i64 (.ofNat j) 0) (.int .i64 (.ofNat 1) 0)) λv85=>I (.ptr K.kb 0,.sl lb 0 K.nl K.nl 2,.int .i64 (.ofNat (KU K).length) 0,K.vp,.int .i64 (.ofNat K.ps.length) 0,v85,H,n)) hl3 (by rw[hcl];omega) λH4 hl4 s4=>by
   rw[Dl (by omega),AV]
   refine ih _ ⟨H4,n1+1,rfl,by omega,λid h1 h2=>by rw[s4 id h2,f3.same id (by omega),s1 id h1 h2],?_,hj⟩
   rw[show K.nl-(KU K).length-j=(K.nl-(KU K).length-(j+1))+1 by omega,AJz hj rfl]at hl4
   exact hl4
  rw[hcl]at put
  exact put
 ·rintro I st ⟨H1,n1,rfl,hn1,s1,hl1,hle⟩
  show Ho lfp G (Runs F G) k I (.ptr K.kb 0) (.sl lb 0 K.nl K.nl 2) (.int .i64 (.ofNat (KU K).length) 0) K.vp (.int .i64 (.ofNat K.ps.length) 0) (.int .i64 (.ofNat K.ps.length) 0) H1 n1
  delta Ho
  rw[UJ,decide_eq_false (Nat.lt_irrefl _),AV,BZ]
  delta PN
  rw[List.take_length]at hl1
  have hl1:XC H1 lb (XU K).loc:=hl1
  have hnl:=uI hlen
  have f1:Kb K.b H K.kb H1 K.kb:=⟨Nat.le_refl _,λid h _=>s1 id (by omega) (by omega),λhs=>hs.same (s1 _ (by omega) (by omega))⟩
  have hE1:=hE.bV f1
  have hw1:Qe K W H1 n (List.replicate K.code.length none) false false:=hw.mono (Nat.le_refl _) λid h1 h2 h3=>s1 id h2 λe=>by rw[e]at h3;exact h3 hlb.2.2
  have hw1:=hw1.raise hn1
  have el:=hl1.el (G:=G)
  rw[hnl]at el
  have svl:Sv G H1 (λid=>K.kb<id/\id<n1/\(if id<n then W.own id else 0)=0) (.sl lb 0 K.nl K.nl 2) (XU K).loc:=
   ⟨el,(λid h=>by cases h;exact⟨hlb.1,by omega,by rw[if_pos hlb.2.1];exact hlb.2.2⟩),.inr rfl,⟨rfl,rfl,AJx ..⟩,rfl⟩
  have svs:Sv G H1 (λid=>K.kb<id/\id<n1/\(if id<n then W.own id else 0)=0) .Ae (XU K).stk.reverse:=⟨ABE,(λid h=>by cases h),.inl ⟨rfl,rfl⟩,⟨rfl,rfl,rfl⟩,rfl⟩
  have rY:DK K.fs (List.replicate K.code.length none) 0 (XU K)=some (at0 K.code.length (XU K),true):=by
   unfold DK at0
   rw[List.getElem?_replicate,if_pos hN]
  refine AG1 hG hE1 hw1 svl svs (λx hx=>?_) (λx hx=>by cases hx) hnl (by show 0<=_;omega) (λW4 H4 n4 g4 m4 f4 hw4 _ e=>?_) λW4 H4 n4 g4 ch e hw4 ho f4=>?_
  ·rcases List.mem_append.1 hx with hx|hx
   ·rcases List.mem_append.1 hx with hx|hx
    ·unfold KU at hx
     cases hst:K.st with
     |true=>rw[hst]at hx;cases hx
     |false=>rw[hst]at hx;rw[List.mem_singleton.1 hx];exact hE.nok
    ·exact hE.ps.ok x hx
   ·rw[List.eq_of_mem_replicate hx];exact λ_=>rfl
  ·rw[rY]at e;cases e
  ·rw[rY]at e
   cases e
   have f4':=f4.kb (by omega)
   have hn4:=f4.le
   refine ALw hG hI hw0 hu hp hE0 hw4 ⟨λi s hs=>?_,⟨λi s hs=>?_,λi s hs=>?_⟩⟩ hpg (by omega) ((f0.trans f1).trans f4') hk
   ·rw[(Rt hN hs).2]
    exact⟨(λt ht=>by cases ht),hgood⟩
   ·rw[(Rt hN hs).2];exact hnl
   ·rw[(Rt hN hs).2];exact Nat.zero_le _
theorem AFH:∀{s:St} {ms:List ES},P9 s ms=true->∀m∈ms,∀t∈m.ps,ND t.nm=true
 |_,[],_,m,hm,_,_=>by cases hm
 |s,m'::ms,h,m,hm,t,ht=>by
  unfold P9 at h
  simp only[Bool.and_eq_true,Bool.not_eq_true',List.any_eq_false]at h
  rcases List.mem_cons.1 hm with rfl|hm
  ·have:=h.2.2.2.2.1 t ht
   simpa using this
  ·exact AFH h.2.2.2.2.2 m hm t ht
theorem AMs(hG:Oh G){n0 ii t a b fm j fuel:Nat}{vn:V}{fs:Tab}{f:Fl}{vf vm v0 v1 v2 v3 v4 vb:V}{mws ws bws:List V}{m:ES}{bd:Bd}{r:Bool}(hi:QU G H n0 ii t a b fm vn fs)(hfs:fs.length<=1000)(hw0:Whole fs)(hu:Upper fs)(hn:n0<=n)
 (hf:WW G H n0 [f.face.nm.v,f.face.sup.v,vf,vm,v0,v1,v2,v3,v4,vb] f vf vm v0 v1 v2 v3 v4 vb mws ws bws) (hok:PK f=true) (hm:f.face.ms[j]? =some m) (hbd:f.bodies[j]? =some bd) (hbf:NQ f.pool m bd)
 (hpg:YG (cxF fs f m bd) fuel (at0 bd.code.length (RY f.face.nm m bd))=some r) (hk:∀H' n',Kb b H n H' n'->k (.bool r) H' n'):
 Runs F G Yz [.ptr ii 0,.agg [f.face.nm.v,f.face.sup.v,vf,vm,v0,v1,v2,v3,v4,vb],.int .i64 (.ofNat j) 0] H n k:=by
 refine BN (s:=ar3 (La lfp G)) SS (by obtain⟨h,o⟩:=Yj BO G;rw[SS]at h;cases h;exact o) ?_
 show La lfp G (Runs F G) (.ptr ii 0) (.agg [f.face.nm.v,f.face.sup.v,vf,vm,v0,v1,v2,v3,v4,vb]) (.int .i64 (.ofNat j) 0) H n k
 delta La
 have hbn:=hi.tab.bn
 have hjm:=(List.getElem?_eq_some_iff.1 hm).1
 have hjb:=(List.getElem?_eq_some_iff.1 hbd).1
 have em:f.face.ms[j]=m:=by rw[List.getElem?_eq_getElem hjm]at hm;exact Option.some.inj hm
 have eb:f.bodies[j]=bd:=by rw[List.getElem?_eq_getElem hjb]at hbd;exact Option.some.inj hbd
 have hlo:=hbf.lo
 have hhi:=hbf.hi
 have hc0:=hbf.c0
 have hc1:=hbf.c1
 have AOK:Wh f.face=true:=by
  have:=hok
  unfold PK at this
  rw[Bool.and_eq_true]at this;exact this.1
 refine F9 λH1 f1 g1=>?_
 have fb1:=f1.kb (b:=b) (by omega)
 have e1:=(fb1.low hn).ke (G:=G) hi.tab.seen
 have hf1:=hf.ke e1
 obtain⟨p,wc,hp,hld,hcode⟩:=vW hf1.bodies hjb
 obtain⟨p5,w5,hp5,hld5,hw5⟩:=hf1.face.ms.at hjm
 have hret:=(hf1.face.ms.ok _ (List.getElem_mem hjm)).2
 rw[em]at hld5 hw5 hret
 rw[eb]at hld hcode
 rw[Ec (m:=10) g1 (by omega) rfl,AV,BG,AV,AU (off:=0+9) g1 (v:=vb) rfl,AV,hp,AV,Bl hld,AV,BG,AV,BG,AV,AU (off:=0+0+3) g1 (v:=vm) rfl,AV,hp5,AV,Bl hld5,AV,
  AKQ (kb:=n+1) (i:=ii) (t:=t) (a:=a) (b:=b) (fm:=fm) (vn:=vn) (fs:=fs) (ws:=ws) (by omega),AV]
 refine F9 λH2 f2 g2=>?_
 let K:=mkK (n+1) ii t a b fm vn fs f vf vm v0 v1 v2 v3 v4 vb ws m w5 bd wc
 have fb2:=f2.kb (b:=b) (by omega)
 have f12:=fb1.trans fb2
 have e2:=(f12.low hn).ke (G:=G) hi.tab.seen
 have hE:K.En G H2:=AOj (hi.kb (f12.low hn)) hfs (hf.ke e2) (by omega) (hw5.ke ((fb2.low (m:=n0) (by omega)).ke (G:=G) (hi.kb (fb1.low hn)).tab.seen)) hret ⟨hcode.el.ke hcode.lo ((fb2.low (m:=n0) (by omega)).ke (G:=G) (hi.kb (fb1.low hn)).tab.seen),hcode.lo,hcode.lt⟩ hbf
 have gb:T.get H2 (n+1)=some (one (K.Wi .Ae false false)):=g2
 have wL:lenV wc=some (.int .i64 (.ofNat bd.code.length) 0):=by
  have:=hE.code.el.len
  rw[List.length_map]at this;exact this
 rw[EM,AV,BG,AV,BG,AV,AU (off:=0+11+2) gb (v:=wc) rfl,AV,wL,AV]
 refine AN9 (by omega) λH3 f3 ⟨ta,g3,hta⟩=>?_
 rw[AV,BG,AV]
 refine Y4 (f3.get gb (by omega)) rfl rfl (by omega) (by show 0+19+1<=22;omega) λH4 g4 s4=>?_
 have g4:T.get H4 (n+1)=some (one (K.Wi (.sl (n+1+1) 0 bd.code.length bd.code.length 3) false false)):=g4
 have hnl:(Int.ofNat bd.locals.toNat:Int)=bd.locals:=Int.toNat_of_nonneg (by omega)
 rw[AV,BG,AV,BG,AV,AU (off:=0+11+0) g4 (v:=.int .i64 (.ofNat bd.locals.toNat) 0) rfl,AV]
 refine AN9 (by omega) λH5 f5 ⟨tl,g5,htl⟩=>?_
 have g4':=f5.get g4 (by omega)
 have g1':T.get H5 n=_:=(f5.same n (by omega)).trans ((s4 n (by omega)).trans ((f3.same n (by omega)).trans ((f2.same n (by omega)).trans g1)))
 rw[AV,BG,AV,BG,AV,AU (off:=0+14+1) g4' (v:=.bool m.st) rfl,AV,BL,AV]
 have ATQ:∀id,id<n+1->T.get H5 id=T.get H2 id:=λid hid=>by rw[f5.same id (by omega),s4 id (by omega),f3.same id (by omega)]
 have hnc:n+1<n+1+1+1:=by omega
 let W:Wv:=⟨n+1+1,λid=>if id=n+1 then 1 else if id=n+1+1 then 2 else 0,λ_=>0,λ_=>.Ae,λ_=>.Ae,.Ae⟩
 have hW:∀{H' n'},n+1+1+1+1<=n'->T.get H' (n+1)=T.get H5 (n+1)->T.get H' (n+1+1)=T.get H5 (n+1+1)->Qe K W H' n' (List.replicate bd.code.length none) false false:=by
  intro H' n' hn' q1 q2
  have rep:∀(i:Nat) (o:Option CG),(List.replicate bd.code.length (none:Option CG))[i]? =some o->o=none/\i<bd.code.length:=λi o h=>by
   obtain⟨h1,h2⟩:=List.getElem?_eq_some_iff.1 h
   rw[List.getElem_replicate]at h2
   rw[List.length_replicate]at h1
   exact⟨h2.symm,h1⟩
  refine⟨by show n+1<n';omega,if_pos rfl,q1.trans g4',List.length_replicate ..,⟨by show n+1<n+1+1;omega,by show n+1+1<n';omega⟩,?_,⟨ta,q2.trans ((f5.same _ (by omega)).trans ((s4 _ (by omega)).trans g3)),λi o hi=>?_⟩,λi s hi=>?_,λi s hi=>?_⟩
  ·show(if n+1+1=n+1 then 1 else if n+1+1=n+1+1 then 2 else 0)=2
   rw[if_neg (by omega),if_pos rfl]
  ·obtain⟨rfl,h⟩:=rep i o hi;exact hta i h
  ·cases(rep i _ hi).1
  ·cases(rep i _ hi).1
 have hps:=AFH (by
  have:=AOK
  simp only[Wh,Bool.and_eq_true]at this
  exact this.2.2.2.2.2.2.2) m (by rw[<-em];exact List.getElem_mem hjm)
 have hcls:upper f.face.nm.1 f.face.nm.2=true:=by
  have:=AOK
  simp only[Wh,Bool.and_eq_true]at this
  exact this.1
 have hgood:∀t∈(XU K).loc,Gt t∨t=BI:=λx hx=>by
  rcases List.mem_append.1 hx with hx|hx
  ·rcases List.mem_append.1 hx with hx|hx
   ·left
    have hx:x∈uq f.face.nm m:=hx
    unfold uq at hx
    cases hst:m.st with
    |true=>rw[hst]at hx;cases hx
    |false=>rw[hst]at hx;rw[List.mem_singleton.1 hx];exact rC hcls
   ·exact .inl (lT (hps x hx))
  ·exact .inr (List.eq_of_mem_replicate hx)
 have hlen:(KU K).length+K.ps.length<=K.nl:=by
  show(uq f.face.nm m).length+m.ps.length<=bd.locals.toNat
  rw[lV];omega
 have go:∀{H' n'},n+1+1+1+1<=n'->(∀id,id<n+1+1+1->T.get H' id=T.get H5 id)->XC H' (n+1+1+1) (KU K++List.replicate (K.nl-(KU K).length) BI)->ER lfp G (Runs F G) k (.ptr (n+1) 0) (.sl (n+1+1+1) 0 bd.locals.toNat bd.locals.toNat 2) (.int .i64 (.ofNat (KU K).length) 0) H' n':=by
  intro H' n' hn' hs hl
  refine ASM (K:=K) (W:=W) (n0:=n) hG (AHN hbf) hw0 hu (AI0 hok) hE (by show 0<bd.code.length;omega) hlen ?_ (hW hn' (hs _ (by omega)) (hs _ (by omega))) hl ⟨by show n+1<_;omega,by omega,?_⟩ (by omega) hgood hpg λH' n' hn' f'=>hk H' n' ?_
  ·exact⟨Nat.le_refl _,λid h1 _=>by have h1:id<n+1:=h1;rw[hs id (by omega),ATQ id h1],λhs2=>hs2.same (by show T.get _ b=T.get _ b;rw[hs b (by omega),ATQ b (by omega)])⟩
  ·show(if n+1+1+1=n+1 then 1 else if n+1+1+1=n+1+1 then 2 else 0)=0
   rw[if_neg (by omega),if_neg (by omega)]
  ·have f':Kb b H2 (n+1) H' (n+1):=f'
   exact⟨by omega,λid h1 h2=>by rw[f'.same id (by omega) h2,f12.same id h1 h2],λhs=>f'.seen (f12.seen hs)⟩
 have hl0:XC H5 (n+1+1+1) (List.replicate bd.locals.toNat BI):=⟨tl,by rw[List.length_replicate];exact g5,λi x hx=>by
  obtain⟨h1,h2⟩:=List.getElem?_eq_some_iff.1 hx
  rw[List.getElem_replicate]at h2
  rw[List.length_replicate]at h1
  subst h2
  exact htl i h1⟩
 have hpre:KU K=uq f.face.nm m:=rfl
 cases hst:m.st with
 |true=>
  have ep:KU K=[]:=by rw[hpre];unfold uq;rw[hst];rfl
  rw[Bool.not_true,BZ]
  have:=go (Nat.le_refl _) (λ_ _=>rfl) (by rw[ep];exact hl0)
  rw[ep]at this
  exact this
 |false=>
  have ep:KU K=[⟨f.face.nm,false⟩]:=by rw[hpre];unfold uq;rw[hst];rfl
  rw[ep]at hlen
  have hlen:1+m.ps.length<=bd.locals.toNat:=hlen
  rw[Bool.not_false,Bz,AV,BG,AV,AU (off:=0+0+0) g1' (v:=f.face.nm.v) rfl,AV]
  refine iO λH6 n6 f6=>?_
  have hn6:=f6.le
  have put:=XC.put (n:=n6) (i:=0) (x:=⟨f.face.nm,false⟩) (q:=.i64) (P:=λ_ H n'=>ER lfp G (Runs F G) k (.ptr (n+1) 0) (.sl (n+1+1+1) 0 bd.locals.toNat bd.locals.toNat 2) (.int .i64 (.ofNat 1) 0) H n') (hl0.same (f6.same _ (by omega))) (by rw[List.length_replicate];omega) λH7 hl7 s7=>by
   have:=go (H':=H7) (n':=n6) (by omega) (λid hid=>by rw[s7 id (by omega),f6.same id (by omega)]) (by
    rw[ep]
    show XC H7 _ ([_]++List.replicate (bd.locals.toNat-1) BI)
    rw[show bd.locals.toNat=(bd.locals.toNat-1)+1 by omega,List.replicate_succ,List.set_cons_zero]at hl7
    exact hl7)
   rw[ep]at this
   exact this
  rw[List.length_replicate]at put
  exact put
end
noncomputable def ADP(G:AQ):AQ:=λb off m=>
 Bool.rec (motive:=λ_=>Option LV) (G b off m) (some [.int .i32 (.ofNat (AEp.getD (off/2) 0)) 0]) (band (Nat.beq b 0) (band (Nat.beq m 1) (band (Nat.beq (off%2) 1) (Nat.ble off 65))))
theorem AKq{G:AQ}(hO:jW G):ADP G=G:=by
 funext b off m
 unfold ADP
 cases hb:band (Nat.beq b 0) (band (Nat.beq m 1) (band (Nat.beq (off%2) 1) (Nat.ble off 65)))with
 |false=>rfl
 |true=>
  simp only[BP,Bool.and_eq_true,beq_iff,Nat.ble_eq]at hb
  obtain⟨rfl,rfl,h1,h2⟩:=hb
  have:=hO (off/2) (by omega)
  rw[show off/2*2+1=off by omega]at this
  exact this.symm
theorem AGt(G:AQ):AQI (FS (lpF 300) (ADP G)) 300 Vg [] .e 0 isT=True:=by kernel_rfl
theorem ALp{G:AQ}(hO:jW G){k:KV}(hk:∀H' n',k (.bool true) H' n'):Runs F G Vg [] .e 0 k:=by
 have h:=AGt G
 rw[AKq hO]at h
 exact AIZ (k:=isT) (λv H n hv=>by have:=ANg hv;subst this;exact hk H n) (AHb (ASz (APW 300) G) 300 _ _ _ _ _ (of_eq_true h))
theorem AM3{fs:Tab}{f:Fl}{m:ES}{bd:Bd}{c:St}(hw:Whole fs)(hu:Upper fs)(h:NQ f.pool m bd):∃fuel r,YG (cxF fs f m bd) fuel (at0 bd.code.length (RY c m bd))=some r:=by
 have hN:0<bd.code.length:=by have:=h.c0;omega
 have hlen:(RY c m bd).loc.length=bd.locals.toNat:=by
  have h1:=lV c m
  have h2:=h.lo
  show(uq c m++m.ps++List.replicate _ BI).length=_
  simp only[List.length_append,List.length_replicate];omega
 have inv:Inv2 bd.locals.toNat bd.stack.toNat (at0 bd.code.length (RY c m bd)):=by
  refine⟨λi s hs=>?_,λi s hs=>?_⟩
  ·rw[(Rt hN hs).2];exact hlen
  ·rw[(Rt hN hs).2];exact Nat.zero_le _
 obtain⟨r,hr⟩:=AAK (c:=cxF fs f m bd) hw hu (L:=bd.locals.toNat) _ (at0 bd.code.length (RY c m bd)) (Nat.lt_succ_self _) inv
 exact⟨_,r,hr⟩
theorem ALk{fs:Tab}{f:Fl}{m:ES}{bd:Bd}{c:St}{fuel:Nat}{r:Bool}{rr:Int}(hw:Whole fs)(hu:Upper fs)(h:NQ f.pool m bd)(hp:YG (cxF fs f m bd) fuel (at0 bd.code.length (RY c m bd))=some r)(hr:sS (cxF fs f m bd) (RY c m bd) rr):
 r=decide (0<=rr)/\(0<=rr->rr<(bd.code.length:Int)):=by
 have hN:0<(cxF fs f m bd).code.length:=by have:=h.c0;show 0<bd.code.length;omega
 obtain⟨fu,hrun,-⟩:=hr
 obtain⟨h1,h2⟩:=AMM hw hu hN hrun
 have h3:=AKi (c:=cxF fs f m bd) hw hu hN hp
 by_cases e:rr= -1
 ·have:r=false:=h3.2 (h1.1 e)
  subst e
  rw[this]
  exact⟨rfl,λh=>by omega⟩
 ·obtain⟨j,hj,hlt⟩:=h2 e
  have hne:r≠false:=λhr=>e (h1.2 (h3.1 hr))
  have hlt:j<bd.code.length:=hlt
  refine⟨?_,λ_=>by omega⟩
  rw[decide_eq_true (by omega)]
  cases r with
  |true=>rfl
  |false=>exact absurd rfl hne
theorem AFl{R:Fl->Nat->Int}{fls:List Fl}(h:XZ [] fls=0){j:Nat}(hj:j<fls.length):
 Lm R (KH fls) (IW (fls.drop j))=match firstM (R fls[j]) fls[j].face.ms 0 with|some p=>some (fls[j].face.nm,p.1,p.2)|none=>Lm R (KH fls) (IW (fls.drop (j+1))):=by
 rw[List.drop_eq_getElem_cons hj]
 show(match EO (KH fls) fls[j].face.nm with|none=>_|some f=>_)=_
 rw[ACO fls [] fls[j] h (List.getElem_mem hj)];rfl
section
variable{G:AQ}{H:Heap}{n:Nat}{k:KV}
theorem ARz(s:St):Cc (.one .str) false s.v s.v=some (.bool true):=by
 unfold St.v
 rw[yL,decide_eq_true ⟨rfl,rfl⟩]
theorem ATE(hG:Oh G){n0 ii t a b fm gb fb:Nat}{vn a24 a25 a26:V}{fs:Tab}{f:Fl}{vf vm v0 v1 v2 v3 v4 vb:V}{mws ws bws:List V}{R:Nat->Int}{got:Option (St×St×Int)}{ih17:(V×V×V×V×V×Heap×Nat)->Prop}(hi:QU G H n0 ii t a b fm vn fs)(hfs:fs.length<=1000)(hw0:Whole fs)(hu:Upper fs)(hn:n0<=n)
 (hf:WW G H n0 [f.face.nm.v,f.face.sup.v,vf,vm,v0,v1,v2,v3,v4,vb] f vf vm v0 v1 v2 v3 v4 vb mws ws bws) (hok:PK f=true) (hR:∀(j:Nat) (m:ES) (bd:Bd),f.face.ms[j]? =some m->f.bodies[j]? =some bd->sS (cxF fs f m bd) (RY f.face.nm m bd) (R j))
 (gg:T.get H gb=some (one (X8 got))) (hgb:b<gb/\gb<n) (gf:T.get H fb=some (one [f.face.nm.v,f.face.sup.v,vf,vm,v0,v1,v2,v3,v4,vb])) (hfb:b<fb/\fb<n) (hgot:∀p,firstM R f.face.ms 0=some p->got=some (f.face.nm,p.1,p.2))
 (hT:∀H' n',k (.bool true) H' n') (hk:∀H' n',Kb b H n H' n'->firstM R f.face.ms 0=none->GN lfp G (Runs F G) k ih17 (.ptr ii 0) (.ptr gb 0) a24 a25 a26 H' n'):
 lfp _ (Jc lfp G (Runs F G) k ih17) (.ptr ii 0,.ptr gb 0,.ptr fb 0,a24,a25,a26,vm,.int .i64 (.ofNat f.face.ms.length) 0,.int .i64 (.ofNat 0) 0,H,n):=by
 have hbn:=hi.tab.bn
 obtain⟨e1,e2⟩:=o9 hok
 refine Bc (N:=f.face.ms.length) (J:=λj st=>∃H' n',st=(.ptr ii 0,.ptr gb 0,.ptr fb 0,a24,a25,a26,vm,.int .i64 (.ofNat f.face.ms.length) 0,.int .i64 (.ofNat j) 0,H',n')/\Kb b H n H' n'/\firstM R f.face.ms 0=firstM R (f.face.ms.drop j) j) ?_ ?_ ⟨H,n,rfl,.refl ..,rfl⟩
 ·rintro I j st hj ⟨H1,n1,rfl,f1,hp⟩ ih
  show Ed lfp G (Runs F G) k ih17 I (.ptr ii 0) (.ptr gb 0) (.ptr fb 0) a24 a25 a26 vm (.int .i64 (.ofNat f.face.ms.length) 0) (.int .i64 (.ofNat j) 0) H1 n1
  delta Ed
  have hn1:=f1.le
  have ke1:=(f1.low hn).ke (G:=G) hi.tab.seen
  have hf1:=hf.ke ke1
  have hi1:=hi.kb (f1.low hn)
  obtain⟨p,w,hp1,hld1,hw1⟩:=hf1.face.ms.at hj
  have hjb:j<f.bodies.length:=by omega
  have hm:=List.getElem?_eq_getElem hj
  have hbd:=List.getElem?_eq_getElem hjb
  have hbf:=e2 j _ _ hm hbd
  have hmb:=hf1.face.ms.lt
  unfold big at hmb
  obtain⟨fuel,r,hpg⟩:=AM3 (c:=f.face.nm) hw0 hu hbf
  obtain⟨hr1,hr2⟩:=ALk hw0 hu hbf hpg (hR j _ _ hm hbd)
  rw[List.drop_eq_getElem_cons hj]at hp
  have hp:firstM R f.face.ms 0=bif decide (0<=R j)then some (f.face.ms[j].nm,R j)else firstM R (f.face.ms.drop (j+1)) (j+1):=hp
  generalize f.face.ms[j]=m at*
  generalize hbb:f.bodies[j]=bd at*
  rw[UJ,decide_eq_true hj,AV,Bz,hp1,AV,Bl hld1,AV]
  refine EJ rfl λH2 f2 g2=>?_
  show Bg 5 (.ptr n1 0) (.agg (m.cells w)) _ _ _
  rw[ED (m:=5) g2 (by omega) rfl rfl]
  have g3:=T.Ag H2 n1 (one (m.cells w))
  have f3:Kp H1 n1 (T.set H2 n1 (one (m.cells w))) (n1+1):=⟨by omega,λid hid=>by rw[T.Ac _ _ (by omega),f2.same _ hid]⟩
  generalize T.set H2 n1 (one (m.cells w))=H3 at g3 f3
  have fb3:=f3.kb (b:=b) (by omega)
  have f13:=f1.trans fb3
  have ke3:=(f13.low hn).ke (G:=G) hi.tab.seen
  have gf3:=f13.get gf hfb.2 (by omega)
  rw[Ec (m:=10) gf3 (by omega) rfl,AV]
  refine AMs hG (hi.kb (f13.low hn)) hfs hw0 hu (by omega) (hf.ke ke3) hok hm hbd hbf hpg λH4 n4 f4=>?_
  have hn4:=f4.le
  have f14:=f13.trans f4
  rw[hr1]
  cases hd:decide (0<=R j)with
  |false=>
   rw[hd]at hp
   rw[BZ,Dl (by omega),AV]
   exact ih _ ⟨H4,n4,rfl,f14,hp⟩
  |true=>
   rw[hd]at hp
   have hge:0<=R j:=of_decide_eq_true hd
   have hlt:=hr2 hge
   have hgo:=hgot _ hp
   subst hgo
   have gg4:T.get H4 gb=some (one [.int .i64 (.ofNat 31) 0,f.face.nm.v,m.nm.v,.int .i64 (R j) 0]):=f14.get gg hgb.2 (by omega)
   have gf4:=f14.get gf hfb.2 (by omega)
   have gs4:=f4.get g3 (by omega) (by omega)
   have ke4:=(f14.low hn).ke (G:=G) hi.tab.seen
   obtain⟨pb,wc,hpb,hldb,hcb⟩:=vW (hf.ke ke4).bodies hjb
   rw[hbb]at hldb hcb
   obtain⟨p2,hp2,hl2⟩:=Um hG (o:=2) (x:=wc) hldb rfl rfl
   have wL:lenV wc=some (.int .i64 (.ofNat bd.code.length) 0):=by rw[hcb.el.len,List.length_map]
   rw[Bz]
   simp only[go_sem,Nat.reduceAdd,AU (off:=0) gg4 (v:=.int .i64 (.ofNat 31) 0) rfl,Fa,decide_true,AU (off:=1) gg4 (v:=f.face.nm.v) rfl,AU (off:=0) gf4 (v:=f.face.nm.v) rfl,ARz,
    AU (off:=2) gg4 (v:=m.nm.v) rfl,AU (off:=0) gs4 (v:=m.nm.v) rfl]
   simp only[go_sem,AU (off:=3) gg4 (v:=.int .i64 (R j) 0) rfl,ALs,hd,AU (off:=9) gf4 (v:=vb) rfl,hpb,hp2,hl2,wL]
   rw[show B2.ev .lss (.int .i64 (R j) 0) (.int .i64 (.ofNat bd.code.length) 0)=some (.bool (decide (R j<(bd.code.length:Int))))from AJ1 ..,AV,decide_eq_true hlt]
   exact hT _ _
 ·rintro I st ⟨H1,n1,rfl,f1,hp⟩
  show Ed lfp G (Runs F G) k ih17 I (.ptr ii 0) (.ptr gb 0) (.ptr fb 0) a24 a25 a26 vm (.int .i64 (.ofNat f.face.ms.length) 0) (.int .i64 (.ofNat f.face.ms.length) 0) H1 n1
  delta Ed
  rw[List.drop_eq_nil_of_le (Nat.le_refl _)]at hp
  rw[UJ,decide_eq_false (Nat.lt_irrefl _),AV,BZ]
  exact hk _ _ f1 hp
theorem AD2(hG:Oh G)(hO:jW G){a0:V}{fls:List Fl}(hf:∀H n,UQ G H n a0 fls)(hk:∀H' n',k (.bool true) H' n'):Runs F G fD [a0] .e 0 k:=by
 refine BN (s:=KL (GY lfp G)) Nk (by obtain⟨h,o⟩:=TA BO G;rw[Nk]at h;cases h;exact o) ?_
 show GY lfp G (Runs F G) a0 .e 0 k
 delta GY
 refine ALp hO λH0 n0=>?_
 rw[BL,AV,Bool.not_true,BZ]
 refine AMw (hf H0 n0) λr H1 n1 _ _=>?_
 rw[BL,AV]
 cases r with
 |false=>
  rw[Bool.not_false,Bz];exact hk _ _
 |true=>
 rw[Bool.not_true,BZ]
 refine AQn hG hO (hf H1 n1) (λhl H2 n2 ii f2 hi=>?_) λhne H2 n2 f2=>?_
 ·rw[AAw,AV,AAG,AV,AEh,AV,show(!decide (0=0))=false from rfl,BZ]
  obtain⟨R,hR⟩:=AJ7 hl
  obtain⟨l1,l2,l3⟩:=TQ hl
  have hw0:=AAH hl
  have hu:=AAP hl
  have htl:=ACs hl
  refine AK2 hG hl hR hi λH3 n3 _ _ _ hi3=>?_
  obtain⟨t,a,b,fm,vn,hi3,-⟩:=hi3.is
  have hbn:=hi3.tab.bn
  refine EJ rfl λH4 f4 g4=>?_
  rw[ED (m:=4) g4 (by omega) rfl (by cases Lm R (KH fls) (IW fls)with|none=>rfl|some p=>obtain⟨s,y,r⟩:=p;rfl)]
  have g5:=T.Ag H4 n3 (one (X8 (Lm R (KH fls) (IW fls))))
  have f5:Kp H3 n3 (T.set H4 n3 (one (X8 (Lm R (KH fls) (IW fls))))) (n3+1):=⟨by omega,λid hid=>by rw[T.Ac _ _ (by omega),f4.same _ hid]⟩
  generalize T.set H4 n3 (one (X8 (Lm R (KH fls) (IW fls))))=H5 at g5 f5
  have hi5:=hi3.kb (f5.kb (b:=b) (by omega))
  rw[(hf H5 0).len,AV]
  refine Bc (N:=fls.length) (J:=λj st=>∃H' n',st=(.ptr ii 0,.ptr n3 0,a0,.int .i64 (.ofNat fls.length) 0,.int .i64 (.ofNat j) 0,H',n')/\Kb b H5 (n3+1) H' n'/\Lm R (KH fls) (IW fls)=Lm R (KH fls) (IW (fls.drop j))) ?_ ?_ ⟨H5,n3+1,rfl,.refl ..,rfl⟩
  ·rintro I j st hj ⟨H6,n6,rfl,f6,hp⟩ ih
   show Ef lfp G (Runs F G) k I (.ptr ii 0) (.ptr n3 0) a0 (.int .i64 (.ofNat fls.length) 0) (.int .i64 (.ofNat j) 0) H6 n6
   delta Ef
   have hn6:=f6.le
   have hi6:=hi5.kb f6
   obtain⟨p,vf,vm,v0,v1,v2,v3,v4,vb,mws,ws,bws,hp1,hld,hfa⟩:=(hf H6 n6).at hj
   rw[AFl l2 hj]at hp
   have hmem:=List.getElem_mem hj
   generalize fls[j]=f at*
   rw[UJ,decide_eq_true hj,AV,Bz,hp1,AV,Bl hld,AV]
   refine EJ rfl λH7 f7 g7=>?_
   rw[ED (m:=10) g7 (by omega) rfl rfl]
   have g8:=T.Ag H7 n6 (one [f.face.nm.v,f.face.sup.v,vf,vm,v0,v1,v2,v3,v4,vb])
   have f8:Kp H6 n6 (T.set H7 n6 (one [f.face.nm.v,f.face.sup.v,vf,vm,v0,v1,v2,v3,v4,vb])) (n6+1):=⟨by omega,λid hid=>by rw[T.Ac _ _ (by omega),f7.same _ hid]⟩
   generalize T.set H7 n6 (one [f.face.nm.v,f.face.sup.v,vf,vm,v0,v1,v2,v3,v4,vb])=H8 at g8 f8
   have fb8:=f8.kb (b:=b) (by omega)
   have hfa8:=hfa.ke (f8.ke (G:=G))
   have lm:lenV vm=some (.int .i64 (.ofNat f.face.ms.length) 0):=by rw[hfa8.face.ms.el.len,List.length_zipWith,hfa8.face.ms.len,Nat.min_self]
   rw[BG,AV,BG,AV,AU (off:=0+0+3) g8 (v:=vm) rfl,AV,lm,AV]
   refine ATE (R:=R f) (got:=Lm R (KH fls) (IW fls)) hG (hi6.kb fb8) (by omega) hw0 hu (Nat.le_refl _) hfa8 (kX _ _ l2 f hmem) (λj m bd q1 q2=>hR f hmem j m bd q1 q2)
    ((f6.trans fb8).get g5 (by omega) (by omega)) ⟨by omega,by omega⟩ g8 ⟨by omega,by omega⟩ (λq hq=>by rw[hp,hq]) hk λH9 n9 f9 hnone=>?_
   delta GN
   have hbig:=(hf H6 n6).lt
   unfold big at hbig
   rw[Dl (by omega),AV]
   refine ih _ ⟨H9,n9,rfl,(f6.trans fb8).trans f9,?_⟩
   rw[hp,hnone]
  ·rintro I st ⟨H6,n6,rfl,f6,hp⟩
   show Ef lfp G (Runs F G) k I (.ptr ii 0) (.ptr n3 0) a0 (.int .i64 (.ofNat fls.length) 0) (.int .i64 (.ofNat fls.length) 0) H6 n6
   delta Ef
   rw[UJ,decide_eq_false (Nat.lt_irrefl _),AV,BZ]
   delta Jm
   rw[List.drop_length]at hp
   have hp:Lm R (KH fls) (IW fls)=none:=hp
   rw[hp]at g5
   rw[Ec (m:=4) (f6.get g5 (by omega) (by omega)) (by omega) rfl,AV,show BX [.int .i64 (.ofNat 0) 0,.str 0 0,.str 0 0,.int .i64 (.ofNat 0) 0] []=some (.agg [.int .i64 (.ofNat 0) 0,.str 0 0,.str 0 0,.int .i64 (.ofNat 0) 0])from rfl,AV,
    show Cc (.agg [.int,.str,.str,.int]) false (.agg (X8 none)) (.agg [.int .i64 (.ofNat 0) 0,.str 0 0,.str 0 0,.int .i64 (.ofNat 0) 0])=some (.bool true)from rfl,AV]
   exact hk _ _
 ·rw[AAw,AV,AAG,AV,ALe,AV,show decide (fV fls=Int.ofNat 0)=false from decide_eq_false λh=>hne h,Bool.not_false,Bz]
  exact hk _ _
end
end Go.RL
