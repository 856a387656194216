/- Part of a proof; nothing is assumed. -/
import Derived.Test.YtlhlldpfafhpbaaGreatDoorEngC
import Derived.Laws.IdiomStrings
import Derived.Orders
set_option linter.unusedVariables false
set_option linter.unusedSimpArgs false
noncomputable section
namespace Go.BN
variable{P:Program}
abbrev AAm{esz:Nat}:∀(m:Nat) (LS:Bh),(∀L∈LS,L.length=esz)->(LS.take m).flatten=LS.flatten.take (m*esz)
 |0,LS,_=>o6
 |m+1,[],_=>o6
 |m+1,L::LS,h=>by have d:=h L u_;rw[List.take_succ_cons,_L,_L,AAm m LS (λK f=>h K (c_ _ f)),pp,_g,List.take_append];rw[_d (l:=L) a6,d,show m*esz+esz-esz=m*esz by omega]
variable{w0:World}{ρ:Loc}{H:Heap}{n:Nat}{w:World}{G:AQ}{y:V}{LS:Bh}{k:KV}
abbrev AGX{t u e:TypeId}{esz:Nat}(ty:TypeId)(ht:P.underlying t=some (.slice e))(hz:pI P e=some esz)(hh:Cb w0 ρ H n w)(hg:Sj w0 G){x:V} {ux O:Value} (M:AW ρ x ux) (hy:AW ρ y O) (d0:elems y G H esz=some LS) (h:AFe x esz LS H n k):
 ADM P w0 ρ H n w (Builtin.copy_ #[t,u] ty #[ux,O]) k:=by
 have⟨F,hr,d1,hl,h1,hs⟩:=ABO (P:=P) hh hg hy d0;have Q:=run_sizeOf (P:=P) hz;have key:∀(id f d:Nat) (a:Addr) (p:Nat) (g:Info),ρ id=some g->(p=0∨a=⟨g.b,g.base+f*esz,none⟩)->d<=p->yY id f d esz LS H n k->
  ADM P w0 ρ H n w (Builtin.copy_ #[t,u] ty #[.slice (some a) d p,O]) k:=by
  intro id f d a p g i R D h;unfold yY at h;rw[G1]at h;have⟨b,q,v⟩:=h;cases b with
  |map _ _=>exact False.elim v
  |dead=>exact False.elim v
  |aq _ _ _ _ _=>exact False.elim v
  |own _=>exact False.elim v
  |arr S E c=>
   have I:B7 (band (Nat.beq esz S) (Nat.ble (Nat.add f (len (Vu d LS))) E)) (CS (len (Vu d LS)) λm=>k (.int .i64 (.ofNat m) 0) (T.set H id (.arr esz E (Dk (Vu d LS) f c))) n):=v;simp only[Du,A6,ez,beq_iff,A8,len_eq,aK]at I;obtain⟨⟨rfl,U⟩,hk⟩:=I;have J:f+(LS.take d).length<=E:=h_ U;have A:Nat.min LS.length d=(LS.take d).length:=by rw[xx];exact Nat.min_comm _ _
   have W:(LS.take d).length<=LS.length:=by simp;omega
   have d2:Bj ρ (LS.take d).flatten (F.take ((LS.take d).length*esz)):=by
    have e1:LS.take d=LS.take (LS.take d).length:=by rw[xx];exact List.take_eq_take_iff.2 a6
    rw[e1,AAm _ LS hl,<-e1];exact hr.take _
   have X:(F.take ((LS.take d).length*esz)).length=(LS.take d).length*esz:=by rw[xx,d1];exact aAi (z8 _ W)
   have Y:∀y∈F.take ((LS.take d).length*esz),y.oneCell'=true:=λy hy=>h1 y (_k hy);have d3:∀L∈LS.take d,L.length=esz:=λL hL=>hl L (_k hL);have⟨N,tt,fz,B⟩:=hh.arr id g esz E c i q;have⟨d4,Z⟩:=B.puts J d2 d3 X Y;have d5:(storeCells a (F.take ((LS.take d).length*esz))).run P w=.ok () (w.setRow g.b (JM N.toList (g.base+f*esz) (F.take ((LS.take d).length*esz))).toArray):=by
    rcases R with h0|rfl
    .have d6:(LS.take d).length=0:=by rw[xx];omega
     have d7:F.take ((LS.take d).length*esz)=[]:=by rw[d6];simp
     rw[d7,YP];have:(JM N.toList (g.base+f*esz) []).toArray=N:=by simp[JM]
     rw[this,setRow_self w g.b N tt fz B.heap]
    .have d8:=GT (P:=P) g.b (g.base+f*esz) tt fz (F.take ((LS.take d).length*esz)) 0 N w B.heap (by rw[B.size];exact B.free) (by simpa using d4) Y;simpa using d8
   have hf:=hs.fst (LS.take d).length W w rfl;have C:(Builtin.copy_ #[t,u] ty #[.slice (some a) d p,O]).run P w=.ok (.int .i64 (LS.take d).length) (w.setRow g.b (JM N.toList (g.base+f*esz) (F.take ((LS.take d).length*esz))).toArray):=by simp only[Builtin.copy_,_V,_H,_G,p_,dj ht,hs.len,Q,A,hf,s_,d5,E_,goInt]
   refine⟨_,_,_,_,_,ρ,hk,C,?_,?_,FC.turn i _⟩
   .simp only[AW];rfl
   .refine hh.turn i ⟨_,q,o6⟩ (setRow_size _ _ _) (λk hk=>setRow_other _ _ _ _ hk) (setRow_os _ _ _) (setRow_output _ _ _) ?_ (λes ck he=>by cases he) (λ_=>by rw[q];simp) (λ_ _ _ _ _ he=>by cases he);intro e2 n2 c2 he;cases he;exact⟨_,_,_,Z⟩
 cases x<;>simp only[AFe,V.el]at h<;>try (exact absurd h (λh=>h))
 .simp only[AW]at M;subst M;have hf:=hs.fst 0 (j_ _) w rfl;have C:(Builtin.copy_ #[t,u] ty #[.slice none 0 0,O]).run P w=.ok (.int .i64 0) w:=by have A:Nat.min LS.length 0=0:=Nat.min_zero _;simp only[Builtin.copy_,_V,_H,_G,p_,dj ht,hs.len,Q,A,hf,s_,E_,goInt];rfl
  exact⟨_,_,_,_,_,ρ,h,C,by simp only[AW];rfl,hh,FC.refl _ _ _⟩
 .simp only[Du]at h;have⟨K,h⟩:=h;have:=r_ K;subst this;simp only[AW]at M;obtain⟨g,a,i,rfl,R,D⟩:=M;exact key _ _ _ a _ g i R D h
 .simp only[Du]at h;have⟨K,h⟩:=h;have:=r_ K;subst this;simp only[AW]at M;obtain⟨g,a,cp,i,rfl,R,D,_⟩:=M;exact key _ _ _ a _ g i R D h
variable{d:Nat}
abbrev ADe.fz{size:Nat}{c:T LV}{vs:aAr}{t:TypeId}(h:ADe ρ size (.arr 1 d c) (.cells vs t)){fz:Nat×Nat}(f:ij fz size):ADe ρ size (.arr 1 d c) (.cells vs t fz):=by have⟨g,u,i,e,k,_,_,m,p,q⟩:=h;cases e;exact⟨_,_,_,rfl,k,f,.inl rfl,m,p,q⟩
variable{f:TypeId}{c:Nat}{u:Value}
abbrev AJj{d e:TypeId}(x:P.underlying d=some .string)(A:P.underlying f=some (.slice e))(B:P.underlying e=some (.int .u8))(hh:Cb w0 ρ H n w){l:Nat} (C:AW ρ (.str l c) u) (h:k (.Hf n 0 l 1) (T.set H n (.arr 1 l (Dk (VZ l c) 0 .e))) (n+1)):ADM P w0 ρ H n w (convert d f u) k:=by
 obtain⟨s,rfl,rfl,rfl⟩:=G3 C;have⟨D,G,E⟩:=jE (ρ:=ρ) s.data.toList;have g:=run_bytes_of_string (P:=P) w d f e s x A B;have F:=grownCap_ge w s.size 0 e;have m:=yT (ρ:=ρ) (esz:=1) (c0:=.e) (ln:=0) (olds:=[]) o6 (λy h=>(by cases h)) (λe h=>a6) (LS:=VZ s.data.toList.length (enc s.data.toList)) D E (by simp_all)
  (by intro y v;obtain⟨b,_,rfl⟩:=_c.1 v;rfl) (zs:=Array.replicate (grownCap w s.size 0 e-s.size) (.int .u8 0)) (by intro y v;simp at v;rw[v.2];rfl) e (need:=s.data.toList.length) a6
 have p:(#[]:aAr)++(s.data.toList.map λb=>Value.int .u8 b.toNat).toArray++Array.replicate (grownCap w s.size 0 e-s.size) (.int .u8 0)=bytesRow s (grownCap w s.size 0 e):=by unfold bytesRow;apply F'.1;simp
 rw[p]at m;have q:=m.fz (fz:=((bytesRow s (grownCap w s.size 0 e)).size,(bytesRow s (grownCap w s.size 0 e)).size+1)) (λi I h=>a6);refine⟨_,_,_,_,_,_,h,g,?_,hh.drew.new q,FC.place _ hh.pA⟩;refine⟨⟨w.heap.size,0,(bytesRow s (grownCap w s.size 0 e)).size⟩,⟨w.heap.size,0,none⟩,grownCap w s.size 0 e,Loc.add_same _ _ _,?_,.inr ?_,?_,?_⟩;all_goals simp[*,bytesRow]
abbrev AHa{b:Nat}{o o':Obj}(h:w.heap[b]? =some o)(f:∃d ck,o=.map d ck):∃w',(setObj b o').run P w=.ok () w'/\w'.heap.size=w.heap.size/\w'.heap[b]? =some o'/\(∀k,k≠b->w'.heap[k]? =w.heap[k]?)/\w'.os=w.os/\w'.output=w.output:=by obtain⟨d,ck,rfl⟩:=f;have g:=(_t.1 h).1;refine⟨{w with heap:=w.heap.setIfInBounds b o'},?_,o6,by simp[*],λk i=>by simp[Array.getElem?_setIfInBounds_ne (C_ i)],rfl,rfl⟩;simp[setObj,Sem.run,h]
variable{P:Program}
def AMO(P:Program)(w0:World)(ρ:Loc)(H:Heap)(n:Nat)(w:World)(s:Sem Unit)(k:Heap->Prop):Prop:=
 ∃H' w',k H'/\s.run P w=.ok () w'/\Cb w0 ρ H' n w'/\FC ρ H n ρ H' n
variable{v:V}{B:Value}{p:Value}
abbrev AKq{t:TypeId}(D:pI P t=some d)(hh:Cb w0 ρ H n w){x:V}(E:AW ρ x B)(F:AW ρ v p){k:Heap->Prop}
 (h:B7 (band (Rb v) (Nat.beq (len (At v)) d)) (CR (stP x H d (At v)) k)):AMO P w0 ρ H n w (Instr.storeAt t B p) k:=by
 simp only[Du,A6,ez,beq_iff,len_eq,G1]at h;have⟨⟨q,f⟩,G,g,I⟩:=h;have⟨C,J⟩:=jr F q;have i:p.cells.toList.length=d:=by rw[<-C.length,f]
 rw[<-i]at g;obtain⟨a,K,rfl,m,u,L⟩:=AKu (P:=P) hh E g C J;refine⟨G,K,I,?_,u,L⟩;have y:=run_sizeOf D w;have A:p.cells.size=d:=by simpa using i
 simp[Instr.storeAt,Instr.sureAddr,storeVar,y,A,m]
variable{m:V}
abbrev zr(hh:Cb w0 ρ H n w)(i:AW ρ m u){f:ME->Nat->aAC}{k:Heap->Prop}(h:AAd m H f k):
 ∃id x es ck b,∃d:Array MapEntry,ρ id=some x/\u=.map (some x.b)/\T.get H id=some (.map es ck)/\f es ck=some b/\k (T.set H id b)/\w.heap[x.b]? =some (.map d ck)/\Ho ρ es d.toList:=by
 cases m<;>simp only[AAd,V.el]at h<;>try (exact absurd h (λh=>h))
 rename_i id;simp only[AW]at i;obtain⟨x,p,rfl⟩:=i;unfold AVe at h;rw[G1]at h;have⟨b,q,h⟩:=h;rw[G1]at h;have⟨v,g,y⟩:=h;cases b with
 |arr _ _ _=>trivial
 |dead=>trivial
 |aq _ _ _ _ _=>trivial
 |own _=>trivial
 |map es ck=>
  have⟨d,A,B⟩:=hh.map id x es ck p q;exact⟨id,x,es,ck,v,d,p,rfl,q,g,y,A,B⟩
variable{id:Nat}
abbrev iG(hh:Cb w0 ρ H n w){x:Info}(q:ρ id=some x){es:ME}{ck:Nat}(d:T.get H id=some (.map es ck)){k:Array MapEntry}(y:w.heap[x.b]? =some (.map k ck))
 {es2:ME} {ck2:Nat} {es3:Array MapEntry} (A:Ho ρ es2 es3.toList):∃w',(setObj x.b (.map es3 ck2)).run P w=.ok () w'/\Cb w0 ρ (T.set H id (.map es2 ck2)) n w'/\FC ρ H n ρ (T.set H id (.map es2 ck2)) n:=by obtain⟨w',f,m,u,g,p,i⟩:=AHa y ⟨_,_,rfl⟩;refine⟨w',f,?_,FC.turn q _⟩;exact hh.turn q ⟨_,d,o6⟩ m g p i (λe c t v=>by trivial) (λe c v=>by simp_all) (λ_=>by simp[*]) (λ_ _ _ _ _ v=>by trivial)
abbrev Ho.append:∀{a b:ME} {x y:List MapEntry},Ho ρ a x->Ho ρ b y->Ho ρ (a++b) (x++y)
 |[],b,x,y,h,d=>by simp_all[Ho]
 |(k,v,c)::a,b,x,y,h,d=>by obtain⟨e,es,rfl,f,g,i,m⟩:=h;exact⟨e,es++y,rfl,f,g,i,m.append d⟩
abbrev Ho.set{k:V}{e:MapEntry}(d:AW ρ k e.key)(f:AW ρ v e.val)(g:e.born=c):∀{a:ME} {x:List MapEntry} (i:Nat),Ho ρ a x->Ho ρ (a.set i (k,v,c)) (x.set i e)
 |[],x,i,h=>by simp_all[Ho]
 |(k',v',w)::a,x,i,h=>by
  obtain⟨m,es,rfl,p,q,u,g4⟩:=h;cases i with
  |zero=>exact⟨e,es,rfl,d,f,g,g4⟩
  |succ i=>exact⟨m,es.set i e,rfl,p,q,u,Ho.set d f g i g4⟩
abbrev Ho.erase:∀{a:ME} {x:List MapEntry} (i:Nat),Ho ρ a x->Ho ρ (a.eraseIdx i) (x.eraseIdx i)
 |[],x,i,h=>by simp_all[Ho]
 |(k',v',m)::a,x,i,h=>by
  obtain⟨d,es,rfl,f,g,k,g4⟩:=h;cases i with
  |zero=>trivial
  |succ i=>exact⟨d,es.eraseIdx i,rfl,f,g,k,Ho.erase i g4⟩
abbrev run_findKey{d:TypeDesc}(g:P.underlying f=some d){es:List MapEntry}{q:Option _}(h:Instr.findNow d u es 0=some q)(w:World):(Instr.findKey f u es).run P w=.ok q w:=by simp[Instr.findKey,dj g,h]
variable{i:Nat}
abbrev AHo{d:Type}{l:List d}{f:d->d}{a:d}(h:l[i]? =some a):l.modify i f=l.set i (f a):=by
 apply _D;intro j;by_cases g:i=j
 .subst g;rw[List.getElem?_modify_eq,h];have:=(us.1 h).1;simp[*]
 simp[*]
abbrev AAx{t M et:TypeId}{c:CK}{d:TypeDesc}(X:P.underlying t=some (.map M et))(N:P.underlying M=some d)(Y:po P M=some c)(hh:Cb w0 ρ H n w){key:V}{Z:Value} (hm:AW ρ m Z) (F:AW ρ key p) (hv:AW ρ v B) {k:Heap->Prop} (h:AAd m H (AGa c key v) k):AMO P w0 ρ H n w (Instr.mapUpdate t Z p B) k:=by
 obtain⟨id,x,G,ck,b,g,hx,rfl,y,E,q,L,O⟩:=zr hh hm h;unfold AGa at E;rw[BQ]at E;have⟨r,C,E⟩:=E;have I:=run_checkKey (P:=P) Y false 9999 p w;rcases bl N Y F C O with⟨rfl,u⟩|⟨j,kv,v0,v1,b0,e0,rfl,u,_,Q,A,d0,qK,R,S⟩
 .have f:some (LF.map (cat G [(key,v,ck)]) (Nat.succ ck))=some b:=E;cases f;rw[ACg]at q;have⟨T,i,D,U⟩:=iG (P:=P) hh hx y L (es2:=G++[(key,v,ck)]) (ck2:=ck+1) (es3:=g.push ⟨p,B,ck⟩) (by rw[Array.toList_push];exact O.append ⟨_,[],rfl,F,hv,rfl,by rfl⟩);refine⟨_,T,q,?_,D,U⟩<;>simp_all[Instr.mapUpdate,p_,dj X,s_,PC L,I,run_findKey N u,i]
 .have f:BB (nth G (0+j)) (λe=>some (LF.map (cA (e.1,v,e.2.2) G (0+j)) ck))=some b:=E;rw[t_]at f u;rw[BQ]at f;have⟨e1,J,f⟩:=f;rw[oW,Q]at J;cases J;cases f;rw[ABE]at q;have hj:j<g.size:=by have:=(us.1 A).1;trivial
  have K:(g.modify j λe=>{e with key:=p,val:=B}).toList=g.toList.set j {e0 with key:=p,val:=B}:=by rw[Array.toList_modify,AHo A]
  have W:Instr.sameBits 10000 (((g[j]?).map (·.key)).getD p) p=true:=by simp_all
  have⟨T,i,D,U⟩:=iG (P:=P) hh hx y L (es2:=G.set j (kv,v,b0)) (ck2:=ck) (es3:=g.modify j λe=>{e with key:=p,val:=B}) (by rw[K];exact Ho.set (e:={e0 with key:=p,val:=B}) R hv qK j O);refine⟨_,T,q,?_,D,U⟩<;>simp_all[Instr.mapUpdate,p_,dj X,s_,PC L,I,run_findKey N u,Instr.keyThatStays,W,_1,E_,i]
abbrev AKc{t G W:TypeId}{c:CK}{d:TypeDesc}(Q:P.underlying t=some (.map G W))(I:P.underlying G=some d)(R:po P G=some c)(hh:Cb w0 ρ H n w){key:V} {S J:Value} (X:AW ρ m S) (K:AW ρ key J) (u ty:TypeId) (h:AAd m H (ASz c key) λH=>k (.CV []) H n):ADM P w0 ρ H n w (Builtin.delete_ #[t,u] ty #[S,J]) k:=by
 obtain⟨id,x,E,ck,b,f,T,rfl,q,A,B,F,L⟩:=zr hh X h;unfold ASz at A;rw[BQ]at A;have⟨r,v,A⟩:=A;have C:=run_checkKey (P:=P) R f.isEmpty 9999 J w;rcases bl I R K v L with⟨rfl,i⟩|⟨j,kv,v0,v1,b0,e0,rfl,i,_,Y,U,Z,qK,d0,M⟩
 .have p:some (LF.map E ck)=some b:=A;cases p;have⟨N,g,y,O⟩:=iG (P:=P) hh T q F (es2:=E) (ck2:=ck) (es3:=f) L;refine⟨_,_,_,.tuple #[],N,ρ,B,?_,⟨#[],rfl,o6⟩,y,O⟩;simp[Builtin.delete_,_V,_H,_G,p_,dj Q,s_,PC F,C,run_findKey I i,g,E_]
 .have p:some (LF.map (zy E (0+j)) ck)=some b:=A;rw[t_,ABY]at p;rw[t_]at i;cases p;have D:(f.eraseIdxIfInBounds j).toList=f.toList.eraseIdx j:=by simp
  have⟨N,g,y,O⟩:=iG (P:=P) hh T q F (es2:=E.eraseIdx j) (ck2:=ck) (es3:=f.eraseIdxIfInBounds j) (by rw[D];exact L.erase j);refine⟨_,_,_,.tuple #[],N,ρ,B,?_,⟨#[],rfl,o6⟩,y,O⟩;simp[Builtin.delete_,_V,_H,_G,p_,dj Q,s_,PC F,C,run_findKey I i,g,E_]
abbrev AKM{t u v:TypeId}(y:P.underlying t=some (.map u v))(hh:Cb w0 ρ H n w) (A:AW ρ m p) (ty:TypeId) (h:AAd m H (λ_ c=>some (.map [] c)) λH=>k (.CV []) H n):ADM P w0 ρ H n w (Builtin.clear_ #[t] ty #[p]) k:=by obtain⟨G,x,I,ck,b,B,C,rfl,d,D,g,q,J⟩:=zr hh A h;cases D;obtain⟨E,f,i,F⟩:=iG (P:=P) hh C d q (es2:=[]) (by rfl);refine⟨_,_,_,.tuple #[],E,ρ,g,?_,⟨#[],rfl,o6⟩,i,F⟩;simp[Builtin.clear_,dj y,PC q,f]
variable{P:Program}
def AJ7(P:Program)(f:FuncId):Prop:=∃fn,P.funcs[f]? =some fn/\fn.body.isSome=true/\(fn.name== "runtime.NumGoroutine")=false
def Y5(P:Program)(w0:World)(call:Am):Prop:=∀(f:Nat) (vargs:aAo) (H:Heap) (n:Nat) (k:KV),call f vargs H n k->AJ7 P f/\∀(ρ:Loc) (w:World) (args:aAr),Cb w0 ρ H n w->Bj ρ vargs args.toList->
 Calls P f args w (λe w'=>∃u v H' n' ρ',e=.returned u/\k v H' n'/\AW ρ' v u/\Cb w0 ρ' H' n' w'/\FC ρ H n ρ' H' n')
abbrev az{f:FuncId}(h:AJ7 P f)(args:aAr)(w:World):(callFunc f args).run P w=.ok (.enter f args) w:=by
 have⟨i,k,p,m⟩:=h;have d:i.body≠none:=by intro e;simp_all
 have g:i.name≠ "runtime.NumGoroutine" :=by simpa using m
 simp[callFunc,k,d,g]
def AB2(P:Program)(f:Operand->aAu)(c:Call):Option AE:=
 match c.callee with
 |.builtin b=>match b,c.args.toList,c.argTypes.toList with
  |.append,[x,y],[t,u]=>match P.underlying t,P.underlying u with
   |some (.slice e),some d=>Aq (P.info? e) λi=>Aq (rM P e) λz=>Aq (f x) λx=>Aq (f y) λy=>
    if z.length=i.size/\0<i.size/\0<i.bytes then match d with
     |.slice _=>some (.app i.size i.bytes x y)
     |.string=>some (.app i.size i.bytes x y)
     |_=>none
    else none
   |_,_=>none
  |.copy,[x,y],[t,_]=>match P.underlying t with
   |some (.slice e)=>Aq (pI P e) λz=>Aq (f x) λx=>Aq (f y) λy=>some (.copy z x y)
   |_=>none
  |.delete,[m,k],[t,_]=>match P.underlying t with
   |some (.map kt _)=>Aq (po P kt) λc=>Aq (f m) λm=>Aq (f k) λk=>some (.del c m k)
   |_=>none
  |.clear,[m],[t]=>match P.underlying t with
   |some (.map _ _)=>Aq (f m) λm=>some (.AWq m)
   |_=>none
  |_,_,_=>none
 |.value (.func fi)=>Aq (c.args.toList.mapM f) λa=>some (.call fi a)
 |.value o=>Aq (f o) λx=>Aq (c.args.toList.mapM f) λa=>some (.AIz x a)
 |_=>none
def sB(P:Program)(f:Operand->aAu)(op:Op):Option AE:=
 match op with
 |.store t x v=>Aq (pI P t) λn=>Aq (f x) λx=>Aq (f v) λv=>some (.st n x v)
 |.mapUpdate t m k v=>match P.underlying t with
  |some (.map kt _)=>Aq (po P kt) λc=>Aq (f m) λm=>Aq (f k) λk=>Aq (f v) λv=>some (.AGS c m k v)
  |_=>none
 |.insert t m k v=>match P.underlying t with
  |some (.map kt _)=>Aq (po P kt) λc=>Aq (f m) λm=>Aq (f k) λk=>Aq (f v) λv=>some (.AGS c m k v)
  |_=>none
 |.convert src dst x=>match P.underlying src,P.underlying dst with
  |some .string,some (.slice e)=>match P.underlying e with
   |some (.int .u8)=>Aq (f x) λx=>some (.cvB x)
   |_=>none
  |_,_=>none
 |.call c=>AB2 P f c
 |_=>none
def xc(f:Operand->aAu)(op:Op):Option AE:=
 match op with
 |.move x=>Aq (f x) λx=>some (.asg x)
 |.assign x=>Aq (f x) λx=>some (.asg x)
 |_=>none
abbrev ASt{f:Nat->Nat->Prop}:CR (v.Pj λl c=>some (.ptr l c)) (λv=>V.wy v f)↔∃l c,v=.str l c/\f l c:=by
 rw[G1];constructor
 .rintro⟨x,h,d⟩;obtain⟨l,c,rfl,h⟩:=FO.1 h;cases h;exact⟨l,c,rfl,d⟩
 .rintro⟨l,c,rfl,d⟩;exact⟨.ptr l c,FO.2 ⟨l,c,rfl,rfl⟩,d⟩
abbrev Ph{f:Nat->LV->LV->Prop}:V.Ts v f↔∃g a c,v=.fn g a c/\f g a c:=by
 cases v<;>simp[V.Ts,V.el];rename_i g a c;constructor
 .intro h;exact⟨g,a,c,⟨rfl,rfl,rfl⟩,h⟩
 simp
variable{e:AE}
section
variable{w0:World}{ρ:Loc}{H:Heap}{n:Nat}{w:World}{G:AQ}{E:RS}{a:Act}{f:Operand->Option X}{o:Oper}{k:KV}{next:Act->World->Prop}{Q:Exit->Act->World->Prop}
def Behind(w0:World)(ρ:Loc)(H:Heap)(n:Nat)(k:KV)(F:Value->World->Prop):Prop:=
 ∀v H' n' val w' ρ',k v H' n'->AW ρ' v val->Cb w0 ρ' H' n' w'->FC ρ H n ρ' H' n'->F val w'
abbrev zI{s:Sem Value}(i:execOp a.eval o=(do pure (Next.value (<-s)):Sem Next))(h:ADM P w0 ρ H n w s k)(m:Behind w0 ρ H n k λval f=>next (a.put o.dst val) f):o.wp P a w next Q:=by have⟨v,p,q,val,f,g,u,d,x,y,A⟩:=h;unfold Oper.wp;rw[i];simp only[p_,d];exact m v p q val f g u x y A
abbrev gM{s:Sem Unit}(g:execOp a.eval o=(do s;pure .skip:Sem Next))(h:AMO P w0 ρ H n w s λH=>k .undef H n)(i:Behind w0 ρ H n k λval f=>next (a.put o.dst val) f):o.wp P a w next Q:=by have⟨m,f,p,d,q,u⟩:=h;unfold Oper.wp;rw[g];simp only[p_,d];exact i .undef m n undef f ρ p (by trivial) q u
abbrev AAE{call:Am}(q:Y5 P w0 call){f:FuncId}{args:aAr}{vargs:aAo}(x:AJ7 P f->(execOp a.eval o).run P w=.ok (.enter f args) w)(hh:Cb w0 ρ H n w)(y:Bj ρ vargs args.toList)
 (h:call f vargs H n k) (A:Behind w0 ρ H n k λval g=>next (a.put o.dst val) g):o.wp P a w next Q:=by have⟨i,d⟩:=q f vargs H n k h;unfold Oper.wp;rw[x i];refine(d ρ w args hh y).mono ?_;rintro e g ⟨u,v,B,C,m,rfl,D,E,p,F⟩;exact A v B C u g m D E p F
abbrev AKV{call:Am}(hh:Cb w0 ρ H n w)(m:∀o x,f o=some x->AW ρ (x.ev E) (a.eval o))(d:xc f o.op=some e)(h:e.ex G call E H n k)
 (p:Behind w0 ρ H n k λval q=>next (a.put o.dst val) q):o.wp P a w next Q:=by
 have⟨u,op,B,v,g,i⟩:=o;cases op<;>simp only[xc]at d<;>try (cases d)
 all_goals
  have⟨C,y,e⟩:=AH.1 d;cases e;have A:=h;exact p _ _ _ _ _ ρ A (m _ _ y) hh (FC.refl _ _ _)
abbrev AAV{call:Am}(hc:Y5 P w0 call)(hh:Cb w0 ρ H n w)(hg:Sj w0 G)(F:∀o x,f o=some x->AW ρ (x.ev E) (a.eval o)){c:Call}(ho:o.op=.call c)(p:AB2 P f c=some e)(h:e.ex G call E H n k)
 (hn:Behind w0 ρ H n k λval w'=>next (a.put o.dst val) w'):o.wp P a w next Q:=by
 have⟨T,op,K,U,C,D⟩:=o;simp only at ho;subst ho;have⟨v,⟨args⟩,⟨q⟩⟩:=c;unfold AB2 at p;simp only at p;have lift:∀{s:Sem Value},(do let d<-resolve a.eval ⟨v,⟨args⟩,⟨q⟩⟩ K;invoke d.target d.args:Sem Next)=(do pure (Next.value (<-s)):Sem Next)->ADM P w0 ρ H n w s k->
  Oper.wp P ⟨T,.call ⟨v,⟨args⟩,⟨q⟩⟩,K,U,C,D⟩ a w next Q:=λhs h=>zI (by trivial) h hn
 split at p
 .split at p
  .rename_i b x y t u;split at p
   .rename_i e d L hu;have⟨i,hi,p⟩:=AH.1 p;have⟨z,hz,p⟩:=AH.1 p;have⟨S,W,p⟩:=AH.1 p;have⟨y',hy,p⟩:=AH.1 p;split at p
    .rename_i M;have⟨d1,X,d2⟩:=M;have⟨N,zv,d3,d4,d5,d6⟩:=ax hz;have:N=i:=e_ (d3.symm.trans hi);subst this;have d7:zv.cells.size=N.size:=by simp_all[_N,(d5 ρ).length,d1]
     have key:(∀kk,d≠.int kk)->AE.app N.size N.bytes S y'= ‹AE› ->Oper.wp P ⟨T,.call ⟨.builtin .append,⟨[x,y]⟩,⟨[t,u]⟩⟩,K,U,C,D⟩ a w next Q:=by intro hd B;subst B;have A:CR (elems (y'.ev E) G H N.size) (λY=>AAb (S.ev E) G N.size N.bytes Y H n k):=h;rw[G1]at A;have⟨Y,O,A⟩:=A;have d8:=AJy (P:=P) (t:=t) (u:=u) K ⟨L,⟨d,hu,hd⟩,hi,d4,rfl,rfl,d2,d7,d6⟩ X hh hg (F _ _ W) (F _ _ hy) O A;simp_all[resolve,invoke,builtin]
     split at p<;>simp_all
    trivial
   trivial
  .rename_i b x y t u;split at p
   .rename_i e L;have⟨z,hz,p⟩:=AH.1 p;have⟨S,W,p⟩:=AH.1 p;have⟨y',hy,B⟩:=AH.1 p;cases B;have A:CR (elems (y'.ev E) G H z) (λY=>AFe (S.ev E) z Y H n k):=h;rw[G1]at A;have⟨Y,O,A⟩:=A;refine lift ?_ (AGX (P:=P) (u:=u) K L hz hh hg (F _ _ W) (F _ _ hy) O A);simp[resolve,invoke,builtin]
   trivial
  .rename_i b m key t u;split at p
   .rename_i kt et L;have⟨c,Z,p⟩:=AH.1 p;have⟨m',hm,p⟩:=AH.1 p;have⟨k',hk,B⟩:=AH.1 p;cases B;have⟨d,hd⟩:=jl Z;refine lift ?_ (AKc (P:=P) L hd Z hh (F _ _ hm) (F _ _ hk) u K h);simp[resolve,invoke,builtin]
   trivial
  .rename_i b m t;split at p
   .rename_i kt et L;have⟨m',hm,B⟩:=AH.1 p;cases B;refine lift ?_ (AKM (P:=P) L hh (F _ _ hm) K h);simp[resolve,invoke,builtin]
   trivial
  trivial
 .rename_i fi;have⟨l,hl,B⟩:=AH.1 p;cases B;refine AAE hc (vargs:=Zy l E) (args:=(args.map a.eval).toArray) (λR=>?_) hh (by simpa using ZS F _ _ hl) h hn;have:=az R (args.map a.eval).toArray w;simp_all[execOp,resolve,Act.eval,Deferred.ofValue,invoke]
 .rename_i ov _;have⟨S,W,p⟩:=AH.1 p;have⟨l,hl,B⟩:=AH.1 p;cases B;have A:V.Ts (S.ev E) (λg fa ca=>call g (cat fa (cat (Zy l E) ca)) H n k):=h;rw[Ph]at A;have⟨g,fa,ca,d9,A⟩:=A;have hv:=F _ _ W;rw[d9]at hv;simp only[AW]at hv;have⟨I,J,d0,f0,f1⟩:=hv;refine AAE hc (args:=(I.toList++(args.map a.eval++J.toList)).toArray) (λR=>?_) hh ?_ A hn
  .have:=az R (I.toList++(args.map a.eval++J.toList)).toArray w;have B:I++(args.map a.eval).toArray++J=(I.toList++(args.map a.eval++J.toList)).toArray:=by simp
   simp[*,execOp,resolve,d0,Deferred.ofValue,p_,E_,s_,invoke,List.map_toArray,B]
  .simp only[ACg];exact f0.append ((ZS F _ _ hl).append f1)
 trivial
abbrev AKh{call:Am}(N:Y5 P w0 call)(hh:Cb w0 ρ H n w)(O:Sj w0 G)(q:∀o x,f o=some x->AW ρ (x.ev E) (a.eval o))(g:sB P f o.op=some e)(h:e.ex G call E H n k)
 (A:Behind w0 ρ H n k λval R=>next (a.put o.dst val) R):o.wp P a w next Q:=by
 cases i:o.op<;>rw[i]at g<;>simp only[sB]at g<;>try (cases g;done)
 case store t x v=>
  have⟨m,B,g⟩:=AH.1 g;have⟨L,F,g⟩:=AH.1 g;have⟨M,u,y⟩:=AH.1 g;cases y;exact gM (by simp[execOp,i]) (AKq (P:=P) B hh (q _ _ F) (q _ _ u) (k:=λH=>k .undef H n) h) A
 case mapUpdate t m key v=>
  split at g
  .rename_i S U I;have⟨c,p,g⟩:=AH.1 g;have⟨W,B,g⟩:=AH.1 g;have⟨X,J,g⟩:=AH.1 g;have⟨M,u,y⟩:=AH.1 g;cases y;have⟨d,C⟩:=jl p;exact gM (by simp[execOp,i]) (AAx (P:=P) I C p hh (q _ _ B) (q _ _ J) (q _ _ u) (k:=λH=>k .undef H n) h) A
  trivial
 case insert t m key v=>
  split at g
  .rename_i S U I;have⟨c,p,g⟩:=AH.1 g;have⟨W,B,g⟩:=AH.1 g;have⟨X,J,g⟩:=AH.1 g;have⟨M,u,y⟩:=AH.1 g;cases y;have⟨d,C⟩:=jl p;exact gM (by simp[execOp,i]) (AAx (P:=P) I C p hh (q _ _ B) (q _ _ J) (q _ _ u) (k:=λH=>k .undef H n) h) A
  trivial
 case convert src dst x=>
  split at g
  .rename_i el Y C;split at g
   .rename_i Z;have⟨L,F,y⟩:=AH.1 g;cases y;have D:CR ((L.ev E).Pj λl c=>some (.ptr l c)) (λv=>V.wy v λl c=>CS n λn=>k (.Hf n 0 l 1) (T.set H n (.arr 1 l (Dk (VZ l c) 0 .e))) (Nat.succ n)):=h;rw[ASt]at D;have⟨l,c,K,D⟩:=D;rw[A8]at D;have u:=q _ _ F;rw[K]at u;exact zI (by simp[execOp,i]) (AJj (P:=P) Y C Z hh u D) A
   trivial
  trivial
 case call c=>exact AAV N hh O q i g h A
end
variable{P:Program}
structure FX where
 loc:Nat->Bool
 nt:Nat
 df:Bool
inductive EV where
 |slot (k:Nat)|reg (t:Nat)|cst (v:V)
def EV.x(d:Nat):EV->X
 |.slot k=>.s (d-1-k)
 |.reg t=>.r (Kw t)
 |.cst v=>.c v
abbrev Env:=List (Nat×EV)
def look(t:Nat):Env->Option EV
 |[]=>none
 |(u,e)::r=>if u=t then some e else look t r
def DL(ρ:Loc):aAo->List Deferred->Prop
 |[],ds=>ds=[]
 |v::vs,ds=>∃d ds',ds=d::ds'/\(∃f fa ca,∃fa' ca':aAr,v=.fn f fa ca/\d={target:=.fn (.func f) ca',args:=fa'}/\Bj ρ fa fa'.toList/\Bj ρ ca ca'.toList)/\DL ρ vs ds'
abbrev DL.mono{i:Loc}(g:ρ.le i):∀{vs:aAo} {q:List Deferred},DL ρ vs q->DL i vs q
 |[],_,h=>h
 |v::vs,_,⟨d,k,u,⟨f,w,x,m,p,y,A,B,C⟩,D⟩=>⟨d,k,u,⟨f,w,x,m,p,y,A,Bj.mono g _ _ B,Bj.mono g _ _ C⟩,DL.mono g D⟩
structure Rg(C:FX)(ρ:Loc)(R:F3)(a:Act):Prop where
 size:a.tmps.size=C.nt
 reg:∀t,t<C.nt->C.loc t=false->AW ρ (Ij (T.Ch (Kw t) R)) (a.eval (.tmp t))
 Uw:if C.df then DL ρ (AEF (Ij (T.Ch (Kw C.nt) R))) a.defers else a.defers=[]
structure iu(C:FX)(ρ:Loc)(E:RS)(d:Nat)(env:Env)(a:Act):Prop where
 depth:E.st.length=d
 has:∀t ev,look t env=some ev->C.loc t=true/\t<C.nt/\(∀k,ev=.slot k->k<d)/\(∀u,ev=.reg u->C.loc u=false/\u<C.nt)/\AW ρ ((ev.x d).ev E) (a.eval (.tmp t))
variable{C:FX}{R:F3}{a:Act}
abbrev Rg.mono{d:Loc}(f:ρ.le d)(h:Rg C ρ R a):Rg C d R a:=
 ⟨h.size,λt g i=>AW.mono f _ _ (h.reg t g i),by
  have:=h.Uw;split
  .rename_i k;rw[hD k]at this;exact this.mono f
  simp_all⟩
variable{E:RS}{g:Env}
abbrev iu.mono{f:Loc}(i:ρ.le f)(h:iu C ρ E d g a):iu C f E d g a:=
 ⟨h.depth,λt ev k=>let⟨h1,h2,h3,h4,h5⟩:=h.has t ev k;⟨h1,h2,h3,h4,AW.mono i _ _ h5⟩⟩
def ANE(C:FX)(env:Env)(d:Nat):Operand->aAu
 |.tmp t=>if t<C.nt then if C.loc t then Aq (look t env) λe=>some (e.x d)else some (.r (Kw t))else none
 |.const v=>Aq (qI v) λv=>some (.c v)
 |.global g=>some (.c (.gptr g 0))
 |.func f=>some (.c (.fn f [] []))
abbrev X.AGk(p:P2)(E:RS):(X.r p).ev E=Ij (T.Ch p E.rg):=rfl
abbrev X.AXj(v:V)(E:RS):(X.c v).ev E=v:=rfl
abbrev X.APE(i:Nat)(E:RS):(X.s i).ev E=ALr E.st i:=rfl
abbrev AFE{i:Env}(m:Rg C ρ E.rg a)(p:iu C ρ E d i a):∀o x,ANE C i d o=some x->AW ρ (x.ev E) (a.eval o):=by
 intro o x h;cases o with
 |tmp t=>
  simp only[ANE]at h;split at h
  .rename_i q;split at h
   .obtain⟨ev,k,e⟩:=AH.1 h;cases e;exact(p.has t ev k).2.2.2.2
   .cases h;exact m.reg t q (by simp[*])
  trivial
 |const v=>
  have⟨c,u,e⟩:=AH.1 h;cases e;exact AQT u
 |global g=>cases h;rfl
 |func f=>cases h;exact⟨#[], #[],rfl,o6,o6⟩
inductive Wk where
 |plain|wr
def wX(P:Program)(C:FX)(f:Operand->aAu)(wk:Wk)(op:Op):Option AO:=
 match wk with
 |.wr=>Aq (xc f op) λe=>some (.e e)
 |.plain=>match kC P f op with
  |some o=>some (.n o)
  |none=>match j3 P f op with
   |some o=>some (.a o)
   |none=>match sB P f op with
    |some o=>some (.e o)
    |none=>match op with
     |.defer c=>match c.callee with
      |.value o=>if C.df then Aq (f o) λx=>Aq (c.args.toList.mapM f) λas=>some (.e (.defer (Kw C.nt) x as))else none
      |_=>none
     |_=>none
def VH:Op->Bool
 |.defer _=>true
 |_=>false
def AMq(C:FX)(f:Operand->aAu)(ops:Array Oper):Option (Nat×Bool)->Option Gd
 |none=>some .no
 |some (g,b)=>Aq ((ops[g]?).bind (·.dst)) λt=>Aq (f (.tmp t)) λx=>if t<C.nt then some (.on x b)else none
abbrev cQ(p:P2)(v:V)(E:RS):(D0 (.to p) v E).rg=T.VB v p E.rg/\(D0 (.to p) v E).st=E.st:=by trivial
abbrev ACy(v:V)(E:RS):(D0 .ps v E).rg=E.rg/\(D0 .ps v E).st=v::E.st:=by trivial
variable{t:Nat}
abbrev eval_put_ne{u:Nat}(v:Value)(h:t≠u):(a.put (some t) v).eval (.tmp u)=a.eval (.tmp u):=Act.eval_put (by intro d f e;simp_all)
abbrev eval_put_same(v:Value)(h:t<a.tmps.size):(a.put (some t) v).eval (.tmp t)=v:=by simp[Act.put,Act.eval,h]
abbrev qx(a:Act)(d:Option Tmp)(v:Value):(a.put d v).tmps.size=a.tmps.size:=by cases d<;>simp[Act.put]
abbrev put_defers(a:Act)(d:Option Tmp)(v:Value):(a.put d v).defers=a.defers:=by cases d<;>rfl
abbrev Rg.put(h:Rg C ρ R a)(i:t<C.nt)(k:AW ρ v u):Rg C ρ (T.VB v (Kw t) R) (a.put (some t) u):=by
 refine⟨by rw[qx];exact h.size,λs f g=>?_,?_⟩
 .by_cases e:t=s
  .simp[*,eval_put_same _ (by rw[h.size];trivial)]
  .rw[T.Fb _ _ _ _ (λd=>e (X0 d)),eval_put_ne _ e];exact h.reg s f g
 .have:=h.Uw;rw[T.Fb _ _ _ _ (λd=>hN (X0 d)),put_defers];omega
abbrev Rg.xL(h:Rg C ρ R a)(g:C.loc t=true)(u:Value):Rg C ρ R (a.put (some t) u):=by
 refine⟨by rw[qx];exact h.size,λs f d=>?_,?_⟩
 .by_cases e:t=s
  .simp_all
  .rw[eval_put_ne _ e];exact h.reg s f d
 .exact h.Uw
def S1(t:Nat):Env->Env
 |[]=>[]
 |(u,e)::r=>match e with
  |.reg s=>if s=t then(u,.cst .undef)::S1 t r else(u,e)::S1 t r
  |e=>(u,e)::S1 t r
abbrev pY(t s:Nat):∀(d:Env) (ev:EV),look s (S1 t d)=some ev->ev=.cst .undef/\look s d=some (.reg t)∨(look s d=some ev/\ev≠.reg t)
 |[],ev,h=>by trivial
 |(u,e)::r,ev,h=>by
  have g:=pY t s r ev;cases e with
  |slot k=>
   simp only[S1,look]at h⊢;split at h
   .rename_i f;rw[hD f];cases h;simp
   simp[*]
  |cst v=>
   simp only[S1,look]at h⊢;split at h
   .rename_i f;rw[hD f];cases h;simp
   simp[*]
  |reg q=>
   simp only[S1]at h;split at h
   .simp only[look]at h⊢;split at h<;>simp_all
   .simp only[look]at h⊢;split at h
    .cases h;simp[*]
    simp[*]
abbrev iu.APu{f:Env}(h:iu C ρ E d f a)(J:C.loc t=false)(v:V)(u:Value):iu C ρ (D0 (.to (Kw t)) v E) d (S1 t f) (a.put (some t) u):=by
 have⟨i,D⟩:=cQ (Kw t) v E;refine⟨by exact h.depth,λs ev F=>?_⟩;rcases pY t s f ev F with⟨rfl,g⟩|⟨g,m⟩
 .obtain⟨w,y,A,B,G⟩:=h.has s _ g;simp[*,EV.x,X.AXj,AW]
 .obtain⟨w,y,A,B,G⟩:=h.has s ev g;refine⟨w,y,A,B,?_⟩;have p:t≠s:=λe=>by simp_all
  rw[eval_put_ne _ p];have H:(ev.x d).ev (D0 (.to (Kw t)) v E)=(ev.x d).ev E:=by
   cases ev with
   |slot k=>rfl
   |cst c=>rfl
   |reg q=>
    simp only[EV.x,X.AGk,i];rw[T.Fb _ _ _ _ (λI=>m (by rw[X0 I]))]
  simp[*]
abbrev iu.xL(h:iu C ρ E d g a)(B:C.loc t=true)(D:t<C.nt)(p:a.tmps.size=C.nt)(F:AW ρ v u):
 iu C ρ (D0 .ps v E) (d+1) ((t,.slot d)::g) (a.put (some t) u):=by
 have⟨w,f⟩:=ACy v E;refine⟨by simp[f,h.depth],λs ev i=>?_⟩;simp only[look]at i;split at i
 .rename_i e;subst e;cases i;refine⟨B,D,λk m=>(by cases m;omega),λu G=>(by cases G),?_⟩;rw[eval_put_same _ (by rwa [p])];simp only[EV.x,X.APE,f];simpa using F
 .rename_i e;have⟨H,I,A,J,K⟩:=h.has s ev i;refine⟨H,I,λk m=>Y_ (A k m),J,?_⟩;rw[eval_put_ne _ e];have y:(ev.x (d+1)).ev (D0 .ps v E)=(ev.x d).ev E:=by
   cases ev with
   |slot k=>
    have m:=A k rfl;simp only[EV.x,X.APE,f];rw[show d+1-1-k=(d-1-k)+1 by omega];simp
   |cst c=>rfl
   |reg q=>simp only[EV.x,X.AGk,w]
  rwa [y]
variable{ev:EV}
abbrev iu.AJf{f:Env}(h:iu C ρ E d f a)(p:C.loc t=true)(q:t<C.nt)(i:a.tmps.size=C.nt)(v:∀k,ev=.slot k->k<d)(w:∀u,ev=.reg u->C.loc u=false/\u<C.nt) (F:AW ρ ((ev.x d).ev E) u):iu C ρ E d ((t,ev)::f) (a.put (some t) u):=by
 refine⟨h.depth,λs m g=>?_⟩;simp only[look]at g;split at g
 .rename_i e;subst e;cases g;refine⟨p,q,v,w,?_⟩;rwa [eval_put_same _ (by rwa [i])]
 .rename_i e;have⟨y,A,B,D,G⟩:=h.has s m g;refine⟨y,A,B,D,?_⟩;rwa [eval_put_ne _ e]
variable{P:Program}
variable{K:KE}{b:Bool}{o:Oper}
section
variable{w0:World}{ρ:Loc}{H:Heap}{n:Nat}{w:World}{G:AQ}{E:RS}{a:Act}{f:Operand->Option X}{o:Oper}{Q:Exit->Act->World->Prop}{C:FX}{call:Am}
abbrev AEU(S:Y5 P w0 call)(hh:Cb w0 ρ H n w)(M:Sj w0 G)(p:∀o x,f o=some x->AW ρ (x.ev E) (a.eval o)){N:Wk}{O:AO}(m:VH o.op=false)(g:wX P C f N o.op=some O){d:jK}
 (h:O.ex G call d E H n K) {next:Act->World->Prop} (q:Behind w0 ρ H n (λv H n=>K (D0 d v E) H n) λval T=>next (a.put o.dst val) T):o.wp P a w next Q:=by
 cases N with
 |wr=>
  obtain⟨e,U,V⟩:=AH.1 g;cases V;have k:=h;exact AKV hh p U k q
 |plain=>
  simp only[wX]at g;split at g
  .rename_i W y;cases g;have k:AD _ _:=h;rw[xZ]at k;obtain⟨v,A,u⟩:=k;obtain⟨val,i,B⟩:=ABB hh M (λ_=>rfl) p y A;unfold Oper.wp;rw[i];exact q v H n val w ρ u B hh (FC.refl _ _ _)
  .split at g
   .rename_i X D;cases g;have k:=h;obtain⟨b,Y,F,u⟩:=AFu k;rw[A8]at u;obtain⟨val,obj,R,i,I,A⟩:=AAj p D F;unfold Oper.wp;rw[i];exact q _ _ _ val _ _ u (A _ n (Loc.add_same _ _ _)) (hh.new I) (FC.place _ hh.pA)
   .split at g
    .rename_i Z J;cases g;have k:=h;exact AKh S hh M p J k q
    .cases L:o.op<;>rw[L]at g m<;>simp only[VH]at m<;>first|(cases g)|(cases m)
abbrev AEn(hh:Cb w0 ρ H n w)(W:∀o x,f o=some x->AW ρ (x.ev E) (a.eval o))(A:Rg C ρ E.rg a){X:AO}(B:VH o.op=true)(d:wX P C f .plain o.op=some X)
 (h:X.ex G call (.to (Kw C.nt)) E H n K) (k:o.dst=none) {next:Act->World->Prop}
 (Z:∀v D,K (D0 (.to (Kw C.nt)) v E) H n->D.tmps=a.tmps->Rg C ρ (D0 (.to (Kw C.nt)) v E).rg D->next D w):o.wp P a w next Q:=by
 cases i:o.op<;>rw[i]at B<;>simp only[VH]at B<;>try (cases B;done)
 rename_i c;rw[i]at d;simp only[wX,kC,j3,sB]at d;split at d
 .rename_i ov m;split at d
  .rename_i p;have⟨x,hx,d⟩:=AH.1 d;have⟨l,hl,e1⟩:=AH.1 d;cases e1;have Y:V.Ts (x.ev E) (λg F I=>K (D0 (.to (Kw C.nt)) (.CV (.fn g (cat F (Zy l E)) I::AEF (Ij (T.Ch (Kw C.nt) E.rg)))) E) H n):=h;rw[Ph]at Y;have⟨g,F,I,J,hk⟩:=Y;have L:=W _ _ hx;rw[J]at L;simp only[AW]at L;have⟨M,N,q,O,R⟩:=L;have u:(execOp a.eval o).run P w=.ok (.defer {target:=.fn (.func g) N,args:=M++c.args.map a.eval}) w:=by simp[execOp,i,resolve,m,q,Deferred.ofValue,p_,E_,s_]
   unfold Oper.wp;rw[u];simp only[Oper.upon,k,Act.put];refine Z _ _ hk rfl ?_;have⟨S,_⟩:=cQ (Kw C.nt) (.CV (.fn g (cat F (Zy l E)) I::AEF (Ij (T.Ch (Kw C.nt) E.rg)))) E;rw[S];refine⟨A.size,λt ht U=>?_,?_⟩
   .rw[T.Fb _ _ _ _ (λhp=>hN (X0 hp))];exact A.reg t ht U
   .rw[hD p,T.Pc];have y:=A.Uw;rw[hD p]at y;refine⟨_,_,rfl,⟨g,_,_,_,_,rfl,rfl,?_,R⟩,y⟩;rw[ACg,S_,N'];exact O.append (ZS W _ _ hl)
  trivial
 trivial
def ARy(C:FX)(env:Env):Operand->Option EV
 |.tmp t=>if t<C.nt then if C.loc t then look t env else some (.reg t)else none
 |.const v=>Aq (qI v) λv=>some (.cst v)
 |.global g=>some (.cst (.gptr g 0))
 |.func f=>some (.cst (.fn f [] []))
abbrev AJq{i:Env}(q:Rg C ρ E.rg a)(w:iu C ρ E d i a){o:Operand}(h:ARy C i o=some ev):
 (∀k,ev=.slot k->k<d)/\(∀u,ev=.reg u->C.loc u=false/\u<C.nt)/\AW ρ ((ev.x d).ev E) (a.eval o):=by
 cases o with
 |tmp t=>
  simp only[ARy]at h;split at h
  .rename_i y;split at h
   .obtain⟨_,_,B,D,F⟩:=w.has t ev h;trivial
   .cases h;exact⟨λk m=>(by trivial),λu p=>by simp_all,q.reg t y (by simp[*])⟩
  trivial
 |const v=>
  have⟨c,A,e⟩:=AH.1 h;cases e;exact⟨λk m=>(by trivial),λu p=>(by trivial),AQT A⟩
 |global g=>cases h;exact⟨λk m=>(by trivial),λu p=>(by trivial),rfl⟩
 |func f=>cases h;exact⟨λk m=>(by trivial),λu p=>(by trivial),⟨#[], #[],rfl,o6,o6⟩⟩
def aliasOf(C:FX)(o:Oper):Option (Nat×Operand):=
 match o.guard,o.dst,o.op with
 |none,some t,.move x=>if C.loc t then if t<C.nt then some (t,x)else none else none
 |none,some t,.assign x=>if C.loc t then if t<C.nt then some (t,x)else none else none
 |_,_,_=>none
def AMb(P:Program)(C:FX)(ops:Array Oper)(env:Env)(d:Nat)(o:Oper):Option (Option pH×Env×Nat):=
 match aliasOf C o with
 |some (t,x)=>Aq (ARy C env x) λev=>some (none,(t,ev)::env,d)
 |none=>Aq (wX P C (ANE C env d) .plain o.op) λao=>Aq (AMq C (ANE C env d) ops o.guard) λg=>
  if VH o.op then match o.dst,o.guard with
   |none,none=>some (some (.mk (.to (Kw C.nt)) .no ao),env,d)
   |_,_=>none
  else match o.dst with
   |none=>some (some (.mk .no g ao),env,d)
   |some t=>if t<C.nt then if C.loc t then some (some (.mk .ps g ao),(t,.slot d)::env,d+1)else some (some (.mk (.to (Kw t)) g ao),S1 t env,d)else none
def ARD{α:Type}:Option α->List α->List α
 |some x,l=>x::l
 |none,l=>l
def xH(P:Program)(C:FX)(ops:Array Oper):Env->Nat->List Oper->Option (List pH)
 |_,_,[]=>some []
 |env,d,o::r=>Aq (AMb P C ops env d o) λp=>Aq (xH P C ops p.2.1 p.2.2 r) λl=>some (ARD p.1 l)
abbrev VM{y m:Prop}:AS v y m↔∃t,v=.bool t/\if t=true then y else m:=by unfold AS;cases v<;>simp[V.AJO,V.el];rename_i t;cases t<;>simp[ALW,Lf]
def gv:V->Option (aAn)
 |.bool t=>some (some t)
 |.CV []=>some none
 |_=>none
abbrev TL{y m:Prop}:dr v b y m↔∃t,gv v=some t/\if t=some b then y else m:=by
 cases v<;>try simp[dr,gv,V.el]
 .rename_i t;cases t<;>cases b<;>simp
 .rename_i l;cases l<;>simp[dr,V.el]
abbrev y7:AW ρ (.CV []) undef:=⟨#[],rfl,o6⟩
abbrev UF{ops:Array Oper}{g:Nat}(i:(ops[g]?).bind (·.dst)=some t)(f:t<a.tmps.size){q:aAn}(k:AW ρ v (a.eval (.tmp t)))(d:gv v=some q)(m:o.guard=some (g,b)):
 Region.wanted o (yielded ops a.tmps)=(q==some b):=by
 simp only[Region.wanted,m,yielded,i,Option.bind_some];have p:a.tmps[t]? =some (a.eval (.tmp t)):=by simp[Array.getElem?_eq_getElem f,Act.eval]
 rw[p];cases v<;>simp only[gv]at d<;>try (cases d)
 .simp_all[AW]
 .rename_i l;cases l with
  |cons=>cases d
  |nil=>
   have⟨l,u,w⟩:=k;rw[u];cases d;rfl
abbrev vR{ops:Array Oper}{ρ0:Loc}{H0:Heap}{n0:Nat}(hc:Y5 P w0 call)(hg:Sj w0 G)
 (hK:∀E H n a w ρ,K E H n->Cb w0 ρ H n w->Rg C ρ E.rg a->FC ρ0 H0 n0 ρ H n->Q .normal a w):
 ∀(l:List Oper) (W:Env) (d:Nat) (L:List pH),xH P C ops W d l=some L->∀(E:RS) (H:Heap) (n:Nat) (a:Act) (w:World) (ρ:Loc),Mu L G call E H n K->Cb w0 ρ H n w->Rg C ρ E.rg a->iu C ρ E d W a->FC ρ0 H0 n0 ρ H n->
  wpList P ops Q l a w
 |[],W,d,L,u,E,H,n,a,w,ρ,h,hh,J,Y,F=>by cases u;exact hK E H n a w ρ h hh J F
 |o::rest,W,d,L,u,E,H,n,a,w,ρ,h,hh,J,Y,F=>by
  simp only[xH]at u;have⟨⟨op,d1,d'⟩,f,d2⟩:=AH.1 u;have⟨S,f4,d3⟩:=AH.1 d2;have ih:=vR hc hg hK rest d1 d' S f4;have d6:ARD op S=L:=e_ d3;clear u d2 d3;unfold AMb at f;split at f
  ·
    rename_i t x i;have⟨ev,d7,e⟩:=AH.1 f;cases e;have u:S=L:=d6;subst u;have⟨h1,M,h3⟩:=AJq J Y d7;have d8:o.guard=none/\o.dst=some t/\(o.op=.move x∨o.op=.assign x)/\C.loc t=true/\t<C.nt:=by
     unfold aliasOf at i;split at i
     .rename_i q1 q2 q3;split at i
      .rename_i N;split at i
       .rename_i U;cases i;exact⟨q1,q2,.inl q3,N,U⟩
       .cases i
      .cases i
     .rename_i q1 q2 q3;split at i
      .rename_i N;split at i
       .rename_i U;cases i;exact⟨q1,q2,.inr q3,N,U⟩
       .cases i
      .cases i
     .cases i
    have⟨m,p,f5,N,U⟩:=d8;refine wpList_plain m λZ y=>?_;have d9:(execOp a.eval o).run P w=.ok (.value (a.eval x)) w:=by rcases f5 with e|e<;>simp[execOp,e]
    unfold Oper.wp;rw[d9];simp only[Oper.upon,p];exact y _ _ (ih E H n _ w ρ h hh (J.xL N _) (Y.AJf N U J.size h1 M h3) F)
  .obtain⟨ao,f0,f⟩:=AH.1 f;have⟨g,m,f⟩:=AH.1 f;have hO:=AFE J Y;have O:∀(A:jK),op=some (.mk A g ao)->VH o.op=false->
    (∀(B:Loc) (v:V) (val:Value),ρ.le B->AW B v val->Rg C B (D0 A v E).rg (a.put o.dst val)/\iu C B (D0 A v E) d' d1 (a.put o.dst val))->
    wpList P ops Q (o::rest) a w:=by
    intro A f1 R d4;subst f1;have u:pH.mk A g ao::S=L:=d6;subst u;have d5:∀Z:Act->World->Prop,(∀a w,wpList P ops Q rest a w->Z a w)->ao.ex G call A E H n (λE H n=>Mu S G call E H n K)->o.wp P a w Z Q:=by intro Z y f6;refine AEU hc hh hg hO R f0 f6 ?_;intro v H' n' val w' B hk hv f7 f2;have⟨h1,M⟩:=d4 B v val f2.le hv;exact y _ _ (ih _ _ _ _ _ _ hk f7 h1 M (F.trans f2))
    have h':pH.ex (.mk A g ao) G call E H n (λE H n=>Mu S G call E H n K):=h;cases I:o.guard with
    |none=>
     rw[I]at m;cases m;exact wpList_plain I λZ y=>d5 Z y h'
    |some gb=>
     have⟨gi,b⟩:=gb;rw[I]at m;simp only[AMq]at m;have⟨t,U,m⟩:=AH.1 m;have⟨x,hx,m⟩:=AH.1 m;split at m
     .rename_i f8;cases m;have M:dr (x.ev E) b (ao.ex G call A E H n λE H n=>Mu S G call E H n K) (Mu S G call (D0 A (.CV []) E) H n K):=h';rw[TL]at M;have⟨q,hq,M⟩:=M;have hv:=hO _ _ hx;have hw:=UF (o:=o) U (by rw[J.size];exact f8) hv hq I;refine wpList_step λZ y=>?_;rw[hw];by_cases d0:q=some b
      .rw[hD d0]at M;rw[hD (by simpa using d0)];exact d5 Z y M
      .rw[g_ d0]at M;rw[g_ (by simpa using d0)];have⟨h1,h3⟩:=d4 ρ (.CV []) undef (Loc.le.refl _) y7;exact y _ _ (ih _ _ _ _ _ _ M hh h1 h3 F)
     .cases m
   split at f
   ·
     rename_i hd;split at f
     .rename_i p I;cases f;have u:pH.mk (.to (Kw C.nt)) .no ao::S=L:=d6;subst u;refine wpList_plain I λZ y=>?_;have h':ao.ex G call (.to (Kw C.nt)) E H n (λE H n=>Mu S G call E H n K):=h;refine AEn hh hO J hd f0 h' p ?_;intro v a' hk Tr f9;refine y _ _ (ih _ _ _ _ _ _ hk hh f9 ?_ F);have⟨g0,f3⟩:=cQ (Kw C.nt) v E;refine⟨by rw[f3];exact Y.depth,λt ev g6=>?_⟩;have⟨g1,g2,g3,g4,g5⟩:=Y.has t ev g6;refine⟨g1,g2,g3,g4,?_⟩;have d7:(ev.x d).ev (D0 (.to (Kw C.nt)) v E)=(ev.x d).ev E:=by
       cases ev with
       |slot k=>simp only[EV.x,X.APE,f3]
       |cst c=>rfl
       |reg q=>
        have hq:=(g4 q rfl).2;simp only[EV.x,X.AGk,g0];rw[T.Fb _ _ _ _ (λhp=>hN (X0 hp))]
      rw[d7];have:a'.eval (.tmp t)=a.eval (.tmp t):=by simp only[Act.eval,Tr]
      rw[this];exact g5
     .cases f
   .rename_i hd;have R:VH o.op=false:=by simpa using hd
    split at f
    .rename_i p;cases f;refine O .no rfl R ?_;intro B v val D hv;rw[p];exact⟨J.mono D,Y.mono D⟩
    .rename_i t p;split at f
     .rename_i U;split at f
      .rename_i N;cases f;refine O .ps rfl R ?_;intro B v val D hv;rw[p,(ACy v E).1];exact⟨(J.mono D).xL N _,(Y.mono D).xL N U J.size hv⟩
      .rename_i N;have g7:C.loc t=false:=by simpa using N
       cases f;refine O (.to (Kw t)) rfl R ?_;intro B v val D hv;rw[p,(cQ (Kw t) v E).1];exact⟨(J.mono D).put U hv,(Y.mono D).APu g7 v val⟩
     .cases f
end
variable{P:Program}
def UA(H H':Heap):Prop:=∀id b,T.get H id=some b->T.get H' id=some b
abbrev UA.refl(H:Heap):UA H H:=λ_ _ h=>h
abbrev UA.fresh(h:T.get H n=none)(b:LF):UA H (T.set H n b):=λd f g=>by rw[T.Ac H b (λe=>by simp_all)];omega
variable{H':Heap}
abbrev AEc(h:UA H H'){off:Nat}{L:LV}(f:ZB H id off n=some L):ZB H' id off n=some L:=by
 unfold ZB at*;cases d:T.get H id with
 |none=>simp_all
 |some b=>simp_all[h id b d]
abbrev AEA(h:UA H H'){L:LV}(d:lG v G H n=some L):lG v G H' n=some L:=by cases v<;>simp only[lG,V.el]at* <;>first|(cases d)|exact AEc h d|omega
abbrev p9(h:UA H H'){f:ME->Nat->aAl}{r:V}(g:NV H m f=some r):NV H' m f=some r:=by
 unfold NV at*;cases m<;>simp only[V.AHH,V.el]at* <;>try (cases g)
 .omega
 .rename_i d;cases i:T.get H d with
  |none=>simp_all
  |some b=>simp_all[h d b i]
abbrev gJ(h:UA H H'){esz:Nat}:∀(n o:Nat) {LS:Bh},BP H id esz n o=some LS->BP H' id esz n o=some LS
 |0,o,LS,f=>f
 |n+1,o,LS,f=>by have d:BB _ _=some LS:=f;show BB _ _=some LS;rw[BQ]at*;have⟨L,k,d⟩:=d;rw[BQ]at d;have⟨g,i,d⟩:=d;exact⟨L,AEc h k,by rw[BQ];exact⟨g,gJ h n _ i,d⟩⟩
abbrev AGK(h:UA H H'){z:Nat}(d:elems v G H z=some LS):elems v G H' z=some LS:=by
 cases v<;>simp only[elems,V.el]at* <;>try (first|(done)|exact d)
 .rename_i i f n c e;cases g:Nat.beq e z with
  |false=>simp_all
  |true=>rw[g]at d;exact gJ h _ _ d
 .rename_i i f n e;cases g:Nat.beq e z with
  |false=>simp_all
  |true=>rw[g]at d;exact gJ h _ _ d
abbrev AHv(h:UA H H')(hi:VW H i=true):VW H' i=true:=by
 unfold VW at*;cases d:T.get H i with
 |none=>simp_all
 |some b=>simp_all[h i b d]
abbrev AKL{ok d:Nat->Bool}(h:∀i,ok i=true->d i=true){x:V}(f:AKJ ok x y=some b):AKJ d x y=some b:=by
 unfold AKJ at*;cases g:x.AIi with
 |none=>simp_all
 |some i=>
  cases k:y.AIi with
  |none=>simp_all
  |some j=>
   rw[g,k]at f;have f:Bool.rec none _ _=some b:=f;cases m:band _ (band (ok i) _)with
   |false=>rw[m]at f;trivial
   |true=>
    simp_all
abbrev ANw{ok d:Nat->Bool}(h:∀i,ok i=true->d i=true){k:CK}{x:V}(f:CK.oR ok k x y=some b):CK.oR d k x y=some b:=by
 cases k with
 |ptr=>
  have f:zm ok x y=some b:=f;show zm d x y=some b;unfold zm at*;cases g:ABz x y with
  |some c=>simp_all
  |none=>rw[g]at f;exact AKL h f
 |_=>trivial
abbrev AAr{q f:CK->V->V->aAn}(h:∀k x y b,q k x y=some b->f k x y=some b):∀{ks:aAE} {xs ys:LV} {b:Bool},kQ q ks xs ys=some b->kQ f ks xs ys=some b
 |[],[],[],_,d=>d
 |[],[],_::_,_,d=>by trivial
 |[],_::_,_,_,d=>by trivial
 |_::_,[],_,_,d=>by trivial
 |_::_,_::_,[],_,d=>by trivial
 |k::ks,x::xs,y::ys,b,d=>by have⟨r,g,i,m,e⟩:=HA.1 d;exact HA.2 ⟨r,g,h _ _ _ _ i,AAr h m,e⟩
abbrev AJp{ok d:Nat->Bool}(h:∀i,ok i=true->d i=true){ks:aAE}{x:V}(f:rC ok ks x y=some b):rC d ks x y=some b:=by
 unfold rC at*;cases g:x.APt with
 |none=>simp_all
 |some l=>
  cases k:y.APt with
  |none=>simp_all
  |some m=>rw[g,k]at f;exact AAr (λ_ _ _ _=>ANw h) f
abbrev APN(h:UA H H')(i:AN)(f:i.ev G E H=some v):i.ev G E H'=some v:=by
 cases i<;>try exact f
 .have d:Pe _ _=some v:=f;show Pe _ _=some v;rw[Sy]at*;have⟨L,p,g⟩:=d;exact⟨L,AEA h p,g⟩
 .have d:Pe _ _=some v:=f;show Pe _ _=some v;rw[Sy]at*;have⟨L,p,g⟩:=d;exact⟨L,AEA h p,g⟩
 .have d:NV H _ (λq _=>CC (len q) λn=>some (.int .i64 (.ofNat n) 0))=some v:=f;exact p9 h d
 .rename_i c ok z m k;have d:NV H _ (λq _=>BB (iM c _ q 0) _)=some v:=f;exact p9 h d
 .have d:Az _ _=some v:=f;show Az _ _=some v;rw[BC,BQ]at*;have⟨A,B,u,g⟩:=d;exact⟨A,B,AGK h u,g⟩
 .rename_i ks neg x y;have d:Ux _=some v:=f;show Ux _=some v;cases w:rC (VW H) ks _ _ with
  |none=>rw[w]at d;trivial
  |some b=>simp_all[AJp (λ_=>AHv h) w]
def AN.looks:AN->Bool
 |.ld1 _=>true
 |.ldn _ _=>true
 |.AWa _=>true
 |.look _ _ _ _ _=>true
 |.cvS _=>true
 |.eqp _ _ _ _=>true
 |_=>false
abbrev AT8{d:AN}(h:d.looks=false)(G:AQ)(E:RS)(H H':Heap):d.ev G E H=d.ev G E H':=by cases d<;>first|rfl|trivial
abbrev zd{d:RS}(k:EK)(neg:Bool){x y:X}(f:x.ev E=x.ev d)(g:y.ev E=y.ev d):(ACf k neg x y).ev G E H=(ACf k neg x y).ev G d H:=by
 rcases AIu k neg x y with e|⟨ks,rfl,e⟩
 .rw[e];show eEq k neg x y G E H=eEq k neg x y G d H;simp[eEq,f,g]
 .rw[e];show APD ks neg x y G E H=APD ks neg x y G d H;simp[APD,f,g]
abbrev oZ{g:RS}{f:Operand->aAu}(k:∀o x,f o=some x->x.ev E=x.ev g):∀(l:List Operand) (d:List X),l.mapM f=some d->Zy d E=Zy d g
 |[],d,h=>by simp_all
 |o::l,d,h=>by rw[_R]at h;simp only[Option.bind_eq_bind,ee]at h;have⟨x,m,i,p,e⟩:=h;cases e;show x.ev E::Zy i E=x.ev g::Zy i g;rw[k _ _ m,oZ k l i p]
abbrev vw{k:RS}{f:Operand->aAu}(q:∀o x,f o=some x->x.ev E=x.ev k){g:Nat->Option _}{u:Nat}:
 ∀(ps:List _) (d:List _),Vn f g u ps=some d->cV d E=cV d k/\∀z,vB d E z=vB d k z
 |[],d,h=>by cases h;exact⟨rfl,λ_=>rfl⟩
 |(i,o)::r,d,h=>by
  simp only[Vn,ee]at h;have⟨p,B,h⟩:=h;split at h
  .simp only[ee]at h;have⟨x,v,h⟩:=h;cases w:Vn f g u r with
   |none=>simp_all
   |some m=>
    rw[w]at h;cases h;have⟨y,A⟩:=vw q r m w;refine⟨?_,λz=>?_⟩
    .show band _ (cV m E)=band _ (cV m k);rw[q _ _ v,y]
    .show vB m E _=vB m k _;rw[q _ _ v,A]
  trivial
abbrev De{d:RS}{f:Operand->aAu}(i:∀o x,f o=some x->x.ev E=x.ev d){o:Option Operand}{x:aAu}(h:XC f o=some x):Yo x E=Yo x d:=by
 cases o with
 |none=>cases h;rfl
 |some o=>
  simp only[XC,d_]at h;obtain⟨y,k,rfl⟩:=h;show(λ_ g=>TT _ g)=λ_ g=>TT _ g;rw[i _ _ k]
abbrev AGG{d:RS}{f:Operand->aAu}(g:∀o x,f o=some x->x.ev E=x.ev d){o:Option Operand}{x:X}(h:XC f o=some (some x)):x.ev E=x.ev d:=by
 cases o with
 |none=>cases h
 |some o=>
  simp only[XC,d_]at h;have⟨y,i,e⟩:=h;cases e;exact g _ _ i
abbrev AAT{p:RS}{f:Operand->aAu}(k:∀o x,f o=some x->x.ev E=x.ev p){c:Call}{u:AN}(d:qH P f c=some u)(G:AQ)(H:Heap):u.ev G E H=u.ev G p H:=by
 unfold qH at d;split at d
 .split at d
  .obtain⟨g,i,e⟩:=AH.1 d;cases e;show AJV g G E H=AJV g G p H;simp only[AJV,k _ _ i]
  .obtain⟨g,i,e⟩:=AH.1 d;cases e;show AIg g G E H=AIg g G p H;simp only[AIg,k _ _ i]
  .obtain⟨g,i,e⟩:=AH.1 d;cases e;show AIk g G E H=AIk g G p H;simp only[AIk,k _ _ i]
  .cases d;rfl
  .cases d
 .obtain⟨g,i,d⟩:=AH.1 d;have⟨m,q,e⟩:=AH.1 d;cases e;show AP5 g m G E H=AP5 g m G p H;simp[AP5,k _ _ i,k _ _ q]
 .obtain⟨g,i,d⟩:=AH.1 d;have⟨m,q,e⟩:=AH.1 d;cases e;show AQA g m G E H=AQA g m G p H;simp[AQA,k _ _ i,k _ _ q]
 .split at d
  .obtain⟨g,i,d⟩:=AH.1 d;have⟨m,q,e⟩:=AH.1 d;cases e;show AC5 g m G E H=AC5 g m G p H;simp[AC5,k _ _ i,k _ _ q]
  .split at d
   .obtain⟨g,i,d⟩:=AH.1 d;have⟨m,q,e⟩:=AH.1 d;cases e;show AIq g m G E H=AIq g m G p H;simp[AIq,k _ _ i,k _ _ q]
   trivial
 trivial
variable{op:Op}
abbrev AA4{w:RS}{f:Operand->aAu}(p:∀o x,f o=some x->x.ev E=x.ev w){Q:AN}(d:kC P f op=some Q)(G:AQ)(H:Heap):Q.ev G E H=Q.ev G w H:=by
 cases op<;>simp only[kC]at d<;>try (cases d;done)
 case makeInterface t x=>cases d;rfl
 case panic x=>cases d;rfl
 case move x=>
  have⟨g,q,e⟩:=AH.1 d;cases e;show lO g G E H=lO g G w H;simp[lO,p _ _ q]
 case assign x=>
  have⟨g,q,e⟩:=AH.1 d;cases e;show lO g G E H=lO g G w H;simp[lO,p _ _ q]
 case pick c a b=>
  have⟨W,N,d⟩:=AH.1 d;have⟨Y,R,d⟩:=AH.1 d;have⟨Z,hb,e⟩:=AH.1 d;cases e;show AJW W Y Z G E H=AJW W Y Z G w H;simp[AJW,p _ _ N,p _ _ R,p _ _ hb]
 case load t a=>
  split at d
  .obtain⟨m,K,d⟩:=AH.1 d;have⟨g,q,e⟩:=AH.1 d;cases e;show AQZ m g G E H=AQZ m g G w H;simp[AQZ,p _ _ q]
  .obtain⟨g,q,e⟩:=AH.1 d;cases e;show AOz g G E H=AOz g G w H;simp[AOz,p _ _ q]
  trivial
 case nilCheck x=>
  have⟨g,q,e⟩:=AH.1 d;cases e;show ADa g G E H=ADa g G w H;simp[ADa,p _ _ q]
 case binOp op t x y yt=>
  have⟨g,q,d⟩:=AH.1 d;have⟨y',S,d⟩:=AH.1 d;split at d
  .obtain⟨k,T,e⟩:=AH.1 d;cases e;exact zd k false (p _ _ q) (p _ _ S)
  .obtain⟨k,T,e⟩:=AH.1 d;cases e;exact zd k true (p _ _ q) (p _ _ S)
  .obtain⟨o2,d0,e⟩:=AH.1 d;cases e;show APH o2 g y' G E H=APH o2 g y' G w H;simp[APH,p _ _ q,p _ _ S]
 case unOp op t x=>
  split at d
  .obtain⟨g,q,e⟩:=AH.1 d;cases e;show APW g G E H=APW g G w H;simp[APW,p _ _ q]
  .obtain⟨g,q,e⟩:=AH.1 d;cases e;show AOw g G E H=AOw g G w H;simp[AOw,p _ _ q]
  trivial
 case convert src dst x=>
  split at d
  .obtain⟨g,q,e⟩:=AH.1 d;cases e;rename_i k _ _;show APL _ g G E H=APL _ g G w H;simp[APL,p _ _ q]
  .obtain⟨g,q,e⟩:=AH.1 d;cases e;show AAC g none none G E H=AAC g none none G w H;simp only[AAC,p _ _ q];rfl
  .split at d
   .obtain⟨g,q,e⟩:=AH.1 d;cases e;show AOX g G E H=AOX g G w H;simp[AOX,p _ _ q]
   trivial
  trivial
 case makeFunc fn first caps=>
  cases fn<;>simp only at d<;>try (cases d;done)
  rename_i fi;have⟨a,R,d⟩:=AH.1 d;have⟨c,N,e⟩:=AH.1 d;cases e;show AI1 fi a c G E H=AI1 fi a c G w H;simp only[AI1,oZ p _ _ R,oZ p _ _ N]
 case slice t x lo F mx=>
  split at d
  .split at d
   .obtain⟨g,q,d⟩:=AH.1 d;have⟨u,B,d⟩:=AH.1 d;have⟨v,C,e⟩:=AH.1 d;cases e;show AAC g u v G E H=AAC g u v G w H;simp[AAC,AIL,p _ _ q,De p B,De p C]
   trivial
  .split at d
   .obtain⟨z,L,d⟩:=AH.1 d;have⟨g,q,d⟩:=AH.1 d;have⟨u,B,d⟩:=AH.1 d;have⟨v,C,d⟩:=AH.1 d;have⟨A,I,e⟩:=AH.1 d;cases e;show AOm z g u v A G E H=AOm z g u v A G w H;have e1:yP E u v A=yP w u v A:=by simp[yP,De p B,De p C,De p I]
    have e2:AFT z E u v A=AFT z w u v A:=by funext id off ln cap esz;simp[AFT,De p B,De p C,De p I]
    have e3:tf z E u v A=tf z w u v A:=by
     funext id off ln esz;cases A with
     |none=>simp[tf,xG,De p B,De p C]
     |some m=>
      have K:=AGG p I;simp[tf,xM,De p B,De p C,K]
    have e4:zK z E u v A=zK z w u v A:=by funext b off ln cap esz;simp[zK,De p B,De p C]
    simp[AOm,lV,p _ _ q,e1,e2,e3,e4]
   trivial
  .split at d
   .obtain⟨z,L,d⟩:=AH.1 d;have⟨g,q,d⟩:=AH.1 d;have⟨u,B,d⟩:=AH.1 d;have⟨v,C,e⟩:=AH.1 d;cases e;show AIS _ z g u v G E H=AIS _ z g u v G w H;simp[AIS,p _ _ q,De p B,De p C]
   trivial
  trivial
 case fieldAddr s x i=>
  split at d
  .obtain⟨J,U,d⟩:=AH.1 d;split at d
   .obtain⟨g,q,e⟩:=AH.1 d;cases e;show ADk J.offset g G E H=ADk J.offset g G w H;simp[ADk,p _ _ q]
   trivial
  trivial
 case field s x i=>
  split at d
  .obtain⟨J,U,d⟩:=AH.1 d;split at d
   .obtain⟨m,K,d⟩:=AH.1 d;have⟨g,q,e⟩:=AH.1 d;cases e;show xC J.offset m g G E H=xC J.offset m g G w H;simp[xC,p _ _ q]
   .obtain⟨g,q,e⟩:=AH.1 d;cases e;show xV J.offset g G E H=xV J.offset g G w H;simp[xV,p _ _ q]
   trivial
  trivial
 case indexAddr t x i=>
  split at d
  .obtain⟨z,L,d⟩:=AH.1 d;have⟨g,q,d⟩:=AH.1 d;have⟨D,F,e⟩:=AH.1 d;cases e;show ACW z g D G E H=ACW z g D G w H;simp[ACW,p _ _ q,p _ _ F]
  .obtain⟨z,L,d⟩:=AH.1 d;have⟨g,q,d⟩:=AH.1 d;have⟨D,F,e⟩:=AH.1 d;cases e;show wu _ z g D G E H=wu _ z g D G w H;simp[wu,p _ _ q,p _ _ F]
  trivial
 case index t x i=>
  split at d
  .obtain⟨g,q,d⟩:=AH.1 d;have⟨D,F,e⟩:=AH.1 d;cases e;show AIe g D G E H=AIe g D G w H;simp[AIe,p _ _ q,p _ _ F]
  .split at d
   .obtain⟨g,q,d⟩:=AH.1 d;have⟨D,F,e⟩:=AH.1 d;cases e;show AIc _ g D G E H=AIc _ g D G w H;simp[AIc,p _ _ q,p _ _ F]
   trivial
  trivial
 case lookup t m k ok=>
  split at d
  .obtain⟨c,N,d⟩:=AH.1 d;have⟨i,F,d⟩:=AH.1 d;have⟨zv,d1,d⟩:=AH.1 d;have⟨z,L,d⟩:=AH.1 d;have⟨m',K,d⟩:=AH.1 d;have⟨k',T,e⟩:=AH.1 d;cases e;show AJb c ok z m' k' G E H=AJb c ok z m' k' G w H;simp[AJb,p _ _ K,p _ _ T]
  trivial
 case extract x i=>
  have⟨g,q,e⟩:=AH.1 d;cases e;show AOL g i G E H=AOL g i G w H;simp[AOL,p _ _ q]
 case build t ps=>
  have⟨O,hp,d⟩:=AH.1 d;have⟨z,L,d⟩:=AH.1 d;have⟨M,V,e⟩:=AH.1 d;cases e;have⟨h1,h2⟩:=vw p _ _ V;show AC4 z M G E H=AC4 z M G w H;simp[AC4,h1,h2]
 case call c=>exact AAT p d G H
abbrev rr{k:RS}{f:Operand->aAu}(m:∀o x,f o=some x->x.ev E=x.ev k){g:Nat}:∀(ps:List _) (d:List _),gX f g ps=some d->VC d E=VC d k/\bR d E=bR d k
 |[],d,h=>by cases h;trivial
 |(i,o)::r,d,h=>by
  have⟨x,q,h⟩:=AH.1 h;have⟨p,u,e⟩:=AH.1 h;cases e;have⟨v,w⟩:=rr m r p u;refine⟨?_,?_⟩
  .funext esz g;simp[bH,m _ _ q,v]
  .show(λt=>bR p E _)=λt=>bR p k _;rw[m _ _ q,w]
abbrev ABP{m:RS}{f:Operand->aAu}(q:∀o x,f o=some x->x.ev E=x.ev m){u:AA}(d:j3 P f op=some u)(k:KA):u.al E k=u.al m k:=by
 cases op<;>simp only[j3]at d<;>try (cases d;done)
 case alloc t=>
  have⟨z,A,d⟩:=AH.1 d;split at d
  .cases v:yx z with
   |false=>simp_all
   |true=>rw[v]at d;cases d;rfl
  split at d
  .obtain⟨g,w,d⟩:=AH.1 d;split at d
   .cases d;rfl
   trivial
  .cases d;rfl
  trivial
 case box t x=>
  have⟨B,F,e⟩:=AH.1 d;cases e;show AAL B E k=AAL B m k;simp[AAL,q _ _ F]
 case buildSlice t cnt ps=>
  split at d
  .obtain⟨g,w,d⟩:=AH.1 d;have⟨z,A,d⟩:=AH.1 d;have⟨p,y,d⟩:=AH.1 d;split at d
   .cases d;have⟨G,H⟩:=rr q _ _ y;show AY g cnt z p E k=AY g cnt z p m k;simp[AY,G,H]
   trivial
  trivial
 case makeSlice t l c=>
  split at d
  .obtain⟨i,K,d⟩:=AH.1 d;have⟨z,A,d⟩:=AH.1 d;have⟨C,I,d⟩:=AH.1 d;have⟨D,J,d⟩:=AH.1 d;split at d
   .cases d;show JQ i.size i.bytes z C D E k=JQ i.size i.bytes z C D m k;simp[JQ,q _ _ I,q _ _ J]
   trivial
  trivial
 case makeMap t r=>
  split at d
  .cases d;rfl
  trivial
variable{P:Program}
abbrev ABW(h:Eh v y=true):v=y:=by
 cases v<;>simp only[Eh,V.el]at h<;>first|(cases h;done)|skip
 .cases y<;>simp only[ABG,V.el]at h<;>try (cases h;done)
  simp_all
 .cases y<;>simp only[zx,V.el]at h<;>try (cases h;done)
  simp_all
 .cases y<;>simp only[AIw,V.el]at h<;>try (cases h;done)
  simp_all
 .cases y<;>simp only[ACa,V.el]at h<;>first|trivial|rfl
 .cases y<;>simp only[AN1,V.el]at h<;>try (cases h)
  simp_all
 .cases y<;>simp only[AGo,V.el]at h<;>try (cases h)
  simp_all
 .cases y<;>simp only[ACI,V.el]at h<;>first|trivial|rfl
 .cases y<;>simp only[ANR,V.el]at h<;>try (cases h)
  simp_all
 .cases y<;>simp only[AFt,V.el]at h<;>try (cases h)
  simp_all
 .cases y<;>simp only[AFO,V.el]at h<;>try (cases h)
  simp_all
 .cases y<;>simp only[ACK,V.el]at h<;>first|trivial|rfl
 .cases y<;>simp only[AK1,V.el]at h<;>try (cases h)
  simp_all
 .cases y<;>simp only[ADT,V.el]at h<;>first|trivial|rfl
abbrev sT:∀{l m:aAo},oY l m=true->l=m
 |[],[],_=>rfl
 |[],_::_,h=>by cases h
 |_::_,[],h=>by cases h
 |x::l,y::m,h=>by have d:band _ (oY l m)=true:=h;simp only[A6,ez]at d;rw[ABW d.1,sT d.2]
abbrev AD6(h:Ak v y=true):v=y:=by
 cases v
 case undef=>cases y<;>simp only[Ak,V.el]at h<;>first|trivial|rfl
 case agg l=>
  cases y<;>simp only[Ak,V.el]at h<;>try (cases h)
  rw[sT h]
 case CV l=>
  cases y<;>simp only[Ak,V.el]at h<;>try (cases h)
  rw[sT h]
 all_goals exact ABW h
structure Stp where
 i:Nat
 o:Oper
 dst:jK
 dt:Option Nat
 gd:Gd
 ao:AO
 rd:List Nat
abbrev aAy:=List Stp
def fR(C:FX)(rd:aAw):Operand->aAu
 |.tmp t=>if rd.elem t then if t<C.nt then if C.loc t then none else some (.r (Kw t))else none else none
 |.const v=>Aq (qI v) λv=>some (.c v)
 |.global g=>some (.c (.gptr g 0))
 |.func f=>some (.c (.fn f [] []))
def AL0(P:Program)(C:FX)(ops:Array Oper)(i:Nat)(wk:Wk):Option Stp:=
 Aq ops[i]? λo=>if VH o.op then none else
  Aq (wX P C (fR C (o.looksAt ops)) wk o.op) λao=>Aq (AMq C (fR C (o.looksAt ops)) ops o.guard) λg=>match o.dst with
   |none=>some ⟨i,o,.no,none,g,ao,o.looksAt ops⟩
   |some t=>if t<C.nt then if C.loc t then none else some ⟨i,o,.to (Kw t),some t,g,ao,o.looksAt ops⟩else none
structure mM(P:Program)(C:FX)(ops:Array Oper)(s:Stp):Prop where
 at_:ops[s.i]? =some s.o
 nd:VH s.o.op=false
 tr:∃wk,wX P C (fR C s.rd) wk s.o.op=some s.ao
 gd:AMq C (fR C s.rd) ops s.o.guard=some s.gd
 dt:s.o.dst=s.dt
 dst:(s.dt=none/\s.dst=.no)∨∃t,s.dt=some t/\s.dst=.to (Kw t)/\t<C.nt/\C.loc t=false
variable{s:Stp}
abbrev AMr{ops:Array Oper}{f:Wk}(h:AL0 P C ops i f=some s):mM P C ops s/\s.i=i:=by
 have⟨o,m,h⟩:=AH.1 h;split at h
 .cases h
 .obtain⟨u,d,h⟩:=AH.1 h;have⟨g,p,h⟩:=AH.1 h;split at h
  .rename_i k;cases h;exact⟨⟨m,by simp[*],⟨f,d⟩,p,k,.inl ⟨rfl,rfl⟩⟩,rfl⟩
  .rename_i t k;split at h
   .rename_i q;split at h
    .cases h
    .cases h;exact⟨⟨m,by simp[*],⟨f,d⟩,p,k,.inr ⟨t,rfl,rfl,q,by simp[*]⟩⟩,rfl⟩
   trivial
def AO.UD:AO->Bool
 |.e _=>true
 |_=>false
def AO.isA:AO->Bool
 |.a _=>true
 |_=>false
def AO.lC:AO->Bool
 |.n o=>o.looks
 |_=>false
abbrev ANm{i:aAw}(h:∀t,t∈i->t<C.nt->C.loc t=false->AW ρ (Ij (T.Ch (Kw t) E.rg)) (a.eval (.tmp t))):∀o x,fR C i o=some x->AW ρ (x.ev E) (a.eval o):=by
 intro o x d;cases o with
 |tmp t=>
  simp only[fR]at d;split at d
  .split at d
   .split at d
    .trivial
    .cases d;simp_all[X.AGk]
   trivial
  trivial
 |const v=>
  have⟨c,k,e⟩:=AH.1 d;cases e;exact AQT k
 |global g=>cases d;rfl
 |func f=>cases d;exact⟨#[], #[],rfl,o6,o6⟩
abbrev jg{i:aAw}{k:RS}(h:∀t,t∈i->T.Ch (Kw t) E.rg=T.Ch (Kw t) k.rg):∀o x,fR C i o=some x->x.ev E=x.ev k:=by
 intro o x d;cases o with
 |tmp t=>
  simp only[fR]at d;split at d
  .split at d
   .split at d
    .trivial
    .cases d;simp[X.AGk,h t (by simp_all)]
   trivial
  trivial
 |const v=>
  have⟨c,m,e⟩:=AH.1 d;cases e;rfl
 |global g=>cases d;rfl
 |func f=>cases d;rfl
abbrev AHG{f:Operand->aAu}{g:Wk}{i:AN}(d:wX P C f g op=some (.n i)):kC P f op=some i:=by
 cases g with
 |wr=>have⟨e,_,k⟩:=AH.1 d;cases k
 |plain=>
  simp only[wX]at d;split at d
  .simp_all
  .split at d
   .simp_all
   .split at d
    .simp_all
    .split at d
     .split at d
      .split at d
       .obtain⟨_,_,d⟩:=AH.1 d;have⟨_,_,e⟩:=AH.1 d;cases e
       trivial
      trivial
     trivial
abbrev AHy{f:Operand->aAu}{g:Wk}{i:AA}(d:wX P C f g op=some (.a i)):j3 P f op=some i:=by
 cases g with
 |wr=>have⟨e,_,k⟩:=AH.1 d;cases k
 |plain=>
  simp only[wX]at d;split at d
  .simp_all
  .split at d
   .simp_all
   .split at d
    .simp_all
    .split at d
     .split at d
      .split at d
       .obtain⟨_,_,d⟩:=AH.1 d;have⟨_,_,e⟩:=AH.1 d;cases e
       trivial
      trivial
     trivial
def ya(G:AQ)(ao:AO)(d:jK)(E:RS)(H:Heap)(n:Nat)(ρ:Loc)(id:Nat):Prop:=match ao with
 |.n an=>∃v,an.ev G E H=some v/\∀p,d=.to p->Ij (T.Ch p E.rg)=v
 |.a aa=>∃b fn,Al aa E b fn/\id<n/\ρ id=none/\T.get H id=some b/\∀p,d=.to p->Ij (T.Ch p E.rg)=fn id
 |.e _=>False
def wE(G:AQ)(s:Stp)(E:RS)(H:Heap)(n:Nat)(ρ:Loc)(id:Nat):Prop:=match s.gd with
 |.no=>ya G s.ao s.dst E H n ρ id
 |.on x b=>∃t,gv (x.ev E)=some t/\if t=some b then ya G s.ao s.dst E H n ρ id else ∀p,s.dst=.to p->Ij (T.Ch p E.rg)=.CV []
def wT(s:Stp)(E:RS):Prop:=match s.gd with
 |.no=>True
 |.on x b=>gv (x.ev E)=some (some b)
abbrev AQM(h:wE G s E H n ρ id)(d:wT s E):ya G s.ao s.dst E H n ρ id:=by unfold wE at h;unfold wT at d;cases f:s.gd<;>simp_all
variable{q:RS}{n':Nat}
abbrev zj{f:Operand->aAu}{F:Wk}{i:AO}(k:wX P C f F op=some i){d:jK}{m:Loc}(A:∀o x,f o=some x->x.ev E=x.ev q)
 (O:∀p,d=.to p->T.Ch p E.rg=T.Ch p q.rg) (Q:n<=n') (I:i.isA=true->id<n->ρ id=none->m id=none/\T.get H' id=T.get H id) (u:UA H H'∨i.lC=false) (h:ya G i d E H n ρ id):ya G i d q H' n' m id:=by
 cases i with
 |n J=>
  have⟨v,B,K⟩:=h;have g:=AA4 A (AHG k) G H;refine⟨v,?_,λp e=>by simp_all⟩;rw[g]at B;rcases u with u|u
  .exact APN u J B
  simp[*,AT8 (by trivial) G q H' H]
 |a R=>
  have⟨b,L,M,w,y,D,K⟩:=h;have g:=ABP A (AHy k);have⟨N,S⟩:=I rfl w y;refine⟨b,L,by simp_all[Al],a6,N,by simp[*],λp e=>by simp_all⟩
 |e _=>trivial
abbrev xQ{f:Operand->aAu}{ops:Array Oper}{g:Option _}{x:X}(h:AMq C f ops g=some (.on x b)){d:RS}(i:∀o x,f o=some x->x.ev E=x.ev d):x.ev E=x.ev d:=by
 cases g with
 |none=>cases h
 |some m=>
  have⟨t,_,h⟩:=AH.1 h;have⟨y,k,h⟩:=AH.1 h;split at h
  .cases h;exact i _ _ k
  trivial
abbrev tU{ops:Array Oper}(ok:mM P C ops s){f:Loc}(A:∀t,t∈s.rd->T.Ch (Kw t) E.rg=T.Ch (Kw t) q.rg)
 (B:∀t,s.dt=some t->T.Ch (Kw t) E.rg=T.Ch (Kw t) q.rg) (v:n<=n') (w:s.ao.isA=true->wT s E->id<n->ρ id=none->f id=none/\T.get H' id=T.get H id) (y:UA H H'∨s.ao.lC=false) (h:wE G s E H n ρ id):wE G s q H' n' f id:=by
 have⟨D,g⟩:=ok.tr;have d:=jg (C:=C) A;have i:∀p,s.dst=.to p->T.Ch p E.rg=T.Ch p q.rg:=by intro p F;rcases ok.dst with⟨_,h⟩|⟨t,I,J,_⟩<;>simp_all
 unfold wE at*;cases k:s.gd with
 |no=>rw[k]at h;exact zj g d i v (λu=>w u (by simp[wT,k])) y h
 |on x b=>
  rw[k]at h;have⟨t,K,h⟩:=h;have m:=ok.gd;rw[k]at m;refine⟨t,by simp_all[xQ m d],?_⟩;split
  .rename_i e;rw[hD e]at h;exact zj g d i v (λu=>w u (by simp[*,wT,k])) y h
  simp_all
abbrev qJ{ops:Array Oper}(ok:mM P C ops s){g:RS}(i:∀t,t∈s.rd->T.Ch (Kw t) E.rg=T.Ch (Kw t) g.rg):wT s g->wT s E:=by
 have f:=jg (C:=C) i;have d:=ok.gd;unfold wT;cases k:s.gd with
 |no=>simp
 |on x b=>
  rw[k]at d;simp[xQ d f]
variable{P:Program}
def Closed(ops:Array Oper)(S:Nat->Bool):Prop:=∀j o,S j=true->ops[j]? =some o->∀e∈o.after,Region.binds .any e=true->S e.on=true
def Before(ops:Array Oper)(x i:Nat):Prop:=∀S:Nat->Bool,Closed ops S->(∀o,ops[i]? =some o->∀e∈o.after,Region.binds .any e=true->S e.on=true)->S x=true
structure Ur(P:Program)(C:FX)(ops:Array Oper)(ss:List Stp)(Mc:Nat->List Nat):Prop where
 ok:∀s∈ss,mM P C ops s
 all:∀i,i<ops.size->∃s∈ss,s.i=i
 inj:∀pre s post,ss=pre++s::post->(∀x∈pre,x.i≠s.i)/\∀x∈post,x.i≠s.i
 AUO:∀pre s post,ss=pre++s::post->∀e∈s.o.after,Region.binds .any e=true->∃x∈pre,x.i=e.on
 act:∀pre j mid s post,ss=pre++j::(mid++s::post)->j.ao.UD=true->Before ops j.i s.i
 own:∀s∈ss,s.ao.UD=false->∀t,s.dt=some t->t∉s.rd
 regs:∀s∈ss,∀k∈ss,s.i≠k.i->∀t,s.dt=some t->k.dt≠some t/\(t∈k.rd->Before ops s.i k.i∨(s.ao.UD=true/\Before ops k.i s.i))
 Mc:∀i x,x∈Mc i->Before ops x i
 AU7:∀s∈ss,s.ao.lC=true->∃p,s.dst=.to p
 len:ss.length<=ops.size
structure Inv(P:Program)(C:FX)(ops:Array Oper)(ss:List Stp)(G:AQ)(w0:World)(ρ0:Loc)(H0:Heap)(n0:Nat)(pre post:List Stp)(L:Array Bool)(ids:Nat->Nat)(E:RS)(H:Heap)(n:Nat)(ρ:Loc)(a:Act)(w:World):Prop where
 split:ss=pre++post
 hh:Cb w0 ρ H n w
 gu:FC ρ0 H0 n0 ρ H n
 Z6:L.size=ops.size
 sub:∀i,L.getD i false=true->∃s∈pre,s.i=i
 closed:Closed ops (λi=>L.getD i false)
 eff:∀s∈pre,s.ao.UD=true->L.getD s.i false=true
 size:a.tmps.size=C.nt
 reg:∀t,t<C.nt->C.loc t=false->(∀s∈pre,L.getD s.i false=false->s.dt≠some t)->AW ρ (Ij (T.Ch (Kw t) E.rg)) (a.eval (.tmp t))
 Uw:if C.df then DL ρ (AEF (Ij (T.Ch (Kw C.nt) E.rg))) a.defers else a.defers=[]
 now:∀s∈pre,L.getD s.i false=false->wE G s E H n ρ (ids s.i)
 one:∀s∈pre,∀k∈pre,L.getD s.i false=false->L.getD k.i false=false->s.ao.isA=true->k.ao.isA=true->wT s E->wT k E->ids s.i=ids k.i->s.i=k.i
 ge:∀s∈pre,L.getD s.i false=false->s.ao.isA=true->wT s E->n0<=ids s.i
def AC8(s:Stp):Option AI:=match s.dst,s.ao with
 |.to p,.n an=>some (.re p s.gd an)
 |_,_=>none
def gh(Mc:aAw):aAy->List AI
 |[]=>[]
 |x::r=>if x.ao.lC&& !(Mc.elem x.i)then match AC8 x with
  |some i=>i::gh Mc r
  |none=>gh Mc r
  else gh Mc r
def C1(Mc:Nat->aAw):aAy->aAy->List AI
 |_,[]=>[]
 |done,s::r=>.op (.mk s.dst s.gd s.ao)::((if s.ao.UD then gh (Mc s.i) done else[])++C1 Mc (done++[s]) r)
section
variable{C:FX}{ops:Array Oper}{ss:List Stp}{Mc:Nat->List Nat}{G:AQ}{w0:World}{ρ0:Loc}{H0:Heap}{n0:Nat}{pre post:List Stp}{L:Array Bool}{ids:Nat->Nat}{E:RS}{H:Heap}{n:Nat}{ρ:Loc}{a:Act}{w:World}{call:Am}{K:KE}
def preS(pre:aAy):Nat->Bool:=λi=>pre.any λs=>s.i==i
abbrev zD:preS pre i=true↔∃s∈pre,s.i=i:=by simp[preS]
abbrev Ur.edges(R:Ur P C ops ss Mc)(q:ss=pre++post)(f:s∈pre):∀e∈s.o.after,Region.binds .any e=true->preS pre e.on=true:=by obtain⟨g,i,rfl⟩:=I_ f;intro e k m;have⟨x,p,d⟩:=R.AUO g s (i++post) (by simp[*]) e k m;exact zD.2 ⟨x,n_ _ p,d⟩
abbrev Ur.AJo(R:Ur P C ops ss Mc)(f:ss=pre++post):Closed ops (preS pre):=by intro j o g i;obtain⟨s,k,rfl⟩:=zD.1 g;have d:=R.ok s (by simp[*]);have:=e_ (d.at_.symm.trans i);subst this;exact R.edges f k
abbrev Ur.yI(R:Ur P C ops ss Mc)(f:ss=pre++post){k:Stp}(g:k∈pre){x:Nat}(m:Before ops x k.i):∃s∈pre,s.i=x:=by refine zD.1 (m _ (R.AJo f) ?_);intro o p;have d:=R.ok k (by simp[*]);have:=e_ (d.at_.symm.trans p);subst this;exact R.edges f g
abbrev IV{d:jK}{p:P2}(h:d≠.to p):T.Ch p (D0 d v E).rg=T.Ch p E.rg:=by
 cases d with
 |no=>rfl
 |to q=>rw[(cQ q v E).1,T.Fb _ _ _ _ (λe=>h (by rw[e]))]
 |ps=>rfl
abbrev mM.mw(ok:mM P C ops s)(h:s.dt≠some t):s.dst≠.to (Kw t):=by
 rcases ok.dst with⟨_,f⟩|⟨u,g,d,_⟩
 .simp[*]
 .rw[d];intro e;simp_all[X0 (jK.to.inj e)]
abbrev mM.ANH(ok:mM P C ops s):s.dst≠.to (Kw C.nt):=by
 rcases ok.dst with⟨_,f⟩|⟨u,g,d,i,_⟩
 .simp[*]
 .rw[d];intro e;have:=X0 (jK.to.inj e);omega
abbrev Inv.adv(R:Ur P C ops ss Mc)(I:Inv P C ops ss G w0 ρ0 H0 n0 pre (s::post) L ids E H n ρ a w)(hE:s.ao.UD=false)(h:Bg (C1 Mc pre (s::post)) G call E H n K):
 ∃d E' H' n',Inv P C ops ss G w0 ρ0 H0 n0 (pre++[s]) post L d E' H' n' ρ a w/\Bg (C1 Mc (pre++[s]) post) G call E' H' n' K:=by
 have d0:s∈ss:=by rw[I.split];simp
 have ok:=R.ok s d0;have⟨F,f7⟩:=R.inj pre s post I.split;have f8:L.getD s.i false=false:=by
  cases hl:L.getD s.i false with
  |false=>rfl
  |true=>have⟨x,S,U⟩:=I.sub _ hl;exact absurd U (F x S)
 have B:∀(v:V) (k:Stp),k∈pre->L.getD k.i false=false->(∀t,t∈k.rd->T.Ch (Kw t) E.rg=T.Ch (Kw t) (D0 s.dst v E).rg)/\(∀t,k.dt=some t->T.Ch (Kw t) E.rg=T.Ch (Kw t) (D0 s.dst v E).rg):=by
  intro v k f g;have f3:k∈ss:=by rw[I.split];exact n_ _ f
  refine⟨λt ht=>?_,λt ht=>?_⟩
  .refine(IV (ok.mw λhd=>?_)).symm;rcases(R.regs s d0 k f3 (λe=>F k f e.symm) t hd).2 ht with hb|⟨W,_⟩
   .obtain⟨x,S,U⟩:=R.yI I.split f hb;exact F x S U
   .rw[hE]at W;cases W
  .refine(IV (ok.mw λhd=>?_)).symm;exact(R.regs s d0 k f3 (λe=>F k f e.symm) t hd).1 ht
 have mk:∀(v:V) (d:Nat->Nat) (H':Heap) (n':Nat),Cb w0 ρ H' n' w->FC ρ H n ρ H' n'->UA H H'->(∀k∈pre,d k.i=ids k.i)->wE G s (D0 s.dst v E) H' n' ρ (d s.i)->
  (∀k∈pre,L.getD k.i false=false->s.ao.isA=true->k.ao.isA=true->wT s (D0 s.dst v E)->wT k E->d s.i≠ids k.i)->(s.ao.isA=true->wT s (D0 s.dst v E)->n0<=d s.i)->
  Inv P C ops ss G w0 ρ0 H0 n0 (pre++[s]) post L d (D0 s.dst v E) H' n' ρ a w:=by
  intro v d H' n' f9 X g0 A f4 d8 g1;refine{split:=by rw[I.split];simp,hh:=f9,gu:=I.gu.trans X,Z6:=I.Z6,sub:=λi hi=>?_,closed:=I.closed,eff:=?_,size:=I.size,reg:=?_,Uw:=?_,now:=?_,one:=?_,ge:=?_}
  .obtain⟨x,S,U⟩:=I.sub i hi;exact⟨x,n_ _ S,U⟩
  .intro k f d9;rcases q_.1 f with f|f
   .exact I.eff k f d9
   .simp at f;subst f;rw[hE]at d9;cases d9
  .intro t ht hl hd;rw[IV (ok.mw (hd s o6 f8))];exact I.reg t ht hl λk f=>hd k (n_ _ f)
  .rw[IV ok.ANH];exact I.Uw
  .intro k f g;rcases q_.1 f with f|f
   .obtain⟨h1,O⟩:=B v k f g;rw[A k f];exact tU (R.ok k (by rw[I.split];exact n_ _ f)) h1 O X.grow (λ_ _ g2 g3=>X.keep _ g2 g3) (.inl g0) (I.now k f g)
   .simp at f;subst f;exact f4
  .intro x S k f d1 g d2 m d3 y W;have d4:∀k∈pre,L.getD k.i false=false->wT k (D0 s.dst v E)->wT k E:=λk f g=>qJ (R.ok k (by rw[I.split];exact n_ _ f)) (B v k f g).1;rcases q_.1 S with D|D<;>rcases q_.1 f with u|u
   .rw[A x D,A k u]at W;exact I.one x D k u d1 g d2 m (d4 x D d1 d3) (d4 k u g y) W
   .have e1:=ff.1 u;rw[e1]at W m y;rw[A x D]at W;exact absurd W.symm (d8 x D d1 m d2 y (d4 x D d1 d3))
   .have e1:=ff.1 D;rw[e1]at W d2 d3;rw[A k u]at W;exact absurd W (d8 k u g d2 m d3 (d4 k u g y))
   .rw[ff.1 D,ff.1 u]
  .intro k f g m y;rcases q_.1 f with u|u
   .rw[A k u];exact I.ge k u g m (qJ (R.ok k (by rw[I.split];exact n_ _ u)) (B v k u g).1 y)
   .have e1:=ff.1 u;rw[e1]at m y⊢;exact g1 m y
 have f0:∀v t,t∈s.rd->T.Ch (Kw t) E.rg=T.Ch (Kw t) (D0 s.dst v E).rg:=λv t ht=>
  (IV (ok.mw λhd=>R.own s d0 hE t hd ht)).symm
 have Y:∀v p,s.dst=.to p->Ij (T.Ch p (D0 s.dst v E).rg)=v:=λv p hp=>by rw[hp,(cQ p v E).1,T.Pc];rfl
 have⟨wk,d5⟩:=ok.tr;have g4:C1 Mc pre (s::post)=.op (.mk s.dst s.gd s.ao)::C1 Mc (pre++[s]) post:=by simp only[C1,hE,_J,J_,_W]
 rw[g4]at h;have h':pH.ex (.mk s.dst s.gd s.ao) G call E H n (λE H n=>Bg (C1 Mc (pre++[s]) post) G call E H n K):=h;have done:s.ao.ex G call s.dst E H n (λE H n=>Bg (C1 Mc (pre++[s]) post) G call E H n K)->∃(v:V) (d:Nat->Nat) (H':Heap) (n':Nat),(ya G s.ao s.dst (D0 s.dst v E) H' n' ρ (d s.i))/\Bg (C1 Mc (pre++[s]) post) G call (D0 s.dst v E) H' n' K/\
  Cb w0 ρ H' n' w/\FC ρ H n ρ H' n'/\UA H H'/\(∀k∈pre,d k.i=ids k.i)/\(∀k∈pre,L.getD k.i false=false->s.ao.isA=true->k.ao.isA=true->wT k E->d s.i≠ids k.i)/\(s.ao.isA=true->n0<=d s.i):=by
  intro S;cases f1:s.ao with
  |e e=>rw[f1]at hE;cases hE
  |n an=>
   rw[f1]at S d5;have d6:AD (an.ev G E H) (λv=>Bg (C1 Mc (pre++[s]) post) G call (D0 s.dst v E) H n K):=S;rw[xZ]at d6;have⟨v,hv,f⟩:=d6;have M:=AA4 (jg (C:=C) (f0 v)) (AHG d5) G H;exact⟨v,ids,H,n,⟨v,by rw[<-M];exact hv,Y v⟩,f,I.hh,FC.refl _ _ _,UA.refl _,λ_ _=>rfl,λk _ _ h _ _=>(by simp[AO.isA]at h),λh=>by simp[AO.isA]at h⟩
  |a aa=>
   rw[f1]at S d5;have d6:aa.al E (λb fn=>CS n λn=>Bg (C1 Mc (pre++[s]) post) G call (D0 s.dst (fn n) E) (T.set H n b) (Nat.succ n) K):=S;have⟨b,fn,g5,f⟩:=AFu d6;rw[A8]at f;have M:∀k,aa.al E k=aa.al (D0 s.dst (fn n) E) k:=ABP (jg (C:=C) (f0 (fn n))) (AHy d5);have f2:(λi=>if i=s.i then n else ids i) s.i=n:=hD rfl;refine⟨fn n,λi=>if i=s.i then n else ids i,T.set H n b,n+1,?_,f,I.hh.fresh b,FC.fresh _ _ _ _,UA.fresh (I.hh.top n o_) b,λk f=>g_ (F k f),?_,λ_=>by rw[f2];exact I.gu.grow⟩
   .rw[f2];exact⟨b,fn,by unfold Al at*;rw[<-M];exact g5,_p n,I.hh.pA,T.B4 _ _ _,λp hp=>Y _ p hp⟩
   .intro k f g _ m y;rw[f2];have f5:=AQM (I.now k f g) y;cases Z:k.ao with
    |n _=>rw[Z]at m;cases m
    |e _=>rw[Z]at m;cases m
    |a _=>
     rw[Z]at f5;have⟨_,_,_,g7,_⟩:=f5;omega
 cases hg:s.gd with
 |no=>
  rw[hg]at h';have⟨v,d,H',n',h1,O,h3,h4,h5,h6,h7,h8⟩:=done h';exact⟨d,_,H',n',mk v d H' n' h3 h4 h5 h6 (by unfold wE;rw[hg];exact h1) (λk f g hs m _ y=>h7 k f g hs m y) (λhs _=>h8 hs),O⟩
 |on x b=>
  rw[hg]at h';have O:dr (x.ev E) b (s.ao.ex G call s.dst E H n λE H n=>Bg (C1 Mc (pre++[s]) post) G call E H n K) (Bg (C1 Mc (pre++[s]) post) G call (D0 s.dst (.CV []) E) H n K):=h';rw[TL]at O;have⟨q,hq,O⟩:=O;have f6:=ok.gd;rw[hg]at f6;have d7:∀v,gv (x.ev (D0 s.dst v E))=some q:=λv=>by rw[<-xQ f6 (jg (C:=C) (f0 v))];exact hq
  by_cases Q:q=some b
  .rw[hD Q]at O;have⟨v,d,H',n',h1,O,h3,h4,h5,h6,h7,h8⟩:=done O;exact⟨d,_,H',n',mk v d H' n' h3 h4 h5 h6 (by unfold wE;rw[hg];exact⟨q,d7 v,by rw[hD Q];exact h1⟩) (λk f g hs m _ y=>h7 k f g hs m y) (λhs _=>h8 hs),O⟩
  .rw[g_ Q]at O;refine⟨ids,_,H,n,mk (.CV []) ids H n I.hh (FC.refl _ _ _) (UA.refl _) (λ_ _=>rfl) (by unfold wE;rw[hg];exact⟨q,d7 (.CV []),by rw[g_ Q];exact λp hp=>Y _ p hp⟩) ?_ ?_,O⟩
   .intro k _ _ g6 _ N _;unfold wT at N;rw[hg]at N;have J:gv (x.ev (D0 s.dst (.CV []) E))=some (some b):=N;rw[d7]at J;cases J;exact absurd rfl Q
   .intro g6 N;unfold wT at N;rw[hg]at N;have J:gv (x.ev (D0 s.dst (.CV []) E))=some (some b):=N;rw[d7]at J;cases J;exact absurd rfl Q
end
variable{P:Program}
variable{L:Array Bool}
section
variable{C:FX}{ops:Array Oper}{ss:List Stp}{Mc:Nat->List Nat}{G:AQ}{w0:World}{ρ0:Loc}{H0:Heap}{n0:Nat}{pre post:List Stp}{L:Array Bool}{ids:Nat->Nat}{E:RS}{H:Heap}{n:Nat}{ρ:Loc}{a:Act}{w:World}{call:Am}{K:KE}{Q:Exit->Act->World->Prop}
abbrev pa(h:i<L.size)(j:Nat)(d:Bool):(L.setIfInBounds i true).getD j d=if i=j then true else L.getD j d:=by by_cases e:i=j<;>simp_all
abbrev vN(h:o.guard=none)(f:Nat->aAn):Region.wanted o f=true:=by simp[Region.wanted,h]
abbrev ABk(R:Ur P C ops ss Mc){k:Stp}(g:s∈ss)(m:k∈ss)(h:s.i=k.i):s.o=k.o/\s.dt=k.dt:=by have d:=R.ok s g;have f:=R.ok k m;have e:=e_ (d.at_.symm.trans (by rw[h];exact f.at_));exact⟨e,by rw[<-d.dt,<-f.dt,e]⟩
abbrev Inv.reads(R:Ur P C ops ss Mc)(I:Inv P C ops ss G w0 ρ0 H0 n0 pre post L ids E H n ρ a w)(m:s∈ss)(A:L.getD s.i false=false)(p:s∈pre->s.ao.UD=false)(B:s∉pre->∀k∈pre,k.i≠s.i)
 (v:∀e∈s.o.after,Region.binds .any e=true->L.getD e.on false=true):∀t,t∈s.rd->t<C.nt->C.loc t=false->AW ρ (Ij (T.Ch (Kw t) E.rg)) (a.eval (.tmp t)):=by
 have f:∀x,Before ops x s.i->L.getD x false=true:=λx q=>q (λi=>L.getD i false) I.closed λo D=>by have:s.o=o:=e_ ((R.ok s m).at_.symm.trans D);simp_all
 intro t y u F;refine I.reg t u F λk J d K=>?_;have g:k∈ss:=by simp[*,I.split]
 by_cases e:k.i=s.i
 .have M:=(ABk R g m e).2;by_cases N:s∈pre
  .exact R.own s m (p N) t (by simp_all) y
  simp_all
 .rcases(R.regs k g s m e t K).2 y with q|⟨O,_⟩
  .rw[f _ q]at d;cases d
  .rw[I.eff k J O]at d;cases d
abbrev Inv.late(R:Ur P C ops ss Mc)(hg:Sj w0 G)(I:Inv P C ops ss G w0 ρ0 H0 n0 pre post L ids E H n ρ a w)(hs:s∈pre)(K:L.getD s.i false=false)
 (d0:∀e∈s.o.after,Region.binds .any e=true->L.getD e.on false=true) {next:Act->World->Prop}
 (A:∀p a' w',Inv P C ops ss G w0 ρ0 H0 n0 pre post (L.setIfInBounds s.i true) ids E H n p a' w'->next a' w'):wpOp P ops Q s.i next a w:=by
 have d2:s∈ss:=by rw[I.split];exact n_ _ hs
 have ok:=R.ok s d2;have hE:s.ao.UD=false:=by
  cases he:s.ao.UD with
  |false=>rfl
  |true=>rw[I.eff s hs he]at K;cases K
 have hi:s.i<L.size:=by rw[I.Z6];exact(_t.1 ok.at_).1
 have X:=I.reads R d2 K (λ_=>hE) (λh=>absurd hs h) d0;have hO:=ANm (C:=C) X;have hL:∀j,(L.setIfInBounds s.i true).getD j false=if s.i=j then true else L.getD j false:=λj=>pa hi j false
 have co:∀j,(L.setIfInBounds s.i true).getD j false=false->s.i≠j/\L.getD j false=false:=by
  intro j M;rw[hL]at M;by_cases e:s.i=j
  .rw[hD e]at M;cases M
  .rw[g_ e]at M;exact⟨e,M⟩
 have tD:∀j,L.getD j false=true->(L.setIfInBounds s.i true).getD j false=true:=by
  intro j M;rw[hL];split
  .rfl
  .exact M
 have mk:∀(p:Loc) (val:Value) (w':World),Cb w0 p H n w'->FC ρ0 H0 n0 p H n->ρ.le p->(∀k∈pre,(L.setIfInBounds s.i true).getD k.i false=false->k.ao.isA=true->wT k E->ρ (ids k.i)=none->p (ids k.i)=none)->(∀t,s.dst=.to (Kw t)->AW p (Ij (T.Ch (Kw t) E.rg)) val)->
  Inv P C ops ss G w0 ρ0 H0 n0 pre post (L.setIfInBounds s.i true) ids E H n p (a.put s.o.dst val) w':=by
  intro p val w' f4 d4 d5 d6 d7;refine{split:=I.split,hh:=f4,gu:=d4,Z6:=by simpa using I.Z6,sub:=λi hi=>?_,closed:=?_,eff:=λk J f5=>tD _ (I.eff k J f5),size:=by rw[qx];exact I.size,reg:=?_,Uw:=?_,now:=?_,one:=?_,ge:=?_}
  .rw[hL]at hi;by_cases e:s.i=i
   .exact⟨s,hs,e⟩
   .rw[g_ e]at hi;exact I.sub i hi
  .intro j o M ho e he hb;apply tD;replace M:(L.setIfInBounds s.i true).getD j false=true:=M;rw[hL]at M;by_cases d8:s.i=j
   .subst d8;have:s.o=o:=e_ (ok.at_.symm.trans ho);subst this;exact d0 e he hb
   .rw[g_ d8]at M;exact I.closed j o M ho e he hb
  .intro t W hl hd;by_cases B:s.dt=some t
   .rw[ok.dt,B,eval_put_same _ (by rw[I.size];exact W)];refine d7 t ?_;rcases ok.dst with⟨h1,_⟩|⟨u,h1,h2,_⟩
    .rw[h1]at B;cases B
    .rw[h1]at B;cases B;exact h2
   .have:(a.put s.o.dst val).eval (.tmp t)=a.eval (.tmp t):=by
     rw[ok.dt];cases f6:s.dt with
     |none=>rfl
     |some u=>exact eval_put_ne _ (λe=>B (by rw[f6,e]))
    rw[this];refine AW.mono d5 _ _ (I.reg t W hl λk J m d9=>?_);by_cases e:s.i=k.i
    .exact B (by rw[(ABk R d2 (by rw[I.split];exact n_ _ J) e).2];exact d9)
    .exact hd k J (by rw[hL,g_ e];exact m) d9
  .rw[put_defers];have:=I.Uw;split
   .rename_i hc;rw[hD hc]at this;exact this.mono d5
   .rename_i hc;rw[g_ hc]at this;exact this
  .intro k J m;exact tU (R.ok k (by rw[I.split];exact n_ _ J)) (λ_ _=>rfl) (λ_ _=>rfl) o_ (λD F _ f7=>⟨d6 k J m D F f7,rfl⟩) (.inl (UA.refl _)) (I.now k J (co _ m).2)
  .intro x hx k J f8 m f9 D g0 F he;exact I.one x hx k J (co _ f8).2 (co _ m).2 f9 D g0 F he
  .intro k J m D F;exact I.ge k J (co _ m).2 D F
 have d:=I.now s hs K;have⟨wk,Y⟩:=ok.tr;have act:wT s E->ya G s.ao s.dst E H n ρ (ids s.i)->s.o.wp P a w next Q:=by
  intro f0 hn;cases Z:s.ao with
  |e e=>rw[Z]at hE;cases hE
  |n an=>
   rw[Z]at hn Y;have⟨v,hv,hp⟩:=hn;have⟨val,O,d3⟩:=ABB (P:=P) I.hh hg (λ_=>rfl) hO (AHG Y) hv;unfold Oper.wp;rw[O];refine A ρ _ _ (mk ρ val w I.hh I.gu (Loc.le.refl _) (λ_ _ _ _ _ h=>h) λt W=>?_);rw[hp _ W];exact d3
  |a aa=>
   rw[Z]at hn Y;have⟨b,fn,g1,g2,S,f1,hp⟩:=hn;have⟨val,obj,d1,O,g3,d3⟩:=AAj (P:=P) (w:=w) (ρ:=ρ) hO (AHy Y) g1;have f2:s.ao.isA=true:=by rw[Z];rfl
   unfold Oper.wp;rw[O];refine A _ _ _ (mk (ρ.add (ids s.i) ⟨w.heap.size,0,d1⟩) val _ (I.hh.place g2 S f1 g3) ?_ (Loc.uh _ S) ?_ λt W=>?_)
   .refine⟨I.gu.le.trans (Loc.uh _ S),I.gu.grow,λi hi hn=>?_⟩;have g8:=I.ge s hs K f2 f0;have⟨h1,h2⟩:=I.gu.keep i hi hn;exact⟨by rw[Loc.SZ ρ _ a6];exact h1,h2⟩
   .intro k J m D F g4;have⟨g5,f3⟩:=co _ m;rw[Loc.SZ ρ _ (λe=>g5 (I.one s hs k J K f3 f2 D f0 F e.symm))];exact g4
   .rw[hp _ W];exact d3 _ _ (Loc.add_same _ _ _)
 unfold wpOp;simp only[ok.at_];unfold wE at d;cases N:s.gd with
 |no=>
  rw[N]at d;have g6:s.o.guard=none:=by
   have:=ok.gd;rw[N]at this;cases U:s.o.guard with
   |none=>rfl
   |some gb=>
    have⟨g,b⟩:=gb;rw[U]at this;have⟨_,_,this⟩:=AH.1 this;have⟨_,_,this⟩:=AH.1 this;split at this<;>cases this
  rw[hD (vN g6 _)];exact .inl (act (by unfold wT;rw[N];trivial) d)
 |on x b=>
  rw[N]at d;have⟨q,hq,d⟩:=d;have f:=ok.gd;rw[N]at f;cases U:s.o.guard with
  |none=>rw[U]at f;cases f
  |some gb=>
   have⟨g,b'⟩:=gb;rw[U]at f;have⟨t,W,f⟩:=AH.1 f;have⟨y,hy,f⟩:=AH.1 f;split at f
   .rename_i g7;cases f;have hv:=hO _ _ hy;rw[UF (o:=s.o) W (by rw[I.size];exact g7) hv hq U];by_cases V:q=some b
    .rw[hD V]at d;rw[hD (by simpa using V)];exact .inl (act (by unfold wT;rw[N];exact hq.trans (congrArg some V)) d)
    .rw[g_ V]at d;rw[g_ (by simpa using V)];refine A ρ _ _ (mk ρ undef w I.hh I.gu (Loc.le.refl _) (λ_ _ _ _ _ h=>h) λt W=>?_);rw[d _ W];exact y7
   .cases f
end
variable{P:Program}
section
variable{C:FX}{ops:Array Oper}{ss:List Stp}{Mc:Nat->List Nat}{G:AQ}{w0:World}{ρ0:Loc}{H0:Heap}{n0:Nat}{pre post:List Stp}{L:Array Bool}{ids:Nat->Nat}{E:RS}{H:Heap}{n:Nat}{ρ:Loc}{a:Act}{w:World}{call:Am}{K:KE}{Q:Exit->Act->World->Prop}
def reN(G:AQ)(x:Stp)(E:RS)(H:Heap):Prop:=∀p an,x.dst=.to p->x.ao=.n an->match x.gd with
 |.no=>an.ev G E H=some (Ij (T.Ch p E.rg))
 |.on y b=>∃t,gv (y.ev E)=some t/\(t=some b->an.ev G E H=some (Ij (T.Ch p E.rg)))
abbrev xA{A:aAw}{M:List AI}:∀(done:aAy),Bg (gh A done++M) G call E H n K->Bg M G call E H n K/\∀x∈done,x.ao.lC=true->x.i∉A->reN G x E H
 |[],h=>⟨h,λx L=>by trivial⟩
 |x::r,h=>by
  simp only[gh]at h;split at h
  .rename_i F;simp only[ez,_l]at F;cases hi:AC8 x with
   |none=>
    rw[hi]at h;have⟨C,d⟩:=xA r h;refine⟨C,λy I N O=>?_⟩;rcases qk.1 I with rfl|I
    .intro p q u f;simp_all[AC8,u,f]
    simp[*]
   |some P=>
    rw[hi]at h;unfold AC8 at hi;split at hi
    .rename_i p q u f;cases hi;have w:ATo x.gd G E H p q (Bg (gh A r++M) G call E H n K):=h;have key:Bg (gh A r++M) G call E H n K/\reN G x E H:=by
      cases B:x.gd with
      |no=>
       rw[B]at w;have d:AD (q.ev G E H) (λv=>B7 (Ak v (Ij (T.Ch p E.rg))) (Bg (gh A r++M) G call E H n K)):=w;rw[xZ]at d;have⟨v,D,d⟩:=d;rw[Du]at d;refine⟨d.2,λJ k m g=>?_⟩<;>simp_all[u,f,B,D,AD6 d.1]
      |on y b=>
       rw[B]at w;have d:dr (y.ev E) b (AD (q.ev G E H) λv=>B7 (Ak v (Ij (T.Ch p E.rg))) (Bg (gh A r++M) G call E H n K)) (Bg (gh A r++M) G call E H n K):=w;rw[TL]at d;have⟨t,Q,d⟩:=d;by_cases e:t=some b
       .rw[hD e,xZ]at d;have⟨v,D,d⟩:=d;rw[Du]at d;refine⟨d.2,λJ k m g=>?_⟩<;>simp_all[u,f,B,D,AD6 d.1]
       .rw[g_ e]at d;refine⟨d,λJ k m g=>?_⟩<;>simp_all
     have⟨C,d⟩:=xA r key.1;simp_all
    trivial
  .rename_i F;have⟨C,d⟩:=xA r h;simp_all
abbrev Inv.act(R:Ur P C ops ss Mc)(hc:Y5 P w0 call)(hg:Sj w0 G)(I:Inv P C ops ss G w0 ρ0 H0 n0 pre (s::post) L ids E H n ρ a w)(hE:s.ao.UD=true)
 (Z:∀e∈s.o.after,Region.binds .any e=true->L.getD e.on false=true) (h:Bg (C1 Mc pre (s::post)) G call E H n K) {next:Act->World->Prop}
 (f1:∀E' H' n' M a' w',Inv P C ops ss G w0 ρ0 H0 n0 (pre++[s]) post (L.setIfInBounds s.i true) ids E' H' n' M a' w'->Bg (C1 Mc (pre++[s]) post) G call E' H' n' K->next a' w'):wpOp P ops Q s.i next a w:=by
 have d5:s∈ss:=by rw[I.split];simp
 have ok:=R.ok s d5;have⟨B,g5⟩:=R.inj pre s post I.split;have g6:s∉pre:=λhm=>B s hm rfl;have g7:L.getD s.i false=false:=by
  cases hl:L.getD s.i false with
  |false=>rfl
  |true=>have⟨x,hx,d0⟩:=I.sub _ hl;exact absurd d0 (B x hx)
 have hi:s.i<L.size:=by rw[I.Z6];exact(_t.1 ok.at_).1
 have d6:=I.reads R d5 g7 (λhp=>absurd hp g6) (λ_=>B) Z;have hO:=ANm (C:=C) d6;have d9:∀x,Before ops x s.i->L.getD x false=true:=λx hb=>hb (λi=>L.getD i false) I.closed λo ho=>by have:s.o=o:=e_ (ok.at_.symm.trans ho);subst this;exact Z
 have hL:∀j,(L.setIfInBounds s.i true).getD j false=if s.i=j then true else L.getD j false:=λj=>pa hi j false
 have co:∀j,(L.setIfInBounds s.i true).getD j false=false->s.i≠j/\L.getD j false=false:=by
  intro j X;rw[hL]at X;by_cases e:s.i=j
  .rw[hD e]at X;cases X
  .rw[g_ e]at X;exact⟨e,X⟩
 have tD:∀j,L.getD j false=true->(L.setIfInBounds s.i true).getD j false=true:=by
  intro j X;rw[hL];split
  .rfl
  .exact X
 have N:∀(v:V) (k:Stp),k∈pre->L.getD k.i false=false->(∀t,t∈k.rd->T.Ch (Kw t) E.rg=T.Ch (Kw t) (D0 s.dst v E).rg)/\(∀t,k.dt=some t->T.Ch (Kw t) E.rg=T.Ch (Kw t) (D0 s.dst v E).rg):=by
  intro v k A m;have d1:k∈ss:=by rw[I.split];exact n_ _ A
  refine⟨λt ht=>?_,λt ht=>?_⟩
  .refine(IV (ok.mw λhd=>?_)).symm;rcases(R.regs s d5 k d1 (λe=>B k A e.symm) t hd).2 ht with hb|⟨_,hb⟩
   .obtain⟨x,hx,d0⟩:=R.yI I.split A hb;exact B x hx d0
   .rw[d9 _ hb]at m;cases m
  .refine(IV (ok.mw λhd=>?_)).symm;exact(R.regs s d5 k d1 (λe=>B k A e.symm) t hd).1 ht
 have g8:C1 Mc pre (s::post)=.op (.mk s.dst s.gd s.ao)::(gh (Mc s.i) pre++C1 Mc (pre++[s]) post):=by simp only[C1,hE,_1]
 rw[g8]at h;have h':pH.ex (.mk s.dst s.gd s.ao) G call E H n (λE H n=>Bg (gh (Mc s.i) pre++C1 Mc (pre++[s]) post) G call E H n K):=h;have f7:∀(v:V) (H':Heap) (n':Nat) (val:Value) (w':World) (M:Loc),Bg (gh (Mc s.i) pre++C1 Mc (pre++[s]) post) G call (D0 s.dst v E) H' n' K->AW M v val->Cb w0 M H' n' w'->FC ρ H n M H' n'->next (a.put s.o.dst val) w':=by
  intro v H' n' val w' M A hv f2 O;have⟨A,g9⟩:=xA pre A;refine f1 _ H' n' M _ w' {split:=by rw[I.split];simp,hh:=f2,gu:=I.gu.trans O,Z6:=by simpa using I.Z6,sub:=λi hi=>?_,closed:=?_,eff:=?_,size:=by rw[qx];exact I.size,reg:=?_,Uw:=?_,now:=?_,one:=?_,ge:=?_} A
  .rw[hL]at hi;by_cases e:s.i=i
   .exact⟨s,o6,e⟩
   .rw[g_ e]at hi;have⟨x,hx,d0⟩:=I.sub i hi;exact⟨x,n_ _ hx,d0⟩
  .intro j o X ho e he hb;apply tD;replace X:(L.setIfInBounds s.i true).getD j false=true:=X;rw[hL]at X;by_cases f8:s.i=j
   .subst f8;have:s.o=o:=e_ (ok.at_.symm.trans ho);subst this;exact Z e he hb
   .rw[g_ f8]at X;exact I.closed j o X ho e he hb
  .intro k A i0;rcases q_.1 A with d|d
   .exact tD _ (I.eff k d i0)
   .rw[ff.1 d,hL,hD rfl]
  .intro t ht hl hd;by_cases S:s.dt=some t
   .have f9:s.dst=.to (Kw t):=by
     rcases ok.dst with⟨h1,_⟩|⟨u,h1,Y,_⟩
     .rw[h1]at S;cases S
     .rw[h1]at S;cases S;exact Y
    rw[ok.dt,S,eval_put_same _ (by rw[I.size];exact ht),f9,(cQ _ v E).1,T.Pc];exact hv
   .rw[IV (ok.mw S)];have:(a.put s.o.dst val).eval (.tmp t)=a.eval (.tmp t):=by
     rw[ok.dt];cases i1:s.dt with
     |none=>rfl
     |some u=>exact eval_put_ne _ (λe=>S (by rw[i1,e]))
    rw[this];refine AW.mono O.le _ _ (I.reg t ht hl λk A m=>hd k (n_ _ A) ?_);rw[hL,g_ (λe=>B k A e.symm)];exact m
  .rw[put_defers,IV ok.ANH];have:=I.Uw;split
   .rename_i hc;rw[hD hc]at this;exact this.mono O.le
   .rename_i hc;rw[g_ hc]at this;exact this
  .intro k A m;have⟨i2,f⟩:=co _ m;rcases q_.1 A with d|d
   .have d1:k∈ss:=by rw[I.split];exact n_ _ d
    have f3:=R.ok k d1;have⟨h1,Y⟩:=N v k d f;have D:=I.now k d f;cases U:k.ao.lC with
    |false=>exact tU f3 h1 Y O.grow (λ_ _ i3 i4=>O.keep _ i3 i4) (.inr U) D
    |true=>
     have i5:k.i∉Mc s.i:=λhm=>by rw[d9 _ (R.Mc _ _ hm)]at f;cases f
     have hr:=g9 k d U i5;have⟨p,hp⟩:=R.AU7 k d1 U;cases d2:k.ao with
     |a _=>rw[d2]at U;cases U
     |e _=>rw[d2]at U;cases U
     |n an=>
      have hr:=hr p an hp d2;unfold wE at D⊢;cases f4:k.gd with
      |no=>
       rw[f4]at hr;rw[d2];exact⟨_,hr,λp' F=>by rw[hp]at F;cases F;rfl⟩
      |on y b=>
       rw[f4]at hr D;have⟨t,ht,hr⟩:=hr;have⟨t0,g0,D⟩:=D;have W:=f3.gd;rw[f4]at W;have:y.ev E=y.ev (D0 s.dst v E):=xQ W (jg (C:=C) h1);rw[this,ht]at g0;cases g0;refine⟨t,ht,?_⟩;by_cases e:t=some b
       .rw[hD e,d2];exact⟨_,hr e,λp' F=>by rw[hp]at F;cases F;rfl⟩
       .rw[g_ e]at D⊢;intro p' F;have i6:T.Ch p' E.rg=T.Ch p' (D0 s.dst v E).rg:=by
         rcases f3.dst with⟨_,g2⟩|⟨u,g1,g2,_⟩
         .rw[g2]at F;cases F
         .rw[g2]at F;cases F;exact Y u g1
        rw[<-i6];exact D p' F
   .exact absurd (by rw[ff.1 d]) i2
  .intro x hx k A i7 m i8 f5 i9 f6 he;have g3:∀k∈pre,L.getD k.i false=false->wT k (D0 s.dst v E)->wT k E:=λk A m=>qJ (R.ok k (by rw[I.split];exact n_ _ A)) (N v k A m).1;have⟨g4,f0⟩:=co _ i7;have⟨d3,f⟩:=co _ m;rcases q_.1 hx with d7|d7
   .rcases q_.1 A with d|d
    .exact I.one x d7 k d f0 f i8 f5 (g3 x d7 f0 i9) (g3 k d f f6) he
    .exact absurd (by rw[ff.1 d]) d3
   .exact absurd (by rw[ff.1 d7]) g4
  .intro k A m f5 f6;have⟨d3,f⟩:=co _ m;rcases q_.1 A with d|d
   .exact I.ge k d f f5 (qJ (R.ok k (by rw[I.split];exact n_ _ d)) (N v k d f).1 f6)
   .exact absurd (by rw[ff.1 d]) d3
 have⟨wk,k0⟩:=ok.tr;have act:s.ao.ex G call s.dst E H n (λE H n=>Bg (gh (Mc s.i) pre++C1 Mc (pre++[s]) post) G call E H n K)->s.o.wp P a w next Q:=λhx=>
  AEU hc I.hh hg hO ok.nd k0 hx λv H' n' val w' M A hv f2 k1=>f7 v H' n' val w' M A hv f2 k1
 unfold wpOp;simp only[ok.at_];cases W:s.gd with
 |no=>
  rw[W]at h';have k2:s.o.guard=none:=by
   have:=ok.gd;rw[W]at this;cases d4:s.o.guard with
   |none=>rfl
   |some gb=>
    have⟨g,b⟩:=gb;rw[d4]at this;have⟨_,_,this⟩:=AH.1 this;have⟨_,_,this⟩:=AH.1 this;split at this<;>cases this
  rw[hD (vN k2 _)];exact .inl (act h')
 |on x b=>
  rw[W]at h';have Y:dr (x.ev E) b (s.ao.ex G call s.dst E H n λE H n=>Bg (gh (Mc s.i) pre++C1 Mc (pre++[s]) post) G call E H n K) (Bg (gh (Mc s.i) pre++C1 Mc (pre++[s]) post) G call (D0 s.dst (.CV []) E) H n K):=h';rw[TL]at Y;have⟨q,hq,Y⟩:=Y;have J:=ok.gd;rw[W]at J;cases d4:s.o.guard with
  |none=>rw[d4]at J;cases J
  |some gb=>
   have⟨g,b'⟩:=gb;rw[d4]at J;have⟨t,ht,J⟩:=AH.1 J;have⟨y,hy,J⟩:=AH.1 J;split at J
   .rename_i k3;cases J;have hv:=hO _ _ hy;rw[UF (o:=s.o) ht (by rw[I.size];exact k3) hv hq d4];by_cases d8:q=some b
    .rw[hD d8]at Y;rw[hD (by simpa using d8)];exact .inl (act Y)
    .rw[g_ d8]at Y;rw[g_ (by simpa using d8)];exact f7 (.CV []) H n undef w ρ Y y7 I.hh (FC.refl _ _ _)
   .cases J
end
variable{P:Program}
section
variable{C:FX}{ops:Array Oper}{ss:List Stp}{Mc:Nat->List Nat}{G:AQ}{w0:World}{ρ0:Loc}{H0:Heap}{n0:Nat}{call:Am}{K:KE}{Q:Exit->Act->World->Prop}
abbrev filter_lt{g:Type}{p q:g->Bool}:∀{l:List g},(∀x∈l,q x=true->p x=true)->(∃x∈l,p x=true/\q x=false)->(l.filter q).length<(l.filter p).length
 |[],_,⟨x,d,_⟩=>by trivial
 |y::l,h,d=>by
  have i:∀{l:List g},(∀x∈l,q x=true->p x=true)->(l.filter q).length<=(l.filter p).length:=by
   intro l;induction l with
   |nil=>simp
   |cons z l v=>
    intro h;have:=v λx d=>h x (c_ _ d);simp only[List.filter_cons];cases w:q z with
    |true=>simp[*]
    |false=>cases A:p z<;>simp<;>omega
  have k:=λx d=>h x (c_ y d);simp only[List.filter_cons];cases w:q y with
  |true=>
   have⟨x,d,m,u⟩:=d;have f:x∈l:=by rcases qk.1 d with rfl|d<;>simp_all
   have:=filter_lt k ⟨x,f,m,u⟩;simp[*]
  |false=>
   cases A:p y with
   |true=>have:=i k;simp;omega
   |false=>
    have⟨x,d,m,u⟩:=d;have f:x∈l:=by rcases qk.1 d with rfl|d<;>simp_all
    have:=filter_lt k ⟨x,f,m,u⟩;trivial
abbrev Inv.AV7(R:Ur P C ops ss Mc):∀(f:aAy) {pre rest:aAy} {L:Array Bool} {ids:Nat->Nat} {E:RS} {H:Heap} {n:Nat} {ρ:Loc} {a:Act} {w:World},Inv P C ops ss G w0 ρ0 H0 n0 pre (f++rest) L ids E H n ρ a w->(∀s∈f,s.ao.UD=false)->
 Bg (C1 Mc pre (f++rest)) G call E H n K->∃d i H' n',Inv P C ops ss G w0 ρ0 H0 n0 (pre++f) rest L d i H' n' ρ a w/\Bg (C1 Mc (pre++f) rest) G call i H' n' K
 |[],pre,rest,L,ids,E,H,n,ρ,a,w,I,_,h=>⟨ids,E,H,n,by simp_all,by simp_all⟩
 |s::f,pre,rest,L,ids,E,H,n,ρ,a,w,I,k,h=>by have⟨d,i,H',n',q,u⟩:=Inv.adv R I (k s u_) h;have⟨g,v,y,A,m,p⟩:=Inv.AV7 R f q (λx B=>k x (c_ _ B)) u;rw[y_,A_]at m p;exact⟨g,v,y,A,m,p⟩
abbrev AMt(ok:mM P C ops s)(d:L.size=ops.size)(f:L.getD s.i false=false)(g:∀e∈s.o.after,Region.binds .any e=true->L.getD e.on false=true):s.i∈Region.ready .any ops L:=by
 rw[mem_ready];have k:s.i<L.size:=by rw[d];exact(_t.1 ok.at_).1
 refine⟨?_,s.o,ok.at_,g⟩<;>simp_all
abbrev Inv.ends(R:Ur P C ops ss Mc){pre post:aAy}{ids:Nat->Nat}(I:Inv P C ops ss G w0 ρ0 H0 n0 pre post L ids E H n ρ a w)(U:Region.ready .any ops L=[])
 (h:Bg (C1 Mc pre post) G call E H n K) (D:∀E H n a w ρ,K E H n->Cb w0 ρ H n w->Rg C ρ E.rg a->FC ρ0 H0 n0 ρ H n->Q .normal a w):Q .normal a w:=by
 have q:∀(m p:aAy),ss=p++m->(∀x∈p,L.getD x.i false=true)->∀x∈ss,L.getD x.i false=true:=by
  intro m;induction m with
  |nil=>simp
  |cons s m F=>
   intro p B J;refine F (p++[s]) (by simp[*]) λx f=>?_;rcases q_.1 f with f|f
   .simp[*]
   .have g:s∈ss:=by simp[*]
    rw[ff.1 f];cases u:L.getD s.i false with
    |true=>rfl
    |false=>
     have:=AMt (R.ok s g) I.Z6 u λe M N=>by have⟨y,O,v⟩:=R.AUO p s m B e M N;rw[<-v];exact J y O
     simp_all
 have d:=q ss [] rfl (λx f=>by trivial);have k:post=[]:=by
  cases post with
  |nil=>rfl
  |cons s r=>
   have g:s∈ss:=by simp[I.split]
   have⟨x,f,A⟩:=I.sub _ (d s g);exact absurd A ((R.inj pre s r I.split).1 x f)
 subst k;refine D E H n a w ρ h I.hh ⟨I.size,λt S u=>I.reg t S u λs B T=>?_,I.Uw⟩ I.gu;simp_all[d s (by simp_all[I.split]),I.split]
abbrev AZU(R:Ur P C ops ss Mc)(hc:Y5 P w0 call)(F:Sj w0 G)(O:∀E H n a w ρ,K E H n->Cb w0 ρ H n w->Rg C ρ E.rg a->FC ρ0 H0 n0 ρ H n->Q .normal a w):
 ∀(fuel:Nat) (pre post:aAy) (L:Array Bool) (ids:Nat->Nat) (E:RS) (H:Heap) (n:Nat) (ρ:Loc) (a:Act) (w:World),Inv P C ops ss G w0 ρ0 H0 n0 pre post L ids E H n ρ a w->Bg (C1 Mc pre post) G call E H n K->
  (ss.filter λs=> !L.getD s.i false).length<=fuel->wpAny P .any ops Q fuel L a w
 |0,pre,post,L,ids,E,H,n,ρ,a,w,I,h,hf=>by
  have J:Region.ready .any ops L=[]:=by
   cases S:Region.ready .any ops L with
   |nil=>rfl
   |cons i r=>
    have T:i∈Region.ready .any ops L:=by rw[S];exact u_
    have⟨g,o,M,_⟩:=mem_ready.1 T;have k:=(_t.1 M).1;obtain⟨s,v,rfl⟩:=R.all i k;have hm:s∈ss.filter λs=> !L.getD s.i false:=by
     rw[List.mem_filter];refine⟨v,?_⟩;have f:s.i<L.size:=by rw[I.Z6];exact k
     simp only[Array.getD,f,dite_true]at g⊢;rw[g];rfl
    have:(ss.filter λs=> !L.getD s.i false)=[]:=_n.1 a6;rw[this]at hm;cases hm
  exact⟨J,I.ends R J h O⟩
 |fuel+1,pre,post,L,ids,E,H,n,ρ,a,w,I,h,hf=>by
  refine⟨λJ=>I.ends R J h O,λi T=>?_⟩;have⟨u,o,M,m⟩:=mem_ready.1 T;have k:=(_t.1 M).1;obtain⟨s,v,rfl⟩:=R.all i k;have ok:=R.ok s v;have U:s.o=o:=e_ (ok.at_.symm.trans M);subst U;have f:s.i<L.size:=by rw[I.Z6];exact k
  have g:L.getD s.i false=false:=by simp only[Array.getD,f,dite_true]at u⊢;exact u
  have d:(ss.filter λx=> !(L.setIfInBounds s.i true).getD x.i false).length<=fuel:=by
   have:=filter_lt (p:=λx:Stp=> !L.getD x.i false) (q:=λx:Stp=> !(L.setIfInBounds s.i true).getD x.i false) (l:=ss) (λx _ A=>by
    rw[pa f]at A;by_cases e:s.i=x.i
    .rw[hD e]at A;cases A
    .rw[g_ e]at A;exact A) ⟨s,v,by rw[g];rfl,by rw[pa f,hD rfl];rfl⟩
   omega
  have V:=AZU R hc F O fuel;by_cases hp:s∈pre
  .exact I.late R F hp g m fun ρ' a' w' N=>V _ _ _ _ _ _ _ _ _ _ N h d
  .have W:s∈post:=by rw[I.split]at v;exact(q_.1 v).resolve_left hp
   obtain⟨p1,p2,rfl⟩:=I_ W;have B:∀x,Before ops x s.i->L.getD x false=true:=λx X=>X (λi=>L.getD i false) I.closed λo Y=>by have:s.o=o:=e_ (ok.at_.symm.trans Y);subst this;exact m
   have D:∀x∈p1,x.ao.UD=false:=by
    intro x hx;cases he:x.ao.UD with
    |false=>rfl
    |true=>
     obtain⟨q1,q2,rfl⟩:=I_ hx;have X:=R.act (pre++q1) x q2 s p2 (by rw[I.split];simp) he;have⟨y,hy,Z⟩:=I.sub _ (B _ X);exact absurd Z ((R.inj (pre++q1) x (q2++s::p2) (by rw[I.split];simp)).1 y (n_ _ hy))
   have⟨d0,E',H',n',N,h'⟩:=Inv.AV7 R p1 I D h;cases hE:s.ao.UD with
   |true=>exact N.act R hc F hE m h' λE2 H2 n2 d2 a2 w2 I2 h2=>V _ _ _ _ _ _ _ _ _ _ I2 h2 d
   |false=>
    have⟨d1,E2,H2,n2,I2,h2⟩:=N.adv R hE h';exact I2.late R F o6 g m fun ρ' a' w' I3=>V _ _ _ _ _ _ _ _ _ _ I3 h2 d
abbrev AKE(k:P.follows .mixedOrders=true)(R:Ur P C ops ss Mc)(m:Y5 P w0 call)(p:Sj w0 G){g:F3}(hh:Cb w0 ρ0 H0 n0 w)(f:Rg C ρ0 g a)
 (h:Bg (C1 Mc [] ss) G call (.mk [] g) H0 n0 K) (q:∀E H n a w ρ,K E H n->Cb w0 ρ H n w->Rg C ρ E.rg a->FC ρ0 H0 n0 ρ H n->Q .normal a w):(Code.region id ops true).wp P Q a w:=by
 refine wp_region_any k ?_;have d:∀i,(Array.replicate ops.size false).getD i false=false:=by simp[Array.getD]
 refine AZU R m p q ops.size [] ss _ (λ_=>0) _ H0 n0 ρ0 a _ ?_ h ?_
 .refine{split:=rfl,hh:=hh.of_same rfl rfl rfl,gu:=FC.refl _ _ _,Z6:=o6,sub:=?_,closed:=?_,eff:=?_,size:=f.size,reg:=λt u v _=>f.reg t u v,Uw:=f.Uw,now:=?_,one:=?_,ge:=?_}
  .simp[*]
  .intro j o x;simp_all
  all_goals simp
 .exact w_ (List.length_filter_le _ _) R.len
end
end Go.BN
