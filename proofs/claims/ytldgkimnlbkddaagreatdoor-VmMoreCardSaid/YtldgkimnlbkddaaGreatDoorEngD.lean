/- Part of a proof; nothing is assumed. -/
import Derived.Test.YtldgkimnlbkddaaGreatDoorEngC
import Derived.Laws.IdiomStrings
import Derived.Orders
set_option linter.unusedVariables false
set_option linter.unusedSimpArgs false
noncomputable section
namespace Go.Bf
variable{P:Program}
theorem AMy{esz:Nat}:∀(m:Nat) (LS:EL),(∀L∈LS,L.length=esz)->(LS.take m).flatten=LS.flatten.take (m*esz)
 |0,LS,_=>by simp
 |m+1,[],_=>by simp
 |m+1,L::LS,h=>by
  have d:=h L List.mem_cons_self
  rw[List.take_succ_cons,List.flatten_cons,List.flatten_cons,AMy m LS (λK f=>h K (List.mem_cons_of_mem _ f)),Nat.add_mul,Nat.one_mul,List.take_append]
  rw[List.take_of_length_le (l:=L) (by omega),d,show m*esz+esz-esz=m*esz by omega]
theorem ASr{t u e:TypeId}{esz:Nat}(ty:TypeId)(ht:P.underlying t=some (.slice e))(hz:szT P e=some esz){w0:World}{ρ:Loc}{H:Heap}{n:Nat}{w:World}(hh:DZ w0 ρ H n w){G:AY}(hg:Xf w0 G)
 {x y:V} {ux O:Value} (M:Aa ρ x ux) (hy:Aa ρ y O) {LS:EL} (d0:elems y G H esz=some LS) {k:KV} (h:AMg x esz LS H n k):
 APR P w0 ρ H n w (Builtin.copy_ #[t,u] ty #[ux,O]) k:=by
 obtain⟨F,hr,d1,hl,h1,hs⟩:=ANZ (P:=P) hh hg hy d0
 have Q:=run_sizeOf (P:=P) hz
 have key:∀(id f d:Nat) (a:Addr) (p:Nat) (g:Info),ρ id=some g->(p=0∨a=⟨g.b,g.base+f*esz,none⟩)->d<=p->AKO id f d esz LS H n k->
  APR P w0 ρ H n w (Builtin.copy_ #[t,u] ty #[.slice (some a) d p,O]) k:=by
  intro id f d a p g i R D h
  unfold AKO at h
  rw[JR]at h
  obtain⟨b,q,v⟩:=h
  cases b with
  |map _ _=>exact False.elim v
  |dead=>exact False.elim v
  |qU _ _ _ _ _=>exact False.elim v
  |own _=>exact False.elim v
  |arr S E c=>
   have I:Ji (band (Nat.beq esz S) (Nat.ble (Nat.add f (len (aK d LS))) E)) (DT (len (aK d LS)) λm=>k (.int .i64 (.ofNat m) 0) (T.set H id (.arr esz E (Et (aK d LS) f c))) n):=v
   simp only[FM,BK,Bool.and_eq_true,beq_iff,BL,len_eq,gQ]at I
   obtain⟨⟨rfl,U⟩,hk⟩:=I
   have J:f+(LS.take d).length<=E:=Nat.le_of_ble_eq_true U
   have A:Nat.min LS.length d=(LS.take d).length:=by rw[List.length_take];exact Nat.min_comm _ _
   have W:(LS.take d).length<=LS.length:=by simp;omega
   have d2:Bq ρ (LS.take d).flatten (F.take ((LS.take d).length*esz)):=by
    have e1:LS.take d=LS.take (LS.take d).length:=by rw[List.length_take];exact List.take_eq_take_iff.2 (by omega)
    rw[e1,AMy _ LS hl,<-e1]
    exact hr.take _
   have X:(F.take ((LS.take d).length*esz)).length=(LS.take d).length*esz:=by
    rw[List.length_take,d1]
    exact Nat.min_eq_left (Nat.mul_le_mul_right _ W)
   have Y:∀y∈F.take ((LS.take d).length*esz),y.oneCell'=true:=λy hy=>h1 y (List.mem_of_mem_take hy)
   have d3:∀L∈LS.take d,L.length=esz:=λL hL=>hl L (List.mem_of_mem_take hL)
   obtain⟨N,tt,fz,B⟩:=hh.arr id g esz E c i q
   obtain⟨d4,Z⟩:=B.puts J d2 d3 X Y
   have d5:(storeCells a (F.take ((LS.take d).length*esz))).run P w=.ok () (w.setRow g.b (NU N.toList (g.base+f*esz) (F.take ((LS.take d).length*esz))).toArray):=by
    rcases R with h0|rfl
    ·have d6:(LS.take d).length=0:=by rw[List.length_take];omega
     have d7:F.take ((LS.take d).length*esz)=[]:=by rw[d6];simp
     rw[d7,mJ]
     have:(NU N.toList (g.base+f*esz) []).toArray=N:=by simp[NU]
     rw[this,setRow_self w g.b N tt fz B.heap]
    ·have d8:=JA (P:=P) g.b (g.base+f*esz) tt fz (F.take ((LS.take d).length*esz)) 0 N w B.heap (by rw[B.size];exact B.free) (by simpa using d4) Y
     simpa using d8
   have hf:=hs.fst (LS.take d).length W w rfl
   have C:(Builtin.copy_ #[t,u] ty #[.slice (some a) d p,O]).run P w=.ok (.int .i64 (LS.take d).length) (w.setRow g.b (NU N.toList (g.base+f*esz) (F.take ((LS.take d).length*esz))).toArray):=by
    simp only[Builtin.copy_,List.getElem?_toArray,List.getElem?_cons_zero,List.getElem?_cons_succ,Sem.run_bind,run_underlying ht,hs.len,Q,A,hf,Result.andThen_ok,d5,Sem.run_pure,goInt]
   refine⟨_,_,_,_,_,ρ,hk,C,?_,?_,IE.turn i _⟩
   ·simp only[Aa];rfl
   ·refine hh.turn i ⟨_,q,by simp⟩ (setRow_size _ _ _) (λk hk=>setRow_other _ _ _ _ hk) (setRow_os _ _ _) (setRow_output _ _ _) ?_ (λes ck he=>by cases he) (λ_=>by rw[q];simp) (λ_ _ _ _ _ he=>by cases he)
    intro e2 n2 c2 he
    cases he
    exact⟨_,_,_,Z⟩
 cases x<;>simp only[AMg]at h<;>try (exact absurd h (λh=>h))
 ·simp only[Aa]at M
  subst M
  have hf:=hs.fst 0 (Nat.zero_le _) w rfl
  have C:(Builtin.copy_ #[t,u] ty #[.slice none 0 0,O]).run P w=.ok (.int .i64 0) w:=by
   have A:Nat.min LS.length 0=0:=Nat.min_zero _
   simp only[Builtin.copy_,List.getElem?_toArray,List.getElem?_cons_zero,List.getElem?_cons_succ,Sem.run_bind,run_underlying ht,hs.len,Q,A,hf,Result.andThen_ok,Sem.run_pure,goInt]
   rfl
  exact⟨_,_,_,_,_,ρ,h,C,by simp only[Aa];rfl,hh,IE.refl _ _ _⟩
 ·simp only[FM]at h
  obtain⟨K,h⟩:=h
  have:=Nat.eq_of_beq_eq_true K
  subst this
  simp only[Aa]at M
  obtain⟨g,a,i,rfl,R,D⟩:=M
  exact key _ _ _ a _ g i R D h
 ·simp only[FM]at h
  obtain⟨K,h⟩:=h
  have:=Nat.eq_of_beq_eq_true K
  subst this
  simp only[Aa]at M
  obtain⟨g,a,cp,i,rfl,R,D,_⟩:=M
  exact key _ _ _ a _ g i R D h
theorem AOi.fz{ρ:Loc}{size d:Nat}{c:T LV}{vs:Array Value}{t:TypeId}(h:AOi ρ size (.arr 1 d c) (.cells vs t)){fz:Nat×Nat}(f:yO fz size):AOi ρ size (.arr 1 d c) (.cells vs t fz):=by
 obtain⟨g,u,i,e,k,_,_,m,p,q⟩:=h
 cases e
 exact⟨_,_,_,rfl,k,f,.inl rfl,m,p,q⟩
theorem AVu{d f e:TypeId}(hs:P.underlying d=some .string)(hd:P.underlying f=some (.slice e))(B:P.underlying e=some (.int .u8)){w0:World}{ρ:Loc}{H:Heap}{n:Nat}{w:World}(hh:DZ w0 ρ H n w)
 {l c:Nat} {u:Value} (C:Aa ρ (.str l c) u) {k:KV} (h:k (.F9 n 0 l 1) (T.set H n (.arr 1 l (Et (fE l c) 0 .e))) (n+1)):APR P w0 ρ H n w (convert d f u) k:=by
 obtain⟨s,rfl,rfl,rfl⟩:=JW C
 obtain⟨D,A,E⟩:=AAB (ρ:=ρ) s.data.toList
 have g:=run_bytes_of_string (P:=P) w d f e s hs hd B
 have x:=grownCap_ge w s.size 0 e
 have m:=AJ8 (ρ:=ρ) (esz:=1) (c0:=.e) (ln:=0) (olds:=[]) (by simp) (λy h=>(by cases h)) (λe h=>(by omega)) (LS:=fE s.data.toList.length (enc s.data.toList)) D E (by rw[List.length_map,A];omega)
  (by intro y v;obtain⟨b,_,rfl⟩:=List.mem_map.1 v;rfl) (zs:=Array.replicate (grownCap w s.size 0 e-s.size) (.int .u8 0)) (by intro y v;simp at v;rw[v.2];rfl) e (need:=s.data.toList.length) (by rw[A];omega)
 have p:(#[]:Array Value)++(s.data.toList.map λb=>Value.int .u8 b.toNat).toArray++Array.replicate (grownCap w s.size 0 e-s.size) (.int .u8 0)=bytesRow s (grownCap w s.size 0 e):=by
  unfold bytesRow
  apply Array.toList_inj.1
  simp
 rw[p]at m
 have q:=m.fz (fz:=((bytesRow s (grownCap w s.size 0 e)).size,(bytesRow s (grownCap w s.size 0 e)).size+1)) (λi F h=>by simp only at h;omega)
 refine⟨_,_,_,_,_,_,h,g,?_,hh.drew.new q,IE.place _ hh.AEa⟩
 refine⟨⟨w.heap.size,0,(bytesRow s (grownCap w s.size 0 e)).size⟩,⟨w.heap.size,0,none⟩,grownCap w s.size 0 e,Loc.add_same _ _ _,?_,.inr ?_,?_,?_⟩
 ·rw[Nv]
 ·simp
 ·rw[<-Nv];exact x
 ·simp only[bytesRow,Array.size_append,Array.size_map,Array.size_replicate]
  have:s.data.size=s.size:=rfl
  omega
theorem ASp{b:Nat}{o o':Obj}{w:World}(h:w.heap[b]? =some o)(i:∃f g,o=.map f g):∃w',(setObj b o').run P w=.ok () w'/\w'.heap.size=w.heap.size/\w'.heap[b]? =some o'/\(∀k,k≠b->w'.heap[k]? =w.heap[k]?)/\w'.os=w.os/\w'.output=w.output:=by
 obtain⟨f,g,rfl⟩:=i
 have d:b<w.heap.size:=(Array.getElem?_eq_some_iff.1 h).1
 refine⟨{w with heap:=w.heap.setIfInBounds b o'},?_,by simp,by simp[d],λk m=>by simp[Array.getElem?_setIfInBounds_ne (Ne.symm m)],rfl,rfl⟩
 simp[setObj,Sem.run,h]
variable{P:Program}
def AYY(P:Program)(w0:World)(ρ:Loc)(H:Heap)(n:Nat)(w:World)(s:Sem Unit)(k:Heap->Prop):Prop:=
 ∃H' w',k H'/\s.run P w=.ok () w'/\DZ w0 ρ H' n w'/\IE ρ H n ρ H' n
theorem AWD{t:TypeId}{d:Nat}(D:szT P t=some d){w0:World}{ρ:Loc}{H:Heap}{n:Nat}{w:World}(hh:DZ w0 ρ H n w){x v:V}{B p:Value}(E:Aa ρ x B)(F:Aa ρ v p){k:Heap->Prop}
 (h:Ji (band (Zp v) (Nat.beq (len (A8 v)) d)) (Gu (stP x H d (A8 v)) k)):AYY P w0 ρ H n w (Instr.storeAt t B p) k:=by
 simp only[FM,BK,Bool.and_eq_true,beq_iff,len_eq,JR]at h
 obtain⟨⟨q,f⟩,G,g,I⟩:=h
 obtain⟨C,J⟩:=ABD F q
 have i:p.cells.toList.length=d:=by rw[<-C.length,f]
 rw[<-i]at g
 obtain⟨a,K,rfl,m,u,L⟩:=AWV (P:=P) hh E g C J
 refine⟨G,K,I,?_,u,L⟩
 have y:=run_sizeOf (P:=P) D w
 have A:p.cells.size=d:=by simpa using i
 simp[Instr.storeAt,Instr.sureAddr,storeVar,y,A,m]
theorem AKp{w0:World}{ρ:Loc}{H:Heap}{n:Nat}{w:World}(hh:DZ w0 ρ H n w){m:V}{u:Value}(q:Aa ρ m u){f:ME->Nat->Option Nu}{k:Heap->Prop}(h:AMG m H f k):
 ∃id x i p b,∃g:Array MapEntry,ρ id=some x/\u=.map (some x.b)/\T.get H id=some (.map i p)/\f i p=some b/\k (T.set H id b)/\w.heap[x.b]? =some (.map g p)/\KD ρ i g.toList:=by
 cases m<;>simp only[AMG]at h<;>try (exact absurd h (λh=>h))
 rename_i id
 simp only[Aa]at q
 obtain⟨x,v,rfl⟩:=q
 unfold Aes at h
 rw[JR]at h
 obtain⟨b,y,h⟩:=h
 rw[JR]at h
 obtain⟨A,d,B⟩:=h
 cases b with
 |arr _ _ _=>cases d
 |dead=>cases d
 |qU _ _ _ _ _=>cases d
 |own _=>cases d
 |map i p=>
  obtain⟨g,C,D⟩:=hh.map id x i p v y
  exact⟨id,x,i,p,A,g,v,rfl,y,d,B,C,D⟩
theorem zu{w0:World}{ρ:Loc}{H:Heap}{n:Nat}{w:World}(hh:DZ w0 ρ H n w){id:Nat}{x:Info}(v:ρ id=some x){A:ME}{y:Nat}(d:T.get H id=some (.map A y)){p:Array MapEntry}(B:w.heap[x.b]? =some (.map p y))
 {es2:ME} {ck2:Nat} {es3:Array MapEntry} (C:KD ρ es2 es3.toList):∃w',(setObj x.b (.map es3 ck2)).run P w=.ok () w'/\DZ w0 ρ (T.set H id (.map es2 ck2)) n w'/\IE ρ H n ρ (T.set H id (.map es2 ck2)) n:=by
 obtain⟨w',f,q,g,i,u,k⟩:=ASp (P:=P) (o':=.map es3 ck2) B ⟨_,_,rfl⟩
 refine⟨w',f,?_,IE.turn v _⟩
 exact hh.turn v ⟨_,d,by simp⟩ q i u k (λe c t m=>by cases m) (λe c m=>by cases m;exact⟨es3,g,C⟩) (λ_=>by rw[d];simp) (λ_ _ _ _ _ m=>by cases m)
theorem KD.append{ρ:Loc}:∀{a b:ME} {x y:List MapEntry},KD ρ a x->KD ρ b y->KD ρ (a++b) (x++y)
 |[],b,x,y,h,d=>by simp only[KD]at h;subst h;simpa using d
 |(k,v,c)::a,b,x,y,h,d=>by
  simp only[KD]at h
  obtain⟨e,f,rfl,g,i,m,p⟩:=h
  exact⟨e,f++y,rfl,g,i,m,p.append d⟩
theorem KD.set{ρ:Loc}{k v:V}{c:Nat}{e:MapEntry}(d:Aa ρ k e.key)(f:Aa ρ v e.val)(g:e.born=c):∀{a:ME} {x:List MapEntry} (i:Nat),KD ρ a x->KD ρ (a.set i (k,v,c)) (x.set i e)
 |[],x,i,h=>by simp only[KD]at h;subst h;simp[KD]
 |(k',v',c')::a,x,i,h=>by
  simp only[KD]at h
  obtain⟨q,m,rfl,u,w,y,p⟩:=h
  cases i with
  |zero=>exact⟨e,m,rfl,d,f,g,p⟩
  |succ i=>exact⟨q,m.set i e,rfl,u,w,y,KD.set d f g i p⟩
theorem KD.erase{ρ:Loc}:∀{a:ME} {x:List MapEntry} (i:Nat),KD ρ a x->KD ρ (a.eraseIdx i) (x.eraseIdx i)
 |[],x,i,h=>by simp only[KD]at h;subst h;simp[KD]
 |(k',v',c')::a,x,i,h=>by
  simp only[KD]at h
  obtain⟨f,g,rfl,k,m,p,d⟩:=h
  cases i with
  |zero=>exact d
  |succ i=>exact⟨f,g.eraseIdx i,rfl,k,m,p,KD.erase i d⟩
theorem run_findKey{f:TypeId}{d:TypeDesc}(hd:P.underlying f=some d){u:Value}{g:List MapEntry}{q:Option (Nat×Value)}(h:Instr.findNow d u g 0=some q)(w:World):(Instr.findKey f u g).run P w=.ok q w:=by
 simp[Instr.findKey,run_underlying hd,h]
theorem ARs{α:Type}{l:List α}{i:Nat}{f:α->α}{a:α}(h:l[i]? =some a):l.modify i f=l.set i (f a):=by
 apply List.ext_getElem?
 intro j
 by_cases d:i=j
 ·subst d
  rw[List.getElem?_modify_eq,h]
  have:=(List.getElem?_eq_some_iff.1 h).1
  simp[this]
 ·rw[List.getElem?_modify_ne (h:=d),List.getElem?_set_ne d]
theorem ANN{t O et:TypeId}{c:CK}{d:TypeDesc}(ht:P.underlying t=some (.map O et))(hd:P.underlying O=some d)(hk:AFz P O=some c){w0:World}{ρ:Loc}{H:Heap}{n:Nat}{w:World}(hh:DZ w0 ρ H n w)
 {m key v:V} {um q B:Value} (hm:Aa ρ m um) (I:Aa ρ key q) (hv:Aa ρ v B) {k:Heap->Prop} (h:AMG m H (AL9 c key v) k):AYY P w0 ρ H n w (Instr.mapUpdate t um q B) k:=by
 obtain⟨id,x,J,C,b,f,hx,rfl,A,G,u,N,Q⟩:=AKp hh hm h
 unfold AL9 at G
 rw[BX]at G
 obtain⟨r,D,G⟩:=G
 have K:=run_checkKey (P:=P) hk false 9999 q w
 rcases sD hd hk I D Q with⟨rfl,y⟩|⟨j,kv,v0,v1,b0,R,rfl,y,_,S,i,T,U,W,E⟩
 ·have g:some (Nu.map (cat J [(key,v,C)]) (Nat.succ C))=some b:=G
  cases g
  rw[AOk]at u
  obtain⟨X,p,F,Y⟩:=zu (P:=P) hh hx A N (es2:=J++[(key,v,C)]) (ck2:=C+1) (es3:=f.push ⟨q,B,C⟩) (by rw[Array.toList_push];exact Q.append ⟨_,[],rfl,I,hv,rfl,by simp[KD]⟩)
  refine⟨_,X,u,?_,F,Y⟩
  simp only[Instr.mapUpdate,Sem.run_bind,run_underlying ht,Result.andThen_ok,Uy N,K,run_findKey hd y,p]
 ·have g:BO (nth J (0+j)) (λe=>some (Nu.map (rE (e.1,v,e.2.2) J (0+j)) C))=some b:=G
  rw[Nat.zero_add]at g y
  rw[BX]at g
  obtain⟨e1,L,g⟩:=g
  rw[AAT,S]at L
  cases L
  cases g
  rw[AM3]at u
  have hj:j<f.size:=by have:=(List.getElem?_eq_some_iff.1 i).1;simpa using this
  have M:(f.modify j λe=>{e with key:=q,val:=B}).toList=f.toList.set j {R with key:=q,val:=B}:=by
   rw[Array.toList_modify,ARs i]
  have Z:Instr.sameBits 10000 (((f[j]?).map (·.key)).getD q) q=true:=by
   have:f[j]? =some R:=by rw[<-Array.getElem?_toList];exact i
   rw[this]
   simp only[Option.map_some,Option.getD_some,T]
   exact E
  obtain⟨X,p,F,Y⟩:=zu (P:=P) hh hx A N (es2:=J.set j (kv,v,b0)) (ck2:=C) (es3:=f.modify j λe=>{e with key:=q,val:=B}) (by rw[M];exact KD.set (e:={R with key:=q,val:=B}) W hv U j Q)
  refine⟨_,X,u,?_,F,Y⟩
  simp only[Instr.mapUpdate,Sem.run_bind,run_underlying ht,Result.andThen_ok,Uy N,K,run_findKey hd y,Instr.keyThatStays,Z,if_true,Sem.run_pure,p]
theorem AVk{t I W:TypeId}{c:CK}{d:TypeDesc}(Q:P.underlying t=some (.map I W))(hd:P.underlying I=some d)(R:AFz P I=some c){w0:World}{ρ:Loc}{H:Heap}{n:Nat}{w:World}(hh:DZ w0 ρ H n w)
 {m key:V} {S J:Value} (X:Aa ρ m S) (K:Aa ρ key J) (u ty:TypeId) {k:KV} (h:AMG m H (Ac5 c key) λH=>k (.Dl []) H n):APR P w0 ρ H n w (Builtin.delete_ #[t,u] ty #[S,J]) k:=by
 obtain⟨id,x,E,F,b,f,T,rfl,q,A,B,G,L⟩:=AKp hh X h
 unfold Ac5 at A
 rw[BX]at A
 obtain⟨r,v,A⟩:=A
 have C:=run_checkKey (P:=P) R f.isEmpty 9999 J w
 rcases sD hd R K v L with⟨rfl,i⟩|⟨j,kv,v0,v1,b0,e0,rfl,i,_,Y,U,Z,d0,d1,M⟩
 ·have p:some (Nu.map E F)=some b:=A
  cases p
  obtain⟨N,g,y,O⟩:=zu (P:=P) hh T q G (es2:=E) (ck2:=F) (es3:=f) L
  refine⟨_,_,_,.tuple #[],N,ρ,B,?_,⟨#[],rfl,by simp⟩,y,O⟩
  simp only[Builtin.delete_,List.getElem?_toArray,List.getElem?_cons_zero,List.getElem?_cons_succ,Sem.run_bind,run_underlying Q,Result.andThen_ok,Uy G,C,run_findKey hd i,g,Sem.run_pure]
 ·have p:some (Nu.map (AK7 E (0+j)) F)=some b:=A
  rw[Nat.zero_add,AMb]at p
  rw[Nat.zero_add]at i
  cases p
  have D:(f.eraseIdxIfInBounds j).toList=f.toList.eraseIdx j:=by
   rw[Array.toList_eraseIdxIfInBounds]
  obtain⟨N,g,y,O⟩:=zu (P:=P) hh T q G (es2:=E.eraseIdx j) (ck2:=F) (es3:=f.eraseIdxIfInBounds j) (by rw[D];exact L.erase j)
  refine⟨_,_,_,.tuple #[],N,ρ,B,?_,⟨#[],rfl,by simp⟩,y,O⟩
  simp only[Builtin.delete_,List.getElem?_toArray,List.getElem?_cons_zero,List.getElem?_cons_succ,Sem.run_bind,run_underlying Q,Result.andThen_ok,Uy G,C,run_findKey hd i,g,Sem.run_pure]
theorem AVE{t u v:TypeId}(y:P.underlying t=some (.map u v)){w0:World}{ρ:Loc}{H:Heap}{n:Nat}{w:World}(hh:DZ w0 ρ H n w)
 {m:V} {p:Value} (A:Aa ρ m p) (ty:TypeId) {k:KV} (h:AMG m H (λ_ c=>some (.map [] c)) λH=>k (.Dl []) H n):APR P w0 ρ H n w (Builtin.clear_ #[t] ty #[p]) k:=by
 obtain⟨I,x,J,B,b,C,D,rfl,d,E,g,q,K⟩:=AKp hh A h
 cases E
 obtain⟨F,f,i,G⟩:=zu (P:=P) hh D d q (es2:=[]) (ck2:=B) (es3:= #[]) (by simp[KD])
 refine⟨_,_,_,.tuple #[],F,ρ,g,?_,⟨#[],rfl,by simp⟩,i,G⟩
 simp only[Builtin.clear_,List.getElem?_toArray,List.getElem?_cons_zero,Sem.run_bind,run_underlying y,Result.andThen_ok,Uy q,f,Sem.run_pure]
variable{P:Program}
def AVP(P:Program)(f:FuncId):Prop:=∃fn,P.funcs[f]? =some fn/\fn.body.isSome=true/\(fn.name== "runtime.NumGoroutine")=false
def mV(P:Program)(w0:World)(call:Au):Prop:=∀(f:Nat) (vargs:List V) (H:Heap) (n:Nat) (k:KV),call f vargs H n k->AVP P f/\∀(ρ:Loc) (w:World) (args:Array Value),DZ w0 ρ H n w->Bq ρ vargs args.toList->
 Calls P f args w (λe w'=>∃u v H' n' ρ',e=.returned u/\k v H' n'/\Aa ρ' v u/\DZ w0 ρ' H' n' w'/\IE ρ H n ρ' H' n')
theorem qj{f:FuncId}(h:AVP P f)(args:Array Value)(w:World):(callFunc f args).run P w=.ok (.enter f args) w:=by
 obtain⟨i,m,k,p⟩:=h
 have d:i.body≠none:=by intro e;rw[e]at k;cases k
 have g:i.name≠ "runtime.NumGoroutine" :=by simpa using p
 simp[callFunc,m,d,g]
def AN3(P:Program)(f:Operand->Option X)(c:Call):Option AE:=
 match c.callee with
 |.builtin b=>match b,c.args.toList,c.argTypes.toList with
  |.append,[x,y],[t,u]=>match P.underlying t,P.underlying u with
   |some (.slice e),some d=>Ap (P.info? e) λi=>Ap (AF6 P e) λz=>Ap (f x) λx=>Ap (f y) λy=>
    if z.length=i.size/\0<i.size/\0<i.bytes then match d with
     |.slice _=>some (.app i.size i.bytes x y)
     |.string=>some (.app i.size i.bytes x y)
     |_=>none
    else none
   |_,_=>none
  |.copy,[x,y],[t,_]=>match P.underlying t with
   |some (.slice e)=>Ap (szT P e) λz=>Ap (f x) λx=>Ap (f y) λy=>some (.copy z x y)
   |_=>none
  |.delete,[m,k],[t,_]=>match P.underlying t with
   |some (.map kt _)=>Ap (AFz P kt) λc=>Ap (f m) λm=>Ap (f k) λk=>some (.del c m k)
   |_=>none
  |.clear,[m],[t]=>match P.underlying t with
   |some (.map _ _)=>Ap (f m) λm=>some (.AfG m)
   |_=>none
  |_,_,_=>none
 |.value (.func fi)=>Ap (c.args.toList.mapM f) λa=>some (.call fi a)
 |.value o=>Ap (f o) λx=>Ap (c.args.toList.mapM f) λa=>some (.AT1 x a)
 |_=>none
def trE(P:Program)(f:Operand->Option X)(op:Op):Option AE:=
 match op with
 |.store t x v=>Ap (szT P t) λn=>Ap (f x) λx=>Ap (f v) λv=>some (.st n x v)
 |.mapUpdate t m k v=>match P.underlying t with
  |some (.map kt _)=>Ap (AFz P kt) λc=>Ap (f m) λm=>Ap (f k) λk=>Ap (f v) λv=>some (.ASW c m k v)
  |_=>none
 |.insert t m k v=>match P.underlying t with
  |some (.map kt _)=>Ap (AFz P kt) λc=>Ap (f m) λm=>Ap (f k) λk=>Ap (f v) λv=>some (.ASW c m k v)
  |_=>none
 |.convert src dst x=>match P.underlying src,P.underlying dst with
  |some .string,some (.slice e)=>match P.underlying e with
   |some (.int .u8)=>Ap (f x) λx=>some (.cvB x)
   |_=>none
  |_,_=>none
 |.call c=>AN3 P f c
 |_=>none
def trX(f:Operand->Option X)(op:Op):Option AE:=
 match op with
 |.move x=>Ap (f x) λx=>some (.asg x)
 |.assign x=>Ap (f x) λx=>some (.asg x)
 |_=>none
theorem Aci{v:V}{f:Nat->Nat->Prop}:Gu (v.VK λl c=>some (.ptr l c)) (λv=>V.AJY v f)↔∃l c,v=.str l c/\f l c:=by
 rw[JR]
 constructor
 ·rintro⟨x,h,d⟩
  obtain⟨l,c,rfl,h⟩:=IJ.1 h
  cases h
  exact⟨l,c,rfl,d⟩
 ·rintro⟨l,c,rfl,d⟩
  exact⟨.ptr l c,IJ.2 ⟨l,c,rfl,rfl⟩,d⟩
theorem VG{v:V}{f:Nat->LV->LV->Prop}:V.Y8 v f↔∃g a c,v=.fn g a c/\f g a c:=by
 cases v<;>simp[V.Y8]
 rename_i g a c
 constructor
 ·intro h;exact⟨g,a,c,⟨rfl,rfl,rfl⟩,h⟩
 ·rintro⟨_,_,_,⟨rfl,rfl,rfl⟩,h⟩;exact h
section
variable{w0:World}{ρ:Loc}{H:Heap}{n:Nat}{w:World}{G:AY}{E:RS}{a:Act}{f:Operand->Option X}{o:Oper}{k:KV}{next:Act->World->Prop}{Q:Exit->Act->World->Prop}
def Behind(w0:World)(ρ:Loc)(H:Heap)(n:Nat)(k:KV)(F:Value->World->Prop):Prop:=
 ∀v H' n' val w' ρ',k v H' n'->Aa ρ' v val->DZ w0 ρ' H' n' w'->IE ρ H n ρ' H' n'->F val w'
theorem AKb{s:Sem Value}(hs:execOp a.eval o=(do pure (Next.value (<-s)):Sem Next))(h:APR P w0 ρ H n w s k)(i:Behind w0 ρ H n k λval f=>next (a.put o.dst val) f):o.wp P a w next Q:=by
 obtain⟨v,m,p,val,f,g,q,d,u,x,y⟩:=h
 unfold Oper.wp
 rw[hs]
 simp only[Sem.run_bind,d,Result.andThen_ok,Sem.run_pure,Oper.upon]
 exact i v m p val f g q u x y
theorem zL{s:Sem Unit}(hs:execOp a.eval o=(do s;pure .skip:Sem Next))(h:AYY P w0 ρ H n w s λH=>k .undef H n)(g:Behind w0 ρ H n k λval f=>next (a.put o.dst val) f):o.wp P a w next Q:=by
 obtain⟨i,f,m,d,p,q⟩:=h
 unfold Oper.wp
 rw[hs]
 simp only[Sem.run_bind,d,Result.andThen_ok,Sem.run_pure,Oper.upon]
 exact g .undef i n undef f ρ m (by simp[Aa]) p q
theorem ALo{call:Au}(q:mV P w0 call){f:FuncId}{args:Array Value}{vargs:List V}(hs:AVP P f->(execOp a.eval o).run P w=.ok (.enter f args) w)(hh:DZ w0 ρ H n w)(x:Bq ρ vargs args.toList)
 (h:call f vargs H n k) (y:Behind w0 ρ H n k λval g=>next (a.put o.dst val) g):o.wp P a w next Q:=by
 obtain⟨i,d⟩:=q f vargs H n k h
 unfold Oper.wp
 rw[hs i]
 simp only[Oper.upon]
 refine(d ρ w args hh x).mono ?_
 rintro e g ⟨u,v,A,B,m,rfl,C,D,p,E⟩
 exact y v A B u g m C D p E
theorem AVY{call:Au}(hh:DZ w0 ρ H n w)(m:∀o x,f o=some x->Aa ρ (x.ev E) (a.eval o)){e:AE}(d:trX f o.op=some e)(h:e.ex G call E H n k)
 (p:Behind w0 ρ H n k λval q=>next (a.put o.dst val) q):o.wp P a w next Q:=by
 obtain⟨u,op,ty,v,g,i⟩:=o
 cases op<;>simp only[trX]at d<;>try (cases d;done)
 all_goals
  obtain⟨y,A,e⟩:=AB.1 d;cases e
  have B:k (y.ev E) H n:=h
  unfold Oper.wp
  simp only[execOp,Sem.run_pure,Oper.upon]
  exact p _ _ _ _ _ ρ B (m _ _ A) hh (IE.refl _ _ _)
theorem AMO{call:Au}(hc:mV P w0 call)(hh:DZ w0 ρ H n w)(hg:Xf w0 G)(I:∀o x,f o=some x->Aa ρ (x.ev E) (a.eval o)){c:Call}(ho:o.op=.call c){e:AE}(p:AN3 P f c=some e)(h:e.ex G call E H n k)
 (hn:Behind w0 ρ H n k λval w'=>next (a.put o.dst val) w'):o.wp P a w next Q:=by
 obtain⟨U,op,ty,W,D,F⟩:=o
 simp only at ho
 subst ho
 obtain⟨v,⟨args⟩,⟨q⟩⟩:=c
 unfold AN3 at p
 simp only at p
 have A:∀{s:Sem Value},(do let d<-resolve a.eval ⟨v,⟨args⟩,⟨q⟩⟩ ty;invoke d.target d.args:Sem Next)=(do pure (Next.value (<-s)):Sem Next)->APR P w0 ρ H n w s k->
  Oper.wp P ⟨U,.call ⟨v,⟨args⟩,⟨q⟩⟩,ty,W,D,F⟩ a w next Q:=λhs h=>AKb (by simp only[execOp];exact hs) h hn
 split at p
 ·split at p
  ·rename_i b x y t u
   split at p
   ·rename_i e d L hu
    obtain⟨i,hi,p⟩:=AB.1 p
    obtain⟨z,hz,p⟩:=AB.1 p
    obtain⟨T,X,p⟩:=AB.1 p
    obtain⟨y',hy,p⟩:=AB.1 p
    split at p
    ·rename_i M
     obtain⟨d2,Y,d3⟩:=M
     obtain⟨N,zv,d4,d5,d6,d7⟩:=qV hz
     have:N=i:=Option.some.inj (d4.symm.trans hi)
     subst this
     have d8:zv.cells.size=N.size:=by rw[<-Array.length_toList,<-(d6 ρ).length,d2]
     have key:(∀kk,d≠.int kk)->AE.app N.size N.bytes T y'= ‹AE› ->Oper.wp P ⟨U,.call ⟨.builtin .append,⟨[x,y]⟩,⟨[t,u]⟩⟩,ty,W,D,F⟩ a w next Q:=by
      intro hd C
      subst C
      have B:Gu (elems (y'.ev E) G H N.size) (λZ=>APB (T.ev E) G N.size N.bytes Z H n k):=h
      rw[JR]at B
      obtain⟨Z,O,B⟩:=B
      have R:=AV2 (P:=P) (t:=t) (u:=u) ty ⟨L,⟨d,hu,hd⟩,hi,d5,rfl,rfl,d3,d8,d7⟩ Y hh hg (I _ _ X) (I _ _ hy) O B
      exact A (by simp[resolve,invoke,builtin]) R
     split at p
     ·exact key (by intro kk h;cases h) (Option.some.inj p)
     ·exact key (by intro kk h;cases h) (Option.some.inj p)
     ·cases p
    ·cases p
   ·cases p
  ·rename_i b x y t u
   split at p
   ·rename_i e L
    obtain⟨z,hz,p⟩:=AB.1 p
    obtain⟨T,X,p⟩:=AB.1 p
    obtain⟨y',hy,C⟩:=AB.1 p
    cases C
    have B:Gu (elems (y'.ev E) G H z) (λZ=>AMg (T.ev E) z Z H n k):=h
    rw[JR]at B
    obtain⟨Z,O,B⟩:=B
    refine A ?_ (ASr (P:=P) (u:=u) ty L hz hh hg (I _ _ X) (I _ _ hy) O B)
    simp[resolve,invoke,builtin]
   ·cases p
  ·rename_i b m key t u
   split at p
   ·rename_i kt et L
    obtain⟨c,d0,p⟩:=AB.1 p
    obtain⟨m',hm,p⟩:=AB.1 p
    obtain⟨k',hk,C⟩:=AB.1 p
    cases C
    obtain⟨d,hd⟩:=AA2 d0
    refine A ?_ (AVk (P:=P) L hd d0 hh (I _ _ hm) (I _ _ hk) u ty h)
    simp[resolve,invoke,builtin]
   ·cases p
  ·rename_i b m t
   split at p
   ·rename_i kt et L
    obtain⟨m',hm,C⟩:=AB.1 p
    cases C
    refine A ?_ (AVE (P:=P) L hh (I _ _ hm) ty h)
    simp[resolve,invoke,builtin]
   ·cases p
  ·cases p
 ·rename_i fi
  obtain⟨l,hl,C⟩:=AB.1 p
  cases C
  refine ALo hc (vargs:=nH l E) (args:=(args.map a.eval).toArray) (λS=>?_) hh (by simpa using nN I _ _ hl) h hn
  have:=qj S (args.map a.eval).toArray w
  simp[execOp,resolve,Act.eval,Deferred.ofValue,invoke]
  simpa[Act.eval]using this
 ·rename_i ov _
  obtain⟨T,X,p⟩:=AB.1 p
  obtain⟨l,hl,C⟩:=AB.1 p
  cases C
  have B:V.Y8 (T.ev E) (λg fa ca=>call g (cat fa (cat (nH l E) ca)) H n k):=h
  rw[VG]at B
  obtain⟨g,fa,ca,d9,B⟩:=B
  have hv:=I _ _ X
  rw[d9]at hv
  simp only[Aa]at hv
  obtain⟨J,K,d1,f0,f1⟩:=hv
  refine ALo hc (args:=(J.toList++(args.map a.eval++K.toList)).toArray) (λS=>?_) hh ?_ B hn
  ·have:=qj S (J.toList++(args.map a.eval++K.toList)).toArray w
   have C:J++(args.map a.eval).toArray++K=(J.toList++(args.map a.eval++K.toList)).toArray:=by
    apply Array.toList_inj.1;simp
   simp only[execOp,resolve,d1,Deferred.ofValue,Sem.run_bind,Sem.run_pure,Result.andThen_ok,invoke,List.map_toArray]
   rw[C];exact this
  ·simp only[AOk]
   exact f0.append ((nN I _ _ hl).append f1)
 ·cases p
theorem AV9{call:Au}(M:mV P w0 call)(hh:DZ w0 ρ H n w)(N:Xf w0 G)(q:∀o x,f o=some x->Aa ρ (x.ev E) (a.eval o)){e:AE}(g:trE P f o.op=some e)(h:e.ex G call E H n k)
 (A:Behind w0 ρ H n k λval O=>next (a.put o.dst val) O):o.wp P a w next Q:=by
 cases i:o.op<;>rw[i]at g<;>simp only[trE]at g<;>try (cases g;done)
 case store t x v=>
  obtain⟨m,B,g⟩:=AB.1 g
  obtain⟨K,D,g⟩:=AB.1 g
  obtain⟨L,u,y⟩:=AB.1 g
  cases y
  exact zL (by simp only[execOp,i]) (AWD (P:=P) B hh (q _ _ D) (q _ _ u) (k:=λH=>k .undef H n) h) A
 case mapUpdate t m key v=>
  split at g
  ·rename_i R S F
   obtain⟨c,p,g⟩:=AB.1 g
   obtain⟨U,B,g⟩:=AB.1 g
   obtain⟨W,I,g⟩:=AB.1 g
   obtain⟨L,u,y⟩:=AB.1 g
   cases y
   obtain⟨d,hd⟩:=AA2 p
   exact zL (by simp only[execOp,i]) (ANN (P:=P) F hd p hh (q _ _ B) (q _ _ I) (q _ _ u) (k:=λH=>k .undef H n) h) A
  ·cases g
 case insert t m key v=>
  split at g
  ·rename_i R S F
   obtain⟨c,p,g⟩:=AB.1 g
   obtain⟨U,B,g⟩:=AB.1 g
   obtain⟨W,I,g⟩:=AB.1 g
   obtain⟨L,u,y⟩:=AB.1 g
   cases y
   obtain⟨d,hd⟩:=AA2 p
   exact zL (by simp only[execOp,i]) (ANN (P:=P) F hd p hh (q _ _ B) (q _ _ I) (q _ _ u) (k:=λH=>k .undef H n) h) A
  ·cases g
 case convert src dst x=>
  split at g
  ·rename_i el X hd
   split at g
   ·rename_i Y
    obtain⟨K,D,y⟩:=AB.1 g
    cases y
    have C:Gu ((K.ev E).VK λl c=>some (.ptr l c)) (λv=>V.AJY v λl c=>DT n λn=>k (.F9 n 0 l 1) (T.set H n (.arr 1 l (Et (fE l c) 0 .e))) (Nat.succ n)):=h
    rw[Aci]at C
    obtain⟨l,c,J,C⟩:=C
    rw[BL]at C
    have u:=q _ _ D
    rw[J]at u
    exact AKb (by simp only[execOp,i]) (AVu (P:=P) X hd Y hh u C) A
   ·cases g
  ·cases g
 case call c=>exact AMO M hh N q i g h A
end
variable{P:Program}
structure FX where
 loc:Nat->Bool
 nt:Nat
 df:Bool
inductive EV where
 |slot (k:Nat)|reg (t:Nat)|cst (v:V)
def EV.x(d:Nat):EV->X
 |.slot k=>.s (d-1-k)
 |.reg t=>.r (PK t)
 |.cst v=>.c v
abbrev Env:=List (Nat×EV)
def look(t:Nat):Env->Option EV
 |[]=>none
 |(u,e)::r=>if u=t then some e else look t r
def DL(ρ:Loc):List V->List Deferred->Prop
 |[],ds=>ds=[]
 |v::vs,ds=>∃d ds',ds=d::ds'/\(∃f fa ca,∃fa' ca':Array Value,v=.fn f fa ca/\d={target:=.fn (.func f) ca',args:=fa'}/\Bq ρ fa fa'.toList/\Bq ρ ca ca'.toList)/\DL ρ vs ds'
theorem DL.mono{ρ i:Loc}(g:ρ.le i):∀{vs:List V} {q:List Deferred},DL ρ vs q->DL i vs q
 |[],_,h=>h
 |v::vs,_,⟨d,k,u,⟨f,w,x,m,p,y,A,B,C⟩,D⟩=>⟨d,k,u,⟨f,w,x,m,p,y,A,Bq.mono g _ _ B,Bq.mono g _ _ C⟩,DL.mono g D⟩
structure Rg(C:FX)(ρ:Loc)(R:Ih)(a:Act):Prop where
 size:a.tmps.size=C.nt
 reg:∀t,t<C.nt->C.loc t=false->Aa ρ (Ls (T.Du (PK t) R)) (a.eval (.tmp t))
 dfs:if C.df then DL ρ (AQu (Ls (T.Du (PK C.nt) R))) a.defers else a.defers=[]
structure zH(C:FX)(ρ:Loc)(E:RS)(d:Nat)(env:Env)(a:Act):Prop where
 depth:E.st.length=d
 has:∀t ev,look t env=some ev->C.loc t=true/\t<C.nt/\(∀k,ev=.slot k->k<d)/\(∀u,ev=.reg u->C.loc u=false/\u<C.nt)/\Aa ρ ((ev.x d).ev E) (a.eval (.tmp t))
theorem Rg.mono{C:FX}{ρ d:Loc}(f:ρ.le d){R:Ih}{a:Act}(h:Rg C ρ R a):Rg C d R a:=
 ⟨h.size,λt i k=>Aa.mono f _ _ (h.reg t i k),by
  have:=h.dfs
  split
  ·rename_i g;rw[if_pos g]at this;exact this.mono f
  ·rename_i g;rw[if_neg g]at this;exact this⟩
theorem zH.mono{C:FX}{ρ f:Loc}(i:ρ.le f){E:RS}{d:Nat}{g:Env}{a:Act}(h:zH C ρ E d g a):zH C f E d g a:=
 ⟨h.depth,λt ev k=>let⟨h1,h2,h3,h4,h5⟩:=h.has t ev k;⟨h1,h2,h3,h4,Aa.mono i _ _ h5⟩⟩
def AWI(C:FX)(env:Env)(d:Nat):Operand->Option X
 |.tmp t=>if t<C.nt then if C.loc t then Ap (look t env) λe=>some (e.x d)else some (.r (PK t))else none
 |.const v=>Ap (cvV v) λv=>some (.c v)
 |.global g=>some (.c (.gptr g 0))
 |.func f=>some (.c (.fn f [] []))
theorem X.ARv(p:P2)(E:RS):(X.r p).ev E=Ls (T.Du p E.rg):=rfl
theorem X.Ago(v:V)(E:RS):(X.c v).ev E=v:=rfl
theorem X.AZn(i:Nat)(E:RS):(X.s i).ev E=AWj E.st i:=rfl
theorem AQc{C:FX}{ρ:Loc}{E:RS}{d:Nat}{i:Env}{a:Act}(m:Rg C ρ E.rg a)(p:zH C ρ E d i a):∀o x,AWI C i d o=some x->Aa ρ (x.ev E) (a.eval o):=by
 intro o x h
 cases o with
 |tmp t=>
  simp only[AWI]at h
  split at h
  ·rename_i q
   split at h
   ·obtain⟨ev,k,e⟩:=AB.1 h
    cases e
    exact(p.has t ev k).2.2.2.2
   ·rename_i u
    cases h
    rw[X.ARv]
    exact m.reg t q (by simpa using u)
  ·cases h
 |const v=>
  obtain⟨c,w,e⟩:=AB.1 h
  cases e
  exact AFy w
 |global g=>cases h;exact rfl
 |func f=>cases h;exact⟨#[], #[],rfl,by simp,by simp⟩
inductive Wk where
 |plain|wr
def AI9(P:Program)(C:FX)(f:Operand->Option X)(wk:Wk)(op:Op):Option AO:=
 match wk with
 |.wr=>Ap (trX f op) λe=>some (.e e)
 |.plain=>match trN P f op with
  |some o=>some (.n o)
  |none=>match trA P f op with
   |some o=>some (.a o)
   |none=>match trE P f op with
    |some o=>some (.e o)
    |none=>match op with
     |.defer c=>match c.callee with
      |.value o=>if C.df then Ap (f o) λx=>Ap (c.args.toList.mapM f) λas=>some (.e (.defer (PK C.nt) x as))else none
      |_=>none
     |_=>none
def bG:Op->Bool
 |.defer _=>true
 |_=>false
def AXh(C:FX)(f:Operand->Option X)(ops:Array Oper):Option (Nat×Bool)->Option Gd
 |none=>some .no
 |some (g,b)=>Ap ((ops[g]?).bind (·.dst)) λt=>Ap (f (.tmp t)) λx=>if t<C.nt then some (.on x b)else none
theorem uJ(p:P2)(v:V)(E:RS):(FW (.to p) v E).rg=T.iP v p E.rg/\(FW (.to p) v E).st=E.st:=by cases E;exact⟨rfl,rfl⟩
theorem AN1(v:V)(E:RS):(FW .ps v E).rg=E.rg/\(FW .ps v E).st=v::E.st:=by cases E;exact⟨rfl,rfl⟩
theorem eval_put_ne{a:Act}{t u:Nat}(v:Value)(h:t≠u):(a.put (some t) v).eval (.tmp u)=a.eval (.tmp u):=Act.eval_put (by intro d hd e;cases hd;cases e;exact h rfl)
theorem eval_put_same{a:Act}{t:Nat}(v:Value)(h:t<a.tmps.size):(a.put (some t) v).eval (.tmp t)=v:=by simp[Act.put,Act.eval,h]
theorem AFZ(a:Act)(d:Option Tmp)(v:Value):(a.put d v).tmps.size=a.tmps.size:=by cases d<;>simp[Act.put]
theorem put_defers(a:Act)(d:Option Tmp)(v:Value):(a.put d v).defers=a.defers:=by cases d<;>rfl
theorem Rg.put{C:FX}{ρ:Loc}{R:Ih}{a:Act}(h:Rg C ρ R a){t:Nat}(f:t<C.nt){v:V}{u:Value}(g:Aa ρ v u):Rg C ρ (T.iP v (PK t) R) (a.put (some t) u):=by
 refine⟨by rw[AFZ];exact h.size,λs i k=>?_,?_⟩
 ·by_cases e:t=s
  ·subst e
   rw[T.VY,eval_put_same _ (by rw[h.size];exact f)]
   exact g
  ·rw[T.JV _ _ _ _ (λd=>e (jY d)),eval_put_ne _ e]
   exact h.reg s i k
 ·have:=h.dfs
  rw[T.JV _ _ _ _ (λd=>by have:=jY d;omega),put_defers]
  exact this
theorem Rg.AJZ{C:FX}{ρ:Loc}{R:Ih}{a:Act}(h:Rg C ρ R a){t:Nat}(f:C.loc t=true)(u:Value):Rg C ρ R (a.put (some t) u):=by
 refine⟨by rw[AFZ];exact h.size,λs g d=>?_,?_⟩
 ·by_cases e:t=s
  ·subst e;rw[f]at d;cases d
  ·rw[eval_put_ne _ e];exact h.reg s g d
 ·rw[put_defers];exact h.dfs
def YT(t:Nat):Env->Env
 |[]=>[]
 |(u,e)::r=>match e with
  |.reg s=>if s=t then(u,.cst .undef)::YT t r else(u,e)::YT t r
  |e=>(u,e)::YT t r
theorem AFh(t s:Nat):∀(f:Env) (ev:EV),look s (YT t f)=some ev->ev=.cst .undef/\look s f=some (.reg t)∨(look s f=some ev/\ev≠.reg t)
 |[],ev,h=>by simp[YT,look]at h
 |(u,e)::r,ev,h=>by
  have g:=AFh t s r ev
  cases e with
  |slot k=>
   simp only[YT,look]at h⊢
   split at h
   ·rename_i d;rw[if_pos d];cases h;exact .inr ⟨rfl,by simp⟩
   ·rename_i d;rw[if_neg d];exact g h
  |cst v=>
   simp only[YT,look]at h⊢
   split at h
   ·rename_i d;rw[if_pos d];cases h;exact .inr ⟨rfl,by simp⟩
   ·rename_i d;rw[if_neg d];exact g h
  |reg q=>
   simp only[YT]at h
   split at h
   ·rename_i i
    subst i
    simp only[look]at h⊢
    split at h
    ·rename_i d;rw[if_pos d];cases h;exact .inl ⟨rfl,rfl⟩
    ·rename_i d;rw[if_neg d];exact g h
   ·rename_i i
    simp only[look]at h⊢
    split at h
    ·rename_i d;rw[if_pos d];cases h;exact .inr ⟨rfl,by simpa using i⟩
    ·rename_i d;rw[if_neg d];exact g h
theorem zH.AaP{C:FX}{ρ:Loc}{E:RS}{d:Nat}{f:Env}{a:Act}(h:zH C ρ E d f a){t:Nat}(H:C.loc t=false)(v:V)(u:Value):zH C ρ (FW (.to (PK t)) v E) d (YT t f) (a.put (some t) u):=by
 obtain⟨p,i⟩:=uJ (PK t) v E
 refine⟨by rw[i];exact h.depth,λs ev I=>?_⟩
 rcases AFh t s f ev I with⟨rfl,g⟩|⟨g,w⟩
 ·obtain⟨m,y,D,F,G⟩:=h.has s _ g
  exact⟨m,y,λk J=>(by cases J),λu K=>(by cases K),by simp[EV.x,X.Ago,Aa]⟩
 ·obtain⟨m,y,D,F,G⟩:=h.has s ev g
  refine⟨m,y,D,F,?_⟩
  have A:t≠s:=λe=>by subst e;rw[H]at m;cases m
  rw[eval_put_ne _ A]
  have B:(ev.x d).ev (FW (.to (PK t)) v E)=(ev.x d).ev E:=by
   cases ev with
   |slot k=>simp only[EV.x,X.AZn,i]
   |cst c=>rfl
   |reg q=>
    simp only[EV.x,X.ARv,p]
    rw[T.JV _ _ _ _ (λL=>w (by rw[jY L]))]
  rw[B];exact G
theorem zH.AJZ{C:FX}{ρ:Loc}{E:RS}{d:Nat}{g:Env}{a:Act}(h:zH C ρ E d g a){t:Nat}(D:C.loc t=true)(A:t<C.nt)(p:a.tmps.size=C.nt){v:V}{u:Value}(F:Aa ρ v u):
 zH C ρ (FW .ps v E) (d+1) ((t,.slot d)::g) (a.put (some t) u):=by
 obtain⟨w,f⟩:=AN1 v E
 refine⟨by rw[f,List.length_cons,h.depth],λs ev i=>?_⟩
 simp only[look]at i
 split at i
 ·rename_i e
  subst e
  cases i
  refine⟨D,A,λk m=>(by cases m;omega),λu G=>(by cases G),?_⟩
  rw[eval_put_same _ (by rw[p];exact A)]
  simp only[EV.x,X.AZn,f,Nat.add_sub_cancel,Nat.sub_self,AOq]
  simpa using F
 ·rename_i e
  obtain⟨H,I,B,J,K⟩:=h.has s ev i
  refine⟨H,I,λk m=>Nat.lt_succ_of_lt (B k m),J,?_⟩
  rw[eval_put_ne _ e]
  have y:(ev.x (d+1)).ev (FW .ps v E)=(ev.x d).ev E:=by
   cases ev with
   |slot k=>
    have m:=B k rfl
    simp only[EV.x,X.AZn,f,AOq]
    rw[show d+1-1-k=(d-1-k)+1 by omega]
    simp
   |cst c=>rfl
   |reg q=>simp only[EV.x,X.ARv,w]
  rw[y];exact K
theorem zH.AVM{C:FX}{ρ:Loc}{E:RS}{d:Nat}{f:Env}{a:Act}(h:zH C ρ E d f a){t:Nat}(q:C.loc t=true)(p:t<C.nt)(i:a.tmps.size=C.nt){ev:EV}(v:∀k,ev=.slot k->k<d)(w:∀u,ev=.reg u->C.loc u=false/\u<C.nt)
 {u:Value} (y:Aa ρ ((ev.x d).ev E) u):zH C ρ E d ((t,ev)::f) (a.put (some t) u):=by
 refine⟨h.depth,λs m g=>?_⟩
 simp only[look]at g
 split at g
 ·rename_i e
  subst e
  cases g
  refine⟨q,p,v,w,?_⟩
  rw[eval_put_same _ (by rw[i];exact p)]
  exact y
 ·rename_i e
  obtain⟨A,B,D,F,G⟩:=h.has s m g
  refine⟨A,B,D,F,?_⟩
  rw[eval_put_ne _ e]
  exact G
variable{P:Program}
section
variable{w0:World}{ρ:Loc}{H:Heap}{n:Nat}{w:World}{G:AY}{E:RS}{a:Act}{f:Operand->Option X}{o:Oper}{Q:Exit->Act->World->Prop}{C:FX}{call:Au}
theorem AP1(U:mV P w0 call)(hh:DZ w0 ρ H n w)(M:Xf w0 G)(p:∀o x,f o=some x->Aa ρ (x.ev E) (a.eval o)){N:Wk}{O:AO}(m:bG o.op=false)(g:AI9 P C f N o.op=some O){d:Dst}{K:KE}
 (h:O.ex G call d E H n K) {next:Act->World->Prop} (q:Behind w0 ρ H n (λv H n=>K (FW d v E) H n) λval V=>next (a.put o.dst val) V):o.wp P a w next Q:=by
 cases N with
 |wr=>
  obtain⟨e,W,X⟩:=AB.1 g
  cases X
  have k:e.ex G call E H n (λv H n=>K (FW d v E) H n):=h
  exact AVY (call:=call) hh p W k q
 |plain=>
  simp only[AI9]at g
  split at g
  ·rename_i Y y
   cases g
   have k:AL (Y.ev G E H) (λv=>K (FW d v E) H n):=h
   rw[AJd]at k
   obtain⟨v,A,u⟩:=k
   obtain⟨val,i,B⟩:=AMt (P:=P) hh M (λ_=>rfl) p y A
   unfold Oper.wp
   rw[i]
   exact q v H n val w ρ u B hh (IE.refl _ _ _)
  ·split at g
   ·rename_i Z D
    cases g
    have k:Z.al E (λb R=>DT n λn=>K (FW d (R n) E) (T.set H n b) (Nat.succ n)):=h
    obtain⟨b,R,F,u⟩:=AQ2 k
    rw[BL]at u
    obtain⟨val,obj,S,i,I,A⟩:=AMr (P:=P) (w:=w) (ρ:=ρ) p D F
    unfold Oper.wp
    rw[i]
    exact q _ _ _ val _ _ u (A _ n (Loc.add_same _ _ _)) (hh.new I) (IE.place _ hh.AEa)
   ·split at g
    ·rename_i ae J
     cases g
     have k:ae.ex G call E H n (λv H n=>K (FW d v E) H n):=h
     exact AV9 U hh M p J k q
    ·cases L:o.op<;>rw[L]at g m<;>simp only[bG]at m<;>first|(cases g;done)|(cases m;done)
theorem ARD(hh:DZ w0 ρ H n w)(U:∀o x,f o=some x->Aa ρ (x.ev E) (a.eval o))(A:Rg C ρ E.rg a){W:AO}(hd:bG o.op=true)(d:AI9 P C f .plain o.op=some W){K:KE}
 (h:W.ex G call (.to (PK C.nt)) E H n K) (k:o.dst=none) {next:Act->World->Prop}
 (Y:∀v B,K (FW (.to (PK C.nt)) v E) H n->B.tmps=a.tmps->Rg C ρ (FW (.to (PK C.nt)) v E).rg B->next B w):o.wp P a w next Q:=by
 cases i:o.op<;>rw[i]at hd<;>simp only[bG]at hd<;>try (cases hd;done)
 rename_i c
 rw[i]at d
 simp only[AI9,trN,trA,trE]at d
 split at d
 ·rename_i ov m
  split at d
  ·rename_i p
   obtain⟨x,Z,d⟩:=AB.1 d
   obtain⟨l,hl,e1⟩:=AB.1 d
   cases e1
   have X:V.Y8 (x.ev E) (λg D F=>K (FW (.to (PK C.nt)) (.Dl (.fn g (cat D (nH l E)) F::AQu (Ls (T.Du (PK C.nt) E.rg)))) E) H n):=h
   rw[VG]at X
   obtain⟨g,D,F,I,hk⟩:=X
   have J:=U _ _ Z
   rw[I]at J
   simp only[Aa]at J
   obtain⟨L,M,q,N,O⟩:=J
   have u:(execOp a.eval o).run P w=.ok (.defer {target:=.fn (.func g) M,args:=L++c.args.map a.eval}) w:=by
    simp only[execOp,i,resolve,m,q,Deferred.ofValue,Sem.run_bind,Sem.run_pure,Result.andThen_ok]
   unfold Oper.wp
   rw[u]
   simp only[Oper.upon,k,Act.put]
   refine Y _ _ hk rfl ?_
   obtain⟨R,_⟩:=uJ (PK C.nt) (.Dl (.fn g (cat D (nH l E)) F::AQu (Ls (T.Du (PK C.nt) E.rg)))) E
   rw[R]
   refine⟨A.size,λt ht S=>?_,?_⟩
   ·rw[T.JV _ _ _ _ (λhp=>by have:=jY hp;omega)]
    exact A.reg t ht S
   ·rw[if_pos p,T.VY]
    have y:=A.dfs
    rw[if_pos p]at y
    refine⟨_,_,rfl,⟨g,_,_,_,_,rfl,rfl,?_,O⟩,y⟩
    rw[AOk,Array.toList_append,Array.toList_map]
    exact N.append (nN U _ _ hl)
  ·cases d
 ·cases d
def ZP(C:FX)(env:Env):Operand->Option EV
 |.tmp t=>if t<C.nt then if C.loc t then look t env else some (.reg t)else none
 |.const v=>Ap (cvV v) λv=>some (.cst v)
 |.global g=>some (.cst (.gptr g 0))
 |.func f=>some (.cst (.fn f [] []))
theorem AU3{p:Env}{d:Nat}(y:Rg C ρ E.rg a)(A:zH C ρ E d p a){o:Operand}{ev:EV}(h:ZP C p o=some ev):
 (∀k,ev=.slot k->k<d)/\(∀u,ev=.reg u->C.loc u=false/\u<C.nt)/\Aa ρ ((ev.x d).ev E) (a.eval o):=by
 cases o with
 |tmp t=>
  simp only[ZP]at h
  split at h
  ·rename_i q
   split at h
   ·obtain⟨_,_,B,D,F⟩:=A.has t ev h
    exact⟨B,D,F⟩
   ·rename_i w
    cases h
    exact⟨λk i=>(by cases i),λu m=>by cases m;exact⟨by simpa using w,q⟩,y.reg t q (by simpa using w)⟩
  ·cases h
 |const v=>
  obtain⟨c,G,e⟩:=AB.1 h
  cases e
  exact⟨λk i=>(by cases i),λu m=>(by cases m),AFy G⟩
 |global g=>cases h;exact⟨λk i=>(by cases i),λu m=>(by cases m),rfl⟩
 |func f=>cases h;exact⟨λk i=>(by cases i),λu m=>(by cases m),⟨#[], #[],rfl,by simp,by simp⟩⟩
def aliasOf(C:FX)(o:Oper):Option (Nat×Operand):=
 match o.guard,o.dst,o.op with
 |none,some t,.move x=>if C.loc t then if t<C.nt then some (t,x)else none else none
 |none,some t,.assign x=>if C.loc t then if t<C.nt then some (t,x)else none else none
 |_,_,_=>none
def AWQ(P:Program)(C:FX)(ops:Array Oper)(env:Env)(d:Nat)(o:Oper):Option (Option AOp×Env×Nat):=
 match aliasOf C o with
 |some (t,x)=>Ap (ZP C env x) λev=>some (none,(t,ev)::env,d)
 |none=>Ap (AI9 P C (AWI C env d) .plain o.op) λao=>Ap (AXh C (AWI C env d) ops o.guard) λg=>
  if bG o.op then match o.dst,o.guard with
   |none,none=>some (some (.mk (.to (PK C.nt)) .no ao),env,d)
   |_,_=>none
  else match o.dst with
   |none=>some (some (.mk .no g ao),env,d)
   |some t=>if t<C.nt then if C.loc t then some (some (.mk .ps g ao),(t,.slot d)::env,d+1)else some (some (.mk (.to (PK t)) g ao),YT t env,d)else none
def Aba{α:Type}:Option α->List α->List α
 |some x,l=>x::l
 |none,l=>l
def AJF(P:Program)(C:FX)(ops:Array Oper):Env->Nat->List Oper->Option (List AOp)
 |_,_,[]=>some []
 |env,d,o::r=>Ap (AWQ P C ops env d o) λp=>Ap (AJF P C ops p.2.1 p.2.2 r) λl=>some (Aba p.1 l)
theorem bV{v:V}{b:Bool}{y m:Prop}:AZ v b y m↔∃t,v=.bool t/\if t=b then y else m:=by
 unfold AZ
 cases v<;>simp[V.ATt]
 rename_i t
 cases t<;>cases b<;>simp
def gv:V->Option (Option Bool)
 |.bool t=>some (some t)
 |.Dl []=>some none
 |_=>none
theorem YZ{v:V}{b:Bool}{y m:Prop}:wP v b y m↔∃t,gv v=some t/\if t=some b then y else m:=by
 cases v<;>try simp[wP,gv]
 ·rename_i t
  cases t<;>cases b<;>simp
 ·rename_i l
  cases l<;>simp[wP,gv]
theorem AJu{ρ:Loc}:Aa ρ (.Dl []) undef:=⟨#[],rfl,by simp⟩
theorem Zi{ops:Array Oper}{g:Nat}{b:Bool}{t:Nat}(k:(ops[g]?).bind (·.dst)=some t)(d:t<a.tmps.size){v:V}{q:Option Bool}(i:Aa ρ v (a.eval (.tmp t)))(f:gv v=some q){o:Oper}(m:o.guard=some (g,b)):
 Region.wanted o (yielded ops a.tmps)=(q==some b):=by
 simp only[Region.wanted,m,yielded,k,Option.bind_some]
 have p:a.tmps[t]? =some (a.eval (.tmp t)):=by
  rw[Array.getElem?_eq_getElem d]
  simp only[Act.eval,Array.getD,d,dite_true]
  rfl
 rw[p]
 cases v<;>simp only[gv]at f<;>try (cases f;done)
 ·rename_i c
  simp only[Aa]at i
  rw[i]
  cases f
  cases c<;>cases b<;>rfl
 ·rename_i l
  cases l with
  |cons=>cases f
  |nil=>
   simp only[Aa]at i
   obtain⟨l,u,w⟩:=i
   rw[u]
   cases f
   rfl
theorem AIa{ops:Array Oper}{ρ0:Loc}{H0:Heap}{n0:Nat}(hc:mV P w0 call)(hg:Xf w0 G){K:KE}
 (hK:∀E H n a w ρ,K E H n->DZ w0 ρ H n w->Rg C ρ E.rg a->IE ρ0 H0 n0 ρ H n->Q .normal a w):
 ∀(l:List Oper) (Y:Env) (d:Nat) (L:List AOp),AJF P C ops Y d l=some L->∀(E:RS) (H:Heap) (n:Nat) (a:Act) (w:World) (ρ:Loc),Qa L G call E H n K->DZ w0 ρ H n w->Rg C ρ E.rg a->zH C ρ E d Y a->IE ρ0 H0 n0 ρ H n->
  wpList P ops Q l a w
 |[],Y,d,L,u,E,H,n,a,w,ρ,h,hh,J,Z,F=>by
  cases u
  exact hK E H n a w ρ h hh J F
 |o::M,Y,d,L,u,E,H,n,a,w,ρ,h,hh,J,Z,F=>by
  simp only[AJF]at u
  obtain⟨⟨op,d1,d'⟩,f,d2⟩:=AB.1 u
  obtain⟨U,f4,d3⟩:=AB.1 d2
  have ih:=AIa hc hg hK M d1 d' U f4
  have d6:Aba op U=L:=Option.some.inj d3
  clear u d2 d3
  unfold AWQ at f
  split at f
  ·
    rename_i t x i
    obtain⟨ev,d7,e⟩:=AB.1 f
    cases e
    have u:U=L:=d6
    subst u
    obtain⟨h1,N,h3⟩:=AU3 J Z d7
    have d8:o.guard=none/\o.dst=some t/\(o.op=.move x∨o.op=.assign x)/\C.loc t=true/\t<C.nt:=by
     unfold aliasOf at i
     split at i
     ·rename_i q1 q2 q3
      split at i
      ·rename_i O
       split at i
       ·rename_i W
        cases i
        exact⟨q1,q2,.inl q3,O,W⟩
       ·cases i
      ·cases i
     ·rename_i q1 q2 q3
      split at i
      ·rename_i O
       split at i
       ·rename_i W
        cases i
        exact⟨q1,q2,.inr q3,O,W⟩
       ·cases i
      ·cases i
     ·cases i
    obtain⟨m,p,f5,O,W⟩:=d8
    refine wpList_plain m λK' y=>?_
    have d9:(execOp a.eval o).run P w=.ok (.value (a.eval x)) w:=by rcases f5 with e|e<;>simp[execOp,e]
    unfold Oper.wp
    rw[d9]
    simp only[Oper.upon,p]
    exact y _ _ (ih E H n _ w ρ h hh (J.AJZ O _) (Z.AVM O W J.size h1 N h3) F)
  ·obtain⟨ao,f0,f⟩:=AB.1 f
   obtain⟨g,m,f⟩:=AB.1 f
   have hO:=AQc J Z
   have R:∀(A:Dst),op=some (.mk A g ao)->bG o.op=false->
    (∀(B:Loc) (v:V) (val:Value),ρ.le B->Aa B v val->Rg C B (FW A v E).rg (a.put o.dst val)/\zH C B (FW A v E) d' d1 (a.put o.dst val))->
    wpList P ops Q (o::M) a w:=by
    intro A f1 S d4
    subst f1
    have u:AOp.mk A g ao::U=L:=d6
    subst u
    have d5:∀K':Act->World->Prop,(∀a w,wpList P ops Q M a w->K' a w)->ao.ex G call A E H n (λE H n=>Qa U G call E H n K)->o.wp P a w K' Q:=by
     intro K' y f6
     refine AP1 hc hh hg hO S f0 f6 ?_
     intro v H' n' val w' B hk hv f7 f2
     obtain⟨h1,N⟩:=d4 B v val f2.le hv
     exact y _ _ (ih _ _ _ _ _ _ hk f7 h1 N (F.trans f2))
    have h':AOp.ex (.mk A g ao) G call E H n (λE H n=>Qa U G call E H n K):=h
    cases I:o.guard with
    |none=>
     rw[I]at m
     cases m
     exact wpList_plain I λK' y=>d5 K' y h'
    |some gb=>
     obtain⟨gi,b⟩:=gb
     rw[I]at m
     simp only[AXh]at m
     obtain⟨t,W,m⟩:=AB.1 m
     obtain⟨x,hx,m⟩:=AB.1 m
     split at m
     ·rename_i f8
      cases m
      have N:wP (x.ev E) b (ao.ex G call A E H n λE H n=>Qa U G call E H n K) (Qa U G call (FW A (.Dl []) E) H n K):=h'
      rw[YZ]at N
      obtain⟨q,hq,N⟩:=N
      have hv:=hO _ _ hx
      have hw:=Zi (o:=o) W (by rw[J.size];exact f8) hv hq I
      refine wpList_step λK' y=>?_
      rw[hw]
      by_cases d0:q=some b
      ·rw[if_pos d0]at N
       rw[if_pos (by simpa using d0)]
       exact d5 K' y N
      ·rw[if_neg d0]at N
       rw[if_neg (by simpa using d0)]
       obtain⟨h1,h3⟩:=d4 ρ (.Dl []) undef (Loc.le.refl _) AJu
       exact y _ _ (ih _ _ _ _ _ _ N hh h1 h3 F)
     ·cases m
   split at f
   ·
     rename_i hd
     split at f
     ·rename_i p I
      cases f
      have u:AOp.mk (.to (PK C.nt)) .no ao::U=L:=d6
      subst u
      refine wpList_plain I λK' y=>?_
      have h':ao.ex G call (.to (PK C.nt)) E H n (λE H n=>Qa U G call E H n K):=h
      refine ARD hh hO J hd f0 h' p ?_
      intro v a' hk f9 g0
      refine y _ _ (ih _ _ _ _ _ _ hk hh g0 ?_ F)
      obtain⟨g6,f3⟩:=uJ (PK C.nt) v E
      refine⟨by rw[f3];exact Z.depth,λt ev g7=>?_⟩
      obtain⟨g1,g2,g3,g4,g5⟩:=Z.has t ev g7
      refine⟨g1,g2,g3,g4,?_⟩
      have d7:(ev.x d).ev (FW (.to (PK C.nt)) v E)=(ev.x d).ev E:=by
       cases ev with
       |slot k=>simp only[EV.x,X.AZn,f3]
       |cst c=>rfl
       |reg q=>
        have hq:=(g4 q rfl).2
        simp only[EV.x,X.ARv,g6]
        rw[T.JV _ _ _ _ (λhp=>by have:=jY hp;omega)]
      rw[d7]
      have:a'.eval (.tmp t)=a.eval (.tmp t):=by simp only[Act.eval,f9]
      rw[this];exact g5
     ·cases f
   ·rename_i hd
    have S:bG o.op=false:=by simpa using hd
    split at f
    ·rename_i p
     cases f
     refine R .no rfl S ?_
     intro B v val D hv
     rw[p]
     exact⟨J.mono D,Z.mono D⟩
    ·rename_i t p
     split at f
     ·rename_i W
      split at f
      ·rename_i O
       cases f
       refine R .ps rfl S ?_
       intro B v val D hv
       rw[p,(AN1 v E).1]
       exact⟨(J.mono D).AJZ O _,(Z.mono D).AJZ O W J.size hv⟩
      ·rename_i O
       have g8:C.loc t=false:=by simpa using O
       cases f
       refine R (.to (PK t)) rfl S ?_
       intro B v val D hv
       rw[p,(uJ (PK t) v E).1]
       exact⟨(J.mono D).put W hv,(Z.mono D).AaP g8 v val⟩
     ·cases f
end
variable{P:Program}
def Hle(H H':Heap):Prop:=∀id b,T.get H id=some b->T.get H' id=some b
theorem Hle.refl(H:Heap):Hle H H:=λ_ _ h=>h
theorem Hle.fresh{H:Heap}{n:Nat}(h:T.get H n=none)(b:Nu):Hle H (T.set H n b):=λf g d=>by
 rw[T.Ac H b (λe=>by subst e;rw[h]at d;cases d)];exact d
theorem AQk{H H':Heap}(h:Hle H H'){id off n:Nat}{L:LV}(d:mY H id off n=some L):mY H' id off n=some L:=by
 unfold mY at*
 cases f:T.get H id with
 |none=>rw[f]at d;cases d
 |some b=>rw[f]at d;rw[h id b f];exact d
theorem AQi{H H':Heap}(h:Hle H H'){v:V}{G:AY}{n:Nat}{L:LV}(d:ldP v G H n=some L):ldP v G H' n=some L:=by
 cases v<;>simp only[ldP]at* <;>first|(cases d;done)|exact AQk h d|exact d
theorem AGQ{H H':Heap}(h:Hle H H'){m:V}{f:ME->Nat->Option V}{r:V}(d:Qc H m f=some r):Qc H' m f=some r:=by
 unfold Qc at*
 cases m<;>simp only[V.ATT]at* <;>try (cases d;done)
 ·exact d
 ·rename_i i
  cases g:T.get H i with
  |none=>rw[g]at d;cases d
  |some b=>rw[g]at d;rw[h i b g];exact d
theorem yM{H H':Heap}(h:Hle H H'){id esz:Nat}:∀(n o:Nat) {LS:EL},CQ H id esz n o=some LS->CQ H' id esz n o=some LS
 |0,o,LS,f=>f
 |n+1,o,LS,f=>by
  have d:BO (mY H id (Nat.mul o esz) esz) (λL=>BO (CQ H id esz n (Nat.succ o)) λLS=>some (L::LS))=some LS:=f
  show BO (mY H' id (Nat.mul o esz) esz) (λL=>BO (CQ H' id esz n (Nat.succ o)) λLS=>some (L::LS))=some LS
  rw[BX]at*
  obtain⟨L,k,d⟩:=d
  rw[BX]at d
  obtain⟨g,i,d⟩:=d
  exact⟨L,AQk h k,by rw[BX];exact⟨g,yM h n _ i,d⟩⟩
theorem ARz{H H':Heap}(h:Hle H H'){v:V}{G:AY}{z:Nat}{LS:EL}(d:elems v G H z=some LS):elems v G H' z=some LS:=by
 cases v<;>simp only[elems]at* <;>try (first|(cases d;done)|exact d)
 ·rename_i i g n c e
  cases f:Nat.beq e z with
  |false=>rw[f]at d;cases d
  |true=>rw[f]at d;exact yM h _ _ d
 ·rename_i i g n e
  cases f:Nat.beq e z with
  |false=>rw[f]at d;cases d
  |true=>rw[f]at d;exact yM h _ _ d
theorem ASA{H H':Heap}(h:Hle H H'){i:Nat}(hi:TD H i=true):TD H' i=true:=by
 unfold TD at*
 cases d:T.get H i with
 |none=>rw[d]at hi;cases hi
 |some b=>rw[d]at hi;rw[h i b d];exact hi
theorem AVA{ok d:Nat->Bool}(h:∀i,ok i=true->d i=true){x y:V}{b:Bool}(f:ARx ok x y=some b):ARx d x y=some b:=by
 unfold ARx at*
 cases k:x.AUK with
 |none=>rw[k]at f;cases f
 |some i=>
  cases m:y.AUK with
  |none=>rw[k,m]at f;cases f
  |some j=>
   rw[k,m]at f
   have f:Bool.rec (motive:=λ_=>Option Bool) none (some false) (band (Qq (Nat.beq i j)) (band (ok i) (ok j)))=some b:=f
   show Bool.rec (motive:=λ_=>Option Bool) none (some false) (band (Qq (Nat.beq i j)) (band (d i) (d j)))=some b
   cases g:band (Qq (Nat.beq i j)) (band (ok i) (ok j))with
   |false=>rw[g]at f;cases f
   |true=>
    rw[g]at f
    simp only[BK,Bool.and_eq_true]at g
    rw[show band (Qq (Nat.beq i j)) (band (d i) (d j))=true by simp only[BK,Bool.and_eq_true];exact⟨g.1,h _ g.2.1,h _ g.2.2⟩]
    exact f
theorem AYM{ok d:Nat->Bool}(h:∀i,ok i=true->d i=true){k:CK}{x y:V}{b:Bool}(f:CK.eqH ok k x y=some b):CK.eqH d k x y=some b:=by
 cases k with
 |ptr=>
  have f:AFl ok x y=some b:=f
  show AFl d x y=some b
  unfold AFl at*
  cases g:ANu x y with
  |some c=>rw[g]at f;exact f
  |none=>rw[g]at f;exact AVA h f
 |_=>exact f
theorem ANA{q g:CK->V->V->Option Bool}(h:∀k x y b,q k x y=some b->g k x y=some b):∀{f:List CK} {xs ys:LV} {b:Bool},AC8 q f xs ys=some b->AC8 g f xs ys=some b
 |[],[],[],_,d=>d
 |[],[],_::_,_,d=>by cases d
 |[],_::_,_,_,d=>by cases d
 |_::_,[],_,_,d=>by cases d
 |_::_,_::_,[],_,d=>by cases d
 |k::f,x::xs,y::ys,b,d=>by
  obtain⟨r,i,m,p,e⟩:=VL.1 d
  exact VL.2 ⟨r,i,h _ _ _ _ m,ANA h p,e⟩
theorem AUx{ok f:Nat->Bool}(h:∀i,ok i=true->f i=true){k:List CK}{x y:V}{b:Bool}(d:AFi ok k x y=some b):AFi f k x y=some b:=by
 unfold AFi at*
 cases g:x.AaK with
 |none=>rw[g]at d;cases d
 |some l=>
  cases p:y.AaK with
  |none=>rw[g,p]at d;cases d
  |some m=>rw[g,p]at d;exact ANA (λ_ _ _ _=>AYM h) d
theorem AaL{H H':Heap}(h:Hle H H'){G:AY}{E:RS}(an:AN){v:V}(f:an.ev G E H=some v):an.ev G E H'=some v:=by
 cases an<;>try exact f
 ·rename_i x
  have d:Va (ldP (x.ev E) G H 1) (λL=>nth L 0)=some v:=f
  show Va (ldP (x.ev E) G H' 1) (λL=>nth L 0)=some v
  rw[YJ]at*
  obtain⟨L,p,g⟩:=d
  exact⟨L,AQi h p,g⟩
 ·rename_i m x
  have d:Va (ldP (x.ev E) G H m) (λL=>some (.agg L))=some v:=f
  show Va (ldP (x.ev E) G H' m) (λL=>some (.agg L))=some v
  rw[YJ]at*
  obtain⟨L,p,g⟩:=d
  exact⟨L,AQi h p,g⟩
 ·rename_i x
  have d:Qc H (x.ev E) (λq _=>Dx (len q) λn=>some (.int .i64 (.ofNat n) 0))=some v:=f
  exact AGQ h d
 ·rename_i c ok z m k
  have d:Qc H (m.ev E) (λq _=>BO (vJ c (k.ev E) q 0) (ARJ ok z))=some v:=f
  exact AGQ h d
 ·rename_i x
  have d:BI (Qq (isStr (x.ev E))) (BO (elems (x.ev E) G H 1) λl=>BO (ANB l) λc=>f3 (len l) c 0 λn c _=>.str n c)=some v:=f
  show BI (Qq (isStr (x.ev E))) (BO (elems (x.ev E) G H' 1) λl=>BO (ANB l) λc=>f3 (len l) c 0 λn c _=>.str n c)=some v
  rw[BJ,BX]at*
  obtain⟨B,C,u,g⟩:=d
  exact⟨B,C,ARz h u,g⟩
 ·rename_i w i x y
  have d:ofB (Ld (AFi (TD H) w (x.ev E) (y.ev E)) λb=>some (Bool.rec (motive:=λ_=>Bool->Bool) (λb=>b) Qq i b))=some v:=f
  show ofB (Ld (AFi (TD H') w (x.ev E) (y.ev E)) λb=>some (Bool.rec (motive:=λ_=>Bool->Bool) (λb=>b) Qq i b))=some v
  cases A:AFi (TD H) w (x.ev E) (y.ev E)with
  |none=>rw[A]at d;cases d
  |some b=>rw[AUx (λ_=>ASA h) A];rw[A]at d;exact d
def AN.looks:AN->Bool
 |.ld1 _=>true
 |.ldn _ _=>true
 |.Af6 _=>true
 |.look _ _ _ _ _=>true
 |.cvS _=>true
 |.eqp _ _ _ _=>true
 |_=>false
theorem Ab7{an:AN}(h:an.looks=false)(G:AY)(E:RS)(H H':Heap):an.ev G E H=an.ev G E H':=by
 cases an<;>first|rfl|(simp[AN.looks]at h)
theorem AJ0{G:AY}{E f:RS}{H:Heap}(k:EK)(d:Bool){x y:X}(g:x.ev E=x.ev f)(i:y.ev E=y.ev f):(AOZ k d x y).ev G E H=(AOZ k d x y).ev G f H:=by
 rcases ATi k d x y with e|⟨m,rfl,e⟩
 ·rw[e];show eEq k d x y G E H=eEq k d x y G f H;simp only[eEq,g,i]
 ·rw[e];show AZh m d x y G E H=AZh m d x y G f H;simp only[AZh,g,i]
theorem AEl{E d:RS}{f:Operand->Option X}(i:∀o x,f o=some x->x.ev E=x.ev d):∀(l:List Operand) (l':List X),l.mapM f=some l'->nH l' E=nH l' d
 |[],l',h=>by simp at h;subst h;rfl
 |o::l,l',h=>by
  rw[List.mapM_cons]at h
  simp only[Option.bind_eq_bind,Option.bind_eq_some_iff]at h
  obtain⟨x,k,g,m,e⟩:=h
  cases e
  show x.ev E::nH g E=x.ev d::nH g d
  rw[i _ _ k,AEl i l g m]
theorem AIj{E k:RS}{f:Operand->Option X}(q:∀o x,f o=some x->x.ev E=x.ev k){g:Nat->Option (Nat×Nat)}{v:Nat}:
 ∀(ps:List (Nat×Operand)) (d:List (Nat×Nat×X)),dR f g v ps=some d->qW d E=qW d k/\∀z,AH1 d E z=AH1 d k z
 |[],d,h=>by simp only[dR]at h;cases h;exact⟨rfl,λ_=>rfl⟩
 |(i,o)::r,d,h=>by
  simp only[dR,Option.bind_eq_some_iff]at h
  obtain⟨p,hp,h⟩:=h
  split at h
  ·simp only[Option.bind_eq_some_iff]at h
   obtain⟨x,w,h⟩:=h
   cases u:dR f g v r with
   |none=>rw[u]at h;cases h
   |some m=>
    rw[u]at h
    cases h
    obtain⟨y,A⟩:=AIj q r m u
    refine⟨?_,λz=>?_⟩
    ·show band (band (Zp (x.ev E)) (Nat.beq (len (A8 (x.ev E))) p.2)) (qW m E)=band (band (Zp (x.ev k)) (Nat.beq (len (A8 (x.ev k))) p.2)) (qW m k)
     rw[q _ _ w,y]
    ·show AH1 m E (AP4 (A8 (x.ev E)) p.1 z)=AH1 m k (AP4 (A8 (x.ev k)) p.1 z)
     rw[q _ _ w,A]
  ·cases h
theorem E5{E d:RS}{f:Operand->Option X}(i:∀o x,f o=some x->x.ev E=x.ev d){o:Option Operand}{x:Option X}(h:trO f o=some x):lu x E=lu x d:=by
 cases o with
 |none=>cases h;rfl
 |some o=>
  simp only[trO,Option.map_eq_some_iff]at h
  obtain⟨y,k,rfl⟩:=h
  show(λ_ g=>Ym (y.ev E) g)=λ_ g=>Ym (y.ev d) g
  rw[i _ _ k]
theorem ARr{E d:RS}{f:Operand->Option X}(g:∀o x,f o=some x->x.ev E=x.ev d){o:Option Operand}{x:X}(h:trO f o=some (some x)):x.ev E=x.ev d:=by
 cases o with
 |none=>cases h
 |some o=>
  simp only[trO,Option.map_eq_some_iff]at h
  obtain⟨y,i,e⟩:=h
  cases e
  exact g _ _ i
theorem AMH{E p:RS}{f:Operand->Option X}(k:∀o x,f o=some x->x.ev E=x.ev p){c:Call}{an:AN}(d:AFW P f c=some an)(G:AY)(H:Heap):an.ev G E H=an.ev G p H:=by
 unfold AFW at d
 split at d
 ·split at d
  ·obtain⟨g,i,e⟩:=AB.1 d;cases e
   show AUL g G E H=AUL g G p H
   simp only[AUL,k _ _ i]
  ·obtain⟨g,i,e⟩:=AB.1 d;cases e
   show AUA g G E H=AUA g G p H
   simp only[AUA,k _ _ i]
  ·obtain⟨g,i,e⟩:=AB.1 d;cases e
   show AUU g G E H=AUU g G p H
   simp only[AUU,k _ _ i]
  ·cases d;rfl
  ·cases d
 ·obtain⟨g,i,d⟩:=AB.1 d
  obtain⟨m,q,e⟩:=AB.1 d;cases e
  show Aam g m G E H=Aam g m G p H
  simp only[Aam,k _ _ i,k _ _ q]
 ·obtain⟨g,i,d⟩:=AB.1 d
  obtain⟨m,q,e⟩:=AB.1 d;cases e
  show Aa9 g m G E H=Aa9 g m G p H
  simp only[Aa9,k _ _ i,k _ _ q]
 ·split at d
  ·obtain⟨g,i,d⟩:=AB.1 d
   obtain⟨m,q,e⟩:=AB.1 d;cases e
   show AOW g m G E H=AOW g m G p H
   simp only[AOW,k _ _ i,k _ _ q]
  ·split at d
   ·obtain⟨g,i,d⟩:=AB.1 d
    obtain⟨m,q,e⟩:=AB.1 d;cases e
    show AUs g m G E H=AUs g m G p H
    simp only[AUs,k _ _ i,k _ _ q]
   ·cases d
 ·cases d
theorem AMQ{E w:RS}{f:Operand->Option X}(p:∀o x,f o=some x->x.ev E=x.ev w){op:Op}{an:AN}(d:trN P f op=some an)(G:AY)(H:Heap):an.ev G E H=an.ev G w H:=by
 cases op<;>simp only[trN]at d<;>try (cases d;done)
 case makeInterface t x=>cases d;rfl
 case panic x=>cases d;rfl
 case move x=>
  obtain⟨g,q,e⟩:=AB.1 d;cases e
  show eMv g G E H=eMv g G w H
  simp only[eMv,p _ _ q]
 case assign x=>
  obtain⟨g,q,e⟩:=AB.1 d;cases e
  show eMv g G E H=eMv g G w H
  simp only[eMv,p _ _ q]
 case pick c a b=>
  obtain⟨U,M,d⟩:=AB.1 d
  obtain⟨V,O,d⟩:=AB.1 d
  obtain⟨W,hb,e⟩:=AB.1 d
  cases e
  show AUN U V W G E H=AUN U V W G w H
  simp only[AUN,p _ _ M,p _ _ O,p _ _ hb]
 case load t a=>
  split at d
  ·obtain⟨m,J,d⟩:=AB.1 d
   obtain⟨g,q,e⟩:=AB.1 d;cases e
   show AaR m g G E H=AaR m g G w H
   simp only[AaR,p _ _ q]
  ·obtain⟨g,q,e⟩:=AB.1 d;cases e
   show Aaw g G E H=Aaw g G w H
   simp only[Aaw,p _ _ q]
  ·cases d
 case nilCheck x=>
  obtain⟨g,q,e⟩:=AB.1 d;cases e
  show AOL g G E H=AOL g G w H
  simp only[AOL,p _ _ q]
 case binOp op t x y yt=>
  obtain⟨g,q,d⟩:=AB.1 d
  obtain⟨Y,Q,d⟩:=AB.1 d
  split at d
  ·obtain⟨k,R,e⟩:=AB.1 d;cases e
   exact AJ0 k false (p _ _ q) (p _ _ Q)
  ·obtain⟨k,R,e⟩:=AB.1 d;cases e
   exact AJ0 k true (p _ _ q) (p _ _ Q)
  ·obtain⟨Z,d0,e⟩:=AB.1 d;cases e
   show AZ6 Z g Y G E H=AZ6 Z g Y G w H
   simp only[AZ6,p _ _ q,p _ _ Q]
 case unOp op t x=>
  split at d
  ·obtain⟨g,q,e⟩:=AB.1 d;cases e
   show Aa6 g G E H=Aa6 g G w H
   simp only[Aa6,p _ _ q]
  ·obtain⟨g,q,e⟩:=AB.1 d;cases e
   show Aat g G E H=Aat g G w H
   simp only[Aat,p _ _ q]
  ·cases d
 case convert src dst x=>
  split at d
  ·obtain⟨g,q,e⟩:=AB.1 d;cases e
   rename_i k _ _
   show AaE _ g G E H=AaE _ g G w H
   simp only[AaE,p _ _ q]
  ·obtain⟨g,q,e⟩:=AB.1 d;cases e
   show ALl g none none G E H=ALl g none none G w H
   simp only[ALl,p _ _ q];rfl
  ·split at d
   ·obtain⟨g,q,e⟩:=AB.1 d;cases e
    show AZm g G E H=AZm g G w H
    simp only[AZm,p _ _ q]
   ·cases d
  ·cases d
 case makeFunc fn first caps=>
  cases fn<;>simp only at d<;>try (cases d;done)
  rename_i fi
  obtain⟨a,O,d⟩:=AB.1 d
  obtain⟨c,M,e⟩:=AB.1 d;cases e
  show AT6 fi a c G E H=AT6 fi a c G w H
  simp only[AT6,AEl p _ _ O,AEl p _ _ M]
 case slice t x lo F mx=>
  split at d
  ·split at d
   ·obtain⟨g,q,d⟩:=AB.1 d
    obtain⟨u,B,d⟩:=AB.1 d
    obtain⟨v,C,e⟩:=AB.1 d;cases e
    show ALl g u v G E H=ALl g u v G w H
    simp only[ALl,AT0,p _ _ q,E5 p B,E5 p C]
   ·cases d
  ·split at d
   ·obtain⟨z,K,d⟩:=AB.1 d
    obtain⟨g,q,d⟩:=AB.1 d
    obtain⟨u,B,d⟩:=AB.1 d
    obtain⟨v,C,d⟩:=AB.1 d
    obtain⟨A,I,e⟩:=AB.1 d;cases e
    show Aab z g u v A G E H=Aab z g u v A G w H
    have e1:AJm E u v A=AJm w u v A:=by simp only[AJm,E5 p B,E5 p C,E5 p I]
    have e2:ARY z E u v A=ARY z w u v A:=by funext id off ln cap esz;simp only[ARY,E5 p B,E5 p C,E5 p I]
    have e3:AGu z E u v A=AGu z w u v A:=by
     funext id off ln esz
     cases A with
     |none=>simp only[AGu,AJE,E5 p B,E5 p C]
     |some m=>
      have J:=ARr p I
      simp only[AGu,AJb,E5 p B,E5 p C,J]
    have e4:AKi z E u v A=AKi z w u v A:=by
     funext b off ln cap esz
     simp only[AKi,E5 p B,E5 p C]
    simp only[Aab,wB,p _ _ q,e1,e2,e3,e4]
   ·cases d
  ·split at d
   ·obtain⟨z,K,d⟩:=AB.1 d
    obtain⟨g,q,d⟩:=AB.1 d
    obtain⟨u,B,d⟩:=AB.1 d
    obtain⟨v,C,e⟩:=AB.1 d;cases e
    show AUm _ z g u v G E H=AUm _ z g u v G w H
    simp only[AUm,p _ _ q,E5 p B,E5 p C]
   ·cases d
  ·cases d
 case fieldAddr s x i=>
  split at d
  ·obtain⟨fl,S,d⟩:=AB.1 d
   split at d
   ·obtain⟨g,q,e⟩:=AB.1 d;cases e
    show AO9 fl.offset g G E H=AO9 fl.offset g G w H
    simp only[AO9,p _ _ q]
   ·cases d
  ·cases d
 case field s x i=>
  split at d
  ·obtain⟨fl,S,d⟩:=AB.1 d
   split at d
   ·obtain⟨m,J,d⟩:=AB.1 d
    obtain⟨g,q,e⟩:=AB.1 d;cases e
    show AJW fl.offset m g G E H=AJW fl.offset m g G w H
    simp only[AJW,p _ _ q]
   ·obtain⟨g,q,e⟩:=AB.1 d;cases e
    show AJU fl.offset g G E H=AJU fl.offset g G w H
    simp only[AJU,p _ _ q]
   ·cases d
  ·cases d
 case indexAddr t x i=>
  split at d
  ·obtain⟨z,K,d⟩:=AB.1 d
   obtain⟨g,q,d⟩:=AB.1 d
   obtain⟨D,F,e⟩:=AB.1 d;cases e
   show ANo z g D G E H=ANo z g D G w H
   simp only[ANo,p _ _ q,p _ _ F]
  ·obtain⟨z,K,d⟩:=AB.1 d
   obtain⟨g,q,d⟩:=AB.1 d
   obtain⟨D,F,e⟩:=AB.1 d;cases e
   show AJM _ z g D G E H=AJM _ z g D G w H
   simp only[AJM,p _ _ q,p _ _ F]
  ·cases d
 case index t x i=>
  split at d
  ·obtain⟨g,q,d⟩:=AB.1 d
   obtain⟨D,F,e⟩:=AB.1 d;cases e
   show AT2 g D G E H=AT2 g D G w H
   simp only[AT2,p _ _ q,p _ _ F]
  ·split at d
   ·obtain⟨g,q,d⟩:=AB.1 d
    obtain⟨D,F,e⟩:=AB.1 d;cases e
    show ATv _ g D G E H=ATv _ g D G w H
    simp only[ATv,p _ _ q,p _ _ F]
   ·cases d
  ·cases d
 case lookup t m k ok=>
  split at d
  ·obtain⟨c,M,d⟩:=AB.1 d
   obtain⟨i,F,d⟩:=AB.1 d
   obtain⟨zv,d1,d⟩:=AB.1 d
   obtain⟨z,K,d⟩:=AB.1 d
   obtain⟨m',J,d⟩:=AB.1 d
   obtain⟨k',R,e⟩:=AB.1 d;cases e
   show AUr c ok z m' k' G E H=AUr c ok z m' k' G w H
   simp only[AUr,p _ _ J,p _ _ R]
  ·cases d
 case extract x i=>
  obtain⟨g,q,e⟩:=AB.1 d;cases e
  show AZL g i G E H=AZL g i G w H
  simp only[AZL,p _ _ q]
 case build t ps=>
  obtain⟨N,hp,d⟩:=AB.1 d
  obtain⟨z,K,d⟩:=AB.1 d
  obtain⟨L,T,e⟩:=AB.1 d;cases e
  obtain⟨h1,h2⟩:=AIj p _ _ T
  show AOP z L G E H=AOP z L G w H
  simp only[AOP,h1,h2]
 case call c=>exact AMH p d G H
theorem AFa{E g:RS}{f:Operand->Option X}(m:∀o x,f o=some x->x.ev E=x.ev g){k:Nat}:∀(ps:List (Nat×Operand)) (d:List (Nat×X)),AAv f k ps=some d->bJ d E=bJ d g/\uU d E=uU d g
 |[],d,h=>by simp only[AAv]at h;cases h;exact⟨rfl,rfl⟩
 |(i,o)::r,d,h=>by
  simp only[AAv]at h
  obtain⟨x,q,h⟩:=AB.1 h
  obtain⟨p,u,e⟩:=AB.1 h;cases e
  obtain⟨v,w⟩:=AFa m r p u
  refine⟨?_,?_⟩
  ·funext esz k
   rw[sK,sK,m _ _ q,v]
  ·show(λt=>uU p E (T.set t i (A8 (x.ev E))))=λt=>uU p g (T.set t i (A8 (x.ev g)))
   rw[m _ _ q,w]
theorem ANa{E m:RS}{f:Operand->Option X}(u:∀o x,f o=some x->x.ev E=x.ev m){op:Op}{an:AA}(d:trA P f op=some an)(k:KA):an.al E k=an.al m k:=by
 cases op<;>simp only[trA]at d<;>try (cases d;done)
 case alloc t=>
  obtain⟨z,y,d⟩:=AB.1 d
  split at d
  ·cases p:AJh z with
   |false=>rw[p]at d;cases d
   |true=>rw[p]at d;cases d;rfl
  split at d
  ·obtain⟨g,v,d⟩:=AB.1 d
   split at d
   ·cases d;rfl
   ·cases d
  ·cases d;rfl
  ·cases d
 case box t x=>
  obtain⟨A,D,e⟩:=AB.1 d;cases e
  show AL7 A E k=AL7 A m k
  simp only[AL7,u _ _ D]
 case buildSlice t cnt ps=>
  split at d
  ·obtain⟨g,v,d⟩:=AB.1 d
   obtain⟨z,y,d⟩:=AB.1 d
   obtain⟨q,w,d⟩:=AB.1 d
   split at d
   ·cases d
    obtain⟨F,G⟩:=AFa u _ _ w
    show Ar g cnt z q E k=Ar g cnt z q m k
    simp only[Ar,F,G]
   ·cases d
  ·cases d
 case makeSlice t l c=>
  split at d
  ·obtain⟨i,J,d⟩:=AB.1 d
   obtain⟨z,y,d⟩:=AB.1 d
   obtain⟨B,H,d⟩:=AB.1 d
   obtain⟨C,I,d⟩:=AB.1 d
   split at d
   ·cases d
    show I5 i.size i.bytes z B C E k=I5 i.size i.bytes z B C m k
    simp only[I5,u _ _ H,u _ _ I]
   ·cases d
  ·cases d
 case makeMap t r=>
  split at d
  ·cases d;rfl
  ·cases d
variable{P:Program}
theorem AMX{v y:V}(h:Rj v y=true):v=y:=by
 cases v<;>simp only[Rj]at h<;>first|(cases h;done)|skip
 ·cases y<;>simp only[AQ3]at h<;>try (cases h;done)
  simp only[BK,Bool.and_eq_true,OJ,U4,beq_iff_eq,beq_iff]at h
  obtain⟨rfl,rfl,rfl,rfl⟩:=h
  rfl
 ·cases y<;>simp only[AK5]at h<;>try (cases h;done)
  simp only[AOo,beq_iff_eq]at h
  rw[h]
 ·cases y<;>simp only[AXC]at h<;>try (cases h;done)
  simp only[BK,Bool.and_eq_true,beq_iff]at h
  obtain⟨rfl,rfl⟩:=h
  rfl
 ·cases y<;>simp only[AOM]at h<;>first|(cases h;done)|rfl
 ·cases y<;>simp only[AYc]at h<;>try (cases h;done)
  simp only[BK,Bool.and_eq_true,beq_iff]at h
  obtain⟨rfl,rfl⟩:=h
  rfl
 ·cases y<;>simp only[AR4]at h<;>try (cases h;done)
  simp only[BK,Bool.and_eq_true,beq_iff]at h
  obtain⟨rfl,rfl⟩:=h
  rfl
 ·cases y<;>simp only[AO0]at h<;>first|(cases h;done)|rfl
 ·cases y<;>simp only[AZa]at h<;>try (cases h;done)
  simp only[BK,Bool.and_eq_true,beq_iff]at h
  obtain⟨rfl,rfl,rfl,rfl,rfl⟩:=h
  rfl
 ·cases y<;>simp only[AUB]at h<;>try (cases h;done)
  simp only[BK,Bool.and_eq_true,beq_iff]at h
  obtain⟨rfl,rfl,rfl,rfl⟩:=h
  rfl
 ·cases y<;>simp only[AYF]at h<;>try (cases h;done)
  simp only[BK,Bool.and_eq_true,beq_iff]at h
  obtain⟨rfl,rfl,rfl,rfl,rfl⟩:=h
  rfl
 ·cases y<;>simp only[AO2]at h<;>first|(cases h;done)|rfl
 ·cases y<;>simp only[AWo]at h<;>try (cases h;done)
  simp only[beq_iff]at h
  rw[h]
 ·cases y<;>simp only[ANy]at h<;>first|(cases h;done)|rfl
theorem AG0:∀{l m:List V},ALE l m=true->l=m
 |[],[],_=>rfl
 |[],_::_,h=>by cases h
 |_::_,[],h=>by cases h
 |x::l,y::m,h=>by
  have d:band (Rj x y) (ALE l m)=true:=h
  simp only[BK,Bool.and_eq_true]at d
  rw[AMX d.1,AG0 d.2]
theorem AQX{v y:V}(h:Es v y=true):v=y:=by
 cases v
 case undef=>cases y<;>simp only[Es,AQA]at h<;>first|(cases h;done)|rfl
 case agg l=>
  cases y<;>simp only[Es,Abc]at h<;>try (cases h;done)
  rw[AG0 h]
 case Dl l=>
  cases y<;>simp only[Es,Abb]at h<;>try (cases h;done)
  rw[AG0 h]
 all_goals exact AMX h
structure Stp where
 i:Nat
 o:Oper
 dst:Dst
 dt:Option Nat
 gd:Gd
 ao:AO
 rd:List Nat
def fR(C:FX)(rd:List Nat):Operand->Option X
 |.tmp t=>if rd.elem t then if t<C.nt then if C.loc t then none else some (.r (PK t))else none else none
 |.const v=>Ap (cvV v) λv=>some (.c v)
 |.global g=>some (.c (.gptr g 0))
 |.func f=>some (.c (.fn f [] []))
def AXN(P:Program)(C:FX)(ops:Array Oper)(i:Nat)(wk:Wk):Option Stp:=
 Ap ops[i]? λo=>if bG o.op then none else
  Ap (AI9 P C (fR C (o.looksAt ops)) wk o.op) λao=>Ap (AXh C (fR C (o.looksAt ops)) ops o.guard) λg=>match o.dst with
   |none=>some ⟨i,o,.no,none,g,ao,o.looksAt ops⟩
   |some t=>if t<C.nt then if C.loc t then none else some ⟨i,o,.to (PK t),some t,g,ao,o.looksAt ops⟩else none
structure ACj(P:Program)(C:FX)(ops:Array Oper)(s:Stp):Prop where
 at_:ops[s.i]? =some s.o
 nd:bG s.o.op=false
 tr:∃wk,AI9 P C (fR C s.rd) wk s.o.op=some s.ao
 gd:AXh C (fR C s.rd) ops s.o.guard=some s.gd
 dt:s.o.dst=s.dt
 dst:(s.dt=none/\s.dst=.no)∨∃t,s.dt=some t/\s.dst=.to (PK t)/\t<C.nt/\C.loc t=false
theorem AXr{C:FX}{ops:Array Oper}{i:Nat}{k:Wk}{s:Stp}(h:AXN P C ops i k=some s):ACj P C ops s/\s.i=i:=by
 unfold AXN at h
 obtain⟨o,m,h⟩:=AB.1 h
 split at h
 ·cases h
 ·rename_i d
  obtain⟨v,f,h⟩:=AB.1 h
  obtain⟨g,p,h⟩:=AB.1 h
  split at h
  ·rename_i hd
   cases h
   exact⟨⟨m,by simpa using d,⟨k,f⟩,p,hd,.inl ⟨rfl,rfl⟩⟩,rfl⟩
  ·rename_i t hd
   split at h
   ·rename_i q
    split at h
    ·cases h
    ·rename_i u
     cases h
     exact⟨⟨m,by simpa using d,⟨k,f⟩,p,hd,.inr ⟨t,rfl,rfl,q,by simpa using u⟩⟩,rfl⟩
   ·cases h
def AO.isE:AO->Bool
 |.e _=>true
 |_=>false
def AO.isA:AO->Bool
 |.a _=>true
 |_=>false
def AO.isR:AO->Bool
 |.n o=>o.looks
 |_=>false
theorem AXn{C:FX}{i:List Nat}{ρ:Loc}{E:RS}{a:Act}(h:∀t,t∈i->t<C.nt->C.loc t=false->Aa ρ (Ls (T.Du (PK t) E.rg)) (a.eval (.tmp t))):∀o x,fR C i o=some x->Aa ρ (x.ev E) (a.eval o):=by
 intro o x d
 cases o with
 |tmp t=>
  simp only[fR]at d
  split at d
  ·rename_i k
   split at d
   ·rename_i m
    split at d
    ·cases d
    ·rename_i p
     cases d
     rw[X.ARv]
     exact h t (by simpa using k) m (by simpa using p)
   ·cases d
  ·cases d
 |const v=>
  obtain⟨c,q,e⟩:=AB.1 d
  cases e
  exact AFy q
 |global g=>cases d;exact rfl
 |func f=>cases d;exact⟨#[], #[],rfl,by simp,by simp⟩
theorem ABA{C:FX}{i:List Nat}{E k:RS}(h:∀t,t∈i->T.Du (PK t) E.rg=T.Du (PK t) k.rg):∀o x,fR C i o=some x->x.ev E=x.ev k:=by
 intro o x d
 cases o with
 |tmp t=>
  simp only[fR]at d
  split at d
  ·rename_i m
   split at d
   ·split at d
    ·cases d
    ·cases d
     rw[X.ARv,X.ARv,h t (by simpa using m)]
   ·cases d
  ·cases d
 |const v=>
  obtain⟨c,p,e⟩:=AB.1 d
  cases e;rfl
 |global g=>cases d;rfl
 |func f=>cases d;rfl
theorem ATK{C:FX}{f:Operand->Option X}{g:Wk}{op:Op}{an:AN}(d:AI9 P C f g op=some (.n an)):trN P f op=some an:=by
 cases g with
 |wr=>obtain⟨e,_,i⟩:=AB.1 d;cases i
 |plain=>
  simp only[AI9]at d
  split at d
  ·rename_i o k;cases d;exact k
  ·split at d
   ·cases d
   ·split at d
    ·cases d
    ·split at d
     ·split at d
      ·split at d
       ·obtain⟨_,_,d⟩:=AB.1 d
        obtain⟨_,_,e⟩:=AB.1 d;cases e
       ·cases d
      ·cases d
     ·cases d
theorem ASN{C:FX}{f:Operand->Option X}{g:Wk}{op:Op}{an:AA}(d:AI9 P C f g op=some (.a an)):trA P f op=some an:=by
 cases g with
 |wr=>obtain⟨e,_,i⟩:=AB.1 d;cases i
 |plain=>
  simp only[AI9]at d
  split at d
  ·cases d
  ·split at d
   ·rename_i o k;cases d;exact k
   ·split at d
    ·cases d
    ·split at d
     ·split at d
      ·split at d
       ·obtain⟨_,_,d⟩:=AB.1 d
        obtain⟨_,_,e⟩:=AB.1 d;cases e
       ·cases d
      ·cases d
     ·cases d
def AKW(G:AY)(ao:AO)(d:Dst)(E:RS)(H:Heap)(n:Nat)(ρ:Loc)(id:Nat):Prop:=match ao with
 |.n an=>∃v,an.ev G E H=some v/\∀p,d=.to p->Ls (T.Du p E.rg)=v
 |.a aa=>∃b fn,Al aa E b fn/\id<n/\ρ id=none/\T.get H id=some b/\∀p,d=.to p->Ls (T.Du p E.rg)=fn id
 |.e _=>False
def AI7(G:AY)(s:Stp)(E:RS)(H:Heap)(n:Nat)(ρ:Loc)(id:Nat):Prop:=match s.gd with
 |.no=>AKW G s.ao s.dst E H n ρ id
 |.on x b=>∃t,gv (x.ev E)=some t/\if t=some b then AKW G s.ao s.dst E H n ρ id else ∀p,s.dst=.to p->Ls (T.Du p E.rg)=.Dl []
def onS(s:Stp)(E:RS):Prop:=match s.gd with
 |.no=>True
 |.on x b=>gv (x.ev E)=some (some b)
theorem AZx{G:AY}{s:Stp}{E:RS}{H:Heap}{n:Nat}{ρ:Loc}{id:Nat}(h:AI7 G s E H n ρ id)(d:onS s E):AKW G s.ao s.dst E H n ρ id:=by
 unfold AI7 at h
 unfold onS at d
 cases g:s.gd with
 |no=>rw[g]at h;exact h
 |on x b=>
  rw[g]at h d
  obtain⟨t,i,h⟩:=h
  have f:gv (x.ev E)=some (some b):=d
  rw[f]at i;cases i
  rwa [if_pos rfl]at h
theorem AKS{C:FX}{f:Operand->Option X}{M:Wk}{op:Op}{G:AY}{i:AO}(q:AI9 P C f M op=some i){d:Dst}{E m:RS}{H H':Heap}{n n':Nat}{ρ u:Loc}{id:Nat}(K:∀o x,f o=some x->x.ev E=x.ev m)
 (hd:∀p,d=.to p->T.Du p E.rg=T.Du p m.rg) (S:n<=n') (N:i.isA=true->id<n->ρ id=none->u id=none/\T.get H' id=T.get H id) (w:Hle H H'∨i.isR=false) (h:AKW G i d E H n ρ id):AKW G i d m H' n' u id:=by
 cases i with
 |n A=>
  obtain⟨v,B,D⟩:=h
  have g:A.ev G E H=A.ev G m H:=AMQ K (ATK q) G H
  refine⟨v,?_,λp e=>by rw[<-hd p e];exact D p e⟩
  rw[g]at B
  rcases w with w|w
  ·exact AaL w A B
  ·rw[Ab7 (by simpa[AO.isR]using w) G m H' H];exact B
 |a L=>
  obtain⟨b,O,F,I,J,y,D⟩:=h
  have g:∀k,L.al E k=L.al m k:=ANa K (ASN q)
  obtain⟨Q,R⟩:=N rfl I J
  refine⟨b,O,by unfold Al at*;rw[<-g];exact F,by omega,Q,by rw[R];exact y,λp e=>by rw[<-hd p e];exact D p e⟩
 |e _=>exact h.elim
theorem AJJ{C:FX}{f:Operand->Option X}{ops:Array Oper}{g:Option (Nat×Bool)}{x:X}{b:Bool}(h:AXh C f ops g=some (.on x b)){E d:RS}(i:∀o x,f o=some x->x.ev E=x.ev d):x.ev E=x.ev d:=by
 cases g with
 |none=>cases h
 |some m=>
  obtain⟨t,_,h⟩:=AB.1 h
  obtain⟨y,k,h⟩:=AB.1 h
  split at h
  ·cases h;exact i _ _ k
  ·cases h
theorem AHZ{C:FX}{ops:Array Oper}{s:Stp}(ok:ACj P C ops s){G:AY}{E u:RS}{H H':Heap}{n n':Nat}{ρ i:Loc}{id:Nat}(D:∀t,t∈s.rd->T.Du (PK t) E.rg=T.Du (PK t) u.rg)
 (hd:∀t,s.dt=some t->T.Du (PK t) E.rg=T.Du (PK t) u.rg) (w:n<=n') (y:s.ao.isA=true->onS s E->id<n->ρ id=none->i id=none/\T.get H' id=T.get H id) (A:Hle H H'∨s.ao.isR=false) (h:AI7 G s E H n ρ id):AI7 G s u H' n' i id:=by
 obtain⟨J,k⟩:=ok.tr
 have d:=ABA (C:=C) D
 have f:∀p,s.dst=.to p->T.Du p E.rg=T.Du p u.rg:=by
  intro p g
  rcases ok.dst with⟨_,h⟩|⟨t,F,I,_⟩
  ·rw[h]at g;cases g
  ·rw[I]at g;cases g;exact hd t F
 unfold AI7 at*
 cases m:s.gd with
 |no=>rw[m]at h;exact AKS k d f w (λv=>y v (by unfold onS;rw[m];trivial)) A h
 |on x b=>
  rw[m]at h
  obtain⟨t,B,h⟩:=h
  have q:=ok.gd
  rw[m]at q
  refine⟨t,by rw[<-AJJ q d];exact B,?_⟩
  split
  ·rename_i e;rw[if_pos e]at h;exact AKS k d f w (λv=>y v (by unfold onS;rw[m];exact B.trans (congrArg some e))) A h
  ·rename_i e;rw[if_neg e]at h;exact λp g=>by rw[<-f p g];exact h p g
theorem AFY{C:FX}{ops:Array Oper}{s:Stp}(ok:ACj P C ops s){E g:RS}(i:∀t,t∈s.rd->T.Du (PK t) E.rg=T.Du (PK t) g.rg):onS s g->onS s E:=by
 have f:=ABA (C:=C) i
 have d:=ok.gd
 unfold onS
 cases k:s.gd with
 |no=>exact λh=>h
 |on x b=>
  rw[k]at d
  intro h
  show gv (x.ev E)=some (some b)
  rw[AJJ d f];exact h
variable{P:Program}
def Closed(ops:Array Oper)(S:Nat->Bool):Prop:=∀j o,S j=true->ops[j]? =some o->∀e∈o.after,Region.binds .any e=true->S e.on=true
def Before(ops:Array Oper)(x i:Nat):Prop:=∀S:Nat->Bool,Closed ops S->(∀o,ops[i]? =some o->∀e∈o.after,Region.binds .any e=true->S e.on=true)->S x=true
structure Zx(P:Program)(C:FX)(ops:Array Oper)(ss:List Stp)(Qr:Nat->List Nat):Prop where
 ok:∀s∈ss,ACj P C ops s
 all:∀i,i<ops.size->∃s∈ss,s.i=i
 inj:∀pre s post,ss=pre++s::post->(∀x∈pre,x.i≠s.i)/\∀x∈post,x.i≠s.i
 Adj:∀pre s post,ss=pre++s::post->∀e∈s.o.after,Region.binds .any e=true->∃x∈pre,x.i=e.on
 act:∀pre j mid s post,ss=pre++j::(mid++s::post)->j.ao.isE=true->Before ops j.i s.i
 own:∀s∈ss,s.ao.isE=false->∀t,s.dt=some t->t∉s.rd
 regs:∀s∈ss,∀k∈ss,s.i≠k.i->∀t,s.dt=some t->k.dt≠some t/\(t∈k.rd->Before ops s.i k.i∨(s.ao.isE=true/\Before ops k.i s.i))
 Qr:∀i x,x∈Qr i->Before ops x i
 Aep:∀s∈ss,s.ao.isR=true->∃p,s.dst=.to p
 len:ss.length<=ops.size
structure Inv(P:Program)(C:FX)(ops:Array Oper)(ss:List Stp)(G:AY)(w0:World)(ρ0:Loc)(H0:Heap)(n0:Nat)(pre post:List Stp)(L:Array Bool)(ids:Nat->Nat)(E:RS)(H:Heap)(n:Nat)(ρ:Loc)(a:Act)(w:World):Prop where
 split:ss=pre++post
 hh:DZ w0 ρ H n w
 gu:IE ρ0 H0 n0 ρ H n
 lsz:L.size=ops.size
 sub:∀i,L.getD i false=true->∃s∈pre,s.i=i
 closed:Closed ops (λi=>L.getD i false)
 eff:∀s∈pre,s.ao.isE=true->L.getD s.i false=true
 size:a.tmps.size=C.nt
 reg:∀t,t<C.nt->C.loc t=false->(∀s∈pre,L.getD s.i false=false->s.dt≠some t)->Aa ρ (Ls (T.Du (PK t) E.rg)) (a.eval (.tmp t))
 dfs:if C.df then DL ρ (AQu (Ls (T.Du (PK C.nt) E.rg))) a.defers else a.defers=[]
 now:∀s∈pre,L.getD s.i false=false->AI7 G s E H n ρ (ids s.i)
 one:∀s∈pre,∀k∈pre,L.getD s.i false=false->L.getD k.i false=false->s.ao.isA=true->k.ao.isA=true->onS s E->onS k E->ids s.i=ids k.i->s.i=k.i
 ge:∀s∈pre,L.getD s.i false=false->s.ao.isA=true->onS s E->n0<=ids s.i
def AOm(s:Stp):Option AI:=match s.dst,s.ao with
 |.to p,.n an=>some (.re p s.gd an)
 |_,_=>none
def yH(Qr:List Nat):List Stp->List AI
 |[]=>[]
 |x::r=>if x.ao.isR&& !(Qr.elem x.i)then match AOm x with
  |some i=>i::yH Qr r
  |none=>yH Qr r
  else yH Qr r
def EC(Qr:Nat->List Nat):List Stp->List Stp->List AI
 |_,[]=>[]
 |done,s::r=>.op (.mk s.dst s.gd s.ao)::((if s.ao.isE then yH (Qr s.i) done else[])++EC Qr (done++[s]) r)
section
variable{C:FX}{ops:Array Oper}{ss:List Stp}{Qr:Nat->List Nat}{G:AY}{w0:World}{ρ0:Loc}{H0:Heap}{n0:Nat}{pre post:List Stp}{L:Array Bool}{ids:Nat->Nat}{E:RS}{H:Heap}{n:Nat}{ρ:Loc}{a:Act}{w:World}{call:Au}{K:KE}
def preS(pre:List Stp):Nat->Bool:=λi=>pre.any λs=>s.i==i
theorem AKP{i:Nat}:preS pre i=true↔∃s∈pre,s.i=i:=by simp[preS]
theorem Zx.edges(R:Zx P C ops ss Qr)(hs:ss=pre++post){s:Stp}(f:s∈pre):∀e∈s.o.after,Region.binds .any e=true->preS pre e.on=true:=by
 obtain⟨g,i,rfl⟩:=List.append_of_mem f
 intro e k m
 obtain⟨x,p,d⟩:=R.Adj g s (i++post) (by rw[hs];simp) e k m
 exact AKP.2 ⟨x,List.mem_append_left _ p,d⟩
theorem Zx.AUw(R:Zx P C ops ss Qr)(hs:ss=pre++post):Closed ops (preS pre):=by
 intro j o g i
 obtain⟨s,f,rfl⟩:=AKP.1 g
 have d:=R.ok s (by rw[hs];exact List.mem_append_left _ f)
 have:s.o=o:=Option.some.inj (d.at_.symm.trans i)
 subst this
 exact R.edges hs f
theorem Zx.ALB(R:Zx P C ops ss Qr)(hs:ss=pre++post){k:Stp}(f:k∈pre){x:Nat}(g:Before ops x k.i):∃s∈pre,s.i=x:=by
 refine AKP.1 (g _ (R.AUw hs) ?_)
 intro o m
 have d:=R.ok k (by rw[hs];exact List.mem_append_left _ f)
 have:k.o=o:=Option.some.inj (d.at_.symm.trans m)
 subst this
 exact R.edges hs f
theorem LD{d:Dst}{v:V}{p:P2}(h:d≠.to p):T.Du p (FW d v E).rg=T.Du p E.rg:=by
 cases d with
 |no=>rfl
 |to q=>rw[(uJ q v E).1,T.JV _ _ _ _ (λe=>h (by rw[e]))]
 |ps=>rw[(AN1 v E).1]
theorem ACj.ADu{s:Stp}(ok:ACj P C ops s){t:Nat}(h:s.dt≠some t):s.dst≠.to (PK t):=by
 rcases ok.dst with⟨_,d⟩|⟨u,f,g,_⟩
 ·rw[d];intro e;cases e
 ·rw[g];intro e;exact h (by rw[f,jY (Dst.to.inj e)])
theorem ACj.AWK{s:Stp}(ok:ACj P C ops s):s.dst≠.to (PK C.nt):=by
 rcases ok.dst with⟨_,d⟩|⟨u,g,f,i,_⟩
 ·rw[d];intro e;cases e
 ·rw[f];intro e;have:=jY (Dst.to.inj e);omega
theorem Inv.adv(R:Zx P C ops ss Qr){s:Stp}(I:Inv P C ops ss G w0 ρ0 H0 n0 pre (s::post) L ids E H n ρ a w)(hE:s.ao.isE=false)(h:Bl (EC Qr pre (s::post)) G call E H n K):
 ∃d E' H' n',Inv P C ops ss G w0 ρ0 H0 n0 (pre++[s]) post L d E' H' n' ρ a w/\Bl (EC Qr (pre++[s]) post) G call E' H' n' K:=by
 have d0:s∈ss:=by rw[I.split];simp
 have ok:=R.ok s d0
 obtain⟨F,f7⟩:=R.inj pre s post I.split
 have f8:L.getD s.i false=false:=by
  cases hl:L.getD s.i false with
  |false=>rfl
  |true=>obtain⟨x,S,U⟩:=I.sub _ hl;exact absurd U (F x S)
 have B:∀(v:V) (k:Stp),k∈pre->L.getD k.i false=false->(∀t,t∈k.rd->T.Du (PK t) E.rg=T.Du (PK t) (FW s.dst v E).rg)/\(∀t,k.dt=some t->T.Du (PK t) E.rg=T.Du (PK t) (FW s.dst v E).rg):=by
  intro v k f g
  have f3:k∈ss:=by rw[I.split];exact List.mem_append_left _ f
  refine⟨λt ht=>?_,λt ht=>?_⟩
  ·refine(LD (ok.ADu λhd=>?_)).symm
   rcases(R.regs s d0 k f3 (λe=>F k f e.symm) t hd).2 ht with hb|⟨W,_⟩
   ·obtain⟨x,S,U⟩:=R.ALB I.split f hb
    exact F x S U
   ·rw[hE]at W;cases W
  ·refine(LD (ok.ADu λhd=>?_)).symm
   exact(R.regs s d0 k f3 (λe=>F k f e.symm) t hd).1 ht
 have mk:∀(v:V) (d:Nat->Nat) (H':Heap) (n':Nat),DZ w0 ρ H' n' w->IE ρ H n ρ H' n'->Hle H H'->(∀k∈pre,d k.i=ids k.i)->AI7 G s (FW s.dst v E) H' n' ρ (d s.i)->
  (∀k∈pre,L.getD k.i false=false->s.ao.isA=true->k.ao.isA=true->onS s (FW s.dst v E)->onS k E->d s.i≠ids k.i)->(s.ao.isA=true->onS s (FW s.dst v E)->n0<=d s.i)->
  Inv P C ops ss G w0 ρ0 H0 n0 (pre++[s]) post L d (FW s.dst v E) H' n' ρ a w:=by
  intro v d H' n' f9 X g0 A f4 d8 g1
  refine{split:=by rw[I.split];simp,hh:=f9,gu:=I.gu.trans X,lsz:=I.lsz,sub:=λi hi=>?_,closed:=I.closed,eff:=?_,size:=I.size,reg:=?_,dfs:=?_,now:=?_,one:=?_,ge:=?_}
  ·obtain⟨x,S,U⟩:=I.sub i hi
   exact⟨x,List.mem_append_left _ S,U⟩
  ·intro k f d9
   rcases List.mem_append.1 f with f|f
   ·exact I.eff k f d9
   ·simp at f;subst f;rw[hE]at d9;cases d9
  ·intro t ht hl hd
   rw[LD (ok.ADu (hd s (by simp) f8))]
   exact I.reg t ht hl λk f=>hd k (List.mem_append_left _ f)
  ·rw[LD ok.AWK];exact I.dfs
  ·intro k f g
   rcases List.mem_append.1 f with f|f
   ·obtain⟨h1,O⟩:=B v k f g
    rw[A k f]
    exact AHZ (R.ok k (by rw[I.split];exact List.mem_append_left _ f)) h1 O X.grow (λ_ _ g2 g3=>X.keep _ g2 g3) (.inl g0) (I.now k f g)
   ·simp at f;subst f;exact f4
  ·intro x S k f d1 g d2 m d3 y W
   have d4:∀k∈pre,L.getD k.i false=false->onS k (FW s.dst v E)->onS k E:=λk f g=>AFY (R.ok k (by rw[I.split];exact List.mem_append_left _ f)) (B v k f g).1
   rcases List.mem_append.1 S with D|D<;>rcases List.mem_append.1 f with u|u
   ·rw[A x D,A k u]at W;exact I.one x D k u d1 g d2 m (d4 x D d1 d3) (d4 k u g y) W
   ·have e1:=List.mem_singleton.1 u;rw[e1]at W m y;rw[A x D]at W;exact absurd W.symm (d8 x D d1 m d2 y (d4 x D d1 d3))
   ·have e1:=List.mem_singleton.1 D;rw[e1]at W d2 d3;rw[A k u]at W;exact absurd W (d8 k u g d2 m d3 (d4 k u g y))
   ·rw[List.mem_singleton.1 D,List.mem_singleton.1 u]
  ·intro k f g m y
   rcases List.mem_append.1 f with u|u
   ·rw[A k u];exact I.ge k u g m (AFY (R.ok k (by rw[I.split];exact List.mem_append_left _ u)) (B v k u g).1 y)
   ·have e1:=List.mem_singleton.1 u;rw[e1]at m y⊢;exact g1 m y
 have f0:∀v t,t∈s.rd->T.Du (PK t) E.rg=T.Du (PK t) (FW s.dst v E).rg:=λv t ht=>
  (LD (ok.ADu λhd=>R.own s d0 hE t hd ht)).symm
 have Y:∀v p,s.dst=.to p->Ls (T.Du p (FW s.dst v E).rg)=v:=λv p hp=>by rw[hp,(uJ p v E).1,T.VY];rfl
 obtain⟨wk,d5⟩:=ok.tr
 have g4:EC Qr pre (s::post)=.op (.mk s.dst s.gd s.ao)::EC Qr (pre++[s]) post:=by
  simp only[EC,hE,Bool.false_eq_true,if_false,List.nil_append]
 rw[g4]at h
 have h':AOp.ex (.mk s.dst s.gd s.ao) G call E H n (λE H n=>Bl (EC Qr (pre++[s]) post) G call E H n K):=h
 have done:s.ao.ex G call s.dst E H n (λE H n=>Bl (EC Qr (pre++[s]) post) G call E H n K)->∃(v:V) (d:Nat->Nat) (H':Heap) (n':Nat),(AKW G s.ao s.dst (FW s.dst v E) H' n' ρ (d s.i))/\Bl (EC Qr (pre++[s]) post) G call (FW s.dst v E) H' n' K/\
  DZ w0 ρ H' n' w/\IE ρ H n ρ H' n'/\Hle H H'/\(∀k∈pre,d k.i=ids k.i)/\(∀k∈pre,L.getD k.i false=false->s.ao.isA=true->k.ao.isA=true->onS k E->d s.i≠ids k.i)/\(s.ao.isA=true->n0<=d s.i):=by
  intro S
  cases f1:s.ao with
  |e e=>rw[f1]at hE;cases hE
  |n an=>
   rw[f1]at S d5
   have d6:AL (an.ev G E H) (λv=>Bl (EC Qr (pre++[s]) post) G call (FW s.dst v E) H n K):=S
   rw[AJd]at d6
   obtain⟨v,hv,f⟩:=d6
   have M:=AMQ (ABA (C:=C) (f0 v)) (ATK d5) G H
   exact⟨v,ids,H,n,⟨v,by rw[<-M];exact hv,Y v⟩,f,I.hh,IE.refl _ _ _,Hle.refl _,λ_ _=>rfl,λk _ _ h _ _=>(by simp[AO.isA]at h),λh=>by simp[AO.isA]at h⟩
  |a aa=>
   rw[f1]at S d5
   have d6:aa.al E (λb fn=>DT n λn=>Bl (EC Qr (pre++[s]) post) G call (FW s.dst (fn n) E) (T.set H n b) (Nat.succ n) K):=S
   obtain⟨b,fn,g5,f⟩:=AQ2 d6
   rw[BL]at f
   have M:∀k,aa.al E k=aa.al (FW s.dst (fn n) E) k:=ANa (ABA (C:=C) (f0 (fn n))) (ASN d5)
   have f2:(λi=>if i=s.i then n else ids i) s.i=n:=if_pos rfl
   refine⟨fn n,λi=>if i=s.i then n else ids i,T.set H n b,n+1,?_,f,I.hh.fresh b,IE.fresh _ _ _ _,Hle.fresh (I.hh.top n (Nat.le_refl _)) b,λk f=>if_neg (F k f),?_,λ_=>by rw[f2];exact I.gu.grow⟩
   ·rw[f2]
    exact⟨b,fn,by unfold Al at*;rw[<-M];exact g5,Nat.lt_succ_self n,I.hh.AEa,T.Ag _ _ _,λp hp=>Y _ p hp⟩
   ·intro k f g _ m y
    rw[f2]
    have f5:=AZx (I.now k f g) y
    cases Z:k.ao with
    |n _=>rw[Z]at m;cases m
    |e _=>rw[Z]at m;cases m
    |a _=>
     rw[Z]at f5
     obtain⟨_,_,_,g7,_⟩:=f5
     omega
 cases hg:s.gd with
 |no=>
  rw[hg]at h'
  obtain⟨v,d,H',n',h1,O,h3,h4,h5,h6,h7,h8⟩:=done h'
  exact⟨d,_,H',n',mk v d H' n' h3 h4 h5 h6 (by unfold AI7;rw[hg];exact h1) (λk f g hs m _ y=>h7 k f g hs m y) (λhs _=>h8 hs),O⟩
 |on x b=>
  rw[hg]at h'
  have O:wP (x.ev E) b (s.ao.ex G call s.dst E H n λE H n=>Bl (EC Qr (pre++[s]) post) G call E H n K) (Bl (EC Qr (pre++[s]) post) G call (FW s.dst (.Dl []) E) H n K):=h'
  rw[YZ]at O
  obtain⟨q,hq,O⟩:=O
  have f6:=ok.gd
  rw[hg]at f6
  have d7:∀v,gv (x.ev (FW s.dst v E))=some q:=λv=>by rw[<-AJJ f6 (ABA (C:=C) (f0 v))];exact hq
  by_cases Q:q=some b
  ·rw[if_pos Q]at O
   obtain⟨v,d,H',n',h1,O,h3,h4,h5,h6,h7,h8⟩:=done O
   exact⟨d,_,H',n',mk v d H' n' h3 h4 h5 h6 (by unfold AI7;rw[hg];exact⟨q,d7 v,by rw[if_pos Q];exact h1⟩) (λk f g hs m _ y=>h7 k f g hs m y) (λhs _=>h8 hs),O⟩
  ·rw[if_neg Q]at O
   refine⟨ids,_,H,n,mk (.Dl []) ids H n I.hh (IE.refl _ _ _) (Hle.refl _) (λ_ _=>rfl) (by unfold AI7;rw[hg];exact⟨q,d7 (.Dl []),by rw[if_neg Q];exact λp hp=>Y _ p hp⟩) ?_ ?_,O⟩
   ·intro k _ _ g6 _ N _
    unfold onS at N
    rw[hg]at N
    have J:gv (x.ev (FW s.dst (.Dl []) E))=some (some b):=N
    rw[d7]at J;cases J;exact absurd rfl Q
   ·intro g6 N
    unfold onS at N
    rw[hg]at N
    have J:gv (x.ev (FW s.dst (.Dl []) E))=some (some b):=N
    rw[d7]at J;cases J;exact absurd rfl Q
end
variable{P:Program}
section
variable{C:FX}{ops:Array Oper}{ss:List Stp}{Qr:Nat->List Nat}{G:AY}{w0:World}{ρ0:Loc}{H0:Heap}{n0:Nat}{pre post:List Stp}{L:Array Bool}{ids:Nat->Nat}{E:RS}{H:Heap}{n:Nat}{ρ:Loc}{a:Act}{w:World}{call:Au}{K:KE}{Q:Exit->Act->World->Prop}
theorem AFq{L:Array Bool}{i:Nat}(h:i<L.size)(j:Nat)(d:Bool):(L.setIfInBounds i true).getD j d=if i=j then true else L.getD j d:=by
 by_cases e:i=j
 ·subst e;simp[h]
 ·rw[if_neg e];simp[Array.getElem?_setIfInBounds_ne e]
theorem AHy{o:Oper}(h:o.guard=none)(f:Nat->Option Bool):Region.wanted o f=true:=by simp[Region.wanted,h]
theorem ANT(R:Zx P C ops ss Qr){s k:Stp}(hs:s∈ss)(g:k∈ss)(h:s.i=k.i):s.o=k.o/\s.dt=k.dt:=by
 have d:=R.ok s hs
 have f:=R.ok k g
 have e:s.o=k.o:=Option.some.inj (d.at_.symm.trans (by rw[h];exact f.at_))
 exact⟨e,by rw[<-d.dt,<-f.dt,e]⟩
theorem Inv.reads(R:Zx P C ops ss Qr)(I:Inv P C ops ss G w0 ρ0 H0 n0 pre post L ids E H n ρ a w){s:Stp}(hs:s∈ss)(F:L.getD s.i false=false)(p:s∈pre->s.ao.isE=false)(q:s∉pre->∀k∈pre,k.i≠s.i)
 (f:∀e∈s.o.after,Region.binds .any e=true->L.getD e.on false=true):∀t,t∈s.rd->t<C.nt->C.loc t=false->Aa ρ (Ls (T.Du (PK t) E.rg)) (a.eval (.tmp t)):=by
 have g:∀x,Before ops x s.i->L.getD x false=true:=λx u=>u (λi=>L.getD i false) I.closed λo J=>by
  have:s.o=o:=Option.some.inj ((R.ok s hs).at_.symm.trans J)
  subst this
  exact f
 intro t B v K
 refine I.reg t v K λk y d hd=>?_
 have m:k∈ss:=by rw[I.split];exact List.mem_append_left _ y
 by_cases e:k.i=s.i
 ·have A:=(ANT R m hs e).2
  by_cases D:s∈pre
  ·exact R.own s hs (p D) t (by rw[<-A];exact hd) B
  ·exact q D k y e
 ·rcases(R.regs k m s hs e t hd).2 B with u|⟨M,_⟩
  ·rw[g _ u]at d;cases d
  ·rw[I.eff k y M]at d;cases d
theorem Inv.late(R:Zx P C ops ss Qr)(hg:Xf w0 G)(I:Inv P C ops ss G w0 ρ0 H0 n0 pre post L ids E H n ρ a w){s:Stp}(hs:s∈pre)(K:L.getD s.i false=false)
 (d1:∀e∈s.o.after,Region.binds .any e=true->L.getD e.on false=true) {next:Act->World->Prop}
 (A:∀p a' w',Inv P C ops ss G w0 ρ0 H0 n0 pre post (L.setIfInBounds s.i true) ids E H n p a' w'->next a' w'):wpOp P ops Q s.i next a w:=by
 have d3:s∈ss:=by rw[I.split];exact List.mem_append_left _ hs
 have ok:=R.ok s d3
 have hE:s.ao.isE=false:=by
  cases he:s.ao.isE with
  |false=>rfl
  |true=>rw[I.eff s hs he]at K;cases K
 have hi:s.i<L.size:=by rw[I.lsz];exact(Array.getElem?_eq_some_iff.1 ok.at_).1
 have Y:=I.reads R d3 K (λ_=>hE) (λh=>absurd hs h) d1
 have hO:=AXn (C:=C) Y
 have hL:∀j,(L.setIfInBounds s.i true).getD j false=if s.i=j then true else L.getD j false:=λj=>AFq hi j false
 have O:∀j,(L.setIfInBounds s.i true).getD j false=false->s.i≠j/\L.getD j false=false:=by
  intro j M
  rw[hL]at M
  by_cases e:s.i=j
  ·rw[if_pos e]at M;cases M
  ·rw[if_neg e]at M;exact⟨e,M⟩
 have d5:∀j,L.getD j false=true->(L.setIfInBounds s.i true).getD j false=true:=by
  intro j M;rw[hL];split
  ·rfl
  ·exact M
 have mk:∀(p:Loc) (val:Value) (w':World),DZ w0 p H n w'->IE ρ0 H0 n0 p H n->ρ.le p->(∀k∈pre,(L.setIfInBounds s.i true).getD k.i false=false->k.ao.isA=true->onS k E->ρ (ids k.i)=none->p (ids k.i)=none)->(∀t,s.dst=.to (PK t)->Aa p (Ls (T.Du (PK t) E.rg)) val)->
  Inv P C ops ss G w0 ρ0 H0 n0 pre post (L.setIfInBounds s.i true) ids E H n p (a.put s.o.dst val) w':=by
  intro p val w' f6 d6 d7 d8 d9
  refine{split:=I.split,hh:=f6,gu:=d6,lsz:=by simpa using I.lsz,sub:=λi hi=>?_,closed:=?_,eff:=λk J f7=>d5 _ (I.eff k J f7),size:=by rw[AFZ];exact I.size,reg:=?_,dfs:=?_,now:=?_,one:=?_,ge:=?_}
  ·rw[hL]at hi
   by_cases e:s.i=i
   ·exact⟨s,hs,e⟩
   ·rw[if_neg e]at hi;exact I.sub i hi
  ·intro j o M ho e he hb
   apply d5
   replace M:(L.setIfInBounds s.i true).getD j false=true:=M
   rw[hL]at M
   by_cases f0:s.i=j
   ·subst f0
    have:s.o=o:=Option.some.inj (ok.at_.symm.trans ho)
    subst this
    exact d1 e he hb
   ·rw[if_neg f0]at M;exact I.closed j o M ho e he hb
  ·intro t X hl hd
   by_cases B:s.dt=some t
   ·rw[ok.dt,B,eval_put_same _ (by rw[I.size];exact X)]
    refine d9 t ?_
    rcases ok.dst with⟨h1,_⟩|⟨u,h1,h2,_⟩
    ·rw[h1]at B;cases B
    ·rw[h1]at B;cases B;exact h2
   ·have:(a.put s.o.dst val).eval (.tmp t)=a.eval (.tmp t):=by
     rw[ok.dt]
     cases f8:s.dt with
     |none=>rfl
     |some u=>exact eval_put_ne _ (λe=>B (by rw[f8,e]))
    rw[this]
    refine Aa.mono d7 _ _ (I.reg t X hl λk J m f1=>?_)
    by_cases e:s.i=k.i
    ·exact B (by rw[(ANT R d3 (by rw[I.split];exact List.mem_append_left _ J) e).2];exact f1)
    ·exact hd k J (by rw[hL,if_neg e];exact m) f1
  ·rw[put_defers]
   have:=I.dfs
   split
   ·rename_i hc;rw[if_pos hc]at this;exact this.mono d7
   ·rename_i hc;rw[if_neg hc]at this;exact this
  ·intro k J m
   exact AHZ (R.ok k (by rw[I.split];exact List.mem_append_left _ J)) (λ_ _=>rfl) (λ_ _=>rfl) (Nat.le_refl _) (λD F _ f9=>⟨d8 k J m D F f9,rfl⟩) (.inl (Hle.refl _)) (I.now k J (O _ m).2)
  ·intro x hx k J g0 m g1 D g2 F he
   exact I.one x hx k J (O _ g0).2 (O _ m).2 g1 D g2 F he
  ·intro k J m D F;exact I.ge k J (O _ m).2 D F
 have d:=I.now s hs K
 obtain⟨wk,Z⟩:=ok.tr
 have act:onS s E->AKW G s.ao s.dst E H n ρ (ids s.i)->s.o.wp P a w next Q:=by
  intro f2 hn
  cases d0:s.ao with
  |e e=>rw[d0]at hE;cases hE
  |n an=>
   rw[d0]at hn Z
   obtain⟨v,hv,hp⟩:=hn
   obtain⟨val,S,d4⟩:=AMt (P:=P) I.hh hg (λ_=>rfl) hO (ATK Z) hv
   unfold Oper.wp
   rw[S]
   refine A ρ _ _ (mk ρ val w I.hh I.gu (Loc.le.refl _) (λ_ _ _ _ _ h=>h) λt X=>?_)
   rw[hp _ X];exact d4
  |a aa=>
   rw[d0]at hn Z
   obtain⟨b,fn,g3,g4,U,f3,hp⟩:=hn
   obtain⟨val,obj,d2,S,g5,d4⟩:=AMr (P:=P) (w:=w) (ρ:=ρ) hO (ASN Z) g3
   have f4:s.ao.isA=true:=by rw[d0];rfl
   unfold Oper.wp
   rw[S]
   refine A _ _ _ (mk (ρ.add (ids s.i) ⟨w.heap.size,0,d2⟩) val _ (I.hh.place g4 U f3 g5) ?_ (Loc.AHd _ U) ?_ λt X=>?_)
   ·refine⟨I.gu.le.trans (Loc.AHd _ U),I.gu.grow,λi hi hn=>?_⟩
    have i0:=I.ge s hs K f4 f2
    obtain⟨h1,h2⟩:=I.gu.keep i hi hn
    exact⟨by rw[Loc.YB ρ _ (by omega)];exact h1,h2⟩
   ·intro k J m D F g6
    obtain⟨g7,f5⟩:=O _ m
    rw[Loc.YB ρ _ (λe=>g7 (I.one s hs k J K f5 f4 D f2 F e.symm))]
    exact g6
   ·rw[hp _ X];exact d4 _ _ (Loc.add_same _ _ _)
 unfold wpOp
 simp only[ok.at_]
 unfold AI7 at d
 cases N:s.gd with
 |no=>
  rw[N]at d
  have g8:s.o.guard=none:=by
   have:=ok.gd
   rw[N]at this
   cases V:s.o.guard with
   |none=>rfl
   |some gb=>
    obtain⟨g,b⟩:=gb
    rw[V]at this
    obtain⟨_,_,this⟩:=AB.1 this
    obtain⟨_,_,this⟩:=AB.1 this
    split at this<;>cases this
  rw[if_pos (AHy g8 _)]
  exact .inl (act (by unfold onS;rw[N];trivial) d)
 |on x b=>
  rw[N]at d
  obtain⟨q,hq,d⟩:=d
  have f:=ok.gd
  rw[N]at f
  cases V:s.o.guard with
  |none=>rw[V]at f;cases f
  |some gb=>
   obtain⟨g,b'⟩:=gb
   rw[V]at f
   obtain⟨t,X,f⟩:=AB.1 f
   obtain⟨y,hy,f⟩:=AB.1 f
   split at f
   ·rename_i g9
    cases f
    have hv:=hO _ _ hy
    rw[Zi (o:=s.o) X (by rw[I.size];exact g9) hv hq V]
    by_cases W:q=some b
    ·rw[if_pos W]at d
     rw[if_pos (by simpa using W)]
     exact .inl (act (by unfold onS;rw[N];exact hq.trans (congrArg some W)) d)
    ·rw[if_neg W]at d
     rw[if_neg (by simpa using W)]
     refine A ρ _ _ (mk ρ undef w I.hh I.gu (Loc.le.refl _) (λ_ _ _ _ _ h=>h) λt X=>?_)
     rw[d _ X];exact AJu
   ·cases f
end
variable{P:Program}
section
variable{C:FX}{ops:Array Oper}{ss:List Stp}{Qr:Nat->List Nat}{G:AY}{w0:World}{ρ0:Loc}{H0:Heap}{n0:Nat}{pre post:List Stp}{L:Array Bool}{ids:Nat->Nat}{E:RS}{H:Heap}{n:Nat}{ρ:Loc}{a:Act}{w:World}{call:Au}{K:KE}{Q:Exit->Act->World->Prop}
def reN(G:AY)(x:Stp)(E:RS)(H:Heap):Prop:=∀p an,x.dst=.to p->x.ao=.n an->match x.gd with
 |.no=>an.ev G E H=some (Ls (T.Du p E.rg))
 |.on y b=>∃t,gv (y.ev E)=some t/\(t=some b->an.ev G E H=some (Ls (T.Du p E.rg)))
theorem AJR{A:List Nat}{M:List AI}:∀(done:List Stp),Bl (yH A done++M) G call E H n K->Bl M G call E H n K/\∀x∈done,x.ao.isR=true->x.i∉A->reN G x E H
 |[],h=>⟨h,λx Q=>by cases Q⟩
 |x::r,h=>by
  simp only[yH]at h
  split at h
  ·rename_i J
   simp only[Bool.and_eq_true,Bool.not_eq_true']at J
   cases hi:AOm x with
   |none=>
    rw[hi]at h
    obtain⟨w,d⟩:=AJR r h
    refine⟨w,λy m q u=>?_⟩
    rcases List.mem_cons.1 m with rfl|m
    ·intro p B F k
     unfold AOm at hi
     rw[F,k]at hi
     cases hi
    ·exact d y m q u
   |some U=>
    rw[hi]at h
    unfold AOm at hi
    split at hi
    ·rename_i p B F k
     cases hi
     have I:AdT x.gd G E H p B (Bl (yH A r++M) G call E H n K):=h
     have key:Bl (yH A r++M) G call E H n K/\reN G x E H:=by
      cases C:x.gd with
      |no=>
       rw[C]at I
       have d:AL (B.ev G E H) (λv=>Ji (Es v (Ls (T.Du p E.rg))) (Bl (yH A r++M) G call E H n K)):=I
       rw[AJd]at d
       obtain⟨v,L,d⟩:=d
       rw[FM]at d
       refine⟨d.2,λO D g f=>?_⟩
       rw[F]at g;cases g
       rw[k]at f;cases f
       rw[C]
       show B.ev G E H=_
       rw[L,AQX d.1]
      |on y b=>
       rw[C]at I
       have d:wP (y.ev E) b (AL (B.ev G E H) λv=>Ji (Es v (Ls (T.Du p E.rg))) (Bl (yH A r++M) G call E H n K)) (Bl (yH A r++M) G call E H n K):=I
       rw[YZ]at d
       obtain⟨t,P,d⟩:=d
       by_cases e:t=some b
       ·rw[if_pos e,AJd]at d
        obtain⟨v,L,d⟩:=d
        rw[FM]at d
        refine⟨d.2,λO D g f=>?_⟩
        rw[F]at g;cases g
        rw[k]at f;cases f
        rw[C]
        exact⟨t,P,λ_=>by rw[L,AQX d.1]⟩
       ·rw[if_neg e]at d
        refine⟨d,λO D g f=>?_⟩
        rw[C]
        exact⟨t,P,λR=>absurd R e⟩
     obtain⟨w,d⟩:=AJR r key.1
     refine⟨w,λz N q u=>?_⟩
     rcases List.mem_cons.1 N with rfl|N
     ·exact key.2
     ·exact d z N q u
    ·cases hi
  ·rename_i J
   obtain⟨w,d⟩:=AJR r h
   refine⟨w,λy m q u=>?_⟩
   rcases List.mem_cons.1 m with rfl|m
   ·exfalso
    apply J
    simp only[q,Bool.true_and,Bool.not_eq_true']
    rw[Bool.eq_false_iff]
    intro S
    exact u (by simpa using S)
   ·exact d y m q u
theorem Inv.act(R:Zx P C ops ss Qr)(hc:mV P w0 call)(hg:Xf w0 G){s:Stp}(I:Inv P C ops ss G w0 ρ0 H0 n0 pre (s::post) L ids E H n ρ a w)(hE:s.ao.isE=true)
 (Z:∀e∈s.o.after,Region.binds .any e=true->L.getD e.on false=true) (h:Bl (EC Qr pre (s::post)) G call E H n K) {next:Act->World->Prop}
 (f2:∀E' H' n' M a' w',Inv P C ops ss G w0 ρ0 H0 n0 (pre++[s]) post (L.setIfInBounds s.i true) ids E' H' n' M a' w'->Bl (EC Qr (pre++[s]) post) G call E' H' n' K->next a' w'):wpOp P ops Q s.i next a w:=by
 have d5:s∈ss:=by rw[I.split];simp
 have ok:=R.ok s d5
 obtain⟨B,g6⟩:=R.inj pre s post I.split
 have g7:s∉pre:=λhm=>B s hm rfl
 have g8:L.getD s.i false=false:=by
  cases hl:L.getD s.i false with
  |false=>rfl
  |true=>obtain⟨x,hx,d0⟩:=I.sub _ hl;exact absurd d0 (B x hx)
 have hi:s.i<L.size:=by rw[I.lsz];exact(Array.getElem?_eq_some_iff.1 ok.at_).1
 have d6:=I.reads R d5 g8 (λhp=>absurd hp g7) (λ_=>B) Z
 have hO:=AXn (C:=C) d6
 have f0:∀x,Before ops x s.i->L.getD x false=true:=λx hb=>hb (λi=>L.getD i false) I.closed λo ho=>by
  have:s.o=o:=Option.some.inj (ok.at_.symm.trans ho)
  subst this
  exact Z
 have hL:∀j,(L.setIfInBounds s.i true).getD j false=if s.i=j then true else L.getD j false:=λj=>AFq hi j false
 have d7:∀j,(L.setIfInBounds s.i true).getD j false=false->s.i≠j/\L.getD j false=false:=by
  intro j X
  rw[hL]at X
  by_cases e:s.i=j
  ·rw[if_pos e]at X;cases X
  ·rw[if_neg e]at X;exact⟨e,X⟩
 have f8:∀j,L.getD j false=true->(L.setIfInBounds s.i true).getD j false=true:=by
  intro j X;rw[hL];split
  ·rfl
  ·exact X
 have N:∀(v:V) (k:Stp),k∈pre->L.getD k.i false=false->(∀t,t∈k.rd->T.Du (PK t) E.rg=T.Du (PK t) (FW s.dst v E).rg)/\(∀t,k.dt=some t->T.Du (PK t) E.rg=T.Du (PK t) (FW s.dst v E).rg):=by
  intro v k A m
  have d1:k∈ss:=by rw[I.split];exact List.mem_append_left _ A
  refine⟨λt ht=>?_,λt ht=>?_⟩
  ·refine(LD (ok.ADu λhd=>?_)).symm
   rcases(R.regs s d5 k d1 (λe=>B k A e.symm) t hd).2 ht with hb|⟨_,hb⟩
   ·obtain⟨x,hx,d0⟩:=R.ALB I.split A hb
    exact B x hx d0
   ·rw[f0 _ hb]at m;cases m
  ·refine(LD (ok.ADu λhd=>?_)).symm
   exact(R.regs s d5 k d1 (λe=>B k A e.symm) t hd).1 ht
 have g9:EC Qr pre (s::post)=.op (.mk s.dst s.gd s.ao)::(yH (Qr s.i) pre++EC Qr (pre++[s]) post):=by
  simp only[EC,hE,if_true]
 rw[g9]at h
 have h':AOp.ex (.mk s.dst s.gd s.ao) G call E H n (λE H n=>Bl (yH (Qr s.i) pre++EC Qr (pre++[s]) post) G call E H n K):=h
 have fin:∀(v:V) (H':Heap) (n':Nat) (val:Value) (w':World) (M:Loc),Bl (yH (Qr s.i) pre++EC Qr (pre++[s]) post) G call (FW s.dst v E) H' n' K->Aa M v val->DZ w0 M H' n' w'->IE ρ H n M H' n'->next (a.put s.o.dst val) w':=by
  intro v H' n' val w' M A hv f3 O
  obtain⟨A,i0⟩:=AJR pre A
  refine f2 _ H' n' M _ w' {split:=by rw[I.split];simp,hh:=f3,gu:=I.gu.trans O,lsz:=by simpa using I.lsz,sub:=λi hi=>?_,closed:=?_,eff:=?_,size:=by rw[AFZ];exact I.size,reg:=?_,dfs:=?_,now:=?_,one:=?_,ge:=?_} A
  ·rw[hL]at hi
   by_cases e:s.i=i
   ·exact⟨s,by simp,e⟩
   ·rw[if_neg e]at hi
    obtain⟨x,hx,d0⟩:=I.sub i hi
    exact⟨x,List.mem_append_left _ hx,d0⟩
  ·intro j o X ho e he hb
   apply f8
   replace X:(L.setIfInBounds s.i true).getD j false=true:=X
   rw[hL]at X
   by_cases f9:s.i=j
   ·subst f9
    have:s.o=o:=Option.some.inj (ok.at_.symm.trans ho)
    subst this
    exact Z e he hb
   ·rw[if_neg f9]at X;exact I.closed j o X ho e he hb
  ·intro k A i1
   rcases List.mem_append.1 A with d|d
   ·exact f8 _ (I.eff k d i1)
   ·rw[List.mem_singleton.1 d,hL,if_pos rfl]
  ·intro t ht hl hd
   by_cases S:s.dt=some t
   ·have g0:s.dst=.to (PK t):=by
     rcases ok.dst with⟨h1,_⟩|⟨u,h1,Y,_⟩
     ·rw[h1]at S;cases S
     ·rw[h1]at S;cases S;exact Y
    rw[ok.dt,S,eval_put_same _ (by rw[I.size];exact ht),g0,(uJ _ v E).1,T.VY]
    exact hv
   ·rw[LD (ok.ADu S)]
    have:(a.put s.o.dst val).eval (.tmp t)=a.eval (.tmp t):=by
     rw[ok.dt]
     cases i2:s.dt with
     |none=>rfl
     |some u=>exact eval_put_ne _ (λe=>S (by rw[i2,e]))
    rw[this]
    refine Aa.mono O.le _ _ (I.reg t ht hl λk A m=>hd k (List.mem_append_left _ A) ?_)
    rw[hL,if_neg (λe=>B k A e.symm)];exact m
  ·rw[put_defers,LD ok.AWK]
   have:=I.dfs
   split
   ·rename_i hc;rw[if_pos hc]at this;exact this.mono O.le
   ·rename_i hc;rw[if_neg hc]at this;exact this
  ·intro k A m
   obtain⟨i3,f⟩:=d7 _ m
   rcases List.mem_append.1 A with d|d
   ·have d1:k∈ss:=by rw[I.split];exact List.mem_append_left _ d
    have f4:=R.ok k d1
    obtain⟨h1,Y⟩:=N v k d f
    have D:=I.now k d f
    cases U:k.ao.isR with
    |false=>exact AHZ f4 h1 Y O.grow (λ_ _ i4 i5=>O.keep _ i4 i5) (.inr U) D
    |true=>
     have i6:k.i∉Qr s.i:=λhm=>by rw[f0 _ (R.Qr _ _ hm)]at f;cases f
     have hr:=i0 k d U i6
     obtain⟨p,hp⟩:=R.Aep k d1 U
     cases d2:k.ao with
     |a _=>rw[d2]at U;cases U
     |e _=>rw[d2]at U;cases U
     |n an=>
      have hr:=hr p an hp d2
      unfold AI7 at D⊢
      cases f5:k.gd with
      |no=>
       rw[f5]at hr
       rw[d2]
       exact⟨_,hr,λp' F=>by rw[hp]at F;cases F;rfl⟩
      |on y b=>
       rw[f5]at hr D
       obtain⟨t,ht,hr⟩:=hr
       obtain⟨t0,g3,D⟩:=D
       have W:=f4.gd
       rw[f5]at W
       have:y.ev E=y.ev (FW s.dst v E):=AJJ W (ABA (C:=C) h1)
       rw[this,ht]at g3
       cases g3
       refine⟨t,ht,?_⟩
       by_cases e:t=some b
       ·rw[if_pos e,d2]
        exact⟨_,hr e,λp' F=>by rw[hp]at F;cases F;rfl⟩
       ·rw[if_neg e]at D⊢
        intro p' F
        have i7:T.Du p' E.rg=T.Du p' (FW s.dst v E).rg:=by
         rcases f4.dst with⟨_,g2⟩|⟨u,g1,g2,_⟩
         ·rw[g2]at F;cases F
         ·rw[g2]at F;cases F;exact Y u g1
        rw[<-i7];exact D p' F
   ·exact absurd (by rw[List.mem_singleton.1 d]) i3
  ·intro x hx k A i8 m i9 f6 k0 f7 he
   have g4:∀k∈pre,L.getD k.i false=false->onS k (FW s.dst v E)->onS k E:=λk A m=>AFY (R.ok k (by rw[I.split];exact List.mem_append_left _ A)) (N v k A m).1
   obtain⟨g5,f1⟩:=d7 _ i8
   obtain⟨d3,f⟩:=d7 _ m
   rcases List.mem_append.1 hx with d8|d8
   ·rcases List.mem_append.1 A with d|d
    ·exact I.one x d8 k d f1 f i9 f6 (g4 x d8 f1 k0) (g4 k d f f7) he
    ·exact absurd (by rw[List.mem_singleton.1 d]) d3
   ·exact absurd (by rw[List.mem_singleton.1 d8]) g5
  ·intro k A m f6 f7
   obtain⟨d3,f⟩:=d7 _ m
   rcases List.mem_append.1 A with d|d
   ·exact I.ge k d f f6 (AFY (R.ok k (by rw[I.split];exact List.mem_append_left _ d)) (N v k d f).1 f7)
   ·exact absurd (by rw[List.mem_singleton.1 d]) d3
 obtain⟨wk,k1⟩:=ok.tr
 have act:s.ao.ex G call s.dst E H n (λE H n=>Bl (yH (Qr s.i) pre++EC Qr (pre++[s]) post) G call E H n K)->s.o.wp P a w next Q:=λhx=>
  AP1 hc I.hh hg hO ok.nd k1 hx λv H' n' val w' M A hv f3 k2=>fin v H' n' val w' M A hv f3 k2
 unfold wpOp
 simp only[ok.at_]
 cases W:s.gd with
 |no=>
  rw[W]at h'
  have k3:s.o.guard=none:=by
   have:=ok.gd
   rw[W]at this
   cases d4:s.o.guard with
   |none=>rfl
   |some gb=>
    obtain⟨g,b⟩:=gb
    rw[d4]at this
    obtain⟨_,_,this⟩:=AB.1 this
    obtain⟨_,_,this⟩:=AB.1 this
    split at this<;>cases this
  rw[if_pos (AHy k3 _)]
  exact .inl (act h')
 |on x b=>
  rw[W]at h'
  have Y:wP (x.ev E) b (s.ao.ex G call s.dst E H n λE H n=>Bl (yH (Qr s.i) pre++EC Qr (pre++[s]) post) G call E H n K) (Bl (yH (Qr s.i) pre++EC Qr (pre++[s]) post) G call (FW s.dst (.Dl []) E) H n K):=h'
  rw[YZ]at Y
  obtain⟨q,hq,Y⟩:=Y
  have J:=ok.gd
  rw[W]at J
  cases d4:s.o.guard with
  |none=>rw[d4]at J;cases J
  |some gb=>
   obtain⟨g,b'⟩:=gb
   rw[d4]at J
   obtain⟨t,ht,J⟩:=AB.1 J
   obtain⟨y,hy,J⟩:=AB.1 J
   split at J
   ·rename_i k4
    cases J
    have hv:=hO _ _ hy
    rw[Zi (o:=s.o) ht (by rw[I.size];exact k4) hv hq d4]
    by_cases d9:q=some b
    ·rw[if_pos d9]at Y
     rw[if_pos (by simpa using d9)]
     exact .inl (act Y)
    ·rw[if_neg d9]at Y
     rw[if_neg (by simpa using d9)]
     exact fin (.Dl []) H n undef w ρ Y AJu I.hh (IE.refl _ _ _)
   ·cases J
end
variable{P:Program}
section
variable{C:FX}{ops:Array Oper}{ss:List Stp}{Qr:Nat->List Nat}{G:AY}{w0:World}{ρ0:Loc}{H0:Heap}{n0:Nat}{call:Au}{K:KE}{Q:Exit->Act->World->Prop}
theorem filter_lt{α:Type}{p q:α->Bool}:∀{l:List α},(∀x∈l,q x=true->p x=true)->(∃x∈l,p x=true/\q x=false)->(l.filter q).length<(l.filter p).length
 |[],_,⟨x,d,_⟩=>by cases d
 |y::l,h,d=>by
  have m:∀{l:List α},(∀x∈l,q x=true->p x=true)->(l.filter q).length<=(l.filter p).length:=by
   intro l
   induction l with
   |nil=>intro _;simp
   |cons z l w=>
    intro h
    have:=w λx d=>h x (List.mem_cons_of_mem _ d)
    simp only[List.filter_cons]
    cases k:q z with
    |true=>rw[h z List.mem_cons_self k];simpa using this
    |false=>cases v:p z<;>simp<;>omega
  have u:=λx d=>h x (List.mem_cons_of_mem y d)
  simp only[List.filter_cons]
  cases k:q y with
  |true=>
   rw[h y List.mem_cons_self k]
   obtain⟨x,d,g,i⟩:=d
   have f:x∈l:=by
    rcases List.mem_cons.1 d with rfl|d
    ·rw[k]at i;cases i
    ·exact d
   have:=filter_lt u ⟨x,f,g,i⟩
   simpa using this
  |false=>
   cases v:p y with
   |true=>have:=m u;simp;omega
   |false=>
    obtain⟨x,d,g,i⟩:=d
    have f:x∈l:=by
     rcases List.mem_cons.1 d with rfl|d
     ·rw[v]at g;cases g
     ·exact d
    have:=filter_lt u ⟨x,f,g,i⟩
    simpa using this
theorem Inv.Aem(R:Zx P C ops ss Qr):∀(f:List Stp) {pre d:List Stp} {L:Array Bool} {ids:Nat->Nat} {E:RS} {H:Heap} {n:Nat} {ρ:Loc} {a:Act} {w:World},Inv P C ops ss G w0 ρ0 H0 n0 pre (f++d) L ids E H n ρ a w->(∀s∈f,s.ao.isE=false)->
 Bl (EC Qr pre (f++d)) G call E H n K->∃g k H' n',Inv P C ops ss G w0 ρ0 H0 n0 (pre++f) d L g k H' n' ρ a w/\Bl (EC Qr (pre++f) d) G call k H' n' K
 |[],pre,d,L,ids,E,H,n,ρ,a,w,I,_,h=>⟨ids,E,H,n,by simpa using I,by simpa using h⟩
 |s::f,pre,d,L,ids,E,H,n,ρ,a,w,I,m,h=>by
  obtain⟨g,k,H',n',u,v⟩:=Inv.adv R (post:=f++d) I (m s List.mem_cons_self) h
  obtain⟨i,y,A,B,p,q⟩:=Inv.Aem R f u (λx D=>m x (List.mem_cons_of_mem _ D)) v
  rw[List.append_assoc,List.singleton_append]at p q
  exact⟨i,y,A,B,p,q⟩
theorem AX7{L:Array Bool}{s:Stp}(ok:ACj P C ops s)(f:L.size=ops.size)(d:L.getD s.i false=false)(g:∀e∈s.o.after,Region.binds .any e=true->L.getD e.on false=true):s.i∈Region.ready .any ops L:=by
 rw[mem_ready]
 have k:s.i<L.size:=by rw[f];exact(Array.getElem?_eq_some_iff.1 ok.at_).1
 refine⟨?_,s.o,ok.at_,g⟩
 simp only[Array.getD,k,dite_true]at d⊢
 exact d
theorem Inv.ends(R:Zx P C ops ss Qr){pre post:List Stp}{L:Array Bool}{ids:Nat->Nat}{E:RS}{H:Heap}{n:Nat}{ρ:Loc}{a:Act}{w:World}(I:Inv P C ops ss G w0 ρ0 H0 n0 pre post L ids E H n ρ a w)(J:Region.ready .any ops L=[])
 (h:Bl (EC Qr pre post) G call E H n K) (M:∀E H n a w ρ,K E H n->DZ w0 ρ H n w->Rg C ρ E.rg a->IE ρ0 H0 n0 ρ H n->Q .normal a w):Q .normal a w:=by
 have A:∀(q p:List Stp),ss=p++q->(∀x∈p,L.getD x.i false=true)->∀x∈ss,L.getD x.i false=true:=by
  intro q
  induction q with
  |nil=>intro p g v x d;rw[g,List.append_nil]at d;exact v x d
  |cons s q N=>
   intro p g v
   refine N (p++[s]) (by rw[g];simp) λx d=>?_
   rcases List.mem_append.1 d with d|d
   ·exact v x d
   ·have k:s∈ss:=by rw[g];simp
    rw[List.mem_singleton.1 d]
    cases B:L.getD s.i false with
    |true=>rfl
    |false=>
     have:=AX7 (R.ok s k) I.lsz B λe O S=>by
      obtain⟨y,T,D⟩:=R.Adj p s q g e O S
      rw[<-D];exact v y T
     rw[J]at this;cases this
 have f:=A ss [] rfl (λx d=>by cases d)
 have m:post=[]:=by
  cases post with
  |nil=>rfl
  |cons s r=>
   have k:s∈ss:=by rw[I.split];simp
   obtain⟨x,d,F⟩:=I.sub _ (f s k)
   exact absurd F ((R.inj pre s r I.split).1 x d)
 subst m
 refine M E H n a w ρ h I.hh ⟨I.size,λt U B=>I.reg t U B λs g u=>?_,I.dfs⟩ I.gu
 rw[f s (by rw[I.split];exact List.mem_append_left _ g)]at u;cases u
theorem ALM(R:Zx P C ops ss Qr)(hc:mV P w0 call)(F:Xf w0 G)(O:∀E H n a w ρ,K E H n->DZ w0 ρ H n w->Rg C ρ E.rg a->IE ρ0 H0 n0 ρ H n->Q .normal a w):
 ∀(fuel:Nat) (pre post:List Stp) (L:Array Bool) (ids:Nat->Nat) (E:RS) (H:Heap) (n:Nat) (ρ:Loc) (a:Act) (w:World),Inv P C ops ss G w0 ρ0 H0 n0 pre post L ids E H n ρ a w->Bl (EC Qr pre post) G call E H n K->
  (ss.filter λs=> !L.getD s.i false).length<=fuel->wpAny P .any ops Q fuel L a w
 |0,pre,post,L,ids,E,H,n,ρ,a,w,I,h,hf=>by
  have J:Region.ready .any ops L=[]:=by
   cases S:Region.ready .any ops L with
   |nil=>rfl
   |cons i r=>
    have T:i∈Region.ready .any ops L:=by rw[S];exact List.mem_cons_self
    obtain⟨g,o,M,_⟩:=mem_ready.1 T
    have k:=(Array.getElem?_eq_some_iff.1 M).1
    obtain⟨s,v,rfl⟩:=R.all i k
    have hm:s∈ss.filter λs=> !L.getD s.i false:=by
     rw[List.mem_filter]
     refine⟨v,?_⟩
     have f:s.i<L.size:=by rw[I.lsz];exact k
     simp only[Array.getD,f,dite_true]at g⊢
     rw[g];rfl
    have:(ss.filter λs=> !L.getD s.i false)=[]:=List.length_eq_zero_iff.1 (by omega)
    rw[this]at hm;cases hm
  exact⟨J,I.ends R J h O⟩
 |fuel+1,pre,post,L,ids,E,H,n,ρ,a,w,I,h,hf=>by
  refine⟨λJ=>I.ends R J h O,λi T=>?_⟩
  obtain⟨u,o,M,m⟩:=mem_ready.1 T
  have k:=(Array.getElem?_eq_some_iff.1 M).1
  obtain⟨s,v,rfl⟩:=R.all i k
  have ok:=R.ok s v
  have U:s.o=o:=Option.some.inj (ok.at_.symm.trans M)
  subst U
  have f:s.i<L.size:=by rw[I.lsz];exact k
  have g:L.getD s.i false=false:=by
   simp only[Array.getD,f,dite_true]at u⊢
   exact u
  have d:(ss.filter λx=> !(L.setIfInBounds s.i true).getD x.i false).length<=fuel:=by
   have:=filter_lt (p:=λx:Stp=> !L.getD x.i false) (q:=λx:Stp=> !(L.setIfInBounds s.i true).getD x.i false) (l:=ss) (λx _ A=>by
    rw[AFq f]at A
    by_cases e:s.i=x.i
    ·rw[if_pos e]at A;cases A
    ·rw[if_neg e]at A;exact A) ⟨s,v,by rw[g];rfl,by rw[AFq f,if_pos rfl];rfl⟩
   omega
  have V:=ALM R hc F O fuel
  by_cases hp:s∈pre
  ·exact I.late R F hp g m fun ρ' a' w' N=>V _ _ _ _ _ _ _ _ _ _ N h d
  ·have W:s∈post:=by
    rw[I.split]at v
    exact(List.mem_append.1 v).resolve_left hp
   obtain⟨p1,p2,rfl⟩:=List.append_of_mem W
   have B:∀x,Before ops x s.i->L.getD x false=true:=λx X=>X (λi=>L.getD i false) I.closed λo Y=>by
    have:s.o=o:=Option.some.inj (ok.at_.symm.trans Y)
    subst this
    exact m
   have D:∀x∈p1,x.ao.isE=false:=by
    intro x hx
    cases he:x.ao.isE with
    |false=>rfl
    |true=>
     obtain⟨q1,q2,rfl⟩:=List.append_of_mem hx
     have X:=R.act (pre++q1) x q2 s p2 (by rw[I.split];simp) he
     obtain⟨y,hy,Z⟩:=I.sub _ (B _ X)
     exact absurd Z ((R.inj (pre++q1) x (q2++s::p2) (by rw[I.split];simp)).1 y (List.mem_append_left _ hy))
   obtain⟨d0,E',H',n',N,h'⟩:=Inv.Aem R p1 I D h
   cases hE:s.ao.isE with
   |true=>exact N.act R hc F hE m h' λE2 H2 n2 d2 a2 w2 I2 h2=>V _ _ _ _ _ _ _ _ _ _ I2 h2 d
   |false=>
    obtain⟨d1,E2,H2,n2,I2,h2⟩:=N.adv R hE h'
    exact I2.late R F (by simp) g m fun ρ' a' w' I3=>V _ _ _ _ _ _ _ _ _ _ I3 h2 d
theorem AV8(q:P.follows .mixedOrders=true)(R:Zx P C ops ss Qr)(u:mV P w0 call)(v:Xf w0 G){id:Nat}{k:Ih}{a:Act}{w:World}(hh:DZ w0 ρ0 H0 n0 w)(m:Rg C ρ0 k a)
 (h:Bl (EC Qr [] ss) G call (.mk [] k) H0 n0 K) (x:∀E H n a w ρ,K E H n->DZ w0 ρ H n w->Rg C ρ E.rg a->IE ρ0 H0 n0 ρ H n->Q .normal a w):(Code.region id ops true).wp P Q a w:=by
 refine wp_region_any q ?_
 have d:∀i,(Array.replicate ops.size false).getD i false=false:=by
  intro i
  simp only[Array.getD]
  split<;>simp
 refine ALM R u v x ops.size [] ss (Array.replicate ops.size false) (λ_=>0) (.mk [] k) H0 n0 ρ0 a _ ?_ h ?_
 ·refine{split:=rfl,hh:=hh.of_same rfl rfl rfl,gu:=IE.refl _ _ _,lsz:=by simp,sub:=?_,closed:=?_,eff:=?_,size:=m.size,reg:=λt y A _=>m.reg t y A,dfs:=m.dfs,now:=?_,one:=?_,ge:=?_}
  ·intro i p;rw[d]at p;cases p
  ·intro j o g
   replace g:(Array.replicate ops.size false).getD j false=true:=g
   rw[d]at g;cases g
  ·intro s f;cases f
  ·intro s f;cases f
  ·intro s f;cases f
  ·intro s f;cases f
 ·exact Nat.le_trans (List.length_filter_le _ _) R.len
end
end Go.Bf
