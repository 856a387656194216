/- Part of a proof; nothing is assumed. -/
import Derived.Test.YtdellhdojgpghaaGreatDoorEngC
import Derived.Laws.IdiomStrings
import Derived.Orders
set_option linter.unusedVariables false
set_option linter.unusedSimpArgs false
noncomputable section
namespace Go.Bj
variable{P:Program}
theorem AHT{esz:Nat}:∀(m:Nat) (LS:CJ),(∀L∈LS,L.length=esz)->(LS.take m).flatten=LS.flatten.take (m*esz)
 |0,LS,_=>by simp
 |m+1,[],_=>by simp
 |m+1,L::LS,h=>by
  have hL:=h L List.mem_cons_self
  rw[List.take_succ_cons,List.flatten_cons,List.flatten_cons,AHT m LS (λK hK=>h K (List.mem_cons_of_mem _ hK)),Nat.add_mul,Nat.one_mul,List.take_append]
  rw[List.take_of_length_le (l:=L) (by omega),hL,show m*esz+esz-esz=m*esz by omega]
theorem ANM{t u e:TypeId}{esz:Nat}(ty:TypeId)(ht:P.underlying t=some (.slice e))(hz:szT P e=some esz){w0:World}{ρ:Loc}{H:Heap}{n:Nat}{w:World}(hh:D8 w0 ρ H n w){G:AV}(hg:Vg w0 G)
 {x y:V} {ux uy:Value} (hx:AZ ρ x ux) (hy:AZ ρ y uy) {LS:CJ} (hel:elems y G H esz=some LS) {k:KV} (h:AKY x esz LS H n k):
 AJx P w0 ρ H n w (Builtin.copy_ #[t,u] ty #[ux,uy]) k:=by
 obtain⟨cs,hr,hcl,hl,h1,hs⟩:=AH7 (P:=P) hh hg hy hel
 have hso:=run_sizeOf (P:=P) hz
 have key:∀(id off ln:Nat) (a:Addr) (cap:Nat) (xi:Info),ρ id=some xi->(cap=0∨a=⟨xi.b,xi.base+off*esz,none⟩)->ln<=cap->AFI id off ln esz LS H n k->
  AJx P w0 ρ H n w (Builtin.copy_ #[t,u] ty #[.slice (some a) ln cap,uy]) k:=by
  intro id off ln a cap xi hxi ha hle h
  unfold AFI at h
  rw[Jy]at h
  obtain⟨b,hget,hin⟩:=h
  cases b with
  |map _ _=>exact False.elim hin
  |dead=>exact False.elim hin
  |iZ _ _ _ _ _=>exact False.elim hin
  |own _=>exact False.elim hin
  |arr esz' cnt c=>
   have hin':EJ (band (Nat.beq esz esz') (Nat.ble (Nat.add off (len (Yc ln LS))) cnt)) (DU (len (Yc ln LS)) λm=>k (.int .i64 (.ofNat m) 0) (T.set H id (.arr esz cnt (Ew (Yc ln LS) off c))) n):=hin
   simp only[Fp,BO,Bool.and_eq_true,beq_iff,BL,len_eq,iI]at hin'
   obtain⟨⟨rfl,hfit⟩,hk⟩:=hin'
   have hfit':off+(LS.take ln).length<=cnt:=Nat.le_of_ble_eq_true hfit
   have hmin:Nat.min LS.length ln=(LS.take ln).length:=by rw[List.length_take];exact Nat.min_comm _ _
   have htl:(LS.take ln).length<=LS.length:=by simp;omega
   have hrt:CV ρ (LS.take ln).flatten (cs.take ((LS.take ln).length*esz)):=by
    have e1:LS.take ln=LS.take (LS.take ln).length:=by rw[List.length_take];exact List.take_eq_take_iff.2 (by omega)
    rw[e1,AHT _ LS hl,<-e1]
    exact hr.take _
   have hclt:(cs.take ((LS.take ln).length*esz)).length=(LS.take ln).length*esz:=by
    rw[List.length_take,hcl]
    exact Nat.min_eq_left (Nat.mul_le_mul_right _ htl)
   have h1t:∀y∈cs.take ((LS.take ln).length*esz),y.oneCell'=true:=λy hy=>h1 y (List.mem_of_mem_take hy)
   have hlt:∀L∈LS.take ln,L.length=esz:=λL hL=>hl L (List.mem_of_mem_take hL)
   obtain⟨vs,tt,fz,har⟩:=hh.arr id xi esz cnt c hxi hget
   obtain⟨hsz,har'⟩:=har.puts hfit' hrt hlt hclt h1t
   have hst:(storeCells a (cs.take ((LS.take ln).length*esz))).run P w=.ok () (w.setRow xi.b (OO vs.toList (xi.base+off*esz) (cs.take ((LS.take ln).length*esz))).toArray):=by
    rcases ha with h0|rfl
    ·have hz0:(LS.take ln).length=0:=by rw[List.length_take];omega
     have hn0:cs.take ((LS.take ln).length*esz)=[]:=by rw[hz0];simp
     rw[hn0,dZ]
     have:(OO vs.toList (xi.base+off*esz) []).toArray=vs:=by simp[OO]
     rw[this,setRow_self w xi.b vs tt fz har.heap]
    ·have hru:=Jl (P:=P) xi.b (xi.base+off*esz) tt fz (cs.take ((LS.take ln).length*esz)) 0 vs w har.heap (by rw[har.size];exact har.free) (by simpa using hsz) h1t
     simpa using hru
   have hf:=hs.fst (LS.take ln).length htl w rfl
   have hrun:(Builtin.copy_ #[t,u] ty #[.slice (some a) ln cap,uy]).run P w=.ok (.int .i64 (LS.take ln).length) (w.setRow xi.b (OO vs.toList (xi.base+off*esz) (cs.take ((LS.take ln).length*esz))).toArray):=by
    simp only[Builtin.copy_,List.getElem?_toArray,List.getElem?_cons_zero,List.getElem?_cons_succ,Sem.run_bind,run_underlying ht,hs.len,hso,hmin,hf,Result.andThen_ok,hst,Sem.run_pure,goInt]
   refine⟨_,_,_,_,_,ρ,hk,hrun,?_,?_,Ij.turn hxi _⟩
   ·simp only[AZ];rfl
   ·refine hh.turn hxi ⟨_,hget,by simp⟩ (setRow_size _ _ _) (λk hk=>setRow_other _ _ _ _ hk) (setRow_os _ _ _) (setRow_output _ _ _) ?_ (λes ck he=>by cases he) (λ_=>by rw[hget];simp) (λ_ _ _ _ _ he=>by cases he)
    intro e2 n2 c2 he
    cases he
    exact⟨_,_,_,har'⟩
 cases x<;>simp only[AKY]at h<;>try (exact absurd h (λh=>h))
 ·simp only[AZ]at hx
  subst hx
  have hf:=hs.fst 0 (Nat.zero_le _) w rfl
  have hrun:(Builtin.copy_ #[t,u] ty #[.slice none 0 0,uy]).run P w=.ok (.int .i64 0) w:=by
   have hmin:Nat.min LS.length 0=0:=Nat.min_zero _
   simp only[Builtin.copy_,List.getElem?_toArray,List.getElem?_cons_zero,List.getElem?_cons_succ,Sem.run_bind,run_underlying ht,hs.len,hso,hmin,hf,Result.andThen_ok,Sem.run_pure,goInt]
   rfl
  exact⟨_,_,_,_,_,ρ,h,hrun,by simp only[AZ];rfl,hh,Ij.refl _ _ _⟩
 ·simp only[Fp]at h
  obtain⟨hes,h⟩:=h
  have:=Nat.eq_of_beq_eq_true hes
  subst this
  simp only[AZ]at hx
  obtain⟨xi,a,hxi,rfl,ha,hle⟩:=hx
  exact key _ _ _ a _ xi hxi ha hle h
 ·simp only[Fp]at h
  obtain⟨hes,h⟩:=h
  have:=Nat.eq_of_beq_eq_true hes
  subst this
  simp only[AZ]at hx
  obtain⟨xi,a,cp,hxi,rfl,ha,hle,_⟩:=hx
  exact key _ _ _ a _ xi hxi ha hle h
theorem AI8.fz{ρ:Loc}{size cnt:Nat}{c:T LV}{vs:Array Value}{t:TypeId}(h:AI8 ρ size (.arr 1 cnt c) (.cells vs t)){fz:Nat×Nat}(hf:qC fz size):AI8 ρ size (.arr 1 cnt c) (.cells vs t fz):=by
 obtain⟨vs',t',fz',e,h2,_,_,h4,h5,h6⟩:=h
 cases e
 exact⟨_,_,_,rfl,h2,hf,.inl rfl,h4,h5,h6⟩
theorem AQP{src dst e:TypeId}(hs:P.underlying src=some .string)(hd:P.underlying dst=some (.slice e))(he:P.underlying e=some (.int .u8)){w0:World}{ρ:Loc}{H:Heap}{n:Nat}{w:World}(hh:D8 w0 ρ H n w)
 {l c:Nat} {u:Value} (hx:AZ ρ (.str l c) u) {k:KV} (h:k (.G6 n 0 l 1) (T.set H n (.arr 1 l (Ew (TV l c) 0 .e))) (n+1)):AJx P w0 ρ H n w (convert src dst u) k:=by
 obtain⟨s,rfl,rfl,rfl⟩:=J8 hx
 obtain⟨h1,h2,h3⟩:=sD (ρ:=ρ) s.data.toList
 have hrun:=run_bytes_of_string (P:=P) w src dst e s hs hd he
 have hge:=grownCap_ge w s.size 0 e
 have hnr:=AE4 (ρ:=ρ) (esz:=1) (c0:=.e) (ln:=0) (olds:=[]) (by simp) (λy h=>(by cases h)) (λe h=>(by omega)) (LS:=TV s.data.toList.length (enc s.data.toList)) h1 h3 (by rw[List.length_map,h2];omega)
  (by intro y hy;obtain⟨b,_,rfl⟩:=List.mem_map.1 hy;rfl) (zs:=Array.replicate (grownCap w s.size 0 e-s.size) (.int .u8 0)) (by intro y hy;simp at hy;rw[hy.2];rfl) e (need:=s.data.toList.length) (by rw[h2];omega)
 have hrow:(#[]:Array Value)++(s.data.toList.map λb=>Value.int .u8 b.toNat).toArray++Array.replicate (grownCap w s.size 0 e-s.size) (.int .u8 0)=bytesRow s (grownCap w s.size 0 e):=by
  unfold bytesRow
  apply Array.toList_inj.1
  simp
 rw[hrow]at hnr
 have hnr2:=hnr.fz (fz:=((bytesRow s (grownCap w s.size 0 e)).size,(bytesRow s (grownCap w s.size 0 e)).size+1)) (λi hi h=>by simp only at h;omega)
 refine⟨_,_,_,_,_,_,h,hrun,?_,hh.drew.new hnr2,Ij.place _ hh.AAO⟩
 refine⟨⟨w.heap.size,0,(bytesRow s (grownCap w s.size 0 e)).size⟩,⟨w.heap.size,0,none⟩,grownCap w s.size 0 e,Loc.add_same _ _ _,?_,.inr ?_,?_,?_⟩
 ·rw[Og]
 ·simp
 ·rw[<-Og];exact hge
 ·simp only[bytesRow,Array.size_append,Array.size_map,Array.size_replicate]
  have:s.data.size=s.size:=rfl
  omega
theorem ANJ{b:Nat}{o o':Obj}{w:World}(h:w.heap[b]? =some o)(hm:∃es ck,o=.map es ck):∃w',(setObj b o').run P w=.ok () w'/\w'.heap.size=w.heap.size/\w'.heap[b]? =some o'/\(∀k,k≠b->w'.heap[k]? =w.heap[k]?)/\w'.os=w.os/\w'.output=w.output:=by
 obtain⟨es,ck,rfl⟩:=hm
 have hlt:b<w.heap.size:=(Array.getElem?_eq_some_iff.1 h).1
 refine⟨{w with heap:=w.heap.setIfInBounds b o'},?_,by simp,by simp[hlt],λk hk=>by simp[Array.getElem?_setIfInBounds_ne (Ne.symm hk)],rfl,rfl⟩
 simp[setObj,Sem.run,h]
variable{P:Program}
def ATF(P:Program)(w0:World)(ρ:Loc)(H:Heap)(n:Nat)(w:World)(s:Sem Unit)(k:Heap->Prop):Prop:=
 ∃H' w',k H'/\s.run P w=.ok () w'/\D8 w0 ρ H' n w'/\Ij ρ H n ρ H' n
theorem AQp{t:TypeId}{sz:Nat}(hz:szT P t=some sz){w0:World}{ρ:Loc}{H:Heap}{n:Nat}{w:World}(hh:D8 w0 ρ H n w){x v:V}{ux uv:Value}(hx:AZ ρ x ux)(hv:AZ ρ v uv){k:Heap->Prop}
 (h:EJ (band (Wi v) (Nat.beq (len (BA v)) sz)) (EN (stP x H sz (BA v)) k)):ATF P w0 ρ H n w (Instr.storeAt t ux uv) k:=by
 simp only[Fp,BO,Bool.and_eq_true,beq_iff,len_eq,Jy]at h
 obtain⟨⟨hok,hlen⟩,H',hst,hk⟩:=h
 obtain⟨hr,h1⟩:=vU hv hok
 have hcl:uv.cells.toList.length=sz:=by rw[<-hr.length,hlen]
 rw[<-hcl]at hst
 obtain⟨a,w',rfl,hrun,hh',hg⟩:=ARF (P:=P) hh hx hst hr h1
 refine⟨H',w',hk,?_,hh',hg⟩
 have hso:=run_sizeOf (P:=P) hz w
 have hcs:uv.cells.size=sz:=by simpa using hcl
 simp[Instr.storeAt,Instr.sureAddr,storeVar,hso,hcs,hrun]
theorem AFo{w0:World}{ρ:Loc}{H:Heap}{n:Nat}{w:World}(hh:D8 w0 ρ H n w){m:V}{u:Value}(hm:AZ ρ m u){f:ME->Nat->Option Qc}{k:Heap->Prop}(h:AGx m H f k):
 ∃id x es ck b,∃es':Array MapEntry,ρ id=some x/\u=.map (some x.b)/\T.get H id=some (.map es ck)/\f es ck=some b/\k (T.set H id b)/\w.heap[x.b]? =some (.map es' ck)/\Lh ρ es es'.toList:=by
 cases m<;>simp only[AGx]at h<;>try (exact absurd h (λh=>h))
 rename_i id
 simp only[AZ]at hm
 obtain⟨x,hx,rfl⟩:=hm
 unfold AaN at h
 rw[Jy]at h
 obtain⟨b,hb,h⟩:=h
 rw[Jy]at h
 obtain⟨b',hb',hk⟩:=h
 cases b with
 |arr _ _ _=>cases hb'
 |dead=>cases hb'
 |iZ _ _ _ _ _=>cases hb'
 |own _=>cases hb'
 |map es ck=>
  obtain⟨es',he,hr⟩:=hh.map id x es ck hx hb
  exact⟨id,x,es,ck,b',es',hx,rfl,hb,hb',hk,he,hr⟩
theorem rY{w0:World}{ρ:Loc}{H:Heap}{n:Nat}{w:World}(hh:D8 w0 ρ H n w){id:Nat}{x:Info}(hx:ρ id=some x){es:ME}{ck:Nat}(hget:T.get H id=some (.map es ck)){es0:Array MapEntry}(hw:w.heap[x.b]? =some (.map es0 ck))
 {es2:ME} {ck2:Nat} {es3:Array MapEntry} (hr:Lh ρ es2 es3.toList):∃w',(setObj x.b (.map es3 ck2)).run P w=.ok () w'/\D8 w0 ρ (T.set H id (.map es2 ck2)) n w'/\Ij ρ H n ρ (T.set H id (.map es2 ck2)) n:=by
 obtain⟨w',hrun,hsz,hnew,hoth,hos,hout⟩:=ANJ (P:=P) (o':=.map es3 ck2) hw ⟨_,_,rfl⟩
 refine⟨w',hrun,?_,Ij.turn hx _⟩
 exact hh.turn hx ⟨_,hget,by simp⟩ hsz hoth hos hout (λe c t he=>by cases he) (λe c he=>by cases he;exact⟨es3,hnew,hr⟩) (λ_=>by rw[hget];simp) (λ_ _ _ _ _ he=>by cases he)
theorem Lh.append{ρ:Loc}:∀{a b:ME} {x y:List MapEntry},Lh ρ a x->Lh ρ b y->Lh ρ (a++b) (x++y)
 |[],b,x,y,h,h'=>by simp only[Lh]at h;subst h;simpa using h'
 |(k,v,c)::a,b,x,y,h,h'=>by
  simp only[Lh]at h
  obtain⟨e,es,rfl,h1,h2,h3,h4⟩:=h
  exact⟨e,es++y,rfl,h1,h2,h3,h4.append h'⟩
theorem Lh.set{ρ:Loc}{k v:V}{c:Nat}{e:MapEntry}(h1:AZ ρ k e.key)(h2:AZ ρ v e.val)(h3:e.born=c):∀{a:ME} {x:List MapEntry} (i:Nat),Lh ρ a x->Lh ρ (a.set i (k,v,c)) (x.set i e)
 |[],x,i,h=>by simp only[Lh]at h;subst h;simp[Lh]
 |(k',v',c')::a,x,i,h=>by
  simp only[Lh]at h
  obtain⟨e',es,rfl,g1,g2,g3,g4⟩:=h
  cases i with
  |zero=>exact⟨e,es,rfl,h1,h2,h3,g4⟩
  |succ i=>exact⟨e',es.set i e,rfl,g1,g2,g3,Lh.set h1 h2 h3 i g4⟩
theorem Lh.erase{ρ:Loc}:∀{a:ME} {x:List MapEntry} (i:Nat),Lh ρ a x->Lh ρ (a.eraseIdx i) (x.eraseIdx i)
 |[],x,i,h=>by simp only[Lh]at h;subst h;simp[Lh]
 |(k',v',c')::a,x,i,h=>by
  simp only[Lh]at h
  obtain⟨e',es,rfl,g1,g2,g3,g4⟩:=h
  cases i with
  |zero=>exact g4
  |succ i=>exact⟨e',es.eraseIdx i,rfl,g1,g2,g3,Lh.erase i g4⟩
theorem run_findKey{kt:TypeId}{d:TypeDesc}(hd:P.underlying kt=some d){u:Value}{es:List MapEntry}{q:Option (Nat×Value)}(h:Instr.findNow d u es 0=some q)(w:World):(Instr.findKey kt u es).run P w=.ok q w:=by
 simp[Instr.findKey,run_underlying hd,h]
theorem AMP{α:Type}{l:List α}{i:Nat}{f:α->α}{a:α}(h:l[i]? =some a):l.modify i f=l.set i (f a):=by
 apply List.ext_getElem?
 intro j
 by_cases hj:i=j
 ·subst hj
  rw[List.getElem?_modify_eq,h]
  have:=(List.getElem?_eq_some_iff.1 h).1
  simp[this]
 ·rw[List.getElem?_modify_ne (h:=hj),List.getElem?_set_ne hj]
theorem AHs{t kt et:TypeId}{c:CK}{d:TypeDesc}(ht:P.underlying t=some (.map kt et))(hd:P.underlying kt=some d)(hk:ABV P kt=some c){w0:World}{ρ:Loc}{H:Heap}{n:Nat}{w:World}(hh:D8 w0 ρ H n w)
 {m key v:V} {um uk uv:Value} (hm:AZ ρ m um) (hkr:AZ ρ key uk) (hv:AZ ρ v uv) {k:Heap->Prop} (h:AGx m H (ANV c key v) k):ATF P w0 ρ H n w (Instr.mapUpdate t um uk uv) k:=by
 obtain⟨id,x,es,ck,b,es',hx,rfl,hget,hf,hk',hw,hr⟩:=AFo hh hm h
 unfold ANV at hf
 rw[Bg]at hf
 obtain⟨r,hfind,hf⟩:=hf
 have hck:=run_checkKey (P:=P) hk false 9999 uk w
 rcases jf hd hk hkr hfind hr with⟨rfl,hfn⟩|⟨j,kv,v0,v1,b0,e0,rfl,hfn,_,hes,hes',hke,hbo,hkv,hsame⟩
 ·have hf':some (Qc.map (cat es [(key,v,ck)]) (Nat.succ ck))=some b:=hf
  cases hf'
  rw[AJA]at hk'
  obtain⟨w',hrun,hh',hg⟩:=rY (P:=P) hh hx hget hw (es2:=es++[(key,v,ck)]) (ck2:=ck+1) (es3:=es'.push ⟨uk,uv,ck⟩) (by rw[Array.toList_push];exact hr.append ⟨_,[],rfl,hkr,hv,rfl,by simp[Lh]⟩)
  refine⟨_,w',hk',?_,hh',hg⟩
  simp only[Instr.mapUpdate,Sem.run_bind,run_underlying ht,Result.andThen_ok,TT hw,hck,run_findKey hd hfn,hrun]
 ·have hf':Bl (nth es (0+j)) (λe=>some (Qc.map (jQ (e.1,v,e.2.2) es (0+j)) ck))=some b:=hf
  rw[Nat.zero_add]at hf' hfn
  rw[Bg]at hf'
  obtain⟨e1,he1,hf'⟩:=hf'
  rw[kQ,hes]at he1
  cases he1
  cases hf'
  rw[AHY]at hk'
  have hj:j<es'.size:=by have:=(List.getElem?_eq_some_iff.1 hes').1;simpa using this
  have hmod:(es'.modify j λe=>{e with key:=uk,val:=uv}).toList=es'.toList.set j {e0 with key:=uk,val:=uv}:=by
   rw[Array.toList_modify,AMP hes']
  have hsb:Instr.sameBits 10000 (((es'[j]?).map (·.key)).getD uk) uk=true:=by
   have:es'[j]? =some e0:=by rw[<-Array.getElem?_toList];exact hes'
   rw[this]
   simp only[Option.map_some,Option.getD_some,hke]
   exact hsame
  obtain⟨w',hrun,hh',hg⟩:=rY (P:=P) hh hx hget hw (es2:=es.set j (kv,v,b0)) (ck2:=ck) (es3:=es'.modify j λe=>{e with key:=uk,val:=uv}) (by rw[hmod];exact Lh.set (e:={e0 with key:=uk,val:=uv}) hkv hv hbo j hr)
  refine⟨_,w',hk',?_,hh',hg⟩
  simp only[Instr.mapUpdate,Sem.run_bind,run_underlying ht,Result.andThen_ok,TT hw,hck,run_findKey hd hfn,Instr.keyThatStays,hsb,if_true,Sem.run_pure,hrun]
theorem AQI{t kt et:TypeId}{c:CK}{d:TypeDesc}(ht:P.underlying t=some (.map kt et))(hd:P.underlying kt=some d)(hk:ABV P kt=some c){w0:World}{ρ:Loc}{H:Heap}{n:Nat}{w:World}(hh:D8 w0 ρ H n w)
 {m key:V} {um uk:Value} (hm:AZ ρ m um) (hkr:AZ ρ key uk) (u ty:TypeId) {k:KV} (h:AGx m H (AYS c key) λH=>k (.EI []) H n):AJx P w0 ρ H n w (Builtin.delete_ #[t,u] ty #[um,uk]) k:=by
 obtain⟨id,x,es,ck,b,es',hx,rfl,hget,hf,hk',hw,hr⟩:=AFo hh hm h
 unfold AYS at hf
 rw[Bg]at hf
 obtain⟨r,hfind,hf⟩:=hf
 have hck:=run_checkKey (P:=P) hk es'.isEmpty 9999 uk w
 rcases jf hd hk hkr hfind hr with⟨rfl,hfn⟩|⟨j,kv,v0,v1,b0,e0,rfl,hfn,_,hes,hes',hke,hbo,hkv,hsame⟩
 ·have hf':some (Qc.map es ck)=some b:=hf
  cases hf'
  obtain⟨w',hrun,hh',hg⟩:=rY (P:=P) hh hx hget hw (es2:=es) (ck2:=ck) (es3:=es') hr
  refine⟨_,_,_,.tuple #[],w',ρ,hk',?_,⟨#[],rfl,by simp⟩,hh',hg⟩
  simp only[Builtin.delete_,List.getElem?_toArray,List.getElem?_cons_zero,List.getElem?_cons_succ,Sem.run_bind,run_underlying ht,Result.andThen_ok,TT hw,hck,run_findKey hd hfn,hrun,Sem.run_pure]
 ·have hf':some (Qc.map (AF3 es (0+j)) ck)=some b:=hf
  rw[Nat.zero_add,AHE]at hf'
  rw[Nat.zero_add]at hfn
  cases hf'
  have hmod:(es'.eraseIdxIfInBounds j).toList=es'.toList.eraseIdx j:=by
   rw[Array.toList_eraseIdxIfInBounds]
  obtain⟨w',hrun,hh',hg⟩:=rY (P:=P) hh hx hget hw (es2:=es.eraseIdx j) (ck2:=ck) (es3:=es'.eraseIdxIfInBounds j) (by rw[hmod];exact hr.erase j)
  refine⟨_,_,_,.tuple #[],w',ρ,hk',?_,⟨#[],rfl,by simp⟩,hh',hg⟩
  simp only[Builtin.delete_,List.getElem?_toArray,List.getElem?_cons_zero,List.getElem?_cons_succ,Sem.run_bind,run_underlying ht,Result.andThen_ok,TT hw,hck,run_findKey hd hfn,hrun,Sem.run_pure]
theorem APo{t kt et:TypeId}(ht:P.underlying t=some (.map kt et)){w0:World}{ρ:Loc}{H:Heap}{n:Nat}{w:World}(hh:D8 w0 ρ H n w)
 {m:V} {um:Value} (hm:AZ ρ m um) (ty:TypeId) {k:KV} (h:AGx m H (λ_ c=>some (.map [] c)) λH=>k (.EI []) H n):AJx P w0 ρ H n w (Builtin.clear_ #[t] ty #[um]) k:=by
 obtain⟨id,x,es,ck,b,es',hx,rfl,hget,hf,hk',hw,hr⟩:=AFo hh hm h
 cases hf
 obtain⟨w',hrun,hh',hg⟩:=rY (P:=P) hh hx hget hw (es2:=[]) (ck2:=ck) (es3:= #[]) (by simp[Lh])
 refine⟨_,_,_,.tuple #[],w',ρ,hk',?_,⟨#[],rfl,by simp⟩,hh',hg⟩
 simp only[Builtin.clear_,List.getElem?_toArray,List.getElem?_cons_zero,Sem.run_bind,run_underlying ht,Result.andThen_ok,TT hw,hrun,Sem.run_pure]
variable{P:Program}
def APv(P:Program)(f:FuncId):Prop:=∃fn,P.funcs[f]? =some fn/\fn.body.isSome=true/\(fn.name== "runtime.NumGoroutine")=false
def dw(P:Program)(w0:World)(call:BD):Prop:=∀(f:Nat) (vargs:List V) (H:Heap) (n:Nat) (k:KV),call f vargs H n k->APv P f/\∀(ρ:Loc) (w:World) (args:Array Value),D8 w0 ρ H n w->CV ρ vargs args.toList->
 Calls P f args w (λe w'=>∃u v H' n' ρ',e=.returned u/\k v H' n'/\AZ ρ' v u/\D8 w0 ρ' H' n' w'/\Ij ρ H n ρ' H' n')
theorem jA{f:FuncId}(h:APv P f)(args:Array Value)(w:World):(callFunc f args).run P w=.ok (.enter f args) w:=by
 obtain⟨fn,hf,hb,hn⟩:=h
 have hb':fn.body≠none:=by intro e;rw[e]at hb;cases hb
 have hn':fn.name≠ "runtime.NumGoroutine" :=by simpa using hn
 simp[callFunc,hf,hb',hn']
def AIb(P:Program)(f:Operand->Option X)(c:Call):Option AE:=
 match c.callee with
 |.builtin b=>match b,c.args.toList,c.argTypes.toList with
  |.append,[x,y],[t,u]=>match P.underlying t,P.underlying u with
   |some (.slice e),some d=>Az (P.info? e) λi=>Az (ABa P e) λz=>Az (f x) λx=>Az (f y) λy=>
    if z.length=i.size/\0<i.size/\0<i.bytes then match d with
     |.slice _=>some (.app i.size i.bytes x y)
     |.string=>some (.app i.size i.bytes x y)
     |_=>none
    else none
   |_,_=>none
  |.copy,[x,y],[t,_]=>match P.underlying t with
   |some (.slice e)=>Az (szT P e) λz=>Az (f x) λx=>Az (f y) λy=>some (.copy z x y)
   |_=>none
  |.delete,[m,k],[t,_]=>match P.underlying t with
   |some (.map kt _)=>Az (ABV P kt) λc=>Az (f m) λm=>Az (f k) λk=>some (.del c m k)
   |_=>none
  |.clear,[m],[t]=>match P.underlying t with
   |some (.map _ _)=>Az (f m) λm=>some (.Aac m)
   |_=>none
  |_,_,_=>none
 |.value (.func fi)=>Az (c.args.toList.mapM f) λa=>some (.call fi a)
 |.value o=>Az (f o) λx=>Az (c.args.toList.mapM f) λa=>some (.AOl x a)
 |_=>none
def trE(P:Program)(f:Operand->Option X)(op:Op):Option AE:=
 match op with
 |.store t x v=>Az (szT P t) λn=>Az (f x) λx=>Az (f v) λv=>some (.st n x v)
 |.mapUpdate t m k v=>match P.underlying t with
  |some (.map kt _)=>Az (ABV P kt) λc=>Az (f m) λm=>Az (f k) λk=>Az (f v) λv=>some (.AM7 c m k v)
  |_=>none
 |.insert t m k v=>match P.underlying t with
  |some (.map kt _)=>Az (ABV P kt) λc=>Az (f m) λm=>Az (f k) λk=>Az (f v) λv=>some (.AM7 c m k v)
  |_=>none
 |.convert src dst x=>match P.underlying src,P.underlying dst with
  |some .string,some (.slice e)=>match P.underlying e with
   |some (.int .u8)=>Az (f x) λx=>some (.cvB x)
   |_=>none
  |_,_=>none
 |.call c=>AIb P f c
 |_=>none
def trX(f:Operand->Option X)(op:Op):Option AE:=
 match op with
 |.move x=>Az (f x) λx=>some (.asg x)
 |.assign x=>Az (f x) λx=>some (.asg x)
 |_=>none
theorem AX9{v:V}{f:Nat->Nat->Prop}:EN (v.RV λl c=>some (.ptr l c)) (λv=>V.ABm v f)↔∃l c,v=.str l c/\f l c:=by
 rw[Jy]
 constructor
 ·rintro⟨x,h,hf⟩
  obtain⟨l,c,rfl,h⟩:=Ip.1 h
  cases h
  exact⟨l,c,rfl,hf⟩
 ·rintro⟨l,c,rfl,hf⟩
  exact⟨.ptr l c,Ip.2 ⟨l,c,rfl,rfl⟩,hf⟩
theorem Tj{v:V}{f:Nat->LV->LV->Prop}:V.WB v f↔∃g a c,v=.fn g a c/\f g a c:=by
 cases v<;>simp[V.WB]
 rename_i g a c
 constructor
 ·intro h;exact⟨g,a,c,⟨rfl,rfl,rfl⟩,h⟩
 ·rintro⟨_,_,_,⟨rfl,rfl,rfl⟩,h⟩;exact h
section
variable{w0:World}{ρ:Loc}{H:Heap}{n:Nat}{w:World}{G:AV}{E:RS}{a:Act}{f:Operand->Option X}{o:Oper}{k:KV}{next:Act->World->Prop}{Q:Exit->Act->World->Prop}
def Behind(w0:World)(ρ:Loc)(H:Heap)(n:Nat)(k:KV)(F:Value->World->Prop):Prop:=
 ∀v H' n' val w' ρ',k v H' n'->AZ ρ' v val->D8 w0 ρ' H' n' w'->Ij ρ H n ρ' H' n'->F val w'
theorem AFZ{s:Sem Value}(hs:execOp a.eval o=(do pure (Next.value (<-s)):Sem Next))(h:AJx P w0 ρ H n w s k)(hn:Behind w0 ρ H n k λval w'=>next (a.put o.dst val) w'):o.wp P a w next Q:=by
 obtain⟨v,H',n',val,w',ρ',hk,hrun,hv,hh,hg⟩:=h
 unfold Oper.wp
 rw[hs]
 simp only[Sem.run_bind,hrun,Result.andThen_ok,Sem.run_pure,Oper.upon]
 exact hn v H' n' val w' ρ' hk hv hh hg
theorem qh{s:Sem Unit}(hs:execOp a.eval o=(do s;pure .skip:Sem Next))(h:ATF P w0 ρ H n w s λH=>k .undef H n)(hn:Behind w0 ρ H n k λval w'=>next (a.put o.dst val) w'):o.wp P a w next Q:=by
 obtain⟨H',w',hk,hrun,hh,hg⟩:=h
 unfold Oper.wp
 rw[hs]
 simp only[Sem.run_bind,hrun,Result.andThen_ok,Sem.run_pure,Oper.upon]
 exact hn .undef H' n undef w' ρ hk (by simp[AZ]) hh hg
theorem AGW{call:BD}(hc:dw P w0 call){fi:FuncId}{args:Array Value}{vargs:List V}(hs:APv P fi->(execOp a.eval o).run P w=.ok (.enter fi args) w)(hh:D8 w0 ρ H n w)(hr:CV ρ vargs args.toList)
 (h:call fi vargs H n k) (hn:Behind w0 ρ H n k λval w'=>next (a.put o.dst val) w'):o.wp P a w next Q:=by
 obtain⟨hfn,hcall⟩:=hc fi vargs H n k h
 unfold Oper.wp
 rw[hs hfn]
 simp only[Oper.upon]
 refine(hcall ρ w args hh hr).mono ?_
 rintro e w' ⟨u,v,H',n',ρ',rfl,hk,hv,hh',hg⟩
 exact hn v H' n' u w' ρ' hk hv hh' hg
theorem AP7{call:BD}(hh:D8 w0 ρ H n w)(hO:∀o x,f o=some x->AZ ρ (x.ev E) (a.eval o)){e:AE}(htr:trX f o.op=some e)(h:e.ex G call E H n k)
 (hn:Behind w0 ρ H n k λval w'=>next (a.put o.dst val) w'):o.wp P a w next Q:=by
 obtain⟨dst,op,ty,pos,after,guard⟩:=o
 cases op<;>simp only[trX]at htr<;>try (cases htr;done)
 all_goals
  obtain⟨x',hx,e⟩:=AL.1 htr;cases e
  have h':k (x'.ev E) H n:=h
  unfold Oper.wp
  simp only[execOp,Sem.run_pure,Oper.upon]
  exact hn _ _ _ _ _ ρ h' (hO _ _ hx) hh (Ij.refl _ _ _)
theorem AG5{call:BD}(hc:dw P w0 call)(hh:D8 w0 ρ H n w)(hg:Vg w0 G)(hO:∀o x,f o=some x->AZ ρ (x.ev E) (a.eval o)){c:Call}(ho:o.op=.call c){e:AE}(htr:AIb P f c=some e)(h:e.ex G call E H n k)
 (hn:Behind w0 ρ H n k λval w'=>next (a.put o.dst val) w'):o.wp P a w next Q:=by
 obtain⟨dst,op,ty,pos,after,guard⟩:=o
 simp only at ho
 subst ho
 obtain⟨callee,⟨args⟩,⟨argTypes⟩⟩:=c
 unfold AIb at htr
 simp only at htr
 have lift:∀{s:Sem Value},(do let d<-resolve a.eval ⟨callee,⟨args⟩,⟨argTypes⟩⟩ ty;invoke d.target d.args:Sem Next)=(do pure (Next.value (<-s)):Sem Next)->AJx P w0 ρ H n w s k->
  Oper.wp P ⟨dst,.call ⟨callee,⟨args⟩,⟨argTypes⟩⟩,ty,pos,after,guard⟩ a w next Q:=λhs h=>AFZ (by simp only[execOp];exact hs) h hn
 split at htr
 ·split at htr
  ·rename_i b x y t u
   split at htr
   ·rename_i e d ht hu
    obtain⟨i,hi,htr⟩:=AL.1 htr
    obtain⟨z,hz,htr⟩:=AL.1 htr
    obtain⟨x',hx,htr⟩:=AL.1 htr
    obtain⟨y',hy,htr⟩:=AL.1 htr
    split at htr
    ·rename_i hcond
     obtain⟨hzl,hpos,hby⟩:=hcond
     obtain⟨i',zv,hi',hzv,hzr,hz1⟩:=ig hz
     have:i'=i:=Option.some.inj (hi'.symm.trans hi)
     subst this
     have hzs:zv.cells.size=i'.size:=by rw[<-Array.length_toList,<-(hzr ρ).length,hzl]
     have key:(∀kk,d≠.int kk)->AE.app i'.size i'.bytes x' y'= ‹AE› ->Oper.wp P ⟨dst,.call ⟨.builtin .append,⟨[x,y]⟩,⟨[t,u]⟩⟩,ty,pos,after,guard⟩ a w next Q:=by
      intro hd e1
      subst e1
      have h':EN (elems (y'.ev E) G H i'.size) (λLS=>AGA (x'.ev E) G i'.size i'.bytes LS H n k):=h
      rw[Jy]at h'
      obtain⟨LS,hLS,h'⟩:=h'
      have hacts:=AQZ (P:=P) (t:=t) (u:=u) ty ⟨ht,⟨d,hu,hd⟩,hi,hzv,rfl,rfl,hby,hzs,hz1⟩ hpos hh hg (hO _ _ hx) (hO _ _ hy) hLS h'
      exact lift (by simp[resolve,invoke,builtin]) hacts
     split at htr
     ·exact key (by intro kk h;cases h) (Option.some.inj htr)
     ·exact key (by intro kk h;cases h) (Option.some.inj htr)
     ·cases htr
    ·cases htr
   ·cases htr
  ·rename_i b x y t u
   split at htr
   ·rename_i e ht
    obtain⟨z,hz,htr⟩:=AL.1 htr
    obtain⟨x',hx,htr⟩:=AL.1 htr
    obtain⟨y',hy,e1⟩:=AL.1 htr
    cases e1
    have h':EN (elems (y'.ev E) G H z) (λLS=>AKY (x'.ev E) z LS H n k):=h
    rw[Jy]at h'
    obtain⟨LS,hLS,h'⟩:=h'
    refine lift ?_ (ANM (P:=P) (u:=u) ty ht hz hh hg (hO _ _ hx) (hO _ _ hy) hLS h')
    simp[resolve,invoke,builtin]
   ·cases htr
  ·rename_i b m key t u
   split at htr
   ·rename_i kt et ht
    obtain⟨c,hc',htr⟩:=AL.1 htr
    obtain⟨m',hm,htr⟩:=AL.1 htr
    obtain⟨k',hk,e1⟩:=AL.1 htr
    cases e1
    obtain⟨d,hd⟩:=vI hc'
    refine lift ?_ (AQI (P:=P) ht hd hc' hh (hO _ _ hm) (hO _ _ hk) u ty h)
    simp[resolve,invoke,builtin]
   ·cases htr
  ·rename_i b m t
   split at htr
   ·rename_i kt et ht
    obtain⟨m',hm,e1⟩:=AL.1 htr
    cases e1
    refine lift ?_ (APo (P:=P) ht hh (hO _ _ hm) ty h)
    simp[resolve,invoke,builtin]
   ·cases htr
  ·cases htr
 ·rename_i fi
  obtain⟨l,hl,e1⟩:=AL.1 htr
  cases e1
  refine AGW hc (vargs:=eP l E) (args:=(args.map a.eval).toArray) (λhfn=>?_) hh (by simpa using fA hO _ _ hl) h hn
  have:=jA hfn (args.map a.eval).toArray w
  simp[execOp,resolve,Act.eval,Deferred.ofValue,invoke]
  simpa[Act.eval]using this
 ·rename_i ov _
  obtain⟨x',hx,htr⟩:=AL.1 htr
  obtain⟨l,hl,e1⟩:=AL.1 htr
  cases e1
  have h':V.WB (x'.ev E) (λg fa ca=>call g (cat fa (cat (eP l E) ca)) H n k):=h
  rw[Tj]at h'
  obtain⟨g,fa,ca,hxe,h'⟩:=h'
  have hv:=hO _ _ hx
  rw[hxe]at hv
  simp only[AZ]at hv
  obtain⟨fa',ca',hval,hfa,hca⟩:=hv
  refine AGW hc (args:=(fa'.toList++(args.map a.eval++ca'.toList)).toArray) (λhfn=>?_) hh ?_ h' hn
  ·have:=jA hfn (fa'.toList++(args.map a.eval++ca'.toList)).toArray w
   have e1:fa'++(args.map a.eval).toArray++ca'=(fa'.toList++(args.map a.eval++ca'.toList)).toArray:=by
    apply Array.toList_inj.1;simp
   simp only[execOp,resolve,hval,Deferred.ofValue,Sem.run_bind,Sem.run_pure,Result.andThen_ok,invoke,List.map_toArray]
   rw[e1];exact this
  ·simp only[AJA]
   exact hfa.append ((fA hO _ _ hl).append hca)
 ·cases htr
theorem AQg{call:BD}(hc:dw P w0 call)(hh:D8 w0 ρ H n w)(hg:Vg w0 G)(hO:∀o x,f o=some x->AZ ρ (x.ev E) (a.eval o)){e:AE}(htr:trE P f o.op=some e)(h:e.ex G call E H n k)
 (hn:Behind w0 ρ H n k λval w'=>next (a.put o.dst val) w'):o.wp P a w next Q:=by
 cases hop:o.op<;>rw[hop]at htr<;>simp only[trE]at htr<;>try (cases htr;done)
 case store t x v=>
  obtain⟨m,hm,htr⟩:=AL.1 htr
  obtain⟨x',hx,htr⟩:=AL.1 htr
  obtain⟨v',hv,e1⟩:=AL.1 htr
  cases e1
  exact qh (by simp only[execOp,hop]) (AQp (P:=P) hm hh (hO _ _ hx) (hO _ _ hv) (k:=λH=>k .undef H n) h) hn
 case mapUpdate t m key v=>
  split at htr
  ·rename_i kt et ht
   obtain⟨c,hc',htr⟩:=AL.1 htr
   obtain⟨m',hm,htr⟩:=AL.1 htr
   obtain⟨k',hk,htr⟩:=AL.1 htr
   obtain⟨v',hv,e1⟩:=AL.1 htr
   cases e1
   obtain⟨d,hd⟩:=vI hc'
   exact qh (by simp only[execOp,hop]) (AHs (P:=P) ht hd hc' hh (hO _ _ hm) (hO _ _ hk) (hO _ _ hv) (k:=λH=>k .undef H n) h) hn
  ·cases htr
 case insert t m key v=>
  split at htr
  ·rename_i kt et ht
   obtain⟨c,hc',htr⟩:=AL.1 htr
   obtain⟨m',hm,htr⟩:=AL.1 htr
   obtain⟨k',hk,htr⟩:=AL.1 htr
   obtain⟨v',hv,e1⟩:=AL.1 htr
   cases e1
   obtain⟨d,hd⟩:=vI hc'
   exact qh (by simp only[execOp,hop]) (AHs (P:=P) ht hd hc' hh (hO _ _ hm) (hO _ _ hk) (hO _ _ hv) (k:=λH=>k .undef H n) h) hn
  ·cases htr
 case convert src dst x=>
  split at htr
  ·rename_i el hs hd
   split at htr
   ·rename_i he
    obtain⟨x',hx,e1⟩:=AL.1 htr
    cases e1
    have h':EN ((x'.ev E).RV λl c=>some (.ptr l c)) (λv=>V.ABm v λl c=>DU n λn=>k (.G6 n 0 l 1) (T.set H n (.arr 1 l (Ew (TV l c) 0 .e))) (Nat.succ n)):=h
    rw[AX9]at h'
    obtain⟨l,c,hxe,h'⟩:=h'
    rw[BL]at h'
    have hv:=hO _ _ hx
    rw[hxe]at hv
    exact AFZ (by simp only[execOp,hop]) (AQP (P:=P) hs hd he hh hv h') hn
   ·cases htr
  ·cases htr
 case call c=>exact AG5 hc hh hg hO hop htr h hn
end
variable{P:Program}
structure FX where
 loc:Nat->Bool
 nt:Nat
 df:Bool
inductive EV where
 |slot (k:Nat)|reg (t:Nat)|cst (v:V)
def EV.x(d:Nat):EV->X
 |.slot k=>.s (d-1-k)
 |.reg t=>.r (PN t)
 |.cst v=>.c v
abbrev Env:=List (Nat×EV)
def look(t:Nat):Env->Option EV
 |[]=>none
 |(u,e)::r=>if u=t then some e else look t r
def DL(ρ:Loc):List V->List Deferred->Prop
 |[],ds=>ds=[]
 |v::vs,ds=>∃d ds',ds=d::ds'/\(∃f fa ca,∃fa' ca':Array Value,v=.fn f fa ca/\d={target:=.fn (.func f) ca',args:=fa'}/\CV ρ fa fa'.toList/\CV ρ ca ca'.toList)/\DL ρ vs ds'
theorem DL.mono{ρ ρ':Loc}(hle:ρ.le ρ'):∀{vs:List V} {ds:List Deferred},DL ρ vs ds->DL ρ' vs ds
 |[],_,h=>h
 |v::vs,_,⟨d,ds',h1,⟨f,fa,ca,fa',ca',h2,h3,h4,h5⟩,h6⟩=>⟨d,ds',h1,⟨f,fa,ca,fa',ca',h2,h3,CV.mono hle _ _ h4,CV.mono hle _ _ h5⟩,DL.mono hle h6⟩
structure Rg(C:FX)(ρ:Loc)(R:Je)(a:Act):Prop where
 size:a.tmps.size=C.nt
 reg:∀t,t<C.nt->C.loc t=false->AZ ρ (Nh (T.ED (PN t) R)) (a.eval (.tmp t))
 dfs:if C.df then DL ρ (xC (Nh (T.ED (PN C.nt) R))) a.defers else a.defers=[]
structure qZ(C:FX)(ρ:Loc)(E:RS)(d:Nat)(env:Env)(a:Act):Prop where
 depth:E.st.length=d
 has:∀t ev,look t env=some ev->C.loc t=true/\t<C.nt/\(∀k,ev=.slot k->k<d)/\(∀u,ev=.reg u->C.loc u=false/\u<C.nt)/\AZ ρ ((ev.x d).ev E) (a.eval (.tmp t))
theorem Rg.mono{C:FX}{ρ ρ':Loc}(hle:ρ.le ρ'){R:Je}{a:Act}(h:Rg C ρ R a):Rg C ρ' R a:=
 ⟨h.size,λt ht hl=>AZ.mono hle _ _ (h.reg t ht hl),by
  have:=h.dfs
  split
  ·rename_i hc;rw[if_pos hc]at this;exact this.mono hle
  ·rename_i hc;rw[if_neg hc]at this;exact this⟩
theorem qZ.mono{C:FX}{ρ ρ':Loc}(hle:ρ.le ρ'){E:RS}{d:Nat}{env:Env}{a:Act}(h:qZ C ρ E d env a):qZ C ρ' E d env a:=
 ⟨h.depth,λt ev hl=>let⟨h1,h2,h3,h4,h5⟩:=h.has t ev hl;⟨h1,h2,h3,h4,AZ.mono hle _ _ h5⟩⟩
def AQw(C:FX)(env:Env)(d:Nat):Operand->Option X
 |.tmp t=>if t<C.nt then if C.loc t then Az (look t env) λe=>some (e.x d)else some (.r (PN t))else none
 |.const v=>Az (cvV v) λv=>some (.c v)
 |.global g=>some (.c (.gptr g 0))
 |.func f=>some (.c (.fn f [] []))
theorem X.AMU(p:P2)(E:RS):(X.r p).ev E=Nh (T.ED p E.rg):=rfl
theorem X.AcQ(v:V)(E:RS):(X.c v).ev E=v:=rfl
theorem X.AUf(i:Nat)(E:RS):(X.s i).ev E=ARV E.st i:=rfl
theorem AK3{C:FX}{ρ:Loc}{E:RS}{d:Nat}{env:Env}{a:Act}(hr:Rg C ρ E.rg a)(he:qZ C ρ E d env a):∀o x,AQw C env d o=some x->AZ ρ (x.ev E) (a.eval o):=by
 intro o x h
 cases o with
 |tmp t=>
  simp only[AQw]at h
  split at h
  ·rename_i ht
   split at h
   ·obtain⟨ev,hev,e⟩:=AL.1 h
    cases e
    exact(he.has t ev hev).2.2.2.2
   ·rename_i hl
    cases h
    rw[X.AMU]
    exact hr.reg t ht (by simpa using hl)
  ·cases h
 |const v=>
  obtain⟨c,hc,e⟩:=AL.1 h
  cases e
  exact ABU hc
 |global g=>cases h;exact rfl
 |func f=>cases h;exact⟨#[], #[],rfl,by simp,by simp⟩
inductive Wk where
 |plain|wr
def AD7(P:Program)(C:FX)(f:Operand->Option X)(wk:Wk)(op:Op):Option AO:=
 match wk with
 |.wr=>Az (trX f op) λe=>some (.e e)
 |.plain=>match trN P f op with
  |some o=>some (.n o)
  |none=>match trA P f op with
   |some o=>some (.a o)
   |none=>match trE P f op with
    |some o=>some (.e o)
    |none=>match op with
     |.defer c=>match c.callee with
      |.value o=>if C.df then Az (f o) λx=>Az (c.args.toList.mapM f) λas=>some (.e (.defer (PN C.nt) x as))else none
      |_=>none
     |_=>none
def Yw:Op->Bool
 |.defer _=>true
 |_=>false
def ASO(C:FX)(f:Operand->Option X)(ops:Array Oper):Option (Nat×Bool)->Option Gd
 |none=>some .no
 |some (g,b)=>Az ((ops[g]?).bind (·.dst)) λt=>Az (f (.tmp t)) λx=>if t<C.nt then some (.on x b)else none
theorem kZ(p:P2)(v:V)(E:RS):(GR (.to p) v E).rg=T.aG v p E.rg/\(GR (.to p) v E).st=E.st:=by cases E;exact⟨rfl,rfl⟩
theorem AIa(v:V)(E:RS):(GR .ps v E).rg=E.rg/\(GR .ps v E).st=v::E.st:=by cases E;exact⟨rfl,rfl⟩
theorem eval_put_ne{a:Act}{t u:Nat}(v:Value)(h:t≠u):(a.put (some t) v).eval (.tmp u)=a.eval (.tmp u):=Act.eval_put (by intro d hd e;cases hd;cases e;exact h rfl)
theorem eval_put_same{a:Act}{t:Nat}(v:Value)(h:t<a.tmps.size):(a.put (some t) v).eval (.tmp t)=v:=by simp[Act.put,Act.eval,h]
theorem AA0(a:Act)(d:Option Tmp)(v:Value):(a.put d v).tmps.size=a.tmps.size:=by cases d<;>simp[Act.put]
theorem put_defers(a:Act)(d:Option Tmp)(v:Value):(a.put d v).defers=a.defers:=by cases d<;>rfl
theorem Rg.put{C:FX}{ρ:Loc}{R:Je}{a:Act}(h:Rg C ρ R a){t:Nat}(ht:t<C.nt){v:V}{u:Value}(hv:AZ ρ v u):Rg C ρ (T.aG v (PN t) R) (a.put (some t) u):=by
 refine⟨by rw[AA0];exact h.size,λs hs hl=>?_,?_⟩
 ·by_cases e:t=s
  ·subst e
   rw[T.WW,eval_put_same _ (by rw[h.size];exact ht)]
   exact hv
  ·rw[T.I9 _ _ _ _ (λhp=>e (aZ hp)),eval_put_ne _ e]
   exact h.reg s hs hl
 ·have:=h.dfs
  rw[T.I9 _ _ _ _ (λhp=>by have:=aZ hp;omega),put_defers]
  exact this
theorem Rg.AET{C:FX}{ρ:Loc}{R:Je}{a:Act}(h:Rg C ρ R a){t:Nat}(hl:C.loc t=true)(u:Value):Rg C ρ R (a.put (some t) u):=by
 refine⟨by rw[AA0];exact h.size,λs hs hls=>?_,?_⟩
 ·by_cases e:t=s
  ·subst e;rw[hl]at hls;cases hls
  ·rw[eval_put_ne _ e];exact h.reg s hs hls
 ·rw[put_defers];exact h.dfs
def Wl(t:Nat):Env->Env
 |[]=>[]
 |(u,e)::r=>match e with
  |.reg s=>if s=t then(u,.cst .undef)::Wl t r else(u,e)::Wl t r
  |e=>(u,e)::Wl t r
theorem AA7(t s:Nat):∀(env:Env) (ev:EV),look s (Wl t env)=some ev->ev=.cst .undef/\look s env=some (.reg t)∨(look s env=some ev/\ev≠.reg t)
 |[],ev,h=>by simp[Wl,look]at h
 |(u,e)::r,ev,h=>by
  have ih:=AA7 t s r ev
  cases e with
  |slot k=>
   simp only[Wl,look]at h⊢
   split at h
   ·rename_i hu;rw[if_pos hu];cases h;exact .inr ⟨rfl,by simp⟩
   ·rename_i hu;rw[if_neg hu];exact ih h
  |cst v=>
   simp only[Wl,look]at h⊢
   split at h
   ·rename_i hu;rw[if_pos hu];cases h;exact .inr ⟨rfl,by simp⟩
   ·rename_i hu;rw[if_neg hu];exact ih h
  |reg q=>
   simp only[Wl]at h
   split at h
   ·rename_i hq
    subst hq
    simp only[look]at h⊢
    split at h
    ·rename_i hu;rw[if_pos hu];cases h;exact .inl ⟨rfl,rfl⟩
    ·rename_i hu;rw[if_neg hu];exact ih h
   ·rename_i hq
    simp only[look]at h⊢
    split at h
    ·rename_i hu;rw[if_pos hu];cases h;exact .inr ⟨rfl,by simpa using hq⟩
    ·rename_i hu;rw[if_neg hu];exact ih h
theorem qZ.AVP{C:FX}{ρ:Loc}{E:RS}{d:Nat}{env:Env}{a:Act}(h:qZ C ρ E d env a){t:Nat}(hl:C.loc t=false)(v:V)(u:Value):qZ C ρ (GR (.to (PN t)) v E) d (Wl t env) (a.put (some t) u):=by
 obtain⟨hrg,hst⟩:=kZ (PN t) v E
 refine⟨by rw[hst];exact h.depth,λs ev hs=>?_⟩
 rcases AA7 t s env ev hs with⟨rfl,hs'⟩|⟨hs',hne⟩
 ·obtain⟨h1,h2,h3,h4,h5⟩:=h.has s _ hs'
  exact⟨h1,h2,λk hk=>(by cases hk),λu hu=>(by cases hu),by simp[EV.x,X.AcQ,AZ]⟩
 ·obtain⟨h1,h2,h3,h4,h5⟩:=h.has s ev hs'
  refine⟨h1,h2,h3,h4,?_⟩
  have hts:t≠s:=λe=>by subst e;rw[hl]at h1;cases h1
  rw[eval_put_ne _ hts]
  have hev:(ev.x d).ev (GR (.to (PN t)) v E)=(ev.x d).ev E:=by
   cases ev with
   |slot k=>simp only[EV.x,X.AUf,hst]
   |cst c=>rfl
   |reg q=>
    simp only[EV.x,X.AMU,hrg]
    rw[T.I9 _ _ _ _ (λhp=>hne (by rw[aZ hp]))]
  rw[hev];exact h5
theorem qZ.AET{C:FX}{ρ:Loc}{E:RS}{d:Nat}{env:Env}{a:Act}(h:qZ C ρ E d env a){t:Nat}(hl:C.loc t=true)(ht:t<C.nt)(hsz:a.tmps.size=C.nt){v:V}{u:Value}(hv:AZ ρ v u):
 qZ C ρ (GR .ps v E) (d+1) ((t,.slot d)::env) (a.put (some t) u):=by
 obtain⟨hrg,hst⟩:=AIa v E
 refine⟨by rw[hst,List.length_cons,h.depth],λs ev hs=>?_⟩
 simp only[look]at hs
 split at hs
 ·rename_i e
  subst e
  cases hs
  refine⟨hl,ht,λk hk=>(by cases hk;omega),λu hu=>(by cases hu),?_⟩
  rw[eval_put_same _ (by rw[hsz];exact ht)]
  simp only[EV.x,X.AUf,hst,Nat.add_sub_cancel,Nat.sub_self,AJI]
  simpa using hv
 ·rename_i e
  obtain⟨h1,h2,h3,h4,h5⟩:=h.has s ev hs
  refine⟨h1,h2,λk hk=>Nat.lt_succ_of_lt (h3 k hk),h4,?_⟩
  rw[eval_put_ne _ e]
  have hev:(ev.x (d+1)).ev (GR .ps v E)=(ev.x d).ev E:=by
   cases ev with
   |slot k=>
    have hk:=h3 k rfl
    simp only[EV.x,X.AUf,hst,AJI]
    rw[show d+1-1-k=(d-1-k)+1 by omega]
    simp
   |cst c=>rfl
   |reg q=>simp only[EV.x,X.AMU,hrg]
  rw[hev];exact h5
theorem qZ.APt{C:FX}{ρ:Loc}{E:RS}{d:Nat}{env:Env}{a:Act}(h:qZ C ρ E d env a){t:Nat}(hl:C.loc t=true)(ht:t<C.nt)(hsz:a.tmps.size=C.nt){ev:EV}(h1:∀k,ev=.slot k->k<d)(h2:∀u,ev=.reg u->C.loc u=false/\u<C.nt)
 {u:Value} (hv:AZ ρ ((ev.x d).ev E) u):qZ C ρ E d ((t,ev)::env) (a.put (some t) u):=by
 refine⟨h.depth,λs ev' hs=>?_⟩
 simp only[look]at hs
 split at hs
 ·rename_i e
  subst e
  cases hs
  refine⟨hl,ht,h1,h2,?_⟩
  rw[eval_put_same _ (by rw[hsz];exact ht)]
  exact hv
 ·rename_i e
  obtain⟨g1,g2,g3,g4,g5⟩:=h.has s ev' hs
  refine⟨g1,g2,g3,g4,?_⟩
  rw[eval_put_ne _ e]
  exact g5
variable{P:Program}
section
variable{w0:World}{ρ:Loc}{H:Heap}{n:Nat}{w:World}{G:AV}{E:RS}{a:Act}{f:Operand->Option X}{o:Oper}{Q:Exit->Act->World->Prop}{C:FX}{call:BD}
theorem AKd(hc:dw P w0 call)(hh:D8 w0 ρ H n w)(hg:Vg w0 G)(hO:∀o x,f o=some x->AZ ρ (x.ev E) (a.eval o)){wk:Wk}{ao:AO}(hnd:Yw o.op=false)(htr:AD7 P C f wk o.op=some ao){d:sW}{K:KE}
 (h:ao.ex G call d E H n K) {next:Act->World->Prop} (hn:Behind w0 ρ H n (λv H n=>K (GR d v E) H n) λval w'=>next (a.put o.dst val) w'):o.wp P a w next Q:=by
 cases wk with
 |wr=>
  obtain⟨e,he,e1⟩:=AL.1 htr
  cases e1
  have h':e.ex G call E H n (λv H n=>K (GR d v E) H n):=h
  exact AP7 (call:=call) hh hO he h' hn
 |plain=>
  simp only[AD7]at htr
  split at htr
  ·rename_i an han
   cases htr
   have h':AP (an.ev G E H) (λv=>K (GR d v E) H n):=h
   rw[AEX]at h'
   obtain⟨v,hv,hk⟩:=h'
   obtain⟨val,hrun,hvr⟩:=AHN (P:=P) hh hg (λ_=>rfl) hO han hv
   unfold Oper.wp
   rw[hrun]
   exact hn v H n val w ρ hk hvr hh (Ij.refl _ _ _)
  ·split at htr
   ·rename_i aa haa
    cases htr
    have h':aa.al E (λb fn=>DU n λn=>K (GR d (fn n) E) (T.set H n b) (Nat.succ n)):=h
    obtain⟨b,fn,hal,hk⟩:=ALT h'
    rw[BL]at hk
    obtain⟨val,obj,size,hrun,hnr,hv⟩:=AHL (P:=P) (w:=w) (ρ:=ρ) hO haa hal
    unfold Oper.wp
    rw[hrun]
    exact hn _ _ _ val _ _ hk (hv _ n (Loc.add_same _ _ _)) (hh.new hnr) (Ij.place _ hh.AAO)
   ·split at htr
    ·rename_i ae hae
     cases htr
     have h':ae.ex G call E H n (λv H n=>K (GR d v E) H n):=h
     exact AQg hc hh hg hO hae h' hn
    ·cases hop:o.op<;>rw[hop]at htr hnd<;>simp only[Yw]at hnd<;>first|(cases htr;done)|(cases hnd;done)
theorem ALh(hh:D8 w0 ρ H n w)(hO:∀o x,f o=some x->AZ ρ (x.ev E) (a.eval o))(hr:Rg C ρ E.rg a){ao:AO}(hd:Yw o.op=true)(htr:AD7 P C f .plain o.op=some ao){K:KE}
 (h:ao.ex G call (.to (PN C.nt)) E H n K) (hdst:o.dst=none) {next:Act->World->Prop}
 (hn:∀v a',K (GR (.to (PN C.nt)) v E) H n->a'.tmps=a.tmps->Rg C ρ (GR (.to (PN C.nt)) v E).rg a'->next a' w):o.wp P a w next Q:=by
 cases hop:o.op<;>rw[hop]at hd<;>simp only[Yw]at hd<;>try (cases hd;done)
 rename_i c
 rw[hop]at htr
 simp only[AD7,trN,trA,trE]at htr
 split at htr
 ·rename_i ov hcal
  split at htr
  ·rename_i hdf
   obtain⟨x,hx,htr⟩:=AL.1 htr
   obtain⟨l,hl,e1⟩:=AL.1 htr
   cases e1
   have h':V.WB (x.ev E) (λg fa ca=>K (GR (.to (PN C.nt)) (.EI (.fn g (cat fa (eP l E)) ca::xC (Nh (T.ED (PN C.nt) E.rg)))) E) H n):=h
   rw[Tj]at h'
   obtain⟨g,fa,ca,hxe,hk⟩:=h'
   have hv:=hO _ _ hx
   rw[hxe]at hv
   simp only[AZ]at hv
   obtain⟨fa',ca',hval,hfa,hca⟩:=hv
   have hrun:(execOp a.eval o).run P w=.ok (.defer {target:=.fn (.func g) ca',args:=fa'++c.args.map a.eval}) w:=by
    simp only[execOp,hop,resolve,hcal,hval,Deferred.ofValue,Sem.run_bind,Sem.run_pure,Result.andThen_ok]
   unfold Oper.wp
   rw[hrun]
   simp only[Oper.upon,hdst,Act.put]
   refine hn _ _ hk rfl ?_
   obtain⟨hrg,_⟩:=kZ (PN C.nt) (.EI (.fn g (cat fa (eP l E)) ca::xC (Nh (T.ED (PN C.nt) E.rg)))) E
   rw[hrg]
   refine⟨hr.size,λt ht hlt=>?_,?_⟩
   ·rw[T.I9 _ _ _ _ (λhp=>by have:=aZ hp;omega)]
    exact hr.reg t ht hlt
   ·rw[if_pos hdf,T.WW]
    have hds:=hr.dfs
    rw[if_pos hdf]at hds
    refine⟨_,_,rfl,⟨g,_,_,_,_,rfl,rfl,?_,hca⟩,hds⟩
    rw[AJA,Array.toList_append,Array.toList_map]
    exact hfa.append (fA hO _ _ hl)
  ·cases htr
 ·cases htr
def AXb(C:FX)(env:Env):Operand->Option EV
 |.tmp t=>if t<C.nt then if C.loc t then look t env else some (.reg t)else none
 |.const v=>Az (cvV v) λv=>some (.cst v)
 |.global g=>some (.cst (.gptr g 0))
 |.func f=>some (.cst (.fn f [] []))
theorem APh{env:Env}{d:Nat}(hr:Rg C ρ E.rg a)(he:qZ C ρ E d env a){o:Operand}{ev:EV}(h:AXb C env o=some ev):
 (∀k,ev=.slot k->k<d)/\(∀u,ev=.reg u->C.loc u=false/\u<C.nt)/\AZ ρ ((ev.x d).ev E) (a.eval o):=by
 cases o with
 |tmp t=>
  simp only[AXb]at h
  split at h
  ·rename_i ht
   split at h
   ·obtain⟨_,_,h3,h4,h5⟩:=he.has t ev h
    exact⟨h3,h4,h5⟩
   ·rename_i hl
    cases h
    exact⟨λk hk=>(by cases hk),λu hu=>by cases hu;exact⟨by simpa using hl,ht⟩,hr.reg t ht (by simpa using hl)⟩
  ·cases h
 |const v=>
  obtain⟨c,hc,e⟩:=AL.1 h
  cases e
  exact⟨λk hk=>(by cases hk),λu hu=>(by cases hu),ABU hc⟩
 |global g=>cases h;exact⟨λk hk=>(by cases hk),λu hu=>(by cases hu),rfl⟩
 |func f=>cases h;exact⟨λk hk=>(by cases hk),λu hu=>(by cases hu),⟨#[], #[],rfl,by simp,by simp⟩⟩
def aliasOf(C:FX)(o:Oper):Option (Nat×Operand):=
 match o.guard,o.dst,o.op with
 |none,some t,.move x=>if C.loc t then if t<C.nt then some (t,x)else none else none
 |none,some t,.assign x=>if C.loc t then if t<C.nt then some (t,x)else none else none
 |_,_,_=>none
def AQ8(P:Program)(C:FX)(ops:Array Oper)(env:Env)(d:Nat)(o:Oper):Option (Option AOp×Env×Nat):=
 match aliasOf C o with
 |some (t,x)=>Az (AXb C env x) λev=>some (none,(t,ev)::env,d)
 |none=>Az (AD7 P C (AQw C env d) .plain o.op) λao=>Az (ASO C (AQw C env d) ops o.guard) λg=>
  if Yw o.op then match o.dst,o.guard with
   |none,none=>some (some (.mk (.to (PN C.nt)) .no ao),env,d)
   |_,_=>none
  else match o.dst with
   |none=>some (some (.mk .no g ao),env,d)
   |some t=>if t<C.nt then if C.loc t then some (some (.mk .ps g ao),(t,.slot d)::env,d+1)else some (some (.mk (.to (PN t)) g ao),Wl t env,d)else none
def AWl{α:Type}:Option α->List α->List α
 |some x,l=>x::l
 |none,l=>l
def AEE(P:Program)(C:FX)(ops:Array Oper):Env->Nat->List Oper->Option (List AOp)
 |_,_,[]=>some []
 |env,d,o::r=>Az (AQ8 P C ops env d o) λp=>Az (AEE P C ops p.2.1 p.2.2 r) λl=>some (AWl p.1 l)
theorem Y3{v:V}{b:Bool}{y m:Prop}:Ac v b y m↔∃t,v=.bool t/\if t=b then y else m:=by
 unfold Ac
 cases v<;>simp[V.AIt]
 rename_i t
 cases t<;>cases b<;>simp
def gv:V->Option (Option Bool)
 |.bool t=>some (some t)
 |.EI []=>some none
 |_=>none
theorem Wu{v:V}{b:Bool}{y m:Prop}:nM v b y m↔∃t,gv v=some t/\if t=some b then y else m:=by
 cases v<;>try simp[nM,gv]
 ·rename_i t
  cases t<;>cases b<;>simp
 ·rename_i l
  cases l<;>simp[nM,gv]
theorem AEm{ρ:Loc}:AZ ρ (.EI []) undef:=⟨#[],rfl,by simp⟩
theorem X6{ops:Array Oper}{g:Nat}{b:Bool}{t:Nat}(ht:(ops[g]?).bind (·.dst)=some t)(hlt:t<a.tmps.size){v:V}{q:Option Bool}(hv:AZ ρ v (a.eval (.tmp t)))(hq:gv v=some q){o:Oper}(hg:o.guard=some (g,b)):
 Region.wanted o (yielded ops a.tmps)=(q==some b):=by
 simp only[Region.wanted,hg,yielded,ht,Option.bind_some]
 have h1:a.tmps[t]? =some (a.eval (.tmp t)):=by
  rw[Array.getElem?_eq_getElem hlt]
  simp only[Act.eval,Array.getD,hlt,dite_true]
  rfl
 rw[h1]
 cases v<;>simp only[gv]at hq<;>try (cases hq;done)
 ·rename_i c
  simp only[AZ]at hv
  rw[hv]
  cases hq
  cases c<;>cases b<;>rfl
 ·rename_i l
  cases l with
  |cons=>cases hq
  |nil=>
   simp only[AZ]at hv
   obtain⟨l,hl,h2⟩:=hv
   rw[hl]
   cases hq
   rfl
theorem ADg{ops:Array Oper}{ρ0:Loc}{H0:Heap}{n0:Nat}(hc:dw P w0 call)(hg:Vg w0 G){K:KE}
 (hK:∀E H n a w ρ,K E H n->D8 w0 ρ H n w->Rg C ρ E.rg a->Ij ρ0 H0 n0 ρ H n->Q .normal a w):
 ∀(l:List Oper) (env:Env) (d:Nat) (L:List AOp),AEE P C ops env d l=some L->∀(E:RS) (H:Heap) (n:Nat) (a:Act) (w:World) (ρ:Loc),Qi L G call E H n K->D8 w0 ρ H n w->Rg C ρ E.rg a->qZ C ρ E d env a->Ij ρ0 H0 n0 ρ H n->
  wpList P ops Q l a w
 |[],env,d,L,htr,E,H,n,a,w,ρ,h,hh,hr,he,hgu=>by
  cases htr
  exact hK E H n a w ρ h hh hr hgu
 |o::rest,env,d,L,htr,E,H,n,a,w,ρ,h,hh,hr,he,hgu=>by
  simp only[AEE]at htr
  obtain⟨⟨op,env',d'⟩,hit,htr1⟩:=AL.1 htr
  obtain⟨L',hL',htr2⟩:=AL.1 htr1
  have ih:=ADg hc hg hK rest env' d' L' hL'
  have hLL:AWl op L'=L:=Option.some.inj htr2
  clear htr htr1 htr2
  unfold AQ8 at hit
  split at hit
  ·
    rename_i t x hal
    obtain⟨ev,hev,e⟩:=AL.1 hit
    cases e
    have htr:L'=L:=hLL
    subst htr
    obtain⟨h1,h2,h3⟩:=APh hr he hev
    have hform:o.guard=none/\o.dst=some t/\(o.op=.move x∨o.op=.assign x)/\C.loc t=true/\t<C.nt:=by
     unfold aliasOf at hal
     split at hal
     ·rename_i q1 q2 q3
      split at hal
      ·rename_i hl
       split at hal
       ·rename_i ht
        cases hal
        exact⟨q1,q2,.inl q3,hl,ht⟩
       ·cases hal
      ·cases hal
     ·rename_i q1 q2 q3
      split at hal
      ·rename_i hl
       split at hal
       ·rename_i ht
        cases hal
        exact⟨q1,q2,.inr q3,hl,ht⟩
       ·cases hal
      ·cases hal
     ·cases hal
    obtain⟨hgd,hdst,hop,hl,ht⟩:=hform
    refine wpList_plain hgd λK' hK'=>?_
    have hrun:(execOp a.eval o).run P w=.ok (.value (a.eval x)) w:=by rcases hop with e|e<;>simp[execOp,e]
    unfold Oper.wp
    rw[hrun]
    simp only[Oper.upon,hdst]
    exact hK' _ _ (ih E H n _ w ρ h hh (hr.AET hl _) (he.APt hl ht hr.size h1 h2 h3) hgu)
  ·obtain⟨ao,hao,hit⟩:=AL.1 hit
   obtain⟨g,hgd,hit⟩:=AL.1 hit
   have hO:=AK3 hr he
   have core:∀(dst:sW),op=some (.mk dst g ao)->Yw o.op=false->
    (∀(ρ':Loc) (v:V) (val:Value),ρ.le ρ'->AZ ρ' v val->Rg C ρ' (GR dst v E).rg (a.put o.dst val)/\qZ C ρ' (GR dst v E) d' env' (a.put o.dst val))->
    wpList P ops Q (o::rest) a w:=by
    intro dst hopd hnd hput
    subst hopd
    have htr:AOp.mk dst g ao::L'=L:=hLL
    subst htr
    have hall:∀K':Act->World->Prop,(∀a w,wpList P ops Q rest a w->K' a w)->ao.ex G call dst E H n (λE H n=>Qi L' G call E H n K)->o.wp P a w K' Q:=by
     intro K' hK' hex
     refine AKd hc hh hg hO hnd hao hex ?_
     intro v H' n' val w' ρ' hk hv hh' hg'
     obtain⟨h1,h2⟩:=hput ρ' v val hg'.le hv
     exact hK' _ _ (ih _ _ _ _ _ _ hk hh' h1 h2 (hgu.trans hg'))
    have h':AOp.ex (.mk dst g ao) G call E H n (λE H n=>Qi L' G call E H n K):=h
    cases hgo:o.guard with
    |none=>
     rw[hgo]at hgd
     cases hgd
     exact wpList_plain hgo λK' hK'=>hall K' hK' h'
    |some gb=>
     obtain⟨gi,b⟩:=gb
     rw[hgo]at hgd
     simp only[ASO]at hgd
     obtain⟨t,ht,hgd⟩:=AL.1 hgd
     obtain⟨x,hx,hgd⟩:=AL.1 hgd
     split at hgd
     ·rename_i htn
      cases hgd
      have h2:nM (x.ev E) b (ao.ex G call dst E H n λE H n=>Qi L' G call E H n K) (Qi L' G call (GR dst (.EI []) E) H n K):=h'
      rw[Wu]at h2
      obtain⟨q,hq,h2⟩:=h2
      have hv:=hO _ _ hx
      have hw:=X6 (o:=o) ht (by rw[hr.size];exact htn) hv hq hgo
      refine wpList_step λK' hK'=>?_
      rw[hw]
      by_cases hqb:q=some b
      ·rw[if_pos hqb]at h2
       rw[if_pos (by simpa using hqb)]
       exact hall K' hK' h2
      ·rw[if_neg hqb]at h2
       rw[if_neg (by simpa using hqb)]
       obtain⟨h1,h3⟩:=hput ρ (.EI []) undef (Loc.le.refl _) AEm
       exact hK' _ _ (ih _ _ _ _ _ _ h2 hh h1 h3 hgu)
     ·cases hgd
   split at hit
   ·
     rename_i hd
     split at hit
     ·rename_i hdst hgo
      cases hit
      have htr:AOp.mk (.to (PN C.nt)) .no ao::L'=L:=hLL
      subst htr
      refine wpList_plain hgo λK' hK'=>?_
      have h':ao.ex G call (.to (PN C.nt)) E H n (λE H n=>Qi L' G call E H n K):=h
      refine ALh hh hO hr hd hao h' hdst ?_
      intro v a' hk htm hr'
      refine hK' _ _ (ih _ _ _ _ _ _ hk hh hr' ?_ hgu)
      obtain⟨hrg,hst⟩:=kZ (PN C.nt) v E
      refine⟨by rw[hst];exact he.depth,λt ev hlk=>?_⟩
      obtain⟨g1,g2,g3,g4,g5⟩:=he.has t ev hlk
      refine⟨g1,g2,g3,g4,?_⟩
      have hev:(ev.x d).ev (GR (.to (PN C.nt)) v E)=(ev.x d).ev E:=by
       cases ev with
       |slot k=>simp only[EV.x,X.AUf,hst]
       |cst c=>rfl
       |reg q=>
        have hq:=(g4 q rfl).2
        simp only[EV.x,X.AMU,hrg]
        rw[T.I9 _ _ _ _ (λhp=>by have:=aZ hp;omega)]
      rw[hev]
      have:a'.eval (.tmp t)=a.eval (.tmp t):=by simp only[Act.eval,htm]
      rw[this];exact g5
     ·cases hit
   ·rename_i hd
    have hnd:Yw o.op=false:=by simpa using hd
    split at hit
    ·rename_i hdst
     cases hit
     refine core .no rfl hnd ?_
     intro ρ' v val hle hv
     rw[hdst]
     exact⟨hr.mono hle,he.mono hle⟩
    ·rename_i t hdst
     split at hit
     ·rename_i ht
      split at hit
      ·rename_i hl
       cases hit
       refine core .ps rfl hnd ?_
       intro ρ' v val hle hv
       rw[hdst,(AIa v E).1]
       exact⟨(hr.mono hle).AET hl _,(he.mono hle).AET hl ht hr.size hv⟩
      ·rename_i hl
       have hl':C.loc t=false:=by simpa using hl
       cases hit
       refine core (.to (PN t)) rfl hnd ?_
       intro ρ' v val hle hv
       rw[hdst,(kZ (PN t) v E).1]
       exact⟨(hr.mono hle).put ht hv,(he.mono hle).AVP hl' v val⟩
     ·cases hit
end
variable{P:Program}
def Hle(H H':Heap):Prop:=∀id b,T.get H id=some b->T.get H' id=some b
theorem Hle.refl(H:Heap):Hle H H:=λ_ _ h=>h
theorem Hle.fresh{H:Heap}{n:Nat}(h:T.get H n=none)(b:Qc):Hle H (T.set H n b):=λid b' hb=>by
 rw[T.Ad H b (λe=>by subst e;rw[h]at hb;cases hb)];exact hb
theorem ALC{H H':Heap}(h:Hle H H'){id off n:Nat}{L:LV}(hl:aB H id off n=some L):aB H' id off n=some L:=by
 unfold aB at*
 cases hb:T.get H id with
 |none=>rw[hb]at hl;cases hl
 |some b=>rw[hb]at hl;rw[h id b hb];exact hl
theorem AK9{H H':Heap}(h:Hle H H'){v:V}{G:AV}{n:Nat}{L:LV}(hl:ldP v G H n=some L):ldP v G H' n=some L:=by
 cases v<;>simp only[ldP]at* <;>first|(cases hl;done)|exact ALC h hl|exact hl
theorem ABv{H H':Heap}(h:Hle H H'){m:V}{f:ME->Nat->Option V}{r:V}(hl:RF H m f=some r):RF H' m f=some r:=by
 unfold RF at*
 cases m<;>simp only[V.AN3]at* <;>try (cases hl;done)
 ·exact hl
 ·rename_i id
  cases hb:T.get H id with
  |none=>rw[hb]at hl;cases hl
  |some b=>rw[hb]at hl;rw[h id b hb];exact hl
theorem pX{H H':Heap}(h:Hle H H'){id esz:Nat}:∀(n o:Nat) {LS:CJ},BZ H id esz n o=some LS->BZ H' id esz n o=some LS
 |0,o,LS,hl=>hl
 |n+1,o,LS,hl=>by
  have h1:Bl (aB H id (Nat.mul o esz) esz) (λL=>Bl (BZ H id esz n (Nat.succ o)) λLS=>some (L::LS))=some LS:=hl
  show Bl (aB H' id (Nat.mul o esz) esz) (λL=>Bl (BZ H' id esz n (Nat.succ o)) λLS=>some (L::LS))=some LS
  rw[Bg]at*
  obtain⟨L,hL,h1⟩:=h1
  rw[Bg]at h1
  obtain⟨LS',hLS,h1⟩:=h1
  exact⟨L,ALC h hL,by rw[Bg];exact⟨LS',pX h n _ hLS,h1⟩⟩
theorem AMc{H H':Heap}(h:Hle H H'){v:V}{G:AV}{z:Nat}{LS:CJ}(hl:elems v G H z=some LS):elems v G H' z=some LS:=by
 cases v<;>simp only[elems]at* <;>try (first|(cases hl;done)|exact hl)
 ·rename_i id off n c e
  cases hb:Nat.beq e z with
  |false=>rw[hb]at hl;cases hl
  |true=>rw[hb]at hl;exact pX h _ _ hl
 ·rename_i id off n e
  cases hb:Nat.beq e z with
  |false=>rw[hb]at hl;cases hl
  |true=>rw[hb]at hl;exact pX h _ _ hl
theorem AMs{H H':Heap}(h:Hle H H'){i:Nat}(hi:ZU H i=true):ZU H' i=true:=by
 unfold ZU at*
 cases hb:T.get H i with
 |none=>rw[hb]at hi;cases hi
 |some b=>rw[hb]at hi;rw[h i b hb];exact hi
theorem APm{ok ok':Nat->Bool}(h:∀i,ok i=true->ok' i=true){x y:V}{b:Bool}(hb:APk ok x y=some b):APk ok' x y=some b:=by
 unfold APk at*
 cases hx:x.AO0 with
 |none=>rw[hx]at hb;cases hb
 |some i=>
  cases hy:y.AO0 with
  |none=>rw[hx,hy]at hb;cases hb
  |some j=>
   rw[hx,hy]at hb
   have hb:Bool.rec (motive:=λ_=>Option Bool) none (some false) (band (QD (Nat.beq i j)) (band (ok i) (ok j)))=some b:=hb
   show Bool.rec (motive:=λ_=>Option Bool) none (some false) (band (QD (Nat.beq i j)) (band (ok' i) (ok' j)))=some b
   cases hc:band (QD (Nat.beq i j)) (band (ok i) (ok j))with
   |false=>rw[hc]at hb;cases hb
   |true=>
    rw[hc]at hb
    simp only[BO,Bool.and_eq_true]at hc
    rw[show band (QD (Nat.beq i j)) (band (ok' i) (ok' j))=true by simp only[BO,Bool.and_eq_true];exact⟨hc.1,h _ hc.2.1,h _ hc.2.2⟩]
    exact hb
theorem AS4{ok ok':Nat->Bool}(h:∀i,ok i=true->ok' i=true){k:CK}{x y:V}{b:Bool}(hb:CK.eqH ok k x y=some b):CK.eqH ok' k x y=some b:=by
 cases k with
 |ptr=>
  have hb:AFP ok x y=some b:=hb
  show AFP ok' x y=some b
  unfold AFP at*
  cases hk:AIQ x y with
  |some c=>rw[hk]at hb;exact hb
  |none=>rw[hk]at hb;exact APm h hb
 |_=>exact hb
theorem AHh{q q':CK->V->V->Option Bool}(h:∀k x y b,q k x y=some b->q' k x y=some b):∀{ks:List CK} {xs ys:LV} {b:Bool},yX q ks xs ys=some b->yX q' ks xs ys=some b
 |[],[],[],_,hb=>hb
 |[],[],_::_,_,hb=>by cases hb
 |[],_::_,_,_,hb=>by cases hb
 |_::_,[],_,_,hb=>by cases hb
 |_::_,_::_,[],_,hb=>by cases hb
 |k::ks,x::xs,y::ys,b,hb=>by
  obtain⟨r,r',h1,h2,e⟩:=RD.1 hb
  exact RD.2 ⟨r,r',h _ _ _ _ h1,AHh h h2,e⟩
theorem APc{ok ok':Nat->Bool}(h:∀i,ok i=true->ok' i=true){ks:List CK}{x y:V}{b:Bool}(hb:ABA ok ks x y=some b):ABA ok' ks x y=some b:=by
 unfold ABA at*
 cases hx:x.AVH with
 |none=>rw[hx]at hb;cases hb
 |some l=>
  cases hy:y.AVH with
  |none=>rw[hx,hy]at hb;cases hb
  |some m=>rw[hx,hy]at hb;exact AHh (λ_ _ _ _=>AS4 h) hb
theorem AVJ{H H':Heap}(h:Hle H H'){G:AV}{E:RS}(an:AN){v:V}(hv:an.ev G E H=some v):an.ev G E H'=some v:=by
 cases an<;>try exact hv
 ·rename_i x
  have hv':PY (ldP (x.ev E) G H 1) (λL=>nth L 0)=some v:=hv
  show PY (ldP (x.ev E) G H' 1) (λL=>nth L 0)=some v
  rw[WV]at*
  obtain⟨L,hL,h1⟩:=hv'
  exact⟨L,AK9 h hL,h1⟩
 ·rename_i m x
  have hv':PY (ldP (x.ev E) G H m) (λL=>some (.agg L))=some v:=hv
  show PY (ldP (x.ev E) G H' m) (λL=>some (.agg L))=some v
  rw[WV]at*
  obtain⟨L,hL,h1⟩:=hv'
  exact⟨L,AK9 h hL,h1⟩
 ·rename_i x
  have hv':RF H (x.ev E) (λes _=>CW (len es) λn=>some (.int .i64 (.ofNat n) 0))=some v:=hv
  exact ABv h hv'
 ·rename_i c ok z m k
  have hv':RF H (m.ev E) (λes _=>Bl (sO c (k.ev E) es 0) (APA ok z))=some v:=hv
  exact ABv h hv'
 ·rename_i x
  have hv':BF (QD (isStr (x.ev E))) (Bl (elems (x.ev E) G H 1) λl=>Bl (yM l) λc=>f3 (len l) c 0 λn c _=>.str n c)=some v:=hv
  show BF (QD (isStr (x.ev E))) (Bl (elems (x.ev E) G H' 1) λl=>Bl (yM l) λc=>f3 (len l) c 0 λn c _=>.str n c)=some v
  rw[Ba,Bg]at*
  obtain⟨h0,LS,hLS,h1⟩:=hv'
  exact⟨h0,LS,AMc h hLS,h1⟩
 ·rename_i ks neg x y
  have hv':ofB (Qg (ABA (ZU H) ks (x.ev E) (y.ev E)) λb=>some (Bool.rec (motive:=λ_=>Bool->Bool) (λb=>b) QD neg b))=some v:=hv
  show ofB (Qg (ABA (ZU H') ks (x.ev E) (y.ev E)) λb=>some (Bool.rec (motive:=λ_=>Bool->Bool) (λb=>b) QD neg b))=some v
  cases hb:ABA (ZU H) ks (x.ev E) (y.ev E)with
  |none=>rw[hb]at hv';cases hv'
  |some b=>rw[APc (λ_=>AMs h) hb];rw[hb]at hv';exact hv'
def AN.looks:AN->Bool
 |.ld1 _=>true
 |.ldn _ _=>true
 |.Abk _=>true
 |.look _ _ _ _ _=>true
 |.cvS _=>true
 |.eqp _ _ _ _=>true
 |_=>false
theorem AXV{an:AN}(h:an.looks=false)(G:AV)(E:RS)(H H':Heap):an.ev G E H=an.ev G E H':=by
 cases an<;>first|rfl|(simp[AN.looks]at h)
theorem AEs{G:AV}{E E':RS}{H:Heap}(k:EK)(neg:Bool){x y:X}(hx:x.ev E=x.ev E')(hy:y.ev E=y.ev E'):(AI5 k neg x y).ev G E H=(AI5 k neg x y).ev G E' H:=by
 rcases AOI k neg x y with e|⟨ks,rfl,e⟩
 ·rw[e];show eEq k neg x y G E H=eEq k neg x y G E' H;simp only[eEq,hx,hy]
 ·rw[e];show AUW ks neg x y G E H=AUW ks neg x y G E' H;simp only[AUW,hx,hy]
theorem AAW{E E':RS}{f:Operand->Option X}(hf:∀o x,f o=some x->x.ev E=x.ev E'):∀(l:List Operand) (l':List X),l.mapM f=some l'->eP l' E=eP l' E'
 |[],l',h=>by simp at h;subst h;rfl
 |o::l,l',h=>by
  rw[List.mapM_cons]at h
  simp only[Option.bind_eq_bind,Option.bind_eq_some_iff]at h
  obtain⟨x,hx,l2,hl,e⟩:=h
  cases e
  show x.ev E::eP l2 E=x.ev E'::eP l2 E'
  rw[hf _ _ hx,AAW hf l l2 hl]
theorem ADp{E E':RS}{f:Operand->Option X}(hf:∀o x,f o=some x->x.ev E=x.ev E'){places:Nat->Option (Nat×Nat)}{zn:Nat}:
 ∀(ps:List (Nat×Operand)) (ps':List (Nat×Nat×X)),ZG f places zn ps=some ps'->iq ps' E=iq ps' E'/\∀z,ADA ps' E z=ADA ps' E' z
 |[],ps',h=>by simp only[ZG]at h;cases h;exact⟨rfl,λ_=>rfl⟩
 |(i,o)::r,ps',h=>by
  simp only[ZG,Option.bind_eq_some_iff]at h
  obtain⟨p,hp,h⟩:=h
  split at h
  ·simp only[Option.bind_eq_some_iff]at h
   obtain⟨x,hx,h⟩:=h
   cases hr:ZG f places zn r with
   |none=>rw[hr]at h;cases h
   |some r'=>
    rw[hr]at h
    cases h
    obtain⟨h1,h2⟩:=ADp hf r r' hr
    refine⟨?_,λz=>?_⟩
    ·show band (band (Wi (x.ev E)) (Nat.beq (len (BA (x.ev E))) p.2)) (iq r' E)=band (band (Wi (x.ev E')) (Nat.beq (len (BA (x.ev E'))) p.2)) (iq r' E')
     rw[hf _ _ hx,h1]
    ·show ADA r' E (AMi (BA (x.ev E)) p.1 z)=ADA r' E' (AMi (BA (x.ev E')) p.1 z)
     rw[hf _ _ hx,h2]
  ·cases h
theorem FV{E E':RS}{f:Operand->Option X}(hf:∀o x,f o=some x->x.ev E=x.ev E'){o:Option Operand}{x:Option X}(h:trO f o=some x):dO x E=dO x E':=by
 cases o with
 |none=>cases h;rfl
 |some o=>
  simp only[trO,Option.map_eq_some_iff]at h
  obtain⟨y,hy,rfl⟩:=h
  show(λ_ g=>XK (y.ev E) g)=λ_ g=>XK (y.ev E') g
  rw[hf _ _ hy]
theorem AMO{E E':RS}{f:Operand->Option X}(hf:∀o x,f o=some x->x.ev E=x.ev E'){o:Option Operand}{x:X}(h:trO f o=some (some x)):x.ev E=x.ev E':=by
 cases o with
 |none=>cases h
 |some o=>
  simp only[trO,Option.map_eq_some_iff]at h
  obtain⟨y,hy,e⟩:=h
  cases e
  exact hf _ _ hy
theorem AGy{E E':RS}{f:Operand->Option X}(hf:∀o x,f o=some x->x.ev E=x.ev E'){c:Call}{an:AN}(htr:AAt P f c=some an)(G:AV)(H:Heap):an.ev G E H=an.ev G E' H:=by
 unfold AAt at htr
 split at htr
 ·split at htr
  ·obtain⟨x',hx,e⟩:=AL.1 htr;cases e
   show AO1 x' G E H=AO1 x' G E' H
   simp only[AO1,hf _ _ hx]
  ·obtain⟨x',hx,e⟩:=AL.1 htr;cases e
   show AOt x' G E H=AOt x' G E' H
   simp only[AOt,hf _ _ hx]
  ·obtain⟨x',hx,e⟩:=AL.1 htr;cases e
   show AO9 x' G E H=AO9 x' G E' H
   simp only[AO9,hf _ _ hx]
  ·cases htr;rfl
  ·cases htr
 ·obtain⟨x',hx,htr⟩:=AL.1 htr
  obtain⟨y',hy,e⟩:=AL.1 htr;cases e
  show AVo x' y' G E H=AVo x' y' G E' H
  simp only[AVo,hf _ _ hx,hf _ _ hy]
 ·obtain⟨x',hx,htr⟩:=AL.1 htr
  obtain⟨y',hy,e⟩:=AL.1 htr;cases e
  show AWA x' y' G E H=AWA x' y' G E' H
  simp only[AWA,hf _ _ hx,hf _ _ hy]
 ·split at htr
  ·obtain⟨x',hx,htr⟩:=AL.1 htr
   obtain⟨y',hy,e⟩:=AL.1 htr;cases e
   show AI2 x' y' G E H=AI2 x' y' G E' H
   simp only[AI2,hf _ _ hx,hf _ _ hy]
  ·split at htr
   ·obtain⟨x',hx,htr⟩:=AL.1 htr
    obtain⟨y',hy,e⟩:=AL.1 htr;cases e
    show APV x' y' G E H=APV x' y' G E' H
    simp only[APV,hf _ _ hx,hf _ _ hy]
   ·cases htr
 ·cases htr
theorem AG6{E E':RS}{f:Operand->Option X}(hf:∀o x,f o=some x->x.ev E=x.ev E'){op:Op}{an:AN}(htr:trN P f op=some an)(G:AV)(H:Heap):an.ev G E H=an.ev G E' H:=by
 cases op<;>simp only[trN]at htr<;>try (cases htr;done)
 case makeInterface t x=>cases htr;rfl
 case panic x=>cases htr;rfl
 case move x=>
  obtain⟨x',hx,e⟩:=AL.1 htr;cases e
  show eMv x' G E H=eMv x' G E' H
  simp only[eMv,hf _ _ hx]
 case assign x=>
  obtain⟨x',hx,e⟩:=AL.1 htr;cases e
  show eMv x' G E H=eMv x' G E' H
  simp only[eMv,hf _ _ hx]
 case pick c a b=>
  obtain⟨c',hc,htr⟩:=AL.1 htr
  obtain⟨a',ha,htr⟩:=AL.1 htr
  obtain⟨b',hb,e⟩:=AL.1 htr
  cases e
  show AO3 c' a' b' G E H=AO3 c' a' b' G E' H
  simp only[AO3,hf _ _ hc,hf _ _ ha,hf _ _ hb]
 case load t a=>
  split at htr
  ·obtain⟨m,hm,htr⟩:=AL.1 htr
   obtain⟨x',hx,e⟩:=AL.1 htr;cases e
   show AVR m x' G E H=AVR m x' G E' H
   simp only[AVR,hf _ _ hx]
  ·obtain⟨x',hx,e⟩:=AL.1 htr;cases e
   show AVy x' G E H=AVy x' G E' H
   simp only[AVy,hf _ _ hx]
  ·cases htr
 case nilCheck x=>
  obtain⟨x',hx,e⟩:=AL.1 htr;cases e
  show AIq x' G E H=AIq x' G E' H
  simp only[AIq,hf _ _ hx]
 case binOp op t x y yt=>
  obtain⟨x',hx,htr⟩:=AL.1 htr
  obtain⟨y',hy,htr⟩:=AL.1 htr
  split at htr
  ·obtain⟨k,hk,e⟩:=AL.1 htr;cases e
   exact AEs k false (hf _ _ hx) (hf _ _ hy)
  ·obtain⟨k,hk,e⟩:=AL.1 htr;cases e
   exact AEs k true (hf _ _ hx) (hf _ _ hy)
  ·obtain⟨o2,ho2,e⟩:=AL.1 htr;cases e
   show AUx o2 x' y' G E H=AUx o2 x' y' G E' H
   simp only[AUx,hf _ _ hx,hf _ _ hy]
 case unOp op t x=>
  split at htr
  ·obtain⟨x',hx,e⟩:=AL.1 htr;cases e
   show AV8 x' G E H=AV8 x' G E' H
   simp only[AV8,hf _ _ hx]
  ·obtain⟨x',hx,e⟩:=AL.1 htr;cases e
   show AVu x' G E H=AVu x' G E' H
   simp only[AVu,hf _ _ hx]
  ·cases htr
 case convert src dst x=>
  split at htr
  ·obtain⟨x',hx,e⟩:=AL.1 htr;cases e
   rename_i k _ _
   show AVE _ x' G E H=AVE _ x' G E' H
   simp only[AVE,hf _ _ hx]
  ·obtain⟨x',hx,e⟩:=AL.1 htr;cases e
   show AGT x' none none G E H=AGT x' none none G E' H
   simp only[AGT,hf _ _ hx];rfl
  ·split at htr
   ·obtain⟨x',hx,e⟩:=AL.1 htr;cases e
    show AUe x' G E H=AUe x' G E' H
    simp only[AUe,hf _ _ hx]
   ·cases htr
  ·cases htr
 case makeFunc fn first caps=>
  cases fn<;>simp only at htr<;>try (cases htr;done)
  rename_i fi
  obtain⟨a,ha,htr⟩:=AL.1 htr
  obtain⟨c,hc,e⟩:=AL.1 htr;cases e
  show AOr fi a c G E H=AOr fi a c G E' H
  simp only[AOr,AAW hf _ _ ha,AAW hf _ _ hc]
 case slice t x lo hi mx=>
  split at htr
  ·split at htr
   ·obtain⟨x',hx,htr⟩:=AL.1 htr
    obtain⟨lo',hlo,htr⟩:=AL.1 htr
    obtain⟨hi',hhi,e⟩:=AL.1 htr;cases e
    show AGT x' lo' hi' G E H=AGT x' lo' hi' G E' H
    simp only[AGT,gV,hf _ _ hx,FV hf hlo,FV hf hhi]
   ·cases htr
  ·split at htr
   ·obtain⟨z,hz,htr⟩:=AL.1 htr
    obtain⟨x',hx,htr⟩:=AL.1 htr
    obtain⟨lo',hlo,htr⟩:=AL.1 htr
    obtain⟨hi',hhi,htr⟩:=AL.1 htr
    obtain⟨mx',hmx,e⟩:=AL.1 htr;cases e
    show AVa z x' lo' hi' mx' G E H=AVa z x' lo' hi' mx' G E' H
    have e1:AEf E lo' hi' mx'=AEf E' lo' hi' mx':=by simp only[AEf,FV hf hlo,FV hf hhi,FV hf hmx]
    have e2:ALy z E lo' hi' mx'=ALy z E' lo' hi' mx':=by funext id off ln cap esz;simp only[ALy,FV hf hlo,FV hf hhi,FV hf hmx]
    have e3:ACJ z E lo' hi' mx'=ACJ z E' lo' hi' mx':=by
     funext id off ln esz
     cases mx' with
     |none=>simp only[ACJ,AEC,FV hf hlo,FV hf hhi]
     |some m=>
      have hm:=AMO hf hmx
      simp only[ACJ,AEW,FV hf hlo,FV hf hhi,hm]
    have e4:AFg z E lo' hi' mx'=AFg z E' lo' hi' mx':=by
     funext b off ln cap esz
     simp only[AFg,FV hf hlo,FV hf hhi]
    simp only[AVa,ADx,hf _ _ hx,e1,e2,e3,e4]
   ·cases htr
  ·split at htr
   ·obtain⟨z,hz,htr⟩:=AL.1 htr
    obtain⟨x',hx,htr⟩:=AL.1 htr
    obtain⟨lo',hlo,htr⟩:=AL.1 htr
    obtain⟨hi',hhi,e⟩:=AL.1 htr;cases e
    show APM _ z x' lo' hi' G E H=APM _ z x' lo' hi' G E' H
    simp only[APM,hf _ _ hx,FV hf hlo,FV hf hhi]
   ·cases htr
  ·cases htr
 case fieldAddr s x i=>
  split at htr
  ·obtain⟨fl,hfl,htr⟩:=AL.1 htr
   split at htr
   ·obtain⟨x',hx,e⟩:=AL.1 htr;cases e
    show AJd fl.offset x' G E H=AJd fl.offset x' G E' H
    simp only[AJd,hf _ _ hx]
   ·cases htr
  ·cases htr
 case field s x i=>
  split at htr
  ·obtain⟨fl,hfl,htr⟩:=AL.1 htr
   split at htr
   ·obtain⟨m,hm,htr⟩:=AL.1 htr
    obtain⟨x',hx,e⟩:=AL.1 htr;cases e
    show AEP fl.offset m x' G E H=AEP fl.offset m x' G E' H
    simp only[AEP,hf _ _ hx]
   ·obtain⟨x',hx,e⟩:=AL.1 htr;cases e
    show AEO fl.offset x' G E H=AEO fl.offset x' G E' H
    simp only[AEO,hf _ _ hx]
   ·cases htr
  ·cases htr
 case indexAddr t x i=>
  split at htr
  ·obtain⟨z,hz,htr⟩:=AL.1 htr
   obtain⟨x',hx,htr⟩:=AL.1 htr
   obtain⟨i',hi,e⟩:=AL.1 htr;cases e
   show AIH z x' i' G E H=AIH z x' i' G E' H
   simp only[AIH,hf _ _ hx,hf _ _ hi]
  ·obtain⟨z,hz,htr⟩:=AL.1 htr
   obtain⟨x',hx,htr⟩:=AL.1 htr
   obtain⟨i',hi,e⟩:=AL.1 htr;cases e
   show AEI _ z x' i' G E H=AEI _ z x' i' G E' H
   simp only[AEI,hf _ _ hx,hf _ _ hi]
  ·cases htr
 case index t x i=>
  split at htr
  ·obtain⟨x',hx,htr⟩:=AL.1 htr
   obtain⟨i',hi,e⟩:=AL.1 htr;cases e
   show AOm x' i' G E H=AOm x' i' G E' H
   simp only[AOm,hf _ _ hx,hf _ _ hi]
  ·split at htr
   ·obtain⟨x',hx,htr⟩:=AL.1 htr
    obtain⟨i',hi,e⟩:=AL.1 htr;cases e
    show AOd _ x' i' G E H=AOd _ x' i' G E' H
    simp only[AOd,hf _ _ hx,hf _ _ hi]
   ·cases htr
  ·cases htr
 case lookup t m k ok=>
  split at htr
  ·obtain⟨c,hc,htr⟩:=AL.1 htr
   obtain⟨i,hi,htr⟩:=AL.1 htr
   obtain⟨zv,hzv,htr⟩:=AL.1 htr
   obtain⟨z,hz,htr⟩:=AL.1 htr
   obtain⟨m',hm,htr⟩:=AL.1 htr
   obtain⟨k',hk,e⟩:=AL.1 htr;cases e
   show APS c ok z m' k' G E H=APS c ok z m' k' G E' H
   simp only[APS,hf _ _ hm,hf _ _ hk]
  ·cases htr
 case extract x i=>
  obtain⟨x',hx,e⟩:=AL.1 htr;cases e
  show AUA x' i G E H=AUA x' i G E' H
  simp only[AUA,hf _ _ hx]
 case build t ps=>
  obtain⟨places,hp,htr⟩:=AL.1 htr
  obtain⟨z,hz,htr⟩:=AL.1 htr
  obtain⟨ps',hps,e⟩:=AL.1 htr;cases e
  obtain⟨h1,h2⟩:=ADp hf _ _ hps
  show AIy z ps' G E H=AIy z ps' G E' H
  simp only[AIy,h1,h2]
 case call c=>exact AGy hf htr G H
theorem AA1{E E':RS}{f:Operand->Option X}(hf:∀o x,f o=some x->x.ev E=x.ev E'){cnt:Nat}:∀(ps:List (Nat×Operand)) (ps':List (Nat×X)),uz f cnt ps=some ps'->TF ps' E=TF ps' E'/\X8 ps' E=X8 ps' E'
 |[],ps',h=>by simp only[uz]at h;cases h;exact⟨rfl,rfl⟩
 |(i,o)::r,ps',h=>by
  simp only[uz]at h
  obtain⟨x,hx,h⟩:=AL.1 h
  obtain⟨r',hr,e⟩:=AL.1 h;cases e
  obtain⟨h1,h2⟩:=AA1 hf r r' hr
  refine⟨?_,?_⟩
  ·funext esz cnt
   rw[jr,jr,hf _ _ hx,h1]
  ·show(λt=>X8 r' E (T.set t i (BA (x.ev E))))=λt=>X8 r' E' (T.set t i (BA (x.ev E')))
   rw[hf _ _ hx,h2]
theorem AH8{E E':RS}{f:Operand->Option X}(hf:∀o x,f o=some x->x.ev E=x.ev E'){op:Op}{an:AA}(htr:trA P f op=some an)(k:KA):an.al E k=an.al E' k:=by
 cases op<;>simp only[trA]at htr<;>try (cases htr;done)
 case alloc t=>
  obtain⟨z,hz,htr⟩:=AL.1 htr
  split at htr
  ·cases hz0:AEZ z with
   |false=>rw[hz0]at htr;cases htr
   |true=>rw[hz0]at htr;cases htr;rfl
  split at htr
  ·obtain⟨esz,hes,htr⟩:=AL.1 htr
   split at htr
   ·cases htr;rfl
   ·cases htr
  ·cases htr;rfl
  ·cases htr
 case box t x=>
  obtain⟨x',hx,e⟩:=AL.1 htr;cases e
  show AGn x' E k=AGn x' E' k
  simp only[AGn,hf _ _ hx]
 case buildSlice t cnt ps=>
  split at htr
  ·obtain⟨esz,hes,htr⟩:=AL.1 htr
   obtain⟨z,hz,htr⟩:=AL.1 htr
   obtain⟨ps',hps,htr⟩:=AL.1 htr
   split at htr
   ·cases htr
    obtain⟨h1,h2⟩:=AA1 hf _ _ hps
    show Aj esz cnt z ps' E k=Aj esz cnt z ps' E' k
    simp only[Aj,h1,h2]
   ·cases htr
  ·cases htr
 case makeSlice t l c=>
  split at htr
  ·obtain⟨i,hi,htr⟩:=AL.1 htr
   obtain⟨z,hz,htr⟩:=AL.1 htr
   obtain⟨l',hl,htr⟩:=AL.1 htr
   obtain⟨c',hc,htr⟩:=AL.1 htr
   split at htr
   ·cases htr
    show SE i.size i.bytes z l' c' E k=SE i.size i.bytes z l' c' E' k
    simp only[SE,hf _ _ hl,hf _ _ hc]
   ·cases htr
  ·cases htr
 case makeMap t r=>
  split at htr
  ·cases htr;rfl
  ·cases htr
variable{P:Program}
theorem AHB{v y:V}(h:EU v y=true):v=y:=by
 cases v<;>simp only[EU]at h<;>first|(cases h;done)|skip
 ·cases y<;>simp only[ALV]at h<;>try (cases h;done)
  simp only[BO,Bool.and_eq_true,NP,WU,beq_iff_eq,beq_iff]at h
  obtain⟨rfl,rfl,rfl,rfl⟩:=h
  rfl
 ·cases y<;>simp only[AF1]at h<;>try (cases h;done)
  simp only[AJF,beq_iff_eq]at h
  rw[h]
 ·cases y<;>simp only[AKu]at h<;>try (cases h;done)
  simp only[BO,Bool.and_eq_true,beq_iff]at h
  obtain⟨rfl,rfl⟩:=h
  rfl
 ·cases y<;>simp only[AIr]at h<;>first|(cases h;done)|rfl
 ·cases y<;>simp only[ATN]at h<;>try (cases h;done)
  simp only[BO,Bool.and_eq_true,beq_iff]at h
  obtain⟨rfl,rfl⟩:=h
  rfl
 ·cases y<;>simp only[AMj]at h<;>try (cases h;done)
  simp only[BO,Bool.and_eq_true,beq_iff]at h
  obtain⟨rfl,rfl⟩:=h
  rfl
 ·cases y<;>simp only[AJU]at h<;>first|(cases h;done)|rfl
 ·cases y<;>simp only[APl]at h<;>try (cases h;done)
  simp only[BO,Bool.and_eq_true,beq_iff]at h
  obtain⟨rfl,rfl,rfl,rfl,rfl⟩:=h
  rfl
 ·cases y<;>simp only[AFr]at h<;>try (cases h;done)
  simp only[BO,Bool.and_eq_true,beq_iff]at h
  obtain⟨rfl,rfl,rfl,rfl⟩:=h
  rfl
 ·cases y<;>simp only[AO5]at h<;>try (cases h;done)
  simp only[BO,Bool.and_eq_true,beq_iff]at h
  obtain⟨rfl,rfl,rfl,rfl,rfl⟩:=h
  rfl
 ·cases y<;>simp only[AJW]at h<;>first|(cases h;done)|rfl
 ·cases y<;>simp only[ARc]at h<;>try (cases h;done)
  simp only[beq_iff]at h
  rw[h]
 ·cases y<;>simp only[AIZ]at h<;>first|(cases h;done)|rfl
theorem ACP:∀{l m:List V},uD l m=true->l=m
 |[],[],_=>rfl
 |[],_::_,h=>by cases h
 |_::_,[],h=>by cases h
 |x::l,y::m,h=>by
  have h':band (EU x y) (uD l m)=true:=h
  simp only[BO,Bool.and_eq_true]at h'
  rw[AHB h'.1,ACP h'.2]
theorem AK0{v y:V}(h:BH v y=true):v=y:=by
 cases v
 case undef=>cases y<;>simp only[BH,AKi]at h<;>first|(cases h;done)|rfl
 case agg l=>
  cases y<;>simp only[BH,AWo]at h<;>try (cases h;done)
  rw[ACP h]
 case EI l=>
  cases y<;>simp only[BH,AWn]at h<;>try (cases h;done)
  rw[ACP h]
 all_goals exact AHB h
structure Stp where
 i:Nat
 o:Oper
 dst:sW
 dt:Option Nat
 gd:Gd
 ao:AO
 rd:List Nat
def fR(C:FX)(rd:List Nat):Operand->Option X
 |.tmp t=>if rd.elem t then if t<C.nt then if C.loc t then none else some (.r (PN t))else none else none
 |.const v=>Az (cvV v) λv=>some (.c v)
 |.global g=>some (.c (.gptr g 0))
 |.func f=>some (.c (.fn f [] []))
def AR0(P:Program)(C:FX)(ops:Array Oper)(i:Nat)(wk:Wk):Option Stp:=
 Az ops[i]? λo=>if Yw o.op then none else
  Az (AD7 P C (fR C (o.looksAt ops)) wk o.op) λao=>Az (ASO C (fR C (o.looksAt ops)) ops o.guard) λg=>match o.dst with
   |none=>some ⟨i,o,.no,none,g,ao,o.looksAt ops⟩
   |some t=>if t<C.nt then if C.loc t then none else some ⟨i,o,.to (PN t),some t,g,ao,o.looksAt ops⟩else none
structure yF(P:Program)(C:FX)(ops:Array Oper)(s:Stp):Prop where
 at_:ops[s.i]? =some s.o
 nd:Yw s.o.op=false
 tr:∃wk,AD7 P C (fR C s.rd) wk s.o.op=some s.ao
 gd:ASO C (fR C s.rd) ops s.o.guard=some s.gd
 dt:s.o.dst=s.dt
 dst:(s.dt=none/\s.dst=.no)∨∃t,s.dt=some t/\s.dst=.to (PN t)/\t<C.nt/\C.loc t=false
theorem ASf{C:FX}{ops:Array Oper}{i:Nat}{wk:Wk}{s:Stp}(h:AR0 P C ops i wk=some s):yF P C ops s/\s.i=i:=by
 unfold AR0 at h
 obtain⟨o,ho,h⟩:=AL.1 h
 split at h
 ·cases h
 ·rename_i hnd
  obtain⟨ao,hao,h⟩:=AL.1 h
  obtain⟨g,hg,h⟩:=AL.1 h
  split at h
  ·rename_i hd
   cases h
   exact⟨⟨ho,by simpa using hnd,⟨wk,hao⟩,hg,hd,.inl ⟨rfl,rfl⟩⟩,rfl⟩
  ·rename_i t hd
   split at h
   ·rename_i ht
    split at h
    ·cases h
    ·rename_i hl
     cases h
     exact⟨⟨ho,by simpa using hnd,⟨wk,hao⟩,hg,hd,.inr ⟨t,rfl,rfl,ht,by simpa using hl⟩⟩,rfl⟩
   ·cases h
def AO.isE:AO->Bool
 |.e _=>true
 |_=>false
def AO.isA:AO->Bool
 |.a _=>true
 |_=>false
def AO.isR:AO->Bool
 |.n o=>o.looks
 |_=>false
theorem ASa{C:FX}{rd:List Nat}{ρ:Loc}{E:RS}{a:Act}(h:∀t,t∈rd->t<C.nt->C.loc t=false->AZ ρ (Nh (T.ED (PN t) E.rg)) (a.eval (.tmp t))):∀o x,fR C rd o=some x->AZ ρ (x.ev E) (a.eval o):=by
 intro o x hx
 cases o with
 |tmp t=>
  simp only[fR]at hx
  split at hx
  ·rename_i hm
   split at hx
   ·rename_i ht
    split at hx
    ·cases hx
    ·rename_i hl
     cases hx
     rw[X.AMU]
     exact h t (by simpa using hm) ht (by simpa using hl)
   ·cases hx
  ·cases hx
 |const v=>
  obtain⟨c,hc,e⟩:=AL.1 hx
  cases e
  exact ABU hc
 |global g=>cases hx;exact rfl
 |func f=>cases hx;exact⟨#[], #[],rfl,by simp,by simp⟩
theorem vT{C:FX}{rd:List Nat}{E E':RS}(h:∀t,t∈rd->T.ED (PN t) E.rg=T.ED (PN t) E'.rg):∀o x,fR C rd o=some x->x.ev E=x.ev E':=by
 intro o x hx
 cases o with
 |tmp t=>
  simp only[fR]at hx
  split at hx
  ·rename_i hm
   split at hx
   ·split at hx
    ·cases hx
    ·cases hx
     rw[X.AMU,X.AMU,h t (by simpa using hm)]
   ·cases hx
  ·cases hx
 |const v=>
  obtain⟨c,hc,e⟩:=AL.1 hx
  cases e;rfl
 |global g=>cases hx;rfl
 |func f=>cases hx;rfl
theorem ANt{C:FX}{f:Operand->Option X}{wk:Wk}{op:Op}{an:AN}(htr:AD7 P C f wk op=some (.n an)):trN P f op=some an:=by
 cases wk with
 |wr=>obtain⟨e,_,e1⟩:=AL.1 htr;cases e1
 |plain=>
  simp only[AD7]at htr
  split at htr
  ·rename_i o ho;cases htr;exact ho
  ·split at htr
   ·cases htr
   ·split at htr
    ·cases htr
    ·split at htr
     ·split at htr
      ·split at htr
       ·obtain⟨_,_,htr⟩:=AL.1 htr
        obtain⟨_,_,e⟩:=AL.1 htr;cases e
       ·cases htr
      ·cases htr
     ·cases htr
theorem AM2{C:FX}{f:Operand->Option X}{wk:Wk}{op:Op}{an:AA}(htr:AD7 P C f wk op=some (.a an)):trA P f op=some an:=by
 cases wk with
 |wr=>obtain⟨e,_,e1⟩:=AL.1 htr;cases e1
 |plain=>
  simp only[AD7]at htr
  split at htr
  ·cases htr
  ·split at htr
   ·rename_i o ho;cases htr;exact ho
   ·split at htr
    ·cases htr
    ·split at htr
     ·split at htr
      ·split at htr
       ·obtain⟨_,_,htr⟩:=AL.1 htr
        obtain⟨_,_,e⟩:=AL.1 htr;cases e
       ·cases htr
      ·cases htr
     ·cases htr
def AFS(G:AV)(ao:AO)(d:sW)(E:RS)(H:Heap)(n:Nat)(ρ:Loc)(id:Nat):Prop:=match ao with
 |.n an=>∃v,an.ev G E H=some v/\∀p,d=.to p->Nh (T.ED p E.rg)=v
 |.a aa=>∃b fn,Al aa E b fn/\id<n/\ρ id=none/\T.get H id=some b/\∀p,d=.to p->Nh (T.ED p E.rg)=fn id
 |.e _=>False
def AD5(G:AV)(s:Stp)(E:RS)(H:Heap)(n:Nat)(ρ:Loc)(id:Nat):Prop:=match s.gd with
 |.no=>AFS G s.ao s.dst E H n ρ id
 |.on x b=>∃t,gv (x.ev E)=some t/\if t=some b then AFS G s.ao s.dst E H n ρ id else ∀p,s.dst=.to p->Nh (T.ED p E.rg)=.EI []
def onS(s:Stp)(E:RS):Prop:=match s.gd with
 |.no=>True
 |.on x b=>gv (x.ev E)=some (some b)
theorem AUk{G:AV}{s:Stp}{E:RS}{H:Heap}{n:Nat}{ρ:Loc}{id:Nat}(h:AD5 G s E H n ρ id)(ho:onS s E):AFS G s.ao s.dst E H n ρ id:=by
 unfold AD5 at h
 unfold onS at ho
 cases hg:s.gd with
 |no=>rw[hg]at h;exact h
 |on x b=>
  rw[hg]at h ho
  obtain⟨t,ht,h⟩:=h
  have ho':gv (x.ev E)=some (some b):=ho
  rw[ho']at ht;cases ht
  rwa [if_pos rfl]at h
theorem AFM{C:FX}{f:Operand->Option X}{wk:Wk}{op:Op}{G:AV}{ao:AO}(htr:AD7 P C f wk op=some ao){d:sW}{E E':RS}{H H':Heap}{n n':Nat}{ρ ρ':Loc}{id:Nat}(hf:∀o x,f o=some x->x.ev E=x.ev E')
 (hd:∀p,d=.to p->T.ED p E.rg=T.ED p E'.rg) (hn:n<=n') (hk:ao.isA=true->id<n->ρ id=none->ρ' id=none/\T.get H' id=T.get H id) (hH:Hle H H'∨ao.isR=false) (h:AFS G ao d E H n ρ id):AFS G ao d E' H' n' ρ' id:=by
 cases ao with
 |n an=>
  obtain⟨v,hv,hp⟩:=h
  have hcong:an.ev G E H=an.ev G E' H:=AG6 hf (ANt htr) G H
  refine⟨v,?_,λp e=>by rw[<-hd p e];exact hp p e⟩
  rw[hcong]at hv
  rcases hH with hH|hH
  ·exact AVJ hH an hv
  ·rw[AXV (by simpa[AO.isR]using hH) G E' H' H];exact hv
 |a aa=>
  obtain⟨b,fn,hal,hid,hρ,hget,hp⟩:=h
  have hcong:∀k,aa.al E k=aa.al E' k:=AH8 hf (AM2 htr)
  obtain⟨h1,h2⟩:=hk rfl hid hρ
  refine⟨b,fn,by unfold Al at*;rw[<-hcong];exact hal,by omega,h1,by rw[h2];exact hget,λp e=>by rw[<-hd p e];exact hp p e⟩
 |e _=>exact h.elim
theorem AEF{C:FX}{f:Operand->Option X}{ops:Array Oper}{g:Option (Nat×Bool)}{x:X}{b:Bool}(h:ASO C f ops g=some (.on x b)){E E':RS}(hf:∀o x,f o=some x->x.ev E=x.ev E'):x.ev E=x.ev E':=by
 cases g with
 |none=>cases h
 |some gb=>
  obtain⟨t,_,h⟩:=AL.1 h
  obtain⟨y,hy,h⟩:=AL.1 h
  split at h
  ·cases h;exact hf _ _ hy
  ·cases h
theorem ACv{C:FX}{ops:Array Oper}{s:Stp}(ok:yF P C ops s){G:AV}{E E':RS}{H H':Heap}{n n':Nat}{ρ ρ':Loc}{id:Nat}(hf:∀t,t∈s.rd->T.ED (PN t) E.rg=T.ED (PN t) E'.rg)
 (hd:∀t,s.dt=some t->T.ED (PN t) E.rg=T.ED (PN t) E'.rg) (hn:n<=n') (hk:s.ao.isA=true->onS s E->id<n->ρ id=none->ρ' id=none/\T.get H' id=T.get H id) (hH:Hle H H'∨s.ao.isR=false) (h:AD5 G s E H n ρ id):AD5 G s E' H' n' ρ' id:=by
 obtain⟨wk,htr⟩:=ok.tr
 have hfs:=vT (C:=C) hf
 have hd':∀p,s.dst=.to p->T.ED p E.rg=T.ED p E'.rg:=by
  intro p hp
  rcases ok.dst with⟨_,h⟩|⟨t,h1,h2,_⟩
  ·rw[h]at hp;cases hp
  ·rw[h2]at hp;cases hp;exact hd t h1
 unfold AD5 at*
 cases hg:s.gd with
 |no=>rw[hg]at h;exact AFM htr hfs hd' hn (λha=>hk ha (by unfold onS;rw[hg];trivial)) hH h
 |on x b=>
  rw[hg]at h
  obtain⟨t,ht,h⟩:=h
  have hgd:=ok.gd
  rw[hg]at hgd
  refine⟨t,by rw[<-AEF hgd hfs];exact ht,?_⟩
  split
  ·rename_i e;rw[if_pos e]at h;exact AFM htr hfs hd' hn (λha=>hk ha (by unfold onS;rw[hg];exact ht.trans (congrArg some e))) hH h
  ·rename_i e;rw[if_neg e]at h;exact λp hp=>by rw[<-hd' p hp];exact h p hp
theorem AAw{C:FX}{ops:Array Oper}{s:Stp}(ok:yF P C ops s){E E':RS}(hf:∀t,t∈s.rd->T.ED (PN t) E.rg=T.ED (PN t) E'.rg):onS s E'->onS s E:=by
 have hfs:=vT (C:=C) hf
 have hgd:=ok.gd
 unfold onS
 cases hg:s.gd with
 |no=>exact λh=>h
 |on x b=>
  rw[hg]at hgd
  intro h
  show gv (x.ev E)=some (some b)
  rw[AEF hgd hfs];exact h
variable{P:Program}
def Closed(ops:Array Oper)(S:Nat->Bool):Prop:=∀j o,S j=true->ops[j]? =some o->∀e∈o.after,Region.binds .any e=true->S e.on=true
def Before(ops:Array Oper)(x i:Nat):Prop:=∀S:Nat->Bool,Closed ops S->(∀o,ops[i]? =some o->∀e∈o.after,Region.binds .any e=true->S e.on=true)->S x=true
structure YM(P:Program)(C:FX)(ops:Array Oper)(ss:List Stp)(Qd:Nat->List Nat):Prop where
 ok:∀s∈ss,yF P C ops s
 all:∀i,i<ops.size->∃s∈ss,s.i=i
 inj:∀pre s post,ss=pre++s::post->(∀x∈pre,x.i≠s.i)/\∀x∈post,x.i≠s.i
 AZB:∀pre s post,ss=pre++s::post->∀e∈s.o.after,Region.binds .any e=true->∃x∈pre,x.i=e.on
 act:∀pre j mid s post,ss=pre++j::(mid++s::post)->j.ao.isE=true->Before ops j.i s.i
 own:∀s∈ss,s.ao.isE=false->∀t,s.dt=some t->t∉s.rd
 regs:∀s∈ss,∀k∈ss,s.i≠k.i->∀t,s.dt=some t->k.dt≠some t/\(t∈k.rd->Before ops s.i k.i∨(s.ao.isE=true/\Before ops k.i s.i))
 Qd:∀i x,x∈Qd i->Before ops x i
 AaL:∀s∈ss,s.ao.isR=true->∃p,s.dst=.to p
 len:ss.length<=ops.size
structure Inv(P:Program)(C:FX)(ops:Array Oper)(ss:List Stp)(G:AV)(w0:World)(ρ0:Loc)(H0:Heap)(n0:Nat)(pre post:List Stp)(L:Array Bool)(ids:Nat->Nat)(E:RS)(H:Heap)(n:Nat)(ρ:Loc)(a:Act)(w:World):Prop where
 split:ss=pre++post
 hh:D8 w0 ρ H n w
 gu:Ij ρ0 H0 n0 ρ H n
 lsz:L.size=ops.size
 sub:∀i,L.getD i false=true->∃s∈pre,s.i=i
 closed:Closed ops (λi=>L.getD i false)
 eff:∀s∈pre,s.ao.isE=true->L.getD s.i false=true
 size:a.tmps.size=C.nt
 reg:∀t,t<C.nt->C.loc t=false->(∀s∈pre,L.getD s.i false=false->s.dt≠some t)->AZ ρ (Nh (T.ED (PN t) E.rg)) (a.eval (.tmp t))
 dfs:if C.df then DL ρ (xC (Nh (T.ED (PN C.nt) E.rg))) a.defers else a.defers=[]
 now:∀s∈pre,L.getD s.i false=false->AD5 G s E H n ρ (ids s.i)
 one:∀s∈pre,∀k∈pre,L.getD s.i false=false->L.getD k.i false=false->s.ao.isA=true->k.ao.isA=true->onS s E->onS k E->ids s.i=ids k.i->s.i=k.i
 ge:∀s∈pre,L.getD s.i false=false->s.ao.isA=true->onS s E->n0<=ids s.i
def AJD(s:Stp):Option AI:=match s.dst,s.ao with
 |.to p,.n an=>some (.re p s.gd an)
 |_,_=>none
def pU(Qd:List Nat):List Stp->List AI
 |[]=>[]
 |x::r=>if x.ao.isR&& !(Qd.elem x.i)then match AJD x with
  |some i=>i::pU Qd r
  |none=>pU Qd r
  else pU Qd r
def Eb(Qd:Nat->List Nat):List Stp->List Stp->List AI
 |_,[]=>[]
 |done,s::r=>.op (.mk s.dst s.gd s.ao)::((if s.ao.isE then pU (Qd s.i) done else[])++Eb Qd (done++[s]) r)
section
variable{C:FX}{ops:Array Oper}{ss:List Stp}{Qd:Nat->List Nat}{G:AV}{w0:World}{ρ0:Loc}{H0:Heap}{n0:Nat}{pre post:List Stp}{L:Array Bool}{ids:Nat->Nat}{E:RS}{H:Heap}{n:Nat}{ρ:Loc}{a:Act}{w:World}{call:BD}{K:KE}
def preS(pre:List Stp):Nat->Bool:=λi=>pre.any λs=>s.i==i
theorem AFJ{i:Nat}:preS pre i=true↔∃s∈pre,s.i=i:=by simp[preS]
theorem YM.edges(R:YM P C ops ss Qd)(hs:ss=pre++post){s:Stp}(hm:s∈pre):∀e∈s.o.after,Region.binds .any e=true->preS pre e.on=true:=by
 obtain⟨p1,p2,rfl⟩:=List.append_of_mem hm
 intro e he hb
 obtain⟨x,hx,hxi⟩:=R.AZB p1 s (p2++post) (by rw[hs];simp) e he hb
 exact AFJ.2 ⟨x,List.mem_append_left _ hx,hxi⟩
theorem YM.APa(R:YM P C ops ss Qd)(hs:ss=pre++post):Closed ops (preS pre):=by
 intro j o hj ho
 obtain⟨s,hm,rfl⟩:=AFJ.1 hj
 have hok:=R.ok s (by rw[hs];exact List.mem_append_left _ hm)
 have:s.o=o:=Option.some.inj (hok.at_.symm.trans ho)
 subst this
 exact R.edges hs hm
theorem YM.AF8(R:YM P C ops ss Qd)(hs:ss=pre++post){k:Stp}(hk:k∈pre){x:Nat}(hb:Before ops x k.i):∃s∈pre,s.i=x:=by
 refine AFJ.1 (hb _ (R.APa hs) ?_)
 intro o ho
 have hok:=R.ok k (by rw[hs];exact List.mem_append_left _ hk)
 have:k.o=o:=Option.some.inj (hok.at_.symm.trans ho)
 subst this
 exact R.edges hs hk
theorem Mc{d:sW}{v:V}{p:P2}(h:d≠.to p):T.ED p (GR d v E).rg=T.ED p E.rg:=by
 cases d with
 |no=>rfl
 |to q=>rw[(kZ q v E).1,T.I9 _ _ _ _ (λe=>h (by rw[e]))]
 |ps=>rw[(AIa v E).1]
theorem yF.zi{s:Stp}(ok:yF P C ops s){t:Nat}(h:s.dt≠some t):s.dst≠.to (PN t):=by
 rcases ok.dst with⟨_,h'⟩|⟨u,h1,h2,_⟩
 ·rw[h'];intro e;cases e
 ·rw[h2];intro e;exact h (by rw[h1,aZ (sW.to.inj e)])
theorem yF.AQy{s:Stp}(ok:yF P C ops s):s.dst≠.to (PN C.nt):=by
 rcases ok.dst with⟨_,h'⟩|⟨u,h1,h2,h3,_⟩
 ·rw[h'];intro e;cases e
 ·rw[h2];intro e;have:=aZ (sW.to.inj e);omega
theorem Inv.adv(R:YM P C ops ss Qd){s:Stp}(I:Inv P C ops ss G w0 ρ0 H0 n0 pre (s::post) L ids E H n ρ a w)(hE:s.ao.isE=false)(h:CU (Eb Qd pre (s::post)) G call E H n K):
 ∃ids' E' H' n',Inv P C ops ss G w0 ρ0 H0 n0 (pre++[s]) post L ids' E' H' n' ρ a w/\CU (Eb Qd (pre++[s]) post) G call E' H' n' K:=by
 have hsm:s∈ss:=by rw[I.split];simp
 have ok:=R.ok s hsm
 obtain⟨hpre,hpost⟩:=R.inj pre s post I.split
 have hun:L.getD s.i false=false:=by
  cases hl:L.getD s.i false with
  |false=>rfl
  |true=>obtain⟨x,hx,hxi⟩:=I.sub _ hl;exact absurd hxi (hpre x hx)
 have others:∀(v:V) (k:Stp),k∈pre->L.getD k.i false=false->(∀t,t∈k.rd->T.ED (PN t) E.rg=T.ED (PN t) (GR s.dst v E).rg)/\(∀t,k.dt=some t->T.ED (PN t) E.rg=T.ED (PN t) (GR s.dst v E).rg):=by
  intro v k hk hkl
  have hkm:k∈ss:=by rw[I.split];exact List.mem_append_left _ hk
  refine⟨λt ht=>?_,λt ht=>?_⟩
  ·refine(Mc (ok.zi λhd=>?_)).symm
   rcases(R.regs s hsm k hkm (λe=>hpre k hk e.symm) t hd).2 ht with hb|⟨he,_⟩
   ·obtain⟨x,hx,hxi⟩:=R.AF8 I.split hk hb
    exact hpre x hx hxi
   ·rw[hE]at he;cases he
  ·refine(Mc (ok.zi λhd=>?_)).symm
   exact(R.regs s hsm k hkm (λe=>hpre k hk e.symm) t hd).1 ht
 have mk:∀(v:V) (ids':Nat->Nat) (H':Heap) (n':Nat),D8 w0 ρ H' n' w->Ij ρ H n ρ H' n'->Hle H H'->(∀k∈pre,ids' k.i=ids k.i)->AD5 G s (GR s.dst v E) H' n' ρ (ids' s.i)->
  (∀k∈pre,L.getD k.i false=false->s.ao.isA=true->k.ao.isA=true->onS s (GR s.dst v E)->onS k E->ids' s.i≠ids k.i)->(s.ao.isA=true->onS s (GR s.dst v E)->n0<=ids' s.i)->
  Inv P C ops ss G w0 ρ0 H0 n0 (pre++[s]) post L ids' (GR s.dst v E) H' n' ρ a w:=by
  intro v ids' H' n' hh' hgu' hle hids hnow hone hge
  refine{split:=by rw[I.split];simp,hh:=hh',gu:=I.gu.trans hgu',lsz:=I.lsz,sub:=λi hi=>?_,closed:=I.closed,eff:=?_,size:=I.size,reg:=?_,dfs:=?_,now:=?_,one:=?_,ge:=?_}
  ·obtain⟨x,hx,hxi⟩:=I.sub i hi
   exact⟨x,List.mem_append_left _ hx,hxi⟩
  ·intro k hk hke
   rcases List.mem_append.1 hk with hk|hk
   ·exact I.eff k hk hke
   ·simp at hk;subst hk;rw[hE]at hke;cases hke
  ·intro t ht hl hd
   rw[Mc (ok.zi (hd s (by simp) hun))]
   exact I.reg t ht hl λk hk=>hd k (List.mem_append_left _ hk)
  ·rw[Mc ok.AQy];exact I.dfs
  ·intro k hk hkl
   rcases List.mem_append.1 hk with hk|hk
   ·obtain⟨h1,h2⟩:=others v k hk hkl
    rw[hids k hk]
    exact ACv (R.ok k (by rw[I.split];exact List.mem_append_left _ hk)) h1 h2 hgu'.grow (λ_ _ hid hρ=>hgu'.keep _ hid hρ) (.inl hle) (I.now k hk hkl)
   ·simp at hk;subst hk;exact hnow
  ·intro x hx k hk hxl hkl hxa hka hxo hko he
   have onk:∀k∈pre,L.getD k.i false=false->onS k (GR s.dst v E)->onS k E:=λk hk hkl=>AAw (R.ok k (by rw[I.split];exact List.mem_append_left _ hk)) (others v k hk hkl).1
   rcases List.mem_append.1 hx with hx1|hx1<;>rcases List.mem_append.1 hk with hk1|hk1
   ·rw[hids x hx1,hids k hk1]at he;exact I.one x hx1 k hk1 hxl hkl hxa hka (onk x hx1 hxl hxo) (onk k hk1 hkl hko) he
   ·have e1:=List.mem_singleton.1 hk1;rw[e1]at he hka hko;rw[hids x hx1]at he;exact absurd he.symm (hone x hx1 hxl hka hxa hko (onk x hx1 hxl hxo))
   ·have e1:=List.mem_singleton.1 hx1;rw[e1]at he hxa hxo;rw[hids k hk1]at he;exact absurd he (hone k hk1 hkl hxa hka hxo (onk k hk1 hkl hko))
   ·rw[List.mem_singleton.1 hx1,List.mem_singleton.1 hk1]
  ·intro k hk hkl hka hko
   rcases List.mem_append.1 hk with hk1|hk1
   ·rw[hids k hk1];exact I.ge k hk1 hkl hka (AAw (R.ok k (by rw[I.split];exact List.mem_append_left _ hk1)) (others v k hk1 hkl).1 hko)
   ·have e1:=List.mem_singleton.1 hk1;rw[e1]at hka hko⊢;exact hge hka hko
 have AR5:∀v t,t∈s.rd->T.ED (PN t) E.rg=T.ED (PN t) (GR s.dst v E).rg:=λv t ht=>
  (Mc (ok.zi λhd=>R.own s hsm hE t hd ht)).symm
 have hget:∀v p,s.dst=.to p->Nh (T.ED p (GR s.dst v E).rg)=v:=λv p hp=>by rw[hp,(kZ p v E).1,T.WW];rfl
 obtain⟨wk,htr⟩:=ok.tr
 have hit:Eb Qd pre (s::post)=.op (.mk s.dst s.gd s.ao)::Eb Qd (pre++[s]) post:=by
  simp only[Eb,hE,Bool.false_eq_true,if_false,List.nil_append]
 rw[hit]at h
 have h':AOp.ex (.mk s.dst s.gd s.ao) G call E H n (λE H n=>CU (Eb Qd (pre++[s]) post) G call E H n K):=h
 have done:s.ao.ex G call s.dst E H n (λE H n=>CU (Eb Qd (pre++[s]) post) G call E H n K)->∃(v:V) (ids':Nat->Nat) (H':Heap) (n':Nat),(AFS G s.ao s.dst (GR s.dst v E) H' n' ρ (ids' s.i))/\CU (Eb Qd (pre++[s]) post) G call (GR s.dst v E) H' n' K/\
  D8 w0 ρ H' n' w/\Ij ρ H n ρ H' n'/\Hle H H'/\(∀k∈pre,ids' k.i=ids k.i)/\(∀k∈pre,L.getD k.i false=false->s.ao.isA=true->k.ao.isA=true->onS k E->ids' s.i≠ids k.i)/\(s.ao.isA=true->n0<=ids' s.i):=by
  intro hx
  cases hao:s.ao with
  |e e=>rw[hao]at hE;cases hE
  |n an=>
   rw[hao]at hx htr
   have hx':AP (an.ev G E H) (λv=>CU (Eb Qd (pre++[s]) post) G call (GR s.dst v E) H n K):=hx
   rw[AEX]at hx'
   obtain⟨v,hv,hk⟩:=hx'
   have hcong:=AG6 (vT (C:=C) (AR5 v)) (ANt htr) G H
   exact⟨v,ids,H,n,⟨v,by rw[<-hcong];exact hv,hget v⟩,hk,I.hh,Ij.refl _ _ _,Hle.refl _,λ_ _=>rfl,λk _ _ h _ _=>(by simp[AO.isA]at h),λh=>by simp[AO.isA]at h⟩
  |a aa=>
   rw[hao]at hx htr
   have hx':aa.al E (λb fn=>DU n λn=>CU (Eb Qd (pre++[s]) post) G call (GR s.dst (fn n) E) (T.set H n b) (Nat.succ n) K):=hx
   obtain⟨b,fn,hal,hk⟩:=ALT hx'
   rw[BL]at hk
   have hcong:∀k,aa.al E k=aa.al (GR s.dst (fn n) E) k:=AH8 (vT (C:=C) (AR5 (fn n))) (AM2 htr)
   have hs0:(λi=>if i=s.i then n else ids i) s.i=n:=if_pos rfl
   refine⟨fn n,λi=>if i=s.i then n else ids i,T.set H n b,n+1,?_,hk,I.hh.fresh b,Ij.fresh _ _ _ _,Hle.fresh (I.hh.top n (Nat.le_refl _)) b,λk hk=>if_neg (hpre k hk),?_,λ_=>by rw[hs0];exact I.gu.grow⟩
   ·rw[hs0]
    exact⟨b,fn,by unfold Al at*;rw[<-hcong];exact hal,Nat.lt_succ_self n,I.hh.AAO,T.Au _ _ _,λp hp=>hget _ p hp⟩
   ·intro k hk hkl _ hka hko
    rw[hs0]
    have hkn:=AUk (I.now k hk hkl) hko
    cases hkao:k.ao with
    |n _=>rw[hkao]at hka;cases hka
    |e _=>rw[hkao]at hka;cases hka
    |a _=>
     rw[hkao]at hkn
     obtain⟨_,_,_,hlt,_⟩:=hkn
     omega
 cases hg:s.gd with
 |no=>
  rw[hg]at h'
  obtain⟨v,ids',H',n',h1,h2,h3,h4,h5,h6,h7,h8⟩:=done h'
  exact⟨ids',_,H',n',mk v ids' H' n' h3 h4 h5 h6 (by unfold AD5;rw[hg];exact h1) (λk hk hkl hs hka _ hko=>h7 k hk hkl hs hka hko) (λhs _=>h8 hs),h2⟩
 |on x b=>
  rw[hg]at h'
  have h2:nM (x.ev E) b (s.ao.ex G call s.dst E H n λE H n=>CU (Eb Qd (pre++[s]) post) G call E H n K) (CU (Eb Qd (pre++[s]) post) G call (GR s.dst (.EI []) E) H n K):=h'
  rw[Wu]at h2
  obtain⟨q,hq,h2⟩:=h2
  have hgd:=ok.gd
  rw[hg]at hgd
  have hgs:∀v,gv (x.ev (GR s.dst v E))=some q:=λv=>by rw[<-AEF hgd (vT (C:=C) (AR5 v))];exact hq
  by_cases hqb:q=some b
  ·rw[if_pos hqb]at h2
   obtain⟨v,ids',H',n',h1,h2,h3,h4,h5,h6,h7,h8⟩:=done h2
   exact⟨ids',_,H',n',mk v ids' H' n' h3 h4 h5 h6 (by unfold AD5;rw[hg];exact⟨q,hgs v,by rw[if_pos hqb];exact h1⟩) (λk hk hkl hs hka _ hko=>h7 k hk hkl hs hka hko) (λhs _=>h8 hs),h2⟩
  ·rw[if_neg hqb]at h2
   refine⟨ids,_,H,n,mk (.EI []) ids H n I.hh (Ij.refl _ _ _) (Hle.refl _) (λ_ _=>rfl) (by unfold AD5;rw[hg];exact⟨q,hgs (.EI []),by rw[if_neg hqb];exact λp hp=>hget _ p hp⟩) ?_ ?_,h2⟩
   ·intro k _ _ hsa _ hso _
    unfold onS at hso
    rw[hg]at hso
    have hso':gv (x.ev (GR s.dst (.EI []) E))=some (some b):=hso
    rw[hgs]at hso';cases hso';exact absurd rfl hqb
   ·intro hsa hso
    unfold onS at hso
    rw[hg]at hso
    have hso':gv (x.ev (GR s.dst (.EI []) E))=some (some b):=hso
    rw[hgs]at hso';cases hso';exact absurd rfl hqb
end
variable{P:Program}
section
variable{C:FX}{ops:Array Oper}{ss:List Stp}{Qd:Nat->List Nat}{G:AV}{w0:World}{ρ0:Loc}{H0:Heap}{n0:Nat}{pre post:List Stp}{L:Array Bool}{ids:Nat->Nat}{E:RS}{H:Heap}{n:Nat}{ρ:Loc}{a:Act}{w:World}{call:BD}{K:KE}{Q:Exit->Act->World->Prop}
theorem ABH{L:Array Bool}{i:Nat}(h:i<L.size)(j:Nat)(d:Bool):(L.setIfInBounds i true).getD j d=if i=j then true else L.getD j d:=by
 by_cases e:i=j
 ·subst e;simp[h]
 ·rw[if_neg e];simp[Array.getElem?_setIfInBounds_ne e]
theorem AC6{o:Oper}(h:o.guard=none)(f:Nat->Option Bool):Region.wanted o f=true:=by simp[Region.wanted,h]
theorem AHy(R:YM P C ops ss Qd){s k:Stp}(hs:s∈ss)(hk:k∈ss)(h:s.i=k.i):s.o=k.o/\s.dt=k.dt:=by
 have h1:=R.ok s hs
 have h2:=R.ok k hk
 have e:s.o=k.o:=Option.some.inj (h1.at_.symm.trans (by rw[h];exact h2.at_))
 exact⟨e,by rw[<-h1.dt,<-h2.dt,e]⟩
theorem Inv.reads(R:YM P C ops ss Qd)(I:Inv P C ops ss G w0 ρ0 H0 n0 pre post L ids E H n ρ a w){s:Stp}(hs:s∈ss)(hun:L.getD s.i false=false)(hsE:s∈pre->s.ao.isE=false)(hsp:s∉pre->∀k∈pre,k.i≠s.i)
 (hrdy:∀e∈s.o.after,Region.binds .any e=true->L.getD e.on false=true):∀t,t∈s.rd->t<C.nt->C.loc t=false->AZ ρ (Nh (T.ED (PN t) E.rg)) (a.eval (.tmp t)):=by
 have hbef:∀x,Before ops x s.i->L.getD x false=true:=λx hb=>hb (λi=>L.getD i false) I.closed λo ho=>by
  have:s.o=o:=Option.some.inj ((R.ok s hs).at_.symm.trans ho)
  subst this
  exact hrdy
 intro t ht hlt hl
 refine I.reg t hlt hl λk hk hkl hd=>?_
 have hkm:k∈ss:=by rw[I.split];exact List.mem_append_left _ hk
 by_cases e:k.i=s.i
 ·have hdt:=(AHy R hkm hs e).2
  by_cases hp:s∈pre
  ·exact R.own s hs (hsE hp) t (by rw[<-hdt];exact hd) ht
  ·exact hsp hp k hk e
 ·rcases(R.regs k hkm s hs e t hd).2 ht with hb|⟨he,_⟩
  ·rw[hbef _ hb]at hkl;cases hkl
  ·rw[I.eff k hk he]at hkl;cases hkl
theorem Inv.late(R:YM P C ops ss Qd)(hg:Vg w0 G)(I:Inv P C ops ss G w0 ρ0 H0 n0 pre post L ids E H n ρ a w){s:Stp}(hs:s∈pre)(hun:L.getD s.i false=false)
 (hrdy:∀e∈s.o.after,Region.binds .any e=true->L.getD e.on false=true) {next:Act->World->Prop}
 (hnext:∀ρ' a' w',Inv P C ops ss G w0 ρ0 H0 n0 pre post (L.setIfInBounds s.i true) ids E H n ρ' a' w'->next a' w'):wpOp P ops Q s.i next a w:=by
 have hsm:s∈ss:=by rw[I.split];exact List.mem_append_left _ hs
 have ok:=R.ok s hsm
 have hE:s.ao.isE=false:=by
  cases he:s.ao.isE with
  |false=>rfl
  |true=>rw[I.eff s hs he]at hun;cases hun
 have hi:s.i<L.size:=by rw[I.lsz];exact(Array.getElem?_eq_some_iff.1 ok.at_).1
 have hreads:=I.reads R hsm hun (λ_=>hE) (λh=>absurd hs h) hrdy
 have hO:=ASa (C:=C) hreads
 have hL:∀j,(L.setIfInBounds s.i true).getD j false=if s.i=j then true else L.getD j false:=λj=>ABH hi j false
 have hLf:∀j,(L.setIfInBounds s.i true).getD j false=false->s.i≠j/\L.getD j false=false:=by
  intro j hj
  rw[hL]at hj
  by_cases e:s.i=j
  ·rw[if_pos e]at hj;cases hj
  ·rw[if_neg e]at hj;exact⟨e,hj⟩
 have hLt:∀j,L.getD j false=true->(L.setIfInBounds s.i true).getD j false=true:=by
  intro j hj;rw[hL];split
  ·rfl
  ·exact hj
 have mk:∀(ρ':Loc) (val:Value) (w':World),D8 w0 ρ' H n w'->Ij ρ0 H0 n0 ρ' H n->ρ.le ρ'->(∀k∈pre,(L.setIfInBounds s.i true).getD k.i false=false->k.ao.isA=true->onS k E->ρ (ids k.i)=none->ρ' (ids k.i)=none)->(∀t,s.dst=.to (PN t)->AZ ρ' (Nh (T.ED (PN t) E.rg)) val)->
  Inv P C ops ss G w0 ρ0 H0 n0 pre post (L.setIfInBounds s.i true) ids E H n ρ' (a.put s.o.dst val) w':=by
  intro ρ' val w' hh' hgu' hle hids hval
  refine{split:=I.split,hh:=hh',gu:=hgu',lsz:=by simpa using I.lsz,sub:=λi hi=>?_,closed:=?_,eff:=λk hk hke=>hLt _ (I.eff k hk hke),size:=by rw[AA0];exact I.size,reg:=?_,dfs:=?_,now:=?_,one:=?_,ge:=?_}
  ·rw[hL]at hi
   by_cases e:s.i=i
   ·exact⟨s,hs,e⟩
   ·rw[if_neg e]at hi;exact I.sub i hi
  ·intro j o hj ho e he hb
   apply hLt
   replace hj:(L.setIfInBounds s.i true).getD j false=true:=hj
   rw[hL]at hj
   by_cases hji:s.i=j
   ·subst hji
    have:s.o=o:=Option.some.inj (ok.at_.symm.trans ho)
    subst this
    exact hrdy e he hb
   ·rw[if_neg hji]at hj;exact I.closed j o hj ho e he hb
  ·intro t ht hl hd
   by_cases hst:s.dt=some t
   ·rw[ok.dt,hst,eval_put_same _ (by rw[I.size];exact ht)]
    refine hval t ?_
    rcases ok.dst with⟨h1,_⟩|⟨u,h1,h2,_⟩
    ·rw[h1]at hst;cases hst
    ·rw[h1]at hst;cases hst;exact h2
   ·have:(a.put s.o.dst val).eval (.tmp t)=a.eval (.tmp t):=by
     rw[ok.dt]
     cases hdt:s.dt with
     |none=>rfl
     |some u=>exact eval_put_ne _ (λe=>hst (by rw[hdt,e]))
    rw[this]
    refine AZ.mono hle _ _ (I.reg t ht hl λk hk hkl hkd=>?_)
    by_cases e:s.i=k.i
    ·exact hst (by rw[(AHy R hsm (by rw[I.split];exact List.mem_append_left _ hk) e).2];exact hkd)
    ·exact hd k hk (by rw[hL,if_neg e];exact hkl) hkd
  ·rw[put_defers]
   have:=I.dfs
   split
   ·rename_i hc;rw[if_pos hc]at this;exact this.mono hle
   ·rename_i hc;rw[if_neg hc]at this;exact this
  ·intro k hk hkl
   exact ACv (R.ok k (by rw[I.split];exact List.mem_append_left _ hk)) (λ_ _=>rfl) (λ_ _=>rfl) (Nat.le_refl _) (λhka hko _ hρ=>⟨hids k hk hkl hka hko hρ,rfl⟩) (.inl (Hle.refl _)) (I.now k hk (hLf _ hkl).2)
  ·intro x hx k hk hxl hkl hxa hka hxo hko he
   exact I.one x hx k hk (hLf _ hxl).2 (hLf _ hkl).2 hxa hka hxo hko he
  ·intro k hk hkl hka hko;exact I.ge k hk (hLf _ hkl).2 hka hko
 have hnow:=I.now s hs hun
 obtain⟨wk,htr⟩:=ok.tr
 have act:onS s E->AFS G s.ao s.dst E H n ρ (ids s.i)->s.o.wp P a w next Q:=by
  intro hso hn
  cases hao:s.ao with
  |e e=>rw[hao]at hE;cases hE
  |n an=>
   rw[hao]at hn htr
   obtain⟨v,hv,hp⟩:=hn
   obtain⟨val,hrun,hvr⟩:=AHN (P:=P) I.hh hg (λ_=>rfl) hO (ANt htr) hv
   unfold Oper.wp
   rw[hrun]
   refine hnext ρ _ _ (mk ρ val w I.hh I.gu (Loc.le.refl _) (λ_ _ _ _ _ h=>h) λt ht=>?_)
   rw[hp _ ht];exact hvr
  |a aa=>
   rw[hao]at hn htr
   obtain⟨b,fn,hal,hid,hρn,hget,hp⟩:=hn
   obtain⟨val,obj,size,hrun,hnr,hvr⟩:=AHL (P:=P) (w:=w) (ρ:=ρ) hO (AM2 htr) hal
   have hsa:s.ao.isA=true:=by rw[hao];rfl
   unfold Oper.wp
   rw[hrun]
   refine hnext _ _ _ (mk (ρ.add (ids s.i) ⟨w.heap.size,0,size⟩) val _ (I.hh.place hid hρn hget hnr) ?_ (Loc.ACz _ hρn) ?_ λt ht=>?_)
   ·refine⟨I.gu.le.trans (Loc.ACz _ hρn),I.gu.grow,λi hi hn=>?_⟩
    have hge:=I.ge s hs hun hsa hso
    obtain⟨h1,h2⟩:=I.gu.keep i hi hn
    exact⟨by rw[Loc.WO ρ _ (by omega)];exact h1,h2⟩
   ·intro k hk hkl hka hko hkn
    obtain⟨hne,hkl'⟩:=hLf _ hkl
    rw[Loc.WO ρ _ (λe=>hne (I.one s hs k hk hun hkl' hsa hka hso hko e.symm))]
    exact hkn
   ·rw[hp _ ht];exact hvr _ _ (Loc.add_same _ _ _)
 unfold wpOp
 simp only[ok.at_]
 unfold AD5 at hnow
 cases hgd:s.gd with
 |no=>
  rw[hgd]at hnow
  have hgn:s.o.guard=none:=by
   have:=ok.gd
   rw[hgd]at this
   cases hog:s.o.guard with
   |none=>rfl
   |some gb=>
    obtain⟨g,b⟩:=gb
    rw[hog]at this
    obtain⟨_,_,this⟩:=AL.1 this
    obtain⟨_,_,this⟩:=AL.1 this
    split at this<;>cases this
  rw[if_pos (AC6 hgn _)]
  exact .inl (act (by unfold onS;rw[hgd];trivial) hnow)
 |on x b=>
  rw[hgd]at hnow
  obtain⟨q,hq,hnow⟩:=hnow
  have hgo:=ok.gd
  rw[hgd]at hgo
  cases hog:s.o.guard with
  |none=>rw[hog]at hgo;cases hgo
  |some gb=>
   obtain⟨g,b'⟩:=gb
   rw[hog]at hgo
   obtain⟨t,ht,hgo⟩:=AL.1 hgo
   obtain⟨y,hy,hgo⟩:=AL.1 hgo
   split at hgo
   ·rename_i htn
    cases hgo
    have hv:=hO _ _ hy
    rw[X6 (o:=s.o) ht (by rw[I.size];exact htn) hv hq hog]
    by_cases hqb:q=some b
    ·rw[if_pos hqb]at hnow
     rw[if_pos (by simpa using hqb)]
     exact .inl (act (by unfold onS;rw[hgd];exact hq.trans (congrArg some hqb)) hnow)
    ·rw[if_neg hqb]at hnow
     rw[if_neg (by simpa using hqb)]
     refine hnext ρ _ _ (mk ρ undef w I.hh I.gu (Loc.le.refl _) (λ_ _ _ _ _ h=>h) λt ht=>?_)
     rw[hnow _ ht];exact AEm
   ·cases hgo
end
variable{P:Program}
section
variable{C:FX}{ops:Array Oper}{ss:List Stp}{Qd:Nat->List Nat}{G:AV}{w0:World}{ρ0:Loc}{H0:Heap}{n0:Nat}{pre post:List Stp}{L:Array Bool}{ids:Nat->Nat}{E:RS}{H:Heap}{n:Nat}{ρ:Loc}{a:Act}{w:World}{call:BD}{K:KE}{Q:Exit->Act->World->Prop}
def reN(G:AV)(x:Stp)(E:RS)(H:Heap):Prop:=∀p an,x.dst=.to p->x.ao=.n an->match x.gd with
 |.no=>an.ev G E H=some (Nh (T.ED p E.rg))
 |.on y b=>∃t,gv (y.ev E)=some t/\(t=some b->an.ev G E H=some (Nh (T.ED p E.rg)))
theorem AEL{A:List Nat}{M:List AI}:∀(done:List Stp),CU (pU A done++M) G call E H n K->CU M G call E H n K/\∀x∈done,x.ao.isR=true->x.i∉A->reN G x E H
 |[],h=>⟨h,λx hx=>by cases hx⟩
 |x::r,h=>by
  simp only[pU]at h
  split at h
  ·rename_i hc
   simp only[Bool.and_eq_true,Bool.not_eq_true']at hc
   cases hi:AJD x with
   |none=>
    rw[hi]at h
    obtain⟨h1,h2⟩:=AEL r h
    refine⟨h1,λy hy hr hA=>?_⟩
    rcases List.mem_cons.1 hy with rfl|hy
    ·intro p an hp han
     unfold AJD at hi
     rw[hp,han]at hi
     cases hi
    ·exact h2 y hy hr hA
   |some it=>
    rw[hi]at h
    unfold AJD at hi
    split at hi
    ·rename_i p an hp han
     cases hi
     have h':AY1 x.gd G E H p an (CU (pU A r++M) G call E H n K):=h
     have key:CU (pU A r++M) G call E H n K/\reN G x E H:=by
      cases hg:x.gd with
      |no=>
       rw[hg]at h'
       have h2:AP (an.ev G E H) (λv=>EJ (BH v (Nh (T.ED p E.rg))) (CU (pU A r++M) G call E H n K)):=h'
       rw[AEX]at h2
       obtain⟨v,hv,h2⟩:=h2
       rw[Fp]at h2
       refine⟨h2.2,λp' an' hp' han'=>?_⟩
       rw[hp]at hp';cases hp'
       rw[han]at han';cases han'
       rw[hg]
       show an.ev G E H=_
       rw[hv,AK0 h2.1]
      |on y b=>
       rw[hg]at h'
       have h2:nM (y.ev E) b (AP (an.ev G E H) λv=>EJ (BH v (Nh (T.ED p E.rg))) (CU (pU A r++M) G call E H n K)) (CU (pU A r++M) G call E H n K):=h'
       rw[Wu]at h2
       obtain⟨t,ht,h2⟩:=h2
       by_cases e:t=some b
       ·rw[if_pos e,AEX]at h2
        obtain⟨v,hv,h2⟩:=h2
        rw[Fp]at h2
        refine⟨h2.2,λp' an' hp' han'=>?_⟩
        rw[hp]at hp';cases hp'
        rw[han]at han';cases han'
        rw[hg]
        exact⟨t,ht,λ_=>by rw[hv,AK0 h2.1]⟩
       ·rw[if_neg e]at h2
        refine⟨h2,λp' an' hp' han'=>?_⟩
        rw[hg]
        exact⟨t,ht,λe'=>absurd e' e⟩
     obtain⟨h1,h2⟩:=AEL r key.1
     refine⟨h1,λz hz hr hA=>?_⟩
     rcases List.mem_cons.1 hz with rfl|hz
     ·exact key.2
     ·exact h2 z hz hr hA
    ·cases hi
  ·rename_i hc
   obtain⟨h1,h2⟩:=AEL r h
   refine⟨h1,λy hy hr hA=>?_⟩
   rcases List.mem_cons.1 hy with rfl|hy
   ·exfalso
    apply hc
    simp only[hr,Bool.true_and,Bool.not_eq_true']
    rw[Bool.eq_false_iff]
    intro hm
    exact hA (by simpa using hm)
   ·exact h2 y hy hr hA
theorem Inv.act(R:YM P C ops ss Qd)(hc:dw P w0 call)(hg:Vg w0 G){s:Stp}(I:Inv P C ops ss G w0 ρ0 H0 n0 pre (s::post) L ids E H n ρ a w)(hE:s.ao.isE=true)
 (hrdy:∀e∈s.o.after,Region.binds .any e=true->L.getD e.on false=true) (h:CU (Eb Qd pre (s::post)) G call E H n K) {next:Act->World->Prop}
 (hnext:∀E' H' n' ρ' a' w',Inv P C ops ss G w0 ρ0 H0 n0 (pre++[s]) post (L.setIfInBounds s.i true) ids E' H' n' ρ' a' w'->CU (Eb Qd (pre++[s]) post) G call E' H' n' K->next a' w'):wpOp P ops Q s.i next a w:=by
 have hsm:s∈ss:=by rw[I.split];simp
 have ok:=R.ok s hsm
 obtain⟨hpre,hpost⟩:=R.inj pre s post I.split
 have hnp:s∉pre:=λhm=>hpre s hm rfl
 have hun:L.getD s.i false=false:=by
  cases hl:L.getD s.i false with
  |false=>rfl
  |true=>obtain⟨x,hx,hxi⟩:=I.sub _ hl;exact absurd hxi (hpre x hx)
 have hi:s.i<L.size:=by rw[I.lsz];exact(Array.getElem?_eq_some_iff.1 ok.at_).1
 have hreads:=I.reads R hsm hun (λhp=>absurd hp hnp) (λ_=>hpre) hrdy
 have hO:=ASa (C:=C) hreads
 have hbef:∀x,Before ops x s.i->L.getD x false=true:=λx hb=>hb (λi=>L.getD i false) I.closed λo ho=>by
  have:s.o=o:=Option.some.inj (ok.at_.symm.trans ho)
  subst this
  exact hrdy
 have hL:∀j,(L.setIfInBounds s.i true).getD j false=if s.i=j then true else L.getD j false:=λj=>ABH hi j false
 have hLf:∀j,(L.setIfInBounds s.i true).getD j false=false->s.i≠j/\L.getD j false=false:=by
  intro j hj
  rw[hL]at hj
  by_cases e:s.i=j
  ·rw[if_pos e]at hj;cases hj
  ·rw[if_neg e]at hj;exact⟨e,hj⟩
 have hLt:∀j,L.getD j false=true->(L.setIfInBounds s.i true).getD j false=true:=by
  intro j hj;rw[hL];split
  ·rfl
  ·exact hj
 have others:∀(v:V) (k:Stp),k∈pre->L.getD k.i false=false->(∀t,t∈k.rd->T.ED (PN t) E.rg=T.ED (PN t) (GR s.dst v E).rg)/\(∀t,k.dt=some t->T.ED (PN t) E.rg=T.ED (PN t) (GR s.dst v E).rg):=by
  intro v k hk hkl
  have hkm:k∈ss:=by rw[I.split];exact List.mem_append_left _ hk
  refine⟨λt ht=>?_,λt ht=>?_⟩
  ·refine(Mc (ok.zi λhd=>?_)).symm
   rcases(R.regs s hsm k hkm (λe=>hpre k hk e.symm) t hd).2 ht with hb|⟨_,hb⟩
   ·obtain⟨x,hx,hxi⟩:=R.AF8 I.split hk hb
    exact hpre x hx hxi
   ·rw[hbef _ hb]at hkl;cases hkl
  ·refine(Mc (ok.zi λhd=>?_)).symm
   exact(R.regs s hsm k hkm (λe=>hpre k hk e.symm) t hd).1 ht
 have hit:Eb Qd pre (s::post)=.op (.mk s.dst s.gd s.ao)::(pU (Qd s.i) pre++Eb Qd (pre++[s]) post):=by
  simp only[Eb,hE,if_true]
 rw[hit]at h
 have h':AOp.ex (.mk s.dst s.gd s.ao) G call E H n (λE H n=>CU (pU (Qd s.i) pre++Eb Qd (pre++[s]) post) G call E H n K):=h
 have fin:∀(v:V) (H':Heap) (n':Nat) (val:Value) (w':World) (ρ':Loc),CU (pU (Qd s.i) pre++Eb Qd (pre++[s]) post) G call (GR s.dst v E) H' n' K->AZ ρ' v val->D8 w0 ρ' H' n' w'->Ij ρ H n ρ' H' n'->next (a.put s.o.dst val) w':=by
  intro v H' n' val w' ρ' hk hv hh' hgu'
  obtain⟨hk,hre⟩:=AEL pre hk
  refine hnext _ H' n' ρ' _ w' {split:=by rw[I.split];simp,hh:=hh',gu:=I.gu.trans hgu',lsz:=by simpa using I.lsz,sub:=λi hi=>?_,closed:=?_,eff:=?_,size:=by rw[AA0];exact I.size,reg:=?_,dfs:=?_,now:=?_,one:=?_,ge:=?_} hk
  ·rw[hL]at hi
   by_cases e:s.i=i
   ·exact⟨s,by simp,e⟩
   ·rw[if_neg e]at hi
    obtain⟨x,hx,hxi⟩:=I.sub i hi
    exact⟨x,List.mem_append_left _ hx,hxi⟩
  ·intro j o hj ho e he hb
   apply hLt
   replace hj:(L.setIfInBounds s.i true).getD j false=true:=hj
   rw[hL]at hj
   by_cases hji:s.i=j
   ·subst hji
    have:s.o=o:=Option.some.inj (ok.at_.symm.trans ho)
    subst this
    exact hrdy e he hb
   ·rw[if_neg hji]at hj;exact I.closed j o hj ho e he hb
  ·intro k hk hke
   rcases List.mem_append.1 hk with hk1|hk1
   ·exact hLt _ (I.eff k hk1 hke)
   ·rw[List.mem_singleton.1 hk1,hL,if_pos rfl]
  ·intro t ht hl hd
   by_cases hst:s.dt=some t
   ·have hdst:s.dst=.to (PN t):=by
     rcases ok.dst with⟨h1,_⟩|⟨u,h1,h2,_⟩
     ·rw[h1]at hst;cases hst
     ·rw[h1]at hst;cases hst;exact h2
    rw[ok.dt,hst,eval_put_same _ (by rw[I.size];exact ht),hdst,(kZ _ v E).1,T.WW]
    exact hv
   ·rw[Mc (ok.zi hst)]
    have:(a.put s.o.dst val).eval (.tmp t)=a.eval (.tmp t):=by
     rw[ok.dt]
     cases hdt:s.dt with
     |none=>rfl
     |some u=>exact eval_put_ne _ (λe=>hst (by rw[hdt,e]))
    rw[this]
    refine AZ.mono hgu'.le _ _ (I.reg t ht hl λk hk hkl=>hd k (List.mem_append_left _ hk) ?_)
    rw[hL,if_neg (λe=>hpre k hk e.symm)];exact hkl
  ·rw[put_defers,Mc ok.AQy]
   have:=I.dfs
   split
   ·rename_i hc;rw[if_pos hc]at this;exact this.mono hgu'.le
   ·rename_i hc;rw[if_neg hc]at this;exact this
  ·intro k hk hkl
   obtain⟨hne,hkl'⟩:=hLf _ hkl
   rcases List.mem_append.1 hk with hk1|hk1
   ·have hkm:k∈ss:=by rw[I.split];exact List.mem_append_left _ hk1
    have okk:=R.ok k hkm
    obtain⟨h1,h2⟩:=others v k hk1 hkl'
    have hold:=I.now k hk1 hkl'
    cases hkr:k.ao.isR with
    |false=>exact ACv okk h1 h2 hgu'.grow (λ_ _ hid hρ=>hgu'.keep _ hid hρ) (.inr hkr) hold
    |true=>
     have hna:k.i∉Qd s.i:=λhm=>by rw[hbef _ (R.Qd _ _ hm)]at hkl';cases hkl'
     have hr:=hre k hk1 hkr hna
     obtain⟨p,hp⟩:=R.AaL k hkm hkr
     cases hao:k.ao with
     |a _=>rw[hao]at hkr;cases hkr
     |e _=>rw[hao]at hkr;cases hkr
     |n an=>
      have hr:=hr p an hp hao
      unfold AD5 at hold⊢
      cases hkg:k.gd with
      |no=>
       rw[hkg]at hr
       rw[hao]
       exact⟨_,hr,λp' hp'=>by rw[hp]at hp';cases hp';rfl⟩
      |on y b=>
       rw[hkg]at hr hold
       obtain⟨t,ht,hr⟩:=hr
       obtain⟨t0,ht0,hold⟩:=hold
       have hgd:=okk.gd
       rw[hkg]at hgd
       have:y.ev E=y.ev (GR s.dst v E):=AEF hgd (vT (C:=C) h1)
       rw[this,ht]at ht0
       cases ht0
       refine⟨t,ht,?_⟩
       by_cases e:t=some b
       ·rw[if_pos e,hao]
        exact⟨_,hr e,λp' hp'=>by rw[hp]at hp';cases hp';rfl⟩
       ·rw[if_neg e]at hold⊢
        intro p' hp'
        have hdd:T.ED p' E.rg=T.ED p' (GR s.dst v E).rg:=by
         rcases okk.dst with⟨_,g2⟩|⟨u,g1,g2,_⟩
         ·rw[g2]at hp';cases hp'
         ·rw[g2]at hp';cases hp';exact h2 u g1
        rw[<-hdd];exact hold p' hp'
   ·exact absurd (by rw[List.mem_singleton.1 hk1]) hne
  ·intro x hx k hk hxl hkl hxa hka hxo hko he
   have onk:∀k∈pre,L.getD k.i false=false->onS k (GR s.dst v E)->onS k E:=λk hk hkl=>AAw (R.ok k (by rw[I.split];exact List.mem_append_left _ hk)) (others v k hk hkl).1
   obtain⟨hxne,hxl'⟩:=hLf _ hxl
   obtain⟨hkne,hkl'⟩:=hLf _ hkl
   rcases List.mem_append.1 hx with hx1|hx1
   ·rcases List.mem_append.1 hk with hk1|hk1
    ·exact I.one x hx1 k hk1 hxl' hkl' hxa hka (onk x hx1 hxl' hxo) (onk k hk1 hkl' hko) he
    ·exact absurd (by rw[List.mem_singleton.1 hk1]) hkne
   ·exact absurd (by rw[List.mem_singleton.1 hx1]) hxne
  ·intro k hk hkl hka hko
   obtain⟨hkne,hkl'⟩:=hLf _ hkl
   rcases List.mem_append.1 hk with hk1|hk1
   ·exact I.ge k hk1 hkl' hka (AAw (R.ok k (by rw[I.split];exact List.mem_append_left _ hk1)) (others v k hk1 hkl').1 hko)
   ·exact absurd (by rw[List.mem_singleton.1 hk1]) hkne
 obtain⟨wk,htr⟩:=ok.tr
 have act:s.ao.ex G call s.dst E H n (λE H n=>CU (pU (Qd s.i) pre++Eb Qd (pre++[s]) post) G call E H n K)->s.o.wp P a w next Q:=λhx=>
  AKd hc I.hh hg hO ok.nd htr hx λv H' n' val w' ρ' hk hv hh' hg'=>fin v H' n' val w' ρ' hk hv hh' hg'
 unfold wpOp
 simp only[ok.at_]
 cases hgd:s.gd with
 |no=>
  rw[hgd]at h'
  have hgn:s.o.guard=none:=by
   have:=ok.gd
   rw[hgd]at this
   cases hog:s.o.guard with
   |none=>rfl
   |some gb=>
    obtain⟨g,b⟩:=gb
    rw[hog]at this
    obtain⟨_,_,this⟩:=AL.1 this
    obtain⟨_,_,this⟩:=AL.1 this
    split at this<;>cases this
  rw[if_pos (AC6 hgn _)]
  exact .inl (act h')
 |on x b=>
  rw[hgd]at h'
  have h2:nM (x.ev E) b (s.ao.ex G call s.dst E H n λE H n=>CU (pU (Qd s.i) pre++Eb Qd (pre++[s]) post) G call E H n K) (CU (pU (Qd s.i) pre++Eb Qd (pre++[s]) post) G call (GR s.dst (.EI []) E) H n K):=h'
  rw[Wu]at h2
  obtain⟨q,hq,h2⟩:=h2
  have hgo:=ok.gd
  rw[hgd]at hgo
  cases hog:s.o.guard with
  |none=>rw[hog]at hgo;cases hgo
  |some gb=>
   obtain⟨g,b'⟩:=gb
   rw[hog]at hgo
   obtain⟨t,ht,hgo⟩:=AL.1 hgo
   obtain⟨y,hy,hgo⟩:=AL.1 hgo
   split at hgo
   ·rename_i htn
    cases hgo
    have hv:=hO _ _ hy
    rw[X6 (o:=s.o) ht (by rw[I.size];exact htn) hv hq hog]
    by_cases hqb:q=some b
    ·rw[if_pos hqb]at h2
     rw[if_pos (by simpa using hqb)]
     exact .inl (act h2)
    ·rw[if_neg hqb]at h2
     rw[if_neg (by simpa using hqb)]
     exact fin (.EI []) H n undef w ρ h2 AEm I.hh (Ij.refl _ _ _)
   ·cases hgo
end
variable{P:Program}
section
variable{C:FX}{ops:Array Oper}{ss:List Stp}{Qd:Nat->List Nat}{G:AV}{w0:World}{ρ0:Loc}{H0:Heap}{n0:Nat}{call:BD}{K:KE}{Q:Exit->Act->World->Prop}
theorem filter_lt{α:Type}{p q:α->Bool}:∀{l:List α},(∀x∈l,q x=true->p x=true)->(∃x∈l,p x=true/\q x=false)->(l.filter q).length<(l.filter p).length
 |[],_,⟨x,hx,_⟩=>by cases hx
 |y::l,h,hx=>by
  have hle:∀{l:List α},(∀x∈l,q x=true->p x=true)->(l.filter q).length<=(l.filter p).length:=by
   intro l
   induction l with
   |nil=>intro _;simp
   |cons z l ih=>
    intro h
    have:=ih λx hx=>h x (List.mem_cons_of_mem _ hx)
    simp only[List.filter_cons]
    cases hq:q z with
    |true=>rw[h z List.mem_cons_self hq];simpa using this
    |false=>cases hp:p z<;>simp<;>omega
  have hl:=λx hx=>h x (List.mem_cons_of_mem y hx)
  simp only[List.filter_cons]
  cases hq:q y with
  |true=>
   rw[h y List.mem_cons_self hq]
   obtain⟨x,hx,h1,h2⟩:=hx
   have hx':x∈l:=by
    rcases List.mem_cons.1 hx with rfl|hx
    ·rw[hq]at h2;cases h2
    ·exact hx
   have:=filter_lt hl ⟨x,hx',h1,h2⟩
   simpa using this
  |false=>
   cases hp:p y with
   |true=>have:=hle hl;simp;omega
   |false=>
    obtain⟨x,hx,h1,h2⟩:=hx
    have hx':x∈l:=by
     rcases List.mem_cons.1 hx with rfl|hx
     ·rw[hp]at h1;cases h1
     ·exact hx
    have:=filter_lt hl ⟨x,hx',h1,h2⟩
    simpa using this
theorem Inv.AaJ(R:YM P C ops ss Qd):∀(p1:List Stp) {pre rest:List Stp} {L:Array Bool} {ids:Nat->Nat} {E:RS} {H:Heap} {n:Nat} {ρ:Loc} {a:Act} {w:World},Inv P C ops ss G w0 ρ0 H0 n0 pre (p1++rest) L ids E H n ρ a w->(∀s∈p1,s.ao.isE=false)->
 CU (Eb Qd pre (p1++rest)) G call E H n K->∃ids' E' H' n',Inv P C ops ss G w0 ρ0 H0 n0 (pre++p1) rest L ids' E' H' n' ρ a w/\CU (Eb Qd (pre++p1) rest) G call E' H' n' K
 |[],pre,rest,L,ids,E,H,n,ρ,a,w,I,_,h=>⟨ids,E,H,n,by simpa using I,by simpa using h⟩
 |s::p1,pre,rest,L,ids,E,H,n,ρ,a,w,I,hE,h=>by
  obtain⟨ids',E',H',n',I',h'⟩:=Inv.adv R (post:=p1++rest) I (hE s List.mem_cons_self) h
  obtain⟨ids2,E2,H2,n2,I2,h2⟩:=Inv.AaJ R p1 I' (λx hx=>hE x (List.mem_cons_of_mem _ hx)) h'
  rw[List.append_assoc,List.singleton_append]at I2 h2
  exact⟨ids2,E2,H2,n2,I2,h2⟩
theorem ASr{L:Array Bool}{s:Stp}(ok:yF P C ops s)(hsz:L.size=ops.size)(hun:L.getD s.i false=false)(he:∀e∈s.o.after,Region.binds .any e=true->L.getD e.on false=true):s.i∈Region.ready .any ops L:=by
 rw[mem_ready]
 have hi:s.i<L.size:=by rw[hsz];exact(Array.getElem?_eq_some_iff.1 ok.at_).1
 refine⟨?_,s.o,ok.at_,he⟩
 simp only[Array.getD,hi,dite_true]at hun⊢
 exact hun
theorem Inv.ends(R:YM P C ops ss Qd){pre post:List Stp}{L:Array Bool}{ids:Nat->Nat}{E:RS}{H:Heap}{n:Nat}{ρ:Loc}{a:Act}{w:World}(I:Inv P C ops ss G w0 ρ0 H0 n0 pre post L ids E H n ρ a w)(hr:Region.ready .any ops L=[])
 (h:CU (Eb Qd pre post) G call E H n K) (hK:∀E H n a w ρ,K E H n->D8 w0 ρ H n w->Rg C ρ E.rg a->Ij ρ0 H0 n0 ρ H n->Q .normal a w):Q .normal a w:=by
 have all:∀(l2 l1:List Stp),ss=l1++l2->(∀x∈l1,L.getD x.i false=true)->∀x∈ss,L.getD x.i false=true:=by
  intro l2
  induction l2 with
  |nil=>intro l1 hs h1 x hx;rw[hs,List.append_nil]at hx;exact h1 x hx
  |cons s l2 ih=>
   intro l1 hs h1
   refine ih (l1++[s]) (by rw[hs];simp) λx hx=>?_
   rcases List.mem_append.1 hx with hx|hx
   ·exact h1 x hx
   ·have hsm:s∈ss:=by rw[hs];simp
    rw[List.mem_singleton.1 hx]
    cases hl:L.getD s.i false with
    |true=>rfl
    |false=>
     have:=ASr (R.ok s hsm) I.lsz hl λe he hb=>by
      obtain⟨y,hy,hyi⟩:=R.AZB l1 s l2 hs e he hb
      rw[<-hyi];exact h1 y hy
     rw[hr]at this;cases this
 have hall:=all ss [] rfl (λx hx=>by cases hx)
 have hpost:post=[]:=by
  cases post with
  |nil=>rfl
  |cons s r=>
   have hsm:s∈ss:=by rw[I.split];simp
   obtain⟨x,hx,hxi⟩:=I.sub _ (hall s hsm)
   exact absurd hxi ((R.inj pre s r I.split).1 x hx)
 subst hpost
 refine hK E H n a w ρ h I.hh ⟨I.size,λt ht hl=>I.reg t ht hl λs hs hsl=>?_,I.dfs⟩ I.gu
 rw[hall s (by rw[I.split];exact List.mem_append_left _ hs)]at hsl;cases hsl
theorem AGF(R:YM P C ops ss Qd)(hc:dw P w0 call)(hg:Vg w0 G)(hK:∀E H n a w ρ,K E H n->D8 w0 ρ H n w->Rg C ρ E.rg a->Ij ρ0 H0 n0 ρ H n->Q .normal a w):
 ∀(fuel:Nat) (pre post:List Stp) (L:Array Bool) (ids:Nat->Nat) (E:RS) (H:Heap) (n:Nat) (ρ:Loc) (a:Act) (w:World),Inv P C ops ss G w0 ρ0 H0 n0 pre post L ids E H n ρ a w->CU (Eb Qd pre post) G call E H n K->
  (ss.filter λs=> !L.getD s.i false).length<=fuel->wpAny P .any ops Q fuel L a w
 |0,pre,post,L,ids,E,H,n,ρ,a,w,I,h,hf=>by
  have hr:Region.ready .any ops L=[]:=by
   cases hrr:Region.ready .any ops L with
   |nil=>rfl
   |cons i r=>
    have hi:i∈Region.ready .any ops L:=by rw[hrr];exact List.mem_cons_self
    obtain⟨hun,o,ho,_⟩:=mem_ready.1 hi
    have hlt:=(Array.getElem?_eq_some_iff.1 ho).1
    obtain⟨s,hs,rfl⟩:=R.all i hlt
    have hm:s∈ss.filter λs=> !L.getD s.i false:=by
     rw[List.mem_filter]
     refine⟨hs,?_⟩
     have hlt':s.i<L.size:=by rw[I.lsz];exact hlt
     simp only[Array.getD,hlt',dite_true]at hun⊢
     rw[hun];rfl
    have:(ss.filter λs=> !L.getD s.i false)=[]:=List.length_eq_zero_iff.1 (by omega)
    rw[this]at hm;cases hm
  exact⟨hr,I.ends R hr h hK⟩
 |fuel+1,pre,post,L,ids,E,H,n,ρ,a,w,I,h,hf=>by
  refine⟨λhr=>I.ends R hr h hK,λi hi=>?_⟩
  obtain⟨hun0,o,ho,hed⟩:=mem_ready.1 hi
  have hlt:=(Array.getElem?_eq_some_iff.1 ho).1
  obtain⟨s,hs,rfl⟩:=R.all i hlt
  have ok:=R.ok s hs
  have heo:s.o=o:=Option.some.inj (ok.at_.symm.trans ho)
  subst heo
  have hlt':s.i<L.size:=by rw[I.lsz];exact hlt
  have hun:L.getD s.i false=false:=by
   simp only[Array.getD,hlt',dite_true]at hun0⊢
   exact hun0
  have hcount:(ss.filter λx=> !(L.setIfInBounds s.i true).getD x.i false).length<=fuel:=by
   have:=filter_lt (p:=λx:Stp=> !L.getD x.i false) (q:=λx:Stp=> !(L.setIfInBounds s.i true).getD x.i false) (l:=ss) (λx _ hq=>by
    rw[ABH hlt']at hq
    by_cases e:s.i=x.i
    ·rw[if_pos e]at hq;cases hq
    ·rw[if_neg e]at hq;exact hq) ⟨s,hs,by rw[hun];rfl,by rw[ABH hlt',if_pos rfl];rfl⟩
   omega
  have ih:=AGF R hc hg hK fuel
  by_cases hp:s∈pre
  ·exact I.late R hg hp hun hed fun ρ' a' w' I'=>ih _ _ _ _ _ _ _ _ _ _ I' h hcount
  ·have hpo:s∈post:=by
    rw[I.split]at hs
    exact(List.mem_append.1 hs).resolve_left hp
   obtain⟨p1,p2,rfl⟩:=List.append_of_mem hpo
   have hbef:∀x,Before ops x s.i->L.getD x false=true:=λx hb=>hb (λi=>L.getD i false) I.closed λo ho'=>by
    have:s.o=o:=Option.some.inj (ok.at_.symm.trans ho')
    subst this
    exact hed
   have hnoE:∀x∈p1,x.ao.isE=false:=by
    intro x hx
    cases he:x.ao.isE with
    |false=>rfl
    |true=>
     obtain⟨q1,q2,rfl⟩:=List.append_of_mem hx
     have hb:=R.act (pre++q1) x q2 s p2 (by rw[I.split];simp) he
     obtain⟨y,hy,hyi⟩:=I.sub _ (hbef _ hb)
     exact absurd hyi ((R.inj (pre++q1) x (q2++s::p2) (by rw[I.split];simp)).1 y (List.mem_append_left _ hy))
   obtain⟨ids',E',H',n',I',h'⟩:=Inv.AaJ R p1 I hnoE h
   cases hE:s.ao.isE with
   |true=>exact I'.act R hc hg hE hed h' λE2 H2 n2 ρ2 a2 w2 I2 h2=>ih _ _ _ _ _ _ _ _ _ _ I2 h2 hcount
   |false=>
    obtain⟨ids2,E2,H2,n2,I2,h2⟩:=I'.adv R hE h'
    exact I2.late R hg (by simp) hun hed fun ρ' a' w' I3=>ih _ _ _ _ _ _ _ _ _ _ I3 h2 hcount
theorem AQf(hm:P.follows .mixedOrders=true)(R:YM P C ops ss Qd)(hc:dw P w0 call)(hg:Vg w0 G){id:Nat}{R0:Je}{a:Act}{w:World}(hh:D8 w0 ρ0 H0 n0 w)(hr:Rg C ρ0 R0 a)
 (h:CU (Eb Qd [] ss) G call (.mk [] R0) H0 n0 K) (hK:∀E H n a w ρ,K E H n->D8 w0 ρ H n w->Rg C ρ E.rg a->Ij ρ0 H0 n0 ρ H n->Q .normal a w):(Code.region id ops true).wp P Q a w:=by
 refine wp_region_any hm ?_
 have hfalse:∀i,(Array.replicate ops.size false).getD i false=false:=by
  intro i
  simp only[Array.getD]
  split<;>simp
 refine AGF R hc hg hK ops.size [] ss (Array.replicate ops.size false) (λ_=>0) (.mk [] R0) H0 n0 ρ0 a _ ?_ h ?_
 ·refine{split:=rfl,hh:=hh.of_same rfl rfl rfl,gu:=Ij.refl _ _ _,lsz:=by simp,sub:=?_,closed:=?_,eff:=?_,size:=hr.size,reg:=λt ht hl _=>hr.reg t ht hl,dfs:=hr.dfs,now:=?_,one:=?_,ge:=?_}
  ·intro i hi;rw[hfalse]at hi;cases hi
  ·intro j o hj
   replace hj:(Array.replicate ops.size false).getD j false=true:=hj
   rw[hfalse]at hj;cases hj
  ·intro s hs;cases hs
  ·intro s hs;cases hs
  ·intro s hs;cases hs
  ·intro s hs;cases hs
 ·exact Nat.le_trans (List.length_filter_le _ _) R.len
end
end Go.Bj
