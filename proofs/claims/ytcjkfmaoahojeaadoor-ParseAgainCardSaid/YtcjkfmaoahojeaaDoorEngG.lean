/- Part of a proof; nothing is assumed. -/
import Derived.Test.YtcjkfmaoahojeaaDoorEngE
import Derived.Shelf.Strings.OnBuilder
import Derived.Shelf.Strings.Repeat
set_option linter.unusedVariables false
set_option linter.unusedSimpArgs false
namespace Go.Eng
open Go.Shelf Go.Proofs Go.RowKit
theorem Du.below{w0:World}{ρ:Loc}{H:Heap}{n:Nat}{w w':World}(hh:Du w0 ρ H n w)(hb:Below w.heap.size w w'):Du w0 ρ H n w':=by
 have hs:∀i x,ρ i=some x->w'.heap[x.b]? =w.heap[x.b]? :=λi x hx=>hb.block _ (hh.blk i x hx).2
 exact{
  lt:=hh.lt,blk:=λi x hx=>⟨(hh.blk i x hx).1,Nat.lt_of_lt_of_le (hh.blk i x hx).2 hb.size⟩,inj:=hh.inj,
  arr:=λi x e c t hx h=>let⟨vs,ty,fz,ha⟩:=hh.arr i x e c t hx h;⟨vs,ty,fz,ha.of_heap (hs i x hx)⟩,
  map:=λi x e c hx h=>let⟨es,he,hr⟩:=hh.map i x e c hx h;⟨es,(hs i x hx).trans he,hr⟩,
  TG:=λi x t e l c j hx h=>(hh.TG i x t e l c j hx h).same (hs i x hx) (Loc.le.refl _) λy hy hj=>⟨hs j y hy,hj⟩,
  old:=λb hk=>(hb.block b (Nat.lt_of_lt_of_le hk hh.big)).trans (hh.old b hk),os:=hb.os.trans hh.os,out:=hb.output.trans hh.out,big:=Nat.le_trans hh.big hb.size,top:=hh.top}
def Jg(l:List UInt8):Nat×Nat:=(l.length,enc l)
theorem lg(a b:List UInt8):rJ (Jg a) (Jg b)=Jg (a++b):=by
 show(a.length+b.length,enc a+256^a.length*enc b)=((a++b).length,enc (a++b))
 rw[List.length_append,qp]
theorem ACm(sep:List UInt8)(xs:List (List UInt8)):Yk (Jg sep) (xs.map Jg)=Jg (Lib.join xs sep):=by
 cases xs with
 |nil=>rfl
 |cons x r=>
  rw[Lib.join_cons]
  show(r.map Jg).foldl (λp q=>rJ (rJ p (Jg sep)) q) (Jg x)=_
  unfold Lib.joinTail
  induction r generalizing x with
  |nil=>simp
  |cons y r ih=>
   simp only[List.map_cons,List.foldl_cons,List.flatten_cons]
   rw[lg,lg,ih]
   congr 1;simp[List.append_assoc]
theorem ABr(l:List UInt8):∀m,AHx (Jg l) m=Jg (Lib.repeatL l m)
 |0=>rfl
 |m+1=>by
  show rJ (Jg l) (AHx (Jg l) m)=_
  rw[ABr l m,lg];rfl
theorem AMS{ρ:Loc}{v:V}{a:Addr}{n cp:Nat}(h:AV ρ v (.slice (some a) n cp))(hv:v≠.undef):n<=cp/\(0<n->a.spot=none):=by
 have key:∀{b o l c:Nat} {a':Addr},Value.slice (some a) n cp=.slice (some a') l c->(c=0∨a'=⟨b,o,none⟩)->l<=c->n<=cp/\(0<n->a.spot=none):=by
  intro b o l c a' e h1 h2
  cases e
  refine⟨h2,λhp=>?_⟩
  rcases h1 with h1|h1
  ·omega
  ·rw[h1]
 cases v with
 |undef=>exact absurd rfl hv
 |sl id off len cap esz=>obtain⟨x,a',_,e,h1,h2⟩:=h;exact key e h1 h2
 |Qg id off len esz=>obtain⟨x,a',c,_,e,h1,h2,_⟩:=h;exact key e h1 h2
 |rsl b off len cap z=>obtain⟨a',e,h1,h2⟩:=h;exact key e h1 h2
 |int=>exact nomatch h
 |bool=>exact nomatch h
 |str=>obtain⟨s,e,_⟩:=h;cases e
 |AFu=>exact nomatch h
 |ptr=>obtain⟨x,_,e⟩:=h;cases e
 |VG=>exact nomatch h
 |Aj=>exact nomatch h
 |AKG=>exact nomatch h
 |map=>obtain⟨x,_,e⟩:=h;cases e
 |AKk=>exact nomatch h
 |fn=>obtain⟨x,y,e,_⟩:=h;cases e
 |agg=>obtain⟨x,e,_⟩:=h;cases e
 |JL=>obtain⟨x,e,_⟩:=h;cases e
 |AEG=>exact nomatch h
 |iface=>obtain⟨x,e,_⟩:=h;cases e
theorem AA7{ρ:Loc}:∀{LS:EY} {ss:List (Nat×Nat)} {cs:List Value},yT LS=some ss->DF ρ LS.flatten cs->∃xs:List ByteArray,cs=xs.map Value.string/\ss=xs.map λx=>Jg x.data.toList
 |[],ss,cs,h,hr=>by
  cases h
  have:cs=[]:=by simpa using hr
  exact⟨[],by rw[this];rfl,rfl⟩
 |L::r,ss,cs,h,hr=>by
  unfold yT at h
  split at h
  ·cases ‹_::_=[]›
  ·rename_i l c r' e
   cases e
   split at h
   ·rename_i x hx
    cases h
    rw[List.flatten_cons]at hr
    obtain⟨v,vs,rfl,⟨s,rfl,h1,h2⟩,hr'⟩:=Gh.1 hr
    obtain⟨xs,e1,e2⟩:=AA7 hx hr'
    refine⟨s::xs,by rw[e1];rfl,?_⟩
    rw[e2]
    show(l,c)::_=Jg s.data.toList::_
    rw[show(l,c)=Jg s.data.toList by rw[<-h1,<-h2];rfl]
   ·cases h
  ·cases h
theorem AJL{ρ:Loc}{l:List UInt8}:AV ρ (.str (Jg l).1 (Jg l).2) (.string ⟨l.toArray⟩):=⟨⟨l.toArray⟩,rfl,by simp[Jg],by simp[Jg]⟩
theorem ASy{ρ:Loc}{v:V}{s:ByteArray}(h:AV ρ v (.string s)):v=.undef∨isStr v=true:=by
 cases v with
 |undef=>exact .inl rfl
 |str=>exact .inr rfl
 |sl=>obtain⟨x,a',_,e,_⟩:=h;cases e
 |Qg=>obtain⟨x,a',c,_,e,_⟩:=h;cases e
 |rsl=>obtain⟨a',e,_⟩:=h;cases e
 |int=>exact nomatch h
 |bool=>exact nomatch h
 |AFu=>exact nomatch h
 |ptr=>obtain⟨x,_,e⟩:=h;cases e
 |VG=>exact nomatch h
 |Aj=>exact nomatch h
 |AKG=>exact nomatch h
 |map=>obtain⟨x,_,e⟩:=h;cases e
 |AKk=>exact nomatch h
 |fn=>obtain⟨x,y,e,_⟩:=h;cases e
 |agg=>obtain⟨x,e,_⟩:=h;cases e
 |JL=>obtain⟨x,e,_⟩:=h;cases e
 |AEG=>exact nomatch h
 |iface=>obtain⟨x,e,_⟩:=h;cases e
theorem args1{ρ:Loc}{x:V}{args:Array Value}(h:DF ρ [x] args.toList):∃u,args= #[u]/\AV ρ x u:=by
 obtain⟨u,us,e,hx,hr⟩:=Gh.1 h
 have:us=[]:=Zk.1 hr
 subst this
 exact⟨u,Array.toList_inj.1 e,hx⟩
theorem args2{ρ:Loc}{x y:V}{args:Array Value}(h:DF ρ [x,y] args.toList):∃u v,args= #[u,v]/\AV ρ x u/\AV ρ y v:=by
 obtain⟨u,us,e,hx,hr⟩:=Gh.1 h
 obtain⟨v,vs,e2,hy,hr⟩:=Gh.1 hr
 have:vs=[]:=Zk.1 hr
 subst this e2
 exact⟨u,v,Array.toList_inj.1 e,hx,hy⟩
section
variable{P:Program}{r:Ren}
theorem nat_join(hf:ACA P (r.f 156))(L:Lays.n156 P r)(X:Builder.Extra P r):oM P (r.f 156) .join:=by
 refine⟨hf,λw0 G hg vargs H n kk h ρ w args hh hrel=>?_⟩
 match vargs,h,hrel with
 |[],h,_=>exact h.elim
 |[_],h,_=>exact h.elim
 |_::_::_::_,h,_=>exact h.elim
 |[x,y],h,hrel=>
 have h:tN x y G H n kk:=h
 obtain⟨ux,uy,rfl,hx,hy⟩:=args2 hrel
 unfold tN at h
 split at h
 ·rename_i sl sc _
  rw[Ep]at h
  obtain⟨hns,h⟩:=h
  rw[Io]at h
  obtain⟨LS,hel,h⟩:=h
  rw[Io]at h
  obtain⟨ss,hss,h⟩:=h
  rw[Ep,decide_eq_true_eq]at h
  obtain⟨⟨h1,h2⟩,hk⟩:=h
  obtain⟨sep,rfl,hs1,hs2⟩:=hy
  have hv:x≠.undef:=λe=>by subst e;exact nomatch hel
  obtain⟨cs,hcs,hlen,heach,_,hcase⟩:=qC hh hg hx hel
  obtain⟨xs,rfl,rfl⟩:=AA7 hss hcs
  have hlx:xs.length=LS.length:=by simpa using hlen
  have hsep:(sl,sc)=Jg sep.data.toList:=by rw[<-hs1,<-hs2];rfl
  have hj:Yk (sl,sc) (xs.map λx=>Jg x.data.toList)=Jg (Lib.join (xs.map (·.data.toList)) sep.data.toList):=by
   rw[hsep,<-ACm,List.map_map];rfl
  rw[hj]at h2 hk
  have fin:∀e w',(e=Ending.returned (.string ⟨(Lib.join (xs.map (·.data.toList)) sep.data.toList).toArray⟩)/\Below w.heap.size w w')->Ret w0 ρ H n kk e w':=λe w' ⟨he,hb⟩=>
   ⟨_,_,_,_,ρ,he,hk,AJL,hh.below hb,Gq.refl _ _ _⟩
  have h2':(Lib.join (xs.map (·.data.toList)) sep.data.toList).length<=140737488355328:=h2
  have h1':xs.length<=140737488355328:=by rw[List.length_map]at h1;exact h1
  have none':∀(a:Option Addr) (c:Nat),LS=[]->ux=.slice a 0 c->Calls P (r.f 156) #[ux,.string sep] w (Ret w0 ρ H n kk):=λa c hl hu=>by
   have:xs=[]:=List.length_eq_zero_iff.1 (by rw[hlx,hl];rfl)
   subst this
   rw[hu]
   refine(Any.strings_Join_none L X a c sep w).mono λe w' ⟨he,hw⟩=>fin e w' ⟨he,hw▸Below.refl _ _⟩
  rcases hcase with⟨rfl,hl⟩|⟨a,cp,rfl,hcell⟩|⟨s,rfl,_⟩
  ·exact none' none 0 hl rfl
  ·obtain⟨hle,hsp⟩:=AMS hx hv
   rcases Nat.eq_zero_or_pos LS.length with h0|h0
   ·exact none' (some a) cp (List.length_eq_zero_iff.1 h0) (by rw[h0])
   ·obtain⟨b,o,sp⟩:=a
    have:sp=none:=hsp h0
    subst this
    have hc:∀(j:Nat) z,xs[j]? =some z->w.cell? ⟨b,o+j,none⟩=some (.string z):=λj z hz=>by
     have:=hcell j (.string z) (by rw[List.getElem?_map,hz];rfl)
     rwa [add_lit]at this
    have hbk:b<w.heap.size:=World.block_lt_of_cell? w ⟨b,o+0,none⟩ (hc 0 _ (List.getElem?_eq_getElem (by omega)))
    rw[<-hlx]at hle⊢
    exact(Any.strings_Join L X b o cp xs sep w hc hbk h1' hle h2').mono fin
  ·rcases ASy hx with e|e
   ·exact absurd e hv
   ·rw[e]at hns;cases hns
 ·exact h.elim
theorem AO8(hf:ACA P (r.f 105))(L:Lays.n105 P r)(X:Builder.Extra P r):oM P (r.f 105) .rep:=by
 refine⟨hf,λw0 G hg vargs H n kk h ρ w args hh hrel=>?_⟩
 match vargs,h,hrel with
 |[],h,_=>exact h.elim
 |[_],h,_=>exact h.elim
 |_::_::_::_,h,_=>exact h.elim
 |[x,y],h,hrel=>
 have h:AD3 x y H n kk:=h
 obtain⟨ux,uy,rfl,hx,hy⟩:=args2 hrel
 unfold AD3 at h
 split at h
 ·rename_i l c m s _
  rw[Ep,decide_eq_true_eq]at h
  obtain⟨⟨h1,h2⟩,hk⟩:=h
  obtain⟨b,rfl,hs1,hs2⟩:=hx
  have hy:uy=.int .i64 (.ofNat m):=hy
  subst hy
  have hb:(l,c)=Jg b.data.toList:=by rw[<-hs1,<-hs2];rfl
  rw[hb,ABr]at hk
  have hlen:b.size*m<=140737488355328:=by
   have:b.size=l:=by rw[<-hs1];simp
   rw[this];exact h2
  exact(Any.strings_Repeat L X b m w h1 hlen).mono λe w' ⟨he,hb⟩=>⟨_,_,_,_,ρ,he,hk,AJL,hh.below hb,Gq.refl _ _ _⟩
 ·exact h.elim
end
section
variable{P:Program}(w:World)
theorem AG3(base:Nat)(t u ty e:TypeId)(i:TypeInfo)(ht:P.underlying t=some (.slice e))(hu:P.underlying u=some .string)(hi:P.info? e=some i)(hz:i.zero=some (.int .u8 0))(hsize:i.size=1)(hby:i.bytes=1)
 (v:Value) (n:Nat) (xs:List Value) (hown:w.ownsRow base e 1 v n xs) (s:ByteArray) (h63:n+s.size<=maxLen) (hbytes:n+s.size<=140737488355328) {v':Value} {w':World}
 (hr':(Builtin.append_ #[t,u] ty #[v,.string s]).run P w=.ok v' w'):v'.ownBlock=v.ownBlock∨∃g,v'.ownBlock=some g/\w.heap.size<=g:=by
 have hsmall:n+s.size<=9223372036854775807:=by simp only[maxLen]at h63;omega
 have hxl:xs.length=n:=by simpa using hown.1
 rcases hown.2 with⟨rfl,rfl⟩|⟨g,cap,cur,rfl,hbg,hg,hnc,hcm,hcs,htake⟩
 ·by_cases hm:s.size=0
  ·have hf:=Lib.run_firstCells_string (P:=P) w 1 s
   rw[hm]at hf
   have hr:(Builtin.append_ #[t,u] ty #[.slice none 0 0,.string s]).run P w=.ok (.slice none 0 0) w:=by
    simp[Builtin.append_,run_underlying ht,run_underlying hu,sizeOf,typeInfo,hi,hsize,Builtin.lenOf,hm,hf]
   rw[hr]at hr'
   cases hr'
   exact .inl rfl
  ·have hr:=run_append_nil_string (P:=P) w t u ty e i (.int .u8 0) ht hu hi hz s (by omega) (by omega) (by rw[hby];omega)
   rw[hr]at hr'
   cases hr'
   exact .inr ⟨_,rfl,Nat.le_refl _⟩
 ·by_cases hroom:n+s.size<=cap
  ·have hcs':cur.size=cap:=by simpa using hcs
   have hr:=Lib.run_append_room_string (P:=P) w t u ty e i ht hu hi hsize g n cap cur hg s hroom (by omega)
   rw[hr]at hr'
   cases hr'
   exact .inl rfl
  ·have holds:∀j u,xs[j]? =some u->w.cell? ((⟨g,0,none⟩:Addr).add j)=some u:=hown.cells (g:=g) rfl
   have hr:=Lib.run_append_grow_string (P:=P) w t u ty e i (.int .u8 0) ht hu hi hz ⟨g,0,none⟩ n cap xs (by rw[hsize];simpa using hxl) holds s (by omega) (by omega) (by rw[hby];exact growslice_fits (by omega) (by omega))
   rw[hr]at hr'
   cases hr'
   exact .inr ⟨_,rfl,Nat.le_refl _⟩
theorem uG{ops:Array Oper}{rest:List Oper}{o:Oper}{a:Act}{Q:Exit->Act->World->Prop}(hgd:o.guard=none)(sl x:Operand)(t u:TypeId)
 (ho:o.op=.call {callee:=.builtin .append,args:= #[sl,x],argTypes:= #[t,u]})
 (base:Nat) (e:TypeId) (i:TypeInfo) (ht:P.underlying t=some (.slice e)) (hu:P.underlying u=some .string) (hi:P.info? e=some i) (hz:i.zero=some (.int .u8 0))
 (hsize:i.size=1) (hby:i.bytes=1)
 (v:Value) (n:Nat) (xs:List Value) (hs:a.eval sl=v) (hown:w.ownsRow base e 1 v n xs) (s:ByteArray) (hx:a.eval x=.string s)
 (h63:n+s.size<=maxLen) (hbytes:n+s.size<=140737488355328) (hbase:base<=w.heap.size)
 (h:∀v' w',w'.ownsRow base e 1 v' (n+s.size) (xs++Lib.strCells s)->w.grownBy w' v.ownBlock->(v'=.slice none 0 0↔v=.slice none 0 0/\s.size=0)->(v'.ownBlock=v.ownBlock∨∃g,v'.ownBlock=some g/\w.heap.size<=g)->wpList P ops Q rest (a.put o.dst v') w'):wpList P ops Q (o::rest) a w:=by
 refine wpList_plain hgd λK hK=>?_
 obtain⟨v',w',hr,h2,h3,h4⟩:=Lib.run_append_own_string (P:=P) w base t u o.type e i ht hu hi hz hsize hby v n xs hown s h63 hbytes hbase
 have h5:=AG3 (P:=P) w base t u o.type e i ht hu hi hz hsize hby v n xs hown s h63 hbytes hr
 unfold Oper.wp execOp
 simp only[ho,resolve,invoke,builtin,Sem.run_bind,Sem.run_pure,Result.andThen_ok,List.map_toArray,List.map_cons,List.map_nil,hs,hx,hr]
 exact hK _ _ (h v' w' h2 h3 h4 h5)
end
section
variable{P:Program}{ρ:Ren}
structure BAt(T e B b:Nat)(p v:Value)(bs:List Value)(w:World):Prop where
 hp:p=.pointer none∨p=.pointer (some ⟨b,0,none⟩)
 hB:B<=b
 hb:w.heap[b]? =some (.cells #[p,v] T (0,0))
 own:w.ownsRow B e 1 v bs.length bs
 ne:v.ownBlock≠some b
structure But(w w':World)(b:Nat)(r:Option Nat):Prop where
 os:w'.os=w.os
 output:w'.output=w.output
 size:w.heap.size<=w'.heap.size
 block:∀k,k<w.heap.size->k≠b->some k≠r->w'.heap[k]? =w.heap[k]?
theorem copyCheck(L:Lays.n240 P ρ)(X:Builder.X72 P ρ)(B b:Nat)(p v:Value)(bs:List Value)(w:World)(h:BAt (ρ.t 72) (ρ.t 5) B b p v bs w):
 Calls P (ρ.f 240) #[.pointer (some ⟨b,0,none⟩)] w λe w'=>e=.returned (.tuple #[])/\BAt (ρ.t 72) (ρ.t 5) B b (.pointer (some ⟨b,0,none⟩)) v bs w'/\But w w' b none:=by
 obtain⟨hp,hB,hb,hown,hne⟩:=h
 have hlt:b<w.heap.size:=(Array.getElem?_eq_some_iff.1 hb).1
 rcases hp with rfl|rfl
 ·have hbd:Lib.BuilderAt (ρ.t 72) (ρ.t 5) B b (.pointer none) bs w:=⟨hB,v,hb,hown,hne⟩
  refine(Any.Builder_copyCheck_fresh L X b w hbd.cell0 hbd.shape hbd.frozen0).mono ?_
  rintro e w' ⟨rfl,rfl⟩
  have hoth:∀k,k≠b->(w.setCell ⟨b,0,none⟩ (.pointer (some ⟨b,0,none⟩))).heap[k]? =w.heap[k]? :=λk hk=>Below.heap_setCell _ _ _ _ (λe=>hk (by simp[e]))
  refine⟨rfl,⟨.inr rfl,hB,by simp[World.setCell,Array.getElem?_modify,hb],?_,hne⟩,⟨rfl,rfl,by simp[World.setCell],λk _ hk _=>hoth k hk⟩⟩
  exact hown.kept (row:=some b) ⟨rfl,rfl,rfl,by simp[World.setCell],λk _ hk=>hoth k (λe=>hk (by simp[e]))⟩ (Or.inr hne)
 ·refine(Any.Builder_copyCheck_used L X b w (by rw[Lib.cell_of_heap hb];rfl)).mono ?_
  rintro e w' ⟨rfl,rfl⟩
  exact⟨rfl,⟨.inr rfl,hB,hb,hown,hne⟩,⟨rfl,rfl,Nat.le_refl _,λ_ _ _ _=>rfl⟩⟩
set_option maxHeartbeats 2000000 in
set_option maxRecDepth 100000 in
theorem AHQ(L:Lays.n166 P ρ)(X:Builder.Extra P ρ)(B b:Nat)(p v:Value)(bs:List Value)(s:ByteArray)(w:World)(h:BAt (ρ.t 72) (ρ.t 5) B b p v bs w)(hlen:bs.length+s.size<=140737488355328)(hBw:B<=w.heap.size):
 Calls P (ρ.f 166) #[.pointer (some ⟨b,0,none⟩),.string s] w λe w'=>e=.returned (.tuple #[.int .i64 s.size,.nilIface])/\∃v',BAt (ρ.t 72) (ρ.t 5) B b (.pointer (some ⟨b,0,none⟩)) v' (bs++Lib.strCells s) w'/\
  But w w' b v.ownBlock/\(v'.ownBlock=v.ownBlock∨∃g,v'.ownBlock=some g/\w.heap.size<=g)/\(v=.slice none 0 0/\s.size=0->v'=.slice none 0 0):=by
 obtain⟨i0,hi,hz0,hz1,hz2⟩:=info_parts X.infoByte
 have mixed:=L.mixed
 have t72:=L.t72;have a72:=L.a72;have z72:=L.z72;have v72:=L.v72;have u72:=run_underlying L.t72
 have t70:=L.t70;have a70:=L.a70;have z70:=L.z70;have v70:=L.v70;have u70:=run_underlying L.t70
 have t37:=L.t37;have a37:=L.a37;have z37:=L.z37;have v37:=L.v37;have u37:=run_underlying L.t37
 have t3:=L.t3;have a3:=L.a3;have z3:=L.z3;have v3:=L.v3;have u3:=run_underlying L.t3
 have t9:=L.t9;have a9:=L.a9;have z9:=L.z9;have v9:=L.v9;have u9:=run_underlying L.t9
 have t4:=L.t4;have a4:=L.a4;have z4:=L.z4;have v4:=L.v4;have u4:=run_underlying L.t4
 have t164:=L.t164;have a164:=L.a164;have z164:=L.z164;have v164:=L.v164;have u164:=run_underlying L.t164
 have t5:=X.t5;have a5:=X.a5;have z5:=X.z5;have v5:=X.v5;have u5:=run_underlying X.t5
 have e240:∀args w,(callFunc (ρ.f 240) args).run P w=.ok (.enter (ρ.f 240) args) w:=enters_of L.f240 (by kernel_rfl) rfl
 go_enter L.f166,Body.n166_ntmps ρ
 go_wp2_with (go_at_fn (ρ.f 240);refine(copyCheck {L with} X.toX72 B b p v bs _ h).mono ?_)
 rintro e w1 ⟨rfl,h1,hb1⟩
 obtain⟨-,hB,hbk,hown,hne⟩:=h1
 have c0:w1.cell? ⟨b,0,none⟩=some (.pointer (some ⟨b,0,none⟩)):=by rw[Lib.cell_of_heap hbk];rfl
 have c1:w1.cell? ⟨b,1,none⟩=some v:=by rw[Lib.cell_of_heap hbk];rfl
 go_wp2_with (at_builtin;refine uG _ rfl _ _ (ρ.t 37) (ρ.t 9) rfl B (ρ.t 5) i0 L.t37 L.t9 hi hz0 hz1 hz2 _ _ _ rfl hown s rfl ?c3 ?c4 ?c5 ?_)
 case c3=>unfold maxLen;omega
 case c4=>omega
 case c5=>have:=hb1.size;omega
 intro v' w2 hown' hgrow hnil hrow
 have hlt:b<w1.heap.size:=by
  rcases Nat.lt_or_ge b w1.heap.size with h'|h'
  ·exact h'
  ·simp[Array.getElem?_eq_none h']at hbk
 have hb2:w2.heap[b]? =some (.cells #[.pointer (some ⟨b,0,none⟩),v] (ρ.t 72) (0,0)):=by
  rw[hgrow.block b hlt (λe=>hne e.symm)]
  exact hbk
 have d0:w2.cell? ⟨b,0,none⟩=some (.pointer (some ⟨b,0,none⟩)):=by rw[Lib.cell_of_heap hb2];rfl
 have d1:w2.cell? ⟨b,1,none⟩=some v:=by rw[Lib.cell_of_heap hb2];rfl
 have f1:w2.frozen? ⟨b,1,none⟩=false:=Lib.frozen_of_heap hb2 1
 obtain⟨ao,n',cap,rfl⟩:∃ao n' cap,v'=.slice ao n' cap:=by
  rcases hown'.2 with⟨hv,_⟩|⟨g,cap,cur,hv,_⟩
  ·exact⟨_,_,_,hv⟩
  ·exact⟨_,_,_,hv⟩
 go_wp2
 go_ret2
 have hoth:∀k,k≠b->(w2.setCell ⟨b,1,none⟩ (.slice ao n' cap)).heap[k]? =w2.heap[k]? :=λk hk=>Below.heap_setCell _ _ _ _ (λe=>hk (by simp[e]))
 have hlen':(bs++Lib.strCells s).length=bs.length+s.size:=by simp[Lib.strCells_length]
 have hne':=Lib.ownBlock_ne hown' hb2 X.neB5
 refine⟨rfl,.slice ao n' cap,⟨.inr rfl,hB,by simp[World.setCell,Array.getElem?_modify,hb2],?_,hne'⟩,⟨?_,?_,?_,?_⟩,?_,λ⟨h1,h2⟩=>hnil.2 ⟨h1,by simpa using h2⟩⟩
 ·rw[hlen']
  exact hown'.kept (row:=some b) ⟨rfl,rfl,rfl,by simp[World.setCell],λk _ hk=>hoth k (λe=>hk (by simp[e]))⟩ (Or.inr hne')
 ·exact hgrow.os.trans hb1.os
 ·exact hgrow.output.trans hb1.output
 ·have e1:(w2.setCell ⟨b,1,none⟩ (.slice ao n' cap)).heap.size=w2.heap.size:=by simp[World.setCell]
  rw[e1];exact Nat.le_trans hb1.size hgrow.size
 ·intro k hk h1 h2
  rw[hoth k h1,hgrow.block k (Nat.lt_of_lt_of_le hk hb1.size) h2]
  exact hb1.block k hk h1 (by simp)
 ·rcases hrow with h1|⟨g,h1,h2⟩
  ·exact .inl h1
  ·exact .inr ⟨g,h1,Nat.le_trans hb1.size h2⟩
set_option maxHeartbeats 2000000 in
set_option maxRecDepth 100000 in
theorem AGu(L:Lays.n169 P ρ)(X:Builder.Extra P ρ)(B b:Nat)(p v:Value)(l:List UInt8)(w:World)(h:BAt (ρ.t 72) (ρ.t 5) B b p v (Lib.byteCells l) w)(h0:l≠[]):
 Calls P (ρ.f 169) #[.pointer (some ⟨b,0,none⟩)] w λe w'=>e=.returned (.string ⟨l.toArray⟩)/\But w w' b v.ownBlock:=by
 obtain⟨-,hB,hbk,hown,hne⟩:=h
 have hl0:l.length≠0:=by simpa using h0
 rw[Lib.byteCells_length]at hown
 obtain⟨g,cap,cur,rfl,hbg,hg,hnc,hcm,hcs,htake⟩:∃g cap cur,v=.slice (some ⟨g,0,none⟩) l.length cap/\B<=g/\w.heap[g]? =some (.cells cur (ρ.t 5) (0,0))/\l.length<=cap/\cap<=maxLen/\cur.size=cap*1/\cur.toList.take (l.length*1)=Lib.byteCells l:=by
  rcases hown.2 with⟨_,hz⟩|⟨g,cap,cur,hv,r⟩
  ·exact absurd hz hl0
  ·exact⟨g,cap,cur,hv,r⟩
 have c1:w.drew.cell? ⟨b,1,none⟩=some (.slice (some ⟨g,0,none⟩) l.length cap):=by
  have:w.drew.heap[b]? =some (.cells #[p,.slice (some ⟨g,0,none⟩) l.length cap] (ρ.t 72) (0,0)):=hbk
  rw[Lib.cell_of_heap this];rfl
 have hSD:(Builtin.unsafeSliceData_ #[(ρ.t 37)] (ρ.t 127) #[.slice (some ⟨g,0,none⟩) l.length cap]).run P w.drew=.ok (.pointer (some ⟨g,0,none⟩)) w.drew:=
  Lib.run_unsafeSliceData_row _ _ _ _ _ _ (by omega)
 have hUS:(Builtin.unsafeString_ #[(ρ.t 127),(ρ.t 3)] (ρ.t 9) #[.pointer (some ⟨g,0,none⟩),.int .i64 l.length]).run P w.drew=.ok (.string ⟨l.toArray⟩) (w.drew.freeze ⟨g,0,none⟩ l.length):=by
  refine Lib.run_unsafeString_row w.drew (ρ.t 127) (ρ.t 3) (ρ.t 9) (ρ.t 5) L.t127 X.cellsByte g cur.size (by have hg':w.drew.heap[g]? =some (.cells cur (ρ.t 5) (0,0)):=hg;simp[World.shape?,hg']) l h0 (by omega) (by unfold maxLen at hcm;omega) ?_
  intro j x hx
  have:=hown.cells (g:=g) rfl j (.int .u8 x.toNat) (by simp[Lib.byteCells,hx])
  exact this
 have mixed:=L.mixed
 have t72:=L.t72;have a72:=L.a72;have z72:=L.z72;have v72:=L.v72;have u72:=run_underlying L.t72
 have t70:=L.t70;have a70:=L.a70;have z70:=L.z70;have v70:=L.v70;have u70:=run_underlying L.t70
 have t37:=L.t37;have a37:=L.a37;have z37:=L.z37;have v37:=L.v37;have u37:=run_underlying L.t37
 have t127:=L.t127;have a127:=L.a127;have z127:=L.z127;have v127:=L.v127;have u127:=run_underlying L.t127
 have t3:=L.t3;have a3:=L.a3;have z3:=L.z3;have v3:=L.v3;have u3:=run_underlying L.t3
 have t9:=L.t9;have a9:=L.a9;have z9:=L.z9;have v9:=L.v9;have u9:=run_underlying L.t9
 have t5:=X.t5;have a5:=X.a5;have z5:=X.z5;have v5:=X.v5;have u5:=run_underlying X.t5
 have fr:But w (w.drew.freeze ⟨g,0,none⟩ l.length) b (Value.slice (some ⟨g,0,none⟩) l.length cap).ownBlock:=by
  have hh:=Lib.below_freeze (Below.drew (Below.refl g w)) (p:=⟨g,0,none⟩) (Nat.le_refl g) l.length
  refine⟨hh.os,hh.output,hh.size,λk hk _ h2=>?_⟩
  have hkg:k≠g:=λe=>h2 (by rw[e];rfl)
  have e1:(w.drew.freeze ⟨g,0,none⟩ l.length).heap[k]? =w.drew.heap[k]? :=by
   unfold World.freeze
   rw[if_neg (by omega)]
   simp only[Array.getElem?_modify]
   rw[if_neg (λe=>hkg e.symm)]
  exact e1
 go_enter L.f169,Body.n169_ntmps ρ
 go_wp2
 go_region_o
 all_goals (go_wp2;go_ret;exact⟨rfl,fr⟩)
end
theorem AJp{s:ByteArray}:Lib.strCells s=Lib.byteCells s.data.toList:=rfl
theorem AJm{a b:List UInt8}:Lib.byteCells a++Lib.byteCells b=Lib.byteCells (a++b):=by simp[Lib.byteCells]
theorem AHv.at{w0:World}{ρ:Loc}{H:Heap}{n:Nat}{w:World}(hh:Du w0 ρ H n w){id:Nat}{x:Info}{t e l c j:Nat}(hx:ρ id=some x)(h:AHv w0 ρ H w id x t e l c j)(hb:T.get H id=some (.TG t e l c j)):
 x.base=0/\∃(bs:List UInt8) (p v:Value),bs.length=l/\enc bs=c/\BAt t e w0.heap.size x.b p v (Lib.byteCells bs) w/\(l=0->v=.slice none 0 0)/\(0<l->∃y,v.ownBlock=some y.b/\ρ j=some y/\T.get H j=some (.own id)):=by
 obtain⟨h0,bs,p,v,h1,h2,h3,h4,h5,h6,h7⟩:=h
 refine⟨h0,bs,p,v,h1,h2,⟨h3,(hh.blk id x hx).1,h4,by rw[Lib.byteCells_length,h1];exact h5,λe=>?_⟩,h6,h7⟩
 rcases Nat.eq_zero_or_pos l with hz|hz
 ·rw[h6 hz]at e;cases e
 ·obtain⟨y,e1,e2,e3⟩:=h7 hz
  rw[e1]at e
  have:=hh.inj j id y x e2 hx ⟨_,e3,by simp⟩ ⟨_,hb,by simp⟩ (Option.some.inj e)
  rw[this,hb]at e3;cases e3
theorem Du.AJt{w0:World}{ρ:Loc}{H:Heap}{n:Nat}{w:World}(hh:Du w0 ρ H n w){id:Nat}{x:Info}{t e l c j:Nat}(hx:ρ id=some x)(hb:T.get H id=some (.TG t e l c j))(h0:x.base=0)
 {v v':Value} {p':Value} {bs':List UInt8} {w':World} (hv0:l=0->v=.slice none 0 0) (hv1:0<l->∃y,v.ownBlock=some y.b/\ρ j=some y/\T.get H j=some (.own id))
 (ha:BAt t e w0.heap.size x.b p' v' (Lib.byteCells bs') w') (hbut:But w w' x.b v.ownBlock) (hrow:v'.ownBlock=v.ownBlock∨∃g,v'.ownBlock=some g/\w.heap.size<=g) (hnil:bs'.length=0->v'=.slice none 0 0):
 ∃ρ',Du w0 ρ' (T.set (T.set (bif decide (l=0)then H else T.set H j .dead) n (.own id)) id (.TG t e (Jg bs').1 (Jg bs').2 n)) (n+1) w'/\
  Gq ρ H n ρ' (T.set (T.set (bif decide (l=0)then H else T.set H j .dead) n (.own id)) id (.TG t e (Jg bs').1 (Jg bs').2 n)) (n+1)/\ρ.le ρ':=by
 have hn:=hh.kM
 have AQD:id≠n:=λe=>by subst e;rw[hx]at hn;cases hn
 have hlive:isLive H id:=⟨_,hb,by simp⟩
 generalize hH':T.set (T.set (bif decide (l=0)then H else T.set H j .dead) n (.own id)) id (.TG t e (Jg bs').1 (Jg bs').2 n)=H'
 have hid:T.get H' id=some (.TG t e (Jg bs').1 (Jg bs').2 n):=by rw[<-hH',T.Cm]
 have hnn:T.get H' n=some (.own id):=by rw[<-hH',T.Ak _ _ AQD,T.Cm]
 have hj0:l≠0->j≠id/\j<n:=λhl=>by
  obtain⟨y,_,e2,e3⟩:=hv1 (by omega)
  exact⟨λe=>(by subst e;rw[hb]at e3;cases e3),hh.lt j y e2⟩
 have hoth:∀i,i≠id->i≠n->T.get H' i=if l≠0/\j=i then some .dead else T.get H i:=λi h1 h2=>by
  rw[<-hH',T.Ak _ _ (Ne.symm h1),T.Ak _ _ (Ne.symm h2)]
  cases hl:decide (l=0)with
  |true=>have:=of_decide_eq_true hl;rw[if_neg (by simp[this])];rfl
  |false=>
   have hl:=of_decide_eq_false hl
   rw[cond_false,T.PZ]
   by_cases e:j=i
   ·rw[if_pos e,if_pos ⟨hl,e⟩]
   ·rw[if_neg e,if_neg (λh=>e h.2)]
 have hlt':∀g,v'.ownBlock=some g->w0.heap.size<=g/\g<w'.heap.size:=λg hg=>ha.own.lt g hg
 obtain⟨ρ',hρ,hρn⟩:∃ρ':Loc,(∀i,i≠n->ρ' i=ρ i)/\ρ' n=v'.ownBlock.map (λg=>⟨g,0,0⟩):=
  ⟨λi=>if i=n then v'.ownBlock.map (λg=>⟨g,0,0⟩)else ρ i,λi hi=>if_neg hi,if_pos rfl⟩
 have hle:ρ.le ρ':=λi z hz=>by rw[hρ i (λe=>by subst e;rw[hn]at hz;cases hz)];exact hz
 have hkeep:∀i z b,ρ i=some z->T.get H i=some b->b≠.dead->i≠id->¬(l≠0/\j=i)->w'.heap[z.b]? =w.heap[z.b]? :=by
  intro i z b hz hbi hd h1 h2
  refine hbut.block z.b (hh.blk i z hz).2 (λe=>h1 (hh.inj i id z x hz hx ⟨b,hbi,hd⟩ hlive e)) λe=>?_
  rcases Nat.eq_zero_or_pos l with hl|hl
  ·rw[hv0 hl]at e;cases e
  ·obtain⟨y,e1,e2,e3⟩:=hv1 hl
   rw[e1]at e
   have:=hh.inj i j z y hz e2 ⟨b,hbi,hd⟩ ⟨_,e3,by simp⟩ (Option.some.inj e)
   exact h2 ⟨by omega,this.symm⟩
 have hget:∀i b,i≠id->i≠n->T.get H' i=some b->b≠.dead->T.get H i=some b/\¬(l≠0/\j=i):=by
  intro i b h1 h2 h3 h4
  rw[hoth i h1 h2]at h3
  by_cases h:l≠0/\j=i
  ·rw[if_pos h]at h3;exact absurd (Option.some.inj h3).symm h4
  ·rw[if_neg h]at h3;exact⟨h3,h⟩
 refine⟨ρ',{lt:=?_,blk:=?_,inj:=?_,arr:=?_,map:=?_,TG:=?_,old:=?_,os:=hbut.os.trans hh.os,out:=hbut.output.trans hh.out,big:=Nat.le_trans hh.big hbut.size,top:=?_},⟨hle,by omega,λi hi hno=>?_⟩,hle⟩
 ·intro i z hz
  by_cases e:i=n
  ·omega
  ·rw[hρ i e]at hz;have:=hh.lt i z hz;omega
 ·intro i z hz
  by_cases e:i=n
  ·subst e
   rw[hρn]at hz
   cases hv:v'.ownBlock with
   |none=>rw[hv]at hz;cases hz
   |some g=>rw[hv]at hz;cases hz;exact hlt' g hv
  ·rw[hρ i e]at hz
   have:=hh.blk i z hz
   exact⟨this.1,Nat.lt_of_lt_of_le this.2 hbut.size⟩
 ·have key:∀i z g,i≠n->ρ i=some z->isLive H' i->v'.ownBlock=some g->z.b≠g:=by
   intro i z g hi hz ⟨b,hbi,hd⟩ hg e
   by_cases h1:i=id
   ·subst h1
    rw[hx]at hz;cases hz
    exact ha.ne (by rw[hg,e])
   ·obtain⟨hb2,hnj⟩:=hget i b h1 hi hbi hd
    rcases hrow with hr|⟨g',hg',hge⟩
    ·rw[hg]at hr
     rcases Nat.eq_zero_or_pos l with hl|hl
     ·rw[hv0 hl]at hr;cases hr
     ·obtain⟨y,e1,e2,e3⟩:=hv1 hl
      rw[e1]at hr
      have:=hh.inj i j z y hz e2 ⟨b,hb2,hd⟩ ⟨_,e3,by simp⟩ (by rw[e];exact Option.some.inj hr)
      exact hnj ⟨by omega,this.symm⟩
    ·rw[hg]at hg'
     have:=(hh.blk i z hz).2
     have:g=g':=Option.some.inj hg'
     omega
  intro i i' z z' hz hz' h1 h2 hbe
  by_cases e1:i=n
  ·subst e1
   by_cases e2:i'=i
   ·exact e2.symm
   ·rw[hρn]at hz
    cases hv:v'.ownBlock with
    |none=>rw[hv]at hz;cases hz
    |some g=>
     rw[hv]at hz;cases hz
     rw[hρ i' e2]at hz'
     exact absurd hbe.symm (key i' z' g e2 hz' h2 hv)
  ·rw[hρ i e1]at hz
   by_cases e2:i'=n
   ·subst e2
    rw[hρn]at hz'
    cases hv:v'.ownBlock with
    |none=>rw[hv]at hz';cases hz'
    |some g=>rw[hv]at hz';cases hz';exact absurd hbe (key i z g e1 hz h1 hv)
   ·rw[hρ i' e2]at hz'
    have lv:∀k,k≠n->isLive H' k->isLive H k:=λk hk ⟨b,hb',hd⟩=>by
     by_cases e:k=id
     ·rw[e];exact hlive
     ·exact⟨b,(hget k b e hk hb' hd).1,hd⟩
    exact hh.inj i i' z z' hz hz' (lv i e1 h1) (lv i' e2 h2) hbe
 ·intro i z es cnt cc hz hb'
  have e1:i≠n:=λe=>by subst e;rw[hnn]at hb';cases hb'
  have e2:i≠id:=λe=>by subst e;rw[hid]at hb';cases hb'
  rw[hρ i e1]at hz
  obtain⟨hb2,hnj⟩:=hget i _ e2 e1 hb' (by simp)
  obtain⟨vs,ty,fz,har⟩:=hh.arr i z es cnt cc hz hb2
  exact⟨vs,ty,fz,(har.of_heap (hkeep i z _ hz hb2 (by simp) e2 hnj)).mono hle⟩
 ·intro i z es ck hz hb'
  have e1:i≠n:=λe=>by subst e;rw[hnn]at hb';cases hb'
  have e2:i≠id:=λe=>by subst e;rw[hid]at hb';cases hb'
  rw[hρ i e1]at hz
  obtain⟨hb2,hnj⟩:=hget i _ e2 e1 hb' (by simp)
  obtain⟨es',he,hr⟩:=hh.map i z es ck hz hb2
  exact⟨es',(hkeep i z _ hz hb2 (by simp) e2 hnj).trans he,KO.mono hle _ _ hr⟩
 ·intro i z t' e' l' c' j' hz hb'
  have e1:i≠n:=λe=>by subst e;rw[hnn]at hb';cases hb'
  rw[hρ i e1]at hz
  by_cases e2:i=id
  ·subst e2
   rw[hx]at hz;cases hz
   rw[hid]at hb';cases hb'
   refine⟨h0,bs',p',v',rfl,rfl,ha.hp,ha.hb,?_,hnil,λhl=>?_⟩
   ·have:=ha.own;rw[Lib.byteCells_length]at this;exact this
   ·rcases ha.own.2 with⟨hv,hz⟩|⟨g,cap,cur,hv,_⟩
    ·rw[Lib.byteCells_length]at hz
     have:0<bs'.length:=hl
     omega
    ·exact⟨⟨g,0,0⟩,by rw[hv];rfl,by rw[hρn,hv];rfl,hnn⟩
  ·obtain⟨hb2,hnj⟩:=hget i _ e2 e1 hb' (by simp)
   refine(hh.TG i z t' e' l' c' j' hz hb2).same (hkeep i z _ hz hb2 (by simp) e2 hnj) hle λy hy hjj=>?_
   have f1:j'≠id:=λe=>by subst e;rw[hb]at hjj;cases hjj
   have f2:j'≠n:=λe=>by subst e;rw[hn]at hy;cases hy
   have f3:¬(l≠0/\j=j'):=λ⟨hl,e⟩=>by
    obtain⟨y2,_,_,e3⟩:=hv1 (by omega)
    rw[e,hjj]at e3
    exact e2 (by cases e3;rfl)
   exact⟨hkeep j' y _ hy hjj (by simp) f1 f3,by rw[hoth j' f1 f2,if_neg f3];exact hjj⟩
 ·intro b hb'
  have hlt:b<w.heap.size:=Nat.lt_of_lt_of_le hb' hh.big
  refine(hbut.block b hlt (λe=>by have:=(hh.blk id x hx).1;omega) λe=>?_).trans (hh.old b hb')
  rcases Nat.eq_zero_or_pos l with hl|hl
  ·rw[hv0 hl]at e;cases e
  ·obtain⟨y,e1,e2,_⟩:=hv1 hl
   rw[e1]at e
   have:=(hh.blk j y e2).1
   have:b=y.b:=Option.some.inj e
   omega
 ·intro i hi
  have e1:i≠n:=by omega
  have e2:i≠id:=λe=>by subst e;have:=hh.lt i x hx;omega
  rw[hoth i e2 e1]
  by_cases h:l≠0/\j=i
  ·have:=(hj0 h.1).2;omega
  ·rw[if_neg h];exact hh.top i (by omega)
 ·have e1:i≠n:=by omega
  have e2:i≠id:=λe=>by subst e;rw[hx]at hno;cases hno
  refine⟨by rw[hρ i e1];exact hno,?_⟩
  rw[hoth i e2 e1]
  by_cases h:l≠0/\j=i
  ·obtain⟨y,_,e3,_⟩:=hv1 (by omega)
   rw[h.2,hno]at e3;cases e3
  ·rw[if_neg h]
theorem Du.AHC{w0:World}{ρ:Loc}{H:Heap}{n:Nat}{w:World}(hh:Du w0 ρ H n w){id:Nat}{x:Info}{t e l c j:Nat}(hx:ρ id=some x)(hb:T.get H id=some (.TG t e l c j))
 {v:Value} {w':World} (hv0:l=0->v=.slice none 0 0) (hv1:0<l->∃y,v.ownBlock=some y.b/\ρ j=some y/\T.get H j=some (.own id)) (hbut:But w w' x.b v.ownBlock):Du w0 ρ (T.set H id .dead) n w':=by
 have hlive:isLive H id:=⟨_,hb,by simp⟩
 have hk:=hh.kill (hh.lt id x hx) (λb=>by rw[hb];simp)
 have hget:∀i b,i≠id->T.get (T.set H id .dead) i=some b->T.get H i=some b:=λi b h1 h2=>by rwa [T.Ak _ _ (Ne.symm h1)]at h2
 have AMw:∀i b,T.get (T.set H id .dead) i=some b->b≠.dead->i≠id:=λi b h1 h2 e=>by
  subst e;rw[T.Cm]at h1;exact h2 (Option.some.inj h1).symm
 have hkeep:∀i z b,ρ i=some z->T.get H i=some b->b≠.dead->i≠id->(∀q,b≠.own q∨q≠id)->w'.heap[z.b]? =w.heap[z.b]? :=by
  intro i z b hz hbi hd h1 h2
  refine hbut.block z.b (hh.blk i z hz).2 (λe=>h1 (hh.inj i id z x hz hx ⟨b,hbi,hd⟩ hlive e)) λe=>?_
  rcases Nat.eq_zero_or_pos l with hl|hl
  ·rw[hv0 hl]at e;cases e
  ·obtain⟨y,e1,e2,e3⟩:=hv1 hl
   rw[e1]at e
   have:=hh.inj i j z y hz e2 ⟨b,hbi,hd⟩ ⟨_,e3,by simp⟩ (Option.some.inj e)
   subst this
   rw[hbi]at e3
   rcases h2 id with h|h
   ·exact h (Option.some.inj e3)
   ·exact h rfl
 refine{lt:=hh.lt,blk:=λi z hz=>⟨(hh.blk i z hz).1,Nat.lt_of_lt_of_le (hh.blk i z hz).2 hbut.size⟩,inj:=hk.inj,arr:=?_,map:=?_,TG:=?_,old:=?_,os:=hbut.os.trans hh.os,out:=hbut.output.trans hh.out,big:=Nat.le_trans hh.big hbut.size,top:=hk.top}
 ·intro i z es cnt cc hz hb'
  have e2:=AMw i _ hb' (by simp)
  obtain⟨vs,ty,fz,har⟩:=hh.arr i z es cnt cc hz (hget i _ e2 hb')
  exact⟨vs,ty,fz,har.of_heap (hkeep i z _ hz (hget i _ e2 hb') (by simp) e2 (λ_=>.inl (by simp)))⟩
 ·intro i z es ck hz hb'
  have e2:=AMw i _ hb' (by simp)
  obtain⟨es',he,hr⟩:=hh.map i z es ck hz (hget i _ e2 hb')
  exact⟨es',(hkeep i z _ hz (hget i _ e2 hb') (by simp) e2 (λ_=>.inl (by simp))).trans he,hr⟩
 ·intro i z t' e' l' c' j' hz hb'
  have e2:=AMw i _ hb' (by simp)
  refine(hh.TG i z t' e' l' c' j' hz (hget i _ e2 hb')).same (hkeep i z _ hz (hget i _ e2 hb') (by simp) e2 (λ_=>.inl (by simp))) (Loc.le.refl _) λy hy hjj=>?_
  have f1:j'≠id:=λe=>by subst e;rw[hb]at hjj;cases hjj
  exact⟨hkeep j' y _ hy hjj (by simp) f1 (λq=>by
   by_cases e:q=id
   ·left;intro h;cases h;exact e2 e
   ·exact .inr e),by rw[T.Ak _ _ (Ne.symm f1)];exact hjj⟩
 ·intro b hb'
  have hlt:b<w.heap.size:=Nat.lt_of_lt_of_le hb' hh.big
  refine(hbut.block b hlt (λe=>by have:=(hh.blk id x hx).1;omega) λe=>?_).trans (hh.old b hb')
  rcases Nat.eq_zero_or_pos l with hl|hl
  ·rw[hv0 hl]at e;cases e
  ·obtain⟨y,e1,e2,_⟩:=hv1 hl
   rw[e1]at e
   have:=(hh.blk j y e2).1
   have:b=y.b:=Option.some.inj e
   omega
section
variable{P:Program}{r:Ren}
theorem ANu(hf:ACA P (r.f 166))(L:Lays.n166 P r)(X:Builder.Extra P r):oM P (r.f 166) (.AJt (r.t 72) (r.t 5)):=by
 refine⟨hf,λw0 G hg vargs H n kk h ρ w args hh hrel=>?_⟩
 match vargs,h,hrel with
 |[],h,_=>exact h.elim
 |[_],h,_=>exact h.elim
 |_::_::_::_,h,_=>exact h.elim
 |[x,y],h,hrel=>
 have h:AAK (r.t 72) (r.t 5) x y H n kk:=h
 obtain⟨ux,uy,rfl,hx,hy⟩:=args2 hrel
 unfold AAK at h
 split at h
 ·rename_i id m d _
  split at h
  ·rename_i t' e' l c j hget
   rw[Ep,decide_eq_true_eq]at h
   obtain⟨⟨rfl,rfl,h2⟩,hk⟩:=h
   obtain⟨x,hρ,rfl⟩:=hx
   obtain⟨s,rfl,hs1,hs2⟩:=hy
   obtain⟨hb0,bs,p,v,hl,hc,hat,hv0,hv1⟩:=(hh.TG id x _ _ l c j hρ hget).at hh hρ hget
   have hsz:s.size=m:=by rw[<-hs1];simp
   rw[hb0]
   refine(AHQ L X w0.heap.size x.b p v _ s w hat (by rw[Lib.byteCells_length,hl,hsz];exact h2) hh.big).mono ?_
   rintro e w' ⟨rfl,v',ha',hbut,hrow,hnil⟩
   rw[AJp,AJm]at ha'
   have hn:(rJ (l,c) (m,d))=Jg (bs++s.data.toList):=by rw[<-lg];rw[<-hl,<-hc,<-hs1,<-hs2];rfl
   rw[hn]at hk
   obtain⟨ρ',hh',hg',hle⟩:=hh.AJt hρ hget hb0 hv0 hv1 ha' hbut hrow (λh0=>by
    rw[List.length_append]at h0
    exact hnil ⟨hv0 (by omega),by rw[hsz,<-hs1];omega⟩)
   refine⟨_,_,_,_,ρ',rfl,hk,?_,hh',hg'⟩
   exact⟨_,rfl,.cons (show _=_ by rw[hsz];rfl) (.cons rfl .nil)⟩
  ·exact h.elim
 ·exact h.elim
theorem ALA(hf:ACA P (r.f 169))(L:Lays.n169 P r)(X:Builder.Extra P r):oM P (r.f 169) (.AHC (r.t 72) (r.t 5)):=by
 refine⟨hf,λw0 G hg vargs H n kk h ρ w args hh hrel=>?_⟩
 match vargs,h,hrel with
 |[],h,_=>exact h.elim
 |_::_::_,h,_=>exact h.elim
 |[x],h,hrel=>
 have h:AAD (r.t 72) (r.t 5) x H n kk:=h
 obtain⟨ux,rfl,hx⟩:=args1 hrel
 unfold AAD at h
 split at h
 ·rename_i id _
  split at h
  ·rename_i t' e' l c j hget
   rw[Ep,decide_eq_true_eq]at h
   obtain⟨⟨rfl,rfl⟩,hk⟩:=h
   obtain⟨x,hρ,rfl⟩:=hx
   obtain⟨hb0,bs,p,v,hl,hc,hat,hv0,hv1⟩:=(hh.TG id x _ _ l c j hρ hget).at hh hρ hget
   rw[hb0]
   have hst:AV ρ (.str l c) (.string ⟨bs.toArray⟩):=⟨_,rfl,by simpa using hl,by simpa using hc⟩
   have hgu:∀k:Pn,Gq ρ H n ρ (T.set H id k) n:=λk=>Gq.turn hρ k
   rcases Nat.eq_zero_or_pos l with h0|h0
   ·have hbs:bs=[]:=List.eq_nil_of_length_eq_zero (by omega)
    subst hbs
    have hv:=hv0 h0
    have hb:=hat.hb
    rw[hv]at hb
    refine(Any.Builder_String_nil L X w.heap.size x.b p w hb).mono ?_
    rintro e w' ⟨rfl,hbl⟩
    exact⟨_,_,_,_,ρ,rfl,hk,hst,hh.AHC hρ hget hv0 hv1 ⟨hbl.os,hbl.output,hbl.size,λk hk _ _=>hbl.block k hk⟩,hgu _⟩
   ·have hne:bs≠[]:=λe=>by subst e;simp at hl;omega
    refine(AGu L X w0.heap.size x.b p v bs w hat hne).mono ?_
    rintro e w' ⟨rfl,hbut⟩
    exact⟨_,_,_,_,ρ,rfl,hk,hst,hh.AHC hρ hget hv0 hv1 hbut,hgu _⟩
  ·exact h.elim
 ·exact h.elim
end
end Go.Eng
