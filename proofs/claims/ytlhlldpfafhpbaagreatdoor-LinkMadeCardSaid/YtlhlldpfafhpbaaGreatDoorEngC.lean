/- Part of a proof; nothing is assumed. -/
import Derived.Test.YtlhlldpfafhpbaaGreatDoorEngB
import Derived.Lib.Bytealg
import Derived.Laws.MakeOwn
import Derived.Great.BuildSlice
import Derived.Laws.AppendOwn
import Derived.Lib.ConvBytes
set_option linter.unusedVariables false
set_option linter.unusedSimpArgs false
namespace Go.BN
variable{P:Program}
variable{ρ:Loc}{x:V}{r:V}{u:Value}
abbrev ABi{off:Nat}(d:AW ρ x u)(h:AG off x=some r):∃b o,u=.pointer (some ⟨b,o,none⟩)/\AW ρ r (.pointer (some ⟨b,o+off,none⟩)):=by
 unfold AG at h;rw[yR]at h;rcases h with⟨i,o,rfl,h⟩|⟨i,o,rfl,h⟩
 .rw[BF]at h;cases h;obtain⟨z,f,rfl⟩:=d;refine⟨_,_,rfl,?_⟩;simp_all[AW];omega
 .rw[BF]at h;cases h;simp_all[AW]
variable{s:TypeId}{fs:Array Field}{i:Nat}{n:Nat}
abbrev AKD{d:Field}(g:P.underlying s=some (.struct fs))(k:fs[i]? =some d)(m:pI P d.type=some (n+1))(p:AW ρ x u)
 (h:AG d.offset x=some r) (w:World):∃val,(Instr.fieldAt s u i).run P w=.ok val w/\AW ρ r val:=by obtain⟨b,o,rfl,q⟩:=ABi p h;refine⟨_,?_,q⟩;have f:=run_sizeOf m w;simp[Instr.fieldAt,dj g,k,Instr.sureAddr,fieldPlace,f,add_lit]
variable{a:Addr}{o:Nat}
abbrev ADK{z:Info}{esz cap:Nat}(h:cap=0∨a=⟨z.b,z.base+o*esz,none⟩)(hi:i<cap):a.add (i*esz)=⟨z.b,z.base+(o+i)*esz,none⟩:=by rcases h with rfl|rfl;all_goals(simp[add_lit,pp];omega)
variable{t:TypeId}{e:TypeId}{B:Value}
abbrev AJt{esz:Nat}(C:P.underlying t=some (.slice e))(D:pI P e=some esz){i:V}(p:AW ρ x u)(hi:AW ρ i B)(h:Ai esz x i=some r)(w:World):
 ∃val,(Instr.indexAt t u B).run P w=.ok val w/\AW ρ r val:=by
 unfold Ai at h;rw[Mf]at h;obtain⟨k,m,rfl,h⟩:=h;simp only[AW]at hi;subst hi;have A:=run_sizeOf (P:=P) D w;have key:∀(a:Addr) (len q:Nat),m<len->(Instr.indexAt t (.slice (some a) len q) (.int k m)).run P w=.ok (.pointer (some (a.add (m*esz)))) w:=by intro a len q F;have E:(0:Int)<=m/\(m:Int)<len:=⟨a6,a6⟩;simp[Instr.indexAt,dj C,asIntOf,E,A];omega
 cases x<;>simp only[V.AO9,V.el]at h<;>try (cases h;done)
 .rw[BC,BF]at h;have⟨d,h⟩:=h;cases h;simp only[A6,ez,beq_iff,xi]at d;obtain⟨rfl,f⟩:=d;simp only[AW]at p;obtain⟨z,a,g,rfl,v,y⟩:=p;refine⟨_,key a _ _ f,?_⟩;rw[ADK v a6];simp only[AW];exact⟨z,g,rfl⟩
 .rw[BC,BF]at h;have⟨d,h⟩:=h;cases h;simp only[A6,ez,beq_iff,xi]at d;obtain⟨rfl,f⟩:=d;simp only[AW]at p;obtain⟨z,a,G,g,rfl,v,y,_⟩:=p;refine⟨_,key a _ _ f,?_⟩;rw[ADK v a6];simp only[AW];exact⟨z,g,rfl⟩
 .rw[BC,BF]at h;have⟨d,h⟩:=h;cases h;rw[xi]at d;simp only[AW]at p;obtain⟨a,rfl,v,y⟩:=p;refine⟨_,key _ _ _ d,?_⟩;rcases v with e|e
  .omega
  .rw[e,add_lit];simp[AW]
variable{f:Value}
abbrev AHc{esz:Nat}(g:P.underlying t=some (.array n e))(p:pI P e=some esz){i:V}(q:AW ρ x u)(hi:AW ρ i f)
 (h:TT i (λi=>Az (Nat.blt i n) (AG (Nat.mul i esz) x))=some r) (w:World):∃val,(Instr.indexAt t u f).run P w=.ok val w/\AW ρ r val:=by rw[Mf]at h;obtain⟨k,m,rfl,h⟩:=h;simp only[AW]at hi;subst hi;rw[BC]at h;have⟨v,h⟩:=h;rw[xi]at v;obtain⟨b,o,rfl,y⟩:=ABi q h;have d:=run_sizeOf (P:=P) p w;refine⟨_,?_,y⟩;have A:(0:Int)<=m/\(m:Int)<n:=⟨a6,a6⟩;simp[Instr.indexAt,dj g,asIntOf,Instr.sureAddr,A,d,add_lit];omega
variable{l:LV}
abbrev ADF(h:AW ρ (.agg l) u):∃a:aAr,u=.agg a/\Bj ρ l a.toList/\∀y∈a.toList,y.oneCell'=true:=h
abbrev AAz(i:Ib P t=some false){a:aAr}(h:Bj ρ l a.toList){off:Nat}(g:nth l off=some r)(w:World):
 ∃val,(Go.part t a off).run P w=.ok val w/\AW ρ r val:=by
 rw[oW]at g;have⟨v,k,d⟩:=h.get g;refine⟨v,?_,d⟩;have f:a[off]? =some v:=by simpa using k
 simp[Go.part,eL i,f]
abbrev AKb(d:Ib P t=some true)(f:pI P t=some n){a:aAr}(h:Bj ρ l a.toList)(g:∀y∈a.toList,y.oneCell'=true){off:Nat}(w:World):
 ∃val,(Go.part t a off).run P w=.ok val w/\AW ρ (.agg (Vu n (fk off l))) val:=by
 refine⟨.agg (a.extract off (off+n)),?_,?_⟩
 .simp[Go.part,eL d,run_sizeOf f]
 .refine⟨_,rfl,?_,?_⟩
  .have:=(h.drop off).take n;simp[*]
  .intro y i;refine g y ?_;have:y∈(a.toList.drop off).take n:=by simp_all
   exact _y (_k this)
abbrev AHE{d:Field}(f:P.underlying s=some (.struct fs))(p:fs[i]? =some d)(g:Ib P d.type=some false)(k:AW ρ x u)
 (h:x.vJ (λl=>nth l d.offset)=some r) (w:World):∃val,(Instr.field s u i).run P w=.ok val w/\AW ρ r val:=by rw[nJ]at h;obtain⟨l,rfl,h⟩:=h;obtain⟨a,rfl,m,_⟩:=ADF k;have⟨val,q,v⟩:=AAz g m h w;simp[*,Instr.field,dj f,asAgg]
abbrev AHU{d:Field}(f:P.underlying s=some (.struct fs))(v:fs[i]? =some d)(g:Ib P d.type=some true)(k:pI P d.type=some n)(m:AW ρ x u)
 (h:x.vJ (λl=>some (.agg (Vu n (fk d.offset l))))=some r) (w:World):∃val,(Instr.field s u i).run P w=.ok val w/\AW ρ r val:=by rw[nJ]at h;obtain⟨l,rfl,h⟩:=h;obtain⟨a,rfl,p,q⟩:=ADF m;have⟨val,y,A⟩:=AKb g k p q (off:=d.offset) w;simp_all[Instr.field,dj f,asAgg]
abbrev AN5(p:P.underlying t=some .string){i:V}(q:AW ρ x u)(hi:AW ρ i f)
 (h:x.Pj (λg c=>TT i λi=>Az (Nat.blt i g) (CC (AM5 c i) λb=>some (.int .u8 (.ofNat b) 0)))=some r) (w:World):∃val,(Instr.index t u f).run P w=.ok val w/\AW ρ r val:=by
 rw[FO]at h;obtain⟨g,c,rfl,h⟩:=h;rw[Mf]at h;obtain⟨k,m,rfl,h⟩:=h;rw[BC,BF]at h;have⟨d,h⟩:=h;cases h;rw[xi]at d;obtain⟨s,rfl,rfl,rfl⟩:=G3 q;subst hi;have y:m<s.size:=by trivial
 have v:(0:Int)<=m/\(m:Int)<s.size:=⟨a6,a6⟩;refine⟨_,by rw[run_index_string w t s k m p,dif_pos v],?_⟩;rw[ALO _ _ d];rfl
variable{g:Value}
abbrev AK3(p:P.underlying t=some (.array n e))(q:pI P e=some 1)(v:Ib P e=some false){i:V}(y:AW ρ x u)(hi:AW ρ i g)
 (h:x.vJ (λl=>TT i λi=>Az (Nat.blt i n) (nth l i))=some r) (w:World):∃val,(Instr.index t u g).run P w=.ok val w/\AW ρ r val:=by rw[nJ]at h;obtain⟨l,rfl,h⟩:=h;rw[Mf]at h;obtain⟨k,m,rfl,h⟩:=h;rw[BC]at h;have⟨d,h⟩:=h;rw[xi]at d;obtain⟨a,rfl,A,_⟩:=ADF y;simp only[AW]at hi;subst hi;have⟨val,B,D⟩:=AAz v A h w;have C:(0:Int)<=m/\(m:Int)<n:=⟨a6,a6⟩;have f:=run_sizeOf (P:=P) q w;simp[*,Instr.index,dj p,asIntOf,C,f,B]
abbrev AQj(f:AW ρ x u)(h:x.AD2 (λl=>nth l i)=some r)(w:World):∃val,(Instr.extract u i).run P w=.ok val w/\AW ρ r val:=by
 rw[AHm]at h;obtain⟨l,rfl,h⟩:=h;obtain⟨a,rfl,g⟩:=f;rw[oW]at h;have⟨v,k,m⟩:=g.get h;have d:a[i]? =some v:=by simpa using k
 exact⟨v,by simp[Instr.extract,d],m⟩
abbrev ALn(f:P.underlying t=some (.slice e))(d:AW ρ x u)(h:lenV x=some r)(ty:TypeId)(w:World):∃val,(Builtin.len_ #[t] ty #[u]).run P w=.ok val w/\AW ρ r val:=by
 have key:∃p n c,u=.slice p n c/\r=.int .i64 (.ofNat n) 0:=by
  cases x<;>simp only[lenV,V.el]at h<;>try (cases h;done)
  .simp only[AW]at d;exact⟨_,_,_,d,(e_ h).symm⟩
  .obtain⟨_,_,_,d,_⟩:=d;exact⟨_,_,_,d,(e_ h).symm⟩
  .obtain⟨_,_,_,_,d,_⟩:=d;exact⟨_,_,_,d,(e_ h).symm⟩
  .obtain⟨_,d,_⟩:=d;exact⟨_,_,_,d,(e_ h).symm⟩
 obtain⟨p,n,c,rfl,rfl⟩:=key;simp[Builtin.len_,dj f,AW,goInt]
abbrev AN6(d:P.underlying t=some .string)(f:AW ρ x u)(h:x.Pj (λn _=>some (.int .i64 (.ofNat n) 0))=some r)(ty:TypeId)(w:World):
 ∃val,(Builtin.len_ #[t] ty #[u]).run P w=.ok val w/\AW ρ r val:=by rw[FO]at h;obtain⟨n,c,rfl,h⟩:=h;cases h;obtain⟨s,rfl,rfl,_⟩:=G3 f;exact⟨_,by simp[Builtin.len_,dj d];rfl,by rfl⟩
abbrev AM9(d:P.underlying t=some (.array n e))(ty:TypeId)(w:World):
 ∃val,(Builtin.len_ #[t] ty #[u]).run P w=.ok val w/\AW ρ (.int .i64 (.ofNat n) 0) val:=
 ⟨_,by simp[Builtin.len_,dj d];rfl,by rfl⟩
variable{P:Program}
def ACb(ρ:Loc)(E:RS):aAu->Option Value->Prop
 |none,none=>True
 |some x,some v=>AW ρ (x.ev E) v
 |_,_=>False
variable{E:RS}{d:Nat}
abbrev Ek{x:aAu}{g:Option Value}(q:ACb ρ E x g){f:Nat->aAl}(h:Yo x E d f=some r):
 ∃n:Nat,f n=some r/\((g=none/\n=d)∨∃k,g=some (.int k n)):=by
 cases x with
 |none=>
  cases g with
  |none=>exact⟨d,h,.inl ⟨rfl,rfl⟩⟩
  |some v=>trivial
 |some x=>
  cases g with
  |none=>trivial
  |some v=>
   have p:TT _ f=some r:=h;rw[Mf]at p;have⟨k,m,u,w⟩:=p;have i:AW ρ _ v:=q;rw[u]at i;subst i;exact⟨m,w,.inr ⟨k,rfl⟩⟩
variable{k:IntKind}
abbrev NU{y:Nat}{code:BoundsCode}(h:n<=y)(w:World):(Instr.sliceBound (.int k n) y code).run P w=.ok n w:=by have d:(0:Int)<=n/\(n:Int)<=y:=⟨a6,a6⟩;simp[Instr.sliceBound,asIntOf,d]
variable{h:Nat}{m:Nat}{mx:Option Value}
abbrev PN{b:Bool}{len cap l:Nat}{lo hi:Option Value}(p:(mx=none/\m=cap)∨∃k,mx=some (.int k m))(hh:(hi=none/\h=len)∨∃k,hi=some (.int k h))(d:(lo=none/\l=0)∨∃k,lo=some (.int k l))
 (q:hi=none->mx=none) (u:m<=cap) (g:h<=m) (f:l<=h) (w:World):(Instr.sliceBounds b len cap lo hi mx).run P w=.ok (l,h,m) w:=by
 rcases p with⟨rfl,rfl⟩|⟨x,rfl⟩
 .rcases hh with⟨rfl,rfl⟩|⟨v,rfl⟩
  .rcases d with⟨rfl,rfl⟩|⟨i,rfl⟩<;>simp_all[Instr.sliceBounds,NU f]
  .rcases d with⟨rfl,rfl⟩|⟨i,rfl⟩<;>simp_all[Instr.sliceBounds,NU g,NU f]
 .rcases hh with⟨rfl,rfl⟩|⟨v,rfl⟩
  .simp_all
  .rcases d with⟨rfl,rfl⟩|⟨i,rfl⟩<;>simp_all[Instr.sliceBounds,NU u,NU g,NU f]
@[simp] theorem yu(a b c:Nat)(f:Nat->Nat->Nat->V):f3 a b c f=some (f a b c):=by simp[f3]
abbrev pQ{z:Info}{esz cap l:Nat}(h:cap=0∨a=⟨z.b,z.base+o*esz,none⟩)(d:l<=m)(f:m<=cap):
 m-l=0∨(if m=l then a else a.add (l*esz))=⟨z.b,z.base+(o+l)*esz,none⟩:=by
 rcases Nat.eq_or_lt_of_le d with e|e
 .omega
 .right;rw[g_ a6];exact ADK h a6
variable{w:World}
abbrev RF{esz:Nat}(f:P.underlying t=some (.slice e))(g:pI P e=some esz){a:Option Addr}{len cap l:Nat}{lo hi:Option Value}(i:(Instr.sliceBounds true len cap lo hi mx).run P w=.ok (l,h,m) w):
 (Instr.sliceAt t (.slice a len cap) lo hi mx).run P w=.ok (.slice (if m=l then a else a.map (·.add (l*esz))) (h-l) (m-l)) w:=by have d:=run_sizeOf g w;simp[Instr.sliceAt,Instr.slice,dj f,i,d]
variable{lo:Option X}{hi:Option X}{qo:Option Value}
abbrev AOq{esz:Nat}(O:P.underlying t=some (.slice e))(Q:pI P e=some esz)(B:AW ρ x u){lo hi mx:aAu}{vhi y:Option Value}
 (C:ACb ρ E lo qo) (D:ACb ρ E hi vhi) (K:ACb ρ E mx y) (hc:mx.isSome=true->hi.isSome=true) (h:lV esz x E lo hi mx=some r) (w:World):
 ∃val,(Instr.sliceAt t u qo vhi y).run P w=.ok val w/\AW ρ r val:=by
 have R:vhi=none->y=none:=by
  intro hv;subst hv;cases hi with
  |some _=>trivial
  |none=>
   cases mx with
   |some _=>simp_all
   |none=>cases y with
    |none=>rfl
    |some _=>trivial
 unfold lV at h;cases x<;>simp only[V.AO9,V.el]at h<;>try (cases h;done)
 ·
   simp only[AW]at B;subst B;unfold yP at h;have⟨m,h,W⟩:=Ek K h;have⟨i,h,J⟩:=Ek D h;have⟨A,h,G⟩:=Ek C h;rw[BC]at h;have⟨p,h⟩:=h;cases h;simp only[A6,ez,beq_iff]at p;obtain⟨Y,Z,rfl⟩:=p;have S:A<=i:=h_ Y;have T:i<=0:=h_ Z;have q:=PN (P:=P) (b:=true) (len:=0) (cap:=0) (m:=0) W J G R o_ T S w;have e0:A=0:=a6;have e1:i=0:=a6;subst e0 e1;exact⟨_,RF O Q q,by rfl⟩
 .rename_i id v A f es;unfold AFT at h;rw[BC,beq_iff]at h;obtain⟨rfl,h⟩:=h;have⟨m,h,W⟩:=Ek K h;have⟨i,h,J⟩:=Ek D h;have⟨l,h,G⟩:=Ek C h;rw[BC,yu]at h;have⟨p,h⟩:=h;cases h;simp only[A6,ez]at p;have L:l<=i:=h_ p.1;have N:i<=m:=h_ p.2.1;have b3:m<=f:=h_ p.2.2;simp only[AW]at B;obtain⟨z,a,H,rfl,I,U⟩:=B;have q:=PN (P:=P) (b:=true) (len:=A) (cap:=f) W J G R b3 N L w;refine⟨_,RF O Q q,?_⟩;simp only[AW];refine⟨z,if m=l then a else a.add (l*esz),H,?_,pQ I a6 b3,?_⟩
  .congr 1;split<;>rfl
  simp;omega
 .rename_i id v A es;unfold tf at h;rw[BC,beq_iff]at h;obtain⟨rfl,h⟩:=h;simp only[AW]at B;obtain⟨z,a,M,H,rfl,I,U,d0⟩:=B;cases mx with
  |none=>
   cases y with
   |some _=>trivial
   |none=>
    have g:xG E lo hi id v A esz=some r:=h;unfold xG at g;have⟨i,g,J⟩:=Ek D g;have⟨l,g,G⟩:=Ek C g;rw[BC,yu]at g;have⟨p,g⟩:=g;cases g;simp only[A6,ez]at p;have L:l<=i:=h_ p.1;have N:i<=A:=h_ p.2;have q:=PN (P:=P) (b:=true) (len:=A) (cap:=M) (m:=M) (.inl ⟨rfl,rfl⟩) J G (λ_=>rfl) o_ a6 L w;refine⟨_,RF O Q q,?_⟩;simp only[AW];refine⟨z,if M=l then a else a.add (l*esz),M-l,H,?_,pQ I a6 o_,?_,?_⟩
    .congr 1;split<;>rfl
    .simp;omega
    .have:Nat.add v l+(M-l)=v+M:=by simp;omega
     simp_all
  |some mx=>
   cases y with
   |none=>trivial
   |some vm=>
    have g:xM E lo hi mx id v A esz=some r:=h;unfold xM at g;rw[Mf]at g;have⟨km,m,d1,g⟩:=g;have F:AW ρ (mx.ev E) vm:=K;rw[d1]at F;simp only[AW]at F;subst F;have d2:∃B,hi=some B:=Z_.1 (hc rfl);obtain⟨B,rfl⟩:=d2;have⟨i,g,J⟩:=Ek D g;have⟨l,g,G⟩:=Ek C g;rw[BC,yu]at g;have⟨p,g⟩:=g;cases g;simp only[A6,ez]at p;have L:l<=i:=h_ p.1;have N:i<=m:=h_ p.2.1;have b3:m<=A:=h_ p.2.2;have d3:(vhi=none/\i=A)∨∃k,vhi=some (.int k i):=by simp_all
    have q:=PN (P:=P) (b:=true) (len:=A) (cap:=M) (m:=m) (.inr ⟨km,rfl⟩) d3 G (λe=>absurd e (by simp_all)) a6 N L w;refine⟨_,RF O Q q,?_⟩;simp only[AW];refine⟨z,if m=l then a else a.add (l*esz),H,?_,?_,?_⟩
    .congr 1;split<;>rfl
    .have:=pQ I (l:=l) (m:=m) a6 a6;trivial
    simp;omega
 .rename_i b v A f es;unfold zK at h;have⟨i,h,J⟩:=Ek D h;have⟨l,h,G⟩:=Ek C h;cases mx with
  |some mx=>cases h
  |none=>
   cases y with
   |some _=>trivial
   |none=>
    have g:Az (band (Nat.ble l i) (Nat.ble i f)) (f3 (Nat.add v (Nat.mul l esz)) (Nat.sub i l) (Nat.sub f l) λo d c=>.rsl b o d c es)=some r:=h;rw[BC,yu]at g;have⟨p,g⟩:=g;cases g;simp only[A6,ez]at p;have L:l<=i:=h_ p.1;have N:i<=f:=h_ p.2;simp only[AW]at B;obtain⟨a,rfl,I,U⟩:=B;have q:=PN (P:=P) (b:=true) (len:=A) (cap:=f) (m:=f) (.inl ⟨rfl,rfl⟩) J G (λ_=>rfl) o_ N L w;refine⟨_,RF O Q q,?_⟩;simp only[AW];by_cases e:f=l
    .simp_all
    .rw[g_ e];refine⟨_,rfl,.inr ?_,?_⟩
     .rcases I with I|I
      .omega
      .rw[I];exact add_lit b v (l*esz)
     simp;omega
abbrev toList_extract(s:ByteArray)(l h:Nat):(s.extract l h).data.toList=(s.data.toList.drop l).take (h-l):=by simp
abbrev AFU(p:P.underlying t=some .string)(q:AW ρ x u){lo hi:aAu}{vhi:Option Value}
 (d:ACb ρ E lo qo) (f:ACb ρ E hi vhi) (h:AIL x E lo hi=some r) (w:World):
 ∃val,(Instr.sliceAt t u qo vhi none).run P w=.ok val w/\AW ρ r val:=by
 unfold AIL at h;rw[FO]at h;obtain⟨v,c,rfl,h⟩:=h;have⟨g,h,C⟩:=Ek f h;have⟨l,h,y⟩:=Ek d h;rw[BC,yu]at h;have⟨i,h⟩:=h;cases h;simp only[A6,ez]at i;have A:l<=g:=h_ i.1;have D:g<=v:=h_ i.2;obtain⟨s,rfl,rfl,rfl⟩:=G3 q;have B:=Jy s;have k:=PN (P:=P) (b:=false) (len:=s.size) (cap:=s.size) (m:=s.size) (mx:=none) (.inl ⟨rfl,rfl⟩) (by trivial) y (λ_=>rfl) o_ a6 A w;refine⟨.string (s.extract l g),?_,⟨_,rfl,?_,?_⟩⟩
 .simp[Instr.sliceAt,Instr.slice,dj p,k]
 .simp;omega
 simp[toList_extract,AMl]
abbrev AN0{esz:Nat}(A:P.underlying t=some (.array n e))(B:pI P e=some esz)(v:AW ρ x u){lo hi:aAu}{vhi:Option Value}
 (f:ACb ρ E lo qo) (g:ACb ρ E hi vhi)
 (h:x.AFD (λy o=>Yo hi E n λh=>Yo lo E 0 λl=>Az (band (Nat.beq (Nat.mod o esz) 0) (band (Nat.ble l h) (Nat.ble h n))) (f3 (Nat.add (Nat.div o esz) l) (Nat.sub h l) (Nat.sub n l) λa b c=>.sl y a b c esz)) (λ_ _=>none)=some r) (w:World):
 ∃val,(Instr.sliceAt t u qo vhi none).run P w=.ok val w/\AW ρ r val:=by
 rw[yR]at h;rcases h with⟨y,o,rfl,h⟩|⟨_,_,_,h⟩
 .obtain⟨i,h,C⟩:=Ek g h;have⟨l,h,D⟩:=Ek f h;rw[BC,yu]at h;have⟨d,h⟩:=h;cases h;simp only[A6,ez,beq_iff]at d;have J:o%esz=0:=d.1;have F:l<=i:=h_ d.2.1;have G:i<=n:=h_ d.2.2;simp only[AW]at v;obtain⟨z,k,rfl⟩:=v;have p:=PN (P:=P) (b:=false) (len:=n) (cap:=n) (m:=n) (mx:=none) (.inl ⟨rfl,rfl⟩) C D (λ_=>rfl) o_ G F w;have q:=run_sizeOf (P:=P) B w;refine⟨.slice (some (if n=l then⟨z.b,z.base+o,none⟩else(⟨z.b,z.base+o,none⟩:Addr).add (l*esz))) (i-l) (n-l),?_,?_⟩
  .simp[Instr.sliceAt,dj A,Instr.sureAddr,p,q]
  .simp only[AW];refine⟨z,_,k,rfl,?_,by simp;omega⟩;have H:esz*(o/esz)+o%esz=o:=Q_ o esz;have I:n=0∨(⟨z.b,z.base+o,none⟩:Addr)=⟨z.b,z.base+(o/esz)*esz,none⟩:=by simp_all[F_]
   exact pQ I a6 o_
 trivial
variable{P:Program}
abbrev ADq(h:u.oneCell'=true):u.cells= #[u]:=by cases u<;>first|rfl|trivial
variable{v:V}
abbrev jr(h:AW ρ v u)(g:Rb v=true):Bj ρ (At v) u.cells.toList/\∀y∈u.cells.toList,y.oneCell'=true:=by
 by_cases d:AEQ v=true
 .have f:=h.one d;rw[ADq f];have:At v=[v]:=by cases v<;>first|rfl|trivial
  simp[*]
 .cases v<;>first|(exact absurd rfl d)|(simp[Rb,V.el]at g)|skip
  obtain⟨a,rfl,i,f⟩:=h;trivial
abbrev sQ:∀(l:aAp) (cells:aAr) (off k:Nat),off+k+l.length<=cells.size->
 ((l.zipIdx k).foldl (λcs x=>match x with|(c,j)=>cs.setIfInBounds (off+j) c) cells).toList=JM cells.toList (off+k) l
 |[],cells,off,k,_=>by simp[JM]
 |v::l,cells,off,k,h=>by simp only[List.zipIdx_cons,List.foldl_cons];rw[sQ l _ off _ (by simp_all;omega)];have e:=list_seg_step cells.toList _ v l a6;simp_all[JM,G_]
def Vn(f:Operand->aAu)(places:Nat->Option (Nat×Nat))(zn:Nat):List (Nat×Operand)->Option (List (Nat×Nat×X))
 |[]=>some []
 |(i,o)::r=>(places i).bind λp=>if p.1+p.2<=zn then(f o).bind λx=>(Vn f places zn r).map λr'=>(p.1,p.2,x)::r' else none
abbrev AER{g:Operand->Value}{f:Operand->aAu}(Q:∀o x,f o=some x->AW ρ (x.ev E) (g o)){k:Nat->Option (Nat×Nat)}{I:Nat}:
 ∀(ps:List (Nat×Operand)) (m:List (Nat×Nat×X)) (z:LV) (cells:aAr),Vn f k I ps=some m->cV m E=true->Bj ρ z cells.toList->(∀y∈cells.toList,y.oneCell'=true)->cells.size=I->
  ∃d,Instr.fill k cells (ps.map λp=>(p.1,g p.2))=some d/\Bj ρ (vB m E z) d.toList/\(∀y∈d.toList,y.oneCell'=true)
 |[],m,z,cells,h,_,J,K,_=>by simp only[Vn]at h;cases h;exact⟨cells,rfl,J,K⟩
 |(i,o)::r,m,z,cells,h,V,J,K,W=>by
  simp only[Vn,ee]at h;have⟨p,Y,h⟩:=h;split at h
  .rename_i R;simp only[ee]at h;have⟨x,Z,h⟩:=h;cases S:Vn f k I r with
   |none=>simp_all
   |some T=>
    rw[S]at h;cases h;have D:band (band (Rb (x.ev E)) (Nat.beq (len (At (x.ev E))) p.2)) (cV T E)=true:=V;simp only[A6,ez,beq_iff,len_eq]at D;have⟨⟨L,F⟩,u⟩:=D;have⟨v,U⟩:=jr (Q o x Z) L;have d0:(g o).cells.toList.length=p.2:=by rw[<-v.length,F]
    have d1:(g o).cells.size=p.2:=by trivial
    have G:=sQ (g o).cells.toList cells p.1 0 a6;simp only[_Y]at G;generalize hcs:((g o).cells.toList.zipIdx 0).foldl (λM x=>match x with|(c,j)=>M.setIfInBounds (p.1+j) c) cells=cells1 at G;have N:cells1.size=I:=by
     have:cells1.toList.length=cells.toList.length:=by rw[G,Tz _ _ _ (by simp_all)]
     simpa[W]using this
    have O:Bj ρ (AEW (At (x.ev E)) p.1 z) cells1.toList:=by rw[G,wv,JM,v.length,y_];exact(J.take _).append (v.append (J.drop _))
    have P:∀y∈cells1.toList,y.oneCell'=true:=by
     intro y q;rw[G,JM]at q;rcases q_.1 q with q|q
     .rcases q_.1 q with q|q
      .exact K y (_k q)
      simp_all
     .exact K y (_y q)
    have⟨d,w,H,A⟩:=AER Q r T _ cells1 S u O P N;refine⟨d,?_,H,A⟩;have B:(decide ((g o).cells.size≠p.2)||decide (p.1+(g o).cells.size>cells.size))=false:=by simp_all
    have C:(g o).cells.zipIdx.foldl (λM x=>match x with|(c,j)=>M.setIfInBounds (p.1+j) c) cells=cells1:=by rw[<-hcs,<-Array.foldl_toList,Array.toList_zipIdx]
    simp only[rl,Instr.fill,Y];rw[g_ (by rw[B];simp)];rw[C];exact w
  trivial
def ACS(P:Program)(t:TypeId):Option (Nat->Option (Nat×Nat)):=
 match P.underlying t with
 |some (.struct fields)=>(fields.toList.mapM λf=>(P.info? f.type).map λi=>(f.offset,i.size)).map λplaces=>λi=>places.toArray[i]?
 |some (.array _ e)=>(P.info? e).map λie=>λi=>some (i*ie.size,ie.size)
 |_=>none
variable{z:LV}
abbrev AJr{g:Operand->Value}{f:Operand->aAu}(G:∀o x,f o=some x->AW ρ (x.ev E) (g o)){k:Nat->Option (Nat×Nat)}(F:ACS P t=some k) (y:rM P t=some z) {ps:Array (Nat×Operand)} {m:List (Nat×Nat×X)} (A:Vn f k z.length ps.toList=some m) (h:Az (cV m E) (some (.agg (vB m E z)))=some r) (w:World):
 ∃val,(Instr.build t (ps.map λ(i,x)=>(i,g x))).run P w=.ok val w/\AW ρ r val:=by
 rw[BC]at h;have⟨H,h⟩:=h;cases h;unfold rM at y;simp only[ee]at y;have⟨i,M,I,J,B⟩:=y;have⟨q,_,C⟩:=fw (ρ:=ρ) B;have⟨d,D,u,v⟩:=AER G ps.toList m z I.cells A H q C (by simp[_N,q.length]);refine⟨.agg d,?_,⟨d,rfl,u,v⟩⟩;refine run_build w t _ d ?_;have K:(ps.map λ(i,x)=>(i,g x)).toList=ps.toList.map λp=>(p.1,g p.2):=o6;rw[K];unfold ACS at F;unfold Program.built;split at F
 .rename_i fields L;cases N:fields.toList.mapM (λf=>(P.info? f.type).map λi=>(f.offset,i.size))<;>simp_all
 .rename_i n e L;cases O:P.info? e<;>simp_all
 trivial
variable{P:Program}
def po(P:Program)(t:TypeId):Option CK:=
 match P.underlying t with
 |some (.int _)=>some .int
 |some .string=>some .str
 |some .bool=>some .bool
 |_=>none
variable{c:CK}
abbrev run_checkKey(h:po P t=some c)(b:Bool)(d:Nat)(u:Value)(w:World):(Instr.checkKey b (d+1) t u).run P w=.ok () w:=by unfold po at h;split at h<;>first|(cases h;done)|(rename_i f;simp[Instr.checkKey,dj f])
abbrev ABl(a b:ByteArray):(a==b)=(a.data.toList==b.data.toList):=by simp[beq_toListBytes,ByteArray.toList_eq]
variable{y:V}
abbrev ALS{d:TypeDesc}(E:P.underlying t=some d)(h:po P t=some c)(i:AW ρ x u)(v:AW ρ y B){b:Bool}(C:c.eq x y=some b):
 Instr.sameNow d B u=some b/\(b=true->u=B)/\Instr.sameBits 10000 u u=true:=by
 unfold po at h;rw[E]at h;split at h<;>rename_i g<;>try (cases h;done)
 .cases h;cases g;have f:AE7 x y=some b:=C;cases x<;>simp only[AE7,V.el]at f<;>try (cases f;done)
  obtain⟨m,F,rfl,rfl⟩:=mu f;simp only[AW]at i v;subst i v;rename_i k n s;refine⟨?_,?_,?_⟩
  .simp only[Instr.sameNow,_1,_u];rw[zc];simp;omega
  .simp
  .show(k==k&&n==n)=true;simp
 .cases h;cases g;have f:AFM x y=some b:=C;cases x<;>simp only[AFM,V.el]at f<;>try (cases f;done)
  cases y<;>simp only[eqStr,V.el]at f<;>try (cases f;done)
  obtain⟨w,rfl,rfl,rfl⟩:=G3 i;obtain⟨D,rfl,rfl,rfl⟩:=G3 v;simp only[A6]at f;have A:(w.data.toList==D.data.toList)=b:=by rw[ACU];simp_all
  refine⟨?_,?_,?_⟩
  .simp only[Instr.sameNow,_u,ABl];rw[<-A,zc];simp only[_T];exact eq_comm
  .intro e;subst e;simp only[_T]at A;have:w.data=D.data:=by simp_all
   cases w;simp_all
  .show(w==w)=true;simp[ABl]
 .cases h;cases g;have f:uw x y=some b:=C;cases x<;>simp only[uw,V.el]at f<;>try (cases f;done)
  cases y<;>simp only[AGI,V.el]at f<;>try (cases f;done)
  simp only[AW]at i v;subst i v;rename_i p q;simp only[ADg]at f;have A:=e_ f;refine⟨?_,?_,?_⟩
  .simp only[Instr.sameNow,_u];rw[<-A];cases p<;>cases q<;>rfl
  .intro e;simp_all
  .show(p==p)=true;simp
abbrev bl{d:TypeDesc}(C:P.underlying t=some d)(D:po P t=some c){k:V}(E:AW ρ k u):
 ∀{es:ME} {f:List MapEntry} {i:Nat} {r:Option (Nat×V)},iM c k es i=some r->Ho ρ es f->
  (r=none/\Instr.findNow d u f i=some none)∨
  ∃j p v v' b w,r=some (i+j,v)/\Instr.findNow d u f i=some (some (i+j,v'))/\AW ρ v v'/\es[j]? =some (p,v,b)/\f[j]? =some w/\w.key=u/\w.born=b/\AW ρ p u/\Instr.sameBits 10000 u u=true
 |[],f,i,r,h,F=>by simp only[Ho]at F;subst F;have g:some none=some r:=h;cases g;exact .inl ⟨rfl,rfl⟩
 |(p,v,b)::es,_,i,r,h,⟨e,f,rfl,G,H,I,J⟩=>by
  have g:BB (c.eq p k) (λq=>Bool.rec (iM c k es (Nat.succ i)) (some (some (i,v))) q)=some r:=h;rw[BQ]at g;have⟨q,K,g⟩:=g;have⟨y,x,L⟩:=ALS C D G E K;cases q with
  |true=>
   have m:some (some (i,v))=some r:=g;cases m;refine .inr ⟨0,p,v,e.val,b,e,rfl,?_,H,rfl,rfl,x rfl,I,?_,?_⟩;all_goals simp_all[Instr.findNow,y,x rfl]
  |false=>
   have m:iM c k es (i+1)=some r:=g;rcases bl C D E m J with⟨rfl,A⟩|⟨j,B,M,N,O,w,rfl,A,Q,U,W,R,S,T⟩
   .simp[Instr.findNow,y,A]
   .refine .inr ⟨j+1,B,M,N,O,w,by simp;omega,?_,Q,by trivial,by trivial,R,S,T⟩;simp[Instr.findNow,y,A,show i+1+j=i+(j+1)by omega]
variable{H:Heap}
abbrev qD{p:World}(hh:Cb p ρ H n w){m:V}(g:AW ρ m u){f:ME->Nat->aAl}(h:NV H m f=some r):
 ∃es ck,f es ck=some r/\((u=.map none/\es=[])∨∃b,∃d:Array MapEntry,u=.map (some b)/\w.heap[b]? =some (.map d ck)/\Ho ρ es d.toList):=by
 unfold NV at h;cases m<;>simp only[V.AHH,V.el]at h<;>try (cases h)
 .exact⟨[],0,h,.inl ⟨g,rfl⟩⟩
 .rename_i i;obtain⟨x,q,rfl⟩:=g;cases k:T.get H i with
  |none=>simp_all
  |some b=>
   rw[k]at h;cases b with
   |arr _ _ _=>cases h
   |dead=>cases h
   |aq _ _ _ _ _=>cases h
   |own _=>cases h
   |map es ck=>
    have⟨d,v,y⟩:=hh.map i x es ck q k;exact⟨es,ck,h,.inr ⟨x.b,d,rfl,v,y⟩⟩
variable{b:Nat}
abbrev PC{es:Array MapEntry}{ck:Nat}(h:w.heap[b]? =some (.map es ck)):(getObj b).run P w=.ok (.map es ck) w:=by simp[getObj,Sem.run,h]
variable{p:Value}
abbrev AMK{W:World}(hh:Cb W ρ H n w){B G:TypeId}{d:TypeDesc}(Q:P.underlying t=some (.map B G))(R:P.underlying B=some d)(S:po P B=some c)
 {i:TypeInfo} {C:Value} (hi:P.info? G=some i) (X:i.zero=some C) {z:V} (D:AW ρ z C) {m k:V} (Y:AW ρ m u) (I:AW ρ k p) {ok:Bool}
 (h:NV H m (λJ _=>BB (iM c k J 0) (AJA ok z))=some r):∃val,(Instr.lookup t u p ok).run P w=.ok val w/\AW ρ r val:=by
 have⟨J,ck,h,x⟩:=qD hh Y h;rw[BQ]at h;have⟨q,Z,h⟩:=h;have y:(zeroValue G).run P w=.ok C w:=by simp[zeroValue,typeInfo,hi,X]
 have key:∀f:Array MapEntry,Ho ρ J f.toList->∃val,AW ρ r val/\
  ((do Instr.checkKey f.isEmpty 10000 B p
       let fd<-Instr.findKey B p f.toList;let vo<-match fd with
        |some (_,v)=>(pure (v,true):Sem (Value×Bool))
        |none=>do let zz<-zeroValue G;pure (zz,false)
       pure (if ok then .tuple #[vo.1,.bool vo.2]else vo.1)):Sem Value).run P w=.ok val w:=by
  intro f K;have E:=run_checkKey (P:=P) S f.isEmpty 9999 p w;have F:∀L,Instr.findNow d p f.toList 0=some L->(Instr.findKey B p f.toList).run P w=.ok L w:=by intro L M;simp[Instr.findKey,dj R,M]
  rcases bl R S I Z K with⟨rfl,N⟩|⟨j,kv,v,T,b,e',rfl,N,U,_⟩
  .have A:uK ok (some (.CV [z,.bool false])) (some z)=some r:=h;rw[Xj]at A;refine⟨if ok then .tuple #[C,.bool false]else C,?_,?_⟩
   .cases ok with
    |true=>cases A;simp only[AW,_1];exact⟨_,rfl,.cons D (.cons (by simp[AW]) .nil)⟩
    |false=>cases A;exact D
   .simp only[p_,E,s_,F _ N,y,E_]
  .have A:uK ok (some (.CV [v,.bool true])) (some v)=some r:=h;rw[Xj]at A;refine⟨if ok then .tuple #[T,.bool true]else T,?_,?_⟩
   .cases ok with
    |true=>cases A;simp only[AW,_1];exact⟨_,rfl,.cons U (.cons (by simp[AW]) .nil)⟩
    |false=>cases A;exact U
   .simp only[p_,E,s_,F _ N,E_]
 rcases x with⟨rfl,rfl⟩|⟨b,f,rfl,hb,K⟩
 .obtain⟨val,O,g⟩:=key #[] (by simp[Ho]);refine⟨val,?_,O⟩;rw[<-g];simp only[Instr.lookup,p_,dj Q,s_];rfl
 .obtain⟨val,O,g⟩:=key f K;refine⟨val,?_,O⟩;rw[<-g];simp only[Instr.lookup,p_,dj Q,s_,PC hb];rfl
variable{P:Program}
structure Reads(ρ:Loc)(w:World)(b o:Nat)(LS:Bh)(esz:Nat)(cs:List Value):Prop where
 rel:Bj ρ LS.flatten cs
 len:cs.length=LS.length*esz
 each:∀L∈LS,L.length=esz
 cell:∀j y,cs[j]? =some y->w.cell? ⟨b,o+j,none⟩=some y/\y.oneCell'=true
abbrev Reads.nil(ρ:Loc)(w:World)(b o esz:Nat):Reads ρ w b o [] esz []:=⟨o6,o6,λL h=>(by cases h),λj y h=>by trivial⟩
variable{L:LV}{LS:Bh}{cs:List Value}
abbrev Reads.cons{esz:Nat}{d cs:aAp}(i:Bj ρ L d)(k:d.length=esz)(m:∀j y,d[j]? =some y->w.cell? ⟨b,o+j,none⟩=some y/\y.oneCell'=true)
 (h:Reads ρ w b (o+esz) LS esz cs):Reads ρ w b o (L::LS) esz (d++cs):=by
 refine⟨by simpa using i.append h.rel,by simp[h.len,pp];omega,?_,?_⟩
 .intro M g;rcases qk.1 g with rfl|g
  .rw[i.length,k]
  .exact h.each M g
 .intro j y f;by_cases p:j<esz
  .rw[qi a6]at f;exact m j y f
  .rw[i_ a6,k]at f;have:=h.cell _ y f;simp_all[show o+esz+(j-esz)=o+j by omega]
variable{G:AQ}
abbrev TC{i:World}(hh:Cb i ρ H m w)(k:Sj i G){id:Nat}{x:Info}(p:ρ id=some x){esz:Nat}:
 ∀(n o:Nat) (LS:Bh),BP H id esz n o=some LS->LS.length=n/\∃cs,Reads ρ w x.b (x.base+o*esz) LS esz cs
 |0,o,LS,h=>by have d:=h;cases d;exact⟨rfl,[],Reads.nil _ _ _ _ _⟩
 |n+1,o,LS,h=>by
  have d:BB _ _=some LS:=h;rw[BQ]at d;have⟨L,v,d⟩:=d;rw[BQ]at d;have⟨f,g,d⟩:=d;cases d;have A:AW ρ (.ptr id (o*esz)) _:=⟨x,p,rfl⟩;have⟨a,B,C,_,D,E,F,I⟩:=Zd hh k A v;cases C;have⟨q,cs,J⟩:=TC hh k p n _ f g;refine⟨by simp[*],B++cs,Reads.cons D E ?_ ?_⟩
  .intro j y u;have:=I j y u;rw[add_lit]at this;exact⟨this,F y (D' u)⟩
  .rw[show x.base+o*esz+esz=x.base+(o+1)*esz by rw[pp];omega];omega
abbrev im{k:World}(hh:Cb k ρ H m w)(p:Sj k G){esz:Nat}:
 ∀(n o:Nat) (LS:Bh),Y1 G b esz n o=some LS->LS.length=n/\∃cs,Reads ρ w b o LS esz cs
 |0,o,LS,h=>by have d:=h;cases d;exact⟨rfl,[],Reads.nil _ _ _ _ _⟩
 |n+1,o,LS,h=>by have d:BB _ _=some LS:=h;rw[BQ]at d;have⟨L,v,d⟩:=d;rw[BQ]at d;have⟨f,g,d⟩:=d;cases d;have x:AW ρ (.gptr b o) _:=rfl;have⟨a,A,B,_,C,D,E,F⟩:=Zd hh p x v;cases B;have⟨q,cs,i⟩:=im hh p n _ f g;refine⟨by simp[*],A++cs,Reads.cons C D ?_ i⟩;intro j y u;have:=F j y u;rw[add_lit]at this;exact⟨this,E y (D' u)⟩
theorem jE:∀(l:aAA),Bj ρ (VZ l.length (enc l)).flatten (l.map λb=>Value.int .u8 b.toNat)/\(VZ l.length (enc l)).length=l.length/\∀L∈VZ l.length (enc l),L.length=1
 |[]=>⟨Bj.nil,rfl,λL h=>(by cases h)⟩
 |b::l=>by
  have d:enc (b::l)%256=b.toNat:=by simp[enc]
  have f:enc (b::l)/256=enc l:=by simp[enc];omega
  obtain⟨g,i,k⟩:=jE l;have e:VZ (b::l).length (enc (b::l))=[.int .u8 (.ofNat (enc _%256)) 0]::VZ l.length (enc _/256):=rfl;rw[e,d,f];refine⟨?_,by simp[*],?_⟩
  .exact .cons (by rfl) g
  simp_all
theorem xo{N:World}{ρ:Loc}{H:Heap}{m:Nat}{w:World}(hh:Cb N ρ H m w){G:AQ}(E:Sj N G){v:V}{u:Value}(p:AW ρ v u){esz:Nat}{LS:Bh}(h:elems v G H esz=some LS):
 ∃cs:List Value,Bj ρ LS.flatten cs/\cs.length=LS.length*esz/\(∀L∈LS,L.length=esz)/\(∀y∈cs,y.oneCell'=true)/\
  ((u=.slice none 0 0/\LS=[])∨(∃a i,u=.slice (some a) LS.length i/\∀j y,cs[j]? =some y->w.cell? (a.add j)=some y)∨
   (∃s:ByteArray,u=.string s/\(∀L∈LS,L.length=1)/\LS.length=s.size/\cs=s.data.toList.map λb=>Value.int .u8 b.toNat)):=by
 have F:∀{b o:Nat} {cs:List Value} {a:Addr} {i:Nat},Reads ρ w b o LS esz cs->(0<LS.length->a=⟨b,o,none⟩)->u=.slice (some a) LS.length i->∃cs:List Value,Bj ρ LS.flatten cs/\cs.length=LS.length*esz/\(∀L∈LS,L.length=esz)/\(∀y∈cs,y.oneCell'=true)/\
  ((u=.slice none 0 0/\LS=[])∨(∃a i,u=.slice (some a) LS.length i/\∀j y,cs[j]? =some y->w.cell? (a.add j)=some y)∨
   (∃s:ByteArray,u=.string s/\(∀L∈LS,L.length=1)/\LS.length=s.size/\cs=s.data.toList.map λb=>Value.int .u8 b.toNat)):=by
  intro b o cs a i f q Q
  refine⟨cs,f.rel,f.len,f.each,?_,.inr (.inl ⟨a,i,Q,?_⟩)⟩
  ·intro y I
   obtain⟨j,J⟩:=List.mem_iff_getElem?.1 I
   exact(f.cell j y J).2
  ·intro j y J
   have A:0<LS.length:=by
    rcases Nat.eq_zero_or_pos LS.length with e|e
    ·have R:=f.len;simp_all
    trivial
   rw[q A,add_lit]
   exact(f.cell j y J).1
 cases v<;>simp only[elems,V.el]at h<;>try (cases h;done)
 ·rename_i l c
  obtain⟨s,rfl,rfl,rfl⟩:=G3 p
  cases k:Nat.beq 1 esz with
  |false=>simp_all
  |true=>
   rw[k]at h
   have e:=Nat.eq_of_beq_eq_true k
   subst e
   have S:VZ s.data.toList.length (enc s.data.toList)=LS:=Option.some.inj h
   subst S
   obtain⟨T,W,O⟩:=jE (ρ:=ρ) s.data.toList
   refine⟨_,T,by simp_all,O,?_,.inr (.inr ⟨s,rfl,O,by trivial,rfl⟩)⟩
   intro y I
   obtain⟨b,_,rfl⟩:=List.mem_map.1 I
   rfl
 ·simp_all[AW]
 ·rename_i U g B K D
  cases k:Nat.beq D esz with
  |false=>simp_all
  |true=>
   rw[k]at h
   have e:=Nat.eq_of_beq_eq_true k
   subst e
   simp only[AW]at p
   obtain⟨x,a,M,rfl,q,C⟩:=p
   obtain⟨d,cs,f⟩:=TC hh E M B g LS h
   subst d
   exact F f (λP=>by rcases q with e|e<;>simp_all) rfl
 ·rename_i U g B D
  cases k:Nat.beq D esz with
  |false=>simp_all
  |true=>
   rw[k]at h
   have e:=Nat.eq_of_beq_eq_true k
   subst e
   simp only[AW]at p
   obtain⟨x,a,i,M,rfl,q,C,_⟩:=p
   obtain⟨d,cs,f⟩:=TC hh E M B g LS h
   subst d
   exact F f (λP=>by rcases q with e|e<;>simp_all) rfl
 ·rename_i b g B K D
  simp only[AW]at p
  obtain⟨a,rfl,q,C⟩:=p
  obtain⟨d,cs,f⟩:=im hh E B g LS h
  subst d
  exact F f (λP=>by rcases q with e|e<;>simp_all) rfl
end Go.BN
namespace Go.BN
open Go.Lib (indexByte run_indexByteString)
variable{P:Program}
variable{ρ:Loc}{x:V}{r:V}{u:Value}
abbrev AQk(d:AW ρ x u)(h:x.FI (λk n s=>Zn k (Int.neg n) s)=some r)(w:World):∃val,(Op.unary .neg u).run P w=.ok val w/\AW ρ r val:=by
 rw[CI]at h;obtain⟨k,n,s,rfl,h⟩:=h;subst d;refine⟨_,?_,qg h⟩;have e:(0:Int)-n=Int.neg n:=by show 0-n= -n;omega
 simp[Op.unary,Op.intArith,e]
abbrev AQl(d:AW ρ x u)(h:x.gg (λb=>R9 (Lf b))=some r)(w:World):∃val,(Op.unary .not u).run P w=.ok val w/\AW ρ r val:=by rw[vP]at h;obtain⟨b,rfl,h⟩:=h;subst d;refine⟨.bool !b,by rfl,?_⟩;cases b<;>(cases h;rfl)
variable{k:IntKind}
abbrev APF{f g:TypeId}(m:(P.underlying f).isSome=true)(p:P.underlying g=some (.int k))(q:AW ρ x u)(h:x.FI (λ_ n s=>Zn k n s)=some r)(w:World):
 ∃val,(convert f g u).run P w=.ok val w/\AW ρ r val:=by rw[CI]at h;obtain⟨v,n,s,rfl,h⟩:=h;subst q;refine⟨_,?_,qg h⟩;have⟨d,i⟩:=Z_.1 m;simp[convert,dj i,dj p,Conv.intToInt]
variable{y:V}
abbrev AQY{d:Value}(g:AW ρ x u)(i:AW ρ y d)
 (h:x.FI (λk a s=>y.FI λf b t=>Az (band (keq k f) (Nat.beq (Nat.add s t) 0)) (some (.int k (Bool.rec a b (UG a b)) 0)))=some r) (m:Array TypeId) (ty:TypeId) (w:World):
 ∃val,(Builtin.max_ m ty #[u,d]).run P w=.ok val w/\AW ρ r val:=by
 rw[CI]at h;obtain⟨k,a,s,rfl,h⟩:=h;rw[CI]at h;obtain⟨f,b,t,rfl,h⟩:=h;rw[BC]at h;have⟨_,h⟩:=h;cases h;subst g i;refine⟨.int k _,by rfl,?_⟩;simp only[AW];cases p:UG a b with
 |true=>simp_all
 |false=>simp_all;omega
abbrev AOa{d:Value}(g:AW ρ x u)(i:AW ρ y d)
 (h:x.FI (λk a s=>y.FI λf b t=>Az (band (keq k f) (Nat.beq (Nat.add s t) 0)) (some (.int k (Bool.rec a b (UG b a)) 0)))=some r) (m:Array TypeId) (ty:TypeId) (w:World):
 ∃val,(Builtin.min_ m ty #[u,d]).run P w=.ok val w/\AW ρ r val:=by
 rw[CI]at h;obtain⟨k,a,s,rfl,h⟩:=h;rw[CI]at h;obtain⟨f,b,t,rfl,h⟩:=h;rw[BC]at h;have⟨_,h⟩:=h;cases h;subst g i;refine⟨.int k _,by rfl,?_⟩;simp only[AW];cases p:UG b a with
 |true=>simp_all
 |false=>simp_all;omega
variable{f:Value}
abbrev ALD{c:V}{d:Value}(g:AW ρ c f)(i:AW ρ x u)(k:AW ρ y d)(h:c.gg (λt=>uK t (some x) (some y))=some r)(w:World):
 ∃val,(do pure (Next.value (if<-asBool f then u else d)):Sem Next).run P w=.ok (.value val) w/\AW ρ r val:=by rw[vP]at h;obtain⟨b,rfl,h⟩:=h;subst g;refine⟨if b then u else d,by rfl,?_⟩;cases b<;>(simp_all)
variable{E:RS}
abbrev ZS{g:Operand->Value}{f:Operand->aAu}(i:∀o x,f o=some x->AW ρ (x.ev E) (g o)):∀(l:List Operand) (d:List X),l.mapM f=some d->Bj ρ (Zy d E) (l.map g)
 |[],d,h=>by simp_all
 |o::l,d,h=>by rw[_R]at h;simp only[Option.bind_eq_bind,ee]at h;have⟨x,k,m,p,e⟩:=h;cases e;exact .cons (i _ _ k) (ZS i l m p)
abbrev vY:∀{es:ME} {d:List MapEntry},Ho ρ es d->es.length=d.length
 |[],_,h=>by simp_all[Ho]
 |(k,v,b)::es,_,h=>by obtain⟨e,d,rfl,_,_,_,h⟩:=h;simp[vY h]
variable{H:Heap}{n:Nat}{w:World}{t:TypeId}
abbrev AMp{i:World}(hh:Cb i ρ H n w){k m:TypeId}(f:P.underlying t=some (.map k m))(p:AW ρ x u)
 (h:NV H x (λg _=>CC (len g) λn=>some (.int .i64 (.ofNat n) 0))=some r) (ty:TypeId):∃val,(Builtin.len_ #[t] ty #[u]).run P w=.ok val w/\AW ρ r val:=by
 have⟨g,ck,h,q⟩:=qD hh p h;rw[BF]at h;cases h;rcases q with⟨rfl,rfl⟩|⟨b,d,rfl,v,y⟩
 .exact⟨goInt 0,by simp[Builtin.len_,dj f],by simp[AW,goInt]⟩
 .refine⟨goInt d.size,by simp[Builtin.len_,dj f,PC v],?_⟩;simp only[AW,goInt,len_eq,vY y];simp
abbrev AJx(d:AW ρ x u)(h:AV x=some r):(∃a,u=.pointer (some a))∨(∃f a c,u=.func (.func f) a c):=by
 cases x<;>simp only[AV,V.el]at h<;>try (cases h)
 .obtain⟨_,_,rfl⟩:=d;simp
 .simp_all[AW]
 .obtain⟨_,_,rfl,_⟩:=d;simp
abbrev AGQ(h:AV x=some r):r=x:=by cases x<;>simp only[AV,V.el]at h<;>first|simp_all|simp_all
variable{v:V}{m:Nat}
abbrev ADy(g:AW ρ v u)(h:byteOf v=some m):m<256/\u=.int .u8 m:=by
 cases v<;>simp only[byteOf,V.el]at h<;>try (cases h)
 rename_i k n s;cases n with
 |negSucc n=>cases h
 |ofNat n=>
  have d:Bool.rec none _ _=some m:=h;cases f:band _ _ with
  |false=>rw[f]at d;trivial
  |true=>
   rw[f]at d;cases d;simp only[A6,ez,xi]at f;simp only[AW]at g;have i:k=.u8:=by cases k<;>first|rfl|trivial
   simp[*]
abbrev zM:∀(LS:Bh) (cs:aAp) (c:Nat),Bj ρ LS.flatten cs->(∀L∈LS,L.length=1)->mP LS=some c->
 ∃bs:aAA,cs=bs.map (λb=>Value.int .u8 b.toNat)/\enc bs=c/\bs.length=LS.length
 |[],cs,c,f,_,h=>by have d:some 0=some c:=h;cases d;simp at f;exact⟨[],by trivial,rfl,rfl⟩
 |L::LS,cs,c,f,w,h=>by
  have d:BB (nth L 0) (λv=>BB (byteOf v) λm=>BB (mP LS) λc=>some (Nat.add m (Nat.mul 256 c)))=some c:=h;rw[BQ]at d;have⟨v,x,d⟩:=d;rw[BQ]at d;have⟨m,y,d⟩:=d;rw[BQ]at d;have⟨A,i,d⟩:=d;cases d;have F:=w L (u_);obtain⟨k,rfl⟩:∃k,L=[k]:=by cases L<;>simp_all
  have B:k=v:=e_ x;subst B;rw[_L,A_,HB]at f;obtain⟨u,C,rfl,D,f⟩:=f;obtain⟨p,rfl⟩:=ADy D y;obtain⟨bs,rfl,q,g⟩:=zM LS C A f (λM E=>w M (c_ _ E)) i;refine⟨UInt8.ofNat m::bs,?_,?_,by simp[*]⟩<;>simp_all[g,rl,UInt8.toNat_ofNat',Nat.reducePow,_I p,enc,q]
abbrev tM:∀(bs:aAA) (s:ByteArray),((bs.map λb=>(b.toNat:Int)).foldl (λr n=>r.push (UInt8.ofNat n.toNat)) s).data.toList=s.data.toList++bs
 |[],s=>o6
 |b::bs,s=>by simp only[rl,List.foldl_cons];rw[tM bs];simp
variable{D:World}{G:AQ}{e:TypeId}
abbrev APZ(hh:Cb D ρ H n w)(M:Sj D G){d f:TypeId}(E:P.underlying d=some (.slice e))(F:P.underlying e=some (.int .u8))(I:P.underlying f=some .string) (N:AW ρ x u) (A:isStr x=false) (h:BB (elems x G H 1) (λl=>BB (mP l) λc=>f3 (len l) c 0 λn c _=>.str n c)=some r):∃val,(convert d f u).run P w=.ok val w/\AW ρ r val:=by
 rw[BQ]at h;have⟨p,g,h⟩:=h;rw[BQ]at h;have⟨c,O,h⟩:=h;rw[yu]at h;cases h;have⟨Q,R,J,i,K,k⟩:=xo hh M N g;obtain⟨y,rfl,rfl,q⟩:=zM p Q c R i O;rcases k with⟨rfl,rfl⟩|⟨a,L,rfl,m⟩|⟨s,rfl,_⟩
 .have B:y=[]:=_n.1 q;subst B;refine⟨.string .empty,?_,⟨.empty,rfl,rfl,rfl⟩⟩<;>simp[*,run_convert_bytes_string w d f e none 0 0 E F I,Conv.bytesToString]
 .have C:=run_loadCells_list (P:=P) w a (y.map λb=>Value.int .u8 b.toNat) m;have S:(y.map λb=>Value.int .u8 b.toNat).length=p.length:=a6;rw[S]at C;have v:(loadCells a p.length).run P w=.ok ((y.map λb=>(b.toNat:Int)).map (Value.int .u8)).toArray w:=by simp[*]
  refine⟨_,(run_convert_bytes_string w d f e (some a) p.length L E F I).trans (run_bytesToString w a p.length L _ v),⟨_,rfl,?_,?_⟩⟩;all_goals simp[tM,q,len_eq]
 .cases x<;>first|(simp[isStr,V.el]at A;done)|(simp only[elems,V.el]at g;cases g;done)|simp_all[AW]|skip
  all_goals simp_all[AW]
abbrev vk(b:UInt8):∀(l:aAA) (i:Nat),y8 b.toNat l.length (enc l) i=if indexByte l b= -1 then-1 else indexByte l b+i
 |[],i=>rfl
 |a::l,i=>by
  have q:a.toNat<256:=a.toNat_lt;have g:enc (a::l)%256=a.toNat:=by simp[enc]
  have k:enc (a::l)/256=enc l:=by simp[enc];omega
  have e:y8 b.toNat (a::l).length (enc (a::l)) i=Bool.rec (y8 b.toNat l.length (enc (a::l)/256) (i+1)) (.ofNat i) (Nat.beq (enc (a::l)%256) b.toNat):=rfl;rw[e,g,k,vk b l (i+1)];have d:∀l:aAA,indexByte l b= -1∨0<=indexByte l b:=by
   intro l;induction l with
   |nil=>left;rfl
   |cons c l u=>
    simp[indexByte];omega
  by_cases f:a=b
  .subst f;simp[indexByte]
  .have:Nat.beq a.toNat b.toNat=false:=by rw[_q];intro m;exact f (G'.1 (r_ m))
   rw[this];simp only[indexByte,_T,f,J_];rcases d l with p|p<;>omega
abbrev AKP(p:AW ρ x u)(q:AW ρ y f)
 (h:x.Pj (λn v=>y.FI λk b _=>Az (Nat.beq (lS k) 4) (AQJ b λb=>Az (Nat.blt b 256) (S4 (y8 b n v 0) λi=>some (.int .i64 i 0))))=some r) (w:World):
 ∃val,(Extern.BytealgIndexByte.indexByte #[u,f]).run P w=.ok val w/\AW ρ r val:=by
 rw[FO]at h;obtain⟨l,c,rfl,h⟩:=h;rw[CI]at h;obtain⟨k,m,_,rfl,h⟩:=h;rw[BC,tE]at h;obtain⟨B,m,rfl,h⟩:=h;rw[BC,Sx]at h;have⟨g,h⟩:=h;cases h;rw[xi]at g;obtain⟨s,rfl,rfl,rfl⟩:=G3 p;have d:k=.u8:=by cases k<;>first|rfl|trivial
 subst d;subst q;refine⟨_,run_indexByteString s m w,?_⟩;simp only[AW];have:=vk (UInt8.ofNat m) s.data.toList 0;rw[show(UInt8.ofNat m).toNat=m by simp[_I g]]at this;rw[this];have e:(m:Int).toNat.toUInt8=UInt8.ofNat m:=o6;rw[e];by_cases A:indexByte s.data.toList (UInt8.ofNat m)= -1
 .rw[A];rfl
 .simp
abbrev X9:∀a b:aAA,Lib.compareBytes a b=if Op.bytesLess a b=true then-1 else if Op.bytesLess b a=true then 1 else 0
 |[],[]=>by rfl
 |[],_::_=>by rfl
 |_::_,[]=>by rfl
 |x::a,y::b=>by
  unfold Lib.compareBytes;rw[X9 a b];by_cases d:x<y
  .simp[Op.bytesLess,d]
  .by_cases f:y<x
   .have g:¬x=y:=λe=>by simp_all
    have i:(x==y)=false:=by simpa using g
    simp[Op.bytesLess,f,i]
   .have g:x=y:=by have k:¬x.toNat<y.toNat:=λh=>d (B_.2 h);have m:¬y.toNat<x.toNat:=λh=>f (B_.2 h);exact G'.1 a6
    simp[*,Op.bytesLess]
abbrev ALp{i:Value}(k:AW ρ x u)(p:AW ρ y i)(h:AFm x y=some r)(w:World):
 ∃val,(Extern.BytealgCompare.compare #[u,i]).run P w=.ok val w/\AW ρ r val:=by unfold AFm at h;rw[FO]at h;obtain⟨l,c,rfl,h⟩:=h;rw[FO]at h;obtain⟨m,d,rfl,h⟩:=h;cases h;obtain⟨f,rfl,rfl,rfl⟩:=G3 k;obtain⟨g,rfl,rfl,rfl⟩:=G3 p;refine⟨_,Lib.run_compareString f g w,?_⟩;rw[X9];simp only[ry];cases q:Op.bytesLess f.data.toList g.data.toList<;>cases v:Op.bytesLess g.data.toList f.data.toList<;>rfl
variable{P:Program}
variable{g:Value}
abbrev AQc(d:AW ρ x u)(f:AW ρ y g)(t:TypeId)(o:B2)(h:o.ev x y=some r):∃val,p6 P o t u g val/\AW ρ r val:=by
 cases o
 .exact AQU d f t h
 .exact AOU d f t h
 .exact AO4 d f t h
 .exact APj d f t h
 .exact AOY d f t h
 .exact AQi d f t h
 .exact ACu d f t .or (.inl rfl) h
 .exact ACu d f t .xor (.inr (.inl rfl)) h
 .exact ACu d f t .andNot (.inr (.inr rfl)) h
 .exact APS d f t h
 .exact AQI d f t h
 .exact APR d f t h
 .exact APG d f t h
 .exact AO6 d f t h
 .exact APB d f t h
def ARw:BinOp->Option B2
 |.add=>some .add|.sub=>some .sub|.mul=>some .mul|.quo=>some .quo|.rem=>some .rem|.and=>some .and|.or=>some .or|.xor=>some .xor|.andNot=>some .andNot
 |.shl=>some .shl|.shr=>some .shr|.lss=>some .lss|.leq=>some .leq|.gtr=>some .gtr|.geq=>some .geq|_=>none
abbrev APa{o:BinOp}{b:B2}(h:ARw o=some b):b.op=o:=by cases o<;>simp only[ARw]at h<;>first|(cases h;done)|(cases h;rfl)
def XC(f:Operand->aAu):Option Operand->Option (aAu)
 |none=>some none
 |some o=>(f o).map some
abbrev bA{g:Operand->Value}{f:Operand->aAu}(d:∀o x,f o=some x->AW ρ (x.ev E) (g o)){o:Option Operand}{x:aAu}(h:XC f o=some x):ACb ρ E x (o.map g):=by
 cases o with
 |none=>cases h;trivial
 |some o=>
  simp only[XC,d_]at h;obtain⟨a,i,rfl⟩:=h;exact d _ _ i
def Aq{α β:Type}(o:Option α)(f:α->Option β):Option β:=match o with|some a=>f a|none=>none
abbrev AH{d g:Type}{o:Option d}{f:d->Option g}{b:g}:Aq o f=some b↔∃a,o=some a/\f a=some b:=by cases o<;>simp[Aq]
def ABK(P:Program)(fi:FuncId):Bool:=
 match P.funcs[fi]? with
 |some fn=>fn.name== "internal/bytealg.IndexByteString" &&(fn.origin== "" &&fn.body.isNone)
 |none=>false
def AQq(P:Program)(fi:FuncId):Bool:=
 match P.funcs[fi]? with
 |some fn=>fn.name== "internal/bytealg.abigen_runtime_cmpstring" &&(fn.origin== "" &&fn.body.isNone)
 |none=>false
def qH(P:Program)(f:Operand->aAu)(c:Call):Option AN:=
 match c.callee,c.args.toList,c.argTypes.toList with
 |.builtin .len,[x],[t]=>match P.underlying t with
  |some .string=>Aq (f x) λx=>some (.AAA x)
  |some (.slice _)=>Aq (f x) λx=>some (.AYR x)
  |some (.map _ _)=>Aq (f x) λx=>some (.AWa x)
  |some (.array n _)=>some (.AYK n)
  |_=>none
 |.builtin .max,[x,y],_=>Aq (f x) λx=>Aq (f y) λy=>some (.AYu x y)
 |.builtin .min,[x,y],_=>Aq (f x) λx=>Aq (f y) λy=>some (.AYO x y)
 |.value (.func fi),[x,y],_=>if ABK P fi then Aq (f x) λx=>Aq (f y) λy=>some (.AO0 x y)else if AQq P fi then Aq (f x) λx=>Aq (f y) λy=>some (.AEz x y)else none
 |_,_,_=>none
def AGd:aAE->Bool
 |[]=>false
 |.ptr::_=>true
 |_::l=>AGd l
def ACf(k:EK)(neg:Bool)(x y:X):AN:=match k with|.agg ks=>if AGd ks then .eqp ks neg x y else .eq (.agg ks) neg x y|k=>.eq k neg x y
abbrev AIu(k:EK)(neg:Bool)(x y:X):ACf k neg x y=.eq k neg x y∨∃ks,k=.agg ks/\ACf k neg x y=.eqp ks neg x y:=by
 cases k with
 |agg ks=>
  cases h:AGd ks with
  |true=>exact .inr ⟨ks,rfl,by simp[ACf,h]⟩
  |false=>exact .inl (by simp[ACf,h])
 |_=>exact .inl rfl
def kC(P:Program)(f:Operand->aAu)(op:Op):Option AN:=
 match op with
 |.move x=>Aq (f x) λx=>some (.mv x)
 |.assign x=>Aq (f x) λx=>some (.mv x)
 |.pick c a b=>Aq (f c) λc=>Aq (f a) λa=>Aq (f b) λb=>some (.pick c a b)
 |.load t a=>match Ib P t with
  |some true=>Aq (pI P t) λn=>Aq (f a) λx=>some (.ldn n x)
  |some false=>Aq (f a) λx=>some (.ld1 x)
  |none=>none
 |.nilCheck x=>Aq (f x) λx=>some (.ALM x)
 |.binOp op t x y _=>Aq (f x) λx=>Aq (f y) λy=>match op with
  |.eql=>Aq (gF P t) λk=>some (ACf k false x y)
  |.neq=>Aq (gF P t) λk=>some (ACf k true x y)
  |op=>Aq (ARw op) λo=>some (.bin o x y)
 |.unOp op _ x=>match op with
  |.not=>Aq (f x) λx=>some (.not x)
  |.neg=>Aq (f x) λx=>some (.neg x)
  |_=>none
 |.convert src dst x=>match P.underlying src,P.underlying dst with
  |some (.int _),some (.int k)=>Aq (f x) λx=>some (.cvi k x)
  |some .string,some .string=>Aq (f x) λx=>some (.AWG x none none)
  |some (.slice e),some .string=>match P.underlying e with
   |some (.int .u8)=>Aq (f x) λx=>some (.cvS x)
   |_=>none
  |_,_=>none
 |.makeFunc (.func fn) first caps=>Aq (first.toList.mapM f) λa=>Aq (caps.toList.mapM f) λc=>some (.AZF fn a c)
 |.slice t x lo hi mx=>match P.underlying t with
  |some .string=>if mx.isNone then Aq (f x) λx=>Aq (XC f lo) λlo=>Aq (XC f hi) λhi=>some (.AWG x lo hi)else none
  |some (.slice e)=>if mx.isNone||hi.isSome then Aq (pI P e) λz=>Aq (f x) λx=>Aq (XC f lo) λlo=>Aq (XC f hi) λhi=>Aq (XC f mx) λmx=>some (.slc z x lo hi mx)else none
  |some (.array n e)=>if mx.isNone then Aq (pI P e) λz=>Aq (f x) λx=>Aq (XC f lo) λlo=>Aq (XC f hi) λhi=>some (.AYk n z x lo hi)else none
  |_=>none
 |.fieldAddr s x i=>match P.underlying s with
  |some (.struct fs)=>Aq fs[i]? λfl=>match pI P fl.type with
   |some (_+1)=>Aq (f x) λx=>some (.AV2 fl.offset x)
   |_=>none
  |_=>none
 |.field s x i=>match P.underlying s with
  |some (.struct fs)=>Aq fs[i]? λfl=>match Ib P fl.type with
   |some true=>Aq (pI P fl.type) λn=>Aq (f x) λx=>some (.ASU fl.offset n x)
   |some false=>Aq (f x) λx=>some (.field1 fl.offset x)
   |none=>none
  |_=>none
 |.indexAddr t x i=>match P.underlying t with
  |some (.slice e)=>Aq (pI P e) λz=>Aq (f x) λx=>Aq (f i) λi=>some (.AVi z x i)
  |some (.array n e)=>Aq (pI P e) λz=>Aq (f x) λx=>Aq (f i) λi=>some (.ASV n z x i)
  |_=>none
 |.index t x i=>match P.underlying t with
  |some .string=>Aq (f x) λx=>Aq (f i) λi=>some (.AXz x i)
  |some (.array n e)=>match pI P e,Ib P e with
   |some 1,some false=>Aq (f x) λx=>Aq (f i) λi=>some (.AX3 n x i)
   |_,_=>none
  |_=>none
 |.lookup t m k ok=>match P.underlying t with
  |some (.map kt et)=>Aq (po P kt) λc=>Aq (P.info? et) λi=>Aq i.zero λzv=>Aq (qI zv) λz=>Aq (f m) λm=>Aq (f k) λk=>some (.look c ok z m k)
  |_=>none
 |.extract x i=>Aq (f x) λx=>some (.ext x i)
 |.build t ps=>Aq (ACS P t) λplaces=>Aq (rM P t) λz=>Aq (Vn f places z.length ps.toList) λps=>some (.build z ps)
 |.call c=>qH P f c
 |.makeInterface _ _=>some (.ALM (.c .undef))
 |.panic _=>some (.ALM (.c .undef))
 |_=>none
variable{c:CK}
abbrev jl(h:po P t=some c):∃d,P.underlying t=some d:=by unfold po at h;cases f:P.underlying t<;>simp_all
abbrev AAc{S:World}(hh:Cb S ρ H n w){g:Operand->Value}(J:∀K,g (.func K)=.func (.func K) #[] #[])
 {f:Operand->aAu} (B:∀o x,f o=some x->AW ρ (x.ev E) (g o)) (ty:TypeId) {c:Call} {R:AN} (i:qH P f c=some R) (C:R.ev G E H=some v):
 ∃val,(do let d<-resolve g c ty;invoke d.target d.args:Sem Next).run P w=.ok (.value val) w/\AW ρ v val:=by
 have⟨M,args,m⟩:=c;have⟨args⟩:=args;have⟨m⟩:=m;unfold qH at i;simp only at i;split at i
 .rename_i x t;have key:∀{val},(Builtin.len_ #[t] ty #[g x]).run P w=.ok val w->(do let d<-resolve g ⟨.builtin .len,⟨[x]⟩,⟨[t]⟩⟩ ty;invoke d.target d.args:Sem Next).run P w=.ok (.value val) w:=by intro val h;simp[resolve,invoke,builtin,h]
  split at i
  .rename_i D;rw[AH]at i;have⟨I,A,e⟩:=i;cases e;have⟨val,p,q⟩:=AN6 D (B _ _ A) C ty w;exact⟨val,key p,q⟩
  .rename_i D;rw[AH]at i;have⟨I,A,e⟩:=i;cases e;have⟨val,p,q⟩:=ALn D (B _ _ A) C ty w;exact⟨val,key p,q⟩
  .rename_i D;rw[AH]at i;have⟨I,A,e⟩:=i;cases e;have⟨val,p,q⟩:=AMp hh D (B _ _ A) C ty;exact⟨val,key p,q⟩
  .rename_i D;cases i;cases C;have⟨val,p,q⟩:=AM9 (ρ:=ρ) D (u:=g x) ty w;exact⟨val,key p,q⟩
  .cases i
 .rename_i x y;rw[AH]at i;have⟨I,A,i⟩:=i;rw[AH]at i;have⟨N,F,i⟩:=i;cases i;have⟨val,p,q⟩:=AQY (P:=P) (B _ _ A) (B _ _ F) C ⟨m⟩ ty w;refine⟨val,?_,q⟩;simp[resolve,invoke,builtin,p]
 .rename_i x y;rw[AH]at i;have⟨I,A,i⟩:=i;rw[AH]at i;have⟨N,F,i⟩:=i;cases i;have⟨val,p,q⟩:=AOa (P:=P) (B _ _ A) (B _ _ F) C ⟨m⟩ ty w;refine⟨val,?_,q⟩;simp[resolve,invoke,builtin,p]
 .rename_i K x y;split at i
  .rename_i k;rw[AH]at i;have⟨I,A,i⟩:=i;rw[AH]at i;have⟨N,F,i⟩:=i;cases i;have⟨val,p,q⟩:=AKP (P:=P) (B _ _ A) (B _ _ F) C w;refine⟨val,?_,q⟩;unfold ABK at k;split at k
   .rename_i L O;simp only[ez,_T]at k;have Q:=run_callFunc_extern (P:=P) (f:=K) (fn:=L) (e:=Extern.BytealgIndexByte.indexByte) O (by rw[k.1];decide) k.2.2 (by unfold Extern.findNext;rw[k.1,k.2.1];kernel_rfl) (by unfold Extern.find;rw[k.1,k.2.1];kernel_rfl) #[g x,g y] w;simp[p,resolve,J,Deferred.ofValue,invoke,Q]
   trivial
  .split at i
   .rename_i k;rw[AH]at i;have⟨I,A,i⟩:=i;rw[AH]at i;have⟨N,F,i⟩:=i;cases i;have⟨val,p,q⟩:=ALp (P:=P) (B _ _ A) (B _ _ F) C w;refine⟨val,?_,q⟩;unfold AQq at k;split at k
    .rename_i L O;simp only[ez,_T]at k;have Q:=run_callFunc_extern (P:=P) (f:=K) (fn:=L) (e:=Extern.BytealgCompare.compare) O (by simp_all) k.2.2 (by unfold Extern.findNext;rw[k.1,k.2.1];kernel_rfl) (by unfold Extern.find;rw[k.1,k.2.1];kernel_rfl) #[g x,g y] w;simp[p,resolve,J,Deferred.ofValue,invoke,Q]
    trivial
   trivial
 trivial
variable{w0:World}
abbrev ABB(hh:Cb w0 ρ H n w)(hg:Sj w0 G){g:Operand->Value}(d7:∀fi,g (.func fi)=.func (.func fi) #[] #[])
 {f:Operand->aAu} (q:∀o x,f o=some x->AW ρ (x.ev E) (g o)) {o:Oper} {an:AN} (p:kC P f o.op=some an) (u:an.ev G E H=some v):
 ∃val,(execOp g o).run P w=.ok (.value val) w/\AW ρ v val:=by
 obtain⟨Y,op,ty,d2,M,N⟩:=o;have lift:∀{s:Sem Value} {val:Value},s.run P w=.ok val w->((do pure (Next.value (<-s))):Sem Next).run P w=.ok (.value val) w:=by simp_all
 cases op<;>simp only[kC]at p<;>try (cases p;done)
 case makeInterface t x=>cases p;trivial
 case panic x=>cases p;trivial
 case move x=>
  obtain⟨D,A,e⟩:=AH.1 p;cases e;cases u;simp_all[execOp]
 case assign x=>
  obtain⟨D,A,e⟩:=AH.1 p;cases e;cases u;simp_all[execOp]
 case pick c a b=>
  obtain⟨c',Z,p⟩:=AH.1 p;obtain⟨a',I,p⟩:=AH.1 p;obtain⟨b',R,e⟩:=AH.1 p;cases e;exact ALD (q _ _ Z) (q _ _ I) (q _ _ R) u w
 case load t a=>
  split at p
  .rename_i I;obtain⟨m,hm,p⟩:=AH.1 p;obtain⟨D,A,e⟩:=AH.1 p;cases e;obtain⟨val,B,C⟩:=AIT hh hg (q _ _ A) I hm u;exact⟨val,lift B,C⟩
  .rename_i I;obtain⟨D,A,e⟩:=AH.1 p;cases e;obtain⟨val,B,C⟩:=AJP hh hg (q _ _ A) I u;exact⟨val,lift B,C⟩
  trivial
 case nilCheck x=>
  obtain⟨D,A,e⟩:=AH.1 p;cases e;have hr:=AGQ u;subst hr;refine⟨g x,?_,q _ _ A⟩;rcases AJx (q _ _ A) u with⟨a,I⟩|⟨fn,a,c,I⟩;all_goals simp[execOp,I]
 case binOp op t x y yt=>
  obtain⟨D,A,p⟩:=AH.1 p;obtain⟨y',hy,p⟩:=AH.1 p;have d8:∀(neg:Bool) (k:EK),gF P t=some k->(op=if neg then .neq else .eql)->BM k neg (D.ev E) (y'.ev E)=some v->∃val,(execOp g ⟨Y,.binOp op t x y yt,ty,d2,M,N⟩).run P w=.ok (.value val) w/\AW ρ v val:=by
   intro neg k U S u;unfold BM at u;cases R:k.eq (D.ev E) (y'.ev E)with
   |none=>rw[R]at u;trivial
   |some b=>
    rw[R]at u;have O:=AQC (P:=P) U (q _ _ A) (q _ _ hy) R op (by simp_all) x y w;refine⟨_,lift O,?_⟩;cases neg<;>cases b<;>(simp only[S,_J,J_,_1];cases u;rfl)
  have f3:∀(neg:Bool) (k:EK),gF P t=some k->(op=if neg then .neq else .eql)->(ACf k neg D y').ev G E H=some v->∃val,(execOp g ⟨Y,.binOp op t x y yt,ty,d2,M,N⟩).run P w=.ok (.value val) w/\AW ρ v val:=by
   intro neg k U S u;rcases AIu k neg D y' with e|⟨ks,rfl,e⟩
   .rw[e]at u;exact d8 neg k U S u
   .rw[e]at u;have u:ASH ks neg (D.ev E) (y'.ev E) H=some v:=u;unfold ASH at u;cases R:rC (VW H) ks (D.ev E) (y'.ev E)with
    |none=>rw[R]at u;trivial
    |some b=>
     rw[R]at u;have O:=AOi (P:=P) hh U (q _ _ A) (q _ _ hy) R op (by simp_all) x y;refine⟨_,lift O,?_⟩;cases neg<;>cases b<;>(simp only[S,_J,J_,_1];cases u;rfl)
  split at p
  .obtain⟨k,U,e⟩:=AH.1 p;simp_all
  .obtain⟨k,U,e⟩:=AH.1 p;simp_all
  .obtain⟨o2,d9,e⟩:=AH.1 p;cases e;obtain⟨val,B,C⟩:=AQc (P:=P) (q _ _ A) (q _ _ hy) t o2 u;have:=B x y w;rw[APa d9]at this;exact⟨val,lift this,C⟩
 case unOp op t x=>
  split at p
  .obtain⟨D,A,e⟩:=AH.1 p;cases e;obtain⟨val,B,C⟩:=AQl (P:=P) (q _ _ A) u w;exact⟨val,lift B,C⟩
  .obtain⟨D,A,e⟩:=AH.1 p;cases e;obtain⟨val,B,C⟩:=AQk (P:=P) (q _ _ A) u w;exact⟨val,lift B,C⟩
  trivial
 case convert src Y x=>
  split at p
  .rename_i W hd;obtain⟨D,A,e⟩:=AH.1 p;cases e;obtain⟨val,B,C⟩:=APF (P:=P) (by rw[W];rfl) hd (q _ _ A) u w;exact⟨val,lift B,C⟩
  .rename_i W hd;obtain⟨D,A,e⟩:=AH.1 p;cases e;obtain⟨val,B,C⟩:=AFU (P:=P) (E:=E) W (q _ _ A) (lo:=none) (hi:=none) (qo:=none) (vhi:=none) trivial trivial u w;obtain⟨l,c,f0,_⟩:=FO.1 u;have F:=q _ _ A;rw[f0]at F;obtain⟨s,d3,_,_⟩:=G3 F;have f4:val=.string s:=by simp_all[d3,Instr.sliceAt,Instr.slice,dj W,Instr.sliceBounds,B]
   refine⟨.string s,lift ?_,by simp_all⟩;simp[d3,convert,dj W,dj hd]
  .rename_i e W hd;split at p
   .rename_i he;obtain⟨D,A,e⟩:=AH.1 p;cases e;obtain⟨f5,u⟩:=BC.1 u;obtain⟨val,B,C⟩:=APZ (P:=P) hh hg W he hd (q _ _ A) (by simp_all) u;exact⟨val,lift B,C⟩
   trivial
  trivial
 case makeFunc fn first caps=>
  cases fn<;>simp only at p<;>try (cases p;done)
  rename_i fi;obtain⟨a,I,p⟩:=AH.1 p;obtain⟨c,Z,e⟩:=AH.1 p;cases e;cases u;refine⟨.func (.func fi) (first.map g) (caps.map g),by rfl,⟨_,_,rfl,?_,?_⟩⟩
  .rw[N'];exact ZS q _ _ I
  .rw[N'];exact ZS q _ _ Z
 case slice t x lo L mx=>
  split at p
  .rename_i F;split at p
   .rename_i hm;have d0:mx=none:=by simp_all
    subst d0;obtain⟨D,A,p⟩:=AH.1 p;obtain⟨d4,Q,p⟩:=AH.1 p;obtain⟨d5,J,e⟩:=AH.1 p;cases e;obtain⟨val,B,C⟩:=AFU (P:=P) F (q _ _ A) (bA q Q) (bA q J) u w;exact⟨val,lift B,C⟩
   trivial
  .rename_i e F;split at p
   .rename_i Z;obtain⟨z,K,p⟩:=AH.1 p;obtain⟨D,A,p⟩:=AH.1 p;obtain⟨d4,Q,p⟩:=AH.1 p;obtain⟨d5,J,p⟩:=AH.1 p;obtain⟨f6,d1,e⟩:=AH.1 p;cases e;obtain⟨val,B,C⟩:=AOq (P:=P) F K (q _ _ A) (bA q Q) (bA q J) (bA q d1) (by
     intro W;cases mx with
     |none=>simp only[XC]at d1;cases d1;trivial
     |some m=>
      cases L with
      |none=>trivial
      |some i=>
       simp only[XC,d_]at J;obtain⟨_,_,rfl⟩:=J;rfl) u w
    exact⟨val,lift B,C⟩
   trivial
  .rename_i k e F;split at p
   .rename_i hm;have d0:mx=none:=by simp_all
    subst d0;obtain⟨z,K,p⟩:=AH.1 p;obtain⟨D,A,p⟩:=AH.1 p;obtain⟨d4,Q,p⟩:=AH.1 p;obtain⟨d5,J,e⟩:=AH.1 p;cases e;obtain⟨val,B,C⟩:=AN0 (P:=P) F K (q _ _ A) (bA q Q) (bA q J) u w;exact⟨val,lift B,C⟩
   trivial
  trivial
 case fieldAddr s x i=>
  split at p
  .rename_i fs F;obtain⟨fl,T,p⟩:=AH.1 p;split at p
   .rename_i m K;obtain⟨D,A,e⟩:=AH.1 p;cases e;obtain⟨val,B,C⟩:=AKD (P:=P) F T K (q _ _ A) u w;exact⟨val,lift B,C⟩
   trivial
  trivial
 case field s x i=>
  split at p
  .rename_i fs F;obtain⟨fl,T,p⟩:=AH.1 p;split at p
   .rename_i I;obtain⟨m,hm,p⟩:=AH.1 p;obtain⟨D,A,e⟩:=AH.1 p;cases e;obtain⟨val,B,C⟩:=AHU (P:=P) F T I hm (q _ _ A) u w;exact⟨val,lift B,C⟩
   .rename_i I;obtain⟨D,A,e⟩:=AH.1 p;cases e;obtain⟨val,B,C⟩:=AHE (P:=P) F T I (q _ _ A) u w;exact⟨val,lift B,C⟩
   trivial
  trivial
 case indexAddr t x i=>
  split at p
  .rename_i e F;obtain⟨z,K,p⟩:=AH.1 p;obtain⟨D,A,p⟩:=AH.1 p;obtain⟨i',L,e⟩:=AH.1 p;cases e;obtain⟨val,B,C⟩:=AJt (P:=P) F K (q _ _ A) (q _ _ L) u w;exact⟨val,lift B,C⟩
  .rename_i m e F;obtain⟨z,K,p⟩:=AH.1 p;obtain⟨D,A,p⟩:=AH.1 p;obtain⟨i',L,e⟩:=AH.1 p;cases e;obtain⟨val,B,C⟩:=AHc (P:=P) F K (q _ _ A) (q _ _ L) u w;exact⟨val,lift B,C⟩
  trivial
 case index t x i=>
  split at p
  .rename_i F;obtain⟨D,A,p⟩:=AH.1 p;obtain⟨i',L,e⟩:=AH.1 p;cases e;obtain⟨val,B,C⟩:=AN5 (P:=P) F (q _ _ A) (q _ _ L) u w;exact⟨val,lift B,C⟩
  .rename_i m e F;split at p
   .rename_i K I;obtain⟨D,A,p⟩:=AH.1 p;obtain⟨i',L,e⟩:=AH.1 p;cases e;obtain⟨val,B,C⟩:=AK3 (P:=P) F K I (q _ _ A) (q _ _ L) u w;exact⟨val,lift B,C⟩
   trivial
  trivial
 case lookup t m k ok=>
  split at p
  .rename_i kt et F;obtain⟨c,Z,p⟩:=AH.1 p;obtain⟨i,L,p⟩:=AH.1 p;obtain⟨zv,f1,p⟩:=AH.1 p;obtain⟨z,K,p⟩:=AH.1 p;obtain⟨m',hm,p⟩:=AH.1 p;obtain⟨k',U,e⟩:=AH.1 p;cases e;obtain⟨d,hd⟩:=jl Z;obtain⟨val,B,C⟩:=AMK (P:=P) hh F hd Z L f1 (AQT K) (q _ _ hm) (q _ _ U) u;exact⟨val,lift B,C⟩
  trivial
 case extract x i=>
  obtain⟨D,A,e⟩:=AH.1 p;cases e;obtain⟨val,B,C⟩:=AQj (P:=P) (q _ _ A) u w;exact⟨val,lift B,C⟩
 case build t ps=>
  obtain⟨d6,hp,p⟩:=AH.1 p;obtain⟨z,K,p⟩:=AH.1 p;obtain⟨f7,f2,e⟩:=AH.1 p;cases e;obtain⟨val,B,C⟩:=AJr (P:=P) q hp K f2 u w;exact⟨val,lift B,C⟩
 case call c=>
  exact AAc hh d7 q ty p u
end Go.BN
namespace Go.BN
variable{P:Program}
structure V0(ρ:Loc)(c:T LV)(cnt esz:Nat)(cells:Array Value):Prop where
 size:cells.size=cnt*esz
 one:∀u∈cells.toList,u.oneCell'=true
 elem:∀e,e<cnt->∃L,T.get c e=some L/\Bj ρ L (sub cells (e*esz) esz)
abbrev mH(n:Nat):ij (0,0) n:=λi _ h=>a6
variable{ρ:Loc}{d:Nat}
abbrev V0.APY{c:T LV}{esz:Nat}{cells:aAr}(h:V0 ρ c d esz cells)(t:TypeId):ADe ρ cells.size (.arr esz d c) (.cells cells t):=
 ⟨cells,t,(0,0),rfl,rfl,mH _,.inr rfl,by simp[h.size],h.one,h.elem⟩
abbrev AZr(L:LV):∀(n:Nat) (t:T LV) (e:Nat),T.get (qe L n t) e=if e<n then some L else T.get t e
 |0,t,e=>by rfl
 |n+1,t,e=>by
  have h:qe L (n+1) t=qe L n (T.set t n L):=rfl;rw[h,AZr L n];by_cases d:e<n
  .simp_all;omega
  .rw[g_ d,T.Mt];by_cases f:n=e
   .simp[*]
   simp_all;omega
abbrev DD:∀(LS:Bh) (i:Nat) (t:T LV) (e:Nat),T.get (Dk LS i t) e=if i<=e/\e<i+LS.length then LS[e-i]? else T.get t e
 |[],i,t,e=>by have h:Dk [] i t=t:=rfl;simp_all;omega
 |L::LS,i,t,e=>by
  have h:Dk (L::LS) i t=Dk LS (i+1) (T.set t i L):=rfl;rw[h,DD LS];by_cases d:i+1<=e/\e<i+1+LS.length
  .rw[hD d,hD (by simp;omega)];have:e-i=(e-(i+1))+1:=a6;simp[*]
  .rw[g_ d,T.Mt];by_cases f:i=e
   .simp[*]
   simp_all;omega
abbrev AJz(e n j:Nat)(h:j<n):(e*n+j)%n=j:=by simp[_I h]
variable{z:LV}
abbrev V0.zero{d:aAr}(G:Bj ρ z d.toList)(B:∀u∈d.toList,u.oneCell'=true)(f:Nat):V0 ρ (qe z f .e) f d.size (madeCells d (f*d.size)):=by
 have m:∀(i:Nat) (v:Value),(madeCells d (f*d.size))[i]? =some v->0<d.size/\d.toList[i%d.size]? =some v:=by
  intro i v h;unfold madeCells at h;rw[Array.getElem?_map]at h;cases x:(Array.range (f*d.size))[i]? with
  |none=>simp_all
  |some k=>
   rw[x]at h;have C:i<f*d.size/\k=i:=by have:=(_t.1 x);simp_all;omega
   obtain⟨w,rfl⟩:=C;have p:0<d.size:=by rcases _F d.size with e|e;all_goals simp_all
   have D:k%d.size<d.size:=W0 _ p;simp_all
 refine⟨by rw[size_madeCells],?_,?_⟩
 .intro u E;have⟨i,w⟩:=_m.1 E;rw[Array.getElem?_toList]at w;have⟨_,h⟩:=m i u w;exact B u (D' h)
 .intro e y;refine⟨z,by rw[AZr,hD y],?_⟩;have g:e*d.size+d.size<=(madeCells d (f*d.size)).size:=by rw[size_madeCells];have:(e+1)*d.size<=f*d.size:=z8 _ y;simp_all[pp,_g]
  have:sub (madeCells d (f*d.size)) (e*d.size) d.size=d.toList:=by
   apply _D;intro j;by_cases F:j<d.size
   .have q:j<(sub (madeCells d (f*d.size)) (e*d.size) d.size).length:=by simp[*,O5 g]
    have A:=eb q;have⟨_,h⟩:=wz A;have⟨_,h⟩:=m _ _ h;simp_all[AJz _ _ _ F,A,h]
   .rw[z_ (by simp_all[O5 g]),z_ (by simp_all)]
  simp[*]
variable{i:Nat}{L:LV}
abbrev V0.put{c:T LV}{esz:Nat}{cells:aAr}(h:V0 ρ c d esz cells)(hi:i<d){new:aAp}(A:Bj ρ L new)(B:new.length=esz)(C:∀u∈new,u.oneCell'=true):
 V0 ρ (T.set c i L) d esz (JM cells.toList (i*esz) new).toArray:=by
 have w:∀e,e<d->e*esz+esz<=cells.size:=by intro e p;have:(e+1)*esz<=d*esz:=z8 _ p;simp_all[pp,h.size]
 have g:i*esz+new.length<=cells.size:=by simp[*]
 have k:(JM cells.toList (i*esz) new).toArray.size=cells.size:=by have:=Tz cells.toList (i*esz) new a6;omega
 refine⟨k.trans h.size,?_,?_⟩
 .intro u f;simp only[JM,q_]at f;rcases f with(f|f)|f
  .exact h.one u (_k f)
  .simp[*]
  .exact h.one u (_y f)
 .intro e p;by_cases m:i=e
  .have:=Y2 g;simp_all
  .obtain⟨M,x,y⟩:=h.elem e p;refine⟨M,by rw[T.Ac c L m,x],?_⟩;rw[S5 g]
   .omega
   .rcases Nat.lt_or_gt_of_ne m with q|v
    .have:(i+1)*esz<=e*esz:=z8 _ q;simp_all[pp]
    .have:(e+1)*esz<=i*esz:=z8 _ v;simp_all[pp]
abbrev VQ{esz:Nat}:∀(LS:Bh) (cs:aAp),Bj ρ LS.flatten cs->(∀L∈LS,L.length=esz)->∀(e:Nat) (L:LV),LS[e]? =some L->Bj ρ L ((cs.drop (e*esz)).take esz)
 |[],_,_,_,e,L,h=>by trivial
 |M::LS,cs,d,f,e,L,h=>by
  rw[_L]at d;have g:=f M u_;cases e with
  |zero=>
   have:=d.take M.length;simp_all
  |succ e=>
   have:=d.drop M.length;rw[List.drop_left,g]at this;have:=VQ LS _ this (λK i=>f K (c_ _ i)) e L (by trivial);rw[C']at this;rwa [show(e+1)*esz=esz+e*esz by rw[pp];omega]
variable{LS:Bh}
abbrev V0.ofList{esz:Nat}{cells:aAr}(d:Bj ρ LS.flatten cells.toList)(f:∀L∈LS,L.length=esz)(g:∀u∈cells.toList,u.oneCell'=true):V0 ρ (Dk LS 0 .e) LS.length esz cells:=by
 refine⟨?_,g,?_⟩
 .have:=d.length;rw[<-_N,<-this];have i:(LS.map List.length)=LS.map (λ_=>esz):=List.map_congr_left λL k=>f L k;simp[i,List.map_const']
 .intro e m;refine⟨LS[e],?_,?_⟩
  .simp[DD,hD a6]
  .exact VQ LS _ d f e _ (eb m)
def Al(o:AA)(E:RS)(b:LF)(f:Nat->V):Prop:=o.al E λb' f'=>b'=b/\f'=f
variable{v:V}
abbrev oj{f:Nat->Prop}:ACd v f↔∃k,∃m:Nat,v=.int k m 0/\f m:=by
 unfold ACd;rw[G1];constructor
 .rintro⟨x,h,d⟩;obtain⟨k,m,rfl,h⟩:=Mf.1 h;cases h;exact⟨k,m,rfl,d⟩
 .rintro⟨k,m,rfl,d⟩;exact⟨.ptr m 0,Mf.2 ⟨k,m,rfl,rfl⟩,d⟩
variable{E:RS}
abbrev AFu{o:AA}{k:KA}(h:o.al E k):∃b f,Al o E b f/\k b f:=by
 cases o with
 |alloc d m=>
  have g:Af d m E k:=h;have e:∀k,AA.al (.alloc d m) E k=Af d m E k:=λ_=>rfl;simp only[Af,A8]at g;refine⟨_,_,?_,g⟩;simp[Al,e,Af]
 |box x=>
  have g:AAL x E k:=h;have e:∀k,AA.al (.box x) E k=AAL x E k:=λ_=>rfl;simp only[AAL,A8,Du]at g;refine⟨_,_,?_,g.2⟩;simp[Al,e,AAL,g.1]
 |ACw d i z p=>
  have g:AY d i z p E k:=h;have e:∀k,AA.al (.ACw d i z p) E k=AY d i z p E k:=λ_=>rfl;simp only[AY,Du]at g;refine⟨_,_,?_,g.2⟩;simp[Al,e,AY,g.1]
 |xF d q z l c=>
  have g:JQ d q z l c E k:=h;have e:∀k,AA.al (.xF d q z l c) E k=JQ d q z l c E k:=λ_=>rfl;simp only[JQ,oj,Du]at g;have⟨u,v,w,y,A,B,C,D⟩:=g;refine⟨_,_,?_,D⟩;unfold Al;rw[e];simp only[JQ,oj,Du];exact⟨u,v,w,y,A,B,C,rfl,rfl⟩
 |AMA=>
  have g:k (.map [] 0) (λid=>.map id):=h;exact⟨_,_,⟨rfl,rfl⟩,g⟩
 |aq t e=>
  have g:k (.aq t e 0 0 0) (λid=>.ptr id 0):=h;exact⟨_,_,⟨rfl,rfl⟩,g⟩
def Yt(esz:Nat):Nat->LV->Bh
 |0,_=>[]
 |n+1,z=>z.take esz::Yt esz n (z.drop esz)
abbrev AXo(esz:Nat):∀(n:Nat) (z:LV),z.length=n*esz->(Yt esz n z).flatten=z/\(Yt esz n z).length=n/\∀L∈Yt esz n z,L.length=esz
 |0,z,h=>by simp_all[Yt]
 |n+1,z,h=>by rw[pp,_g]at h;have⟨d,f,g⟩:=AXo esz n (z.drop esz) (by simp[*]);simp_all[Yt]
def gX(f:Operand->aAu)(cnt:Nat):List (Nat×Operand)->Option (List (Nat×X))
 |[]=>some []
 |(i,o)::r=>Aq (f o) λx=>Aq (gX f cnt r) λr'=>some ((i,x)::r')
def AYn(P:Program)(t:TypeId):Option TypeId:=
 match P.underlying t with
 |some (.struct fs)=>(match fs[0]?,fs[1]? with
  |some a,some b=>(match P.underlying b.type with
   |some (.slice e)=>bif a.name== "addr" &&b.name== "buf" then some e else none
   |_=>none)
  |_,_=>none)
 |_=>none
def yx:LV->Bool
 |[.zU,.AT]=>true
 |_=>false
abbrev AFq(h:yx z=true):z=[.zU,.AT]:=by
 unfold yx at h;split at h
 .rfl
 trivial
def j3(P:Program)(f:Operand->aAu)(op:Op):Option AA:=
 match op with
 |.alloc t=>Aq (rM P t) λz=>match AYn P t with
  |some e=>bif yx z then some (.aq t e)else none
  |none=>match P.underlying t with
   |some (.array n e)=>Aq (pI P e) λesz=>if z.length=n*esz then some (.alloc esz (Yt esz n z))else none
   |some _=>some (.alloc z.length [z])
   |none=>none
 |.box _ x=>Aq (f x) λx=>some (.box x)
 |.buildSlice t cnt ps=>match P.underlying t with
  |some (.slice e)=>Aq (pI P e) λesz=>Aq (rM P e) λz=>Aq (gX f cnt ps.toList) λps=>if z.length=esz/\0<esz/\cnt*esz<=16777216 then some (.ACw esz cnt z ps)else none
  |_=>none
 |.makeSlice t l c=>match P.underlying t with
  |some (.slice e)=>Aq (P.info? e) λi=>Aq (rM P e) λz=>Aq (f l) λl=>Aq (f c) λc=>if z.length=i.size/\0<i.bytes then some (.xF i.size i.bytes z l c)else none
  |_=>none
 |.makeMap _ r=>match r with
  |none=>some .AMA
  |some _=>none
 |_=>none
variable{t:TypeId}
abbrev ax(h:rM P t=some z):∃i d,P.info? t=some i/\i.zero=some d/\(∀ρ,Bj ρ z d.cells.toList)/\∀u∈d.cells.toList,u.oneCell'=true:=by unfold rM at h;simp only[ee]at h;have⟨i,k,d,g,f⟩:=h;exact⟨i,d,k,g,fun ρ=>(fw f).1,(fw (ρ:=λ_=>none) f).2.2⟩
abbrev bH(i:Nat)(x:X)(ps:List (Nat×X))(E:RS)(esz d:Nat):VC ((i,x)::ps) E esz d=band (band (Rb (x.ev E)) (band (Nat.blt i d) (Nat.beq (len (At (x.ev E))) esz))) (VC ps E esz d):=rfl
abbrev ABH{g:Operand->Value}{f:Operand->aAu}(L:∀o x,f o=some x->AW ρ (x.ev E) (g o)){k esz:Nat}:
 ∀(ps:List (Nat×Operand)) (m:List (Nat×X)) (c:T LV) (cells:aAr),gX f k ps=some m->VC m E esz k=true->V0 ρ c k esz cells->
  ∃d,Instr.fill (λi=>some (i*esz,esz)) cells (ps.map λp=>(p.1,g p.2))=some d/\V0 ρ (bR m E c) k esz d
 |[],m,c,cells,h,_,F=>by simp only[gX]at h;cases h;exact⟨cells,rfl,F⟩
 |(i,o)::r,m,c,cells,h,G,F=>by
  simp only[gX,AH]at h;have⟨x,N,O,H,e⟩:=h;cases e;rw[bH]at G;simp only[A6,ez,beq_iff,len_eq,xi]at G;have⟨⟨I,M,y⟩,q⟩:=G;have⟨A,B⟩:=jr (L o x N) I;have J:(g o).cells.toList.length=esz:=by rw[<-A.length,y]
  have P:(g o).cells.size=esz:=a6;have K:i*esz+esz<=cells.size:=by have:(i+1)*esz<=k*esz:=z8 _ M;simp_all[pp,_g,F.size]
  have Q:=sQ (g o).cells.toList cells (i*esz) 0 a6;simp only[_Y]at Q;have C:=F.put M A J B;have⟨d,u,D⟩:=ABH L r O _ _ H q C;refine⟨d,?_,D⟩;have v:(decide ((g o).cells.size≠esz)||decide (i*esz+(g o).cells.size>cells.size))=false:=by simp[*]
  have w:(g o).cells.zipIdx.foldl (λR x=>match x with|(c,j)=>R.setIfInBounds (i*esz+j) c) cells=(JM cells.toList (i*esz) (g o).cells.toList).toArray:=by rw[<-Array.foldl_toList,Array.toList_zipIdx];apply F'.1;omega
  simp only[rl,Instr.fill];rw[g_ (by rw[v];simp)];rw[w];exact u
abbrev AEq{cells:aAr}(f:Bj ρ L cells.toList)(g:∀u∈cells.toList,u.oneCell'=true)(t:TypeId):ADe ρ cells.size (.arr L.length 1 (T.set .e 0 L)) (.cells cells t):=by
 have d:=f.length;have:V0 ρ (T.set .e 0 L) 1 L.length cells:=by
  refine⟨by simp[*],g,?_⟩;have:sub cells (0*L.length) L.length=cells.toList:=by simp only[K',d];exact aAc
  simp_all
 exact this.APY t
variable{w:World}
abbrev AAj{g:Operand->Value}{f:Operand->aAu}(hO:∀o x,f o=some x->AW ρ (x.ev E) (g o)){o:Oper}{an:AA}(d:j3 P f o.op=some an){b:LF}{fn:Nat->V}(S:Al an E b fn):
 ∃val obj size,(execOp g o).run P w=.ok (.value val) (w.alloc obj)/\ADe ρ size b obj/\∀(u:Loc) (id:Nat),u id=some ⟨w.heap.size,0,size⟩->AW u (fn id) val:=by
 have⟨f1,op,ty,f2,T,U⟩:=o;cases op<;>simp only[j3]at d<;>try (cases d;done)
 case alloc t=>
  have⟨z,hz,d⟩:=AH.1 d;have⟨i,F,R,H,A,G⟩:=ax hz;have y:(execOp g ⟨f1,.alloc t,ty,f2,T,U⟩).run P w=.ok (.value (.pointer (some ⟨w.heap.size,0,none⟩))) (w.alloc (.cells F.cells t)):=by simp[execOp,Instr.alloc,zeroValue,typeInfo,R,H,newVar,newRow]
  have I:∀(u:Loc) (id:Nat) (size:Nat),u id=some ⟨w.heap.size,0,size⟩->AW u (.ptr id 0) (.pointer (some ⟨w.heap.size,0,none⟩)):=fun u id size h=>⟨_,h,rfl⟩;split at d
  .rename_i e _;cases W:yx z with
   |false=>rw[W]at d;cases d
   |true=>
    rw[W]at d;cases d;have f3:=AFq W;subst f3;have k:LF.aq t e 0 0 0=b/\(λid=>V.ptr id 0)=fn:=S;obtain⟨rfl,rfl⟩:=k;have hc:F.cells= #[.pointer none,.slice none 0 0]:=by
     have⟨v1,r1,h1,e1,h2⟩:=HB.1 (A ρ);have⟨v2,r2,h3,e2,h4⟩:=HB.1 h2;have e1:v1=.pointer none:=e1;have e2:v2=.slice none 0 0:=e2;have h4:r2=[]:=by simpa using h4
     subst e1 e2 h4;apply F'.1;rw[h1,h3]
    refine⟨_,_,F.cells.size,y,?_,fun u id h=>I u id _ h⟩;rw[hc];exact⟨rfl,rfl,rfl⟩
  split at d
  .rename_i n e hu;have⟨v,L,d⟩:=AH.1 d;split at d
   .rename_i d4;cases d;have⟨h1,h2,h3⟩:=AXo v n z d4;have k:Af v (Yt v n z) E (λM N=>M=b/\N=fn):=S;simp only[Af,A8,len_eq]at k;obtain⟨rfl,rfl⟩:=k;refine⟨_,_,F.cells.size,y,?_,fun u id h=>I u id _ h⟩;exact(V0.ofList (by rw[h1];exact A ρ) h3 G).APY t
   .cases d
  .cases d;have k:Af z.length [z] E (λM N=>M=b/\N=fn):=S;simp only[Af,A8,len_eq]at k;obtain⟨rfl,rfl⟩:=k;refine⟨_,_,F.cells.size,y,?_,fun u id h=>I u id _ h⟩;exact AEq (A ρ) G t
  .cases d
 case box t x=>
  have⟨x',hx,e⟩:=AH.1 d;cases e;have k:AAL x' E (λM N=>M=b/\N=fn):=S;simp only[AAL,A8,Du,len_eq]at k;obtain⟨Y,rfl,rfl⟩:=k;have⟨f4,d5⟩:=jr (hO _ _ hx) Y;refine⟨.pointer (some ⟨w.heap.size,0,none⟩),.cells (g x).cells t,(g x).cells.size,by simp[execOp,Instr.box,newVar,newRow],AEq f4 d5 t,fun u id h=>⟨_,h,rfl⟩⟩
 case buildSlice t cnt ps=>
  split at d
  .rename_i e hu;have⟨v,L,d⟩:=AH.1 d;have⟨z,hz,d⟩:=AH.1 d;have⟨d6,f5,d⟩:=AH.1 d;split at d
   .rename_i C;have⟨Z,g3,f0⟩:=C;cases d;have⟨i,F,R,H,A,G⟩:=ax hz;have O:i.size=v:=by unfold pI at L;rw[R]at L;simpa using L
    have k:AY v cnt z d6 E (λM N=>M=b/\N=fn):=S;simp only[AY,Du]at k;obtain⟨Y,rfl,rfl⟩:=k;have d0:F.cells.size=v:=by rw[<-_N,<-(A ρ).length,Z]
    have J:=V0.zero (A ρ) G cnt;rw[d0]at J;have⟨B,D,d7⟩:=ABH hO ps.toList d6 _ _ f5 Y J;refine⟨.slice (some ⟨w.heap.size,0,none⟩) cnt cnt,.cells B e,B.size,?_,d7.APY e,fun u id h=>⟨_,_,h,rfl,.inr o6,ea _⟩⟩;have hl:(ps.map λ(i,x)=>(i,g x)).toList=ps.toList.map λp=>(p.1,g p.2):=o6;by_cases K:cnt*v=0
    .have hc:cnt=0:=by
      rcases Nat.mul_eq_zero.1 K with h|h
      .exact h
      .omega
     have g4:(Array.range (cnt*v)).map (λx=>(#[]:aAr)[x%(#[]:aAr).size]!)=madeCells F.cells (cnt*v):=by rw[K];simp[madeCells]
     have d1:madeCells F.cells (cnt*v)= #[]:=by rw[K];simp[madeCells]
     rw[d1]at D;have f6:Array.map (λ_:Nat=>(default:Value)) (Array.range 0)= #[]:=o6;simp[execOp,Instr.buildSlice,dj hu,sizeOf,typeInfo,R,O,K,newRow];rw[f6,D];simp
    .have:=run_buildSlice (P:=P) w t e cnt (ps.map λ(i,x)=>(i,g x)) B i F hu R H (by rw[O];omega) (by rw[O];exact K) (by rw[hl,O];exact D);simp[execOp,this]
   .cases d
  .cases d
 case makeSlice t l c=>
  split at d
  .rename_i e hu;have⟨i,R,d⟩:=AH.1 d;have⟨z,hz,d⟩:=AH.1 d;have⟨l',hl,d⟩:=AH.1 d;have⟨c',hc,d⟩:=AH.1 d;split at d
   .rename_i C;have⟨Z,f7⟩:=C;cases d;have⟨Q,F,f8,H,A,G⟩:=ax hz;have:Q=i:=e_ (f8.symm.trans R);subst this;have k:JQ Q.size Q.bytes z l' c' E (λM N=>M=b/\N=fn):=S;simp only[JQ,oj,Du,A6,ez]at k;obtain⟨kl,m,f9,kc,q,g0,⟨g1,g2⟩,rfl,rfl⟩:=k;have d8:m<=q:=h_ g1;have g5:Q.bytes*q<=281474976710656:=h_ g2;have d2:=hO _ _ hl;have d3:=hO _ _ hc;rw[f9]at d2;rw[g0]at d3;simp only[AW]at d2 d3;have hq:q<=Q.bytes*q:=Nat.le_mul_of_pos_left _ f7;have d9:(Q.bytes:Int)*(q:Int)<=281474976710656:=by have h:((Q.bytes*q:Nat):Int)<=281474976710656:=a6;rwa [Int.natCast_mul]at h
    have y:=run_make (P:=P) w t e Q F hu R H kl kc m q a6 a6 d9 a6;have d0:F.cells.size=Q.size:=by rw[<-_N,<-(A ρ).length,Z]
    have J:=V0.zero (A ρ) G q;rw[d0]at J;refine⟨_,_,_,?_,J.APY e,fun u id h=>⟨_,⟨w.heap.size,0,none⟩,h,rfl,.inr o6,d8⟩⟩;simp only[Int.toNat_natCast]at y;simp[execOp,d2,d3,y]
   .cases d
  .cases d
 case makeMap t r=>
  split at d
  .cases d;have k:b=.map [] 0/\fn=λid=>.map id:=by have:(LF.map [] 0=b/\(λid=>V.map id)=fn):=S;exact⟨this.1.symm,this.2.symm⟩
   obtain⟨rfl,rfl⟩:=k;refine⟨.map (some w.heap.size),.map #[] 0,0,?_,⟨#[],rfl,by simp[Ho]⟩,fun u id h=>⟨_,h,rfl⟩⟩;simp[execOp,Instr.makeMap]
  .cases d
variable{P:Program}
variable{cs:List Value}
abbrev lz.puts{x:Info}{esz:Nat}{c:T LV}{vs:aAr}{fz:Nat×Nat}(h:lz ρ w x esz d c vs t fz) {cs:aAp} (hi:i+LS.length<=d) (F:Bj ρ LS.flatten cs) (G:∀L∈LS,L.length=esz) (B:cs.length=LS.length*esz) (K:∀y∈cs,y.oneCell'=true):
 x.base+i*esz+cs.length<=vs.size/\lz ρ (w.setRow x.b (JM vs.toList (x.base+i*esz) cs).toArray) x esz d (Dk LS i c) (JM vs.toList (x.base+i*esz) cs).toArray t fz:=by
 have p:∀e,e<=d->e*esz<=d*esz:=λe C=>z8 _ C;have D:(i+LS.length)*esz=i*esz+LS.length*esz:=pp _ _ _;have g:x.base+i*esz+cs.length<=vs.size:=by have:=p _ hi;have:=h.room;rw[h.size,B];omega
 have q:(JM vs.toList (x.base+i*esz) cs).toArray.size=vs.size:=by have:=Tz vs.toList (x.base+i*esz) cs a6;omega
 refine⟨g,{heap:=setRow_heap w x.b vs _ t fz h.heap,size:=q.trans h.size,free:=h.free,sh:=h.sh,room:=h.room,one:=?_,elem:=?_}⟩
 .intro u k;simp only[JM,q_]at k;rcases k with(k|k)|k
  .exact h.one u (_k k)
  .simp[*]
  .exact h.one u (_y k)
 .intro e C;by_cases v:i<=e/\e<i+LS.length
  .have f:e-i<LS.length:=a6;refine⟨LS[e-i],by simp[DD,hD v,eb f],?_⟩;have E:=VQ LS cs F G (e-i) _ (eb f);have m:=Y2 g;rw[<-m]at E;have A:(e-i)*esz+esz<=cs.length:=by have:(e-i+1)*esz<=LS.length*esz:=z8 _ f;simp_all[pp,_g]
   rw[sub_sub A]at E;have:x.base+i*esz+(e-i)*esz=x.base+e*esz:=by have:(i+(e-i))*esz=i*esz+(e-i)*esz:=pp _ _ _;simp_all;omega
   simp_all
  .obtain⟨L,H,I⟩:=h.elem e C;refine⟨L,by simp[DD,g_ v,H],?_⟩;rw[S5 g]
   .omega
   .rcases _O e i with f|J
    .left;have:(e+1)*esz<=i*esz:=z8 _ f;simp_all[pp,_g];omega
    .right;have:(i+LS.length)*esz<=e*esz:=z8 _ a6;omega
structure Src(P:Program)(w:World)(u:Value)(n esz:Nat)(cs:List Value):Prop where
 len:∀w':World,(Builtin.lenOf u).run P w'=.ok n w'
 fst:∀m,m<=n->∀w':World,w'.heap=w.heap->(Builtin.firstCells esz m u).run P w'=.ok (cs.take (m*esz)).toArray w'
variable{H:Heap}{m:Nat}{G:AQ}{u:Value}
abbrev ABO{C:World}(hh:Cb C ρ H m w)(D:Sj C G)(E:AW ρ v u){esz:Nat}(h:elems v G H esz=some LS):
 ∃cs:aAp,Bj ρ LS.flatten cs/\cs.length=LS.length*esz/\(∀L∈LS,L.length=esz)/\(∀y∈cs,y.oneCell'=true)/\Src P w u LS.length esz cs:=by
 have⟨cs,F,f,d,q,g⟩:=xo hh D E h;refine⟨cs,F,f,d,q,?_⟩;rcases g with⟨rfl,rfl⟩|⟨a,I,rfl,i⟩|⟨s,rfl,J,K,rfl⟩
 .refine⟨λp=>by rfl,λk x p _=>?_⟩;simp_all[Builtin.firstCells]
 .refine⟨λp=>by rfl,λk x p M=>?_⟩;have N:k*esz<=cs.length:=by rw[f];exact z8 _ x
  refine run_firstCells_some (P:=P) p esz k a LS.length I (cs.take (k*esz)) (by simp[*]) (λj y A=>?_);rw[x_]at A;split at A
  .have:=i j y A;rw[<-this];exact World.cell?_of_block (by rw[M])
  trivial
 .refine⟨λp=>by simp[Builtin.lenOf,K],λk x p _=>?_⟩;have O:esz=1∨LS=[]:=by
   cases LS with
   |nil=>simp
   |cons L LS=>left;rw[<-d L u_,J L u_]
  have B:k*esz=k:=by
   rcases O with rfl|rfl
   .omega
   .simp at x;simp[*]
  rw[B];simp only[Builtin.firstCells,E_,Result.ok.injEq,and_true];apply F'.1;simp
variable{n:Nat}{p:Value}
abbrev yW(t u ty e:TypeId)(d:TypeDesc)(i:TypeInfo)(z:Value)(y:P.underlying t=some (.slice e))(A:P.underlying u=some d)(G:∀k,d≠.int k)(hi:P.info? e=some i)(B:i.zero=some z)
 {base:Option Addr}{sLen sCap:Nat} {olds f:aAp} (C:(Builtin.firstCells i.size sLen (.slice base sLen sCap)).run P w.drew=.ok olds.toArray w.drew)
 (q:Src P w p n i.size f) (D:f.length=n*i.size) (H:sCap<sLen+n) (E:((sLen+n:Nat):Int)<=9223372036854775807) (v:Builtin.nextslicecap (sLen+n) sCap*i.bytes<=281474976710656):
 (Builtin.append_ #[t,u] ty #[.slice base sLen sCap,p]).run P w=
  .ok (.slice (some ⟨w.heap.size,0,none⟩) (sLen+n) (grownCap w (sLen+n) sCap e))
   (w.drew.alloc (.cells (olds.toArray++f.toArray++Builtin.zeroCells z.cells (grownCap w (sLen+n) sCap e-(sLen+n))) e)):=by have F:¬(sLen+n<=sCap):=a6;have g:¬(9223372036854775807<((sLen:Int)+(n:Int))):=a6;have m:¬(281474976710656<Builtin.nextslicecap (sLen+n) sCap*i.bytes):=a6;have x:=q.fst n o_ w.drew rfl;rw[<-D,aAc]at x;simp[Builtin.append_,dj y,dj A,sizeOf,typeInfo,zeroValue,hi,B,q.len,F,g,m,Question.forced,x,C,newRow,grownCap];congr 2;apply Array.ext';simp
abbrev S0{w':World}(t u ty e:TypeId)(d:TypeDesc)(i:TypeInfo)(q:P.underlying t=some (.slice e))(v:P.underlying u=some d)(B:∀k,d≠.int k)(hi:P.info? e=some i)
 {base:Option Addr}{sLen sCap:Nat} {m:Value} {f:aAp} (p:Src P w m n i.size f) (x:f.length=n*i.size) (g:sLen+n<=sCap)
 (y:match base with|some a=>(storeCells (a.add (sLen*i.size)) f).run P w=.ok () w'|none=>w'=w):
 (Builtin.append_ #[t,u] ty #[.slice base sLen sCap,m]).run P w=.ok (.slice base (sLen+n) sCap) w':=by have A:=p.fst n o_ w rfl;rw[<-x,aAc]at A;cases base<;>simp[*,Builtin.append_,dj q,dj v,sizeOf,typeInfo,hi,p.len,g]
variable{ln:Nat}
abbrev yT{esz:Nat}{c0:T LV}{olds:aAp}(q:olds.length=ln*esz)(B:∀y∈olds,y.oneCell'=true)
 (i:∀e,e<ln->∃L,T.get c0 e=some L/\Bj ρ L ((olds.drop (e*esz)).take esz)) {d:aAp} (C:Bj ρ LS.flatten d) (D:∀L∈LS,L.length=esz) (v:d.length=LS.length*esz) (E:∀y∈d,y.oneCell'=true)
 {zs:aAr} (F:∀y∈zs.toList,y.oneCell'=true) (t:TypeId) {need:Nat} (g:need=ln+LS.length):
 ADe ρ (olds.toArray++d.toArray++zs).size (.arr esz need (Dk LS ln c0)) (.cells (olds.toArray++d.toArray++zs) t):=by
 subst g;have A:(ln+LS.length)*esz=ln*esz+LS.length*esz:=pp _ _ _;refine⟨_,t,(0,0),rfl,rfl,mH _,.inr rfl,by simp[*],?_,?_⟩
 .intro u k;simp only[S_,q_]at k;rcases k with(k|k)|k<;>simp_all
 .intro e G;have m:sub (olds.toArray++d.toArray++zs) (e*esz) esz=((olds++d).drop (e*esz)).take esz:=by
   have w:e*esz+esz<=(olds++d).length:=by have:(e+1)*esz<=(ln+LS.length)*esz:=z8 _ G;simp_all[pp,_g,uk,q,v]
   simp only[sub,S_];rw[O' a6,P_ (by simp_all;omega)]
  rw[m];by_cases p:e<ln
  .obtain⟨L,H,I⟩:=i e p;refine⟨L,by rw[DD,g_ a6,H],?_⟩;have w:e*esz+esz<=olds.length:=by have:(e+1)*esz<=ln*esz:=z8 _ p;simp_all[pp,_g]
   rw[O' a6,P_ (by simp;omega)];omega
  .have f:e-ln<LS.length:=a6;refine⟨LS[e-ln],by rw[DD,hD a6,eb f],?_⟩;have J:=VQ LS d C D (e-ln) _ (eb f);have x:e*esz=olds.length+(e-ln)*esz:=by have:(ln+(e-ln))*esz=ln*esz+(e-ln)*esz:=pp _ _ _;simp_all
   simp[x,List.drop_length_add_append];omega
abbrev mT{z:aAr}(h:∀y∈z.toList,y.oneCell'=true)(n:Nat):∀y∈(Builtin.zeroCells z n).toList,y.oneCell'=true:=by
 intro y f;simp only[Builtin.zeroCells,N',_c]at f;obtain⟨i,k,rfl⟩:=f;have d:0<z.size:=by rcases _F z.size with e|e<;>simp_all
 have g:i%z.size<z.size:=W0 _ d;simp[*]
def ADM(P:Program)(w0:World)(ρ:Loc)(H:Heap)(n:Nat)(w:World)(s:Sem Value)(k:KV):Prop:=
 ∃v H' n' val w' ρ',k v H' n'/\s.run P w=.ok val w'/\AW ρ' v val/\Cb w0 ρ' H' n' w'/\FC ρ H n ρ' H' n'
structure AIn(P:Program)(t u e:TypeId)(esz bs:Nat)(i:TypeInfo)(z:Value):Prop where
 ht:P.underlying t=some (.slice e)
 hu:∃d,P.underlying u=some d/\∀k,d≠.int k
 hi:P.info? e=some i
 hz:i.zero=some z
 size:i.size=esz
 bytes:i.bytes=bs
 pos:0<bs
 zs:z.cells.size=esz
 z1:∀y∈z.cells.toList,y.oneCell'=true
variable{bs:Nat}
abbrev AH0{need:Nat}(h:KZ need bs=true):need*bs<=140737488355328:=h_ h
variable{e:TypeId}
abbrev vK{u:TypeId}{esz:Nat}{i:TypeInfo}{z:Value}(ty:TypeId)(g:AIn P t u e esz bs i z){base:Option Addr}{cap:Nat}{x:Value}{olds f:aAp}
 (A:(Builtin.firstCells esz ln (.slice base ln cap)).run P w.drew=.ok olds.toArray w.drew) (B:Src P w x m esz f) (C:f.length=m*esz) (y:cap<ln+m) (k:KZ (ln+m) bs=true):
 (Builtin.append_ #[t,u] ty #[.slice base ln cap,x]).run P w=
  .ok (.slice (some ⟨w.heap.size,0,none⟩) (ln+m) (grownCap w (ln+m) cap e))
   (w.drew.alloc (.cells (olds.toArray++f.toArray++Builtin.zeroCells z.cells (grownCap w (ln+m) cap e-(ln+m))) e)):=by have⟨d,D,E⟩:=g.hu;have q:=g.size;subst q;have p:=AH0 k;have v:=g.bytes;subst v;have F:ln+m<=(ln+m)*i.bytes:=aAb _ g.pos;exact yW t u ty e d i z g.ht D E g.hi g.hz A B C y a6 (growslice_fits y p)
abbrev AIF{u:TypeId}{esz:Nat}{i:TypeInfo}{z:Value}(p:AIn P t u e esz bs i z){olds d:aAp}{cap need:Nat}(q:olds.length=ln*esz)(v:d.length=m*esz)(g:need=ln+m){f:Loc}
 (x:f n=some ⟨w.heap.size,0,(olds.toArray++d.toArray++Builtin.zeroCells z.cells (grownCap w need cap e-need)).size⟩):
 AW f (.Hf n 0 need esz) (.slice (some ⟨w.heap.size,0,none⟩) need (grownCap w need cap e)):=by have k:=grownCap_ge w need cap e;refine⟨_,_,_,x,rfl,.inr o6,k,?_⟩<;>simp_all[size_zeroCells,p.zs,<-pp]
variable{D:World}{OS:Bh}
abbrev Ys{u:TypeId}{esz:Nat}{i:TypeInfo}{z:Value}(ty:TypeId)(q:AIn P t u e esz bs i z)(hh:Cb D ρ H n w)
 {base:Option Addr} {cap:Nat} {E:Value} {olds d:aAp} (v:Bj ρ OS.flatten olds) (x:∀L∈OS,L.length=esz) (m:olds.length=OS.length*esz) (A:∀y∈olds,y.oneCell'=true)
 (F:(Builtin.firstCells esz OS.length (.slice base OS.length cap)).run P w.drew=.ok olds.toArray w.drew)
 (G:Bj ρ LS.flatten d) (I:∀L∈LS,L.length=esz) (f:d.length=LS.length*esz) (B:∀y∈d,y.oneCell'=true) (J:Src P w E LS.length esz d) (K:cap<OS.length+LS.length)
 {k:KV} (h:GR esz bs OS LS H n k):ADM P D ρ H n w (Builtin.append_ #[t,u] ty #[.slice base OS.length cap,E]) k:=by
 simp only[GR,A8,Du,len_eq]at h;have⟨g,M⟩:=h;have p:=vK ty q F J f K g;have C:=yT (c0:=Dk OS 0 .e) m A (λe N=>⟨OS[e],by simp[DD,hD a6],VQ OS olds v x e _ (eb N)⟩) G I f B
  (mT q.z1 (grownCap w (OS.length+LS.length) cap e-(OS.length+LS.length))) e rfl
 refine⟨_,_,_,_,_,_,M,p,AIF q m f rfl (Loc.add_same _ _ _),hh.drew.new C,FC.place _ hh.pA⟩
variable{P:Program}
abbrev YP(a:Addr)(w:World):(storeCells a []).run P w=.ok () w:=by rfl
variable{b:Nat}{o:Nat}{a:Addr}
abbrev uo{esz:Nat}{cs:aAp}(f:Reads ρ w b o OS esz cs){cap:Nat}(g:0<OS.length->a=⟨b,o,none⟩):
 (Builtin.firstCells esz OS.length (.slice (some a) OS.length cap)).run P w.drew=.ok cs.toArray w.drew:=by
 refine run_firstCells_some w.drew esz OS.length a OS.length cap cs f.len (λj y i=>?_);have d:0<OS.length:=by
  rcases _F OS.length with e|e
  .have k:=f.len;simp_all
  omega
 simp[g d,add_lit,(f.cell j y i).1]
abbrev ABf{esz:Nat}{cs:aAp}(d:Reads ρ w b o OS esz cs):∀y∈cs,y.oneCell'=true:=by intro y f;have⟨j,g⟩:=_m.1 f;exact(d.cell j y g).2
variable{w0:World}{x:V}{y:V}
theorem AJy{t u e:TypeId}{esz bs:Nat}{i:TypeInfo}{z:Value}(ty:TypeId)(R:AIn P t u e esz bs i z)(k5:0<esz){w0:World}{ρ:Loc}{H:Heap}{n:Nat}{w:World}(hh:Cb w0 ρ H n w){G:AQ}(hg:Sj w0 G)
 {x y:V} {ux uy:Value} (hx:AW ρ x ux) (hy:AW ρ y uy) {LS:Bh} (i7:elems y G H esz=some LS) {k:KV} (h:AAb x G esz bs LS H n k):
 ADM P w0 ρ H n w (Builtin.append_ #[t,u] ty #[ux,uy]) k:=by
 obtain⟨v,hr,K,hl,U,hs⟩:=ABO (P:=P) hh hg hy i7
 have f0:Src P w uy LS.length i.size v:=by rw[R.size];exact hs
 have Z:v.length=LS.length*i.size:=by rw[R.size];exact K
 obtain⟨d,hu,hd⟩:=R.hu
 have g8:LS=[]->v=[]:=λe=>_n.1 (by rw[K,e];simp)
 cases x<;>simp only[AAb,V.el]at h<;>try (exact absurd h id)
 ·
   simp only[AW]at hx
   subst hx
   cases LS with
   |nil=>
    have N:k .AT H n:=h
    have C:=S0 (P:=P) (w:=w) (w':=w) t u ty e d i R.ht hu hd R.hi (base:=none) (sLen:=0) (sCap:=0) f0 Z o6 rfl
    exact⟨_,_,_,_,_,_,N,C,by simp[AW],hh,FC.refl _ _ _⟩
   |cons L LS=>
    have N:GR esz bs [] (L::LS) H n k:=h
    exact Ys (OS:=[]) (olds:=[]) (base:=none) (cap:=0) ty R hh o6 (λL h=>(by cases h)) o6 (λy h=>(by cases h)) (run_firstCells_none (P:=P) (w:=w.drew) esz 0 0 0) hr hl K U hs o6 N
 ·
   rename_i id f m I g
   simp only[ARa,A8,Du,len_eq]at h
   obtain⟨f6,h⟩:=h
   have:=r_ f6
   subst this
   simp only[AW]at hx
   obtain⟨p,a,E,rfl,ha,f1⟩:=hx
   cases hb:Nat.ble (Nat.add m LS.length) I with
   |false=>
    rw[hb]at h
    have h':CR (BP H id g m f) (λX=>GR g bs X LS H n k):=h
    rw[G1]at h'
    obtain⟨X,d2,N⟩:=h'
    obtain⟨O,cs,A⟩:=TC hh hg E m f X d2
    have f7:I<m+LS.length:=by
     rcases _O I (m+LS.length)with h|h
     ·exact h
     ·rw[show Nat.ble (Nat.add m LS.length) I=true from Nat.ble_eq_true_of_le h]at hb;cases hb
    subst O
    exact Ys ty R hh A.rel A.each A.len (ABf A) (uo A (λhp=>Or.resolve_left ha a6)) hr hl K U hs f7 N
   |true=>
    rw[hb]at h
    have h':CR (T.get H id) (λb=>aD id f m I g (Nat.add m LS.length) LS H n k b):=h
    rw[G1]at h'
    obtain⟨b,F,D⟩:=h'
    have S:m+LS.length<=I:=h_ hb
    cases b with
    |map _ _=>exact False.elim D
    |dead=>exact False.elim D
    |aq _ _ _ _ _=>exact False.elim D
    |own _=>exact False.elim D
    |arr d3 M c=>
     have W:B7 (band (Nat.beq g d3) (Nat.ble (Nat.add f (Nat.add m LS.length)) M)) (k (.sl id f (Nat.add m LS.length) I g) (T.set H id (.arr g M (Dk LS (Nat.add f m) c))) n):=D
     simp only[Du,A6,ez,beq_iff]at W
     obtain⟨⟨rfl,d4⟩,N⟩:=W
     have d5:f+(m+LS.length)<=M:=h_ d4
     obtain⟨J,tt,fz,q⟩:=hh.arr id p g M c E F
     obtain⟨d1,g9⟩:=q.puts (i:=f+m) a6 hr hl K U
     have f8:(storeCells (a.add (m*g)) v).run P w=.ok () (w.setRow p.b (JM J.toList (p.base+(f+m)*g) v).toArray):=by
      rcases _F I with f9|i0
      ·have i8:LS=[]:=_n.1 a6
       have g0:=g8 i8
       subst g0
       rw[YP]
       have:(JM J.toList (p.base+(f+m)*g) []).toArray=J:=by simp[JM]
       rw[this,setRow_self w p.b J tt fz q.heap]
      ·have d6:a=⟨p.b,p.base+f*g,none⟩:=by rcases ha with e|e; · omega
                                           ·exact e
       subst d6
       rw[add_lit]
       have d7:=GT (P:=P) p.b (p.base+(f+m)*g) tt fz v 0 J w q.heap (by rw[q.size];exact q.free) (by simpa using d1) U
       simp only[_Y]at d7
       rw[show p.base+f*g+m*g=p.base+(f+m)*g by rw[pp];omega]
       exact d7
     have C:=S0 (P:=P) (w:=w) t u ty e d i R.ht hu hd R.hi (base:=some a) (sLen:=m) (sCap:=I) f0 Z S (by rw[R.size];exact f8)
     refine⟨_,_,_,_,_,ρ,N,C,⟨p,a,E,rfl,ha,S⟩,?_,FC.turn E _⟩
     refine hh.turn E ⟨_,F,o6⟩ (setRow_size _ _ _) (λk N=>setRow_other _ _ _ _ N) (setRow_os _ _ _) (setRow_output _ _ _) ?_ (λg ck he=>by cases he) (λ_=>by rw[F];simp) (λ_ _ _ _ _ he=>by cases he)
     intro e2 n2 c2 he
     cases he
     exact⟨_,_,_,g9⟩
 ·
   rename_i id f m g
   simp only[ALc,Du]at h
   obtain⟨f6,h⟩:=h
   have:=r_ f6
   subst this
   simp only[AW]at hx
   obtain⟨p,a,B,E,rfl,ha,f1,d0⟩:=hx
   by_cases g1:LS=[]
   ·subst g1
    have g0:=g8 rfl
    subst g0
    have N:k (.Hf id f m g) H n:=h
    have C:=S0 (P:=P) (w:=w) (w':=w) t u ty e d i R.ht hu hd R.hi (base:=some a) (sLen:=m) (sCap:=B) f0 Z (by simpa using f1) (YP _ _)
    exact⟨_,_,_,_,_,_,N,C,⟨p,a,B,E,o6,ha,f1,d0⟩,hh,FC.refl _ _ _⟩
   ·have k6:0<LS.length:=by cases LS with
     |nil=>exact absurd rfl g1
     |cons L LS=>simp
    have h1:CR (T.get H id) (λb=>X2 id f m g bs LS H n k b):=by
     cases LS with
     |nil=>exact absurd rfl g1
     |cons L LS=>exact h
    rw[G1]at h1
    obtain⟨b,F,D⟩:=h1
    cases b with
    |map _ _=>exact False.elim D
    |dead=>exact False.elim D
    |aq _ _ _ _ _=>exact False.elim D
    |own _=>exact False.elim D
    |arr d3 M c=>
     have W:CS (Nat.add m (len LS)) (λQ=>B7 (band (KZ Q bs) (band (Nat.beq g d3) (Nat.ble (Nat.add f m) M)))
      (CS n λn=>Nat.rec (motive:=λ_=>Prop)
       (k (.Hf n 0 Q g) (T.set (T.set H id .dead) n (.arr g Q (Dk LS m c))) (Nat.succ n))
       (λ_ _=>CR (BP H id g m f) λX=>k (.Hf n 0 Q g) (T.set (T.set H id .dead) n (.arr g Q (Dk LS m (Dk X 0 .e)))) (Nat.succ n)) f)):=D
     simp only[A8,Du,A6,ez,beq_iff,len_eq]at W
     obtain⟨⟨S,rfl,d4⟩,i1⟩:=W
     have d5:f+m<=M:=h_ d4
     obtain⟨J,tt,fz,q⟩:=hh.arr id p g M c E F
     have key:∃c0:T LV,k (.Hf n 0 (m+LS.length) g) (T.set (T.set H id .dead) n (.arr g (m+LS.length) (Dk LS m c0))) (n+1)/\
      ∀e,e<m->∃L,T.get c0 e=some L/\Bj ρ L (sub J (p.base+(f+e)*g) g):=by
      cases f with
      |zero=>
       exact⟨c,i1,λe he=>by rw[t_];exact q.elem e a6⟩
      |succ f=>
       have i2:CR (BP H id g m (f+1)) (λX=>k (.Hf n 0 (m+LS.length) g) (T.set (T.set H id .dead) n (.arr g (m+LS.length) (Dk LS m (Dk X 0 .e)))) (Nat.succ n)):=i1
       rw[G1]at i2
       obtain⟨X,d2,N⟩:=i2
       obtain⟨O,cs,A⟩:=TC hh hg E m (f+1) X d2
       refine⟨Dk X 0 .e,N,λe he=>?_⟩
       refine⟨X[e],by rw[DD,hD a6];simp[O,he],?_⟩
       have i9:=VQ X cs A.rel A.each e _ (eb a6)
       have k0:(cs.drop (e*g)).take g=sub J (p.base+(f+1+e)*g) g:=by
        have f5:e*g+g<=cs.length:=by
         rw[A.len,O]
         have:(e+1)*g<=m*g:=z8 _ he
         rwa [pp,_g]at this
        have f2:p.base+(f+1+e)*g+g<=J.size:=by
         have:(f+1+e+1)*g<=M*g:=z8 _ a6
         rw[pp _ 1,_g]at this
         have:=q.room
         rw[q.size];omega
        apply _D
        intro j
        by_cases hj:j<g
        ·rw[x_,hD hj,_r,WJ,hD hj]
         have d8:e*g+j<cs.length:=a6
         rw[eb d8]
         have hc:=(A.cell _ _ (eb d8)).1
         rw[cell_of_heap q.heap]at hc
         rw[<-hc,Array.getElem?_toList]
         congr 1
         rw[pp (f+1) e];omega
        ·rw[z_ (by simp;omega),z_ (by rw[O5 f2];omega)]
       rw[<-k0];exact i9
     obtain⟨c0,N,f9⟩:=key
     have hn:=hh.pA
     have k1:id<n:=hh.lt id p E
     by_cases D:m+LS.length<=B
     ·
       have d6:a=⟨p.b,p.base+f*g,none⟩:=by rcases ha with e|e; · omega
                                           ·exact e
       subst d6
       have i3:(f+(m+LS.length))*g<=(f+B)*g:=z8 _ a6
       have g2:(f+(m+LS.length))*g=f*g+m*g+LS.length*g:=by rw[pp,pp];omega
       have d1:p.base+(f*g+m*g)+v.length<=J.size:=by rw[q.size,K];omega
       have d7:=GT (P:=P) p.b (p.base+(f*g+m*g)) tt fz v 0 J w q.heap (by rw[q.size];exact q.free) (by simpa using d1) U
       simp only[_Y]at d7
       have f8:(storeCells ((⟨p.b,p.base+f*g,none⟩:Addr).add (m*g)) v).run P w=.ok () (w.setRow p.b (JM J.toList (p.base+(f*g+m*g)) v).toArray):=by
        rw[add_lit,show p.base+f*g+m*g=p.base+(f*g+m*g)by omega]
        exact d7
       have C:=S0 (P:=P) (w:=w) t u ty e d i R.ht hu hd R.hi (base:=some ⟨p.b,p.base+f*g,none⟩) (sLen:=m) (sCap:=B) f0 Z D (by rw[R.size];exact f8)
       have g3:(JM J.toList (p.base+(f*g+m*g)) v).toArray.size=J.size:=by
        have:=Tz J.toList (p.base+(f*g+m*g)) v (by simpa using d1)
        simpa using this
       refine⟨_,_,_,_,_,_,N,C,⟨⟨p.b,p.base+f*g,p.size⟩,_,B,Loc.add_same _ _ _,rfl,.inr o6,D,by simp only[t_];rw[pp]at d0;omega⟩,
        hh.move E ⟨_,F,o6⟩ (y:=⟨p.b,p.base+f*g,p.size⟩) rfl (setRow_size _ _ _) (λk N=>setRow_other _ _ _ _ N) (setRow_os _ _ _) (setRow_output _ _ _) ?_ (λ_=>by rw[F];simp),FC.move E hn _ _⟩
       refine⟨_,tt,fz,{heap:=setRow_heap w p.b J _ tt fz q.heap,size:=g3.trans q.size,free:=q.free,sh:=q.sh,room:=?_,one:=?_,elem:=?_}⟩
       ·show p.base+f*g+(m+LS.length)*g<=p.size
        rw[pp m];omega
       ·intro u hu
        simp only[JM,q_]at hu
        rcases hu with(hu|hu)|hu
        ·exact q.one u (_k hu)
        ·exact U u hu
        ·exact q.one u (_y hu)
       ·intro e he
        show ∃L,T.get (Dk LS m c0) e=some L/\Bj ρ L (sub (JM J.toList (p.base+(f*g+m*g)) v).toArray (p.base+f*g+e*g) g)
        by_cases d8:e<m
        ·obtain⟨L,hL,g4⟩:=f9 e d8
         refine⟨L,by rw[DD,g_ a6,hL],?_⟩
         rw[S5 d1]
         ·rw[show p.base+f*g+e*g=p.base+(f+e)*g by rw[pp];omega];exact g4
         ·left
          have:(e+1)*g<=m*g:=z8 _ d8
          rw[pp,_g]at this
          omega
        ·have d9:e-m<LS.length:=a6
         refine⟨LS[e-m],by rw[DD,hD a6,eb d9],?_⟩
         have g5:=VQ LS v hr hl (e-m) _ (eb d9)
         have g6:=Y2 d1
         rw[<-g6]at g5
         have g7:(e-m)*g+g<=v.length:=by
          have:(e-m+1)*g<=LS.length*g:=z8 _ d9
          rw[pp,_g]at this
          omega
         rw[sub_sub g7]at g5
         have:p.base+(f*g+m*g)+(e-m)*g=p.base+f*g+e*g:=by
          have:(m+(e-m))*g=m*g+(e-m)*g:=pp _ _ _
          rw[show m+(e-m)=e by omega]at this
          omega
         rwa [this]at g5
     ·
       have g2:(f+m)*g=f*g+m*g:=pp _ _ _
       have i3:(f+m)*g<=M*g:=z8 _ d5
       have f3:p.base+f*g+m*g<=J.size:=by have:=q.room;rw[q.size];omega
       have Y:(sub J (p.base+f*g) (m*g)).length=m*g:=O5 f3
       have k2:∀y∈sub J (p.base+f*g) (m*g),y.oneCell'=true:=by
        intro y hy
        exact q.one y (_y (_k hy))
       have f4:(Builtin.firstCells g m (.slice (some a) m B)).run P w.drew=.ok (sub J (p.base+f*g) (m*g)).toArray w.drew:=by
        refine run_firstCells_some (P:=P) w.drew g m a m B _ Y (λj y hj=>?_)
        obtain⟨i4,k3⟩:=wz hj
        have i0:B≠0:=by
         intro h0
         have:m=0:=a6
         rw[this]at i4;simp at i4
        have d6:a=⟨p.b,p.base+f*g,none⟩:=by rcases ha with e|e; · exact absurd e i0
                                            ·exact e
        rw[d6,add_lit]
        have:=cell_of_heap q.heap (p.base+f*g+j)
        rw[k3]at this
        rw[<-this]
        exact World.cell?_of_block rfl
       have C:=vK ty R f4 hs K a6 S
       have i5:∀e,e<m->∃L,T.get c0 e=some L/\Bj ρ L (((sub J (p.base+f*g) (m*g)).drop (e*g)).take g):=by
        intro e he
        obtain⟨L,hL,g4⟩:=f9 e he
        refine⟨L,hL,?_⟩
        have f5:e*g+g<=m*g:=by
         have:(e+1)*g<=m*g:=z8 _ he
         rwa [pp,_g]at this
        rw[sub_sub f5]
        rw[show p.base+f*g+e*g=p.base+(f+e)*g by rw[pp];omega]
        exact g4
       have k4:=yT (c0:=c0) Y k2 i5 hr hl K U (mT R.z1 (grownCap w (m+LS.length) B e-(m+LS.length))) e (need:=m+LS.length) rfl
       refine⟨_,_,_,_,_,_,N,C,AIF R Y K rfl (Loc.add_same _ _ _),(hh.kill k1 (λ_=>by rw[F];simp)).drew.new k4,FC.move E hn _ _⟩
 ·
   rename_i b f m I g
   simp only[AL6,Du,len_eq,xi]at h
   obtain⟨f7,h⟩:=h
   simp only[AW]at hx
   obtain⟨a,rfl,ha,f1⟩:=hx
   rw[G1]at h
   obtain⟨X,d2,N⟩:=h
   obtain⟨O,cs,A⟩:=im hh hg m f X d2
   subst O
   have i6:0<X.length->a=⟨b,f,none⟩:=λhp=>ha.resolve_left a6
   exact Ys ty R hh A.rel A.each A.len (ABf A) (uo A i6) hr hl K U hs f7 N
end Go.BN
