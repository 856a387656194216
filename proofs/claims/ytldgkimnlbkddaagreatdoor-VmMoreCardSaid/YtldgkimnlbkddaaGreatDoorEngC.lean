/- Part of a proof; nothing is assumed. -/
import Derived.Test.YtldgkimnlbkddaaGreatDoorEngB
import Derived.Lib.Bytealg
import Derived.Laws.MakeOwn
import Derived.Great.BuildSlice
import Derived.Laws.AppendOwn
import Derived.Lib.ConvBytes
set_option linter.unusedVariables false
set_option linter.unusedSimpArgs false
namespace Go.Bf
variable{P:Program}
theorem ANE{ρ:Loc}{off:Nat}{x r:V}{u:Value}(d:Aa ρ x u)(h:AQ off x=some r):∃b o,u=.pointer (some ⟨b,o,none⟩)/\Aa ρ r (.pointer (some ⟨b,o+off,none⟩)):=by
 unfold AQ at h
 rw[AJq]at h
 rcases h with⟨i,o,rfl,h⟩|⟨i,o,rfl,h⟩
 ·rw[Bv]at h;cases h
  simp only[Aa]at d
  obtain⟨z,f,rfl⟩:=d
  refine⟨_,_,rfl,?_⟩
  simp only[Aa]
  exact⟨z,f,by rw[show z.base+o+off=z.base+Nat.add o off from by show _=z.base+(o+off);omega]⟩
 ·rw[Bv]at h;cases h
  simp only[Aa]at d
  subst d
  exact⟨_,_,rfl,rfl⟩
theorem AV7{ρ:Loc}{s:TypeId}{fs:Array Field}{i:Nat}{fl:Field}{n:Nat}(hs:P.underlying s=some (.struct fs))(f:fs[i]? =some fl)(g:szT P fl.type=some (n+1)){x r:V}{u:Value}(k:Aa ρ x u)
 (h:AQ fl.offset x=some r) (w:World):∃val,(Instr.fieldAt s u i).run P w=.ok val w/\Aa ρ r val:=by
 obtain⟨b,o,rfl,m⟩:=ANE k h
 refine⟨_,?_,m⟩
 have d:=run_sizeOf (P:=P) g w
 simp[Instr.fieldAt,run_underlying hs,f,Instr.sureAddr,fieldPlace,d,add_lit]
theorem APK{z:Info}{a:Addr}{o esz cap i:Nat}(h:cap=0∨a=⟨z.b,z.base+o*esz,none⟩)(hi:i<cap):a.add (i*esz)=⟨z.b,z.base+(o+i)*esz,none⟩:=by
 rcases h with rfl|rfl
 ·omega
 ·rw[add_lit];congr 1;rw[Nat.add_mul];omega
theorem AVU{ρ:Loc}{t e:TypeId}{esz:Nat}(C:P.underlying t=some (.slice e))(D:szT P e=some esz){x i r:V}{u B:Value}(p:Aa ρ x u)(hi:Aa ρ i B)(h:Ai esz x i=some r)(w:World):
 ∃val,(Instr.indexAt t u B).run P w=.ok val w/\Aa ρ r val:=by
 unfold Ai at h
 rw[RD]at h
 obtain⟨k,m,rfl,h⟩:=h
 simp only[Aa]at hi
 subst hi
 have A:=run_sizeOf (P:=P) D w
 have key:∀(a:Addr) (len q:Nat),m<len->(Instr.indexAt t (.slice (some a) len q) (.int k m)).run P w=.ok (.pointer (some (a.add (m*esz)))) w:=by
  intro a len q F
  have E:(0:Int)<=m/\(m:Int)<len:=⟨by omega,by omega⟩
  simp[Instr.indexAt,run_underlying C,asIntOf,E,A]
  omega
 cases x<;>simp only[V.AZN]at h<;>try (cases h;done)
 ·rw[BJ,Bv]at h
  obtain⟨d,h⟩:=h
  cases h
  simp only[BK,Bool.and_eq_true,beq_iff,Nat.blt_eq]at d
  obtain⟨rfl,f⟩:=d
  simp only[Aa]at p
  obtain⟨z,a,g,rfl,v,y⟩:=p
  refine⟨_,key a _ _ f,?_⟩
  rw[APK v (by omega)]
  simp only[Aa]
  exact⟨z,g,rfl⟩
 ·rw[BJ,Bv]at h
  obtain⟨d,h⟩:=h
  cases h
  simp only[BK,Bool.and_eq_true,beq_iff,Nat.blt_eq]at d
  obtain⟨rfl,f⟩:=d
  simp only[Aa]at p
  obtain⟨z,a,G,g,rfl,v,y,_⟩:=p
  refine⟨_,key a _ _ f,?_⟩
  rw[APK v (by omega)]
  simp only[Aa]
  exact⟨z,g,rfl⟩
 ·rw[BJ,Bv]at h
  obtain⟨d,h⟩:=h
  cases h
  rw[Nat.blt_eq]at d
  simp only[Aa]at p
  obtain⟨a,rfl,v,y⟩:=p
  refine⟨_,key _ _ _ d,?_⟩
  rcases v with e|e
  ·omega
  ·rw[e,add_lit]
   simp[Aa]
theorem AS2{ρ:Loc}{t e:TypeId}{n esz:Nat}(g:P.underlying t=some (.array n e))(p:szT P e=some esz){x i r:V}{u f:Value}(q:Aa ρ x u)(hi:Aa ρ i f)
 (h:Ym i (λi=>BI (Nat.blt i n) (AQ (Nat.mul i esz) x))=some r) (w:World):∃val,(Instr.indexAt t u f).run P w=.ok val w/\Aa ρ r val:=by
 rw[RD]at h
 obtain⟨k,m,rfl,h⟩:=h
 simp only[Aa]at hi
 subst hi
 rw[BJ]at h
 obtain⟨v,h⟩:=h
 rw[Nat.blt_eq]at v
 obtain⟨b,o,rfl,y⟩:=ANE q h
 have d:=run_sizeOf (P:=P) p w
 refine⟨_,?_,y⟩
 have A:(0:Int)<=m/\(m:Int)<n:=⟨by omega,by omega⟩
 simp[Instr.indexAt,run_underlying g,asIntOf,Instr.sureAddr,A,d,add_lit]
 omega
theorem AO7{ρ:Loc}{l:LV}{u:Value}(h:Aa ρ (.agg l) u):∃a:Array Value,u=.agg a/\Bq ρ l a.toList/\∀y∈a.toList,y.oneCell'=true:=h
theorem ANR{ρ:Loc}{t:TypeId}(i:La P t=some false){l:LV}{a:Array Value}(h:Bq ρ l a.toList){off:Nat}{r:V}(g:nth l off=some r)(w:World):
 ∃val,(Go.part t a off).run P w=.ok val w/\Aa ρ r val:=by
 rw[AAT]at g
 obtain⟨v,k,d⟩:=h.get g
 refine⟨v,?_,d⟩
 have f:a[off]? =some v:=by simpa using k
 simp[Go.part,pU i,f]
theorem AVg{ρ:Loc}{t:TypeId}(d:La P t=some true){n:Nat}(f:szT P t=some n){l:LV}{a:Array Value}(h:Bq ρ l a.toList)(g:∀y∈a.toList,y.oneCell'=true){off:Nat}(w:World):
 ∃val,(Go.part t a off).run P w=.ok val w/\Aa ρ (.agg (aK n (AAS off l))) val:=by
 refine⟨.agg (a.extract off (off+n)),?_,?_⟩
 ·simp[Go.part,pU d,run_sizeOf f]
 ·simp only[Aa,gQ,yN]
  refine⟨_,rfl,?_,?_⟩
  ·have:=(h.drop off).take n
   simpa using this
  ·intro y i
   refine g y ?_
   have:y∈(a.toList.drop off).take n:=by simpa using i
   exact List.mem_of_mem_drop (List.mem_of_mem_take this)
theorem ATF{ρ:Loc}{s:TypeId}{fs:Array Field}{i:Nat}{fl:Field}(hs:P.underlying s=some (.struct fs))(d:fs[i]? =some fl)(f:La P fl.type=some false){x r:V}{u:Value}(g:Aa ρ x u)
 (h:x.AGP (λl=>nth l fl.offset)=some r) (w:World):∃val,(Instr.field s u i).run P w=.ok val w/\Aa ρ r val:=by
 rw[AEU]at h
 obtain⟨l,rfl,h⟩:=h
 obtain⟨a,rfl,k,_⟩:=AO7 g
 obtain⟨val,m,p⟩:=ANR f k h w
 exact⟨val,by simp[Instr.field,run_underlying hs,d,asAgg,m],p⟩
theorem ASD{ρ:Loc}{s:TypeId}{fs:Array Field}{i:Nat}{fl:Field}(hs:P.underlying s=some (.struct fs))(d:fs[i]? =some fl)(f:La P fl.type=some true){n:Nat}(g:szT P fl.type=some n){x r:V}{u:Value}(k:Aa ρ x u)
 (h:x.AGP (λl=>some (.agg (aK n (AAS fl.offset l))))=some r) (w:World):∃val,(Instr.field s u i).run P w=.ok val w/\Aa ρ r val:=by
 rw[AEU]at h
 obtain⟨l,rfl,h⟩:=h
 cases h
 obtain⟨a,rfl,m,p⟩:=AO7 k
 obtain⟨val,q,v⟩:=AVg f g m p (off:=fl.offset) w
 exact⟨val,by simp[Instr.field,run_underlying hs,d,asAgg,q],v⟩
theorem AYm{ρ:Loc}{t:TypeId}(p:P.underlying t=some .string){x i r:V}{u f:Value}(q:Aa ρ x u)(hi:Aa ρ i f)
 (h:x.VK (λg c=>Ym i λi=>BI (Nat.blt i g) (Dx (AYf c i) λb=>some (.int .u8 (.ofNat b) 0)))=some r) (w:World):∃val,(Instr.index t u f).run P w=.ok val w/\Aa ρ r val:=by
 rw[IJ]at h
 obtain⟨g,c,rfl,h⟩:=h
 rw[RD]at h
 obtain⟨k,m,rfl,h⟩:=h
 rw[BJ,Bv]at h
 obtain⟨d,h⟩:=h
 cases h
 rw[Nat.blt_eq]at d
 obtain⟨s,rfl,rfl,rfl⟩:=JW q
 simp only[Aa]at hi
 subst hi
 have y:m<s.size:=by rw[Nv];exact d
 have v:(0:Int)<=m/\(m:Int)<s.size:=⟨by omega,by omega⟩
 refine⟨_,by rw[run_index_string w t s k m p,dif_pos v],?_⟩
 rw[AYG _ _ d]
 simp only[Aa]
 rfl
theorem AWt{ρ:Loc}{t e:TypeId}{n:Nat}(p:P.underlying t=some (.array n e))(q:szT P e=some 1)(v:La P e=some false){x i r:V}{u g:Value}(y:Aa ρ x u)(hi:Aa ρ i g)
 (h:x.AGP (λl=>Ym i λi=>BI (Nat.blt i n) (nth l i))=some r) (w:World):∃val,(Instr.index t u g).run P w=.ok val w/\Aa ρ r val:=by
 rw[AEU]at h
 obtain⟨l,rfl,h⟩:=h
 rw[RD]at h
 obtain⟨k,m,rfl,h⟩:=h
 rw[BJ]at h
 obtain⟨d,h⟩:=h
 rw[Nat.blt_eq]at d
 obtain⟨a,rfl,A,_⟩:=AO7 y
 simp only[Aa]at hi
 subst hi
 obtain⟨val,B,C⟩:=ANR v A h w
 have D:(0:Int)<=m/\(m:Int)<n:=⟨by omega,by omega⟩
 have f:=run_sizeOf (P:=P) q w
 refine⟨val,?_,C⟩
 simp[Instr.index,run_underlying p,asIntOf,D,f,B]
 omega
theorem Aa2{ρ:Loc}{x r:V}{u:Value}(f:Aa ρ x u){i:Nat}(h:x.AQC (λl=>nth l i)=some r)(w:World):∃val,(Instr.extract u i).run P w=.ok val w/\Aa ρ r val:=by
 rw[ARo]at h
 obtain⟨l,rfl,h⟩:=h
 simp only[Aa]at f
 obtain⟨a,rfl,g⟩:=f
 rw[AAT]at h
 obtain⟨v,k,m⟩:=g.get h
 have d:a[i]? =some v:=by simpa using k
 exact⟨v,by simp[Instr.extract,d],m⟩
theorem AWM{ρ:Loc}{t e:TypeId}(f:P.underlying t=some (.slice e)){x r:V}{u:Value}(d:Aa ρ x u)(h:lenV x=some r)(ty:TypeId)(w:World):∃val,(Builtin.len_ #[t] ty #[u]).run P w=.ok val w/\Aa ρ r val:=by
 have key:∃p n c,u=.slice p n c/\r=.int .i64 (.ofNat n) 0:=by
  cases x<;>simp only[lenV]at h<;>try (cases h;done)
  ·simp only[Aa]at d;exact⟨_,_,_,d,(Option.some.inj h).symm⟩
  ·simp only[Aa]at d;obtain⟨_,_,_,d,_⟩:=d;exact⟨_,_,_,d,(Option.some.inj h).symm⟩
  ·simp only[Aa]at d;obtain⟨_,_,_,_,d,_⟩:=d;exact⟨_,_,_,d,(Option.some.inj h).symm⟩
  ·simp only[Aa]at d;obtain⟨_,d,_⟩:=d;exact⟨_,_,_,d,(Option.some.inj h).symm⟩
 obtain⟨p,n,c,rfl,rfl⟩:=key
 exact⟨_,by simp[Builtin.len_,run_underlying f];rfl,by simp[Aa,goInt]⟩
theorem AYt{ρ:Loc}{t:TypeId}(d:P.underlying t=some .string){x r:V}{u:Value}(f:Aa ρ x u)(h:x.VK (λn _=>some (.int .i64 (.ofNat n) 0))=some r)(ty:TypeId)(w:World):
 ∃val,(Builtin.len_ #[t] ty #[u]).run P w=.ok val w/\Aa ρ r val:=by
 rw[IJ]at h
 obtain⟨n,c,rfl,h⟩:=h
 cases h
 obtain⟨s,rfl,rfl,_⟩:=JW f
 exact⟨_,by simp[Builtin.len_,run_underlying d];rfl,by simp only[Aa,goInt,Nv];rfl⟩
theorem AYy{ρ:Loc}{t e:TypeId}{n:Nat}(d:P.underlying t=some (.array n e)){u:Value}(ty:TypeId)(w:World):
 ∃val,(Builtin.len_ #[t] ty #[u]).run P w=.ok val w/\Aa ρ (.int .i64 (.ofNat n) 0) val:=
 ⟨_,by simp[Builtin.len_,run_underlying d];rfl,by simp[Aa,goInt]⟩
variable{P:Program}
def AOT(ρ:Loc)(E:RS):Option X->Option Value->Prop
 |none,none=>True
 |some x,some v=>Aa ρ (x.ev E) v
 |_,_=>False
theorem Gt{ρ:Loc}{E:RS}{x:Option X}{ov:Option Value}(i:AOT ρ E x ov){d:Nat}{f:Nat->Option V}{r:V}(h:lu x E d f=some r):
 ∃n:Nat,f n=some r/\((ov=none/\n=d)∨∃k,ov=some (.int k n)):=by
 cases x with
 |none=>
  cases ov with
  |none=>exact⟨d,h,.inl ⟨rfl,rfl⟩⟩
  |some v=>exact i.elim
 |some x=>
  cases ov with
  |none=>exact i.elim
  |some v=>
   have p:Ym (x.ev E) f=some r:=h
   rw[RD]at p
   obtain⟨k,m,q,u⟩:=p
   have g:Aa ρ (x.ev E) v:=i
   rw[q]at g
   simp only[Aa]at g
   subst g
   exact⟨m,u,.inr ⟨k,rfl⟩⟩
theorem SC{k:IntKind}{n y:Nat}{d:BoundsCode}(h:n<=y)(w:World):(Instr.sliceBound (.int k n) y d).run P w=.ok n w:=by
 have f:(0:Int)<=n/\(n:Int)<=y:=⟨by omega,by omega⟩
 simp[Instr.sliceBound,asIntOf,f]
theorem Ut{b:Bool}{len cap l h m:Nat}{lo hi mx:Option Value}(u:(mx=none/\m=cap)∨∃k,mx=some (.int k m))(hh:(hi=none/\h=len)∨∃k,hi=some (.int k h))(f:(lo=none/\l=0)∨∃k,lo=some (.int k l))
 (g:hi=none->mx=none) (p:m<=cap) (d:h<=m) (i:l<=h) (w:World):(Instr.sliceBounds b len cap lo hi mx).run P w=.ok (l,h,m) w:=by
 rcases u with⟨rfl,rfl⟩|⟨x,rfl⟩
 ·rcases hh with⟨rfl,rfl⟩|⟨v,rfl⟩
  ·rcases f with⟨rfl,rfl⟩|⟨q,rfl⟩
   ·simp[Instr.sliceBounds]
   ·simp[Instr.sliceBounds,SC i]
  ·rcases f with⟨rfl,rfl⟩|⟨q,rfl⟩
   ·simp[Instr.sliceBounds,SC d]
   ·simp[Instr.sliceBounds,SC d,SC i]
 ·rcases hh with⟨rfl,rfl⟩|⟨v,rfl⟩
  ·exact absurd (g rfl) (by simp)
  ·rcases f with⟨rfl,rfl⟩|⟨q,rfl⟩
   ·simp[Instr.sliceBounds,SC p,SC d]
   ·simp[Instr.sliceBounds,SC p,SC d,SC i]
@[simp] theorem ALh(a b c:Nat)(f:Nat->Nat->Nat->V):f3 a b c f=some (f a b c):=by simp[f3]
theorem AFX{z:Info}{a:Addr}{o esz cap l:Nat}(h:cap=0∨a=⟨z.b,z.base+o*esz,none⟩){m:Nat}(d:l<=m)(f:m<=cap):
 m-l=0∨(if m=l then a else a.add (l*esz))=⟨z.b,z.base+(o+l)*esz,none⟩:=by
 rcases Nat.eq_or_lt_of_le d with e|e
 ·left;omega
 ·right
  rw[if_neg (by omega)]
  exact APK h (by omega)
theorem Wi{t e:TypeId}{esz:Nat}(f:P.underlying t=some (.slice e))(g:szT P e=some esz){a:Option Addr}{len cap l h m:Nat}{lo hi mx:Option Value}{w:World}(i:(Instr.sliceBounds true len cap lo hi mx).run P w=.ok (l,h,m) w):
 (Instr.sliceAt t (.slice a len cap) lo hi mx).run P w=.ok (.slice (if m=l then a else a.map (·.add (l*esz))) (h-l) (m-l)) w:=by
 have d:=run_sizeOf (P:=P) g w
 simp[Instr.sliceAt,Instr.slice,run_underlying f,i,d]
theorem Aag{ρ:Loc}{E:RS}{t e:TypeId}{esz:Nat}(Q:P.underlying t=some (.slice e))(R:szT P e=some esz){x:V}{u:Value}(D:Aa ρ x u){lo hi mx:Option X}{vlo vhi A:Option Value}
 (F:AOT ρ E lo vlo) (y:AOT ρ E hi vhi) (B:AOT ρ E mx A) (hc:mx.isSome=true->hi.isSome=true) {r:V} (h:wB esz x E lo hi mx=some r) (w:World):
 ∃val,(Instr.sliceAt t u vlo vhi A).run P w=.ok val w/\Aa ρ r val:=by
 have S:vhi=none->A=none:=by
  intro hv
  subst hv
  cases hi with
  |some _=>exact y.elim
  |none=>
   cases mx with
   |some _=>exact absurd (hc rfl) (by simp)
   |none=>cases A with
    |none=>rfl
    |some _=>exact B.elim
 unfold wB at h
 cases x<;>simp only[V.AZN]at h<;>try (cases h;done)
 ·
   simp only[Aa]at D
   subst D
   unfold AJm at h
   obtain⟨m,h,Y⟩:=Gt B h
   obtain⟨i,h,G⟩:=Gt y h
   obtain⟨C,h,I⟩:=Gt F h
   rw[BJ]at h
   obtain⟨p,h⟩:=h
   cases h
   simp only[BK,Bool.and_eq_true,beq_iff]at p
   obtain⟨Z,d0,rfl⟩:=p
   have T:C<=i:=Nat.le_of_ble_eq_true Z
   have U:i<=0:=Nat.le_of_ble_eq_true d0
   have q:=Ut (P:=P) (b:=true) (len:=0) (cap:=0) (m:=0) Y G I S (Nat.le_refl _) U T w
   have e0:C=0:=by omega
   have e1:i=0:=by omega
   subst e0 e1
   exact⟨_,Wi Q R q,by simp[Aa]⟩
 ·rename_i id v C f es
  unfold ARY at h
  rw[BJ,beq_iff]at h
  obtain⟨rfl,h⟩:=h
  obtain⟨m,h,Y⟩:=Gt B h
  obtain⟨i,h,G⟩:=Gt y h
  obtain⟨l,h,I⟩:=Gt F h
  rw[BJ,ALh]at h
  obtain⟨p,h⟩:=h
  cases h
  simp only[BK,Bool.and_eq_true]at p
  have M:l<=i:=Nat.le_of_ble_eq_true p.1
  have O:i<=m:=Nat.le_of_ble_eq_true p.2.1
  have b3:m<=f:=Nat.le_of_ble_eq_true p.2.2
  simp only[Aa]at D
  obtain⟨z,a,J,rfl,K,W⟩:=D
  have q:=Ut (P:=P) (b:=true) (len:=C) (cap:=f) Y G I S b3 O M w
  refine⟨_,Wi Q R q,?_⟩
  simp only[Aa]
  refine⟨z,if m=l then a else a.add (l*esz),J,?_,AFX K (by omega) b3,?_⟩
  ·congr 1;split<;>rfl
  ·show i-l<=m-l;omega
 ·rename_i id v C es
  unfold AGu at h
  rw[BJ,beq_iff]at h
  obtain⟨rfl,h⟩:=h
  simp only[Aa]at D
  obtain⟨z,a,L,J,rfl,K,W,N⟩:=D
  cases mx with
  |none=>
   cases A with
   |some _=>exact B.elim
   |none=>
    have g:AJE E lo hi id v C esz=some r:=h
    unfold AJE at g
    obtain⟨i,g,G⟩:=Gt y g
    obtain⟨l,g,I⟩:=Gt F g
    rw[BJ,ALh]at g
    obtain⟨p,g⟩:=g
    cases g
    simp only[BK,Bool.and_eq_true]at p
    have M:l<=i:=Nat.le_of_ble_eq_true p.1
    have O:i<=C:=Nat.le_of_ble_eq_true p.2
    have q:=Ut (P:=P) (b:=true) (len:=C) (cap:=L) (m:=L) (.inl ⟨rfl,rfl⟩) G I (λ_=>rfl) (Nat.le_refl _) (by omega) M w
    refine⟨_,Wi Q R q,?_⟩
    simp only[Aa]
    refine⟨z,if L=l then a else a.add (l*esz),L-l,J,?_,AFX K (by omega) (Nat.le_refl _),?_,?_⟩
    ·congr 1;split<;>rfl
    ·show i-l<=L-l;omega
    ·have:Nat.add v l+(L-l)=v+L:=by show v+l+(L-l)=_;omega
     rw[this];exact N
  |some mx=>
   cases A with
   |none=>exact B.elim
   |some vm=>
    have g:AJb E lo hi mx id v C esz=some r:=h
    unfold AJb at g
    rw[RD]at g
    obtain⟨km,m,d1,g⟩:=g
    have H:Aa ρ (mx.ev E) vm:=B
    rw[d1]at H
    simp only[Aa]at H
    subst H
    have d2:∃D,hi=some D:=Option.isSome_iff_exists.1 (hc rfl)
    obtain⟨D,rfl⟩:=d2
    obtain⟨i,g,G⟩:=Gt y g
    obtain⟨l,g,I⟩:=Gt F g
    rw[BJ,ALh]at g
    obtain⟨p,g⟩:=g
    cases g
    simp only[BK,Bool.and_eq_true]at p
    have M:l<=i:=Nat.le_of_ble_eq_true p.1
    have O:i<=m:=Nat.le_of_ble_eq_true p.2.1
    have b3:m<=C:=Nat.le_of_ble_eq_true p.2.2
    have d3:(vhi=none/\i=C)∨∃k,vhi=some (.int k i):=by
     rcases G with⟨e,_⟩|G
     ·subst e;exact y.elim
     ·exact .inr G
    have q:=Ut (P:=P) (b:=true) (len:=C) (cap:=L) (m:=m) (.inr ⟨km,rfl⟩) d3 I (λe=>absurd e (by rintro rfl;exact y.elim)) (by omega) O M w
    refine⟨_,Wi Q R q,?_⟩
    simp only[Aa]
    refine⟨z,if m=l then a else a.add (l*esz),J,?_,?_,?_⟩
    ·congr 1;split<;>rfl
    ·have:=AFX K (l:=l) (m:=m) (by omega) (by omega)
     exact this
    ·show i-l<=m-l;omega
 ·rename_i b v C f es
  unfold AKi at h
  obtain⟨i,h,G⟩:=Gt y h
  obtain⟨l,h,I⟩:=Gt F h
  cases mx with
  |some mx=>cases h
  |none=>
   cases A with
   |some _=>exact B.elim
   |none=>
    have g:BI (band (Nat.ble l i) (Nat.ble i f)) (f3 (Nat.add v (Nat.mul l esz)) (Nat.sub i l) (Nat.sub f l) λo d c=>.rsl b o d c es)=some r:=h
    rw[BJ,ALh]at g
    obtain⟨p,g⟩:=g
    cases g
    simp only[BK,Bool.and_eq_true]at p
    have M:l<=i:=Nat.le_of_ble_eq_true p.1
    have O:i<=f:=Nat.le_of_ble_eq_true p.2
    simp only[Aa]at D
    obtain⟨a,rfl,K,W⟩:=D
    have q:=Ut (P:=P) (b:=true) (len:=C) (cap:=f) (m:=f) (.inl ⟨rfl,rfl⟩) G I (λ_=>rfl) (Nat.le_refl _) O M w
    refine⟨_,Wi Q R q,?_⟩
    simp only[Aa]
    by_cases e:f=l
    ·rw[if_pos e]
     refine⟨a,rfl,.inl (by show f-l=0;omega),?_⟩
     show i-l<=f-l;omega
    ·rw[if_neg e]
     refine⟨_,rfl,.inr ?_,?_⟩
     ·rcases K with K|K
      ·omega
      ·rw[K];exact add_lit b v (l*esz)
     ·show i-l<=f-l;omega
theorem toList_extract(s:ByteArray)(l h:Nat):(s.extract l h).data.toList=(s.data.toList.drop l).take (h-l):=by
 rw[ByteArray.data_extract]
 simp
theorem ARZ{ρ:Loc}{E:RS}{t:TypeId}(q:P.underlying t=some .string){x:V}{u:Value}(v:Aa ρ x u){lo hi:Option X}{vlo vhi:Option Value}
 (f:AOT ρ E lo vlo) (g:AOT ρ E hi vhi) {r:V} (h:AT0 x E lo hi=some r) (w:World):
 ∃val,(Instr.sliceAt t u vlo vhi none).run P w=.ok val w/\Aa ρ r val:=by
 unfold AT0 at h
 rw[IJ]at h
 obtain⟨y,c,rfl,h⟩:=h
 obtain⟨d,h,A⟩:=Gt g h
 obtain⟨l,h,B⟩:=Gt f h
 rw[BJ,ALh]at h
 obtain⟨i,h⟩:=h
 cases h
 simp only[BK,Bool.and_eq_true]at i
 have C:l<=d:=Nat.le_of_ble_eq_true i.1
 have D:d<=y:=Nat.le_of_ble_eq_true i.2
 obtain⟨s,rfl,rfl,rfl⟩:=JW v
 have k:=Nv s
 have p:=Ut (P:=P) (b:=false) (len:=s.size) (cap:=s.size) (m:=s.size) (mx:=none) (.inl ⟨rfl,rfl⟩) (by rw[k];exact A) B (λ_=>rfl) (Nat.le_refl _) (by omega) C w
 refine⟨.string (s.extract l d),?_,⟨_,rfl,?_,?_⟩⟩
 ·simp[Instr.sliceAt,Instr.slice,run_underlying q,p]
 ·rw[toList_extract];simp only[List.length_take,List.length_drop];show _=d-l;omega
 ·rw[toList_extract,AW5]
theorem AYZ{ρ:Loc}{E:RS}{t e:TypeId}{n esz:Nat}(A:P.underlying t=some (.array n e))(B:szT P e=some esz){x:V}{u:Value}(v:Aa ρ x u){lo hi:Option X}{vlo vhi:Option Value}
 (g:AOT ρ E lo vlo) (i:AOT ρ E hi vhi) {r:V}
 (h:x.AQb (λy o=>lu hi E n λh=>lu lo E 0 λl=>BI (band (Nat.beq (Nat.mod o esz) 0) (band (Nat.ble l h) (Nat.ble h n))) (f3 (Nat.add (Nat.div o esz) l) (Nat.sub h l) (Nat.sub n l) λa b c=>.sl y a b c esz)) (λ_ _=>none)=some r) (w:World):
 ∃val,(Instr.sliceAt t u vlo vhi none).run P w=.ok val w/\Aa ρ r val:=by
 rw[AJq]at h
 rcases h with⟨y,o,rfl,h⟩|⟨_,_,_,h⟩
 ·obtain⟨d,h,C⟩:=Gt i h
  obtain⟨l,h,D⟩:=Gt g h
  rw[BJ,ALh]at h
  obtain⟨f,h⟩:=h
  cases h
  simp only[BK,Bool.and_eq_true,beq_iff]at f
  have J:o%esz=0:=f.1
  have F:l<=d:=Nat.le_of_ble_eq_true f.2.1
  have G:d<=n:=Nat.le_of_ble_eq_true f.2.2
  simp only[Aa]at v
  obtain⟨z,k,rfl⟩:=v
  have p:=Ut (P:=P) (b:=false) (len:=n) (cap:=n) (m:=n) (mx:=none) (.inl ⟨rfl,rfl⟩) C D (λ_=>rfl) (Nat.le_refl _) G F w
  have q:=run_sizeOf (P:=P) B w
  refine⟨.slice (some (if n=l then⟨z.b,z.base+o,none⟩else(⟨z.b,z.base+o,none⟩:Addr).add (l*esz))) (d-l) (n-l),?_,?_⟩
  ·simp[Instr.sliceAt,run_underlying A,Instr.sureAddr,p,q]
  ·simp only[Aa]
   refine⟨z,_,k,rfl,?_,by show d-l<=n-l;omega⟩
   have H:esz*(o/esz)+o%esz=o:=Nat.div_add_mod o esz
   have I:n=0∨(⟨z.b,z.base+o,none⟩:Addr)=⟨z.b,z.base+(o/esz)*esz,none⟩:=by
    right;congr 2;rw[Nat.mul_comm];omega
   exact AFX I (by omega) (Nat.le_refl _)
 ·cases h
variable{P:Program}
theorem APV{u:Value}(h:u.oneCell'=true):u.cells= #[u]:=by cases u<;>first|rfl|(simp[Value.oneCell']at h)
theorem ABD{ρ:Loc}{v:V}{u:Value}(h:Aa ρ v u)(g:Zp v=true):Bq ρ (A8 v) u.cells.toList/\∀y∈u.cells.toList,y.oneCell'=true:=by
 by_cases f:APm v=true
 ·have d:=h.one f
  rw[APV d]
  have:A8 v=[v]:=by cases v<;>first|rfl|(simp[APm]at f)
  rw[this]
  exact⟨.cons h .nil,by simpa using d⟩
 ·cases v<;>first|(exact absurd rfl f)|(simp[Zp]at g;done)|skip
  simp only[Aa]at h
  obtain⟨a,rfl,i,d⟩:=h
  exact⟨i,d⟩
theorem AGt:∀(l:List Value) (cells:Array Value) (off k:Nat),off+k+l.length<=cells.size->
 ((l.zipIdx k).foldl (λcs x=>match x with|(c,j)=>cs.setIfInBounds (off+j) c) cells).toList=NU cells.toList (off+k) l
 |[],cells,off,k,_=>by simp[NU]
 |v::l,cells,off,k,h=>by
  simp only[List.zipIdx_cons,List.foldl_cons]
  rw[AGt l (cells.setIfInBounds (off+k) v) off (k+1) (by simp at h⊢;omega)]
  have e:=list_seg_step cells.toList (off+k) v l (by simp at h⊢;omega)
  simpa[NU,Array.toList_setIfInBounds,Nat.add_assoc]using e
def dR(f:Operand->Option X)(places:Nat->Option (Nat×Nat))(zn:Nat):List (Nat×Operand)->Option (List (Nat×Nat×X))
 |[]=>some []
 |(i,o)::r=>(places i).bind λp=>if p.1+p.2<=zn then(f o).bind λx=>(dR f places zn r).map λr'=>(p.1,p.2,x)::r' else none
theorem APn{ρ:Loc}{E:RS}{g:Operand->Value}{f:Operand->Option X}(U:∀o x,f o=some x->Aa ρ (x.ev E) (g o)){k:Nat->Option (Nat×Nat)}{K:Nat}:
 ∀(ps:List (Nat×Operand)) (m:List (Nat×Nat×X)) (z:LV) (cells:Array Value),dR f k K ps=some m->qW m E=true->Bq ρ z cells.toList->(∀y∈cells.toList,y.oneCell'=true)->cells.size=K->
  ∃d,Instr.fill k cells (ps.map λp=>(p.1,g p.2))=some d/\Bq ρ (AH1 m E z) d.toList/\(∀y∈d.toList,y.oneCell'=true)
 |[],m,z,cells,h,_,L,M,_=>by
  simp only[dR]at h
  cases h
  exact⟨cells,rfl,L,M⟩
 |(i,o)::r,m,z,cells,h,Y,L,M,hs=>by
  simp only[dR,Option.bind_eq_some_iff]at h
  obtain⟨p,hp,h⟩:=h
  split at h
  ·rename_i V
   simp only[Option.bind_eq_some_iff]at h
   obtain⟨x,Z,h⟩:=h
   cases N:dR f k K r with
   |none=>rw[N]at h;cases h
   |some W=>
    rw[N]at h
    cases h
    have F:band (band (Zp (x.ev E)) (Nat.beq (len (A8 (x.ev E))) p.2)) (qW W E)=true:=Y
    simp only[BK,Bool.and_eq_true,beq_iff,len_eq]at F
    obtain⟨⟨O,G⟩,u⟩:=F
    obtain⟨v,H⟩:=ABD (U o x Z) O
    have w:(g o).cells.toList.length=p.2:=by rw[<-v.length,G]
    have P:(g o).cells.size=p.2:=by simpa using w
    have I:=AGt (g o).cells.toList cells p.1 0 (by rw[w];omega)
    simp only[Nat.add_zero]at I
    generalize hcs:((g o).cells.toList.zipIdx 0).foldl (λQ x=>match x with|(c,j)=>Q.setIfInBounds (p.1+j) c) cells=cells1 at I
    have R:cells1.size=K:=by
     have:cells1.toList.length=cells.toList.length:=by rw[I,ZF _ _ _ (by rw[w];simp;omega)]
     simpa[hs]using this
    have S:Bq ρ (AP4 (A8 (x.ev E)) p.1 z) cells1.toList:=by
     rw[I,AJN,NU,v.length,List.append_assoc]
     exact(L.take _).append (v.append (L.drop _))
    have T:∀y∈cells1.toList,y.oneCell'=true:=by
     intro y q
     rw[I,NU]at q
     rcases List.mem_append.1 q with q|q
     ·rcases List.mem_append.1 q with q|q
      ·exact M y (List.mem_of_mem_take q)
      ·exact H y q
     ·exact M y (List.mem_of_mem_drop q)
    obtain⟨d,A,J,B⟩:=APn U r W _ cells1 N u S T R
    refine⟨d,?_,J,B⟩
    have C:(decide ((g o).cells.size≠p.2)||decide (p.1+(g o).cells.size>cells.size))=false:=by
     rw[P,hs];simp;omega
    have D:(g o).cells.zipIdx.foldl (λQ x=>match x with|(c,j)=>Q.setIfInBounds (p.1+j) c) cells=cells1:=by
     rw[<-hcs,<-Array.foldl_toList,Array.toList_zipIdx]
    simp only[List.map_cons,Instr.fill,hp]
    rw[if_neg (by rw[C];simp)]
    rw[D]
    exact A
  ·cases h
def APT(P:Program)(t:TypeId):Option (Nat->Option (Nat×Nat)):=
 match P.underlying t with
 |some (.struct fields)=>(fields.toList.mapM λf=>(P.info? f.type).map λi=>(f.offset,i.size)).map λplaces=>λi=>places.toArray[i]?
 |some (.array _ e)=>(P.info? e).map λie=>λi=>some (i*ie.size,ie.size)
 |_=>none
theorem AVF{ρ:Loc}{E:RS}{g:Operand->Value}{f:Operand->Option X}(M:∀o x,f o=some x->Aa ρ (x.ev E) (g o)){t:TypeId}{m:Nat->Option (Nat×Nat)}(hp:APT P t=some m)
 {z:LV} (D:AF6 P t=some z) {ps:Array (Nat×Operand)} {q:List (Nat×Nat×X)} (F:dR f m z.length ps.toList=some q) {r:V} (h:BI (qW q E) (some (.agg (AH1 q E z)))=some r) (w:World):
 ∃val,(Instr.build t (ps.map λ(i,x)=>(i,g x))).run P w=.ok val w/\Aa ρ r val:=by
 rw[BJ]at h
 obtain⟨N,h⟩:=h
 cases h
 unfold AF6 at D
 simp only[Option.bind_eq_some_iff]at D
 obtain⟨i,L,O,y,G⟩:=D
 obtain⟨A,_,H⟩:=AAi (ρ:=ρ) G
 obtain⟨d,k,B,C⟩:=APn M ps.toList q z O.cells F N A H (by rw[<-Array.length_toList,<-A.length])
 refine⟨.agg d,?_,⟨d,rfl,B,C⟩⟩
 refine run_build w t _ d ?_
 have Q:(ps.map λ(i,x)=>(i,g x)).toList=ps.toList.map λp=>(p.1,g p.2):=by simp
 rw[Q]
 unfold APT at hp
 unfold Program.built
 split at hp
 ·rename_i u I
  cases J:u.toList.mapM (λf=>(P.info? f.type).map λi=>(f.offset,i.size))with
  |none=>rw[J]at hp;cases hp
  |some R=>
   rw[J]at hp
   have v:=Option.some.inj hp
   simp only[L,I,y,J]
   rw[<-v]at k
   exact k
 ·rename_i n e I
  cases K:P.info? e with
  |none=>rw[K]at hp;cases hp
  |some S=>
   rw[K]at hp
   have v:=Option.some.inj hp
   simp only[L,I,y,K]
   rw[<-v]at k
   exact k
 ·cases hp
variable{P:Program}
def AFz(P:Program)(t:TypeId):Option CK:=
 match P.underlying t with
 |some (.int _)=>some .int
 |some .string=>some .str
 |some .bool=>some .bool
 |_=>none
theorem run_checkKey{t:TypeId}{c:CK}(h:AFz P t=some c)(b:Bool)(d:Nat)(u:Value)(w:World):(Instr.checkKey b (d+1) t u).run P w=.ok () w:=by
 unfold AFz at h
 split at h<;>first|(cases h;done)|(rename_i f;simp[Instr.checkKey,run_underlying f])
theorem ANU(a b:ByteArray):(a==b)=(a.data.toList==b.data.toList):=by rw[beq_toListBytes,ByteArray.toList_eq,ByteArray.toList_eq]
theorem AYK{ρ:Loc}{t:TypeId}{c:CK}{d:TypeDesc}(hd:P.underlying t=some d)(h:AFz P t=some c){x y:V}{u B:Value}(w:Aa ρ x u)(A:Aa ρ y B){b:Bool}(C:c.eq x y=some b):
 Instr.sameNow d B u=some b/\(b=true->u=B)/\Instr.sameBits 10000 u u=true:=by
 unfold AFz at h
 rw[hd]at h
 split at h<;>rename_i g<;>try (cases h;done)
 ·cases h
  cases g
  have f:AQG x y=some b:=C
  cases x<;>simp only[AQG]at f<;>try (cases f;done)
  obtain⟨m,E,rfl,rfl⟩:=ADp f
  simp only[Aa]at w A
  subst w A
  rename_i k n s
  refine⟨?_,?_,?_⟩
  ·simp only[Instr.sameNow,if_true,Option.some.injEq]
   rw[Bool.eq_iff_iff];simp only[beq_iff_eq];exact eq_comm
  ·intro e;simp only[beq_iff_eq]at e;rw[e]
  ·show(k==k&&n==n)=true;simp
 ·cases h
  cases g
  have f:AQ5 x y=some b:=C
  cases x<;>simp only[AQ5]at f<;>try (cases f;done)
  cases y<;>simp only[eqStr]at f<;>try (cases f;done)
  obtain⟨v,rfl,rfl,rfl⟩:=JW w
  obtain⟨D,rfl,rfl,rfl⟩:=JW A
  simp only[BK]at f
  have i:(v.data.toList==D.data.toList)=b:=by rw[ANe];exact Option.some.inj f
  refine⟨?_,?_,?_⟩
  ·simp only[Instr.sameNow,Option.some.injEq,ANU]
   rw[<-i,Bool.eq_iff_iff];simp only[beq_iff_eq];exact eq_comm
  ·intro e;subst e;simp only[beq_iff_eq]at i
   have:v.data=D.data:=by rw[<-Array.toArray_toList (xs:=v.data),i,Array.toArray_toList]
   cases v;cases D;simp only at this;subst this;rfl
  ·show(v==v)=true;rw[ANU];simp
 ·cases h
  cases g
  have f:AIL x y=some b:=C
  cases x<;>simp only[AIL]at f<;>try (cases f;done)
  cases y<;>simp only[ARw]at f<;>try (cases f;done)
  simp only[Aa]at w A
  subst w A
  rename_i p q
  simp only[AOo]at f
  have i:=Option.some.inj f
  refine⟨?_,?_,?_⟩
  ·simp only[Instr.sameNow,Option.some.injEq]
   rw[<-i];cases p<;>cases q<;>rfl
  ·intro e;subst e;simp only[beq_iff_eq]at i;rw[i]
  ·show(p==p)=true;simp
theorem sD{ρ:Loc}{t:TypeId}{c:CK}{d:TypeDesc}(hd:P.underlying t=some d)(E:AFz P t=some c){k:V}{u:Value}(F:Aa ρ k u):
 ∀{w:ME} {f:List MapEntry} {i:Nat} {r:Option (Nat×V)},vJ c k w i=some r->KD ρ w f->
  (r=none/\Instr.findNow d u f i=some none)∨
  ∃j x v v' b y,r=some (i+j,v)/\Instr.findNow d u f i=some (some (i+j,v'))/\Aa ρ v v'/\w[j]? =some (x,v,b)/\f[j]? =some y/\y.key=u/\y.born=b/\Aa ρ x u/\Instr.sameBits 10000 u u=true
 |[],f,i,r,h,G=>by
  simp only[KD]at G
  subst G
  have g:some none=some r:=h
  cases g
  exact .inl ⟨rfl,rfl⟩
 |(x,v,b)::w,_,i,r,h,⟨e,f,rfl,H,I,J,K⟩=>by
  have g:BO (c.eq x k) (λq=>Bool.rec (vJ c k w (Nat.succ i)) (some (some (i,v))) q)=some r:=h
  rw[BX]at g
  obtain⟨q,L,g⟩:=g
  obtain⟨A,m,B⟩:=AYK hd E H F L
  cases q with
  |true=>
   have p:some (some (i,v))=some r:=g
   cases p
   refine .inr ⟨0,x,v,e.val,b,e,rfl,?_,I,rfl,rfl,m rfl,J,?_,?_⟩
   ·simp[Instr.findNow,A]
   ·rw[<-m rfl];exact H
   ·rw[<-m rfl];exact B
  |false=>
   have p:vJ c k w (i+1)=some r:=g
   rcases sD hd E F p K with⟨rfl,C⟩|⟨j,D,M,N,O,y,rfl,C,Q,R,S,T,U,W⟩
   ·exact .inl ⟨rfl,by simp[Instr.findNow,A,C]⟩
   ·refine .inr ⟨j+1,D,M,N,O,y,by rw[show i+1+j=i+(j+1)by omega],?_,Q,by simpa using R,by simpa using S,T,U,W⟩
    simp only[Instr.findNow,A]
    rw[C,show i+1+j=i+(j+1)by omega]
theorem AFL{v:World}{ρ:Loc}{H:Heap}{n:Nat}{w:World}(hh:DZ v ρ H n w){m:V}{u:Value}(k:Aa ρ m u){f:ME->Nat->Option V}{r:V}(h:Qc H m f=some r):
 ∃g i,f g i=some r/\((u=.map none/\g=[])∨∃b,∃d:Array MapEntry,u=.map (some b)/\w.heap[b]? =some (.map d i)/\KD ρ g d.toList):=by
 unfold Qc at h
 cases m<;>simp only[V.ATT]at h<;>try (cases h;done)
 ·simp only[Aa]at k
  exact⟨[],0,h,.inl ⟨k,rfl⟩⟩
 ·rename_i q
  simp only[Aa]at k
  obtain⟨x,y,rfl⟩:=k
  cases p:T.get H q with
  |none=>rw[p]at h;cases h
  |some b=>
   rw[p]at h
   cases b with
   |arr _ _ _=>cases h
   |dead=>cases h
   |qU _ _ _ _ _=>cases h
   |own _=>cases h
   |map g i=>
    obtain⟨d,A,B⟩:=hh.map q x g i y p
    exact⟨g,i,h,.inr ⟨x.b,d,rfl,A,B⟩⟩
theorem Uy{b:Nat}{w:World}{d:Array MapEntry}{f:Nat}(h:w.heap[b]? =some (.map d f)):(getObj b).run P w=.ok (.map d f) w:=by
 simp[getObj,Sem.run,h]
theorem AYN{U:World}{ρ:Loc}{H:Heap}{n:Nat}{w:World}(hh:DZ U ρ H n w){t B G:TypeId}{c:CK}{d:TypeDesc}(Q:P.underlying t=some (.map B G))(hd:P.underlying B=some d)(R:AFz P B=some c)
 {i:TypeInfo} {C:Value} (hi:P.info? G=some i) (W:i.zero=some C) {z:V} (D:Aa ρ z C) {m k:V} {u p:Value} (X:Aa ρ m u) (I:Aa ρ k p) {ok:Bool} {r:V}
 (h:Qc H m (λJ _=>BO (vJ c k J 0) (ARJ ok z))=some r):∃val,(Instr.lookup t u p ok).run P w=.ok val w/\Aa ρ r val:=by
 obtain⟨J,ck,h,x⟩:=AFL hh X h
 rw[BX]at h
 obtain⟨q,Y,h⟩:=h
 have y:(zeroValue G).run P w=.ok C w:=by simp[zeroValue,typeInfo,hi,W]
 have key:∀f:Array MapEntry,KD ρ J f.toList->∃val,Aa ρ r val/\
  ((do Instr.checkKey f.isEmpty 10000 B p
       let fd<-Instr.findKey B p f.toList
       let vo<-match fd with
        |some (_,v)=>(pure (v,true):Sem (Value×Bool))
        |none=>do let zz<-zeroValue G;pure (zz,false)
       pure (if ok then .tuple #[vo.1,.bool vo.2]else vo.1)):Sem Value).run P w=.ok val w:=by
  intro f K
  have E:=run_checkKey (P:=P) R f.isEmpty 9999 p w
  have F:∀L,Instr.findNow d p f.toList 0=some L->(Instr.findKey B p f.toList).run P w=.ok L w:=by
   intro L M
   simp[Instr.findKey,run_underlying hd,M]
  rcases sD hd R I Y K with⟨rfl,N⟩|⟨j,kv,v,S,b,e',rfl,N,T,_⟩
  ·have A:AHm ok (some (.Dl [z,.bool false])) (some z)=some r:=h
   rw[jE]at A
   refine⟨if ok then .tuple #[C,.bool false]else C,?_,?_⟩
   ·cases ok with
    |true=>cases A;simp only[Aa,if_true];exact⟨_,rfl,.cons D (.cons (by simp[Aa]) .nil)⟩
    |false=>cases A;exact D
   ·simp only[Sem.run_bind,E,Result.andThen_ok,F _ N,y,Sem.run_pure]
  ·have A:AHm ok (some (.Dl [v,.bool true])) (some v)=some r:=h
   rw[jE]at A
   refine⟨if ok then .tuple #[S,.bool true]else S,?_,?_⟩
   ·cases ok with
    |true=>cases A;simp only[Aa,if_true];exact⟨_,rfl,.cons T (.cons (by simp[Aa]) .nil)⟩
    |false=>cases A;exact T
   ·simp only[Sem.run_bind,E,Result.andThen_ok,F _ N,Sem.run_pure]
 rcases x with⟨rfl,rfl⟩|⟨b,f,rfl,Z,K⟩
 ·obtain⟨val,O,g⟩:=key #[] (by simp[KD])
  refine⟨val,?_,O⟩
  rw[<-g]
  simp only[Instr.lookup,Sem.run_bind,run_underlying Q,Result.andThen_ok]
  rfl
 ·obtain⟨val,O,g⟩:=key f K
  refine⟨val,?_,O⟩
  rw[<-g]
  simp only[Instr.lookup,Sem.run_bind,run_underlying Q,Result.andThen_ok,Uy Z]
  rfl
variable{P:Program}
structure Reads(ρ:Loc)(w:World)(b o:Nat)(LS:EL)(esz:Nat)(cs:List Value):Prop where
 rel:Bq ρ LS.flatten cs
 len:cs.length=LS.length*esz
 each:∀L∈LS,L.length=esz
 cell:∀j y,cs[j]? =some y->w.cell? ⟨b,o+j,none⟩=some y/\y.oneCell'=true
theorem Reads.nil(ρ:Loc)(w:World)(b o esz:Nat):Reads ρ w b o [] esz []:=⟨by simp,by simp,λL h=>(by cases h),λj y h=>by simp at h⟩
theorem Reads.cons{ρ:Loc}{w:World}{b o esz:Nat}{L:LV}{LS:EL}{d cs:List Value}(k:Bq ρ L d)(g:d.length=esz)(m:∀j y,d[j]? =some y->w.cell? ⟨b,o+j,none⟩=some y/\y.oneCell'=true)
 (h:Reads ρ w b (o+esz) LS esz cs):Reads ρ w b o (L::LS) esz (d++cs):=by
 refine⟨by simpa using k.append h.rel,by rw[List.length_append,h.len,g,List.length_cons,Nat.add_mul];omega,?_,?_⟩
 ·intro M i
  rcases List.mem_cons.1 i with rfl|i
  ·rw[k.length,g]
  ·exact h.each M i
 ·intro j y f
  by_cases p:j<esz
  ·rw[List.getElem?_append_left (by omega)]at f;exact m j y f
  ·rw[List.getElem?_append_right (by omega),g]at f
   have:=h.cell _ y f
   rwa [show o+esz+(j-esz)=o+j by omega]at this
theorem Yv{p:World}{ρ:Loc}{H:Heap}{m:Nat}{w:World}(hh:DZ p ρ H m w){G:AY}(q:Xf p G){id:Nat}{x:Info}(u:ρ id=some x){esz:Nat}:
 ∀(n o:Nat) (LS:EL),CQ H id esz n o=some LS->LS.length=n/\∃cs,Reads ρ w x.b (x.base+o*esz) LS esz cs
 |0,o,LS,h=>by
  have d:some []=some LS:=h
  cases d
  exact⟨rfl,[],Reads.nil _ _ _ _ _⟩
 |n+1,o,LS,h=>by
  have d:BO (mY H id (Nat.mul o esz) esz) (λL=>BO (CQ H id esz n (Nat.succ o)) λLS=>some (L::LS))=some LS:=h
  rw[BX]at d
  obtain⟨L,A,d⟩:=d
  rw[BX]at d
  obtain⟨g,i,d⟩:=d
  cases d
  have B:Aa ρ (.ptr id (o*esz)) (.pointer (some ⟨x.b,x.base+o*esz,none⟩)):=⟨x,u,rfl⟩
  obtain⟨a,C,D,_,E,F,I,J⟩:=oV hh q B (m:=esz) (L:=L) A
  cases D
  obtain⟨f,cs,k⟩:=Yv hh q u n (o+1) g i
  refine⟨by simp[f],C++cs,Reads.cons E F ?_ ?_⟩
  ·intro j y v
   have:=J j y v
   rw[add_lit]at this
   exact⟨this,I y (List.mem_of_getElem? v)⟩
  ·rw[show x.base+o*esz+esz=x.base+(o+1)*esz by rw[Nat.add_mul];omega]
   exact k
theorem yj{p:World}{ρ:Loc}{H:Heap}{m:Nat}{w:World}(hh:DZ p ρ H m w){G:AY}(q:Xf p G){b esz:Nat}:
 ∀(n o:Nat) (LS:EL),AAJ G b esz n o=some LS->LS.length=n/\∃cs,Reads ρ w b o LS esz cs
 |0,o,LS,h=>by
  have d:some []=some LS:=h
  cases d
  exact⟨rfl,[],Reads.nil _ _ _ _ _⟩
 |n+1,o,LS,h=>by
  have d:BO (G b o esz) (λL=>BO (AAJ G b esz n (Nat.add o esz)) λLS=>some (L::LS))=some LS:=h
  rw[BX]at d
  obtain⟨L,v,d⟩:=d
  rw[BX]at d
  obtain⟨g,i,d⟩:=d
  cases d
  have x:Aa ρ (.gptr b o) (.pointer (some ⟨b,o,none⟩)):=rfl
  obtain⟨a,A,B,_,C,D,E,F⟩:=oV hh q x (m:=esz) (L:=L) v
  cases B
  obtain⟨f,cs,k⟩:=yj hh q n (o+esz) g i
  refine⟨by simp[f],A++cs,Reads.cons C D ?_ k⟩
  intro j y u
  have:=F j y u
  rw[add_lit]at this
  exact⟨this,E y (List.mem_of_getElem? u)⟩
theorem AAB{ρ:Loc}:∀(l:List UInt8),Bq ρ (fE l.length (enc l)).flatten (l.map λb=>Value.int .u8 b.toNat)/\(fE l.length (enc l)).length=l.length/\∀L∈fE l.length (enc l),L.length=1
 |[]=>⟨Bq.nil,rfl,λL h=>(by cases h)⟩
 |b::l=>by
  have p:b.toNat<256:=b.toNat_lt
  have f:enc (b::l)%256=b.toNat:=by simp only[enc];omega
  have g:enc (b::l)/256=enc l:=by simp only[enc];omega
  obtain⟨i,k,m⟩:=AAB (ρ:=ρ) l
  have e:fE (b::l).length (enc (b::l))=[.int .u8 (.ofNat (enc (b::l)%256)) 0]::fE l.length (enc (b::l)/256):=rfl
  rw[e,f,g]
  refine⟨?_,by simp[k],?_⟩
  ·simp only[List.flatten_cons,List.cons_append,List.nil_append,List.map_cons]
   exact .cons (by simp[Aa]) i
  ·intro L d
   rcases List.mem_cons.1 d with rfl|d
   ·rfl
   ·exact m L d
theorem AKB{O:World}{ρ:Loc}{H:Heap}{m:Nat}{w:World}(hh:DZ O ρ H m w){G:AY}(I:Xf O G){v:V}{u:Value}(k:Aa ρ v u){esz:Nat}{LS:EL}(h:elems v G H esz=some LS):
 ∃cs:List Value,Bq ρ LS.flatten cs/\cs.length=LS.length*esz/\(∀L∈LS,L.length=esz)/\(∀y∈cs,y.oneCell'=true)/\
  ((u=.slice none 0 0/\LS=[])∨(∃a p,u=.slice (some a) LS.length p/\∀j y,cs[j]? =some y->w.cell? (a.add j)=some y)∨
   (∃s:ByteArray,u=.string s/\(∀L∈LS,L.length=1)/\LS.length=s.size/\cs=s.data.toList.map λb=>Value.int .u8 b.toNat)):=by
 have J:∀{b o:Nat} {cs:List Value} {a:Addr} {p:Nat},Reads ρ w b o LS esz cs->(0<LS.length->a=⟨b,o,none⟩)->u=.slice (some a) LS.length p->∃cs:List Value,Bq ρ LS.flatten cs/\cs.length=LS.length*esz/\(∀L∈LS,L.length=esz)/\(∀y∈cs,y.oneCell'=true)/\
  ((u=.slice none 0 0/\LS=[])∨(∃a p,u=.slice (some a) LS.length p/\∀j y,cs[j]? =some y->w.cell? (a.add j)=some y)∨
   (∃s:ByteArray,u=.string s/\(∀L∈LS,L.length=1)/\LS.length=s.size/\cs=s.data.toList.map λb=>Value.int .u8 b.toNat)):=by
  intro b o cs a p f q S
  refine⟨cs,f.rel,f.len,f.each,?_,.inr (.inl ⟨a,p,S,?_⟩)⟩
  ·intro y K
   obtain⟨j,A⟩:=List.mem_iff_getElem?.1 K
   exact(f.cell j y A).2
  ·intro j y A
   have B:0<LS.length:=by
    rcases Nat.eq_zero_or_pos LS.length with e|e
    ·have C:=f.len;rw[e,Nat.zero_mul]at C
     rw[List.length_eq_zero_iff.1 C]at A;simp at A
    ·exact e
   rw[q B,add_lit]
   exact(f.cell j y A).1
 cases v<;>simp only[elems]at h<;>try (cases h;done)
 ·rename_i l c
  obtain⟨s,rfl,rfl,rfl⟩:=JW k
  cases g:Nat.beq 1 esz with
  |false=>rw[g]at h;cases h
  |true=>
   rw[g]at h
   have e:=Nat.eq_of_beq_eq_true g
   subst e
   have T:fE s.data.toList.length (enc s.data.toList)=LS:=Option.some.inj h
   subst T
   obtain⟨U,P,Q⟩:=AAB (ρ:=ρ) s.data.toList
   refine⟨_,U,by rw[List.length_map,P];omega,Q,?_,.inr (.inr ⟨s,rfl,Q,by rw[P,Nv],rfl⟩)⟩
   intro y K
   obtain⟨b,_,rfl⟩:=List.mem_map.1 K
   rfl
 ·simp only[Aa]at k
  cases h
  exact⟨[],by simp,by simp,λL h=>(by cases h),λy h=>(by cases h),.inl ⟨k,rfl⟩⟩
 ·rename_i W i D M F
  cases g:Nat.beq F esz with
  |false=>rw[g]at h;cases h
  |true=>
   rw[g]at h
   have e:=Nat.eq_of_beq_eq_true g
   subst e
   simp only[Aa]at k
   obtain⟨x,a,N,rfl,q,E⟩:=k
   obtain⟨d,cs,f⟩:=Yv hh I N D i LS h
   subst d
   exact J f (λR=>by rcases q with e|e; · omega
                     ·exact e) rfl
 ·rename_i W i D F
  cases g:Nat.beq F esz with
  |false=>rw[g]at h;cases h
  |true=>
   rw[g]at h
   have e:=Nat.eq_of_beq_eq_true g
   subst e
   simp only[Aa]at k
   obtain⟨x,a,p,N,rfl,q,E,_⟩:=k
   obtain⟨d,cs,f⟩:=Yv hh I N D i LS h
   subst d
   exact J f (λR=>by rcases q with e|e; · omega
                     ·exact e) rfl
 ·rename_i b i D M F
  simp only[Aa]at k
  obtain⟨a,rfl,q,E⟩:=k
  obtain⟨d,cs,f⟩:=yj hh I D i LS h
  subst d
  exact J f (λR=>by rcases q with e|e; · omega
                    ·exact e) rfl
end Go.Bf
namespace Go.Bf
open Go.Lib (indexByte run_indexByteString)
variable{P:Program}
theorem Aa3{ρ:Loc}{x r:V}{u:Value}(d:Aa ρ x u)(h:x.Iq (λk n s=>mkI k (Int.neg n) s)=some r)(w:World):∃val,(Op.unary .neg u).run P w=.ok val w/\Aa ρ r val:=by
 rw[Cj]at h
 obtain⟨k,n,s,rfl,h⟩:=h
 simp only[Aa]at d
 subst d
 refine⟨_,?_,AGb h⟩
 have e:(0:Int)-n=Int.neg n:=by show 0-n= -n;omega
 simp[Op.unary,Op.intArith,e]
theorem Aa5{ρ:Loc}{x r:V}{u:Value}(d:Aa ρ x u)(h:x.yG (λb=>mkB (Qq b))=some r)(w:World):∃val,(Op.unary .not u).run P w=.ok val w/\Aa ρ r val:=by
 rw[AID]at h
 obtain⟨b,rfl,h⟩:=h
 simp only[Aa]at d
 subst d
 refine⟨.bool !b,by simp[Op.unary],?_⟩
 cases b<;>(cases h;simp[Aa])
theorem AZ2{ρ:Loc}{f g:TypeId}{k:IntKind}(hs:(P.underlying f).isSome=true)(hd:P.underlying g=some (.int k)){x r:V}{u:Value}(m:Aa ρ x u)(h:x.Iq (λ_ n s=>mkI k n s)=some r)(w:World):
 ∃val,(convert f g u).run P w=.ok val w/\Aa ρ r val:=by
 rw[Cj]at h
 obtain⟨p,n,s,rfl,h⟩:=h
 simp only[Aa]at m
 subst m
 refine⟨_,?_,AGb h⟩
 obtain⟨d,i⟩:=Option.isSome_iff_exists.1 hs
 simp[convert,run_underlying i,run_underlying hd,Conv.intToInt]
theorem AaN{ρ:Loc}{x y r:V}{u f:Value}(g:Aa ρ x u)(i:Aa ρ y f)
 (h:x.Iq (λk a s=>y.Iq λm b t=>BI (band (keq k m) (Nat.beq (Nat.add s t) 0)) (some (.int k (Bool.rec a b (ilt a b)) 0)))=some r) (p:Array TypeId) (ty:TypeId) (w:World):
 ∃val,(Builtin.max_ p ty #[u,f]).run P w=.ok val w/\Aa ρ r val:=by
 rw[Cj]at h
 obtain⟨k,a,s,rfl,h⟩:=h
 rw[Cj]at h
 obtain⟨m,b,t,rfl,h⟩:=h
 rw[BJ]at h
 obtain⟨_,h⟩:=h
 cases h
 simp only[Aa]at g i
 subst g i
 refine⟨.int k (if b>a then b else a),by simp[Builtin.max_,Builtin.max2],?_⟩
 simp only[Aa]
 cases d:ilt a b with
 |true=>rw[ZX]at d;simp only[decide_eq_true_eq]at d;rw[if_pos d]
 |false=>rw[ZX]at d;simp only[decide_eq_false_iff_not]at d;rw[if_neg d]
theorem AZu{ρ:Loc}{x y r:V}{u f:Value}(g:Aa ρ x u)(i:Aa ρ y f)
 (h:x.Iq (λk a s=>y.Iq λm b t=>BI (band (keq k m) (Nat.beq (Nat.add s t) 0)) (some (.int k (Bool.rec a b (ilt b a)) 0)))=some r) (p:Array TypeId) (ty:TypeId) (w:World):
 ∃val,(Builtin.min_ p ty #[u,f]).run P w=.ok val w/\Aa ρ r val:=by
 rw[Cj]at h
 obtain⟨k,a,s,rfl,h⟩:=h
 rw[Cj]at h
 obtain⟨m,b,t,rfl,h⟩:=h
 rw[BJ]at h
 obtain⟨_,h⟩:=h
 cases h
 simp only[Aa]at g i
 subst g i
 refine⟨.int k (if b<a then b else a),by simp[Builtin.min_,Builtin.min2],?_⟩
 simp only[Aa]
 cases d:ilt b a with
 |true=>rw[ZX]at d;simp only[decide_eq_true_eq]at d;rw[if_pos d]
 |false=>rw[ZX]at d;simp only[decide_eq_false_iff_not]at d;rw[if_neg d]
theorem AXW{ρ:Loc}{c x y r:V}{u d f:Value}(g:Aa ρ c f)(i:Aa ρ x u)(k:Aa ρ y d)(h:c.yG (λt=>AHm t (some x) (some y))=some r)(w:World):
 ∃val,(do pure (Next.value (if<-asBool f then u else d)):Sem Next).run P w=.ok (.value val) w/\Aa ρ r val:=by
 rw[AID]at h
 obtain⟨b,rfl,h⟩:=h
 simp only[Aa]at g
 subst g
 rw[jE]at h
 refine⟨if b then u else d,by simp[asBool],?_⟩
 cases b<;>(simp only[Bool.false_eq_true,if_false,if_true]at h⊢;cases h;assumption)
theorem nN{ρ:Loc}{E:RS}{g:Operand->Value}{f:Operand->Option X}(d:∀o x,f o=some x->Aa ρ (x.ev E) (g o)):∀(l:List Operand) (l':List X),l.mapM f=some l'->Bq ρ (nH l' E) (l.map g)
 |[],l',h=>by simp at h;subst h;exact Bq.nil
 |o::l,l',h=>by
  rw[List.mapM_cons]at h
  simp only[Option.bind_eq_bind,Option.bind_eq_some_iff]at h
  obtain⟨x,i,k,m,e⟩:=h
  cases e
  exact .cons (d _ _ i) (nN d l k m)
theorem AH9{ρ:Loc}:∀{f:ME} {d:List MapEntry},KD ρ f d->f.length=d.length
 |[],_,h=>by simp only[KD]at h;subst h;rfl
 |(k,v,b)::f,_,h=>by
  simp only[KD]at h
  obtain⟨e,d,rfl,_,_,_,h⟩:=h
  simp[AH9 h]
theorem AXX{i:World}{ρ:Loc}{H:Heap}{n:Nat}{w:World}(hh:DZ i ρ H n w){t k m:TypeId}(f:P.underlying t=some (.map k m)){x r:V}{u:Value}(p:Aa ρ x u)
 (h:Qc H x (λg _=>Dx (len g) λn=>some (.int .i64 (.ofNat n) 0))=some r) (ty:TypeId):∃val,(Builtin.len_ #[t] ty #[u]).run P w=.ok val w/\Aa ρ r val:=by
 obtain⟨g,A,h,q⟩:=AFL hh p h
 rw[Bv]at h
 cases h
 rcases q with⟨rfl,rfl⟩|⟨b,d,rfl,v,y⟩
 ·exact⟨goInt 0,by simp[Builtin.len_,run_underlying f],by simp[Aa,goInt,len_eq]⟩
 ·refine⟨goInt d.size,by simp[Builtin.len_,run_underlying f,Uy v],?_⟩
  simp only[Aa,goInt,len_eq,AH9 y];simp
theorem AV0{ρ:Loc}{x r:V}{u:Value}(d:Aa ρ x u)(h:Af x=some r):(∃a,u=.pointer (some a))∨(∃f a c,u=.func (.func f) a c):=by
 cases x<;>simp only[Af]at h<;>try (cases h;done)
 ·simp only[Aa]at d;obtain⟨_,_,rfl⟩:=d;exact .inl ⟨_,rfl⟩
 ·simp only[Aa]at d;subst d;exact .inl ⟨_,rfl⟩
 ·simp only[Aa]at d;obtain⟨_,_,rfl,_⟩:=d;exact .inr ⟨_,_,_,rfl⟩
theorem ASP{x r:V}(h:Af x=some r):r=x:=by
 cases x<;>simp only[Af]at h<;>first|(cases h;done)|(cases h;rfl)
theorem APo{ρ:Loc}{v:V}{u:Value}{m:Nat}(g:Aa ρ v u)(h:byteOf v=some m):m<256/\u=.int .u8 m:=by
 cases v<;>simp only[byteOf]at h<;>try (cases h;done)
 rename_i k n s
 cases n with
 |negSucc n=>cases h
 |ofNat n=>
  have f:Bool.rec (motive:=λ_=>Option Nat) none (some n) (band (Nat.beq (kno k) 4) (band (Nat.blt n 256) (Nat.beq s 0)))=some m:=h
  cases d:band (Nat.beq (kno k) 4) (band (Nat.blt n 256) (Nat.beq s 0))with
  |false=>rw[d]at f;cases f
  |true=>
   rw[d]at f
   cases f
   simp only[BK,Bool.and_eq_true,beq_iff,Nat.blt_eq]at d
   simp only[Aa]at g
   refine⟨d.2.1,?_⟩
   have i:k=.u8:=by
    have:=d.1
    cases k<;>first|rfl|(exact absurd this (by decide))
   rw[g,i];rfl
theorem AKo{ρ:Loc}:∀(LS:EL) (cs:List Value) (c:Nat),Bq ρ LS.flatten cs->(∀L∈LS,L.length=1)->ANB LS=some c->
 ∃g:List UInt8,cs=g.map (λb=>Value.int .u8 b.toNat)/\enc g=c/\g.length=LS.length
 |[],cs,c,f,_,h=>by
  have d:some 0=some c:=h
  cases d
  simp at f
  exact⟨[],by simp[f],rfl,rfl⟩
 |L::LS,cs,c,f,x,h=>by
  have d:BO (nth L 0) (λv=>BO (byteOf v) λm=>BO (ANB LS) λc=>some (Nat.add m (Nat.mul 256 c)))=some c:=h
  rw[BX]at d
  obtain⟨v,A,d⟩:=d
  rw[BX]at d
  obtain⟨m,B,d⟩:=d
  rw[BX]at d
  obtain⟨C,p,d⟩:=d
  cases d
  have y:=x L (List.mem_cons_self)
  obtain⟨q,rfl⟩:∃q,L=[q]:=by
   cases L with
   |nil=>cases y
   |cons a l=>cases l with
    |nil=>exact⟨a,rfl⟩
    |cons b l=>cases y
  have D:q=v:=Option.some.inj A
  subst D
  rw[List.flatten_cons,List.singleton_append,Jg]at f
  obtain⟨u,E,rfl,F,f⟩:=f
  obtain⟨i,rfl⟩:=APo F B
  obtain⟨g,rfl,w,k⟩:=AKo LS E C f (λM G=>x M (List.mem_cons_of_mem _ G)) p
  refine⟨UInt8.ofNat m::g,?_,?_,by simp[k]⟩
  ·simp only[List.map_cons,UInt8.toNat_ofNat',Nat.reducePow,Nat.mod_eq_of_lt i]
  ·simp only[enc,UInt8.toNat_ofNat',Nat.reducePow,Nat.mod_eq_of_lt i,w];rfl
theorem AHD:∀(d:List UInt8) (s:ByteArray),((d.map λb=>(b.toNat:Int)).foldl (λr n=>r.push (UInt8.ofNat n.toNat)) s).data.toList=s.data.toList++d
 |[],s=>by simp
 |b::d,s=>by
  simp only[List.map_cons,List.foldl_cons]
  rw[AHD d]
  have:UInt8.ofNat (b.toNat:Int).toNat=b:=by simp
  rw[this]
  show(s.data.push b).toList++d=_
  simp
theorem AZB{E:World}{ρ:Loc}{H:Heap}{n:Nat}{w:World}(hh:DZ E ρ H n w){G:AY}(L:Xf E G){f g e:TypeId}(hs:P.underlying f=some (.slice e))(F:P.underlying e=some (.int .u8))(hd:P.underlying g=some .string)
 {x r:V} {u:Value} (d:Aa ρ x u) (C:isStr x=false) (h:BO (elems x G H 1) (λl=>BO (ANB l) λc=>f3 (len l) c 0 λn c _=>.str n c)=some r):∃val,(convert f g u).run P w=.ok val w/\Aa ρ r val:=by
 rw[BX]at h
 obtain⟨v,i,h⟩:=h
 rw[BX]at h
 obtain⟨c,M,h⟩:=h
 rw[ALh]at h
 cases h
 obtain⟨N,O,I,k,J,m⟩:=AKB hh L d i
 obtain⟨B,rfl,rfl,p⟩:=AKo v N c O k M
 rcases m with⟨rfl,rfl⟩|⟨a,K,rfl,q⟩|⟨s,rfl,_⟩
 ·have D:B=[]:=List.length_eq_zero_iff.1 p
  subst D
  refine⟨.string .empty,?_,⟨.empty,rfl,rfl,rfl⟩⟩
  rw[run_convert_bytes_string w f g e none 0 0 hs F hd]
  simp[Conv.bytesToString]
 ·have y:=run_loadCells_list (P:=P) w a (B.map λb=>Value.int .u8 b.toNat) q
  have Q:(B.map λb=>Value.int .u8 b.toNat).length=v.length:=by simp[p]
  rw[Q]at y
  have A:(loadCells a v.length).run P w=.ok ((B.map λb=>(b.toNat:Int)).map (Value.int .u8)).toArray w:=by rw[y,List.map_map];rfl
  refine⟨_,(run_convert_bytes_string w f g e (some a) v.length K hs F hd).trans (run_bytesToString w a v.length K _ A),⟨_,rfl,?_,?_⟩⟩
  ·rw[AHD];simp[p,len_eq]
  ·rw[AHD];simp
 ·cases x<;>first|(simp[isStr]at C;done)|(simp only[elems]at i;cases i;done)|(simp only[Aa]at d;done)|skip
  all_goals (simp only[Aa]at d)
  all_goals (first|(obtain⟨_,_,_,d,_⟩:=d;cases d;done)|(obtain⟨_,_,_,_,d,_⟩:=d;cases d;done)|(obtain⟨_,d,_⟩:=d;cases d;done)|(cases d;done)|skip)
theorem AIS(b:UInt8):∀(l:List UInt8) (i:Nat),AJ1 b.toNat l.length (enc l) i=if indexByte l b= -1 then-1 else indexByte l b+i
 |[],i=>rfl
 |a::l,i=>by
  have v:a.toNat<256:=a.toNat_lt
  have k:enc (a::l)%256=a.toNat:=by simp only[enc];omega
  have m:enc (a::l)/256=enc l:=by simp only[enc];omega
  have e:AJ1 b.toNat (a::l).length (enc (a::l)) i=Bool.rec (AJ1 b.toNat l.length (enc (a::l)/256) (i+1)) (.ofNat i) (Nat.beq (enc (a::l)%256) b.toNat):=rfl
  rw[e,k,m,AIS b l (i+1)]
  have d:∀l:List UInt8,indexByte l b= -1∨0<=indexByte l b:=by
   intro l
   induction l with
   |nil=>left;rfl
   |cons c l w=>
    simp only[indexByte]
    split
    ·right;omega
    ·split
     ·left;rfl
     ·rename_i h;simp at h;right;omega
  by_cases f:a=b
  ·subst f
   have:Nat.beq a.toNat a.toNat=true:=by simp
   rw[this]
   simp[indexByte]
  ·have:Nat.beq a.toNat b.toNat=false:=by
    rw[Bool.eq_false_iff];intro p;exact f (UInt8.toNat_inj.1 (Nat.eq_of_beq_eq_true p))
   rw[this]
   simp only[indexByte,beq_iff_eq,f,if_false]
   rcases d l with g|g
   ·simp[g]
   ·have q:indexByte l b≠ -1:=by omega
    have u:indexByte l b+1≠ -1:=by omega
    simp only[q,u,if_false]
    push_cast;omega
theorem AVS{ρ:Loc}{x y r:V}{u f:Value}(A:Aa ρ x u)(g:Aa ρ y f)
 (h:x.VK (λn B=>y.Iq λk b _=>BI (Nat.beq (kno k) 4) (AZo b λb=>BI (Nat.blt b 256) (YQ (AJ1 b n B 0) λi=>some (.int .i64 i 0))))=some r) (w:World):
 ∃val,(Extern.BytealgIndexByte.indexByte #[u,f]).run P w=.ok val w/\Aa ρ r val:=by
 rw[IJ]at h
 obtain⟨l,c,rfl,h⟩:=h
 rw[Cj]at h
 obtain⟨k,m,_,rfl,h⟩:=h
 rw[BJ,AG2]at h
 obtain⟨p,m,rfl,h⟩:=h
 rw[BJ,eF]at h
 obtain⟨q,h⟩:=h
 cases h
 rw[Nat.blt_eq]at q
 obtain⟨s,rfl,rfl,rfl⟩:=JW A
 simp only[Aa]at g
 have d:k=.u8:=by
  simp only[beq_iff]at p
  cases k<;>first|rfl|(exact absurd p (by decide))
 subst d
 subst g
 refine⟨_,run_indexByteString s m w,?_⟩
 simp only[Aa]
 have:=AIS (UInt8.ofNat m) s.data.toList 0
 rw[show(UInt8.ofNat m).toNat=m by simp[Nat.mod_eq_of_lt q]]at this
 rw[this]
 have e:(m:Int).toNat.toUInt8=UInt8.ofNat m:=by simp
 rw[e]
 by_cases v:indexByte s.data.toList (UInt8.ofNat m)= -1
 ·rw[v];rfl
 ·rw[if_neg v];simp
theorem jH:∀a b:List UInt8,Lib.compareBytes a b=if Op.bytesLess a b=true then-1 else if Op.bytesLess b a=true then 1 else 0
 |[],[]=>by simp[Lib.compareBytes,Op.bytesLess]
 |[],_::_=>by simp[Lib.compareBytes,Op.bytesLess]
 |_::_,[]=>by simp[Lib.compareBytes,Op.bytesLess]
 |x::a,y::b=>by
  unfold Lib.compareBytes
  rw[jH a b]
  by_cases d:x<y
  ·simp[Op.bytesLess,d]
  ·by_cases f:y<x
   ·have g:¬x=y:=λe=>by subst e;exact d f
    have i:(x==y)=false:=by simpa using g
    simp[Op.bytesLess,d,f,i]
   ·have g:x=y:=by
     have k:¬x.toNat<y.toNat:=λh=>d (UInt8.lt_iff_toNat_lt.2 h)
     have m:¬y.toNat<x.toNat:=λh=>f (UInt8.lt_iff_toNat_lt.2 h)
     exact UInt8.toNat_inj.1 (by omega)
    subst g
    simp[Op.bytesLess]
theorem AWN{ρ:Loc}{x y r:V}{u i:Value}(k:Aa ρ x u)(p:Aa ρ y i)(h:AXL x y=some r)(w:World):
 ∃val,(Extern.BytealgCompare.compare #[u,i]).run P w=.ok val w/\Aa ρ r val:=by
 unfold AXL at h
 rw[IJ]at h
 obtain⟨l,c,rfl,h⟩:=h
 rw[IJ]at h
 obtain⟨m,d,rfl,h⟩:=h
 cases h
 obtain⟨f,rfl,rfl,rfl⟩:=JW k
 obtain⟨g,rfl,rfl,rfl⟩:=JW p
 refine⟨_,Lib.run_compareString f g w,?_⟩
 rw[jH]
 simp only[AFs,Aa]
 cases q:Op.bytesLess f.data.toList g.data.toList<;>cases v:Op.bytesLess g.data.toList f.data.toList<;>rfl
variable{P:Program}
theorem AaV{ρ:Loc}{x y r:V}{u g:Value}(d:Aa ρ x u)(f:Aa ρ y g)(t:TypeId)(o:B2)(h:o.ev x y=some r):∃val,AGK P o t u g val/\Aa ρ r val:=by
 cases o
 ·exact AZ9 d f t h
 ·exact AZf d f t h
 ·exact Aa8 d f t h
 ·exact AZg d f t h
 ·exact AZp d f t h
 ·exact Aaz d f t h
 ·exact ANr d f t .or (.inl rfl) h
 ·exact ANr d f t .xor (.inr (.inl rfl)) h
 ·exact ANr d f t .andNot (.inr (.inr rfl)) h
 ·exact Aah d f t h
 ·exact AZk d f t h
 ·exact Aac d f t h
 ·exact AZ5 d f t h
 ·exact AZF d f t h
 ·exact AZb d f t h
def Ab6:BinOp->Option B2
 |.add=>some .add|.sub=>some .sub|.mul=>some .mul|.quo=>some .quo|.rem=>some .rem|.and=>some .and|.or=>some .or|.xor=>some .xor|.andNot=>some .andNot
 |.shl=>some .shl|.shr=>some .shr|.lss=>some .lss|.leq=>some .leq|.gtr=>some .gtr|.geq=>some .geq|_=>none
theorem AZD{o:BinOp}{b:B2}(h:Ab6 o=some b):b.op=o:=by cases o<;>simp only[Ab6]at h<;>first|(cases h;done)|(cases h;rfl)
def trO(f:Operand->Option X):Option Operand->Option (Option X)
 |none=>some none
 |some o=>(f o).map some
theorem qm{ρ:Loc}{E:RS}{g:Operand->Value}{f:Operand->Option X}(d:∀o x,f o=some x->Aa ρ (x.ev E) (g o)){o:Option Operand}{x:Option X}(h:trO f o=some x):AOT ρ E x (o.map g):=by
 cases o with
 |none=>cases h;trivial
 |some o=>
  simp only[trO,Option.map_eq_some_iff]at h
  obtain⟨a,i,rfl⟩:=h
  exact d _ _ i
def Ap{α β:Type}(o:Option α)(f:α->Option β):Option β:=match o with|some a=>f a|none=>none
theorem AB{α d:Type}{o:Option α}{f:α->Option d}{b:d}:Ap o f=some b↔∃a,o=some a/\f a=some b:=by
 cases o<;>simp[Ap]
def ANO(P:Program)(fi:FuncId):Bool:=
 match P.funcs[fi]? with
 |some fn=>fn.name== "internal/bytealg.IndexByteString" &&(fn.origin== "" &&fn.body.isNone)
 |none=>false
def AbO(P:Program)(fi:FuncId):Bool:=
 match P.funcs[fi]? with
 |some fn=>fn.name== "internal/bytealg.abigen_runtime_cmpstring" &&(fn.origin== "" &&fn.body.isNone)
 |none=>false
def AFW(P:Program)(f:Operand->Option X)(c:Call):Option AN:=
 match c.callee,c.args.toList,c.argTypes.toList with
 |.builtin .len,[x],[t]=>match P.underlying t with
  |some .string=>Ap (f x) λx=>some (.iT x)
  |some (.slice _)=>Ap (f x) λx=>some (.Agg x)
  |some (.map _ _)=>Ap (f x) λx=>some (.Af6 x)
  |some (.array n _)=>some (.Ahn n)
  |_=>none
 |.builtin .max,[x,y],_=>Ap (f x) λx=>Ap (f y) λy=>some (.Agb x y)
 |.builtin .min,[x,y],_=>Ap (f x) λx=>Ap (f y) λy=>some (.Ahv x y)
 |.value (.func fi),[x,y],_=>if ANO P fi then Ap (f x) λx=>Ap (f y) λy=>some (.Aax x y)else if AbO P fi then Ap (f x) λx=>Ap (f y) λy=>some (.APb x y)else none
 |_,_,_=>none
def ATC:List CK->Bool
 |[]=>false
 |.ptr::_=>true
 |_::l=>ATC l
def AOZ(k:EK)(neg:Bool)(x y:X):AN:=match k with|.agg ks=>if ATC ks then .eqp ks neg x y else .eq (.agg ks) neg x y|k=>.eq k neg x y
theorem ATi(k:EK)(d:Bool)(x y:X):AOZ k d x y=.eq k d x y∨∃f,k=.agg f/\AOZ k d x y=.eqp f d x y:=by
 cases k with
 |agg f=>
  cases h:ATC f with
  |true=>exact .inr ⟨f,rfl,by simp[AOZ,h]⟩
  |false=>exact .inl (by simp[AOZ,h])
 |_=>exact .inl rfl
def trN(P:Program)(f:Operand->Option X)(op:Op):Option AN:=
 match op with
 |.move x=>Ap (f x) λx=>some (.mv x)
 |.assign x=>Ap (f x) λx=>some (.mv x)
 |.pick c a b=>Ap (f c) λc=>Ap (f a) λa=>Ap (f b) λb=>some (.pick c a b)
 |.load t a=>match La P t with
  |some true=>Ap (szT P t) λn=>Ap (f a) λx=>some (.ldn n x)
  |some false=>Ap (f a) λx=>some (.ld1 x)
  |none=>none
 |.nilCheck x=>Ap (f x) λx=>some (.AXo x)
 |.binOp op t x y _=>Ap (f x) λx=>Ap (f y) λy=>match op with
  |.eql=>Ap (ekT P t) λk=>some (AOZ k false x y)
  |.neq=>Ap (ekT P t) λk=>some (AOZ k true x y)
  |op=>Ap (Ab6 op) λo=>some (.bin o x y)
 |.unOp op _ x=>match op with
  |.not=>Ap (f x) λx=>some (.not x)
  |.neg=>Ap (f x) λx=>some (.neg x)
  |_=>none
 |.convert src dst x=>match P.underlying src,P.underlying dst with
  |some (.int _),some (.int k)=>Ap (f x) λx=>some (.cvi k x)
  |some .string,some .string=>Ap (f x) λx=>some (.AfO x none none)
  |some (.slice e),some .string=>match P.underlying e with
   |some (.int .u8)=>Ap (f x) λx=>some (.cvS x)
   |_=>none
  |_,_=>none
 |.makeFunc (.func fn) first caps=>Ap (first.toList.mapM f) λa=>Ap (caps.toList.mapM f) λc=>some (.Ahc fn a c)
 |.slice t x lo hi mx=>match P.underlying t with
  |some .string=>if mx.isNone then Ap (f x) λx=>Ap (trO f lo) λlo=>Ap (trO f hi) λhi=>some (.AfO x lo hi)else none
  |some (.slice e)=>if mx.isNone||hi.isSome then Ap (szT P e) λz=>Ap (f x) λx=>Ap (trO f lo) λlo=>Ap (trO f hi) λhi=>Ap (trO f mx) λmx=>some (.slc z x lo hi mx)else none
  |some (.array n e)=>if mx.isNone then Ap (szT P e) λz=>Ap (f x) λx=>Ap (trO f lo) λlo=>Ap (trO f hi) λhi=>some (.Ahd n z x lo hi)else none
  |_=>none
 |.fieldAddr s x i=>match P.underlying s with
  |some (.struct fs)=>Ap fs[i]? λfl=>match szT P fl.type with
   |some (_+1)=>Ap (f x) λx=>some (.AeW fl.offset x)
   |_=>none
  |_=>none
 |.field s x i=>match P.underlying s with
  |some (.struct fs)=>Ap fs[i]? λfl=>match La P fl.type with
   |some true=>Ap (szT P fl.type) λn=>Ap (f x) λx=>some (.AdU fl.offset n x)
   |some false=>Ap (f x) λx=>some (.field1 fl.offset x)
   |none=>none
  |_=>none
 |.indexAddr t x i=>match P.underlying t with
  |some (.slice e)=>Ap (szT P e) λz=>Ap (f x) λx=>Ap (f i) λi=>some (.Ae9 z x i)
  |some (.array n e)=>Ap (szT P e) λz=>Ap (f x) λx=>Ap (f i) λi=>some (.AdW n z x i)
  |_=>none
 |.index t x i=>match P.underlying t with
  |some .string=>Ap (f x) λx=>Ap (f i) λi=>some (.Ahw x i)
  |some (.array n e)=>match szT P e,La P e with
   |some 1,some false=>Ap (f x) λx=>Ap (f i) λi=>some (.Agj n x i)
   |_,_=>none
  |_=>none
 |.lookup t m k ok=>match P.underlying t with
  |some (.map kt et)=>Ap (AFz P kt) λc=>Ap (P.info? et) λi=>Ap i.zero λzv=>Ap (cvV zv) λz=>Ap (f m) λm=>Ap (f k) λk=>some (.look c ok z m k)
  |_=>none
 |.extract x i=>Ap (f x) λx=>some (.ext x i)
 |.build t ps=>Ap (APT P t) λplaces=>Ap (AF6 P t) λz=>Ap (dR f places z.length ps.toList) λps=>some (.build z ps)
 |.call c=>AFW P f c
 |.makeInterface _ _=>some (.AXo (.c .undef))
 |.panic _=>some (.AXo (.c .undef))
 |_=>none
theorem AA2{t:TypeId}{c:CK}(h:AFz P t=some c):∃d,P.underlying t=some d:=by
 unfold AFz at h
 cases f:P.underlying t with
 |none=>rw[f]at h;cases h
 |some d=>exact⟨d,rfl⟩
theorem AMD{R:World}{ρ:Loc}{H:Heap}{n:Nat}{w:World}(hh:DZ R ρ H n w){G:AY}{E:RS}{g:Operand->Value}(J:∀K,g (.func K)=.func (.func K) #[] #[])
 {f:Operand->Option X} (B:∀o x,f o=some x->Aa ρ (x.ev E) (g o)) (ty:TypeId) {c:Call} {an:AN} (i:AFW P f c=some an) {v:V} (C:an.ev G E H=some v):
 ∃val,(do let d<-resolve g c ty;invoke d.target d.args:Sem Next).run P w=.ok (.value val) w/\Aa ρ v val:=by
 obtain⟨N,args,m⟩:=c
 obtain⟨args⟩:=args
 obtain⟨m⟩:=m
 unfold AFW at i
 simp only at i
 split at i
 ·rename_i x t
  have key:∀{val},(Builtin.len_ #[t] ty #[g x]).run P w=.ok val w->(do let d<-resolve g ⟨.builtin .len,⟨[x]⟩,⟨[t]⟩⟩ ty;invoke d.target d.args:Sem Next).run P w=.ok (.value val) w:=by
   intro val h
   simp[resolve,invoke,builtin,h]
  split at i
  ·rename_i D
   rw[AB]at i
   obtain⟨I,A,e⟩:=i
   cases e
   obtain⟨val,p,q⟩:=AYt D (B _ _ A) C ty w
   exact⟨val,key p,q⟩
  ·rename_i D
   rw[AB]at i
   obtain⟨I,A,e⟩:=i
   cases e
   obtain⟨val,p,q⟩:=AWM D (B _ _ A) C ty w
   exact⟨val,key p,q⟩
  ·rename_i D
   rw[AB]at i
   obtain⟨I,A,e⟩:=i
   cases e
   obtain⟨val,p,q⟩:=AXX hh D (B _ _ A) C ty
   exact⟨val,key p,q⟩
  ·rename_i D
   cases i
   cases C
   obtain⟨val,p,q⟩:=AYy (ρ:=ρ) D (u:=g x) ty w
   exact⟨val,key p,q⟩
  ·cases i
 ·rename_i x y
  rw[AB]at i
  obtain⟨I,A,i⟩:=i
  rw[AB]at i
  obtain⟨O,F,i⟩:=i
  cases i
  obtain⟨val,p,q⟩:=AaN (P:=P) (B _ _ A) (B _ _ F) C ⟨m⟩ ty w
  refine⟨val,?_,q⟩
  simp[resolve,invoke,builtin,p]
 ·rename_i x y
  rw[AB]at i
  obtain⟨I,A,i⟩:=i
  rw[AB]at i
  obtain⟨O,F,i⟩:=i
  cases i
  obtain⟨val,p,q⟩:=AZu (P:=P) (B _ _ A) (B _ _ F) C ⟨m⟩ ty w
  refine⟨val,?_,q⟩
  simp[resolve,invoke,builtin,p]
 ·rename_i K x y
  split at i
  ·rename_i k
   rw[AB]at i
   obtain⟨I,A,i⟩:=i
   rw[AB]at i
   obtain⟨O,F,i⟩:=i
   cases i
   obtain⟨val,p,q⟩:=AVS (P:=P) (B _ _ A) (B _ _ F) C w
   refine⟨val,?_,q⟩
   unfold ANO at k
   split at k
   ·rename_i L Q
    simp only[Bool.and_eq_true,beq_iff_eq]at k
    have M:=run_callFunc_extern (P:=P) (f:=K) (fn:=L) (e:=Extern.BytealgIndexByte.indexByte) Q (by rw[k.1];decide) k.2.2 (by unfold Extern.findNext;rw[k.1,k.2.1];kernel_rfl) (by unfold Extern.find;rw[k.1,k.2.1];kernel_rfl) #[g x,g y] w
    rw[p]at M
    simp[resolve,J,Deferred.ofValue,invoke,M]
   ·cases k
  ·split at i
   ·rename_i k
    rw[AB]at i
    obtain⟨I,A,i⟩:=i
    rw[AB]at i
    obtain⟨O,F,i⟩:=i
    cases i
    obtain⟨val,p,q⟩:=AWN (P:=P) (B _ _ A) (B _ _ F) C w
    refine⟨val,?_,q⟩
    unfold AbO at k
    split at k
    ·rename_i L Q
     simp only[Bool.and_eq_true,beq_iff_eq]at k
     have M:=run_callFunc_extern (P:=P) (f:=K) (fn:=L) (e:=Extern.BytealgCompare.compare) Q (by rw[k.1];decide) k.2.2 (by unfold Extern.findNext;rw[k.1,k.2.1];kernel_rfl) (by unfold Extern.find;rw[k.1,k.2.1];kernel_rfl) #[g x,g y] w
     rw[p]at M
     simp[resolve,J,Deferred.ofValue,invoke,M]
    ·cases k
   ·cases i
 ·cases i
theorem AMt{w0:World}{ρ:Loc}{H:Heap}{n:Nat}{w:World}(hh:DZ w0 ρ H n w){G:AY}(hg:Xf w0 G){E:RS}{g:Operand->Value}(f1:∀fi,g (.func fi)=.func (.func fi) #[] #[])
 {f:Operand->Option X} (A:∀o x,f o=some x->Aa ρ (x.ev E) (g o)) {o:Oper} {an:AN} (p:trN P f o.op=some an) {v:V} (u:an.ev G E H=some v):
 ∃val,(execOp g o).run P w=.ok (.value val) w/\Aa ρ v val:=by
 obtain⟨d2,op,ty,d5,Q,R⟩:=o
 have q:∀{s:Sem Value} {val:Value},s.run P w=.ok val w->((do pure (Next.value (<-s))):Sem Next).run P w=.ok (.value val) w:=by
  intro s val h;simp[h]
 cases op<;>simp only[trN]at p<;>try (cases p;done)
 case makeInterface t x=>cases p;exact absurd u (λh=>by cases(show(none:Option V)=some v from h))
 case panic x=>cases p;exact absurd u (λh=>by cases(show(none:Option V)=some v from h))
 case move x=>
  obtain⟨I,B,e⟩:=AB.1 p;cases e
  cases u
  exact⟨g x,by simp[execOp],A _ _ B⟩
 case assign x=>
  obtain⟨I,B,e⟩:=AB.1 p;cases e
  cases u
  exact⟨g x,by simp[execOp],A _ _ B⟩
 case pick c a b=>
  obtain⟨c',hc,p⟩:=AB.1 p
  obtain⟨a',K,p⟩:=AB.1 p
  obtain⟨b',W,e⟩:=AB.1 p
  cases e
  exact AXW (A _ _ hc) (A _ _ K) (A _ _ W) u w
 case load t a=>
  split at p
  ·rename_i K
   obtain⟨m,Y,p⟩:=AB.1 p
   obtain⟨I,B,e⟩:=AB.1 p;cases e
   obtain⟨val,C,D⟩:=AUp hh hg (A _ _ B) K Y u
   exact⟨val,q C,D⟩
  ·rename_i K
   obtain⟨I,B,e⟩:=AB.1 p;cases e
   obtain⟨val,C,D⟩:=ATy hh hg (A _ _ B) K u
   exact⟨val,q C,D⟩
  ·cases p
 case nilCheck x=>
  obtain⟨I,B,e⟩:=AB.1 p;cases e
  have hr:=ASP u
  subst hr
  refine⟨g x,?_,A _ _ B⟩
  rcases AV0 (A _ _ B) u with⟨a,K⟩|⟨fn,a,c,K⟩
  ·simp[execOp,K]
  ·simp[execOp,K]
 case binOp op t x y yt=>
  obtain⟨I,B,p⟩:=AB.1 p
  obtain⟨y',hy,p⟩:=AB.1 p
  have f2:∀(F:Bool) (k:EK),ekT P t=some k->(op=if F then .neq else .eql)->CU k F (I.ev E) (y'.ev E)=some v->∃val,(execOp g ⟨d2,.binOp op t x y yt,ty,d5,Q,R⟩).run P w=.ok (.value val) w/\Aa ρ v val:=by
   intro F k U N u
   unfold CU at u
   cases W:k.eq (I.ev E) (y'.ev E)with
   |none=>rw[W]at u;cases u
   |some b=>
    rw[W]at u
    have S:=AbE (P:=P) U (A _ _ B) (A _ _ hy) W op (by cases F<;>simp[N]) x y w
    refine⟨_,q S,?_⟩
    cases F<;>cases b<;>(simp only[N,Bool.false_eq_true,if_false,if_true];cases u;simp[Aa])
  have d1:∀(F:Bool) (k:EK),ekT P t=some k->(op=if F then .neq else .eql)->(AOZ k F I y').ev G E H=some v->∃val,(execOp g ⟨d2,.binOp op t x y yt,ty,d5,Q,R⟩).run P w=.ok (.value val) w/\Aa ρ v val:=by
   intro F k U N u
   rcases ATi k F I y' with e|⟨ks,rfl,e⟩
   ·rw[e]at u;exact f2 F k U N u
   ·rw[e]at u
    have u:AXm ks F (I.ev E) (y'.ev E) H=some v:=u
    unfold AXm at u
    cases W:AFi (TD H) ks (I.ev E) (y'.ev E)with
    |none=>rw[W]at u;cases u
    |some b=>
     rw[W]at u
     have S:=AaH (P:=P) hh U (A _ _ B) (A _ _ hy) W op (by cases F<;>simp[N]) x y
     refine⟨_,q S,?_⟩
     cases F<;>cases b<;>(simp only[N,Bool.false_eq_true,if_false,if_true];cases u;simp[Aa])
  split at p
  ·obtain⟨k,U,e⟩:=AB.1 p;cases e
   exact d1 false k U rfl u
  ·obtain⟨k,U,e⟩:=AB.1 p;cases e
   exact d1 true k U rfl u
  ·obtain⟨o2,f3,e⟩:=AB.1 p;cases e
   obtain⟨val,C,D⟩:=AaV (P:=P) (A _ _ B) (A _ _ hy) t o2 u
   have:=C x y w
   rw[AZD f3]at this
   exact⟨val,q this,D⟩
 case unOp op t x=>
  split at p
  ·obtain⟨I,B,e⟩:=AB.1 p;cases e
   obtain⟨val,C,D⟩:=Aa5 (P:=P) (A _ _ B) u w
   exact⟨val,q C,D⟩
  ·obtain⟨I,B,e⟩:=AB.1 p;cases e
   obtain⟨val,C,D⟩:=Aa3 (P:=P) (A _ _ B) u w
   exact⟨val,q C,D⟩
  ·cases p
 case convert src d2 x=>
  split at p
  ·rename_i Z hd
   obtain⟨I,B,e⟩:=AB.1 p;cases e
   obtain⟨val,C,D⟩:=AZ2 (P:=P) (by rw[Z];rfl) hd (A _ _ B) u w
   exact⟨val,q C,D⟩
  ·rename_i Z hd
   obtain⟨I,B,e⟩:=AB.1 p;cases e
   obtain⟨val,C,D⟩:=ARZ (P:=P) (E:=E) Z (A _ _ B) (lo:=none) (hi:=none) (vlo:=none) (vhi:=none) trivial trivial u w
   obtain⟨l,c,f4,_⟩:=IJ.1 u
   have J:=A _ _ B
   rw[f4]at J
   obtain⟨s,d6,_,_⟩:=JW J
   have d7:val=.string s:=by
    rw[d6]at C
    simp[Instr.sliceAt,Instr.slice,run_underlying Z,Instr.sliceBounds]at C
    rw[<-C]
   refine⟨.string s,q ?_,by rw[<-d7];exact D⟩
   rw[d6]
   simp[convert,run_underlying Z,run_underlying hd]
  ·rename_i e Z hd
   split at p
   ·rename_i he
    obtain⟨I,B,e⟩:=AB.1 p;cases e
    obtain⟨f5,u⟩:=BJ.1 u
    obtain⟨val,C,D⟩:=AZB (P:=P) hh hg Z he hd (A _ _ B) (by simpa using f5) u
    exact⟨val,q C,D⟩
   ·cases p
  ·cases p
 case makeFunc fn first caps=>
  cases fn<;>simp only at p<;>try (cases p;done)
  rename_i fi
  obtain⟨a,K,p⟩:=AB.1 p
  obtain⟨c,hc,e⟩:=AB.1 p;cases e
  cases u
  refine⟨.func (.func fi) (first.map g) (caps.map g),by simp[execOp,Instr.makeFunc],⟨_,_,rfl,?_,?_⟩⟩
  ·rw[Array.toList_map];exact nN A _ _ K
  ·rw[Array.toList_map];exact nN A _ _ hc
 case slice t x lo O mx=>
  split at p
  ·rename_i J
   split at p
   ·rename_i Y
    have d3:mx=none:=by simpa using Y
    subst d3
    obtain⟨I,B,p⟩:=AB.1 p
    obtain⟨d8,T,p⟩:=AB.1 p
    obtain⟨d9,L,e⟩:=AB.1 p;cases e
    obtain⟨val,C,D⟩:=ARZ (P:=P) J (A _ _ B) (qm A T) (qm A L) u w
    exact⟨val,q C,D⟩
   ·cases p
  ·rename_i e J
   split at p
   ·rename_i hc
    obtain⟨z,M,p⟩:=AB.1 p
    obtain⟨I,B,p⟩:=AB.1 p
    obtain⟨d8,T,p⟩:=AB.1 p
    obtain⟨d9,L,p⟩:=AB.1 p
    obtain⟨f8,d4,e⟩:=AB.1 p;cases e
    obtain⟨val,C,D⟩:=Aag (P:=P) J M (A _ _ B) (qm A T) (qm A L) (qm A d4) (by
     intro Z
     cases mx with
     |none=>simp only[trO]at d4;cases d4;cases Z
     |some m=>
      cases O with
      |none=>simp at hc
      |some i=>
       simp only[trO,Option.map_eq_some_iff]at L
       obtain⟨_,_,rfl⟩:=L
       rfl) u w
    exact⟨val,q C,D⟩
   ·cases p
  ·rename_i k e J
   split at p
   ·rename_i Y
    have d3:mx=none:=by simpa using Y
    subst d3
    obtain⟨z,M,p⟩:=AB.1 p
    obtain⟨I,B,p⟩:=AB.1 p
    obtain⟨d8,T,p⟩:=AB.1 p
    obtain⟨d9,L,e⟩:=AB.1 p;cases e
    obtain⟨val,C,D⟩:=AYZ (P:=P) J M (A _ _ B) (qm A T) (qm A L) u w
    exact⟨val,q C,D⟩
   ·cases p
  ·cases p
 case fieldAddr s x i=>
  split at p
  ·rename_i fs J
   obtain⟨fl,d0,p⟩:=AB.1 p
   split at p
   ·rename_i m M
    obtain⟨I,B,e⟩:=AB.1 p;cases e
    obtain⟨val,C,D⟩:=AV7 (P:=P) J d0 M (A _ _ B) u w
    exact⟨val,q C,D⟩
   ·cases p
  ·cases p
 case field s x i=>
  split at p
  ·rename_i fs J
   obtain⟨fl,d0,p⟩:=AB.1 p
   split at p
   ·rename_i K
    obtain⟨m,Y,p⟩:=AB.1 p
    obtain⟨I,B,e⟩:=AB.1 p;cases e
    obtain⟨val,C,D⟩:=ASD (P:=P) J d0 K Y (A _ _ B) u w
    exact⟨val,q C,D⟩
   ·rename_i K
    obtain⟨I,B,e⟩:=AB.1 p;cases e
    obtain⟨val,C,D⟩:=ATF (P:=P) J d0 K (A _ _ B) u w
    exact⟨val,q C,D⟩
   ·cases p
  ·cases p
 case indexAddr t x i=>
  split at p
  ·rename_i e J
   obtain⟨z,M,p⟩:=AB.1 p
   obtain⟨I,B,p⟩:=AB.1 p
   obtain⟨i',O,e⟩:=AB.1 p;cases e
   obtain⟨val,C,D⟩:=AVU (P:=P) J M (A _ _ B) (A _ _ O) u w
   exact⟨val,q C,D⟩
  ·rename_i m e J
   obtain⟨z,M,p⟩:=AB.1 p
   obtain⟨I,B,p⟩:=AB.1 p
   obtain⟨i',O,e⟩:=AB.1 p;cases e
   obtain⟨val,C,D⟩:=AS2 (P:=P) J M (A _ _ B) (A _ _ O) u w
   exact⟨val,q C,D⟩
  ·cases p
 case index t x i=>
  split at p
  ·rename_i J
   obtain⟨I,B,p⟩:=AB.1 p
   obtain⟨i',O,e⟩:=AB.1 p;cases e
   obtain⟨val,C,D⟩:=AYm (P:=P) J (A _ _ B) (A _ _ O) u w
   exact⟨val,q C,D⟩
  ·rename_i m e J
   split at p
   ·rename_i M K
    obtain⟨I,B,p⟩:=AB.1 p
    obtain⟨i',O,e⟩:=AB.1 p;cases e
    obtain⟨val,C,D⟩:=AWt (P:=P) J M K (A _ _ B) (A _ _ O) u w
    exact⟨val,q C,D⟩
   ·cases p
  ·cases p
 case lookup t m k ok=>
  split at p
  ·rename_i kt et J
   obtain⟨c,hc,p⟩:=AB.1 p
   obtain⟨i,O,p⟩:=AB.1 p
   obtain⟨zv,f6,p⟩:=AB.1 p
   obtain⟨z,M,p⟩:=AB.1 p
   obtain⟨m',Y,p⟩:=AB.1 p
   obtain⟨k',U,e⟩:=AB.1 p;cases e
   obtain⟨d,hd⟩:=AA2 hc
   obtain⟨val,C,D⟩:=AYN (P:=P) hh J hd hc O f6 (AFy M) (A _ _ Y) (A _ _ U) u
   exact⟨val,q C,D⟩
  ·cases p
 case extract x i=>
  obtain⟨I,B,e⟩:=AB.1 p;cases e
  obtain⟨val,C,D⟩:=Aa2 (P:=P) (A _ _ B) u w
  exact⟨val,q C,D⟩
 case build t ps=>
  obtain⟨f0,hp,p⟩:=AB.1 p
  obtain⟨z,M,p⟩:=AB.1 p
  obtain⟨f9,f7,e⟩:=AB.1 p;cases e
  obtain⟨val,C,D⟩:=AVF (P:=P) A hp M f7 u w
  exact⟨val,q C,D⟩
 case call c=>
  exact AMD hh f1 A ty p u
end Go.Bf
namespace Go.Bf
variable{P:Program}
structure iG(ρ:Loc)(c:T LV)(cnt esz:Nat)(cells:Array Value):Prop where
 size:cells.size=cnt*esz
 one:∀u∈cells.toList,u.oneCell'=true
 elem:∀e,e<cnt->∃L,T.get c e=some L/\Bq ρ L (sub cells (e*esz) esz)
theorem ACw(n:Nat):yO (0,0) n:=λi _ h=>by simp at h
theorem iG.AbD{ρ:Loc}{c:T LV}{d esz:Nat}{cells:Array Value}(h:iG ρ c d esz cells)(t:TypeId):AOi ρ cells.size (.arr esz d c) (.cells cells t):=
 ⟨cells,t,(0,0),rfl,rfl,ACw _,.inr rfl,by rw[h.size];exact Nat.le_refl _,h.one,h.elem⟩
theorem AJn(L:LV):∀(n:Nat) (t:T LV) (e:Nat),T.get (AGU L n t) e=if e<n then some L else T.get t e
 |0,t,e=>by rw[if_neg (by omega)];rfl
 |n+1,t,e=>by
  have h:AGU L (n+1) t=AGU L n (T.set t n L):=rfl
  rw[h,AJn L n]
  by_cases d:e<n
  ·rw[if_pos d,if_pos (by omega)]
  ·rw[if_neg d,T.Qx]
   by_cases f:n=e
   ·rw[if_pos f,if_pos (by omega)]
   ·rw[if_neg f,if_neg (by omega)]
theorem Ef:∀(LS:EL) (i:Nat) (t:T LV) (e:Nat),T.get (Et LS i t) e=if i<=e/\e<i+LS.length then LS[e-i]? else T.get t e
 |[],i,t,e=>by
  have h:Et [] i t=t:=rfl
  rw[h,if_neg (by simp only[List.length_nil];omega)]
 |L::LS,i,t,e=>by
  have h:Et (L::LS) i t=Et LS (i+1) (T.set t i L):=rfl
  rw[h,Ef LS]
  by_cases d:i+1<=e/\e<i+1+LS.length
  ·rw[if_pos d,if_pos (by simp;omega)]
   have:e-i=(e-(i+1))+1:=by omega
   rw[this];simp
  ·rw[if_neg d,T.Qx]
   by_cases f:i=e
   ·subst f;rw[if_pos rfl,if_pos (by simp)];simp
   ·rw[if_neg f,if_neg (by simp;omega)]
theorem AV4(e n j:Nat)(h:j<n):(e*n+j)%n=j:=by rw[Nat.mul_comm,Nat.mul_add_mod,Nat.mod_eq_of_lt h]
theorem iG.zero{ρ:Loc}{z:LV}{d:Array Value}(G:Bq ρ z d.toList)(y:∀u∈d.toList,u.oneCell'=true)(f:Nat):iG ρ (AGU z f .e) f d.size (madeCells d (f*d.size)):=by
 have m:∀(i:Nat) (v:Value),(madeCells d (f*d.size))[i]? =some v->0<d.size/\d.toList[i%d.size]? =some v:=by
  intro i v h
  unfold madeCells at h
  rw[Array.getElem?_map]at h
  cases A:(Array.range (f*d.size))[i]? with
  |none=>rw[A]at h;cases h
  |some k=>
   rw[A]at h
   have H:i<f*d.size/\k=i:=by
    have:=(Array.getElem?_eq_some_iff.1 A)
    obtain⟨y,B⟩:=this
    simp at y B
    exact⟨y,B.symm⟩
   obtain⟨q,rfl⟩:=H
   have p:0<d.size:=by
    rcases Nat.eq_zero_or_pos d.size with e|e
    ·rw[e]at q;simp at q
    ·exact e
   have w:k%d.size<d.size:=Nat.mod_lt _ p
   have C:d[k%d.size]! =v:=by simpa using h
   refine⟨p,?_⟩
   rw[getElem!_pos d (k%d.size) w]at C
   rw[<-C];simp[w]
 refine⟨by rw[size_madeCells],?_,?_⟩
 ·intro u I
  obtain⟨i,q⟩:=List.mem_iff_getElem?.1 I
  rw[Array.getElem?_toList]at q
  obtain⟨_,h⟩:=m i u q
  exact y u (List.mem_of_getElem? h)
 ·intro e D
  refine⟨z,by rw[AJn,if_pos D],?_⟩
  have g:e*d.size+d.size<=(madeCells d (f*d.size)).size:=by
   rw[size_madeCells]
   have:(e+1)*d.size<=f*d.size:=Nat.mul_le_mul_right _ D
   rw[Nat.add_mul,Nat.one_mul]at this;exact this
  have:sub (madeCells d (f*d.size)) (e*d.size) d.size=d.toList:=by
   apply List.ext_getElem?
   intro j
   by_cases E:j<d.size
   ·have x:j<(sub (madeCells d (f*d.size)) (e*d.size) d.size).length:=by rw[Uw g];exact E
    have F:=List.getElem?_eq_getElem x
    obtain⟨_,h⟩:=AJO F
    obtain⟨_,h⟩:=m _ _ h
    rw[AV4 _ _ _ E]at h
    rw[F,h]
   ·rw[List.getElem?_eq_none (by rw[Uw g];omega),List.getElem?_eq_none (by simp;omega)]
  rw[this]
  exact G
theorem iG.put{ρ:Loc}{c:T LV}{d esz:Nat}{cells:Array Value}(h:iG ρ c d esz cells){i:Nat}(hi:i<d){L:LV}{new:List Value}(A:Bq ρ L new)(y:new.length=esz)(B:∀u∈new,u.oneCell'=true):
 iG ρ (T.set c i L) d esz (NU cells.toList (i*esz) new).toArray:=by
 have p:∀e,e<d->e*esz+esz<=cells.size:=by
  intro e q
  have:(e+1)*esz<=d*esz:=Nat.mul_le_mul_right _ q
  rw[Nat.add_mul,Nat.one_mul]at this
  rw[h.size];exact this
 have g:i*esz+new.length<=cells.size:=by rw[y];exact p i hi
 have m:(NU cells.toList (i*esz) new).toArray.size=cells.size:=by
  have:=ZF cells.toList (i*esz) new (by simpa using g)
  simpa using this
 refine⟨m.trans h.size,?_,?_⟩
 ·intro u f
  simp only[NU,List.mem_append]at f
  rcases f with(f|f)|f
  ·exact h.one u (List.mem_of_mem_take f)
  ·exact B u f
  ·exact h.one u (List.mem_of_mem_drop f)
 ·intro e q
  by_cases k:i=e
  ·subst k
   refine⟨L,T.Ag _ _ _,?_⟩
   have:=lg g
   rw[y]at this
   rw[this];exact A
  ·obtain⟨M,C,v⟩:=h.elem e q
   refine⟨M,by rw[T.Ac c L k,C],?_⟩
   rw[YU g]
   ·exact v
   ·rcases Nat.lt_or_gt_of_ne k with w|x
    ·right
     have:(i+1)*esz<=e*esz:=Nat.mul_le_mul_right _ w
     rw[Nat.add_mul,Nat.one_mul]at this
     omega
    ·left
     have:(e+1)*esz<=i*esz:=Nat.mul_le_mul_right _ x
     rw[Nat.add_mul,Nat.one_mul]at this
     omega
theorem dF{ρ:Loc}{esz:Nat}:∀(LS:EL) (cs:List Value),Bq ρ LS.flatten cs->(∀L∈LS,L.length=esz)->∀(e:Nat) (L:LV),LS[e]? =some L->Bq ρ L ((cs.drop (e*esz)).take esz)
 |[],_,_,_,e,L,h=>by simp at h
 |M::LS,cs,d,f,e,L,h=>by
  rw[List.flatten_cons]at d
  have g:=f M List.mem_cons_self
  cases e with
  |zero=>
   simp at h;subst h
   have:=d.take M.length
   rw[List.take_left]at this
   rw[g]at this
   simpa using this
  |succ e=>
   have:=d.drop M.length
   rw[List.drop_left,g]at this
   have:=dF LS _ this (λK i=>f K (List.mem_cons_of_mem _ i)) e L (by simpa using h)
   rw[List.drop_drop]at this
   rwa [show(e+1)*esz=esz+e*esz by rw[Nat.add_mul];omega]
theorem iG.ofList{ρ:Loc}{LS:EL}{esz:Nat}{cells:Array Value}(d:Bq ρ LS.flatten cells.toList)(f:∀L∈LS,L.length=esz)(i:∀u∈cells.toList,u.oneCell'=true):iG ρ (Et LS 0 .e) LS.length esz cells:=by
 refine⟨?_,i,?_⟩
 ·have:=d.length
  rw[List.length_flatten]at this
  rw[<-Array.length_toList,<-this]
  have k:(LS.map List.length)=LS.map (λ_=>esz):=List.map_congr_left λL m=>f L m
  rw[k,List.map_const',List.sum_replicate_nat]
 ·intro e g
  refine⟨LS[e],?_,?_⟩
  ·rw[Ef,if_pos (by omega)];simp[g]
  ·exact dF LS _ d f e _ (List.getElem?_eq_getElem g)
def Al(o:AA)(E:RS)(b:Nu)(f:Nat->V):Prop:=o.al E λb' f'=>b'=b/\f'=f
theorem ADA{v:V}{f:Nat->Prop}:AOV v f↔∃k,∃m:Nat,v=.int k m 0/\f m:=by
 unfold AOV
 rw[JR]
 constructor
 ·rintro⟨x,h,d⟩
  obtain⟨k,m,rfl,h⟩:=RD.1 h
  cases h
  exact⟨k,m,rfl,d⟩
 ·rintro⟨k,m,rfl,d⟩
  exact⟨.ptr m 0,RD.2 ⟨k,m,rfl,rfl⟩,d⟩
theorem AQ2{o:AA}{E:RS}{k:KA}(h:o.al E k):∃b f,Al o E b f/\k b f:=by
 cases o with
 |alloc d m=>
  have g:Am d m E k:=h
  have e:∀k,AA.al (.alloc d m) E k=Am d m E k:=λ_=>rfl
  simp only[Am,BL]at g
  refine⟨_,_,?_,g⟩
  unfold Al;rw[e];simp[Am,BL]
 |box x=>
  have g:AL7 x E k:=h
  have e:∀k,AA.al (.box x) E k=AL7 x E k:=λ_=>rfl
  simp only[AL7,BL,FM]at g
  refine⟨_,_,?_,g.2⟩
  unfold Al;rw[e];simp[AL7,BL,FM,g.1]
 |ANv d i z p=>
  have g:Ar d i z p E k:=h
  have e:∀k,AA.al (.ANv d i z p) E k=Ar d i z p E k:=λ_=>rfl
  simp only[Ar,FM]at g
  refine⟨_,_,?_,g.2⟩
  unfold Al;rw[e];simp[Ar,FM,g.1]
 |AJa d q z l c=>
  have g:I5 d q z l c E k:=h
  have e:∀k,AA.al (.AJa d q z l c) E k=I5 d q z l c E k:=λ_=>rfl
  simp only[I5,ADA,FM]at g
  obtain⟨u,v,w,y,A,B,C,D⟩:=g
  refine⟨_,_,?_,D⟩
  unfold Al;rw[e];simp only[I5,ADA,FM];exact⟨u,v,w,y,A,B,C,rfl,rfl⟩
 |AXp=>
  have g:k (.map [] 0) (λid=>.map id):=h
  exact⟨_,_,⟨rfl,rfl⟩,g⟩
 |qU t e=>
  have g:k (.qU t e 0 0 0) (λid=>.ptr id 0):=h
  exact⟨_,_,⟨rfl,rfl⟩,g⟩
def kZ(esz:Nat):Nat->LV->EL
 |0,_=>[]
 |n+1,z=>z.take esz::kZ esz n (z.drop esz)
theorem AIf(esz:Nat):∀(n:Nat) (z:LV),z.length=n*esz->(kZ esz n z).flatten=z/\(kZ esz n z).length=n/\∀L∈kZ esz n z,L.length=esz
 |0,z,h=>by simp[kZ];simpa using h
 |n+1,z,h=>by
  rw[Nat.add_mul,Nat.one_mul]at h
  obtain⟨f,g,i⟩:=AIf esz n (z.drop esz) (by simp;omega)
  refine⟨by simp[kZ,f],by simp[kZ,g],?_⟩
  intro L d
  simp only[kZ,List.mem_cons]at d
  rcases d with rfl|d
  ·simp;omega
  ·exact i L d
def AAv(f:Operand->Option X)(cnt:Nat):List (Nat×Operand)->Option (List (Nat×X))
 |[]=>some []
 |(i,o)::r=>Ap (f o) λx=>Ap (AAv f cnt r) λr'=>some ((i,x)::r')
def Ahh(P:Program)(t:TypeId):Option TypeId:=
 match P.underlying t with
 |some (.struct fs)=>(match fs[0]?,fs[1]? with
  |some a,some b=>(match P.underlying b.type with
   |some (.slice e)=>bif a.name== "addr" &&b.name== "buf" then some e else none
   |_=>none)
  |_,_=>none)
 |_=>none
def AJh:LV->Bool
 |[.Bo,.Ad]=>true
 |_=>false
theorem AQt{z:LV}(h:AJh z=true):z=[.Bo,.Ad]:=by
 unfold AJh at h
 split at h
 ·rfl
 ·cases h
def trA(P:Program)(f:Operand->Option X)(op:Op):Option AA:=
 match op with
 |.alloc t=>Ap (AF6 P t) λz=>match Ahh P t with
  |some e=>bif AJh z then some (.qU t e)else none
  |none=>match P.underlying t with
   |some (.array n e)=>Ap (szT P e) λesz=>if z.length=n*esz then some (.alloc esz (kZ esz n z))else none
   |some _=>some (.alloc z.length [z])
   |none=>none
 |.box _ x=>Ap (f x) λx=>some (.box x)
 |.buildSlice t cnt ps=>match P.underlying t with
  |some (.slice e)=>Ap (szT P e) λesz=>Ap (AF6 P e) λz=>Ap (AAv f cnt ps.toList) λps=>if z.length=esz/\0<esz/\cnt*esz<=16777216 then some (.ANv esz cnt z ps)else none
  |_=>none
 |.makeSlice t l c=>match P.underlying t with
  |some (.slice e)=>Ap (P.info? e) λi=>Ap (AF6 P e) λz=>Ap (f l) λl=>Ap (f c) λc=>if z.length=i.size/\0<i.bytes then some (.AJa i.size i.bytes z l c)else none
  |_=>none
 |.makeMap _ r=>match r with
  |none=>some .AXp
  |some _=>none
 |_=>none
theorem qV{t:TypeId}{z:LV}(h:AF6 P t=some z):∃i d,P.info? t=some i/\i.zero=some d/\(∀ρ,Bq ρ z d.cells.toList)/\∀u∈d.cells.toList,u.oneCell'=true:=by
 unfold AF6 at h
 simp only[Option.bind_eq_some_iff]at h
 obtain⟨i,k,d,g,f⟩:=h
 exact⟨i,d,k,g,fun ρ=>(AAi f).1,(AAi (ρ:=λ_=>none) f).2.2⟩
theorem sK(i:Nat)(x:X)(ps:List (Nat×X))(E:RS)(esz d:Nat):bJ ((i,x)::ps) E esz d=band (band (Zp (x.ev E)) (band (Nat.blt i d) (Nat.beq (len (A8 (x.ev E))) esz))) (bJ ps E esz d):=rfl
theorem ANJ{ρ:Loc}{E:RS}{g:Operand->Value}{f:Operand->Option X}(M:∀o x,f o=some x->Aa ρ (x.ev E) (g o)){k esz:Nat}:
 ∀(ps:List (Nat×Operand)) (m:List (Nat×X)) (c:T LV) (cells:Array Value),AAv f k ps=some m->bJ m E esz k=true->iG ρ c k esz cells->
  ∃d,Instr.fill (λi=>some (i*esz,esz)) cells (ps.map λp=>(p.1,g p.2))=some d/\iG ρ (uU m E c) k esz d
 |[],m,c,cells,h,_,G=>by
  simp only[AAv]at h
  cases h
  exact⟨cells,rfl,G⟩
 |(i,o)::r,m,c,cells,h,H,G=>by
  simp only[AAv,AB]at h
  obtain⟨x,P,Q,I,e⟩:=h
  cases e
  rw[sK]at H
  simp only[BK,Bool.and_eq_true,beq_iff,len_eq,Nat.blt_eq]at H
  obtain⟨⟨J,N,A⟩,q⟩:=H
  obtain⟨B,C⟩:=ABD (M o x P) J
  have u:(g o).cells.toList.length=esz:=by rw[<-B.length,A]
  have K:(g o).cells.size=esz:=by simpa using u
  have L:i*esz+esz<=cells.size:=by
   have:(i+1)*esz<=k*esz:=Nat.mul_le_mul_right _ N
   rw[Nat.add_mul,Nat.one_mul]at this
   rw[G.size];exact this
  have O:=AGt (g o).cells.toList cells (i*esz) 0 (by rw[u];omega)
  simp only[Nat.add_zero]at O
  have D:=G.put N B u C
  obtain⟨d,v,F⟩:=ANJ M r Q _ _ I q D
  refine⟨d,?_,F⟩
  have w:(decide ((g o).cells.size≠esz)||decide (i*esz+(g o).cells.size>cells.size))=false:=by
   rw[K];simp;omega
  have y:(g o).cells.zipIdx.foldl (λR x=>match x with|(c,j)=>R.setIfInBounds (i*esz+j) c) cells=(NU cells.toList (i*esz) (g o).cells.toList).toArray:=by
   rw[<-Array.foldl_toList,Array.toList_zipIdx]
   apply Array.toList_inj.1
   rw[O]
  simp only[List.map_cons,Instr.fill]
  rw[if_neg (by rw[w];simp)]
  rw[y]
  exact v
theorem ARI{ρ:Loc}{L:LV}{cells:Array Value}(f:Bq ρ L cells.toList)(g:∀u∈cells.toList,u.oneCell'=true)(t:TypeId):AOi ρ cells.size (.arr L.length 1 (T.set .e 0 L)) (.cells cells t):=by
 have d:=f.length
 have:iG ρ (T.set .e 0 L) 1 L.length cells:=by
  refine⟨by rw[d];simp,g,?_⟩
  intro e i
  have:e=0:=by omega
  subst this
  refine⟨L,T.Ag _ _ _,?_⟩
  have:sub cells (0*L.length) L.length=cells.toList:=by
   simp only[sub,Nat.zero_mul,List.drop_zero,d]
   exact List.take_length
  rw[this];exact f
 exact this.AbD t
theorem AMr{w:World}{ρ:Loc}{E:RS}{g:Operand->Value}{f:Operand->Option X}(hO:∀o x,f o=some x->Aa ρ (x.ev E) (g o)){o:Oper}{an:AA}(d:trA P f o.op=some an){b:Nu}{fn:Nat->V}(S:Al an E b fn):
 ∃val obj size,(execOp g o).run P w=.ok (.value val) (w.alloc obj)/\AOi ρ size b obj/\∀(u:Loc) (id:Nat),u id=some ⟨w.heap.size,0,size⟩->Aa u (fn id) val:=by
 obtain⟨f1,op,ty,f2,T,U⟩:=o
 cases op<;>simp only[trA]at d<;>try (cases d;done)
 case alloc t=>
  obtain⟨z,hz,d⟩:=AB.1 d
  obtain⟨i,F,R,H,A,G⟩:=qV hz
  have y:(execOp g ⟨f1,.alloc t,ty,f2,T,U⟩).run P w=.ok (.value (.pointer (some ⟨w.heap.size,0,none⟩))) (w.alloc (.cells F.cells t)):=by
   simp[execOp,Instr.alloc,zeroValue,typeInfo,R,H,newVar,newRow]
  have I:∀(u:Loc) (id:Nat) (size:Nat),u id=some ⟨w.heap.size,0,size⟩->Aa u (.ptr id 0) (.pointer (some ⟨w.heap.size,0,none⟩)):=fun u id size h=>⟨_,h,rfl⟩
  split at d
  ·rename_i e _
   cases W:AJh z with
   |false=>rw[W]at d;cases d
   |true=>
    rw[W]at d
    cases d
    have f3:=AQt W
    subst f3
    have k:Nu.qU t e 0 0 0=b/\(λid=>V.ptr id 0)=fn:=S
    obtain⟨rfl,rfl⟩:=k
    have hc:F.cells= #[.pointer none,.slice none 0 0]:=by
     obtain⟨v1,r1,h1,e1,h2⟩:=Jg.1 (A ρ)
     obtain⟨v2,r2,h3,e2,h4⟩:=Jg.1 h2
     have e1:v1=.pointer none:=e1
     have e2:v2=.slice none 0 0:=e2
     have h4:r2=[]:=by simpa using h4
     subst e1 e2 h4
     apply Array.toList_inj.1
     rw[h1,h3]
    refine⟨_,_,F.cells.size,y,?_,fun u id h=>I u id _ h⟩
    rw[hc]
    exact⟨rfl,rfl,rfl⟩
  split at d
  ·rename_i n e hu
   obtain⟨v,L,d⟩:=AB.1 d
   split at d
   ·rename_i d4
    cases d
    obtain⟨h1,h2,h3⟩:=AIf v n z d4
    have k:Am v (kZ v n z) E (λM N=>M=b/\N=fn):=S
    simp only[Am,BL,len_eq]at k
    obtain⟨rfl,rfl⟩:=k
    refine⟨_,_,F.cells.size,y,?_,fun u id h=>I u id _ h⟩
    exact(iG.ofList (by rw[h1];exact A ρ) h3 G).AbD t
   ·cases d
  ·cases d
   have k:Am z.length [z] E (λM N=>M=b/\N=fn):=S
   simp only[Am,BL,len_eq]at k
   obtain⟨rfl,rfl⟩:=k
   refine⟨_,_,F.cells.size,y,?_,fun u id h=>I u id _ h⟩
   exact ARI (A ρ) G t
  ·cases d
 case box t x=>
  obtain⟨x',hx,e⟩:=AB.1 d;cases e
  have k:AL7 x' E (λM N=>M=b/\N=fn):=S
  simp only[AL7,BL,FM,len_eq]at k
  obtain⟨Y,rfl,rfl⟩:=k
  obtain⟨f4,d5⟩:=ABD (hO _ _ hx) Y
  refine⟨.pointer (some ⟨w.heap.size,0,none⟩),.cells (g x).cells t,(g x).cells.size,by simp[execOp,Instr.box,newVar,newRow],ARI f4 d5 t,fun u id h=>⟨_,h,rfl⟩⟩
 case buildSlice t cnt ps=>
  split at d
  ·rename_i e hu
   obtain⟨v,L,d⟩:=AB.1 d
   obtain⟨z,hz,d⟩:=AB.1 d
   obtain⟨d6,f5,d⟩:=AB.1 d
   split at d
   ·rename_i C
    obtain⟨Z,g3,f0⟩:=C
    cases d
    obtain⟨i,F,R,H,A,G⟩:=qV hz
    have O:i.size=v:=by unfold szT at L;rw[R]at L;simpa using L
    have k:Ar v cnt z d6 E (λM N=>M=b/\N=fn):=S
    simp only[Ar,FM]at k
    obtain⟨Y,rfl,rfl⟩:=k
    have d0:F.cells.size=v:=by rw[<-Array.length_toList,<-(A ρ).length,Z]
    have J:=iG.zero (A ρ) G cnt
    rw[d0]at J
    obtain⟨B,D,d7⟩:=ANJ hO ps.toList d6 _ _ f5 Y J
    refine⟨.slice (some ⟨w.heap.size,0,none⟩) cnt cnt,.cells B e,B.size,?_,d7.AbD e,fun u id h=>⟨_,_,h,rfl,.inr (by simp),Nat.le_refl _⟩⟩
    have hl:(ps.map λ(i,x)=>(i,g x)).toList=ps.toList.map λp=>(p.1,g p.2):=by simp
    by_cases K:cnt*v=0
    ·have hc:cnt=0:=by
      rcases Nat.mul_eq_zero.1 K with h|h
      ·exact h
      ·omega
     have g4:(Array.range (cnt*v)).map (λx=>(#[]:Array Value)[x%(#[]:Array Value).size]!)=madeCells F.cells (cnt*v):=by rw[K];simp[madeCells]
     have d1:madeCells F.cells (cnt*v)= #[]:=by rw[K];simp[madeCells]
     rw[d1]at D
     have f6:Array.map (λ_:Nat=>(default:Value)) (Array.range 0)= #[]:=by simp
     simp[execOp,Instr.buildSlice,run_underlying hu,sizeOf,typeInfo,R,O,K,newRow]
     rw[f6,D]
     simp
    ·have:=run_buildSlice (P:=P) w t e cnt (ps.map λ(i,x)=>(i,g x)) B i F hu R H (by rw[O];omega) (by rw[O];exact K) (by rw[hl,O];exact D)
     simp[execOp,this]
   ·cases d
  ·cases d
 case makeSlice t l c=>
  split at d
  ·rename_i e hu
   obtain⟨i,R,d⟩:=AB.1 d
   obtain⟨z,hz,d⟩:=AB.1 d
   obtain⟨l',hl,d⟩:=AB.1 d
   obtain⟨c',hc,d⟩:=AB.1 d
   split at d
   ·rename_i C
    obtain⟨Z,f7⟩:=C
    cases d
    obtain⟨Q,F,f8,H,A,G⟩:=qV hz
    have:Q=i:=Option.some.inj (f8.symm.trans R)
    subst this
    have k:I5 Q.size Q.bytes z l' c' E (λM N=>M=b/\N=fn):=S
    simp only[I5,ADA,FM,BK,Bool.and_eq_true]at k
    obtain⟨kl,m,f9,kc,q,g0,⟨g1,g2⟩,rfl,rfl⟩:=k
    have d8:m<=q:=Nat.le_of_ble_eq_true g1
    have g5:Q.bytes*q<=281474976710656:=Nat.le_of_ble_eq_true g2
    have d2:=hO _ _ hl
    have d3:=hO _ _ hc
    rw[f9]at d2
    rw[g0]at d3
    simp only[Aa]at d2 d3
    have hq:q<=Q.bytes*q:=Nat.le_mul_of_pos_left _ f7
    have d9:(Q.bytes:Int)*(q:Int)<=281474976710656:=by
     have h:((Q.bytes*q:Nat):Int)<=281474976710656:=by omega
     rwa [Int.natCast_mul]at h
    have y:=run_make (P:=P) w t e Q F hu R H kl kc m q (by omega) (by omega) d9 (by omega)
    have d0:F.cells.size=Q.size:=by rw[<-Array.length_toList,<-(A ρ).length,Z]
    have J:=iG.zero (A ρ) G q
    rw[d0]at J
    refine⟨_,_,_,?_,J.AbD e,fun u id h=>⟨_,⟨w.heap.size,0,none⟩,h,rfl,.inr (by simp),d8⟩⟩
    simp only[Int.toNat_natCast]at y
    simp[execOp,d2,d3,y]
   ·cases d
  ·cases d
 case makeMap t r=>
  split at d
  ·cases d
   have k:b=.map [] 0/\fn=λid=>.map id:=by
    have:(Nu.map [] 0=b/\(λid=>V.map id)=fn):=S
    exact⟨this.1.symm,this.2.symm⟩
   obtain⟨rfl,rfl⟩:=k
   refine⟨.map (some w.heap.size),.map #[] 0,0,?_,⟨#[],rfl,by simp[KD]⟩,fun u id h=>⟨_,h,rfl⟩⟩
   simp[execOp,Instr.makeMap]
  ·cases d
variable{P:Program}
theorem ACJ.puts{ρ:Loc}{w:World}{x:Info}{esz d:Nat}{c:T LV}{vs:Array Value}{t:TypeId}{fz:Nat×Nat}(h:ACJ ρ w x esz d c vs t fz)
 {i:Nat} {LS:EL} {cs:List Value} (hi:i+LS.length<=d) (G:Bq ρ LS.flatten cs) (H:∀L∈LS,L.length=esz) (B:cs.length=LS.length*esz) (I:∀y∈cs,y.oneCell'=true):
 x.base+i*esz+cs.length<=vs.size/\ACJ ρ (w.setRow x.b (NU vs.toList (x.base+i*esz) cs).toArray) x esz d (Et LS i c) (NU vs.toList (x.base+i*esz) cs).toArray t fz:=by
 have p:∀e,e<=d->e*esz<=d*esz:=λe C=>Nat.mul_le_mul_right _ C
 have F:(i+LS.length)*esz=i*esz+LS.length*esz:=Nat.add_mul _ _ _
 have g:x.base+i*esz+cs.length<=vs.size:=by
  have:=p _ hi
  have:=h.room
  rw[h.size,B]
  omega
 have q:(NU vs.toList (x.base+i*esz) cs).toArray.size=vs.size:=by
  have:=ZF vs.toList (x.base+i*esz) cs (by simpa using g)
  simpa using this
 refine⟨g,{heap:=setRow_heap w x.b vs _ t fz h.heap,size:=q.trans h.size,free:=h.free,sh:=h.sh,room:=h.room,one:=?_,elem:=?_}⟩
 ·intro u k
  simp only[NU,List.mem_append]at k
  rcases k with(k|k)|k
  ·exact h.one u (List.mem_of_mem_take k)
  ·exact I u k
  ·exact h.one u (List.mem_of_mem_drop k)
 ·intro e C
  by_cases v:i<=e/\e<i+LS.length
  ·have f:e-i<LS.length:=by omega
   refine⟨LS[e-i],by rw[Ef,if_pos v,List.getElem?_eq_getElem f],?_⟩
   have D:=dF LS cs G H (e-i) _ (List.getElem?_eq_getElem f)
   have m:=lg g
   rw[<-m]at D
   have A:(e-i)*esz+esz<=cs.length:=by
    have:(e-i+1)*esz<=LS.length*esz:=Nat.mul_le_mul_right _ f
    rw[Nat.add_mul,Nat.one_mul]at this
    omega
   rw[sub_sub A]at D
   have:x.base+i*esz+(e-i)*esz=x.base+e*esz:=by
    have:(i+(e-i))*esz=i*esz+(e-i)*esz:=Nat.add_mul _ _ _
    rw[show i+(e-i)=e by omega]at this
    omega
   rwa [this]at D
  ·obtain⟨L,J,E⟩:=h.elem e C
   refine⟨L,by rw[Ef,if_neg v,J],?_⟩
   rw[YU g]
   ·exact E
   ·rcases Nat.lt_or_ge e i with f|K
    ·left
     have:(e+1)*esz<=i*esz:=Nat.mul_le_mul_right _ f
     rw[Nat.add_mul,Nat.one_mul]at this
     omega
    ·right
     have:(i+LS.length)*esz<=e*esz:=Nat.mul_le_mul_right _ (by omega)
     omega
structure Src(P:Program)(w:World)(u:Value)(n esz:Nat)(cs:List Value):Prop where
 len:∀w':World,(Builtin.lenOf u).run P w'=.ok n w'
 fst:∀m,m<=n->∀w':World,w'.heap=w.heap->(Builtin.firstCells esz m u).run P w'=.ok (cs.take (m*esz)).toArray w'
theorem ANZ{C:World}{ρ:Loc}{H:Heap}{m:Nat}{w:World}(hh:DZ C ρ H m w){G:AY}(D:Xf C G){v:V}{u:Value}(E:Aa ρ v u){esz:Nat}{LS:EL}(h:elems v G H esz=some LS):
 ∃cs:List Value,Bq ρ LS.flatten cs/\cs.length=LS.length*esz/\(∀L∈LS,L.length=esz)/\(∀y∈cs,y.oneCell'=true)/\Src P w u LS.length esz cs:=by
 obtain⟨cs,F,d,f,q,g⟩:=AKB hh D E h
 refine⟨cs,F,d,f,q,?_⟩
 rcases g with⟨rfl,rfl⟩|⟨a,I,rfl,i⟩|⟨s,rfl,J,K,rfl⟩
 ·refine⟨λp=>by simp[Builtin.lenOf],λk x p _=>?_⟩
  have:cs=[]:=List.length_eq_zero_iff.1 (by simpa using d)
  subst this
  simp[Builtin.firstCells]
 ·refine⟨λp=>by simp[Builtin.lenOf],λk x p M=>?_⟩
  have N:k*esz<=cs.length:=by rw[d];exact Nat.mul_le_mul_right _ x
  refine run_firstCells_some (P:=P) p esz k a LS.length I (cs.take (k*esz)) (by simp;omega) (λj y A=>?_)
  rw[List.getElem?_take]at A
  split at A
  ·have:=i j y A
   rw[<-this]
   exact World.cell?_of_block (by rw[M])
  ·cases A
 ·refine⟨λp=>by simp[Builtin.lenOf,K],λk x p _=>?_⟩
  have O:esz=1∨LS=[]:=by
   cases LS with
   |nil=>exact .inr rfl
   |cons L LS=>left;rw[<-f L List.mem_cons_self,J L List.mem_cons_self]
  have B:k*esz=k:=by
   rcases O with rfl|rfl
   ·omega
   ·simp at x;subst x;simp
  rw[B]
  simp only[Builtin.firstCells,Sem.run_pure,Result.ok.injEq,and_true]
  apply Array.toList_inj.1
  simp[ByteArray.data_extract]
theorem AKI{w:World}(t u ty e:TypeId)(d:TypeDesc)(i:TypeInfo)(z:Value)(x:P.underlying t=some (.slice e))(y:P.underlying u=some d)(hd:∀k,d≠.int k)(hi:P.info? e=some i)(A:i.zero=some z)
 {base:Option Addr} {sLen sCap n:Nat} {p:Value} {olds f:List Value} (B:(Builtin.firstCells i.size sLen (.slice base sLen sCap)).run P w.drew=.ok olds.toArray w.drew)
 (hs:Src P w p n i.size f) (C:f.length=n*i.size) (F:sCap<sLen+n) (D:((sLen+n:Nat):Int)<=9223372036854775807) (q:Builtin.nextslicecap (sLen+n) sCap*i.bytes<=281474976710656):
 (Builtin.append_ #[t,u] ty #[.slice base sLen sCap,p]).run P w=
  .ok (.slice (some ⟨w.heap.size,0,none⟩) (sLen+n) (grownCap w (sLen+n) sCap e))
   (w.drew.alloc (.cells (olds.toArray++f.toArray++Builtin.zeroCells z.cells (grownCap w (sLen+n) sCap e-(sLen+n))) e)):=by
 have E:¬(sLen+n<=sCap):=by omega
 have g:¬(9223372036854775807<((sLen:Int)+(n:Int))):=by omega
 have m:¬(281474976710656<Builtin.nextslicecap (sLen+n) sCap*i.bytes):=by omega
 have v:=hs.fst n (Nat.le_refl _) w.drew rfl
 rw[<-C,List.take_length]at v
 simp[Builtin.append_,run_underlying x,run_underlying y,sizeOf,typeInfo,zeroValue,hi,A,hs.len,E,g,m,Question.forced,v,B,newRow,grownCap]
 congr 2
 apply Array.ext'
 simp[List.append_assoc]
theorem YP{w w':World}(t u ty e:TypeId)(d:TypeDesc)(i:TypeInfo)(q:P.underlying t=some (.slice e))(v:P.underlying u=some d)(hd:∀k,d≠.int k)(hi:P.info? e=some i)
 {base:Option Addr} {sLen sCap n:Nat} {x:Value} {f:List Value} (hs:Src P w x n i.size f) (y:f.length=n*i.size) (g:sLen+n<=sCap)
 (m:match base with|some a=>(storeCells (a.add (sLen*i.size)) f).run P w=.ok () w'|none=>w'=w):
 (Builtin.append_ #[t,u] ty #[.slice base sLen sCap,x]).run P w=.ok (.slice base (sLen+n) sCap) w':=by
 have p:=hs.fst n (Nat.le_refl _) w rfl
 rw[<-y,List.take_length]at p
 cases base with
 |none=>subst m;simp[Builtin.append_,run_underlying q,run_underlying v,sizeOf,typeInfo,hi,hs.len,g,p]
 |some a=>simp only at m;simp[Builtin.append_,run_underlying q,run_underlying v,sizeOf,typeInfo,hi,hs.len,g,p,m]
theorem AJ8{ρ:Loc}{esz:Nat}{c0:T LV}{ln:Nat}{olds:List Value}(k:olds.length=ln*esz)(w:∀y∈olds,y.oneCell'=true)
 (m:∀e,e<ln->∃L,T.get c0 e=some L/\Bq ρ L ((olds.drop (e*esz)).take esz)) {LS:EL} {d:List Value} (F:Bq ρ LS.flatten d) (G:∀L∈LS,L.length=esz) (p:d.length=LS.length*esz) (x:∀y∈d,y.oneCell'=true)
 {zs:Array Value} (A:∀y∈zs.toList,y.oneCell'=true) (t:TypeId) {need:Nat} (i:need=ln+LS.length):
 AOi ρ (olds.toArray++d.toArray++zs).size (.arr esz need (Et LS ln c0)) (.cells (olds.toArray++d.toArray++zs) t):=by
 subst i
 have E:(ln+LS.length)*esz=ln*esz+LS.length*esz:=Nat.add_mul _ _ _
 refine⟨_,t,(0,0),rfl,rfl,ACw _,.inr rfl,by simp only[Array.size_append,List.size_toArray,k,p];omega,?_,?_⟩
 ·intro u f
  simp only[Array.toList_append,List.mem_append]at f
  rcases f with(f|f)|f
  ·exact w u f
  ·exact x u f
  ·exact A u f
 ·intro e H
  have q:sub (olds.toArray++d.toArray++zs) (e*esz) esz=((olds++d).drop (e*esz)).take esz:=by
   have B:e*esz+esz<=(olds++d).length:=by
    have:(e+1)*esz<=(ln+LS.length)*esz:=Nat.mul_le_mul_right _ H
    rw[Nat.add_mul,Nat.one_mul]at this
    rw[List.length_append,k,p]
    omega
   simp only[sub,Array.toList_append]
   rw[List.drop_append_of_le_length (by omega),List.take_append_of_le_length (by simp only[List.length_drop];omega)]
  rw[q]
  by_cases v:e<ln
  ·obtain⟨L,I,C⟩:=m e v
   refine⟨L,by rw[Ef,if_neg (by omega),I],?_⟩
   have B:e*esz+esz<=olds.length:=by
    have:(e+1)*esz<=ln*esz:=Nat.mul_le_mul_right _ v
    rw[Nat.add_mul,Nat.one_mul]at this
    omega
   rw[List.drop_append_of_le_length (by omega),List.take_append_of_le_length (by simp only[List.length_drop];omega)]
   exact C
  ·have g:e-ln<LS.length:=by omega
   refine⟨LS[e-ln],by rw[Ef,if_pos (by omega),List.getElem?_eq_getElem g],?_⟩
   have J:=dF LS d F G (e-ln) _ (List.getElem?_eq_getElem g)
   have D:e*esz=olds.length+(e-ln)*esz:=by
    have:(ln+(e-ln))*esz=ln*esz+(e-ln)*esz:=Nat.add_mul _ _ _
    rw[show ln+(e-ln)=e by omega]at this
    omega
   rw[D,List.drop_length_add_append]
   exact J
theorem ACo{z:Array Value}(h:∀y∈z.toList,y.oneCell'=true)(n:Nat):∀y∈(Builtin.zeroCells z n).toList,y.oneCell'=true:=by
 intro y g
 simp only[Builtin.zeroCells,Array.toList_map,List.mem_map,Array.toList_range,List.mem_range]at g
 obtain⟨i,k,rfl⟩:=g
 have d:0<z.size:=by
  rcases Nat.eq_zero_or_pos z.size with e|e
  ·rw[e]at k;simp at k
  ·exact e
 have f:i%z.size<z.size:=Nat.mod_lt _ d
 rw[getElem!_pos z _ f]
 exact h _ (by simp)
def APR(P:Program)(w0:World)(ρ:Loc)(H:Heap)(n:Nat)(w:World)(s:Sem Value)(k:KV):Prop:=
 ∃v H' n' val w' ρ',k v H' n'/\s.run P w=.ok val w'/\Aa ρ' v val/\DZ w0 ρ' H' n' w'/\IE ρ H n ρ' H' n'
structure AUg(P:Program)(t u e:TypeId)(esz bs:Nat)(i:TypeInfo)(z:Value):Prop where
 ht:P.underlying t=some (.slice e)
 hu:∃d,P.underlying u=some d/\∀k,d≠.int k
 hi:P.info? e=some i
 hz:i.zero=some z
 size:i.size=esz
 bytes:i.bytes=bs
 pos:0<bs
 zs:z.cells.size=esz
 z1:∀y∈z.cells.toList,y.oneCell'=true
theorem ASR{need d:Nat}(h:Rk need d=true):need*d<=140737488355328:=Nat.le_of_ble_eq_true h
theorem AIk{t u e:TypeId}{esz x:Nat}{i:TypeInfo}{z:Value}(ty:TypeId)(g:AUg P t u e esz x i z){w:World}{base:Option Addr}{ln cap:Nat}{y:Value}{olds f:List Value}{m:Nat}
 (B:(Builtin.firstCells esz ln (.slice base ln cap)).run P w.drew=.ok olds.toArray w.drew) (hs:Src P w y m esz f) (C:f.length=m*esz) (A:cap<ln+m) (k:Rk (ln+m) x=true):
 (Builtin.append_ #[t,u] ty #[.slice base ln cap,y]).run P w=
  .ok (.slice (some ⟨w.heap.size,0,none⟩) (ln+m) (grownCap w (ln+m) cap e))
   (w.drew.alloc (.cells (olds.toArray++f.toArray++Builtin.zeroCells z.cells (grownCap w (ln+m) cap e-(ln+m))) e)):=by
 obtain⟨d,D,hd⟩:=g.hu
 have q:=g.size
 subst q
 have p:=ASR k
 have v:=g.bytes
 subst v
 have E:ln+m<=(ln+m)*i.bytes:=Nat.le_mul_of_pos_right _ g.pos
 exact AKI t u ty e d i z g.ht D hd g.hi g.hz B hs C A (by omega) (growslice_fits A p)
theorem ATm{t u e:TypeId}{esz v:Nat}{i:TypeInfo}{z:Value}(x:AUg P t u e esz v i z){w:World}{olds d:List Value}{ln m cap need:Nat}(g:olds.length=ln*esz)(k:d.length=m*esz)(p:need=ln+m){f:Loc}{n:Nat}
 (y:f n=some ⟨w.heap.size,0,(olds.toArray++d.toArray++Builtin.zeroCells z.cells (grownCap w need cap e-need)).size⟩):
 Aa f (.F9 n 0 need esz) (.slice (some ⟨w.heap.size,0,none⟩) need (grownCap w need cap e)):=by
 have q:=grownCap_ge w need cap e
 refine⟨_,_,_,y,rfl,.inr (by simp),q,?_⟩
 simp only[Array.size_append,List.size_toArray,size_zeroCells,g,k,x.zs,Nat.zero_add,<-Nat.add_mul]
 exact Nat.mul_le_mul_right _ (by omega)
theorem kW{t u e:TypeId}{esz D:Nat}{i:TypeInfo}{z:Value}(ty:TypeId)(q:AUg P t u e esz D i z){E:World}{ρ:Loc}{H:Heap}{n:Nat}{w:World}(hh:DZ E ρ H n w)
 {base:Option Addr} {cap:Nat} {F:Value} {olds d:List Value} {OS LS:EL} (v:Bq ρ OS.flatten olds) (x:∀L∈OS,L.length=esz) (m:olds.length=OS.length*esz) (A:∀y∈olds,y.oneCell'=true)
 (I:(Builtin.firstCells esz OS.length (.slice base OS.length cap)).run P w.drew=.ok olds.toArray w.drew)
 (J:Bq ρ LS.flatten d) (K:∀L∈LS,L.length=esz) (f:d.length=LS.length*esz) (B:∀y∈d,y.oneCell'=true) (hs:Src P w F LS.length esz d) (M:cap<OS.length+LS.length)
 {k:KV} (h:KH esz D OS LS H n k):APR P E ρ H n w (Builtin.append_ #[t,u] ty #[.slice base OS.length cap,F]) k:=by
 simp only[KH,BL,FM,len_eq]at h
 obtain⟨g,N⟩:=h
 have p:=AIk ty q I hs f M g
 have C:=AJ8 (c0:=Et OS 0 .e) m A (λe G=>⟨OS[e],by rw[Ef,if_pos (by omega)];simp[G],dF OS olds v x e _ (List.getElem?_eq_getElem G)⟩) J K f B
  (ACo q.z1 (grownCap w (OS.length+LS.length) cap e-(OS.length+LS.length))) e (need:=OS.length+LS.length) rfl
 refine⟨_,_,_,_,_,_,N,p,ATm q m f rfl (Loc.add_same _ _ _),hh.drew.new C,IE.place _ hh.AEa⟩
variable{P:Program}
theorem mJ(a:Addr)(w:World):(storeCells a []).run P w=.ok () w:=by simp[storeCells]
theorem AHw{ρ:Loc}{w:World}{b o esz:Nat}{OS:EL}{cs:List Value}(g:Reads ρ w b o OS esz cs){a:Addr}{cap:Nat}(k:0<OS.length->a=⟨b,o,none⟩):
 (Builtin.firstCells esz OS.length (.slice (some a) OS.length cap)).run P w.drew=.ok cs.toArray w.drew:=by
 refine run_firstCells_some (P:=P) w.drew esz OS.length a OS.length cap cs g.len (λj y i=>?_)
 have d:0<OS.length:=by
  rcases Nat.eq_zero_or_pos OS.length with e|e
  ·have f:=g.len;rw[e,Nat.zero_mul]at f
   rw[List.length_eq_zero_iff.1 f]at i;simp at i
  ·exact e
 rw[k d,add_lit]
 rw[<-(g.cell j y i).1]
 exact World.cell?_of_block rfl
theorem AM1{ρ:Loc}{w:World}{b o esz:Nat}{OS:EL}{cs:List Value}(d:Reads ρ w b o OS esz cs):∀y∈cs,y.oneCell'=true:=by
 intro y f
 obtain⟨j,g⟩:=List.mem_iff_getElem?.1 f
 exact(d.cell j y g).2
theorem AV2{t u e:TypeId}{esz bs:Nat}{i:TypeInfo}{z:Value}(ty:TypeId)(R:AUg P t u e esz bs i z)(k5:0<esz){w0:World}{ρ:Loc}{H:Heap}{n:Nat}{w:World}(hh:DZ w0 ρ H n w){G:AY}(hg:Xf w0 G)
 {x y:V} {ux uy:Value} (hx:Aa ρ x ux) (hy:Aa ρ y uy) {LS:EL} (i7:elems y G H esz=some LS) {k:KV} (h:APB x G esz bs LS H n k):
 APR P w0 ρ H n w (Builtin.append_ #[t,u] ty #[ux,uy]) k:=by
 obtain⟨v,hr,K,hl,U,hs⟩:=ANZ (P:=P) hh hg hy i7
 have f0:Src P w uy LS.length i.size v:=by rw[R.size];exact hs
 have Z:v.length=LS.length*i.size:=by rw[R.size];exact K
 obtain⟨d,hu,hd⟩:=R.hu
 have g8:LS=[]->v=[]:=λe=>List.length_eq_zero_iff.1 (by rw[K,e];simp)
 cases x<;>simp only[APB]at h<;>try (exact absurd h id)
 ·
   simp only[Aa]at hx
   subst hx
   cases LS with
   |nil=>
    have N:k .Ad H n:=h
    have C:=YP (P:=P) (w:=w) (w':=w) t u ty e d i R.ht hu hd R.hi (base:=none) (sLen:=0) (sCap:=0) f0 Z (by simp) rfl
    exact⟨_,_,_,_,_,_,N,C,by simp[Aa],hh,IE.refl _ _ _⟩
   |cons L LS=>
    have N:KH esz bs [] (L::LS) H n k:=h
    exact kW (OS:=[]) (olds:=[]) (base:=none) (cap:=0) ty R hh (by simp) (λL h=>(by cases h)) (by simp) (λy h=>(by cases h)) (run_firstCells_none (P:=P) (w:=w.drew) esz 0 0 0) hr hl K U hs (by simp) N
 ·
   rename_i id f m I g
   simp only[Abs,BL,FM,len_eq]at h
   obtain⟨f6,h⟩:=h
   have:=Nat.eq_of_beq_eq_true f6
   subst this
   simp only[Aa]at hx
   obtain⟨p,a,E,rfl,ha,f1⟩:=hx
   cases hb:Nat.ble (Nat.add m LS.length) I with
   |false=>
    rw[hb]at h
    have h':Gu (CQ H id g m f) (λX=>KH g bs X LS H n k):=h
    rw[JR]at h'
    obtain⟨X,d2,N⟩:=h'
    obtain⟨O,cs,A⟩:=Yv hh hg E m f X d2
    have f7:I<m+LS.length:=by
     rcases Nat.lt_or_ge I (m+LS.length)with h|h
     ·exact h
     ·rw[show Nat.ble (Nat.add m LS.length) I=true from Nat.ble_eq_true_of_le h]at hb;cases hb
    subst O
    exact kW ty R hh A.rel A.each A.len (AM1 A) (AHw A (λhp=>Or.resolve_left ha (by omega))) hr hl K U hs f7 N
   |true=>
    rw[hb]at h
    have h':Gu (T.get H id) (λb=>ACp id f m I g (Nat.add m LS.length) LS H n k b):=h
    rw[JR]at h'
    obtain⟨b,F,D⟩:=h'
    have S:m+LS.length<=I:=Nat.le_of_ble_eq_true hb
    cases b with
    |map _ _=>exact False.elim D
    |dead=>exact False.elim D
    |qU _ _ _ _ _=>exact False.elim D
    |own _=>exact False.elim D
    |arr d3 M c=>
     have W:Ji (band (Nat.beq g d3) (Nat.ble (Nat.add f (Nat.add m LS.length)) M)) (k (.sl id f (Nat.add m LS.length) I g) (T.set H id (.arr g M (Et LS (Nat.add f m) c))) n):=D
     simp only[FM,BK,Bool.and_eq_true,beq_iff]at W
     obtain⟨⟨rfl,d4⟩,N⟩:=W
     have d5:f+(m+LS.length)<=M:=Nat.le_of_ble_eq_true d4
     obtain⟨J,tt,fz,q⟩:=hh.arr id p g M c E F
     obtain⟨d1,g9⟩:=q.puts (i:=f+m) (by omega) hr hl K U
     have f8:(storeCells (a.add (m*g)) v).run P w=.ok () (w.setRow p.b (NU J.toList (p.base+(f+m)*g) v).toArray):=by
      rcases Nat.eq_zero_or_pos I with f9|i0
      ·have i8:LS=[]:=List.length_eq_zero_iff.1 (by omega)
       have g0:=g8 i8
       subst g0
       rw[mJ]
       have:(NU J.toList (p.base+(f+m)*g) []).toArray=J:=by simp[NU]
       rw[this,setRow_self w p.b J tt fz q.heap]
      ·have d6:a=⟨p.b,p.base+f*g,none⟩:=by rcases ha with e|e; · omega
                                           ·exact e
       subst d6
       rw[add_lit]
       have d7:=JA (P:=P) p.b (p.base+(f+m)*g) tt fz v 0 J w q.heap (by rw[q.size];exact q.free) (by simpa using d1) U
       simp only[Nat.add_zero]at d7
       rw[show p.base+f*g+m*g=p.base+(f+m)*g by rw[Nat.add_mul];omega]
       exact d7
     have C:=YP (P:=P) (w:=w) t u ty e d i R.ht hu hd R.hi (base:=some a) (sLen:=m) (sCap:=I) f0 Z S (by rw[R.size];exact f8)
     refine⟨_,_,_,_,_,ρ,N,C,⟨p,a,E,rfl,ha,S⟩,?_,IE.turn E _⟩
     refine hh.turn E ⟨_,F,by simp⟩ (setRow_size _ _ _) (λk N=>setRow_other _ _ _ _ N) (setRow_os _ _ _) (setRow_output _ _ _) ?_ (λg ck he=>by cases he) (λ_=>by rw[F];simp) (λ_ _ _ _ _ he=>by cases he)
     intro e2 n2 c2 he
     cases he
     exact⟨_,_,_,g9⟩
 ·
   rename_i id f m g
   simp only[AYp,FM]at h
   obtain⟨f6,h⟩:=h
   have:=Nat.eq_of_beq_eq_true f6
   subst this
   simp only[Aa]at hx
   obtain⟨p,a,B,E,rfl,ha,f1,d0⟩:=hx
   by_cases g1:LS=[]
   ·subst g1
    have g0:=g8 rfl
    subst g0
    have N:k (.F9 id f m g) H n:=h
    have C:=YP (P:=P) (w:=w) (w':=w) t u ty e d i R.ht hu hd R.hi (base:=some a) (sLen:=m) (sCap:=B) f0 Z (by simpa using f1) (mJ _ _)
    exact⟨_,_,_,_,_,_,N,C,⟨p,a,B,E,by simp,ha,f1,d0⟩,hh,IE.refl _ _ _⟩
   ·have k6:0<LS.length:=by cases LS with
     |nil=>exact absurd rfl g1
     |cons L LS=>simp
    have h1:Gu (T.get H id) (λb=>jw id f m g bs LS H n k b):=by
     cases LS with
     |nil=>exact absurd rfl g1
     |cons L LS=>exact h
    rw[JR]at h1
    obtain⟨b,F,D⟩:=h1
    cases b with
    |map _ _=>exact False.elim D
    |dead=>exact False.elim D
    |qU _ _ _ _ _=>exact False.elim D
    |own _=>exact False.elim D
    |arr d3 M c=>
     have W:DT (Nat.add m (len LS)) (λQ=>Ji (band (Rk Q bs) (band (Nat.beq g d3) (Nat.ble (Nat.add f m) M)))
      (DT n λn=>Nat.rec (motive:=λ_=>Prop)
       (k (.F9 n 0 Q g) (T.set (T.set H id .dead) n (.arr g Q (Et LS m c))) (Nat.succ n))
       (λ_ _=>Gu (CQ H id g m f) λX=>k (.F9 n 0 Q g) (T.set (T.set H id .dead) n (.arr g Q (Et LS m (Et X 0 .e)))) (Nat.succ n)) f)):=D
     simp only[BL,FM,BK,Bool.and_eq_true,beq_iff,len_eq]at W
     obtain⟨⟨S,rfl,d4⟩,i1⟩:=W
     have d5:f+m<=M:=Nat.le_of_ble_eq_true d4
     obtain⟨J,tt,fz,q⟩:=hh.arr id p g M c E F
     have key:∃c0:T LV,k (.F9 n 0 (m+LS.length) g) (T.set (T.set H id .dead) n (.arr g (m+LS.length) (Et LS m c0))) (n+1)/\
      ∀e,e<m->∃L,T.get c0 e=some L/\Bq ρ L (sub J (p.base+(f+e)*g) g):=by
      cases f with
      |zero=>
       exact⟨c,i1,λe he=>by rw[Nat.zero_add];exact q.elem e (by omega)⟩
      |succ f=>
       have i2:Gu (CQ H id g m (f+1)) (λX=>k (.F9 n 0 (m+LS.length) g) (T.set (T.set H id .dead) n (.arr g (m+LS.length) (Et LS m (Et X 0 .e)))) (Nat.succ n)):=i1
       rw[JR]at i2
       obtain⟨X,d2,N⟩:=i2
       obtain⟨O,cs,A⟩:=Yv hh hg E m (f+1) X d2
       refine⟨Et X 0 .e,N,λe he=>?_⟩
       refine⟨X[e],by rw[Ef,if_pos (by omega)];simp[O,he],?_⟩
       have i9:=dF X cs A.rel A.each e _ (List.getElem?_eq_getElem (by omega))
       have k0:(cs.drop (e*g)).take g=sub J (p.base+(f+1+e)*g) g:=by
        have f5:e*g+g<=cs.length:=by
         rw[A.len,O]
         have:(e+1)*g<=m*g:=Nat.mul_le_mul_right _ he
         rwa [Nat.add_mul,Nat.one_mul]at this
        have f2:p.base+(f+1+e)*g+g<=J.size:=by
         have:(f+1+e+1)*g<=M*g:=Nat.mul_le_mul_right _ (by omega)
         rw[Nat.add_mul _ 1,Nat.one_mul]at this
         have:=q.room
         rw[q.size];omega
        apply List.ext_getElem?
        intro j
        by_cases hj:j<g
        ·rw[List.getElem?_take,if_pos hj,List.getElem?_drop,gW,if_pos hj]
         have d8:e*g+j<cs.length:=by omega
         rw[List.getElem?_eq_getElem d8]
         have hc:=(A.cell _ _ (List.getElem?_eq_getElem d8)).1
         rw[cell_of_heap q.heap]at hc
         rw[<-hc,Array.getElem?_toList]
         congr 1
         rw[Nat.add_mul (f+1) e];omega
        ·rw[List.getElem?_eq_none (by simp;omega),List.getElem?_eq_none (by rw[Uw f2];omega)]
       rw[<-k0];exact i9
     obtain⟨c0,N,f9⟩:=key
     have hn:=hh.AEa
     have k1:id<n:=hh.lt id p E
     by_cases D:m+LS.length<=B
     ·
       have d6:a=⟨p.b,p.base+f*g,none⟩:=by rcases ha with e|e; · omega
                                           ·exact e
       subst d6
       have i3:(f+(m+LS.length))*g<=(f+B)*g:=Nat.mul_le_mul_right _ (by omega)
       have g2:(f+(m+LS.length))*g=f*g+m*g+LS.length*g:=by rw[Nat.add_mul,Nat.add_mul];omega
       have d1:p.base+(f*g+m*g)+v.length<=J.size:=by rw[q.size,K];omega
       have d7:=JA (P:=P) p.b (p.base+(f*g+m*g)) tt fz v 0 J w q.heap (by rw[q.size];exact q.free) (by simpa using d1) U
       simp only[Nat.add_zero]at d7
       have f8:(storeCells ((⟨p.b,p.base+f*g,none⟩:Addr).add (m*g)) v).run P w=.ok () (w.setRow p.b (NU J.toList (p.base+(f*g+m*g)) v).toArray):=by
        rw[add_lit,show p.base+f*g+m*g=p.base+(f*g+m*g)by omega]
        exact d7
       have C:=YP (P:=P) (w:=w) t u ty e d i R.ht hu hd R.hi (base:=some ⟨p.b,p.base+f*g,none⟩) (sLen:=m) (sCap:=B) f0 Z D (by rw[R.size];exact f8)
       have g3:(NU J.toList (p.base+(f*g+m*g)) v).toArray.size=J.size:=by
        have:=ZF J.toList (p.base+(f*g+m*g)) v (by simpa using d1)
        simpa using this
       refine⟨_,_,_,_,_,_,N,C,⟨⟨p.b,p.base+f*g,p.size⟩,_,B,Loc.add_same _ _ _,rfl,.inr (by simp),D,by simp only[Nat.zero_add];rw[Nat.add_mul]at d0;omega⟩,
        hh.move E ⟨_,F,by simp⟩ (y:=⟨p.b,p.base+f*g,p.size⟩) rfl (setRow_size _ _ _) (λk N=>setRow_other _ _ _ _ N) (setRow_os _ _ _) (setRow_output _ _ _) ?_ (λ_=>by rw[F];simp),IE.move E hn _ _⟩
       refine⟨_,tt,fz,{heap:=setRow_heap w p.b J _ tt fz q.heap,size:=g3.trans q.size,free:=q.free,sh:=q.sh,room:=?_,one:=?_,elem:=?_}⟩
       ·show p.base+f*g+(m+LS.length)*g<=p.size
        rw[Nat.add_mul m];omega
       ·intro u hu
        simp only[NU,List.mem_append]at hu
        rcases hu with(hu|hu)|hu
        ·exact q.one u (List.mem_of_mem_take hu)
        ·exact U u hu
        ·exact q.one u (List.mem_of_mem_drop hu)
       ·intro e he
        show ∃L,T.get (Et LS m c0) e=some L/\Bq ρ L (sub (NU J.toList (p.base+(f*g+m*g)) v).toArray (p.base+f*g+e*g) g)
        by_cases d8:e<m
        ·obtain⟨L,hL,g4⟩:=f9 e d8
         refine⟨L,by rw[Ef,if_neg (by omega),hL],?_⟩
         rw[YU d1]
         ·rw[show p.base+f*g+e*g=p.base+(f+e)*g by rw[Nat.add_mul];omega];exact g4
         ·left
          have:(e+1)*g<=m*g:=Nat.mul_le_mul_right _ d8
          rw[Nat.add_mul,Nat.one_mul]at this
          omega
        ·have d9:e-m<LS.length:=by omega
         refine⟨LS[e-m],by rw[Ef,if_pos (by omega),List.getElem?_eq_getElem d9],?_⟩
         have g5:=dF LS v hr hl (e-m) _ (List.getElem?_eq_getElem d9)
         have g6:=lg d1
         rw[<-g6]at g5
         have g7:(e-m)*g+g<=v.length:=by
          have:(e-m+1)*g<=LS.length*g:=Nat.mul_le_mul_right _ d9
          rw[Nat.add_mul,Nat.one_mul]at this
          omega
         rw[sub_sub g7]at g5
         have:p.base+(f*g+m*g)+(e-m)*g=p.base+f*g+e*g:=by
          have:(m+(e-m))*g=m*g+(e-m)*g:=Nat.add_mul _ _ _
          rw[show m+(e-m)=e by omega]at this
          omega
         rwa [this]at g5
     ·
       have g2:(f+m)*g=f*g+m*g:=Nat.add_mul _ _ _
       have i3:(f+m)*g<=M*g:=Nat.mul_le_mul_right _ d5
       have f3:p.base+f*g+m*g<=J.size:=by have:=q.room;rw[q.size];omega
       have Y:(sub J (p.base+f*g) (m*g)).length=m*g:=Uw f3
       have k2:∀y∈sub J (p.base+f*g) (m*g),y.oneCell'=true:=by
        intro y hy
        exact q.one y (List.mem_of_mem_drop (List.mem_of_mem_take hy))
       have f4:(Builtin.firstCells g m (.slice (some a) m B)).run P w.drew=.ok (sub J (p.base+f*g) (m*g)).toArray w.drew:=by
        refine run_firstCells_some (P:=P) w.drew g m a m B _ Y (λj y hj=>?_)
        obtain⟨i4,k3⟩:=AJO hj
        have i0:B≠0:=by
         intro h0
         have:m=0:=by omega
         rw[this]at i4;simp at i4
        have d6:a=⟨p.b,p.base+f*g,none⟩:=by rcases ha with e|e; · exact absurd e i0
                                            ·exact e
        rw[d6,add_lit]
        have:=cell_of_heap q.heap (p.base+f*g+j)
        rw[k3]at this
        rw[<-this]
        exact World.cell?_of_block rfl
       have C:=AIk ty R f4 hs K (by omega) S
       have i5:∀e,e<m->∃L,T.get c0 e=some L/\Bq ρ L (((sub J (p.base+f*g) (m*g)).drop (e*g)).take g):=by
        intro e he
        obtain⟨L,hL,g4⟩:=f9 e he
        refine⟨L,hL,?_⟩
        have f5:e*g+g<=m*g:=by
         have:(e+1)*g<=m*g:=Nat.mul_le_mul_right _ he
         rwa [Nat.add_mul,Nat.one_mul]at this
        rw[sub_sub f5]
        rw[show p.base+f*g+e*g=p.base+(f+e)*g by rw[Nat.add_mul];omega]
        exact g4
       have k4:=AJ8 (c0:=c0) Y k2 i5 hr hl K U (ACo R.z1 (grownCap w (m+LS.length) B e-(m+LS.length))) e (need:=m+LS.length) rfl
       refine⟨_,_,_,_,_,_,N,C,ATm R Y K rfl (Loc.add_same _ _ _),(hh.kill k1 (λ_=>by rw[F];simp)).drew.new k4,IE.move E hn _ _⟩
 ·
   rename_i b f m I g
   simp only[AXb,FM,len_eq,Nat.blt_eq]at h
   obtain⟨f7,h⟩:=h
   simp only[Aa]at hx
   obtain⟨a,rfl,ha,f1⟩:=hx
   rw[JR]at h
   obtain⟨X,d2,N⟩:=h
   obtain⟨O,cs,A⟩:=yj hh hg m f X d2
   subst O
   have i6:0<X.length->a=⟨b,f,none⟩:=λhp=>ha.resolve_left (by omega)
   exact kW ty R hh A.rel A.each A.len (AM1 A) (AHw A i6) hr hl K U hs f7 N
end Go.Bf
