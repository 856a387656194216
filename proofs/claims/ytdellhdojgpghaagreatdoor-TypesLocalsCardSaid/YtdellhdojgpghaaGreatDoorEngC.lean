/- Part of a proof; nothing is assumed. -/
import Derived.Test.YtdellhdojgpghaaGreatDoorEngB
import Derived.Lib.Bytealg
import Derived.Laws.MakeOwn
import Derived.Great.BuildSlice
import Derived.Laws.AppendOwn
import Derived.Lib.ConvBytes
set_option linter.unusedVariables false
set_option linter.unusedSimpArgs false
namespace Go.Bj
variable{P:Program}
theorem AHm{ρ:Loc}{off:Nat}{x r:V}{u:Value}(hx:AZ ρ x u)(h:AQ off x=some r):∃b o,u=.pointer (some ⟨b,o,none⟩)/\AZ ρ r (.pointer (some ⟨b,o+off,none⟩)):=by
 unfold AQ at h
 rw[AEj]at h
 rcases h with⟨i,o,rfl,h⟩|⟨i,o,rfl,h⟩
 ·rw[BP]at h;cases h
  simp only[AZ]at hx
  obtain⟨z,hz,rfl⟩:=hx
  refine⟨_,_,rfl,?_⟩
  simp only[AZ]
  exact⟨z,hz,by rw[show z.base+o+off=z.base+Nat.add o off from by show _=z.base+(o+off);omega]⟩
 ·rw[BP]at h;cases h
  simp only[AZ]at hx
  subst hx
  exact⟨_,_,rfl,rfl⟩
theorem AQe{ρ:Loc}{s:TypeId}{fs:Array Field}{i:Nat}{fl:Field}{n:Nat}(hs:P.underlying s=some (.struct fs))(hf:fs[i]? =some fl)(hz:szT P fl.type=some (n+1)){x r:V}{u:Value}(hx:AZ ρ x u)
 (h:AQ fl.offset x=some r) (w:World):∃val,(Instr.fieldAt s u i).run P w=.ok val w/\AZ ρ r val:=by
 obtain⟨b,o,rfl,hr⟩:=AHm hx h
 refine⟨_,?_,hr⟩
 have hso:=run_sizeOf (P:=P) hz w
 simp[Instr.fieldAt,run_underlying hs,hf,Instr.sureAddr,fieldPlace,hso,add_lit]
theorem AJr{z:Info}{a:Addr}{o esz cap i:Nat}(h:cap=0∨a=⟨z.b,z.base+o*esz,none⟩)(hi:i<cap):a.add (i*esz)=⟨z.b,z.base+(o+i)*esz,none⟩:=by
 rcases h with rfl|rfl
 ·omega
 ·rw[add_lit];congr 1;rw[Nat.add_mul];omega
theorem AP4{ρ:Loc}{t e:TypeId}{esz:Nat}(ht:P.underlying t=some (.slice e))(hz:szT P e=some esz){x i r:V}{u ui:Value}(hx:AZ ρ x u)(hi:AZ ρ i ui)(h:BJ esz x i=some r)(w:World):
 ∃val,(Instr.indexAt t u ui).run P w=.ok val w/\AZ ρ r val:=by
 unfold BJ at h
 rw[Qm]at h
 obtain⟨k,m,rfl,h⟩:=h
 simp only[AZ]at hi
 subst hi
 have hso:=run_sizeOf (P:=P) hz w
 have key:∀(a:Addr) (len cap:Nat),m<len->(Instr.indexAt t (.slice (some a) len cap) (.int k m)).run P w=.ok (.pointer (some (a.add (m*esz)))) w:=by
  intro a len cap hm
  have h1:(0:Int)<=m/\(m:Int)<len:=⟨by omega,by omega⟩
  simp[Instr.indexAt,run_underlying ht,asIntOf,h1,hso]
  omega
 cases x<;>simp only[V.AUD]at h<;>try (cases h;done)
 ·rw[Ba,BP]at h
  obtain⟨hc,h⟩:=h
  cases h
  simp only[BO,Bool.and_eq_true,beq_iff,Nat.blt_eq]at hc
  obtain⟨rfl,hlt⟩:=hc
  simp only[AZ]at hx
  obtain⟨z,a,hz',rfl,ha,hle⟩:=hx
  refine⟨_,key a _ _ hlt,?_⟩
  rw[AJr ha (by omega)]
  simp only[AZ]
  exact⟨z,hz',rfl⟩
 ·rw[Ba,BP]at h
  obtain⟨hc,h⟩:=h
  cases h
  simp only[BO,Bool.and_eq_true,beq_iff,Nat.blt_eq]at hc
  obtain⟨rfl,hlt⟩:=hc
  simp only[AZ]at hx
  obtain⟨z,a,cp,hz',rfl,ha,hle,_⟩:=hx
  refine⟨_,key a _ _ hlt,?_⟩
  rw[AJr ha (by omega)]
  simp only[AZ]
  exact⟨z,hz',rfl⟩
 ·rw[Ba,BP]at h
  obtain⟨hc,h⟩:=h
  cases h
  rw[Nat.blt_eq]at hc
  simp only[AZ]at hx
  obtain⟨a,rfl,ha,hle⟩:=hx
  refine⟨_,key _ _ _ hc,?_⟩
  rcases ha with e|e
  ·omega
  ·rw[e,add_lit]
   simp[AZ]
theorem ANX{ρ:Loc}{t e:TypeId}{n esz:Nat}(ht:P.underlying t=some (.array n e))(hz:szT P e=some esz){x i r:V}{u ui:Value}(hx:AZ ρ x u)(hi:AZ ρ i ui)
 (h:XK i (λi=>BF (Nat.blt i n) (AQ (Nat.mul i esz) x))=some r) (w:World):∃val,(Instr.indexAt t u ui).run P w=.ok val w/\AZ ρ r val:=by
 rw[Qm]at h
 obtain⟨k,m,rfl,h⟩:=h
 simp only[AZ]at hi
 subst hi
 rw[Ba]at h
 obtain⟨hc,h⟩:=h
 rw[Nat.blt_eq]at hc
 obtain⟨b,o,rfl,hr⟩:=AHm hx h
 have hso:=run_sizeOf (P:=P) hz w
 refine⟨_,?_,hr⟩
 have h1:(0:Int)<=m/\(m:Int)<n:=⟨by omega,by omega⟩
 simp[Instr.indexAt,run_underlying ht,asIntOf,Instr.sureAddr,h1,hso,add_lit]
 omega
theorem AJa{ρ:Loc}{l:LV}{u:Value}(h:AZ ρ (.agg l) u):∃a:Array Value,u=.agg a/\CV ρ l a.toList/\∀y∈a.toList,y.oneCell'=true:=h
theorem AHx{ρ:Loc}{t:TypeId}(ht:NR P t=some false){l:LV}{a:Array Value}(h:CV ρ l a.toList){off:Nat}{r:V}(hr:nth l off=some r)(w:World):
 ∃val,(Go.part t a off).run P w=.ok val w/\AZ ρ r val:=by
 rw[kQ]at hr
 obtain⟨v,hv,hrel⟩:=h.get hr
 refine⟨v,?_,hrel⟩
 have hv':a[off]? =some v:=by simpa using hv
 simp[Go.part,gy ht,hv']
theorem AQH{ρ:Loc}{t:TypeId}(ht:NR P t=some true){n:Nat}(hz:szT P t=some n){l:LV}{a:Array Value}(h:CV ρ l a.toList)(h1:∀y∈a.toList,y.oneCell'=true){off:Nat}(w:World):
 ∃val,(Go.part t a off).run P w=.ok val w/\AZ ρ (.agg (Yc n (lX off l))) val:=by
 refine⟨.agg (a.extract off (off+n)),?_,?_⟩
 ·simp[Go.part,gy ht,run_sizeOf hz]
 ·simp only[AZ,iI,qB]
  refine⟨_,rfl,?_,?_⟩
  ·have:=(h.drop off).take n
   simpa using this
  ·intro y hy
   refine h1 y ?_
   have:y∈(a.toList.drop off).take n:=by simpa using hy
   exact List.mem_of_mem_drop (List.mem_of_mem_take this)
theorem ANo{ρ:Loc}{s:TypeId}{fs:Array Field}{i:Nat}{fl:Field}(hs:P.underlying s=some (.struct fs))(hf:fs[i]? =some fl)(hz:NR P fl.type=some false){x r:V}{u:Value}(hx:AZ ρ x u)
 (h:x.uP (λl=>nth l fl.offset)=some r) (w:World):∃val,(Instr.field s u i).run P w=.ok val w/\AZ ρ r val:=by
 rw[AAL]at h
 obtain⟨l,rfl,h⟩:=h
 obtain⟨a,rfl,hl,_⟩:=AJa hx
 obtain⟨val,hv,hr⟩:=AHx hz hl h w
 exact⟨val,by simp[Instr.field,run_underlying hs,hf,asAgg,hv],hr⟩
theorem AMw{ρ:Loc}{s:TypeId}{fs:Array Field}{i:Nat}{fl:Field}(hs:P.underlying s=some (.struct fs))(hf:fs[i]? =some fl)(hz:NR P fl.type=some true){n:Nat}(hn:szT P fl.type=some n){x r:V}{u:Value}(hx:AZ ρ x u)
 (h:x.uP (λl=>some (.agg (Yc n (lX fl.offset l))))=some r) (w:World):∃val,(Instr.field s u i).run P w=.ok val w/\AZ ρ r val:=by
 rw[AAL]at h
 obtain⟨l,rfl,h⟩:=h
 cases h
 obtain⟨a,rfl,hl,h1⟩:=AJa hx
 obtain⟨val,hv,hr⟩:=AQH hz hn hl h1 (off:=fl.offset) w
 exact⟨val,by simp[Instr.field,run_underlying hs,hf,asAgg,hv],hr⟩
theorem ATV{ρ:Loc}{t:TypeId}(ht:P.underlying t=some .string){x i r:V}{u ui:Value}(hx:AZ ρ x u)(hi:AZ ρ i ui)
 (h:x.RV (λln c=>XK i λi=>BF (Nat.blt i ln) (CW (AQS c i) λb=>some (.int .u8 (.ofNat b) 0)))=some r) (w:World):∃val,(Instr.index t u ui).run P w=.ok val w/\AZ ρ r val:=by
 rw[Ip]at h
 obtain⟨ln,c,rfl,h⟩:=h
 rw[Qm]at h
 obtain⟨k,m,rfl,h⟩:=h
 rw[Ba,BP]at h
 obtain⟨hlt,h⟩:=h
 cases h
 rw[Nat.blt_eq]at hlt
 obtain⟨s,rfl,rfl,rfl⟩:=J8 hx
 simp only[AZ]at hi
 subst hi
 have hm:m<s.size:=by rw[Og];exact hlt
 have h1:(0:Int)<=m/\(m:Int)<s.size:=⟨by omega,by omega⟩
 refine⟨_,by rw[run_index_string w t s k m ht,dif_pos h1],?_⟩
 rw[ALe _ _ hlt]
 simp only[AZ]
 rfl
theorem ARh{ρ:Loc}{t e:TypeId}{n:Nat}(ht:P.underlying t=some (.array n e))(hz:szT P e=some 1)(ha:NR P e=some false){x i r:V}{u ui:Value}(hx:AZ ρ x u)(hi:AZ ρ i ui)
 (h:x.uP (λl=>XK i λi=>BF (Nat.blt i n) (nth l i))=some r) (w:World):∃val,(Instr.index t u ui).run P w=.ok val w/\AZ ρ r val:=by
 rw[AAL]at h
 obtain⟨l,rfl,h⟩:=h
 rw[Qm]at h
 obtain⟨k,m,rfl,h⟩:=h
 rw[Ba]at h
 obtain⟨hlt,h⟩:=h
 rw[Nat.blt_eq]at hlt
 obtain⟨a,rfl,hl,_⟩:=AJa hx
 simp only[AZ]at hi
 subst hi
 obtain⟨val,hv,hr⟩:=AHx ha hl h w
 have h1:(0:Int)<=m/\(m:Int)<n:=⟨by omega,by omega⟩
 have hso:=run_sizeOf (P:=P) hz w
 refine⟨val,?_,hr⟩
 simp[Instr.index,run_underlying ht,asIntOf,h1,hso,hv]
 omega
theorem AV3{ρ:Loc}{x r:V}{u:Value}(hx:AZ ρ x u){i:Nat}(h:x.AKk (λl=>nth l i)=some r)(w:World):∃val,(Instr.extract u i).run P w=.ok val w/\AZ ρ r val:=by
 rw[AMK]at h
 obtain⟨l,rfl,h⟩:=h
 simp only[AZ]at hx
 obtain⟨a,rfl,hl⟩:=hx
 rw[kQ]at h
 obtain⟨v,hv,hr⟩:=hl.get h
 have hv':a[i]? =some v:=by simpa using hv
 exact⟨v,by simp[Instr.extract,hv'],hr⟩
theorem AQ1{ρ:Loc}{t e:TypeId}(ht:P.underlying t=some (.slice e)){x r:V}{u:Value}(hx:AZ ρ x u)(h:lenV x=some r)(ty:TypeId)(w:World):∃val,(Builtin.len_ #[t] ty #[u]).run P w=.ok val w/\AZ ρ r val:=by
 have key:∃p n c,u=.slice p n c/\r=.int .i64 (.ofNat n) 0:=by
  cases x<;>simp only[lenV]at h<;>try (cases h;done)
  ·simp only[AZ]at hx;exact⟨_,_,_,hx,(Option.some.inj h).symm⟩
  ·simp only[AZ]at hx;obtain⟨_,_,_,hx,_⟩:=hx;exact⟨_,_,_,hx,(Option.some.inj h).symm⟩
  ·simp only[AZ]at hx;obtain⟨_,_,_,_,hx,_⟩:=hx;exact⟨_,_,_,hx,(Option.some.inj h).symm⟩
  ·simp only[AZ]at hx;obtain⟨_,hx,_⟩:=hx;exact⟨_,_,_,hx,(Option.some.inj h).symm⟩
 obtain⟨p,n,c,rfl,rfl⟩:=key
 exact⟨_,by simp[Builtin.len_,run_underlying ht];rfl,by simp[AZ,goInt]⟩
theorem ATe{ρ:Loc}{t:TypeId}(ht:P.underlying t=some .string){x r:V}{u:Value}(hx:AZ ρ x u)(h:x.RV (λn _=>some (.int .i64 (.ofNat n) 0))=some r)(ty:TypeId)(w:World):
 ∃val,(Builtin.len_ #[t] ty #[u]).run P w=.ok val w/\AZ ρ r val:=by
 rw[Ip]at h
 obtain⟨n,c,rfl,h⟩:=h
 cases h
 obtain⟨s,rfl,rfl,_⟩:=J8 hx
 exact⟨_,by simp[Builtin.len_,run_underlying ht];rfl,by simp only[AZ,goInt,Og];rfl⟩
theorem ATh{ρ:Loc}{t e:TypeId}{n:Nat}(ht:P.underlying t=some (.array n e)){u:Value}(ty:TypeId)(w:World):
 ∃val,(Builtin.len_ #[t] ty #[u]).run P w=.ok val w/\AZ ρ (.int .i64 (.ofNat n) 0) val:=
 ⟨_,by simp[Builtin.len_,run_underlying ht];rfl,by simp[AZ,goInt]⟩
variable{P:Program}
def AI0(ρ:Loc)(E:RS):Option X->Option Value->Prop
 |none,none=>True
 |some x,some v=>AZ ρ (x.ev E) v
 |_,_=>False
theorem IC{ρ:Loc}{E:RS}{x:Option X}{ov:Option Value}(ho:AI0 ρ E x ov){d:Nat}{f:Nat->Option V}{r:V}(h:dO x E d f=some r):
 ∃n:Nat,f n=some r/\((ov=none/\n=d)∨∃k,ov=some (.int k n)):=by
 cases x with
 |none=>
  cases ov with
  |none=>exact⟨d,h,.inl ⟨rfl,rfl⟩⟩
  |some v=>exact ho.elim
 |some x=>
  cases ov with
  |none=>exact ho.elim
  |some v=>
   have h':XK (x.ev E) f=some r:=h
   rw[Qm]at h'
   obtain⟨k,m,hx,hf⟩:=h'
   have ho':AZ ρ (x.ev E) v:=ho
   rw[hx]at ho'
   simp only[AZ]at ho'
   subst ho'
   exact⟨m,hf,.inr ⟨k,rfl⟩⟩
theorem Q5{k:IntKind}{n y:Nat}{code:BoundsCode}(h:n<=y)(w:World):(Instr.sliceBound (.int k n) y code).run P w=.ok n w:=by
 have h1:(0:Int)<=n/\(n:Int)<=y:=⟨by omega,by omega⟩
 simp[Instr.sliceBound,asIntOf,h1]
theorem TQ{b:Bool}{len cap l h m:Nat}{lo hi mx:Option Value}(hm:(mx=none/\m=cap)∨∃k,mx=some (.int k m))(hh:(hi=none/\h=len)∨∃k,hi=some (.int k h))(hl:(lo=none/\l=0)∨∃k,lo=some (.int k l))
 (hmx:hi=none->mx=none) (h1:m<=cap) (h2:h<=m) (h3:l<=h) (w:World):(Instr.sliceBounds b len cap lo hi mx).run P w=.ok (l,h,m) w:=by
 rcases hm with⟨rfl,rfl⟩|⟨km,rfl⟩
 ·rcases hh with⟨rfl,rfl⟩|⟨kh,rfl⟩
  ·rcases hl with⟨rfl,rfl⟩|⟨kl,rfl⟩
   ·simp[Instr.sliceBounds]
   ·simp[Instr.sliceBounds,Q5 h3]
  ·rcases hl with⟨rfl,rfl⟩|⟨kl,rfl⟩
   ·simp[Instr.sliceBounds,Q5 h2]
   ·simp[Instr.sliceBounds,Q5 h2,Q5 h3]
 ·rcases hh with⟨rfl,rfl⟩|⟨kh,rfl⟩
  ·exact absurd (hmx rfl) (by simp)
  ·rcases hl with⟨rfl,rfl⟩|⟨kl,rfl⟩
   ·simp[Instr.sliceBounds,Q5 h1,Q5 h2]
   ·simp[Instr.sliceBounds,Q5 h1,Q5 h2,Q5 h3]
@[simp] theorem AGP(a b c:Nat)(f:Nat->Nat->Nat->V):f3 a b c f=some (f a b c):=by simp[f3]
theorem AAu{z:Info}{a:Addr}{o esz cap l:Nat}(h:cap=0∨a=⟨z.b,z.base+o*esz,none⟩){m:Nat}(hm:l<=m)(hc:m<=cap):
 m-l=0∨(if m=l then a else a.add (l*esz))=⟨z.b,z.base+(o+l)*esz,none⟩:=by
 rcases Nat.eq_or_lt_of_le hm with e|e
 ·left;omega
 ·right
  rw[if_neg (by omega)]
  exact AJr h (by omega)
theorem U1{t e:TypeId}{esz:Nat}(ht:P.underlying t=some (.slice e))(hz:szT P e=some esz){a:Option Addr}{len cap l h m:Nat}{lo hi mx:Option Value}{w:World}(hb:(Instr.sliceBounds true len cap lo hi mx).run P w=.ok (l,h,m) w):
 (Instr.sliceAt t (.slice a len cap) lo hi mx).run P w=.ok (.slice (if m=l then a else a.map (·.add (l*esz))) (h-l) (m-l)) w:=by
 have hso:=run_sizeOf (P:=P) hz w
 simp[Instr.sliceAt,Instr.slice,run_underlying ht,hb,hso]
theorem AVg{ρ:Loc}{E:RS}{t e:TypeId}{esz:Nat}(ht:P.underlying t=some (.slice e))(hz:szT P e=some esz){x:V}{u:Value}(hx:AZ ρ x u){lo hi mx:Option X}{qJ vhi vmx:Option Value}
 (hlo:AI0 ρ E lo qJ) (hhi:AI0 ρ E hi vhi) (hmx:AI0 ρ E mx vmx) (hc:mx.isSome=true->hi.isSome=true) {r:V} (h:ADx esz x E lo hi mx=some r) (w:World):
 ∃val,(Instr.sliceAt t u qJ vhi vmx).run P w=.ok val w/\AZ ρ r val:=by
 have hmh:vhi=none->vmx=none:=by
  intro hv
  subst hv
  cases hi with
  |some _=>exact hhi.elim
  |none=>
   cases mx with
   |some _=>exact absurd (hc rfl) (by simp)
   |none=>cases vmx with
    |none=>rfl
    |some _=>exact hmx.elim
 unfold ADx at h
 cases x<;>simp only[V.AUD]at h<;>try (cases h;done)
 ·
   simp only[AZ]at hx
   subst hx
   unfold AEf at h
   obtain⟨m,h,h0⟩:=IC hmx h
   obtain⟨hn,h,h1⟩:=IC hhi h
   obtain⟨ln,h,h2⟩:=IC hlo h
   rw[Ba]at h
   obtain⟨hb,h⟩:=h
   cases h
   simp only[BO,Bool.and_eq_true,beq_iff]at hb
   obtain⟨hb1,hb2,rfl⟩:=hb
   have hb1':ln<=hn:=Nat.le_of_ble_eq_true hb1
   have hb2':hn<=0:=Nat.le_of_ble_eq_true hb2
   have hbd:=TQ (P:=P) (b:=true) (len:=0) (cap:=0) (m:=0) h0 h1 h2 hmh (Nat.le_refl _) hb2' hb1' w
   have e0:ln=0:=by omega
   have e1:hn=0:=by omega
   subst e0 e1
   exact⟨_,U1 ht hz hbd,by simp[AZ]⟩
 ·rename_i id off ln cap es
  unfold ALy at h
  rw[Ba,beq_iff]at h
  obtain⟨rfl,h⟩:=h
  obtain⟨m,h,h0⟩:=IC hmx h
  obtain⟨hn,h,h1⟩:=IC hhi h
  obtain⟨l,h,h2⟩:=IC hlo h
  rw[Ba,AGP]at h
  obtain⟨hb,h⟩:=h
  cases h
  simp only[BO,Bool.and_eq_true]at hb
  have b1:l<=hn:=Nat.le_of_ble_eq_true hb.1
  have b2:hn<=m:=Nat.le_of_ble_eq_true hb.2.1
  have b3:m<=cap:=Nat.le_of_ble_eq_true hb.2.2
  simp only[AZ]at hx
  obtain⟨z,a,hz',rfl,ha,hle⟩:=hx
  have hbd:=TQ (P:=P) (b:=true) (len:=ln) (cap:=cap) h0 h1 h2 hmh b3 b2 b1 w
  refine⟨_,U1 ht hz hbd,?_⟩
  simp only[AZ]
  refine⟨z,if m=l then a else a.add (l*esz),hz',?_,AAu ha (by omega) b3,?_⟩
  ·congr 1;split<;>rfl
  ·show hn-l<=m-l;omega
 ·rename_i id off ln es
  unfold ACJ at h
  rw[Ba,beq_iff]at h
  obtain⟨rfl,h⟩:=h
  simp only[AZ]at hx
  obtain⟨z,a,cp,hz',rfl,ha,hle,hroom⟩:=hx
  cases mx with
  |none=>
   cases vmx with
   |some _=>exact hmx.elim
   |none=>
    have h':AEC E lo hi id off ln esz=some r:=h
    unfold AEC at h'
    obtain⟨hn,h',h1⟩:=IC hhi h'
    obtain⟨l,h',h2⟩:=IC hlo h'
    rw[Ba,AGP]at h'
    obtain⟨hb,h'⟩:=h'
    cases h'
    simp only[BO,Bool.and_eq_true]at hb
    have b1:l<=hn:=Nat.le_of_ble_eq_true hb.1
    have b2:hn<=ln:=Nat.le_of_ble_eq_true hb.2
    have hbd:=TQ (P:=P) (b:=true) (len:=ln) (cap:=cp) (m:=cp) (.inl ⟨rfl,rfl⟩) h1 h2 (λ_=>rfl) (Nat.le_refl _) (by omega) b1 w
    refine⟨_,U1 ht hz hbd,?_⟩
    simp only[AZ]
    refine⟨z,if cp=l then a else a.add (l*esz),cp-l,hz',?_,AAu ha (by omega) (Nat.le_refl _),?_,?_⟩
    ·congr 1;split<;>rfl
    ·show hn-l<=cp-l;omega
    ·have:Nat.add off l+(cp-l)=off+cp:=by show off+l+(cp-l)=_;omega
     rw[this];exact hroom
  |some mx=>
   cases vmx with
   |none=>exact hmx.elim
   |some vm=>
    have h':AEW E lo hi mx id off ln esz=some r:=h
    unfold AEW at h'
    rw[Qm]at h'
    obtain⟨km,m,hmv,h'⟩:=h'
    have hmx':AZ ρ (mx.ev E) vm:=hmx
    rw[hmv]at hmx'
    simp only[AZ]at hmx'
    subst hmx'
    have hih:∃hx,hi=some hx:=Option.isSome_iff_exists.1 (hc rfl)
    obtain⟨hx,rfl⟩:=hih
    obtain⟨hn,h',h1⟩:=IC hhi h'
    obtain⟨l,h',h2⟩:=IC hlo h'
    rw[Ba,AGP]at h'
    obtain⟨hb,h'⟩:=h'
    cases h'
    simp only[BO,Bool.and_eq_true]at hb
    have b1:l<=hn:=Nat.le_of_ble_eq_true hb.1
    have b2:hn<=m:=Nat.le_of_ble_eq_true hb.2.1
    have b3:m<=ln:=Nat.le_of_ble_eq_true hb.2.2
    have h1':(vhi=none/\hn=ln)∨∃k,vhi=some (.int k hn):=by
     rcases h1 with⟨e,_⟩|h1
     ·subst e;exact hhi.elim
     ·exact .inr h1
    have hbd:=TQ (P:=P) (b:=true) (len:=ln) (cap:=cp) (m:=m) (.inr ⟨km,rfl⟩) h1' h2 (λe=>absurd e (by rintro rfl;exact hhi.elim)) (by omega) b2 b1 w
    refine⟨_,U1 ht hz hbd,?_⟩
    simp only[AZ]
    refine⟨z,if m=l then a else a.add (l*esz),hz',?_,?_,?_⟩
    ·congr 1;split<;>rfl
    ·have:=AAu ha (l:=l) (m:=m) (by omega) (by omega)
     exact this
    ·show hn-l<=m-l;omega
 ·rename_i b off ln cap es
  unfold AFg at h
  obtain⟨hn,h,h1⟩:=IC hhi h
  obtain⟨l,h,h2⟩:=IC hlo h
  cases mx with
  |some mx=>cases h
  |none=>
   cases vmx with
   |some _=>exact hmx.elim
   |none=>
    have h':BF (band (Nat.ble l hn) (Nat.ble hn cap)) (f3 (Nat.add off (Nat.mul l esz)) (Nat.sub hn l) (Nat.sub cap l) λo d c=>.rsl b o d c es)=some r:=h
    rw[Ba,AGP]at h'
    obtain⟨hb,h'⟩:=h'
    cases h'
    simp only[BO,Bool.and_eq_true]at hb
    have b1:l<=hn:=Nat.le_of_ble_eq_true hb.1
    have b2:hn<=cap:=Nat.le_of_ble_eq_true hb.2
    simp only[AZ]at hx
    obtain⟨a,rfl,ha,hle⟩:=hx
    have hbd:=TQ (P:=P) (b:=true) (len:=ln) (cap:=cap) (m:=cap) (.inl ⟨rfl,rfl⟩) h1 h2 (λ_=>rfl) (Nat.le_refl _) b2 b1 w
    refine⟨_,U1 ht hz hbd,?_⟩
    simp only[AZ]
    by_cases e:cap=l
    ·rw[if_pos e]
     refine⟨a,rfl,.inl (by show cap-l=0;omega),?_⟩
     show hn-l<=cap-l;omega
    ·rw[if_neg e]
     refine⟨_,rfl,.inr ?_,?_⟩
     ·rcases ha with ha|ha
      ·omega
      ·rw[ha];exact add_lit b off (l*esz)
     ·show hn-l<=cap-l;omega
theorem toList_extract(s:ByteArray)(l h:Nat):(s.extract l h).data.toList=(s.data.toList.drop l).take (h-l):=by
 rw[ByteArray.data_extract]
 simp
theorem ALz{ρ:Loc}{E:RS}{t:TypeId}(ht:P.underlying t=some .string){x:V}{u:Value}(hx:AZ ρ x u){lo hi:Option X}{qJ vhi:Option Value}
 (hlo:AI0 ρ E lo qJ) (hhi:AI0 ρ E hi vhi) {r:V} (h:gV x E lo hi=some r) (w:World):
 ∃val,(Instr.sliceAt t u qJ vhi none).run P w=.ok val w/\AZ ρ r val:=by
 unfold gV at h
 rw[Ip]at h
 obtain⟨ln,c,rfl,h⟩:=h
 obtain⟨hn,h,h1⟩:=IC hhi h
 obtain⟨l,h,h2⟩:=IC hlo h
 rw[Ba,AGP]at h
 obtain⟨hb,h⟩:=h
 cases h
 simp only[BO,Bool.and_eq_true]at hb
 have b1:l<=hn:=Nat.le_of_ble_eq_true hb.1
 have b2:hn<=ln:=Nat.le_of_ble_eq_true hb.2
 obtain⟨s,rfl,rfl,rfl⟩:=J8 hx
 have hsz:=Og s
 have hbd:=TQ (P:=P) (b:=false) (len:=s.size) (cap:=s.size) (m:=s.size) (mx:=none) (.inl ⟨rfl,rfl⟩) (by rw[hsz];exact h1) h2 (λ_=>rfl) (Nat.le_refl _) (by omega) b1 w
 refine⟨.string (s.extract l hn),?_,⟨_,rfl,?_,?_⟩⟩
 ·simp[Instr.sliceAt,Instr.slice,run_underlying ht,hbd]
 ·rw[toList_extract];simp only[List.length_take,List.length_drop];show _=hn-l;omega
 ·rw[toList_extract,AA6]
theorem ATH{ρ:Loc}{E:RS}{t e:TypeId}{n esz:Nat}(ht:P.underlying t=some (.array n e))(hz:szT P e=some esz){x:V}{u:Value}(hx:AZ ρ x u){lo hi:Option X}{qJ vhi:Option Value}
 (hlo:AI0 ρ E lo qJ) (hhi:AI0 ρ E hi vhi) {r:V}
 (h:x.AK2 (λid o=>dO hi E n λh=>dO lo E 0 λl=>BF (band (Nat.beq (Nat.mod o esz) 0) (band (Nat.ble l h) (Nat.ble h n))) (f3 (Nat.add (Nat.div o esz) l) (Nat.sub h l) (Nat.sub n l) λa b c=>.sl id a b c esz)) (λ_ _=>none)=some r) (w:World):
 ∃val,(Instr.sliceAt t u qJ vhi none).run P w=.ok val w/\AZ ρ r val:=by
 rw[AEj]at h
 rcases h with⟨id,o,rfl,h⟩|⟨_,_,_,h⟩
 ·obtain⟨hn,h,h1⟩:=IC hhi h
  obtain⟨l,h,h2⟩:=IC hlo h
  rw[Ba,AGP]at h
  obtain⟨hb,h⟩:=h
  cases h
  simp only[BO,Bool.and_eq_true,beq_iff]at hb
  have b0:o%esz=0:=hb.1
  have b1:l<=hn:=Nat.le_of_ble_eq_true hb.2.1
  have b2:hn<=n:=Nat.le_of_ble_eq_true hb.2.2
  simp only[AZ]at hx
  obtain⟨z,hz',rfl⟩:=hx
  have hbd:=TQ (P:=P) (b:=false) (len:=n) (cap:=n) (m:=n) (mx:=none) (.inl ⟨rfl,rfl⟩) h1 h2 (λ_=>rfl) (Nat.le_refl _) b2 b1 w
  have hso:=run_sizeOf (P:=P) hz w
  refine⟨.slice (some (if n=l then⟨z.b,z.base+o,none⟩else(⟨z.b,z.base+o,none⟩:Addr).add (l*esz))) (hn-l) (n-l),?_,?_⟩
  ·simp[Instr.sliceAt,run_underlying ht,Instr.sureAddr,hbd,hso]
  ·simp only[AZ]
   refine⟨z,_,hz',rfl,?_,by show hn-l<=n-l;omega⟩
   have hdm:esz*(o/esz)+o%esz=o:=Nat.div_add_mod o esz
   have ha:n=0∨(⟨z.b,z.base+o,none⟩:Addr)=⟨z.b,z.base+(o/esz)*esz,none⟩:=by
    right;congr 2;rw[Nat.mul_comm];omega
   exact AAu ha (by omega) (Nat.le_refl _)
 ·cases h
variable{P:Program}
theorem AJ4{u:Value}(h:u.oneCell'=true):u.cells= #[u]:=by cases u<;>first|rfl|(simp[Value.oneCell']at h)
theorem vU{ρ:Loc}{v:V}{u:Value}(h:AZ ρ v u)(hc:Wi v=true):CV ρ (BA v) u.cells.toList/\∀y∈u.cells.toList,y.oneCell'=true:=by
 by_cases h1:AKQ v=true
 ·have ho:=h.one h1
  rw[AJ4 ho]
  have:BA v=[v]:=by cases v<;>first|rfl|(simp[AKQ]at h1)
  rw[this]
  exact⟨.cons h .nil,by simpa using ho⟩
 ·cases v<;>first|(exact absurd rfl h1)|(simp[Wi]at hc;done)|skip
  simp only[AZ]at h
  obtain⟨a,rfl,hr,ho⟩:=h
  exact⟨hr,ho⟩
theorem ACH:∀(l:List Value) (cells:Array Value) (off k:Nat),off+k+l.length<=cells.size->
 ((l.zipIdx k).foldl (λcs x=>match x with|(c,j)=>cs.setIfInBounds (off+j) c) cells).toList=OO cells.toList (off+k) l
 |[],cells,off,k,_=>by simp[OO]
 |v::l,cells,off,k,h=>by
  simp only[List.zipIdx_cons,List.foldl_cons]
  rw[ACH l (cells.setIfInBounds (off+k) v) off (k+1) (by simp at h⊢;omega)]
  have e:=list_seg_step cells.toList (off+k) v l (by simp at h⊢;omega)
  simpa[OO,Array.toList_setIfInBounds,Nat.add_assoc]using e
def ZG(f:Operand->Option X)(places:Nat->Option (Nat×Nat))(zn:Nat):List (Nat×Operand)->Option (List (Nat×Nat×X))
 |[]=>some []
 |(i,o)::r=>(places i).bind λp=>if p.1+p.2<=zn then(f o).bind λx=>(ZG f places zn r).map λr'=>(p.1,p.2,x)::r' else none
theorem AKR{ρ:Loc}{E:RS}{g:Operand->Value}{f:Operand->Option X}(hO:∀o x,f o=some x->AZ ρ (x.ev E) (g o)){places:Nat->Option (Nat×Nat)}{zn:Nat}:
 ∀(ps:List (Nat×Operand)) (ps':List (Nat×Nat×X)) (z:LV) (cells:Array Value),ZG f places zn ps=some ps'->iq ps' E=true->CV ρ z cells.toList->(∀y∈cells.toList,y.oneCell'=true)->cells.size=zn->
  ∃cells',Instr.fill places cells (ps.map λp=>(p.1,g p.2))=some cells'/\CV ρ (ADA ps' E z) cells'.toList/\(∀y∈cells'.toList,y.oneCell'=true)
 |[],ps',z,cells,h,_,hz,h1,_=>by
  simp only[ZG]at h
  cases h
  exact⟨cells,rfl,hz,h1⟩
 |(i,o)::r,ps',z,cells,h,hc,hz,h1,hs=>by
  simp only[ZG,Option.bind_eq_some_iff]at h
  obtain⟨p,hp,h⟩:=h
  split at h
  ·rename_i hfit
   simp only[Option.bind_eq_some_iff]at h
   obtain⟨x,hx,h⟩:=h
   cases hr:ZG f places zn r with
   |none=>rw[hr]at h;cases h
   |some r'=>
    rw[hr]at h
    cases h
    have hc':band (band (Wi (x.ev E)) (Nat.beq (len (BA (x.ev E))) p.2)) (iq r' E)=true:=hc
    simp only[BO,Bool.and_eq_true,beq_iff,len_eq]at hc'
    obtain⟨⟨hok,hlen⟩,hrest⟩:=hc'
    obtain⟨hvc,hone⟩:=vU (hO o x hx) hok
    have hcl:(g o).cells.toList.length=p.2:=by rw[<-hvc.length,hlen]
    have hsz:(g o).cells.size=p.2:=by simpa using hcl
    have hf:=ACH (g o).cells.toList cells p.1 0 (by rw[hcl];omega)
    simp only[Nat.add_zero]at hf
    generalize hcs:((g o).cells.toList.zipIdx 0).foldl (λcs x=>match x with|(c,j)=>cs.setIfInBounds (p.1+j) c) cells=cells1 at hf
    have hl1:cells1.size=zn:=by
     have:cells1.toList.length=cells.toList.length:=by rw[hf,Xq _ _ _ (by rw[hcl];simp;omega)]
     simpa[hs]using this
    have hz1:CV ρ (AMi (BA (x.ev E)) p.1 z) cells1.toList:=by
     rw[hf,AIv,OO,hvc.length,List.append_assoc]
     exact(hz.take _).append (hvc.append (hz.drop _))
    have ho1:∀y∈cells1.toList,y.oneCell'=true:=by
     intro y hy
     rw[hf,OO]at hy
     rcases List.mem_append.1 hy with hy|hy
     ·rcases List.mem_append.1 hy with hy|hy
      ·exact h1 y (List.mem_of_mem_take hy)
      ·exact hone y hy
     ·exact h1 y (List.mem_of_mem_drop hy)
    obtain⟨cells',hfill,hrel,hone'⟩:=AKR hO r r' _ cells1 hr hrest hz1 ho1 hl1
    refine⟨cells',?_,hrel,hone'⟩
    have hcond:(decide ((g o).cells.size≠p.2)||decide (p.1+(g o).cells.size>cells.size))=false:=by
     rw[hsz,hs];simp;omega
    have hfold:(g o).cells.zipIdx.foldl (λcs x=>match x with|(c,j)=>cs.setIfInBounds (p.1+j) c) cells=cells1:=by
     rw[<-hcs,<-Array.foldl_toList,Array.toList_zipIdx]
    simp only[List.map_cons,Instr.fill,hp]
    rw[if_neg (by rw[hcond];simp)]
    rw[hfold]
    exact hfill
  ·cases h
def AJ0(P:Program)(t:TypeId):Option (Nat->Option (Nat×Nat)):=
 match P.underlying t with
 |some (.struct fields)=>(fields.toList.mapM λf=>(P.info? f.type).map λi=>(f.offset,i.size)).map λplaces=>λi=>places.toArray[i]?
 |some (.array _ e)=>(P.info? e).map λie=>λi=>some (i*ie.size,ie.size)
 |_=>none
theorem APp{ρ:Loc}{E:RS}{g:Operand->Value}{f:Operand->Option X}(hO:∀o x,f o=some x->AZ ρ (x.ev E) (g o)){t:TypeId}{places:Nat->Option (Nat×Nat)}(hp:AJ0 P t=some places)
 {z:LV} (hz:ABa P t=some z) {ps:Array (Nat×Operand)} {ps':List (Nat×Nat×X)} (hps:ZG f places z.length ps.toList=some ps') {r:V} (h:BF (iq ps' E) (some (.agg (ADA ps' E z)))=some r) (w:World):
 ∃val,(Instr.build t (ps.map λ(i,x)=>(i,g x))).run P w=.ok val w/\AZ ρ r val:=by
 rw[Ba]at h
 obtain⟨hc,h⟩:=h
 cases h
 unfold ABa at hz
 simp only[Option.bind_eq_some_iff]at hz
 obtain⟨i,hi,zv,hzv,hzl⟩:=hz
 obtain⟨hzr,_,hz1⟩:=uV (ρ:=ρ) hzl
 obtain⟨cells',hfill,hrel,hone⟩:=AKR hO ps.toList ps' z zv.cells hps hc hzr hz1 (by rw[<-Array.length_toList,<-hzr.length])
 refine⟨.agg cells',?_,⟨cells',rfl,hrel,hone⟩⟩
 refine run_build w t _ cells' ?_
 have hl:(ps.map λ(i,x)=>(i,g x)).toList=ps.toList.map λp=>(p.1,g p.2):=by simp
 rw[hl]
 unfold AJ0 at hp
 unfold Program.built
 split at hp
 ·rename_i fields hu
  cases hm:fields.toList.mapM (λf=>(P.info? f.type).map λi=>(f.offset,i.size))with
  |none=>rw[hm]at hp;cases hp
  |some pl=>
   rw[hm]at hp
   have hpl:=Option.some.inj hp
   simp only[hi,hu,hzv,hm]
   rw[<-hpl]at hfill
   exact hfill
 ·rename_i n e hu
  cases he:P.info? e with
  |none=>rw[he]at hp;cases hp
  |some ie=>
   rw[he]at hp
   have hpl:=Option.some.inj hp
   simp only[hi,hu,hzv,he]
   rw[<-hpl]at hfill
   exact hfill
 ·cases hp
variable{P:Program}
def ABV(P:Program)(t:TypeId):Option CK:=
 match P.underlying t with
 |some (.int _)=>some .int
 |some .string=>some .str
 |some .bool=>some .bool
 |_=>none
theorem run_checkKey{t:TypeId}{c:CK}(h:ABV P t=some c)(b:Bool)(d:Nat)(u:Value)(w:World):(Instr.checkKey b (d+1) t u).run P w=.ok () w:=by
 unfold ABV at h
 split at h<;>first|(cases h;done)|(rename_i hu;simp[Instr.checkKey,run_underlying hu])
theorem AH0(a b:ByteArray):(a==b)=(a.data.toList==b.data.toList):=by rw[beq_toListBytes,ByteArray.toList_eq,ByteArray.toList_eq]
theorem AS3{ρ:Loc}{t:TypeId}{c:CK}{d:TypeDesc}(hd:P.underlying t=some d)(h:ABV P t=some c){x y:V}{u u':Value}(hx:AZ ρ x u)(hy:AZ ρ y u'){b:Bool}(he:c.eq x y=some b):
 Instr.sameNow d u' u=some b/\(b=true->u=u')/\Instr.sameBits 10000 u u=true:=by
 unfold ABV at h
 rw[hd]at h
 split at h<;>rename_i hdd<;>try (cases h;done)
 ·cases h
  cases hdd
  have h':AKl x y=some b:=he
  cases x<;>simp only[AKl]at h'<;>try (cases h';done)
  obtain⟨m,s',rfl,rfl⟩:=zZ h'
  simp only[AZ]at hx hy
  subst hx hy
  rename_i k n s
  refine⟨?_,?_,?_⟩
  ·simp only[Instr.sameNow,if_true,Option.some.injEq]
   rw[Bool.eq_iff_iff];simp only[beq_iff_eq];exact eq_comm
  ·intro e;simp only[beq_iff_eq]at e;rw[e]
  ·show(k==k&&n==n)=true;simp
 ·cases h
  cases hdd
  have h':ALZ x y=some b:=he
  cases x<;>simp only[ALZ]at h'<;>try (cases h';done)
  cases y<;>simp only[eqStr]at h'<;>try (cases h';done)
  obtain⟨s1,rfl,rfl,rfl⟩:=J8 hx
  obtain⟨s2,rfl,rfl,rfl⟩:=J8 hy
  simp only[BO]at h'
  have e2:(s1.data.toList==s2.data.toList)=b:=by rw[AIB];exact Option.some.inj h'
  refine⟨?_,?_,?_⟩
  ·simp only[Instr.sameNow,Option.some.injEq,AH0]
   rw[<-e2,Bool.eq_iff_iff];simp only[beq_iff_eq];exact eq_comm
  ·intro e;subst e;simp only[beq_iff_eq]at e2
   have:s1.data=s2.data:=by rw[<-Array.toArray_toList (xs:=s1.data),e2,Array.toArray_toList]
   cases s1;cases s2;simp only at this;subst this;rfl
  ·show(s1==s1)=true;rw[AH0];simp
 ·cases h
  cases hdd
  have h':ADU x y=some b:=he
  cases x<;>simp only[ADU]at h'<;>try (cases h';done)
  cases y<;>simp only[AMW]at h'<;>try (cases h';done)
  simp only[AZ]at hx hy
  subst hx hy
  rename_i p q
  simp only[AJF]at h'
  have e2:=Option.some.inj h'
  refine⟨?_,?_,?_⟩
  ·simp only[Instr.sameNow,Option.some.injEq]
   rw[<-e2];cases p<;>cases q<;>rfl
  ·intro e;subst e;simp only[beq_iff_eq]at e2;rw[e2]
  ·show(p==p)=true;simp
theorem jf{ρ:Loc}{t:TypeId}{c:CK}{d:TypeDesc}(hd:P.underlying t=some d)(hk:ABV P t=some c){k:V}{u:Value}(hu:AZ ρ k u):
 ∀{es:ME} {es':List MapEntry} {i:Nat} {r:Option (Nat×V)},sO c k es i=some r->Lh ρ es es'->
  (r=none/\Instr.findNow d u es' i=some none)∨
  ∃j kv v v' b e',r=some (i+j,v)/\Instr.findNow d u es' i=some (some (i+j,v'))/\AZ ρ v v'/\es[j]? =some (kv,v,b)/\es'[j]? =some e'/\e'.key=u/\e'.born=b/\AZ ρ kv u/\Instr.sameBits 10000 u u=true
 |[],es',i,r,h,he=>by
  simp only[Lh]at he
  subst he
  have h':some none=some r:=h
  cases h'
  exact .inl ⟨rfl,rfl⟩
 |(kv,v,b)::es,_,i,r,h,⟨e,es',rfl,h1,h2,h3,h4⟩=>by
  have h':Bl (c.eq kv k) (λq=>Bool.rec (sO c k es (Nat.succ i)) (some (some (i,v))) q)=some r:=h
  rw[Bg]at h'
  obtain⟨q,hq,h'⟩:=h'
  obtain⟨hs,heq,hsb⟩:=AS3 hd hk h1 hu hq
  cases q with
  |true=>
   have h'':some (some (i,v))=some r:=h'
   cases h''
   refine .inr ⟨0,kv,v,e.val,b,e,rfl,?_,h2,rfl,rfl,heq rfl,h3,?_,?_⟩
   ·simp[Instr.findNow,hs]
   ·rw[<-heq rfl];exact h1
   ·rw[<-heq rfl];exact hsb
  |false=>
   have h'':sO c k es (i+1)=some r:=h'
   rcases jf hd hk hu h'' h4 with⟨rfl,hf⟩|⟨j,kv',v1,v2,b',e',rfl,hf,hv,g1,g2,g3,g4,g5⟩
   ·exact .inl ⟨rfl,by simp[Instr.findNow,hs,hf]⟩
   ·refine .inr ⟨j+1,kv',v1,v2,b',e',by rw[show i+1+j=i+(j+1)by omega],?_,hv,by simpa using g1,by simpa using g2,g3,g4,g5⟩
    simp only[Instr.findNow,hs]
    rw[hf,show i+1+j=i+(j+1)by omega]
theorem AAn{w0:World}{ρ:Loc}{H:Heap}{n:Nat}{w:World}(hh:D8 w0 ρ H n w){m:V}{u:Value}(hm:AZ ρ m u){f:ME->Nat->Option V}{r:V}(h:RF H m f=some r):
 ∃es ck,f es ck=some r/\((u=.map none/\es=[])∨∃b,∃es':Array MapEntry,u=.map (some b)/\w.heap[b]? =some (.map es' ck)/\Lh ρ es es'.toList):=by
 unfold RF at h
 cases m<;>simp only[V.AN3]at h<;>try (cases h;done)
 ·simp only[AZ]at hm
  exact⟨[],0,h,.inl ⟨hm,rfl⟩⟩
 ·rename_i id
  simp only[AZ]at hm
  obtain⟨x,hx,rfl⟩:=hm
  cases hb:T.get H id with
  |none=>rw[hb]at h;cases h
  |some b=>
   rw[hb]at h
   cases b with
   |arr _ _ _=>cases h
   |dead=>cases h
   |iZ _ _ _ _ _=>cases h
   |own _=>cases h
   |map es ck=>
    obtain⟨es',he,hr⟩:=hh.map id x es ck hx hb
    exact⟨es,ck,h,.inr ⟨x.b,es',rfl,he,hr⟩⟩
theorem TT{b:Nat}{w:World}{es:Array MapEntry}{ck:Nat}(h:w.heap[b]? =some (.map es ck)):(getObj b).run P w=.ok (.map es ck) w:=by
 simp[getObj,Sem.run,h]
theorem AS6{w0:World}{ρ:Loc}{H:Heap}{n:Nat}{w:World}(hh:D8 w0 ρ H n w){t kt et:TypeId}{c:CK}{d:TypeDesc}(ht:P.underlying t=some (.map kt et))(hd:P.underlying kt=some d)(hk:ABV P kt=some c)
 {i:TypeInfo} {zv:Value} (hi:P.info? et=some i) (hz:i.zero=some zv) {z:V} (hzr:AZ ρ z zv) {m k:V} {u uk:Value} (hm:AZ ρ m u) (hkr:AZ ρ k uk) {ok:Bool} {r:V}
 (h:RF H m (λes _=>Bl (sO c k es 0) (APA ok z))=some r):∃val,(Instr.lookup t u uk ok).run P w=.ok val w/\AZ ρ r val:=by
 obtain⟨es,ck,h,hcase⟩:=AAn hh hm h
 rw[Bg]at h
 obtain⟨q,hq,h⟩:=h
 have hzero:(zeroValue et).run P w=.ok zv w:=by simp[zeroValue,typeInfo,hi,hz]
 have key:∀es':Array MapEntry,Lh ρ es es'.toList->∃val,AZ ρ r val/\
  ((do Instr.checkKey es'.isEmpty 10000 kt uk
       let fd<-Instr.findKey kt uk es'.toList
       let vo<-match fd with
        |some (_,v)=>(pure (v,true):Sem (Value×Bool))
        |none=>do let zz<-zeroValue et;pure (zz,false)
       pure (if ok then .tuple #[vo.1,.bool vo.2]else vo.1)):Sem Value).run P w=.ok val w:=by
  intro es' he
  have hck:=run_checkKey (P:=P) hk es'.isEmpty 9999 uk w
  have hfk:∀q',Instr.findNow d uk es'.toList 0=some q'->(Instr.findKey kt uk es'.toList).run P w=.ok q' w:=by
   intro q' hq'
   simp[Instr.findKey,run_underlying hd,hq']
  rcases jf hd hk hkr hq he with⟨rfl,hf⟩|⟨j,kv,v,v',b,e',rfl,hf,hv,_⟩
  ·have h':AC1 ok (some (.EI [z,.bool false])) (some z)=some r:=h
   rw[aO]at h'
   refine⟨if ok then .tuple #[zv,.bool false]else zv,?_,?_⟩
   ·cases ok with
    |true=>cases h';simp only[AZ,if_true];exact⟨_,rfl,.cons hzr (.cons (by simp[AZ]) .nil)⟩
    |false=>cases h';exact hzr
   ·simp only[Sem.run_bind,hck,Result.andThen_ok,hfk _ hf,hzero,Sem.run_pure]
  ·have h':AC1 ok (some (.EI [v,.bool true])) (some v)=some r:=h
   rw[aO]at h'
   refine⟨if ok then .tuple #[v',.bool true]else v',?_,?_⟩
   ·cases ok with
    |true=>cases h';simp only[AZ,if_true];exact⟨_,rfl,.cons hv (.cons (by simp[AZ]) .nil)⟩
    |false=>cases h';exact hv
   ·simp only[Sem.run_bind,hck,Result.andThen_ok,hfk _ hf,Sem.run_pure]
 rcases hcase with⟨rfl,rfl⟩|⟨b,es',rfl,hb,he⟩
 ·obtain⟨val,hr,hrun⟩:=key #[] (by simp[Lh])
  refine⟨val,?_,hr⟩
  rw[<-hrun]
  simp only[Instr.lookup,Sem.run_bind,run_underlying ht,Result.andThen_ok]
  rfl
 ·obtain⟨val,hr,hrun⟩:=key es' he
  refine⟨val,?_,hr⟩
  rw[<-hrun]
  simp only[Instr.lookup,Sem.run_bind,run_underlying ht,Result.andThen_ok,TT hb]
  rfl
variable{P:Program}
structure Reads(ρ:Loc)(w:World)(b o:Nat)(LS:CJ)(esz:Nat)(cs:List Value):Prop where
 rel:CV ρ LS.flatten cs
 len:cs.length=LS.length*esz
 each:∀L∈LS,L.length=esz
 cell:∀j y,cs[j]? =some y->w.cell? ⟨b,o+j,none⟩=some y/\y.oneCell'=true
theorem Reads.nil(ρ:Loc)(w:World)(b o esz:Nat):Reads ρ w b o [] esz []:=⟨by simp,by simp,λL h=>(by cases h),λj y h=>by simp at h⟩
theorem Reads.cons{ρ:Loc}{w:World}{b o esz:Nat}{L:LV}{LS:CJ}{c1 cs:List Value}(h1:CV ρ L c1)(hl:c1.length=esz)(hc:∀j y,c1[j]? =some y->w.cell? ⟨b,o+j,none⟩=some y/\y.oneCell'=true)
 (h:Reads ρ w b (o+esz) LS esz cs):Reads ρ w b o (L::LS) esz (c1++cs):=by
 refine⟨by simpa using h1.append h.rel,by rw[List.length_append,h.len,hl,List.length_cons,Nat.add_mul];omega,?_,?_⟩
 ·intro M hM
  rcases List.mem_cons.1 hM with rfl|hM
  ·rw[h1.length,hl]
  ·exact h.each M hM
 ·intro j y hj
  by_cases hlt:j<esz
  ·rw[List.getElem?_append_left (by omega)]at hj;exact hc j y hj
  ·rw[List.getElem?_append_right (by omega),hl]at hj
   have:=h.cell _ y hj
   rwa [show o+esz+(j-esz)=o+j by omega]at this
theorem XU{w0:World}{ρ:Loc}{H:Heap}{m:Nat}{w:World}(hh:D8 w0 ρ H m w){G:AV}(hg:Vg w0 G){id:Nat}{x:Info}(hx:ρ id=some x){esz:Nat}:
 ∀(n o:Nat) (LS:CJ),BZ H id esz n o=some LS->LS.length=n/\∃cs,Reads ρ w x.b (x.base+o*esz) LS esz cs
 |0,o,LS,h=>by
  have h':some []=some LS:=h
  cases h'
  exact⟨rfl,[],Reads.nil _ _ _ _ _⟩
 |n+1,o,LS,h=>by
  have h':Bl (aB H id (Nat.mul o esz) esz) (λL=>Bl (BZ H id esz n (Nat.succ o)) λLS=>some (L::LS))=some LS:=h
  rw[Bg]at h'
  obtain⟨L,hL,h'⟩:=h'
  rw[Bg]at h'
  obtain⟨LS',hLS,h'⟩:=h'
  cases h'
  have hp:AZ ρ (.ptr id (o*esz)) (.pointer (some ⟨x.b,x.base+o*esz,none⟩)):=⟨x,hx,rfl⟩
  obtain⟨a,c1,ha,_,hr,hl,h1,hc⟩:=fZ hh hg hp (m:=esz) (L:=L) hL
  cases ha
  obtain⟨hlen,cs,hcs⟩:=XU hh hg hx n (o+1) LS' hLS
  refine⟨by simp[hlen],c1++cs,Reads.cons hr hl ?_ ?_⟩
  ·intro j y hj
   have:=hc j y hj
   rw[add_lit]at this
   exact⟨this,h1 y (List.mem_of_getElem? hj)⟩
  ·rw[show x.base+o*esz+esz=x.base+(o+1)*esz by rw[Nat.add_mul];omega]
   exact hcs
theorem qQ{w0:World}{ρ:Loc}{H:Heap}{m:Nat}{w:World}(hh:D8 w0 ρ H m w){G:AV}(hg:Vg w0 G){b esz:Nat}:
 ∀(n o:Nat) (LS:CJ),dM G b esz n o=some LS->LS.length=n/\∃cs,Reads ρ w b o LS esz cs
 |0,o,LS,h=>by
  have h':some []=some LS:=h
  cases h'
  exact⟨rfl,[],Reads.nil _ _ _ _ _⟩
 |n+1,o,LS,h=>by
  have h':Bl (G b o esz) (λL=>Bl (dM G b esz n (Nat.add o esz)) λLS=>some (L::LS))=some LS:=h
  rw[Bg]at h'
  obtain⟨L,hL,h'⟩:=h'
  rw[Bg]at h'
  obtain⟨LS',hLS,h'⟩:=h'
  cases h'
  have hp:AZ ρ (.gptr b o) (.pointer (some ⟨b,o,none⟩)):=rfl
  obtain⟨a,c1,ha,_,hr,hl,h1,hc⟩:=fZ hh hg hp (m:=esz) (L:=L) hL
  cases ha
  obtain⟨hlen,cs,hcs⟩:=qQ hh hg n (o+esz) LS' hLS
  refine⟨by simp[hlen],c1++cs,Reads.cons hr hl ?_ hcs⟩
  intro j y hj
  have:=hc j y hj
  rw[add_lit]at this
  exact⟨this,h1 y (List.mem_of_getElem? hj)⟩
theorem sD{ρ:Loc}:∀(l:List UInt8),CV ρ (TV l.length (enc l)).flatten (l.map λb=>Value.int .u8 b.toNat)/\(TV l.length (enc l)).length=l.length/\∀L∈TV l.length (enc l),L.length=1
 |[]=>⟨CV.nil,rfl,λL h=>(by cases h)⟩
 |b::l=>by
  have hb:b.toNat<256:=b.toNat_lt
  have e1:enc (b::l)%256=b.toNat:=by simp only[enc];omega
  have e2:enc (b::l)/256=enc l:=by simp only[enc];omega
  obtain⟨h1,h2,h3⟩:=sD (ρ:=ρ) l
  have e:TV (b::l).length (enc (b::l))=[.int .u8 (.ofNat (enc (b::l)%256)) 0]::TV l.length (enc (b::l)/256):=rfl
  rw[e,e1,e2]
  refine⟨?_,by simp[h2],?_⟩
  ·simp only[List.flatten_cons,List.cons_append,List.nil_append,List.map_cons]
   exact .cons (by simp[AZ]) h1
  ·intro L hL
   rcases List.mem_cons.1 hL with rfl|hL
   ·rfl
   ·exact h3 L hL
theorem AE7{w0:World}{ρ:Loc}{H:Heap}{m:Nat}{w:World}(hh:D8 w0 ρ H m w){G:AV}(hg:Vg w0 G){v:V}{u:Value}(hv:AZ ρ v u){esz:Nat}{LS:CJ}(h:elems v G H esz=some LS):
 ∃cs:List Value,CV ρ LS.flatten cs/\cs.length=LS.length*esz/\(∀L∈LS,L.length=esz)/\(∀y∈cs,y.oneCell'=true)/\
  ((u=.slice none 0 0/\LS=[])∨(∃a cp,u=.slice (some a) LS.length cp/\∀j y,cs[j]? =some y->w.cell? (a.add j)=some y)∨
   (∃s:ByteArray,u=.string s/\(∀L∈LS,L.length=1)/\LS.length=s.size/\cs=s.data.toList.map λb=>Value.int .u8 b.toNat)):=by
 have rd:∀{b o:Nat} {cs:List Value} {a:Addr} {cp:Nat},Reads ρ w b o LS esz cs->(0<LS.length->a=⟨b,o,none⟩)->u=.slice (some a) LS.length cp->∃cs:List Value,CV ρ LS.flatten cs/\cs.length=LS.length*esz/\(∀L∈LS,L.length=esz)/\(∀y∈cs,y.oneCell'=true)/\
  ((u=.slice none 0 0/\LS=[])∨(∃a cp,u=.slice (some a) LS.length cp/\∀j y,cs[j]? =some y->w.cell? (a.add j)=some y)∨
   (∃s:ByteArray,u=.string s/\(∀L∈LS,L.length=1)/\LS.length=s.size/\cs=s.data.toList.map λb=>Value.int .u8 b.toNat)):=by
  intro b o cs a cp hr ha hu
  refine⟨cs,hr.rel,hr.len,hr.each,?_,.inr (.inl ⟨a,cp,hu,?_⟩)⟩
  ·intro y hy
   obtain⟨j,hj⟩:=List.mem_iff_getElem?.1 hy
   exact(hr.cell j y hj).2
  ·intro j y hj
   have hpos:0<LS.length:=by
    rcases Nat.eq_zero_or_pos LS.length with e|e
    ·have hcl:=hr.len;rw[e,Nat.zero_mul]at hcl
     rw[List.length_eq_zero_iff.1 hcl]at hj;simp at hj
    ·exact e
   rw[ha hpos,add_lit]
   exact(hr.cell j y hj).1
 cases v<;>simp only[elems]at h<;>try (cases h;done)
 ·rename_i l c
  obtain⟨s,rfl,rfl,rfl⟩:=J8 hv
  cases hb:Nat.beq 1 esz with
  |false=>rw[hb]at h;cases h
  |true=>
   rw[hb]at h
   have e:=Nat.eq_of_beq_eq_true hb
   subst e
   have h':TV s.data.toList.length (enc s.data.toList)=LS:=Option.some.inj h
   subst h'
   obtain⟨h1,h2,h3⟩:=sD (ρ:=ρ) s.data.toList
   refine⟨_,h1,by rw[List.length_map,h2];omega,h3,?_,.inr (.inr ⟨s,rfl,h3,by rw[h2,Og],rfl⟩)⟩
   intro y hy
   obtain⟨b,_,rfl⟩:=List.mem_map.1 hy
   rfl
 ·simp only[AZ]at hv
  cases h
  exact⟨[],by simp,by simp,λL h=>(by cases h),λy h=>(by cases h),.inl ⟨hv,rfl⟩⟩
 ·rename_i id off ln cap es
  cases hb:Nat.beq es esz with
  |false=>rw[hb]at h;cases h
  |true=>
   rw[hb]at h
   have e:=Nat.eq_of_beq_eq_true hb
   subst e
   simp only[AZ]at hv
   obtain⟨x,a,hx,rfl,ha,hle⟩:=hv
   obtain⟨hlen,cs,hr⟩:=XU hh hg hx ln off LS h
   subst hlen
   exact rd hr (λhp=>by rcases ha with e|e; · omega
                        ·exact e) rfl
 ·rename_i id off ln es
  cases hb:Nat.beq es esz with
  |false=>rw[hb]at h;cases h
  |true=>
   rw[hb]at h
   have e:=Nat.eq_of_beq_eq_true hb
   subst e
   simp only[AZ]at hv
   obtain⟨x,a,cp,hx,rfl,ha,hle,_⟩:=hv
   obtain⟨hlen,cs,hr⟩:=XU hh hg hx ln off LS h
   subst hlen
   exact rd hr (λhp=>by rcases ha with e|e; · omega
                        ·exact e) rfl
 ·rename_i b off ln cap es
  simp only[AZ]at hv
  obtain⟨a,rfl,ha,hle⟩:=hv
  obtain⟨hlen,cs,hr⟩:=qQ hh hg ln off LS h
  subst hlen
  exact rd hr (λhp=>by rcases ha with e|e; · omega
                       ·exact e) rfl
end Go.Bj
namespace Go.Bj
open Go.Lib (indexByte run_indexByteString)
variable{P:Program}
theorem AV6{ρ:Loc}{x r:V}{u:Value}(hx:AZ ρ x u)(h:x.JK (λk n s=>mkI k (Int.neg n) s)=some r)(w:World):∃val,(Op.unary .neg u).run P w=.ok val w/\AZ ρ r val:=by
 rw[DT]at h
 obtain⟨k,n,s,rfl,h⟩:=h
 simp only[AZ]at hx
 subst hx
 refine⟨_,?_,AB3 h⟩
 have e:(0:Int)-n=Int.neg n:=by show 0-n= -n;omega
 simp[Op.unary,Op.intArith,e]
theorem AV7{ρ:Loc}{x r:V}{u:Value}(hx:AZ ρ x u)(h:x.pO (λb=>mkB (QD b))=some r)(w:World):∃val,(Op.unary .not u).run P w=.ok val w/\AZ ρ r val:=by
 rw[ADL]at h
 obtain⟨b,rfl,h⟩:=h
 simp only[AZ]at hx
 subst hx
 refine⟨.bool !b,by simp[Op.unary],?_⟩
 cases b<;>(cases h;simp[AZ])
theorem AUo{ρ:Loc}{src dst:TypeId}{k:IntKind}(hs:(P.underlying src).isSome=true)(hd:P.underlying dst=some (.int k)){x r:V}{u:Value}(hx:AZ ρ x u)(h:x.JK (λ_ n s=>mkI k n s)=some r)(w:World):
 ∃val,(convert src dst u).run P w=.ok val w/\AZ ρ r val:=by
 rw[DT]at h
 obtain⟨k',n,s,rfl,h⟩:=h
 simp only[AZ]at hx
 subst hx
 refine⟨_,?_,AB3 h⟩
 obtain⟨d,hsd⟩:=Option.isSome_iff_exists.1 hs
 simp[convert,run_underlying hsd,run_underlying hd,Conv.intToInt]
theorem AVM{ρ:Loc}{x y r:V}{u u':Value}(hx:AZ ρ x u)(hy:AZ ρ y u')
 (h:x.JK (λk a s=>y.JK λk' b t=>BF (band (keq k k') (Nat.beq (Nat.add s t) 0)) (some (.int k (Bool.rec a b (ilt a b)) 0)))=some r) (ts:Array TypeId) (ty:TypeId) (w:World):
 ∃val,(Builtin.max_ ts ty #[u,u']).run P w=.ok val w/\AZ ρ r val:=by
 rw[DT]at h
 obtain⟨k,a,s,rfl,h⟩:=h
 rw[DT]at h
 obtain⟨k',b,t,rfl,h⟩:=h
 rw[Ba]at h
 obtain⟨_,h⟩:=h
 cases h
 simp only[AZ]at hx hy
 subst hx hy
 refine⟨.int k (if b>a then b else a),by simp[Builtin.max_,Builtin.max2],?_⟩
 simp only[AZ]
 cases hc:ilt a b with
 |true=>rw[WS]at hc;simp only[decide_eq_true_eq]at hc;rw[if_pos hc]
 |false=>rw[WS]at hc;simp only[decide_eq_false_iff_not]at hc;rw[if_neg hc]
theorem AUj{ρ:Loc}{x y r:V}{u u':Value}(hx:AZ ρ x u)(hy:AZ ρ y u')
 (h:x.JK (λk a s=>y.JK λk' b t=>BF (band (keq k k') (Nat.beq (Nat.add s t) 0)) (some (.int k (Bool.rec a b (ilt b a)) 0)))=some r) (ts:Array TypeId) (ty:TypeId) (w:World):
 ∃val,(Builtin.min_ ts ty #[u,u']).run P w=.ok val w/\AZ ρ r val:=by
 rw[DT]at h
 obtain⟨k,a,s,rfl,h⟩:=h
 rw[DT]at h
 obtain⟨k',b,t,rfl,h⟩:=h
 rw[Ba]at h
 obtain⟨_,h⟩:=h
 cases h
 simp only[AZ]at hx hy
 subst hx hy
 refine⟨.int k (if b<a then b else a),by simp[Builtin.min_,Builtin.min2],?_⟩
 simp only[AZ]
 cases hc:ilt b a with
 |true=>rw[WS]at hc;simp only[decide_eq_true_eq]at hc;rw[if_pos hc]
 |false=>rw[WS]at hc;simp only[decide_eq_false_iff_not]at hc;rw[if_neg hc]
theorem ASC{ρ:Loc}{c x y r:V}{u u' uc:Value}(hc:AZ ρ c uc)(hx:AZ ρ x u)(hy:AZ ρ y u')(h:c.pO (λt=>AC1 t (some x) (some y))=some r)(w:World):
 ∃val,(do pure (Next.value (if<-asBool uc then u else u')):Sem Next).run P w=.ok (.value val) w/\AZ ρ r val:=by
 rw[ADL]at h
 obtain⟨b,rfl,h⟩:=h
 simp only[AZ]at hc
 subst hc
 rw[aO]at h
 refine⟨if b then u else u',by simp[asBool],?_⟩
 cases b<;>(simp only[Bool.false_eq_true,if_false,if_true]at h⊢;cases h;assumption)
theorem fA{ρ:Loc}{E:RS}{g:Operand->Value}{f:Operand->Option X}(hO:∀o x,f o=some x->AZ ρ (x.ev E) (g o)):∀(l:List Operand) (l':List X),l.mapM f=some l'->CV ρ (eP l' E) (l.map g)
 |[],l',h=>by simp at h;subst h;exact CV.nil
 |o::l,l',h=>by
  rw[List.mapM_cons]at h
  simp only[Option.bind_eq_bind,Option.bind_eq_some_iff]at h
  obtain⟨x,hx,l2,hl,e⟩:=h
  cases e
  exact .cons (hO _ _ hx) (fA hO l l2 hl)
theorem ADH{ρ:Loc}:∀{es:ME} {es':List MapEntry},Lh ρ es es'->es.length=es'.length
 |[],_,h=>by simp only[Lh]at h;subst h;rfl
 |(k,v,b)::es,_,h=>by
  simp only[Lh]at h
  obtain⟨e,es',rfl,_,_,_,h⟩:=h
  simp[ADH h]
theorem ASD{w0:World}{ρ:Loc}{H:Heap}{n:Nat}{w:World}(hh:D8 w0 ρ H n w){t kt et:TypeId}(ht:P.underlying t=some (.map kt et)){x r:V}{u:Value}(hx:AZ ρ x u)
 (h:RF H x (λes _=>CW (len es) λn=>some (.int .i64 (.ofNat n) 0))=some r) (ty:TypeId):∃val,(Builtin.len_ #[t] ty #[u]).run P w=.ok val w/\AZ ρ r val:=by
 obtain⟨es,ck,h,hc⟩:=AAn hh hx h
 rw[BP]at h
 cases h
 rcases hc with⟨rfl,rfl⟩|⟨b,es',rfl,hb,he⟩
 ·exact⟨goInt 0,by simp[Builtin.len_,run_underlying ht],by simp[AZ,goInt,len_eq]⟩
 ·refine⟨goInt es'.size,by simp[Builtin.len_,run_underlying ht,TT hb],?_⟩
  simp only[AZ,goInt,len_eq,ADH he];simp
theorem AQW{ρ:Loc}{x r:V}{u:Value}(hx:AZ ρ x u)(h:Ae x=some r):(∃a,u=.pointer (some a))∨(∃f a c,u=.func (.func f) a c):=by
 cases x<;>simp only[Ae]at h<;>try (cases h;done)
 ·simp only[AZ]at hx;obtain⟨_,_,rfl⟩:=hx;exact .inl ⟨_,rfl⟩
 ·simp only[AZ]at hx;subst hx;exact .inl ⟨_,rfl⟩
 ·simp only[AZ]at hx;obtain⟨_,_,rfl,_⟩:=hx;exact .inr ⟨_,_,_,rfl⟩
theorem AM3{x r:V}(h:Ae x=some r):r=x:=by
 cases x<;>simp only[Ae]at h<;>first|(cases h;done)|(cases h;rfl)
theorem AKS{ρ:Loc}{v:V}{u:Value}{m:Nat}(hv:AZ ρ v u)(h:byteOf v=some m):m<256/\u=.int .u8 m:=by
 cases v<;>simp only[byteOf]at h<;>try (cases h;done)
 rename_i k n s
 cases n with
 |negSucc n=>cases h
 |ofNat n=>
  have h':Bool.rec (motive:=λ_=>Option Nat) none (some n) (band (Nat.beq (kno k) 4) (band (Nat.blt n 256) (Nat.beq s 0)))=some m:=h
  cases hb:band (Nat.beq (kno k) 4) (band (Nat.blt n 256) (Nat.beq s 0))with
  |false=>rw[hb]at h';cases h'
  |true=>
   rw[hb]at h'
   cases h'
   simp only[BO,Bool.and_eq_true,beq_iff,Nat.blt_eq]at hb
   simp only[AZ]at hv
   refine⟨hb.2.1,?_⟩
   have hk:k=.u8:=by
    have:=hb.1
    cases k<;>first|rfl|(exact absurd this (by decide))
   rw[hv,hk];rfl
theorem AFn{ρ:Loc}:∀(LS:CJ) (cs:List Value) (c:Nat),CV ρ LS.flatten cs->(∀L∈LS,L.length=1)->yM LS=some c->
 ∃bs:List UInt8,cs=bs.map (λb=>Value.int .u8 b.toNat)/\enc bs=c/\bs.length=LS.length
 |[],cs,c,hr,_,h=>by
  have h':some 0=some c:=h
  cases h'
  simp at hr
  exact⟨[],by simp[hr],rfl,rfl⟩
 |L::LS,cs,c,hr,hl,h=>by
  have h':Bl (nth L 0) (λv=>Bl (byteOf v) λm=>Bl (yM LS) λc=>some (Nat.add m (Nat.mul 256 c)))=some c:=h
  rw[Bg]at h'
  obtain⟨v,hv,h'⟩:=h'
  rw[Bg]at h'
  obtain⟨m,hm,h'⟩:=h'
  rw[Bg]at h'
  obtain⟨c',hc',h'⟩:=h'
  cases h'
  have hL:=hl L (List.mem_cons_self)
  obtain⟨v0,rfl⟩:∃v0,L=[v0]:=by
   cases L with
   |nil=>cases hL
   |cons a l=>cases l with
    |nil=>exact⟨a,rfl⟩
    |cons b l=>cases hL
  have e0:v0=v:=Option.some.inj hv
  subst e0
  rw[List.flatten_cons,List.singleton_append,KL]at hr
  obtain⟨u,vs,rfl,hu,hr⟩:=hr
  obtain⟨hlt,rfl⟩:=AKS hu hm
  obtain⟨bs,rfl,hen,hlen⟩:=AFn LS vs c' hr (λM hM=>hl M (List.mem_cons_of_mem _ hM)) hc'
  refine⟨UInt8.ofNat m::bs,?_,?_,by simp[hlen]⟩
  ·simp only[List.map_cons,UInt8.toNat_ofNat',Nat.reducePow,Nat.mod_eq_of_lt hlt]
  ·simp only[enc,UInt8.toNat_ofNat',Nat.reducePow,Nat.mod_eq_of_lt hlt,hen];rfl
theorem ACj:∀(bs:List UInt8) (s:ByteArray),((bs.map λb=>(b.toNat:Int)).foldl (λr n=>r.push (UInt8.ofNat n.toNat)) s).data.toList=s.data.toList++bs
 |[],s=>by simp
 |b::bs,s=>by
  simp only[List.map_cons,List.foldl_cons]
  rw[ACj bs]
  have:UInt8.ofNat (b.toNat:Int).toNat=b:=by simp
  rw[this]
  show(s.data.push b).toList++bs=_
  simp
theorem AT1{w0:World}{ρ:Loc}{H:Heap}{n:Nat}{w:World}(hh:D8 w0 ρ H n w){G:AV}(hg:Vg w0 G){src dst e:TypeId}(hs:P.underlying src=some (.slice e))(he:P.underlying e=some (.int .u8))(hd:P.underlying dst=some .string)
 {x r:V} {u:Value} (hx:AZ ρ x u) (hns:isStr x=false) (h:Bl (elems x G H 1) (λl=>Bl (yM l) λc=>f3 (len l) c 0 λn c _=>.str n c)=some r):∃val,(convert src dst u).run P w=.ok val w/\AZ ρ r val:=by
 rw[Bg]at h
 obtain⟨LS,hLS,h⟩:=h
 rw[Bg]at h
 obtain⟨c,hc,h⟩:=h
 rw[AGP]at h
 cases h
 obtain⟨cs,hr,hlen,heach,hone,hcase⟩:=AE7 hh hg hx hLS
 obtain⟨bs,rfl,rfl,hbl⟩:=AFn LS cs c hr heach hc
 rcases hcase with⟨rfl,rfl⟩|⟨a,cp,rfl,hcell⟩|⟨s,rfl,_⟩
 ·have hb0:bs=[]:=List.length_eq_zero_iff.1 hbl
  subst hb0
  refine⟨.string .empty,?_,⟨.empty,rfl,rfl,rfl⟩⟩
  rw[run_convert_bytes_string w src dst e none 0 0 hs he hd]
  simp[Conv.bytesToString]
 ·have hld:=run_loadCells_list (P:=P) w a (bs.map λb=>Value.int .u8 b.toNat) hcell
  have hl:(bs.map λb=>Value.int .u8 b.toNat).length=LS.length:=by simp[hbl]
  rw[hl]at hld
  have hld':(loadCells a LS.length).run P w=.ok ((bs.map λb=>(b.toNat:Int)).map (Value.int .u8)).toArray w:=by rw[hld,List.map_map];rfl
  refine⟨_,(run_convert_bytes_string w src dst e (some a) LS.length cp hs he hd).trans (run_bytesToString w a LS.length cp _ hld'),⟨_,rfl,?_,?_⟩⟩
  ·rw[ACj];simp[hbl,len_eq]
  ·rw[ACj];simp
 ·cases x<;>first|(simp[isStr]at hns;done)|(simp only[elems]at hLS;cases hLS;done)|(simp only[AZ]at hx;done)|skip
  all_goals (simp only[AZ]at hx)
  all_goals (first|(obtain⟨_,_,_,hx,_⟩:=hx;cases hx;done)|(obtain⟨_,_,_,_,hx,_⟩:=hx;cases hx;done)|(obtain⟨_,hx,_⟩:=hx;cases hx;done)|(cases hx;done)|skip)
theorem ADZ(b:UInt8):∀(l:List UInt8) (i:Nat),cu b.toNat l.length (enc l) i=if indexByte l b= -1 then-1 else indexByte l b+i
 |[],i=>rfl
 |a::l,i=>by
  have ha:a.toNat<256:=a.toNat_lt
  have e1:enc (a::l)%256=a.toNat:=by simp only[enc];omega
  have e2:enc (a::l)/256=enc l:=by simp only[enc];omega
  have e:cu b.toNat (a::l).length (enc (a::l)) i=Bool.rec (cu b.toNat l.length (enc (a::l)/256) (i+1)) (.ofNat i) (Nat.beq (enc (a::l)%256) b.toNat):=rfl
  rw[e,e1,e2,ADZ b l (i+1)]
  have hge:∀l:List UInt8,indexByte l b= -1∨0<=indexByte l b:=by
   intro l
   induction l with
   |nil=>left;rfl
   |cons c l ih=>
    simp only[indexByte]
    split
    ·right;omega
    ·split
     ·left;rfl
     ·rename_i h;simp at h;right;omega
  by_cases hb:a=b
  ·subst hb
   have:Nat.beq a.toNat a.toNat=true:=by simp
   rw[this]
   simp[indexByte]
  ·have:Nat.beq a.toNat b.toNat=false:=by
    rw[Bool.eq_false_iff];intro hc;exact hb (UInt8.toNat_inj.1 (Nat.eq_of_beq_eq_true hc))
   rw[this]
   simp only[indexByte,beq_iff_eq,hb,if_false]
   rcases hge l with h1|h1
   ·simp[h1]
   ·have h2:indexByte l b≠ -1:=by omega
    have h3:indexByte l b+1≠ -1:=by omega
    simp only[h2,h3,if_false]
    push_cast;omega
theorem APx{ρ:Loc}{x y r:V}{u u':Value}(hx:AZ ρ x u)(hy:AZ ρ y u')
 (h:x.RV (λn cd=>y.JK λk b _=>BF (Nat.beq (kno k) 4) (ARk b λb=>BF (Nat.blt b 256) (Oo (cu b n cd 0) λi=>some (.int .i64 i 0))))=some r) (w:World):
 ∃val,(Extern.BytealgIndexByte.indexByte #[u,u']).run P w=.ok val w/\AZ ρ r val:=by
 rw[Ip]at h
 obtain⟨l,c,rfl,h⟩:=h
 rw[DT]at h
 obtain⟨k,m,_,rfl,h⟩:=h
 rw[Ba,ACS]at h
 obtain⟨hk,m,rfl,h⟩:=h
 rw[Ba,TP]at h
 obtain⟨hm,h⟩:=h
 cases h
 rw[Nat.blt_eq]at hm
 obtain⟨s,rfl,rfl,rfl⟩:=J8 hx
 simp only[AZ]at hy
 have hk8:k=.u8:=by
  simp only[beq_iff]at hk
  cases k<;>first|rfl|(exact absurd hk (by decide))
 subst hk8
 subst hy
 refine⟨_,run_indexByteString s m w,?_⟩
 simp only[AZ]
 have:=ADZ (UInt8.ofNat m) s.data.toList 0
 rw[show(UInt8.ofNat m).toNat=m by simp[Nat.mod_eq_of_lt hm]]at this
 rw[this]
 have e:(m:Int).toNat.toUInt8=UInt8.ofNat m:=by simp
 rw[e]
 by_cases h1:indexByte s.data.toList (UInt8.ofNat m)= -1
 ·rw[h1];rfl
 ·rw[if_neg h1];simp
theorem aS:∀a b:List UInt8,Lib.compareBytes a b=if Op.bytesLess a b=true then-1 else if Op.bytesLess b a=true then 1 else 0
 |[],[]=>by simp[Lib.compareBytes,Op.bytesLess]
 |[],_::_=>by simp[Lib.compareBytes,Op.bytesLess]
 |_::_,[]=>by simp[Lib.compareBytes,Op.bytesLess]
 |x::a,y::b=>by
  unfold Lib.compareBytes
  rw[aS a b]
  by_cases h1:x<y
  ·simp[Op.bytesLess,h1]
  ·by_cases h2:y<x
   ·have h3:¬x=y:=λe=>by subst e;exact h1 h2
    have h4:(x==y)=false:=by simpa using h3
    simp[Op.bytesLess,h1,h2,h4]
   ·have h3:x=y:=by
     have a1:¬x.toNat<y.toNat:=λh=>h1 (UInt8.lt_iff_toNat_lt.2 h)
     have a2:¬y.toNat<x.toNat:=λh=>h2 (UInt8.lt_iff_toNat_lt.2 h)
     exact UInt8.toNat_inj.1 (by omega)
    subst h3
    simp[Op.bytesLess]
theorem AQ3{ρ:Loc}{x y r:V}{u u':Value}(hx:AZ ρ x u)(hy:AZ ρ y u')(h:AKz x y=some r)(w:World):
 ∃val,(Extern.BytealgCompare.compare #[u,u']).run P w=.ok val w/\AZ ρ r val:=by
 unfold AKz at h
 rw[Ip]at h
 obtain⟨l,c,rfl,h⟩:=h
 rw[Ip]at h
 obtain⟨m,d,rfl,h⟩:=h
 cases h
 obtain⟨s1,rfl,rfl,rfl⟩:=J8 hx
 obtain⟨s2,rfl,rfl,rfl⟩:=J8 hy
 refine⟨_,Lib.run_compareString s1 s2 w,?_⟩
 rw[aS]
 simp only[ABL,AZ]
 cases h1:Op.bytesLess s1.data.toList s2.data.toList<;>cases h2:Op.bytesLess s2.data.toList s1.data.toList<;>rfl
variable{P:Program}
theorem AVW{ρ:Loc}{x y r:V}{u u':Value}(hx:AZ ρ x u)(hy:AZ ρ y u')(t:TypeId)(o:B2)(h:o.ev x y=some r):∃val,ABo P o t u u' val/\AZ ρ r val:=by
 cases o
 ·exact AU5 hx hy t h
 ·exact AUR hx hy t h
 ·exact AV9 hx hy t h
 ·exact AUU hx hy t h
 ·exact AUg hx hy t h
 ·exact AV1 hx hy t h
 ·exact AIM hx hy t .or (.inl rfl) h
 ·exact AIM hx hy t .xor (.inr (.inl rfl)) h
 ·exact AIM hx hy t .andNot (.inr (.inr rfl)) h
 ·exact AVj hx hy t h
 ·exact AUd hx hy t h
 ·exact AVb hx hy t h
 ·exact AUu hx hy t h
 ·exact AT6 hx hy t h
 ·exact AUM hx hy t h
def AXU:BinOp->Option B2
 |.add=>some .add|.sub=>some .sub|.mul=>some .mul|.quo=>some .quo|.rem=>some .rem|.and=>some .and|.or=>some .or|.xor=>some .xor|.andNot=>some .andNot
 |.shl=>some .shl|.shr=>some .shr|.lss=>some .lss|.leq=>some .leq|.gtr=>some .gtr|.geq=>some .geq|_=>none
theorem AT4{o:BinOp}{b:B2}(h:AXU o=some b):b.op=o:=by cases o<;>simp only[AXU]at h<;>first|(cases h;done)|(cases h;rfl)
def trO(f:Operand->Option X):Option Operand->Option (Option X)
 |none=>some none
 |some o=>(f o).map some
theorem jI{ρ:Loc}{E:RS}{g:Operand->Value}{f:Operand->Option X}(hO:∀o x,f o=some x->AZ ρ (x.ev E) (g o)){o:Option Operand}{x:Option X}(h:trO f o=some x):AI0 ρ E x (o.map g):=by
 cases o with
 |none=>cases h;trivial
 |some o=>
  simp only[trO,Option.map_eq_some_iff]at h
  obtain⟨a,ha,rfl⟩:=h
  exact hO _ _ ha
def Az{α β:Type}(o:Option α)(f:α->Option β):Option β:=match o with|some a=>f a|none=>none
theorem AL{α β:Type}{o:Option α}{f:α->Option β}{b:β}:Az o f=some b↔∃a,o=some a/\f a=some b:=by
 cases o<;>simp[Az]
def AHv(P:Program)(fi:FuncId):Bool:=
 match P.funcs[fi]? with
 |some fn=>fn.name== "internal/bytealg.IndexByteString" &&(fn.origin== "" &&fn.body.isNone)
 |none=>false
def AWS(P:Program)(fi:FuncId):Bool:=
 match P.funcs[fi]? with
 |some fn=>fn.name== "internal/bytealg.abigen_runtime_cmpstring" &&(fn.origin== "" &&fn.body.isNone)
 |none=>false
def AAt(P:Program)(f:Operand->Option X)(c:Call):Option AN:=
 match c.callee,c.args.toList,c.argTypes.toList with
 |.builtin .len,[x],[t]=>match P.underlying t with
  |some .string=>Az (f x) λx=>some (.Abi x)
  |some (.slice _)=>Az (f x) λx=>some (.AcN x)
  |some (.map _ _)=>Az (f x) λx=>some (.Abk x)
  |some (.array n _)=>some (.AdT n)
  |_=>none
 |.builtin .max,[x,y],_=>Az (f x) λx=>Az (f y) λy=>some (.AcJ x y)
 |.builtin .min,[x,y],_=>Az (f x) λx=>Az (f y) λy=>some (.Ada x y)
 |.value (.func fi),[x,y],_=>if AHv P fi then Az (f x) λx=>Az (f y) λy=>some (.AVz x y)else if AWS P fi then Az (f x) λx=>Az (f y) λy=>some (.AKE x y)else none
 |_,_,_=>none
def ANi:List CK->Bool
 |[]=>false
 |.ptr::_=>true
 |_::l=>ANi l
def AI5(k:EK)(neg:Bool)(x y:X):AN:=match k with|.agg ks=>if ANi ks then .eqp ks neg x y else .eq (.agg ks) neg x y|k=>.eq k neg x y
theorem AOI(k:EK)(neg:Bool)(x y:X):AI5 k neg x y=.eq k neg x y∨∃ks,k=.agg ks/\AI5 k neg x y=.eqp ks neg x y:=by
 cases k with
 |agg ks=>
  cases h:ANi ks with
  |true=>exact .inr ⟨ks,rfl,by simp[AI5,h]⟩
  |false=>exact .inl (by simp[AI5,h])
 |_=>exact .inl rfl
def trN(P:Program)(f:Operand->Option X)(op:Op):Option AN:=
 match op with
 |.move x=>Az (f x) λx=>some (.mv x)
 |.assign x=>Az (f x) λx=>some (.mv x)
 |.pick c a b=>Az (f c) λc=>Az (f a) λa=>Az (f b) λb=>some (.pick c a b)
 |.load t a=>match NR P t with
  |some true=>Az (szT P t) λn=>Az (f a) λx=>some (.ldn n x)
  |some false=>Az (f a) λx=>some (.ld1 x)
  |none=>none
 |.nilCheck x=>Az (f x) λx=>some (.ASb x)
 |.binOp op t x y _=>Az (f x) λx=>Az (f y) λy=>match op with
  |.eql=>Az (ekT P t) λk=>some (AI5 k false x y)
  |.neq=>Az (ekT P t) λk=>some (AI5 k true x y)
  |op=>Az (AXU op) λo=>some (.bin o x y)
 |.unOp op _ x=>match op with
  |.not=>Az (f x) λx=>some (.not x)
  |.neg=>Az (f x) λx=>some (.neg x)
  |_=>none
 |.convert src dst x=>match P.underlying src,P.underlying dst with
  |some (.int _),some (.int k)=>Az (f x) λx=>some (.cvi k x)
  |some .string,some .string=>Az (f x) λx=>some (.Aah x none none)
  |some (.slice e),some .string=>match P.underlying e with
   |some (.int .u8)=>Az (f x) λx=>some (.cvS x)
   |_=>none
  |_,_=>none
 |.makeFunc (.func fn) first caps=>Az (first.toList.mapM f) λa=>Az (caps.toList.mapM f) λc=>some (.AdH fn a c)
 |.slice t x lo hi mx=>match P.underlying t with
  |some .string=>if mx.isNone then Az (f x) λx=>Az (trO f lo) λlo=>Az (trO f hi) λhi=>some (.Aah x lo hi)else none
  |some (.slice e)=>if mx.isNone||hi.isSome then Az (szT P e) λz=>Az (f x) λx=>Az (trO f lo) λlo=>Az (trO f hi) λhi=>Az (trO f mx) λmx=>some (.slc z x lo hi mx)else none
  |some (.array n e)=>if mx.isNone then Az (szT P e) λz=>Az (f x) λx=>Az (trO f lo) λlo=>Az (trO f hi) λhi=>some (.AdI n z x lo hi)else none
  |_=>none
 |.fieldAddr s x i=>match P.underlying s with
  |some (.struct fs)=>Az fs[i]? λfl=>match szT P fl.type with
   |some (_+1)=>Az (f x) λx=>some (.AZt fl.offset x)
   |_=>none
  |_=>none
 |.field s x i=>match P.underlying s with
  |some (.struct fs)=>Az fs[i]? λfl=>match NR P fl.type with
   |some true=>Az (szT P fl.type) λn=>Az (f x) λx=>some (.AY3 fl.offset n x)
   |some false=>Az (f x) λx=>some (.field1 fl.offset x)
   |none=>none
  |_=>none
 |.indexAddr t x i=>match P.underlying t with
  |some (.slice e)=>Az (szT P e) λz=>Az (f x) λx=>Az (f i) λi=>some (.AaX z x i)
  |some (.array n e)=>Az (szT P e) λz=>Az (f x) λx=>Az (f i) λi=>some (.AY4 n z x i)
  |_=>none
 |.index t x i=>match P.underlying t with
  |some .string=>Az (f x) λx=>Az (f i) λi=>some (.Adb x i)
  |some (.array n e)=>match szT P e,NR P e with
   |some 1,some false=>Az (f x) λx=>Az (f i) λi=>some (.AcO n x i)
   |_,_=>none
  |_=>none
 |.lookup t m k ok=>match P.underlying t with
  |some (.map kt et)=>Az (ABV P kt) λc=>Az (P.info? et) λi=>Az i.zero λzv=>Az (cvV zv) λz=>Az (f m) λm=>Az (f k) λk=>some (.look c ok z m k)
  |_=>none
 |.extract x i=>Az (f x) λx=>some (.ext x i)
 |.build t ps=>Az (AJ0 P t) λplaces=>Az (ABa P t) λz=>Az (ZG f places z.length ps.toList) λps=>some (.build z ps)
 |.call c=>AAt P f c
 |.makeInterface _ _=>some (.ASb (.c .undef))
 |.panic _=>some (.ASb (.c .undef))
 |_=>none
theorem vI{t:TypeId}{c:CK}(h:ABV P t=some c):∃d,P.underlying t=some d:=by
 unfold ABV at h
 cases hu:P.underlying t with
 |none=>rw[hu]at h;cases h
 |some d=>exact⟨d,rfl⟩
theorem AGw{w0:World}{ρ:Loc}{H:Heap}{n:Nat}{w:World}(hh:D8 w0 ρ H n w){G:AV}{E:RS}{g:Operand->Value}(hgf:∀fi,g (.func fi)=.func (.func fi) #[] #[])
 {f:Operand->Option X} (hO:∀o x,f o=some x->AZ ρ (x.ev E) (g o)) (ty:TypeId) {c:Call} {an:AN} (htr:AAt P f c=some an) {v:V} (hv:an.ev G E H=some v):
 ∃val,(do let d<-resolve g c ty;invoke d.target d.args:Sem Next).run P w=.ok (.value val) w/\AZ ρ v val:=by
 obtain⟨callee,args,argTypes⟩:=c
 obtain⟨args⟩:=args
 obtain⟨argTypes⟩:=argTypes
 unfold AAt at htr
 simp only at htr
 split at htr
 ·rename_i x t
  have key:∀{val},(Builtin.len_ #[t] ty #[g x]).run P w=.ok val w->(do let d<-resolve g ⟨.builtin .len,⟨[x]⟩,⟨[t]⟩⟩ ty;invoke d.target d.args:Sem Next).run P w=.ok (.value val) w:=by
   intro val h
   simp[resolve,invoke,builtin,h]
  split at htr
  ·rename_i hu
   rw[AL]at htr
   obtain⟨x',hx,e⟩:=htr
   cases e
   obtain⟨val,h1,h2⟩:=ATe hu (hO _ _ hx) hv ty w
   exact⟨val,key h1,h2⟩
  ·rename_i hu
   rw[AL]at htr
   obtain⟨x',hx,e⟩:=htr
   cases e
   obtain⟨val,h1,h2⟩:=AQ1 hu (hO _ _ hx) hv ty w
   exact⟨val,key h1,h2⟩
  ·rename_i hu
   rw[AL]at htr
   obtain⟨x',hx,e⟩:=htr
   cases e
   obtain⟨val,h1,h2⟩:=ASD hh hu (hO _ _ hx) hv ty
   exact⟨val,key h1,h2⟩
  ·rename_i hu
   cases htr
   cases hv
   obtain⟨val,h1,h2⟩:=ATh (ρ:=ρ) hu (u:=g x) ty w
   exact⟨val,key h1,h2⟩
  ·cases htr
 ·rename_i x y
  rw[AL]at htr
  obtain⟨x',hx,htr⟩:=htr
  rw[AL]at htr
  obtain⟨y',hy,htr⟩:=htr
  cases htr
  obtain⟨val,h1,h2⟩:=AVM (P:=P) (hO _ _ hx) (hO _ _ hy) hv ⟨argTypes⟩ ty w
  refine⟨val,?_,h2⟩
  simp[resolve,invoke,builtin,h1]
 ·rename_i x y
  rw[AL]at htr
  obtain⟨x',hx,htr⟩:=htr
  rw[AL]at htr
  obtain⟨y',hy,htr⟩:=htr
  cases htr
  obtain⟨val,h1,h2⟩:=AUj (P:=P) (hO _ _ hx) (hO _ _ hy) hv ⟨argTypes⟩ ty w
  refine⟨val,?_,h2⟩
  simp[resolve,invoke,builtin,h1]
 ·rename_i fi x y
  split at htr
  ·rename_i hfn
   rw[AL]at htr
   obtain⟨x',hx,htr⟩:=htr
   rw[AL]at htr
   obtain⟨y',hy,htr⟩:=htr
   cases htr
   obtain⟨val,h1,h2⟩:=APx (P:=P) (hO _ _ hx) (hO _ _ hy) hv w
   refine⟨val,?_,h2⟩
   unfold AHv at hfn
   split at hfn
   ·rename_i fn hf
    simp only[Bool.and_eq_true,beq_iff_eq]at hfn
    have hc:=run_callFunc_extern (P:=P) (f:=fi) (fn:=fn) (e:=Extern.BytealgIndexByte.indexByte) hf (by rw[hfn.1];decide) hfn.2.2 (by unfold Extern.findNext;rw[hfn.1,hfn.2.1];kernel_rfl) (by unfold Extern.find;rw[hfn.1,hfn.2.1];kernel_rfl) #[g x,g y] w
    rw[h1]at hc
    simp[resolve,hgf,Deferred.ofValue,invoke,hc]
   ·cases hfn
  ·split at htr
   ·rename_i hfn
    rw[AL]at htr
    obtain⟨x',hx,htr⟩:=htr
    rw[AL]at htr
    obtain⟨y',hy,htr⟩:=htr
    cases htr
    obtain⟨val,h1,h2⟩:=AQ3 (P:=P) (hO _ _ hx) (hO _ _ hy) hv w
    refine⟨val,?_,h2⟩
    unfold AWS at hfn
    split at hfn
    ·rename_i fn hf
     simp only[Bool.and_eq_true,beq_iff_eq]at hfn
     have hc:=run_callFunc_extern (P:=P) (f:=fi) (fn:=fn) (e:=Extern.BytealgCompare.compare) hf (by rw[hfn.1];decide) hfn.2.2 (by unfold Extern.findNext;rw[hfn.1,hfn.2.1];kernel_rfl) (by unfold Extern.find;rw[hfn.1,hfn.2.1];kernel_rfl) #[g x,g y] w
     rw[h1]at hc
     simp[resolve,hgf,Deferred.ofValue,invoke,hc]
    ·cases hfn
   ·cases htr
 ·cases htr
theorem AHN{w0:World}{ρ:Loc}{H:Heap}{n:Nat}{w:World}(hh:D8 w0 ρ H n w){G:AV}(hg:Vg w0 G){E:RS}{g:Operand->Value}(hgf:∀fi,g (.func fi)=.func (.func fi) #[] #[])
 {f:Operand->Option X} (hO:∀o x,f o=some x->AZ ρ (x.ev E) (g o)) {o:Oper} {an:AN} (htr:trN P f o.op=some an) {v:V} (hv:an.ev G E H=some v):
 ∃val,(execOp g o).run P w=.ok (.value val) w/\AZ ρ v val:=by
 obtain⟨dst,op,ty,pos,after,guard⟩:=o
 have lift:∀{s:Sem Value} {val:Value},s.run P w=.ok val w->((do pure (Next.value (<-s))):Sem Next).run P w=.ok (.value val) w:=by
  intro s val h;simp[h]
 cases op<;>simp only[trN]at htr<;>try (cases htr;done)
 case makeInterface t x=>cases htr;exact absurd hv (λh=>by cases(show(none:Option V)=some v from h))
 case panic x=>cases htr;exact absurd hv (λh=>by cases(show(none:Option V)=some v from h))
 case move x=>
  obtain⟨x',hx,e⟩:=AL.1 htr;cases e
  cases hv
  exact⟨g x,by simp[execOp],hO _ _ hx⟩
 case assign x=>
  obtain⟨x',hx,e⟩:=AL.1 htr;cases e
  cases hv
  exact⟨g x,by simp[execOp],hO _ _ hx⟩
 case pick c a b=>
  obtain⟨c',hc,htr⟩:=AL.1 htr
  obtain⟨a',ha,htr⟩:=AL.1 htr
  obtain⟨b',hb,e⟩:=AL.1 htr
  cases e
  exact ASC (hO _ _ hc) (hO _ _ ha) (hO _ _ hb) hv w
 case load t a=>
  split at htr
  ·rename_i ha
   obtain⟨m,hm,htr⟩:=AL.1 htr
   obtain⟨x',hx,e⟩:=AL.1 htr;cases e
   obtain⟨val,h1,h2⟩:=APR hh hg (hO _ _ hx) ha hm hv
   exact⟨val,lift h1,h2⟩
  ·rename_i ha
   obtain⟨x',hx,e⟩:=AL.1 htr;cases e
   obtain⟨val,h1,h2⟩:=AOf hh hg (hO _ _ hx) ha hv
   exact⟨val,lift h1,h2⟩
  ·cases htr
 case nilCheck x=>
  obtain⟨x',hx,e⟩:=AL.1 htr;cases e
  have hr:=AM3 hv
  subst hr
  refine⟨g x,?_,hO _ _ hx⟩
  rcases AQW (hO _ _ hx) hv with⟨a,ha⟩|⟨fn,a,c,ha⟩
  ·simp[execOp,ha]
  ·simp[execOp,ha]
 case binOp op t x y yt=>
  obtain⟨x',hx,htr⟩:=AL.1 htr
  obtain⟨y',hy,htr⟩:=AL.1 htr
  have hEq:∀(neg:Bool) (k:EK),ekT P t=some k->(op=if neg then .neq else .eql)->Dw k neg (x'.ev E) (y'.ev E)=some v->∃val,(execOp g ⟨dst,.binOp op t x y yt,ty,pos,after,guard⟩).run P w=.ok (.value val) w/\AZ ρ v val:=by
   intro neg k hk hop hv
   unfold Dw at hv
   cases hb:k.eq (x'.ev E) (y'.ev E)with
   |none=>rw[hb]at hv;cases hv
   |some b=>
    rw[hb]at hv
    have hrun:=AWC (P:=P) hk (hO _ _ hx) (hO _ _ hy) hb op (by cases neg<;>simp[hop]) x y w
    refine⟨_,lift hrun,?_⟩
    cases neg<;>cases b<;>(simp only[hop,Bool.false_eq_true,if_false,if_true];cases hv;simp[AZ])
  have hEqp:∀(neg:Bool) (k:EK),ekT P t=some k->(op=if neg then .neq else .eql)->(AI5 k neg x' y').ev G E H=some v->∃val,(execOp g ⟨dst,.binOp op t x y yt,ty,pos,after,guard⟩).run P w=.ok (.value val) w/\AZ ρ v val:=by
   intro neg k hk hop hv
   rcases AOI k neg x' y' with e|⟨ks,rfl,e⟩
   ·rw[e]at hv;exact hEq neg k hk hop hv
   ·rw[e]at hv
    have hv:AYR ks neg (x'.ev E) (y'.ev E) H=some v:=hv
    unfold AYR at hv
    cases hb:ABA (ZU H) ks (x'.ev E) (y'.ev E)with
    |none=>rw[hb]at hv;cases hv
    |some b=>
     rw[hb]at hv
     have hrun:=AVF (P:=P) hh hk (hO _ _ hx) (hO _ _ hy) hb op (by cases neg<;>simp[hop]) x y
     refine⟨_,lift hrun,?_⟩
     cases neg<;>cases b<;>(simp only[hop,Bool.false_eq_true,if_false,if_true];cases hv;simp[AZ])
  split at htr
  ·obtain⟨k,hk,e⟩:=AL.1 htr;cases e
   exact hEqp false k hk rfl hv
  ·obtain⟨k,hk,e⟩:=AL.1 htr;cases e
   exact hEqp true k hk rfl hv
  ·obtain⟨o2,ho2,e⟩:=AL.1 htr;cases e
   obtain⟨val,h1,h2⟩:=AVW (P:=P) (hO _ _ hx) (hO _ _ hy) t o2 hv
   have:=h1 x y w
   rw[AT4 ho2]at this
   exact⟨val,lift this,h2⟩
 case unOp op t x=>
  split at htr
  ·obtain⟨x',hx,e⟩:=AL.1 htr;cases e
   obtain⟨val,h1,h2⟩:=AV7 (P:=P) (hO _ _ hx) hv w
   exact⟨val,lift h1,h2⟩
  ·obtain⟨x',hx,e⟩:=AL.1 htr;cases e
   obtain⟨val,h1,h2⟩:=AV6 (P:=P) (hO _ _ hx) hv w
   exact⟨val,lift h1,h2⟩
  ·cases htr
 case convert src dst x=>
  split at htr
  ·rename_i hs hd
   obtain⟨x',hx,e⟩:=AL.1 htr;cases e
   obtain⟨val,h1,h2⟩:=AUo (P:=P) (by rw[hs];rfl) hd (hO _ _ hx) hv w
   exact⟨val,lift h1,h2⟩
  ·rename_i hs hd
   obtain⟨x',hx,e⟩:=AL.1 htr;cases e
   obtain⟨val,h1,h2⟩:=ALz (P:=P) (E:=E) hs (hO _ _ hx) (lo:=none) (hi:=none) (qJ:=none) (vhi:=none) trivial trivial hv w
   obtain⟨l,c,hxe,_⟩:=Ip.1 hv
   have hu:=hO _ _ hx
   rw[hxe]at hu
   obtain⟨s,hgs,_,_⟩:=J8 hu
   have hval:val=.string s:=by
    rw[hgs]at h1
    simp[Instr.sliceAt,Instr.slice,run_underlying hs,Instr.sliceBounds]at h1
    rw[<-h1]
   refine⟨.string s,lift ?_,by rw[<-hval];exact h2⟩
   rw[hgs]
   simp[convert,run_underlying hs,run_underlying hd]
  ·rename_i e hs hd
   split at htr
   ·rename_i he
    obtain⟨x',hx,e⟩:=AL.1 htr;cases e
    obtain⟨hns,hv⟩:=Ba.1 hv
    obtain⟨val,h1,h2⟩:=AT1 (P:=P) hh hg hs he hd (hO _ _ hx) (by simpa using hns) hv
    exact⟨val,lift h1,h2⟩
   ·cases htr
  ·cases htr
 case makeFunc fn first caps=>
  cases fn<;>simp only at htr<;>try (cases htr;done)
  rename_i fi
  obtain⟨a,ha,htr⟩:=AL.1 htr
  obtain⟨c,hc,e⟩:=AL.1 htr;cases e
  cases hv
  refine⟨.func (.func fi) (first.map g) (caps.map g),by simp[execOp,Instr.makeFunc],⟨_,_,rfl,?_,?_⟩⟩
  ·rw[Array.toList_map];exact fA hO _ _ ha
  ·rw[Array.toList_map];exact fA hO _ _ hc
 case slice t x lo hi mx=>
  split at htr
  ·rename_i hu
   split at htr
   ·rename_i hm
    have hm':mx=none:=by simpa using hm
    subst hm'
    obtain⟨x',hx,htr⟩:=AL.1 htr
    obtain⟨lo',hlo,htr⟩:=AL.1 htr
    obtain⟨hi',hhi,e⟩:=AL.1 htr;cases e
    obtain⟨val,h1,h2⟩:=ALz (P:=P) hu (hO _ _ hx) (jI hO hlo) (jI hO hhi) hv w
    exact⟨val,lift h1,h2⟩
   ·cases htr
  ·rename_i e hu
   split at htr
   ·rename_i hc
    obtain⟨z,hz,htr⟩:=AL.1 htr
    obtain⟨x',hx,htr⟩:=AL.1 htr
    obtain⟨lo',hlo,htr⟩:=AL.1 htr
    obtain⟨hi',hhi,htr⟩:=AL.1 htr
    obtain⟨mx',hmx,e⟩:=AL.1 htr;cases e
    obtain⟨val,h1,h2⟩:=AVg (P:=P) hu hz (hO _ _ hx) (jI hO hlo) (jI hO hhi) (jI hO hmx) (by
     intro hs
     cases mx with
     |none=>simp only[trO]at hmx;cases hmx;cases hs
     |some m=>
      cases hi with
      |none=>simp at hc
      |some i=>
       simp only[trO,Option.map_eq_some_iff]at hhi
       obtain⟨_,_,rfl⟩:=hhi
       rfl) hv w
    exact⟨val,lift h1,h2⟩
   ·cases htr
  ·rename_i k e hu
   split at htr
   ·rename_i hm
    have hm':mx=none:=by simpa using hm
    subst hm'
    obtain⟨z,hz,htr⟩:=AL.1 htr
    obtain⟨x',hx,htr⟩:=AL.1 htr
    obtain⟨lo',hlo,htr⟩:=AL.1 htr
    obtain⟨hi',hhi,e⟩:=AL.1 htr;cases e
    obtain⟨val,h1,h2⟩:=ATH (P:=P) hu hz (hO _ _ hx) (jI hO hlo) (jI hO hhi) hv w
    exact⟨val,lift h1,h2⟩
   ·cases htr
  ·cases htr
 case fieldAddr s x i=>
  split at htr
  ·rename_i fs hu
   obtain⟨fl,hfl,htr⟩:=AL.1 htr
   split at htr
   ·rename_i m hz
    obtain⟨x',hx,e⟩:=AL.1 htr;cases e
    obtain⟨val,h1,h2⟩:=AQe (P:=P) hu hfl hz (hO _ _ hx) hv w
    exact⟨val,lift h1,h2⟩
   ·cases htr
  ·cases htr
 case field s x i=>
  split at htr
  ·rename_i fs hu
   obtain⟨fl,hfl,htr⟩:=AL.1 htr
   split at htr
   ·rename_i ha
    obtain⟨m,hm,htr⟩:=AL.1 htr
    obtain⟨x',hx,e⟩:=AL.1 htr;cases e
    obtain⟨val,h1,h2⟩:=AMw (P:=P) hu hfl ha hm (hO _ _ hx) hv w
    exact⟨val,lift h1,h2⟩
   ·rename_i ha
    obtain⟨x',hx,e⟩:=AL.1 htr;cases e
    obtain⟨val,h1,h2⟩:=ANo (P:=P) hu hfl ha (hO _ _ hx) hv w
    exact⟨val,lift h1,h2⟩
   ·cases htr
  ·cases htr
 case indexAddr t x i=>
  split at htr
  ·rename_i e hu
   obtain⟨z,hz,htr⟩:=AL.1 htr
   obtain⟨x',hx,htr⟩:=AL.1 htr
   obtain⟨i',hi,e⟩:=AL.1 htr;cases e
   obtain⟨val,h1,h2⟩:=AP4 (P:=P) hu hz (hO _ _ hx) (hO _ _ hi) hv w
   exact⟨val,lift h1,h2⟩
  ·rename_i m e hu
   obtain⟨z,hz,htr⟩:=AL.1 htr
   obtain⟨x',hx,htr⟩:=AL.1 htr
   obtain⟨i',hi,e⟩:=AL.1 htr;cases e
   obtain⟨val,h1,h2⟩:=ANX (P:=P) hu hz (hO _ _ hx) (hO _ _ hi) hv w
   exact⟨val,lift h1,h2⟩
  ·cases htr
 case index t x i=>
  split at htr
  ·rename_i hu
   obtain⟨x',hx,htr⟩:=AL.1 htr
   obtain⟨i',hi,e⟩:=AL.1 htr;cases e
   obtain⟨val,h1,h2⟩:=ATV (P:=P) hu (hO _ _ hx) (hO _ _ hi) hv w
   exact⟨val,lift h1,h2⟩
  ·rename_i m e hu
   split at htr
   ·rename_i hz ha
    obtain⟨x',hx,htr⟩:=AL.1 htr
    obtain⟨i',hi,e⟩:=AL.1 htr;cases e
    obtain⟨val,h1,h2⟩:=ARh (P:=P) hu hz ha (hO _ _ hx) (hO _ _ hi) hv w
    exact⟨val,lift h1,h2⟩
   ·cases htr
  ·cases htr
 case lookup t m k ok=>
  split at htr
  ·rename_i kt et hu
   obtain⟨c,hc,htr⟩:=AL.1 htr
   obtain⟨i,hi,htr⟩:=AL.1 htr
   obtain⟨zv,hzv,htr⟩:=AL.1 htr
   obtain⟨z,hz,htr⟩:=AL.1 htr
   obtain⟨m',hm,htr⟩:=AL.1 htr
   obtain⟨k',hk,e⟩:=AL.1 htr;cases e
   obtain⟨d,hd⟩:=vI hc
   obtain⟨val,h1,h2⟩:=AS6 (P:=P) hh hu hd hc hi hzv (ABU hz) (hO _ _ hm) (hO _ _ hk) hv
   exact⟨val,lift h1,h2⟩
  ·cases htr
 case extract x i=>
  obtain⟨x',hx,e⟩:=AL.1 htr;cases e
  obtain⟨val,h1,h2⟩:=AV3 (P:=P) (hO _ _ hx) hv w
  exact⟨val,lift h1,h2⟩
 case build t ps=>
  obtain⟨places,hp,htr⟩:=AL.1 htr
  obtain⟨z,hz,htr⟩:=AL.1 htr
  obtain⟨ps',hps,e⟩:=AL.1 htr;cases e
  obtain⟨val,h1,h2⟩:=APp (P:=P) hO hp hz hps hv w
  exact⟨val,lift h1,h2⟩
 case call c=>
  exact AGw hh hgf hO ty htr hv
end Go.Bj
namespace Go.Bj
variable{P:Program}
structure Zy(ρ:Loc)(c:T LV)(cnt esz:Nat)(cells:Array Value):Prop where
 size:cells.size=cnt*esz
 one:∀u∈cells.toList,u.oneCell'=true
 elem:∀e,e<cnt->∃L,T.get c e=some L/\CV ρ L (sub cells (e*esz) esz)
theorem yP(n:Nat):qC (0,0) n:=λi _ h=>by simp at h
theorem Zy.AWB{ρ:Loc}{c:T LV}{cnt esz:Nat}{cells:Array Value}(h:Zy ρ c cnt esz cells)(t:TypeId):AI8 ρ cells.size (.arr esz cnt c) (.cells cells t):=
 ⟨cells,t,(0,0),rfl,rfl,yP _,.inr rfl,by rw[h.size];exact Nat.le_refl _,h.one,h.elem⟩
theorem AKK(L:LV):∀(n:Nat) (t:T LV) (e:Nat),T.get (AL1 L n t) e=if e<n then some L else T.get t e
 |0,t,e=>by rw[if_neg (by omega)];rfl
 |n+1,t,e=>by
  have h:AL1 L (n+1) t=AL1 L n (T.set t n L):=rfl
  rw[h,AKK L n]
  by_cases h1:e<n
  ·rw[if_pos h1,if_pos (by omega)]
  ·rw[if_neg h1,T.KT]
   by_cases h2:n=e
   ·rw[if_pos h2,if_pos (by omega)]
   ·rw[if_neg h2,if_neg (by omega)]
theorem D9:∀(LS:CJ) (i:Nat) (t:T LV) (e:Nat),T.get (Ew LS i t) e=if i<=e/\e<i+LS.length then LS[e-i]? else T.get t e
 |[],i,t,e=>by
  have h:Ew [] i t=t:=rfl
  rw[h,if_neg (by simp only[List.length_nil];omega)]
 |L::LS,i,t,e=>by
  have h:Ew (L::LS) i t=Ew LS (i+1) (T.set t i L):=rfl
  rw[h,D9 LS]
  by_cases h1:i+1<=e/\e<i+1+LS.length
  ·rw[if_pos h1,if_pos (by simp;omega)]
   have:e-i=(e-(i+1))+1:=by omega
   rw[this];simp
  ·rw[if_neg h1,T.KT]
   by_cases h2:i=e
   ·subst h2;rw[if_pos rfl,if_pos (by simp)];simp
   ·rw[if_neg h2,if_neg (by simp;omega)]
theorem AQc(e n j:Nat)(h:j<n):(e*n+j)%n=j:=by rw[Nat.mul_comm,Nat.mul_add_mod,Nat.mod_eq_of_lt h]
theorem Zy.zero{ρ:Loc}{z:LV}{zc:Array Value}(hz:CV ρ z zc.toList)(h1:∀u∈zc.toList,u.oneCell'=true)(cnt:Nat):Zy ρ (AL1 z cnt .e) cnt zc.size (madeCells zc (cnt*zc.size)):=by
 have hget:∀(i:Nat) (v:Value),(madeCells zc (cnt*zc.size))[i]? =some v->0<zc.size/\zc.toList[i%zc.size]? =some v:=by
  intro i v h
  unfold madeCells at h
  rw[Array.getElem?_map]at h
  cases hr:(Array.range (cnt*zc.size))[i]? with
  |none=>rw[hr]at h;cases h
  |some k=>
   rw[hr]at h
   have hk:i<cnt*zc.size/\k=i:=by
    have:=(Array.getElem?_eq_some_iff.1 hr)
    obtain⟨h1,h2⟩:=this
    simp at h1 h2
    exact⟨h1,h2.symm⟩
   obtain⟨hi,rfl⟩:=hk
   have hpos:0<zc.size:=by
    rcases Nat.eq_zero_or_pos zc.size with e|e
    ·rw[e]at hi;simp at hi
    ·exact e
   have hlt:k%zc.size<zc.size:=Nat.mod_lt _ hpos
   have hv:zc[k%zc.size]! =v:=by simpa using h
   refine⟨hpos,?_⟩
   rw[getElem!_pos zc (k%zc.size) hlt]at hv
   rw[<-hv];simp[hlt]
 refine⟨by rw[size_madeCells],?_,?_⟩
 ·intro u hu
  obtain⟨i,hi⟩:=List.mem_iff_getElem?.1 hu
  rw[Array.getElem?_toList]at hi
  obtain⟨_,h⟩:=hget i u hi
  exact h1 u (List.mem_of_getElem? h)
 ·intro e he
  refine⟨z,by rw[AKK,if_pos he],?_⟩
  have hroom:e*zc.size+zc.size<=(madeCells zc (cnt*zc.size)).size:=by
   rw[size_madeCells]
   have:(e+1)*zc.size<=cnt*zc.size:=Nat.mul_le_mul_right _ he
   rw[Nat.add_mul,Nat.one_mul]at this;exact this
  have:sub (madeCells zc (cnt*zc.size)) (e*zc.size) zc.size=zc.toList:=by
   apply List.ext_getElem?
   intro j
   by_cases hj:j<zc.size
   ·have hlen:j<(sub (madeCells zc (cnt*zc.size)) (e*zc.size) zc.size).length:=by rw[TS hroom];exact hj
    have hs:=List.getElem?_eq_getElem hlen
    obtain⟨_,h⟩:=AEJ hs
    obtain⟨_,h⟩:=hget _ _ h
    rw[AQc _ _ _ hj]at h
    rw[hs,h]
   ·rw[List.getElem?_eq_none (by rw[TS hroom];omega),List.getElem?_eq_none (by simp;omega)]
  rw[this]
  exact hz
theorem Zy.put{ρ:Loc}{c:T LV}{cnt esz:Nat}{cells:Array Value}(h:Zy ρ c cnt esz cells){i:Nat}(hi:i<cnt){L:LV}{new:List Value}(hr:CV ρ L new)(hl:new.length=esz)(h1:∀u∈new,u.oneCell'=true):
 Zy ρ (T.set c i L) cnt esz (OO cells.toList (i*esz) new).toArray:=by
 have hle:∀e,e<cnt->e*esz+esz<=cells.size:=by
  intro e he
  have:(e+1)*esz<=cnt*esz:=Nat.mul_le_mul_right _ he
  rw[Nat.add_mul,Nat.one_mul]at this
  rw[h.size];exact this
 have hsz:i*esz+new.length<=cells.size:=by rw[hl];exact hle i hi
 have hlen:(OO cells.toList (i*esz) new).toArray.size=cells.size:=by
  have:=Xq cells.toList (i*esz) new (by simpa using hsz)
  simpa using this
 refine⟨hlen.trans h.size,?_,?_⟩
 ·intro u hu
  simp only[OO,List.mem_append]at hu
  rcases hu with(hu|hu)|hu
  ·exact h.one u (List.mem_of_mem_take hu)
  ·exact h1 u hu
  ·exact h.one u (List.mem_of_mem_drop hu)
 ·intro e he
  by_cases hee:i=e
  ·subst hee
   refine⟨L,T.Au _ _ _,?_⟩
   have:=dN hsz
   rw[hl]at this
   rw[this];exact hr
  ·obtain⟨M,hM,hrM⟩:=h.elem e he
   refine⟨M,by rw[T.Ad c L hee,hM],?_⟩
   rw[Wn hsz]
   ·exact hrM
   ·rcases Nat.lt_or_gt_of_ne hee with hlt|hgt
    ·right
     have:(i+1)*esz<=e*esz:=Nat.mul_le_mul_right _ hlt
     rw[Nat.add_mul,Nat.one_mul]at this
     omega
    ·left
     have:(e+1)*esz<=i*esz:=Nat.mul_le_mul_right _ hgt
     rw[Nat.add_mul,Nat.one_mul]at this
     omega
theorem Y9{ρ:Loc}{esz:Nat}:∀(LS:CJ) (cs:List Value),CV ρ LS.flatten cs->(∀L∈LS,L.length=esz)->∀(e:Nat) (L:LV),LS[e]? =some L->CV ρ L ((cs.drop (e*esz)).take esz)
 |[],_,_,_,e,L,h=>by simp at h
 |M::LS,cs,hr,hl,e,L,h=>by
  rw[List.flatten_cons]at hr
  have hM:=hl M List.mem_cons_self
  cases e with
  |zero=>
   simp at h;subst h
   have:=hr.take M.length
   rw[List.take_left]at this
   rw[hM]at this
   simpa using this
  |succ e=>
   have:=hr.drop M.length
   rw[List.drop_left,hM]at this
   have:=Y9 LS _ this (λK hK=>hl K (List.mem_cons_of_mem _ hK)) e L (by simpa using h)
   rw[List.drop_drop]at this
   rwa [show(e+1)*esz=esz+e*esz by rw[Nat.add_mul];omega]
theorem Zy.ofList{ρ:Loc}{LS:CJ}{esz:Nat}{cells:Array Value}(hr:CV ρ LS.flatten cells.toList)(hl:∀L∈LS,L.length=esz)(h1:∀u∈cells.toList,u.oneCell'=true):Zy ρ (Ew LS 0 .e) LS.length esz cells:=by
 refine⟨?_,h1,?_⟩
 ·have:=hr.length
  rw[List.length_flatten]at this
  rw[<-Array.length_toList,<-this]
  have hs:(LS.map List.length)=LS.map (λ_=>esz):=List.map_congr_left λL hL=>hl L hL
  rw[hs,List.map_const',List.sum_replicate_nat]
 ·intro e he
  refine⟨LS[e],?_,?_⟩
  ·rw[D9,if_pos (by omega)];simp[he]
  ·exact Y9 LS _ hr hl e _ (List.getElem?_eq_getElem he)
def Al(o:AA)(E:RS)(b:Qc)(f:Nat->V):Prop:=o.al E λb' f'=>b'=b/\f'=f
theorem yY{v:V}{f:Nat->Prop}:AI1 v f↔∃k,∃m:Nat,v=.int k m 0/\f m:=by
 unfold AI1
 rw[Jy]
 constructor
 ·rintro⟨x,h,hf⟩
  obtain⟨k,m,rfl,h⟩:=Qm.1 h
  cases h
  exact⟨k,m,rfl,hf⟩
 ·rintro⟨k,m,rfl,hf⟩
  exact⟨.ptr m 0,Qm.2 ⟨k,m,rfl,rfl⟩,hf⟩
theorem ALT{o:AA}{E:RS}{k:KA}(h:o.al E k):∃b f,Al o E b f/\k b f:=by
 cases o with
 |alloc esz es=>
  have h':Ap esz es E k:=h
  have e:∀k,AA.al (.alloc esz es) E k=Ap esz es E k:=λ_=>rfl
  simp only[Ap,BL]at h'
  refine⟨_,_,?_,h'⟩
  unfold Al;rw[e];simp[Ap,BL]
 |box x=>
  have h':AGn x E k:=h
  have e:∀k,AA.al (.box x) E k=AGn x E k:=λ_=>rfl
  simp only[AGn,BL,Fp]at h'
  refine⟨_,_,?_,h'.2⟩
  unfold Al;rw[e];simp[AGn,BL,Fp,h'.1]
 |AIS esz cnt z ps=>
  have h':Aj esz cnt z ps E k:=h
  have e:∀k,AA.al (.AIS esz cnt z ps) E k=Aj esz cnt z ps E k:=λ_=>rfl
  simp only[Aj,Fp]at h'
  refine⟨_,_,?_,h'.2⟩
  unfold Al;rw[e];simp[Aj,Fp,h'.1]
 |AEV esz bs z l c=>
  have h':SE esz bs z l c E k:=h
  have e:∀k,AA.al (.AEV esz bs z l c) E k=SE esz bs z l c E k:=λ_=>rfl
  simp only[SE,yY,Fp]at h'
  obtain⟨k1,m1,e1,k2,m2,e2,hb,hk⟩:=h'
  refine⟨_,_,?_,hk⟩
  unfold Al;rw[e];simp only[SE,yY,Fp];exact⟨k1,m1,e1,k2,m2,e2,hb,rfl,rfl⟩
 |ASc=>
  have h':k (.map [] 0) (λid=>.map id):=h
  exact⟨_,_,⟨rfl,rfl⟩,h'⟩
 |iZ t e=>
  have h':k (.iZ t e 0 0 0) (λid=>.ptr id 0):=h
  exact⟨_,_,⟨rfl,rfl⟩,h'⟩
def bY(esz:Nat):Nat->LV->CJ
 |0,_=>[]
 |n+1,z=>z.take esz::bY esz n (z.drop esz)
theorem ADn(esz:Nat):∀(n:Nat) (z:LV),z.length=n*esz->(bY esz n z).flatten=z/\(bY esz n z).length=n/\∀L∈bY esz n z,L.length=esz
 |0,z,h=>by simp[bY];simpa using h
 |n+1,z,h=>by
  rw[Nat.add_mul,Nat.one_mul]at h
  obtain⟨h1,h2,h3⟩:=ADn esz n (z.drop esz) (by simp;omega)
  refine⟨by simp[bY,h1],by simp[bY,h2],?_⟩
  intro L hL
  simp only[bY,List.mem_cons]at hL
  rcases hL with rfl|hL
  ·simp;omega
  ·exact h3 L hL
def uz(f:Operand->Option X)(cnt:Nat):List (Nat×Operand)->Option (List (Nat×X))
 |[]=>some []
 |(i,o)::r=>Az (f o) λx=>Az (uz f cnt r) λr'=>some ((i,x)::r')
def AdL(P:Program)(t:TypeId):Option TypeId:=
 match P.underlying t with
 |some (.struct fs)=>(match fs[0]?,fs[1]? with
  |some a,some b=>(match P.underlying b.type with
   |some (.slice e)=>bif a.name== "addr" &&b.name== "buf" then some e else none
   |_=>none)
  |_,_=>none)
 |_=>none
def AEZ:LV->Bool
 |[.AJm,.Af]=>true
 |_=>false
theorem ALK{z:LV}(h:AEZ z=true):z=[.AJm,.Af]:=by
 unfold AEZ at h
 split at h
 ·rfl
 ·cases h
def trA(P:Program)(f:Operand->Option X)(op:Op):Option AA:=
 match op with
 |.alloc t=>Az (ABa P t) λz=>match AdL P t with
  |some e=>bif AEZ z then some (.iZ t e)else none
  |none=>match P.underlying t with
   |some (.array n e)=>Az (szT P e) λesz=>if z.length=n*esz then some (.alloc esz (bY esz n z))else none
   |some _=>some (.alloc z.length [z])
   |none=>none
 |.box _ x=>Az (f x) λx=>some (.box x)
 |.buildSlice t cnt ps=>match P.underlying t with
  |some (.slice e)=>Az (szT P e) λesz=>Az (ABa P e) λz=>Az (uz f cnt ps.toList) λps=>if z.length=esz/\0<esz/\cnt*esz<=16777216 then some (.AIS esz cnt z ps)else none
  |_=>none
 |.makeSlice t l c=>match P.underlying t with
  |some (.slice e)=>Az (P.info? e) λi=>Az (ABa P e) λz=>Az (f l) λl=>Az (f c) λc=>if z.length=i.size/\0<i.bytes then some (.AEV i.size i.bytes z l c)else none
  |_=>none
 |.makeMap _ r=>match r with
  |none=>some .ASc
  |some _=>none
 |_=>none
theorem ig{t:TypeId}{z:LV}(h:ABa P t=some z):∃i zv,P.info? t=some i/\i.zero=some zv/\(∀ρ,CV ρ z zv.cells.toList)/\∀u∈zv.cells.toList,u.oneCell'=true:=by
 unfold ABa at h
 simp only[Option.bind_eq_some_iff]at h
 obtain⟨i,hi,zv,hzv,hzl⟩:=h
 exact⟨i,zv,hi,hzv,fun ρ=>(uV hzl).1,(uV (ρ:=λ_=>none) hzl).2.2⟩
theorem jr(i:Nat)(x:X)(ps:List (Nat×X))(E:RS)(esz cnt:Nat):TF ((i,x)::ps) E esz cnt=band (band (Wi (x.ev E)) (band (Nat.blt i cnt) (Nat.beq (len (BA (x.ev E))) esz))) (TF ps E esz cnt):=rfl
theorem AHp{ρ:Loc}{E:RS}{g:Operand->Value}{f:Operand->Option X}(hO:∀o x,f o=some x->AZ ρ (x.ev E) (g o)){cnt esz:Nat}:
 ∀(ps:List (Nat×Operand)) (ps':List (Nat×X)) (c:T LV) (cells:Array Value),uz f cnt ps=some ps'->TF ps' E esz cnt=true->Zy ρ c cnt esz cells->
  ∃cells',Instr.fill (λi=>some (i*esz,esz)) cells (ps.map λp=>(p.1,g p.2))=some cells'/\Zy ρ (X8 ps' E c) cnt esz cells'
 |[],ps',c,cells,h,_,hr=>by
  simp only[uz]at h
  cases h
  exact⟨cells,rfl,hr⟩
 |(i,o)::r,ps',c,cells,h,hc,hr=>by
  simp only[uz,AL]at h
  obtain⟨x,hx,r',hr',e⟩:=h
  cases e
  rw[jr]at hc
  simp only[BO,Bool.and_eq_true,beq_iff,len_eq,Nat.blt_eq]at hc
  obtain⟨⟨hok,hi,hlen⟩,hrest⟩:=hc
  obtain⟨hvc,hone⟩:=vU (hO o x hx) hok
  have hcl:(g o).cells.toList.length=esz:=by rw[<-hvc.length,hlen]
  have hsz:(g o).cells.size=esz:=by simpa using hcl
  have hroom:i*esz+esz<=cells.size:=by
   have:(i+1)*esz<=cnt*esz:=Nat.mul_le_mul_right _ hi
   rw[Nat.add_mul,Nat.one_mul]at this
   rw[hr.size];exact this
  have hf:=ACH (g o).cells.toList cells (i*esz) 0 (by rw[hcl];omega)
  simp only[Nat.add_zero]at hf
  have hput:=hr.put hi hvc hcl hone
  obtain⟨cells',hfill,hrel⟩:=AHp hO r r' _ _ hr' hrest hput
  refine⟨cells',?_,hrel⟩
  have hcond:(decide ((g o).cells.size≠esz)||decide (i*esz+(g o).cells.size>cells.size))=false:=by
   rw[hsz];simp;omega
  have hfold:(g o).cells.zipIdx.foldl (λcs x=>match x with|(c,j)=>cs.setIfInBounds (i*esz+j) c) cells=(OO cells.toList (i*esz) (g o).cells.toList).toArray:=by
   rw[<-Array.foldl_toList,Array.toList_zipIdx]
   apply Array.toList_inj.1
   rw[hf]
  simp only[List.map_cons,Instr.fill]
  rw[if_neg (by rw[hcond];simp)]
  rw[hfold]
  exact hfill
theorem ALm{ρ:Loc}{L:LV}{cells:Array Value}(hr:CV ρ L cells.toList)(h1:∀u∈cells.toList,u.oneCell'=true)(t:TypeId):AI8 ρ cells.size (.arr L.length 1 (T.set .e 0 L)) (.cells cells t):=by
 have hlen:=hr.length
 have:Zy ρ (T.set .e 0 L) 1 L.length cells:=by
  refine⟨by rw[hlen];simp,h1,?_⟩
  intro e he
  have:e=0:=by omega
  subst this
  refine⟨L,T.Au _ _ _,?_⟩
  have:sub cells (0*L.length) L.length=cells.toList:=by
   simp only[sub,Nat.zero_mul,List.drop_zero,hlen]
   exact List.take_length
  rw[this];exact hr
 exact this.AWB t
theorem AHL{w:World}{ρ:Loc}{E:RS}{g:Operand->Value}{f:Operand->Option X}(hO:∀o x,f o=some x->AZ ρ (x.ev E) (g o)){o:Oper}{an:AA}(htr:trA P f o.op=some an){b:Qc}{fn:Nat->V}(hv:Al an E b fn):
 ∃val obj size,(execOp g o).run P w=.ok (.value val) (w.alloc obj)/\AI8 ρ size b obj/\∀(ρ':Loc) (id:Nat),ρ' id=some ⟨w.heap.size,0,size⟩->AZ ρ' (fn id) val:=by
 obtain⟨dst,op,ty,pos,after,guard⟩:=o
 cases op<;>simp only[trA]at htr<;>try (cases htr;done)
 case alloc t=>
  obtain⟨z,hz,htr⟩:=AL.1 htr
  obtain⟨i,zv,hi,hzv,hzr,hz1⟩:=ig hz
  have hrun:(execOp g ⟨dst,.alloc t,ty,pos,after,guard⟩).run P w=.ok (.value (.pointer (some ⟨w.heap.size,0,none⟩))) (w.alloc (.cells zv.cells t)):=by
   simp[execOp,Instr.alloc,zeroValue,typeInfo,hi,hzv,newVar,newRow]
  have hptr:∀(ρ':Loc) (id:Nat) (size:Nat),ρ' id=some ⟨w.heap.size,0,size⟩->AZ ρ' (.ptr id 0) (.pointer (some ⟨w.heap.size,0,none⟩)):=fun ρ' id size h=>⟨_,h,rfl⟩
  split at htr
  ·rename_i e _
   cases hz0:AEZ z with
   |false=>rw[hz0]at htr;cases htr
   |true=>
    rw[hz0]at htr
    cases htr
    have hz2:=ALK hz0
    subst hz2
    have hv':Qc.iZ t e 0 0 0=b/\(λid=>V.ptr id 0)=fn:=hv
    obtain⟨rfl,rfl⟩:=hv'
    have hc:zv.cells= #[.pointer none,.slice none 0 0]:=by
     obtain⟨v1,r1,h1,e1,h2⟩:=KL.1 (hzr ρ)
     obtain⟨v2,r2,h3,e2,h4⟩:=KL.1 h2
     have e1:v1=.pointer none:=e1
     have e2:v2=.slice none 0 0:=e2
     have h4:r2=[]:=by simpa using h4
     subst e1 e2 h4
     apply Array.toList_inj.1
     rw[h1,h3]
    refine⟨_,_,zv.cells.size,hrun,?_,fun ρ' id h=>hptr ρ' id _ h⟩
    rw[hc]
    exact⟨rfl,rfl,rfl⟩
  split at htr
  ·rename_i n e hu
   obtain⟨esz,hes,htr⟩:=AL.1 htr
   split at htr
   ·rename_i hlen
    cases htr
    obtain⟨h1,h2,h3⟩:=ADn esz n z hlen
    have hv':Ap esz (bY esz n z) E (λb' f'=>b'=b/\f'=fn):=hv
    simp only[Ap,BL,len_eq]at hv'
    obtain⟨rfl,rfl⟩:=hv'
    refine⟨_,_,zv.cells.size,hrun,?_,fun ρ' id h=>hptr ρ' id _ h⟩
    exact(Zy.ofList (by rw[h1];exact hzr ρ) h3 hz1).AWB t
   ·cases htr
  ·cases htr
   have hv':Ap z.length [z] E (λb' f'=>b'=b/\f'=fn):=hv
   simp only[Ap,BL,len_eq]at hv'
   obtain⟨rfl,rfl⟩:=hv'
   refine⟨_,_,zv.cells.size,hrun,?_,fun ρ' id h=>hptr ρ' id _ h⟩
   exact ALm (hzr ρ) hz1 t
  ·cases htr
 case box t x=>
  obtain⟨x',hx,e⟩:=AL.1 htr;cases e
  have hv':AGn x' E (λb' f'=>b'=b/\f'=fn):=hv
  simp only[AGn,BL,Fp,len_eq]at hv'
  obtain⟨hok,rfl,rfl⟩:=hv'
  obtain⟨hvc,hone⟩:=vU (hO _ _ hx) hok
  refine⟨.pointer (some ⟨w.heap.size,0,none⟩),.cells (g x).cells t,(g x).cells.size,by simp[execOp,Instr.box,newVar,newRow],ALm hvc hone t,fun ρ' id h=>⟨_,h,rfl⟩⟩
 case buildSlice t cnt ps=>
  split at htr
  ·rename_i e hu
   obtain⟨esz,hes,htr⟩:=AL.1 htr
   obtain⟨z,hz,htr⟩:=AL.1 htr
   obtain⟨ps',hps,htr⟩:=AL.1 htr
   split at htr
   ·rename_i hcond
    obtain⟨hzl,hpos,hsmall⟩:=hcond
    cases htr
    obtain⟨i,zv,hi,hzv,hzr,hz1⟩:=ig hz
    have hsz:i.size=esz:=by unfold szT at hes;rw[hi]at hes;simpa using hes
    have hv':Aj esz cnt z ps' E (λb' f'=>b'=b/\f'=fn):=hv
    simp only[Aj,Fp]at hv'
    obtain⟨hok,rfl,rfl⟩:=hv'
    have hzs:zv.cells.size=esz:=by rw[<-Array.length_toList,<-(hzr ρ).length,hzl]
    have hel:=Zy.zero (hzr ρ) hz1 cnt
    rw[hzs]at hel
    obtain⟨cells',hfill,hrel⟩:=AHp hO ps.toList ps' _ _ hps hok hel
    refine⟨.slice (some ⟨w.heap.size,0,none⟩) cnt cnt,.cells cells' e,cells'.size,?_,hrel.AWB e,fun ρ' id h=>⟨_,_,h,rfl,.inr (by simp),Nat.le_refl _⟩⟩
    have hl:(ps.map λ(i,x)=>(i,g x)).toList=ps.toList.map λp=>(p.1,g p.2):=by simp
    by_cases hc0:cnt*esz=0
    ·have hc:cnt=0:=by
      rcases Nat.mul_eq_zero.1 hc0 with h|h
      ·exact h
      ·omega
     have hemp:(Array.range (cnt*esz)).map (λx=>(#[]:Array Value)[x%(#[]:Array Value).size]!)=madeCells zv.cells (cnt*esz):=by rw[hc0];simp[madeCells]
     have hemp':madeCells zv.cells (cnt*esz)= #[]:=by rw[hc0];simp[madeCells]
     rw[hemp']at hfill
     have hr0:Array.map (λ_:Nat=>(default:Value)) (Array.range 0)= #[]:=by simp
     simp[execOp,Instr.buildSlice,run_underlying hu,sizeOf,typeInfo,hi,hsz,hc0,newRow]
     rw[hr0,hfill]
     simp
    ·have:=run_buildSlice (P:=P) w t e cnt (ps.map λ(i,x)=>(i,g x)) cells' i zv hu hi hzv (by rw[hsz];omega) (by rw[hsz];exact hc0) (by rw[hl,hsz];exact hfill)
     simp[execOp,this]
   ·cases htr
  ·cases htr
 case makeSlice t l c=>
  split at htr
  ·rename_i e hu
   obtain⟨i,hi,htr⟩:=AL.1 htr
   obtain⟨z,hz,htr⟩:=AL.1 htr
   obtain⟨l',hl,htr⟩:=AL.1 htr
   obtain⟨c',hc,htr⟩:=AL.1 htr
   split at htr
   ·rename_i hcond
    obtain⟨hzl,hbp⟩:=hcond
    cases htr
    obtain⟨i',zv,hi',hzv,hzr,hz1⟩:=ig hz
    have:i'=i:=Option.some.inj (hi'.symm.trans hi)
    subst this
    have hv':SE i'.size i'.bytes z l' c' E (λb' f'=>b'=b/\f'=fn):=hv
    simp only[SE,yY,Fp,BO,Bool.and_eq_true]at hv'
    obtain⟨kl,m,hlv,kc,q,hcv,⟨hle,hby⟩,rfl,rfl⟩:=hv'
    have hle':m<=q:=Nat.le_of_ble_eq_true hle
    have hby':i'.bytes*q<=281474976710656:=Nat.le_of_ble_eq_true hby
    have hgl:=hO _ _ hl
    have hgc:=hO _ _ hc
    rw[hlv]at hgl
    rw[hcv]at hgc
    simp only[AZ]at hgl hgc
    have hq:q<=i'.bytes*q:=Nat.le_mul_of_pos_left _ hbp
    have hbyI:(i'.bytes:Int)*(q:Int)<=281474976710656:=by
     have h:((i'.bytes*q:Nat):Int)<=281474976710656:=by omega
     rwa [Int.natCast_mul]at h
    have hrun:=run_make (P:=P) w t e i' zv hu hi hzv kl kc m q (by omega) (by omega) hbyI (by omega)
    have hzs:zv.cells.size=i'.size:=by rw[<-Array.length_toList,<-(hzr ρ).length,hzl]
    have hel:=Zy.zero (hzr ρ) hz1 q
    rw[hzs]at hel
    refine⟨_,_,_,?_,hel.AWB e,fun ρ' id h=>⟨_,⟨w.heap.size,0,none⟩,h,rfl,.inr (by simp),hle'⟩⟩
    simp only[Int.toNat_natCast]at hrun
    simp[execOp,hgl,hgc,hrun]
   ·cases htr
  ·cases htr
 case makeMap t r=>
  split at htr
  ·cases htr
   have hv':b=.map [] 0/\fn=λid=>.map id:=by
    have:(Qc.map [] 0=b/\(λid=>V.map id)=fn):=hv
    exact⟨this.1.symm,this.2.symm⟩
   obtain⟨rfl,rfl⟩:=hv'
   refine⟨.map (some w.heap.size),.map #[] 0,0,?_,⟨#[],rfl,by simp[Lh]⟩,fun ρ' id h=>⟨_,h,rfl⟩⟩
   simp[execOp,Instr.makeMap]
  ·cases htr
variable{P:Program}
theorem xU.puts{ρ:Loc}{w:World}{x:Info}{esz cnt:Nat}{c:T LV}{vs:Array Value}{t:TypeId}{fz:Nat×Nat}(h:xU ρ w x esz cnt c vs t fz)
 {i:Nat} {LS:CJ} {cs:List Value} (hi:i+LS.length<=cnt) (hr:CV ρ LS.flatten cs) (hl:∀L∈LS,L.length=esz) (hcl:cs.length=LS.length*esz) (h1:∀y∈cs,y.oneCell'=true):
 x.base+i*esz+cs.length<=vs.size/\xU ρ (w.setRow x.b (OO vs.toList (x.base+i*esz) cs).toArray) x esz cnt (Ew LS i c) (OO vs.toList (x.base+i*esz) cs).toArray t fz:=by
 have hmul:∀e,e<=cnt->e*esz<=cnt*esz:=λe he=>Nat.mul_le_mul_right _ he
 have hend:(i+LS.length)*esz=i*esz+LS.length*esz:=Nat.add_mul _ _ _
 have hsz:x.base+i*esz+cs.length<=vs.size:=by
  have:=hmul _ hi
  have:=h.room
  rw[h.size,hcl]
  omega
 have hlen:(OO vs.toList (x.base+i*esz) cs).toArray.size=vs.size:=by
  have:=Xq vs.toList (x.base+i*esz) cs (by simpa using hsz)
  simpa using this
 refine⟨hsz,{heap:=setRow_heap w x.b vs _ t fz h.heap,size:=hlen.trans h.size,free:=h.free,sh:=h.sh,room:=h.room,one:=?_,elem:=?_}⟩
 ·intro u hu
  simp only[OO,List.mem_append]at hu
  rcases hu with(hu|hu)|hu
  ·exact h.one u (List.mem_of_mem_take hu)
  ·exact h1 u hu
  ·exact h.one u (List.mem_of_mem_drop hu)
 ·intro e he
  by_cases hee:i<=e/\e<i+LS.length
  ·have hlt:e-i<LS.length:=by omega
   refine⟨LS[e-i],by rw[D9,if_pos hee,List.getElem?_eq_getElem hlt],?_⟩
   have hs:=Y9 LS cs hr hl (e-i) _ (List.getElem?_eq_getElem hlt)
   have hsame:=dN hsz
   rw[<-hsame]at hs
   have hfit:(e-i)*esz+esz<=cs.length:=by
    have:(e-i+1)*esz<=LS.length*esz:=Nat.mul_le_mul_right _ hlt
    rw[Nat.add_mul,Nat.one_mul]at this
    omega
   rw[sub_sub hfit]at hs
   have:x.base+i*esz+(e-i)*esz=x.base+e*esz:=by
    have:(i+(e-i))*esz=i*esz+(e-i)*esz:=Nat.add_mul _ _ _
    rw[show i+(e-i)=e by omega]at this
    omega
   rwa [this]at hs
  ·obtain⟨L,hL,hrL⟩:=h.elem e he
   refine⟨L,by rw[D9,if_neg hee,hL],?_⟩
   rw[Wn hsz]
   ·exact hrL
   ·rcases Nat.lt_or_ge e i with hlt|hge
    ·left
     have:(e+1)*esz<=i*esz:=Nat.mul_le_mul_right _ hlt
     rw[Nat.add_mul,Nat.one_mul]at this
     omega
    ·right
     have:(i+LS.length)*esz<=e*esz:=Nat.mul_le_mul_right _ (by omega)
     omega
structure Src(P:Program)(w:World)(u:Value)(n esz:Nat)(cs:List Value):Prop where
 len:∀w':World,(Builtin.lenOf u).run P w'=.ok n w'
 fst:∀m,m<=n->∀w':World,w'.heap=w.heap->(Builtin.firstCells esz m u).run P w'=.ok (cs.take (m*esz)).toArray w'
theorem AH7{w0:World}{ρ:Loc}{H:Heap}{m:Nat}{w:World}(hh:D8 w0 ρ H m w){G:AV}(hg:Vg w0 G){v:V}{u:Value}(hv:AZ ρ v u){esz:Nat}{LS:CJ}(h:elems v G H esz=some LS):
 ∃cs:List Value,CV ρ LS.flatten cs/\cs.length=LS.length*esz/\(∀L∈LS,L.length=esz)/\(∀y∈cs,y.oneCell'=true)/\Src P w u LS.length esz cs:=by
 obtain⟨cs,hr,hlen,heach,hone,hcase⟩:=AE7 hh hg hv h
 refine⟨cs,hr,hlen,heach,hone,?_⟩
 rcases hcase with⟨rfl,rfl⟩|⟨a,cp,rfl,hcell⟩|⟨s,rfl,h1,hs,rfl⟩
 ·refine⟨λw'=>by simp[Builtin.lenOf],λk hk w' _=>?_⟩
  have:cs=[]:=List.length_eq_zero_iff.1 (by simpa using hlen)
  subst this
  simp[Builtin.firstCells]
 ·refine⟨λw'=>by simp[Builtin.lenOf],λk hk w' hw=>?_⟩
  have hk':k*esz<=cs.length:=by rw[hlen];exact Nat.mul_le_mul_right _ hk
  refine run_firstCells_some (P:=P) w' esz k a LS.length cp (cs.take (k*esz)) (by simp;omega) (λj y hj=>?_)
  rw[List.getElem?_take]at hj
  split at hj
  ·have:=hcell j y hj
   rw[<-this]
   exact World.cell?_of_block (by rw[hw])
  ·cases hj
 ·refine⟨λw'=>by simp[Builtin.lenOf,hs],λk hk w' _=>?_⟩
  have hz:esz=1∨LS=[]:=by
   cases LS with
   |nil=>exact .inr rfl
   |cons L LS=>left;rw[<-heach L List.mem_cons_self,h1 L List.mem_cons_self]
  have hk1:k*esz=k:=by
   rcases hz with rfl|rfl
   ·omega
   ·simp at hk;subst hk;simp
  rw[hk1]
  simp only[Builtin.firstCells,Sem.run_pure,Result.ok.injEq,and_true]
  apply Array.toList_inj.1
  simp[ByteArray.data_extract]
theorem AFD{w:World}(t u ty e:TypeId)(d:TypeDesc)(i:TypeInfo)(z:Value)(ht:P.underlying t=some (.slice e))(hu:P.underlying u=some d)(hd:∀k,d≠.int k)(hi:P.info? e=some i)(hz:i.zero=some z)
 {base:Option Addr} {sLen sCap n:Nat} {uy:Value} {olds news:List Value} (ho:(Builtin.firstCells i.size sLen (.slice base sLen sCap)).run P w.drew=.ok olds.toArray w.drew)
 (hs:Src P w uy n i.size news) (hl:news.length=n*i.size) (hg:sCap<sLen+n) (h63:((sLen+n:Nat):Int)<=9223372036854775807) (hfit:Builtin.nextslicecap (sLen+n) sCap*i.bytes<=281474976710656):
 (Builtin.append_ #[t,u] ty #[.slice base sLen sCap,uy]).run P w=
  .ok (.slice (some ⟨w.heap.size,0,none⟩) (sLen+n) (grownCap w (sLen+n) sCap e))
   (w.drew.alloc (.cells (olds.toArray++news.toArray++Builtin.zeroCells z.cells (grownCap w (sLen+n) sCap e-(sLen+n))) e)):=by
 have hn:¬(sLen+n<=sCap):=by omega
 have h63':¬(9223372036854775807<((sLen:Int)+(n:Int))):=by omega
 have h48':¬(281474976710656<Builtin.nextslicecap (sLen+n) sCap*i.bytes):=by omega
 have hf:=hs.fst n (Nat.le_refl _) w.drew rfl
 rw[<-hl,List.take_length]at hf
 simp[Builtin.append_,run_underlying ht,run_underlying hu,sizeOf,typeInfo,zeroValue,hi,hz,hs.len,hn,h63',h48',Question.forced,hf,ho,newRow,grownCap]
 congr 2
 apply Array.ext'
 simp[List.append_assoc]
theorem Wj{w w':World}(t u ty e:TypeId)(d:TypeDesc)(i:TypeInfo)(ht:P.underlying t=some (.slice e))(hu:P.underlying u=some d)(hd:∀k,d≠.int k)(hi:P.info? e=some i)
 {base:Option Addr} {sLen sCap n:Nat} {uy:Value} {news:List Value} (hs:Src P w uy n i.size news) (hl:news.length=n*i.size) (hroom:sLen+n<=sCap)
 (hst:match base with|some a=>(storeCells (a.add (sLen*i.size)) news).run P w=.ok () w'|none=>w'=w):
 (Builtin.append_ #[t,u] ty #[.slice base sLen sCap,uy]).run P w=.ok (.slice base (sLen+n) sCap) w':=by
 have hf:=hs.fst n (Nat.le_refl _) w rfl
 rw[<-hl,List.take_length]at hf
 cases base with
 |none=>subst hst;simp[Builtin.append_,run_underlying ht,run_underlying hu,sizeOf,typeInfo,hi,hs.len,hroom,hf]
 |some a=>simp only at hst;simp[Builtin.append_,run_underlying ht,run_underlying hu,sizeOf,typeInfo,hi,hs.len,hroom,hf,hst]
theorem AE4{ρ:Loc}{esz:Nat}{c0:T LV}{ln:Nat}{olds:List Value}(hol:olds.length=ln*esz)(ho1:∀y∈olds,y.oneCell'=true)
 (hold:∀e,e<ln->∃L,T.get c0 e=some L/\CV ρ L ((olds.drop (e*esz)).take esz)) {LS:CJ} {news:List Value} (hr:CV ρ LS.flatten news) (hl:∀L∈LS,L.length=esz) (hnl:news.length=LS.length*esz) (hn1:∀y∈news,y.oneCell'=true)
 {zs:Array Value} (hz1:∀y∈zs.toList,y.oneCell'=true) (t:TypeId) {need:Nat} (hneed:need=ln+LS.length):
 AI8 ρ (olds.toArray++news.toArray++zs).size (.arr esz need (Ew LS ln c0)) (.cells (olds.toArray++news.toArray++zs) t):=by
 subst hneed
 have hend:(ln+LS.length)*esz=ln*esz+LS.length*esz:=Nat.add_mul _ _ _
 refine⟨_,t,(0,0),rfl,rfl,yP _,.inr rfl,by simp only[Array.size_append,List.size_toArray,hol,hnl];omega,?_,?_⟩
 ·intro u hu
  simp only[Array.toList_append,List.mem_append]at hu
  rcases hu with(hu|hu)|hu
  ·exact ho1 u hu
  ·exact hn1 u hu
  ·exact hz1 u hu
 ·intro e he
  have hsub:sub (olds.toArray++news.toArray++zs) (e*esz) esz=((olds++news).drop (e*esz)).take esz:=by
   have hle:e*esz+esz<=(olds++news).length:=by
    have:(e+1)*esz<=(ln+LS.length)*esz:=Nat.mul_le_mul_right _ he
    rw[Nat.add_mul,Nat.one_mul]at this
    rw[List.length_append,hol,hnl]
    omega
   simp only[sub,Array.toList_append]
   rw[List.drop_append_of_le_length (by omega),List.take_append_of_le_length (by simp only[List.length_drop];omega)]
  rw[hsub]
  by_cases hlt:e<ln
  ·obtain⟨L,hL,hrL⟩:=hold e hlt
   refine⟨L,by rw[D9,if_neg (by omega),hL],?_⟩
   have hle:e*esz+esz<=olds.length:=by
    have:(e+1)*esz<=ln*esz:=Nat.mul_le_mul_right _ hlt
    rw[Nat.add_mul,Nat.one_mul]at this
    omega
   rw[List.drop_append_of_le_length (by omega),List.take_append_of_le_length (by simp only[List.length_drop];omega)]
   exact hrL
  ·have hlt':e-ln<LS.length:=by omega
   refine⟨LS[e-ln],by rw[D9,if_pos (by omega),List.getElem?_eq_getElem hlt'],?_⟩
   have hs:=Y9 LS news hr hl (e-ln) _ (List.getElem?_eq_getElem hlt')
   have he2:e*esz=olds.length+(e-ln)*esz:=by
    have:(ln+(e-ln))*esz=ln*esz+(e-ln)*esz:=Nat.add_mul _ _ _
    rw[show ln+(e-ln)=e by omega]at this
    omega
   rw[he2,List.drop_length_add_append]
   exact hs
theorem yJ{z:Array Value}(h:∀y∈z.toList,y.oneCell'=true)(n:Nat):∀y∈(Builtin.zeroCells z n).toList,y.oneCell'=true:=by
 intro y hy
 simp only[Builtin.zeroCells,Array.toList_map,List.mem_map,Array.toList_range,List.mem_range]at hy
 obtain⟨i,hi,rfl⟩:=hy
 have hpos:0<z.size:=by
  rcases Nat.eq_zero_or_pos z.size with e|e
  ·rw[e]at hi;simp at hi
  ·exact e
 have hlt:i%z.size<z.size:=Nat.mod_lt _ hpos
 rw[getElem!_pos z _ hlt]
 exact h _ (by simp)
def AJx(P:Program)(w0:World)(ρ:Loc)(H:Heap)(n:Nat)(w:World)(s:Sem Value)(k:KV):Prop:=
 ∃v H' n' val w' ρ',k v H' n'/\s.run P w=.ok val w'/\AZ ρ' v val/\D8 w0 ρ' H' n' w'/\Ij ρ H n ρ' H' n'
structure APG(P:Program)(t u e:TypeId)(esz bs:Nat)(i:TypeInfo)(z:Value):Prop where
 ht:P.underlying t=some (.slice e)
 hu:∃d,P.underlying u=some d/\∀k,d≠.int k
 hi:P.info? e=some i
 hz:i.zero=some z
 size:i.size=esz
 bytes:i.bytes=bs
 pos:0<bs
 zs:z.cells.size=esz
 z1:∀y∈z.cells.toList,y.oneCell'=true
theorem AM4{need bs:Nat}(h:Lm need bs=true):need*bs<=140737488355328:=Nat.le_of_ble_eq_true h
theorem ADq{t u e:TypeId}{esz bs:Nat}{i:TypeInfo}{z:Value}(ty:TypeId)(ht:APG P t u e esz bs i z){w:World}{base:Option Addr}{ln cap:Nat}{uy:Value}{olds news:List Value}{m:Nat}
 (ho:(Builtin.firstCells esz ln (.slice base ln cap)).run P w.drew=.ok olds.toArray w.drew) (hs:Src P w uy m esz news) (hl:news.length=m*esz) (hg:cap<ln+m) (hroom:Lm (ln+m) bs=true):
 (Builtin.append_ #[t,u] ty #[.slice base ln cap,uy]).run P w=
  .ok (.slice (some ⟨w.heap.size,0,none⟩) (ln+m) (grownCap w (ln+m) cap e))
   (w.drew.alloc (.cells (olds.toArray++news.toArray++Builtin.zeroCells z.cells (grownCap w (ln+m) cap e-(ln+m))) e)):=by
 obtain⟨d,hu,hd⟩:=ht.hu
 have hsz:=ht.size
 subst hsz
 have hfit:=AM4 hroom
 have hby:=ht.bytes
 subst hby
 have hle:ln+m<=(ln+m)*i.bytes:=Nat.le_mul_of_pos_right _ ht.pos
 exact AFD t u ty e d i z ht.ht hu hd ht.hi ht.hz ho hs hl hg (by omega) (growslice_fits hg hfit)
theorem AOO{t u e:TypeId}{esz bs:Nat}{i:TypeInfo}{z:Value}(ht:APG P t u e esz bs i z){w:World}{olds news:List Value}{ln m cap need:Nat}(hol:olds.length=ln*esz)(hnl:news.length=m*esz)(hneed:need=ln+m){ρ':Loc}{n:Nat}
 (hx:ρ' n=some ⟨w.heap.size,0,(olds.toArray++news.toArray++Builtin.zeroCells z.cells (grownCap w need cap e-need)).size⟩):
 AZ ρ' (.G6 n 0 need esz) (.slice (some ⟨w.heap.size,0,none⟩) need (grownCap w need cap e)):=by
 have hge:=grownCap_ge w need cap e
 refine⟨_,_,_,hx,rfl,.inr (by simp),hge,?_⟩
 simp only[Array.size_append,List.size_toArray,size_zeroCells,hol,hnl,ht.zs,Nat.zero_add,<-Nat.add_mul]
 exact Nat.mul_le_mul_right _ (by omega)
theorem bW{t u e:TypeId}{esz bs:Nat}{i:TypeInfo}{z:Value}(ty:TypeId)(ht:APG P t u e esz bs i z){w0:World}{ρ:Loc}{H:Heap}{n:Nat}{w:World}(hh:D8 w0 ρ H n w)
 {base:Option Addr} {cap:Nat} {uy:Value} {olds news:List Value} {OS LS:CJ} (hro:CV ρ OS.flatten olds) (hlo:∀L∈OS,L.length=esz) (hol:olds.length=OS.length*esz) (ho1:∀y∈olds,y.oneCell'=true)
 (ho:(Builtin.firstCells esz OS.length (.slice base OS.length cap)).run P w.drew=.ok olds.toArray w.drew)
 (hr:CV ρ LS.flatten news) (hl:∀L∈LS,L.length=esz) (hnl:news.length=LS.length*esz) (hn1:∀y∈news,y.oneCell'=true) (hs:Src P w uy LS.length esz news) (hg:cap<OS.length+LS.length)
 {k:KV} (h:Gv esz bs OS LS H n k):AJx P w0 ρ H n w (Builtin.append_ #[t,u] ty #[.slice base OS.length cap,uy]) k:=by
 simp only[Gv,BL,Fp,len_eq]at h
 obtain⟨hroom,hk⟩:=h
 have hrun:=ADq ty ht ho hs hnl hg hroom
 have hnr:=AE4 (c0:=Ew OS 0 .e) hol ho1 (λe he=>⟨OS[e],by rw[D9,if_pos (by omega)];simp[he],Y9 OS olds hro hlo e _ (List.getElem?_eq_getElem he)⟩) hr hl hnl hn1
  (yJ ht.z1 (grownCap w (OS.length+LS.length) cap e-(OS.length+LS.length))) e (need:=OS.length+LS.length) rfl
 refine⟨_,_,_,_,_,_,hk,hrun,AOO ht hol hnl rfl (Loc.add_same _ _ _),hh.drew.new hnr,Ij.place _ hh.AAO⟩
variable{P:Program}
theorem dZ(a:Addr)(w:World):(storeCells a []).run P w=.ok () w:=by simp[storeCells]
theorem AC4{ρ:Loc}{w:World}{b o esz:Nat}{OS:CJ}{cs:List Value}(hr:Reads ρ w b o OS esz cs){a:Addr}{cap:Nat}(ha:0<OS.length->a=⟨b,o,none⟩):
 (Builtin.firstCells esz OS.length (.slice (some a) OS.length cap)).run P w.drew=.ok cs.toArray w.drew:=by
 refine run_firstCells_some (P:=P) w.drew esz OS.length a OS.length cap cs hr.len (λj y hj=>?_)
 have hpos:0<OS.length:=by
  rcases Nat.eq_zero_or_pos OS.length with e|e
  ·have hcl:=hr.len;rw[e,Nat.zero_mul]at hcl
   rw[List.length_eq_zero_iff.1 hcl]at hj;simp at hj
  ·exact e
 rw[ha hpos,add_lit]
 rw[<-(hr.cell j y hj).1]
 exact World.cell?_of_block rfl
theorem AHV{ρ:Loc}{w:World}{b o esz:Nat}{OS:CJ}{cs:List Value}(hr:Reads ρ w b o OS esz cs):∀y∈cs,y.oneCell'=true:=by
 intro y hy
 obtain⟨j,hj⟩:=List.mem_iff_getElem?.1 hy
 exact(hr.cell j y hj).2
theorem AQZ{t u e:TypeId}{esz bs:Nat}{i:TypeInfo}{z:Value}(ty:TypeId)(ht:APG P t u e esz bs i z)(hpos:0<esz){w0:World}{ρ:Loc}{H:Heap}{n:Nat}{w:World}(hh:D8 w0 ρ H n w){G:AV}(hg:Vg w0 G)
 {x y:V} {ux uy:Value} (hx:AZ ρ x ux) (hy:AZ ρ y uy) {LS:CJ} (hel:elems y G H esz=some LS) {k:KV} (h:AGA x G esz bs LS H n k):
 AJx P w0 ρ H n w (Builtin.append_ #[t,u] ty #[ux,uy]) k:=by
 obtain⟨news,hr,hnl,hl,hn1,hs⟩:=AH7 (P:=P) hh hg hy hel
 have hs':Src P w uy LS.length i.size news:=by rw[ht.size];exact hs
 have hnl':news.length=LS.length*i.size:=by rw[ht.size];exact hnl
 obtain⟨d,hu,hd⟩:=ht.hu
 have ALx:LS=[]->news=[]:=λe=>List.length_eq_zero_iff.1 (by rw[hnl,e];simp)
 cases x<;>simp only[AGA]at h<;>try (exact absurd h id)
 ·
   simp only[AZ]at hx
   subst hx
   cases LS with
   |nil=>
    have hk:k .Af H n:=h
    have hrun:=Wj (P:=P) (w:=w) (w':=w) t u ty e d i ht.ht hu hd ht.hi (base:=none) (sLen:=0) (sCap:=0) hs' hnl' (by simp) rfl
    exact⟨_,_,_,_,_,_,hk,hrun,by simp[AZ],hh,Ij.refl _ _ _⟩
   |cons L LS=>
    have hk:Gv esz bs [] (L::LS) H n k:=h
    exact bW (OS:=[]) (olds:=[]) (base:=none) (cap:=0) ty ht hh (by simp) (λL h=>(by cases h)) (by simp) (λy h=>(by cases h)) (run_firstCells_none (P:=P) (w:=w.drew) esz 0 0 0) hr hl hnl hn1 hs (by simp) hk
 ·
   rename_i id off ln cap es
   simp only[AXE,BL,Fp,len_eq]at h
   obtain⟨hes,h⟩:=h
   have:=Nat.eq_of_beq_eq_true hes
   subst this
   simp only[AZ]at hx
   obtain⟨xi,a,hxi,rfl,ha,hle⟩:=hx
   cases hb:Nat.ble (Nat.add ln LS.length) cap with
   |false=>
    rw[hb]at h
    have h':EN (BZ H id es ln off) (λOS=>Gv es bs OS LS H n k):=h
    rw[Jy]at h'
    obtain⟨OS,hOS,hk⟩:=h'
    obtain⟨hlen,cs,hrd⟩:=XU hh hg hxi ln off OS hOS
    have hgt:cap<ln+LS.length:=by
     rcases Nat.lt_or_ge cap (ln+LS.length)with h|h
     ·exact h
     ·rw[show Nat.ble (Nat.add ln LS.length) cap=true from Nat.ble_eq_true_of_le h]at hb;cases hb
    subst hlen
    exact bW ty ht hh hrd.rel hrd.each hrd.len (AHV hrd) (AC4 hrd (λhp=>Or.resolve_left ha (by omega))) hr hl hnl hn1 hs hgt hk
   |true=>
    rw[hb]at h
    have h':EN (T.get H id) (λb=>YS id off ln cap es (Nat.add ln LS.length) LS H n k b):=h
    rw[Jy]at h'
    obtain⟨b,hget,hin⟩:=h'
    have hroom:ln+LS.length<=cap:=Nat.le_of_ble_eq_true hb
    cases b with
    |map _ _=>exact False.elim hin
    |dead=>exact False.elim hin
    |iZ _ _ _ _ _=>exact False.elim hin
    |own _=>exact False.elim hin
    |arr esz' cnt c=>
     have hin':EJ (band (Nat.beq es esz') (Nat.ble (Nat.add off (Nat.add ln LS.length)) cnt)) (k (.sl id off (Nat.add ln LS.length) cap es) (T.set H id (.arr es cnt (Ew LS (Nat.add off ln) c))) n):=hin
     simp only[Fp,BO,Bool.and_eq_true,beq_iff]at hin'
     obtain⟨⟨rfl,hfit⟩,hk⟩:=hin'
     have hfit':off+(ln+LS.length)<=cnt:=Nat.le_of_ble_eq_true hfit
     obtain⟨vs,tt,fz,har⟩:=hh.arr id xi es cnt c hxi hget
     obtain⟨hsz,har'⟩:=har.puts (i:=off+ln) (by omega) hr hl hnl hn1
     have hst:(storeCells (a.add (ln*es)) news).run P w=.ok () (w.setRow xi.b (OO vs.toList (xi.base+(off+ln)*es) news).toArray):=by
      rcases Nat.eq_zero_or_pos cap with hc0|hcp
      ·have hL0:LS=[]:=List.length_eq_zero_iff.1 (by omega)
       have hn0:=ALx hL0
       subst hn0
       rw[dZ]
       have:(OO vs.toList (xi.base+(off+ln)*es) []).toArray=vs:=by simp[OO]
       rw[this,setRow_self w xi.b vs tt fz har.heap]
      ·have ha':a=⟨xi.b,xi.base+off*es,none⟩:=by rcases ha with e|e; · omega
                                                 ·exact e
       subst ha'
       rw[add_lit]
       have hru:=Jl (P:=P) xi.b (xi.base+(off+ln)*es) tt fz news 0 vs w har.heap (by rw[har.size];exact har.free) (by simpa using hsz) hn1
       simp only[Nat.add_zero]at hru
       rw[show xi.base+off*es+ln*es=xi.base+(off+ln)*es by rw[Nat.add_mul];omega]
       exact hru
     have hrun:=Wj (P:=P) (w:=w) t u ty e d i ht.ht hu hd ht.hi (base:=some a) (sLen:=ln) (sCap:=cap) hs' hnl' hroom (by rw[ht.size];exact hst)
     refine⟨_,_,_,_,_,ρ,hk,hrun,⟨xi,a,hxi,rfl,ha,hroom⟩,?_,Ij.turn hxi _⟩
     refine hh.turn hxi ⟨_,hget,by simp⟩ (setRow_size _ _ _) (λk hk=>setRow_other _ _ _ _ hk) (setRow_os _ _ _) (setRow_output _ _ _) ?_ (λes ck he=>by cases he) (λ_=>by rw[hget];simp) (λ_ _ _ _ _ he=>by cases he)
     intro e2 n2 c2 he
     cases he
     exact⟨_,_,_,har'⟩
 ·
   rename_i id off ln es
   simp only[ATc,Fp]at h
   obtain⟨hes,h⟩:=h
   have:=Nat.eq_of_beq_eq_true hes
   subst this
   simp only[AZ]at hx
   obtain⟨xi,a,capc,hxi,rfl,ha,hle,hcapsz⟩:=hx
   by_cases hLS:LS=[]
   ·subst hLS
    have hn0:=ALx rfl
    subst hn0
    have hk:k (.G6 id off ln es) H n:=h
    have hrun:=Wj (P:=P) (w:=w) (w':=w) t u ty e d i ht.ht hu hd ht.hi (base:=some a) (sLen:=ln) (sCap:=capc) hs' hnl' (by simpa using hle) (dZ _ _)
    exact⟨_,_,_,_,_,_,hk,hrun,⟨xi,a,capc,hxi,by simp,ha,hle,hcapsz⟩,hh,Ij.refl _ _ _⟩
   ·have hLp:0<LS.length:=by cases LS with
     |nil=>exact absurd rfl hLS
     |cons L LS=>simp
    have h1:EN (T.get H id) (λb=>Yx id off ln es bs LS H n k b):=by
     cases LS with
     |nil=>exact absurd rfl hLS
     |cons L LS=>exact h
    rw[Jy]at h1
    obtain⟨b,hget,hin⟩:=h1
    cases b with
    |map _ _=>exact False.elim hin
    |dead=>exact False.elim hin
    |iZ _ _ _ _ _=>exact False.elim hin
    |own _=>exact False.elim hin
    |arr esz' cnt c=>
     have hin':DU (Nat.add ln (len LS)) (λneed=>EJ (band (Lm need bs) (band (Nat.beq es esz') (Nat.ble (Nat.add off ln) cnt)))
      (DU n λn=>Nat.rec (motive:=λ_=>Prop)
       (k (.G6 n 0 need es) (T.set (T.set H id .dead) n (.arr es need (Ew LS ln c))) (Nat.succ n))
       (λ_ _=>EN (BZ H id es ln off) λOS=>k (.G6 n 0 need es) (T.set (T.set H id .dead) n (.arr es need (Ew LS ln (Ew OS 0 .e)))) (Nat.succ n)) off)):=hin
     simp only[BL,Fp,BO,Bool.and_eq_true,beq_iff,len_eq]at hin'
     obtain⟨⟨hroom,rfl,hfit⟩,hk0⟩:=hin'
     have hfit':off+ln<=cnt:=Nat.le_of_ble_eq_true hfit
     obtain⟨vs,tt,fz,har⟩:=hh.arr id xi es cnt c hxi hget
     have key:∃c0:T LV,k (.G6 n 0 (ln+LS.length) es) (T.set (T.set H id .dead) n (.arr es (ln+LS.length) (Ew LS ln c0))) (n+1)/\
      ∀e,e<ln->∃L,T.get c0 e=some L/\CV ρ L (sub vs (xi.base+(off+e)*es) es):=by
      cases off with
      |zero=>
       exact⟨c,hk0,λe he=>by rw[Nat.zero_add];exact har.elem e (by omega)⟩
      |succ off=>
       have hk1:EN (BZ H id es ln (off+1)) (λOS=>k (.G6 n 0 (ln+LS.length) es) (T.set (T.set H id .dead) n (.arr es (ln+LS.length) (Ew LS ln (Ew OS 0 .e)))) (Nat.succ n)):=hk0
       rw[Jy]at hk1
       obtain⟨OS,hOS,hk⟩:=hk1
       obtain⟨hlen,cs,hrd⟩:=XU hh hg hxi ln (off+1) OS hOS
       refine⟨Ew OS 0 .e,hk,λe he=>?_⟩
       refine⟨OS[e],by rw[D9,if_pos (by omega)];simp[hlen,he],?_⟩
       have hfs:=Y9 OS cs hrd.rel hrd.each e _ (List.getElem?_eq_getElem (by omega))
       have heq:(cs.drop (e*es)).take es=sub vs (xi.base+(off+1+e)*es) es:=by
        have hle2:e*es+es<=cs.length:=by
         rw[hrd.len,hlen]
         have:(e+1)*es<=ln*es:=Nat.mul_le_mul_right _ he
         rwa [Nat.add_mul,Nat.one_mul]at this
        have hroom2:xi.base+(off+1+e)*es+es<=vs.size:=by
         have:(off+1+e+1)*es<=cnt*es:=Nat.mul_le_mul_right _ (by omega)
         rw[Nat.add_mul _ 1,Nat.one_mul]at this
         have:=har.room
         rw[har.size];omega
        apply List.ext_getElem?
        intro j
        by_cases hj:j<es
        ·rw[List.getElem?_take,if_pos hj,List.getElem?_drop,Zq,if_pos hj]
         have hlt:e*es+j<cs.length:=by omega
         rw[List.getElem?_eq_getElem hlt]
         have hc:=(hrd.cell _ _ (List.getElem?_eq_getElem hlt)).1
         rw[cell_of_heap har.heap]at hc
         rw[<-hc,Array.getElem?_toList]
         congr 1
         rw[Nat.add_mul (off+1) e];omega
        ·rw[List.getElem?_eq_none (by simp;omega),List.getElem?_eq_none (by rw[TS hroom2];omega)]
       rw[<-heq];exact hfs
     obtain⟨c0,hk,hc0⟩:=key
     have hn:=hh.AAO
     have AZv:id<n:=hh.lt id xi hxi
     by_cases hin:ln+LS.length<=capc
     ·
       have ha':a=⟨xi.b,xi.base+off*es,none⟩:=by rcases ha with e|e; · omega
                                                 ·exact e
       subst ha'
       have hmul:(off+(ln+LS.length))*es<=(off+capc)*es:=Nat.mul_le_mul_right _ (by omega)
       have hend1:(off+(ln+LS.length))*es=off*es+ln*es+LS.length*es:=by rw[Nat.add_mul,Nat.add_mul];omega
       have hsz:xi.base+(off*es+ln*es)+news.length<=vs.size:=by rw[har.size,hnl];omega
       have hru:=Jl (P:=P) xi.b (xi.base+(off*es+ln*es)) tt fz news 0 vs w har.heap (by rw[har.size];exact har.free) (by simpa using hsz) hn1
       simp only[Nat.add_zero]at hru
       have hst:(storeCells ((⟨xi.b,xi.base+off*es,none⟩:Addr).add (ln*es)) news).run P w=.ok () (w.setRow xi.b (OO vs.toList (xi.base+(off*es+ln*es)) news).toArray):=by
        rw[add_lit,show xi.base+off*es+ln*es=xi.base+(off*es+ln*es)by omega]
        exact hru
       have hrun:=Wj (P:=P) (w:=w) t u ty e d i ht.ht hu hd ht.hi (base:=some ⟨xi.b,xi.base+off*es,none⟩) (sLen:=ln) (sCap:=capc) hs' hnl' hin (by rw[ht.size];exact hst)
       have hlenv:(OO vs.toList (xi.base+(off*es+ln*es)) news).toArray.size=vs.size:=by
        have:=Xq vs.toList (xi.base+(off*es+ln*es)) news (by simpa using hsz)
        simpa using this
       refine⟨_,_,_,_,_,_,hk,hrun,⟨⟨xi.b,xi.base+off*es,xi.size⟩,_,capc,Loc.add_same _ _ _,rfl,.inr (by simp),hin,by simp only[Nat.zero_add];rw[Nat.add_mul]at hcapsz;omega⟩,
        hh.move hxi ⟨_,hget,by simp⟩ (y:=⟨xi.b,xi.base+off*es,xi.size⟩) rfl (setRow_size _ _ _) (λk hk=>setRow_other _ _ _ _ hk) (setRow_os _ _ _) (setRow_output _ _ _) ?_ (λ_=>by rw[hget];simp),Ij.move hxi hn _ _⟩
       refine⟨_,tt,fz,{heap:=setRow_heap w xi.b vs _ tt fz har.heap,size:=hlenv.trans har.size,free:=har.free,sh:=har.sh,room:=?_,one:=?_,elem:=?_}⟩
       ·show xi.base+off*es+(ln+LS.length)*es<=xi.size
        rw[Nat.add_mul ln];omega
       ·intro u hu
        simp only[OO,List.mem_append]at hu
        rcases hu with(hu|hu)|hu
        ·exact har.one u (List.mem_of_mem_take hu)
        ·exact hn1 u hu
        ·exact har.one u (List.mem_of_mem_drop hu)
       ·intro e he
        show ∃L,T.get (Ew LS ln c0) e=some L/\CV ρ L (sub (OO vs.toList (xi.base+(off*es+ln*es)) news).toArray (xi.base+off*es+e*es) es)
        by_cases hlt:e<ln
        ·obtain⟨L,hL,hrL⟩:=hc0 e hlt
         refine⟨L,by rw[D9,if_neg (by omega),hL],?_⟩
         rw[Wn hsz]
         ·rw[show xi.base+off*es+e*es=xi.base+(off+e)*es by rw[Nat.add_mul];omega];exact hrL
         ·left
          have:(e+1)*es<=ln*es:=Nat.mul_le_mul_right _ hlt
          rw[Nat.add_mul,Nat.one_mul]at this
          omega
        ·have hlt':e-ln<LS.length:=by omega
         refine⟨LS[e-ln],by rw[D9,if_pos (by omega),List.getElem?_eq_getElem hlt'],?_⟩
         have hs2:=Y9 LS news hr hl (e-ln) _ (List.getElem?_eq_getElem hlt')
         have hsame:=dN hsz
         rw[<-hsame]at hs2
         have hfit2:(e-ln)*es+es<=news.length:=by
          have:(e-ln+1)*es<=LS.length*es:=Nat.mul_le_mul_right _ hlt'
          rw[Nat.add_mul,Nat.one_mul]at this
          omega
         rw[sub_sub hfit2]at hs2
         have:xi.base+(off*es+ln*es)+(e-ln)*es=xi.base+off*es+e*es:=by
          have:(ln+(e-ln))*es=ln*es+(e-ln)*es:=Nat.add_mul _ _ _
          rw[show ln+(e-ln)=e by omega]at this
          omega
         rwa [this]at hs2
     ·
       have hend1:(off+ln)*es=off*es+ln*es:=Nat.add_mul _ _ _
       have hmul:(off+ln)*es<=cnt*es:=Nat.mul_le_mul_right _ hfit'
       have hroomv:xi.base+off*es+ln*es<=vs.size:=by have:=har.room;rw[har.size];omega
       have holen:(sub vs (xi.base+off*es) (ln*es)).length=ln*es:=TS hroomv
       have ho1:∀y∈sub vs (xi.base+off*es) (ln*es),y.oneCell'=true:=by
        intro y hy
        exact har.one y (List.mem_of_mem_drop (List.mem_of_mem_take hy))
       have hfirst:(Builtin.firstCells es ln (.slice (some a) ln capc)).run P w.drew=.ok (sub vs (xi.base+off*es) (ln*es)).toArray w.drew:=by
        refine run_firstCells_some (P:=P) w.drew es ln a ln capc _ holen (λj y hj=>?_)
        obtain⟨hjl,hj'⟩:=AEJ hj
        have hcp:capc≠0:=by
         intro h0
         have:ln=0:=by omega
         rw[this]at hjl;simp at hjl
        have ha':a=⟨xi.b,xi.base+off*es,none⟩:=by rcases ha with e|e; · exact absurd e hcp
                                                  ·exact e
        rw[ha',add_lit]
        have:=cell_of_heap har.heap (xi.base+off*es+j)
        rw[hj']at this
        rw[<-this]
        exact World.cell?_of_block rfl
       have hrun:=ADq ty ht hfirst hs hnl (by omega) hroom
       have hold:∀e,e<ln->∃L,T.get c0 e=some L/\CV ρ L (((sub vs (xi.base+off*es) (ln*es)).drop (e*es)).take es):=by
        intro e he
        obtain⟨L,hL,hrL⟩:=hc0 e he
        refine⟨L,hL,?_⟩
        have hle2:e*es+es<=ln*es:=by
         have:(e+1)*es<=ln*es:=Nat.mul_le_mul_right _ he
         rwa [Nat.add_mul,Nat.one_mul]at this
        rw[sub_sub hle2]
        rw[show xi.base+off*es+e*es=xi.base+(off+e)*es by rw[Nat.add_mul];omega]
        exact hrL
       have hnr:=AE4 (c0:=c0) holen ho1 hold hr hl hnl hn1 (yJ ht.z1 (grownCap w (ln+LS.length) capc e-(ln+LS.length))) e (need:=ln+LS.length) rfl
       refine⟨_,_,_,_,_,_,hk,hrun,AOO ht holen hnl rfl (Loc.add_same _ _ _),(hh.kill AZv (λ_=>by rw[hget];simp)).drew.new hnr,Ij.move hxi hn _ _⟩
 ·
   rename_i b off ln cap es
   simp only[ASI,Fp,len_eq,Nat.blt_eq]at h
   obtain⟨hgt,h⟩:=h
   simp only[AZ]at hx
   obtain⟨a,rfl,ha,hle⟩:=hx
   rw[Jy]at h
   obtain⟨OS,hOS,hk⟩:=h
   obtain⟨hlen,cs,hrd⟩:=qQ hh hg ln off OS hOS
   subst hlen
   have hfst:0<OS.length->a=⟨b,off,none⟩:=λhp=>ha.resolve_left (by omega)
   exact bW ty ht hh hrd.rel hrd.each hrd.len (AHV hrd) (AC4 hrd hfst) hr hl hnl hn1 hs hgt hk
end Go.Bj
