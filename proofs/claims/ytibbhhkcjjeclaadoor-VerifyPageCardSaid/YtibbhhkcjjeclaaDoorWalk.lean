/- Part of a proof: texts En60 En61 En62 En63 En64 En65 En66 of the engine and what is proved with it; nothing is assumed. -/
import Derived.Test.YtibbhhkcjjeclaaDoorEngF
import Derived.Attr
import Derived.Test.YtibbhhkcjjeclaaDoorEngE
set_option linter.unusedVariables false
set_option linter.unusedSimpArgs false
namespace Go.CS
section
variable{G:AQ}{H:Heap}{id off m:Nat}{L:LV}{v:V}
theorem AU(h:T.get H id=some (one L))(hl:L[off]? =some v):AY (.ptr id off) G H=some v:=by
 obtain⟨hlt,he⟩:=List.getElem?_eq_some_iff.1 hl
 rw[AEH,lZ,AGu h (by omega) (by omega),ADL,pV]
 rw[List.getElem?_take]
 simp[hl]
theorem F8(h:T.get H id=some (one L))(hm:0<m)(hl:off+m<=L.length):Af m (.ptr id off) G H=some (.agg ((L.drop off).take m)):=by
 rw[AH8,lZ,AGu h hm hl,ADL]
theorem yT{n:Nat}{k:KV}(h:T.get H id=some (one L))(hv:YH v=true)(hn:(Az v).length=m)(hm:0<m)(hl:off+m<=L.length):
 Bg m (.ptr id off) v H n k=k .undef (T.set H id (one (L.take off++(Az v++L.drop (off+m))))) n:=by
 have hs:stP (.ptr id off) H m (Az v)=some (T.set H id (one (L.take off++(Az v++L.drop (off+m))))):=APw h hm hn hl
 unfold Bg
 rw[hv,len_eq,hn]
 have hb:band true (Nat.beq m m)=true:=by simp
 rw[hb,hs];rfl
theorem Ec(h:T.get H id=some (one L))(hm:0<m)(hl:L.length=m):Af m (.ptr id 0) G H=some (.agg L):=by
 rw[F8 h hm (by omega),List.drop_zero,List.take_of_length_le (by omega)]
theorem ED{n:Nat}{k:KV}{L':LV}(h:T.get H id=some (one L))(hm:0<m)(hl:L.length=m)(hn:L'.length=m):
 Bg m (.ptr id 0) (.agg L') H n k=k .undef (T.set H id (one L')) n:=by
 rw[yT h (by rfl) (by exact hn) hm (by omega)]
 have:L.take 0++(Az (.agg L')++L.drop (0+m))=L':=by
  show[]++(L'++L.drop (0+m))=L'
  rw[List.drop_eq_nil_of_le (by omega)];simp
 rw[this]
theorem AIS:CB [] G H=some []:=rfl
theorem AC7{rest:List AVr}:CB (.t v::rest) G H=BH (CB rest G H) λvs=>some (v::vs):=rfl
theorem CW{rest:List AVr}(h:T.get H id=some (one L))(hm:0<m)(hl:L.length=m):CB (.cn (.ptr id 0) m::rest) G H=BH (CB rest G H) λvs=>some (.agg L::vs):=by
 show BH (Af m (.ptr id 0) G H) (λv=>BH (CB rest G H) λvs=>some (v::vs))=_
 rw[Ec h hm hl];rfl
end
structure SL(G:AQ)(v:V)(z:Nat)(LS:EW):Prop where
 mk'::
 is:(v=.Ae/\LS=[])∨∃b off cap,v=.rsl b off LS.length cap z/\∀i c,LS[i]? =some c->c.length=z/\G b (off+i*z) z=some c
theorem SL.len{G:AQ}{v:V}{z:Nat}{LS:EW}(h:SL G v z LS):lenV v=some (.int .i64 (.ofNat LS.length) 0):=by
 rcases h.is with⟨rfl,rfl⟩|⟨b,off,cap,rfl,_⟩<;>rfl
theorem SL.at{G:AQ}{v:V}{z:Nat}{LS:EW}(h:SL G v z LS){i:Nat}{c:LV}(hi:LS[i]? =some c):
 ∃p,Ai z v (.int .i64 (.ofNat i) 0)=some p/\(∀H,Af z p G H=some (.agg c))/\c.length=z:=by
 obtain⟨hlt,_⟩:=List.getElem?_eq_some_iff.1 hi
 rcases h.is with⟨rfl,rfl⟩|⟨b,off,cap,rfl,hG⟩
 ·simp at hlt
 ·obtain⟨hz,hg⟩:=hG i c hi
  refine⟨.gptr b (off+i*z),?_,λH=>?_,hz⟩
  ·show BM (Nat.blt i LS.length) (FW (Nat.add off (Nat.mul i z)) λo=>some (.gptr b o))=_
   have:Nat.blt i LS.length=true:=by rw[Nat.blt_eq];exact hlt
   rw[this,D5];rfl
  ·show TW (G b (off+i*z) z) (λL=>some (.agg L))=_
   rw[hg];rfl
theorem Us{α β:Type}(a:α)(f:α->Option β):BH (some a) f=f a:=rfl
theorem ASI(a:V):JX [a]=a:=rfl
theorem ATK(a b:V)(l:LV):JX (a::b::l)=.Fh (a::b::l):=rfl
theorem yL(a b l c:Nat):Cc (.one .str) false (.str a b) (.str l c)=some (.bool (decide (a=l/\b=c))):=by
 show ofB (VA (some (band (Nat.beq a l) (Nat.beq b c))) λb=>some b)=_
 have:band (Nat.beq a l) (Nat.beq b c)=decide (a=l/\b=c):=by rw[BP,Bool.eq_iff_iff];simp
 rw[this];cases decide (a=l/\b=c)<;>rfl
theorem Dl{i:Nat}(h:i+1<9223372036854775808):B2.ev .add (.int .i64 (.ofNat i) 0) (.int .i64 (.ofNat 1) 0)=some (.int .i64 (.ofNat (i+1)) 0):=by
 show some (V.int .i64 (jX .i64 (ABp (.ofNat i) (.ofNat 1))) 0)=_
 rw[Yi,sN,bI (by simp;omega) (by simp;omega)];rfl
structure Kp(H:Heap)(n:Nat)(H':Heap)(n':Nat):Prop where
 le:n<=n'
 same:∀id,id<n->T.get H' id=T.get H id
theorem Kp.refl(H:Heap)(n:Nat):Kp H n H n:=⟨Nat.le_refl _,λ_ _=>rfl⟩
theorem Kp.trans{H H' H'':Heap}{n n' n'':Nat}(a:Kp H n H' n')(b:Kp H' n' H'' n''):Kp H n H'' n'':=⟨Nat.le_trans a.le b.le,λid h=>(b.same id (Nat.lt_of_lt_of_le h a.le)).trans (a.same id h)⟩
theorem Kp.new{H0 H:Heap}{n0 n id:Nat}(a:Kp H0 n0 H n)(b:Oj)(h:n0<=id){m:Nat}(hm:n<=m):Kp H0 n0 (T.set H id b) m:=
 ⟨Nat.le_trans a.le hm,λj hj=>by rw[T.Ac _ _ (by omega)];exact a.same j hj⟩
theorem Ia{σ:Type}{b:(σ->Prop)->σ->Prop}{J:Nat->σ->Prop}(h:∀I m s,J m s->(∀m' s',m'<m->J m' s'->I s')->b I s){m:Nat}{s:σ}(h0:J m s):lfp σ b s:=by
 intro I hI
 induction m using Nat.strongRecOn generalizing s with
 |_ m ih=>exact hI s (h I m s h0 λm' s' hlt hs=>ih m' hlt hs)
section
variable{G:AQ}{H:Heap}{i j o m n:Nat}{L L':LV}{v w:V}{k:KV}{b:Oj}
theorem AMm{z:Nat}{P:KV}(h:L.length=z):Bo (Am z [L] E0) H n P=P (.ptr n 0) (T.set H n (one L)) (n+1):=LQ h
theorem Ye(h:L[o]? =some v):AY (.ptr i o) G (T.set H i (one L))=some v:=AU (T.Ag ..) h
theorem APC:AY (.ptr i 0) G (T.set H i (one (v::L)))=some v:=Ye rfl
theorem WC(hl:L.length=m)(h:0<m):Af m (.ptr i 0) G (T.set H i (one L))=some (.agg L):=Ec (T.Ag ..) h hl
theorem AQL(h:i≠j):AY (.ptr i o) G (T.set H j b)=AY (.ptr i o) G H:=by
 rw[AEH,AEH,lZ,lZ];unfold Zz;rw[T.Ac _ _ (Ne.symm h)]
theorem APy(h:i≠j):Af m (.ptr i o) G (T.set H j b)=Af m (.ptr i o) G H:=by
 rw[AH8,AH8,lZ,lZ];unfold Zz;rw[T.Ac _ _ (Ne.symm h)]
theorem dw(hl:L.length=m)(h:0<m)(hn:L'.length=m):Bg m (.ptr i 0) (.agg L') (T.set H i (one L)) n k=k .undef (T.set (T.set H i (one L)) i (one L')) n:=ED (T.Ag ..) h hl hn
end
theorem ANU(L:LV):YH (.agg L)=true:=rfl
theorem AMe(l c:Nat):YH (.str l c)=true:=rfl
theorem AMF(k:IntKind)(a:Int)(s:Nat):YH (.int k a s)=true:=rfl
theorem AK0(b:Bool):YH (.bool b)=true:=rfl
theorem APT(L:LV):Az (.agg L)=L:=rfl
theorem AQd(l c:Nat):Az (.str l c)=[.str l c]:=rfl
theorem APU(k:IntKind)(a:Int)(s:Nat):Az (.int k a s)=[.int k a s]:=rfl
theorem ANT(b:Bool):Az (.bool b)=[.bool b]:=rfl
theorem AQF(L:LV)(H:Heap)(n:Nat)(P:KV):Bo (Di (.agg L)) H n P=P (.ptr n 0) (T.set H n (one L)) (n+1):=bD rfl
theorem APc(l c:Nat)(H:Heap)(n:Nat)(P:KV):Bo (Di (.str l c)) H n P=P (.ptr n 0) (T.set H n (one [.str l c])) (n+1):=bD rfl
theorem AQf(q:IntKind)(a:Int)(s:Nat)(H:Heap)(n:Nat)(P:KV):Bo (Di (.int q a s)) H n P=P (.ptr n 0) (T.set H n (one [.int q a s])) (n+1):=bD rfl
theorem AQs(b:Bool)(H:Heap)(n:Nat)(P:KV):Bo (Di (.bool b)) H n P=P (.ptr n 0) (T.set H n (one [.bool b])) (n+1):=bD rfl
theorem AQE(H:Heap)(n:Nat)(P:KV):Bo (Di .Ae) H n P=P (.ptr n 0) (T.set H n (one [.Ae])) (n+1):=bD rfl
theorem APj(b o l c z:Nat)(H:Heap)(n:Nat)(P:KV):Bo (Di (.rsl b o l c z)) H n P=P (.ptr n 0) (T.set H n (one [.rsl b o l c z])) (n+1):=bD rfl
theorem AQg(b o l c z:Nat)(H:Heap)(n:Nat)(P:KV):Bo (Di (.sl b o l c z)) H n P=P (.ptr n 0) (T.set H n (one [.sl b o l c z])) (n+1):=bD rfl
theorem AP5(b o l z:Nat)(H:Heap)(n:Nat)(P:KV):Bo (Di (.Ol b o l z)) H n P=P (.ptr n 0) (T.set H n (one [.Ol b o l z])) (n+1):=bD rfl
theorem APg(i o:Nat)(H:Heap)(n:Nat)(P:KV):Bo (Di (.ptr i o)) H n P=P (.ptr n 0) (T.set H n (one [.ptr i o])) (n+1):=bD rfl
theorem AP1(i o:Nat)(H:Heap)(n:Nat)(P:KV):Bo (Di (.gptr i o)) H n P=P (.ptr n 0) (T.set H n (one [.gptr i o])) (n+1):=bD rfl
theorem AP4(H:Heap)(n:Nat)(P:KV):Bo (Di .Lp) H n P=P (.ptr n 0) (T.set H n (one [.Lp])) (n+1):=bD rfl
theorem AQz(i:Nat)(H:Heap)(n:Nat)(P:KV):Bo (Di (.map i)) H n P=P (.ptr n 0) (T.set H n (one [.map i])) (n+1):=bD rfl
theorem ATs(n:Nat):n≠n+1:=by omega
theorem AUw(n:Nat):n+1≠n:=by omega
theorem ATu(n:Nat):n≠n+1+1:=by omega
theorem AUv(n:Nat):n+1+1≠n:=by omega
theorem AUS(n:Nat):n≠n+1+1+1:=by omega
theorem AUJ(n:Nat):n+1+1+1≠n:=by omega
theorem AUF(n:Nat):n≠n+1+1+1+1:=by omega
theorem AUo(n:Nat):n+1+1+1+1≠n:=by omega
theorem AT9(n:Nat):n≠n+1+1+1+1+1:=by omega
theorem AUR(n:Nat):n+1+1+1+1+1≠n:=by omega
theorem AU6(n:Nat):n≠n+1+1+1+1+1+1:=by omega
theorem AUg(n:Nat):n+1+1+1+1+1+1≠n:=by omega
theorem ATy(n:Nat):n≠n+1+1+1+1+1+1+1:=by omega
theorem AT5(n:Nat):n+1+1+1+1+1+1+1≠n:=by omega
theorem AU4(n:Nat):n≠n+1+1+1+1+1+1+1+1:=by omega
theorem AU2(n:Nat):n+1+1+1+1+1+1+1+1≠n:=by omega
theorem AUB(n:Nat):n≠n+1+1+1+1+1+1+1+1+1:=by omega
theorem AT4(n:Nat):n+1+1+1+1+1+1+1+1+1≠n:=by omega
theorem ASq(n:Nat):n≠n+1+1+1+1+1+1+1+1+1+1:=by omega
theorem ASb(n:Nat):n+1+1+1+1+1+1+1+1+1+1≠n:=by omega
theorem ATd(n:Nat):n≠n+1+1+1+1+1+1+1+1+1+1+1:=by omega
theorem ASx(n:Nat):n+1+1+1+1+1+1+1+1+1+1+1≠n:=by omega
theorem ATe(n:Nat):n≠n+1+1+1+1+1+1+1+1+1+1+1+1:=by omega
theorem ATc(n:Nat):n+1+1+1+1+1+1+1+1+1+1+1+1≠n:=by omega
theorem ARf(n:Nat):n≠n+1+1+1+1+1+1+1+1+1+1+1+1+1:=by omega
theorem ASv(n:Nat):n+1+1+1+1+1+1+1+1+1+1+1+1+1≠n:=by omega
theorem ASi(n:Nat):n≠n+1+1+1+1+1+1+1+1+1+1+1+1+1+1:=by omega
theorem AR9(n:Nat):n+1+1+1+1+1+1+1+1+1+1+1+1+1+1≠n:=by omega
theorem AOA{G:AQ}{H:Heap}{i:Nat}{L:LV}{v:V}:AY (.ptr i 0) G (T.set H i (one (v::L)))=some v:=Ye rfl
theorem ANp{G:AQ}{H:Heap}{i:Nat}{L:LV}{a0 v:V}:AY (.ptr i 1) G (T.set H i (one (a0::v::L)))=some v:=Ye rfl
theorem AOF{G:AQ}{H:Heap}{i:Nat}{L:LV}{a0 a1 v:V}:AY (.ptr i 2) G (T.set H i (one (a0::a1::v::L)))=some v:=Ye rfl
theorem AMy{G:AQ}{H:Heap}{i:Nat}{L:LV}{a0 a1 a2 v:V}:AY (.ptr i 3) G (T.set H i (one (a0::a1::a2::v::L)))=some v:=Ye rfl
theorem AMN{G:AQ}{H:Heap}{i:Nat}{L:LV}{a0 a1 a2 a3 v:V}:AY (.ptr i 4) G (T.set H i (one (a0::a1::a2::a3::v::L)))=some v:=Ye rfl
theorem AMZ{G:AQ}{H:Heap}{i:Nat}{L:LV}{a0 a1 a2 a3 a4 v:V}:AY (.ptr i 5) G (T.set H i (one (a0::a1::a2::a3::a4::v::L)))=some v:=Ye rfl
theorem ANW{G:AQ}{H:Heap}{i:Nat}{L:LV}{a0 a1 a2 a3 a4 a5 v:V}:AY (.ptr i 6) G (T.set H i (one (a0::a1::a2::a3::a4::a5::v::L)))=some v:=Ye rfl
theorem ANA{G:AQ}{H:Heap}{i:Nat}{L:LV}{a0 a1 a2 a3 a4 a5 a6 v:V}:AY (.ptr i 7) G (T.set H i (one (a0::a1::a2::a3::a4::a5::a6::v::L)))=some v:=Ye rfl
theorem AM8{G:AQ}{H:Heap}{i:Nat}{L:LV}{a0 a1 a2 a3 a4 a5 a6 a7 v:V}:AY (.ptr i 8) G (T.set H i (one (a0::a1::a2::a3::a4::a5::a6::a7::v::L)))=some v:=Ye rfl
theorem AM6{G:AQ}{H:Heap}{i:Nat}{L:LV}{a0 a1 a2 a3 a4 a5 a6 a7 a8 v:V}:AY (.ptr i 9) G (T.set H i (one (a0::a1::a2::a3::a4::a5::a6::a7::a8::v::L)))=some v:=Ye rfl
theorem ALn{G:AQ}{H:Heap}{i:Nat}{L:LV}{a0 a1 a2 a3 a4 a5 a6 a7 a8 a9 v:V}:AY (.ptr i 10) G (T.set H i (one (a0::a1::a2::a3::a4::a5::a6::a7::a8::a9::v::L)))=some v:=Ye rfl
theorem AJr{G:AQ}{H:Heap}{i:Nat}{L:LV}{a0 a1 a2 a3 a4 a5 a6 a7 a8 a9 a10 v:V}:AY (.ptr i 11) G (T.set H i (one (a0::a1::a2::a3::a4::a5::a6::a7::a8::a9::a10::v::L)))=some v:=Ye rfl
theorem ALG{G:AQ}{H:Heap}{i:Nat}{L:LV}{a0 a1 a2 a3 a4 a5 a6 a7 a8 a9 a10 a11 v:V}:AY (.ptr i 12) G (T.set H i (one (a0::a1::a2::a3::a4::a5::a6::a7::a8::a9::a10::a11::v::L)))=some v:=Ye rfl
theorem AKL{G:AQ}{H:Heap}{i:Nat}{L:LV}{a0 a1 a2 a3 a4 a5 a6 a7 a8 a9 a10 a11 a12 v:V}:AY (.ptr i 13) G (T.set H i (one (a0::a1::a2::a3::a4::a5::a6::a7::a8::a9::a10::a11::a12::v::L)))=some v:=Ye rfl
theorem ATP(a0:V)(H:Heap)(n:Nat)(P:KV):Bo (Am 1 [[a0]] E0) H n P=P (.ptr n 0) (T.set H n (one [a0])) (n+1):=LQ rfl
theorem ATJ(a0:V){G:AQ}{H:Heap}{i:Nat}:Af 1 (.ptr i 0) G (T.set H i (one [a0]))=some (.agg [a0]):=WC rfl (by omega)
theorem AP2(a0 b0:V){H:Heap}{i n:Nat}{k:KV}:Bg 1 (.ptr i 0) (.agg [b0]) (T.set H i (one [a0])) n k=k .undef (T.set (T.set H i (one [a0])) i (one [b0])) n:=dw rfl (by omega) rfl
theorem ATA(a0:V){G:AQ}{H:Heap}{i:Nat}{r:List AVr}:CB (.cn (.ptr i 0) 1::r) G (T.set H i (one [a0]))=BH (CB r G (T.set H i (one [a0]))) λvs=>some (.agg [a0]::vs):=CW (T.Ag ..) (by omega) rfl
theorem ARR(a0 a1:V)(H:Heap)(n:Nat)(P:KV):Bo (Am 2 [[a0,a1]] E0) H n P=P (.ptr n 0) (T.set H n (one [a0,a1])) (n+1):=LQ rfl
theorem ARV(a0 a1:V){G:AQ}{H:Heap}{i:Nat}:Af 2 (.ptr i 0) G (T.set H i (one [a0,a1]))=some (.agg [a0,a1]):=WC rfl (by omega)
theorem AQN(a0 a1 b0 b1:V){H:Heap}{i n:Nat}{k:KV}:Bg 2 (.ptr i 0) (.agg [b0,b1]) (T.set H i (one [a0,a1])) n k=k .undef (T.set (T.set H i (one [a0,a1])) i (one [b0,b1])) n:=dw rfl (by omega) rfl
theorem ASo(a0 a1:V){G:AQ}{H:Heap}{i:Nat}{r:List AVr}:CB (.cn (.ptr i 0) 2::r) G (T.set H i (one [a0,a1]))=BH (CB r G (T.set H i (one [a0,a1]))) λvs=>some (.agg [a0,a1]::vs):=CW (T.Ag ..) (by omega) rfl
theorem ARa(a0 a1 a2:V)(H:Heap)(n:Nat)(P:KV):Bo (Am 3 [[a0,a1,a2]] E0) H n P=P (.ptr n 0) (T.set H n (one [a0,a1,a2])) (n+1):=LQ rfl
theorem ATM(a0 a1 a2:V){G:AQ}{H:Heap}{i:Nat}:Af 3 (.ptr i 0) G (T.set H i (one [a0,a1,a2]))=some (.agg [a0,a1,a2]):=WC rfl (by omega)
theorem AO3(a0 a1 a2 b0 b1 b2:V){H:Heap}{i n:Nat}{k:KV}:Bg 3 (.ptr i 0) (.agg [b0,b1,b2]) (T.set H i (one [a0,a1,a2])) n k=k .undef (T.set (T.set H i (one [a0,a1,a2])) i (one [b0,b1,b2])) n:=dw rfl (by omega) rfl
theorem ATO(a0 a1 a2:V){G:AQ}{H:Heap}{i:Nat}{r:List AVr}:CB (.cn (.ptr i 0) 3::r) G (T.set H i (one [a0,a1,a2]))=BH (CB r G (T.set H i (one [a0,a1,a2]))) λvs=>some (.agg [a0,a1,a2]::vs):=CW (T.Ag ..) (by omega) rfl
theorem ARo(a0 a1 a2 a3:V)(H:Heap)(n:Nat)(P:KV):Bo (Am 4 [[a0,a1,a2,a3]] E0) H n P=P (.ptr n 0) (T.set H n (one [a0,a1,a2,a3])) (n+1):=LQ rfl
theorem ASX(a0 a1 a2 a3:V){G:AQ}{H:Heap}{i:Nat}:Af 4 (.ptr i 0) G (T.set H i (one [a0,a1,a2,a3]))=some (.agg [a0,a1,a2,a3]):=WC rfl (by omega)
theorem APi(a0 a1 a2 a3 b0 b1 b2 b3:V){H:Heap}{i n:Nat}{k:KV}:Bg 4 (.ptr i 0) (.agg [b0,b1,b2,b3]) (T.set H i (one [a0,a1,a2,a3])) n k=k .undef (T.set (T.set H i (one [a0,a1,a2,a3])) i (one [b0,b1,b2,b3])) n:=dw rfl (by omega) rfl
theorem ASP(a0 a1 a2 a3:V){G:AQ}{H:Heap}{i:Nat}{r:List AVr}:CB (.cn (.ptr i 0) 4::r) G (T.set H i (one [a0,a1,a2,a3]))=BH (CB r G (T.set H i (one [a0,a1,a2,a3]))) λvs=>some (.agg [a0,a1,a2,a3]::vs):=CW (T.Ag ..) (by omega) rfl
theorem ATU(a0 a1 a2 a3 a4:V)(H:Heap)(n:Nat)(P:KV):Bo (Am 5 [[a0,a1,a2,a3,a4]] E0) H n P=P (.ptr n 0) (T.set H n (one [a0,a1,a2,a3,a4])) (n+1):=LQ rfl
theorem ASV(a0 a1 a2 a3 a4:V){G:AQ}{H:Heap}{i:Nat}:Af 5 (.ptr i 0) G (T.set H i (one [a0,a1,a2,a3,a4]))=some (.agg [a0,a1,a2,a3,a4]):=WC rfl (by omega)
theorem APY(a0 a1 a2 a3 a4 b0 b1 b2 b3 b4:V){H:Heap}{i n:Nat}{k:KV}:Bg 5 (.ptr i 0) (.agg [b0,b1,b2,b3,b4]) (T.set H i (one [a0,a1,a2,a3,a4])) n k=k .undef (T.set (T.set H i (one [a0,a1,a2,a3,a4])) i (one [b0,b1,b2,b3,b4])) n:=dw rfl (by omega) rfl
theorem ASm(a0 a1 a2 a3 a4:V){G:AQ}{H:Heap}{i:Nat}{r:List AVr}:CB (.cn (.ptr i 0) 5::r) G (T.set H i (one [a0,a1,a2,a3,a4]))=BH (CB r G (T.set H i (one [a0,a1,a2,a3,a4]))) λvs=>some (.agg [a0,a1,a2,a3,a4]::vs):=CW (T.Ag ..) (by omega) rfl
theorem ASh(a0 a1 a2 a3 a4 a5:V)(H:Heap)(n:Nat)(P:KV):Bo (Am 6 [[a0,a1,a2,a3,a4,a5]] E0) H n P=P (.ptr n 0) (T.set H n (one [a0,a1,a2,a3,a4,a5])) (n+1):=LQ rfl
theorem AR5(a0 a1 a2 a3 a4 a5:V){G:AQ}{H:Heap}{i:Nat}:Af 6 (.ptr i 0) G (T.set H i (one [a0,a1,a2,a3,a4,a5]))=some (.agg [a0,a1,a2,a3,a4,a5]):=WC rfl (by omega)
theorem AQY(a0 a1 a2 a3 a4 a5 b0 b1 b2 b3 b4 b5:V){H:Heap}{i n:Nat}{k:KV}:Bg 6 (.ptr i 0) (.agg [b0,b1,b2,b3,b4,b5]) (T.set H i (one [a0,a1,a2,a3,a4,a5])) n k=k .undef (T.set (T.set H i (one [a0,a1,a2,a3,a4,a5])) i (one [b0,b1,b2,b3,b4,b5])) n:=dw rfl (by omega) rfl
theorem ARn(a0 a1 a2 a3 a4 a5:V){G:AQ}{H:Heap}{i:Nat}{r:List AVr}:CB (.cn (.ptr i 0) 6::r) G (T.set H i (one [a0,a1,a2,a3,a4,a5]))=BH (CB r G (T.set H i (one [a0,a1,a2,a3,a4,a5]))) λvs=>some (.agg [a0,a1,a2,a3,a4,a5]::vs):=CW (T.Ag ..) (by omega) rfl
theorem ARm(a0 a1 a2 a3 a4 a5 a6:V)(H:Heap)(n:Nat)(P:KV):Bo (Am 7 [[a0,a1,a2,a3,a4,a5,a6]] E0) H n P=P (.ptr n 0) (T.set H n (one [a0,a1,a2,a3,a4,a5,a6])) (n+1):=LQ rfl
theorem ATB(a0 a1 a2 a3 a4 a5 a6:V){G:AQ}{H:Heap}{i:Nat}:Af 7 (.ptr i 0) G (T.set H i (one [a0,a1,a2,a3,a4,a5,a6]))=some (.agg [a0,a1,a2,a3,a4,a5,a6]):=WC rfl (by omega)
theorem APs(a0 a1 a2 a3 a4 a5 a6 b0 b1 b2 b3 b4 b5 b6:V){H:Heap}{i n:Nat}{k:KV}:Bg 7 (.ptr i 0) (.agg [b0,b1,b2,b3,b4,b5,b6]) (T.set H i (one [a0,a1,a2,a3,a4,a5,a6])) n k=k .undef (T.set (T.set H i (one [a0,a1,a2,a3,a4,a5,a6])) i (one [b0,b1,b2,b3,b4,b5,b6])) n:=dw rfl (by omega) rfl
theorem AS7(a0 a1 a2 a3 a4 a5 a6:V){G:AQ}{H:Heap}{i:Nat}{r:List AVr}:CB (.cn (.ptr i 0) 7::r) G (T.set H i (one [a0,a1,a2,a3,a4,a5,a6]))=BH (CB r G (T.set H i (one [a0,a1,a2,a3,a4,a5,a6]))) λvs=>some (.agg [a0,a1,a2,a3,a4,a5,a6]::vs):=CW (T.Ag ..) (by omega) rfl
theorem ASc(a0 a1 a2 a3 a4 a5 a6 a7:V)(H:Heap)(n:Nat)(P:KV):Bo (Am 8 [[a0,a1,a2,a3,a4,a5,a6,a7]] E0) H n P=P (.ptr n 0) (T.set H n (one [a0,a1,a2,a3,a4,a5,a6,a7])) (n+1):=LQ rfl
theorem ASl(a0 a1 a2 a3 a4 a5 a6 a7:V){G:AQ}{H:Heap}{i:Nat}:Af 8 (.ptr i 0) G (T.set H i (one [a0,a1,a2,a3,a4,a5,a6,a7]))=some (.agg [a0,a1,a2,a3,a4,a5,a6,a7]):=WC rfl (by omega)
theorem APS(a0 a1 a2 a3 a4 a5 a6 a7 b0 b1 b2 b3 b4 b5 b6 b7:V){H:Heap}{i n:Nat}{k:KV}:Bg 8 (.ptr i 0) (.agg [b0,b1,b2,b3,b4,b5,b6,b7]) (T.set H i (one [a0,a1,a2,a3,a4,a5,a6,a7])) n k=k .undef (T.set (T.set H i (one [a0,a1,a2,a3,a4,a5,a6,a7])) i (one [b0,b1,b2,b3,b4,b5,b6,b7])) n:=dw rfl (by omega) rfl
theorem AR7(a0 a1 a2 a3 a4 a5 a6 a7:V){G:AQ}{H:Heap}{i:Nat}{r:List AVr}:CB (.cn (.ptr i 0) 8::r) G (T.set H i (one [a0,a1,a2,a3,a4,a5,a6,a7]))=BH (CB r G (T.set H i (one [a0,a1,a2,a3,a4,a5,a6,a7]))) λvs=>some (.agg [a0,a1,a2,a3,a4,a5,a6,a7]::vs):=CW (T.Ag ..) (by omega) rfl
theorem ARS(a0 a1 a2 a3 a4 a5 a6 a7 a8:V)(H:Heap)(n:Nat)(P:KV):Bo (Am 9 [[a0,a1,a2,a3,a4,a5,a6,a7,a8]] E0) H n P=P (.ptr n 0) (T.set H n (one [a0,a1,a2,a3,a4,a5,a6,a7,a8])) (n+1):=LQ rfl
theorem ARl(a0 a1 a2 a3 a4 a5 a6 a7 a8:V){G:AQ}{H:Heap}{i:Nat}:Af 9 (.ptr i 0) G (T.set H i (one [a0,a1,a2,a3,a4,a5,a6,a7,a8]))=some (.agg [a0,a1,a2,a3,a4,a5,a6,a7,a8]):=WC rfl (by omega)
theorem AQB(a0 a1 a2 a3 a4 a5 a6 a7 a8 b0 b1 b2 b3 b4 b5 b6 b7 b8:V){H:Heap}{i n:Nat}{k:KV}:Bg 9 (.ptr i 0) (.agg [b0,b1,b2,b3,b4,b5,b6,b7,b8]) (T.set H i (one [a0,a1,a2,a3,a4,a5,a6,a7,a8])) n k=k .undef (T.set (T.set H i (one [a0,a1,a2,a3,a4,a5,a6,a7,a8])) i (one [b0,b1,b2,b3,b4,b5,b6,b7,b8])) n:=dw rfl (by omega) rfl
theorem ASp(a0 a1 a2 a3 a4 a5 a6 a7 a8:V){G:AQ}{H:Heap}{i:Nat}{r:List AVr}:CB (.cn (.ptr i 0) 9::r) G (T.set H i (one [a0,a1,a2,a3,a4,a5,a6,a7,a8]))=BH (CB r G (T.set H i (one [a0,a1,a2,a3,a4,a5,a6,a7,a8]))) λvs=>some (.agg [a0,a1,a2,a3,a4,a5,a6,a7,a8]::vs):=CW (T.Ag ..) (by omega) rfl
theorem APr(a0 a1 a2 a3 a4 a5 a6 a7 a8 a9:V)(H:Heap)(n:Nat)(P:KV):Bo (Am 10 [[a0,a1,a2,a3,a4,a5,a6,a7,a8,a9]] E0) H n P=P (.ptr n 0) (T.set H n (one [a0,a1,a2,a3,a4,a5,a6,a7,a8,a9])) (n+1):=LQ rfl
theorem AQi(a0 a1 a2 a3 a4 a5 a6 a7 a8 a9:V){G:AQ}{H:Heap}{i:Nat}:Af 10 (.ptr i 0) G (T.set H i (one [a0,a1,a2,a3,a4,a5,a6,a7,a8,a9]))=some (.agg [a0,a1,a2,a3,a4,a5,a6,a7,a8,a9]):=WC rfl (by omega)
theorem ANe(a0 a1 a2 a3 a4 a5 a6 a7 a8 a9 b0 b1 b2 b3 b4 b5 b6 b7 b8 b9:V){H:Heap}{i n:Nat}{k:KV}:Bg 10 (.ptr i 0) (.agg [b0,b1,b2,b3,b4,b5,b6,b7,b8,b9]) (T.set H i (one [a0,a1,a2,a3,a4,a5,a6,a7,a8,a9])) n k=k .undef (T.set (T.set H i (one [a0,a1,a2,a3,a4,a5,a6,a7,a8,a9])) i (one [b0,b1,b2,b3,b4,b5,b6,b7,b8,b9])) n:=dw rfl (by omega) rfl
theorem AQc(a0 a1 a2 a3 a4 a5 a6 a7 a8 a9:V){G:AQ}{H:Heap}{i:Nat}{r:List AVr}:CB (.cn (.ptr i 0) 10::r) G (T.set H i (one [a0,a1,a2,a3,a4,a5,a6,a7,a8,a9]))=BH (CB r G (T.set H i (one [a0,a1,a2,a3,a4,a5,a6,a7,a8,a9]))) λvs=>some (.agg [a0,a1,a2,a3,a4,a5,a6,a7,a8,a9]::vs):=CW (T.Ag ..) (by omega) rfl
theorem APv(a0 a1 a2 a3 a4 a5 a6 a7 a8 a9 a10:V)(H:Heap)(n:Nat)(P:KV):Bo (Am 11 [[a0,a1,a2,a3,a4,a5,a6,a7,a8,a9,a10]] E0) H n P=P (.ptr n 0) (T.set H n (one [a0,a1,a2,a3,a4,a5,a6,a7,a8,a9,a10])) (n+1):=LQ rfl
theorem APp(a0 a1 a2 a3 a4 a5 a6 a7 a8 a9 a10:V){G:AQ}{H:Heap}{i:Nat}:Af 11 (.ptr i 0) G (T.set H i (one [a0,a1,a2,a3,a4,a5,a6,a7,a8,a9,a10]))=some (.agg [a0,a1,a2,a3,a4,a5,a6,a7,a8,a9,a10]):=WC rfl (by omega)
theorem AOB(a0 a1 a2 a3 a4 a5 a6 a7 a8 a9 a10 b0 b1 b2 b3 b4 b5 b6 b7 b8 b9 b10:V){H:Heap}{i n:Nat}{k:KV}:Bg 11 (.ptr i 0) (.agg [b0,b1,b2,b3,b4,b5,b6,b7,b8,b9,b10]) (T.set H i (one [a0,a1,a2,a3,a4,a5,a6,a7,a8,a9,a10])) n k=k .undef (T.set (T.set H i (one [a0,a1,a2,a3,a4,a5,a6,a7,a8,a9,a10])) i (one [b0,b1,b2,b3,b4,b5,b6,b7,b8,b9,b10])) n:=dw rfl (by omega) rfl
theorem APu(a0 a1 a2 a3 a4 a5 a6 a7 a8 a9 a10:V){G:AQ}{H:Heap}{i:Nat}{r:List AVr}:CB (.cn (.ptr i 0) 11::r) G (T.set H i (one [a0,a1,a2,a3,a4,a5,a6,a7,a8,a9,a10]))=BH (CB r G (T.set H i (one [a0,a1,a2,a3,a4,a5,a6,a7,a8,a9,a10]))) λvs=>some (.agg [a0,a1,a2,a3,a4,a5,a6,a7,a8,a9,a10]::vs):=CW (T.Ag ..) (by omega) rfl
theorem AQJ(a0 a1 a2 a3 a4 a5 a6 a7 a8 a9 a10 a11:V)(H:Heap)(n:Nat)(P:KV):Bo (Am 12 [[a0,a1,a2,a3,a4,a5,a6,a7,a8,a9,a10,a11]] E0) H n P=P (.ptr n 0) (T.set H n (one [a0,a1,a2,a3,a4,a5,a6,a7,a8,a9,a10,a11])) (n+1):=LQ rfl
theorem AO9(a0 a1 a2 a3 a4 a5 a6 a7 a8 a9 a10 a11:V){G:AQ}{H:Heap}{i:Nat}:Af 12 (.ptr i 0) G (T.set H i (one [a0,a1,a2,a3,a4,a5,a6,a7,a8,a9,a10,a11]))=some (.agg [a0,a1,a2,a3,a4,a5,a6,a7,a8,a9,a10,a11]):=WC rfl (by omega)
theorem ANM(a0 a1 a2 a3 a4 a5 a6 a7 a8 a9 a10 a11 b0 b1 b2 b3 b4 b5 b6 b7 b8 b9 b10 b11:V){H:Heap}{i n:Nat}{k:KV}:Bg 12 (.ptr i 0) (.agg [b0,b1,b2,b3,b4,b5,b6,b7,b8,b9,b10,b11]) (T.set H i (one [a0,a1,a2,a3,a4,a5,a6,a7,a8,a9,a10,a11])) n k=k .undef (T.set (T.set H i (one [a0,a1,a2,a3,a4,a5,a6,a7,a8,a9,a10,a11])) i (one [b0,b1,b2,b3,b4,b5,b6,b7,b8,b9,b10,b11])) n:=dw rfl (by omega) rfl
theorem APa(a0 a1 a2 a3 a4 a5 a6 a7 a8 a9 a10 a11:V){G:AQ}{H:Heap}{i:Nat}{r:List AVr}:CB (.cn (.ptr i 0) 12::r) G (T.set H i (one [a0,a1,a2,a3,a4,a5,a6,a7,a8,a9,a10,a11]))=BH (CB r G (T.set H i (one [a0,a1,a2,a3,a4,a5,a6,a7,a8,a9,a10,a11]))) λvs=>some (.agg [a0,a1,a2,a3,a4,a5,a6,a7,a8,a9,a10,a11]::vs):=CW (T.Ag ..) (by omega) rfl
theorem AQK(a0 a1 a2 a3 a4 a5 a6 a7 a8 a9 a10 a11 a12:V)(H:Heap)(n:Nat)(P:KV):Bo (Am 13 [[a0,a1,a2,a3,a4,a5,a6,a7,a8,a9,a10,a11,a12]] E0) H n P=P (.ptr n 0) (T.set H n (one [a0,a1,a2,a3,a4,a5,a6,a7,a8,a9,a10,a11,a12])) (n+1):=LQ rfl
theorem AQS(a0 a1 a2 a3 a4 a5 a6 a7 a8 a9 a10 a11 a12:V){G:AQ}{H:Heap}{i:Nat}:Af 13 (.ptr i 0) G (T.set H i (one [a0,a1,a2,a3,a4,a5,a6,a7,a8,a9,a10,a11,a12]))=some (.agg [a0,a1,a2,a3,a4,a5,a6,a7,a8,a9,a10,a11,a12]):=WC rfl (by omega)
theorem AMG(a0 a1 a2 a3 a4 a5 a6 a7 a8 a9 a10 a11 a12 b0 b1 b2 b3 b4 b5 b6 b7 b8 b9 b10 b11 b12:V){H:Heap}{i n:Nat}{k:KV}:Bg 13 (.ptr i 0) (.agg [b0,b1,b2,b3,b4,b5,b6,b7,b8,b9,b10,b11,b12]) (T.set H i (one [a0,a1,a2,a3,a4,a5,a6,a7,a8,a9,a10,a11,a12])) n k=k .undef (T.set (T.set H i (one [a0,a1,a2,a3,a4,a5,a6,a7,a8,a9,a10,a11,a12])) i (one [b0,b1,b2,b3,b4,b5,b6,b7,b8,b9,b10,b11,b12])) n:=dw rfl (by omega) rfl
theorem APt(a0 a1 a2 a3 a4 a5 a6 a7 a8 a9 a10 a11 a12:V){G:AQ}{H:Heap}{i:Nat}{r:List AVr}:CB (.cn (.ptr i 0) 13::r) G (T.set H i (one [a0,a1,a2,a3,a4,a5,a6,a7,a8,a9,a10,a11,a12]))=BH (CB r G (T.set H i (one [a0,a1,a2,a3,a4,a5,a6,a7,a8,a9,a10,a11,a12]))) λvs=>some (.agg [a0,a1,a2,a3,a4,a5,a6,a7,a8,a9,a10,a11,a12]::vs):=CW (T.Ag ..) (by omega) rfl
theorem APk(a0 a1 a2 a3 a4 a5 a6 a7 a8 a9 a10 a11 a12 a13:V)(H:Heap)(n:Nat)(P:KV):Bo (Am 14 [[a0,a1,a2,a3,a4,a5,a6,a7,a8,a9,a10,a11,a12,a13]] E0) H n P=P (.ptr n 0) (T.set H n (one [a0,a1,a2,a3,a4,a5,a6,a7,a8,a9,a10,a11,a12,a13])) (n+1):=LQ rfl
theorem AP8(a0 a1 a2 a3 a4 a5 a6 a7 a8 a9 a10 a11 a12 a13:V){G:AQ}{H:Heap}{i:Nat}:Af 14 (.ptr i 0) G (T.set H i (one [a0,a1,a2,a3,a4,a5,a6,a7,a8,a9,a10,a11,a12,a13]))=some (.agg [a0,a1,a2,a3,a4,a5,a6,a7,a8,a9,a10,a11,a12,a13]):=WC rfl (by omega)
theorem ANx(a0 a1 a2 a3 a4 a5 a6 a7 a8 a9 a10 a11 a12 a13 b0 b1 b2 b3 b4 b5 b6 b7 b8 b9 b10 b11 b12 b13:V){H:Heap}{i n:Nat}{k:KV}:Bg 14 (.ptr i 0) (.agg [b0,b1,b2,b3,b4,b5,b6,b7,b8,b9,b10,b11,b12,b13]) (T.set H i (one [a0,a1,a2,a3,a4,a5,a6,a7,a8,a9,a10,a11,a12,a13])) n k=k .undef (T.set (T.set H i (one [a0,a1,a2,a3,a4,a5,a6,a7,a8,a9,a10,a11,a12,a13])) i (one [b0,b1,b2,b3,b4,b5,b6,b7,b8,b9,b10,b11,b12,b13])) n:=dw rfl (by omega) rfl
theorem APJ(a0 a1 a2 a3 a4 a5 a6 a7 a8 a9 a10 a11 a12 a13:V){G:AQ}{H:Heap}{i:Nat}{r:List AVr}:CB (.cn (.ptr i 0) 14::r) G (T.set H i (one [a0,a1,a2,a3,a4,a5,a6,a7,a8,a9,a10,a11,a12,a13]))=BH (CB r G (T.set H i (one [a0,a1,a2,a3,a4,a5,a6,a7,a8,a9,a10,a11,a12,a13]))) λvs=>some (.agg [a0,a1,a2,a3,a4,a5,a6,a7,a8,a9,a10,a11,a12,a13]::vs):=CW (T.Ag ..) (by omega) rfl
theorem AO7(a0 a1 a2 a3 a4 a5 a6 a7 a8 a9 a10 a11 a12 a13 a14:V)(H:Heap)(n:Nat)(P:KV):Bo (Am 15 [[a0,a1,a2,a3,a4,a5,a6,a7,a8,a9,a10,a11,a12,a13,a14]] E0) H n P=P (.ptr n 0) (T.set H n (one [a0,a1,a2,a3,a4,a5,a6,a7,a8,a9,a10,a11,a12,a13,a14])) (n+1):=LQ rfl
theorem APQ(a0 a1 a2 a3 a4 a5 a6 a7 a8 a9 a10 a11 a12 a13 a14:V){G:AQ}{H:Heap}{i:Nat}:Af 15 (.ptr i 0) G (T.set H i (one [a0,a1,a2,a3,a4,a5,a6,a7,a8,a9,a10,a11,a12,a13,a14]))=some (.agg [a0,a1,a2,a3,a4,a5,a6,a7,a8,a9,a10,a11,a12,a13,a14]):=WC rfl (by omega)
theorem AMU(a0 a1 a2 a3 a4 a5 a6 a7 a8 a9 a10 a11 a12 a13 a14 b0 b1 b2 b3 b4 b5 b6 b7 b8 b9 b10 b11 b12 b13 b14:V){H:Heap}{i n:Nat}{k:KV}:Bg 15 (.ptr i 0) (.agg [b0,b1,b2,b3,b4,b5,b6,b7,b8,b9,b10,b11,b12,b13,b14]) (T.set H i (one [a0,a1,a2,a3,a4,a5,a6,a7,a8,a9,a10,a11,a12,a13,a14])) n k=k .undef (T.set (T.set H i (one [a0,a1,a2,a3,a4,a5,a6,a7,a8,a9,a10,a11,a12,a13,a14])) i (one [b0,b1,b2,b3,b4,b5,b6,b7,b8,b9,b10,b11,b12,b13,b14])) n:=dw rfl (by omega) rfl
theorem AQt(a0 a1 a2 a3 a4 a5 a6 a7 a8 a9 a10 a11 a12 a13 a14:V){G:AQ}{H:Heap}{i:Nat}{r:List AVr}:CB (.cn (.ptr i 0) 15::r) G (T.set H i (one [a0,a1,a2,a3,a4,a5,a6,a7,a8,a9,a10,a11,a12,a13,a14]))=BH (CB r G (T.set H i (one [a0,a1,a2,a3,a4,a5,a6,a7,a8,a9,a10,a11,a12,a13,a14]))) λvs=>some (.agg [a0,a1,a2,a3,a4,a5,a6,a7,a8,a9,a10,a11,a12,a13,a14]::vs):=CW (T.Ag ..) (by omega) rfl
attribute [go_sem] AQF APc AQf AQs AQE APj AQg AP5 APg AP1 AP4 AQz AMm APC WC AQL APy dw AV WU Qa Bz BZ ASu ARr ASy ARt AUT ARW ASn ARu ASj AUi AN1 ANJ BG AC8 EM AAw AAG AO5 Us ASI ATK AIS AC7 ANU AMe AMF AK0 APT AQd APU ANT
attribute [go_sem] ne_eq ATs AUw ATu AUv AUS AUJ AUF AUo AT9 AUR AU6 AUg ATy AT5 AU4 AU2 AUB AT4 ASq ASb ATd ASx ATe ATc ARf ASv ASi AR9 AOA ANp AOF AMy AMN AMZ ANW ANA AM8 AM6 ALn AJr ALG AKL not_false_eq_true List.length_cons List.length_nil Nat.zero_add
attribute [go_sem] ATP ATJ AP2 ATA ARR ARV AQN ASo ARa ATM AO3 ATO ARo ASX APi ASP ATU ASV APY ASm ASh AR5 AQY ARn ARm ATB APs AS7 ASc ASl APS AR7 ARS ARl AQB ASp APr AQi ANe AQc APv APp AOB APu AQJ AO9 ANM APa AQK AQS AMG APt APk AP8 ANx APJ AO7 APQ AMU AQt
theorem Vb{H:Heap}{id z:Nat}:∀(n o:Nat) {LS:EW},CV H id z n o=some LS->LS.length=n/\∀i c,LS[i]? =some c->Zz H id ((o+i)*z) z=some c
 |0,o,LS,h=>by cases h;exact⟨rfl,λi c hc=>by simp at hc⟩
 |n+1,o,LS,h=>by
  have h':BH (Zz H id (Nat.mul o z) z) (λL=>BH (CV H id z n (Nat.succ o)) λLS=>some (L::LS))=some LS:=h
  rw[Bh]at h'
  obtain⟨L,hL,h'⟩:=h'
  rw[Bh]at h'
  obtain⟨LS',hLS,h'⟩:=h'
  cases h'
  obtain⟨h1,h2⟩:=Vb n (o+1) hLS
  refine⟨by simp[h1],λi c hc=>?_⟩
  cases i with
  |zero=>simp at hc;subst hc;exact hL
  |succ i=>simp at hc;rw[show o+(i+1)=o+1+i by omega];exact h2 i c hc
theorem ou{G:AQ}{b z:Nat}:∀(n o:Nat) {LS:EW},lC G b z n o=some LS->LS.length=n/\∀i c,LS[i]? =some c->G b (o+i*z) z=some c
 |0,o,LS,h=>by cases h;exact⟨rfl,λi c hc=>by simp at hc⟩
 |n+1,o,LS,h=>by
  have h':BH (G b o z) (λL=>BH (lC G b z n (Nat.add o z)) λLS=>some (L::LS))=some LS:=h
  rw[Bh]at h'
  obtain⟨L,hL,h'⟩:=h'
  rw[Bh]at h'
  obtain⟨LS',hLS,h'⟩:=h'
  cases h'
  obtain⟨h1,h2⟩:=ou n (o+z) hLS
  refine⟨by simp[h1],λi c hc=>?_⟩
  cases i with
  |zero=>simp at hc;subst hc;simpa using hL
  |succ i=>simp at hc;rw[show o+(i+1)*z=o+z+i*z by rw[Nat.add_mul];omega];exact h2 i c hc
def El(G:AQ)(H:Heap)(v:V)(z:Nat)(LS:EW):Prop:=isStr v=false/\elems v G H z=some LS
theorem El.len{G:AQ}{H:Heap}{v:V}{z:Nat}{LS:EW}(h:El G H v z LS):lenV v=some (.int .i64 (.ofNat LS.length) 0):=by
 obtain⟨hs,h⟩:=h
 cases v<;>try (cases h;done)
 ·cases hs
 ·cases h;rfl
 ·rename_i id off n c e
  cases hb:Nat.beq e z with
  |false=>have h':(Bool.rec (motive:=λ_=>Option EW) none (CV H id z n off) (Nat.beq e z):Option EW)=some LS:=h;rw[hb]at h';cases h'
  |true=>
   have h':(Bool.rec (motive:=λ_=>Option EW) none (CV H id z n off) (Nat.beq e z):Option EW)=some LS:=h
   rw[hb]at h';rw[(Vb _ _ h').1];rfl
 ·rename_i id off n e
  cases hb:Nat.beq e z with
  |false=>have h':(Bool.rec (motive:=λ_=>Option EW) none (CV H id z n off) (Nat.beq e z):Option EW)=some LS:=h;rw[hb]at h';cases h'
  |true=>
   have h':(Bool.rec (motive:=λ_=>Option EW) none (CV H id z n off) (Nat.beq e z):Option EW)=some LS:=h
   rw[hb]at h';rw[(Vb _ _ h').1];rfl
 ·rw[(ou _ _ h).1];rfl
theorem El.at{G:AQ}{H:Heap}{v:V}{z:Nat}{LS:EW}(h:El G H v z LS){i:Nat}{c:LV}(hi:LS[i]? =some c):
 ∃p,Ai z v (.int .i64 (.ofNat i) 0)=some p/\lX p G H z=some c:=by
 obtain⟨hs,h⟩:=h
 obtain⟨hlt,_⟩:=List.getElem?_eq_some_iff.1 hi
 cases v<;>try (cases h;done)
 ·cases hs
 ·cases h;simp at hlt
 ·rename_i id off n cp e
  have h':(Bool.rec (motive:=λ_=>Option EW) none (CV H id z n off) (Nat.beq e z):Option EW)=some LS:=h
  cases hb:Nat.beq e z with
  |false=>rw[hb]at h';cases h'
  |true=>
   rw[hb]at h'
   obtain⟨h1,h2⟩:=Vb _ _ h'
   refine⟨.ptr id ((off+i)*z),?_,h2 i c hi⟩
   show BM (band (Nat.beq e z) (Nat.blt i n)) (FW (Nat.mul (Nat.add off i) z) λo=>some (.ptr id o))=_
   rw[hb,show Nat.blt i n=true by rw[Nat.blt_eq];omega,D5];rfl
 ·rename_i id off n e
  have h':(Bool.rec (motive:=λ_=>Option EW) none (CV H id z n off) (Nat.beq e z):Option EW)=some LS:=h
  cases hb:Nat.beq e z with
  |false=>rw[hb]at h';cases h'
  |true=>
   rw[hb]at h'
   obtain⟨h1,h2⟩:=Vb _ _ h'
   refine⟨.ptr id ((off+i)*z),?_,h2 i c hi⟩
   show BM (band (Nat.beq e z) (Nat.blt i n)) (FW (Nat.mul (Nat.add off i) z) λo=>some (.ptr id o))=_
   rw[hb,show Nat.blt i n=true by rw[Nat.blt_eq];omega,D5];rfl
 ·rename_i b off n cp e
  obtain⟨h1,h2⟩:=ou _ _ h
  refine⟨.gptr b (off+i*z),?_,h2 i c hi⟩
  show BM (Nat.blt i n) (FW (Nat.add off (Nat.mul i z)) λo=>some (.gptr b o))=_
  rw[show Nat.blt i n=true by rw[Nat.blt_eq];omega,D5];rfl
theorem Bl{G:AQ}{H:Heap}{p:V}{z:Nat}{c:LV}(h:lX p G H z=some c):Af z p G H=some (.agg c):=by rw[AH8,h];rfl
theorem QL{G:AQ}{H:Heap}{p v:V}(h:lX p G H 1=some [v]):AY p G H=some v:=by rw[AEH,h];rfl
noncomputable def V.Xb(v:V):Option Nat:=match v with|.sl id .. =>some id|.Ol id .. =>some id|_=>none
theorem El.same{G:AQ}{H H':Heap}{v:V}{z:Nat}{LS:EW}(h:El G H v z LS)(hs:∀id,v.Xb=some id->T.get H' id=T.get H id):El G H' v z LS:=by
 refine⟨h.1,?_⟩
 have hB:∀id,v.Xb=some id->∀n o,CV H' id z n o=CV H id z n o:=by
  intro id hid n
  induction n with
  |zero=>intro o;rfl
  |succ n ih=>
   intro o
   show BH (Zz H' id (Nat.mul o z) z) (λL=>BH (CV H' id z n (Nat.succ o)) λLS=>some (L::LS))=BH (Zz H id (Nat.mul o z) z) (λL=>BH (CV H id z n (Nat.succ o)) λLS=>some (L::LS))
   rw[ih];unfold Zz;rw[hs id hid]
 have h2:=h.2
 cases v<;>try exact h2
 ·rename_i id off n c e
  show(Bool.rec (motive:=λ_=>Option EW) none (CV H' id z n off) (Nat.beq e z):Option EW)=some LS
  rw[hB id rfl];exact h2
 ·rename_i id off n e
  show(Bool.rec (motive:=λ_=>Option EW) none (CV H' id z n off) (Nat.beq e z):Option EW)=some LS
  rw[hB id rfl];exact h2
theorem T.vT{α:Type}(a b:α):∀(p:P2) (t:T α),T.Yo b p (T.Yo a p t)=T.Yo b p t
 |.h,t=>rfl
 |.z p,t=>by show T.n t.val (T.Yo b p (T.Yo a p t.left)) t.right=T.n t.val (T.Yo b p t.left) t.right;rw[T.vT a b p]
 |.o p,t=>by show T.n t.val t.left (T.Yo b p (T.Yo a p t.right))=T.n t.val t.left (T.Yo b p t.right);rw[T.vT a b p]
theorem T.set_set{α:Type}(t:T α)(k:Nat)(a b:α):T.set (T.set t k a) k b=T.set t k b:=T.vT ..
theorem Kp.get{H H':Heap}{n n' id:Nat}{b:Oj}(f:Kp H n H' n')(h:T.get H id=some b)(hi:id<n):T.get H' id=some b:=(f.same id hi).trans h
theorem Kp.set{H0 H:Heap}{n0 n id:Nat}(a:Kp H0 n0 H n)(b:Oj)(h:n0<=id):Kp H0 n0 (T.set H id b) n:=a.new b h (Nat.le_refl _)
theorem Bc{σ:Type}{b:(σ->Prop)->σ->Prop}{N:Nat}{J:Nat->σ->Prop}(hs:∀I i s,i<N->J i s->(∀s',J (i+1) s'->I s')->b I s)(he:∀I s,J N s->b I s){s:σ}(h0:J 0 s):lfp σ b s:=by
 refine Ia (J:=λm s=>∃i,m=N-i/\i<=N/\J i s) ?_ (m:=N) ⟨0,rfl,Nat.zero_le _,h0⟩
 rintro I m s ⟨i,rfl,hi,hj⟩ ih
 rcases Nat.lt_or_ge i N with h|h
 ·exact hs I i s h hj λs' hj'=>ih _ s' (by omega) ⟨i+1,rfl,h,hj'⟩
 ·have:i=N:=by omega
  subst this;exact he I s hj
section
variable{H:Heap}{n z:Nat}{L:LV}{P:KV}
theorem AOT{v:V}(hv:YH v=true)(h:∀H',Kp H n H' (n+1)->T.get H' n=some (one (Az v))->P (.ptr n 0) H' (n+1)):Bo (Di v) H n P:=by
 rw[bD hv];exact h _ ((Kp.refl H n).new _ (Nat.le_refl _) (by omega)) (T.Ag ..)
theorem F9(h:∀H',Kp H n H' (n+1)->T.get H' n=some (one L)->P (.ptr n 0) H' (n+1)):Bo (Di (.agg L)) H n P:=AOT rfl h
theorem EJ(hL:L.length=z)(h:∀H',Kp H n H' (n+1)->T.get H' n=some (one L)->P (.ptr n 0) H' (n+1)):Bo (Am z [L] E0) H n P:=by
 rw[LQ hL];exact h _ ((Kp.refl H n).new _ (Nat.le_refl _) (by omega)) (T.Ag ..)
theorem VH{L':LV}(hL:L.length=z)(hL':L'.length=z)(hz:0<z)(h:∀H',Kp H n H' (n+1)->T.get H' n=some (one L')->P .undef H' (n+1)):
 Bg z (.ptr n 0) (.agg L') (T.set H n (one L)) (n+1) P:=by
 rw[dw hL hz hL',T.set_set];exact h _ ((Kp.refl H n).new _ (Nat.le_refl _) (by omega)) (T.Ag ..)
theorem Y4{i o m:Nat}{L:LV}{v:V}(hg:T.get H i=some (one L))(hv:YH v=true)(hn:(Az v).length=m)(hm:0<m)(hl:o+m<=L.length)
 (h:∀H',T.get H' i=some (one (L.take o++(Az v++L.drop (o+m))))->(∀j,j≠i->T.get H' j=T.get H j)->P .undef H' n):Bg m (.ptr i o) v H n P:=by
 rw[yT hg hv hn hm hl];exact h _ (T.Ag ..) λj hj=>T.Ac _ _ (Ne.symm hj)
end
theorem dI{H:Heap}{id e c i:Nat}{t:T LV}(hg:T.get H id=some (.arr e c t))(he:0<e)(hi:i<c):Zz H id (i*e) e=T.get t i:=by
 unfold Zz;rw[hg]
 show ldB e c t (i*e) e=_
 unfold ldB
 have hdiv:i*e/e=i:=Nat.mul_div_cancel _ he
 have hmod:i*e%e=0:=Nat.mul_mod_left ..
 have hb:Nat.blt (Nat.div (i*e) e) c=true:=by rw[Nat.blt_eq];show i*e/e<c;omega
 rw[hb]
 show BH (T.get t (Nat.div (i*e) e)) (ldC e (i*e) e)=_
 rw[show Nat.div (i*e) e=i from hdiv]
 cases h:T.get t i with
 |none=>rfl
 |some L=>
  show ldC e (i*e) e L=_
  unfold ldC
  rw[show Nat.mod (i*e) e=0 from hmod,show band (Nat.beq e e) (Nat.beq 0 0)=true by simp]
theorem Xq{H:Heap}{id z:Nat}:∀(n o:Nat) (LS:EW),LS.length=n->(∀i c,LS[i]? =some c->Zz H id ((o+i)*z) z=some c)->CV H id z n o=some LS
 |0,o,LS,hl,_=>by cases LS with|nil=>rfl|cons a l=>simp at hl
 |n+1,o,LS,hl,h=>by
  cases LS with
  |nil=>simp at hl
  |cons a l=>
   show BH (Zz H id (Nat.mul o z) z) (λL=>BH (CV H id z n (Nat.succ o)) λLS=>some (L::LS))=_
   have h0:=h 0 a rfl
   rw[show Nat.mul o z=(o+0)*z from rfl,h0,Us,Xq n (o+1) l (by simpa using hl) λi c hc=>by
    have:=h (i+1) c (by simpa using hc);rwa [show o+(i+1)=o+1+i by omega]at this]
   rfl
inductive Gr(G:AQ)(H:Heap)(m:Nat)(z:Nat):V->EW->Prop where
 |nil:Gr G H m z .Ae []
 |Ol {id c:Nat} {t:T LV} {LS:EW} (hg:T.get H id=some (.arr z c t)) (hc:LS.length<=c) (ht:∀i L,LS[i]? =some L->T.get t i=some L) (hid:m<=id):Gr G H m z (.Ol id 0 LS.length z) LS
theorem Dq(z:Nat):Nat.beq z z=true:=by simp
theorem Gr.el{G:AQ}{H:Heap}{m z:Nat}{v:V}{LS:EW}(h:Gr G H m z v LS)(hz:0<z):El G H v z LS:=by
 cases h with
 |nil=>exact⟨rfl,rfl⟩
 |Ol hg hc ht hid=>
  rename_i id c t
  refine⟨rfl,?_⟩
  show(Bool.rec (motive:=λ_=>Option EW) none (CV H id z LS.length 0) (Nat.beq z z):Option EW)=some LS
  rw[Dq]
  exact Xq _ _ _ rfl λi L hi=>by
   have hlt:=(List.getElem?_eq_some_iff.1 hi).1
   rw[Nat.zero_add,dI hg hz (by omega)];exact ht i L hi
theorem Gr.mono{G:AQ}{H H':Heap}{m z:Nat}{v:V}{LS:EW}(h:Gr G H m z v LS)(hs:∀id,v.Xb=some id->T.get H' id=T.get H id):Gr G H' m z v LS:=by
 cases h with
 |nil=>exact .nil
 |Ol hg hc ht hid=>exact .Ol (hs _ rfl▸hg) hc ht hid
theorem Gr.lo{G:AQ}{H:Heap}{m z:Nat}{v:V}{LS:EW}(h:Gr G H m z v LS){id:Nat}(hid:v.Xb=some id):m<=id/\∃c t,T.get H id=some (.arr z c t):=by
 cases h with
 |nil=>cases hid
 |Ol hg hc ht hi=>cases hid;exact⟨hi,_,_,hg⟩
theorem Xr{a b:Nat}(h:a*b<=140737488355328):QH a b=true:=by unfold QH;rw[Nat.ble_eq];exact h
theorem AEa{id ln z bs c n:Nat}{t:T LV}{NS:EW}{H:Heap}{k:KV}(hr:QH (ln+NS.length) bs=true)(hc:ln<=c):
 Y9 id 0 ln z bs NS H n k (.arr z c t)=k (.Ol n 0 (ln+NS.length) z) (T.set (T.set H id .dead) n (.arr z (ln+NS.length) (FQ NS ln t))) (n+1):=by
 show DU (Nat.add ln (len NS)) (λneed=>Lc (band (QH need bs) (band (Nat.beq z z) (Nat.ble (Nat.add 0 ln) c))) (DU n λn=>k (.Ol n 0 need z) (T.set (T.set H id .dead) n (.arr z need (FQ NS ln t))) (Nat.succ n)))=_
 rw[BK,BK,len_eq]
 show Lc (band (QH (ln+NS.length) bs) (band (Nat.beq z z) (Nat.ble (Nat.add 0 ln) c))) (k (.Ol n 0 (ln+NS.length) z) (T.set (T.set H id .dead) n (.arr z (ln+NS.length) (FQ NS ln t))) (n+1))=_
 rw[hr,Dq,show Nat.ble (Nat.add 0 ln) c=true by rw[Nat.ble_eq];show 0+ln<=c;omega]
 rfl
theorem Gr.app{G:AQ}{H:Heap}{m n z bs:Nat}{v w:V}{LS NS:EW}{k:KV}(h:Gr G H m z v LS)(hm:m<=n)(hn:∀id,v.Xb=some id->id<n)(hw:elems w G H z=some NS)
 (hb:(LS.length+NS.length)*bs<=140737488355328)
 (hk:∀v' H',Gr G H' m z v' (LS++NS)->(∀id,id<n->v.Xb≠some id->T.get H' id=T.get H id)->(∀id,v'.Xb=some id->id<n+1)->k v' H' (n+1))
 (hk0:NS=[]->k v H n):Va z bs v w G H n k:=by
 unfold Va
 rw[hw,WU]
 cases h with
 |nil=>
  cases NS with
  |nil=>exact hk0 rfl
  |cons a NS=>
   show KQ z bs [] (a::NS) H n k
   unfold KQ
   rw[BK,BK,len_eq,len_eq,show QH (Nat.add ([]:EW).length (a::NS).length) bs=true from Xr hb,Qa]
   have e:Nat.add ([]:EW).length (a::NS).length=(a::NS).length:=Nat.zero_add _
   rw[e]
   refine hk _ _ ?_ (λid hid _=>T.Ac _ _ (by omega)) (λid hid=>by cases hid;omega)
   refine .Ol (LS:=a::NS) (T.Ag ..) (Nat.le_refl _) (λi L hi=>?_) hm
   show T.get (FQ (a::NS) 0 .e) i=some L
   have hlt:=(List.getElem?_eq_some_iff.1 hi).1
   rw[FV,if_pos ⟨Nat.zero_le _,by omega⟩];exact hi
 |Ol hg hc ht hid=>
  rename_i id c t
  show Lc (Nat.beq z z) _
  rw[Dq,Qa]
  cases NS with
  |nil=>exact hk0 rfl
  |cons a NS=>
   show II (T.get H id) (λb=>Y9 id 0 LS.length z bs (a::NS) H n k b)
   rw[hg,WU]
   rw[AEa (Xr hb) hc,show LS.length+(a::NS).length=(LS++a::NS).length by rw[List.length_append]]
   refine hk _ _ ?_ (λj hj hne=>?_) (λj hj=>by cases hj;omega)
   ·refine .Ol (LS:=LS++a::NS) (T.Ag ..) (Nat.le_refl _) (λi L hi=>?_) hm
    rw[FV]
    by_cases hlt:i<LS.length
    ·rw[if_neg (by omega)]
     rw[List.getElem?_append_left hlt]at hi
     exact ht i L hi
    ·rw[List.getElem?_append_right (by omega)]at hi
     have hlt2:=(List.getElem?_eq_some_iff.1 hi).1
     rw[if_pos ⟨by omega,by omega⟩];exact hi
   ·rw[T.Ac _ _ (by omega),T.Ac _ _ (by intro e;subst e;exact hne rfl)]
def jH(H:Heap)(id:Nat)(ps:List ((Nat×Nat)×V)):Prop:=∃es ck,T.get H id=some (.map es ck)/\es.map (λe=>(e.1,e.2.1))=ps.map λp=>(V.str p.1.1 p.1.2,p.2)
def EO{α:Type}(ps:List ((Nat×Nat)×α))(s:Nat×Nat):Option α:=(ps.find? λp=>decide (p.1=s)).map (·.2)
theorem ckS(a b l c:Nat):CK.str.eq (.str a b) (.str l c)=some (decide ((a,b)=(l,c))):=by
 show some (band (Nat.beq a l) (Nat.beq b c))=_
 congr 1;rw[BP,Bool.eq_iff_iff];simp
theorem uU:∀(es:ME) (ps:List ((Nat×Nat)×V)) (s:Nat×Nat) (i:Nat),es.map (λe=>(e.1,e.2.1))=ps.map (λp=>(V.str p.1.1 p.1.2,p.2))->
 jZ .str (.str s.1 s.2) es i=some ((EO ps s).map λv=>(i+(ps.findIdx λp=>decide (p.1=s)),v))
 |[],ps,s,i,h=>by
  cases ps with
  |nil=>rfl
  |cons p ps=>simp at h
 |e::es,ps,s,i,h=>by
  cases ps with
  |nil=>simp at h
  |cons p ps=>
   simp only[List.map_cons,List.cons.injEq,Prod.mk.injEq]at h
   obtain⟨⟨h1,h2⟩,h3⟩:=h
   show BH (CK.str.eq e.1 (.str s.1 s.2)) (λr=>Bool.rec (jZ .str (.str s.1 s.2) es (Nat.succ i)) (some (some (i,e.2.1))) r)=_
   rw[h1,ckS,Us,uU es ps s (i+1) h3]
   by_cases hp:p.1=s
   ·have hd:decide ((p.1.1,p.1.2)=(s.1,s.2))=true:=decide_eq_true hp
    rw[hd]
    unfold EO
    simp[hp,List.findIdx_cons,h2]
   ·have hd:decide ((p.1.1,p.1.2)=(s.1,s.2))=false:=decide_eq_false hp
    rw[hd]
    unfold EO
    simp only[List.find?_cons,hp,decide_false,List.findIdx_cons,cond_false]
    show some (Option.map (λv=>(i+1+List.findIdx (λp=>decide (p.fst=s)) ps,v)) _)=_
    congr 2;funext v;congr 1;omega
theorem AGL{H:Heap}{id:Nat}{es:ME}{ck:Nat}(h:T.get H id=some (.map es ck))(f:ME->Nat->Option V):Qp H (.map id) f=f es ck:=by
 show(Option.rec (motive:=λ_=>(ME->Nat->Option V)->Option V) (λ_=>none) ASA (T.get H id) f:Option V)=_
 rw[h];rfl
def AOb(z:V):Option V->V
 |some v=>.Fh [v,.bool true]
 |none=>.Fh [z,.bool false]
theorem zY{H:Heap}{id:Nat}{ps:List ((Nat×Nat)×V)}(h:jH H id ps)(z:V)(s:Nat×Nat):
 AAc .str true z (.map id) (.str s.1 s.2) H=some (AOb z (EO ps s)):=by
 obtain⟨es,ck,hg,he⟩:=h
 unfold AAc
 rw[AGL hg,uU es ps s 0 he,Us]
 cases EO ps s<;>rfl
def VU{α:Type}(s:Nat×Nat)(v:α):List ((Nat×Nat)×α)->List ((Nat×Nat)×α)
 |[]=>[(s,v)]
 |p::ps=>if p.1=s then(s,v)::ps else p::VU s v ps
theorem Uw{α:Type}(s:Nat×Nat)(v:α):∀(ps:List ((Nat×Nat)×α)) (t:Nat×Nat),EO (VU s v ps) t=if s=t then some v else EO ps t
 |[],t=>by
  unfold VU EO
  by_cases h:s=t<;>simp[h]
 |p::ps,t=>by
  have ih:=Uw s v ps t
  unfold VU
  by_cases h:p.1=s
  ·rw[if_pos h]
   by_cases h2:s=t
   ·simp[EO,h2]
   ·have h3:¬p.1=t:=by rw[h];exact h2
    simp[EO,h2,h3]
  ·rw[if_neg h]
   by_cases h2:p.1=t
   ·have h3:¬s=t:=by intro e;exact h (h2.trans e.symm)
    simp[EO,h2,h3]
   ·unfold EO at ih⊢
    simp only[List.find?_cons,h2,decide_false]
    exact ih
theorem ADq{H:Heap}{id:Nat}{ps:List ((Nat×Nat)×V)}(h:jH H id ps)(s:Nat×Nat)(v:V){n:Nat}{k:KV}
 (hk:∀H',jH H' id (VU s v ps)->(∀j,j≠id->T.get H' j=T.get H j)->k .undef H' n):AOC .str (.map id) (.str s.1 s.2) v H n k:=by
 obtain⟨es,ck,hg,he⟩:=h
 show II (T.get H id) (λb=>II (AOf b (AG4 .str (.str s.1 s.2) v)) λb=>k .undef (T.set H id b) n)
 rw[hg,WU]
 show II (AG4 .str (.str s.1 s.2) v es ck) _
 unfold AG4
 rw[uU es ps s 0 he,Us]
 have key:∀(es:ME) (ps:List ((Nat×Nat)×V)),es.map (λe=>(e.1,e.2.1))=ps.map (λp=>(V.str p.1.1 p.1.2,p.2))->
  match EO ps s with
  |none=>(cat es [(V.str s.1 s.2,v,ck)]).map (λe=>(e.1,e.2.1))=(VU s v ps).map (λp=>(V.str p.1.1 p.1.2,p.2))
  |some _=>∃e,nth es (ps.findIdx λp=>decide (p.1=s))=some e/\(eU (e.1,v,e.2.2) es (ps.findIdx λp=>decide (p.1=s))).map (λe=>(e.1,e.2.1))=(VU s v ps).map (λp=>(V.str p.1.1 p.1.2,p.2)):=by
  intro es
  induction es with
  |nil=>intro ps h;cases ps with
   |nil=>rfl
   |cons p ps=>simp at h
  |cons e es ih=>
   intro ps h
   cases ps with
   |nil=>simp at h
   |cons p ps=>
    simp only[List.map_cons,List.cons.injEq,Prod.mk.injEq]at h
    obtain⟨⟨h1,h2⟩,h3⟩:=h
    have ih:=ih ps h3
    by_cases hp:p.1=s
    ·have:EO (p::ps) s=some p.2:=by simp[EO,hp]
     rw[this]
     refine⟨e,by simp[List.findIdx_cons,hp],?_⟩
     simp only[VU,hp,if_true,List.findIdx_cons,decide_true,cond_true]
     show((e.1,v,e.2.2)::es).map (λe=>(e.1,e.2.1))=_
     simp only[List.map_cons,h1,hp,h3]
    ·have:EO (p::ps) s=EO ps s:=by simp[EO,hp]
     rw[this]
     cases hl:EO ps s with
     |none=>
      rw[hl]at ih
      simp only[VU,hp,if_false]
      show((e::cat es [(V.str s.1 s.2,v,ck)]).map λe=>(e.1,e.2.1))=_
      simp only[List.map_cons,h1,h2]
      rw[show List.map (λe=>(e.fst,e.snd.fst)) (cat es [(V.str s.1 s.2,v,ck)])=_ from ih]
     |some x=>
      rw[hl]at ih
      obtain⟨e',he',hs⟩:=ih
      refine⟨e',?_,?_⟩
      ·simp only[List.findIdx_cons,hp,decide_false,cond_false];exact he'
      ·simp only[List.findIdx_cons,hp,decide_false,cond_false,VU,if_false]
       show(e::eU (e'.1,v,e'.2.2) es _).map (λe=>(e.1,e.2.1))=_
       simp only[List.map_cons,h1,h2]
       rw[show List.map (λe=>(e.fst,e.snd.fst)) (eU (e'.1,v,e'.2.2) es (List.findIdx (λp=>decide (p.fst=s)) ps))=_ from hs]
 have key:=key es ps he
 cases hl:EO ps s with
 |none=>
  rw[hl]at key
  show II (some (.map (cat es [(V.str s.1 s.2,v,ck)]) (Nat.succ ck))) (λb=>k .undef (T.set H id b) n)
  rw[WU]
  exact hk _ ⟨_,_,T.Ag ..,key⟩ λj hj=>T.Ac _ _ (Ne.symm hj)
 |some x=>
  rw[hl]at key
  obtain⟨e,he',hs⟩:=key
  show II (BH (nth es (0+ps.findIdx λp=>decide (p.1=s))) λe=>some (.map (eU (e.1,v,e.2.2) es (0+ps.findIdx λp=>decide (p.1=s))) ck)) (λb=>k .undef (T.set H id b) n)
  rw[Nat.zero_add,he',Us,WU]
  exact hk _ ⟨_,_,T.Ag ..,hs⟩ λj hj=>T.Ac _ _ (Ne.symm hj)
def Oh(G:AQ):Prop:=∀b o z L,G b o z=some L->L.length=z/\∀i m,0<m->i+m<=z->G b (o+i) m=some ((L.drop i).take m)
theorem AJ9(e off m:Nat)(L:LV):ldC e off m L=if m=e/\off%e=0 then some L else if off%e+m<=e then some ((L.drop (off%e)).take m)else none:=by
 have e1:ldC e off m L=Bool.rec (motive:=λ_=>Option LV) (Bool.rec none (some (XH m (kZ (off%e) L))) (Nat.ble (off%e+m) e)) (some L) (band (Nat.beq m e) (Nat.beq (off%e) 0)):=rfl
 rw[e1,YT,kD]
 by_cases h:m=e/\off%e=0
 ·have hb:band (Nat.beq m e) (Nat.beq (off%e) 0)=true:=by simp only[BP,Bool.and_eq_true,beq_iff];exact h
  rw[if_pos h,hb]
 ·have hb:band (Nat.beq m e) (Nat.beq (off%e) 0)=false:=by rw[Bool.eq_false_iff];intro hc;simp only[BP,Bool.and_eq_true,beq_iff]at hc;exact h hc
  rw[if_neg h,hb]
  by_cases h2:off%e+m<=e
  ·rw[if_pos h2,show Nat.ble (off%e+m) e=true by rw[Nat.ble_eq];exact h2]
  ·rw[if_neg h2,show Nat.ble (off%e+m) e=false by rw[Bool.eq_false_iff];intro hc;rw[Nat.ble_eq]at hc;exact h2 hc]
theorem AKy{e cnt off m:Nat}{t:T LV}{c:LV}(h:ldB e cnt t off m=some c):∃L,off/e<cnt/\T.get t (off/e)=some L/\ldC e off m L=some c:=by
 unfold ldB at h
 rw[Bh]at h
 obtain⟨L,h1,h2⟩:=h
 cases hb:Nat.blt (Nat.div off e) cnt with
 |false=>rw[hb]at h1;cases h1
 |true=>rw[hb]at h1;exact⟨L,by rw[Nat.blt_eq]at hb;exact hb,h1,h2⟩
theorem AN2{H:Heap}{id off z o m:Nat}{c:LV}(h:Zz H id off z=some c)(hc:c.length=z)(hm:0<m)(ho:o+m<=z):Zz H id (off+o) m=some ((c.drop o).take m):=by
 unfold Zz at h⊢
 cases hb:T.get H id with
 |none=>rw[hb]at h;cases h
 |some b=>
  rw[hb]at h
  cases b with
  |map _ _=>cases h
  |dead=>cases h
  |arr e cnt t=>
   have h':ldB e cnt t off z=some c:=h
   show ldB e cnt t (off+o) m=_
   obtain⟨L,h1,h2,h3⟩:=AKy h'
   rw[AJ9]at h3
   have key:off%e+z<=e/\c=(L.drop (off%e)).take z/\(z=e/\off%e=0->c=L):=by
    by_cases hh:z=e/\off%e=0
    ·rw[if_pos hh]at h3
     cases h3
     rw[hh.2,List.drop_zero,List.take_of_length_le (by omega)]
     exact⟨by omega,rfl,λ_=>rfl⟩
    ·rw[if_neg hh]at h3
     by_cases h4:off%e+z<=e
     ·rw[if_pos h4]at h3;exact⟨h4,(Option.some.inj h3).symm,λh=>absurd h hh⟩
     ·rw[if_neg h4]at h3;cases h3
   obtain⟨hle,hcc,hcl⟩:=key
   have he:0<e:=by omega
   have hlt:off%e+o<e:=by omega
   have hoff:off+o=e*(off/e)+(off%e+o):=by have:=Nat.div_add_mod off e;omega
   have hd:(off+o)/e=off/e:=by rw[hoff,Nat.mul_add_div he,Nat.div_eq_of_lt hlt];omega
   have hmo:(off+o)%e=off%e+o:=by rw[hoff,Nat.mul_add_mod,Nat.mod_eq_of_lt hlt]
   unfold ldB
   rw[show Nat.div (off+o) e=off/e from hd,show Nat.blt (off/e) cnt=true by rw[Nat.blt_eq];exact h1]
   show BH (T.get t (off/e)) (ldC e (off+o) m)=_
   rw[h2,Us,AJ9,hmo]
   have hL:z<=(L.drop (off%e)).length:=by rw[hcc,List.length_take]at hc;omega
   by_cases hh:m=e/\off%e+o=0
   ·rw[if_pos hh,<-hcl ⟨by omega,by omega⟩,show o=0 by omega,List.drop_zero,List.take_of_length_le (by omega)]
   ·rw[if_neg hh,if_pos (by omega),hcc,List.drop_take,List.take_take,List.drop_drop,Nat.min_eq_left (by omega)]
theorem ADp{G:AQ}(hG:Oh G){H:Heap}{p:V}{z o m:Nat}{c:LV}(h:lX p G H z=some c)(hc:c.length=z)(hm:0<m)(ho:o+m<=z):
 ∃p',AP o p=some p'/\lX p' G H m=some ((c.drop o).take m):=by
 cases p<;>try (cases h;done)
 ·rename_i id off;exact⟨_,BG ..,AN2 h hc hm ho⟩
 ·rename_i b off;exact⟨_,AC8 ..,(hG b off z c h).2 o m hm ho⟩
theorem Um{G:AQ}(hG:Oh G){H:Heap}{p:V}{z o:Nat}{c:LV}{x:V}(h:lX p G H z=some c)(hc:c.length=z)(ho:c[o]? =some x):
 ∃p',AP o p=some p'/\AY p' G H=some x:=by
 obtain⟨hlt,he⟩:=List.getElem?_eq_some_iff.1 ho
 obtain⟨p',h1,h2⟩:=ADp hG h hc (o:=o) (m:=1) (by omega) (by omega)
 refine⟨p',h1,?_⟩
 rw[AEH,h2,ADL,pV,List.getElem?_take]
 simp[ho]
theorem AN0{G:AQ}{H:Heap}{n id m z bs:Nat}{t:T LV}{w:V}{LS NS:EW}{k:KV}(hz:0<z)(hb:T.get H id=some (.arr z m t))(hid:id<n)(h:elems (.sl id 0 m m z) G H z=some LS)
 (hw:elems w G H z=some NS) (hr:(m+NS.length)*bs<=140737488355328)
 (hk:∀v' H' n',El G H' v' z (LS++NS)->(∀j,j<n->T.get H' j=T.get H j)->n<=n'->(∀j,v'.Xb=some j->j<n')->k v' H' n'):Va z bs (.sl id 0 m m z) w G H n k:=by
 unfold Va
 rw[hw,WU]
 have h2:(Bool.rec (motive:=λ_=>Option EW) none (CV H id z m 0) (Nat.beq z z):Option EW)=some LS:=h
 rw[Dq]at h2
 have h2:CV H id z m 0=some LS:=h2
 obtain⟨hl,hat⟩:=Vb _ _ h2
 have e0:ACq (.sl id 0 m m z) G z bs NS H n k=Bool.rec (motive:=λ_=>Prop) (II (CV H id z m 0) λOS=>KQ z bs OS NS H n k) (II (T.get H id) λb=>oJ id 0 m m z (m+NS.length) NS H n k b) (Nat.ble (m+NS.length) m):=by
  show Lc (Nat.beq z z) (DU (Nat.add m (len NS)) λneed=>Bool.rec (motive:=λ_=>Prop) (II (CV H id z m 0) λOS=>KQ z bs OS NS H n k) (II (T.get H id) λb=>oJ id 0 m m z need NS H n k b) (Nat.ble need m))=_
  rw[Dq,Qa,BK,len_eq];rfl
 rw[e0]
 by_cases hN:NS.length=0
 ·have:NS=[]:=List.length_eq_zero_iff.1 hN
  subst this
  rw[show Nat.ble (m+([]:EW).length) m=true by rw[Nat.ble_eq];exact Nat.le_refl _]
  show II (T.get H id) (λb=>oJ id 0 m m z (m+0) [] H n k b)
  rw[hb,WU]
  show Lc (band (Nat.beq z z) (Nat.ble (Nat.add 0 (m+0)) m)) (k (.sl id 0 (m+0) m z) (T.set H id (.arr z m t)) n)
  rw[Dq,show Nat.ble (Nat.add 0 (m+0)) m=true by rw[Nat.ble_eq];show 0+m<=m;omega]
  have hs:∀j,T.get (T.set H id (.arr z m t)) j=T.get H j:=λj=>by
   rw[T.OD];split
   ·rename_i e;subst e;exact hb.symm
   ·rfl
  rw[List.append_nil]at hk
  exact hk _ _ _ ((show El G H (.sl id 0 m m z) z LS from⟨rfl,h⟩).same λj _=>hs j) (λj _=>hs j) (Nat.le_refl _) (λj hj=>by cases hj;exact hid)
 ·rw[show Nat.ble (m+NS.length) m=false by rw[Bool.eq_false_iff];intro hc;rw[Nat.ble_eq]at hc;omega]
  show II (CV H id z m 0) (λOS=>KQ z bs OS NS H n k)
  rw[h2,WU]
  show DU (Nat.add (len LS) (len NS)) (λneed=>Lc (QH need bs) (DU n λn=>k (.Ol n 0 need z) (T.set H n (.arr z need (FQ NS (len LS) (FQ LS 0 .e)))) (Nat.succ n)))
  rw[BK,BK,len_eq,len_eq,show QH (Nat.add LS.length NS.length) bs=true from Xr (by rw[hl];exact hr),Qa]
  have e:Nat.add LS.length NS.length=(LS++NS).length:=by rw[List.length_append];rfl
  rw[e]
  refine hk _ _ _ (Gr.el (m:=n) (.Ol (LS:=LS++NS) (T.Ag ..) (Nat.le_refl _) (λi L hi=>?_) (Nat.le_refl _)) hz) (λj hj=>T.Ac _ _ (by omega)) (by omega) (λj hj=>by cases hj;omega)
  rw[FV,FV]
  by_cases hlt:i<LS.length
  ·rw[if_neg (by omega),if_pos ⟨Nat.zero_le _,by omega⟩]
   rw[List.getElem?_append_left hlt]at hi
   exact hi
  ·rw[List.getElem?_append_right (by omega)]at hi
   have hlt2:=(List.getElem?_eq_some_iff.1 hi).1
   rw[if_pos ⟨by omega,by omega⟩];exact hi
theorem AHq{H:Heap}{n:Nat}{P:KV}:Bo (AAr E0) H n P=P (.map n) (T.set H n (.map [] 0)) (n+1):=by
 show DU n (λn=>P (.map n) (T.set H n (.map [] 0)) (Nat.succ n))=_
 rw[BK]
theorem AG2{m:Nat}(h:m+1<9223372036854775808):B2.ev .sub (.int .i64 (.ofNat (m+1)) 0) (.int .i64 (.ofNat 1) 0)=some (.int .i64 (.ofNat m) 0):=by
 show some (V.int .i64 (jX .i64 (ABp (.ofNat (m+1)) (Int.neg (.ofNat 1)))) 0)=_
 rw[Yi,sN]
 have e:Int.ofNat (m+1)+Int.neg (Int.ofNat 1)=Int.ofNat m:=by show((m+1:Nat):Int)+ -((1:Nat):Int)=(m:Int);omega
 rw[e,bI (by show(-9223372036854775808:Int)<=(m:Int);omega) (by show(m:Int)<9223372036854775808;omega)]
end Go.CS
namespace Go.CS
open Go.ChangeShapes Go.WideShapes Go.RowKit
inductive Sh where
 |int (k:IntKind)|bool|str|sl (z:Nat) (t:Sh)|st (l:List Sh)
def RSl(v:V)(n:Nat):Prop:=(v=.Ae/\n=0)∨∃b o c,v=.rsl b o n c 0/\n<=c/\c<=maxLen
mutual
def Fits(G:AQ):Sh->LV->Prop
 |.int k,vs=>∃n,vs=[.int k n 0]
 |.bool,vs=>∃b,vs=[.bool b]
 |.str,vs=>∃s:List UInt8,s.length<=maxLen/\vs=[.str s.length (enc s)]
 |.sl z t,vs=>∃v LS,vs=[v]/\RSl v LS.length/\(∀H,El G H v z LS)/\LS.length<=maxLen/\∀L∈LS,L.length=z/\Fits G t L
 |.st ts,vs=>ZR G ts vs
def ZR(G:AQ):List Sh->LV->Prop
 |[],vs=>vs=[]
 |t::ts,vs=>∃L vs',vs=L++vs'/\Fits G t L/\ZR G ts vs'
end
def iY(P:Program):Nat->TypeId->Option Sh
 |0,_=>none
 |d+1,t=>match P.underlying t with
  |some (.int k)=>some (.int k)
  |some .bool=>some .bool
  |some .string=>some .str
  |some (.slice e)=>if P.cellsOf e=0 then none else(iY P d e).map (.sl (P.cellsOf e))
  |some (.struct fs)=>if jc 0 (fs.toList.map λf=>(f.offset,P.cellsOf f.type)) (P.cellsOf t)=true then(fs.toList.mapM λf=>iY P d f.type).map .st else none
  |_=>none
theorem AF5{W:World}{b o n:Nat}{L:LV}(h:QE W b o n=some L):L.length=n:=by
 unfold QE at h
 split at h
 ·cases h;simp
 ·cases h
theorem AFz(W:World):Oh (QE W):=by
 intro b o z L h
 refine⟨AF5 h,λi m hm hi=>?_⟩
 unfold QE at h⊢
 split at h
 ·rename_i hc
  cases h
  rw[if_pos]
  ·congr 1
   apply List.ext_getElem?
   intro j
   rw[List.getElem?_take]
   by_cases hj:j<m
   ·rw[if_pos hj,List.getElem?_drop,List.getElem?_map,List.getElem?_map,List.getElem?_range hj,List.getElem?_range (by omega),Option.map_some,Option.map_some,Nat.add_assoc]
   ·rw[if_neg hj,List.getElem?_eq_none (by simp;omega)]
  ·intro j hj
   have:=hc (i+j) (by omega)
   rwa [<-Nat.add_assoc]at this
 ·cases h
theorem ABy{G:AQ}{b z:Nat}:∀(n o:Nat) (LS:EW),LS.length=n->(∀i c,LS[i]? =some c->G b (o+i*z) z=some c)->lC G b z n o=some LS
 |0,o,LS,hl,_=>by cases LS with|nil=>rfl|cons a l=>simp at hl
 |n+1,o,LS,hl,h=>by
  cases LS with
  |nil=>simp at hl
  |cons a l=>
   show BH (G b o z) (λL=>BH (lC G b z n (Nat.add o z)) λLS=>some (L::LS))=_
   have h0:=h 0 a rfl
   rw[Nat.zero_mul,Nat.add_zero]at h0
   rw[h0,Us,show Nat.add o z=o+z from rfl,ABy n (o+z) l (by simpa using hl) λi c hc=>by
    have:=h (i+1) c (by simpa using hc);rwa [show o+(i+1)*z=o+z+i*z by rw[Nat.add_mul];omega]at this]
   rfl
theorem AQ4{G:AQ}{H:Heap}{b o c z:Nat}{LS:EW}(h:∀i L,LS[i]? =some L->G b (o+i*z) z=some L){e:Nat}:El G H (.rsl b o LS.length c e) z LS:=
 ⟨rfl,ABy _ _ _ rfl h⟩
theorem qw{G:AQ}:∀{ts:List Sh} {ls:List LV},AHB (λt l=>Fits G t l) ts ls->ZR G ts ls.flatten
 |_,_,.nil=>rfl
 |_,_,.cons h t=>⟨_,_,by simp,h,qw t⟩
theorem ACC{α β γ:Type}{f:α->Option β}{R:β->γ->Prop}{g:α->γ}:∀{l:List α} {r:List β},l.mapM f=some r->(∀a b,a∈l->f a=some b->R b (g a))->AHB R r (l.map g)
 |[],r,h,_=>by simp at h;subst h;exact .nil
 |a::l,r,h,hR=>by
  rw[List.mapM_cons]at h
  cases hfa:f a with
  |none=>rw[hfa]at h;cases h
  |some b=>
   rw[hfa]at h
   cases hr:l.mapM f with
   |none=>simp[hr]at h
   |some r'=>
    simp[hr]at h;subst h
    exact .cons (hR a b (List.mem_cons_self ..) hfa) (ACC hr λa b ha hb=>hR a b (List.mem_cons_of_mem _ ha) hb)
theorem vw{w:World}{base n:Nat}{a:Addr}{cs:List Value}(h:w.cells? base a n=some cs):cs.length=n/\∀j u,cs[j]? =some u->w.cell? (a.add j)=some u:=by
 unfold World.cells? at h
 split at h
 ·have hl:=mapM_some_length h
  refine⟨by simpa using hl,λj u hj=>?_⟩
  have hlt:j<n:=by have:=(List.getElem?_eq_some_iff.1 hj).1;simp at hl;omega
  have:=mapM_some_get h j j (by rw[List.getElem?_range hlt])
  rw[this,hj]
 ·cases h
theorem AMr{a:Addr}(h:a.spot=none)(k:Nat):a.add k=⟨a.block,a.off+k,none⟩:=by
 obtain⟨b,o,s⟩:=a;cases h;exact add_lit b o k
theorem cell_spot{w:World}{a:Addr}{u:Value}(h:w.cell? a=some u):a.spot=none:=by
 unfold World.cell? at h
 split at h
 ·split at h
  ·cases h
  ·rename_i hs;cases hc:a.spot<;>simp_all
 ·cases h
theorem wP{P:Program}{w:World}{H:Type}{enc':TypeId×Value->H}{held:Bool}:∀(fuel:Nat) {t:TypeId} {cs:List Value} {x:DataW H×List MemPlace} {m:Nat} {sh:Sh},DataW.trod enc' P w 0 (λ_=>true) held fuel t cs=some x->iY P m t=some sh->
 Fits (QE w) sh (cs.map toV)/\(∀u∈cs,u.oneCell'=true)
 |0,_,_,_,_,_,h,_=>by simp[DataW.trod]at h
 |fuel+1,t,cs,x,0,sh,h,hs=>by cases hs
 |fuel+1,t,cs,x,m+1,sh,h,hs=>by
  simp only[iY]at hs
  split at hs
  ·rename_i k hu
   obtain⟨i,rfl,e,_⟩:=DataW.trod_int hu h
   cases hs
   exact⟨⟨i,rfl⟩,λu hu=>by simp at hu;subst hu;rfl⟩
  ·rename_i hu
   obtain⟨i,rfl,e⟩:=DataW.trod_bool hu h
   cases hs
   exact⟨⟨i,rfl⟩,λu hu=>by simp at hu;subst hu;rfl⟩
  ·rename_i hu
   obtain⟨s,rfl,e,hle⟩:=DataW.trod_string hu h
   cases hs
   exact⟨⟨s.data.toList,by simpa using hle,rfl⟩,λu hu=>by simp at hu;subst hu;rfl⟩
  ·rename_i e hu
   split at hs
   ·cases hs
   rename_i hz
   cases hsh:iY P m e with
   |none=>rw[hsh]at hs;cases hs
   |some sh'=>
   rw[hsh]at hs
   cases hs
   rcases DataW.trod_slice hu h with⟨rfl,_⟩|⟨a,len,cap,elems,rest,n,hn,rfl,_,_,hle,hcap,hlen,hel,hsp,_⟩
   ·refine⟨⟨.Ae,[],?_,.inl ⟨rfl,rfl⟩,λH=>⟨rfl,rfl⟩,Nat.zero_le _,λL hL=>by cases hL⟩,λu hu=>by simp at hu;subst hu;rfl⟩
    simp[toV]
   ·have hn':fuel=n:=by omega
    subst hn'
    obtain⟨hrl,hrest⟩:=hsp rfl
    refine⟨?_,λu hu=>by simp at hu;subst hu;rfl⟩
    have each:∀i,i<cap->∃cs',w.cells? 0 (a.add (i*P.cellsOf e)) (P.cellsOf e)=some cs'/\(i<len->Fits (QE w) sh' (cs'.map toV)/\∀u∈cs',u.oneCell'=true):=by
     intro i hi
     by_cases hil:i<len
     ·have h1:=hel i hil
      rw[List.getElem?_eq_getElem (by omega)]at h1
      cases hc:w.cells? 0 (a.add (i*P.cellsOf e)) (P.cellsOf e)with
      |none=>rw[hc]at h1;cases h1
      |some cs'=>
       rw[hc]at h1
       exact⟨cs',rfl,λ_=>wP fuel h1 hsh⟩
     ·have h1:=hrest (i-len) (by omega)
      rw[List.getElem?_eq_getElem (by omega),show len+(i-len)=i by omega]at h1
      cases hc:w.cells? 0 (a.add (i*P.cellsOf e)) (P.cellsOf e)with
      |none=>rw[hc]at h1;cases h1
      |some cs'=>exact⟨cs',rfl,λh=>absurd h hil⟩
    have hspot:cap=0∨a.spot=none:=by
     rcases Nat.eq_zero_or_pos cap with h0|h0
     ·exact .inl h0
     ·obtain⟨cs',hc,_⟩:=each 0 h0
      obtain⟨hl,hg⟩:=vw hc
      have h0:=hg 0 _ (List.getElem?_eq_getElem (by omega))
      have:=cell_spot h0
      simp only[Nat.zero_mul]at this
      unfold Addr.add at this
      simp only[if_true]at this
      exact .inr this
    have htv:toV (.slice (some a) len cap)=.rsl a.block a.off len cap 0:=by
     simp only[toV];rw[if_pos ⟨hle,hspot⟩]
    let LS:EW:=(List.range len).map λi=>((w.cells? 0 (a.add (i*P.cellsOf e)) (P.cellsOf e)).getD []).map toV
    have hLS:LS.length=len:=by simp[LS]
    have get:∀i L,LS[i]? =some L->i<len/\∃cs',w.cells? 0 (a.add (i*P.cellsOf e)) (P.cellsOf e)=some cs'/\L=cs'.map toV:=by
     intro i L hi
     have hlt:=(List.getElem?_eq_some_iff.1 hi).1
     rw[hLS]at hlt
     simp only[LS,List.getElem?_map,List.getElem?_range hlt,Option.map_some,Option.some.injEq]at hi
     obtain⟨cs',hc,_⟩:=each i (by omega)
     rw[hc]at hi
     exact⟨hlt,cs',hc,hi.symm⟩
    refine⟨.rsl a.block a.off len cap 0,LS,by simp[htv],.inr ⟨_,_,_,by rw[hLS],by omega,hcap⟩,λH=>?_,by omega,?_⟩
    ·rw[<-hLS]
     refine AQ4 λi L hi=>?_
     obtain⟨hlt,cs',hc,rfl⟩:=get i L hi
     obtain⟨hl,hg⟩:=vw hc
     have hsn:a.spot=none:=by rcases hspot with h|h;omega;exact h
     obtain⟨cs2,hc2,hf⟩:=each i (by omega)
     rw[hc]at hc2;cases hc2
     refine xK hl (hf hlt).2 λj u hj=>?_
     have:=hg j u hj
     rw[AMr hsn,add_lit]at this
     exact this
    ·intro L hL
     obtain⟨i,hi⟩:=List.mem_iff_getElem?.1 hL
     obtain⟨hlt,cs',hc,rfl⟩:=get i L hi
     obtain⟨cs2,hc2,hf⟩:=each i (by omega)
     rw[hc]at hc2;cases hc2
     exact⟨by simp[(vw hc).1],(hf hlt).1⟩
  ·rename_i fs hu
   split at hs
   ·rename_i hcon
    cases hm:fs.toList.mapM (λf=>iY P m f.type)with
    |none=>rw[hm]at hs;cases hs
    |some shs=>
    rw[hm]at hs
    cases hs
    obtain⟨xs,n',hfe,e,hlen,hxl,hel⟩:=DataW.trod_struct hu h
    have hfe':fuel=n':=by omega
    subst hfe'
    have hflat:=ZG cs _ 0 (by rw[hlen];exact hcon)
    simp only[List.drop_zero,List.map_map]at hflat
    have each:∀(f:Field) (sh:Sh),f∈fs.toList->iY P m f.type=some sh->Fits (QE w) sh (((cs.drop f.offset).take (P.cellsOf f.type)).map toV)/\∀u∈(cs.drop f.offset).take (P.cellsOf f.type),u.oneCell'=true:=by
     intro f sh hf hsh
     obtain⟨i,hi⟩:=List.mem_iff_getElem?.1 hf
     have h1:=hel i f (by simpa using hi)
     have hil:i<xs.length:=by rw[hxl];simpa using(List.getElem?_eq_some_iff.1 hi).1
     rw[List.getElem?_eq_getElem hil]at h1
     exact wP fuel h1 hsh
    constructor
    ·show ZR (QE w) shs _
     have:=qw (ACC (R:=λt l=>Fits (QE w) t l) (g:=λf=>((cs.drop f.offset).take (P.cellsOf f.type)).map toV) hm λf b hf hb=>(each f b hf hb).1)
     have e2:cs.map toV=(fs.toList.map λf=>((cs.drop f.offset).take (P.cellsOf f.type)).map toV).flatten:=by
      conv=>lhs;rw[hflat]
      rw[List.map_flatten,List.map_map];rfl
     rw[e2];exact this
    ·intro u hu'
     rw[hflat]at hu'
     obtain⟨l,hl,hul⟩:=List.mem_flatten.1 hu'
     obtain⟨f,hf,rfl⟩:=List.mem_map.1 hl
     obtain⟨sh',hsh'⟩:=rW hm f hf
     exact(each f sh' hf hsh').2 u hul
   ·cases hs
  ·cases hs
def ALa:V->Bool
 |.int _ _ b=>Nat.beq b 0
 |.bool _=>true
 |.str _ _=>true
 |_=>false
theorem AQU{ρ:Loc}{v:V}{u:Value}(h:Aa ρ v u)(hp:ALa v=true):toV u=v:=by
 cases v<;>try (cases hp;done)
 ·rename_i k n s
  have:s=0:=Nat.eq_of_beq_eq_true hp
  subst this
  simp only[Aa]at h;subst h;rfl
 ·simp only[Aa]at h;subst h;rfl
 ·simp only[Aa]at h
  obtain⟨s,rfl,h1,h2⟩:=h
  subst h1;subst h2;rfl
theorem AGx{W:World}{g:Nat}{cs:List Value}{tab:LV}(hc:∀i,W.cell? ⟨g,i,none⟩=cs[i]?)(hr:CQ (λ_=>none) tab cs)(h1:∀u∈cs,u.oneCell'=true)(hp:tab.all ALa=true){o n:Nat}(hl:o+n<=tab.length):
 QE W g o n=some ((tab.drop o).take n):=by
 obtain⟨hlen,hget⟩:=(bG tab cs).1 hr
 rw[xK (cs:=(cs.drop o).take n) (by simp;omega) (λu hu=>h1 u (List.mem_of_mem_drop (List.mem_of_mem_take hu))) λj u hj=>?_]
 ·congr 1
  apply List.ext_getElem?
  intro j
  rw[List.getElem?_map,List.getElem?_take,List.getElem?_take]
  by_cases hj:j<n
  ·rw[if_pos hj,if_pos hj,List.getElem?_drop,List.getElem?_drop]
   have hlt:o+j<tab.length:=by omega
   rw[List.getElem?_eq_getElem hlt,List.getElem?_eq_getElem (by omega),Option.map_some]
   congr 1
   exact AQU (hget _ _ _ (List.getElem?_eq_getElem hlt) (List.getElem?_eq_getElem (by omega))) (List.all_eq_true.1 hp _ (List.getElem_mem hlt))
  ·rw[if_neg hj,if_neg hj];rfl
 ·rw[List.getElem?_take]at hj
  split at hj
  ·rw[List.getElem?_drop]at hj;rw[hc];exact hj
  ·cases hj
end Go.CS
namespace Go.CS
section
variable{e:Option V}{P:V->Prop}{Q:KV}{t:KV->Prop}{H:Heap}{n:Nat}{a b:V}
theorem ABY(h:P (.Fh [])):Ak (.bool true) false e P:=h
theorem APn(h:P (.Fh [])):Ak (.bool false) true e P:=h
theorem ABe(h:P a):AL (Aw (.bool true) a b) P:=h
theorem AQW(h:P b):AL (Aw (.bool false) a b) P:=h
end
end Go.CS
