/- Part of a proof; nothing is assumed. -/
import Derived.Test.YtmbhlmocojopaaaGreatDoorConD
set_option linter.unusedVariables false
set_option linter.unusedSimpArgs false
noncomputable section
namespace Go.RL
open Go.DW
set_option maxRecDepth 100000
def Mg.st(s:Mg)(a nm:Nat)(vv:V):Mg:={s with at':=a,names:=nm,vv:=vv}
structure Fv(gp:Nat)(v:V)(H:Heap)(n:Nat)(H':Heap)(n':Nat):Prop where
 le:n<=n'
 same:∀id,id<n->id≠gp->v.Ec≠some id->T.get H' id=T.get H id
def Sd(n:Nat)(v v':V):Prop:=v'.Ec=v.Ec∨∀id,v'.Ec=some id->n<=id
theorem Sd.refl(n:Nat)(v:V):Sd n v v:=.inl rfl
theorem Sd.trans{n n':Nat}{v v' v'':V}(h:Sd n v v')(h':Sd n' v' v'')(hn:n<=n'):Sd n v v'':=by
 rcases h' with h'|h'
 ·rcases h with h|h
  ·exact .inl (h'.trans h)
  ·exact .inr λid hid=>h id (h'.symm.trans hid)
 ·exact .inr λid hid=>Nat.le_trans hn (h' id hid)
theorem Fv.trans{gp:Nat}{v v':V}{H H' H'':Heap}{n n' n'':Nat}(x:Fv gp v H n H' n')(y:Fv gp v' H' n' H'' n'')(h:Sd n v v'):Fv gp v H n H'' n'':=
 ⟨Nat.le_trans x.le y.le,λid hid hg hv=>(y.same id (Nat.lt_of_lt_of_le hid x.le) hg (by
  rcases h with h|h
  ·rw[h];exact hv
  ·intro e;have:=h id e;omega)).trans (x.same id hid hg hv)⟩
theorem Fg.fv{gp:Nat}{H H':Heap}{n n':Nat}(v:V)(x:Fg gp H n H' n'):Fv gp v H n H' n':=⟨x.le,λid h hg _=>x.same id h hg⟩
theorem Fv.get{gp:Nat}{v:V}{H H':Heap}{n n' id:Nat}{b:S9}(x:Fv gp v H n H' n')(h:T.get H id=some b)(hl:id<n)(hg:id≠gp)(hv:v.Ec≠some id):T.get H' id=some b:=(x.same id hl hg hv).trans h
structure Lw(H:Heap)(n gp:Nat)(v:V)(Γ:List Dh):Prop where
 sk:Sk H 3 (λid=>id<n/\id≠gp) v (Γ.map UW)
 lt:Γ.length<=1000
theorem Lw.lv{G:AX}{H:Heap}{n gp:Nat}{v:V}{Γ:List Dh}(h:Lw H n gp v Γ):AOF G H n gp v Γ:=⟨h.sk.el (by omega),λ_ hid=>h.sk.own hid,h.lt⟩
theorem Lw.fg{H H':Heap}{n n' gp:Nat}{v:V}{Γ:List Dh}(h:Lw H n gp v Γ)(f:Fg gp H n H' n'):Lw H' n' gp v Γ:=
 ⟨h.sk.mono (λ_ hid=>⟨Nat.lt_of_lt_of_le hid.1 f.le,hid.2⟩) λid hid=>f.same id hid.1 hid.2,h.lt⟩
theorem Lw.kp{H H':Heap}{n n' gp:Nat}{v:V}{Γ:List Dh}(h:Lw H n gp v Γ)(f:Kp H n H' n'):Lw H' n' gp v Γ:=h.fg (.kp f)
structure Ms(G:AX)(H:Heap)(n gp:Nat)(s:Mg)(Γ:List Dh):Prop where
 m:WC G H gp s
 g:gp<n
 w:Lw H n gp s.vv Γ
 gam:Gam Γ s.names
 inn:s.inn=(0,0)∨s.inn=nA∨s.inn=nB
theorem Ms.mk'{G:AX}{H:Heap}{n gp:Nat}{s:Mg}{Γ:List Dh}(h:Ms G H n gp s Γ):Mk G H n gp s Γ:=⟨h.m,h.g,h.w.lv,h.gam,h.inn⟩
theorem Ms.fg{G:AX}{H H':Heap}{n n' gp a:Nat}{s:Mg}{Γ:List Dh}(h:Ms G H n gp s Γ)(f:Fg gp H n H' n')(m:WC G H' gp (s.to a)):Ms G H' n' gp (s.to a) Γ:=
 ⟨m,Nat.lt_of_lt_of_le h.g f.le,h.w.fg f,h.gam,h.inn⟩
theorem Ms.kp{G:AX}{H H':Heap}{n n' gp:Nat}{s:Mg}{Γ:List Dh}(h:Ms G H n gp s Γ)(f:Kp H n H' n'):Ms G H' n' gp s Γ:=
 ⟨⟨f.get h.m.g h.g,h.m.pk⟩,Nat.lt_of_lt_of_le h.g f.le,h.w.kp f,h.gam,h.inn⟩
def Rv(a b:Nat)(v:V):Nat->Prop:=λid=>a<=id/\id<b/\v.Ec≠some id
def qR(G:AX)(H:Heap)(n gp:Nat)(s:Mg)(Γ:List Dh)(ret:Ty)(c kk:Nat)(k:KV):Prop:=
 ∀H' n' a nm vv ex l st,ex.length<=1->Fv gp s.vv H n H' n'->WC G H' gp (s.st a nm vv)->a<=s.at'+c->s.names<=nm->nm<=s.names+kk->Lw H' n' gp vv (Γ++ex)->Gam (Γ++ex) nm->Sd n s.vv vv->YF G H' (Rv n n' vv) l st->GdS s.inn ret Γ (Γ++ex) kk st->k (.agg l) H' n'
def AVU(G:AX)(H:Heap)(A:Nat->Prop)(v:V)(sts:List Tt):Prop:=∃cs,Sk H 9 A v cs/\JW G H (λid=>A id/\v.Ec≠some id) cs sts
theorem Sk.ks{H:Heap}{z:Nat}{A:Nat->Prop}{v:V}{LS:DZ}(h:Sk H z A v LS):KS v:=by
 cases h with
 |nil=>exact ADm
 |emp=>exact AGa (Nat.le_refl _)
 |PO=>exact AV4 ..
theorem AVU.ss{G:AX}{H:Heap}{A:Nat->Prop}{v:V}{sts:List Tt}(h:AVU G H A v sts):ZM G H A v sts:=by
 obtain⟨cs,h1,h2⟩:=h
 exact⟨cs,h1.el (by omega),h1.ks,h1.ok.1,h1.ok.2.1,λ_ hid=>h1.own hid,JW.mono (λ_ h=>h.1) (λ_ _=>rfl) h2⟩
theorem GdQ.le{inn:St}{ret:Ty}{Γ Γ':List Dh}{l:List Tt}{k k':Nat}(h:GdQ inn ret Γ Γ' k l)(hk:k<=k'):GdQ inn ret Γ Γ' k' l:=λx hx hr n hn=>by
 obtain⟨l',n',h1,h2⟩:=h x hx hr n (by omega)
 exact⟨l',n',h1,by omega⟩
def ATs(G:AX)(H:Heap)(n gp:Nat)(s:Mg)(Γ:List Dh)(ret:Ty)(c kk:Nat)(k:KV):Prop:=
 ∀H' n' a nm vv v sts ex,sts.length<=4->Fv gp s.vv H n H' n'->WC G H' gp (s.st a nm vv)->a<=s.at'+c->s.names<=nm->nm<=s.names+kk->Lw H' n' gp vv Γ->Gam Γ nm->Sd n s.vv vv->AVU G H' (Rv n n' vv) v sts->GdQ s.inn ret Γ (Γ++ex) kk sts->k v H' n'
def sS:Nat->Nat
 |0=>1
 |d+1=>4*sS d
def cS:Nat->Nat
 |0=>1500
 |d+1=>1500+4*cS d
def APL(G:AX)(gp d:Nat):Prop:=∀(ret:Ty) (H:Heap) (n:Nat) (s:Mg) (Γ:List Dh) (k:KV),Lh ret->Ms G H n gp s Γ->s.at'+cS d<100000000000->s.names+sS d<600->Γ.length+sS d<=1000->qR G H n gp s Γ ret (cS d) (sS d) k->
 Runs F G XZ [.ptr gp 0,.int .i64 (.ofNat d) 0,ret.v] H n k
def AGh(G:AX)(gp d:Nat):Prop:=∀(m:Nat) (ret:Ty) (H:Heap) (n:Nat) (s:Mg) (Γ:List Dh) (k:KV),m<=4->Lh ret->Ms G H n gp s Γ->s.at'+m*cS d<100000000000->s.names+m*sS d<600->Γ.length+m*sS d<=1000->ATs G H n gp s Γ ret (m*cS d) (m*sS d) k->
 Runs F G D5 [.ptr gp 0,.int .i64 (.ofNat m) 0,.int .i64 (.ofNat d) 0,ret.v] H n k
structure Bs(H:Heap)(n b gp:Nat)(t:Ty):Prop where
 b1:T.get H b=some (one t.cells)
 b2:T.get H (b+1)=some (one ttZ)
 le:b+2<=n
 g:gp<b
theorem Bs.fg{H H':Heap}{n n' b gp:Nat}{t:Ty}(h:Bs H n b gp t)(f:Fg gp H n H' n'):Bs H' n' b gp t:=by
 have:=h.le;have:=h.g
 exact⟨f.get h.b1 (by omega) (by omega),f.get h.b2 (by omega) (by omega),Nat.le_trans h.le f.le,h.g⟩
theorem Bs.kp{H H':Heap}{n n' b gp:Nat}{t:Ty}(h:Bs H n b gp t)(f:Kp H n H' n'):Bs H' n' b gp t:=h.fg (.kp f)
theorem nS:∀d,1<=sS d
 |0=>Nat.le_refl _
 |d+1=>by have:=nS d;show 1<=4*sS d;omega
theorem APD:∀d,1500<=cS d
 |0=>Nat.le_refl _
 |d+1=>by show 1500<=1500+4*cS d;omega
section
variable{G:AX}{H H0:Heap}{n gp b:Nat}{s:Mg}{Γ:List Dh}{k:KV}{t:Ty}
theorem AIZ{c kk:Nat}{ex:List Dh}{vv:V}{a nm:Nat}{l:LV}{st:Tt}(hex:ex.length<=1)(hp:qR G H0 b gp s Γ t c kk k)(hb:Bs H n b gp t)(f:Fv gp s.vv H0 b H n)(m:WC G H gp (s.st a nm vv))(ha:a<=s.at'+c)(h1:s.names<=nm)(h2:nm<=s.names+kk)
 (hw:Lw H n gp vv (Γ++ex)) (hgam:Gam (Γ++ex) nm) (hsd:Sd b s.vv vv) (hv:∀id,vv.Ec=some id->id≠b+1) (ht:YF G H (Rv (b+2) n vv) l st) (hg:GdS s.inn t Γ (Γ++ex) kk st):
 Bq 9 (.ptr (b+1) 0) (.agg l) H n λ_ H n=>Ej (BO [.cn (.ptr (b+1) 0) 9] G H) λl=>k (DX l) H n:=by
 have:=hb.g
 refine DV hb.b2 rfl ht.len (by omega) λH4 g4 s4=>?_
 rw[D9 (m:=9) g4 (by omega) ht.len]
 simp only[go_sem]
 refine hp H4 n a nm vv ex l st hex ⟨f.le,λid hid hne hv=>(s4 id (by omega)).trans (f.same id hid hne hv)⟩ ⟨(s4 gp (by omega)).trans m.g,m.pk⟩ ha h1 h2 ⟨hw.sk.TV (λid hid=>hw.sk.own hid) λid hid=>s4 id (hv id hid),hw.lt⟩ hgam hsd
  (ht.mono (λid hid=>⟨by have:=hid.1;omega,hid.2⟩) λid hid=>s4 id (by have:=hid.1;omega)) hg
theorem ACf{does c kk a id m:Nat}{es:List Te}(hp:qR G H0 b gp s Γ t c kk k)(h0:Ms G H0 b gp s Γ)(hb:Bs H n b gp t)(f:Fg gp H0 b H n)(m1:WC G H gp (s.to a))(ha:a<=s.at'+c)
 (hes:Qc G H (Rg (b+2) n) (.sl id 0 m m 11) es) (hg:GdS s.inn t Γ Γ 0 (.mk does (0,0) Ox es [] [])):
 Em (.fn BN [] []) [.int .i64 (.ofNat does) 0,.sl id 0 m m 11] (Runs F G) H n λv H n=>Bq 9 (.ptr (b+1) 0) v H n λ_ H n=>Ej (BO [.cn (.ptr (b+1) 0) 9] G H) λl=>k (DX l) H n:=by
 show Runs F G BN [.int .i64 (.ofNat does) 0,.sl id 0 m m 11] H n _
 have hbg:=hb.g
 have hbl:=hb.le
 refine AHR λH1 n1 f1=>?_
 have hn1:=f1.le
 have ff:=f.trans (.kp (gp:=gp) f1)
 have hw:=h0.w.fg ff
 have hlo:∀id,s.vv.Ec=some id->id<b:=λid hid=>(h0.w.sk.own hid).1
 refine AIZ (ex:=[]) (nm:=s.names) (vv:=s.vv) (st:=.mk does (0,0) Ox es [] []) (Nat.zero_le _) hp (hb.kp f1) (ff.fv _) ⟨f1.get m1.g (by omega),m1.pk⟩ ha (Nat.le_refl _) (Nat.le_add_right _ _) (by rw[List.append_nil];exact hw) (by rw[List.append_nil];exact h0.gam) (.inl rfl) (λid hid=>by have:=hlo id hid;omega) (YF.of ?_ .nil .nil) ?_
 ·refine hes.mono (λid hid=>⟨hid.1,by have:=hid.2;omega,λe=>?_⟩) λid hid=>f1.same id hid.2
  have:=hlo id e;have:=hid.1;omega
 ·rw[List.append_nil];exact hg.le (Nat.zero_le _)
theorem ADz{a c kk:Nat}(hp:qR G H0 b gp s Γ t c kk k)(h0:Ms G H0 b gp s Γ)(hb:Bs H n b gp t)(f:Fg gp H0 b H n)(m1:WC G H gp (s.to a))(ha:a+400<=s.at'+c)(hs:s.at'+c<100000000000):
 D8 lfp G (Runs F G) k (.ptr gp 0) (.ptr (b+1) 0) (.fn BN [] []) H n:=by
 delta D8
 have hbl:=hb.le
 refine Oj λH1 n1 f1=>?_
 have hn1:=f1.le
 have mk1:=(h0.mk'.fg f m1).kp f1
 refine P6 3 (by omega) Du H1 n1 (s.to a) Γ _ (.inl rfl) mk1 (by show a+400+2<_;omega) λH2 n2 a2 l e f2 m2 ha2 he hgd=>?_
 have hn2:=f2.le
 have ha2:a2<=a+400:=ha2
 refine Xf he hn2 λH3 f3 hes=>?_
 exact ACf hp h0 ((hb.kp f1).fg f2 |>.kp f3) (((f.trans (.kp f1)).trans f2).trans (.kp f3)) ⟨f3.get m2.g (by have:=hb.g;omega),m2.pk⟩ (a:=a2) (by omega) (hes.mono (λid hid=>⟨by have:=hid.1;omega,hid.2⟩) λ_ _=>rfl) (GdS.prt hgd.int)
end
theorem AYQ:∀a,a<26->AR7 .u8 (.int .i64 (.ofNat a) 0)=some (.int .u8 (.ofNat a) 0):=λa h=>
 match a,h with
 |0,_=>rfl|1,_=>rfl|2,_=>rfl|3,_=>rfl|4,_=>rfl|5,_=>rfl|6,_=>rfl|7,_=>rfl
 |8,_=>rfl|9,_=>rfl|10,_=>rfl|11,_=>rfl|12,_=>rfl|13,_=>rfl|14,_=>rfl|15,_=>rfl
 |16,_=>rfl|17,_=>rfl|18,_=>rfl|19,_=>rfl|20,_=>rfl|21,_=>rfl|22,_=>rfl|23,_=>rfl
 |24,_=>rfl|25,_=>rfl
 |n+26,h=>absurd h (by omega)
theorem AQj:∀a,a<26->B2.ev .add (.int .u8 (.ofNat 97) 0) (.int .u8 (.ofNat a) 0)=some (.int .u8 (.ofNat (97+a)) 0):=λa h=>
 match a,h with
 |0,_=>rfl|1,_=>rfl|2,_=>rfl|3,_=>rfl|4,_=>rfl|5,_=>rfl|6,_=>rfl|7,_=>rfl
 |8,_=>rfl|9,_=>rfl|10,_=>rfl|11,_=>rfl|12,_=>rfl|13,_=>rfl|14,_=>rfl|15,_=>rfl
 |16,_=>rfl|17,_=>rfl|18,_=>rfl|19,_=>rfl|20,_=>rfl|21,_=>rfl|22,_=>rfl|23,_=>rfl
 |24,_=>rfl|25,_=>rfl
 |n+26,h=>absurd h (by omega)
theorem AZs(u:Nat){m:Nat}(hm:0<m):B2.ev .rem (.int .i64 (.ofNat u) 0) (.int .i64 (.ofNat m) 0)=some (.int .i64 (.ofNat (u%m)) 0):=AMc (u:Int) hm
theorem ARe{x:Nat}(h:x<256):Go.DW.byteOf (.int .u8 (.ofNat x) 0)=some x:=by
 show Bool.rec (motive:=λ_=>Option Nat) none (some x) (band true (band (Nat.blt x 256) true))=_
 rw[show Nat.blt x 256=true by rw[Nat.blt_eq];exact h];rfl
def AGd:List Nat->Nat
 |[]=>0
 |x::l=>x+256*AGd l
theorem AL1:∀xs:List Nat,(∀x∈xs,x<256)->yu (xs.map λx=>[V.int .u8 (.ofNat x) 0])=some (AGd xs)
 |[],_=>rfl
 |x::xs,h=>by
  show CZ (Go.DW.byteOf (.int .u8 (.ofNat x) 0)) (λm=>CZ (yu (xs.map λx=>[V.int .u8 (.ofNat x) 0])) λc=>some (m+256*c))=_
  rw[ARe (h x (List.mem_cons_self ..)),SY,AL1 xs λy hy=>h y (List.mem_cons_of_mem _ hy)];rfl
theorem ATZ{G:AX}{H:Heap}{id m:Nat}{xs:List Nat}(h:El G H (.sl id 0 m m 1) 1 (xs.map λx=>[V.int .u8 (.ofNat x) 0]))(hx:∀x∈xs,x<256):AWK (.sl id 0 m m 1) G H=some (.str xs.length (AGd xs)):=by
 show CZ (elems (.sl id 0 m m 1) G H 1) (λl=>CZ (yu l) λc=>f3 (len l) c 0 λn c _=>.str n c)=_
 rw[h.2,SY,AL1 xs hx,SY]
 show Et (len _) (λa=>Et (AGd xs) λb=>Et 0 λ_=>some (.str a b))=_
 rw[DK,DK,DK,len_eq,List.length_map]
theorem AU9(c:Nat):B2.ev .add (.str 1 118) (.str 2 c)=some (.str 3 (118+256*c)):=by
 show CG true (Et 3 λn=>Et (118+256^1*c) λe=>some (.str n e))=_
 rw[DK,DK];rfl
theorem AU0(c:Nat):B2.ev .add (.str 1 112) (.str 1 c)=some (.str 2 (112+256*c)):=by
 show CG true (Et 2 λn=>Et (112+256^1*c) λe=>some (.str n e))=_
 rw[DK,DK];rfl
theorem AU8(k:Nat):V.str 3 (118+256*AGd [97+k/26%26,97+k%26])=(nmV k).v:=by
 show V.str 3 (118+256*(97+k/26%26+256*(97+k%26+256*0)))=V.str 3 (118+256*(97+k/26%26)+65536*(97+k%26))
 congr 1;omega
section
variable{G:AX}{H H0:Heap}{n gp b:Nat}{s:Mg}{Γ:List Dh}{k:KV}{t:Ty}
theorem ATg{a c kk d:Nat}{v14:V}(hp:qR G H0 b gp s Γ t c kk k)(h0:Ms G H0 b gp s Γ)(hb:Bs H n b gp t)(f:Fg gp H0 b H n)(m1:WC G H gp (s.to a))(ha:a+200<=s.at'+c)(hs:s.at'+c<100000000000)(hkk:1<=kk)(hnm:s.names+1<600)(hl:Γ.length+1<=1000):
 FI lfp G (Runs F G) k (.ptr gp 0) (.int .i64 (.ofNat d) 0) (.ptr b 0) (.ptr (b+1) 0) (.fn BN [] []) v14 (.bool true) H n:=by
 delta FI
 rw[Ar]
 have hbl:=hb.le
 have hbg:=hb.g
 have mk0:=h0.mk'.fg f m1
 have hlo:∀id,s.vv.Ec=some id->id<b:=λid hid=>(h0.w.sk.own hid).1
 refine AYK mk0 (by show a<_;omega) λH1 n1 a1 ty hty ha1 f1 m1=>?_
 have ha1:a1<=a+1:=ha1
 have hn1:=f1.le
 refine Az rfl λH2 f2 g2=>?_
 refine DV g2 rfl rfl (by omega) λH3 g3 s3=>?_
 have f23:Kp H1 n1 H3 (n1+1):=⟨f2.le,λid hid=>(s3 id (by omega)).trans (f2.same id hid)⟩
 have ff3:=f1.trans (.kp (gp:=gp) f23)
 have mk3:=mk0.fg (a:=a1) ff3 ⟨f23.get m1.g (by omega),m1.pk⟩
 refine AB (Bf (m:=2) g3 (by omega) rfl) ?_
 refine P6 2 (by omega) ty H3 (n1+1) (s.to a1) Γ _ hty mk3 (by show a1+130+2<_;omega) λH4 n4 a2 l e f4 m4 ha2 he hgd=>?_
 have ha2:a2<=a1+130:=ha2
 have hn4:=f4.le
 have g4:=f4.get g3 (by omega) (by omega)
 refine Xf he hn4 λH5 f5 hes=>?_
 show Runs F G BN [.int .i64 (.ofNat 1) 0,.sl n4 0 1 1 11] H5 (n4+1) _
 refine AHR λH6 n6 f6=>?_
 have hn6:=f6.le
 have f56:=f5.trans f6
 have g6:=f56.get g4 (by omega)
 refine Az rfl λH7 f7 g7=>?_
 refine DV g7 rfl rfl (by omega) λH8 g8 s8=>?_
 have f68:Kp H6 n6 H8 (n6+1):=⟨f7.le,λid hid=>(s8 id (by omega)).trans (f7.same id hid)⟩
 have f58:=f56.trans f68
 have ff8:Fg gp H0 b H8 (n6+1):=((f.trans ff3).trans f4).trans (.kp f58)
 have q8:=f68.get g6 (by omega)
 have hb8:Bs H8 (n6+1) b gp t:=((hb.fg ff3).fg f4).kp f58
 have AZR:Qc G H8 (Rg (b+2) n6) (.sl n4 0 1 1 11) [e]:=hes.mono (λid hid=>⟨by have:=hid.1;omega,by have:=hid.2;omega⟩) λid hid=>(f6.trans f68).same id hid.2
 have m8:T.get H8 gp=some (one (s.to a2).cells):=f58.get m4.g (by omega)
 have q1:AY (.ptr gp 3) G H8=some (.int .i64 (.ofNat s.names) 0):=AV m8 rfl
 simp only[go_sem,CO,Nat.reduceAdd,q1,FB (show s.names+1<9223372036854775808 by omega)]
 refine Jm (off:=3) (m:=1) m8 rfl rfl (by omega) (by show 3+1<=5;omega) λH9 g9 s9=>?_
 have m9:T.get H9 gp=some (one ({s.to a2 with names:=s.names+1}:Mg).cells):=g9
 have q2:AY (.ptr gp 3) G H9=some (.int .i64 (.ofNat (s.names+1)) 0):=AV m9 rfl
 generalize hk1:s.names+1=kn at*
 simp only[go_sem,CO,Nat.reduceAdd,q2,AXW kn (show 0<26 by omega) (by omega),AZs _ (show 0<26 by omega),AYQ _ (Nat.mod_lt _ (show 0<26 by omega)),AQj _ (Nat.mod_lt _ (show 0<26 by omega))]
 refine WU (G:=G) (vs:=[.int .u8 (.ofNat (97+kn/26%26)) 0,.int .u8 (.ofNat (97+kn%26)) 0]) rfl (by omega) (λv hv=>by simp at hv;rcases hv with rfl|rfl<;>exact⟨rfl,rfl⟩) λH10 f10 _ hel=>?_
 have hb1:97+kn/26%26<256:=by omega
 have hb2:97+kn%26<256:=by omega
 refine AB (ATZ (xs:=[97+kn/26%26,97+kn%26]) hel (λx hx=>by simp at hx;rcases hx with rfl|rfl<;>assumption)) ?_
 refine AB (AU9 _) ?_
 rw[AU8]
 have AC5:∀id,id<n6+1->id≠gp->T.get H10 id=T.get H8 id:=λid hid hne=>(f10.same id hid).trans (s9 id hne)
 have g10:T.get H10 n6=_:=(AC5 n6 (by omega) (by omega)).trans g8
 have q10:T.get H10 n1=_:=(AC5 n1 (by omega) (by omega)).trans q8
 have m10:=f10.get m9 (by omega)
 refine Jm (off:=3) (m:=1) (v:=(nmV kn).v) g10 rfl rfl (by omega) (by show 3+1<=9;omega) λH11 g11 s11=>?_
 have q11:T.get H11 n1=_:=(s11 n1 (by omega)).trans q10
 refine AB (Bf (m:=2) q11 (by omega) rfl) ?_
 refine Jm (off:=4) (m:=2) (v:=.agg ty.cells) g11 rfl rfl (by omega) (by show 4+2<=9;omega) λH12 g12 s12=>?_
 have q12:T.get H12 n1=_:=(s12 n1 (by omega)).trans q11
 have m12:T.get H12 gp=_:=(s12 gp (by omega)).trans ((s11 gp (by omega)).trans m10)
 have q3:AY (.ptr gp 2) G H12=some s.vv:=AV m12 rfl
 have q4:AY (.ptr n6 3) G H12=some (nmV kn).v:=AV g12 rfl
 have q5:Ag 2 (.ptr n1 0) G H12=some (.agg ty.cells):=Bf q12 (by omega) rfl
 simp only[go_sem,CO,Nat.reduceAdd,q3,q4,q5]
 rw[show Dv [.str 0 0,.str 0 0,.bool false] [(0,1,.c (nmV kn).v),(1,2,.c (.agg ty.cells))]=some (.agg (UW ⟨nmV kn,ty⟩))from rfl,AQ]
 have AHD:∀id,id<n6->id≠gp->T.get H12 id=T.get H8 id:=λid hid hne=>(s12 id (by omega)).trans ((s11 id (by omega)).trans (AC5 id (by omega) hne))
 have AbJ:Fg gp H8 n6 H12 (n6+1+1):=⟨by omega,AHD⟩
 have AXn:Lw H12 (n6+1+1) gp s.vv Γ:=⟨h0.w.sk.mono (λid hid=>⟨by omega,hid.2⟩) λid hid=>(AHD id (by omega) hid.2).trans (ff8.same id hid.1 hid.2),h0.w.lt⟩
 refine AXn.sk.app (bs:=40) (c:=.agg (UW ⟨nmV kn,ty⟩)) (m:=0) (λid hid=>(AXn.sk.own hid).1) (by omega) rfl rfl (by rw[List.length_map];omega) λv' H13 hs13 same13 hsid=>?_
 rw[show s.vv=s.vv from rfl]at same13
 have AOi:∀id,id<n6+1+1->b<=id∨id=gp->T.get H13 id=T.get H12 id:=λid hid hor=>same13 id hid λe=>by
  rcases hor with h|h
  ·have:=hlo id e;omega
  ·exact(h0.w.sk.own e).2 h
 have m13:T.get H13 gp=_:=(AOi gp (by omega) (.inr rfl)).trans m12
 have g13:T.get H13 n6=_:=(AOi n6 (by omega) (.inl (by omega))).trans g12
 have hsk13:=hs13 (λid=>id<n6+1+1+2/\id≠gp) ⟨by omega,by omega⟩
 refine Jm (off:=2) (m:=1) (v:=v') m13 hsk13.ok.1 (by rw[hsk13.ok.2.1];rfl) (by omega) (by show 2+1<=5;omega) λH14 g14 s14=>?_
 rw[hsk13.ok.2.1]at g14
 have g6b:T.get H14 n6=_:=(s14 n6 (by omega)).trans g13
 refine AB (Bf (m:=9) g6b (by omega) rfl) ?_
 have AKV:∀id,b<=id->id<n6->T.get H14 id=T.get H8 id:=λid h1 h2=>(s14 id (by omega)).trans ((AOi id (by omega) (.inl h1)).trans (AHD id h2 (by omega)))
 have AaB:Bs H14 (n6+1+1+2) b gp t:=⟨(AKV b (by omega) (by omega)).trans hb8.b1,(AKV (b+1) (by omega) (by omega)).trans hb8.b2,by omega,hbg⟩
 refine AIZ (ex:=[⟨nmV kn,ty⟩]) (vv:=v') (a:=a2) (nm:=kn) (l:=ttC 1 0 0 (nmV kn) ty (.sl n4 0 1 1 11) .Ad .Ad) (st:=.mk 1 (nmV kn) ty [e] [] []) (Nat.le_refl _) hp AaB ?_ ⟨g14,m1.pk⟩ (by omega) (by omega) (by omega) ⟨?_,by rw[List.length_append];exact hl⟩ ?_ (.inr λid hid=>?_) ?_ (YF.of ?_ .nil .nil) ?_
 ·refine⟨by omega,λid h1 h2 h3=>?_⟩
  exact(s14 id h2).trans ((same13 id (by omega) h3).trans ((AHD id (by omega) h2).trans (ff8.same id h1 h2)))
 ·rw[List.map_append]
  exact hsk13.TV (λid hid=>hsk13.own hid) λid hid=>s14 id (hsk13.own hid).2
 ·rw[<-hk1];exact h0.gam.add (by omega) hty
 ·rw[hsid]at hid;cases hid;omega
 ·intro id hid;rw[hsid]at hid;cases hid;omega
 ·refine AZR.mono (λid hid=>⟨hid.1,by have:=hid.2;omega,λe=>?_⟩) λid hid=>AKV id (by have:=hid.1;omega) hid.2
  rw[hsid]at e;cases e;have:=hid.2;omega
 ·obtain⟨u,r,hu,_⟩:=hgd.ex
  have hgl:=h0.gam.fresh (by omega:s.names+1<676)
  rw[hk1]at hgl
  exact(GdS.lt hty hu r (AFW hgl)).le hkk
end
theorem Rv.fv{a b a' n':Nat}{v v':V}(sd:Sd b v v')(ha:a'<=a)(hb:b<=n'):∀id,Rv a b v id->Rv a' n' v' id:=λid hid=>⟨Nat.le_trans ha hid.1,Nat.lt_of_lt_of_le hid.2.1 hb,λe=>by
 rcases sd with sd|sd
 ·exact hid.2.2 (sd.symm.trans e)
 ·have:=sd id e;have:=hid.2.1;omega⟩
theorem ZM.fv{G:AX}{H H':Heap}{a b a' n' gp:Nat}{v v' w:V}{sts:List Tt}(h:ZM G H (Rv a b v) w sts)(f:Fv gp v H b H' n')(hg:gp<a)(sd:Sd b v v')(ha:a'<=a):ZM G H' (Rv a' n' v') w sts:=
 h.mono (Rv.fv sd ha f.le) λid hid=>f.same id hid.2.1 (by have:=hid.1;omega) hid.2.2
theorem KS.ok{G:AX}{H:Heap}{A:Nat->Prop}{v:V}{sts:List Tt}(h:ZM G H A v sts):jZ v=true/\Ba v=[v]:=by
 obtain⟨cs,_,_,h1,h2,_⟩:=h;exact⟨h1,h2⟩
section
variable{G:AX}{H:Heap}{n gp b:Nat}{s:Mg}{Γ:List Dh}{k:KV}{t:Ty}
theorem ARD{d:Nat}(hB:AGh G gp d)(hd:d<1000)(ht:Lh t)(hb:Bs H n b gp t)(h:Ms G H n gp s Γ)(hs:s.at'+1+2*cS d<100000000000)(hnm:s.names+2*sS d<600)(hl:Γ.length+2*sS d<=1000)
 (hk:ATs G H n gp s Γ t (1+2*cS d) (2*sS d) k):
 AP (B2.ev .sub (.int .i64 (.ofNat (d+1)) 0) (.int .i64 (.ofNat 1) 0)) λv138=>AP (Ag 2 (.ptr b 0) G H) λv139=>Runs F G AZ [.ptr gp 0,.int .i64 (.ofNat 3) 0] H n λv140 H n=>AP (Ag 2 (.ptr b 0) G H) λv=>ER (Aw v v139) <|
  Runs F G D5 [.ptr gp 0,v140,v138,v139] H n k:=by
 have hbl:=hb.le
 have hbg:=hb.g
 rw[ADY d hd,AQ]
 refine AB (DT hb.b1) ?_
 refine JI h.m (by omega) (by omega) (by omega) λH1 r a1 hr ha1 m1 s1=>?_
 have f1:Fg gp H n H1 n:=⟨Nat.le_refl _,λid _ hne=>s1 id hne⟩
 refine AB (DT ((hb.fg f1).b1)) (Di (Ld t) ?_)
 have e1:r*cS d<=2*cS d:=Nat.mul_le_mul_right _ (by omega)
 have e2:r*sS d<=2*sS d:=Nat.mul_le_mul_right _ (by omega)
 refine hB r t H1 n (s.to a1) Γ _ (by omega) ht (h.fg f1 m1) (by show a1+_<_;omega) (by show s.names+_<_;omega) (by omega) ?_
 intro H' n' a nm vv v sts ex x0 x1 x2 x3 x4 x5 x6 x7 x8 x9 x10
 have x3:a<=a1+r*cS d:=x3
 have x5:nm<=s.names+r*sS d:=x5
 exact hk H' n' a nm vv v sts ex x0 ((f1.fv s.vv).trans x1 (Sd.refl ..)) x2 (by omega) x4 (by omega) x6 x7 x8 x9 (x10.le e2)
end
section
variable{G:AX}{H H0:Heap}{n gp b:Nat}{s:Mg}{Γ:List Dh}{k:KV}{t:Ty}
theorem AVL{c kk a:Nat}{P:V->Prop}(hp:qR G H0 b gp s Γ t c kk k)(h0:Ms G H0 b gp s Γ)(hb:Bs H n b gp t)(f:Fg gp H0 b H n)(m1:WC G H gp (s.to a))(ha:a+500<=s.at'+c)(hs:s.at'+c<100000000000):
 AP (Ap (.ptr gp 0)) λv63=>AP (AU 2 v63) λv64=>AP (AY v64 G H) λv65=>AP (lenV v65) λv66=>AP (B2.ev .gtr v66 (.int .i64 (.ofNat 0) 0)) λv67=>
 Ae v67 true (AP (Ap (.ptr gp 0)) λv68=>AP (AU 2 v68) λv69=>AP (AY v69 G H) λv70=>AP (Ap (.ptr gp 0)) λv71=>AP (AU 2 v71) λv72=>AP (AY v72 G H) λv73=>AP (lenV v73) λv74=>
  Bh (Au 3 [[.str 0 0,.str 0 0,.bool false]] E0) H n λv75 H n=>Runs F G AZ [.ptr gp 0,v74] H n λv76 H n=>AP (AY v69 G H) λv=>ER (Aw v v70) <|
  AP (BD 3 v70 v76) λv77=>AP (Ag 3 v77 G H) λv78=>Bq 3 v75 v78 H n λv79 H n=>AP (AU 0 v75) λv80=>AP (AY v80 G H) λv81=>AP (AU 1 v75) λv82=>AP (Ag 2 v82 G H) λv83=>
  Runs F G Ai [.int .i64 (.ofNat 6) 0,v81,.Ad] H n λv84 H n=>AP (Ag 2 v82 G H) λv=>ER (Aw v v83) <|
  Runs F G Ah [.ptr gp 0,v83,.int .i64 (.ofNat 3) 0] H n λv85 H n=>Bh (Af 11 2 teZ [(0,.c v84),(1,.c v85)] E0) H n λv86 H n=>
  Em (.fn BN [] []) [.int .i64 (.ofNat 2) 0,v86] (Runs F G) H n λv87 H n=>Bq 9 (.ptr (b+1) 0) v87 H n λv88 H n=>Ej (BO [.cn (.ptr (b+1) 0) 9] G H) λl=>k (DX l) H n)
  (D8 lfp G (Runs F G) k (.ptr gp 0) (.ptr (b+1) 0) (.fn BN [] []) H n):=by
 have hbl:=hb.le
 have hbg:=hb.g
 have hw:=h0.w.fg f
 have hv:=hw.lv (G:=G)
 have hvs:Aw s.vv s.vv=true:=hw.sk.ok.2.2
 have q2:∀{H':Heap} {a':Nat},WC G H' gp (s.to a')->AY (.ptr gp 2) G H'=some s.vv:=λm=>AV m.g rfl
 have hlen:=hv.el.len
 rw[List.length_map]at hlen
 rw[CO,AQ,Am,AQ,Nat.zero_add,q2 m1,AQ,hlen,AQ,N9,AQ]
 cases hz:decide (0<Γ.length)with
 |false=>rw[Aj];exact ADz hp h0 hb f m1 (by omega) hs
 |true=>
 rw[Ar,AQ,Am,AQ,Nat.zero_add,q2 m1,AQ,AQ,Am,AQ,Nat.zero_add,q2 m1,AQ,hlen,AQ]
 have hz:=of_decide_eq_true hz
 refine Az rfl λH1 f1 g1=>?_
 have m1':WC G H1 gp (s.to a):=⟨f1.get m1.g (by omega),m1.pk⟩
 refine JI m1' hz (by have:=hw.lt;omega) (by show a<_;omega) λH2 r a2 hr ha2 m2 s2=>?_
 have ha2:a2<=a+1:=ha2
 refine AB (q2 m2) (Di hvs ?_)
 have ff2:Fg gp H n H2 (n+1):=⟨by omega,λid hid hne=>(s2 id hne).trans (f1.same id hid)⟩
 have hv2:=hv.fg ff2
 obtain⟨p,hpp,hld⟩:=hv2.el.at (i:=r) (c:=UW Γ[r]) (by simp[hr])
 have hmem:Γ[r]∈Γ:=List.getElem_mem hr
 generalize Γ[r]=x at hld hmem
 refine AB hpp (AB (Dx hld) ?_)
 have g2:T.get H2 n=_:=(s2 n (by omega)).trans g1
 refine DV g2 rfl rfl (by omega) λH3 g3 s3=>?_
 rw[Ee,AQ]
 refine AB (AV (off:=0) g3 (v:=x.nm.v) rfl) ?_
 rw[Am,AQ]
 have qt:∀{H':Heap},T.get H' n=some (one (UW x))->Ag 2 (.ptr n (0+1)) G H'=some x.ty.v:=λg=>EM (off:=0+1) (m:=2) g (by omega) (by show 0+1+2<=3;omega)
 refine AB (qt g3) ?_
 refine uZ (kind:=6) (nm:=x.nm) (.inl rfl) λH4 n4 f4=>?_
 have hn4:=f4.le
 refine AB (qt (f4.get g3 (by omega))) (Di (Ld x.ty) ?_)
 have ff4:Fg gp H n H4 n4:=⟨by omega,λid hid hne=>(f4.same id (by omega)).trans ((s3 id (by omega)).trans (ff2.same id hid hne))⟩
 have m4:WC G H4 gp (s.to a2):=⟨f4.get ((s3 gp (by omega)).trans m2.g) (by omega),m1.pk⟩
 have hty:Lh x.ty:=h0.gam.ty x hmem
 have mk4:=h0.mk'.fg (f.trans ff4) m4
 refine P6 3 (by omega) x.ty H4 n4 (s.to a2) Γ _ hty mk4 (by show a2+400+2<_;omega) λH5 n5 a3 l e f5 m5 bU he hgd=>?_
 have bU:a3<=a2+400:=bU
 have hn5:=f5.le
 have he1:GN G H5 (Rg (b+2) n5) (XL 6 0 x.nm Ox Ox (0,0) 0 0 .Ad) (.mk 6 0 x.nm Ox Ox (0,0) []):=GN.of .nil
 have he2:GN G H5 (Rg (b+2) n5) l e:=he.mono (λid hid=>⟨by have:=hid.1;omega,hid.2⟩) λ_ _=>rfl
 refine iF he1 he2 (by omega) λH6 f6 hes=>?_
 obtain⟨u,hu,hgu,_⟩:=hgd.ex
 exact ACf hp h0 (((hb.fg ff4).fg f5).kp f6) ((f.trans ff4).trans (f5.trans (.kp f6))) ⟨f6.get m5.g (by omega),m5.pk⟩ (a:=a3) (by omega) hes (GdS.put (Gd.loc (ACi h0.gam.nd hmem)) hgu hu)
end
section
variable{G:AX}{H H0:Heap}{n gp b:Nat}{s:Mg}{Γ:List Dh}{k:KV}{t:Ty}
theorem APW{a does:Nat}{P:KV}(h0:Ms G H0 b gp s Γ)(hb:Bs H n b gp t)(f:Fg gp H0 b H n)(m1:WC G H gp (s.to a))(hs:a+200<100000000000)
 (hk:∀H' n' a' c id e,Fg gp H0 b H' n'->Bs H' n' b gp t->WC G H' gp (s.to a')->a'<=a+130->b+2<=c->c<n'->T.get H' c=some (one (ttC does 0 0 (0,0) Ox (.sl id 0 1 1 11) .Ad .Ad))->Qc G H' (Rg (b+2) c) (.sl id 0 1 1 11) [e]->Gd s.inn Γ e CJ->P (.ptr c 0) H' n'):
 Runs F G ES [] H n λv132 H n=>Runs F G Ah [.ptr gp 0,v132,.int .i64 (.ofNat 2) 0] H n λv133 H n=>Bh (Af 11 1 teZ [(0,.c v133)] E0) H n λv134 H n=>
  Em (.fn BN [] []) [.int .i64 (.ofNat does) 0,v134] (Runs F G) H n λv135 H n=>Bh (Au 9 [ttZ] E0) H n λv136 H n=>Bq 9 v136 v135 H n λ_ H n=>P v136 H n:=by
 have hbl:=hb.le
 have hbg:=hb.g
 refine UC λH1 n1 f1=>?_
 have hn1:=f1.le
 have mk1:=(h0.mk'.fg f m1).kp f1
 refine P6 2 (by omega) CJ H1 n1 (s.to a) Γ _ (.inr (.inl rfl)) mk1 (by show a+130+2<_;omega) λH2 n2 a2 l e f2 m2 ha2 he hgd=>?_
 have ha2:a2<=a+130:=ha2
 have hn2:=f2.le
 refine Xf he hn2 λH3 f3 hes=>?_
 show Runs F G BN [.int .i64 (.ofNat does) 0,.sl n2 0 1 1 11] H3 (n2+1) _
 refine AHR λH4 n4 f4=>?_
 have hn4:=f4.le
 refine Az rfl λH5 f5 g5=>?_
 refine DV g5 rfl rfl (by omega) λH6 g6 s6=>?_
 have f46:Kp H4 n4 H6 (n4+1):=⟨f5.le,λid hid=>(s6 id (by omega)).trans (f5.same id hid)⟩
 have f36:=f4.trans f46
 have f26:=f3.trans f36
 refine hk H6 (n4+1) a2 n4 n2 e (((f.trans (.kp f1)).trans f2).trans (.kp f26)) (((hb.kp f1).fg f2).kp f26) ⟨f26.get m2.g (by omega),m2.pk⟩ ha2 (by omega) (by omega) g6 ?_ hgd.bool
 exact hes.mono (λid hid=>⟨by have:=hid.1;omega,by have:=hid.2;omega⟩) λid hid=>f36.same id hid.2
theorem AOg(h0:Ms G H0 b gp s Γ):∀id,s.vv.Ec=some id->id<b:=λid hid=>(h0.w.sk.own hid).1
theorem Bs.fv{H':Heap}{n':Nat}{v:V}(h:Bs H n b gp t)(f:Fv gp v H n H' n')(hv:∀id,v.Ec=some id->id<b∨b+2<=id):Bs H' n' b gp t:=by
 have:=h.le;have:=h.g
 exact⟨f.get h.b1 (by omega) (by omega) (λe=>by have:=hv _ e;omega),f.get h.b2 (by omega) (by omega) (λe=>by have:=hv _ e;omega),Nat.le_trans h.le f.le,h.g⟩
theorem AZl{a c kk d:Nat}(hB:AGh G gp d)(hd:d<1000)(ht:Lh t)(hp:qR G H0 b gp s Γ t c kk k)(h0:Ms G H0 b gp s Γ)(hb:Bs H n b gp t)(f:Fg gp H0 b H n)(m1:WC G H gp (s.to a))(ha:a+200+4*cS d<=s.at'+c)(hs:s.at'+c<100000000000)
 (hkk:4*sS d<=kk) (hnm:s.names+kk<600) (hl:Γ.length+2*sS d<=1000):
 Runs F G ES [] H n λv132 H n=>Runs F G Ah [.ptr gp 0,v132,.int .i64 (.ofNat 2) 0] H n λv133 H n=>Bh (Af 11 1 teZ [(0,.c v133)] E0) H n λv134 H n=>
  Em (.fn BN [] []) [.int .i64 (.ofNat 4) 0,v134] (Runs F G) H n λv135 H n=>Bh (Au 9 [ttZ] E0) H n λv136 H n=>Bq 9 v136 v135 H n λ_ H n=>
  AP (B2.ev .sub (.int .i64 (.ofNat (d+1)) 0) (.int .i64 (.ofNat 1) 0)) λv138=>AP (Ag 2 (.ptr b 0) G H) λv139=>Runs F G AZ [.ptr gp 0,.int .i64 (.ofNat 3) 0] H n λv140 H n=>AP (Ag 2 (.ptr b 0) G H) λv=>ER (Aw v v139) <|
  Runs F G D5 [.ptr gp 0,v140,v138,v139] H n λv141 H n=>AP (AU 7 v136) λv142=>Bq 1 v142 v141 H n λv143 H n=>
  AP (B2.ev .sub (.int .i64 (.ofNat (d+1)) 0) (.int .i64 (.ofNat 1) 0)) λv144=>AP (Ag 2 (.ptr b 0) G H) λv145=>Runs F G AZ [.ptr gp 0,.int .i64 (.ofNat 3) 0] H n λv146 H n=>AP (Ag 2 (.ptr b 0) G H) λv=>ER (Aw v v145) <|
  Runs F G D5 [.ptr gp 0,v146,v144,v145] H n λv147 H n=>AP (AU 8 v136) λv148=>Bq 1 v148 v147 H n λv149 H n=>AP (Ag 9 v136 G H) λv150=>Bq 9 (.ptr (b+1) 0) v150 H n λv151 H n=>Ej (BO [.cn (.ptr (b+1) 0) 9] G H) λl=>k (DX l) H n:=by
 have hbg:=hb.g
 have hlo:=AOg h0
 refine APW h0 hb f m1 (by omega) λH1 n1 a1 q id e f1 hb1 m1 ha1 hq1 hq2 g1 hes hgd=>?_
 have ms1:Ms G H1 n1 gp (s.to a1) Γ:=h0.fg f1 m1
 have hkp:=nS d
 refine ARD hB hd ht hb1 ms1 (by show a1+1+_<_;omega) (by show s.names+_<_;omega) hl ?_
 intro H2 n2 a2 nm2 vv2 v2 th ex2 z2 f2 m2 ha2 hnA hnB hw2 hgam2 sd2 ht2 hg2
 have ht2:=ht2.ss
 have hg2:=hg2.blk
 have ha2:a2<=a1+(1+2*cS d):=ha2
 have hnA:s.names<=nm2:=hnA
 have hnB:nm2<=s.names+2*sS d:=hnB
 have f2:Fv gp s.vv H1 n1 H2 n2:=f2
 have sd2:Sd n1 s.vv vv2:=sd2
 have hn2:=f2.le
 have q2:T.get H2 q=_:=f2.get g1 hq2 (by omega) λe=>by have:=hlo _ e;omega
 have ok2:=KS.ok ht2
 rw[Am,AQ]
 refine Jm (off:=0+7) (m:=1) (v:=v2) q2 ok2.1 (by rw[ok2.2];rfl) (by omega) (by show 0+7+1<=9;omega) λH3 g3 s3=>?_
 rw[ok2.2]at g3
 have hv2:∀id,vv2.Ec=some id->id<b∨n1<=id:=λid hid=>by
  rcases sd2 with h|h
  ·exact .inl (hlo id (h.symm.trans hid))
  ·exact .inr (h id hid)
 have hb3:Bs H3 n2 b gp t:=by
  have hb2:=hb1.fv f2 λid hid=>.inl (hlo id hid)
  exact⟨(s3 b (by omega)).trans hb2.b1,(s3 (b+1) (by omega)).trans hb2.b2,hb2.le,hbg⟩
 have ms3:Ms G H3 n2 gp ((s.to a1).st a2 nm2 vv2) Γ:=⟨⟨(s3 gp (by omega)).trans m2.g,m2.pk⟩,by have:=ms1.g;omega,⟨hw2.sk.TV (λid hid=>hw2.sk.own hid) λid hid=>s3 id λe=>by subst e;have:=hv2 _ hid;omega,hw2.lt⟩,hgam2,h0.inn⟩
 have ht3:ZM G H3 (Rv n1 n2 vv2) v2 th:=ht2.mono (λ_ h=>h) λid hid=>s3 id (by have:=hid.1;omega)
 refine ARD hB hd ht hb3 ms3 (by show a2+1+_<_;omega) (by show nm2+_<_;omega) hl ?_
 intro H4 n4 a4 nm4 vv4 v4 el ex4 z4 f4 m4 yh hnC hnD hw4 hgam4 sd4 ht4 hg4
 have ht4:=ht4.ss
 have hg4:=hg4.blk
 have yh:a4<=a2+(1+2*cS d):=yh
 have hnC:nm2<=nm4:=hnC
 have hnD:nm4<=nm2+2*sS d:=hnD
 have f4:Fv gp vv2 H3 n2 H4 n4:=f4
 have sd4:Sd n2 vv2 vv4:=sd4
 have hn4:=f4.le
 have hq:∀id,id<n1->b<=id->vv2.Ec≠some id:=λid h1 h2 e=>by have:=hv2 _ e;omega
 have q4:T.get H4 q=_:=f4.get g3 (by omega) (by omega) (hq q hq2 (by omega))
 have ok4:=KS.ok ht4
 rw[Am,AQ]
 refine Jm (off:=0+8) (m:=1) (v:=v4) q4 ok4.1 (by rw[ok4.2];rfl) (by omega) (by show 0+8+1<=9;omega) λH5 g5 s5=>?_
 rw[ok4.2]at g5
 have hv4:∀id,vv4.Ec=some id->id<b∨n1<=id:=λid hid=>by
  rcases sd4 with h|h
  ·exact hv2 id (h.symm.trans hid)
  ·have:=h id hid;omega
 refine AB (Bf (m:=9) g5 (by omega) rfl) ?_
 have AZS:Sd n1 s.vv vv4:=sd2.trans sd4 hn2
 have hes5:Qc G H5 (Rv (b+2) n4 vv4) (.sl id 0 1 1 11) [e]:=by
  have x0:Qc G H3 (Rg (b+2) q) (.sl id 0 1 1 11) [e]:=hes.mono (λ_ h=>h) λi h=>(s3 i (by have:=h.2;omega)).trans (f2.same i (by have:=h.2;omega) (by have:=h.1;omega) λe=>by have:=hlo _ e;have:=h.1;omega)
  exact x0.mono (λi h=>⟨h.1,by have:=h.2;omega,λe=>by have:=hv4 _ e;have:=h.1;have:=h.2;omega⟩) λi h=>(s5 i (by have:=h.2;omega)).trans (f4.same i (by have:=h.2;omega) (by have:=h.1;omega) (hq i (by have:=h.2;omega) (by have:=h.1;omega)))
 have ht5:ZM G H5 (Rv (b+2) n4 vv4) v2 th:=(ht3.fv f4 (by have:=ms1.g;omega) sd4 (show n1<=n1 from Nat.le_refl _)).mono (λi h=>⟨by have:=h.1;omega,h.2⟩) λi h=>s5 i (by have:=h.1;omega)
 have hl5:ZM G H5 (Rv (b+2) n4 vv4) v4 el:=ht4.mono (λi h=>⟨by have:=h.1;omega,h.2⟩) λi h=>s5 i (by have:=h.1;omega)
 have hb5:Bs H5 n4 b gp t:=by
  have hb4:=hb3.fv f4 λid hid=>(hv2 id hid).imp_right λh=>by omega
  exact⟨(s5 b (by omega)).trans hb4.b1,(s5 (b+1) (by omega)).trans hb4.b2,hb4.le,hbg⟩
 refine AIZ (ex:=[]) (vv:=vv4) (nm:=nm4) (a:=a4) (l:=ttC 4 0 0 (0,0) Ox (.sl id 0 1 1 11) v2 v4) (st:=.mk 4 (0,0) Ox [e] th el) (Nat.zero_le _) hp hb5 ?_ ⟨(s5 gp (by omega)).trans m4.g,m4.pk⟩ (by omega) (by omega) (by omega) ?_ ?_ ?_ (λi hi=>by have:=hv4 i hi;omega) (YF.of hes5 ht5 hl5) ?_
 ·refine⟨by have:=f1.le;omega,λi h1 h2 h3=>?_⟩
  have hne:vv2.Ec≠some i:=λe=>by
   rcases sd2 with h|h
   ·exact h3 (h.symm.trans e)
   ·have:=h i e;have:=f1.le;omega
  exact(s5 i (by omega)).trans ((f4.same i (by have:=f1.le;omega) h2 hne).trans ((s3 i (by omega)).trans ((f2.same i (by have:=f1.le;omega) h2 h3).trans (f1.same i h1 h2))))
 ·rw[List.append_nil]
  exact⟨hw4.sk.TV (λid hid=>hw4.sk.own hid) λid hid=>s5 id λe=>by subst e;have:=hv4 _ hid;omega,hw4.lt⟩
 ·rw[List.append_nil];exact hgam4
 ·rcases AZS with h|h
  ·exact .inl h
  ·exact .inr λi hi=>by have:=h i hi;omega
 ·rw[List.append_nil]
  exact(GdS.cond (.inl rfl) hgd hg2 hg4 (by omega) (by omega)).le (by omega)
end
section
variable{G:AX}{H H0:Heap}{n gp b:Nat}{s:Mg}{Γ:List Dh}{k:KV}{t:Ty}
theorem AS7{a c kk d:Nat}(hB:AGh G gp d)(hd:d<1000)(ht:Lh t)(hp:qR G H0 b gp s Γ t c kk k)(h0:Ms G H0 b gp s Γ)(hb:Bs H n b gp t)(f:Fg gp H0 b H n)(m1:WC G H gp (s.to a))(ha:a+200+4*cS d<=s.at'+c)(hs:s.at'+c<100000000000)
 (hkk:4*sS d<=kk) (hnm:s.names+kk<600) (hl:Γ.length+2*sS d<=1000):
 Runs F G ES [] H n λv132 H n=>Runs F G Ah [.ptr gp 0,v132,.int .i64 (.ofNat 2) 0] H n λv133 H n=>Bh (Af 11 1 teZ [(0,.c v133)] E0) H n λv134 H n=>
  Em (.fn BN [] []) [.int .i64 (.ofNat 5) 0,v134] (Runs F G) H n λv135 H n=>Bh (Au 9 [ttZ] E0) H n λv136 H n=>Bq 9 v136 v135 H n λ_ H n=>
  AP (B2.ev .sub (.int .i64 (.ofNat (d+1)) 0) (.int .i64 (.ofNat 1) 0)) λv138=>AP (Ag 2 (.ptr b 0) G H) λv139=>Runs F G AZ [.ptr gp 0,.int .i64 (.ofNat 3) 0] H n λv140 H n=>AP (Ag 2 (.ptr b 0) G H) λv=>ER (Aw v v139) <|
  Runs F G D5 [.ptr gp 0,v140,v138,v139] H n λv141 H n=>AP (AU 7 v136) λv142=>Bq 1 v142 v141 H n λv143 H n=>
  AP (Ag 9 v136 G H) λv150=>Bq 9 (.ptr (b+1) 0) v150 H n λv151 H n=>Ej (BO [.cn (.ptr (b+1) 0) 9] G H) λl=>k (DX l) H n:=by
 have hbg:=hb.g
 have hlo:=AOg h0
 refine APW h0 hb f m1 (by omega) λH1 n1 a1 q id e f1 hb1 m1 ha1 hq1 hq2 g1 hes hgd=>?_
 have ms1:Ms G H1 n1 gp (s.to a1) Γ:=h0.fg f1 m1
 have hkp:=nS d
 refine ARD hB hd ht hb1 ms1 (by show a1+1+_<_;omega) (by show s.names+_<_;omega) hl ?_
 intro H2 n2 a2 nm2 vv2 v2 th ex2 z2 f2 m2 ha2 hnA hnB hw2 hgam2 sd2 ht2 hg2
 have ht2:=ht2.ss
 have hg2:=hg2.blk
 have ha2:a2<=a1+(1+2*cS d):=ha2
 have hnA:s.names<=nm2:=hnA
 have hnB:nm2<=s.names+2*sS d:=hnB
 have f2:Fv gp s.vv H1 n1 H2 n2:=f2
 have sd2:Sd n1 s.vv vv2:=sd2
 have hn2:=f2.le
 have q2:T.get H2 q=_:=f2.get g1 hq2 (by omega) λe=>by have:=hlo _ e;omega
 have ok2:=KS.ok ht2
 rw[Am,AQ]
 refine Jm (off:=0+7) (m:=1) (v:=v2) q2 ok2.1 (by rw[ok2.2];rfl) (by omega) (by show 0+7+1<=9;omega) λH3 g3 s3=>?_
 rw[ok2.2]at g3
 have hv2:∀id,vv2.Ec=some id->id<b∨n1<=id:=λid hid=>by
  rcases sd2 with h|h
  ·exact .inl (hlo id (h.symm.trans hid))
  ·exact .inr (h id hid)
 refine AB (Bf (m:=9) g3 (by omega) rfl) ?_
 have hb3:Bs H3 n2 b gp t:=by
  have hb2:=hb1.fv f2 λid hid=>.inl (hlo id hid)
  exact⟨(s3 b (by omega)).trans hb2.b1,(s3 (b+1) (by omega)).trans hb2.b2,hb2.le,hbg⟩
 have ht3:ZM G H3 (Rv (b+2) n2 vv2) v2 th:=ht2.mono (λi h=>⟨by have:=h.1;omega,h.2⟩) λid hid=>s3 id (by have:=hid.1;omega)
 have hes3:Qc G H3 (Rv (b+2) n2 vv2) (.sl id 0 1 1 11) [e]:=by
  have x0:Qc G H3 (Rg (b+2) q) (.sl id 0 1 1 11) [e]:=hes.mono (λ_ h=>h) λi h=>(s3 i (by have:=h.2;omega)).trans (f2.same i (by have:=h.2;omega) (by have:=h.1;omega) λe=>by have:=hlo _ e;have:=h.1;omega)
  exact x0.mono (λi h=>⟨h.1,by have:=h.2;omega,λe=>by have:=hv2 _ e;have:=h.1;have:=h.2;omega⟩) λ_ _=>rfl
 refine AIZ (ex:=[]) (vv:=vv2) (nm:=nm2) (a:=a2) (l:=ttC 5 0 0 (0,0) Ox (.sl id 0 1 1 11) v2 .Ad) (st:=.mk 5 (0,0) Ox [e] th []) (Nat.zero_le _) hp hb3 ?_ ⟨(s3 gp (by omega)).trans m2.g,m2.pk⟩ (by omega) (by omega) (by omega) ?_ ?_ ?_ (λi hi=>by have:=hv2 i hi;omega) (YF.of hes3 ht3 .nil) ?_
 ·refine⟨by have:=f1.le;omega,λi h1 h2 h3=>?_⟩
  exact(s3 i (by omega)).trans ((f2.same i (by have:=f1.le;omega) h2 h3).trans (f1.same i h1 h2))
 ·rw[List.append_nil]
  exact⟨hw2.sk.TV (λid hid=>hw2.sk.own hid) λid hid=>s3 id λe=>by subst e;have:=hv2 _ hid;omega,hw2.lt⟩
 ·rw[List.append_nil];exact hgam2
 ·rcases sd2 with h|h
  ·exact .inl h
  ·exact .inr λi hi=>by have:=h i hi;omega
 ·rw[List.append_nil]
  exact(GdS.cond (k2:=0) (.inr rfl) hgd hg2 .nil (by omega) (Nat.zero_le _)).le (by omega)
theorem AKS{a c kk:Nat}{fn:St}{ft:Ty}{d:Nat}(hd:d<3)(hft:Zo fn RG.fs=some ft)(hfn:fn≠QK)(htm:Lh ft){tyc:Runs F G=Runs F G->KV->Heap->Nat->Prop}
 (htc:∀{H1:Heap} {n1:Nat} {P:KV},(∀H' n',Kp H1 n1 H' n'->P ft.v H' n')->tyc rfl P H1 n1)
 (hp:qR G H0 b gp s Γ t c kk k) (h0:Ms G H0 b gp s Γ) (hb:Bs H n b gp t) (f:Fg gp H0 b H n) (m1:WC G H gp (s.to a)) (ha:a+200<=s.at'+c) (hs:s.at'+c<100000000000):
 Runs F G BQ [.ptr gp 0,.str 1 65,.int .i64 (.ofNat 1) 0] H n λv92 H n=>Bh (Af 11 1 teZ [(0,.c v92)] E0) H n λv93 H n=>Runs F G Ai [.int .i64 (.ofNat 7) 0,fn.v,v93] H n λv94 H n=>
  tyc rfl (λv95 H n=>Runs F G Ah [.ptr gp 0,v95,.int .i64 (.ofNat d) 0] H n λv96 H n=>Bh (Af 11 2 teZ [(0,.c v94),(1,.c v96)] E0) H n λv97 H n=>
  Em (.fn BN [] []) [.int .i64 (.ofNat 2) 0,v97] (Runs F G) H n λv98 H n=>Bq 9 (.ptr (b+1) 0) v98 H n λv99 H n=>Ej (BO [.cn (.ptr (b+1) 0) 9] G H) λl=>k (DX l) H n) H n:=by
 have hbl:=hb.le
 have hbg:=hb.g
 have hcd:cst d<=130:=by match d,hd with|0,_=>decide|1,_=>decide|2,_=>decide
 refine tH (cl:=nA) (P6 1 (by omega)) (.inl rfl) (h0.mk'.fg f m1) (by show a+40+2<_;omega) λH1 n1 a1 l e u f1 m1 ha1 he hu huc _=>?_
 have ha1:a1<=a+40:=ha1
 have hn1:=f1.le
 refine Xf he hn1 λH2 f2 hes=>?_
 refine YO (nm:=fn) (es:=[e]) hes λH3 n3 l3 f3 he3=>?_
 have hn3:=f3.le
 refine htc λH4 n4 f4=>?_
 have hn4:=f4.le
 have f24:=f2.trans (f3.trans f4)
 have ff4:=(f.trans f1).trans (.kp f24)
 have mk4:Mk G H4 n4 gp (s.to a1) Γ:=h0.mk'.fg ff4 ⟨f24.get m1.g (by omega),m1.pk⟩
 refine P6 d (by omega) ft H4 n4 (s.to a1) Γ _ htm mk4 (by show a1+cst d+2<_;omega) λH5 n5 a5 l5 e5 f5 m5 ha5 he5 hg5=>?_
 have ha5:a5<=a1+cst d:=ha5
 have hn5:=f5.le
 have h1:GN G H5 (Rg (b+2) n5) l3 (.mk 7 0 fn Ox Ox (0,0) [e]):=((he3.kp' f4).fg (by omega) f5).mono (λi h=>⟨by have:=h.1;omega,h.2⟩) λ_ _=>rfl
 have h2:GN G H5 (Rg (b+2) n5) l5 e5:=he5.mono (λi h=>⟨by have:=h.1;omega,h.2⟩) λ_ _=>rfl
 refine iF h1 h2 (by omega) λH6 f6 hes6=>?_
 obtain⟨w,hw,hgw,_⟩:=hg5.ex
 exact ACf hp h0 ((((hb.fg f1).kp f24).fg f5).kp f6) ((ff4.trans f5).trans (.kp f6)) ⟨f6.get m5.g (by omega),m5.pk⟩ (a:=a5) (by omega) hes6 (GdS.put (Gd.get hu huc hft hfn) hgw hw)
end
section
variable{G:AX}{H H0:Heap}{n gp b:Nat}{s:Mg}{Γ:List Dh}{k:KV}{t:Ty}
theorem AVM{a c kk:Nat}(hp:qR G H0 b gp s Γ t c kk k)(h0:Ms G H0 b gp s Γ)(hb:Bs H n b gp t)(f:Fg gp H0 b H n)(m1:WC G H gp (s.to a))(ha:a+300<=s.at'+c)(hs:s.at'+c<100000000000):
 Runs F G FH [] H n λv119 H n=>Runs F G Ah [.ptr gp 0,v119,.int .i64 (.ofNat 1) 0] H n λv120 H n=>Runs F G BZ [] H n λv121 H n=>Runs F G Ah [.ptr gp 0,v121,.int .i64 (.ofNat 1) 0] H n λv122 H n=>
  Bh (Af 11 2 teZ [(0,.c v120),(1,.c v122)] E0) H n λv123 H n=>Runs F G Ai [.int .i64 (.ofNat 12) 0,.str 0 0,v123] H n λv124 H n=>Runs F G BZ [] H n λv125 H n=>Runs F G Ah [.ptr gp 0,v125,.int .i64 (.ofNat 2) 0] H n λv126 H n=>
  Bh (Af 11 2 teZ [(0,.c v124),(1,.c v126)] E0) H n λv127 H n=>Em (.fn BN [] []) [.int .i64 (.ofNat 2) 0,v127] (Runs F G) H n λv128 H n=>Bq 9 (.ptr (b+1) 0) v128 H n λv129 H n=>Ej (BO [.cn (.ptr (b+1) 0) 9] G H) λl=>k (DX l) H n:=by
 have hbl:=hb.le
 have hbg:=hb.g
 refine zh λH1 n1 f1=>?_
 have hn1:=f1.le
 refine P6 1 (by omega) tIs H1 n1 (s.to a) Γ _ (.inr (.inr (.inr (.inr rfl)))) ((h0.mk'.fg f m1).kp f1) (by show a+40+2<_;omega) λH2 n2 a2 l2 e2 f2 m2 ha2 he2 hg2=>?_
 have ha2:a2<=a+40:=ha2
 have hn2:=f2.le
 refine Oj λH3 n3 f3=>?_
 have hn3:=f3.le
 have ff3:=((f.trans (.kp f1)).trans f2).trans (.kp (gp:=gp) f3)
 refine P6 1 (by omega) Du H3 n3 (s.to a2) Γ _ (.inl rfl) (h0.mk'.fg ff3 ⟨f3.get m2.g (by omega),m2.pk⟩) (by show a2+40+2<_;omega) λH4 n4 a4 l4 e4 f4 m4 yh he4 hg4=>?_
 have yh:a4<=a2+40:=yh
 have hn4:=f4.le
 have x2:GN G H4 (Rg n1 n4) l2 e2:=(he2.kp' f3).fg (by omega) f4
 have x4:GN G H4 (Rg n1 n4) l4 e4:=he4.mono (λi h=>⟨by have:=h.1;omega,h.2⟩) λ_ _=>rfl
 refine iF x2 x4 (by omega) λH5 f5 hes5=>?_
 refine YO (nm:=(0,0)) (es:=[e2,e4]) hes5 λH6 n6 l6 f6 he6=>?_
 have hn6:=f6.le
 refine Oj λH7 n7 f7=>?_
 have hn7:=f7.le
 have f57:=f5.trans (f6.trans f7)
 have ff7:=(ff3.trans f4).trans (.kp f57)
 refine P6 2 (by omega) Du H7 n7 (s.to a4) Γ _ (.inl rfl) (h0.mk'.fg ff7 ⟨f57.get m4.g (by omega),m4.pk⟩) (by show a4+130+2<_;omega) λH8 n8 a8 l8 e8 f8 m8 ha8 he8 hg8=>?_
 have ha8:a8<=a4+130:=ha8
 have hn8:=f8.le
 have y1:GN G H8 (Rg (b+2) n8) l6 (.mk 12 0 (0,0) Ox Ox (0,0) [e2,e4]):=((he6.kp' f7).fg (by omega) f8).mono (λi h=>⟨by have:=h.1;omega,h.2⟩) λ_ _=>rfl
 have y2:GN G H8 (Rg (b+2) n8) l8 e8:=he8.mono (λi h=>⟨by have:=h.1;omega,h.2⟩) λ_ _=>rfl
 refine iF y1 y2 (by omega) λH9 f9 hes9=>?_
 exact ACf hp h0 (((((((hb.kp f1).fg f2).kp f3).fg f4).kp f57).fg f8).kp f9) ((ff7.trans f8).trans (.kp f9)) ⟨f9.get m8.g (by omega),m8.pk⟩ (a:=a8) (by omega) hes9 (GdS.put (Gd.elm hg2.is hg4.int) hg8.int (.same _))
theorem AXv{a c kk:Nat}(ht:Lh t)(hp:qR G H0 b gp s Γ t c kk k)(h0:Ms G H0 b gp s Γ)(hb:Bs H n b gp t)(f:Fg gp H0 b H n)(m1:WC G H gp (s.to a))(ha:a+300<=s.at'+c)(hs:s.at'+c<100000000000):
 AP (Ag 2 (.ptr b 0) G H) λv171=>Runs F G Ah [.ptr gp 0,v171,.int .i64 (.ofNat 2) 0] H n λv172 H n=>Bh (Af 11 1 teZ [(0,.c v172)] E0) H n λv173 H n=>
  Em (.fn BN [] []) [.int .i64 (.ofNat 6) 0,v173] (Runs F G) H n λv174 H n=>Bq 9 (.ptr (b+1) 0) v174 H n λv175 H n=>Ej (BO [.cn (.ptr (b+1) 0) 9] G H) λl=>k (DX l) H n:=by
 have hbl:=hb.le
 have hbg:=hb.g
 refine AB (DT hb.b1) ?_
 refine P6 2 (by omega) t H n (s.to a) Γ _ ht (h0.mk'.fg f m1) (by show a+130+2<_;omega) λH2 n2 a2 l2 e2 f2 m2 ha2 he2 hg2=>?_
 have ha2:a2<=a+130:=ha2
 have hn2:=f2.le
 refine Xf he2 hn2 λH3 f3 hes=>?_
 obtain⟨w,hw,hgw,_⟩:=hg2.ex
 exact ACf hp h0 ((hb.fg f2).kp f3) ((f.trans f2).trans (.kp f3)) ⟨f3.get m2.g (by omega),m2.pk⟩ (a:=a2) (by omega) (hes.mono (λi h=>⟨by have:=h.1;omega,h.2⟩) λ_ _=>rfl) (GdS.rtn hgw hw)
theorem AaS{a c kk:Nat}(hp:qR G H0 b gp s Γ t c kk k)(h0:Ms G H0 b gp s Γ)(hb:Bs H n b gp t)(f:Fg gp H0 b H n)(m1:WC G H gp (s.to a))(ha:a+300<=s.at'+c)(hs:s.at'+c<100000000000):
 Runs F G BQ [.ptr gp 0,.str 1 65,.int .i64 (.ofNat 2) 0] H n λv176 H n=>Runs F G BZ [] H n λv177 H n=>Runs F G Ah [.ptr gp 0,v177,.int .i64 (.ofNat 1) 0] H n λv178 H n=>Bh (Af 11 2 teZ [(0,.c v176),(1,.c v178)] E0) H n λv179 H n=>
  Runs F G Ai [.int .i64 (.ofNat 8) 0,.str 3 7628135,v179] H n λv180 H n=>Bh (Af 11 1 teZ [(0,.c v180)] E0) H n λv181 H n=>
  Em (.fn BN [] []) [.int .i64 (.ofNat 3) 0,v181] (Runs F G) H n λv182 H n=>Bq 9 (.ptr (b+1) 0) v182 H n λv183 H n=>Ej (BO [.cn (.ptr (b+1) 0) 9] G H) λl=>k (DX l) H n:=by
 have hbl:=hb.le
 have hbg:=hb.g
 refine tH (cl:=nA) (P6 2 (by omega)) (.inl rfl) (h0.mk'.fg f m1) (by show a+130+2<_;omega) λH1 n1 a1 l e u f1 m1 ha1 he hu huc _=>?_
 have ha1:a1<=a+130:=ha1
 have hn1:=f1.le
 refine Oj λH2 n2 f2=>?_
 have hn2:=f2.le
 have ff2:=(f.trans f1).trans (.kp (gp:=gp) f2)
 refine P6 1 (by omega) Du H2 n2 (s.to a1) Γ _ (.inl rfl) (h0.mk'.fg ff2 ⟨f2.get m1.g (by omega),m1.pk⟩) (by show a1+40+2<_;omega) λH3 n3 a3 l3 e3 f3 m3 bU he3 hg3=>?_
 have bU:a3<=a1+40:=bU
 have hn3:=f3.le
 have x1:GN G H3 (Rg (b+2) n3) l e:=((he.kp' f2).fg (by omega) f3).mono (λi h=>⟨by have:=h.1;omega,h.2⟩) λ_ _=>rfl
 have x3:GN G H3 (Rg (b+2) n3) l3 e3:=he3.mono (λi h=>⟨by have:=h.1;omega,h.2⟩) λ_ _=>rfl
 refine iF x1 x3 (by omega) λH4 f4 hes4=>?_
 refine YO (nm:=dM) (es:=[e,e3]) hes4 λH5 n5 l5 f5 he5=>?_
 have hn5:=f5.le
 refine Xf he5 (by omega) λH6 f6 hes6=>?_
 have f46:=f4.trans (f5.trans f6)
 exact ACf hp h0 ((((hb.fg f1).kp f2).fg f3).kp f46) ((ff2.trans f3).trans (.kp f46)) ⟨f46.get m3.g (by omega),m3.pk⟩ (a:=a3) (by omega) hes6 (GdS.ask (Gd.AXD hu huc hg3.int))
end
section
variable{G:AX}{gp:Nat}
theorem AOn(d:Nat)(hd:d<1000)(hB:∀d',d=d'+1->AGh G gp d'):APL G gp d:=by
 intro t H n s Γ k ht h hs hnm hl hp
 refine BH (s:=ar3 (MQ lfp G)) QC (by obtain⟨h,o⟩:=jh BI G;rw[QC]at h;cases h;exact o) ?_
 show MQ lfp G (Runs F G) (.ptr gp 0) (.int .i64 (.ofNat d) 0) t.v H n k
 delta MQ
 have hgn:=h.g
 have hcd:=APD d
 have hkd:=nS d
 refine Dq λH1 f1 g1=>?_
 refine Az rfl λH2 f2 g2=>?_
 have f02:=f1.trans f2
 have hb2:Bs H2 (n+1+1) n gp t:=⟨f2.get g1 (by omega),g2,by omega,hgn⟩
 refine JI (h.kp f02).m (by omega) (by omega) (by omega) λH3 r a hr ha m3 s3=>?_
 have f3:Fg gp H2 (n+1+1) H3 (n+1+1):=⟨Nat.le_refl _,λid _ hne=>s3 id hne⟩
 have f:=(Fg.kp (gp:=gp) f02).trans f3
 have hb:=hb2.fg f3
 clear f1 f2 g1 g2 f02 hb2 s3 f3
 generalize n+1+1=n3 at*
 refine AB (DI ..) ?_
 cases r0:decide (r=0)with
 |true=>rw[Ar];exact ATg hp h hb f m3 (by omega) (by omega) hkd (by omega) (by omega)
 |false=>
 rw[Aj]
 refine AB (DI ..) ?_
 cases r1:decide (r=1)with
 |true=>exact ATg hp h hb f m3 (by omega) (by omega) hkd (by omega) (by omega)
 |false=>
 delta FI
 rw[Aj]
 refine AB (DI ..) ?_
 cases r2:decide (r=2)with
 |true=>rw[Ar];exact AVL (P:=λ_=>True) hp h hb f m3 (by omega) (by omega)
 |false=>
 rw[Aj]
 refine AB (DI ..) ?_
 cases r3:decide (r=3)with
 |true=>
  rw[Ar]
  refine JI m3 (by omega) (by omega) (by show a<_;omega) λH4 q a4 hq yh m4 s4=>?_
  have yh:a4<=a+1:=yh
  have f4:Fg gp H3 n3 H4 n3:=⟨Nat.le_refl _,λid _ hne=>s4 id hne⟩
  refine AB (DI ..) ?_
  cases q0:decide (q=0)with
  |true=>rw[Ar];exact AKS (fn:=n_x) (ft:=Du) (d:=2) (tyc:=λ_ P H n=>Runs F G BZ [] H n P) (by omega) rfl (by decide) (.inl rfl) (λh=>Oj h) hp h (hb.fg f4) (f.trans f4) m4 (by omega) (by omega)
  |false=>rw[Aj];exact AKS (fn:=ACO) (ft:=tA) (d:=1) (tyc:=λ_ P H n=>Runs F G Ez [.str 1 65] H n P) (by omega) rfl (by decide) (.inr (.inr (.inl rfl))) (λh=>jK (l:=1) (c:=65) h) hp h (hb.fg f4) (f.trans f4) m4 (by omega) (by omega)
 |false=>
 rw[Aj]
 refine AB (DI ..) ?_
 cases r4:decide (r=4)with
 |true=>
  rw[Ar]
  refine JI m3 (by omega) (by omega) (by show a<_;omega) λH4 q a4 hq yh m4 s4=>?_
  have yh:a4<=a+1:=yh
  have f4:Fg gp H3 n3 H4 n3:=⟨Nat.le_refl _,λid _ hne=>s4 id hne⟩
  refine AB (DI ..) ?_
  cases q0:decide (q=0)with
  |true=>rw[Ar];exact AKS (fn:=ANm) (ft:=tIs) (d:=1) (tyc:=λ_ P H n=>Runs F G FH [] H n P) (by omega) rfl (by decide) (.inr (.inr (.inr (.inr rfl)))) (λh=>zh h) hp h (hb.fg f4) (f.trans f4) m4 (by omega) (by omega)
  |false=>rw[Aj];exact AVM hp h (hb.fg f4) (f.trans f4) m4 (by omega) (by omega)
 |false=>
 rw[Aj]
 refine AB (DI ..) ?_
 cases r5:decide (r=5)with
 |true=>
  rw[Ar]
  refine AB (N9 ..) ?_
  cases d with
  |zero=>rw[show decide (0<0)=false from rfl,Aj];exact ADz hp h hb f m3 (by omega) (by omega)
  |succ d=>
   rw[decide_eq_true (show 0<d+1 by omega),Ar]
   have e1:cS (d+1)=1500+4*cS d:=rfl
   have e2:sS (d+1)=4*sS d:=rfl
   have:=nS d
   exact AZl (hB d rfl) (by omega) ht hp h hb f m3 (by omega) (by omega) (Nat.le_refl _) (by omega) (by omega)
 |false=>
 rw[Aj]
 refine AB (DI ..) ?_
 cases r6:decide (r=6)with
 |true=>
  rw[Ar]
  refine AB (N9 ..) ?_
  cases d with
  |zero=>rw[show decide (0<0)=false from rfl,Aj];exact ADz hp h hb f m3 (by omega) (by omega)
  |succ d=>
   rw[decide_eq_true (show 0<d+1 by omega),Ar]
   have e1:cS (d+1)=1500+4*cS d:=rfl
   have e2:sS (d+1)=4*sS d:=rfl
   have:=nS d
   exact AS7 (hB d rfl) (by omega) ht hp h hb f m3 (by omega) (by omega) (Nat.le_refl _) (by omega) (by omega)
 |false=>
 rw[Aj]
 refine AB (DI ..) ?_
 cases r7:decide (r=7)with
 |true=>
  rw[Ar]
  refine JI m3 (by omega) (by omega) (by show a<_;omega) λH4 q a4 hq yh m4 s4=>?_
  have yh:a4<=a+1:=yh
  have f4:Fg gp H3 n3 H4 n3:=⟨Nat.le_refl _,λid _ hne=>s4 id hne⟩
  refine AB (DI ..) ?_
  cases q0:decide (q=0)with
  |true=>rw[Ar];exact AXv ht hp h (hb.fg f4) (f.trans f4) m4 (by omega) (by omega)
  |false=>rw[Aj];exact AaS hp h (hb.fg f4) (f.trans f4) m4 (by omega) (by omega)
 |false=>rw[Aj];exact ADz hp h hb f m3 (by omega) (by omega)
end
theorem Sk.cut{H:Heap}{z:Nat}{A:Nat->Prop}{v:V}{LS:DZ}{i:Nat}{q:IntKind}(h:Sk H z A v LS)(hi:i<=LS.length):∃v',AFF z v E0 none (some (.c (.int q (.ofNat i) 0))) none=some v'/\v'.Ec=v.Ec/\Sk H z A v' (LS.take i):=by
 cases h with
 |nil=>
  obtain rfl:i=0:=by simpa using hi
  exact⟨.Ad,rfl,rfl,.nil⟩
 |emp hg ha=>
  rename_i id t
  obtain rfl:i=0:=by simpa using hi
  refine⟨.sl id 0 0 0 z,?_,rfl,.emp hg ha⟩
  show CG (Nat.beq z z) (CG (band (Nat.ble 0 0) (Nat.ble 0 0)) (f3 0 (0-0) (0-0) λo d e=>.sl id o d e z))=_
  rw[Ea];rfl
 |PO hg hc ht ha=>
  rename_i id c t
  have hl:(LS.take i).length=i:=by rw[List.length_take];omega
  refine⟨.PO id 0 i z,?_,rfl,?_⟩
  ·show CG (Nat.beq z z) (CG (band (Nat.ble 0 i) (Nat.ble i LS.length)) (f3 0 (i-0) 0 λo d _=>.PO id o d z))=_
   rw[Ea,show Nat.ble 0 i=true by rw[Nat.ble_eq];omega,show Nat.ble i LS.length=true by rw[Nat.ble_eq];omega]
   show Et 0 (λa=>Et (i-0) λb=>Et 0 λ_=>some (.PO id a b z))=_
   rw[DK,DK,DK,Nat.sub_zero]
  ·have:=Sk.PO (z:=z) (LS:=LS.take i) hg (by rw[hl];omega) (λj L hj=>ht j L (by rw[List.getElem?_take]at hj;split at hj;exact hj;cases hj)) ha
   rw[hl]at this;exact this
theorem AME{z:Nat}{Z:LV}{H:Heap}{n:Nat}{P:KV}(hz:0<z)(h:∀H',Kp H n H' (n+1)->(∃t,T.get H' n=some (.arr z 0 t))->P (.sl n 0 0 0 z) H' (n+1)):Bh (Af z 0 Z [] E0) H n P:=
 WU (G:=λ_ _ _=>none) (vs:=[]) rfl hz (λv hv=>by cases hv) λH' f g _=>h H' f g
def Rw(a b:Nat)(v w:V):Nat->Prop:=λid=>a<=id/\id<b/\v.Ec≠some id/\w.Ec≠some id
structure BJ(G:AX)(gp d:Nat)(t:Ty)(H0:Heap)(n0:Nat)(s:Mg)(Γ:List Dh)(j:Nat)(H:Heap)(n:Nat)(vo:V)(a nm:Nat)(vv:V)(ex:List Dh)(cs:DZ)(sts:List Tt):Prop where
 f:Fv gp s.vv H0 n0 H n
 m:WC G H gp (s.st a nm vv)
 a:a<=s.at'+j*cS d
 n1:s.names<=nm
 n2:nm<=s.names+j*sS d
 w:Lw H n gp vv (Γ++ex)
 gam:Gam (Γ++ex) nm
 xl:ex.length<=j
 sd:Sd (n0+1) s.vv vv
 box:T.get H n0=some (one t.cells)
 lo:n0+1<=n
 sk:Sk H 9 (λid=>n0+1<=id/\id<n/\vv.Ec≠some id) vo cs
 ts:JW G H (Rw (n0+1) n vv vo) cs sts
 gd:GdQ s.inn t Γ (Γ++ex) (j*sS d) sts
 ln:sts.length=j
section
variable{G:AX}{gp:Nat}
theorem AMa(d:Nat)(hd:d<1000)(hS:APL G gp d):AGh G gp d:=by
 intro m t H n s Γ k hm ht h hs hnm hl hp
 refine BH (s:=ar4 (LK lfp G)) Ov (by obtain⟨h,o⟩:=jV BI G;rw[Ov]at h;cases h;exact o) ?_
 show LK lfp G (Runs F G) (.ptr gp 0) (.int .i64 (.ofNat m) 0) (.int .i64 (.ofNat d) 0) t.v H n k
 delta LK
 have hgn:=h.g
 have hcd:=APD d
 have hkd:=nS d
 have hlo:∀id,s.vv.Ec=some id->id<n:=λid hid=>(h.w.sk.own hid).1
 refine Dq λH1 f1 g1=>?_
 have h1:=h.kp f1
 have hlen:=(h1.w.lv (G:=G)).el.len
 rw[List.length_map]at hlen
 have q2:∀{H':Heap} {s':Mg},WC G H' gp s'->AY (.ptr gp 2) G H'=some s'.vv:=λm=>AV m.g rfl
 rw[CO,AQ,Am,AQ,Nat.zero_add,q2 h1.m,AQ,hlen,AQ]
 refine AME (by omega) λH2 f2 g2=>?_
 obtain⟨t2,g2⟩:=g2
 have h2:=h1.kp f2
 refine DF (N:=m) (J:=λj q=>∃H' n' vo a nm vv ex cs sts,q=(.ptr gp 0,.int .i64 (.ofNat m) 0,.int .i64 (.ofNat d) 0,.ptr n 0,.int .i64 (.ofNat Γ.length) 0,vo,.int .i64 (.ofNat j) 0,H',n')/\BJ G gp d t H n s Γ j H' n' vo a nm vv ex cs sts) ?_ ?_
  ⟨H2,n+1+1,_,s.at',s.names,s.vv,[],[],[],rfl,(Fg.kp (f1.trans f2)).fv _,h2.m,by omega,Nat.le_refl _,by omega,by rw[List.append_nil];exact h2.w,by rw[List.append_nil];exact h.gam,Nat.le_refl _,.inl rfl,f2.get g1 (by omega),by omega,
   .emp g2 ⟨by omega,by omega,λe=>by have:=hlo _ e;omega⟩,.nil,by rw[List.append_nil,Nat.zero_mul];exact .nil,rfl⟩
 ·rintro I j q hlt ⟨H3,n3,vo,a,nm,vv,ex,cs,sts,rfl,hj⟩ ih
  show GY lfp G (Runs F G) k I (.ptr gp 0) (.int .i64 (.ofNat m) 0) (.int .i64 (.ofNat d) 0) (.ptr n 0) (.int .i64 (.ofNat Γ.length) 0) vo (.int .i64 (.ofNat j) 0) H3 n3
  delta GY
  have e1:(j+1)*cS d<=m*cS d:=Nat.mul_le_mul_right _ hlt
  have e2:(j+1)*sS d<=m*sS d:=Nat.mul_le_mul_right _ hlt
  rw[Nat.add_mul,Nat.one_mul]at e1 e2
  have:=hj.a;have:=hj.n2;have:=hj.n1;have hex:=hj.xl;have hlo3:=hj.lo
  have e3:j<=j*sS d:=Nat.le_mul_of_pos_right _ (by omega)
  rw[EP,AQ,decide_eq_true hlt,Ar]
  refine AB (DT hj.box) ?_
  have ms3:Ms G H3 n3 gp (s.st a nm vv) (Γ++ex):=⟨hj.m,by omega,hj.w,hj.gam,h.inn⟩
  refine hS t H3 n3 (s.st a nm vv) (Γ++ex) _ ht ms3 (by show a+_<_;omega) (by show nm+_<_;omega) (by rw[List.length_append];omega) ?_
  intro H4 n4 a4 nm4 vv4 ex4 l st hx4 f4 m4 yh hnA hnB hw4 hgam4 sd4 ht4 hg4
  have f4:Fv gp vv H3 n3 H4 n4:=f4
  have sd4:Sd n3 vv vv4:=sd4
  have yh:a4<=a+cS d:=yh
  have hnA:nm<=nm4:=hnA
  have hnB:nm4<=nm+sS d:=hnB
  have hn4:=f4.le
  have vv4ne:∀id,n+1<=id->id<n3->vv.Ec≠some id->vv4.Ec≠some id:=λid h1 h2 h3 e=>by
   rcases sd4 with h|h
   ·exact h3 (h.symm.trans e)
   ·have:=h id e;omega
  have vold:∀id,vv.Ec=some id->id<n∨n+1<=id:=λid hid=>by
   rcases hj.sd with h|h
   ·exact .inl (hlo id (h.symm.trans hid))
   ·exact .inr (h id hid)
  have sk4:Sk H4 9 (λid=>n+1<=id/\id<n4/\vv4.Ec≠some id/\id<n3) vo cs:=hj.sk.mono (λid hid=>⟨hid.1,by omega,vv4ne id hid.1 hid.2.1 hid.2.2,hid.2.1⟩) λid hid=>f4.same id hid.2.1 (by omega) hid.2.2
  have box4:T.get H4 n=_:=f4.get hj.box (by omega) (by omega) λe=>by have:=vold _ e;omega
  have hlcs:=hj.ts.len
  have hln:=hj.ln
  refine sk4.app (bs:=136) (c:=.agg l) (m:=0) (λid hid=>(sk4.own hid).2.1) (by omega) rfl ht4.len (by rw[hlcs];omega) λv' H5 hs5 same5 hsid=>?_
  rw[FB (by omega),AQ]
  have vgp:vo.Ec≠some gp:=λe=>by have:=(sk4.own e).1;omega
  have v4own:∀id,vv4.Ec=some id->vo.Ec≠some id:=λid hid e=>(sk4.own e).2.2.1 hid
  have v4lt:∀id,vv4.Ec=some id->id<n4:=λid hid=>(hw4.sk.own hid).1
  have cs5:∀{id:Nat},id<n4->vo.Ec≠some id->T.get H5 id=T.get H4 id:=λh1 h2=>same5 _ h1 h2
  refine ih _ ⟨H5,n4+2,v',a4,nm4,vv4,ex++ex4,cs++[l],sts++[st],rfl,?_⟩
  refine⟨?_,⟨(cs5 (by omega) vgp).trans m4.g,m4.pk⟩,?_,by omega,?_,?_,?_,?_,?_,?_,by omega,hs5 _ ⟨by omega,by omega,λe=>by have:=v4lt _ e;omega⟩,?_,?_,?_⟩
  ·refine⟨by have:=hj.f.le;omega,λid h1 h2 h3=>?_⟩
   refine(cs5 (by omega) λe=>by have:=(sk4.own e).1;omega).trans ((f4.same id (by omega) h2 λe=>?_).trans (hj.f.same id h1 h2 h3))
   rcases hj.sd with h|h
   ·exact h3 (h.symm.trans e)
   ·have:=h id e;omega
  ·rw[Nat.add_mul,Nat.one_mul];omega
  ·rw[Nat.add_mul,Nat.one_mul];omega
  ·rw[<-List.append_assoc]
   exact⟨hw4.sk.TV (λid hid=>⟨by have:=v4lt id hid;omega,(hw4.sk.own hid).2⟩) λid hid=>cs5 (v4lt id hid) (v4own id hid),hw4.lt⟩
  ·rw[<-List.append_assoc];exact hgam4
  ·rw[List.length_append];omega
  ·exact hj.sd.trans sd4 (by omega)
  ·exact(cs5 (by omega) λe=>by have:=(sk4.own e).1;omega).trans box4
  ·refine JW.app (JW.mono (λid hid=>?_) (λid hid=>?_) hj.ts) (.cons (ht4.mono (λid hid=>?_) λid hid=>?_) .nil)
   ·refine⟨hid.1,by have:=hid.2.1;omega,vv4ne id hid.1 hid.2.1 hid.2.2.1,λe=>?_⟩
    rw[hsid]at e;cases e;have:=hid.2.1;omega
   ·exact(cs5 (by have:=hid.2.1;omega) hid.2.2.2).trans (f4.same id hid.2.1 (by have:=hid.1;omega) hid.2.2.1)
   ·refine⟨by have:=hid.1;omega,by have:=hid.2.1;omega,hid.2.2,λe=>?_⟩
    rw[hsid]at e;cases e;have:=hid.2.1;omega
   ·exact cs5 hid.2.1 λe=>by have:=(sk4.own e).2.2.2;have:=hid.1;omega
  ·rw[<-List.append_assoc,Nat.add_mul,Nat.one_mul]
   exact hj.gd.snoc hg4
  ·rw[List.length_append,hln];rfl
 ·rintro I q ⟨H3,n3,vo,a,nm,vv,ex,cs,sts,rfl,hj⟩
  show GY lfp G (Runs F G) k I (.ptr gp 0) (.int .i64 (.ofNat m) 0) (.int .i64 (.ofNat d) 0) (.ptr n 0) (.int .i64 (.ofNat Γ.length) 0) vo (.int .i64 (.ofNat m) 0) H3 n3
  delta GY
  rw[EP,AQ,decide_eq_false (Nat.lt_irrefl _),Aj]
  delta Md
  have hlo3:=hj.lo
  rw[CO,AQ,Am,AQ,Nat.zero_add,q2 hj.m,AQ]
  obtain⟨v',hv',hsid',hsk'⟩:=hj.w.sk.cut (i:=Γ.length) (q:=.i64) (by simp)
  rw[show(s.st a nm vv).vv=vv from rfl,hv',AQ,AQ,Am,AQ,Nat.zero_add]
  refine Jm (off:=2) (m:=1) (v:=v') hj.m.g hsk'.ok.1 (by rw[hsk'.ok.2.1];rfl) (by omega) (by show 2+1<=5;omega) λH4 g4 s4=>?_
  rw[hsk'.ok.2.1]at g4
  have hne:∀id,vv.Ec=some id->id≠gp:=λid hid=>(hj.w.sk.own hid).2
  refine hp H4 n3 a nm v' vo sts ex (by have:=hj.ln;omega) ⟨hj.f.le,λid h1 h2 h3=>(s4 id h2).trans (hj.f.same id h1 h2 h3)⟩ ⟨g4,hj.m.pk⟩ hj.a hj.n1 hj.n2 ⟨?_,h.w.lt⟩ ⟨λf hf=>?_,h.gam.nd,h.gam.ty⟩ ?_ ⟨cs,hj.sk.mono (λid hid=>⟨by omega,hid.2.1,by rw[hsid'];exact hid.2.2⟩) λid hid=>s4 id (by omega),?_⟩ hj.gd
  ·have:(List.map UW (Γ++ex)).take Γ.length=Γ.map UW:=by rw[List.map_append,List.take_left' (by simp)]
   rw[this]at hsk'
   exact hsk'.TV (λid hid=>hsk'.own hid) λid hid=>s4 id (hsk'.own hid).2
  ·exact hj.gam.nm f (List.mem_append_left _ hf)
  ·rw[Sd,hsid']
   rcases hj.sd with h|h
   ·exact .inl h
   ·exact .inr λid hid=>by have:=h id hid;omega
  ·refine JW.mono (λid hid=>⟨⟨by have:=hid.1;omega,hid.2.1,by rw[hsid'];exact hid.2.2.1⟩,hid.2.2.2⟩) (λid hid=>s4 id (by have:=hid.1;omega)) hj.ts
theorem AIg:∀d,d<1000->APL G gp d/\AGh G gp d
 |0,hd=>by
  have h:=AOn (G:=G) (gp:=gp) 0 hd λd' e=>by omega
  exact⟨h,AMa 0 hd h⟩
 |d+1,hd=>by
  have hb:=(AIg d (by omega)).2
  have h:=AOn (G:=G) (gp:=gp) (d+1) hd λd' e=>by have e2:d=d':=(by omega);subst e2;exact hb
  exact⟨h,AMa (d+1) hd h⟩
end
theorem AGD{s:St}{t:Ty}(Δ:List Dh):∀{Γ:List Dh},G8 s Γ=some t->G8 s (Γ++Δ)=some t
 |[],h=>by cases h
 |f::l,h=>by
  have h:(bif decide (f.nm=s)then some f.ty else G8 s l)=some t:=h
  show(bif decide (f.nm=s)then some f.ty else G8 s (l++Δ))=some t
  cases hd:decide (f.nm=s)with
  |true=>rw[hd]at h;exact h
  |false=>rw[hd]at h;exact AGD Δ h
theorem AS0{x:Kx}{Γ Δ:List Dh}{nm:St}{ty:Ty}(kind:Nat)(h:kind≠6)(ks:List Ty):aN x Γ kind nm ty ks=aN x Δ kind nm ty ks:=by
 match kind,h with
 |0,_=>rcases ks with _|⟨a,_|⟨b,_|⟨c,l⟩⟩⟩<;>rfl
 |1,_=>rcases ks with _|⟨a,_|⟨b,_|⟨c,l⟩⟩⟩<;>rfl
 |2,_=>rcases ks with _|⟨a,_|⟨b,_|⟨c,l⟩⟩⟩<;>rfl
 |3,_=>rcases ks with _|⟨a,_|⟨b,_|⟨c,l⟩⟩⟩<;>rfl
 |4,_=>rcases ks with _|⟨a,_|⟨b,_|⟨c,l⟩⟩⟩<;>rfl
 |5,_=>rcases ks with _|⟨a,_|⟨b,_|⟨c,l⟩⟩⟩<;>rfl
 |6,h=>exact absurd rfl h
 |7,_=>rcases ks with _|⟨a,_|⟨b,_|⟨c,l⟩⟩⟩<;>rfl
 |8,_=>rcases ks with _|⟨a,_|⟨b,_|⟨c,l⟩⟩⟩<;>rfl
 |9,_=>rcases ks with _|⟨a,_|⟨b,_|⟨c,l⟩⟩⟩<;>rfl
 |10,_=>rcases ks with _|⟨a,_|⟨b,_|⟨c,l⟩⟩⟩<;>rfl
 |11,_=>rcases ks with _|⟨a,_|⟨b,_|⟨c,l⟩⟩⟩<;>rfl
 |12,_=>rcases ks with _|⟨a,_|⟨b,_|⟨c,l⟩⟩⟩<;>rfl
 |13,_=>rcases ks with _|⟨a,_|⟨b,_|⟨c,l⟩⟩⟩<;>rfl
 |14,_=>rcases ks with _|⟨a,_|⟨b,_|⟨c,l⟩⟩⟩<;>rfl
 |15,_=>rcases ks with _|⟨a,_|⟨b,_|⟨c,l⟩⟩⟩<;>rfl
 |16,_=>rcases ks with _|⟨a,_|⟨b,_|⟨c,l⟩⟩⟩<;>rfl
 |17,_=>rcases ks with _|⟨a,_|⟨b,_|⟨c,l⟩⟩⟩<;>rfl
 |18,_=>rcases ks with _|⟨a,_|⟨b,_|⟨c,l⟩⟩⟩<;>rfl
 |19,_=>rcases ks with _|⟨a,_|⟨b,_|⟨c,l⟩⟩⟩<;>rfl
 |20,_=>rcases ks with _|⟨a,_|⟨b,_|⟨c,l⟩⟩⟩<;>rfl
 |k+21,_=>rcases ks with _|⟨a,_|⟨b,_|⟨c,l⟩⟩⟩<;>rfl
theorem ANo{x:Kx}{Γ:List Dh}(Δ:List Dh){kind:Nat}{nm:St}{ty:Ty}{ks:List Ty}{p:Ty×St}(h:aN x Γ kind nm ty ks=some p):aN x (Γ++Δ) kind nm ty ks=some p:=by
 by_cases hk:kind=6
 ·subst hk
  cases ks with
  |nil=>
   obtain⟨t,h1,h2⟩:=Option.map_eq_some_iff.1 (show(G8 nm Γ).map (λt=>(t,((0,0):St)))=some p from h)
   show(G8 nm (Γ++Δ)).map (λt=>(t,((0,0):St)))=some p
   rw[AGD Δ h1,<-h2];rfl
  |cons a l=>cases h
 ·rw[AS0 (Δ:=Γ) kind hk];exact h
mutual
theorem AJg{x:Kx}{Γ:List Dh}(Δ:List Dh):∀{e e':Te},ckE x Γ e=some e'->ckE x (Γ++Δ) e=some e'
 |.mk kind num nm ty of own kids,e',h=>by
  obtain⟨ks,p,h1,h2,rfl,h0⟩:=AIA h
  exact AOW h0 (AJY Δ h1) (ANo Δ h2)
theorem AJY{x:Kx}{Γ:List Dh}(Δ:List Dh):∀{l l':List Te},ckL x Γ l=some l'->ckL x (Γ++Δ) l=some l'
 |[],l',h=>by rw[ckL]at h⊢;exact h
 |e::l,l',h=>by
  obtain⟨e',t,h1,h2,rfl⟩:=tY h
  rw[ckL,AJg Δ h1]
  show((ckL x (Γ++Δ) l).map λl'=>e'::l')=_
  rw[AJY Δ h2];rfl
end
theorem Gd.more{inn:St}{Γ:List Dh}{e:Te}{t:Ty}(Δ:List Dh)(h:Gd inn Γ e t):Gd inn (Γ++Δ) e t:=λx hx=>by
 obtain⟨e',h1,h2⟩:=h x hx
 exact⟨e',AJg Δ h1,h2⟩
def TG:Nat->List Ty->List Dh
 |_,[]=>[]
 |i,t::l=>⟨nmP i,t⟩::TG (i+1) l
theorem kK:∀(i:Nat) (ts:List Ty),(TG i ts).length=ts.length
 |_,[]=>rfl
 |i,_::l=>by show(TG (i+1) l).length+1=_;rw[kK (i+1) l];rfl
theorem AJ3:∀(i:Nat) (ts:List Ty) (j:Nat) (t:Ty),ts[j]? =some t->(TG i ts)[j]? =some ⟨nmP (i+j),t⟩
 |_,[],j,t,h=>by simp at h
 |i,a::l,0,t,h=>by cases h;rfl
 |i,a::l,j+1,t,h=>by
  have:=AJ3 (i+1) l j t (by simpa using h)
  rw[show i+(j+1)=i+1+j by omega];exact this
theorem jw:∀(i:Nat) (ts:List Ty) (f:Dh),f∈TG i ts->(∃j,i<=j/\f.nm=nmP j)/\f.ty∈ts
 |_,[],f,h=>by cases h
 |i,a::l,f,h=>by
  rcases List.mem_cons.1 (show f∈⟨nmP i,a⟩::TG (i+1) l from h)with rfl|h
  ·exact⟨⟨i,Nat.le_refl _,rfl⟩,List.mem_cons_self ..⟩
  ·obtain⟨⟨j,hj,hn⟩,ht⟩:=jw (i+1) l f h
   exact⟨⟨j,by omega,hn⟩,List.mem_cons_of_mem _ ht⟩
theorem AEM:∀(i:Nat) (ts:List Ty),((TG i ts).map Dh.nm).Nodup
 |_,[]=>List.nodup_nil
 |i,a::l=>by
  show(nmP i::(TG (i+1) l).map Dh.nm).Nodup
  rw[List.nodup_cons]
  refine⟨λh=>?_,AEM (i+1) l⟩
  obtain⟨f,hf,hn⟩:=List.mem_map.1 h
  obtain⟨⟨j,hj,hn'⟩,_⟩:=jw (i+1) l f hf
  have:=ARY (hn.symm.trans hn');omega
theorem AN4{ts:List Ty}(h:∀t∈ts,Lh t)(m:Nat):Gam (TG 0 ts) m:=
 ⟨λf hf=>by obtain⟨⟨j,_,hn⟩,_⟩:=jw 0 ts f hf;exact .inl ⟨j,hn⟩,AEM 0 ts,λf hf=>h _ (jw 0 ts f hf).2⟩
theorem AWI(j:Nat):V.str 2 (112+256*AGd [97+j])=(nmP j).v:=rfl
theorem take_snoc{α:Type}{l:List α}{j:Nat}{a:α}(h:l[j]? =some a):l.take (j+1)=l.take j++[a]:=by
 rw[List.take_add_one,h];rfl
abbrev tmZ:LV:=[.int .i64 (.ofNat 0) 0,.int .i64 (.ofNat 0) 0,.str 0 0,.bool false,.Ad,.str 0 0,.bool false,.Ad]
def Mg.md(s:Mg)(i:St)(vv:V):Mg:={s with inn:=i,vv:=vv}
structure Bm(H:Heap)(n b gp:Nat)(nm:St)(st:Bool)(ret:Ty)(vp vb:V):Prop where
 b1:T.get H b=some (one ret.cells)
 b2:T.get H (b+1)=some (one tmZ)
 b3:T.get H (b+2)=some (one (tmC 0 0 nm st vp ret vb))
 le:b+3<=n
 g:gp<b
def ALE(G:AX)(H:Heap)(n gp:Nat)(s:Mg)(cls nm:St)(st:Bool)(ret:Ty)(ts:List Ty)(k:KV):Prop:=
 ∀H' n' a nms l m,Fg gp H n H' n'->WC G H' gp ⟨s.vp,a,.Ad,nms,bif st then(0,0)else cls⟩->a<=s.at'+100000->s.names<=nms->nms<=s.names+48->jU G H' (Rg n n') l m->m.nm=nm->m.st=st->m.ret=ret->m.ps=TG 0 ts->GdM cls m->k (.agg l) H' n'
structure MJ(G:AX)(gp b:Nat)(nm:St)(st:Bool)(ret:Ty)(H0:Heap)(s:Mg)(i:St)(ps:List Dh)(H:Heap)(n:Nat)(vp vv:V):Prop where
 bx:Bm H n b gp nm st ret vp .Ad
 old:∀id,id<b->id≠gp->T.get H id=T.get H0 id
 m:WC G H gp (s.md i vv)
 sp:Sk H 3 (λid=>b+3<=id/\id<n) vp (ps.map UW)
 sv:Sk H 3 (λid=>b+3<=id/\id<n/\vp.Ec≠some id) vv (ps.map UW)
section
variable{G:AX}{H0:Heap}{gp b:Nat}{s:Mg}{k:KV}{cls nm:St}{st:Bool}{ret:Ty}{ts:List Ty}
theorem AK3{H:Heap}{n:Nat}{vp vv:V}(hret:Lh ret)(htm:∀t∈ts,Lh t)(hln:ts.length<=3)(hcls:cls=nA∨cls=nB)(hs:s.at'+100000<10000000000)(hnm:s.names+48<600)
 (hj:MJ G gp b nm st ret H0 s (bif st then(0,0)else cls) (TG 0 ts) H n vp vv) (hk:ALE G H0 b gp s cls nm st ret ts k):IQ lfp G (Runs F G) k (.ptr gp 0) (.ptr b 0) (.ptr (b+1) 0) (.ptr (b+2) 0) H n:=by
 delta IQ
 obtain⟨bx,old,m0,sp,sv⟩:=hj
 have hle:=bx.le
 have hg:=bx.g
 generalize hi:(bif st then((0,0):St)else cls)=i at m0
 have AXz:i=(0,0)∨i=nA∨i=nB:=by
  rw[<-hi];cases st
  ·exact .inr hcls
  ·exact .inl rfl
 have hps:(TG 0 ts).length<=3:=by rw[kK];exact hln
 refine AB (DT bx.b1) (AB (DT bx.b1) ?_)
 refine JI m0 (by omega) (by omega) (by show s.at'<_;omega) λH1 r a1 hr ha1 m1 s1=>?_
 have ha1:a1<=s.at'+1:=ha1
 have b1:T.get H1 b=_:=(s1 b (by omega)).trans bx.b1
 refine AB (DT b1) (Di (Ld ret) (AB (DT b1) (Di (Ld ret) ?_)))
 rw[ATi (show 1+r<9223372036854775808 by omega),AQ]
 have hvo:∀id,vv.Ec=some id->b+3<=id/\id<n/\vp.Ec≠some id:=λid hid=>sv.own hid
 have ms1:Ms G H1 n gp ((s.md i vv).to a1) (TG 0 ts):=⟨m1,by omega,⟨sv.mono (λid h=>⟨h.2.1,by omega⟩) λid h=>s1 id (by omega),by omega⟩,AN4 htm _,AXz⟩
 have hc2:cS 2=31500:=rfl
 have hk2:sS 2=16:=rfl
 refine(AIg (G:=G) (gp:=gp) 2 (by omega)).2 (1+r) ret H1 n _ (TG 0 ts) _ (by omega) hret ms1 ?_ ?_ ?_ ?_
 ·show a1+(1+r)*cS 2<_
  rw[hc2];omega
 ·show s.names+(1+r)*sS 2<_
  rw[hk2];omega
 ·rw[hk2];omega
 intro H2 n2 a2 nm2 vv2 vb sts ex hct f2 m2 ha2 hnA hnB hw2 hgam2 sd2 hb2 hg2
 have ha2:a2<=a1+(1+r)*cS 2:=ha2
 have hnA:s.names<=nm2:=hnA
 have hnB:nm2<=s.names+(1+r)*sS 2:=hnB
 rw[hc2]at ha2
 rw[hk2]at hnB
 have f2:Fv gp vv H1 n H2 n2:=f2
 have sd2:Sd n vv vv2:=sd2
 have hn2:=f2.le
 have AUP:∀id,id<b+3->id≠gp->T.get H2 id=T.get H id:=λid h1 h2=>(f2.same id (by omega) h2 λe=>by have:=hvo id e;omega).trans (s1 id h2)
 have b2:=(AUP b (by omega) (by omega)).trans bx.b1
 refine AB (DT b2) (Di (Ld ret) ?_)
 have ms2:Ms G H2 n2 gp (((s.md i vv).to a1).st a2 nm2 vv2) (TG 0 ts):=⟨m2,by omega,hw2,hgam2,AXz⟩
 have e2:cst 2=130:=rfl
 refine P6 2 (by omega) ret H2 n2 _ (TG 0 ts) _ hret ms2.mk' (by show a2+cst 2+2<_;omega) λH3 n3 a3 l e f3 m3 bU he hgd=>?_
 have bU:a3<=a2+cst 2:=bU
 have hn3:=f3.le
 refine Xf he hn3 λH4 f4 hes=>?_
 rw[show Dv ttZ [(0,1,.c (.int .i64 (.ofNat 6) 0)),(6,1,.c (.sl n3 0 1 1 11))]=some (.agg (ttC 6 0 0 (0,0) Ox (.sl n3 0 1 1 11) .Ad .Ad))from rfl,AQ]
 have f24:Fg gp H2 n2 H4 (n3+1):=f3.trans (.kp f4)
 obtain⟨cs,hsk,hts⟩:=hb2
 have vvo:∀id,vv2.Ec=some id->id<b∨b+3<=id:=λid hid=>by
  rcases sd2 with h|h
  ·have:=hvo id (h.symm.trans hid);omega
  ·have:=h id hid;omega
 have sk4:Sk H4 9 (λid=>n<=id/\id<n2) vb cs:=hsk.mono (λid h=>⟨h.1,h.2.1⟩) λid h=>f24.same id h.2.1 (by have:=h.1;omega)
 have hcl:=hts.len
 refine sk4.app (bs:=136) (c:=.agg (ttC 6 0 0 (0,0) Ox (.sl n3 0 1 1 11) .Ad .Ad)) (m:=0) (λid hid=>by have:=(sk4.own hid).2;omega) (by omega) rfl rfl (by rw[hcl];omega) λv' H5 hs5 same5 hsid=>?_
 have bM:∀id,id<b+3->id≠gp->T.get H5 id=T.get H id:=λid h1 h2=>(same5 id (by omega) λe=>by have:=(sk4.own e).1;omega).trans ((f24.same id (by omega) h2).trans (AUP id h1 h2))
 have m5:T.get H5 gp=_:=(same5 gp (by omega) λe=>by have:=(sk4.own e).1;omega).trans ((f4.same gp (by omega)).trans m3.g)
 have g5:=(bM (b+2) (by omega) (by omega)).trans bx.b3
 have hskv':=hs5 (λid=>b+3<=id/\id<n3+1+2) ⟨by omega,by omega⟩
 rw[Am,AQ]
 refine Jm (off:=0+7) (m:=1) (v:=v') g5 hskv'.ok.1 (by rw[hskv'.ok.2.1];rfl) (by omega) (by show 0+7+1<=8;omega) λH6 g6 s6=>?_
 rw[hskv'.ok.2.1]at g6
 rw[CO,AQ,Am,AQ]
 have m6:T.get H6 gp=_:=(s6 gp (by omega)).trans m5
 refine Jm (off:=0+2) (m:=1) (v:=.Ad) m6 rfl rfl (by omega) (by show 0+2+1<=5;omega) λH7 g7 s7=>?_
 have q7:T.get H7 (b+2)=_:=(s7 (b+2) (by omega)).trans g6
 refine AB (Bf (m:=8) q7 (by omega) rfl) ?_
 have q7b:T.get H7 (b+1)=some (one tmZ):=(s7 (b+1) (by omega)).trans ((s6 (b+1) (by omega)).trans ((bM (b+1) (by omega) (by omega)).trans bx.b2))
 refine DV q7b rfl rfl (by omega) λH8 g8 s8=>?_
 rw[D9 (m:=8) g8 (by omega) rfl]
 simp only[go_sem]
 have AL9:∀id,b+3<=id->T.get H8 id=T.get H5 id:=λid h=>(s8 id (by omega)).trans ((s7 id (by omega)).trans (s6 id (by omega)))
 refine hk H8 (n3+1+2) a3 nm2 _ ⟨nm,st,TG 0 ts,ret,sts++[.mk 6 (0,0) Ox [e] [] []]⟩ ?_ (by rw[hi];exact⟨(s8 gp (by omega)).trans g7,m3.pk⟩) (by omega) (by omega) (by omega) (.mk 0 0 (vp:=vp) (vb:=v') ?_ ?_) rfl rfl rfl rfl ?_
 ·refine⟨by omega,λid h1 h2=>?_⟩
  exact(s8 id (by omega)).trans ((s7 id h2).trans ((s6 id (by omega)).trans ((bM id (by omega) h2).trans (old id h1 h2))))
 ·have spo:∀id,vp.Ec=some id->T.get H8 id=T.get H id:=λid hid=>by
   have h1:=sp.own hid
   refine(AL9 id h1.1).trans ((same5 id (by omega) λe=>by have:=(sk4.own e).1;omega).trans ((f24.same id (by omega) (by omega)).trans ((f2.same id (by omega) (by omega) λe=>?_).trans (s1 id (by omega)))))
   exact(hvo id e).2.2 hid
  have sp8:=sp.TV (B:=Rg b (n3+1+2)) (H':=H8) (λid hid=>by have:=sp.own hid;exact⟨by omega,by omega⟩) spo
  exact⟨sp8.el (by omega),sp8.ks,sp8.ok.1,sp8.ok.2.1,λid hid=>sp8.own hid⟩
 ·refine⟨cs++[ttC 6 0 0 (0,0) Ox (.sl n3 0 1 1 11) .Ad .Ad],?_,hskv'.ks,hskv'.ok.1,hskv'.ok.2.1,λid hid=>by have:=hskv'.own hid;exact⟨by omega,this.2⟩,JW.app (JW.mono (λid h=>?_) (λid h=>?_) hts) (.cons (YF.of ?_ .nil .nil) .nil)⟩
  ·exact(hskv'.mono (B:=λid=>b+3<=id/\id<n3+1+2) (λ_ h=>h) λid h=>AL9 id h.1).el (by omega)
  ·exact⟨by have:=h.1.1;omega,by have:=h.1.2.1;omega⟩
  ·exact(AL9 id (by have:=h.1.1;omega)).trans ((same5 id (by have:=h.1.2.1;omega) h.2).trans (f24.same id h.1.2.1 (by have:=h.1.1;omega)))
  ·exact hes.mono (λid h=>⟨by have:=h.1;omega,by have:=h.2;omega⟩) λid h=>(AL9 id (by have:=h.1;omega)).trans (same5 id h.2 λe=>by have:=(sk4.own e).2;have:=h.1;omega)
 ·obtain⟨u,hu,hgu,_⟩:=hgd.ex
  refine GdM.mk (k:=(1+r)*sS 2+0) (inn:=i) (AEM 0 ts) (by rw[hk2];omega) (λhne=>?_) (hg2.snoc (GdS.rtn (hgu.more ex) hu)).blk (by rw[List.length_append];show sts.length+1<=1000;omega)
  rw[<-hi]at hne⊢
  cases st with
  |true=>exact absurd rfl hne
  |false=>exact⟨rfl,rfl⟩
end
section
variable{G:AX}{H0:Heap}{gp b:Nat}{s:Mg}{k:KV}{cls nm:St}{st:Bool}{ret:Ty}{ts:List Ty}
theorem AFh{H:Heap}{n:Nat}{v5 v0:V}(hret:Lh ret)(htm:∀t∈ts,Lh t)(hln:ts.length<=3)(hcls:cls=nA∨cls=nB)(hs:s.at'+100000<10000000000)(hnm:s.names+48<600)
 (bx:Bm H n b gp nm st ret .Ad .Ad) (old:∀id,id<b->id≠gp->T.get H id=T.get H0 id) (m0:WC G H gp (s.md (bif st then(0,0)else cls) v0)) (hel:El G H v5 2 (ts.map Ty.cells)) (hlo:∀id,v5.Ec=some id->id<b/\id≠gp)
 (hk:ALE G H0 b gp s cls nm st ret ts k):Fa lfp G (Runs F G) k (.ptr gp 0) v5 (.ptr b 0) (.ptr (b+1) 0) (.ptr (b+2) 0) H n:=by
 delta Fa
 have hle:=bx.le
 have hg:=bx.g
 rw[CO,AQ,Am,AQ]
 refine Jm (off:=0+2) (m:=1) (v:=.Ad) m0.g rfl rfl (by omega) (by show 0+2+1<=5;omega) λH1 g1 s1=>?_
 have AaR:El G H1 v5 2 (ts.map Ty.cells):=hel.same λid hid=>s1 id (hlo id hid).2
 have hlen:=AaR.len
 rw[List.length_map]at hlen
 rw[hlen,AQ]
 refine DF (N:=ts.length) (J:=λj q=>∃H' n' vp vv,q=(.ptr gp 0,.ptr b 0,.ptr (b+1) 0,.ptr (b+2) 0,v5,.int .i64 (.ofNat ts.length) 0,.int .i64 (.ofNat j) 0,H',n')/\MJ G gp b nm st ret H0 s (bif st then(0,0)else cls) ((TG 0 ts).take j) H' n' vp vv) ?_ ?_
  ⟨H1,n,.Ad,.Ad,rfl,⟨(s1 b (by omega)).trans bx.b1,(s1 (b+1) (by omega)).trans bx.b2,(s1 (b+2) (by omega)).trans bx.b3,bx.le,bx.g⟩,λid h1 h2=>(s1 id h2).trans (old id h1 h2),⟨g1,m0.pk⟩,.nil,.nil⟩
 ·rintro I j q hlt ⟨H2,n2,vp,vv,rfl,⟨bx2,old2,m2,sp,sv⟩⟩ ih
  show FY lfp G (Runs F G) k I (.ptr gp 0) (.ptr b 0) (.ptr (b+1) 0) (.ptr (b+2) 0) v5 (.int .i64 (.ofNat ts.length) 0) (.int .i64 (.ofNat j) 0) H2 n2
  delta FY
  have hle2:=bx2.le
  have hel2:El G H2 v5 2 (ts.map Ty.cells):=hel.same λid hid=>by
   have h:=hlo id hid
   exact(old2 id h.1 h.2).trans (old id h.1 h.2).symm
  obtain⟨p,hpp,hld⟩:=hel2.at (i:=j) (c:=ts[j].cells) (by simp[hlt])
  have hget:(TG 0 ts)[j]? =some ⟨nmP j,ts[j]⟩:=by
   have:=AJ3 0 ts j ts[j] (List.getElem?_eq_getElem hlt)
   rwa [Nat.zero_add]at this
  have htake:=take_snoc hget
  have hlt2:((TG 0 ts).take j).length<=3:=by rw[List.length_take,kK];omega
  generalize ts[j]=t at hld hget htake
  generalize(TG 0 ts).take j=ps at sp sv htake hlt2
  rw[EP,AQ,decide_eq_true hlt,Ar]
  refine AB hpp (AB (Dx hld) ?_)
  refine Az rfl λH3 f3 g3=>?_
  refine DV g3 rfl rfl (by omega) λH4 g4 s4=>?_
  have f24:Kp H2 n2 H4 (n2+1):=⟨f3.le,λid hid=>(s4 id (by omega)).trans (f3.same id hid)⟩
  refine AB (AYQ j (by omega)) (AB (AQj j (by omega)) ?_)
  refine WU (G:=G) (vs:=[.int .u8 (.ofNat (97+j)) 0]) rfl (by omega) (λv hv=>by simp at hv;subst hv;exact⟨rfl,rfl⟩) λH5 f5 _ AFs=>?_
  refine AB (ATZ (xs:=[97+j]) AFs (λx hx=>by simp at hx;omega)) ?_
  refine AB (AU0 _) ?_
  rw[AWI]
  have g5:=f5.get g4 (by omega)
  refine AB (Bf (m:=2) g5 (by omega) rfl) ?_
  rw[show Dv [.str 0 0,.str 0 0,.bool false] [(0,1,.c (nmP j).v),(1,2,.c (.agg t.cells))]=some (.agg (UW ⟨nmP j,t⟩))from rfl,AQ]
  refine Az rfl λH6 f6 g6=>?_
  refine DV g6 rfl rfl (by omega) λH7 g7 s7=>?_
  have f57:Kp H5 (n2+1+1) H7 (n2+1+1+1):=⟨f6.le,λid hid=>(s7 id (by omega)).trans (f6.same id hid)⟩
  have f27:=(f24.trans f5).trans f57
  clear f3 g3 g4 s4 f24 f5 AFs g5 f6 g6 s7 f57
  generalize hn7:n2+1+1=n7 at*
  have b3:=f27.get bx2.b3 (by omega)
  rw[Am,AQ]
  refine AB (AV (off:=0+4) b3 (v:=vp) rfl) ?_
  refine AB (Bf (m:=3) g7 (by omega) rfl) ?_
  have sp7:Sk H7 3 (λid=>b+3<=id/\id<n2) vp (ps.map UW):=sp.mono (λ_ h=>h) λid h=>f27.same id h.2
  refine sp7.app (bs:=40) (c:=.agg (UW ⟨nmP j,t⟩)) (m:=0) (λid hid=>by have:=(sp7.own hid).2;omega) (by omega) rfl rfl (by rw[List.length_map];omega) λvp' H8 hs8 same8 hsid8=>?_
  have k8:∀id,id<n7+1->id<b+3∨n2<=id->T.get H8 id=T.get H7 id:=λid h1 h2=>same8 id h1 λe=>by have:=sp7.own e;omega
  have hsk8:=hs8 (λid=>b+3<=id/\id<n7+1+2) ⟨by omega,by omega⟩
  rw[AQ]
  refine Jm (off:=0+4) (m:=1) (v:=vp') ((k8 (b+2) (by omega) (.inl (by omega))).trans b3) hsk8.ok.1 (by rw[hsk8.ok.2.1];rfl) (by omega) (by show 0+4+1<=8;omega) λH9 g9 s9=>?_
  rw[hsk8.ok.2.1]at g9
  rw[CO,AQ,Am,AQ]
  have m9:T.get H9 gp=_:=(s9 gp (by omega)).trans ((k8 gp (by omega) (.inl (by omega))).trans (f27.get m2.g (by omega)))
  refine AB (AV (off:=0+2) m9 (v:=vv) rfl) ?_
  have q9:T.get H9 n7=_:=(s9 n7 (by omega)).trans ((k8 n7 (by omega) (.inr (by omega))).trans g7)
  refine AB (Bf (m:=3) q9 (by omega) rfl) ?_
  have svo:∀id,vv.Ec=some id->T.get H9 id=T.get H2 id:=λid hid=>by
   have h:=sv.own hid
   exact(s9 id (by omega)).trans ((same8 id (by omega) h.2.2).trans (f27.same id h.2.1))
  have sv9:Sk H9 3 (λid=>b+3<=id/\id<n2/\vp'.Ec≠some id) vv (ps.map UW):=sv.TV (λid hid=>by
   have h:=sv.own hid
   exact⟨h.1,h.2.1,λe=>by rw[hsid8]at e;cases e;omega⟩) svo
  refine sv9.app (bs:=40) (c:=.agg (UW ⟨nmP j,t⟩)) (m:=0) (λid hid=>by have:=(sv9.own hid).2.1;omega) (by omega) rfl rfl (by rw[List.length_map];omega) λvv' H10 hs10 same10 hsid10=>?_
  have k10:∀id,id<n7+1+2->vv.Ec≠some id->T.get H10 id=T.get H9 id:=λid h1 h2=>same10 id h1 h2
  have hsk10:=hs10 (λid=>b+3<=id/\id<n7+1+2+2/\vp'.Ec≠some id) ⟨by omega,by omega,λe=>by rw[hsid8]at e;have:=Option.some.inj e;omega⟩
  have vlo:∀id,id<b+3->vv.Ec≠some id:=λid h e=>by have:=sv9.own e;omega
  rw[AQ,Am,AQ]
  refine Jm (off:=0+2) (m:=1) (v:=vv') ((k10 gp (by omega) (vlo gp (by omega))).trans m9) hsk10.ok.1 (by rw[hsk10.ok.2.1];rfl) (by omega) (by show 0+2+1<=5;omega) λH11 g11 s11=>?_
  rw[hsk10.ok.2.1]at g11
  rw[FB (by omega),AQ]
  have k11:∀id,id<b+3->id≠gp->id≠b+2->T.get H11 id=T.get H2 id:=λid h1 h2 h3=>(s11 id h2).trans ((k10 id (by omega) (vlo id h1)).trans ((s9 id h3).trans ((k8 id (by omega) (.inl h1)).trans (f27.same id (by omega)))))
  refine ih _ ⟨H11,n7+1+2+2,vp',vv',rfl,⟨(k11 b (by omega) (by omega) (by omega)).trans bx2.b1,(k11 (b+1) (by omega) (by omega) (by omega)).trans bx2.b2,(s11 (b+2) (by omega)).trans ((k10 (b+2) (by omega) (vlo _ (by omega))).trans g9),by omega,hg⟩,
   λid h1 h2=>(k11 id (by omega) h2 (by omega)).trans (old2 id h1 h2),⟨g11,m2.pk⟩,?_,?_⟩
  ·rw[htake,List.map_append]
   exact hsk8.TV (λid hid=>by have:=hsk8.own hid;omega) λid hid=>by
    have h:=hsk8.own hid
    refine(s11 id (by omega)).trans ((k10 id h.2 λe=>?_).trans (s9 id (by omega)))
    have:=(sv9.own e).2.2;exact this hid
  ·rw[htake,List.map_append]
   exact hsk10.TV (λid hid=>hsk10.own hid) λid hid=>s11 id (by have:=hsk10.own hid;omega)
 ·rintro I q ⟨H2,n2,vp,vv,rfl,hj⟩
  show FY lfp G (Runs F G) k I (.ptr gp 0) (.ptr b 0) (.ptr (b+1) 0) (.ptr (b+2) 0) v5 (.int .i64 (.ofNat ts.length) 0) (.int .i64 (.ofNat ts.length) 0) H2 n2
  delta FY
  rw[EP,AQ,decide_eq_false (Nat.lt_irrefl _),Aj]
  rw[List.take_of_length_le (by rw[kK];exact Nat.le_refl _)]at hj
  exact AK3 hret htm hln hcls hs hnm hj hk
theorem AO3{H:Heap}{n:Nat}{v5:V}(hret:Lh ret)(htm:∀t∈ts,Lh t)(hln:ts.length<=3)(hcls:cls=nA∨cls=nB)(hs:s.at'+100000<10000000000)(hnm:s.names+48<600)
 (m:WC G H gp s) (hgn:gp<n) (hel:El G H v5 2 (ts.map Ty.cells)) (hlo:∀id,v5.Ec=some id->id<n/\id≠gp) (hk:ALE G H n gp s cls nm st ret ts k):
 Runs F G EH [.ptr gp 0,cls.v,nm.v,.bool st,ret.v,v5] H n k:=by
 refine BH (s:=ar6 (Jy lfp G)) Nw (by obtain⟨h,o⟩:=eH BI G;rw[Nw]at h;cases h;exact o) ?_
 show Jy lfp G (Runs F G) (.ptr gp 0) cls.v nm.v (.bool st) ret.v v5 H n k
 delta Jy
 refine Dq λH1 f1 g1=>?_
 refine Az rfl λH2 f2 g2=>?_
 have g1:=f2.get g1 (by omega)
 refine AB (DT g1) ?_
 rw[show Dv tmZ [(2,1,.c nm.v),(3,1,.c (.bool st)),(5,2,.c ret.v)]=some (.agg (tmC 0 0 nm st .Ad ret .Ad))from rfl,AQ]
 refine Az rfl λH3 f3 g3=>?_
 refine DV g3 rfl rfl (by omega) λH4 g4 s4=>?_
 have f14:Kp H n H4 (n+1+1+1):=(f1.trans f2).trans ⟨f3.le,λid hid=>(s4 id (by omega)).trans (f3.same id hid)⟩
 have b1:T.get H4 n=_:=(s4 n (by omega)).trans (f3.get g1 (by omega))
 have b2:T.get H4 (n+1)=_:=(s4 (n+1) (by omega)).trans (f3.get g2 (by omega))
 have m4:=f14.get m.g hgn
 rw[CO,AQ,Am,AQ]
 refine Jm (off:=0+4) (m:=1) (v:=cls.v) m4 rfl rfl (by omega) (by show 0+4+1<=5;omega) λH5 g5 s5=>?_
 have pV:Bm H5 (n+1+1+1) n gp nm st ret .Ad .Ad:=⟨(s5 n (by omega)).trans b1,(s5 (n+1) (by omega)).trans b2,(s5 (n+1+1) (by omega)).trans g4,by omega,hgn⟩
 have AUn:∀id,id<n->id≠gp->T.get H5 id=T.get H id:=λid h1 h2=>(s5 id h2).trans (f14.same id h1)
 cases st with
 |false=>
  rw[Aj]
  exact AFh (v0:=s.vv) hret htm hln hcls hs hnm pV AUn ⟨g5,m.pk⟩ (hel.same λid hid=>AUn id (hlo id hid).1 (hlo id hid).2) hlo hk
 |true=>
  rw[Ar,AQ,Am,AQ]
  refine Jm (off:=0+4) (m:=1) (v:=.str 0 0) g5 rfl rfl (by omega) (by show 0+4+1<=5;omega) λH6 g6 s6=>?_
  have old6:∀id,id<n->id≠gp->T.get H6 id=T.get H id:=λid h1 h2=>(s6 id h2).trans (AUn id h1 h2)
  exact AFh (v0:=s.vv) hret htm hln hcls hs hnm ⟨(s6 n (by omega)).trans pV.b1,(s6 (n+1) (by omega)).trans pV.b2,(s6 (n+2) (by omega)).trans pV.b3,by omega,hgn⟩ old6 ⟨g6,m.pk⟩ (hel.same λid hid=>old6 id (hlo id hid).1 (hlo id hid).2) hlo hk
end
structure Cl(G:AX)(H:Heap)(n gp c:Nat)(D:Nat->Prop)(nm sup:St)(fs:List Dh)(ms:List Tm):Prop where
 lt:∀id,D id->gp<id/\id<n
 dc:D c
 ex:∃vf vm cs,T.get H c=some (one (tcC 0 0 nm sup vf vm))/\ADg G H (λid=>D id/\id≠c/\vm.Ec≠some id) vf fs/\Sk H 8 (λid=>D id/\id≠c) vm cs/\MW G H (λid=>D id/\id≠c/\vm.Ec≠some id) cs ms
theorem Cl.same{G:AX}{H H':Heap}{n n' gp c:Nat}{D:Nat->Prop}{nm sup:St}{fs:List Dh}{ms:List Tm}(h:Cl G H n gp c D nm sup fs ms)(hn:n<=n')(hs:∀id,D id->T.get H' id=T.get H id):Cl G H' n' gp c D nm sup fs ms:=by
 obtain⟨vf,vm,cs,h1,h2,h3,h4⟩:=h.ex
 exact⟨λid hid=>⟨(h.lt id hid).1,Nat.lt_of_lt_of_le (h.lt id hid).2 hn⟩,h.dc,vf,vm,cs,(hs c h.dc).trans h1,h2.mono (λ_ h=>h) λid hid=>hs id hid.1,h3.mono (λ_ h=>h) λid hid=>hs id hid.1,MW.mono (λ_ h=>h) (λid hid=>hs id hid.1) h4⟩
theorem Cl.kp{G:AX}{H H':Heap}{n n' gp c:Nat}{D:Nat->Prop}{nm sup:St}{fs:List Dh}{ms:List Tm}(h:Cl G H n gp c D nm sup fs ms)(f:Kp H n H' n'):Cl G H' n' gp c D nm sup fs ms:=
 h.same f.le λid hid=>f.same id (h.lt id hid).2
def Mg.z(vp:V)(a nms:Nat)(i:St):Mg:=⟨vp,a,.Ad,nms,i⟩
structure yV(cls:St)(m:Tm)(q:Es):Prop where
 nm:m.nm=q.nm
 st:m.st=q.st
 ret:m.ret=q.ret
 ps:m.ps=TG 0 q.ps
 gd:GdM cls m
def Shape(G:AX)(SH:V->V->(V->V->Heap->Nat->Prop)->Heap->Nat->Prop)(q:Es):Prop:=
 ∀(H:Heap) (n:Nat) (p w:V) (K:V->V->Heap->Nat->Prop),(∀H' n',Kp H n H' n'->AY p G H'=some w)->Aw w w=true->
  (∀H' n' v5,Kp H n H' n'->El G H' v5 2 (q.ps.map Ty.cells)->(∀id,v5.Ec=some id->n<=id/\id<n')->K q.ret.v v5 H' n')->SH p w K H n
section
variable{G:AX}
abbrev AYZ(G:AX):V->V->(V->V->Heap->Nat->Prop)->Heap->Nat->Prop:=λp w K H n=>
 Runs F G BZ [] H n λv15 H n=>AP (AY p G H) λv=>ER (Aw v w) <| Runs F G BZ [] H n λv16 H n=>AP (AY p G H) λv=>ER (Aw v w) <|
 Bh (Af 2 1 [.str 0 0,.bool false] [(0,.c v16)] E0) H n λv17 H n=>K v15 v17 H n
theorem ANN:Shape G (AYZ G) Qn:=λH n p w K hp hw hk=>
 Oj λH1 n1 f1=>AB (hp _ _ f1) (Di hw (Oj λH2 n2 f2=>AB (hp _ _ (f1.trans f2)) (Di hw (WU (G:=G) (vs:=[Du.v]) rfl (by omega) (λv hv=>by simp at hv;subst hv;exact⟨rfl,rfl⟩) λH3 f3 _ hel=>
  hk H3 _ _ ((f1.trans f2).trans f3) hel λid hid=>by cases hid;have:=f1.le;have:=f2.le;omega))))
abbrev AV0(G:AX):V->V->(V->V->Heap->Nat->Prop)->Heap->Nat->Prop:=λp w K H n=>
 Runs F G Ez [.str 1 65] H n λv25 H n=>AP (AY p G H) λv=>ER (Aw v w) <| K v25 .Ad H n
theorem AQT:Shape G (AV0 G) iC:=λH n p w K hp hw hk=>
 jK (l:=1) (c:=65) λH1 n1 f1=>AB (hp _ _ f1) (Di hw (hk H1 n1 .Ad f1 ACW λid hid=>by cases hid))
abbrev AYE(G:AX):V->V->(V->V->Heap->Nat->Prop)->Heap->Nat->Prop:=λp w K H n=>
 Runs F G BZ [] H n λv33 H n=>AP (AY p G H) λv=>ER (Aw v w) <| Runs F G BZ [] H n λv34 H n=>AP (AY p G H) λv=>ER (Aw v w) <|
 Runs F G Ez [.str 1 65] H n λv35 H n=>AP (AY p G H) λv=>ER (Aw v w) <| Bh (Af 2 2 [.str 0 0,.bool false] [(0,.c v34),(1,.c v35)] E0) H n λv36 H n=>K v33 v36 H n
theorem AMU:Shape G (AYE G) RD:=λH n p w K hp hw hk=>
 Oj λH1 n1 f1=>AB (hp _ _ f1) (Di hw (Oj λH2 n2 f2=>AB (hp _ _ (f1.trans f2)) (Di hw (jK (l:=1) (c:=65) λH4 n4 f4=>AB (hp _ _ ((f1.trans f2).trans f4)) (Di hw
  (WU (G:=G) (vs:=[Du.v,tA.v]) rfl (by omega) (λv hv=>by simp at hv;rcases hv with rfl|rfl<;>exact⟨rfl,rfl⟩) λH3 f3 _ hel=>
  hk H3 _ _ (((f1.trans f2).trans f4).trans f3) hel λid hid=>by cases hid;have:=f1.le;have:=f2.le;have:=f4.le;omega))))))
abbrev AUl(G:AX):V->V->(V->V->Heap->Nat->Prop)->Heap->Nat->Prop:=λp w K H n=>
 Runs F G BZ [] H n λv33 H n=>AP (AY p G H) λv=>ER (Aw v w) <| Runs F G BZ [] H n λv34 H n=>AP (AY p G H) λv=>ER (Aw v w) <|
 Runs F G BZ [] H n λv35 H n=>AP (AY p G H) λv=>ER (Aw v w) <| Bh (Af 2 2 [.str 0 0,.bool false] [(0,.c v34),(1,.c v35)] E0) H n λv36 H n=>K v33 v36 H n
theorem AQP:Shape G (AUl G) wL:=λH n p w K hp hw hk=>
 Oj λH1 n1 f1=>AB (hp _ _ f1) (Di hw (Oj λH2 n2 f2=>AB (hp _ _ (f1.trans f2)) (Di hw (Oj λH4 n4 f4=>AB (hp _ _ ((f1.trans f2).trans f4)) (Di hw
  (WU (G:=G) (vs:=[Du.v,Du.v]) rfl (by omega) (λv hv=>by simp at hv;subst hv;exact⟨rfl,rfl⟩) λH3 f3 _ hel=>
  hk H3 _ _ (((f1.trans f2).trans f4).trans f3) hel λid hid=>by cases hid;have:=f1.le;have:=f2.le;have:=f4.le;omega))))))
end
section
variable{G:AX}{H:Heap}{n gp c:Nat}{D:Nat->Prop}{cls cnm sup:St}{fs:List Dh}{ms:List Tm}{vp:V}{a nms:Nat}{i:St}
theorem AB4{SH:V->V->(V->V->Heap->Nat->Prop)->Heap->Nat->Prop}{q:Es}{P:Heap->Nat->Prop}(hSH:Shape G SH q)(hret:Lh q.ret)(htm:∀t∈q.ps,Lh t)(hln:q.ps.length<=3)(hcls:cls=nA∨cls=nB)
 (hs:a+100000<10000000000) (hnm:nms+48<600) (hms:ms.length<=100) (h:Cl G H n gp c D cnm sup fs ms) (m:WC G H gp (Mg.z vp a nms i)) (hgn:gp<n)
 (hk:∀H' n' a' nms' i' m1,n<=n'->(∀id,id<n->id≠gp->¬D id->T.get H' id=T.get H id)->Cl G H' n' gp c (λid=>D id∨(n<=id/\id<n')) cnm sup fs (ms++[m1])->WC G H' gp (Mg.z vp a' nms' i')->a'<=a+100000->nms'<=nms+48->yV cls m1 q->P H' n'):
 AP (AU 5 (.ptr c 0)) λv13=>AP (AY v13 G H) λv14=>SH v13 v14 (λv15 v17 H n=>Runs F G EH [.ptr gp 0,cls.v,q.nm.v,.bool q.st,v15,v17] H n λv18 H n=>
  AP (AY v13 G H) λv=>ER (Aw v v14) <| Bh (Af 8 1 tmZ [(0,.c v18)] E0) H n λv19 H n=>Rt 8 112 v14 v19 G H n λv20 H n=>AP (AU 5 (.ptr c 0)) λv21=>Bq 1 v21 v20 H n λ_ H n=>P H n) H n:=by
 obtain⟨vf,vm,cs,g0,hvs,hsk,hts⟩:=h.ex
 have hc:=h.lt c h.dc
 rw[Am,AQ]
 have q0:∀{H':Heap},T.get H' c=some (one (tcC 0 0 cnm sup vf vm))->AY (.ptr c (0+5)) G H'=some vm:=λg=>AV (off:=0+5) g rfl
 refine AB (q0 g0) ?_
 have hvm:=hsk.ok.2.2
 refine hSH H n _ _ _ (λH' n' f=>q0 (f.get g0 hc.2)) hvm λH1 n1 v5 f1 hel hlo=>?_
 have hn1:=f1.le
 refine AO3 (s:=Mg.z vp a nms i) hret htm hln hcls hs hnm ⟨f1.get m.g hgn,m.pk⟩ (by omega) hel (λid hid=>by have:=hlo id hid;omega) λH2 n2 a2 nms2 l m1 f2 m2 ha2 hn2a hn2b ht e1 e2 e3 e4 e5=>?_
 have hn2:=f2.le
 have g2:=f2.get (f1.get g0 hc.2) (by omega) (by omega)
 refine AB (q0 g2) (Di hvm ?_)
 have f12:Fg gp H n H2 n2:=(Fg.kp f1).trans f2
 have sk2:Sk H2 8 (λid=>D id/\id≠c) vm cs:=hsk.mono (λ_ h=>h) λid hid=>by have:=h.lt id hid.1;exact f12.same id this.2 (by omega)
 have hcl:=hts.len
 refine sk2.app (bs:=112) (c:=.agg l) (m:=0) (λid hid=>by have:=h.lt id (sk2.own hid).1;omega) (by omega) rfl ht.len (by rw[hcl];omega) λv' H3 hs3 same3 hsid=>?_
 have hsk3:=hs3 (λid=>(D id∨(n<=id/\id<n2+2))/\id≠c) ⟨.inr ⟨by omega,by omega⟩,by omega⟩
 have vmc:vm.Ec≠some c:=λe=>(sk2.own e).2 rfl
 have g3:T.get H3 c=_:=(same3 c (by omega) vmc).trans g2
 rw[AQ]
 refine Jm (off:=0+5) (m:=1) (v:=v') g3 hsk3.ok.1 (by rw[hsk3.ok.2.1];rfl) (by omega) (by show 0+5+1<=6;omega) λH4 g4 s4=>?_
 rw[hsk3.ok.2.1]at g4
 have vmg:vm.Ec≠some gp:=λe=>by have:=h.lt gp (sk2.own e).1;omega
 have v'ne:∀id,id<n2+1->v'.Ec≠some id:=λid h e=>by rw[hsid]at e;have:=Option.some.inj e;omega
 have keep:∀id,id<n->id≠gp->id≠c->vm.Ec≠some id->T.get H4 id=T.get H id:=λid h1 h2 h3 h4=>(s4 id h3).trans ((same3 id (by omega) h4).trans (f12.same id h1 h2))
 refine hk H4 (n2+2) a2 nms2 _ m1 (by omega) (λid h1 h2 h3=>keep id h1 h2 (λe=>h3 (e▸h.dc)) λe=>h3 (sk2.own e).1) ⟨λid hid=>?_,.inl h.dc,vf,v',cs++[l],g4,?_,?_,MW.app (MW.mono (λid hid=>?_) (λid hid=>?_) hts) (.cons (ht.mono (λid hid=>?_) λid hid=>?_) .nil)⟩
  ⟨(s4 gp (by omega)).trans ((same3 gp (by omega) vmg).trans m2.g),m2.pk⟩ ha2 hn2b ⟨e1,e2,e3,e4,e5⟩
 ·rcases hid with hid|hid
  ·have:=h.lt id hid;omega
  ·omega
 ·exact hvs.mono (λid hid=>⟨.inl hid.1,hid.2.1,v'ne id (by have:=h.lt id hid.1;omega)⟩) λid hid=>by have:=h.lt id hid.1;exact keep id this.2 (by omega) hid.2.1 hid.2.2
 ·exact hsk3.TV (λid hid=>hsk3.own hid) λid hid=>s4 id (hsk3.own hid).2
 ·exact⟨.inl hid.1,hid.2.1,v'ne id (by have:=h.lt id hid.1;omega)⟩
 ·have:=h.lt id hid.1;exact keep id this.2 (by omega) hid.2.1 hid.2.2
 ·exact⟨.inr ⟨by have:=hid.1;omega,by have:=hid.2;omega⟩,by have:=hid.1;omega,v'ne id (by have:=hid.2;omega)⟩
 ·exact(s4 id (by have:=hid.1;omega)).trans (same3 id hid.2 λe=>by have:=h.lt id (sk2.own e).1;have:=hid.1;omega)
end
def fsA:List Dh:=[⟨n_x,Du⟩,⟨ACO,tA⟩,⟨ANm,tIs⟩]
def fsB:List Dh:=[⟨QK,CJ⟩]
inductive Made:Tc->Tc->Prop where
 |mk {m1 m2 m3 m4:Tm} {bg bs:List Tm} (g s:Bool) (h1:yV nA m1 Qn) (h2:yV nA m2 iC) (h3:yV nA m3 RD) (h4:yV nA m4 wL) (hg:bif g then ∃m,bg=[m]/\yV nB m Qn else bg=[]) (hs:bif s then ∃m,bs=[m]/\yV nB m RD else bs=[]):
  Made ⟨nA,(0,0),fsA,[m1,m2,m3,m4]⟩ ⟨nB,nA,fsB,bg++bs⟩
theorem Cl.tc{G:AX}{H:Heap}{n gp c:Nat}{D:Nat->Prop}{nm sup:St}{fs:List Dh}{ms:List Tm}(h:Cl G H n gp c D nm sup fs ms):∃l,T.get H c=some (one l)/\jF G H D l ⟨nm,sup,fs,ms⟩:=by
 obtain⟨vf,vm,cs,h1,h2,h3,h4⟩:=h.ex
 exact⟨_,h1,.mk 0 0 (h2.mono (λ_ h=>h.1) λ_ _=>rfl) ⟨cs,h3.el (by omega),h3.ks,h3.ok.1,h3.ok.2.1,λid hid=>(h3.own hid).1,MW.mono (λ_ h=>h.1) (λ_ _=>rfl) h4⟩⟩
abbrev tcZ:LV:=[.int .i64 (.ofNat 0) 0,.int .i64 (.ofNat 0) 0,.str 0 0,.str 0 0,.Ad,.Ad]
theorem tI:Lh Du:=.inl rfl
theorem tAm:Lh tA:=.inr (.inr (.inl rfl))
section
variable{G:AX}{vp:V}{k:KV}
def AKr(G:AX)(H0:Heap)(n0:Nat)(k:KV):Prop:=∀H' n' v lA lB A B,Kp H0 n0 H' n'->El G H' v 6 [lA,lB]->KS v->jZ v=true->Ba v=[v]->(∀id,v.Ec=some id->Rg n0 n' id)->jF G H' (Rg n0 n') lA A->jF G H' (Rg n0 n') lB B->Made A B->k v H' n'
structure Tw(G:AX)(H0:Heap)(n0:Nat)(H:Heap)(n ca cb:Nat)(DA DB:Nat->Prop)(vp:V)(a nms:Nat)(i:St)(msA msB:List Tm):Prop where
 A:Cl G H n n0 ca DA nA (0,0) fsA msA
 B:Cl G H n n0 cb DB nB nA fsB msB
 ne:∀id,DA id->¬DB id
 m:WC G H n0 (Mg.z vp a nms i)
 le:n0+1<=n
 old:∀id,id<n0->T.get H id=T.get H0 id
theorem AI5{H0 H:Heap}{n0 n ca cb a nms:Nat}{DA DB:Nat->Prop}{i:St}{m1 m2 m3:Tm}{bg bs:List Tm}{g s:Bool}(h:Tw G H0 n0 H n ca cb DA DB vp a nms i [m1,m2,m3] (bg++bs))(ha:a<=600000)(hn:nms<=300)
 (h1:yV nA m1 Qn) (h2:yV nA m2 iC) (h3:yV nA m3 RD) (hg:bif g then ∃m,bg=[m]/\yV nB m Qn else bg=[]) (hs:bif s then ∃m,bs=[m]/\yV nB m RD else bs=[]) (hk:AKr G H0 n0 k):
 Ib lfp G (Runs F G) k (.ptr n0 0) (.ptr ca 0) (.ptr cb 0) H n:=by
 delta Ib
 refine AB4 (q:=wL) (cls:=nA) (vp:=vp) (a:=a) (nms:=nms) (i:=i) (AQP (G:=G)) tI (λt ht=>by simp[wL]at ht;subst ht;exact tI) (by decide) (.inl rfl) (by omega) (by omega) (by show 3<=100;omega) h.A h.m (by have:=h.le;omega) ?_
 intro H1 n1 a1 nms1 i1 m4 hn1 same cl1 mm ha1 hnm1 sg
 have hB1:Cl G H1 n1 n0 cb DB nB nA fsB (bg++bs):=h.B.same hn1 λid hid=>by have:=h.B.lt id hid;exact same id this.2 (by omega) λe=>h.ne id e hid
 obtain⟨lA,gA,tA1⟩:=cl1.tc
 obtain⟨lB,gB,tB1⟩:=hB1.tc
 refine AB (Bf (m:=6) gA (by omega) tA1.len) (AB (Bf (m:=6) gB (by omega) tB1.len) ?_)
 refine WU (G:=G) (vs:=[.agg lA,.agg lB]) rfl (by omega) (λv hv=>by simp at hv;rcases hv with rfl|rfl;exact⟨rfl,tA1.len⟩;exact⟨rfl,tB1.len⟩) λH2 f2 _ hel=>?_
 have hle:=h.le
 refine hk H2 (n1+1) _ lA lB _ _ ⟨by omega,λid hid=>?_⟩ hel (AGa (Nat.le_refl _)) rfl rfl (λid hid=>by cases hid;exact⟨by omega,by omega⟩) (tA1.mono (λid hid=>?_) λid hid=>?_) (tB1.mono (λid hid=>?_) λid hid=>?_) (Made.mk g s h1 h2 h3 sg hg hs)
 ·exact(f2.same id (by omega)).trans ((same id (by omega) (by omega) λe=>by have:=h.A.lt id e;omega).trans (h.old id hid))
 ·have:=cl1.lt id hid;exact⟨by omega,by omega⟩
 ·exact f2.same id (cl1.lt id hid).2
 ·have:=hB1.lt id hid;exact⟨by omega,by omega⟩
 ·exact f2.same id (hB1.lt id hid).2
theorem AKB{H0 H:Heap}{n0 n ca cb a nms:Nat}{DA DB:Nat->Prop}{i:St}{m1 m2 m3:Tm}{bg:List Tm}{g:Bool}(h:Tw G H0 n0 H n ca cb DA DB vp a nms i [m1,m2,m3] bg)(ha:a<=480000)(hn:nms<=250)
 (h1:yV nA m1 Qn) (h2:yV nA m2 iC) (h3:yV nA m3 RD) (hg:bif g then ∃m,bg=[m]/\yV nB m Qn else bg=[]) (hk:AKr G H0 n0 k):
 Ii lfp G (Runs F G) k (.ptr n0 0) (.ptr ca 0) (.ptr cb 0) H n:=by
 delta Ii
 have hle:=h.le
 refine JI h.m (by omega) (by omega) (by show a<_;omega) λH1 r a1 hr ha1 m1' s1=>?_
 have ha1:a1<=a+1:=ha1
 have h':Tw G H0 n0 H1 n ca cb DA DB vp a1 nms i [m1,m2,m3] bg:=⟨h.A.same (Nat.le_refl _) λid hid=>s1 id (by have:=h.A.lt id hid;omega),h.B.same (Nat.le_refl _) λid hid=>s1 id (by have:=h.B.lt id hid;omega),h.ne,m1',h.le,λid hid=>(s1 id (by omega)).trans (h.old id hid)⟩
 refine AB (DI ..) ?_
 cases h0:decide (r=0)with
 |false=>
  rw[Aj]
  exact AI5 (bs:=[]) (s:=false) (by rw[List.append_nil];exact h') (by omega) (by omega) h1 h2 h3 hg rfl hk
 |true=>
  rw[Ar]
  refine AB4 (q:=RD) (cls:=nB) (vp:=vp) (a:=a1) (nms:=nms) (i:=i) (AMU (G:=G)) tI (λt ht=>by simp[RD]at ht;rcases ht with rfl|rfl;exact tI;exact tAm) (by decide) (.inr rfl) (by omega) (by omega) ?_ h'.B h'.m (by omega) ?_
  ·cases g
   ·rw[show bg=[]from hg];exact Nat.zero_le _
   ·obtain⟨m,rfl,_⟩:=hg;show 1<=100;omega
  intro H2 n2 a2 nms2 i2 mB hn2 same cl2 mm ha2 hnm2 sg
  refine AI5 (bs:=[mB]) (s:=true) (DA:=DA) ⟨h'.A.same hn2 λid hid=>by have:=h'.A.lt id hid;exact same id this.2 (by omega) (h.ne id hid),cl2,λid hid e=>?_,mm,by omega,λid hid=>(same id (by omega) (by omega) λe=>by have:=h'.B.lt id e;omega).trans (h'.old id hid)⟩ (by omega) (by omega) h1 h2 h3 hg ⟨mB,rfl,sg⟩ hk
  rcases e with e|e
  ·exact h.ne id hid e
  ·have:=h'.A.lt id hid;omega
theorem ANq{H:Heap}{n:Nat}(hp:AWr G vp)(hvp:vp=.Ad∨∃b o l c z,vp=.rsl b o l c z)(hk:AKr G H n k):Runs F G Z7 [vp] H n k:=by
 refine BH (s:=mO (PW lfp G)) UL (by obtain⟨h,o⟩:=vg BI G;rw[UL]at h;cases h;exact o) ?_
 show PW lfp G (Runs F G) vp H n k
 delta PW
 have hb:Dv [.Ad,.int .i64 (.ofNat 0) 0,.Ad,.int .i64 (.ofNat 0) 0,.str 0 0] [(0,1,.c vp)]=some (.agg (Mg.z vp 0 0 (0,0)).cells):=by rcases hvp with rfl|⟨b,o,l,c,z,rfl⟩<;>rfl
 rw[hb,AQ]
 refine Dq λH1 f1 g1=>?_
 refine Oj λH2 n2 f2=>?_
 refine AB (v:=.agg (UW ⟨n_x,Du⟩)) rfl ?_
 refine jK (l:=1) (c:=65) λH3 n3 f3=>?_
 refine AB (v:=.agg (UW ⟨ACO,tA⟩)) rfl ?_
 refine zh λH4 n4 f4=>?_
 refine AB (v:=.agg (UW ⟨ANm,tIs⟩)) rfl ?_
 have f24:=(f2.trans f3).trans f4
 have hn4:=f24.le
 refine WU (G:=G) (vs:=[.agg (UW ⟨n_x,Du⟩),.agg (UW ⟨ACO,tA⟩),.agg (UW ⟨ANm,tIs⟩)]) rfl (by omega) (λv hv=>by simp at hv;rcases hv with rfl|rfl|rfl<;>exact⟨rfl,rfl⟩) λH5 f5 _ AFs=>?_
 refine AB (v:=.agg (tcC 0 0 nA (0,0) (.sl n4 0 3 3 3) .Ad)) rfl ?_
 refine Az rfl λH6 f6 g6=>?_
 refine DV g6 rfl rfl (by omega) λH7 g7 s7=>?_
 have f57:Kp H5 (n4+1) H7 (n4+1+1):=⟨f6.le,λid hid=>(s7 id (by omega)).trans (f6.same id hid)⟩
 have f27:=(f24.trans f5).trans f57
 have clA:Cl G H7 (n4+1+1) n (n4+1) (λid=>n4<=id/\id<n4+1+1) nA (0,0) fsA []:=⟨λid hid=>by omega,by omega,.sl n4 0 3 3 3,.Ad,[],g7,
  ⟨AFs.same λid hid=>by cases hid;exact f57.same _ (by omega),AGa (Nat.le_refl _),rfl,rfl,λid hid=>by cases hid;exact⟨⟨by omega,by omega⟩,by omega,by simp[V.Ec]⟩⟩,.nil,.nil⟩
 have m7:WC G H7 n (Mg.z vp 0 0 (0,0)):=⟨f27.get g1 (by omega),hp⟩
 refine AB4 (q:=Qn) (cls:=nA) (vp:=vp) (a:=0) (nms:=0) (i:=(0,0)) (ANN (G:=G)) tI (λt ht=>by simp[Qn]at ht;subst ht;exact tI) (by decide) (.inl rfl) (by omega) (by omega) (by decide) clA m7 (by omega) ?_
 intro H8 n8 a8 nm8 i8 m1 hn8 same8 cl8 mm8 ha8 hnm8 sg1
 refine AB4 (q:=iC) (cls:=nA) (vp:=vp) (a:=a8) (nms:=nm8) (i:=i8) (AQT (G:=G)) tAm (λt ht=>by simp[iC]at ht) (by decide) (.inl rfl) (by omega) (by omega) (by show 1<=100;omega) cl8 mm8 (by omega) ?_
 intro H9 n9 a9 nm9 i9 m2 hn9 AC5 cl9 mm9 ha9 hnm9 sg2
 refine AB4 (q:=RD) (cls:=nA) (vp:=vp) (a:=a9) (nms:=nm9) (i:=i9) (AMU (G:=G)) tI (λt ht=>by simp[RD]at ht;rcases ht with rfl|rfl;exact tI;exact tAm) (by decide) (.inl rfl) (by omega) (by omega) (by show 2<=100;omega) cl9 mm9 (by omega) ?_
 intro H10 n10 a10 nm10 i10 m3 hn10 same10 cl10 mm10 ha10 hnm10 sg3
 have AYa:∀id,id<n->T.get H10 id=T.get H id:=λid hid=>
  (same10 id (by omega) (by omega) λe=>by have:=cl9.lt id e;omega).trans ((AC5 id (by omega) (by omega) λe=>by have:=cl8.lt id e;omega).trans ((same8 id (by omega) (by omega) λe=>by have:=clA.lt id e;omega).trans ((f27.same id (by omega)).trans (f1.same id hid))))
 refine UC λH11 n11 f11=>?_
 have hn11:=f11.le
 refine AB (v:=.agg (UW ⟨QK,CJ⟩)) rfl ?_
 refine WU (G:=G) (vs:=[.agg (UW ⟨QK,CJ⟩)]) rfl (by omega) (λv hv=>by simp at hv;subst hv;exact⟨rfl,rfl⟩) λH12 f12 _ hel12=>?_
 refine AB (v:=.agg (tcC 0 0 nB nA (.sl n11 0 1 1 3) .Ad)) rfl ?_
 refine Az rfl λH13 f13 g13=>?_
 refine DV g13 rfl rfl (by omega) λH14 g14 s14=>?_
 have AUB:Kp H12 (n11+1) H14 (n11+1+1):=⟨f13.le,λid hid=>(s14 id (by omega)).trans (f13.same id hid)⟩
 have f1014:=(f11.trans f12).trans AUB
 have clB:Cl G H14 (n11+1+1) n (n11+1) (λid=>n11<=id/\id<n11+1+1) nB nA fsB []:=⟨λid hid=>by omega,by omega,.sl n11 0 1 1 3,.Ad,[],g14,
  ⟨hel12.same λid hid=>by cases hid;exact AUB.same _ (by omega),AGa (Nat.le_refl _),rfl,rfl,λid hid=>by cases hid;exact⟨⟨by omega,by omega⟩,by omega,by simp[V.Ec]⟩⟩,.nil,.nil⟩
 have m14:WC G H14 n (Mg.z vp a10 nm10 i10):=⟨f1014.get mm10.g (by omega),hp⟩
 refine JI m14 (by omega) (by omega) (by show a10<_;omega) λH15 r a15 hr AXZ m15 s15=>?_
 have AXZ:a15<=a10+1:=AXZ
 have clA15:=(cl10.kp f1014).same (H':=H15) (Nat.le_refl _) λid hid=>s15 id (by have:=cl10.lt id hid;omega)
 have tw:Tw G H n H15 (n11+1+1) (n4+1) (n11+1) _ _ vp a15 nm10 i10 [m1,m2,m3] []:=⟨clA15,clB.same (Nat.le_refl _) λid hid=>s15 id (by omega),λid hid=>by have:=cl10.lt id hid;omega,m15,by omega,
  λid hid=>(s15 id (by omega)).trans ((f1014.same id (by omega)).trans (AYa id hid))⟩
 refine AB (N9 ..) ?_
 cases h0:decide (0<r)with
 |false=>rw[Aj];exact AKB (g:=false) tw (by omega) (by omega) sg1 sg2 sg3 rfl hk
 |true=>
  rw[Ar]
  refine AB4 (q:=Qn) (cls:=nB) (vp:=vp) (a:=a15) (nms:=nm10) (i:=i10) (ANN (G:=G)) tI (λt ht=>by simp[Qn]at ht;subst ht;exact tI) (by decide) (.inr rfl) (by omega) (by omega) (by decide) tw.B tw.m (by omega) ?_
  intro H16 n16 a16 nm16 i16 mB hn16 same16 cl16 mm16 ha16 hnm16 sgB
  refine AKB (g:=true) ⟨tw.A.same hn16 λid hid=>by have:=tw.A.lt id hid;exact same16 id this.2 (by omega) (tw.ne id hid),cl16,λid hid e=>?_,mm16,by omega,λid hid=>(same16 id (by omega) (by omega) λe=>by have:=tw.B.lt id e;omega).trans (tw.old id hid)⟩ (by omega) (by omega) sg1 sg2 sg3 ⟨mB,rfl,sgB⟩ hk
  rcases e with e|e
  ·exact tw.ne id hid e
  ·have:=tw.A.lt id hid;omega
end
end Go.RL
