/- Part of a proof; nothing is assumed. -/
import Derived.Test.YtmbhlmocojopaaaGreatDoorConD
set_option linter.unusedVariables false
set_option linter.unusedSimpArgs false
noncomputable section
namespace Go.RL
open Go.DK
set_option maxRecDepth 100000
def Mg.st(s:Mg)(a nm:Nat)(vv:V):Mg:={s with at':=a,names:=nm,vv:=vv}
structure Fv(gp:Nat)(v:V)(H:Heap)(n:Nat)(H':Heap)(n':Nat):Prop where
 le:n<=n'
 same:∀id,id<n->id≠gp->v.D9≠some id->T.get H' id=T.get H id
def Sd(n:Nat)(v v':V):Prop:=v'.D9=v.D9∨∀id,v'.D9=some id->n<=id
theorem Sd.refl(n:Nat)(v:V):Sd n v v:=.inl rfl
theorem Sd.trans{n n':Nat}{v v' v'':V}(h:Sd n v v')(h':Sd n' v' v'')(hn:n<=n'):Sd n v v'':=by
 rcases h' with h'|h'
 ·rcases h with h|h
  ·exact .inl (h'.trans h)
  ·exact .inr λid hid=>h id (h'.symm.trans hid)
 ·exact .inr λid hid=>Nat.le_trans hn (h' id hid)
theorem Fv.trans{gp:Nat}{v v':V}{H H' H'':Heap}{n n' n'':Nat}(x:Fv gp v H n H' n')(y:Fv gp v' H' n' H'' n'')(h:Sd n v v'):Fv gp v H n H'' n'':=
 ⟨Nat.le_trans x.le y.le,λid hid hg hv=>(y.same id (Nat.lt_of_lt_of_le hid x.le) hg (by
  rcases h with h|h
  ·rw[h];exact hv
  ·intro e;have:=h id e;omega)).trans (x.same id hid hg hv)⟩
theorem Fg.fv{gp:Nat}{H H':Heap}{n n':Nat}(v:V)(x:Fg gp H n H' n'):Fv gp v H n H' n':=⟨x.le,λid h hg _=>x.same id h hg⟩
theorem Fv.get{gp:Nat}{v:V}{H H':Heap}{n n' id:Nat}{b:Ro}(x:Fv gp v H n H' n')(h:T.get H id=some b)(hl:id<n)(hg:id≠gp)(hv:v.D9≠some id):T.get H' id=some b:=(x.same id hl hg hv).trans h
structure Lw(H:Heap)(n gp:Nat)(v:V)(Γ:List DJ):Prop where
 sk:Sk H 3 (λid=>id<n/\id≠gp) v (Γ.map QZ)
 lt:Γ.length<=1000
theorem Lw.lv{G:AX}{H:Heap}{n gp:Nat}{v:V}{Γ:List DJ}(h:Lw H n gp v Γ):AO7 G H n gp v Γ:=⟨h.sk.el (by omega),λ_ hid=>h.sk.own hid,h.lt⟩
theorem Lw.fg{H H':Heap}{n n' gp:Nat}{v:V}{Γ:List DJ}(h:Lw H n gp v Γ)(f:Fg gp H n H' n'):Lw H' n' gp v Γ:=
 ⟨h.sk.mono (λ_ hid=>⟨Nat.lt_of_lt_of_le hid.1 f.le,hid.2⟩) λid hid=>f.same id hid.1 hid.2,h.lt⟩
theorem Lw.kp{H H':Heap}{n n' gp:Nat}{v:V}{Γ:List DJ}(h:Lw H n gp v Γ)(f:Kp H n H' n'):Lw H' n' gp v Γ:=h.fg (.kp f)
structure Ms(G:AX)(H:Heap)(n gp:Nat)(s:Mg)(Γ:List DJ):Prop where
 m:Uw G H gp s
 g:gp<n
 w:Lw H n gp s.vv Γ
 gam:Gam Γ s.names
 inn:s.inn=(0,0)∨s.inn=nA∨s.inn=nB
theorem Ms.mk'{G:AX}{H:Heap}{n gp:Nat}{s:Mg}{Γ:List DJ}(h:Ms G H n gp s Γ):Mk G H n gp s Γ:=⟨h.m,h.g,h.w.lv,h.gam,h.inn⟩
theorem Ms.fg{G:AX}{H H':Heap}{n n' gp a:Nat}{s:Mg}{Γ:List DJ}(h:Ms G H n gp s Γ)(f:Fg gp H n H' n')(m:Uw G H' gp (s.to a)):Ms G H' n' gp (s.to a) Γ:=
 ⟨m,Nat.lt_of_lt_of_le h.g f.le,h.w.fg f,h.gam,h.inn⟩
theorem Ms.kp{G:AX}{H H':Heap}{n n' gp:Nat}{s:Mg}{Γ:List DJ}(h:Ms G H n gp s Γ)(f:Kp H n H' n'):Ms G H' n' gp s Γ:=
 ⟨⟨f.get h.m.g h.g,h.m.pk⟩,Nat.lt_of_lt_of_le h.g f.le,h.w.kp f,h.gam,h.inn⟩
def Rv(a b:Nat)(v:V):Nat->Prop:=λid=>a<=id/\id<b/\v.D9≠some id
def qW(G:AX)(H:Heap)(n gp:Nat)(s:Mg)(Γ:List DJ)(ret:Ty)(c kk:Nat)(k:KV):Prop:=
 ∀H' n' a nm vv ex l st,ex.length<=1->Fv gp s.vv H n H' n'->Uw G H' gp (s.st a nm vv)->a<=s.at'+c->s.names<=nm->nm<=s.names+kk->Lw H' n' gp vv (Γ++ex)->Gam (Γ++ex) nm->Sd n s.vv vv->XU G H' (Rv n n' vv) l st->GdS s.inn ret Γ (Γ++ex) kk st->k (.agg l) H' n'
def AWK(G:AX)(H:Heap)(A:Nat->Prop)(v:V)(sts:List Tt):Prop:=∃cs,Sk H 9 A v cs/\IW G H (λid=>A id/\v.D9≠some id) cs sts
theorem Sk.ks{H:Heap}{z:Nat}{A:Nat->Prop}{v:V}{LS:Dy}(h:Sk H z A v LS):KS v:=by
 cases h with
 |nil=>exact AIl
 |emp=>exact AHh (Nat.le_refl _)
 |OT=>exact AWh ..
theorem AWK.ss{G:AX}{H:Heap}{A:Nat->Prop}{v:V}{sts:List Tt}(h:AWK G H A v sts):U9 G H A v sts:=by
 obtain⟨cs,h1,h2⟩:=h
 exact⟨cs,h1.el (by omega),h1.ks,h1.ok.1,h1.ok.2.1,λ_ hid=>h1.own hid,IW.mono (λ_ h=>h.1) (λ_ _=>rfl) h2⟩
theorem GdQ.le{inn:St}{ret:Ty}{Γ Γ':List DJ}{l:List Tt}{k k':Nat}(h:GdQ inn ret Γ Γ' k l)(hk:k<=k'):GdQ inn ret Γ Γ' k' l:=λx hx hr n hn=>by
 obtain⟨l',n',h1,h2⟩:=h x hx hr n (by omega)
 exact⟨l',n',h1,by omega⟩
def AU5(G:AX)(H:Heap)(n gp:Nat)(s:Mg)(Γ:List DJ)(ret:Ty)(c kk:Nat)(k:KV):Prop:=
 ∀H' n' a nm vv v sts ex,sts.length<=4->Fv gp s.vv H n H' n'->Uw G H' gp (s.st a nm vv)->a<=s.at'+c->s.names<=nm->nm<=s.names+kk->Lw H' n' gp vv Γ->Gam Γ nm->Sd n s.vv vv->AWK G H' (Rv n n' vv) v sts->GdQ s.inn ret Γ (Γ++ex) kk sts->k v H' n'
def uP:Nat->Nat
 |0=>1
 |d+1=>4*uP d
def cS:Nat->Nat
 |0=>1500
 |d+1=>1500+4*cS d
def ARj(G:AX)(gp d:Nat):Prop:=∀(ret:Ty) (H:Heap) (n:Nat) (s:Mg) (Γ:List DJ) (k:KV),Lh ret->Ms G H n gp s Γ->s.at'+cS d<100000000000->s.names+uP d<600->Γ.length+uP d<=1000->qW G H n gp s Γ ret (cS d) (uP d) k->
 Runs F G XC [.ptr gp 0,.int .i64 (.ofNat d) 0,ret.v] H n k
def AID(G:AX)(gp d:Nat):Prop:=∀(m:Nat) (ret:Ty) (H:Heap) (n:Nat) (s:Mg) (Γ:List DJ) (k:KV),m<=4->Lh ret->Ms G H n gp s Γ->s.at'+m*cS d<100000000000->s.names+m*uP d<600->Γ.length+m*uP d<=1000->AU5 G H n gp s Γ ret (m*cS d) (m*uP d) k->
 Runs F G D5 [.ptr gp 0,.int .i64 (.ofNat m) 0,.int .i64 (.ofNat d) 0,ret.v] H n k
structure Bs(H:Heap)(n b gp:Nat)(t:Ty):Prop where
 b1:T.get H b=some (one t.cells)
 b2:T.get H (b+1)=some (one ttZ)
 le:b+2<=n
 g:gp<b
theorem Bs.fg{H H':Heap}{n n' b gp:Nat}{t:Ty}(h:Bs H n b gp t)(f:Fg gp H n H' n'):Bs H' n' b gp t:=by
 have:=h.le;have:=h.g
 exact⟨f.get h.b1 (by omega) (by omega),f.get h.b2 (by omega) (by omega),Nat.le_trans h.le f.le,h.g⟩
theorem Bs.kp{H H':Heap}{n n' b gp:Nat}{t:Ty}(h:Bs H n b gp t)(f:Kp H n H' n'):Bs H' n' b gp t:=h.fg (.kp f)
theorem qL:∀d,1<=uP d
 |0=>Nat.le_refl _
 |d+1=>by have:=qL d;show 1<=4*uP d;omega
theorem ARZ:∀d,1500<=cS d
 |0=>Nat.le_refl _
 |d+1=>by show 1500<=1500+4*cS d;omega
section
variable{G:AX}{H H0:Heap}{n gp b:Nat}{s:Mg}{Γ:List DJ}{k:KV}{t:Ty}
theorem AJZ{c kk:Nat}{ex:List DJ}{vv:V}{a nm:Nat}{l:LV}{st:Tt}(hex:ex.length<=1)(hp:qW G H0 b gp s Γ t c kk k)(hb:Bs H n b gp t)(f:Fv gp s.vv H0 b H n)(m:Uw G H gp (s.st a nm vv))(ha:a<=s.at'+c)(h1:s.names<=nm)(h2:nm<=s.names+kk)
 (hw:Lw H n gp vv (Γ++ex)) (hgam:Gam (Γ++ex) nm) (hsd:Sd b s.vv vv) (hv:∀id,vv.D9=some id->id≠b+1) (ht:XU G H (Rv (b+2) n vv) l st) (hg:GdS s.inn t Γ (Γ++ex) kk st):
 BL 9 (.ptr (b+1) 0) (.agg l) H n λ_ H n=>Dz (BA [.cn (.ptr (b+1) 0) 9] G H) λl=>k (CG l) H n:=by
 have:=hb.g
 refine Bq hb.b2 rfl ht.len (by omega) λH4 g4 s4=>?_
 rw[Cm (m:=9) g4 (by omega) ht.len]
 simp only[go_sem]
 refine hp H4 n a nm vv ex l st hex ⟨f.le,λid hid hne hv=>(s4 id (by omega)).trans (f.same id hid hne hv)⟩ ⟨(s4 gp (by omega)).trans m.g,m.pk⟩ ha h1 h2 ⟨hw.sk.PW (λid hid=>hw.sk.own hid) λid hid=>s4 id (hv id hid),hw.lt⟩ hgam hsd
  (ht.mono (λid hid=>⟨by have:=hid.1;omega,hid.2⟩) λid hid=>s4 id (by have:=hid.1;omega)) hg
theorem ADk{does c kk a id m:Nat}{es:List Te}(hp:qW G H0 b gp s Γ t c kk k)(h0:Ms G H0 b gp s Γ)(hb:Bs H n b gp t)(f:Fg gp H0 b H n)(m1:Uw G H gp (s.to a))(ha:a<=s.at'+c)
 (hes:QI G H (Rg (b+2) n) (.sl id 0 m m 11) es) (hg:GdS s.inn t Γ Γ 0 (.mk does (0,0) OU es [] [])):
 D7 (.fn BR [] []) [.int .i64 (.ofNat does) 0,.sl id 0 m m 11] (Runs F G) H n λv H n=>BL 9 (.ptr (b+1) 0) v H n λ_ H n=>Dz (BA [.cn (.ptr (b+1) 0) 9] G H) λl=>k (CG l) H n:=by
 show Runs F G BR [.int .i64 (.ofNat does) 0,.sl id 0 m m 11] H n _
 have hbg:=hb.g
 have hbl:=hb.le
 refine AJl λH1 n1 f1=>?_
 have hn1:=f1.le
 have ff:=f.trans (.kp (gp:=gp) f1)
 have hw:=h0.w.fg ff
 have hlo:∀id,s.vv.D9=some id->id<b:=λid hid=>(h0.w.sk.own hid).1
 refine AJZ (ex:=[]) (nm:=s.names) (vv:=s.vv) (st:=.mk does (0,0) OU es [] []) (Nat.zero_le _) hp (hb.kp f1) (ff.fv _) ⟨f1.get m1.g (by omega),m1.pk⟩ ha (Nat.le_refl _) (Nat.le_add_right _ _) (by rw[List.append_nil];exact hw) (by rw[List.append_nil];exact h0.gam) (.inl rfl) (λid hid=>by have:=hlo id hid;omega) (XU.of ?_ .nil .nil) ?_
 ·refine hes.mono (λid hid=>⟨hid.1,by have:=hid.2;omega,λe=>?_⟩) λid hid=>f1.same id hid.2
  have:=hlo id e;have:=hid.1;omega
 ·rw[List.append_nil];exact hg.le (Nat.zero_le _)
theorem AFE{a c kk:Nat}(hp:qW G H0 b gp s Γ t c kk k)(h0:Ms G H0 b gp s Γ)(hb:Bs H n b gp t)(f:Fg gp H0 b H n)(m1:Uw G H gp (s.to a))(ha:a+400<=s.at'+c)(hs:s.at'+c<100000000000):
 D8 lfp G (Runs F G) k (.ptr gp 0) (.ptr (b+1) 0) (.fn BR [] []) H n:=by
 delta D8
 have hbl:=hb.le
 refine JL λH1 n1 f1=>?_
 have hn1:=f1.le
 have mk1:=(h0.mk'.fg f m1).kp f1
 refine PU 3 (by omega) Cb H1 n1 (s.to a) Γ _ (.inl rfl) mk1 (by show a+400+2<_;omega) λH2 n2 a2 l e f2 m2 ha2 he hgd=>?_
 have hn2:=f2.le
 have ha2:a2<=a+400:=ha2
 refine WA he hn2 λH3 f3 hes=>?_
 exact ADk hp h0 ((hb.kp f1).fg f2 |>.kp f3) (((f.trans (.kp f1)).trans f2).trans (.kp f3)) ⟨f3.get m2.g (by have:=hb.g;omega),m2.pk⟩ (a:=a2) (by omega) (hes.mono (λid hid=>⟨by have:=hid.1;omega,hid.2⟩) λ_ _=>rfl) (GdS.prt hgd.int)
end
theorem AYz:∀a,a<26->AUa .u8 (.int .i64 (.ofNat a) 0)=some (.int .u8 (.ofNat a) 0):=λa h=>
 match a,h with
 |0,_=>rfl|1,_=>rfl|2,_=>rfl|3,_=>rfl|4,_=>rfl|5,_=>rfl|6,_=>rfl|7,_=>rfl
 |8,_=>rfl|9,_=>rfl|10,_=>rfl|11,_=>rfl|12,_=>rfl|13,_=>rfl|14,_=>rfl|15,_=>rfl
 |16,_=>rfl|17,_=>rfl|18,_=>rfl|19,_=>rfl|20,_=>rfl|21,_=>rfl|22,_=>rfl|23,_=>rfl
 |24,_=>rfl|25,_=>rfl
 |n+26,h=>absurd h (by omega)
theorem AQL:∀a,a<26->B2.ev .add (.int .u8 (.ofNat 97) 0) (.int .u8 (.ofNat a) 0)=some (.int .u8 (.ofNat (97+a)) 0):=λa h=>
 match a,h with
 |0,_=>rfl|1,_=>rfl|2,_=>rfl|3,_=>rfl|4,_=>rfl|5,_=>rfl|6,_=>rfl|7,_=>rfl
 |8,_=>rfl|9,_=>rfl|10,_=>rfl|11,_=>rfl|12,_=>rfl|13,_=>rfl|14,_=>rfl|15,_=>rfl
 |16,_=>rfl|17,_=>rfl|18,_=>rfl|19,_=>rfl|20,_=>rfl|21,_=>rfl|22,_=>rfl|23,_=>rfl
 |24,_=>rfl|25,_=>rfl
 |n+26,h=>absurd h (by omega)
theorem Abj(u:Nat){m:Nat}(hm:0<m):B2.ev .rem (.int .i64 (.ofNat u) 0) (.int .i64 (.ofNat m) 0)=some (.int .i64 (.ofNat (u%m)) 0):=AOY (u:Int) hm
theorem AUT{x:Nat}(h:x<256):Go.DK.byteOf (.int .u8 (.ofNat x) 0)=some x:=by
 show Bool.rec (motive:=λ_=>Option Nat) none (some x) (band true (band (Nat.blt x 256) true))=_
 rw[show Nat.blt x 256=true by rw[Nat.blt_eq];exact h];rfl
def AH8:List Nat->Nat
 |[]=>0
 |x::l=>x+256*AH8 l
theorem AOo:∀xs:List Nat,(∀x∈xs,x<256)->zo (xs.map λx=>[V.int .u8 (.ofNat x) 0])=some (AH8 xs)
 |[],_=>rfl
 |x::xs,h=>by
  show DF (Go.DK.byteOf (.int .u8 (.ofNat x) 0)) (λm=>DF (zo (xs.map λx=>[V.int .u8 (.ofNat x) 0])) λc=>some (m+256*c))=_
  rw[AUT (h x (List.mem_cons_self ..)),RN,AOo xs λy hy=>h y (List.mem_cons_of_mem _ hy)];rfl
theorem AU7{G:AX}{H:Heap}{id m:Nat}{xs:List Nat}(h:El G H (.sl id 0 m m 1) 1 (xs.map λx=>[V.int .u8 (.ofNat x) 0]))(hx:∀x∈xs,x<256):AXO (.sl id 0 m m 1) G H=some (.str xs.length (AH8 xs)):=by
 show DF (elems (.sl id 0 m m 1) G H 1) (λl=>DF (zo l) λc=>f3 (len l) c 0 λn c _=>.str n c)=_
 rw[h.2,RN,AOo xs hx,RN]
 show En (len _) (λa=>En (AH8 xs) λb=>En 0 λ_=>some (.str a b))=_
 rw[DU,DU,DU,len_eq,List.length_map]
theorem AWc(c:Nat):B2.ev .add (.str 1 118) (.str 2 c)=some (.str 3 (118+256*c)):=by
 show CO true (En 3 λn=>En (118+256^1*c) λe=>some (.str n e))=_
 rw[DU,DU];rfl
theorem AW4(c:Nat):B2.ev .add (.str 1 112) (.str 1 c)=some (.str 2 (112+256*c)):=by
 show CO true (En 2 λn=>En (112+256^1*c) λe=>some (.str n e))=_
 rw[DU,DU];rfl
theorem AWa(k:Nat):V.str 3 (118+256*AH8 [97+k/26%26,97+k%26])=(nmV k).v:=by
 show V.str 3 (118+256*(97+k/26%26+256*(97+k%26+256*0)))=V.str 3 (118+256*(97+k/26%26)+65536*(97+k%26))
 congr 1;omega
section
variable{G:AX}{H H0:Heap}{n gp b:Nat}{s:Mg}{Γ:List DJ}{k:KV}{t:Ty}
theorem AU6{a c kk d:Nat}{v14:V}(hp:qW G H0 b gp s Γ t c kk k)(h0:Ms G H0 b gp s Γ)(hb:Bs H n b gp t)(f:Fg gp H0 b H n)(m1:Uw G H gp (s.to a))(ha:a+200<=s.at'+c)(hs:s.at'+c<100000000000)(hkk:1<=kk)(hnm:s.names+1<600)(hl:Γ.length+1<=1000):
 E8 lfp G (Runs F G) k (.ptr gp 0) (.int .i64 (.ofNat d) 0) (.ptr b 0) (.ptr (b+1) 0) (.fn BR [] []) v14 (.bool true) H n:=by
 delta E8
 rw[A8]
 have hbl:=hb.le
 have hbg:=hb.g
 have mk0:=h0.mk'.fg f m1
 have hlo:∀id,s.vv.D9=some id->id<b:=λid hid=>(h0.w.sk.own hid).1
 refine AYX mk0 (by show a<_;omega) λH1 n1 a1 ty hty ha1 f1 m1=>?_
 have ha1:a1<=a+1:=ha1
 have hn1:=f1.le
 refine Au rfl λH2 f2 g2=>?_
 refine Bq g2 rfl rfl (by omega) λH3 g3 s3=>?_
 have f23:Kp H1 n1 H3 (n1+1):=⟨f2.le,λid hid=>(s3 id (by omega)).trans (f2.same id hid)⟩
 have ff3:=f1.trans (.kp (gp:=gp) f23)
 have mk3:=mk0.fg (a:=a1) ff3 ⟨f23.get m1.g (by omega),m1.pk⟩
 refine AB (BI (m:=2) g3 (by omega) rfl) ?_
 refine PU 2 (by omega) ty H3 (n1+1) (s.to a1) Γ _ hty mk3 (by show a1+130+2<_;omega) λH4 n4 a2 l e f4 m4 ha2 he hgd=>?_
 have ha2:a2<=a1+130:=ha2
 have hn4:=f4.le
 have g4:=f4.get g3 (by omega) (by omega)
 refine WA he hn4 λH5 f5 hes=>?_
 show Runs F G BR [.int .i64 (.ofNat 1) 0,.sl n4 0 1 1 11] H5 (n4+1) _
 refine AJl λH6 n6 f6=>?_
 have hn6:=f6.le
 have f56:=f5.trans f6
 have g6:=f56.get g4 (by omega)
 refine Au rfl λH7 f7 g7=>?_
 refine Bq g7 rfl rfl (by omega) λH8 g8 s8=>?_
 have f68:Kp H6 n6 H8 (n6+1):=⟨f7.le,λid hid=>(s8 id (by omega)).trans (f7.same id hid)⟩
 have f58:=f56.trans f68
 have ff8:Fg gp H0 b H8 (n6+1):=((f.trans ff3).trans f4).trans (.kp f58)
 have q8:=f68.get g6 (by omega)
 have hb8:Bs H8 (n6+1) b gp t:=((hb.fg ff3).fg f4).kp f58
 have Ab5:QI G H8 (Rg (b+2) n6) (.sl n4 0 1 1 11) [e]:=hes.mono (λid hid=>⟨by have:=hid.1;omega,by have:=hid.2;omega⟩) λid hid=>(f6.trans f68).same id hid.2
 have m8:T.get H8 gp=some (one (s.to a2).cells):=f58.get m4.g (by omega)
 have q1:AY (.ptr gp 3) G H8=some (.int .i64 (.ofNat s.names) 0):=AV m8 rfl
 simp only[go_sem,BU,Nat.reduceAdd,q1,Eu (show s.names+1<9223372036854775808 by omega)]
 refine Ib (off:=3) (m:=1) m8 rfl rfl (by omega) (by show 3+1<=5;omega) λH9 g9 s9=>?_
 have m9:T.get H9 gp=some (one ({s.to a2 with names:=s.names+1}:Mg).cells):=g9
 have q2:AY (.ptr gp 3) G H9=some (.int .i64 (.ofNat (s.names+1)) 0):=AV m9 rfl
 generalize hk1:s.names+1=kn at*
 simp only[go_sem,BU,Nat.reduceAdd,q2,AYW kn (show 0<26 by omega) (by omega),Abj _ (show 0<26 by omega),AYz _ (Nat.mod_lt _ (show 0<26 by omega)),AQL _ (Nat.mod_lt _ (show 0<26 by omega))]
 refine TD (G:=G) (vs:=[.int .u8 (.ofNat (97+kn/26%26)) 0,.int .u8 (.ofNat (97+kn%26)) 0]) rfl (by omega) (λv hv=>by simp at hv;rcases hv with rfl|rfl<;>exact⟨rfl,rfl⟩) λH10 f10 _ hel=>?_
 have hb1:97+kn/26%26<256:=by omega
 have hb2:97+kn%26<256:=by omega
 refine AB (AU7 (xs:=[97+kn/26%26,97+kn%26]) hel (λx hx=>by simp at hx;rcases hx with rfl|rfl<;>assumption)) ?_
 refine AB (AWc _) ?_
 rw[AWa]
 have AEJ:∀id,id<n6+1->id≠gp->T.get H10 id=T.get H8 id:=λid hid hne=>(f10.same id hid).trans (s9 id hne)
 have g10:T.get H10 n6=_:=(AEJ n6 (by omega) (by omega)).trans g8
 have q10:T.get H10 n1=_:=(AEJ n1 (by omega) (by omega)).trans q8
 have m10:=f10.get m9 (by omega)
 refine Ib (off:=3) (m:=1) (v:=(nmV kn).v) g10 rfl rfl (by omega) (by show 3+1<=9;omega) λH11 g11 s11=>?_
 have q11:T.get H11 n1=_:=(s11 n1 (by omega)).trans q10
 refine AB (BI (m:=2) q11 (by omega) rfl) ?_
 refine Ib (off:=4) (m:=2) (v:=.agg ty.cells) g11 rfl rfl (by omega) (by show 4+2<=9;omega) λH12 g12 s12=>?_
 have q12:T.get H12 n1=_:=(s12 n1 (by omega)).trans q11
 have m12:T.get H12 gp=_:=(s12 gp (by omega)).trans ((s11 gp (by omega)).trans m10)
 have q3:AY (.ptr gp 2) G H12=some s.vv:=AV m12 rfl
 have q4:AY (.ptr n6 3) G H12=some (nmV kn).v:=AV g12 rfl
 have q5:Ad 2 (.ptr n1 0) G H12=some (.agg ty.cells):=BI q12 (by omega) rfl
 simp only[go_sem,BU,Nat.reduceAdd,q3,q4,q5]
 rw[show CZ [.str 0 0,.str 0 0,.bool false] [(0,1,.c (nmV kn).v),(1,2,.c (.agg ty.cells))]=some (.agg (QZ ⟨nmV kn,ty⟩))from rfl,AQ]
 have AI3:∀id,id<n6->id≠gp->T.get H12 id=T.get H8 id:=λid hid hne=>(s12 id (by omega)).trans ((s11 id (by omega)).trans (AEJ id (by omega) hne))
 have Ad0:Fg gp H8 n6 H12 (n6+1+1):=⟨by omega,AI3⟩
 have AZZ:Lw H12 (n6+1+1) gp s.vv Γ:=⟨h0.w.sk.mono (λid hid=>⟨by omega,hid.2⟩) λid hid=>(AI3 id (by omega) hid.2).trans (ff8.same id hid.1 hid.2),h0.w.lt⟩
 refine AZZ.sk.app (bs:=40) (c:=.agg (QZ ⟨nmV kn,ty⟩)) (m:=0) (λid hid=>(AZZ.sk.own hid).1) (by omega) rfl rfl (by rw[List.length_map];omega) λv' H13 hs13 same13 hsid=>?_
 rw[show s.vv=s.vv from rfl]at same13
 have AR6:∀id,id<n6+1+1->b<=id∨id=gp->T.get H13 id=T.get H12 id:=λid hid hor=>same13 id hid λe=>by
  rcases hor with h|h
  ·have:=hlo id e;omega
  ·exact(h0.w.sk.own e).2 h
 have m13:T.get H13 gp=_:=(AR6 gp (by omega) (.inr rfl)).trans m12
 have g13:T.get H13 n6=_:=(AR6 n6 (by omega) (.inl (by omega))).trans g12
 have hsk13:=hs13 (λid=>id<n6+1+1+2/\id≠gp) ⟨by omega,by omega⟩
 refine Ib (off:=2) (m:=1) (v:=v') m13 hsk13.ok.1 (by rw[hsk13.ok.2.1];rfl) (by omega) (by show 2+1<=5;omega) λH14 g14 s14=>?_
 rw[hsk13.ok.2.1]at g14
 have g6b:T.get H14 n6=_:=(s14 n6 (by omega)).trans g13
 refine AB (BI (m:=9) g6b (by omega) rfl) ?_
 have AML:∀id,b<=id->id<n6->T.get H14 id=T.get H8 id:=λid h1 h2=>(s14 id (by omega)).trans ((AR6 id (by omega) (.inl h1)).trans (AI3 id h2 (by omega)))
 have Abu:Bs H14 (n6+1+1+2) b gp t:=⟨(AML b (by omega) (by omega)).trans hb8.b1,(AML (b+1) (by omega) (by omega)).trans hb8.b2,by omega,hbg⟩
 refine AJZ (ex:=[⟨nmV kn,ty⟩]) (vv:=v') (a:=a2) (nm:=kn) (l:=ttC 1 0 0 (nmV kn) ty (.sl n4 0 1 1 11) .Ag .Ag) (st:=.mk 1 (nmV kn) ty [e] [] []) (Nat.le_refl _) hp Abu ?_ ⟨g14,m1.pk⟩ (by omega) (by omega) (by omega) ⟨?_,by rw[List.length_append];exact hl⟩ ?_ (.inr λid hid=>?_) ?_ (XU.of ?_ .nil .nil) ?_
 ·refine⟨by omega,λid h1 h2 h3=>?_⟩
  exact(s14 id h2).trans ((same13 id (by omega) h3).trans ((AI3 id (by omega) h2).trans (ff8.same id h1 h2)))
 ·rw[List.map_append]
  exact hsk13.PW (λid hid=>hsk13.own hid) λid hid=>s14 id (hsk13.own hid).2
 ·rw[<-hk1];exact h0.gam.add (by omega) hty
 ·rw[hsid]at hid;cases hid;omega
 ·intro id hid;rw[hsid]at hid;cases hid;omega
 ·refine Ab5.mono (λid hid=>⟨hid.1,by have:=hid.2;omega,λe=>?_⟩) λid hid=>AML id (by have:=hid.1;omega) hid.2
  rw[hsid]at e;cases e;have:=hid.2;omega
 ·obtain⟨u,r,hu,_⟩:=hgd.ex
  have hgl:=h0.gam.fresh (by omega:s.names+1<676)
  rw[hk1]at hgl
  exact(GdS.lt hty hu r (AF5 hgl)).le hkk
end
theorem Rv.fv{a b a' n':Nat}{v v':V}(sd:Sd b v v')(ha:a'<=a)(hb:b<=n'):∀id,Rv a b v id->Rv a' n' v' id:=λid hid=>⟨Nat.le_trans ha hid.1,Nat.lt_of_lt_of_le hid.2.1 hb,λe=>by
 rcases sd with sd|sd
 ·exact hid.2.2 (sd.symm.trans e)
 ·have:=sd id e;have:=hid.2.1;omega⟩
theorem U9.fv{G:AX}{H H':Heap}{a b a' n' gp:Nat}{v v' w:V}{sts:List Tt}(h:U9 G H (Rv a b v) w sts)(f:Fv gp v H b H' n')(hg:gp<a)(sd:Sd b v v')(ha:a'<=a):U9 G H' (Rv a' n' v') w sts:=
 h.mono (Rv.fv sd ha f.le) λid hid=>f.same id hid.2.1 (by have:=hid.1;omega) hid.2.2
theorem KS.ok{G:AX}{H:Heap}{A:Nat->Prop}{v:V}{sts:List Tt}(h:U9 G H A v sts):jc v=true/\Bl v=[v]:=by
 obtain⟨cs,_,_,h1,h2,_⟩:=h;exact⟨h1,h2⟩
section
variable{G:AX}{H:Heap}{n gp b:Nat}{s:Mg}{Γ:List DJ}{k:KV}{t:Ty}
theorem ASi{d:Nat}(hB:AID G gp d)(hd:d<1000)(ht:Lh t)(hb:Bs H n b gp t)(h:Ms G H n gp s Γ)(hs:s.at'+1+2*cS d<100000000000)(hnm:s.names+2*uP d<600)(hl:Γ.length+2*uP d<=1000)
 (hk:AU5 G H n gp s Γ t (1+2*cS d) (2*uP d) k):
 AL (B2.ev .sub (.int .i64 (.ofNat (d+1)) 0) (.int .i64 (.ofNat 1) 0)) λv138=>AL (Ad 2 (.ptr b 0) G H) λv139=>Runs F G AZ [.ptr gp 0,.int .i64 (.ofNat 3) 0] H n λv140 H n=>AL (Ad 2 (.ptr b 0) G H) λv=>Dj (Ar v v139) <|
  Runs F G D5 [.ptr gp 0,v140,v138,v139] H n k:=by
 have hbl:=hb.le
 have hbg:=hb.g
 rw[AEm d hd,AQ]
 refine AB (DZ hb.b1) ?_
 refine JB h.m (by omega) (by omega) (by omega) λH1 r a1 hr ha1 m1 s1=>?_
 have f1:Fg gp H n H1 n:=⟨Nat.le_refl _,λid _ hne=>s1 id hne⟩
 refine AB (DZ ((hb.fg f1).b1)) (Bd (Lu t) ?_)
 have e1:r*cS d<=2*cS d:=Nat.mul_le_mul_right _ (by omega)
 have e2:r*uP d<=2*uP d:=Nat.mul_le_mul_right _ (by omega)
 refine hB r t H1 n (s.to a1) Γ _ (by omega) ht (h.fg f1 m1) (by show a1+_<_;omega) (by show s.names+_<_;omega) (by omega) ?_
 intro H' n' a nm vv v sts ex x0 x1 x2 x3 x4 x5 x6 x7 x8 x9 x10
 have x3:a<=a1+r*cS d:=x3
 have x5:nm<=s.names+r*uP d:=x5
 exact hk H' n' a nm vv v sts ex x0 ((f1.fv s.vv).trans x1 (Sd.refl ..)) x2 (by omega) x4 (by omega) x6 x7 x8 x9 (x10.le e2)
end
section
variable{G:AX}{H H0:Heap}{n gp b:Nat}{s:Mg}{Γ:List DJ}{k:KV}{t:Ty}
theorem AWW{c kk a:Nat}{P:V->Prop}(hp:qW G H0 b gp s Γ t c kk k)(h0:Ms G H0 b gp s Γ)(hb:Bs H n b gp t)(f:Fg gp H0 b H n)(m1:Uw G H gp (s.to a))(ha:a+500<=s.at'+c)(hs:s.at'+c<100000000000):
 AL (Am (.ptr gp 0)) λv63=>AL (AU 2 v63) λv64=>AL (AY v64 G H) λv65=>AL (lenV v65) λv66=>AL (B2.ev .gtr v66 (.int .i64 (.ofNat 0) 0)) λv67=>
 Aa v67 true (AL (Am (.ptr gp 0)) λv68=>AL (AU 2 v68) λv69=>AL (AY v69 G H) λv70=>AL (Am (.ptr gp 0)) λv71=>AL (AU 2 v71) λv72=>AL (AY v72 G H) λv73=>AL (lenV v73) λv74=>
  BZ (Aq 3 [[.str 0 0,.str 0 0,.bool false]] E0) H n λv75 H n=>Runs F G AZ [.ptr gp 0,v74] H n λv76 H n=>AL (AY v69 G H) λv=>Dj (Ar v v70) <|
  AL (Az 3 v70 v76) λv77=>AL (Ad 3 v77 G H) λv78=>BL 3 v75 v78 H n λv79 H n=>AL (AU 0 v75) λv80=>AL (AY v80 G H) λv81=>AL (AU 1 v75) λv82=>AL (Ad 2 v82 G H) λv83=>
  Runs F G Ak [.int .i64 (.ofNat 6) 0,v81,.Ag] H n λv84 H n=>AL (Ad 2 v82 G H) λv=>Dj (Ar v v83) <|
  Runs F G Aj [.ptr gp 0,v83,.int .i64 (.ofNat 3) 0] H n λv85 H n=>BZ (Ah 11 2 teZ [(0,.c v84),(1,.c v85)] E0) H n λv86 H n=>
  D7 (.fn BR [] []) [.int .i64 (.ofNat 2) 0,v86] (Runs F G) H n λv87 H n=>BL 9 (.ptr (b+1) 0) v87 H n λv88 H n=>Dz (BA [.cn (.ptr (b+1) 0) 9] G H) λl=>k (CG l) H n)
  (D8 lfp G (Runs F G) k (.ptr gp 0) (.ptr (b+1) 0) (.fn BR [] []) H n):=by
 have hbl:=hb.le
 have hbg:=hb.g
 have hw:=h0.w.fg f
 have hv:=hw.lv (G:=G)
 have hvs:Ar s.vv s.vv=true:=hw.sk.ok.2.2
 have q2:∀{H':Heap} {a':Nat},Uw G H' gp (s.to a')->AY (.ptr gp 2) G H'=some s.vv:=λm=>AV m.g rfl
 have hlen:=hv.el.len
 rw[List.length_map]at hlen
 rw[BU,AQ,Ae,AQ,Nat.zero_add,q2 m1,AQ,hlen,AQ,wz,AQ]
 cases hz:decide (0<Γ.length)with
 |false=>rw[Ai];exact AFE hp h0 hb f m1 (by omega) hs
 |true=>
 rw[A8,AQ,Ae,AQ,Nat.zero_add,q2 m1,AQ,AQ,Ae,AQ,Nat.zero_add,q2 m1,AQ,hlen,AQ]
 have hz:=of_decide_eq_true hz
 refine Au rfl λH1 f1 g1=>?_
 have m1':Uw G H1 gp (s.to a):=⟨f1.get m1.g (by omega),m1.pk⟩
 refine JB m1' hz (by have:=hw.lt;omega) (by show a<_;omega) λH2 r a2 hr ha2 m2 s2=>?_
 have ha2:a2<=a+1:=ha2
 refine AB (q2 m2) (Bd hvs ?_)
 have ff2:Fg gp H n H2 (n+1):=⟨by omega,λid hid hne=>(s2 id hne).trans (f1.same id hid)⟩
 have hv2:=hv.fg ff2
 obtain⟨p,hpp,hld⟩:=hv2.el.at (i:=r) (c:=QZ Γ[r]) (by simp[hr])
 have hmem:Γ[r]∈Γ:=List.getElem_mem hr
 generalize Γ[r]=x at hld hmem
 refine AB hpp (AB (DW hld) ?_)
 have g2:T.get H2 n=_:=(s2 n (by omega)).trans g1
 refine Bq g2 rfl rfl (by omega) λH3 g3 s3=>?_
 rw[Dk,AQ]
 refine AB (AV (off:=0) g3 (v:=x.nm.v) rfl) ?_
 rw[Ae,AQ]
 have qt:∀{H':Heap},T.get H' n=some (one (QZ x))->Ad 2 (.ptr n (0+1)) G H'=some x.ty.v:=λg=>Dh (off:=0+1) (m:=2) g (by omega) (by show 0+1+2<=3;omega)
 refine AB (qt g3) ?_
 refine vJ (kind:=6) (nm:=x.nm) (.inl rfl) λH4 n4 f4=>?_
 have hn4:=f4.le
 refine AB (qt (f4.get g3 (by omega))) (Bd (Lu x.ty) ?_)
 have ff4:Fg gp H n H4 n4:=⟨by omega,λid hid hne=>(f4.same id (by omega)).trans ((s3 id (by omega)).trans (ff2.same id hid hne))⟩
 have m4:Uw G H4 gp (s.to a2):=⟨f4.get ((s3 gp (by omega)).trans m2.g) (by omega),m1.pk⟩
 have hty:Lh x.ty:=h0.gam.ty x hmem
 have mk4:=h0.mk'.fg (f.trans ff4) m4
 refine PU 3 (by omega) x.ty H4 n4 (s.to a2) Γ _ hty mk4 (by show a2+400+2<_;omega) λH5 n5 a3 l e f5 m5 aB he hgd=>?_
 have aB:a3<=a2+400:=aB
 have hn5:=f5.le
 have he1:FQ G H5 (Rg (b+2) n5) (LM 6 0 x.nm OU OU (0,0) 0 0 .Ag) (.mk 6 0 x.nm OU OU (0,0) []):=FQ.of .nil
 have he2:FQ G H5 (Rg (b+2) n5) l e:=he.mono (λid hid=>⟨by have:=hid.1;omega,hid.2⟩) λ_ _=>rfl
 refine gV he1 he2 (by omega) λH6 f6 hes=>?_
 obtain⟨u,hu,hgu,_⟩:=hgd.ex
 exact ADk hp h0 (((hb.fg ff4).fg f5).kp f6) ((f.trans ff4).trans (f5.trans (.kp f6))) ⟨f6.get m5.g (by omega),m5.pk⟩ (a:=a3) (by omega) hes (GdS.put (Gd.loc (ADf h0.gam.nd hmem)) hgu hu)
end
section
variable{G:AX}{H H0:Heap}{n gp b:Nat}{s:Mg}{Γ:List DJ}{k:KV}{t:Ty}
theorem AP9{a does:Nat}{P:KV}(h0:Ms G H0 b gp s Γ)(hb:Bs H n b gp t)(f:Fg gp H0 b H n)(m1:Uw G H gp (s.to a))(hs:a+200<100000000000)
 (hk:∀H' n' a' c id e,Fg gp H0 b H' n'->Bs H' n' b gp t->Uw G H' gp (s.to a')->a'<=a+130->b+2<=c->c<n'->T.get H' c=some (one (ttC does 0 0 (0,0) OU (.sl id 0 1 1 11) .Ag .Ag))->QI G H' (Rg (b+2) c) (.sl id 0 1 1 11) [e]->Gd s.inn Γ e BM->P (.ptr c 0) H' n'):
 Runs F G DR [] H n λv132 H n=>Runs F G Aj [.ptr gp 0,v132,.int .i64 (.ofNat 2) 0] H n λv133 H n=>BZ (Ah 11 1 teZ [(0,.c v133)] E0) H n λv134 H n=>
  D7 (.fn BR [] []) [.int .i64 (.ofNat does) 0,v134] (Runs F G) H n λv135 H n=>BZ (Aq 9 [ttZ] E0) H n λv136 H n=>BL 9 v136 v135 H n λ_ H n=>P v136 H n:=by
 have hbl:=hb.le
 have hbg:=hb.g
 refine NJ λH1 n1 f1=>?_
 have hn1:=f1.le
 have mk1:=(h0.mk'.fg f m1).kp f1
 refine PU 2 (by omega) BM H1 n1 (s.to a) Γ _ (.inr (.inl rfl)) mk1 (by show a+130+2<_;omega) λH2 n2 a2 l e f2 m2 ha2 he hgd=>?_
 have ha2:a2<=a+130:=ha2
 have hn2:=f2.le
 refine WA he hn2 λH3 f3 hes=>?_
 show Runs F G BR [.int .i64 (.ofNat does) 0,.sl n2 0 1 1 11] H3 (n2+1) _
 refine AJl λH4 n4 f4=>?_
 have hn4:=f4.le
 refine Au rfl λH5 f5 g5=>?_
 refine Bq g5 rfl rfl (by omega) λH6 g6 s6=>?_
 have f46:Kp H4 n4 H6 (n4+1):=⟨f5.le,λid hid=>(s6 id (by omega)).trans (f5.same id hid)⟩
 have f36:=f4.trans f46
 have f26:=f3.trans f36
 refine hk H6 (n4+1) a2 n4 n2 e (((f.trans (.kp f1)).trans f2).trans (.kp f26)) (((hb.kp f1).fg f2).kp f26) ⟨f26.get m2.g (by omega),m2.pk⟩ ha2 (by omega) (by omega) g6 ?_ hgd.bool
 exact hes.mono (λid hid=>⟨by have:=hid.1;omega,by have:=hid.2;omega⟩) λid hid=>f36.same id hid.2
theorem ARK(h0:Ms G H0 b gp s Γ):∀id,s.vv.D9=some id->id<b:=λid hid=>(h0.w.sk.own hid).1
theorem Bs.fv{H':Heap}{n':Nat}{v:V}(h:Bs H n b gp t)(f:Fv gp v H n H' n')(hv:∀id,v.D9=some id->id<b∨b+2<=id):Bs H' n' b gp t:=by
 have:=h.le;have:=h.g
 exact⟨f.get h.b1 (by omega) (by omega) (λe=>by have:=hv _ e;omega),f.get h.b2 (by omega) (by omega) (λe=>by have:=hv _ e;omega),Nat.le_trans h.le f.le,h.g⟩
theorem AbO{a c kk d:Nat}(hB:AID G gp d)(hd:d<1000)(ht:Lh t)(hp:qW G H0 b gp s Γ t c kk k)(h0:Ms G H0 b gp s Γ)(hb:Bs H n b gp t)(f:Fg gp H0 b H n)(m1:Uw G H gp (s.to a))(ha:a+200+4*cS d<=s.at'+c)(hs:s.at'+c<100000000000)
 (hkk:4*uP d<=kk) (hnm:s.names+kk<600) (hl:Γ.length+2*uP d<=1000):
 Runs F G DR [] H n λv132 H n=>Runs F G Aj [.ptr gp 0,v132,.int .i64 (.ofNat 2) 0] H n λv133 H n=>BZ (Ah 11 1 teZ [(0,.c v133)] E0) H n λv134 H n=>
  D7 (.fn BR [] []) [.int .i64 (.ofNat 4) 0,v134] (Runs F G) H n λv135 H n=>BZ (Aq 9 [ttZ] E0) H n λv136 H n=>BL 9 v136 v135 H n λ_ H n=>
  AL (B2.ev .sub (.int .i64 (.ofNat (d+1)) 0) (.int .i64 (.ofNat 1) 0)) λv138=>AL (Ad 2 (.ptr b 0) G H) λv139=>Runs F G AZ [.ptr gp 0,.int .i64 (.ofNat 3) 0] H n λv140 H n=>AL (Ad 2 (.ptr b 0) G H) λv=>Dj (Ar v v139) <|
  Runs F G D5 [.ptr gp 0,v140,v138,v139] H n λv141 H n=>AL (AU 7 v136) λv142=>BL 1 v142 v141 H n λv143 H n=>
  AL (B2.ev .sub (.int .i64 (.ofNat (d+1)) 0) (.int .i64 (.ofNat 1) 0)) λv144=>AL (Ad 2 (.ptr b 0) G H) λv145=>Runs F G AZ [.ptr gp 0,.int .i64 (.ofNat 3) 0] H n λv146 H n=>AL (Ad 2 (.ptr b 0) G H) λv=>Dj (Ar v v145) <|
  Runs F G D5 [.ptr gp 0,v146,v144,v145] H n λv147 H n=>AL (AU 8 v136) λv148=>BL 1 v148 v147 H n λv149 H n=>AL (Ad 9 v136 G H) λv150=>BL 9 (.ptr (b+1) 0) v150 H n λv151 H n=>Dz (BA [.cn (.ptr (b+1) 0) 9] G H) λl=>k (CG l) H n:=by
 have hbg:=hb.g
 have hlo:=ARK h0
 refine AP9 h0 hb f m1 (by omega) λH1 n1 a1 q id e f1 hb1 m1 ha1 hq1 hq2 g1 hes hgd=>?_
 have ms1:Ms G H1 n1 gp (s.to a1) Γ:=h0.fg f1 m1
 have hkp:=qL d
 refine ASi hB hd ht hb1 ms1 (by show a1+1+_<_;omega) (by show s.names+_<_;omega) hl ?_
 intro H2 n2 a2 nm2 vv2 v2 th ex2 z2 f2 m2 ha2 hnA hnB hw2 hgam2 sd2 ht2 hg2
 have ht2:=ht2.ss
 have hg2:=hg2.blk
 have ha2:a2<=a1+(1+2*cS d):=ha2
 have hnA:s.names<=nm2:=hnA
 have hnB:nm2<=s.names+2*uP d:=hnB
 have f2:Fv gp s.vv H1 n1 H2 n2:=f2
 have sd2:Sd n1 s.vv vv2:=sd2
 have hn2:=f2.le
 have q2:T.get H2 q=_:=f2.get g1 hq2 (by omega) λe=>by have:=hlo _ e;omega
 have ok2:=KS.ok ht2
 rw[Ae,AQ]
 refine Ib (off:=0+7) (m:=1) (v:=v2) q2 ok2.1 (by rw[ok2.2];rfl) (by omega) (by show 0+7+1<=9;omega) λH3 g3 s3=>?_
 rw[ok2.2]at g3
 have hv2:∀id,vv2.D9=some id->id<b∨n1<=id:=λid hid=>by
  rcases sd2 with h|h
  ·exact .inl (hlo id (h.symm.trans hid))
  ·exact .inr (h id hid)
 have hb3:Bs H3 n2 b gp t:=by
  have hb2:=hb1.fv f2 λid hid=>.inl (hlo id hid)
  exact⟨(s3 b (by omega)).trans hb2.b1,(s3 (b+1) (by omega)).trans hb2.b2,hb2.le,hbg⟩
 have ms3:Ms G H3 n2 gp ((s.to a1).st a2 nm2 vv2) Γ:=⟨⟨(s3 gp (by omega)).trans m2.g,m2.pk⟩,by have:=ms1.g;omega,⟨hw2.sk.PW (λid hid=>hw2.sk.own hid) λid hid=>s3 id λe=>by subst e;have:=hv2 _ hid;omega,hw2.lt⟩,hgam2,h0.inn⟩
 have ht3:U9 G H3 (Rv n1 n2 vv2) v2 th:=ht2.mono (λ_ h=>h) λid hid=>s3 id (by have:=hid.1;omega)
 refine ASi hB hd ht hb3 ms3 (by show a2+1+_<_;omega) (by show nm2+_<_;omega) hl ?_
 intro H4 n4 a4 nm4 vv4 v4 el ex4 z4 f4 m4 zu hnC hnD hw4 hgam4 sd4 ht4 hg4
 have ht4:=ht4.ss
 have hg4:=hg4.blk
 have zu:a4<=a2+(1+2*cS d):=zu
 have hnC:nm2<=nm4:=hnC
 have hnD:nm4<=nm2+2*uP d:=hnD
 have f4:Fv gp vv2 H3 n2 H4 n4:=f4
 have sd4:Sd n2 vv2 vv4:=sd4
 have hn4:=f4.le
 have hq:∀id,id<n1->b<=id->vv2.D9≠some id:=λid h1 h2 e=>by have:=hv2 _ e;omega
 have q4:T.get H4 q=_:=f4.get g3 (by omega) (by omega) (hq q hq2 (by omega))
 have ok4:=KS.ok ht4
 rw[Ae,AQ]
 refine Ib (off:=0+8) (m:=1) (v:=v4) q4 ok4.1 (by rw[ok4.2];rfl) (by omega) (by show 0+8+1<=9;omega) λH5 g5 s5=>?_
 rw[ok4.2]at g5
 have hv4:∀id,vv4.D9=some id->id<b∨n1<=id:=λid hid=>by
  rcases sd4 with h|h
  ·exact hv2 id (h.symm.trans hid)
  ·have:=h id hid;omega
 refine AB (BI (m:=9) g5 (by omega) rfl) ?_
 have Aat:Sd n1 s.vv vv4:=sd2.trans sd4 hn2
 have hes5:QI G H5 (Rv (b+2) n4 vv4) (.sl id 0 1 1 11) [e]:=by
  have x0:QI G H3 (Rg (b+2) q) (.sl id 0 1 1 11) [e]:=hes.mono (λ_ h=>h) λi h=>(s3 i (by have:=h.2;omega)).trans (f2.same i (by have:=h.2;omega) (by have:=h.1;omega) λe=>by have:=hlo _ e;have:=h.1;omega)
  exact x0.mono (λi h=>⟨h.1,by have:=h.2;omega,λe=>by have:=hv4 _ e;have:=h.1;have:=h.2;omega⟩) λi h=>(s5 i (by have:=h.2;omega)).trans (f4.same i (by have:=h.2;omega) (by have:=h.1;omega) (hq i (by have:=h.2;omega) (by have:=h.1;omega)))
 have ht5:U9 G H5 (Rv (b+2) n4 vv4) v2 th:=(ht3.fv f4 (by have:=ms1.g;omega) sd4 (show n1<=n1 from Nat.le_refl _)).mono (λi h=>⟨by have:=h.1;omega,h.2⟩) λi h=>s5 i (by have:=h.1;omega)
 have hl5:U9 G H5 (Rv (b+2) n4 vv4) v4 el:=ht4.mono (λi h=>⟨by have:=h.1;omega,h.2⟩) λi h=>s5 i (by have:=h.1;omega)
 have hb5:Bs H5 n4 b gp t:=by
  have hb4:=hb3.fv f4 λid hid=>(hv2 id hid).imp_right λh=>by omega
  exact⟨(s5 b (by omega)).trans hb4.b1,(s5 (b+1) (by omega)).trans hb4.b2,hb4.le,hbg⟩
 refine AJZ (ex:=[]) (vv:=vv4) (nm:=nm4) (a:=a4) (l:=ttC 4 0 0 (0,0) OU (.sl id 0 1 1 11) v2 v4) (st:=.mk 4 (0,0) OU [e] th el) (Nat.zero_le _) hp hb5 ?_ ⟨(s5 gp (by omega)).trans m4.g,m4.pk⟩ (by omega) (by omega) (by omega) ?_ ?_ ?_ (λi hi=>by have:=hv4 i hi;omega) (XU.of hes5 ht5 hl5) ?_
 ·refine⟨by have:=f1.le;omega,λi h1 h2 h3=>?_⟩
  have hne:vv2.D9≠some i:=λe=>by
   rcases sd2 with h|h
   ·exact h3 (h.symm.trans e)
   ·have:=h i e;have:=f1.le;omega
  exact(s5 i (by omega)).trans ((f4.same i (by have:=f1.le;omega) h2 hne).trans ((s3 i (by omega)).trans ((f2.same i (by have:=f1.le;omega) h2 h3).trans (f1.same i h1 h2))))
 ·rw[List.append_nil]
  exact⟨hw4.sk.PW (λid hid=>hw4.sk.own hid) λid hid=>s5 id λe=>by subst e;have:=hv4 _ hid;omega,hw4.lt⟩
 ·rw[List.append_nil];exact hgam4
 ·rcases Aat with h|h
  ·exact .inl h
  ·exact .inr λi hi=>by have:=h i hi;omega
 ·rw[List.append_nil]
  exact(GdS.cond (.inl rfl) hgd hg2 hg4 (by omega) (by omega)).le (by omega)
end
section
variable{G:AX}{H H0:Heap}{n gp b:Nat}{s:Mg}{Γ:List DJ}{k:KV}{t:Ty}
theorem ATG{a c kk d:Nat}(hB:AID G gp d)(hd:d<1000)(ht:Lh t)(hp:qW G H0 b gp s Γ t c kk k)(h0:Ms G H0 b gp s Γ)(hb:Bs H n b gp t)(f:Fg gp H0 b H n)(m1:Uw G H gp (s.to a))(ha:a+200+4*cS d<=s.at'+c)(hs:s.at'+c<100000000000)
 (hkk:4*uP d<=kk) (hnm:s.names+kk<600) (hl:Γ.length+2*uP d<=1000):
 Runs F G DR [] H n λv132 H n=>Runs F G Aj [.ptr gp 0,v132,.int .i64 (.ofNat 2) 0] H n λv133 H n=>BZ (Ah 11 1 teZ [(0,.c v133)] E0) H n λv134 H n=>
  D7 (.fn BR [] []) [.int .i64 (.ofNat 5) 0,v134] (Runs F G) H n λv135 H n=>BZ (Aq 9 [ttZ] E0) H n λv136 H n=>BL 9 v136 v135 H n λ_ H n=>
  AL (B2.ev .sub (.int .i64 (.ofNat (d+1)) 0) (.int .i64 (.ofNat 1) 0)) λv138=>AL (Ad 2 (.ptr b 0) G H) λv139=>Runs F G AZ [.ptr gp 0,.int .i64 (.ofNat 3) 0] H n λv140 H n=>AL (Ad 2 (.ptr b 0) G H) λv=>Dj (Ar v v139) <|
  Runs F G D5 [.ptr gp 0,v140,v138,v139] H n λv141 H n=>AL (AU 7 v136) λv142=>BL 1 v142 v141 H n λv143 H n=>
  AL (Ad 9 v136 G H) λv150=>BL 9 (.ptr (b+1) 0) v150 H n λv151 H n=>Dz (BA [.cn (.ptr (b+1) 0) 9] G H) λl=>k (CG l) H n:=by
 have hbg:=hb.g
 have hlo:=ARK h0
 refine AP9 h0 hb f m1 (by omega) λH1 n1 a1 q id e f1 hb1 m1 ha1 hq1 hq2 g1 hes hgd=>?_
 have ms1:Ms G H1 n1 gp (s.to a1) Γ:=h0.fg f1 m1
 have hkp:=qL d
 refine ASi hB hd ht hb1 ms1 (by show a1+1+_<_;omega) (by show s.names+_<_;omega) hl ?_
 intro H2 n2 a2 nm2 vv2 v2 th ex2 z2 f2 m2 ha2 hnA hnB hw2 hgam2 sd2 ht2 hg2
 have ht2:=ht2.ss
 have hg2:=hg2.blk
 have ha2:a2<=a1+(1+2*cS d):=ha2
 have hnA:s.names<=nm2:=hnA
 have hnB:nm2<=s.names+2*uP d:=hnB
 have f2:Fv gp s.vv H1 n1 H2 n2:=f2
 have sd2:Sd n1 s.vv vv2:=sd2
 have hn2:=f2.le
 have q2:T.get H2 q=_:=f2.get g1 hq2 (by omega) λe=>by have:=hlo _ e;omega
 have ok2:=KS.ok ht2
 rw[Ae,AQ]
 refine Ib (off:=0+7) (m:=1) (v:=v2) q2 ok2.1 (by rw[ok2.2];rfl) (by omega) (by show 0+7+1<=9;omega) λH3 g3 s3=>?_
 rw[ok2.2]at g3
 have hv2:∀id,vv2.D9=some id->id<b∨n1<=id:=λid hid=>by
  rcases sd2 with h|h
  ·exact .inl (hlo id (h.symm.trans hid))
  ·exact .inr (h id hid)
 refine AB (BI (m:=9) g3 (by omega) rfl) ?_
 have hb3:Bs H3 n2 b gp t:=by
  have hb2:=hb1.fv f2 λid hid=>.inl (hlo id hid)
  exact⟨(s3 b (by omega)).trans hb2.b1,(s3 (b+1) (by omega)).trans hb2.b2,hb2.le,hbg⟩
 have ht3:U9 G H3 (Rv (b+2) n2 vv2) v2 th:=ht2.mono (λi h=>⟨by have:=h.1;omega,h.2⟩) λid hid=>s3 id (by have:=hid.1;omega)
 have hes3:QI G H3 (Rv (b+2) n2 vv2) (.sl id 0 1 1 11) [e]:=by
  have x0:QI G H3 (Rg (b+2) q) (.sl id 0 1 1 11) [e]:=hes.mono (λ_ h=>h) λi h=>(s3 i (by have:=h.2;omega)).trans (f2.same i (by have:=h.2;omega) (by have:=h.1;omega) λe=>by have:=hlo _ e;have:=h.1;omega)
  exact x0.mono (λi h=>⟨h.1,by have:=h.2;omega,λe=>by have:=hv2 _ e;have:=h.1;have:=h.2;omega⟩) λ_ _=>rfl
 refine AJZ (ex:=[]) (vv:=vv2) (nm:=nm2) (a:=a2) (l:=ttC 5 0 0 (0,0) OU (.sl id 0 1 1 11) v2 .Ag) (st:=.mk 5 (0,0) OU [e] th []) (Nat.zero_le _) hp hb3 ?_ ⟨(s3 gp (by omega)).trans m2.g,m2.pk⟩ (by omega) (by omega) (by omega) ?_ ?_ ?_ (λi hi=>by have:=hv2 i hi;omega) (XU.of hes3 ht3 .nil) ?_
 ·refine⟨by have:=f1.le;omega,λi h1 h2 h3=>?_⟩
  exact(s3 i (by omega)).trans ((f2.same i (by have:=f1.le;omega) h2 h3).trans (f1.same i h1 h2))
 ·rw[List.append_nil]
  exact⟨hw2.sk.PW (λid hid=>hw2.sk.own hid) λid hid=>s3 id λe=>by subst e;have:=hv2 _ hid;omega,hw2.lt⟩
 ·rw[List.append_nil];exact hgam2
 ·rcases sd2 with h|h
  ·exact .inl h
  ·exact .inr λi hi=>by have:=h i hi;omega
 ·rw[List.append_nil]
  exact(GdS.cond (k2:=0) (.inr rfl) hgd hg2 .nil (by omega) (Nat.zero_le _)).le (by omega)
theorem AMB{a c kk:Nat}{fn:St}{ft:Ty}{d:Nat}(hd:d<3)(hft:Yu fn Qh.fs=some ft)(hfn:fn≠QC)(htm:Lh ft){tyc:Runs F G=Runs F G->KV->Heap->Nat->Prop}
 (htc:∀{H1:Heap} {n1:Nat} {P:KV},(∀H' n',Kp H1 n1 H' n'->P ft.v H' n')->tyc rfl P H1 n1)
 (hp:qW G H0 b gp s Γ t c kk k) (h0:Ms G H0 b gp s Γ) (hb:Bs H n b gp t) (f:Fg gp H0 b H n) (m1:Uw G H gp (s.to a)) (ha:a+200<=s.at'+c) (hs:s.at'+c<100000000000):
 Runs F G Bc [.ptr gp 0,.str 1 65,.int .i64 (.ofNat 1) 0] H n λv92 H n=>BZ (Ah 11 1 teZ [(0,.c v92)] E0) H n λv93 H n=>Runs F G Ak [.int .i64 (.ofNat 7) 0,fn.v,v93] H n λv94 H n=>
  tyc rfl (λv95 H n=>Runs F G Aj [.ptr gp 0,v95,.int .i64 (.ofNat d) 0] H n λv96 H n=>BZ (Ah 11 2 teZ [(0,.c v94),(1,.c v96)] E0) H n λv97 H n=>
  D7 (.fn BR [] []) [.int .i64 (.ofNat 2) 0,v97] (Runs F G) H n λv98 H n=>BL 9 (.ptr (b+1) 0) v98 H n λv99 H n=>Dz (BA [.cn (.ptr (b+1) 0) 9] G H) λl=>k (CG l) H n) H n:=by
 have hbl:=hb.le
 have hbg:=hb.g
 have hcd:cst d<=130:=by match d,hd with|0,_=>decide|1,_=>decide|2,_=>decide
 refine xR (cl:=nA) (PU 1 (by omega)) (.inl rfl) (h0.mk'.fg f m1) (by show a+40+2<_;omega) λH1 n1 a1 l e u f1 m1 ha1 he hu huc _=>?_
 have ha1:a1<=a+40:=ha1
 have hn1:=f1.le
 refine WA he hn1 λH2 f2 hes=>?_
 refine Xf (nm:=fn) (es:=[e]) hes λH3 n3 l3 f3 he3=>?_
 have hn3:=f3.le
 refine htc λH4 n4 f4=>?_
 have hn4:=f4.le
 have f24:=f2.trans (f3.trans f4)
 have ff4:=(f.trans f1).trans (.kp f24)
 have mk4:Mk G H4 n4 gp (s.to a1) Γ:=h0.mk'.fg ff4 ⟨f24.get m1.g (by omega),m1.pk⟩
 refine PU d (by omega) ft H4 n4 (s.to a1) Γ _ htm mk4 (by show a1+cst d+2<_;omega) λH5 n5 a5 l5 e5 f5 m5 ha5 he5 hg5=>?_
 have ha5:a5<=a1+cst d:=ha5
 have hn5:=f5.le
 have h1:FQ G H5 (Rg (b+2) n5) l3 (.mk 7 0 fn OU OU (0,0) [e]):=((he3.kp' f4).fg (by omega) f5).mono (λi h=>⟨by have:=h.1;omega,h.2⟩) λ_ _=>rfl
 have h2:FQ G H5 (Rg (b+2) n5) l5 e5:=he5.mono (λi h=>⟨by have:=h.1;omega,h.2⟩) λ_ _=>rfl
 refine gV h1 h2 (by omega) λH6 f6 hes6=>?_
 obtain⟨w,hw,hgw,_⟩:=hg5.ex
 exact ADk hp h0 ((((hb.fg f1).kp f24).fg f5).kp f6) ((ff4.trans f5).trans (.kp f6)) ⟨f6.get m5.g (by omega),m5.pk⟩ (a:=a5) (by omega) hes6 (GdS.put (Gd.get hu huc hft hfn) hgw hw)
end
section
variable{G:AX}{H H0:Heap}{n gp b:Nat}{s:Mg}{Γ:List DJ}{k:KV}{t:Ty}
theorem AWl{a c kk:Nat}(hp:qW G H0 b gp s Γ t c kk k)(h0:Ms G H0 b gp s Γ)(hb:Bs H n b gp t)(f:Fg gp H0 b H n)(m1:Uw G H gp (s.to a))(ha:a+300<=s.at'+c)(hs:s.at'+c<100000000000):
 Runs F G FI [] H n λv119 H n=>Runs F G Aj [.ptr gp 0,v119,.int .i64 (.ofNat 1) 0] H n λv120 H n=>Runs F G BN [] H n λv121 H n=>Runs F G Aj [.ptr gp 0,v121,.int .i64 (.ofNat 1) 0] H n λv122 H n=>
  BZ (Ah 11 2 teZ [(0,.c v120),(1,.c v122)] E0) H n λv123 H n=>Runs F G Ak [.int .i64 (.ofNat 12) 0,.str 0 0,v123] H n λv124 H n=>Runs F G BN [] H n λv125 H n=>Runs F G Aj [.ptr gp 0,v125,.int .i64 (.ofNat 2) 0] H n λv126 H n=>
  BZ (Ah 11 2 teZ [(0,.c v124),(1,.c v126)] E0) H n λv127 H n=>D7 (.fn BR [] []) [.int .i64 (.ofNat 2) 0,v127] (Runs F G) H n λv128 H n=>BL 9 (.ptr (b+1) 0) v128 H n λv129 H n=>Dz (BA [.cn (.ptr (b+1) 0) 9] G H) λl=>k (CG l) H n:=by
 have hbl:=hb.le
 have hbg:=hb.g
 refine ABL λH1 n1 f1=>?_
 have hn1:=f1.le
 refine PU 1 (by omega) tIs H1 n1 (s.to a) Γ _ (.inr (.inr (.inr (.inr rfl)))) ((h0.mk'.fg f m1).kp f1) (by show a+40+2<_;omega) λH2 n2 a2 l2 e2 f2 m2 ha2 he2 hg2=>?_
 have ha2:a2<=a+40:=ha2
 have hn2:=f2.le
 refine JL λH3 n3 f3=>?_
 have hn3:=f3.le
 have ff3:=((f.trans (.kp f1)).trans f2).trans (.kp (gp:=gp) f3)
 refine PU 1 (by omega) Cb H3 n3 (s.to a2) Γ _ (.inl rfl) (h0.mk'.fg ff3 ⟨f3.get m2.g (by omega),m2.pk⟩) (by show a2+40+2<_;omega) λH4 n4 a4 l4 e4 f4 m4 zu he4 hg4=>?_
 have zu:a4<=a2+40:=zu
 have hn4:=f4.le
 have x2:FQ G H4 (Rg n1 n4) l2 e2:=(he2.kp' f3).fg (by omega) f4
 have x4:FQ G H4 (Rg n1 n4) l4 e4:=he4.mono (λi h=>⟨by have:=h.1;omega,h.2⟩) λ_ _=>rfl
 refine gV x2 x4 (by omega) λH5 f5 hes5=>?_
 refine Xf (nm:=(0,0)) (es:=[e2,e4]) hes5 λH6 n6 l6 f6 he6=>?_
 have hn6:=f6.le
 refine JL λH7 n7 f7=>?_
 have hn7:=f7.le
 have f57:=f5.trans (f6.trans f7)
 have ff7:=(ff3.trans f4).trans (.kp f57)
 refine PU 2 (by omega) Cb H7 n7 (s.to a4) Γ _ (.inl rfl) (h0.mk'.fg ff7 ⟨f57.get m4.g (by omega),m4.pk⟩) (by show a4+130+2<_;omega) λH8 n8 a8 l8 e8 f8 m8 ha8 he8 hg8=>?_
 have ha8:a8<=a4+130:=ha8
 have hn8:=f8.le
 have y1:FQ G H8 (Rg (b+2) n8) l6 (.mk 12 0 (0,0) OU OU (0,0) [e2,e4]):=((he6.kp' f7).fg (by omega) f8).mono (λi h=>⟨by have:=h.1;omega,h.2⟩) λ_ _=>rfl
 have y2:FQ G H8 (Rg (b+2) n8) l8 e8:=he8.mono (λi h=>⟨by have:=h.1;omega,h.2⟩) λ_ _=>rfl
 refine gV y1 y2 (by omega) λH9 f9 hes9=>?_
 exact ADk hp h0 (((((((hb.kp f1).fg f2).kp f3).fg f4).kp f57).fg f8).kp f9) ((ff7.trans f8).trans (.kp f9)) ⟨f9.get m8.g (by omega),m8.pk⟩ (a:=a8) (by omega) hes9 (GdS.put (Gd.elm hg2.is hg4.int) hg8.int (.same _))
theorem AYO{a c kk:Nat}(ht:Lh t)(hp:qW G H0 b gp s Γ t c kk k)(h0:Ms G H0 b gp s Γ)(hb:Bs H n b gp t)(f:Fg gp H0 b H n)(m1:Uw G H gp (s.to a))(ha:a+300<=s.at'+c)(hs:s.at'+c<100000000000):
 AL (Ad 2 (.ptr b 0) G H) λv171=>Runs F G Aj [.ptr gp 0,v171,.int .i64 (.ofNat 2) 0] H n λv172 H n=>BZ (Ah 11 1 teZ [(0,.c v172)] E0) H n λv173 H n=>
  D7 (.fn BR [] []) [.int .i64 (.ofNat 6) 0,v173] (Runs F G) H n λv174 H n=>BL 9 (.ptr (b+1) 0) v174 H n λv175 H n=>Dz (BA [.cn (.ptr (b+1) 0) 9] G H) λl=>k (CG l) H n:=by
 have hbl:=hb.le
 have hbg:=hb.g
 refine AB (DZ hb.b1) ?_
 refine PU 2 (by omega) t H n (s.to a) Γ _ ht (h0.mk'.fg f m1) (by show a+130+2<_;omega) λH2 n2 a2 l2 e2 f2 m2 ha2 he2 hg2=>?_
 have ha2:a2<=a+130:=ha2
 have hn2:=f2.le
 refine WA he2 hn2 λH3 f3 hes=>?_
 obtain⟨w,hw,hgw,_⟩:=hg2.ex
 exact ADk hp h0 ((hb.fg f2).kp f3) ((f.trans f2).trans (.kp f3)) ⟨f3.get m2.g (by omega),m2.pk⟩ (a:=a2) (by omega) (hes.mono (λi h=>⟨by have:=h.1;omega,h.2⟩) λ_ _=>rfl) (GdS.rtn hgw hw)
theorem Abs{a c kk:Nat}(hp:qW G H0 b gp s Γ t c kk k)(h0:Ms G H0 b gp s Γ)(hb:Bs H n b gp t)(f:Fg gp H0 b H n)(m1:Uw G H gp (s.to a))(ha:a+300<=s.at'+c)(hs:s.at'+c<100000000000):
 Runs F G Bc [.ptr gp 0,.str 1 65,.int .i64 (.ofNat 2) 0] H n λv176 H n=>Runs F G BN [] H n λv177 H n=>Runs F G Aj [.ptr gp 0,v177,.int .i64 (.ofNat 1) 0] H n λv178 H n=>BZ (Ah 11 2 teZ [(0,.c v176),(1,.c v178)] E0) H n λv179 H n=>
  Runs F G Ak [.int .i64 (.ofNat 8) 0,.str 3 7628135,v179] H n λv180 H n=>BZ (Ah 11 1 teZ [(0,.c v180)] E0) H n λv181 H n=>
  D7 (.fn BR [] []) [.int .i64 (.ofNat 3) 0,v181] (Runs F G) H n λv182 H n=>BL 9 (.ptr (b+1) 0) v182 H n λv183 H n=>Dz (BA [.cn (.ptr (b+1) 0) 9] G H) λl=>k (CG l) H n:=by
 have hbl:=hb.le
 have hbg:=hb.g
 refine xR (cl:=nA) (PU 2 (by omega)) (.inl rfl) (h0.mk'.fg f m1) (by show a+130+2<_;omega) λH1 n1 a1 l e u f1 m1 ha1 he hu huc _=>?_
 have ha1:a1<=a+130:=ha1
 have hn1:=f1.le
 refine JL λH2 n2 f2=>?_
 have hn2:=f2.le
 have ff2:=(f.trans f1).trans (.kp (gp:=gp) f2)
 refine PU 1 (by omega) Cb H2 n2 (s.to a1) Γ _ (.inl rfl) (h0.mk'.fg ff2 ⟨f2.get m1.g (by omega),m1.pk⟩) (by show a1+40+2<_;omega) λH3 n3 a3 l3 e3 f3 m3 aB he3 hg3=>?_
 have aB:a3<=a1+40:=aB
 have hn3:=f3.le
 have x1:FQ G H3 (Rg (b+2) n3) l e:=((he.kp' f2).fg (by omega) f3).mono (λi h=>⟨by have:=h.1;omega,h.2⟩) λ_ _=>rfl
 have x3:FQ G H3 (Rg (b+2) n3) l3 e3:=he3.mono (λi h=>⟨by have:=h.1;omega,h.2⟩) λ_ _=>rfl
 refine gV x1 x3 (by omega) λH4 f4 hes4=>?_
 refine Xf (nm:=Zx) (es:=[e,e3]) hes4 λH5 n5 l5 f5 he5=>?_
 have hn5:=f5.le
 refine WA he5 (by omega) λH6 f6 hes6=>?_
 have f46:=f4.trans (f5.trans f6)
 exact ADk hp h0 ((((hb.fg f1).kp f2).fg f3).kp f46) ((ff2.trans f3).trans (.kp f46)) ⟨f46.get m3.g (by omega),m3.pk⟩ (a:=a3) (by omega) hes6 (GdS.ask (Gd.AYj hu huc hg3.int))
end
section
variable{G:AX}{gp:Nat}
theorem ARx(d:Nat)(hd:d<1000)(hB:∀d',d=d'+1->AID G gp d'):ARj G gp d:=by
 intro t H n s Γ k ht h hs hnm hl hp
 refine go3 (mW BK G) ?_
 delta WR
 have hgn:=h.g
 have hcd:=ARZ d
 have hkd:=qL d
 refine DY λH1 f1 g1=>?_
 refine Au rfl λH2 f2 g2=>?_
 have f02:=f1.trans f2
 have hb2:Bs H2 (n+1+1) n gp t:=⟨f2.get g1 (by omega),g2,by omega,hgn⟩
 refine JB (h.kp f02).m (by omega) (by omega) (by omega) λH3 r a hr ha m3 s3=>?_
 have f3:Fg gp H2 (n+1+1) H3 (n+1+1):=⟨Nat.le_refl _,λid _ hne=>s3 id hne⟩
 have f:=(Fg.kp (gp:=gp) f02).trans f3
 have hb:=hb2.fg f3
 clear f1 f2 g1 g2 f02 hb2 s3 f3
 generalize n+1+1=n3 at*
 refine AB (CY ..) ?_
 cases r0:decide (r=0)with
 |true=>rw[A8];exact AU6 hp h hb f m3 (by omega) (by omega) hkd (by omega) (by omega)
 |false=>
 rw[Ai]
 refine AB (CY ..) ?_
 cases r1:decide (r=1)with
 |true=>exact AU6 hp h hb f m3 (by omega) (by omega) hkd (by omega) (by omega)
 |false=>
 delta E8
 rw[Ai]
 refine AB (CY ..) ?_
 cases r2:decide (r=2)with
 |true=>rw[A8];exact AWW (P:=λ_=>True) hp h hb f m3 (by omega) (by omega)
 |false=>
 rw[Ai]
 refine AB (CY ..) ?_
 cases r3:decide (r=3)with
 |true=>
  rw[A8]
  refine JB m3 (by omega) (by omega) (by show a<_;omega) λH4 q a4 hq zu m4 s4=>?_
  have zu:a4<=a+1:=zu
  have f4:Fg gp H3 n3 H4 n3:=⟨Nat.le_refl _,λid _ hne=>s4 id hne⟩
  refine AB (CY ..) ?_
  cases q0:decide (q=0)with
  |true=>rw[A8];exact AMB (fn:=n_x) (ft:=Cb) (d:=2) (tyc:=λ_ P H n=>Runs F G BN [] H n P) (by omega) rfl (by decide) (.inl rfl) (λh=>JL h) hp h (hb.fg f4) (f.trans f4) m4 (by omega) (by omega)
  |false=>rw[Ai];exact AMB (fn:=ADL) (ft:=tA) (d:=1) (tyc:=λ_ P H n=>Runs F G Ec [.str 1 65] H n P) (by omega) rfl (by decide) (.inr (.inr (.inl rfl))) (λh=>bW (l:=1) (c:=65) h) hp h (hb.fg f4) (f.trans f4) m4 (by omega) (by omega)
 |false=>
 rw[Ai]
 refine AB (CY ..) ?_
 cases r4:decide (r=4)with
 |true=>
  rw[A8]
  refine JB m3 (by omega) (by omega) (by show a<_;omega) λH4 q a4 hq zu m4 s4=>?_
  have zu:a4<=a+1:=zu
  have f4:Fg gp H3 n3 H4 n3:=⟨Nat.le_refl _,λid _ hne=>s4 id hne⟩
  refine AB (CY ..) ?_
  cases q0:decide (q=0)with
  |true=>rw[A8];exact AMB (fn:=AOt) (ft:=tIs) (d:=1) (tyc:=λ_ P H n=>Runs F G FI [] H n P) (by omega) rfl (by decide) (.inr (.inr (.inr (.inr rfl)))) (λh=>ABL h) hp h (hb.fg f4) (f.trans f4) m4 (by omega) (by omega)
  |false=>rw[Ai];exact AWl hp h (hb.fg f4) (f.trans f4) m4 (by omega) (by omega)
 |false=>
 rw[Ai]
 refine AB (CY ..) ?_
 cases r5:decide (r=5)with
 |true=>
  rw[A8]
  refine AB (wz ..) ?_
  cases d with
  |zero=>rw[show decide (0<0)=false from rfl,Ai];exact AFE hp h hb f m3 (by omega) (by omega)
  |succ d=>
   rw[decide_eq_true (show 0<d+1 by omega),A8]
   have e1:cS (d+1)=1500+4*cS d:=rfl
   have e2:uP (d+1)=4*uP d:=rfl
   have:=qL d
   exact AbO (hB d rfl) (by omega) ht hp h hb f m3 (by omega) (by omega) (Nat.le_refl _) (by omega) (by omega)
 |false=>
 rw[Ai]
 refine AB (CY ..) ?_
 cases r6:decide (r=6)with
 |true=>
  rw[A8]
  refine AB (wz ..) ?_
  cases d with
  |zero=>rw[show decide (0<0)=false from rfl,Ai];exact AFE hp h hb f m3 (by omega) (by omega)
  |succ d=>
   rw[decide_eq_true (show 0<d+1 by omega),A8]
   have e1:cS (d+1)=1500+4*cS d:=rfl
   have e2:uP (d+1)=4*uP d:=rfl
   have:=qL d
   exact ATG (hB d rfl) (by omega) ht hp h hb f m3 (by omega) (by omega) (Nat.le_refl _) (by omega) (by omega)
 |false=>
 rw[Ai]
 refine AB (CY ..) ?_
 cases r7:decide (r=7)with
 |true=>
  rw[A8]
  refine JB m3 (by omega) (by omega) (by show a<_;omega) λH4 q a4 hq zu m4 s4=>?_
  have zu:a4<=a+1:=zu
  have f4:Fg gp H3 n3 H4 n3:=⟨Nat.le_refl _,λid _ hne=>s4 id hne⟩
  refine AB (CY ..) ?_
  cases q0:decide (q=0)with
  |true=>rw[A8];exact AYO ht hp h (hb.fg f4) (f.trans f4) m4 (by omega) (by omega)
  |false=>rw[Ai];exact Abs hp h (hb.fg f4) (f.trans f4) m4 (by omega) (by omega)
 |false=>rw[Ai];exact AFE hp h hb f m3 (by omega) (by omega)
end
theorem Sk.cut{H:Heap}{z:Nat}{A:Nat->Prop}{v:V}{LS:Dy}{i:Nat}{q:IntKind}(h:Sk H z A v LS)(hi:i<=LS.length):∃v',AC0 z v E0 none (some (.c (.int q (.ofNat i) 0))) none=some v'/\v'.D9=v.D9/\Sk H z A v' (LS.take i):=by
 cases h with
 |nil=>
  obtain rfl:i=0:=by simpa using hi
  exact⟨.Ag,rfl,rfl,.nil⟩
 |emp hg ha=>
  rename_i id t
  obtain rfl:i=0:=by simpa using hi
  refine⟨.sl id 0 0 0 z,?_,rfl,.emp hg ha⟩
  show CO (Nat.beq z z) (CO (band (Nat.ble 0 0) (Nat.ble 0 0)) (f3 0 (0-0) (0-0) λo d e=>.sl id o d e z))=_
  rw[EZ];rfl
 |OT hg hc ht ha=>
  rename_i id c t
  have hl:(LS.take i).length=i:=by rw[List.length_take];omega
  refine⟨.OT id 0 i z,?_,rfl,?_⟩
  ·show CO (Nat.beq z z) (CO (band (Nat.ble 0 i) (Nat.ble i LS.length)) (f3 0 (i-0) 0 λo d _=>.OT id o d z))=_
   rw[EZ,show Nat.ble 0 i=true by rw[Nat.ble_eq];omega,show Nat.ble i LS.length=true by rw[Nat.ble_eq];omega]
   show En 0 (λa=>En (i-0) λb=>En 0 λ_=>some (.OT id a b z))=_
   rw[DU,DU,DU,Nat.sub_zero]
  ·have:=Sk.OT (z:=z) (LS:=LS.take i) hg (by rw[hl];omega) (λj L hj=>ht j L (by rw[List.getElem?_take]at hj;split at hj;exact hj;cases hj)) ha
   rw[hl]at this;exact this
theorem ACT{z:Nat}{Z:LV}{H:Heap}{n:Nat}{P:KV}(hz:0<z)(h:∀H',Kp H n H' (n+1)->(∃t,T.get H' n=some (.arr z 0 t))->P (.sl n 0 0 0 z) H' (n+1)):BZ (Ah z 0 Z [] E0) H n P:=
 TD (G:=λ_ _ _=>none) (vs:=[]) rfl hz (λv hv=>by cases hv) λH' f g _=>h H' f g
def Rw(a b:Nat)(v w:V):Nat->Prop:=λid=>a<=id/\id<b/\v.D9≠some id/\w.D9≠some id
structure BJ(G:AX)(gp d:Nat)(t:Ty)(H0:Heap)(n0:Nat)(s:Mg)(Γ:List DJ)(j:Nat)(H:Heap)(n:Nat)(vo:V)(a nm:Nat)(vv:V)(ex:List DJ)(cs:Dy)(sts:List Tt):Prop where
 f:Fv gp s.vv H0 n0 H n
 m:Uw G H gp (s.st a nm vv)
 a:a<=s.at'+j*cS d
 n1:s.names<=nm
 n2:nm<=s.names+j*uP d
 w:Lw H n gp vv (Γ++ex)
 gam:Gam (Γ++ex) nm
 xl:ex.length<=j
 sd:Sd (n0+1) s.vv vv
 box:T.get H n0=some (one t.cells)
 lo:n0+1<=n
 sk:Sk H 9 (λid=>n0+1<=id/\id<n/\vv.D9≠some id) vo cs
 ts:IW G H (Rw (n0+1) n vv vo) cs sts
 gd:GdQ s.inn t Γ (Γ++ex) (j*uP d) sts
 ln:sts.length=j
section
variable{G:AX}{gp:Nat}
theorem AOQ(d:Nat)(hd:d<1000)(hS:ARj G gp d):AID G gp d:=by
 intro m t H n s Γ k hm ht h hs hnm hl hp
 refine go4 (iU BK G) ?_
 delta VJ
 have hgn:=h.g
 have hcd:=ARZ d
 have hkd:=qL d
 have hlo:∀id,s.vv.D9=some id->id<n:=λid hid=>(h.w.sk.own hid).1
 refine DY λH1 f1 g1=>?_
 have h1:=h.kp f1
 have hlen:=(h1.w.lv (G:=G)).el.len
 rw[List.length_map]at hlen
 have q2:∀{H':Heap} {s':Mg},Uw G H' gp s'->AY (.ptr gp 2) G H'=some s'.vv:=λm=>AV m.g rfl
 rw[BU,AQ,Ae,AQ,Nat.zero_add,q2 h1.m,AQ,hlen,AQ]
 refine ACT (by omega) λH2 f2 g2=>?_
 obtain⟨t2,g2⟩:=g2
 have h2:=h1.kp f2
 refine CP (N:=m) (J:=λj q=>∃H' n' vo a nm vv ex cs sts,q=(.ptr gp 0,.int .i64 (.ofNat m) 0,.int .i64 (.ofNat d) 0,.ptr n 0,.int .i64 (.ofNat Γ.length) 0,vo,.int .i64 (.ofNat j) 0,H',n')/\BJ G gp d t H n s Γ j H' n' vo a nm vv ex cs sts) ?_ ?_
  ⟨H2,n+1+1,_,s.at',s.names,s.vv,[],[],[],rfl,(Fg.kp (f1.trans f2)).fv _,h2.m,by omega,Nat.le_refl _,by omega,by rw[List.append_nil];exact h2.w,by rw[List.append_nil];exact h.gam,Nat.le_refl _,.inl rfl,f2.get g1 (by omega),by omega,
   .emp g2 ⟨by omega,by omega,λe=>by have:=hlo _ e;omega⟩,.nil,by rw[List.append_nil,Nat.zero_mul];exact .nil,rfl⟩
 ·rintro I j q hlt ⟨H3,n3,vo,a,nm,vv,ex,cs,sts,rfl,hj⟩ ih
  show GR lfp G (Runs F G) k I (.ptr gp 0) (.int .i64 (.ofNat m) 0) (.int .i64 (.ofNat d) 0) (.ptr n 0) (.int .i64 (.ofNat Γ.length) 0) vo (.int .i64 (.ofNat j) 0) H3 n3
  delta GR
  have e1:(j+1)*cS d<=m*cS d:=Nat.mul_le_mul_right _ hlt
  have e2:(j+1)*uP d<=m*uP d:=Nat.mul_le_mul_right _ hlt
  rw[Nat.add_mul,Nat.one_mul]at e1 e2
  have:=hj.a;have:=hj.n2;have:=hj.n1;have hex:=hj.xl;have hlo3:=hj.lo
  have e3:j<=j*uP d:=Nat.le_mul_of_pos_right _ (by omega)
  rw[Dl,AQ,decide_eq_true hlt,A8]
  refine AB (DZ hj.box) ?_
  have ms3:Ms G H3 n3 gp (s.st a nm vv) (Γ++ex):=⟨hj.m,by omega,hj.w,hj.gam,h.inn⟩
  refine hS t H3 n3 (s.st a nm vv) (Γ++ex) _ ht ms3 (by show a+_<_;omega) (by show nm+_<_;omega) (by rw[List.length_append];omega) ?_
  intro H4 n4 a4 nm4 vv4 ex4 l st hx4 f4 m4 zu hnA hnB hw4 hgam4 sd4 ht4 hg4
  have f4:Fv gp vv H3 n3 H4 n4:=f4
  have sd4:Sd n3 vv vv4:=sd4
  have zu:a4<=a+cS d:=zu
  have hnA:nm<=nm4:=hnA
  have hnB:nm4<=nm+uP d:=hnB
  have hn4:=f4.le
  have vv4ne:∀id,n+1<=id->id<n3->vv.D9≠some id->vv4.D9≠some id:=λid h1 h2 h3 e=>by
   rcases sd4 with h|h
   ·exact h3 (h.symm.trans e)
   ·have:=h id e;omega
  have vold:∀id,vv.D9=some id->id<n∨n+1<=id:=λid hid=>by
   rcases hj.sd with h|h
   ·exact .inl (hlo id (h.symm.trans hid))
   ·exact .inr (h id hid)
  have sk4:Sk H4 9 (λid=>n+1<=id/\id<n4/\vv4.D9≠some id/\id<n3) vo cs:=hj.sk.mono (λid hid=>⟨hid.1,by omega,vv4ne id hid.1 hid.2.1 hid.2.2,hid.2.1⟩) λid hid=>f4.same id hid.2.1 (by omega) hid.2.2
  have box4:T.get H4 n=_:=f4.get hj.box (by omega) (by omega) λe=>by have:=vold _ e;omega
  have hlcs:=hj.ts.len
  have hln:=hj.ln
  refine sk4.app (bs:=136) (c:=.agg l) (m:=0) (λid hid=>(sk4.own hid).2.1) (by omega) rfl ht4.len (by rw[hlcs];omega) λv' H5 hs5 same5 hsid=>?_
  rw[Eu (by omega),AQ]
  have vgp:vo.D9≠some gp:=λe=>by have:=(sk4.own e).1;omega
  have v4own:∀id,vv4.D9=some id->vo.D9≠some id:=λid hid e=>(sk4.own e).2.2.1 hid
  have v4lt:∀id,vv4.D9=some id->id<n4:=λid hid=>(hw4.sk.own hid).1
  have cs5:∀{id:Nat},id<n4->vo.D9≠some id->T.get H5 id=T.get H4 id:=λh1 h2=>same5 _ h1 h2
  refine ih _ ⟨H5,n4+2,v',a4,nm4,vv4,ex++ex4,cs++[l],sts++[st],rfl,?_⟩
  refine⟨?_,⟨(cs5 (by omega) vgp).trans m4.g,m4.pk⟩,?_,by omega,?_,?_,?_,?_,?_,?_,by omega,hs5 _ ⟨by omega,by omega,λe=>by have:=v4lt _ e;omega⟩,?_,?_,?_⟩
  ·refine⟨by have:=hj.f.le;omega,λid h1 h2 h3=>?_⟩
   refine(cs5 (by omega) λe=>by have:=(sk4.own e).1;omega).trans ((f4.same id (by omega) h2 λe=>?_).trans (hj.f.same id h1 h2 h3))
   rcases hj.sd with h|h
   ·exact h3 (h.symm.trans e)
   ·have:=h id e;omega
  ·rw[Nat.add_mul,Nat.one_mul];omega
  ·rw[Nat.add_mul,Nat.one_mul];omega
  ·rw[<-List.append_assoc]
   exact⟨hw4.sk.PW (λid hid=>⟨by have:=v4lt id hid;omega,(hw4.sk.own hid).2⟩) λid hid=>cs5 (v4lt id hid) (v4own id hid),hw4.lt⟩
  ·rw[<-List.append_assoc];exact hgam4
  ·rw[List.length_append];omega
  ·exact hj.sd.trans sd4 (by omega)
  ·exact(cs5 (by omega) λe=>by have:=(sk4.own e).1;omega).trans box4
  ·refine IW.app (IW.mono (λid hid=>?_) (λid hid=>?_) hj.ts) (.cons (ht4.mono (λid hid=>?_) λid hid=>?_) .nil)
   ·refine⟨hid.1,by have:=hid.2.1;omega,vv4ne id hid.1 hid.2.1 hid.2.2.1,λe=>?_⟩
    rw[hsid]at e;cases e;have:=hid.2.1;omega
   ·exact(cs5 (by have:=hid.2.1;omega) hid.2.2.2).trans (f4.same id hid.2.1 (by have:=hid.1;omega) hid.2.2.1)
   ·refine⟨by have:=hid.1;omega,by have:=hid.2.1;omega,hid.2.2,λe=>?_⟩
    rw[hsid]at e;cases e;have:=hid.2.1;omega
   ·exact cs5 hid.2.1 λe=>by have:=(sk4.own e).2.2.2;have:=hid.1;omega
  ·rw[<-List.append_assoc,Nat.add_mul,Nat.one_mul]
   exact hj.gd.snoc hg4
  ·rw[List.length_append,hln];rfl
 ·rintro I q ⟨H3,n3,vo,a,nm,vv,ex,cs,sts,rfl,hj⟩
  show GR lfp G (Runs F G) k I (.ptr gp 0) (.int .i64 (.ofNat m) 0) (.int .i64 (.ofNat d) 0) (.ptr n 0) (.int .i64 (.ofNat Γ.length) 0) vo (.int .i64 (.ofNat m) 0) H3 n3
  delta GR
  rw[Dl,AQ,decide_eq_false (Nat.lt_irrefl _),Ai]
  delta Mc
  have hlo3:=hj.lo
  rw[BU,AQ,Ae,AQ,Nat.zero_add,q2 hj.m,AQ]
  obtain⟨v',hv',hsid',hsk'⟩:=hj.w.sk.cut (i:=Γ.length) (q:=.i64) (by simp)
  rw[show(s.st a nm vv).vv=vv from rfl,hv',AQ,AQ,Ae,AQ,Nat.zero_add]
  refine Ib (off:=2) (m:=1) (v:=v') hj.m.g hsk'.ok.1 (by rw[hsk'.ok.2.1];rfl) (by omega) (by show 2+1<=5;omega) λH4 g4 s4=>?_
  rw[hsk'.ok.2.1]at g4
  have hne:∀id,vv.D9=some id->id≠gp:=λid hid=>(hj.w.sk.own hid).2
  refine hp H4 n3 a nm v' vo sts ex (by have:=hj.ln;omega) ⟨hj.f.le,λid h1 h2 h3=>(s4 id h2).trans (hj.f.same id h1 h2 h3)⟩ ⟨g4,hj.m.pk⟩ hj.a hj.n1 hj.n2 ⟨?_,h.w.lt⟩ ⟨λf hf=>?_,h.gam.nd,h.gam.ty⟩ ?_ ⟨cs,hj.sk.mono (λid hid=>⟨by omega,hid.2.1,by rw[hsid'];exact hid.2.2⟩) λid hid=>s4 id (by omega),?_⟩ hj.gd
  ·have:(List.map QZ (Γ++ex)).take Γ.length=Γ.map QZ:=by rw[List.map_append,List.take_left' (by simp)]
   rw[this]at hsk'
   exact hsk'.PW (λid hid=>hsk'.own hid) λid hid=>s4 id (hsk'.own hid).2
  ·exact hj.gam.nm f (List.mem_append_left _ hf)
  ·rw[Sd,hsid']
   rcases hj.sd with h|h
   ·exact .inl h
   ·exact .inr λid hid=>by have:=h id hid;omega
  ·refine IW.mono (λid hid=>⟨⟨by have:=hid.1;omega,hid.2.1,by rw[hsid'];exact hid.2.2.1⟩,hid.2.2.2⟩) (λid hid=>s4 id (by have:=hid.1;omega)) hj.ts
theorem AK2:∀d,d<1000->ARj G gp d/\AID G gp d
 |0,hd=>by
  have h:=ARx (G:=G) (gp:=gp) 0 hd λd' e=>by omega
  exact⟨h,AOQ 0 hd h⟩
 |d+1,hd=>by
  have hb:=(AK2 d (by omega)).2
  have h:=ARx (G:=G) (gp:=gp) (d+1) hd λd' e=>by have e2:d=d':=(by omega);subst e2;exact hb
  exact⟨h,AOQ (d+1) hd h⟩
end
theorem AIV{s:St}{t:Ty}(Δ:List DJ):∀{Γ:List DJ},FP s Γ=some t->FP s (Γ++Δ)=some t
 |[],h=>by cases h
 |f::l,h=>by
  have h:(bif decide (f.nm=s)then some f.ty else FP s l)=some t:=h
  show(bif decide (f.nm=s)then some f.ty else FP s (l++Δ))=some t
  cases hd:decide (f.nm=s)with
  |true=>rw[hd]at h;exact h
  |false=>rw[hd]at h;exact AIV Δ h
theorem AUD{x:Kx}{Γ Δ:List DJ}{nm:St}{ty:Ty}(kind:Nat)(h:kind≠6)(ks:List Ty):Xu x Γ kind nm ty ks=Xu x Δ kind nm ty ks:=by
 match kind,h with
 |0,_=>rcases ks with _|⟨a,_|⟨b,_|⟨c,l⟩⟩⟩<;>rfl
 |1,_=>rcases ks with _|⟨a,_|⟨b,_|⟨c,l⟩⟩⟩<;>rfl
 |2,_=>rcases ks with _|⟨a,_|⟨b,_|⟨c,l⟩⟩⟩<;>rfl
 |3,_=>rcases ks with _|⟨a,_|⟨b,_|⟨c,l⟩⟩⟩<;>rfl
 |4,_=>rcases ks with _|⟨a,_|⟨b,_|⟨c,l⟩⟩⟩<;>rfl
 |5,_=>rcases ks with _|⟨a,_|⟨b,_|⟨c,l⟩⟩⟩<;>rfl
 |6,h=>exact absurd rfl h
 |7,_=>rcases ks with _|⟨a,_|⟨b,_|⟨c,l⟩⟩⟩<;>rfl
 |8,_=>rcases ks with _|⟨a,_|⟨b,_|⟨c,l⟩⟩⟩<;>rfl
 |9,_=>rcases ks with _|⟨a,_|⟨b,_|⟨c,l⟩⟩⟩<;>rfl
 |10,_=>rcases ks with _|⟨a,_|⟨b,_|⟨c,l⟩⟩⟩<;>rfl
 |11,_=>rcases ks with _|⟨a,_|⟨b,_|⟨c,l⟩⟩⟩<;>rfl
 |12,_=>rcases ks with _|⟨a,_|⟨b,_|⟨c,l⟩⟩⟩<;>rfl
 |13,_=>rcases ks with _|⟨a,_|⟨b,_|⟨c,l⟩⟩⟩<;>rfl
 |14,_=>rcases ks with _|⟨a,_|⟨b,_|⟨c,l⟩⟩⟩<;>rfl
 |15,_=>rcases ks with _|⟨a,_|⟨b,_|⟨c,l⟩⟩⟩<;>rfl
 |16,_=>rcases ks with _|⟨a,_|⟨b,_|⟨c,l⟩⟩⟩<;>rfl
 |17,_=>rcases ks with _|⟨a,_|⟨b,_|⟨c,l⟩⟩⟩<;>rfl
 |18,_=>rcases ks with _|⟨a,_|⟨b,_|⟨c,l⟩⟩⟩<;>rfl
 |19,_=>rcases ks with _|⟨a,_|⟨b,_|⟨c,l⟩⟩⟩<;>rfl
 |20,_=>rcases ks with _|⟨a,_|⟨b,_|⟨c,l⟩⟩⟩<;>rfl
 |k+21,_=>rcases ks with _|⟨a,_|⟨b,_|⟨c,l⟩⟩⟩<;>rfl
theorem APm{x:Kx}{Γ:List DJ}(Δ:List DJ){kind:Nat}{nm:St}{ty:Ty}{ks:List Ty}{p:Ty×St}(h:Xu x Γ kind nm ty ks=some p):Xu x (Γ++Δ) kind nm ty ks=some p:=by
 by_cases hk:kind=6
 ·subst hk
  cases ks with
  |nil=>
   obtain⟨t,h1,h2⟩:=Option.map_eq_some_iff.1 (show(FP nm Γ).map (λt=>(t,((0,0):St)))=some p from h)
   show(FP nm (Γ++Δ)).map (λt=>(t,((0,0):St)))=some p
   rw[AIV Δ h1,<-h2];rfl
  |cons a l=>cases h
 ·rw[AUD (Δ:=Γ) kind hk];exact h
mutual
theorem AK9{x:Kx}{Γ:List DJ}(Δ:List DJ):∀{e e':Te},ckE x Γ e=some e'->ckE x (Γ++Δ) e=some e'
 |.mk kind num nm ty of own kids,e',h=>by
  obtain⟨ks,p,h1,h2,rfl,h0⟩:=ABO h
  exact ANB h0 (ALj Δ h1) (APm Δ h2)
theorem ALj{x:Kx}{Γ:List DJ}(Δ:List DJ):∀{l l':List Te},uS x Γ l=some l'->uS x (Γ++Δ) l=some l'
 |[],l',h=>by rw[uS]at h⊢;exact h
 |e::l,l',h=>by
  obtain⟨e',t,h1,h2,rfl⟩:=nO h
  rw[uS,AK9 Δ h1]
  show((uS x (Γ++Δ) l).map λl'=>e'::l')=_
  rw[ALj Δ h2];rfl
end
theorem Gd.more{inn:St}{Γ:List DJ}{e:Te}{t:Ty}(Δ:List DJ)(h:Gd inn Γ e t):Gd inn (Γ++Δ) e t:=λx hx=>by
 obtain⟨e',h1,h2⟩:=h x hx
 exact⟨e',AK9 Δ h1,h2⟩
def RG:Nat->List Ty->List DJ
 |_,[]=>[]
 |i,t::l=>⟨nmP i,t⟩::RG (i+1) l
theorem kT:∀(i:Nat) (ts:List Ty),(RG i ts).length=ts.length
 |_,[]=>rfl
 |i,_::l=>by show(RG (i+1) l).length+1=_;rw[kT (i+1) l];rfl
theorem ALf:∀(i:Nat) (ts:List Ty) (j:Nat) (t:Ty),ts[j]? =some t->(RG i ts)[j]? =some ⟨nmP (i+j),t⟩
 |_,[],j,t,h=>by simp at h
 |i,a::l,0,t,h=>by cases h;rfl
 |i,a::l,j+1,t,h=>by
  have:=ALf (i+1) l j t (by simpa using h)
  rw[show i+(j+1)=i+1+j by omega];exact this
theorem nG:∀(i:Nat) (ts:List Ty) (f:DJ),f∈RG i ts->(∃j,i<=j/\f.nm=nmP j)/\f.ty∈ts
 |_,[],f,h=>by cases h
 |i,a::l,f,h=>by
  rcases List.mem_cons.1 (show f∈⟨nmP i,a⟩::RG (i+1) l from h)with rfl|h
  ·exact⟨⟨i,Nat.le_refl _,rfl⟩,List.mem_cons_self ..⟩
  ·obtain⟨⟨j,hj,hn⟩,ht⟩:=nG (i+1) l f h
   exact⟨⟨j,by omega,hn⟩,List.mem_cons_of_mem _ ht⟩
theorem AFt:∀(i:Nat) (ts:List Ty),((RG i ts).map DJ.nm).Nodup
 |_,[]=>List.nodup_nil
 |i,a::l=>by
  show(nmP i::(RG (i+1) l).map DJ.nm).Nodup
  rw[List.nodup_cons]
  refine⟨λh=>?_,AFt (i+1) l⟩
  obtain⟨f,hf,hn⟩:=List.mem_map.1 h
  obtain⟨⟨j,hj,hn'⟩,_⟩:=nG (i+1) l f hf
  have:=ATp (hn.symm.trans hn');omega
theorem AO4{ts:List Ty}(h:∀t∈ts,Lh t)(m:Nat):Gam (RG 0 ts) m:=
 ⟨λf hf=>by obtain⟨⟨j,_,hn⟩,_⟩:=nG 0 ts f hf;exact .inl ⟨j,hn⟩,AFt 0 ts,λf hf=>h _ (nG 0 ts f hf).2⟩
theorem AV9(j:Nat):V.str 2 (112+256*AH8 [97+j])=(nmP j).v:=rfl
theorem take_snoc{α:Type}{l:List α}{j:Nat}{a:α}(h:l[j]? =some a):l.take (j+1)=l.take j++[a]:=by
 rw[List.take_add_one,h];rfl
abbrev tmZ:LV:=[.int .i64 (.ofNat 0) 0,.int .i64 (.ofNat 0) 0,.str 0 0,.bool false,.Ag,.str 0 0,.bool false,.Ag]
def Mg.md(s:Mg)(i:St)(vv:V):Mg:={s with inn:=i,vv:=vv}
structure Bm(H:Heap)(n b gp:Nat)(nm:St)(st:Bool)(ret:Ty)(vp vb:V):Prop where
 b1:T.get H b=some (one ret.cells)
 b2:T.get H (b+1)=some (one tmZ)
 b3:T.get H (b+2)=some (one (tmC 0 0 nm st vp ret vb))
 le:b+3<=n
 g:gp<b
def AL6(G:AX)(H:Heap)(n gp:Nat)(s:Mg)(cls nm:St)(st:Bool)(ret:Ty)(ts:List Ty)(k:KV):Prop:=
 ∀H' n' a nms l m,Fg gp H n H' n'->Uw G H' gp ⟨s.vp,a,.Ag,nms,bif st then(0,0)else cls⟩->a<=s.at'+100000->s.names<=nms->nms<=s.names+48->bJ G H' (Rg n n') l m->m.nm=nm->m.st=st->m.ret=ret->m.ps=RG 0 ts->GdM cls m->k (.agg l) H' n'
structure MJ(G:AX)(gp b:Nat)(nm:St)(st:Bool)(ret:Ty)(H0:Heap)(s:Mg)(i:St)(ps:List DJ)(H:Heap)(n:Nat)(vp vv:V):Prop where
 bx:Bm H n b gp nm st ret vp .Ag
 old:∀id,id<b->id≠gp->T.get H id=T.get H0 id
 m:Uw G H gp (s.md i vv)
 sp:Sk H 3 (λid=>b+3<=id/\id<n) vp (ps.map QZ)
 sv:Sk H 3 (λid=>b+3<=id/\id<n/\vp.D9≠some id) vv (ps.map QZ)
section
variable{G:AX}{H0:Heap}{gp b:Nat}{s:Mg}{k:KV}{cls nm:St}{st:Bool}{ret:Ty}{ts:List Ty}
theorem AMA{H:Heap}{n:Nat}{vp vv:V}(hret:Lh ret)(htm:∀t∈ts,Lh t)(hln:ts.length<=3)(hcls:cls=nA∨cls=nB)(hs:s.at'+100000<10000000000)(hnm:s.names+48<600)
 (hj:MJ G gp b nm st ret H0 s (bif st then(0,0)else cls) (RG 0 ts) H n vp vv) (hk:AL6 G H0 b gp s cls nm st ret ts k):Hz lfp G (Runs F G) k (.ptr gp 0) (.ptr b 0) (.ptr (b+1) 0) (.ptr (b+2) 0) H n:=by
 delta Hz
 obtain⟨bx,old,m0,sp,sv⟩:=hj
 have hle:=bx.le
 have hg:=bx.g
 generalize hi:(bif st then((0,0):St)else cls)=i at m0
 have AZ3:i=(0,0)∨i=nA∨i=nB:=by
  rw[<-hi];cases st
  ·exact .inr hcls
  ·exact .inl rfl
 have hps:(RG 0 ts).length<=3:=by rw[kT];exact hln
 refine AB (DZ bx.b1) (AB (DZ bx.b1) ?_)
 refine JB m0 (by omega) (by omega) (by show s.at'<_;omega) λH1 r a1 hr ha1 m1 s1=>?_
 have ha1:a1<=s.at'+1:=ha1
 have b1:T.get H1 b=_:=(s1 b (by omega)).trans bx.b1
 refine AB (DZ b1) (Bd (Lu ret) (AB (DZ b1) (Bd (Lu ret) ?_)))
 rw[AYt (show 1+r<9223372036854775808 by omega),AQ]
 have hvo:∀id,vv.D9=some id->b+3<=id/\id<n/\vp.D9≠some id:=λid hid=>sv.own hid
 have ms1:Ms G H1 n gp ((s.md i vv).to a1) (RG 0 ts):=⟨m1,by omega,⟨sv.mono (λid h=>⟨h.2.1,by omega⟩) λid h=>s1 id (by omega),by omega⟩,AO4 htm _,AZ3⟩
 have hc2:cS 2=31500:=rfl
 have hk2:uP 2=16:=rfl
 refine(AK2 (G:=G) (gp:=gp) 2 (by omega)).2 (1+r) ret H1 n _ (RG 0 ts) _ (by omega) hret ms1 ?_ ?_ ?_ ?_
 ·show a1+(1+r)*cS 2<_
  rw[hc2];omega
 ·show s.names+(1+r)*uP 2<_
  rw[hk2];omega
 ·rw[hk2];omega
 intro H2 n2 a2 nm2 vv2 vb sts ex hct f2 m2 ha2 hnA hnB hw2 hgam2 sd2 hb2 hg2
 have ha2:a2<=a1+(1+r)*cS 2:=ha2
 have hnA:s.names<=nm2:=hnA
 have hnB:nm2<=s.names+(1+r)*uP 2:=hnB
 rw[hc2]at ha2
 rw[hk2]at hnB
 have f2:Fv gp vv H1 n H2 n2:=f2
 have sd2:Sd n vv vv2:=sd2
 have hn2:=f2.le
 have AVv:∀id,id<b+3->id≠gp->T.get H2 id=T.get H id:=λid h1 h2=>(f2.same id (by omega) h2 λe=>by have:=hvo id e;omega).trans (s1 id h2)
 have b2:=(AVv b (by omega) (by omega)).trans bx.b1
 refine AB (DZ b2) (Bd (Lu ret) ?_)
 have ms2:Ms G H2 n2 gp (((s.md i vv).to a1).st a2 nm2 vv2) (RG 0 ts):=⟨m2,by omega,hw2,hgam2,AZ3⟩
 have e2:cst 2=130:=rfl
 refine PU 2 (by omega) ret H2 n2 _ (RG 0 ts) _ hret ms2.mk' (by show a2+cst 2+2<_;omega) λH3 n3 a3 l e f3 m3 aB he hgd=>?_
 have aB:a3<=a2+cst 2:=aB
 have hn3:=f3.le
 refine WA he hn3 λH4 f4 hes=>?_
 rw[show CZ ttZ [(0,1,.c (.int .i64 (.ofNat 6) 0)),(6,1,.c (.sl n3 0 1 1 11))]=some (.agg (ttC 6 0 0 (0,0) OU (.sl n3 0 1 1 11) .Ag .Ag))from rfl,AQ]
 have f24:Fg gp H2 n2 H4 (n3+1):=f3.trans (.kp f4)
 obtain⟨cs,hsk,hts⟩:=hb2
 have vvo:∀id,vv2.D9=some id->id<b∨b+3<=id:=λid hid=>by
  rcases sd2 with h|h
  ·have:=hvo id (h.symm.trans hid);omega
  ·have:=h id hid;omega
 have sk4:Sk H4 9 (λid=>n<=id/\id<n2) vb cs:=hsk.mono (λid h=>⟨h.1,h.2.1⟩) λid h=>f24.same id h.2.1 (by have:=h.1;omega)
 have hcl:=hts.len
 refine sk4.app (bs:=136) (c:=.agg (ttC 6 0 0 (0,0) OU (.sl n3 0 1 1 11) .Ag .Ag)) (m:=0) (λid hid=>by have:=(sk4.own hid).2;omega) (by omega) rfl rfl (by rw[hcl];omega) λv' H5 hs5 same5 hsid=>?_
 have Zz:∀id,id<b+3->id≠gp->T.get H5 id=T.get H id:=λid h1 h2=>(same5 id (by omega) λe=>by have:=(sk4.own e).1;omega).trans ((f24.same id (by omega) h2).trans (AVv id h1 h2))
 have m5:T.get H5 gp=_:=(same5 gp (by omega) λe=>by have:=(sk4.own e).1;omega).trans ((f4.same gp (by omega)).trans m3.g)
 have g5:=(Zz (b+2) (by omega) (by omega)).trans bx.b3
 have hskv':=hs5 (λid=>b+3<=id/\id<n3+1+2) ⟨by omega,by omega⟩
 rw[Ae,AQ]
 refine Ib (off:=0+7) (m:=1) (v:=v') g5 hskv'.ok.1 (by rw[hskv'.ok.2.1];rfl) (by omega) (by show 0+7+1<=8;omega) λH6 g6 s6=>?_
 rw[hskv'.ok.2.1]at g6
 rw[BU,AQ,Ae,AQ]
 have m6:T.get H6 gp=_:=(s6 gp (by omega)).trans m5
 refine Ib (off:=0+2) (m:=1) (v:=.Ag) m6 rfl rfl (by omega) (by show 0+2+1<=5;omega) λH7 g7 s7=>?_
 have q7:T.get H7 (b+2)=_:=(s7 (b+2) (by omega)).trans g6
 refine AB (BI (m:=8) q7 (by omega) rfl) ?_
 have q7b:T.get H7 (b+1)=some (one tmZ):=(s7 (b+1) (by omega)).trans ((s6 (b+1) (by omega)).trans ((Zz (b+1) (by omega) (by omega)).trans bx.b2))
 refine Bq q7b rfl rfl (by omega) λH8 g8 s8=>?_
 rw[Cm (m:=8) g8 (by omega) rfl]
 simp only[go_sem]
 have ANv:∀id,b+3<=id->T.get H8 id=T.get H5 id:=λid h=>(s8 id (by omega)).trans ((s7 id (by omega)).trans (s6 id (by omega)))
 refine hk H8 (n3+1+2) a3 nm2 _ ⟨nm,st,RG 0 ts,ret,sts++[.mk 6 (0,0) OU [e] [] []]⟩ ?_ (by rw[hi];exact⟨(s8 gp (by omega)).trans g7,m3.pk⟩) (by omega) (by omega) (by omega) (.mk 0 0 (vp:=vp) (vb:=v') ?_ ?_) rfl rfl rfl rfl ?_
 ·refine⟨by omega,λid h1 h2=>?_⟩
  exact(s8 id (by omega)).trans ((s7 id h2).trans ((s6 id (by omega)).trans ((Zz id (by omega) h2).trans (old id h1 h2))))
 ·have spo:∀id,vp.D9=some id->T.get H8 id=T.get H id:=λid hid=>by
   have h1:=sp.own hid
   refine(ANv id h1.1).trans ((same5 id (by omega) λe=>by have:=(sk4.own e).1;omega).trans ((f24.same id (by omega) (by omega)).trans ((f2.same id (by omega) (by omega) λe=>?_).trans (s1 id (by omega)))))
   exact(hvo id e).2.2 hid
  have sp8:=sp.PW (B:=Rg b (n3+1+2)) (H':=H8) (λid hid=>by have:=sp.own hid;exact⟨by omega,by omega⟩) spo
  exact⟨sp8.el (by omega),sp8.ks,sp8.ok.1,sp8.ok.2.1,λid hid=>sp8.own hid⟩
 ·refine⟨cs++[ttC 6 0 0 (0,0) OU (.sl n3 0 1 1 11) .Ag .Ag],?_,hskv'.ks,hskv'.ok.1,hskv'.ok.2.1,λid hid=>by have:=hskv'.own hid;exact⟨by omega,this.2⟩,IW.app (IW.mono (λid h=>?_) (λid h=>?_) hts) (.cons (XU.of ?_ .nil .nil) .nil)⟩
  ·exact(hskv'.mono (B:=λid=>b+3<=id/\id<n3+1+2) (λ_ h=>h) λid h=>ANv id h.1).el (by omega)
  ·exact⟨by have:=h.1.1;omega,by have:=h.1.2.1;omega⟩
  ·exact(ANv id (by have:=h.1.1;omega)).trans ((same5 id (by have:=h.1.2.1;omega) h.2).trans (f24.same id h.1.2.1 (by have:=h.1.1;omega)))
  ·exact hes.mono (λid h=>⟨by have:=h.1;omega,by have:=h.2;omega⟩) λid h=>(ANv id (by have:=h.1;omega)).trans (same5 id h.2 λe=>by have:=(sk4.own e).2;have:=h.1;omega)
 ·obtain⟨u,hu,hgu,_⟩:=hgd.ex
  refine GdM.mk (k:=(1+r)*uP 2+0) (inn:=i) (AFt 0 ts) (by rw[hk2];omega) (λhne=>?_) (hg2.snoc (GdS.rtn (hgu.more ex) hu)).blk (by rw[List.length_append];show sts.length+1<=1000;omega)
  rw[<-hi]at hne⊢
  cases st with
  |true=>exact absurd rfl hne
  |false=>exact⟨rfl,rfl⟩
end
section
variable{G:AX}{H0:Heap}{gp b:Nat}{s:Mg}{k:KV}{cls nm:St}{st:Bool}{ret:Ty}{ts:List Ty}
theorem AGj{H:Heap}{n:Nat}{v5 v0:V}(hret:Lh ret)(htm:∀t∈ts,Lh t)(hln:ts.length<=3)(hcls:cls=nA∨cls=nB)(hs:s.at'+100000<10000000000)(hnm:s.names+48<600)
 (bx:Bm H n b gp nm st ret .Ag .Ag) (old:∀id,id<b->id≠gp->T.get H id=T.get H0 id) (m0:Uw G H gp (s.md (bif st then(0,0)else cls) v0)) (hel:El G H v5 2 (ts.map Ty.cells)) (hlo:∀id,v5.D9=some id->id<b/\id≠gp)
 (hk:AL6 G H0 b gp s cls nm st ret ts k):FZ lfp G (Runs F G) k (.ptr gp 0) v5 (.ptr b 0) (.ptr (b+1) 0) (.ptr (b+2) 0) H n:=by
 delta FZ
 have hle:=bx.le
 have hg:=bx.g
 rw[BU,AQ,Ae,AQ]
 refine Ib (off:=0+2) (m:=1) (v:=.Ag) m0.g rfl rfl (by omega) (by show 0+2+1<=5;omega) λH1 g1 s1=>?_
 have Ab4:El G H1 v5 2 (ts.map Ty.cells):=hel.same λid hid=>s1 id (hlo id hid).2
 have hlen:=Ab4.len
 rw[List.length_map]at hlen
 rw[hlen,AQ]
 refine CP (N:=ts.length) (J:=λj q=>∃H' n' vp vv,q=(.ptr gp 0,.ptr b 0,.ptr (b+1) 0,.ptr (b+2) 0,v5,.int .i64 (.ofNat ts.length) 0,.int .i64 (.ofNat j) 0,H',n')/\MJ G gp b nm st ret H0 s (bif st then(0,0)else cls) ((RG 0 ts).take j) H' n' vp vv) ?_ ?_
  ⟨H1,n,.Ag,.Ag,rfl,⟨(s1 b (by omega)).trans bx.b1,(s1 (b+1) (by omega)).trans bx.b2,(s1 (b+2) (by omega)).trans bx.b3,bx.le,bx.g⟩,λid h1 h2=>(s1 id h2).trans (old id h1 h2),⟨g1,m0.pk⟩,.nil,.nil⟩
 ·rintro I j q hlt ⟨H2,n2,vp,vv,rfl,⟨bx2,old2,m2,sp,sv⟩⟩ ih
  show FU lfp G (Runs F G) k I (.ptr gp 0) (.ptr b 0) (.ptr (b+1) 0) (.ptr (b+2) 0) v5 (.int .i64 (.ofNat ts.length) 0) (.int .i64 (.ofNat j) 0) H2 n2
  delta FU
  have hle2:=bx2.le
  have hel2:El G H2 v5 2 (ts.map Ty.cells):=hel.same λid hid=>by
   have h:=hlo id hid
   exact(old2 id h.1 h.2).trans (old id h.1 h.2).symm
  obtain⟨p,hpp,hld⟩:=hel2.at (i:=j) (c:=ts[j].cells) (by simp[hlt])
  have hget:(RG 0 ts)[j]? =some ⟨nmP j,ts[j]⟩:=by
   have:=ALf 0 ts j ts[j] (List.getElem?_eq_getElem hlt)
   rwa [Nat.zero_add]at this
  have htake:=take_snoc hget
  have hlt2:((RG 0 ts).take j).length<=3:=by rw[List.length_take,kT];omega
  generalize ts[j]=t at hld hget htake
  generalize(RG 0 ts).take j=ps at sp sv htake hlt2
  rw[Dl,AQ,decide_eq_true hlt,A8]
  refine AB hpp (AB (DW hld) ?_)
  refine Au rfl λH3 f3 g3=>?_
  refine Bq g3 rfl rfl (by omega) λH4 g4 s4=>?_
  have f24:Kp H2 n2 H4 (n2+1):=⟨f3.le,λid hid=>(s4 id (by omega)).trans (f3.same id hid)⟩
  refine AB (AYz j (by omega)) (AB (AQL j (by omega)) ?_)
  refine TD (G:=G) (vs:=[.int .u8 (.ofNat (97+j)) 0]) rfl (by omega) (λv hv=>by simp at hv;subst hv;exact⟨rfl,rfl⟩) λH5 f5 _ ACx=>?_
  refine AB (AU7 (xs:=[97+j]) ACx (λx hx=>by simp at hx;omega)) ?_
  refine AB (AW4 _) ?_
  rw[AV9]
  have g5:=f5.get g4 (by omega)
  refine AB (BI (m:=2) g5 (by omega) rfl) ?_
  rw[show CZ [.str 0 0,.str 0 0,.bool false] [(0,1,.c (nmP j).v),(1,2,.c (.agg t.cells))]=some (.agg (QZ ⟨nmP j,t⟩))from rfl,AQ]
  refine Au rfl λH6 f6 g6=>?_
  refine Bq g6 rfl rfl (by omega) λH7 g7 s7=>?_
  have f57:Kp H5 (n2+1+1) H7 (n2+1+1+1):=⟨f6.le,λid hid=>(s7 id (by omega)).trans (f6.same id hid)⟩
  have f27:=(f24.trans f5).trans f57
  clear f3 g3 g4 s4 f24 f5 ACx g5 f6 g6 s7 f57
  generalize hn7:n2+1+1=n7 at*
  have b3:=f27.get bx2.b3 (by omega)
  rw[Ae,AQ]
  refine AB (AV (off:=0+4) b3 (v:=vp) rfl) ?_
  refine AB (BI (m:=3) g7 (by omega) rfl) ?_
  have sp7:Sk H7 3 (λid=>b+3<=id/\id<n2) vp (ps.map QZ):=sp.mono (λ_ h=>h) λid h=>f27.same id h.2
  refine sp7.app (bs:=40) (c:=.agg (QZ ⟨nmP j,t⟩)) (m:=0) (λid hid=>by have:=(sp7.own hid).2;omega) (by omega) rfl rfl (by rw[List.length_map];omega) λvp' H8 hs8 same8 hsid8=>?_
  have k8:∀id,id<n7+1->id<b+3∨n2<=id->T.get H8 id=T.get H7 id:=λid h1 h2=>same8 id h1 λe=>by have:=sp7.own e;omega
  have hsk8:=hs8 (λid=>b+3<=id/\id<n7+1+2) ⟨by omega,by omega⟩
  rw[AQ]
  refine Ib (off:=0+4) (m:=1) (v:=vp') ((k8 (b+2) (by omega) (.inl (by omega))).trans b3) hsk8.ok.1 (by rw[hsk8.ok.2.1];rfl) (by omega) (by show 0+4+1<=8;omega) λH9 g9 s9=>?_
  rw[hsk8.ok.2.1]at g9
  rw[BU,AQ,Ae,AQ]
  have m9:T.get H9 gp=_:=(s9 gp (by omega)).trans ((k8 gp (by omega) (.inl (by omega))).trans (f27.get m2.g (by omega)))
  refine AB (AV (off:=0+2) m9 (v:=vv) rfl) ?_
  have q9:T.get H9 n7=_:=(s9 n7 (by omega)).trans ((k8 n7 (by omega) (.inr (by omega))).trans g7)
  refine AB (BI (m:=3) q9 (by omega) rfl) ?_
  have svo:∀id,vv.D9=some id->T.get H9 id=T.get H2 id:=λid hid=>by
   have h:=sv.own hid
   exact(s9 id (by omega)).trans ((same8 id (by omega) h.2.2).trans (f27.same id h.2.1))
  have sv9:Sk H9 3 (λid=>b+3<=id/\id<n2/\vp'.D9≠some id) vv (ps.map QZ):=sv.PW (λid hid=>by
   have h:=sv.own hid
   exact⟨h.1,h.2.1,λe=>by rw[hsid8]at e;cases e;omega⟩) svo
  refine sv9.app (bs:=40) (c:=.agg (QZ ⟨nmP j,t⟩)) (m:=0) (λid hid=>by have:=(sv9.own hid).2.1;omega) (by omega) rfl rfl (by rw[List.length_map];omega) λvv' H10 hs10 same10 hsid10=>?_
  have k10:∀id,id<n7+1+2->vv.D9≠some id->T.get H10 id=T.get H9 id:=λid h1 h2=>same10 id h1 h2
  have hsk10:=hs10 (λid=>b+3<=id/\id<n7+1+2+2/\vp'.D9≠some id) ⟨by omega,by omega,λe=>by rw[hsid8]at e;have:=Option.some.inj e;omega⟩
  have xY:∀id,id<b+3->vv.D9≠some id:=λid h e=>by have:=sv9.own e;omega
  rw[AQ,Ae,AQ]
  refine Ib (off:=0+2) (m:=1) (v:=vv') ((k10 gp (by omega) (xY gp (by omega))).trans m9) hsk10.ok.1 (by rw[hsk10.ok.2.1];rfl) (by omega) (by show 0+2+1<=5;omega) λH11 g11 s11=>?_
  rw[hsk10.ok.2.1]at g11
  rw[Eu (by omega),AQ]
  have k11:∀id,id<b+3->id≠gp->id≠b+2->T.get H11 id=T.get H2 id:=λid h1 h2 h3=>(s11 id h2).trans ((k10 id (by omega) (xY id h1)).trans ((s9 id h3).trans ((k8 id (by omega) (.inl h1)).trans (f27.same id (by omega)))))
  refine ih _ ⟨H11,n7+1+2+2,vp',vv',rfl,⟨(k11 b (by omega) (by omega) (by omega)).trans bx2.b1,(k11 (b+1) (by omega) (by omega) (by omega)).trans bx2.b2,(s11 (b+2) (by omega)).trans ((k10 (b+2) (by omega) (xY _ (by omega))).trans g9),by omega,hg⟩,
   λid h1 h2=>(k11 id (by omega) h2 (by omega)).trans (old2 id h1 h2),⟨g11,m2.pk⟩,?_,?_⟩
  ·rw[htake,List.map_append]
   exact hsk8.PW (λid hid=>by have:=hsk8.own hid;omega) λid hid=>by
    have h:=hsk8.own hid
    refine(s11 id (by omega)).trans ((k10 id h.2 λe=>?_).trans (s9 id (by omega)))
    have:=(sv9.own e).2.2;exact this hid
  ·rw[htake,List.map_append]
   exact hsk10.PW (λid hid=>hsk10.own hid) λid hid=>s11 id (by have:=hsk10.own hid;omega)
 ·rintro I q ⟨H2,n2,vp,vv,rfl,hj⟩
  show FU lfp G (Runs F G) k I (.ptr gp 0) (.ptr b 0) (.ptr (b+1) 0) (.ptr (b+2) 0) v5 (.int .i64 (.ofNat ts.length) 0) (.int .i64 (.ofNat ts.length) 0) H2 n2
  delta FU
  rw[Dl,AQ,decide_eq_false (Nat.lt_irrefl _),Ai]
  rw[List.take_of_length_le (by rw[kT];exact Nat.le_refl _)]at hj
  exact AMA hret htm hln hcls hs hnm hj hk
theorem AR2{H:Heap}{n:Nat}{v5:V}(hret:Lh ret)(htm:∀t∈ts,Lh t)(hln:ts.length<=3)(hcls:cls=nA∨cls=nB)(hs:s.at'+100000<10000000000)(hnm:s.names+48<600)
 (m:Uw G H gp s) (hgn:gp<n) (hel:El G H v5 2 (ts.map Ty.cells)) (hlo:∀id,v5.D9=some id->id<n/\id≠gp) (hk:AL6 G H n gp s cls nm st ret ts k):
 Runs F G EM [.ptr gp 0,cls.v,nm.v,.bool st,ret.v,v5] H n k:=by
 refine go6 (dJ BK G) ?_
 delta Ub
 refine DY λH1 f1 g1=>?_
 refine Au rfl λH2 f2 g2=>?_
 have g1:=f2.get g1 (by omega)
 refine AB (DZ g1) ?_
 rw[show CZ tmZ [(2,1,.c nm.v),(3,1,.c (.bool st)),(5,2,.c ret.v)]=some (.agg (tmC 0 0 nm st .Ag ret .Ag))from rfl,AQ]
 refine Au rfl λH3 f3 g3=>?_
 refine Bq g3 rfl rfl (by omega) λH4 g4 s4=>?_
 have f14:Kp H n H4 (n+1+1+1):=(f1.trans f2).trans ⟨f3.le,λid hid=>(s4 id (by omega)).trans (f3.same id hid)⟩
 have b1:T.get H4 n=_:=(s4 n (by omega)).trans (f3.get g1 (by omega))
 have b2:T.get H4 (n+1)=_:=(s4 (n+1) (by omega)).trans (f3.get g2 (by omega))
 have m4:=f14.get m.g hgn
 rw[BU,AQ,Ae,AQ]
 refine Ib (off:=0+4) (m:=1) (v:=cls.v) m4 rfl rfl (by omega) (by show 0+4+1<=5;omega) λH5 g5 s5=>?_
 have pO:Bm H5 (n+1+1+1) n gp nm st ret .Ag .Ag:=⟨(s5 n (by omega)).trans b1,(s5 (n+1) (by omega)).trans b2,(s5 (n+1+1) (by omega)).trans g4,by omega,hgn⟩
 have AW8:∀id,id<n->id≠gp->T.get H5 id=T.get H id:=λid h1 h2=>(s5 id h2).trans (f14.same id h1)
 cases st with
 |false=>
  rw[Ai]
  exact AGj (v0:=s.vv) hret htm hln hcls hs hnm pO AW8 ⟨g5,m.pk⟩ (hel.same λid hid=>AW8 id (hlo id hid).1 (hlo id hid).2) hlo hk
 |true=>
  rw[A8,AQ,Ae,AQ]
  refine Ib (off:=0+4) (m:=1) (v:=.str 0 0) g5 rfl rfl (by omega) (by show 0+4+1<=5;omega) λH6 g6 s6=>?_
  have old6:∀id,id<n->id≠gp->T.get H6 id=T.get H id:=λid h1 h2=>(s6 id h2).trans (AW8 id h1 h2)
  exact AGj (v0:=s.vv) hret htm hln hcls hs hnm ⟨(s6 n (by omega)).trans pO.b1,(s6 (n+1) (by omega)).trans pO.b2,(s6 (n+2) (by omega)).trans pO.b3,by omega,hgn⟩ old6 ⟨g6,m.pk⟩ (hel.same λid hid=>old6 id (hlo id hid).1 (hlo id hid).2) hlo hk
end
structure Cl(G:AX)(H:Heap)(n gp c:Nat)(D:Nat->Prop)(nm sup:St)(fs:List DJ)(ms:List Tm):Prop where
 lt:∀id,D id->gp<id/\id<n
 dc:D c
 ex:∃vf vm cs,T.get H c=some (one (tcC 0 0 nm sup vf vm))/\AGn G H (λid=>D id/\id≠c/\vm.D9≠some id) vf fs/\Sk H 8 (λid=>D id/\id≠c) vm cs/\Lp G H (λid=>D id/\id≠c/\vm.D9≠some id) cs ms
theorem Cl.same{G:AX}{H H':Heap}{n n' gp c:Nat}{D:Nat->Prop}{nm sup:St}{fs:List DJ}{ms:List Tm}(h:Cl G H n gp c D nm sup fs ms)(hn:n<=n')(hs:∀id,D id->T.get H' id=T.get H id):Cl G H' n' gp c D nm sup fs ms:=by
 obtain⟨vf,vm,cs,h1,h2,h3,h4⟩:=h.ex
 exact⟨λid hid=>⟨(h.lt id hid).1,Nat.lt_of_lt_of_le (h.lt id hid).2 hn⟩,h.dc,vf,vm,cs,(hs c h.dc).trans h1,h2.mono (λ_ h=>h) λid hid=>hs id hid.1,h3.mono (λ_ h=>h) λid hid=>hs id hid.1,Lp.mono (λ_ h=>h) (λid hid=>hs id hid.1) h4⟩
theorem Cl.kp{G:AX}{H H':Heap}{n n' gp c:Nat}{D:Nat->Prop}{nm sup:St}{fs:List DJ}{ms:List Tm}(h:Cl G H n gp c D nm sup fs ms)(f:Kp H n H' n'):Cl G H' n' gp c D nm sup fs ms:=
 h.same f.le λid hid=>f.same id (h.lt id hid).2
def Mg.z(vp:V)(a nms:Nat)(i:St):Mg:=⟨vp,a,.Ag,nms,i⟩
structure zW(cls:St)(m:Tm)(q:Ej):Prop where
 nm:m.nm=q.nm
 st:m.st=q.st
 ret:m.ret=q.ret
 ps:m.ps=RG 0 q.ps
 gd:GdM cls m
def Shape(G:AX)(SH:V->V->(V->V->Heap->Nat->Prop)->Heap->Nat->Prop)(q:Ej):Prop:=
 ∀(H:Heap) (n:Nat) (p w:V) (K:V->V->Heap->Nat->Prop),(∀H' n',Kp H n H' n'->AY p G H'=some w)->Ar w w=true->
  (∀H' n' v5,Kp H n H' n'->El G H' v5 2 (q.ps.map Ty.cells)->(∀id,v5.D9=some id->n<=id/\id<n')->K q.ret.v v5 H' n')->SH p w K H n
section
variable{G:AX}
abbrev AYk(G:AX):V->V->(V->V->Heap->Nat->Prop)->Heap->Nat->Prop:=λp w K H n=>
 Runs F G BN [] H n λv15 H n=>AL (AY p G H) λv=>Dj (Ar v w) <| Runs F G BN [] H n λv16 H n=>AL (AY p G H) λv=>Dj (Ar v w) <|
 BZ (Ah 2 1 [.str 0 0,.bool false] [(0,.c v16)] E0) H n λv17 H n=>K v15 v17 H n
theorem AOZ:Shape G (AYk G) P9:=λH n p w K hp hw hk=>
 JL λH1 n1 f1=>AB (hp _ _ f1) (Bd hw (JL λH2 n2 f2=>AB (hp _ _ (f1.trans f2)) (Bd hw (TD (G:=G) (vs:=[Cb.v]) rfl (by omega) (λv hv=>by simp at hv;subst hv;exact⟨rfl,rfl⟩) λH3 f3 _ hel=>
  hk H3 _ _ ((f1.trans f2).trans f3) hel λid hid=>by cases hid;have:=f1.le;have:=f2.le;omega))))
abbrev AXl(G:AX):V->V->(V->V->Heap->Nat->Prop)->Heap->Nat->Prop:=λp w K H n=>
 Runs F G Ec [.str 1 65] H n λv25 H n=>AL (AY p G H) λv=>Dj (Ar v w) <| K v25 .Ag H n
theorem AQl:Shape G (AXl G) fO:=λH n p w K hp hw hk=>
 bW (l:=1) (c:=65) λH1 n1 f1=>AB (hp _ _ f1) (Bd hw (hk H1 n1 .Ag f1 ADy λid hid=>by cases hid))
abbrev AZF(G:AX):V->V->(V->V->Heap->Nat->Prop)->Heap->Nat->Prop:=λp w K H n=>
 Runs F G BN [] H n λv33 H n=>AL (AY p G H) λv=>Dj (Ar v w) <| Runs F G BN [] H n λv34 H n=>AL (AY p G H) λv=>Dj (Ar v w) <|
 Runs F G Ec [.str 1 65] H n λv35 H n=>AL (AY p G H) λv=>Dj (Ar v w) <| BZ (Ah 2 2 [.str 0 0,.bool false] [(0,.c v34),(1,.c v35)] E0) H n λv36 H n=>K v33 v36 H n
theorem AOU:Shape G (AZF G) Qa:=λH n p w K hp hw hk=>
 JL λH1 n1 f1=>AB (hp _ _ f1) (Bd hw (JL λH2 n2 f2=>AB (hp _ _ (f1.trans f2)) (Bd hw (bW (l:=1) (c:=65) λH4 n4 f4=>AB (hp _ _ ((f1.trans f2).trans f4)) (Bd hw
  (TD (G:=G) (vs:=[Cb.v,tA.v]) rfl (by omega) (λv hv=>by simp at hv;rcases hv with rfl|rfl<;>exact⟨rfl,rfl⟩) λH3 f3 _ hel=>
  hk H3 _ _ (((f1.trans f2).trans f4).trans f3) hel λid hid=>by cases hid;have:=f1.le;have:=f2.le;have:=f4.le;omega))))))
abbrev AXm(G:AX):V->V->(V->V->Heap->Nat->Prop)->Heap->Nat->Prop:=λp w K H n=>
 Runs F G BN [] H n λv33 H n=>AL (AY p G H) λv=>Dj (Ar v w) <| Runs F G BN [] H n λv34 H n=>AL (AY p G H) λv=>Dj (Ar v w) <|
 Runs F G BN [] H n λv35 H n=>AL (AY p G H) λv=>Dj (Ar v w) <| BZ (Ah 2 2 [.str 0 0,.bool false] [(0,.c v34),(1,.c v35)] E0) H n λv36 H n=>K v33 v36 H n
theorem ASQ:Shape G (AXm G) wK:=λH n p w K hp hw hk=>
 JL λH1 n1 f1=>AB (hp _ _ f1) (Bd hw (JL λH2 n2 f2=>AB (hp _ _ (f1.trans f2)) (Bd hw (JL λH4 n4 f4=>AB (hp _ _ ((f1.trans f2).trans f4)) (Bd hw
  (TD (G:=G) (vs:=[Cb.v,Cb.v]) rfl (by omega) (λv hv=>by simp at hv;subst hv;exact⟨rfl,rfl⟩) λH3 f3 _ hel=>
  hk H3 _ _ (((f1.trans f2).trans f4).trans f3) hel λid hid=>by cases hid;have:=f1.le;have:=f2.le;have:=f4.le;omega))))))
end
section
variable{G:AX}{H:Heap}{n gp c:Nat}{D:Nat->Prop}{cls cnm sup:St}{fs:List DJ}{ms:List Tm}{vp:V}{a nms:Nat}{i:St}
theorem ACt{SH:V->V->(V->V->Heap->Nat->Prop)->Heap->Nat->Prop}{q:Ej}{P:Heap->Nat->Prop}(hSH:Shape G SH q)(hret:Lh q.ret)(htm:∀t∈q.ps,Lh t)(hln:q.ps.length<=3)(hcls:cls=nA∨cls=nB)
 (hs:a+100000<10000000000) (hnm:nms+48<600) (hms:ms.length<=100) (h:Cl G H n gp c D cnm sup fs ms) (m:Uw G H gp (Mg.z vp a nms i)) (hgn:gp<n)
 (hk:∀H' n' a' nms' i' m1,n<=n'->(∀id,id<n->id≠gp->¬D id->T.get H' id=T.get H id)->Cl G H' n' gp c (λid=>D id∨(n<=id/\id<n')) cnm sup fs (ms++[m1])->Uw G H' gp (Mg.z vp a' nms' i')->a'<=a+100000->nms'<=nms+48->zW cls m1 q->P H' n'):
 AL (AU 5 (.ptr c 0)) λv13=>AL (AY v13 G H) λv14=>SH v13 v14 (λv15 v17 H n=>Runs F G EM [.ptr gp 0,cls.v,q.nm.v,.bool q.st,v15,v17] H n λv18 H n=>
  AL (AY v13 G H) λv=>Dj (Ar v v14) <| BZ (Ah 8 1 tmZ [(0,.c v18)] E0) H n λv19 H n=>O8 8 112 v14 v19 G H n λv20 H n=>AL (AU 5 (.ptr c 0)) λv21=>BL 1 v21 v20 H n λ_ H n=>P H n) H n:=by
 obtain⟨vf,vm,cs,g0,hvs,hsk,hts⟩:=h.ex
 have hc:=h.lt c h.dc
 rw[Ae,AQ]
 have q0:∀{H':Heap},T.get H' c=some (one (tcC 0 0 cnm sup vf vm))->AY (.ptr c (0+5)) G H'=some vm:=λg=>AV (off:=0+5) g rfl
 refine AB (q0 g0) ?_
 have hvm:=hsk.ok.2.2
 refine hSH H n _ _ _ (λH' n' f=>q0 (f.get g0 hc.2)) hvm λH1 n1 v5 f1 hel hlo=>?_
 have hn1:=f1.le
 refine AR2 (s:=Mg.z vp a nms i) hret htm hln hcls hs hnm ⟨f1.get m.g hgn,m.pk⟩ (by omega) hel (λid hid=>by have:=hlo id hid;omega) λH2 n2 a2 nms2 l m1 f2 m2 ha2 hn2a hn2b ht e1 e2 e3 e4 e5=>?_
 have hn2:=f2.le
 have g2:=f2.get (f1.get g0 hc.2) (by omega) (by omega)
 refine AB (q0 g2) (Bd hvm ?_)
 have f12:Fg gp H n H2 n2:=(Fg.kp f1).trans f2
 have sk2:Sk H2 8 (λid=>D id/\id≠c) vm cs:=hsk.mono (λ_ h=>h) λid hid=>by have:=h.lt id hid.1;exact f12.same id this.2 (by omega)
 have hcl:=hts.len
 refine sk2.app (bs:=112) (c:=.agg l) (m:=0) (λid hid=>by have:=h.lt id (sk2.own hid).1;omega) (by omega) rfl ht.len (by rw[hcl];omega) λv' H3 hs3 same3 hsid=>?_
 have hsk3:=hs3 (λid=>(D id∨(n<=id/\id<n2+2))/\id≠c) ⟨.inr ⟨by omega,by omega⟩,by omega⟩
 have vmc:vm.D9≠some c:=λe=>(sk2.own e).2 rfl
 have g3:T.get H3 c=_:=(same3 c (by omega) vmc).trans g2
 rw[AQ]
 refine Ib (off:=0+5) (m:=1) (v:=v') g3 hsk3.ok.1 (by rw[hsk3.ok.2.1];rfl) (by omega) (by show 0+5+1<=6;omega) λH4 g4 s4=>?_
 rw[hsk3.ok.2.1]at g4
 have vmg:vm.D9≠some gp:=λe=>by have:=h.lt gp (sk2.own e).1;omega
 have v'ne:∀id,id<n2+1->v'.D9≠some id:=λid h e=>by rw[hsid]at e;have:=Option.some.inj e;omega
 have keep:∀id,id<n->id≠gp->id≠c->vm.D9≠some id->T.get H4 id=T.get H id:=λid h1 h2 h3 h4=>(s4 id h3).trans ((same3 id (by omega) h4).trans (f12.same id h1 h2))
 refine hk H4 (n2+2) a2 nms2 _ m1 (by omega) (λid h1 h2 h3=>keep id h1 h2 (λe=>h3 (e▸h.dc)) λe=>h3 (sk2.own e).1) ⟨λid hid=>?_,.inl h.dc,vf,v',cs++[l],g4,?_,?_,Lp.app (Lp.mono (λid hid=>?_) (λid hid=>?_) hts) (.cons (ht.mono (λid hid=>?_) λid hid=>?_) .nil)⟩
  ⟨(s4 gp (by omega)).trans ((same3 gp (by omega) vmg).trans m2.g),m2.pk⟩ ha2 hn2b ⟨e1,e2,e3,e4,e5⟩
 ·rcases hid with hid|hid
  ·have:=h.lt id hid;omega
  ·omega
 ·exact hvs.mono (λid hid=>⟨.inl hid.1,hid.2.1,v'ne id (by have:=h.lt id hid.1;omega)⟩) λid hid=>by have:=h.lt id hid.1;exact keep id this.2 (by omega) hid.2.1 hid.2.2
 ·exact hsk3.PW (λid hid=>hsk3.own hid) λid hid=>s4 id (hsk3.own hid).2
 ·exact⟨.inl hid.1,hid.2.1,v'ne id (by have:=h.lt id hid.1;omega)⟩
 ·have:=h.lt id hid.1;exact keep id this.2 (by omega) hid.2.1 hid.2.2
 ·exact⟨.inr ⟨by have:=hid.1;omega,by have:=hid.2;omega⟩,by have:=hid.1;omega,v'ne id (by have:=hid.2;omega)⟩
 ·exact(s4 id (by have:=hid.1;omega)).trans (same3 id hid.2 λe=>by have:=h.lt id (sk2.own e).1;have:=hid.1;omega)
end
def fsA:List DJ:=[⟨n_x,Cb⟩,⟨ADL,tA⟩,⟨AOt,tIs⟩]
def fsB:List DJ:=[⟨QC,BM⟩]
inductive Made:Tc->Tc->Prop where
 |mk {m1 m2 m3 m4:Tm} {bg bs:List Tm} (g s:Bool) (h1:zW nA m1 P9) (h2:zW nA m2 fO) (h3:zW nA m3 Qa) (h4:zW nA m4 wK) (hg:bif g then ∃m,bg=[m]/\zW nB m P9 else bg=[]) (hs:bif s then ∃m,bs=[m]/\zW nB m Qa else bs=[]):
  Made ⟨nA,(0,0),fsA,[m1,m2,m3,m4]⟩ ⟨nB,nA,fsB,bg++bs⟩
theorem Cl.tc{G:AX}{H:Heap}{n gp c:Nat}{D:Nat->Prop}{nm sup:St}{fs:List DJ}{ms:List Tm}(h:Cl G H n gp c D nm sup fs ms):∃l,T.get H c=some (one l)/\VR G H D l ⟨nm,sup,fs,ms⟩:=by
 obtain⟨vf,vm,cs,h1,h2,h3,h4⟩:=h.ex
 exact⟨_,h1,.mk 0 0 (h2.mono (λ_ h=>h.1) λ_ _=>rfl) ⟨cs,h3.el (by omega),h3.ks,h3.ok.1,h3.ok.2.1,λid hid=>(h3.own hid).1,Lp.mono (λ_ h=>h.1) (λ_ _=>rfl) h4⟩⟩
abbrev tcZ:LV:=[.int .i64 (.ofNat 0) 0,.int .i64 (.ofNat 0) 0,.str 0 0,.str 0 0,.Ag,.Ag]
theorem tI:Lh Cb:=.inl rfl
theorem tAm:Lh tA:=.inr (.inr (.inl rfl))
section
variable{G:AX}{vp:V}{k:KV}
def ANA(G:AX)(H0:Heap)(n0:Nat)(k:KV):Prop:=∀H' n' v lA lB A B,Kp H0 n0 H' n'->El G H' v 6 [lA,lB]->KS v->jc v=true->Bl v=[v]->(∀id,v.D9=some id->Rg n0 n' id)->VR G H' (Rg n0 n') lA A->VR G H' (Rg n0 n') lB B->Made A B->k v H' n'
structure Tw(G:AX)(H0:Heap)(n0:Nat)(H:Heap)(n ca cb:Nat)(DA DB:Nat->Prop)(vp:V)(a nms:Nat)(i:St)(msA msB:List Tm):Prop where
 A:Cl G H n n0 ca DA nA (0,0) fsA msA
 B:Cl G H n n0 cb DB nB nA fsB msB
 ne:∀id,DA id->¬DB id
 m:Uw G H n0 (Mg.z vp a nms i)
 le:n0+1<=n
 old:∀id,id<n0->T.get H id=T.get H0 id
theorem AKT{H0 H:Heap}{n0 n ca cb a nms:Nat}{DA DB:Nat->Prop}{i:St}{m1 m2 m3:Tm}{bg bs:List Tm}{g s:Bool}(h:Tw G H0 n0 H n ca cb DA DB vp a nms i [m1,m2,m3] (bg++bs))(ha:a<=600000)(hn:nms<=300)
 (h1:zW nA m1 P9) (h2:zW nA m2 fO) (h3:zW nA m3 Qa) (hg:bif g then ∃m,bg=[m]/\zW nB m P9 else bg=[]) (hs:bif s then ∃m,bs=[m]/\zW nB m Qa else bs=[]) (hk:ANA G H0 n0 k):
 IU lfp G (Runs F G) k (.ptr n0 0) (.ptr ca 0) (.ptr cb 0) H n:=by
 delta IU
 refine ACt (q:=wK) (cls:=nA) (vp:=vp) (a:=a) (nms:=nms) (i:=i) (ASQ (G:=G)) tI (λt ht=>by simp[wK]at ht;subst ht;exact tI) (by decide) (.inl rfl) (by omega) (by omega) (by show 3<=100;omega) h.A h.m (by have:=h.le;omega) ?_
 intro H1 n1 a1 nms1 i1 m4 hn1 same cl1 mm ha1 hnm1 sg
 have hB1:Cl G H1 n1 n0 cb DB nB nA fsB (bg++bs):=h.B.same hn1 λid hid=>by have:=h.B.lt id hid;exact same id this.2 (by omega) λe=>h.ne id e hid
 obtain⟨lA,gA,tA1⟩:=cl1.tc
 obtain⟨lB,gB,tB1⟩:=hB1.tc
 refine AB (BI (m:=6) gA (by omega) tA1.len) (AB (BI (m:=6) gB (by omega) tB1.len) ?_)
 refine TD (G:=G) (vs:=[.agg lA,.agg lB]) rfl (by omega) (λv hv=>by simp at hv;rcases hv with rfl|rfl;exact⟨rfl,tA1.len⟩;exact⟨rfl,tB1.len⟩) λH2 f2 _ hel=>?_
 have hle:=h.le
 refine hk H2 (n1+1) _ lA lB _ _ ⟨by omega,λid hid=>?_⟩ hel (AHh (Nat.le_refl _)) rfl rfl (λid hid=>by cases hid;exact⟨by omega,by omega⟩) (tA1.mono (λid hid=>?_) λid hid=>?_) (tB1.mono (λid hid=>?_) λid hid=>?_) (Made.mk g s h1 h2 h3 sg hg hs)
 ·exact(f2.same id (by omega)).trans ((same id (by omega) (by omega) λe=>by have:=h.A.lt id e;omega).trans (h.old id hid))
 ·have:=cl1.lt id hid;exact⟨by omega,by omega⟩
 ·exact f2.same id (cl1.lt id hid).2
 ·have:=hB1.lt id hid;exact⟨by omega,by omega⟩
 ·exact f2.same id (hB1.lt id hid).2
theorem AKb{H0 H:Heap}{n0 n ca cb a nms:Nat}{DA DB:Nat->Prop}{i:St}{m1 m2 m3:Tm}{bg:List Tm}{g:Bool}(h:Tw G H0 n0 H n ca cb DA DB vp a nms i [m1,m2,m3] bg)(ha:a<=480000)(hn:nms<=250)
 (h1:zW nA m1 P9) (h2:zW nA m2 fO) (h3:zW nA m3 Qa) (hg:bif g then ∃m,bg=[m]/\zW nB m P9 else bg=[]) (hk:ANA G H0 n0 k):
 Ia lfp G (Runs F G) k (.ptr n0 0) (.ptr ca 0) (.ptr cb 0) H n:=by
 delta Ia
 have hle:=h.le
 refine JB h.m (by omega) (by omega) (by show a<_;omega) λH1 r a1 hr ha1 m1' s1=>?_
 have ha1:a1<=a+1:=ha1
 have h':Tw G H0 n0 H1 n ca cb DA DB vp a1 nms i [m1,m2,m3] bg:=⟨h.A.same (Nat.le_refl _) λid hid=>s1 id (by have:=h.A.lt id hid;omega),h.B.same (Nat.le_refl _) λid hid=>s1 id (by have:=h.B.lt id hid;omega),h.ne,m1',h.le,λid hid=>(s1 id (by omega)).trans (h.old id hid)⟩
 refine AB (CY ..) ?_
 cases h0:decide (r=0)with
 |false=>
  rw[Ai]
  exact AKT (bs:=[]) (s:=false) (by rw[List.append_nil];exact h') (by omega) (by omega) h1 h2 h3 hg rfl hk
 |true=>
  rw[A8]
  refine ACt (q:=Qa) (cls:=nB) (vp:=vp) (a:=a1) (nms:=nms) (i:=i) (AOU (G:=G)) tI (λt ht=>by simp[Qa]at ht;rcases ht with rfl|rfl;exact tI;exact tAm) (by decide) (.inr rfl) (by omega) (by omega) ?_ h'.B h'.m (by omega) ?_
  ·cases g
   ·rw[show bg=[]from hg];exact Nat.zero_le _
   ·obtain⟨m,rfl,_⟩:=hg;show 1<=100;omega
  intro H2 n2 a2 nms2 i2 mB hn2 same cl2 mm ha2 hnm2 sg
  refine AKT (bs:=[mB]) (s:=true) (DA:=DA) ⟨h'.A.same hn2 λid hid=>by have:=h'.A.lt id hid;exact same id this.2 (by omega) (h.ne id hid),cl2,λid hid e=>?_,mm,by omega,λid hid=>(same id (by omega) (by omega) λe=>by have:=h'.B.lt id e;omega).trans (h'.old id hid)⟩ (by omega) (by omega) h1 h2 h3 hg ⟨mB,rfl,sg⟩ hk
  rcases e with e|e
  ·exact h.ne id hid e
  ·have:=h'.A.lt id hid;omega
theorem APa{H:Heap}{n:Nat}(hp:AYf G vp)(hvp:vp=.Ag∨∃b o l c z,vp=.rsl b o l c z)(hk:ANA G H n k):Runs F G ZR [vp] H n k:=by
 refine go1 (xI BK G) ?_
 delta ZE
 have hb:CZ [.Ag,.int .i64 (.ofNat 0) 0,.Ag,.int .i64 (.ofNat 0) 0,.str 0 0] [(0,1,.c vp)]=some (.agg (Mg.z vp 0 0 (0,0)).cells):=by rcases hvp with rfl|⟨b,o,l,c,z,rfl⟩<;>rfl
 rw[hb,AQ]
 refine DY λH1 f1 g1=>?_
 refine JL λH2 n2 f2=>?_
 refine AB (v:=.agg (QZ ⟨n_x,Cb⟩)) rfl ?_
 refine bW (l:=1) (c:=65) λH3 n3 f3=>?_
 refine AB (v:=.agg (QZ ⟨ADL,tA⟩)) rfl ?_
 refine ABL λH4 n4 f4=>?_
 refine AB (v:=.agg (QZ ⟨AOt,tIs⟩)) rfl ?_
 have f24:=(f2.trans f3).trans f4
 have hn4:=f24.le
 refine TD (G:=G) (vs:=[.agg (QZ ⟨n_x,Cb⟩),.agg (QZ ⟨ADL,tA⟩),.agg (QZ ⟨AOt,tIs⟩)]) rfl (by omega) (λv hv=>by simp at hv;rcases hv with rfl|rfl|rfl<;>exact⟨rfl,rfl⟩) λH5 f5 _ ACx=>?_
 refine AB (v:=.agg (tcC 0 0 nA (0,0) (.sl n4 0 3 3 3) .Ag)) rfl ?_
 refine Au rfl λH6 f6 g6=>?_
 refine Bq g6 rfl rfl (by omega) λH7 g7 s7=>?_
 have f57:Kp H5 (n4+1) H7 (n4+1+1):=⟨f6.le,λid hid=>(s7 id (by omega)).trans (f6.same id hid)⟩
 have f27:=(f24.trans f5).trans f57
 have clA:Cl G H7 (n4+1+1) n (n4+1) (λid=>n4<=id/\id<n4+1+1) nA (0,0) fsA []:=⟨λid hid=>by omega,by omega,.sl n4 0 3 3 3,.Ag,[],g7,
  ⟨ACx.same λid hid=>by cases hid;exact f57.same _ (by omega),AHh (Nat.le_refl _),rfl,rfl,λid hid=>by cases hid;exact⟨⟨by omega,by omega⟩,by omega,by simp[V.D9]⟩⟩,.nil,.nil⟩
 have m7:Uw G H7 n (Mg.z vp 0 0 (0,0)):=⟨f27.get g1 (by omega),hp⟩
 refine ACt (q:=P9) (cls:=nA) (vp:=vp) (a:=0) (nms:=0) (i:=(0,0)) (AOZ (G:=G)) tI (λt ht=>by simp[P9]at ht;subst ht;exact tI) (by decide) (.inl rfl) (by omega) (by omega) (by decide) clA m7 (by omega) ?_
 intro H8 n8 a8 nm8 i8 m1 hn8 same8 cl8 mm8 ha8 hnm8 sg1
 refine ACt (q:=fO) (cls:=nA) (vp:=vp) (a:=a8) (nms:=nm8) (i:=i8) (AQl (G:=G)) tAm (λt ht=>by simp[fO]at ht) (by decide) (.inl rfl) (by omega) (by omega) (by show 1<=100;omega) cl8 mm8 (by omega) ?_
 intro H9 n9 a9 nm9 i9 m2 hn9 AEJ cl9 mm9 ha9 hnm9 sg2
 refine ACt (q:=Qa) (cls:=nA) (vp:=vp) (a:=a9) (nms:=nm9) (i:=i9) (AOU (G:=G)) tI (λt ht=>by simp[Qa]at ht;rcases ht with rfl|rfl;exact tI;exact tAm) (by decide) (.inl rfl) (by omega) (by omega) (by show 2<=100;omega) cl9 mm9 (by omega) ?_
 intro H10 n10 a10 nm10 i10 m3 hn10 same10 cl10 mm10 ha10 hnm10 sg3
 have AZ8:∀id,id<n->T.get H10 id=T.get H id:=λid hid=>
  (same10 id (by omega) (by omega) λe=>by have:=cl9.lt id e;omega).trans ((AEJ id (by omega) (by omega) λe=>by have:=cl8.lt id e;omega).trans ((same8 id (by omega) (by omega) λe=>by have:=clA.lt id e;omega).trans ((f27.same id (by omega)).trans (f1.same id hid))))
 refine NJ λH11 n11 f11=>?_
 have hn11:=f11.le
 refine AB (v:=.agg (QZ ⟨QC,BM⟩)) rfl ?_
 refine TD (G:=G) (vs:=[.agg (QZ ⟨QC,BM⟩)]) rfl (by omega) (λv hv=>by simp at hv;subst hv;exact⟨rfl,rfl⟩) λH12 f12 _ hel12=>?_
 refine AB (v:=.agg (tcC 0 0 nB nA (.sl n11 0 1 1 3) .Ag)) rfl ?_
 refine Au rfl λH13 f13 g13=>?_
 refine Bq g13 rfl rfl (by omega) λH14 g14 s14=>?_
 have AVZ:Kp H12 (n11+1) H14 (n11+1+1):=⟨f13.le,λid hid=>(s14 id (by omega)).trans (f13.same id hid)⟩
 have f1014:=(f11.trans f12).trans AVZ
 have clB:Cl G H14 (n11+1+1) n (n11+1) (λid=>n11<=id/\id<n11+1+1) nB nA fsB []:=⟨λid hid=>by omega,by omega,.sl n11 0 1 1 3,.Ag,[],g14,
  ⟨hel12.same λid hid=>by cases hid;exact AVZ.same _ (by omega),AHh (Nat.le_refl _),rfl,rfl,λid hid=>by cases hid;exact⟨⟨by omega,by omega⟩,by omega,by simp[V.D9]⟩⟩,.nil,.nil⟩
 have m14:Uw G H14 n (Mg.z vp a10 nm10 i10):=⟨f1014.get mm10.g (by omega),hp⟩
 refine JB m14 (by omega) (by omega) (by show a10<_;omega) λH15 r a15 hr AZy m15 s15=>?_
 have AZy:a15<=a10+1:=AZy
 have clA15:=(cl10.kp f1014).same (H':=H15) (Nat.le_refl _) λid hid=>s15 id (by have:=cl10.lt id hid;omega)
 have tw:Tw G H n H15 (n11+1+1) (n4+1) (n11+1) _ _ vp a15 nm10 i10 [m1,m2,m3] []:=⟨clA15,clB.same (Nat.le_refl _) λid hid=>s15 id (by omega),λid hid=>by have:=cl10.lt id hid;omega,m15,by omega,
  λid hid=>(s15 id (by omega)).trans ((f1014.same id (by omega)).trans (AZ8 id hid))⟩
 refine AB (wz ..) ?_
 cases h0:decide (0<r)with
 |false=>rw[Ai];exact AKb (g:=false) tw (by omega) (by omega) sg1 sg2 sg3 rfl hk
 |true=>
  rw[A8]
  refine ACt (q:=P9) (cls:=nB) (vp:=vp) (a:=a15) (nms:=nm10) (i:=i10) (AOZ (G:=G)) tI (λt ht=>by simp[P9]at ht;subst ht;exact tI) (by decide) (.inr rfl) (by omega) (by omega) (by decide) tw.B tw.m (by omega) ?_
  intro H16 n16 a16 nm16 i16 mB hn16 same16 cl16 mm16 ha16 hnm16 sgB
  refine AKb (g:=true) ⟨tw.A.same hn16 λid hid=>by have:=tw.A.lt id hid;exact same16 id this.2 (by omega) (tw.ne id hid),cl16,λid hid e=>?_,mm16,by omega,λid hid=>(same16 id (by omega) (by omega) λe=>by have:=tw.B.lt id e;omega).trans (tw.old id hid)⟩ (by omega) (by omega) sg1 sg2 sg3 ⟨mB,rfl,sgB⟩ hk
  rcases e with e|e
  ·exact tw.ne id hid e
  ·have:=tw.A.lt id hid;omega
end
end Go.RL
