/- Part of a proof; nothing is assumed. -/
import Derived.Test.YtcjkfmaoahojeaaGreatDoorLawA
import Derived.Test.YtcjkfmaoahojeaaGreatDoorEngG
import Derived.Test.YtcjkfmaoahojeaaGreatDoorConB
set_option linter.unusedVariables false
set_option linter.unusedSimpArgs false
namespace Go.PQ
open Go.Eng
set_option maxRecDepth 100000
def jI(l:Bs):Bool:=nameB small l&& !decide (l∈TU)
def Wl(l:Bs):Bool:=nameB great l
def dQ(l:Bs):Bool:=decide (l=uf)||(decide (l=dN)||Wl l)
def Wn(l:Bs):Tok:=bif Wl l then U l else W l
def AEm:List Bs:=[ZY,Dz,Wu,SE,qy,YO,lF,VT,lg]
inductive Wr:Ex->Prop
 |num {n:Nat} (h:n<=288230376151711744):Wr (.mk 1 n [] [] false [])
 |tru:Wr (.mk 2 0 [] [] false [])
 |fls:Wr (.mk 3 0 [] [] false [])
 |nul:Wr (.mk 4 0 [] [] false [])
 |ths:Wr (.mk 5 0 [] [] false [])
 |loc {l:Bs} (h:jI l=true):Wr (.mk 6 0 l [] false [])
 |get {l:Bs} {a:Ex} (h:jI l=true) (ha:Wr a):Wr (.mk 7 0 l [] false [a])
 |call {l:Bs} {a:Ex} {ks:List Ex} (h:jI l=true) (ha:Wr a) (hk:∀x∈ks,Wr x) (hn:ks.length<=200):Wr (.mk 8 0 l [] false (a::ks))
 |stat {l u:Bs} {ks:List Ex} (h:jI l=true) (hu:Wl u=true) (hk:∀x∈ks,Wr x) (hn:ks.length<=200):Wr (.mk 9 0 l u false ks)
 |new {u:Bs} (hu:Wl u=true):Wr (.mk 10 0 [] u false [])
 |arr {u:Bs} {a:Ex} (hu:dQ u=true) (ha:Wr a):Wr (.mk 11 0 [] u false [a])
 |elm {a b:Ex} (ha:Wr a) (hb:Wr b):Wr (.mk 12 0 [] [] false [a,b])
 |len {a:Ex} (ha:Wr a):Wr (.mk 13 0 [] [] false [a])
 |neg {a:Ex} (ha:Wr a):Wr (.mk 14 0 [] [] false [a])
 |not {a:Ex} (ha:Wr a):Wr (.mk 15 0 [] [] false [a])
 |bin {o:Bs} {a b:Ex} (ho:o∈AEm) (ha:Wr a) (hb:Wr b):Wr (.mk 16 0 o [] false [a,b])
 |and {a b:Ex} (ha:Wr a) (hb:Wr b):Wr (.mk 17 0 [] [] false [a,b])
 |or {a b:Ex} (ha:Wr a) (hb:Wr b):Wr (.mk 18 0 [] [] false [a,b])
 |asx {u:Bs} {a:Ex} (hu:Wl u=true) (ha:Wr a):Wr (.mk 19 0 [] u false [a])
 |isx {u:Bs} {a:Ex} (hu:Wl u=true) (ha:Wr a):Wr (.mk 20 0 [] u false [a])
def uH(l:List Bs)(i:Nat):Bs:=match l[i]? with|some x=>x|none=>TT
def IZ:List Bs->Bs
 |[]=>[]
 |a::l=>a++l.flatMap λb=>DK++([32]++b)
def ATn(k n:Nat)(nm ty:Bs)(ks:List Bs):Bs:=
 match k with
 |1=>Zj n
 |2=>Yf
 |3=>UL
 |5=>YI
 |6=>nm
 |7=>uH ks 0++(DX++nm)
 |8=>uH ks 0++(DX++(nm++(BJ++(IZ (ks.drop 1)++BM))))
 |9=>ty++(DX++(nm++(BJ++(IZ ks++BM))))
 |10=>BJ++(JY++([32]++(ty++BM)))
 |11=>JY++([32]++(ty++(Ho++(uH ks 0++G8))))
 |12=>uH ks 0++(Ho++(uH ks 1++G8))
 |13=>uH ks 0++(DX++Ir)
 |14=>BJ++(Dz++(uH ks 0++BM))
 |15=>BJ++(JC++(uH ks 0++BM))
 |16=>BJ++(uH ks 0++([32]++(nm++([32]++(uH ks 1++BM)))))
 |17=>BJ++(uH ks 0++([32]++(OZ++([32]++(uH ks 1++BM)))))
 |18=>BJ++(uH ks 0++([32]++(ZP++([32]++(uH ks 1++BM)))))
 |19=>BJ++(uH ks 0++([32]++(UC++([32]++(ty++BM)))))
 |20=>BJ++(uH ks 0++([32]++(Qv++([32]++(ty++BM)))))
 |_=>TT
mutual
def textE:Ex->Bs
 |.mk k n nm ty _ ks=>ATn k n nm ty (AIY ks)
def AIY:List Ex->List Bs
 |[]=>[]
 |e::l=>textE e::AIY l
end
theorem AFI:∀l:List Ex,AIY l=l.map textE
 |[]=>by unfold AIY;rfl
 |a::l=>by unfold AIY;rw[AFI l];rfl
def QE(l:List (List Tok))(i:Nat):List Tok:=match l[i]? with|some x=>x|none=>[W TT]
def MI:List (List Tok)->List Tok
 |[]=>[]
 |a::l=>a++l.flatMap λb=>M DK::b
def Zw(k n:Nat)(nm ty:Bs)(ks:List (List Tok)):List Tok:=
 match k with
 |1=>[N (Zj n) n]
 |2=>[W Yf]
 |3=>[W UL]
 |5=>[W YI]
 |6=>[L nm]
 |7=>QE ks 0++[M DX,L nm]
 |8=>QE ks 0++M DX::L nm::M BJ::(MI (ks.drop 1)++[M BM])
 |9=>U ty::M DX::L nm::M BJ::(MI ks++[M BM])
 |10=>[M BJ,W JY,U ty,M BM]
 |11=>W JY::Wn ty::M Ho::(QE ks 0++[M G8])
 |12=>QE ks 0++M Ho::(QE ks 1++[M G8])
 |13=>QE ks 0++[M DX,W Ir]
 |14=>M BJ::M Dz::(QE ks 0++[M BM])
 |15=>M BJ::M JC::(QE ks 0++[M BM])
 |16=>M BJ::(QE ks 0++M nm::(QE ks 1++[M BM]))
 |17=>M BJ::(QE ks 0++M OZ::(QE ks 1++[M BM]))
 |18=>M BJ::(QE ks 0++M ZP::(QE ks 1++[M BM]))
 |19=>M BJ::(QE ks 0++[W UC,U ty,M BM])
 |20=>M BJ::(QE ks 0++[W Qv,U ty,M BM])
 |_=>[W TT]
mutual
def tokE:Ex->List Tok
 |.mk k n nm ty _ ks=>Zw k n nm ty (AP8 ks)
def AP8:List Ex->List (List Tok)
 |[]=>[]
 |e::l=>tokE e::AP8 l
end
theorem AII:∀l:List Ex,AP8 l=l.map tokE
 |[]=>by unfold AP8;rfl
 |a::l=>by unfold AP8;rw[AII l];rfl
theorem Ae(k n:Nat)(nm ty:Bs)(ar:Bool)(ks:List Ex):textE (.mk k n nm ty ar ks)=ATn k n nm ty (ks.map textE):=by unfold textE;rw[AFI]
theorem CP(k n:Nat)(nm ty:Bs)(ar:Bool)(ks:List Ex):tokE (.mk k n nm ty ar ks)=Zw k n nm ty (ks.map tokE):=by unfold tokE;rw[AII]
def Out(r:Bs):Prop:=∀c l,r=c::l->inner c=false
theorem AOC{c:UInt8}{r:Bs}(h:inner c=false):Out (c::r):=λ_ _ e=>by cases e;exact h
theorem ASd{t:Tok}{r:Bs}(h:t.kind≠5)(ho:Out r):APj t r=true:=by
 cases r with
 |nil=>rfl
 |cons c l=>exact AIV h (ho c l rfl)
theorem VN{t:Tok}{r:Bs}{ts:List Tok}(hw:Wf t)(hk:t.kind≠5)(ho:Out r)(h:Dq r ts):Dq (t.text++r) (t::ts):=ALc hw (ASd hk ho) h
def AZa(e:Ex):Prop:=∀r ts,Out r->Dq r ts->Dq (textE e++r) (tokE e++ts)
theorem AAt(l:Bs):(Wn l).text=l:=by unfold Wn;cases Wl l<;>rfl
theorem AE2(l:Bs):(Wn l).kind≠5:=by unfold Wn;cases Wl l<;>simp[W,U]
theorem AGs{l:Bs}(h:dQ l=true):Wf (Wn l):=by
 unfold Wn
 cases hu:Wl l with
 |true=>exact AIv hu
 |false=>
  simp only[dQ,hu,Bool.or_false,Bool.or_eq_true,decide_eq_true_eq]at h
  rcases h with rfl|rfl
  ·exact Ig (by decide)
  ·exact Ig (by decide)
theorem ADz{m:Bs}{r:Bs}{ts:List Tok}(hm:m∈FI)(h:Dq r ts):Dq (m++([32]++r)) (M m::ts):=Tj (t:=M m) (.mark hm) h
theorem AM9{o:Bs}(h:o∈AEm):o∈FI:=by
 simp only[AEm,List.mem_cons,List.not_mem_nil,or_false]at h
 rcases h with rfl|rfl|rfl|rfl|rfl|rfl|rfl|rfl|rfl<;>decide
theorem AMG{p:UInt8->Bool}{l:Bs}(h:nameB p l=true):∃c t,l=c::t/\inner c=true:=by
 have h:=zW h
 obtain⟨c,t,e,_⟩:=h.hd
 exact⟨c,t,e,h.all c (by rw[e];exact List.mem_cons_self)⟩
theorem AWZ(n:Nat):∃c t,Zj n=c::t/\inner c=true:=by
 cases h:Zj n with
 |nil=>exact absurd h (ANe n)
 |cons c t=>exact⟨c,t,rfl,aj (wO _ _ c (by show c∈Zj n;rw[h];exact List.mem_cons_self))⟩
def HdB(l:Bs):Prop:=∃c t,l=c::t/\(inner c=true∨c=40)
theorem HdB.app{l:Bs}(h:HdB l)(r:Bs):HdB (l++r):=by obtain⟨c,t,rfl,h⟩:=h;exact⟨c,t++r,rfl,h⟩
theorem AZe{e:Ex}(h:Wr e):HdB (textE e):=by
 have inn:∀{l:Bs},(∃c t,l=c::t/\inner c=true)->HdB l:=λ⟨c,t,e,h⟩=>⟨c,t,e,.inl h⟩
 have low:∀{l:Bs},jI l=true->HdB l:=λh=>inn (AMG (Bool.and_eq_true_iff.1 h).1)
 have upp:∀{l:Bs},Wl l=true->HdB l:=λh=>inn (AMG h)
 have lp:∀{l:Bs},HdB (BJ++l):=λ{l}=>⟨40,l,rfl,.inr rfl⟩
 induction h with
 |num h=>rw[Ae];exact inn (AWZ _)
 |tru=>exact⟨116,_,rfl,.inl (by decide)⟩
 |fls=>exact⟨102,_,rfl,.inl (by decide)⟩
 |nul=>exact⟨110,_,rfl,.inl (by decide)⟩
 |ths=>exact⟨116,_,rfl,.inl (by decide)⟩
 |loc h=>rw[Ae];exact low h
 |get h ha ih=>rw[Ae];exact ih.app _
 |call h ha hk hn ih=>rw[Ae];exact ih.app _
 |stat h hu hk hn=>rw[Ae];exact(upp hu).app _
 |new hu=>rw[Ae];exact lp
 |arr hu ha ih=>rw[Ae];exact HdB.app (l:=JY) ⟨110,_,rfl,.inl (by decide)⟩ _
 |elm ha hb ih=>rw[Ae];exact ih.app _
 |len ha ih=>rw[Ae];exact ih.app _
 |neg ha ih=>rw[Ae];exact lp
 |not ha ih=>rw[Ae];exact lp
 |bin ho ha hb=>rw[Ae];exact lp
 |and ha hb=>rw[Ae];exact lp
 |or ha hb=>rw[Ae];exact lp
 |asx hu ha=>rw[Ae];exact lp
 |isx hu ha=>rw[Ae];exact lp
theorem AUn{l:Bs}(h:HdB l):APj (M JC) l=true:=by
 obtain⟨c,t,rfl,h⟩:=h
 show Nv (M JC) c=true
 rcases h with h|rfl
 ·exact AJK rfl h
 ·decide
theorem AEV{α:Type}{f:α->Bs}{g:α->List Tok}{r:Bs}{ts:List Tok}(ho:Out r)(hr:Dq r ts):∀{ks:List α},(∀x∈ks,∀r ts,Out r->Dq r ts->Dq (f x++r) (g x++ts))->Dq (IZ (ks.map f)++r) (MI (ks.map g)++ts)
 |[],_=>hr
 |a::ks,h=>by
  show Dq ((f a++((ks.map f).flatMap λb=>DK++([32]++b)))++r) ((g a++((ks.map g).flatMap λb=>M DK::b))++ts)
  rw[List.append_assoc,List.append_assoc]
  have tl:∀{ks:List α},(∀x∈ks,∀r ts,Out r->Dq r ts->Dq (f x++r) (g x++ts))->Out (((ks.map f).flatMap λb=>DK++([32]++b))++r)/\Dq (((ks.map f).flatMap λb=>DK++([32]++b))++r) (((ks.map g).flatMap λb=>M DK::b)++ts):=by
   intro ks
   induction ks with
   |nil=>intro _;exact⟨ho,hr⟩
   |cons b ks ih=>
    intro h
    obtain⟨h1,h2⟩:=ih λx hx=>h x (List.mem_cons_of_mem _ hx)
    refine⟨AOC (by decide),?_⟩
    simp only[List.map_cons,List.flatMap_cons,List.append_assoc,List.cons_append]
    exact Hy (m:=DK) (by decide) (Em Wp (h b List.mem_cons_self _ _ h1 h2))
  obtain⟨h1,h2⟩:=tl λx hx=>h x (List.mem_cons_of_mem _ hx)
  exact h a List.mem_cons_self _ _ h1 h2
theorem ARN{e:Ex}(h:Wr e):AZa e:=by
 have wl:∀{l:Bs},jI l=true->Wf (L l):=λh=>AOv h
 have out:∀{m:Bs} {r:Bs},(match m with|[]=>false|c::_=> !inner c)=true->Out (m++r):=by
  intro m r h
  cases m with
  |nil=>cases h
  |cons c m=>exact AOC (by simpa using h)
 induction h with
 |num h=>intro r ts ho hr;rw[Ae,CP];exact VN (t:=N (Zj _) _) (.num (ANe _) (wO _ _) (AP3 h)) (by simp[N]) ho hr
 |tru=>intro r ts ho hr;rw[Ae,CP];exact VN (t:=W Yf) (Ig (by decide)) (by simp[W]) ho hr
 |fls=>intro r ts ho hr;rw[Ae,CP];exact VN (t:=W UL) (Ig (by decide)) (by simp[W]) ho hr
 |nul=>intro r ts ho hr;rw[Ae,CP];exact VN (t:=W TT) (Ig (by decide)) (by simp[W]) ho hr
 |ths=>intro r ts ho hr;rw[Ae,CP];exact VN (t:=W YI) (Ig (by decide)) (by simp[W]) ho hr
 |loc h=>intro r ts ho hr;rw[Ae,CP];exact VN (t:=L _) (wl h) (by simp[L]) ho hr
 | @get l a h ha ih=>
  intro r ts ho hr
  rw[Ae,CP]
  show Dq ((textE a++(DX++l))++r) ((tokE a++[M DX,L l])++ts)
  simp only[List.append_assoc,List.cons_append,List.nil_append]
  exact ih _ _ (out (by decide)) (Hy (m:=DX) (by decide) (VN (t:=L l) (wl h) (by simp[L]) ho hr))
 | @call l a ks h ha hk hn ih ihk=>
  intro r ts ho hr
  rw[Ae,CP]
  show Dq ((textE a++(DX++(l++(BJ++(IZ (ks.map textE)++BM)))))++r) ((tokE a++M DX::L l::M BJ::(MI (ks.map tokE)++[M BM]))++ts)
  simp only[List.append_assoc,List.cons_append,List.nil_append]
  exact ih _ _ (out (by decide)) (Hy (m:=DX) (by decide) (VN (t:=L l) (wl h) (by simp[L]) (out (by decide)) (Hy (m:=BJ) (by decide) (AEV (out (by decide)) (Hy (m:=BM) (by decide) hr) ihk))))
 | @stat l u ks h hu hk hn ihk=>
  intro r ts ho hr
  rw[Ae,CP]
  show Dq ((u++(DX++(l++(BJ++(IZ (ks.map textE)++BM)))))++r) ((U u::M DX::L l::M BJ::(MI (ks.map tokE)++[M BM]))++ts)
  simp only[List.append_assoc,List.cons_append,List.nil_append]
  exact VN (t:=U u) (AIv hu) (by simp[U]) (out (by decide)) (Hy (m:=DX) (by decide) (VN (t:=L l) (wl h) (by simp[L]) (out (by decide)) (Hy (m:=BJ) (by decide) (AEV (out (by decide)) (Hy (m:=BM) (by decide) hr) ihk))))
 | @new u hu=>
  intro r ts ho hr
  rw[Ae,CP]
  show Dq ((BJ++(JY++([32]++(u++BM))))++r) ([M BJ,W JY,U u,M BM]++ts)
  simp only[List.append_assoc,List.cons_append,List.nil_append]
  exact Hy (m:=BJ) (by decide) (Tj (t:=W JY) (Ig (by decide)) (VN (t:=U u) (AIv hu) (by simp[U]) (out (by decide)) (Hy (m:=BM) (by decide) hr)))
 | @arr u a hu ha ih=>
  intro r ts ho hr
  rw[Ae,CP]
  show Dq ((JY++([32]++(u++(Ho++(textE a++G8)))))++r) ((W JY::Wn u::M Ho::(tokE a++[M G8]))++ts)
  simp only[List.append_assoc,List.cons_append,List.nil_append]
  have hb:=VN (t:=Wn u) (r:=Ho++(textE a++(G8++r))) (AGs hu) (AE2 u) (out (by decide)) (Hy (m:=Ho) (by decide) (ih _ _ (out (by decide)) (Hy (m:=G8) (by decide) hr)))
  rw[AAt]at hb
  exact Tj (t:=W JY) (Ig (by decide)) hb
 | @elm a b ha hb iha ihb=>
  intro r ts ho hr
  rw[Ae,CP]
  show Dq ((textE a++(Ho++(textE b++G8)))++r) ((tokE a++M Ho::(tokE b++[M G8]))++ts)
  simp only[List.append_assoc,List.cons_append,List.nil_append]
  exact iha _ _ (out (by decide)) (Hy (m:=Ho) (by decide) (ihb _ _ (out (by decide)) (Hy (m:=G8) (by decide) hr)))
 | @len a ha ih=>
  intro r ts ho hr
  rw[Ae,CP]
  show Dq ((textE a++(DX++Ir))++r) ((tokE a++[M DX,W Ir])++ts)
  simp only[List.append_assoc,List.cons_append,List.nil_append]
  exact ih _ _ (out (by decide)) (Hy (m:=DX) (by decide) (VN (t:=W Ir) (Ig (by decide)) (by simp[W]) ho hr))
 | @neg a ha ih=>
  intro r ts ho hr
  rw[Ae,CP]
  show Dq ((BJ++(Dz++(textE a++BM)))++r) ((M BJ::M Dz::(tokE a++[M BM]))++ts)
  simp only[List.append_assoc,List.cons_append,List.nil_append]
  exact Hy (m:=BJ) (by decide) (Hy (m:=Dz) (by decide) (ih _ _ (out (by decide)) (Hy (m:=BM) (by decide) hr)))
 | @not a ha ih=>
  intro r ts ho hr
  rw[Ae,CP]
  show Dq ((BJ++(JC++(textE a++BM)))++r) ((M BJ::M JC::(tokE a++[M BM]))++ts)
  simp only[List.append_assoc,List.cons_append,List.nil_append]
  exact Hy (m:=BJ) (by decide) (ALc (t:=M JC) (.mark (by decide)) (AUn ((AZe ha).app _)) (ih _ _ (out (by decide)) (Hy (m:=BM) (by decide) hr)))
 | @bin o a b ho' ha hb iha ihb=>
  intro r ts ho hr
  rw[Ae,CP]
  show Dq ((BJ++(textE a++([32]++(o++([32]++(textE b++BM))))))++r) ((M BJ::(tokE a++M o::(tokE b++[M BM])))++ts)
  simp only[List.append_assoc,List.cons_append,List.nil_append]
  exact Hy (m:=BJ) (by decide) (iha _ _ (out (m:=[32]) (by decide)) (Em Wp (ADz (AM9 ho') (ihb _ _ (out (by decide)) (Hy (m:=BM) (by decide) hr)))))
 | @and a b ha hb iha ihb=>
  intro r ts ho hr
  rw[Ae,CP]
  show Dq ((BJ++(textE a++([32]++(OZ++([32]++(textE b++BM))))))++r) ((M BJ::(tokE a++M OZ::(tokE b++[M BM])))++ts)
  simp only[List.append_assoc,List.cons_append,List.nil_append]
  exact Hy (m:=BJ) (by decide) (iha _ _ (out (m:=[32]) (by decide)) (Em Wp (ADz (m:=OZ) (by decide) (ihb _ _ (out (by decide)) (Hy (m:=BM) (by decide) hr)))))
 | @or a b ha hb iha ihb=>
  intro r ts ho hr
  rw[Ae,CP]
  show Dq ((BJ++(textE a++([32]++(ZP++([32]++(textE b++BM))))))++r) ((M BJ::(tokE a++M ZP::(tokE b++[M BM])))++ts)
  simp only[List.append_assoc,List.cons_append,List.nil_append]
  exact Hy (m:=BJ) (by decide) (iha _ _ (out (m:=[32]) (by decide)) (Em Wp (ADz (m:=ZP) (by decide) (ihb _ _ (out (by decide)) (Hy (m:=BM) (by decide) hr)))))
 | @asx u a hu ha ih=>
  intro r ts ho hr
  rw[Ae,CP]
  show Dq ((BJ++(textE a++([32]++(UC++([32]++(u++BM))))))++r) ((M BJ::(tokE a++[W UC,U u,M BM]))++ts)
  simp only[List.append_assoc,List.cons_append,List.nil_append]
  exact Hy (m:=BJ) (by decide) (ih _ _ (out (m:=[32]) (by decide)) (Em Wp (Tj (t:=W UC) (Ig (by decide)) (VN (t:=U u) (AIv hu) (by simp[U]) (out (by decide)) (Hy (m:=BM) (by decide) hr)))))
 | @isx u a hu ha ih=>
  intro r ts ho hr
  rw[Ae,CP]
  show Dq ((BJ++(textE a++([32]++(Qv++([32]++(u++BM))))))++r) ((M BJ::(tokE a++[W Qv,U u,M BM]))++ts)
  simp only[List.append_assoc,List.cons_append,List.nil_append]
  exact Hy (m:=BJ) (by decide) (ih _ _ (out (m:=[32]) (by decide)) (Em Wp (Tj (t:=W Qv) (Ig (by decide)) (VN (t:=U u) (AIv hu) (by simp[U]) (out (by decide)) (Hy (m:=BM) (by decide) hr)))))
section
variable{G:AV}{H:Heap}{n:Nat}{k:KV}
theorem AIj{x:Nat}(hG:jY G)(h:x<9223372036854775808)(hk:∀H' n',Kp H n H' n'->k (sB (Zj x)) H' n'):Runs F G Ym [.int .i64 (.ofNat x) 0,.int .i64 (.ofNat 10) 0] H n k:=by
 refine Am (s:=QH (OB lfp G)) RX (by obtain⟨h,o⟩:=rO Ap G;rw[RX]at h;cases h;exact o) ?_
 show OB lfp G (Runs F G) (.int .i64 (.ofNat x) 0) (.int .i64 (.ofNat 10) 0) H n k
 delta OB
 exact AYd hG h hk
end
theorem zM{f:Nat}{nk:Nk}{G:AV}{args:List V}{H:Heap}{n:Nat}{k:KV}(hf:T.get F f=some (.nat nk))(h:oU nk G args H n k):Runs F G f args H n k:=AEW hf (show AG2 (.nat nk) G (Runs F G) args H n k from h)
theorem AFO:∀ls:List Bs,ACH (ls.map λb=>[sB b])=some (ls.map KT)
 |[]=>rfl
 |b::ls=>by
  show(match ACH (ls.map λb=>[sB b])with|some x=>some ((b.length,enc b)::x)|none=>none)=_
  rw[AFO ls];rfl
theorem AN8(ls:List Bs):IZ ls=Lib.join ls [44,32]:=by
 cases ls with
 |nil=>rfl
 |cons a l=>
  rw[Lib.join_cons]
  show a++l.flatMap (λb=>DK++([32]++b))=a++(l.map ([44,32]++ ·)).flatten
  rw[List.flatMap];rfl
theorem AE6:∀ls:List Bs,∀b∈ls,b.length<=(IZ ls).length
 |[],b,h=>by cases h
 |a::l,b,h=>by
  unfold IZ
  rw[List.length_append]
  rcases List.mem_cons.1 h with rfl|h
  ·omega
  ·have:∀l:List Bs,b∈l->b.length<=(l.flatMap λb=>DK++([32]++b)).length:=by
    intro l
    induction l with
    |nil=>intro h;cases h
    |cons c l ih=>
     intro h
     simp only[List.flatMap_cons,List.length_append]
     rcases List.mem_cons.1 h with rfl|h
     ·omega
     ·have:=ih h;omega
   have:=this l h;omega
section
variable{G:AV}{H:Heap}{n:Nat}{k:KV}
theorem AOq{v:V}{ls:List Bs}(hv:El G H v 1 (ls.map λb=>[sB b]))(h1:ls.length<=1000000)(h2:(IZ ls).length<=1000000000000)(hk:k (sB (IZ ls)) H n):Runs F G Zl [v,.str 2 8236] H n k:=by
 refine zM ACa ?_
 show AAV v (.str 2 8236) G H n k
 show Ed (YP (isStr v)) (Hw (elems v G H 1) λLS=>Hw (ACH LS) λss=>Ed (decide (ss.length<=Z4/\(bV (2,8236) ss).1<=Z4)) (k (.str (bV (2,8236) ss).1 (bV (2,8236) ss).2) H n))
 rw[hv.1,hv.2]
 show Hw (ACH (ls.map λb=>[sB b])) (λss=>Ed (decide (ss.length<=Z4/\(bV (2,8236) ss).1<=Z4)) (k (.str (bV (2,8236) ss).1 (bV (2,8236) ss).2) H n))
 rw[AFO]
 show Ed (decide ((ls.map KT).length<=Z4/\(bV (KT [44,32]) (ls.map KT)).1<=Z4)) (k (.str (bV (KT [44,32]) (ls.map KT)).1 (bV (KT [44,32]) (ls.map KT)).2) H n)
 rw[AFZ,<-AN8]
 show Ed (decide ((ls.map KT).length<=Z4/\(IZ ls).length<=Z4)) (k (sB (IZ ls)) H n)
 rw[decide_eq_true (show(ls.map KT).length<=Z4/\(IZ ls).length<=Z4 from⟨by rw[List.length_map];unfold Z4;omega,by unfold Z4;omega⟩)]
 exact hk
theorem AJC{m:Nat}{v:V}{b:Bs}{LS:Du}{P:KV}{Z:LV}(ho:Own G H m n 1 v LS)(hm:m<=n)(hb:(LS.length+1)*16<=140737488355328)
 (hk:∀v' H',Own G H' m (n+2) 1 v' (LS++[[sB b]])->(∀id,id<n->v.QK≠some id->T.get H' id=T.get H id)->(∀id,v'.QK=some id->id=n+1)->P v' H' (n+2)):
 DW (Aj 1 1 Z [(0,.c (sB b))] E0) H n λw H n=>Xg 1 16 v w G H n P:=by
 refine Jq (G:=G) (vs:=[sB b]) rfl (by omega) (λv hv=>by simp at hv;subst hv;exact⟨rfl,rfl⟩) λH6 f6 _ hel=>?_
 have ho6:=ho.kp f6
 refine ACv ho6.gr (by omega) ho6.lo hel.2 hb ?_ (λh=>by cases h)
 intro v' H7 hgr hsame hlo
 refine hk v' H7 ⟨hgr,λid hid=>by have:=hlo id hid;omega⟩ (λid h1 h2=>(hsame id (by omega) h2).trans (f6.same id h1)) hlo
theorem ARa{v:V}{z:Nat}{L:LV}{LS:Du}(h:El G H v z (L::LS))(hv:KS v):∃w,AIL z v E0 (some (.c (.int .i64 (.ofNat 1) 0))) none none=some w/\El G H w z LS/\w.QK=v.QK:=by
 obtain⟨hs,h⟩:=h
 have hd:∀{id o m:Nat},DF H id z m o=some (L::LS)->∃m',m=m'+1/\DF H id z m' (o+1)=some LS:=by
  intro id o m h
  cases m with
  |zero=>cases h
  |succ m=>
   have h3:DJ (lZ H id (Nat.mul o z) z) (λL=>DJ (DF H id z m (Nat.succ o)) λLS=>some (L::LS))=some (L::LS):=h
   rw[Bq]at h3
   obtain⟨L',_,h3⟩:=h3
   rw[Bq]at h3
   obtain⟨LS',h4,h3⟩:=h3
   cases h3
   exact⟨m,rfl,h4⟩
 cases v<;>try (cases h;done)
 ·cases hs
 ·rename_i id o m c e
  cases hb:Nat.beq e z with
  |false=>have h':(Bool.rec (motive:=λ_=>Option Du) none (DF H id z m o) (Nat.beq e z):Option Du)=some (L::LS):=h;rw[hb]at h';cases h'
  |true=>
   have h':(Bool.rec (motive:=λ_=>Option Du) none (DF H id z m o) (Nat.beq e z):Option Du)=some (L::LS):=h
   rw[hb]at h'
   have he:e=z:=Nat.eq_of_beq_eq_true hb
   subst he
   obtain⟨m',rfl,h4⟩:=hd h'
   have hmc:=hv.2.1 _ _ _ _ _ rfl
   refine⟨.sl id (o+1) m' (c-1) e,?_,⟨rfl,?_⟩,rfl⟩
   ·show BN (Nat.beq e e) (BN (band (Nat.ble 1 (m'+1)) (band (Nat.ble (m'+1) c) (Nat.ble c c))) (f3 (o+1) (m'+1-1) (c-1) λo d c=>.sl id o d c e))=_
    rw[Eh,show Nat.ble 1 (m'+1)=true by rw[Nat.ble_eq];omega,show Nat.ble (m'+1) c=true by rw[Nat.ble_eq];omega,show Nat.ble c c=true by rw[Nat.ble_eq];omega]
    show Dv (o+1) (λa=>Dv (m'+1-1) λb=>Dv (c-1) λd=>some (.sl id a b d e))=_
    rw[Bz,Bz,Bz];rfl
   ·show(Bool.rec (motive:=λ_=>Option Du) none (DF H id e m' (o+1)) (Nat.beq e e):Option Du)=some LS
    rw[Eh];exact h4
 ·rename_i id o m e
  cases hb:Nat.beq e z with
  |false=>have h':(Bool.rec (motive:=λ_=>Option Du) none (DF H id z m o) (Nat.beq e z):Option Du)=some (L::LS):=h;rw[hb]at h';cases h'
  |true=>
   have h':(Bool.rec (motive:=λ_=>Option Du) none (DF H id z m o) (Nat.beq e z):Option Du)=some (L::LS):=h
   rw[hb]at h'
   have he:e=z:=Nat.eq_of_beq_eq_true hb
   subst he
   obtain⟨m',rfl,h4⟩:=hd h'
   exact⟨_,AMM,AN4 h4,rfl⟩
 ·exact absurd rfl (hv.2.2 _ _ _ _ _)
def Es(G:AV)(e:Ex):Prop:=∀(H:Heap) (n:Nat) (c:LV) (A:Nat->Prop) (k:KV),EJ G H A c e->(∀id,A id->id<n)->(textE e).length<=100000000000->(∀H' n',Kp H n H' n'->k (sB (textE e)) H' n')->Runs F G UW [.agg c] H n k
theorem Ie{k i:Nat}{X Y:Prop}(h:k≠i)(hp:Y):AP (EX (.one .int) false (.int .i64 (.ofNat k) 0) (.int .i64 (.ofNat i) 0)) (λv=>Ac v true X Y):=by
 rw[YW,Aw,decide_eq_false h,Aq];exact hp
theorem F5{k:Nat}{X Y:Prop}(hp:X):AP (EX (.one .int) false (.int .i64 (.ofNat k) 0) (.int .i64 (.ofNat k) 0)) (λv=>Ac v true X Y):=by
 rw[YW,Aw,decide_eq_true rfl,Ah];exact hp
theorem Yw{kd nu i:Nat}{nm ty:Bs}{ar:Bool}{ks:List Ex}{x:Ex}{c:LV}{A:Nat->Prop}(hc:EJ G H A c (.mk kd nu nm ty ar ks))(hA:∀id,A id->id<n)(hi:ks[i]? =some x)(ht:Es G x)(hl:(textE x).length<=100000000000)
 (hk:∀H' n',Kp H n H' n'->k (sB (textE x)) H' n'):Runs F G Di [.agg c,.int .i64 (.ofNat i) 0] H n k:=by
 refine Am (s:=QH (Vd lfp G)) YX (by obtain⟨h,o⟩:=ACS Ap G;rw[YX]at h;cases h;exact o) ?_
 show Vd lfp G (Runs F G) (.agg c) (.int .i64 (.ofNat i) 0) H n k
 delta Vd
 refine Dh λH1 f1 g1=>?_
 have hc:EJ G H1 A c (.mk kd nu nm ty ar ks):=hc.mono (λ_ h=>h) λid h=>f1.same id (hA id h)
 cases hc with
 |mk _ _ _ _ _ line col he hv ha hcs=>
 rename_i v cs
 obtain⟨hlt,_⟩:=List.getElem?_eq_some_iff.1 hi
 have q7:AX (.ptr n 7) G H1=some v:=AQ g1 rfl
 obtain⟨cx,hcx,hx⟩:=hcs.at hi
 obtain⟨p,hp,hld⟩:=he.at hcx
 refine AB (v:=.ptr n 7) (by rw[Aa,Nat.zero_add]) (AB q7 (AB he.len (AB (ES ..) ?_)))
 rw[hcs.len,decide_eq_true hlt,Ah]
 refine AB (v:=.ptr n 7) (by rw[Aa,Nat.zero_add]) (AB q7 (AB hp (AB (Jz hld) ?_)))
 exact ht H1 (n+1) cx A _ hx (λid h=>by have:=hA id h;omega) hl λH' n' f=>hk _ _ (f1.trans f)
theorem AVG{kd nu:Nat}{nm ty:Bs}{ar:Bool}{x:Ex}{ks:List Ex}{c:LV}{A:Nat->Prop}(hc:EJ G H A c (.mk kd nu nm ty ar (x::ks)))(hA:∀id,A id->id<n)
 (hk:∀H' n' w cs,Kp H n H' n'->El G H' w 11 cs->(∀id,w.QK=some id->A id)->Ou G H' A cs ks->k w H' n'):Runs F G lU [.agg c] H n k:=by
 refine Am (s:=Gx (UN lfp G)) Ws (by obtain⟨h,o⟩:=AAv Ap G;rw[Ws]at h;cases h;exact o) ?_
 show UN lfp G (Runs F G) (.agg c) H n k
 delta UN
 refine Dh λH1 f1 g1=>?_
 have hc:EJ G H1 A c (.mk kd nu nm ty ar (x::ks)):=hc.mono (λ_ h=>h) λid h=>f1.same id (hA id h)
 cases hc with
 |mk _ _ _ _ _ line col he hv ha hcs=>
 rename_i v cs
 cases hcs with
 |cons hx hcs=>
 have q7:AX (.ptr n 7) G H1=some v:=AQ g1 rfl
 obtain⟨w,hw,hel,hsid⟩:=ARa he hv
 refine AB (v:=.ptr n 7) (by rw[Aa,Nat.zero_add]) (AB q7 (AB (v:=.ptr n 7) (by rw[Aa,Nat.zero_add]) (AB q7 (AB he.len (AB (v:=.int .i64 (.ofNat 1) 0) ?_ (AB hw ?_))))))
 ·rw[List.length_cons];rfl
 ·exact hk _ _ _ _ f1 hel (λid hid=>ha id (hsid▸hid)) hcs
theorem APN{v:V}{cs:Du}{ks:List Ex}{A:Nat->Prop}(hv:El G H v 11 cs)(hva:∀id,v.QK=some id->A id)(hc:Ou G H A cs ks)(hA:∀id,A id->id<n)(ht:∀x∈ks,Es G x)(hn:ks.length<=1000000)(hl:(IZ (ks.map textE)).length<=100000000000)
 (hk:∀H' n',Kp H n H' n'->k (sB (IZ (ks.map textE))) H' n'):Runs F G vK [v] H n k:=by
 refine Am (s:=Gx (jv lfp G)) oV (by obtain⟨h,o⟩:=AIA Ap G;rw[oV]at h;cases h;exact o) ?_
 show jv lfp G (Runs F G) v H n k
 delta jv
 refine AB hv.len ?_
 rw[hc.len]
 refine ER (N:=ks.length) (J:=λj q=>∃w H' n',q=(w,v,.int .i64 (.ofNat ks.length) 0,.int .i64 (.ofNat j) 0,H',n')/\Kp H n H' n'/\Own G H' n n' 1 w ((ks.take j).map λe=>[sB (textE e)])) ?_ ?_ ⟨.Ad,H,n,rfl,Kp.refl ..,XW⟩
 ·rintro I j q hlt ⟨w,H1,n1,rfl,f1,ho⟩ ih
  show Tt lfp G (Runs F G) k I w v (.int .i64 (.ofNat ks.length) 0) (.int .i64 (.ofNat j) 0) H1 n1
  delta Tt
  have hn1:=f1.le
  have hv1:El G H1 v 11 cs:=hv.kp (λid hid=>hA id (hva id hid)) f1
  have hc1:Ou G H1 A cs ks:=hc.mono (λ_ h=>h) λid h=>f1.same id (hA id h)
  obtain⟨cx,hcx,hx⟩:=hc1.at (List.getElem?_eq_getElem hlt)
  have htx:=ht _ (List.getElem_mem hlt)
  have hlx:(textE ks[j]).length<=(IZ (ks.map textE)).length:=AE6 _ _ (List.mem_map_of_mem (List.getElem_mem hlt))
  obtain⟨p,hp,hld⟩:=hv1.at hcx
  rw[ES,Aw,decide_eq_true hlt,Ah]
  refine AB hp (AB (Jz hld) ?_)
  refine Az rfl λH2 f2 g2=>?_
  refine CB g2 rfl hx.len (by omega) λH3 g2 t3=>?_
  have f3:Kp H1 n1 H3 (n1+1):=⟨f2.le,λid hid=>(t3 id (by omega)).trans (f2.same id hid)⟩
  refine AB (Ai (m:=11) g2 (by omega) hx.len) ?_
  have hx:EJ G H3 A cx ks[j]:=hx.mono (λ_ h=>h) λid h=>f3.same id (by have:=hA id h;omega)
  refine htx H3 (n1+1) cx A _ hx (λid h=>by have:=hA id h;omega) (by omega) λH4 n4 f4=>?_
  have f4:=f3.trans f4
  have ho4:=ho.kp f4
  have hn4:=f4.le
  refine AJC ho4 (by omega) (by rw[List.length_map,List.length_take];omega) λv' H5 ho5 hs5 _=>?_
  refine AB (Ee (by omega)) ?_
  refine ih _ ⟨v',H5,n4+2,rfl,⟨by omega,λid hid=>(hs5 id (by omega) (λe=>by have:=ho4.ge e;omega)).trans ((f4.same id (by omega)).trans (f1.same id hid))⟩,?_⟩
  rw[List.take_succ_eq_append_getElem hlt,List.map_append]
  exact ho5
 ·rintro I q ⟨w,H1,n1,rfl,f1,ho⟩
  show Tt lfp G (Runs F G) k I w v (.int .i64 (.ofNat ks.length) 0) (.int .i64 (.ofNat ks.length) 0) H1 n1
  delta Tt
  rw[ES,Aw,decide_eq_false (Nat.lt_irrefl _),Aq]
  show XQ lfp G (Runs F G) k w H1 n1
  delta XQ
  rw[List.take_length]at ho
  have hel:El G H1 w 1 ((ks.map textE).map λb=>[sB b]):=by rw[List.map_map];exact ho.el (by omega)
  exact AOq hel (by rw[List.length_map];exact hn) (by omega) (hk _ _ f1)
end
theorem EJ.inv{G:AV}{H:Heap}{A:Nat->Prop}{c:LV}{kd nu:Nat}{nm ty:Bs}{ar:Bool}{ks:List Ex}(h:EJ G H A c (.mk kd nu nm ty ar ks)):
 ∃line col v cs,c=TJ kd nu nm ty ar line col v/\El G H v 11 cs/\KS v/\(∀id,v.QK=some id->A id)/\Ou G H A cs ks:=by
 cases h with
 |mk _ _ _ _ _ line col he hv ha hc=>exact⟨line,col,_,_,rfl,he,hv,ha,hc⟩
section
variable{G:AV}
theorem AXD(hG:jY G){m:Nat}(hm:m<=288230376151711744):Es G (.mk 1 m [] [] false []):=by
 intro H n c A k hx0 hA0 hl hk
 have e0:textE (.mk 1 m [] [] false [])=Zj m:=by rw[Ae];rfl
 rw[e0]at hl hk
 try simp only[List.length_append]at hl
 obtain⟨line,col,v,cs,rfl,hel,hks,hva,hcs⟩:=hx0.inv
 refine Am (s:=Gx (AZ lfp G)) Af (by obtain⟨h,o⟩:=Bv Ap G;rw[Af]at h;cases h;exact o) ?_
 show AZ lfp G (Runs F G) (.agg (TJ 1 m [] [] false line col v)) H n k
 delta AZ
 refine Dh λH1 f1 g1=>?_
 have hx1:=hx0.mono (λ_ h=>h) λid h=>f1.same id (hA0 id h)
 have hA1:∀id,A id->id<n+1:=λid h=>by have:=hA0 id h;omega
 refine AB (Aa ..) (AB (AQ g1 rfl) ?_)
 repeat refine Ie (by decide) ?_
 refine F5 ?_
 refine AB (Aa ..) (AB (AQ g1 rfl) ?_)
 refine AIj hG (by omega) λH2 n2 f2=>?_
 have hn2:=f2.le
 have g2:=f2.get g1 (by omega)
 have f2:=f1.trans f2
 have hx2:=hx0.mono (λ_ h=>h) λid h=>f2.same id (hA0 id h)
 have hA2:∀id,A id->id<n2:=λid h=>by have:=hA0 id h;omega
 have hk:=hk _ _ f2
 try simp only[List.append_assoc]at hk
 try simp only[List.append_assoc]
 exact hk
theorem AV6:Es G (.mk 2 0 [] [] false []):=by
 intro H n c A k hx0 hA0 hl hk
 have e0:textE (.mk 2 0 [] [] false [])=Yf:=by rw[Ae];rfl
 rw[e0]at hl hk
 try simp only[List.length_append]at hl
 obtain⟨line,col,v,cs,rfl,hel,hks,hva,hcs⟩:=hx0.inv
 refine Am (s:=Gx (AZ lfp G)) Af (by obtain⟨h,o⟩:=Bv Ap G;rw[Af]at h;cases h;exact o) ?_
 show AZ lfp G (Runs F G) (.agg (TJ 2 0 [] [] false line col v)) H n k
 delta AZ
 refine Dh λH1 f1 g1=>?_
 have hx1:=hx0.mono (λ_ h=>h) λid h=>f1.same id (hA0 id h)
 have hA1:∀id,A id->id<n+1:=λid h=>by have:=hA0 id h;omega
 refine AB (Aa ..) (AB (AQ g1 rfl) ?_)
 repeat refine Ie (by decide) ?_
 refine F5 ?_
 have hk:=hk _ _ f1
 try simp only[List.append_assoc]at hk
 try simp only[List.append_assoc]
 exact hk
theorem AXJ:Es G (.mk 3 0 [] [] false []):=by
 intro H n c A k hx0 hA0 hl hk
 have e0:textE (.mk 3 0 [] [] false [])=UL:=by rw[Ae];rfl
 rw[e0]at hl hk
 try simp only[List.length_append]at hl
 obtain⟨line,col,v,cs,rfl,hel,hks,hva,hcs⟩:=hx0.inv
 refine Am (s:=Gx (AZ lfp G)) Af (by obtain⟨h,o⟩:=Bv Ap G;rw[Af]at h;cases h;exact o) ?_
 show AZ lfp G (Runs F G) (.agg (TJ 3 0 [] [] false line col v)) H n k
 delta AZ
 refine Dh λH1 f1 g1=>?_
 have hx1:=hx0.mono (λ_ h=>h) λid h=>f1.same id (hA0 id h)
 have hA1:∀id,A id->id<n+1:=λid h=>by have:=hA0 id h;omega
 refine AB (Aa ..) (AB (AQ g1 rfl) ?_)
 repeat refine Ie (by decide) ?_
 refine F5 ?_
 have hk:=hk _ _ f1
 try simp only[List.append_assoc]at hk
 try simp only[List.append_assoc]
 exact hk
theorem AVw:Es G (.mk 4 0 [] [] false []):=by
 intro H n c A k hx0 hA0 hl hk
 have e0:textE (.mk 4 0 [] [] false [])=TT:=by rw[Ae];rfl
 rw[e0]at hl hk
 try simp only[List.length_append]at hl
 obtain⟨line,col,v,cs,rfl,hel,hks,hva,hcs⟩:=hx0.inv
 refine Am (s:=Gx (AZ lfp G)) Af (by obtain⟨h,o⟩:=Bv Ap G;rw[Af]at h;cases h;exact o) ?_
 show AZ lfp G (Runs F G) (.agg (TJ 4 0 [] [] false line col v)) H n k
 delta AZ
 refine Dh λH1 f1 g1=>?_
 have hx1:=hx0.mono (λ_ h=>h) λid h=>f1.same id (hA0 id h)
 have hA1:∀id,A id->id<n+1:=λid h=>by have:=hA0 id h;omega
 refine AB (Aa ..) (AB (AQ g1 rfl) ?_)
 repeat refine Ie (by decide) ?_
 have hk:=hk _ _ f1
 try simp only[List.append_assoc]at hk
 try simp only[List.append_assoc]
 exact hk
theorem AWA:Es G (.mk 5 0 [] [] false []):=by
 intro H n c A k hx0 hA0 hl hk
 have e0:textE (.mk 5 0 [] [] false [])=YI:=by rw[Ae];rfl
 rw[e0]at hl hk
 try simp only[List.length_append]at hl
 obtain⟨line,col,v,cs,rfl,hel,hks,hva,hcs⟩:=hx0.inv
 refine Am (s:=Gx (AZ lfp G)) Af (by obtain⟨h,o⟩:=Bv Ap G;rw[Af]at h;cases h;exact o) ?_
 show AZ lfp G (Runs F G) (.agg (TJ 5 0 [] [] false line col v)) H n k
 delta AZ
 refine Dh λH1 f1 g1=>?_
 have hx1:=hx0.mono (λ_ h=>h) λid h=>f1.same id (hA0 id h)
 have hA1:∀id,A id->id<n+1:=λid h=>by have:=hA0 id h;omega
 refine AB (Aa ..) (AB (AQ g1 rfl) ?_)
 repeat refine Ie (by decide) ?_
 refine F5 ?_
 have hk:=hk _ _ f1
 try simp only[List.append_assoc]at hk
 try simp only[List.append_assoc]
 exact hk
theorem AUT{l:Bs}:Es G (.mk 6 0 l [] false []):=by
 intro H n c A k hx0 hA0 hl hk
 have e0:textE (.mk 6 0 l [] false [])=l:=by rw[Ae];rfl
 rw[e0]at hl hk
 try simp only[List.length_append]at hl
 obtain⟨line,col,v,cs,rfl,hel,hks,hva,hcs⟩:=hx0.inv
 refine Am (s:=Gx (AZ lfp G)) Af (by obtain⟨h,o⟩:=Bv Ap G;rw[Af]at h;cases h;exact o) ?_
 show AZ lfp G (Runs F G) (.agg (TJ 6 0 l [] false line col v)) H n k
 delta AZ
 refine Dh λH1 f1 g1=>?_
 have hx1:=hx0.mono (λ_ h=>h) λid h=>f1.same id (hA0 id h)
 have hA1:∀id,A id->id<n+1:=λid h=>by have:=hA0 id h;omega
 refine AB (Aa ..) (AB (AQ g1 rfl) ?_)
 repeat refine Ie (by decide) ?_
 refine F5 ?_
 refine AB (Aa ..) (AB (AQ g1 rfl) ?_)
 have hk:=hk _ _ f1
 try simp only[List.append_assoc]at hk
 try simp only[List.append_assoc]
 exact hk
theorem AVi{l:Bs}{a:Ex}(iha:Es G a):Es G (.mk 7 0 l [] false [a]):=by
 intro H n c A k hx0 hA0 hl hk
 have e0:textE (.mk 7 0 l [] false [a])=textE a++(DX++l):=by rw[Ae];rfl
 rw[e0]at hl hk
 try simp only[List.length_append]at hl
 obtain⟨line,col,v,cs,rfl,hel,hks,hva,hcs⟩:=hx0.inv
 refine Am (s:=Gx (AZ lfp G)) Af (by obtain⟨h,o⟩:=Bv Ap G;rw[Af]at h;cases h;exact o) ?_
 show AZ lfp G (Runs F G) (.agg (TJ 7 0 l [] false line col v)) H n k
 delta AZ
 refine Dh λH1 f1 g1=>?_
 have hx1:=hx0.mono (λ_ h=>h) λid h=>f1.same id (hA0 id h)
 have hA1:∀id,A id->id<n+1:=λid h=>by have:=hA0 id h;omega
 refine AB (Aa ..) (AB (AQ g1 rfl) ?_)
 repeat refine Ie (by decide) ?_
 refine F5 ?_
 refine AB (Ai (m:=11) g1 (by omega) rfl) ?_
 refine AB (Aa ..) (AB (AQ g1 rfl) ?_)
 refine Yw (i:=0) hx1 hA1 rfl iha (by omega) λH2 n2 f2=>?_
 have hn2:=f2.le
 have g2:=f2.get g1 (by omega)
 have f2:=f1.trans f2
 have hx2:=hx0.mono (λ_ h=>h) λid h=>f2.same id (hA0 id h)
 have hA2:∀id,A id->id<n2:=λid h=>by have:=hA0 id h;omega
 refine AB (AQ g2 rfl) (Cc (Uy _) ?_)
 refine AB (BZ (a:=textE a) (b:=DX) (by first|omega|(simp only[List.length_append];omega))) ?_
 refine AB (BZ (a:=textE a++DX) (b:=l) (by first|omega|(simp only[List.length_append];omega))) ?_
 have hk:=hk _ _ f2
 try simp only[List.append_assoc]at hk
 try simp only[List.append_assoc]
 exact hk
theorem ARt{l:Bs}{a:Ex}(iha:Es G a){ks:List Ex}(ihk:∀x∈ks,Es G x)(hn:ks.length<=200):Es G (.mk 8 0 l [] false (a::ks)):=by
 intro H n c A k hx0 hA0 hl hk
 have e0:textE (.mk 8 0 l [] false (a::ks))=textE a++(DX++(l++(BJ++(IZ (ks.map textE)++BM)))):=by rw[Ae];rfl
 rw[e0]at hl hk
 try simp only[List.length_append]at hl
 obtain⟨line,col,v,cs,rfl,hel,hks,hva,hcs⟩:=hx0.inv
 refine Am (s:=Gx (AZ lfp G)) Af (by obtain⟨h,o⟩:=Bv Ap G;rw[Af]at h;cases h;exact o) ?_
 show AZ lfp G (Runs F G) (.agg (TJ 8 0 l [] false line col v)) H n k
 delta AZ
 refine Dh λH1 f1 g1=>?_
 have hx1:=hx0.mono (λ_ h=>h) λid h=>f1.same id (hA0 id h)
 have hA1:∀id,A id->id<n+1:=λid h=>by have:=hA0 id h;omega
 refine AB (Aa ..) (AB (AQ g1 rfl) ?_)
 repeat refine Ie (by decide) ?_
 refine F5 ?_
 refine AB (Ai (m:=11) g1 (by omega) rfl) ?_
 refine AB (Aa ..) (AB (AQ g1 rfl) ?_)
 refine AB (Ai (m:=11) g1 (by omega) rfl) ?_
 refine Yw (i:=0) hx1 hA1 rfl iha (by omega) λH2 n2 f2=>?_
 have hn2:=f2.le
 have g2:=f2.get g1 (by omega)
 have f2:=f1.trans f2
 have hx2:=hx0.mono (λ_ h=>h) λid h=>f2.same id (hA0 id h)
 have hA2:∀id,A id->id<n2:=λid h=>by have:=hA0 id h;omega
 refine AB (AQ g2 rfl) (Cc (Uy _) ?_)
 refine AB (Ai (m:=11) g2 (by omega) rfl) (Cc hx2.vs ?_)
 refine AB (BZ (a:=textE a) (b:=DX) (by first|omega|(simp only[List.length_append];omega))) ?_
 refine AB (BZ (a:=textE a++DX) (b:=l) (by first|omega|(simp only[List.length_append];omega))) ?_
 refine AB (BZ (a:=(textE a++DX)++l) (b:=BJ) (by first|omega|(simp only[List.length_append];omega))) ?_
 refine AVG hx2 hA2 λH3 n3 w cs' f3 helw hsw hcsw=>?_
 have hn3:=f3.le
 have g3:=f3.get g2 (by omega)
 have f3:=f2.trans f3
 have hx3:=hx0.mono (λ_ h=>h) λid h=>f3.same id (hA0 id h)
 have hA3:∀id,A id->id<n3:=λid h=>by have:=hA0 id h;omega
 refine AB (AQ g3 rfl) (Cc (Uy _) ?_)
 refine APN helw hsw hcsw hA3 ihk (by omega) (by omega) λH4 n4 f4=>?_
 have hn4:=f4.le
 have g4:=f4.get g3 (by omega)
 have f4:=f3.trans f4
 have hx4:=hx0.mono (λ_ h=>h) λid h=>f4.same id (hA0 id h)
 have hA4:∀id,A id->id<n4:=λid h=>by have:=hA0 id h;omega
 refine AB (AQ g4 rfl) (Cc (Uy _) ?_)
 refine AB (BZ (a:=((textE a++DX)++l)++BJ) (b:=IZ (ks.map textE)) (by first|omega|(simp only[List.length_append];omega))) ?_
 refine AB (BZ (a:=(((textE a++DX)++l)++BJ)++IZ (ks.map textE)) (b:=BM) (by first|omega|(simp only[List.length_append];omega))) ?_
 have hk:=hk _ _ f4
 try simp only[List.append_assoc]at hk
 try simp only[List.append_assoc]
 exact hk
theorem ATA{l u:Bs}{ks:List Ex}(ihk:∀x∈ks,Es G x)(hn:ks.length<=200):Es G (.mk 9 0 l u false ks):=by
 intro H n c A k hx0 hA0 hl hk
 have e0:textE (.mk 9 0 l u false ks)=u++(DX++(l++(BJ++(IZ (ks.map textE)++BM)))):=by rw[Ae];rfl
 rw[e0]at hl hk
 try simp only[List.length_append]at hl
 obtain⟨line,col,v,cs,rfl,hel,hks,hva,hcs⟩:=hx0.inv
 refine Am (s:=Gx (AZ lfp G)) Af (by obtain⟨h,o⟩:=Bv Ap G;rw[Af]at h;cases h;exact o) ?_
 show AZ lfp G (Runs F G) (.agg (TJ 9 0 l u false line col v)) H n k
 delta AZ
 refine Dh λH1 f1 g1=>?_
 have hx1:=hx0.mono (λ_ h=>h) λid h=>f1.same id (hA0 id h)
 have hA1:∀id,A id->id<n+1:=λid h=>by have:=hA0 id h;omega
 refine AB (Aa ..) (AB (AQ g1 rfl) ?_)
 repeat refine Ie (by decide) ?_
 refine F5 ?_
 refine AB (Aa ..) (AB (Aa ..) (AB (AQ g1 rfl) ?_))
 refine AB (BZ (a:=u) (b:=DX) (by first|omega|(simp only[List.length_append];omega))) ?_
 refine AB (Aa ..) (AB (AQ g1 rfl) ?_)
 refine AB (BZ (a:=u++DX) (b:=l) (by first|omega|(simp only[List.length_append];omega))) ?_
 refine AB (BZ (a:=(u++DX)++l) (b:=BJ) (by first|omega|(simp only[List.length_append];omega))) ?_
 refine AB (Aa ..) (AB (AQ g1 rfl) ?_)
 refine APN (hel.same λid hid=>f1.same id (hA0 id (hva id hid))) hva (hcs.mono (λ_ h=>h) λid h=>f1.same id (hA0 id h)) hA1 ihk (by omega) (by omega) λH2 n2 f2=>?_
 have hn2:=f2.le
 have g2:=f2.get g1 (by omega)
 have f2:=f1.trans f2
 have hx2:=hx0.mono (λ_ h=>h) λid h=>f2.same id (hA0 id h)
 have hA2:∀id,A id->id<n2:=λid h=>by have:=hA0 id h;omega
 refine AB (AQ g2 rfl) (Cc (Uy _) ?_)
 refine AB (AQ g2 rfl) (Cc (Uy _) ?_)
 refine AB (BZ (a:=((u++DX)++l)++BJ) (b:=IZ (ks.map textE)) (by first|omega|(simp only[List.length_append];omega))) ?_
 refine AB (BZ (a:=(((u++DX)++l)++BJ)++IZ (ks.map textE)) (b:=BM) (by first|omega|(simp only[List.length_append];omega))) ?_
 have hk:=hk _ _ f2
 try simp only[List.append_assoc]at hk
 try simp only[List.append_assoc]
 exact hk
theorem AVF{u:Bs}:Es G (.mk 10 0 [] u false []):=by
 intro H n c A k hx0 hA0 hl hk
 have e0:textE (.mk 10 0 [] u false [])=BJ++(JY++([32]++(u++BM))):=by rw[Ae];rfl
 rw[e0]at hl hk
 try simp only[List.length_append]at hl
 obtain⟨line,col,v,cs,rfl,hel,hks,hva,hcs⟩:=hx0.inv
 refine Am (s:=Gx (AZ lfp G)) Af (by obtain⟨h,o⟩:=Bv Ap G;rw[Af]at h;cases h;exact o) ?_
 show AZ lfp G (Runs F G) (.agg (TJ 10 0 [] u false line col v)) H n k
 delta AZ
 refine Dh λH1 f1 g1=>?_
 have hx1:=hx0.mono (λ_ h=>h) λid h=>f1.same id (hA0 id h)
 have hA1:∀id,A id->id<n+1:=λid h=>by have:=hA0 id h;omega
 refine AB (Aa ..) (AB (AQ g1 rfl) ?_)
 repeat refine Ie (by decide) ?_
 refine F5 ?_
 refine AB (Aa ..) (AB (Aa ..) (AB (AQ g1 rfl) ?_))
 rw[show V.str 5 139442089512=sB (BJ++(JY++[32]))from rfl]
 refine AB (BZ (a:=BJ++(JY++[32])) (b:=u) (by first|omega|(simp only[List.length_append];omega))) ?_
 refine AB (BZ (a:=(BJ++(JY++[32]))++u) (b:=BM) (by first|omega|(simp only[List.length_append];omega))) ?_
 have hk:=hk _ _ f1
 try simp only[List.append_assoc]at hk
 try simp only[List.append_assoc]
 exact hk
theorem AXF{u:Bs}{a:Ex}(iha:Es G a):Es G (.mk 11 0 [] u false [a]):=by
 intro H n c A k hx0 hA0 hl hk
 have e0:textE (.mk 11 0 [] u false [a])=JY++([32]++(u++(Ho++(textE a++G8)))):=by rw[Ae];rfl
 rw[e0]at hl hk
 try simp only[List.length_append]at hl
 obtain⟨line,col,v,cs,rfl,hel,hks,hva,hcs⟩:=hx0.inv
 refine Am (s:=Gx (AZ lfp G)) Af (by obtain⟨h,o⟩:=Bv Ap G;rw[Af]at h;cases h;exact o) ?_
 show AZ lfp G (Runs F G) (.agg (TJ 11 0 [] u false line col v)) H n k
 delta AZ
 refine Dh λH1 f1 g1=>?_
 have hx1:=hx0.mono (λ_ h=>h) λid h=>f1.same id (hA0 id h)
 have hA1:∀id,A id->id<n+1:=λid h=>by have:=hA0 id h;omega
 refine AB (Aa ..) (AB (AQ g1 rfl) ?_)
 repeat refine Ie (by decide) ?_
 refine F5 ?_
 refine AB (Aa ..) (AB (Aa ..) (AB (AQ g1 rfl) ?_))
 rw[show V.str 4 544695662=sB (JY++[32])from rfl]
 refine AB (BZ (a:=JY++[32]) (b:=u) (by first|omega|(simp only[List.length_append];omega))) ?_
 refine AB (BZ (a:=(JY++[32])++u) (b:=Ho) (by first|omega|(simp only[List.length_append];omega))) ?_
 refine AB (Ai (m:=11) g1 (by omega) rfl) ?_
 refine Yw (i:=0) hx1 hA1 rfl iha (by omega) λH2 n2 f2=>?_
 have hn2:=f2.le
 have g2:=f2.get g1 (by omega)
 have f2:=f1.trans f2
 have hx2:=hx0.mono (λ_ h=>h) λid h=>f2.same id (hA0 id h)
 have hA2:∀id,A id->id<n2:=λid h=>by have:=hA0 id h;omega
 refine AB (AQ g2 rfl) (Cc (Uy _) ?_)
 refine AB (BZ (a:=((JY++[32])++u)++Ho) (b:=textE a) (by first|omega|(simp only[List.length_append];omega))) ?_
 refine AB (BZ (a:=(((JY++[32])++u)++Ho)++textE a) (b:=G8) (by first|omega|(simp only[List.length_append];omega))) ?_
 have hk:=hk _ _ f2
 try simp only[List.append_assoc]at hk
 try simp only[List.append_assoc]
 exact hk
theorem AW6{a b:Ex}(iha:Es G a)(ihb:Es G b):Es G (.mk 12 0 [] [] false [a,b]):=by
 intro H n c A k hx0 hA0 hl hk
 have e0:textE (.mk 12 0 [] [] false [a,b])=textE a++(Ho++(textE b++G8)):=by rw[Ae];rfl
 rw[e0]at hl hk
 try simp only[List.length_append]at hl
 obtain⟨line,col,v,cs,rfl,hel,hks,hva,hcs⟩:=hx0.inv
 refine Am (s:=Gx (AZ lfp G)) Af (by obtain⟨h,o⟩:=Bv Ap G;rw[Af]at h;cases h;exact o) ?_
 show AZ lfp G (Runs F G) (.agg (TJ 12 0 [] [] false line col v)) H n k
 delta AZ
 refine Dh λH1 f1 g1=>?_
 have hx1:=hx0.mono (λ_ h=>h) λid h=>f1.same id (hA0 id h)
 have hA1:∀id,A id->id<n+1:=λid h=>by have:=hA0 id h;omega
 refine AB (Aa ..) (AB (AQ g1 rfl) ?_)
 repeat refine Ie (by decide) ?_
 refine F5 ?_
 refine AB (Ai (m:=11) g1 (by omega) rfl) ?_
 refine AB (Ai (m:=11) g1 (by omega) rfl) ?_
 refine Yw (i:=0) hx1 hA1 rfl iha (by omega) λH2 n2 f2=>?_
 have hn2:=f2.le
 have g2:=f2.get g1 (by omega)
 have f2:=f1.trans f2
 have hx2:=hx0.mono (λ_ h=>h) λid h=>f2.same id (hA0 id h)
 have hA2:∀id,A id->id<n2:=λid h=>by have:=hA0 id h;omega
 refine AB (Ai (m:=11) g2 (by omega) rfl) (Cc hx2.vs ?_)
 refine AB (BZ (a:=textE a) (b:=Ho) (by first|omega|(simp only[List.length_append];omega))) ?_
 refine Yw (i:=1) hx2 hA2 rfl ihb (by omega) λH3 n3 f3=>?_
 have hn3:=f3.le
 have g3:=f3.get g2 (by omega)
 have f3:=f2.trans f3
 have hx3:=hx0.mono (λ_ h=>h) λid h=>f3.same id (hA0 id h)
 have hA3:∀id,A id->id<n3:=λid h=>by have:=hA0 id h;omega
 refine AB (BZ (a:=textE a++Ho) (b:=textE b) (by first|omega|(simp only[List.length_append];omega))) ?_
 refine AB (BZ (a:=(textE a++Ho)++textE b) (b:=G8) (by first|omega|(simp only[List.length_append];omega))) ?_
 have hk:=hk _ _ f3
 try simp only[List.append_assoc]at hk
 try simp only[List.append_assoc]
 exact hk
theorem AWC{a:Ex}(iha:Es G a):Es G (.mk 13 0 [] [] false [a]):=by
 intro H n c A k hx0 hA0 hl hk
 have e0:textE (.mk 13 0 [] [] false [a])=textE a++(DX++Ir):=by rw[Ae];rfl
 rw[e0]at hl hk
 try simp only[List.length_append]at hl
 obtain⟨line,col,v,cs,rfl,hel,hks,hva,hcs⟩:=hx0.inv
 refine Am (s:=Gx (AZ lfp G)) Af (by obtain⟨h,o⟩:=Bv Ap G;rw[Af]at h;cases h;exact o) ?_
 show AZ lfp G (Runs F G) (.agg (TJ 13 0 [] [] false line col v)) H n k
 delta AZ
 refine Dh λH1 f1 g1=>?_
 have hx1:=hx0.mono (λ_ h=>h) λid h=>f1.same id (hA0 id h)
 have hA1:∀id,A id->id<n+1:=λid h=>by have:=hA0 id h;omega
 refine AB (Aa ..) (AB (AQ g1 rfl) ?_)
 repeat refine Ie (by decide) ?_
 refine F5 ?_
 refine AB (Ai (m:=11) g1 (by omega) rfl) ?_
 refine Yw (i:=0) hx1 hA1 rfl iha (by omega) λH2 n2 f2=>?_
 have hn2:=f2.le
 have g2:=f2.get g1 (by omega)
 have f2:=f1.trans f2
 have hx2:=hx0.mono (λ_ h=>h) λid h=>f2.same id (hA0 id h)
 have hA2:∀id,A id->id<n2:=λid h=>by have:=hA0 id h;omega
 rw[show V.str 7 29401385160502318=sB (DX++Ir)from rfl]
 refine AB (BZ (a:=textE a) (b:=DX++Ir) (by first|omega|(simp only[List.length_append];omega))) ?_
 have hk:=hk _ _ f2
 try simp only[List.append_assoc]at hk
 try simp only[List.append_assoc]
 exact hk
theorem AVT{a:Ex}(iha:Es G a):Es G (.mk 14 0 [] [] false [a]):=by
 intro H n c A k hx0 hA0 hl hk
 have e0:textE (.mk 14 0 [] [] false [a])=BJ++(Dz++(textE a++BM)):=by rw[Ae];rfl
 rw[e0]at hl hk
 try simp only[List.length_append]at hl
 obtain⟨line,col,v,cs,rfl,hel,hks,hva,hcs⟩:=hx0.inv
 refine Am (s:=Gx (AZ lfp G)) Af (by obtain⟨h,o⟩:=Bv Ap G;rw[Af]at h;cases h;exact o) ?_
 show AZ lfp G (Runs F G) (.agg (TJ 14 0 [] [] false line col v)) H n k
 delta AZ
 refine Dh λH1 f1 g1=>?_
 have hx1:=hx0.mono (λ_ h=>h) λid h=>f1.same id (hA0 id h)
 have hA1:∀id,A id->id<n+1:=λid h=>by have:=hA0 id h;omega
 refine AB (Aa ..) (AB (AQ g1 rfl) ?_)
 repeat refine Ie (by decide) ?_
 refine F5 ?_
 refine AB (Ai (m:=11) g1 (by omega) rfl) ?_
 refine Yw (i:=0) hx1 hA1 rfl iha (by omega) λH2 n2 f2=>?_
 have hn2:=f2.le
 have g2:=f2.get g1 (by omega)
 have f2:=f1.trans f2
 have hx2:=hx0.mono (λ_ h=>h) λid h=>f2.same id (hA0 id h)
 have hA2:∀id,A id->id<n2:=λid h=>by have:=hA0 id h;omega
 refine AB (BZ (a:=BJ++Dz) (b:=textE a) (by first|omega|(simp only[List.length_append];omega))) ?_
 refine AB (BZ (a:=(BJ++Dz)++textE a) (b:=BM) (by first|omega|(simp only[List.length_append];omega))) ?_
 have hk:=hk _ _ f2
 try simp only[List.append_assoc]at hk
 try simp only[List.append_assoc]
 exact hk
theorem AVg{a:Ex}(iha:Es G a):Es G (.mk 15 0 [] [] false [a]):=by
 intro H n c A k hx0 hA0 hl hk
 have e0:textE (.mk 15 0 [] [] false [a])=BJ++(JC++(textE a++BM)):=by rw[Ae];rfl
 rw[e0]at hl hk
 try simp only[List.length_append]at hl
 obtain⟨line,col,v,cs,rfl,hel,hks,hva,hcs⟩:=hx0.inv
 refine Am (s:=Gx (AZ lfp G)) Af (by obtain⟨h,o⟩:=Bv Ap G;rw[Af]at h;cases h;exact o) ?_
 show AZ lfp G (Runs F G) (.agg (TJ 15 0 [] [] false line col v)) H n k
 delta AZ
 refine Dh λH1 f1 g1=>?_
 have hx1:=hx0.mono (λ_ h=>h) λid h=>f1.same id (hA0 id h)
 have hA1:∀id,A id->id<n+1:=λid h=>by have:=hA0 id h;omega
 refine AB (Aa ..) (AB (AQ g1 rfl) ?_)
 repeat refine Ie (by decide) ?_
 refine F5 ?_
 refine AB (Ai (m:=11) g1 (by omega) rfl) ?_
 refine Yw (i:=0) hx1 hA1 rfl iha (by omega) λH2 n2 f2=>?_
 have hn2:=f2.le
 have g2:=f2.get g1 (by omega)
 have f2:=f1.trans f2
 have hx2:=hx0.mono (λ_ h=>h) λid h=>f2.same id (hA0 id h)
 have hA2:∀id,A id->id<n2:=λid h=>by have:=hA0 id h;omega
 refine AB (BZ (a:=BJ++JC) (b:=textE a) (by first|omega|(simp only[List.length_append];omega))) ?_
 refine AB (BZ (a:=(BJ++JC)++textE a) (b:=BM) (by first|omega|(simp only[List.length_append];omega))) ?_
 have hk:=hk _ _ f2
 try simp only[List.append_assoc]at hk
 try simp only[List.append_assoc]
 exact hk
theorem AVP{o:Bs}{a b:Ex}(iha:Es G a)(ihb:Es G b):Es G (.mk 16 0 o [] false [a,b]):=by
 intro H n c A k hx0 hA0 hl hk
 have e0:textE (.mk 16 0 o [] false [a,b])=BJ++(textE a++([32]++(o++([32]++(textE b++BM))))):=by rw[Ae];rfl
 rw[e0]at hl hk
 try simp only[List.length_append]at hl
 obtain⟨line,col,v,cs,rfl,hel,hks,hva,hcs⟩:=hx0.inv
 refine Am (s:=Gx (AZ lfp G)) Af (by obtain⟨h,o⟩:=Bv Ap G;rw[Af]at h;cases h;exact o) ?_
 show AZ lfp G (Runs F G) (.agg (TJ 16 0 o [] false line col v)) H n k
 delta AZ
 refine Dh λH1 f1 g1=>?_
 have hx1:=hx0.mono (λ_ h=>h) λid h=>f1.same id (hA0 id h)
 have hA1:∀id,A id->id<n+1:=λid h=>by have:=hA0 id h;omega
 refine AB (Aa ..) (AB (AQ g1 rfl) ?_)
 repeat refine Ie (by decide) ?_
 refine F5 ?_
 refine AB (Ai (m:=11) g1 (by omega) rfl) ?_
 refine AB (Aa ..) (AB (AQ g1 rfl) ?_)
 refine AB (Ai (m:=11) g1 (by omega) rfl) ?_
 refine Yw (i:=0) hx1 hA1 rfl iha (by omega) λH2 n2 f2=>?_
 have hn2:=f2.le
 have g2:=f2.get g1 (by omega)
 have f2:=f1.trans f2
 have hx2:=hx0.mono (λ_ h=>h) λid h=>f2.same id (hA0 id h)
 have hA2:∀id,A id->id<n2:=λid h=>by have:=hA0 id h;omega
 refine AB (AQ g2 rfl) (Cc (Uy _) ?_)
 refine AB (Ai (m:=11) g2 (by omega) rfl) (Cc hx2.vs ?_)
 refine AB (BZ (a:=BJ) (b:=textE a) (by first|omega|(simp only[List.length_append];omega))) ?_
 refine AB (BZ (a:=BJ++textE a) (b:=[32]) (by first|omega|(simp only[List.length_append];omega))) ?_
 refine AB (BZ (a:=(BJ++textE a)++[32]) (b:=o) (by first|omega|(simp only[List.length_append];omega))) ?_
 refine AB (BZ (a:=((BJ++textE a)++[32])++o) (b:=[32]) (by first|omega|(simp only[List.length_append];omega))) ?_
 refine Yw (i:=1) hx2 hA2 rfl ihb (by omega) λH3 n3 f3=>?_
 have hn3:=f3.le
 have g3:=f3.get g2 (by omega)
 have f3:=f2.trans f3
 have hx3:=hx0.mono (λ_ h=>h) λid h=>f3.same id (hA0 id h)
 have hA3:∀id,A id->id<n3:=λid h=>by have:=hA0 id h;omega
 refine AB (AQ g3 rfl) (Cc (Uy _) ?_)
 refine AB (BZ (a:=(((BJ++textE a)++[32])++o)++[32]) (b:=textE b) (by first|omega|(simp only[List.length_append];omega))) ?_
 refine AB (BZ (a:=((((BJ++textE a)++[32])++o)++[32])++textE b) (b:=BM) (by first|omega|(simp only[List.length_append];omega))) ?_
 have hk:=hk _ _ f3
 try simp only[List.append_assoc]at hk
 try simp only[List.append_assoc]
 exact hk
theorem AUo{a b:Ex}(iha:Es G a)(ihb:Es G b):Es G (.mk 17 0 [] [] false [a,b]):=by
 intro H n c A k hx0 hA0 hl hk
 have e0:textE (.mk 17 0 [] [] false [a,b])=BJ++(textE a++([32]++(OZ++([32]++(textE b++BM))))):=by rw[Ae];rfl
 rw[e0]at hl hk
 try simp only[List.length_append]at hl
 obtain⟨line,col,v,cs,rfl,hel,hks,hva,hcs⟩:=hx0.inv
 refine Am (s:=Gx (AZ lfp G)) Af (by obtain⟨h,o⟩:=Bv Ap G;rw[Af]at h;cases h;exact o) ?_
 show AZ lfp G (Runs F G) (.agg (TJ 17 0 [] [] false line col v)) H n k
 delta AZ
 refine Dh λH1 f1 g1=>?_
 have hx1:=hx0.mono (λ_ h=>h) λid h=>f1.same id (hA0 id h)
 have hA1:∀id,A id->id<n+1:=λid h=>by have:=hA0 id h;omega
 refine AB (Aa ..) (AB (AQ g1 rfl) ?_)
 repeat refine Ie (by decide) ?_
 refine F5 ?_
 refine AB (Ai (m:=11) g1 (by omega) rfl) ?_
 refine AB (Ai (m:=11) g1 (by omega) rfl) ?_
 refine Yw (i:=0) hx1 hA1 rfl iha (by omega) λH2 n2 f2=>?_
 have hn2:=f2.le
 have g2:=f2.get g1 (by omega)
 have f2:=f1.trans f2
 have hx2:=hx0.mono (λ_ h=>h) λid h=>f2.same id (hA0 id h)
 have hA2:∀id,A id->id<n2:=λid h=>by have:=hA0 id h;omega
 refine AB (Ai (m:=11) g2 (by omega) rfl) (Cc hx2.vs ?_)
 refine AB (BZ (a:=BJ) (b:=textE a) (by first|omega|(simp only[List.length_append];omega))) ?_
 rw[show V.str 4 539371040=sB ([32]++(OZ++[32]))from rfl]
 refine AB (BZ (a:=BJ++textE a) (b:=[32]++(OZ++[32])) (by first|omega|(simp only[List.length_append];omega))) ?_
 refine Yw (i:=1) hx2 hA2 rfl ihb (by omega) λH3 n3 f3=>?_
 have hn3:=f3.le
 have g3:=f3.get g2 (by omega)
 have f3:=f2.trans f3
 have hx3:=hx0.mono (λ_ h=>h) λid h=>f3.same id (hA0 id h)
 have hA3:∀id,A id->id<n3:=λid h=>by have:=hA0 id h;omega
 refine AB (BZ (a:=(BJ++textE a)++([32]++(OZ++[32]))) (b:=textE b) (by first|omega|(simp only[List.length_append];omega))) ?_
 refine AB (BZ (a:=((BJ++textE a)++([32]++(OZ++[32])))++textE b) (b:=BM) (by first|omega|(simp only[List.length_append];omega))) ?_
 have hk:=hk _ _ f3
 try simp only[List.append_assoc]at hk
 try simp only[List.append_assoc]
 exact hk
theorem AYN{a b:Ex}(iha:Es G a)(ihb:Es G b):Es G (.mk 18 0 [] [] false [a,b]):=by
 intro H n c A k hx0 hA0 hl hk
 have e0:textE (.mk 18 0 [] [] false [a,b])=BJ++(textE a++([32]++(ZP++([32]++(textE b++BM))))):=by rw[Ae];rfl
 rw[e0]at hl hk
 try simp only[List.length_append]at hl
 obtain⟨line,col,v,cs,rfl,hel,hks,hva,hcs⟩:=hx0.inv
 refine Am (s:=Gx (AZ lfp G)) Af (by obtain⟨h,o⟩:=Bv Ap G;rw[Af]at h;cases h;exact o) ?_
 show AZ lfp G (Runs F G) (.agg (TJ 18 0 [] [] false line col v)) H n k
 delta AZ
 refine Dh λH1 f1 g1=>?_
 have hx1:=hx0.mono (λ_ h=>h) λid h=>f1.same id (hA0 id h)
 have hA1:∀id,A id->id<n+1:=λid h=>by have:=hA0 id h;omega
 refine AB (Aa ..) (AB (AQ g1 rfl) ?_)
 repeat refine Ie (by decide) ?_
 refine F5 ?_
 refine AB (Ai (m:=11) g1 (by omega) rfl) ?_
 refine AB (Ai (m:=11) g1 (by omega) rfl) ?_
 refine Yw (i:=0) hx1 hA1 rfl iha (by omega) λH2 n2 f2=>?_
 have hn2:=f2.le
 have g2:=f2.get g1 (by omega)
 have f2:=f1.trans f2
 have hx2:=hx0.mono (λ_ h=>h) λid h=>f2.same id (hA0 id h)
 have hA2:∀id,A id->id<n2:=λid h=>by have:=hA0 id h;omega
 refine AB (Ai (m:=11) g2 (by omega) rfl) (Cc hx2.vs ?_)
 refine AB (BZ (a:=BJ) (b:=textE a) (by first|omega|(simp only[List.length_append];omega))) ?_
 rw[show V.str 4 545029152=sB ([32]++(ZP++[32]))from rfl]
 refine AB (BZ (a:=BJ++textE a) (b:=[32]++(ZP++[32])) (by first|omega|(simp only[List.length_append];omega))) ?_
 refine Yw (i:=1) hx2 hA2 rfl ihb (by omega) λH3 n3 f3=>?_
 have hn3:=f3.le
 have g3:=f3.get g2 (by omega)
 have f3:=f2.trans f3
 have hx3:=hx0.mono (λ_ h=>h) λid h=>f3.same id (hA0 id h)
 have hA3:∀id,A id->id<n3:=λid h=>by have:=hA0 id h;omega
 refine AB (BZ (a:=(BJ++textE a)++([32]++(ZP++[32]))) (b:=textE b) (by first|omega|(simp only[List.length_append];omega))) ?_
 refine AB (BZ (a:=((BJ++textE a)++([32]++(ZP++[32])))++textE b) (b:=BM) (by first|omega|(simp only[List.length_append];omega))) ?_
 have hk:=hk _ _ f3
 try simp only[List.append_assoc]at hk
 try simp only[List.append_assoc]
 exact hk
theorem AXA{u:Bs}{a:Ex}(iha:Es G a):Es G (.mk 19 0 [] u false [a]):=by
 intro H n c A k hx0 hA0 hl hk
 have e0:textE (.mk 19 0 [] u false [a])=BJ++(textE a++([32]++(UC++([32]++(u++BM))))):=by rw[Ae];rfl
 rw[e0]at hl hk
 try simp only[List.length_append]at hl
 obtain⟨line,col,v,cs,rfl,hel,hks,hva,hcs⟩:=hx0.inv
 refine Am (s:=Gx (AZ lfp G)) Af (by obtain⟨h,o⟩:=Bv Ap G;rw[Af]at h;cases h;exact o) ?_
 show AZ lfp G (Runs F G) (.agg (TJ 19 0 [] u false line col v)) H n k
 delta AZ
 refine Dh λH1 f1 g1=>?_
 have hx1:=hx0.mono (λ_ h=>h) λid h=>f1.same id (hA0 id h)
 have hA1:∀id,A id->id<n+1:=λid h=>by have:=hA0 id h;omega
 refine AB (Aa ..) (AB (AQ g1 rfl) ?_)
 repeat refine Ie (by decide) ?_
 refine F5 ?_
 refine AB (Ai (m:=11) g1 (by omega) rfl) ?_
 refine AB (Aa ..) (AB (Aa ..) (AB (AQ g1 rfl) ?_))
 refine Yw (i:=0) hx1 hA1 rfl iha (by omega) λH2 n2 f2=>?_
 have hn2:=f2.le
 have g2:=f2.get g1 (by omega)
 have f2:=f1.trans f2
 have hx2:=hx0.mono (λ_ h=>h) λid h=>f2.same id (hA0 id h)
 have hA2:∀id,A id->id<n2:=λid h=>by have:=hA0 id h;omega
 refine AB (AQ g2 rfl) (Cc (Uy _) ?_)
 refine AB (BZ (a:=BJ) (b:=textE a) (by first|omega|(simp only[List.length_append];omega))) ?_
 rw[show V.str 4 544432416=sB ([32]++(UC++[32]))from rfl]
 refine AB (BZ (a:=BJ++textE a) (b:=[32]++(UC++[32])) (by first|omega|(simp only[List.length_append];omega))) ?_
 refine AB (BZ (a:=(BJ++textE a)++([32]++(UC++[32]))) (b:=u) (by first|omega|(simp only[List.length_append];omega))) ?_
 refine AB (BZ (a:=((BJ++textE a)++([32]++(UC++[32])))++u) (b:=BM) (by first|omega|(simp only[List.length_append];omega))) ?_
 have hk:=hk _ _ f2
 try simp only[List.append_assoc]at hk
 try simp only[List.append_assoc]
 exact hk
theorem AU2{u:Bs}{a:Ex}(iha:Es G a):Es G (.mk 20 0 [] u false [a]):=by
 intro H n c A k hx0 hA0 hl hk
 have e0:textE (.mk 20 0 [] u false [a])=BJ++(textE a++([32]++(Qv++([32]++(u++BM))))):=by rw[Ae];rfl
 rw[e0]at hl hk
 try simp only[List.length_append]at hl
 obtain⟨line,col,v,cs,rfl,hel,hks,hva,hcs⟩:=hx0.inv
 refine Am (s:=Gx (AZ lfp G)) Af (by obtain⟨h,o⟩:=Bv Ap G;rw[Af]at h;cases h;exact o) ?_
 show AZ lfp G (Runs F G) (.agg (TJ 20 0 [] u false line col v)) H n k
 delta AZ
 refine Dh λH1 f1 g1=>?_
 have hx1:=hx0.mono (λ_ h=>h) λid h=>f1.same id (hA0 id h)
 have hA1:∀id,A id->id<n+1:=λid h=>by have:=hA0 id h;omega
 refine AB (Aa ..) (AB (AQ g1 rfl) ?_)
 repeat refine Ie (by decide) ?_
 refine F5 ?_
 refine AB (Ai (m:=11) g1 (by omega) rfl) ?_
 refine AB (Aa ..) (AB (Aa ..) (AB (AQ g1 rfl) ?_))
 refine Yw (i:=0) hx1 hA1 rfl iha (by omega) λH2 n2 f2=>?_
 have hn2:=f2.le
 have g2:=f2.get g1 (by omega)
 have f2:=f1.trans f2
 have hx2:=hx0.mono (λ_ h=>h) λid h=>f2.same id (hA0 id h)
 have hA2:∀id,A id->id<n2:=λid h=>by have:=hA0 id h;omega
 refine AB (AQ g2 rfl) (Cc (Uy _) ?_)
 refine AB (BZ (a:=BJ) (b:=textE a) (by first|omega|(simp only[List.length_append];omega))) ?_
 rw[show V.str 4 544434464=sB ([32]++(Qv++[32]))from rfl]
 refine AB (BZ (a:=BJ++textE a) (b:=[32]++(Qv++[32])) (by first|omega|(simp only[List.length_append];omega))) ?_
 refine AB (BZ (a:=(BJ++textE a)++([32]++(Qv++[32]))) (b:=u) (by first|omega|(simp only[List.length_append];omega))) ?_
 refine AB (BZ (a:=((BJ++textE a)++([32]++(Qv++[32])))++u) (b:=BM) (by first|omega|(simp only[List.length_append];omega))) ?_
 have hk:=hk _ _ f2
 try simp only[List.append_assoc]at hk
 try simp only[List.append_assoc]
 exact hk
theorem jc(hG:jY G){e:Ex}(h:Wr e):Es G e:=by
 induction h with
 |num h=>exact AXD hG h
 |tru=>exact AV6
 |fls=>exact AXJ
 |nul=>exact AVw
 |ths=>exact AWA
 |loc h=>exact AUT
 |get h ha ih=>exact AVi ih
 |call h ha hk hn ih ihk=>exact ARt ih ihk hn
 |stat h hu hk hn ihk=>exact ATA ihk hn
 |new hu=>exact AVF
 |arr hu ha ih=>exact AXF ih
 |elm ha hb iha ihb=>exact AW6 iha ihb
 |len ha ih=>exact AWC ih
 |neg ha ih=>exact AVT ih
 |not ha ih=>exact AVg ih
 |bin ho ha hb iha ihb=>exact AVP iha ihb
 |and ha hb iha ihb=>exact AUo iha ihb
 |or ha hb iha ihb=>exact AYN iha ihb
 |asx hu ha ih=>exact AXA ih
 |isx hu ha ih=>exact AU2 ih
end
def pV(t:Ty):Bs:=bif t.arr then t.nm++(Ho++G8)else t.nm
def tyK(t:Ty):List Tok:=Wn t.nm::(bif t.arr then[M Ho,M G8]else[])
inductive WrS:St->Prop
 |lt {l:Bs} {ty:Ty} {e:Ex} (hl:jI l=true) (ht:dQ ty.nm=true) (he:Wr e):WrS (.mk 1 l ty [e] [] [])
 |put {a b:Ex} (ha:Wr a) (hk:a.kind=6∨a.kind=7∨a.kind=12) (hb:Wr b):WrS (.mk 2 [] JO [a,b] [] [])
 |ask {a:Ex} (ha:Wr a) (hk:a.kind=8∨a.kind=9):WrS (.mk 3 [] JO [a] [] [])
 |ite {c:Ex} {th el:List St} (hc:Wr c) (ht:∀x∈th,WrS x) (he:∀x∈el,WrS x):WrS (.mk 4 [] JO [c] th el)
 |loop {c:Ex} {th:List St} (hc:Wr c) (ht:∀x∈th,WrS x):WrS (.mk 5 [] JO [c] th [])
 |ret {a:Ex} (ha:Wr a):WrS (.mk 6 [] JO [a] [] [])
 |prt {a:Ex} (ha:Wr a):WrS (.mk 7 [] JO [a] [] [])
def exT(es:List Ex)(i:Nat):Bs:=match es[i]? with|some e=>textE e|none=>TT
def exK(es:List Ex)(i:Nat):List Tok:=match es[i]? with|some e=>tokE e|none=>[W TT]
def tabs(d:Nat):Bs:=List.replicate d 9
def Iz(d:Nat)(ls:List Bs):Bs:=Ns++([10]++(ls.flatten++(tabs d++m_rc)))
def QS(ls:List (List Tok)):List Tok:=M Ns::(ls.flatten++[M m_rc])
def ANw(d k:Nat)(nm:Bs)(ty:Ty)(es:List Ex)(th el:List Bs):Bs:=
 tabs d++match k with
 |1=>Pm++([32]++(pV ty++([32]++(nm++([32]++(EO++([32]++(exT es 0++(BD++[10])))))))))
 |2=>exT es 0++([32]++(EO++([32]++(exT es 1++(BD++[10])))))
 |4=>KH++([32]++(exT es 0++([32]++(Iz d th++((bif el.isEmpty then[]else[32]++(Ec++([32]++Iz d el)))++[10])))))
 |5=>F7++([32]++(exT es 0++([32]++(Iz d th++[10]))))
 |6=>E5++([32]++(exT es 0++(BD++[10])))
 |7=>Gv++([32]++(exT es 0++(BD++[10])))
 |_=>exT es 0++(BD++[10])
mutual
def textS(d:Nat):St->Bs
 |.mk k nm ty es th el=>ANw d k nm ty es (AAj (d+1) th) (AAj (d+1) el)
def AAj(d:Nat):List St->List Bs
 |[]=>[]
 |s::l=>textS d s::AAj d l
end
theorem wH(d:Nat):∀l:List St,AAj d l=l.map (textS d)
 |[]=>by unfold AAj;rfl
 |a::l=>by unfold AAj;rw[wH d l];rfl
theorem D6(d k:Nat)(nm:Bs)(ty:Ty)(es:List Ex)(th el:List St):textS d (.mk k nm ty es th el)=ANw d k nm ty es (th.map (textS (d+1))) (el.map (textS (d+1))):=by
 unfold textS;rw[wH,wH]
def TV(k:Nat)(nm:Bs)(ty:Ty)(es:List Ex)(th el:List (List Tok)):List Tok:=
 match k with
 |1=>W Pm::(tyK ty++L nm::M EO::(exK es 0++[M BD]))
 |2=>exK es 0++M EO::(exK es 1++[M BD])
 |4=>W KH::(exK es 0++(QS th++bif el.isEmpty then[]else W Ec::QS el))
 |5=>W F7::(exK es 0++QS th)
 |6=>W E5::(exK es 0++[M BD])
 |7=>W Gv::(exK es 0++[M BD])
 |_=>exK es 0++[M BD]
mutual
def FW:St->List Tok
 |.mk k nm ty es th el=>TV k nm ty es (AEw th) (AEw el)
def AEw:List St->List (List Tok)
 |[]=>[]
 |s::l=>FW s::AEw l
end
theorem ABL:∀l:List St,AEw l=l.map FW
 |[]=>by unfold AEw;rfl
 |a::l=>by unfold AEw;rw[ABL l];rfl
theorem JI(k:Nat)(nm:Bs)(ty:Ty)(es:List Ex)(th el:List St):FW (.mk k nm ty es th el)=TV k nm ty es (th.map FW) (el.map FW):=by
 unfold FW;rw[ABL,ABL]
def AVd(s:St):Prop:=∀d r ts,Dq r ts->Dq (textS d s++r) (FW s++ts)
theorem Y6:Gap [10]:=ABh (by decide)
theorem TW(d:Nat):Gap (tabs d):=ADW λc hc=>by rw[List.eq_of_mem_replicate hc];decide
theorem ACJ{m r:Bs}(h:(match m with|[]=>false|c::_=> !inner c)=true):Out (m++r):=by
 cases m with
 |nil=>cases h
 |cons c m=>exact AOC (by simpa using h)
theorem AGS{t:Ty}(h:dQ t.nm=true){r:Bs}{ts:List Tok}(hr:Dq r ts):Dq (pV t++([32]++r)) (tyK t++ts):=by
 unfold pV tyK
 cases t.arr with
 |false=>
  have:=Tj (t:=Wn t.nm) (AGs h) hr
  rw[AAt]at this;exact this
 |true=>
  have:=VN (t:=Wn t.nm) (r:=Ho++(G8++([32]++r))) (AGs h) (AE2 _) (ACJ (by decide)) (Hy (m:=Ho) (by decide) (Hy (m:=G8) (by decide) (Em Wp hr)))
  rw[AAt]at this
  simpa using this
theorem AP0{ls:List St}{d:Nat}{r:Bs}{ts:List Tok}(hr:Dq r ts):(∀x∈ls,AVd x)->Dq ((ls.map (textS d)).flatten++r) ((ls.map FW).flatten++ts):=by
 induction ls with
 |nil=>intro _;exact hr
 |cons a ls ih=>
  intro h
  simp only[List.map_cons,List.flatten_cons,List.append_assoc]
  exact h a List.mem_cons_self _ _ _ (ih λx hx=>h x (List.mem_cons_of_mem _ hx))
theorem ACf{ls:List St}{d:Nat}{r:Bs}{ts:List Tok}(h:∀x∈ls,AVd x)(hr:Dq r ts):Dq (Iz d (ls.map (textS (d+1)))++r) (QS (ls.map FW)++ts):=by
 unfold Iz QS
 simp only[List.append_assoc,List.cons_append,List.nil_append]
 exact Hy (m:=Ns) (by decide) (Em Y6 (AP0 (Em (TW d) (Hy (m:=m_rc) (by decide) hr)) h))
theorem AaZ{s:St}(h:WrS s):AVd s:=by
 have semi:∀{r:Bs} {ts:List Tok} {e:Ex},Wr e->Dq r ts->Dq (textE e++(BD++([10]++r))) (tokE e++M BD::ts):=λhe hr=>
  ARN he _ _ (ACJ (by decide)) (Hy (m:=BD) (by decide) (Em Y6 hr))
 have wl:∀{l:Bs},jI l=true->Wf (L l):=λh=>AOv h
 induction h with
 | @lt l ty e hl ht he=>
  intro d r ts hr
  rw[D6,JI]
  show Dq ((tabs d++(Pm++([32]++(pV ty++([32]++(l++([32]++(EO++([32]++(textE e++(BD++[10])))))))))))++r) ((W Pm::(tyK ty++L l::M EO::(tokE e++[M BD])))++ts)
  simp only[List.append_assoc,List.cons_append,List.nil_append]
  exact Em (TW d) (Tj (t:=W Pm) (Ig (by decide)) (AGS ht (Tj (t:=L l) (wl hl) (ADz (m:=EO) (by decide) (semi he hr)))))
 | @put a b ha hk hb=>
  intro d r ts hr
  rw[D6,JI]
  show Dq ((tabs d++(textE a++([32]++(EO++([32]++(textE b++(BD++[10])))))))++r) ((tokE a++M EO::(tokE b++[M BD]))++ts)
  simp only[List.append_assoc,List.cons_append,List.nil_append]
  exact Em (TW d) (ARN ha _ _ (ACJ (m:=[32]) (by decide)) (Em Wp (ADz (m:=EO) (by decide) (semi hb hr))))
 | @ask a ha hk=>
  intro d r ts hr
  rw[D6,JI]
  show Dq ((tabs d++(textE a++(BD++[10])))++r) ((tokE a++[M BD])++ts)
  simp only[List.append_assoc,List.cons_append,List.nil_append]
  exact Em (TW d) (semi ha hr)
 | @ite c th el hc ht he iht ihe=>
  intro d r ts hr
  rw[D6,JI]
  show Dq ((tabs d++(KH++([32]++(textE c++([32]++(Iz d (th.map (textS (d+1)))++((bif (el.map (textS (d+1))).isEmpty then[]else[32]++(Ec++([32]++Iz d (el.map (textS (d+1))))))++[10])))))))++r)
   ((W KH::(tokE c++(QS (th.map FW)++bif (el.map FW).isEmpty then[]else W Ec::QS (el.map FW))))++ts)
  simp only[List.append_assoc,List.cons_append,List.nil_append]
  refine Em (TW d) (Tj (t:=W KH) (Ig (by decide)) (ARN hc _ _ (ACJ (m:=[32]) (by decide)) (Em Wp (ACf iht ?_))))
  cases el with
  |nil=>exact Em (g:=[10]) (s:=r) (ts:=ts) Y6 hr
  |cons a el=>
   simp only[List.map_cons,List.isEmpty_cons,cond_false,List.append_assoc,List.cons_append,List.nil_append]
   exact Em Wp (Tj (t:=W Ec) (Ig (by decide)) (ACf (ls:=a::el) ihe (Em Y6 hr)))
 | @loop c th hc ht iht=>
  intro d r ts hr
  rw[D6,JI]
  show Dq ((tabs d++(F7++([32]++(textE c++([32]++(Iz d (th.map (textS (d+1)))++[10]))))))++r) ((W F7::(tokE c++QS (th.map FW)))++ts)
  simp only[List.append_assoc,List.cons_append,List.nil_append]
  exact Em (TW d) (Tj (t:=W F7) (Ig (by decide)) (ARN hc _ _ (ACJ (m:=[32]) (by decide)) (Em Wp (ACf iht (Em Y6 hr)))))
 | @ret a ha=>
  intro d r ts hr
  rw[D6,JI]
  show Dq ((tabs d++(E5++([32]++(textE a++(BD++[10])))))++r) ((W E5::(tokE a++[M BD]))++ts)
  simp only[List.append_assoc,List.cons_append,List.nil_append]
  exact Em (TW d) (Tj (t:=W E5) (Ig (by decide)) (semi ha hr))
 | @prt a ha=>
  intro d r ts hr
  rw[D6,JI]
  show Dq ((tabs d++(Gv++([32]++(textE a++(BD++[10])))))++r) ((W Gv::(tokE a++[M BD]))++ts)
  simp only[List.append_assoc,List.cons_append,List.nil_append]
  exact Em (TW d) (Tj (t:=W Gv) (Ig (by decide)) (semi ha hr))
def Oq(f:Va):Bs:=[9]++(PG++([32]++(pV f.ty++([32]++(f.nm++(BD++[10]))))))
def Zu(f:Va):List Tok:=W PG::(tyK f.ty++[L f.nm,M BD])
def mW(p:Va):Bs:=pV p.ty++([32]++p.nm)
def gX(p:Va):List Tok:=tyK p.ty++[L p.nm]
def V7(m:Me):Bs:=[9]++((bif m.st then Ip++[32]else[])++(En++([32]++(pV m.ret++([32]++(m.nm++(BJ++(IZ (m.ps.map mW)++(BM++([32]++(Iz 1 (m.body.map (textS 2))++[10])))))))))))
def Vh(m:Me):List Tok:=(bif m.st then[W Ip]else[])++W En::(tyK m.ret++L m.nm::M BJ::(MI (m.ps.map gX)++M BM::QS (m.body.map FW)))
def Zz(c:Cl):Bs:=OL++([32]++(c.nm++((bif c.sup.isEmpty then[]else[32]++(I7++([32]++c.sup)))++([32]++(Ns++([10]++((c.fs.map Oq).flatten++((c.ms.map V7).flatten++(m_rc++[10])))))))))
def wu(c:Cl):List Tok:=W OL::U c.nm::((bif c.sup.isEmpty then[]else[W I7,U c.sup])++M Ns::((c.fs.map Zu).flatten++((c.ms.map Vh).flatten++[M m_rc])))
structure WrV(v:Va):Prop where
 nm:jI v.nm=true
 ty:dQ v.ty.nm=true
structure WrM(m:Me):Prop where
 nm:jI m.nm=true
 ret:dQ m.ret.nm=true
 ps:∀p∈m.ps,WrV p
 pn:m.ps.length<=200
 body:∀s∈m.body,WrS s
structure WrC(c:Cl):Prop where
 nm:Wl c.nm=true
 sup:c.sup=[]∨Wl c.sup=true
 fs:∀f∈c.fs,WrV f
 fn:c.fs.length<=200
 ms:∀m∈c.ms,WrM m
 mn:c.ms.length<=200
theorem ASc{p:Va}(h:WrV p){r:Bs}{ts:List Tok}(ho:Out r)(hr:Dq r ts):Dq (mW p++r) (gX p++ts):=by
 unfold mW gX
 simp only[List.append_assoc,List.cons_append,List.nil_append]
 exact AGS h.ty (VN (t:=L p.nm) (AOv h.nm) (by simp[L]) ho hr)
theorem AK8{α:Type}{f:α->Bs}{g:α->List Tok}{ls:List α}{r:Bs}{ts:List Tok}(hr:Dq r ts):(∀x∈ls,∀r ts,Dq r ts->Dq (f x++r) (g x++ts))->Dq ((ls.map f).flatten++r) ((ls.map g).flatten++ts):=by
 induction ls with
 |nil=>intro _;exact hr
 |cons a ls ih=>
  intro h
  simp only[List.map_cons,List.flatten_cons,List.append_assoc]
  exact h a List.mem_cons_self _ _ (ih λx hx=>h x (List.mem_cons_of_mem _ hx))
theorem ANO{p:Va}(h:WrV p){r:Bs}{ts:List Tok}(hr:Dq r ts):Dq (Oq p++r) (Zu p++ts):=by
 unfold Oq Zu
 simp only[List.append_assoc,List.cons_append,List.nil_append]
 exact Em (g:=[9]) (TW 1) (Tj (t:=W PG) (Ig (by decide)) (AGS h.ty (VN (t:=L p.nm) (AOv h.nm) (by simp[L]) (ACJ (by decide)) (Hy (m:=BD) (by decide) (Em Y6 hr)))))
theorem AQT{m:Me}(h:WrM m){r:Bs}{ts:List Tok}(hr:Dq r ts):Dq (V7 m++r) (Vh m++ts):=by
 unfold V7 Vh
 simp only[List.append_assoc,List.cons_append,List.nil_append]
 refine Em (g:=[9]) (TW 1) ?_
 have main:=Tj (t:=W En) (Ig (by decide)) (AGS h.ret (VN (t:=L m.nm) (AOv h.nm) (by simp[L]) (ACJ (by decide)) (Hy (m:=BJ) (by decide) (AEV (f:=mW) (g:=gX) (ACJ (by decide)) (Hy (m:=BM) (by decide) (Em Wp (ACf (d:=1) (λx hx=>AaZ (h.body x hx)) (Em Y6 hr)))) (λx hx _ _ ho hr=>ASc (h.ps x hx) ho hr)))))
 cases m.st with
 |false=>exact main
 |true=>
  simp only[cond_true,List.append_assoc,List.cons_append,List.nil_append]
  exact Tj (t:=W Ip) (Ig (by decide)) main
theorem AMf{c:Cl}(h:WrC c):Dq (Zz c) (wu c++[YS]):=by
 unfold Zz wu
 simp only[List.append_assoc,List.cons_append,List.nil_append]
 have main:=Hy (m:=Ns) (by decide) (Em Y6 (AK8 (f:=Oq) (g:=Zu) (ls:=c.fs) (AK8 (f:=V7) (g:=Vh) (ls:=c.ms) (Hy (m:=m_rc) (by decide) (ASH Y6)) (λx hx _ _ hr=>AQT (h.ms x hx) hr)) (λx hx _ _ hr=>ANO (h.fs x hx) hr)))
 refine Tj (t:=W OL) (Ig (by decide)) ?_
 cases hs:c.sup.isEmpty with
 |true=>exact Tj (t:=U c.nm) (AIv h.nm) main
 |false=>
  simp only[cond_false,List.append_assoc,List.cons_append,List.nil_append]
  have hu:Wl c.sup=true:=by
   rcases h.sup with h0|h0
   ·rw[h0]at hs;cases hs
   ·exact h0
  exact Tj (t:=U c.nm) (AIv h.nm) (Tj (t:=W I7) (Ig (by decide)) (Tj (t:=U c.sup) (AIv hu) main))
def Bu(H:Heap)(n b:Nat)(l:Bs):Prop:=b<n/\∃j,T.get H b=some (.U5 66 5 l.length (enc l) j)/\(l=[]∨b<j)
theorem Bu.kp{H H':Heap}{n n' b:Nat}{l:Bs}(h:Bu H n b l)(f:Kp H n H' n'):Bu H' n' b l:=by
 obtain⟨h1,j,h2,h3⟩:=h
 exact⟨by have:=f.le;omega,j,(f.same b h1).trans h2,h3⟩
theorem ZW(ls:List Bs)(j:Nat):(ls.take j).flatten.length<=ls.flatten.length:=by
 have h:ls.flatten=(ls.take j).flatten++(ls.drop j).flatten:=by rw[<-List.flatten_append,List.take_append_drop]
 rw[h,List.length_append];omega
theorem AHr:∀d,Lib.repeatL [9] d=tabs d
 |0=>rfl
 |d+1=>by
  show[9]++Lib.repeatL [9] d=_
  rw[AHr d];rfl
theorem ACX(d:Nat):AOY (.int .i64 (.ofNat 0) 0) (.int .i64 (.ofNat d) 0)=some (.int .i64 (.ofNat d) 0):=by
 cases d with
 |zero=>rfl
 |succ d=>rfl
section
variable{G:AV}{H:Heap}{n:Nat}{k:KV}
theorem zS{d:Nat}(hd:d<=100000000000)(hk:k (sB (tabs d)) H n):Runs F G XO [.str 1 9,.int .i64 (.ofNat d) 0] H n k:=by
 refine zM zX ?_
 show Ed (decide (d<=9223372036854775807/\1*d<=Z4)) (k (.str (AKm (KT [9]) d).1 (AKm (KT [9]) d).2) H n)
 rw[AEG,AHr,decide_eq_true (show d<=9223372036854775807/\1*d<=Z4 from⟨by omega,by unfold Z4;omega⟩)]
 exact hk
theorem APb{P:KV}(h:∀H',Kp H n H' (n+1)->Bu H' (n+1) n []->P (.ptr n 0) H' (n+1)):DW (AQf 66 5 E0) H n P:=by
 rw[AY0]
 exact h _ ((Kp.refl H n).new _ (Nat.le_refl _) (by omega)) ⟨by omega,0,T.C9 ..,.inl rfl⟩
theorem qI{b:Nat}{l s:Bs}(h:Bu H n b l)(hs:l.length+s.length<=100000000000)(hk:∀v H',Kp H b H' (n+1)->Bu H' (n+1) b (l++s)->k v H' (n+1)):Runs F G CO [.ptr b 0,sB s] H n k:=by
 obtain⟨h1,j,h2,h3⟩:=h
 refine zM WX ?_
 show(match T.get H b with
  |some (.U5 t' e' l c j)=>Ed (decide (t'=66/\e'=5/\l+s.length<=Z4)) (k (.Jt [.int .i64 (.ofNat s.length) 0,.AGW]) (T.set (T.set (bif decide (l=0)then H else T.set H j .dead) n (.own b)) b (.U5 66 5 (zo (l,c) (s.length,enc s)).1 (zo (l,c) (s.length,enc s)).2 n)) (n+1))
  |_=>False)
 rw[h2]
 show Ed (decide (66=66/\5=5/\l.length+s.length<=Z4)) (k (.Jt [.int .i64 (.ofNat s.length) 0,.AGW]) (T.set (T.set (bif decide (l.length=0)then H else T.set H j .dead) n (.own b)) b (.U5 66 5 (zo (KT l) (KT s)).1 (zo (KT l) (KT s)).2 n)) (n+1))
 rw[qA,decide_eq_true (show 66=66/\5=5/\l.length+s.length<=Z4 from⟨rfl,rfl,by unfold Z4;omega⟩)]
 refine hk _ _ ⟨by omega,λid hid=>?_⟩ ⟨by omega,n,T.C9 ..,.inr h1⟩
 rw[T.Au _ _ (by omega),T.Au _ _ (by omega)]
 cases hl:decide (l.length=0)with
 |true=>rfl
 |false=>
  have hj:b<j:=by
   rcases h3 with rfl|h3
   ·cases hl
   ·exact h3
  show T.get (T.set H j .dead) id=_
  rw[T.Au _ _ (by omega)]
theorem AOt{b:Nat}{l:Bs}(h:Bu H n b l)(hk:∀H',Kp H b H' n->k (sB l) H' n):Runs F G Na [.ptr b 0] H n k:=by
 obtain⟨h1,j,h2,h3⟩:=h
 refine zM aB ?_
 show(match T.get H b with
  |some (.U5 t' e' l c _)=>Ed (decide (t'=66/\e'=5)) (k (.str l c) (T.set H b .dead) n)
  |_=>False)
 rw[h2]
 exact hk _ ⟨by omega,λid hid=>T.Au _ _ (by omega)⟩
theorem AFv{t:Ty}(ht:t.nm.length<=100000000000)(hk:∀H',Kp H n H' (n+1)->k (sB (pV t)) H' (n+1)):Runs F G QD [.agg (tyC t)] H n k:=by
 refine Am (s:=Gx (UY lfp G)) XG (by obtain⟨h,o⟩:=ABR Ap G;rw[XG]at h;cases h;exact o) ?_
 show UY lfp G (Runs F G) (.agg (tyC t)) H n k
 delta UY
 refine Dh λH1 f1 g1=>?_
 refine AB (Aa ..) (AB (v:=.bool t.arr) (AQ g1 rfl) ?_)
 have hk:=hk _ f1
 unfold pV at hk
 cases ha:t.arr with
 |true=>
  rw[ha]at hk
  rw[Ah]
  refine AB (Aa ..) (AB (v:=sB t.nm) (AQ g1 rfl) ?_)
  rw[show V.str 2 23899=sB (Ho++G8)from rfl]
  exact AB (BZ (by show t.nm.length+2<_;omega)) hk
 |false=>
  rw[ha]at hk
  rw[Aq]
  exact AB (Aa ..) (AB (v:=sB t.nm) (AQ g1 rfl) hk)
def Vu(G:AV)(e:St):Prop:=∀(H:Heap) (n d:Nat) (c:LV) (A:Nat->Prop) (k:KV),MO G H A c e->(∀id,A id->id<n)->(textS d e).length<=100000000000->(∀H' n',Kp H n H' n'->k (sB (textS d e)) H' n')->Runs F G lI [.agg c,.int .i64 (.ofNat d) 0] H n k
theorem SI.at{A:Nat->Prop}:∀{cs:Du} {es:List St} {i:Nat} {e:St},SI G H A cs es->es[i]? =some e->∃c,cs[i]? =some c/\MO G H A c e
 |_,_,0,_,.cons h _,he=>⟨_,rfl,by cases he;exact h⟩
 |_,_,i+1,_,.cons _ t,he=>SI.at t (i:=i) he
theorem AMy(d:Nat)(s:St):d<=(textS d s).length:=by
 obtain⟨k,nm,ty,es,th,el⟩:=s
 rw[D6]
 unfold ANw tabs
 rw[List.length_append,List.length_replicate];omega
theorem AH6(d:Nat):∀ss:List St,ss.length<=(ss.map (textS (d+1))).flatten.length
 |[]=>Nat.le_refl _
 |s::ss=>by
  have h1:=AMy (d+1) s
  have h2:=AH6 d ss
  simp only[List.map_cons,List.flatten_cons,List.length_append,List.length_cons];omega
theorem AHa{v:V}{ss:List St}{d:Nat}{cs:Du}{A:Nat->Prop}(hel:El G H v 9 cs)(hva:∀id,v.QK=some id->A id)(hc:SI G H A cs ss)(hA:∀id,A id->id<n)(ht:∀x∈ss,Vu G x)(hl:(Iz d (ss.map (textS (d+1)))).length<=100000000000)
 (hk:∀H' n',Kp H n H' n'->k (sB (Iz d (ss.map (textS (d+1))))) H' n'):Runs F G Xd [v,.int .i64 (.ofNat d) 0] H n k:=by
 have hl2:=hl
 unfold Iz tabs at hl2
 simp only[List.length_append,List.length_replicate]at hl2
 have hn0:=AH6 d ss
 have hw:Ns.length=1/\m_rc.length=1/\([10]:Bs).length=1:=⟨rfl,rfl,rfl⟩
 refine Am (s:=QH (bY lfp G)) jJ (by obtain⟨h,o⟩:=AGV Ap G;rw[jJ]at h;cases h;exact o) ?_
 show bY lfp G (Runs F G) v (.int .i64 (.ofNat d) 0) H n k
 delta bY
 refine APb λH1 f1 b1=>?_
 rw[show V.str 2 2683=sB (Ns++[10])from rfl]
 refine qI b1 (by show 0+2<=_;omega) λ_ H2 f2 b2=>?_
 have f2:Kp H n H2 (n+1+1):=⟨by omega,λid hid=>(f2.same id hid).trans (f1.same id hid)⟩
 refine AB (hel.kp (λid hid=>hA id (hva id hid)) f2).len ?_
 rw[hc.len]
 refine ER (N:=ss.length) (J:=λj q=>∃H' n',q=(.int .i64 (.ofNat d) 0,.ptr n 0,v,.int .i64 (.ofNat ss.length) 0,.int .i64 (.ofNat j) 0,H',n')/\Kp H n H' n'/\Bu H' n' n ((Ns++[10])++((ss.map (textS (d+1))).take j).flatten)) ?_ ?_ ⟨H2,_,rfl,f2,by simpa using b2⟩
 ·rintro I j q hlt ⟨H3,n3,rfl,f3,b3⟩ ih
  show Qz lfp G (Runs F G) k I (.int .i64 (.ofNat d) 0) (.ptr n 0) v (.int .i64 (.ofNat ss.length) 0) (.int .i64 (.ofNat j) 0) H3 n3
  delta Qz
  have hn3:=f3.le
  have hv3:El G H3 v 9 cs:=hel.kp (λid hid=>hA id (hva id hid)) f3
  have hc3:SI G H3 A cs ss:=hc.mono (λ_ h=>h) λid h=>f3.same id (hA id h)
  obtain⟨cx,hcx,hx⟩:=hc3.at (List.getElem?_eq_getElem hlt)
  have htx:=ht _ (List.getElem_mem hlt)
  obtain⟨p,hp,hld⟩:=hv3.at hcx
  rw[ES,Aw,decide_eq_true hlt,Ah]
  refine AB hp (AB (Jz hld) ?_)
  refine Az rfl λH4 f4 g4=>?_
  refine CB g4 rfl hx.len (by omega) λH5 g5 t5=>?_
  have f5:Kp H3 n3 H5 (n3+1):=⟨f4.le,λid hid=>(t5 id (by omega)).trans (f4.same id hid)⟩
  refine AB (Ai (m:=9) g5 (by omega) hx.len) (AB (Ee (by omega)) ?_)
  have hx:MO G H5 A cx ss[j]:=hx.mono (λ_ h=>h) λid h=>f5.same id (by have:=hA id h;omega)
  have e1:((ss.map (textS (d+1))).take (j+1)).flatten=((ss.map (textS (d+1))).take j).flatten++textS (d+1) ss[j]:=by
   rw[List.take_succ_eq_append_getElem (by rw[List.length_map];exact hlt),List.flatten_append,List.getElem_map];simp
  have e2:=ZW (ss.map (textS (d+1))) (j+1)
  rw[e1,List.length_append]at e2
  refine htx H5 (n3+1) (d+1) cx A _ hx (λid h=>by have:=hA id h;omega) (by omega) λH6 n6 f6=>?_
  have b6:=b3.kp (f5.trans f6)
  have hn6:=f6.le
  refine qI b6 (by simp only[List.length_append];omega) λ_ H7 f7 b7=>?_
  refine AB (Ee (by omega)) ?_
  refine ih _ ⟨H7,n6+1,rfl,⟨by omega,λid hid=>(f7.same id hid).trans ((f6.same id (by omega)).trans ((f5.same id (by omega)).trans (f3.same id hid)))⟩,?_⟩
  rw[e1,<-List.append_assoc]
  exact b7
 ·rintro I q ⟨H3,n3,rfl,f3,b3⟩
  show Qz lfp G (Runs F G) k I (.int .i64 (.ofNat d) 0) (.ptr n 0) v (.int .i64 (.ofNat ss.length) 0) (.int .i64 (.ofNat ss.length) 0) H3 n3
  delta Qz
  rw[ES,Aw,decide_eq_false (Nat.lt_irrefl _),Aq]
  show VZ lfp G (Runs F G) k (.int .i64 (.ofNat d) 0) (.ptr n 0) H3 n3
  delta VZ
  rw[show(ss.map (textS (d+1))).take ss.length=ss.map (textS (d+1))by rw[<-List.length_map (f:=textS (d+1)),List.take_length]]at b3
  refine AOt b3 λH4 f4=>?_
  refine zS (by omega) ?_
  refine AB (BZ (by simp only[List.length_append,tabs,List.length_replicate];omega)) ?_
  rw[show V.str 1 125=sB m_rc from rfl]
  refine AB (BZ (by simp only[List.length_append,tabs,List.length_replicate];omega)) ?_
  have:=hk H4 n3 ⟨f3.le,λid hid=>(f4.same id hid).trans (f3.same id hid)⟩
  unfold Iz at this
  simpa only[List.append_assoc]using this
end
theorem Il(d:Nat):(tabs d).length=d:=List.length_replicate
theorem AI0{G:AV}{H:Heap}{v:V}{z:Nat}{LS:Du}(h:El G H v z LS)(hk:KS v):BR v v=true:=by
 obtain⟨_,h⟩:=h
 cases v<;>first|exact hk.1|cases h
theorem AC1(t:Ty):t.nm.length<=(pV t).length:=by
 unfold pV
 cases t.arr with
 |true=>show _<=(t.nm++(Ho++G8)).length;rw[List.length_append];omega
 |false=>exact Nat.le_refl _
theorem MO.inv{G:AV}{H:Heap}{A:Nat->Prop}{c:LV}{does:Nat}{nm:Bs}{ty:Ty}{es:List Ex}{th el:List St}(h:MO G H A c (.mk does nm ty es th el)):
 ∃line col ve vt vl ct cl,c=eu does line col nm ty ve vt vl/\dK G H A ve es/\El G H vt 9 ct/\KS vt/\(∀id,vt.QK=some id->A id)/\SI G H A ct th/\El G H vl 9 cl/\KS vl/\(∀id,vl.QK=some id->A id)/\SI G H A cl el:=by
 cases h with
 |mk _ _ _ line col he ht kt a1 st hl kl a2 sl=>exact⟨line,col,_,_,_,_,_,rfl,he,ht,kt,a1,st,hl,kl,a2,sl⟩
theorem MO.vs{G:AV}{H:Heap}{A:Nat->Prop}{c:LV}{e:St}(h:MO G H A c e):BR (.agg c) (.agg c)=true:=by
 cases h with
 |mk does nm ty line col he ht kt a1 st hl kl a2 sl=>
  obtain⟨_,_,ke,_⟩:=he
  refine ADX λv hv'=>?_
  simp only[eu,List.mem_cons,List.not_mem_nil,or_false]at hv'
  rcases hv' with rfl|rfl|rfl|rfl|rfl|rfl|rfl|rfl|rfl
  ·exact kC ..
  ·exact kC ..
  ·exact kC ..
  ·exact ADk ..
  ·exact ADk ..
  ·exact jS ..
  ·exact ke.1
  ·exact kt.1
  ·exact kl.1
section
variable{G:AV}
theorem ZJ{H:Heap}{n i:Nat}{k:KV}{c:LV}{A:Nat->Prop}{does:Nat}{nm:Bs}{ty:Ty}{es:List Ex}{th el:List St}{e:Ex}(h:MO G H A c (.mk does nm ty es th el))(hA:∀id,A id->id<n)(hi:es[i]? =some e)(ht:Es G e)(hl:(textE e).length<=100000000000)
 (hk:∀H' n',Kp H n H' n'->k (sB (textE e)) H' n'):Runs F G Gs [.agg c,.int .i64 (.ofNat i) 0] H n k:=by
 obtain⟨line,col,ve,vt,vl,ct,cl,rfl,he,_⟩:=h.inv
 refine Am (s:=QH (UJ lfp G)) XH (by obtain⟨h,o⟩:=ABW Ap G;rw[XH]at h;cases h;exact o) ?_
 show UJ lfp G (Runs F G) (.agg (eu does line col nm ty ve vt vl)) (.int .i64 (.ofNat i) 0) H n k
 delta UJ
 refine Dh λH1 f1 g1=>?_
 have he:dK G H1 A ve es:=he.mono (λ_ h=>h) λid h=>f1.same id (hA id h)
 obtain⟨cs,hel,_,_,_,_,hc⟩:=he
 obtain⟨hlt,_⟩:=List.getElem?_eq_some_iff.1 hi
 have hlt:i<es.length:=hlt
 obtain⟨cx,hcx,hx⟩:=hc.at hi
 obtain⟨p,hp,hld⟩:=hel.at hcx
 refine AB (Aa ..) (AB (v:=ve) (AQ g1 rfl) (AB hel.len (AB (ES ..) ?_)))
 rw[hc.len,decide_eq_true hlt,Ah]
 refine AB (Aa ..) (AB (v:=ve) (AQ g1 rfl) (AB hp (AB (Jz hld) ?_)))
 exact ht H1 (n+1) cx A _ hx (λid h=>by have:=hA id h;omega) hl λH' n' f=>hk _ _ (f1.trans f)
theorem AZG{l:Bs}{ty:Ty}{a:Ex}(iha:Es G a):Vu G (.mk 1 l ty [a] [] []):=by
 intro H n d c A k hx0 hA0 hl hk
 have e0:textS d (.mk 1 l ty [a] [] [])=tabs d++(Pm++([32]++(pV ty++([32]++(l++([32]++(EO++([32]++(textE a++(BD++[10])))))))))):=by rw[D6];rfl
 rw[e0]at hl hk
 have htd:=Il d
 try simp only[List.length_append]at hl
 obtain⟨line,col,ve,vt,vl,ct,cl,rfl,he,ht,kt,hta,hct,hel,kl,hela,hcl⟩:=hx0.inv
 refine Am (s:=QH (BQ lfp G)) Ci (by obtain⟨h,o⟩:=Gz Ap G;rw[Ci]at h;cases h;exact o) ?_
 show BQ lfp G (Runs F G) (.agg (eu 1 line col l ty ve vt vl)) (.int .i64 (.ofNat d) 0) H n k
 delta BQ
 refine Dh λH1 f1 g1=>?_
 have hx1:=hx0.mono (λ_ h=>h) λid h=>f1.same id (hA0 id h)
 have hA1:∀id,A id->id<n+1:=λid h=>by have:=hA0 id h;omega
 refine AB (ACX d) (zS (by omega) ?_)
 refine AB (Aa ..) (AB (AQ g1 rfl) ?_)
 repeat refine Ie (by decide) ?_
 refine F5 ?_
 rw[show V.str 4 544499052=sB (Pm++[32])from rfl]
 refine AB (BZ (a:=tabs d) (b:=Pm++[32]) (by first|omega|(simp only[List.length_append];omega))) ?_
 refine AB (Aa ..) (AB (v:=.agg (tyC ty)) (MW g1 (by omega) (by show 4+2<=9;omega)) ?_)
 refine AB (Aa ..) (AB (AQ g1 rfl) ?_)
 refine AB (Ai (m:=9) g1 (by omega) rfl) ?_
 have hty:=AC1 ty
 refine AFv (by omega) λH2 f2=>?_
 have hn2:=f2.le
 have g2:=f2.get g1 (by omega)
 have f2:=f1.trans f2
 have hx2:=hx0.mono (λ_ h=>h) λid h=>f2.same id (hA0 id h)
 have hA2:∀id,A id->id<n+1+1:=λid h=>by have:=hA0 id h;omega
 refine AB (AQ g2 rfl) (Cc (Uy _) ?_)
 refine AB (Ai (m:=9) g2 (by omega) rfl) (Cc hx2.vs ?_)
 refine AB (BZ (a:=tabs d++(Pm++[32])) (b:=pV ty) (by first|omega|(simp only[List.length_append];omega))) ?_
 refine AB (BZ (a:=(tabs d++(Pm++[32]))++pV ty) (b:=[32]) (by first|omega|(simp only[List.length_append];omega))) ?_
 refine AB (BZ (a:=((tabs d++(Pm++[32]))++pV ty)++[32]) (b:=l) (by first|omega|(simp only[List.length_append];omega))) ?_
 rw[show V.str 3 2112800=sB ([32]++(EO++[32]))from rfl]
 refine AB (BZ (a:=(((tabs d++(Pm++[32]))++pV ty)++[32])++l) (b:=[32]++(EO++[32])) (by first|omega|(simp only[List.length_append];omega))) ?_
 refine ZJ (i:=0) (e:=a) hx2 hA2 rfl iha (by omega) λH3 n3 f3=>?_
 have hn3:=f3.le
 have g3:=f3.get g2 (by omega)
 have f3:=f2.trans f3
 have hx3:=hx0.mono (λ_ h=>h) λid h=>f3.same id (hA0 id h)
 have hA3:∀id,A id->id<n3:=λid h=>by have:=hA0 id h;omega
 refine AB (AQ g3 rfl) (Cc (Uy _) ?_)
 refine AB (BZ (a:=((((tabs d++(Pm++[32]))++pV ty)++[32])++l)++([32]++(EO++[32]))) (b:=textE a) (by first|omega|(simp only[List.length_append];omega))) ?_
 rw[show V.str 2 2619=sB (BD++[10])from rfl]
 refine AB (BZ (a:=(((((tabs d++(Pm++[32]))++pV ty)++[32])++l)++([32]++(EO++[32])))++textE a) (b:=BD++[10]) (by first|omega|(simp only[List.length_append];omega))) ?_
 have hk:=hk _ _ f3
 try simp only[List.append_assoc]at hk
 try simp only[List.append_assoc]
 exact hk
theorem AWR{a b:Ex}(iha:Es G a)(ihb:Es G b):Vu G (.mk 2 [] JO [a,b] [] []):=by
 intro H n d c A k hx0 hA0 hl hk
 have e0:textS d (.mk 2 [] JO [a,b] [] [])=tabs d++(textE a++([32]++(EO++([32]++(textE b++(BD++[10])))))):=by rw[D6];rfl
 rw[e0]at hl hk
 have htd:=Il d
 try simp only[List.length_append]at hl
 obtain⟨line,col,ve,vt,vl,ct,cl,rfl,he,ht,kt,hta,hct,hel,kl,hela,hcl⟩:=hx0.inv
 refine Am (s:=QH (BQ lfp G)) Ci (by obtain⟨h,o⟩:=Gz Ap G;rw[Ci]at h;cases h;exact o) ?_
 show BQ lfp G (Runs F G) (.agg (eu 2 line col [] JO ve vt vl)) (.int .i64 (.ofNat d) 0) H n k
 delta BQ
 refine Dh λH1 f1 g1=>?_
 have hx1:=hx0.mono (λ_ h=>h) λid h=>f1.same id (hA0 id h)
 have hA1:∀id,A id->id<n+1:=λid h=>by have:=hA0 id h;omega
 refine AB (ACX d) (zS (by omega) ?_)
 refine AB (Aa ..) (AB (AQ g1 rfl) ?_)
 repeat refine Ie (by decide) ?_
 refine F5 ?_
 refine AB (Ai (m:=9) g1 (by omega) rfl) ?_
 refine AB (Ai (m:=9) g1 (by omega) rfl) ?_
 refine ZJ (i:=0) (e:=a) hx1 hA1 rfl iha (by omega) λH2 n2 f2=>?_
 have hn2:=f2.le
 have g2:=f2.get g1 (by omega)
 have f2:=f1.trans f2
 have hx2:=hx0.mono (λ_ h=>h) λid h=>f2.same id (hA0 id h)
 have hA2:∀id,A id->id<n2:=λid h=>by have:=hA0 id h;omega
 refine AB (Ai (m:=9) g2 (by omega) rfl) (Cc hx2.vs ?_)
 refine AB (BZ (a:=tabs d) (b:=textE a) (by first|omega|(simp only[List.length_append];omega))) ?_
 rw[show V.str 3 2112800=sB ([32]++(EO++[32]))from rfl]
 refine AB (BZ (a:=tabs d++textE a) (b:=[32]++(EO++[32])) (by first|omega|(simp only[List.length_append];omega))) ?_
 refine ZJ (i:=1) (e:=b) hx2 hA2 rfl ihb (by omega) λH3 n3 f3=>?_
 have hn3:=f3.le
 have g3:=f3.get g2 (by omega)
 have f3:=f2.trans f3
 have hx3:=hx0.mono (λ_ h=>h) λid h=>f3.same id (hA0 id h)
 have hA3:∀id,A id->id<n3:=λid h=>by have:=hA0 id h;omega
 refine AB (BZ (a:=(tabs d++textE a)++([32]++(EO++[32]))) (b:=textE b) (by first|omega|(simp only[List.length_append];omega))) ?_
 rw[show V.str 2 2619=sB (BD++[10])from rfl]
 refine AB (BZ (a:=((tabs d++textE a)++([32]++(EO++[32])))++textE b) (b:=BD++[10]) (by first|omega|(simp only[List.length_append];omega))) ?_
 have hk:=hk _ _ f3
 try simp only[List.append_assoc]at hk
 try simp only[List.append_assoc]
 exact hk
theorem AUW{a:Ex}(iha:Es G a):Vu G (.mk 6 [] JO [a] [] []):=by
 intro H n d c A k hx0 hA0 hl hk
 have e0:textS d (.mk 6 [] JO [a] [] [])=tabs d++(E5++([32]++(textE a++(BD++[10])))):=by rw[D6];rfl
 rw[e0]at hl hk
 have htd:=Il d
 try simp only[List.length_append]at hl
 obtain⟨line,col,ve,vt,vl,ct,cl,rfl,he,ht,kt,hta,hct,hel,kl,hela,hcl⟩:=hx0.inv
 refine Am (s:=QH (BQ lfp G)) Ci (by obtain⟨h,o⟩:=Gz Ap G;rw[Ci]at h;cases h;exact o) ?_
 show BQ lfp G (Runs F G) (.agg (eu 6 line col [] JO ve vt vl)) (.int .i64 (.ofNat d) 0) H n k
 delta BQ
 refine Dh λH1 f1 g1=>?_
 have hx1:=hx0.mono (λ_ h=>h) λid h=>f1.same id (hA0 id h)
 have hA1:∀id,A id->id<n+1:=λid h=>by have:=hA0 id h;omega
 refine AB (ACX d) (zS (by omega) ?_)
 refine AB (Aa ..) (AB (AQ g1 rfl) ?_)
 repeat refine Ie (by decide) ?_
 refine F5 ?_
 rw[show V.str 7 9128637130630514=sB (E5++[32])from rfl]
 refine AB (BZ (a:=tabs d) (b:=E5++[32]) (by first|omega|(simp only[List.length_append];omega))) ?_
 refine AB (Ai (m:=9) g1 (by omega) rfl) ?_
 refine ZJ (i:=0) (e:=a) hx1 hA1 rfl iha (by omega) λH2 n2 f2=>?_
 have hn2:=f2.le
 have g2:=f2.get g1 (by omega)
 have f2:=f1.trans f2
 have hx2:=hx0.mono (λ_ h=>h) λid h=>f2.same id (hA0 id h)
 have hA2:∀id,A id->id<n2:=λid h=>by have:=hA0 id h;omega
 refine AB (BZ (a:=tabs d++(E5++[32])) (b:=textE a) (by first|omega|(simp only[List.length_append];omega))) ?_
 rw[show V.str 2 2619=sB (BD++[10])from rfl]
 refine AB (BZ (a:=(tabs d++(E5++[32]))++textE a) (b:=BD++[10]) (by first|omega|(simp only[List.length_append];omega))) ?_
 have hk:=hk _ _ f2
 try simp only[List.append_assoc]at hk
 try simp only[List.append_assoc]
 exact hk
theorem AWG{a:Ex}(iha:Es G a):Vu G (.mk 7 [] JO [a] [] []):=by
 intro H n d c A k hx0 hA0 hl hk
 have e0:textS d (.mk 7 [] JO [a] [] [])=tabs d++(Gv++([32]++(textE a++(BD++[10])))):=by rw[D6];rfl
 rw[e0]at hl hk
 have htd:=Il d
 try simp only[List.length_append]at hl
 obtain⟨line,col,ve,vt,vl,ct,cl,rfl,he,ht,kt,hta,hct,hel,kl,hela,hcl⟩:=hx0.inv
 refine Am (s:=QH (BQ lfp G)) Ci (by obtain⟨h,o⟩:=Gz Ap G;rw[Ci]at h;cases h;exact o) ?_
 show BQ lfp G (Runs F G) (.agg (eu 7 line col [] JO ve vt vl)) (.int .i64 (.ofNat d) 0) H n k
 delta BQ
 refine Dh λH1 f1 g1=>?_
 have hx1:=hx0.mono (λ_ h=>h) λid h=>f1.same id (hA0 id h)
 have hA1:∀id,A id->id<n+1:=λid h=>by have:=hA0 id h;omega
 refine AB (ACX d) (zS (by omega) ?_)
 refine AB (Aa ..) (AB (AQ g1 rfl) ?_)
 repeat refine Ie (by decide) ?_
 refine F5 ?_
 rw[show V.str 6 35684440699504=sB (Gv++[32])from rfl]
 refine AB (BZ (a:=tabs d) (b:=Gv++[32]) (by first|omega|(simp only[List.length_append];omega))) ?_
 refine AB (Ai (m:=9) g1 (by omega) rfl) ?_
 refine ZJ (i:=0) (e:=a) hx1 hA1 rfl iha (by omega) λH2 n2 f2=>?_
 have hn2:=f2.le
 have g2:=f2.get g1 (by omega)
 have f2:=f1.trans f2
 have hx2:=hx0.mono (λ_ h=>h) λid h=>f2.same id (hA0 id h)
 have hA2:∀id,A id->id<n2:=λid h=>by have:=hA0 id h;omega
 refine AB (BZ (a:=tabs d++(Gv++[32])) (b:=textE a) (by first|omega|(simp only[List.length_append];omega))) ?_
 rw[show V.str 2 2619=sB (BD++[10])from rfl]
 refine AB (BZ (a:=(tabs d++(Gv++[32]))++textE a) (b:=BD++[10]) (by first|omega|(simp only[List.length_append];omega))) ?_
 have hk:=hk _ _ f2
 try simp only[List.append_assoc]at hk
 try simp only[List.append_assoc]
 exact hk
theorem AUt{a:Ex}(iha:Es G a):Vu G (.mk 3 [] JO [a] [] []):=by
 intro H n d c A k hx0 hA0 hl hk
 have e0:textS d (.mk 3 [] JO [a] [] [])=tabs d++(textE a++(BD++[10])):=by rw[D6];rfl
 rw[e0]at hl hk
 have htd:=Il d
 try simp only[List.length_append]at hl
 obtain⟨line,col,ve,vt,vl,ct,cl,rfl,he,ht,kt,hta,hct,hel,kl,hela,hcl⟩:=hx0.inv
 refine Am (s:=QH (BQ lfp G)) Ci (by obtain⟨h,o⟩:=Gz Ap G;rw[Ci]at h;cases h;exact o) ?_
 show BQ lfp G (Runs F G) (.agg (eu 3 line col [] JO ve vt vl)) (.int .i64 (.ofNat d) 0) H n k
 delta BQ
 refine Dh λH1 f1 g1=>?_
 have hx1:=hx0.mono (λ_ h=>h) λid h=>f1.same id (hA0 id h)
 have hA1:∀id,A id->id<n+1:=λid h=>by have:=hA0 id h;omega
 refine AB (ACX d) (zS (by omega) ?_)
 refine AB (Aa ..) (AB (AQ g1 rfl) ?_)
 repeat refine Ie (by decide) ?_
 refine AB (Ai (m:=9) g1 (by omega) rfl) ?_
 refine ZJ (i:=0) (e:=a) hx1 hA1 rfl iha (by omega) λH2 n2 f2=>?_
 have hn2:=f2.le
 have g2:=f2.get g1 (by omega)
 have f2:=f1.trans f2
 have hx2:=hx0.mono (λ_ h=>h) λid h=>f2.same id (hA0 id h)
 have hA2:∀id,A id->id<n2:=λid h=>by have:=hA0 id h;omega
 refine AB (BZ (a:=tabs d) (b:=textE a) (by first|omega|(simp only[List.length_append];omega))) ?_
 rw[show V.str 2 2619=sB (BD++[10])from rfl]
 refine AB (BZ (a:=tabs d++textE a) (b:=BD++[10]) (by first|omega|(simp only[List.length_append];omega))) ?_
 have hk:=hk _ _ f2
 try simp only[List.append_assoc]at hk
 try simp only[List.append_assoc]
 exact hk
theorem ATN{a:Ex}(iha:Es G a){th:List St}(iht:∀x∈th,Vu G x):Vu G (.mk 5 [] JO [a] th []):=by
 intro H n d c A k hx0 hA0 hl hk
 have e0:textS d (.mk 5 [] JO [a] th [])=tabs d++(F7++([32]++(textE a++([32]++(Iz d (th.map (textS (d+1)))++[10]))))):=by rw[D6];rfl
 rw[e0]at hl hk
 have htd:=Il d
 try simp only[List.length_append]at hl
 obtain⟨line,col,ve,vt,vl,ct,cl,rfl,he,ht,kt,hta,hct,hel,kl,hela,hcl⟩:=hx0.inv
 refine Am (s:=QH (BQ lfp G)) Ci (by obtain⟨h,o⟩:=Gz Ap G;rw[Ci]at h;cases h;exact o) ?_
 show BQ lfp G (Runs F G) (.agg (eu 5 line col [] JO ve vt vl)) (.int .i64 (.ofNat d) 0) H n k
 delta BQ
 refine Dh λH1 f1 g1=>?_
 have hx1:=hx0.mono (λ_ h=>h) λid h=>f1.same id (hA0 id h)
 have hA1:∀id,A id->id<n+1:=λid h=>by have:=hA0 id h;omega
 refine AB (ACX d) (zS (by omega) ?_)
 refine AB (Aa ..) (AB (AQ g1 rfl) ?_)
 repeat refine Ie (by decide) ?_
 refine F5 ?_
 rw[show V.str 6 35619982633079=sB (F7++[32])from rfl]
 refine AB (BZ (a:=tabs d) (b:=F7++[32]) (by first|omega|(simp only[List.length_append];omega))) ?_
 refine AB (Ai (m:=9) g1 (by omega) rfl) ?_
 refine AB (Aa ..) (AB (v:=vt) (AQ g1 rfl) ?_)
 refine AB (ACX d) ?_
 refine ZJ (i:=0) (e:=a) hx1 hA1 rfl iha (by omega) λH2 n2 f2=>?_
 have hn2:=f2.le
 have g2:=f2.get g1 (by omega)
 have f2:=f1.trans f2
 have hx2:=hx0.mono (λ_ h=>h) λid h=>f2.same id (hA0 id h)
 have hA2:∀id,A id->id<n2:=λid h=>by have:=hA0 id h;omega
 refine AB (v:=vt) (AQ g2 rfl) (Cc (AI0 ht kt) ?_)
 refine AB (BZ (a:=tabs d++(F7++[32])) (b:=textE a) (by first|omega|(simp only[List.length_append];omega))) ?_
 refine AB (BZ (a:=(tabs d++(F7++[32]))++textE a) (b:=[32]) (by first|omega|(simp only[List.length_append];omega))) ?_
 refine AHa (ht.same λid hid=>f2.same id (hA0 id (hta id hid))) hta (hct.mono (λ_ h=>h) λid h=>f2.same id (hA0 id h)) hA2 iht (by omega) λH3 n3 f3=>?_
 have hn3:=f3.le
 have g3:=f3.get g2 (by omega)
 have f3:=f2.trans f3
 have hx3:=hx0.mono (λ_ h=>h) λid h=>f3.same id (hA0 id h)
 have hA3:∀id,A id->id<n3:=λid h=>by have:=hA0 id h;omega
 refine AB (BZ (a:=((tabs d++(F7++[32]))++textE a)++[32]) (b:=Iz d (th.map (textS (d+1)))) (by first|omega|(simp only[List.length_append];omega))) ?_
 refine AB (BZ (a:=(((tabs d++(F7++[32]))++textE a)++[32])++Iz d (th.map (textS (d+1)))) (b:=[10]) (by first|omega|(simp only[List.length_append];omega))) ?_
 have hk:=hk _ _ f3
 try simp only[List.append_assoc]at hk
 try simp only[List.append_assoc]
 exact hk
theorem AS8{a:Ex}(iha:Es G a){th:List St}(iht:∀x∈th,Vu G x):Vu G (.mk 4 [] JO [a] th []):=by
 intro H n d c A k hx0 hA0 hl hk
 have e0:textS d (.mk 4 [] JO [a] th [])=tabs d++(KH++([32]++(textE a++([32]++(Iz d (th.map (textS (d+1)))++[10]))))):=by rw[D6];rfl
 rw[e0]at hl hk
 have htd:=Il d
 try simp only[List.length_append]at hl
 obtain⟨line,col,ve,vt,vl,ct,cl,rfl,he,ht,kt,hta,hct,hel,kl,hela,hcl⟩:=hx0.inv
 refine Am (s:=QH (BQ lfp G)) Ci (by obtain⟨h,o⟩:=Gz Ap G;rw[Ci]at h;cases h;exact o) ?_
 show BQ lfp G (Runs F G) (.agg (eu 4 line col [] JO ve vt vl)) (.int .i64 (.ofNat d) 0) H n k
 delta BQ
 refine Dh λH1 f1 g1=>?_
 have hx1:=hx0.mono (λ_ h=>h) λid h=>f1.same id (hA0 id h)
 have hA1:∀id,A id->id<n+1:=λid h=>by have:=hA0 id h;omega
 refine AB (ACX d) (zS (by omega) ?_)
 refine AB (Aa ..) (AB (AQ g1 rfl) ?_)
 repeat refine Ie (by decide) ?_
 refine F5 ?_
 rw[show V.str 3 2123369=sB (KH++[32])from rfl]
 refine AB (BZ (a:=tabs d) (b:=KH++[32]) (by first|omega|(simp only[List.length_append];omega))) ?_
 refine AB (Ai (m:=9) g1 (by omega) rfl) ?_
 refine AB (Aa ..) (AB (v:=vt) (AQ g1 rfl) ?_)
 refine AB (ACX d) ?_
 refine ZJ (i:=0) (e:=a) hx1 hA1 rfl iha (by omega) λH2 n2 f2=>?_
 have hn2:=f2.le
 have g2:=f2.get g1 (by omega)
 have f2:=f1.trans f2
 have hx2:=hx0.mono (λ_ h=>h) λid h=>f2.same id (hA0 id h)
 have hA2:∀id,A id->id<n2:=λid h=>by have:=hA0 id h;omega
 refine AB (v:=vt) (AQ g2 rfl) (Cc (AI0 ht kt) ?_)
 refine AB (BZ (a:=tabs d++(KH++[32])) (b:=textE a) (by first|omega|(simp only[List.length_append];omega))) ?_
 refine AB (BZ (a:=(tabs d++(KH++[32]))++textE a) (b:=[32]) (by first|omega|(simp only[List.length_append];omega))) ?_
 refine AHa (ht.same λid hid=>f2.same id (hA0 id (hta id hid))) hta (hct.mono (λ_ h=>h) λid h=>f2.same id (hA0 id h)) hA2 iht (by omega) λH3 n3 f3=>?_
 have hn3:=f3.le
 have g3:=f3.get g2 (by omega)
 have f3:=f2.trans f3
 have hx3:=hx0.mono (λ_ h=>h) λid h=>f3.same id (hA0 id h)
 have hA3:∀id,A id->id<n3:=λid h=>by have:=hA0 id h;omega
 refine AB (BZ (a:=((tabs d++(KH++[32]))++textE a)++[32]) (b:=Iz d (th.map (textS (d+1)))) (by first|omega|(simp only[List.length_append];omega))) ?_
 refine AB (Aa ..) (AB (v:=vl) (AQ g3 rfl) (AB (hel.same λid hid=>f3.same id (hA0 id (hela id hid))).len (AB (NG ..) ?_)))
 rw[hcl.len,decide_eq_false (show ¬0<([]:List St).length from Nat.lt_irrefl _),Aq]
 delta KD
 refine AB (BZ (a:=(((tabs d++(KH++[32]))++textE a)++[32])++Iz d (th.map (textS (d+1)))) (b:=[10]) (by first|omega|(simp only[List.length_append];omega))) ?_
 have hk:=hk _ _ f3
 try simp only[List.append_assoc]at hk
 try simp only[List.append_assoc]
 exact hk
theorem ARf{a:Ex}(iha:Es G a){th:List St}(iht:∀x∈th,Vu G x){y:St}{el:List St}(ihe:∀x∈y::el,Vu G x):Vu G (.mk 4 [] JO [a] th (y::el)):=by
 intro H n d c A k hx0 hA0 hl hk
 have e0:textS d (.mk 4 [] JO [a] th (y::el))=tabs d++(KH++([32]++(textE a++([32]++(Iz d (th.map (textS (d+1)))++(([32]++(Ec++([32]++Iz d ((y::el).map (textS (d+1))))))++[10])))))):=by rw[D6];rfl
 rw[e0]at hl hk
 have htd:=Il d
 try simp only[List.length_append]at hl
 obtain⟨line,col,ve,vt,vl,ct,cl,rfl,he,ht,kt,hta,hct,hel,kl,hela,hcl⟩:=hx0.inv
 refine Am (s:=QH (BQ lfp G)) Ci (by obtain⟨h,o⟩:=Gz Ap G;rw[Ci]at h;cases h;exact o) ?_
 show BQ lfp G (Runs F G) (.agg (eu 4 line col [] JO ve vt vl)) (.int .i64 (.ofNat d) 0) H n k
 delta BQ
 refine Dh λH1 f1 g1=>?_
 have hx1:=hx0.mono (λ_ h=>h) λid h=>f1.same id (hA0 id h)
 have hA1:∀id,A id->id<n+1:=λid h=>by have:=hA0 id h;omega
 refine AB (ACX d) (zS (by omega) ?_)
 refine AB (Aa ..) (AB (AQ g1 rfl) ?_)
 repeat refine Ie (by decide) ?_
 refine F5 ?_
 rw[show V.str 3 2123369=sB (KH++[32])from rfl]
 refine AB (BZ (a:=tabs d) (b:=KH++[32]) (by first|omega|(simp only[List.length_append];omega))) ?_
 refine AB (Ai (m:=9) g1 (by omega) rfl) ?_
 refine AB (Aa ..) (AB (v:=vt) (AQ g1 rfl) ?_)
 refine AB (ACX d) ?_
 refine ZJ (i:=0) (e:=a) hx1 hA1 rfl iha (by omega) λH2 n2 f2=>?_
 have hn2:=f2.le
 have g2:=f2.get g1 (by omega)
 have f2:=f1.trans f2
 have hx2:=hx0.mono (λ_ h=>h) λid h=>f2.same id (hA0 id h)
 have hA2:∀id,A id->id<n2:=λid h=>by have:=hA0 id h;omega
 refine AB (v:=vt) (AQ g2 rfl) (Cc (AI0 ht kt) ?_)
 refine AB (BZ (a:=tabs d++(KH++[32])) (b:=textE a) (by first|omega|(simp only[List.length_append];omega))) ?_
 refine AB (BZ (a:=(tabs d++(KH++[32]))++textE a) (b:=[32]) (by first|omega|(simp only[List.length_append];omega))) ?_
 refine AHa (ht.same λid hid=>f2.same id (hA0 id (hta id hid))) hta (hct.mono (λ_ h=>h) λid h=>f2.same id (hA0 id h)) hA2 iht (by omega) λH3 n3 f3=>?_
 have hn3:=f3.le
 have g3:=f3.get g2 (by omega)
 have f3:=f2.trans f3
 have hx3:=hx0.mono (λ_ h=>h) λid h=>f3.same id (hA0 id h)
 have hA3:∀id,A id->id<n3:=λid h=>by have:=hA0 id h;omega
 refine AB (BZ (a:=((tabs d++(KH++[32]))++textE a)++[32]) (b:=Iz d (th.map (textS (d+1)))) (by first|omega|(simp only[List.length_append];omega))) ?_
 refine AB (Aa ..) (AB (v:=vl) (AQ g3 rfl) (AB (hel.same λid hid=>f3.same id (hA0 id (hela id hid))).len (AB (NG ..) ?_)))
 rw[hcl.len,decide_eq_true (show 0<(y::el).length from Nat.succ_pos _),Ah]
 refine AB (Aa ..) (AB (v:=vl) (AQ g3 rfl) ?_)
 refine AB (ACX d) ?_
 refine AHa (hel.same λid hid=>f3.same id (hA0 id (hela id hid))) hela (hcl.mono (λ_ h=>h) λid h=>f3.same id (hA0 id h)) hA3 ihe (by omega) λH4 n4 f4=>?_
 have hn4:=f4.le
 have g4:=f4.get g3 (by omega)
 have f4:=f3.trans f4
 have hx4:=hx0.mono (λ_ h=>h) λid h=>f4.same id (hA0 id h)
 have hA4:∀id,A id->id<n4:=λid h=>by have:=hA0 id h;omega
 rw[show V.str 6 35620100269344=sB ([32]++(Ec++[32]))from rfl]
 refine AB (BZ (a:=[32]++(Ec++[32])) (b:=Iz d ((y::el).map (textS (d+1)))) (by first|omega|(simp only[List.length_append];omega))) ?_
 refine AB (BZ (a:=(((tabs d++(KH++[32]))++textE a)++[32])++Iz d (th.map (textS (d+1)))) (b:=([32]++(Ec++[32]))++Iz d ((y::el).map (textS (d+1)))) (by first|omega|(simp only[List.length_append];omega))) ?_
 delta KD
 refine AB (BZ (a:=((((tabs d++(KH++[32]))++textE a)++[32])++Iz d (th.map (textS (d+1))))++(([32]++(Ec++[32]))++Iz d ((y::el).map (textS (d+1))))) (b:=[10]) (by first|omega|(simp only[List.length_append];omega))) ?_
 have hk:=hk _ _ f4
 try simp only[List.append_assoc]at hk
 try simp only[List.append_assoc]
 exact hk
theorem ATV(hG:jY G){e:St}(h:WrS e):Vu G e:=by
 induction h with
 |lt hl ht he=>exact AZG (jc hG he)
 |put ha hk hb=>exact AWR (jc hG ha) (jc hG hb)
 |ask ha hk=>exact AUt (jc hG ha)
 | @ite c th el hc ht he iht ihe=>
  cases el with
  |nil=>exact AS8 (jc hG hc) iht
  |cons y el=>exact ARf (jc hG hc) iht ihe
 |loop hc ht iht=>exact ATN (jc hG hc) iht
 |ret ha=>exact AUW (jc hG ha)
 |prt ha=>exact AWG (jc hG ha)
end
def preB(st:Bool):Bs:=bif st then[9]++(Ip++([32]++(En++[32])))else[9]++(En++[32])
def headB(m:Me):Bs:=preB m.st++(pV m.ret++([32]++(m.nm++(BJ++(IZ (m.ps.map mW)++(BM++[32]))))))
theorem ADb(m:Me):V7 m=headB m++(Iz 1 (m.body.map (textS 2))++[10]):=by
 unfold V7 headB preB
 cases m.st<;>simp only[cond_true,cond_false,List.append_assoc,List.nil_append]
theorem aF.inv{G:AV}{H:Heap}{A:Nat->Prop}{c:LV}{m:Me}(h:aF G H A c m):∃line col vp vb,c=meC line col m.nm m.st vp m.ret vb/\AAb G H A vp m.ps/\PI G H A vb m.body:=by
 cases h with
 |mk line col hp hb=>exact⟨line,col,_,_,rfl,hp,hb⟩
theorem Y7.at{G:AV}{H:Heap}{A:Nat->Prop}:∀{cs:Du} {es:List Me} {i:Nat} {e:Me},Y7 G H A cs es->es[i]? =some e->∃c,cs[i]? =some c/\aF G H A c e
 |_,_,0,_,.cons h _,he=>⟨_,rfl,by cases he;exact h⟩
 |_,_,i+1,_,.cons _ t,he=>Y7.at t (i:=i) he
theorem AH1(b:Bool):(preB b).length<=15:=by cases b<;>decide
section
variable{G:AV}{H:Heap}{n:Nat}{k:KV}
theorem ASV{m:Me}{c:LV}{A:Nat->Prop}(hc:aF G H A c m)(hA:∀id,A id->id<n)(hn:m.ps.length<=1000000)(hl:(headB m).length<=100000000000)
 (hk:∀H' n',Kp H n H' n'->k (sB (headB m)) H' n'):Runs F G bF [.agg c] H n k:=by
 obtain⟨line,col,vp,vb,rfl,⟨hel,_,_,_,hva⟩,_⟩:=hc.inv
 have hl2:=hl
 unfold headB at hl2
 simp only[List.length_append]at hl2
 have ht:=AC1 m.ret
 refine Am (s:=Gx (QZ lfp G)) Ul (by obtain⟨h,o⟩:=yA Ap G;rw[Ul]at h;cases h;exact o) ?_
 show QZ lfp G (Runs F G) (.agg (meC line col m.nm m.st vp m.ret vb)) H n k
 delta QZ
 refine Dh λH1 f1 g1=>?_
 have main:G7 lfp G (Runs F G) k (.ptr n 0) (sB (preB m.st)) H1 (n+1):=by
  show G7 lfp G (Runs F G) k (.ptr n 0) (sB (preB m.st)) H1 (n+1)
  delta G7
  have hel1:El G H1 vp 3 (m.ps.map vaC):=hel.kp (λid hid=>hA id (hva id hid)) f1
  refine AB (Aa ..) (AB (v:=vp) (AQ g1 rfl) (AB hel1.len ?_))
  rw[List.length_map]
  refine ER (N:=m.ps.length) (J:=λj q=>∃w H' n',q=(.ptr n 0,sB (preB m.st),w,vp,.int .i64 (.ofNat m.ps.length) 0,.int .i64 (.ofNat j) 0,H',n')/\Kp H1 (n+1) H' n'/\Own G H' (n+1) n' 1 w (((m.ps.map mW).take j).map λb=>[sB b])) ?_ ?_ ⟨.Ad,H1,n+1,rfl,Kp.refl ..,XW⟩
  ·rintro I j q hlt ⟨w,H2,n2,rfl,f2,ho⟩ ih
   show Iu lfp G (Runs F G) k I (.ptr n 0) (sB (preB m.st)) w vp (.int .i64 (.ofNat m.ps.length) 0) (.int .i64 (.ofNat j) 0) H2 n2
   delta Iu
   have hn2:=f2.le
   have hel2:El G H2 vp 3 (m.ps.map vaC):=hel1.kp (λid hid=>by have:=hA id (hva id hid);omega) f2
   have hcx:(m.ps.map vaC)[j]? =some (vaC m.ps[j]):=by rw[List.getElem?_map,List.getElem?_eq_getElem hlt];rfl
   obtain⟨p,hp,hld⟩:=hel2.at hcx
   rw[ES,Aw,decide_eq_true hlt,Ah]
   refine AB hp (AB (Jz hld) ?_)
   refine Az rfl λH3 f3 g3=>?_
   refine CB (L:=vaC m.ps[j]) g3 rfl rfl (by omega) λH4 g4 t4=>?_
   have f4:Kp H2 n2 H4 (n2+1):=⟨f3.le,λid hid=>(t4 id (by omega)).trans (f3.same id hid)⟩
   have hlx:(mW m.ps[j]).length<=(IZ (m.ps.map mW)).length:=AE6 _ _ (List.mem_map_of_mem (List.getElem_mem hlt))
   have hpx:(mW m.ps[j]).length=(pV m.ps[j].ty).length+(1+m.ps[j].nm.length):=by unfold mW;simp only[List.length_append,List.length_cons,List.length_nil]
   have htx:=AC1 m.ps[j].ty
   refine AB (Aa ..) (AB (v:=.agg (tyC m.ps[j].ty)) (MW g4 (by omega) (by show 1+2<=3;omega)) ?_)
   refine AB (Aa ..) (AB (v:=sB m.ps[j].nm) (AQ g4 rfl) ?_)
   refine AFv (by omega) λH5 f5=>?_
   have g5:=f5.get g4 (by omega)
   refine AB (AQ g5 rfl) (Cc (Uy _) ?_)
   refine AB (BZ (a:=pV m.ps[j].ty) (b:=[32]) (by show _+1<_;omega)) ?_
   refine AB (BZ (a:=pV m.ps[j].ty++[32]) (b:=m.ps[j].nm) (by simp only[List.length_append,List.length_cons,List.length_nil];omega)) ?_
   have ho5:=(ho.kp f4).kp f5
   refine AJC ho5 (by omega) (by rw[List.length_map,List.length_take,List.length_map];omega) λv' H6 ho6 hs6 _=>?_
   refine AB (Ee (by omega)) ?_
   refine ih _ ⟨v',H6,_,rfl,⟨by omega,λid hid=>(hs6 id (by omega) (λe=>by have:=ho5.ge e;omega)).trans ((f5.same id (by omega)).trans ((f4.same id (by omega)).trans (f2.same id hid)))⟩,?_⟩
   rw[List.take_succ_eq_append_getElem (by rw[List.length_map];exact hlt),List.map_append,List.getElem_map]
   rw[List.append_assoc]at ho6
   exact ho6
  ·rintro I q ⟨w,H2,n2,rfl,f2,ho⟩
   show Iu lfp G (Runs F G) k I (.ptr n 0) (sB (preB m.st)) w vp (.int .i64 (.ofNat m.ps.length) 0) (.int .i64 (.ofNat m.ps.length) 0) H2 n2
   delta Iu
   rw[ES,Aw,decide_eq_false (Nat.lt_irrefl _),Aq]
   show MF lfp G (Runs F G) k (.ptr n 0) (sB (preB m.st)) w H2 n2
   delta MF
   rw[show(m.ps.map mW).take m.ps.length=m.ps.map mW by rw[<-List.length_map (f:=mW),List.take_length]]at ho
   have hn2:=f2.le
   have g2:=f2.get g1 (by omega)
   refine AB (Aa ..) (AB (v:=.agg (tyC m.ret)) (MW g2 (by omega) (by show 5+2<=8;omega)) ?_)
   refine AB (Aa ..) (AB (v:=sB m.nm) (AQ g2 rfl) ?_)
   refine AFv (by omega) λH3 f3=>?_
   have g3:=f3.get g2 (by omega)
   refine AB (AQ g3 rfl) (Cc (Uy _) ?_)
   have hpl:=AH1 m.st
   refine AB (BZ (a:=preB m.st) (b:=pV m.ret) (by omega)) ?_
   refine AB (BZ (a:=preB m.st++pV m.ret) (b:=[32]) (by first|omega|(simp only[List.length_append];omega))) ?_
   refine AB (BZ (a:=(preB m.st++pV m.ret)++[32]) (b:=m.nm) (by first|omega|(simp only[List.length_append];omega))) ?_
   refine AB (BZ (a:=((preB m.st++pV m.ret)++[32])++m.nm) (b:=BJ) (by first|omega|(simp only[List.length_append];omega))) ?_
   refine AOq ((ho.kp f3).el (by omega)) (by rw[List.length_map];exact hn) (by omega) ?_
   refine AB (AQ g3 rfl) (Cc (Uy _) ?_)
   refine AB (BZ (a:=(((preB m.st++pV m.ret)++[32])++m.nm)++BJ) (b:=IZ (m.ps.map mW)) (by first|omega|(simp only[List.length_append];omega))) ?_
   rw[show V.str 2 8233=sB (BM++[32])from rfl]
   refine AB (BZ (a:=((((preB m.st++pV m.ret)++[32])++m.nm)++BJ)++IZ (m.ps.map mW)) (b:=BM++[32]) (by first|omega|(simp only[List.length_append];omega))) ?_
   have hk:=hk _ _ ((f1.trans f2).trans f3)
   unfold headB at hk
   simpa only[List.append_assoc]using hk
 refine AB (Aa ..) (AB (v:=.bool m.st) (AQ g1 rfl) ?_)
 cases hst:m.st with
 |true=>rw[Ah];rw[hst]at main;exact main
 |false=>rw[Aq];rw[hst]at main;exact main
end
theorem Zm.inv{G:AV}{H:Heap}{A:Nat->Prop}{c:LV}{x:Cl}(h:Zm G H A c x):∃line col vf vm,c=clC line col x.nm x.sup vf vm/\AAb G H A vf x.fs/\AOQ G H A vm x.ms:=by
 cases h with
 |mk line col hf hm=>exact⟨line,col,_,_,rfl,hf,hm⟩
def AGK(c:Cl):Bs:=bif c.sup.isEmpty then[]else[32]++(I7++([32]++c.sup))
theorem ALS{α:Type}{f:α->Bs}{xs:List α}{j:Nat}(h:j<xs.length):((xs.map f).take (j+1)).flatten=((xs.map f).take j).flatten++f xs[j]:=by
 rw[List.take_succ_eq_append_getElem (by rw[List.length_map];exact h),List.flatten_append,List.getElem_map];simp
theorem AOO{α:Type}{f:α->Bs}{xs:List α}:(xs.map f).take xs.length=xs.map f:=by
 rw[<-List.length_map (f:=f),List.take_length]
section
variable{G:AV}{H:Heap}{n:Nat}{k:KV}
theorem AQg(hG:jY G){x:Cl}{c:LV}{A:Nat->Prop}(hc:Zm G H A c x)(hA:∀id,A id->id<n)(hw:WrC x)(hl:(Zz x).length<=100000000000)
 (hk:∀H' n',Kp H n H' n'->k (sB (Zz x)) H' n'):Runs F G iK [.agg c] H n k:=by
 obtain⟨line,col,vf,vm,rfl,⟨helf,_,_,_,hvaf⟩,cs,helm,_,_,_,hvam,hcm⟩:=hc.inv
 have hl2:(OL++([32]++(x.nm++(AGK x++([32]++(Ns++([10]++((x.fs.map Oq).flatten++((x.ms.map V7).flatten++(m_rc++[10])))))))))).length<=100000000000:=hl
 simp only[List.length_append]at hl2
 have hk:∀H' n',Kp H n H' n'->k (sB (OL++([32]++(x.nm++(AGK x++([32]++(Ns++([10]++((x.fs.map Oq).flatten++((x.ms.map V7).flatten++(m_rc++[10]))))))))))) H' n':=hk
 have e1:([32]:Bs).length=1/\([10]:Bs).length=1/\([9]:Bs).length=1/\BD.length=1/\Ns.length=1/\m_rc.length=1/\OL.length=5/\PG.length=5/\I7.length=7:=⟨rfl,rfl,rfl,rfl,rfl,rfl,rfl,rfl,rfl⟩
 refine Am (s:=Gx (SX lfp G)) VO (by obtain⟨h,o⟩:=AAG Ap G;rw[VO]at h;cases h;exact o) ?_
 show SX lfp G (Runs F G) (.agg (clC line col x.nm x.sup vf vm)) H n k
 delta SX
 refine Dh λH1 f1 g1=>?_
 refine APb λH2 f2 b2=>?_
 have g2:=f2.get g1 (by omega)
 have f2:=f1.trans f2
 refine AB (Aa ..) (AB (v:=sB x.nm) (AQ g2 rfl) ?_)
 rw[show V.str 6 35680229092451=sB (OL++[32])from rfl]
 refine AB (BZ (by simp only[List.length_append];omega)) ?_
 refine qI b2 (by simp only[List.length_append,List.length_nil];omega) λ_ H3 f3 b3=>?_
 rw[List.nil_append]at b3
 have g3:=(f3.same n (by omega)).trans g2
 have f3:Kp H n H3 (n+1+1+1):=⟨by omega,λid hid=>(f3.same id (by omega)).trans (f2.same id hid)⟩
 refine AB (Aa ..) (AB (v:=sB x.sup) (AQ g3 rfl) ?_)
 have main:∀H4 n4,Kp H n H4 n4->n+1<n4->T.get H4 n=some (one (clC line col x.nm x.sup vf vm))->Bu H4 n4 (n+1) ((OL++[32])++x.nm++AGK x)->IY lfp G (Runs F G) k (.ptr n 0) (.ptr (n+1) 0) H4 n4:=by
  intro H4 n4 f4 hn4 g4 b4
  show IY lfp G (Runs F G) k (.ptr n 0) (.ptr (n+1) 0) H4 n4
  delta IY
  rw[show V.str 3 686880=sB ([32]++(Ns++[10]))from rfl]
  refine qI b4 (by simp only[List.length_append];omega) λ_ H5 f5 b5=>?_
  have g5:=(f5.same n (by omega)).trans g4
  have f5:Kp H n H5 (n4+1):=⟨by have:=f4.le;omega,λid hid=>(f5.same id (by omega)).trans (f4.same id hid)⟩
  have helf5:El G H5 vf 3 (x.fs.map vaC):=helf.kp (λid hid=>hA id (hvaf id hid)) f5
  refine AB (Aa ..) (AB (v:=vf) (AQ g5 rfl) (AB helf5.len ?_))
  rw[List.length_map]
  generalize hl0:(OL++[32])++x.nm++AGK x++([32]++(Ns++[10]))=L0 at b5
  have hL0:L0.length=OL.length+([32]:Bs).length+x.nm.length+(AGK x).length+(([32]:Bs).length+(Ns.length+([10]:Bs).length)):=by rw[<-hl0];simp only[List.length_append]
  refine ER (N:=x.fs.length) (J:=λj q=>∃H' n',q=(.ptr n 0,.ptr (n+1) 0,vf,.int .i64 (.ofNat x.fs.length) 0,.int .i64 (.ofNat j) 0,H',n')/\Kp H5 (n+1) H' n'/\n+1<n'/\Bu H' n' (n+1) (L0++((x.fs.map Oq).take j).flatten)) ?_ ?_
   ⟨H5,n4+1,rfl,⟨by omega,λ_ _=>rfl⟩,by omega,by simpa using b5⟩
  ·rintro I j q hlt ⟨H6,n6,rfl,f6,hn6,b6⟩ ih
   show Jc lfp G (Runs F G) k I (.ptr n 0) (.ptr (n+1) 0) vf (.int .i64 (.ofNat x.fs.length) 0) (.int .i64 (.ofNat j) 0) H6 n6
   delta Jc
   have hel6:El G H6 vf 3 (x.fs.map vaC):=helf5.kp (λid hid=>by have:=hA id (hvaf id hid);omega) f6
   have hcx:(x.fs.map vaC)[j]? =some (vaC x.fs[j]):=by rw[List.getElem?_map,List.getElem?_eq_getElem hlt];rfl
   obtain⟨p,hp,hld⟩:=hel6.at hcx
   rw[ES,Aw,decide_eq_true hlt,Ah]
   refine AB hp (AB (Jz hld) ?_)
   refine Az rfl λH7 f7 g7=>?_
   refine CB (L:=vaC x.fs[j]) g7 rfl rfl (by omega) λH8 g8 t8=>?_
   have f8:Kp H6 n6 H8 (n6+1):=⟨f7.le,λid hid=>(t8 id (by omega)).trans (f7.same id hid)⟩
   have eft:=ALS (f:=Oq) hlt
   have hft:=ZW (x.fs.map Oq) (j+1)
   rw[eft,List.length_append]at hft
   have hpx:(Oq x.fs[j]).length=1+(5+(1+((pV x.fs[j].ty).length+(1+(x.fs[j].nm.length+2))))):=by unfold Oq;simp only[List.length_append];omega
   have htx:=AC1 x.fs[j].ty
   refine AB (Aa ..) (AB (v:=.agg (tyC x.fs[j].ty)) (MW g8 (by omega) (by show 1+2<=3;omega)) ?_)
   refine AB (Aa ..) (AB (v:=sB x.fs[j].nm) (AQ g8 rfl) ?_)
   refine AFv (by omega) λH9 f9=>?_
   have g9:=f9.get g8 (by omega)
   refine AB (AQ g9 rfl) (Cc (Uy _) ?_)
   rw[show V.str 7 9117615975392777=sB ([9]++(PG++[32]))from rfl]
   refine AB (BZ (b:=pV x.fs[j].ty) (by simp only[List.length_append];omega)) ?_
   refine AB (BZ (b:=[32]) (by simp only[List.length_append];omega)) ?_
   refine AB (BZ (b:=x.fs[j].nm) (by simp only[List.length_append];omega)) ?_
   rw[show V.str 2 2619=sB (BD++[10])from rfl]
   refine AB (BZ (b:=BD++[10]) (by simp only[List.length_append];omega)) ?_
   rw[show([9]++(PG++[32]))++pV x.fs[j].ty++[32]++x.fs[j].nm++(BD++[10])=Oq x.fs[j]by unfold Oq;simp only[List.append_assoc]]
   have b9:=(b6.kp f8).kp f9
   refine qI b9 (by simp only[List.length_append];omega) λ_ H10 f10 b10=>?_
   have:=hw.fn
   refine AB (Ee (by omega)) ?_
   refine ih _ ⟨H10,_,rfl,⟨by omega,λid hid=>(f10.same id hid).trans ((f9.same id (by omega)).trans ((f8.same id (by omega)).trans (f6.same id hid)))⟩,by omega,?_⟩
   rw[eft,<-List.append_assoc]
   exact b10
  ·rintro I q ⟨H6,n6,rfl,f6,hn6,b6⟩
   show Jc lfp G (Runs F G) k I (.ptr n 0) (.ptr (n+1) 0) vf (.int .i64 (.ofNat x.fs.length) 0) (.int .i64 (.ofNat x.fs.length) 0) H6 n6
   delta Jc
   rw[ES,Aw,decide_eq_false (Nat.lt_irrefl _),Aq]
   show Nz lfp G (Runs F G) k (.ptr n 0) (.ptr (n+1) 0) H6 n6
   delta Nz
   rw[AOO]at b6
   have g6:=(f6.same n (by omega)).trans g5
   have f6:Kp H n H6 n6:=⟨by omega,λid hid=>(f6.same id (by omega)).trans (f5.same id hid)⟩
   have helm6:El G H6 vm 8 cs:=helm.kp (λid hid=>hA id (hvam id hid)) f6
   refine AB (Aa ..) (AB (v:=vm) (AQ g6 rfl) (AB helm6.len ?_))
   rw[hcm.len]
   generalize hl1:L0++(x.fs.map Oq).flatten=L1 at b6
   have hL1:L1.length=L0.length+(x.fs.map Oq).flatten.length:=by rw[<-hl1,List.length_append]
   refine ER (N:=x.ms.length) (J:=λj q=>∃H' n',q=(.ptr (n+1) 0,vm,.int .i64 (.ofNat x.ms.length) 0,.int .i64 (.ofNat j) 0,H',n')/\Kp H6 (n+1) H' n'/\n+1<n'/\Bu H' n' (n+1) (L1++((x.ms.map V7).take j).flatten)) ?_ ?_
    ⟨H6,n6,rfl,⟨by omega,λ_ _=>rfl⟩,by omega,by simpa using b6⟩
   ·rintro I j q hlt ⟨H7,n7,rfl,f7,hn7,b7⟩ ih
    show JV lfp G (Runs F G) k I (.ptr (n+1) 0) vm (.int .i64 (.ofNat x.ms.length) 0) (.int .i64 (.ofNat j) 0) H7 n7
    delta JV
    have f7':Kp H n H7 n7:=⟨by omega,λid hid=>(f7.same id (by omega)).trans (f6.same id hid)⟩
    have hel7:El G H7 vm 8 cs:=helm.kp (λid hid=>hA id (hvam id hid)) f7'
    have hcm7:Y7 G H7 A cs x.ms:=hcm.mono (λ_ h=>h) λid h=>f7'.same id (hA id h)
    obtain⟨cx,hcx,hx⟩:=hcm7.at (List.getElem?_eq_getElem hlt)
    obtain⟨p,hp,hld⟩:=hel7.at hcx
    rw[ES,Aw,decide_eq_true hlt,Ah]
    refine AB hp (AB (Jz hld) ?_)
    refine Az rfl λH8 f8 g8=>?_
    refine CB (L:=cx) g8 rfl hx.len (by omega) λH9 g9 t9=>?_
    have f9:Kp H7 n7 H9 (n7+1):=⟨f8.le,λid hid=>(t9 id (by omega)).trans (f8.same id hid)⟩
    have hx9:aF G H9 A cx x.ms[j]:=hx.mono (λ_ h=>h) λid h=>f9.same id (by have:=hA id h;omega)
    have hwm:=hw.ms _ (List.getElem_mem hlt)
    obtain⟨ml,mc,vp,vb,hcxe,hpp,hbb⟩:=hx9.inv
    obtain⟨bs,hbel,hbk,_,_,hbva,hbc⟩:=hbb
    have eft:=ALS (f:=V7) hlt
    have hft:=ZW (x.ms.map V7) (j+1)
    rw[eft,List.length_append]at hft
    have hpx:(V7 x.ms[j]).length=(headB x.ms[j]).length+((Iz 1 (x.ms[j].body.map (textS 2))).length+1):=by rw[ADb];simp only[List.length_append];omega
    refine AB (Ai (m:=8) g9 (by omega) hx.len) ?_
    refine AB (Aa ..) (AB (v:=vb) (AQ g9 (by rw[hcxe];rfl)) ?_)
    refine ASV hx9 (λid h=>by have:=hA id h;omega) (by have:=hwm.pn;omega) (by omega) λH10 n10 f10=>?_
    have hn10:=f10.le
    have g10:=f10.get g9 (by omega)
    refine AB (v:=vb) (AQ g10 (by rw[hcxe];rfl)) (Cc (AI0 hbel hbk) ?_)
    refine AHa (d:=1) (hbel.same λid hid=>f10.same id (by have:=hA id (hbva id hid);omega)) hbva (hbc.mono (λ_ h=>h) λid h=>f10.same id (by have:=hA id h;omega)) (λid h=>by have:=hA id h;omega) (λs hs=>ATV hG (hwm.body s hs)) (by show(Iz 1 (x.ms[j].body.map (textS 2))).length<=_;omega) λH11 n11 f11=>?_
    have hn11:=f11.le
    show AP (B2.ev .add (sB (headB x.ms[j])) (sB (Iz 1 (x.ms[j].body.map (textS 2))))) _
    refine AB (BZ (by omega)) ?_
    rw[show V.str 1 10=sB [10]from rfl]
    refine AB (BZ (by simp only[List.length_append];omega)) ?_
    rw[show headB x.ms[j]++Iz 1 (x.ms[j].body.map (textS 2))++[10]=V7 x.ms[j]by rw[ADb];simp only[List.append_assoc]]
    have b11:=((b7.kp f9).kp f10).kp f11
    refine qI b11 (by simp only[List.length_append];omega) λ_ H12 f12 b12=>?_
    have:=hw.mn
    refine AB (Ee (by omega)) ?_
    refine ih _ ⟨H12,_,rfl,⟨by omega,λid hid=>(f12.same id hid).trans ((f11.same id (by omega)).trans ((f10.same id (by omega)).trans ((f9.same id (by omega)).trans (f7.same id hid))))⟩,by omega,?_⟩
    rw[eft,<-List.append_assoc]
    exact b12
   ·rintro I q ⟨H7,n7,rfl,f7,hn7,b7⟩
    show JV lfp G (Runs F G) k I (.ptr (n+1) 0) vm (.int .i64 (.ofNat x.ms.length) 0) (.int .i64 (.ofNat x.ms.length) 0) H7 n7
    delta JV
    rw[ES,Aw,decide_eq_false (Nat.lt_irrefl _),Aq]
    show L9 lfp G (Runs F G) k (.ptr (n+1) 0) H7 n7
    delta L9
    rw[AOO]at b7
    rw[show V.str 2 2685=sB (m_rc++[10])from rfl]
    refine qI b7 (by simp only[List.length_append];omega) λ_ H8 f8 b8=>?_
    refine AOt b8 λH9 f9=>?_
    have hk:=hk H9 (n7+1) ⟨by omega,λid hid=>(f9.same id (by omega)).trans ((f8.same id (by omega)).trans ((f7.same id (by omega)).trans (f6.same id hid)))⟩
    rw[<-hl1,<-hl0]
    simpa only[List.append_assoc]using hk
 cases hs:x.sup with
 |nil=>
  rw[show EX (.one .str) true (sB []) (.str 0 0)=some (.bool false)from rfl,Aw,Aq]
  refine main _ _ f3 (by omega) g3 ?_
  rw[show AGK x=[]by unfold AGK;rw[hs];rfl,List.append_nil]
  exact b3
 |cons a s=>
  have h1:EX (.one .str) true (sB (a::s)) (.str 0 0)=some (.bool true):=(ART (a::s) []).trans (by simp)
  rw[h1,Aw,Ah]
  refine AB (Aa ..) (AB (v:=sB x.sup) (AQ g3 rfl) ?_)
  have hsb:AGK x=[32]++(I7++([32]++x.sup)):=by unfold AGK;rw[hs];rfl
  rw[hsb]at hl2
  simp only[List.length_append]at hl2
  rw[show V.str 9 598610702552763229472=sB ([32]++(I7++[32]))from rfl]
  refine AB (BZ (by simp only[List.length_append];omega)) ?_
  refine qI b3 (by simp only[List.length_append];omega) λ_ H4 f4 b4=>?_
  refine main _ _ ⟨by omega,λid hid=>(f4.same id (by omega)).trans (f3.same id hid)⟩ (by omega) ((f4.same n (by omega)).trans g3) ?_
  rw[hsb]
  simpa only[List.append_assoc]using b4
end
theorem AQI{G:AV}{H:Heap}{n id m z bs:Nat}{t:T LV}{w:V}{LS NS:Du}{k:KV}(hz:0<z)(hb:T.get H id=some (.arr z m t))(hid:id<n)(h:elems (.sl id 0 m m z) G H z=some LS)
 (hw:elems w G H z=some NS) (hr:(m+NS.length)*bs<=140737488355328)
 (hne:NS≠[]) (hk:∀v' H',Gr G H' n z v' (LS++NS)->(∀j,j<n->T.get H' j=T.get H j)->(∀j,v'.QK=some j->j=n)->k v' H' (n+1)):Xg z bs (.sl id 0 m m z) w G H n k:=by
 unfold Xg
 rw[hw,uV]
 have h2:(Bool.rec (motive:=λ_=>Option Du) none (DF H id z m 0) (Nat.beq z z):Option Du)=some LS:=h
 rw[Eh]at h2
 have h2:DF H id z m 0=some LS:=h2
 obtain⟨hl,hat⟩:=O3 _ _ h2
 have e0:AJN (.sl id 0 m m z) G z bs NS H n k=Bool.rec (motive:=λ_=>Prop) (Hw (DF H id z m 0) λOS=>O8 z bs OS NS H n k) (Hw (T.get H id) λb=>ADi id 0 m m z (m+NS.length) NS H n k b) (Nat.ble (m+NS.length) m):=by
  show Ed (Nat.beq z z) (ET (Nat.add m (len NS)) λneed=>Bool.rec (motive:=λ_=>Prop) (Hw (DF H id z m 0) λOS=>O8 z bs OS NS H n k) (Hw (T.get H id) λb=>ADi id 0 m m z need NS H n k b) (Nat.ble need m))=_
  rw[Eh,pz,CJ,len_eq];rfl
 rw[e0]
 by_cases hN:NS.length=0
 ·exact absurd (List.length_eq_zero_iff.1 hN) hne
 ·rw[show Nat.ble (m+NS.length) m=false by rw[Bool.eq_false_iff];intro hc;rw[Nat.ble_eq]at hc;omega]
  show Hw (DF H id z m 0) (λOS=>O8 z bs OS NS H n k)
  rw[h2,uV]
  show ET (Nat.add (len LS) (len NS)) (λneed=>Ed (QW need bs) (ET n λn=>k (.QF n 0 need z) (T.set H n (.arr z need (Fb NS (len LS) (Fb LS 0 .e)))) (Nat.succ n)))
  rw[CJ,CJ,len_eq,len_eq,show QW (Nat.add LS.length NS.length) bs=true from ZU (by rw[hl];exact hr),pz]
  have e:Nat.add LS.length NS.length=(LS++NS).length:=by rw[List.length_append];rfl
  rw[e]
  refine hk _ _ (.QF (LS:=LS++NS) (T.C9 ..) (Nat.le_refl _) (λi L hi=>?_) (Nat.le_refl _)) (λj hj=>T.Au _ _ (by omega)) (λj hj=>by cases hj;rfl)
  rw[FN,FN]
  by_cases hlt:i<LS.length
  ·rw[if_neg (by omega),if_pos ⟨Nat.zero_le _,by omega⟩]
   rw[List.getElem?_append_left hlt]at hi
   exact hi
  ·rw[List.getElem?_append_right (by omega)]at hi
   have hlt2:=(List.getElem?_eq_some_iff.1 hi).1
   rw[if_pos ⟨by omega,by omega⟩];exact hi
def Ow(G:AV)(H:Heap)(m n z:Nat)(v:V)(LS:Du):Prop:=Own G H m n z v LS∨∃id t,v=.sl id 0 LS.length LS.length z/\T.get H id=some (.arr z LS.length t)/\m<=id/\id<n/\El G H v z LS
theorem Ow.el{G:AV}{H:Heap}{m n z:Nat}{v:V}{LS:Du}(h:Ow G H m n z v LS)(hz:0<z):El G H v z LS:=by
 rcases h with h|⟨_,_,_,_,_,_,h⟩
 ·exact h.el hz
 ·exact h
theorem Ow.at{G:AV}{H:Heap}{m n z:Nat}{v:V}{LS:Du}(h:Ow G H m n z v LS){id:Nat}(hid:v.QK=some id):m<=id/\id<n:=by
 rcases h with h|⟨i,_,rfl,_,h1,h2,_⟩
 ·exact⟨h.ge hid,h.lo id hid⟩
 ·cases Eo hid;exact⟨h1,h2⟩
theorem Ow.ok{G:AV}{H:Heap}{m n z:Nat}{v:V}{LS:Du}(h:Ow G H m n z v LS):KS v/\jV v=true/\CX v=[v]:=by
 rcases h with h|⟨i,_,rfl,_⟩
 ·exact P5 h.gr
 ·exact⟨WA (Nat.le_refl _),rfl,rfl⟩
theorem Ow.vs{G:AV}{H:Heap}{m n z:Nat}{v:V}{LS:Du}(h:Ow G H m n z v LS)(hz:0<z):BR v v=true:=AI0 (h.el hz) h.ok.1
theorem Ow.kp{G:AV}{H H':Heap}{m n n' z:Nat}{v:V}{LS:Du}(h:Ow G H m n z v LS)(f:Kp H n H' n'):Ow G H' m n' z v LS:=by
 rcases h with h|⟨id,t,rfl,h1,h2,h3,h4⟩
 ·exact .inl (h.kp f)
 ·exact .inr ⟨id,t,rfl,(f.same id h3).trans h1,h2,by have:=f.le;omega,h4.same λj hj=>f.same j (by cases Eo hj;exact h3)⟩
theorem Ow.frame{G:AV}{H H':Heap}{m n n' z:Nat}{v:V}{LS:Du}(h:Ow G H m n z v LS)(hn:n<=n')(hs:∀id,v.QK=some id->T.get H' id=T.get H id):Ow G H' m n' z v LS:=by
 rcases h with h|⟨id,t,rfl,h1,h2,h3,h4⟩
 ·obtain⟨g,l⟩:=h
  refine .inl ⟨?_,λid hid=>by have:=l id hid;omega⟩
  cases g with
  |nil=>exact .nil
  |QF hg hc ht hid=>exact .QF ((hs _ rfl).trans hg) hc ht hid
 ·exact .inr ⟨id,t,rfl,(hs id rfl).trans h1,h2,by omega,h4.same λj hj=>hs j hj⟩
theorem AEL{G:AV}{H:Heap}{n z bs m:Nat}{v:V}{c:LV}{LS:Du}{P:KV}{Z:LV}(ho:Ow G H m n z v LS)(hm:m<=n)(hz:0<z)(hc:c.length=z)(hok:jV (.agg c)=true)(hb:(LS.length+1)*bs<=140737488355328)
 (hk:∀v' H',Ow G H' m (n+2) z v' (LS++[c])->(∀id,id<n->v.QK≠some id->T.get H' id=T.get H id)->(∀id,v'.QK=some id->id=n+1)->P v' H' (n+2)):
 DW (Aj z 1 Z [(0,.c (.agg c))] E0) H n λw H n=>Xg z bs v w G H n P:=by
 rcases ho with ho|⟨id,t,rfl,h1,h2,h3,h4⟩
 ·exact ACh ho hm hz hc hok hb λv' H' h=>hk v' H' (.inl h)
 ·refine Jq (G:=G) (vs:=[.agg c]) rfl hz (λv hv=>by simp at hv;subst hv;exact⟨hok,hc⟩) λH6 f6 _ hel=>?_
  refine AQI hz ((f6.same id h3).trans h1) (by omega) (h4.same λj hj=>f6.same j (by cases Eo hj;exact h3)).2 hel.2 hb (λh=>by cases h) λv' H' hg hs hid=>?_
  refine hk v' H' (.inl ⟨?_,λj hj=>by have:=hid j hj;omega⟩) (λj hj _=>(hs j (by omega)).trans (f6.same j hj)) hid
  have hg:Gr G H' (n+1) z v' (LS++[c]):=hg
  generalize LS++[c]=X at hg⊢
  cases hg with
  |nil=>exact .nil
  |QF b1 b2 b3 b4=>exact .QF b1 b2 b3 (by omega)
theorem AUf(l:Bs)(b:Bool):Bl [.str 0 0,.bool false] [(0,1,.c (sB l)),(1,1,.c (.bool b))]=some (.agg [sB l,.bool b]):=rfl
theorem AQE(l:Bs):Bl [.str 0 0,.bool false] [(0,1,.c (sB l))]=some (.agg [sB l,.bool false]):=rfl
theorem AHe{g:Nat}(h:g<=7):Wl [67,UInt8.ofNat (97+g)]=true:=by
 match g,h with
 |0,_=>decide
 |1,_=>decide
 |2,_=>decide
 |3,_=>decide
 |4,_=>decide
 |5,_=>decide
 |6,_=>decide
 |7,_=>decide
theorem AQd{g:Nat}(h:g<=7):jI [110,UInt8.ofNat (97+g)]=true:=by
 match g,h with
 |0,_=>decide
 |1,_=>decide
 |2,_=>decide
 |3,_=>decide
 |4,_=>decide
 |5,_=>decide
 |6,_=>decide
 |7,_=>decide
theorem AS7{l:Bs}(h:Wl l=true):dQ l=true:=by unfold dQ;rw[h];simp
section
variable{G:AV}{H:Heap}{n:Nat}{k:KV}
theorem ALN{m:Nat}(hk:∀H' g,Kp H n H' (n+1)->g<=7->k (sB [67,UInt8.ofNat (97+g)]) H' (n+1)):Runs F G FD [.int .i64 (.ofNat m) 0] H n k:=by
 refine Am (s:=Gx (Qi lfp G)) Us (by obtain⟨h,o⟩:=vT Ap G;rw[Us]at h;cases h;exact o) ?_
 show Qi lfp G (Runs F G) (.int .i64 (.ofNat m) 0) H n k
 delta Qi
 refine AB (AFY _ (m:=7) (by omega)) ?_
 have hu:jG (.ofNat m) 7<=7:=(WU _ (m:=7) (by omega)).2
 generalize jG (.ofNat m) 7=g at hu
 refine AB (cvq (q:=.u8) (by show g<256;omega)) (AB (ATS (q:=.u8) (by show 97+g<256;omega)) ?_)
 refine Jq (G:=G) (vs:=[.int .u8 (.ofNat (97+g)) 0]) rfl (by omega) (λv hv=>by simp at hv;subst hv;exact⟨rfl,rfl⟩) λH1 f1 _ hel=>?_
 have e:(UInt8.ofNat (97+g)).toNat=97+g:=by rw[UInt8.toNat_ofNat'];omega
 have hel:El G H1 (.sl n 0 1 1 1) 1 (O0 [UInt8.ofNat (97+g)]):=by
  show El G H1 _ 1 [[V.int .u8 (.ofNat (UInt8.ofNat (97+g)).toNat) 0]]
  rw[e];exact hel
 refine AB (AK0 hel) ?_
 rw[show V.str 1 67=sB [67]from rfl]
 refine AB (BZ (by show 1+1<_;omega)) ?_
 exact hk _ g f1 hu
theorem AQ8{m:Nat}(hk:∀H' g,Kp H n H' (n+1)->g<=7->k (sB [110,UInt8.ofNat (97+g)]) H' (n+1)):Runs F G EM [.int .i64 (.ofNat m) 0] H n k:=by
 refine Am (s:=Gx (Qh lfp G)) Uf (by obtain⟨h,o⟩:=xw Ap G;rw[Uf]at h;cases h;exact o) ?_
 show Qh lfp G (Runs F G) (.int .i64 (.ofNat m) 0) H n k
 delta Qh
 refine AB (AFY _ (m:=7) (by omega)) ?_
 have hu:jG (.ofNat m) 7<=7:=(WU _ (m:=7) (by omega)).2
 generalize jG (.ofNat m) 7=g at hu
 refine AB (cvq (q:=.u8) (by show g<256;omega)) (AB (ATS (q:=.u8) (by show 97+g<256;omega)) ?_)
 refine Jq (G:=G) (vs:=[.int .u8 (.ofNat (97+g)) 0]) rfl (by omega) (λv hv=>by simp at hv;subst hv;exact⟨rfl,rfl⟩) λH1 f1 _ hel=>?_
 have e:(UInt8.ofNat (97+g)).toNat=97+g:=by rw[UInt8.toNat_ofNat'];omega
 have hel:El G H1 (.sl n 0 1 1 1) 1 (O0 [UInt8.ofNat (97+g)]):=by
  show El G H1 _ 1 [[V.int .u8 (.ofNat (UInt8.ofNat (97+g)).toNat) 0]]
  rw[e];exact hel
 refine AB (AK0 hel) ?_
 rw[show V.str 1 110=sB [110]from rfl]
 refine AB (BZ (by show 1+1<_;omega)) ?_
 exact hk _ g f1 hu
theorem ADT{m:Nat}(hk:∀H' u,Kp H n H' (n+1)->Wl u=true->u.length=2->k (sB u) H' (n+1)):Runs F G FD [.int .i64 (.ofNat m) 0] H n k:=
 ALN λH' g f hg=>hk H' _ f (AHe hg) rfl
theorem zf{m:Nat}(hk:∀H' u,Kp H n H' (n+1)->jI u=true->u.length=2->k (sB u) H' (n+1)):Runs F G EM [.int .i64 (.ofNat m) 0] H n k:=
 AQ8 λH' g f hg=>hk H' _ f (AQd hg) rfl
theorem AMJ{l:Bs}{ar:Bool}(hl:l.length<=4611686018427387904)(hk:∀H' n' u,Kp H n H' n'->dQ u=true->u.length<=4->k (.agg [sB u,.bool ar]) H' n'):Runs F G QA [.agg [sB l,.bool ar]] H n k:=by
 refine Am (s:=Gx (UQ lfp G)) Wx (by obtain⟨h,o⟩:=ABF Ap G;rw[Wx]at h;cases h;exact o) ?_
 show UQ lfp G (Runs F G) (.agg [sB l,.bool ar]) H n k
 delta UQ
 refine Dh λH1 f1 g1=>?_
 refine Az rfl λH2 f2 g2=>?_
 have g1:=f2.get g1 (by omega)
 have f2:=f1.trans f2
 refine AB (v:=.ptr n 0) (by rw[Aa]) (AB (AQ (off:=0) g1 (v:=sB l) rfl) (AB (Pq l) ?_))
 have j6:∀m,m<9223372036854775808->Kv lfp G (Runs F G) k (.ptr n 0) (.ptr (n+1) 0) (.int .i64 (.ofNat m) 0) H2 (n+1+1):=by
  intro m hm
  delta Kv
  refine AB (ANh m (by omega)) (AB (v:=.ptr n 1) (by rw[Aa,Nat.zero_add]) (AB (AQ (off:=1) g1 (v:=.bool ar) rfl) ?_))
  refine ALN λH3 g f3 hg=>?_
  have g1:=f3.get g1 (by omega);have g2:=f3.get g2 (by omega)
  refine AB (AQ (off:=1) g1 (v:=.bool ar) rfl) (Cc (by cases ar<;>rfl) ?_)
  refine iV (G:=G) (ws:=[uf,dN,[67,UInt8.ofNat (97+g)]]) rfl λH4 f4 hw=>?_
  have g2:=f4.get g2 (by omega)
  have f4:=(f2.trans f3).trans f4
  have h3:m%3<3:=Nat.mod_lt _ (by decide)
  generalize m%3=i at h3
  have hw2:∃u,dQ u=true/\u.length<=4/\∃p,BO 1 (.sl (n+1+1+1) 0 3 3 1) (.int .i64 (.ofNat i) 0)=some p/\AX p G H4=some (sB u):=by
   match i,h3 with
   |0,_=>obtain⟨p,h1,h2⟩:=hw.at (i:=0) rfl;exact⟨_,by decide,by decide,p,h1,dZ h2⟩
   |1,_=>obtain⟨p,h1,h2⟩:=hw.at (i:=1) rfl;exact⟨_,by decide,by decide,p,h1,dZ h2⟩
   |2,_=>obtain⟨p,h1,h2⟩:=hw.at (i:=2) rfl;exact⟨_,AS7 (AHe hg),(by show 2<=4;omega),p,h1,dZ h2⟩
  obtain⟨t,ht,hlen,p,hp,hq⟩:=hw2
  refine AB hp (AB hq (AB (AUf ..) ?_))
  refine CB g2 rfl rfl (by omega) λH5 g5 t5=>?_
  rw[DU (m:=2) g5 (by omega) rfl]
  simp only[go_sem]
  exact hk _ _ t ⟨by omega,λid hid=>(t5 id (by omega)).trans (f4.same id hid)⟩ ht hlen
 rw[NG,Aw]
 cases hd:decide (0<l.length)with
 |false=>rw[Aq];exact j6 _ (by omega)
 |true=>
  have hd:=of_decide_eq_true hd
  rw[Ah]
  have hc:(l[0]).toNat<256:=(l[0]).toNat_lt
  refine AB (v:=.ptr n 0) (by rw[Aa]) (AB (AQ (off:=0) g1 (v:=sB l) rfl) (AB (AFm hd) (AB (AOP (by omega)) (AB (Ee (by omega)) ?_))))
  exact j6 _ (by omega)
theorem APE{u:Bs}(hk:∀H',Kp H n H' (n+1)->k (.agg [sB u,.bool false]) H' (n+1)):Runs F G Vb [sB u] H n k:=by
 refine Am (s:=Gx (Zq lfp G)) fH (by obtain⟨h,o⟩:=AFX Ap G;rw[fH]at h;cases h;exact o) ?_
 show Zq lfp G (Runs F G) (sB u) H n k
 delta Zq
 refine Az rfl λH2 f2 g2=>?_
 refine AB (AQE ..) ?_
 refine CB g2 rfl rfl (by omega) λH5 g5 t5=>?_
 rw[DU (m:=2) g5 (by omega) rfl]
 simp only[go_sem]
 exact hk _ ⟨by omega,λid hid=>(t5 id (by omega)).trans (f2.same id hid)⟩
theorem ARd{u:Bs}{b:Bool}(hk:∀H',Kp H n H' (n+2)->k (.agg [sB u,.bool false]) H' (n+2)):Runs F G lG [.agg [sB u,.bool b]] H n k:=by
 refine Am (s:=Gx (UZ lfp G)) W9 (by obtain⟨h,o⟩:=AAi Ap G;rw[W9]at h;cases h;exact o) ?_
 show UZ lfp G (Runs F G) (.agg [sB u,.bool b]) H n k
 delta UZ
 refine Dh λH1 f1 g1=>?_
 refine Az rfl λH2 f2 g2=>?_
 have g1:=f2.get g1 (by omega)
 have f2:=f1.trans f2
 refine AB (Aa ..) (AB (v:=sB u) (AQ g1 rfl) (AB (AQE ..) ?_))
 refine CB g2 rfl rfl (by omega) λH5 g5 t5=>?_
 rw[DU (m:=2) g5 (by omega) rfl]
 simp only[go_sem]
 exact hk _ ⟨by omega,λid hid=>(t5 id (by omega)).trans (f2.same id hid)⟩
end
end Go.PQ
