/- Part of a proof; nothing is assumed. -/
import Derived.Test.YtcjkfmaoahojeaaDoorLawA
import Derived.Test.YtcjkfmaoahojeaaDoorEngG
import Derived.Test.YtcjkfmaoahojeaaDoorConB
set_option linter.unusedVariables false
set_option linter.unusedSimpArgs false
namespace Go.PQ
open Go.Eng
set_option maxRecDepth 100000
def qN(l:Bs):Bool:=nameB small l&& !decide (l∈Nv)
def ZV(l:Bs):Bool:=nameB great l
def jZ(l:Bs):Bool:=decide (l=Yw)||(decide (l=Qq)||ZV l)
def U9(l:Bs):Tok:=bif ZV l then U l else W l
def AEi:List Bs:=[cO,Dq,X8,Tq,tu,WX,gB,UW,fM]
inductive Wr:Ex->Prop
 |num {n:Nat} (h:n<=288230376151711744):Wr (.mk 1 n [] [] false [])
 |tru:Wr (.mk 2 0 [] [] false [])
 |fls:Wr (.mk 3 0 [] [] false [])
 |nul:Wr (.mk 4 0 [] [] false [])
 |ths:Wr (.mk 5 0 [] [] false [])
 |loc {l:Bs} (h:qN l=true):Wr (.mk 6 0 l [] false [])
 |get {l:Bs} {a:Ex} (h:qN l=true) (ha:Wr a):Wr (.mk 7 0 l [] false [a])
 |call {l:Bs} {a:Ex} {ks:List Ex} (h:qN l=true) (ha:Wr a) (hk:∀x∈ks,Wr x) (hn:ks.length<=200):Wr (.mk 8 0 l [] false (a::ks))
 |stat {l u:Bs} {ks:List Ex} (h:qN l=true) (hu:ZV u=true) (hk:∀x∈ks,Wr x) (hn:ks.length<=200):Wr (.mk 9 0 l u false ks)
 |new {u:Bs} (hu:ZV u=true):Wr (.mk 10 0 [] u false [])
 |arr {u:Bs} {a:Ex} (hu:jZ u=true) (ha:Wr a):Wr (.mk 11 0 [] u false [a])
 |elm {a b:Ex} (ha:Wr a) (hb:Wr b):Wr (.mk 12 0 [] [] false [a,b])
 |len {a:Ex} (ha:Wr a):Wr (.mk 13 0 [] [] false [a])
 |neg {a:Ex} (ha:Wr a):Wr (.mk 14 0 [] [] false [a])
 |not {a:Ex} (ha:Wr a):Wr (.mk 15 0 [] [] false [a])
 |bin {o:Bs} {a b:Ex} (ho:o∈AEi) (ha:Wr a) (hb:Wr b):Wr (.mk 16 0 o [] false [a,b])
 |and {a b:Ex} (ha:Wr a) (hb:Wr b):Wr (.mk 17 0 [] [] false [a,b])
 |or {a b:Ex} (ha:Wr a) (hb:Wr b):Wr (.mk 18 0 [] [] false [a,b])
 |asx {u:Bs} {a:Ex} (hu:ZV u=true) (ha:Wr a):Wr (.mk 19 0 [] u false [a])
 |isx {u:Bs} {a:Ex} (hu:ZV u=true) (ha:Wr a):Wr (.mk 20 0 [] u false [a])
def oC(l:List Bs)(i:Nat):Bs:=match l[i]? with|some x=>x|none=>Qp
def GZ:List Bs->Bs
 |[]=>[]
 |a::l=>a++l.flatMap λb=>CY++([32]++b)
def ARR(k n:Nat)(nm ty:Bs)(ks:List Bs):Bs:=
 match k with
 |1=>YE n
 |2=>Wv
 |3=>Rk
 |5=>XB
 |6=>nm
 |7=>oC ks 0++(DJ++nm)
 |8=>oC ks 0++(DJ++(nm++(Au++(GZ (ks.drop 1)++BD))))
 |9=>ty++(DJ++(nm++(Au++(GZ ks++BD))))
 |10=>Au++(Ib++([32]++(ty++BD)))
 |11=>Ib++([32]++(ty++(Fe++(oC ks 0++FV))))
 |12=>oC ks 0++(Fe++(oC ks 1++FV))
 |13=>oC ks 0++(DJ++G7)
 |14=>Au++(Dq++(oC ks 0++BD))
 |15=>Au++(IV++(oC ks 0++BD))
 |16=>Au++(oC ks 0++([32]++(nm++([32]++(oC ks 1++BD)))))
 |17=>Au++(oC ks 0++([32]++(L9++([32]++(oC ks 1++BD)))))
 |18=>Au++(oC ks 0++([32]++(W9++([32]++(oC ks 1++BD)))))
 |19=>Au++(oC ks 0++([32]++(RP++([32]++(ty++BD)))))
 |20=>Au++(oC ks 0++([32]++(OC++([32]++(ty++BD)))))
 |_=>Qp
mutual
def textE:Ex->Bs
 |.mk k n nm ty _ ks=>ARR k n nm ty (AFe ks)
def AFe:List Ex->List Bs
 |[]=>[]
 |e::l=>textE e::AFe l
end
theorem ACz:∀l:List Ex,AFe l=l.map textE
 |[]=>by unfold AFe;rfl
 |a::l=>by unfold AFe;rw[ACz l];rfl
def OX(l:List (List Tok))(i:Nat):List Tok:=match l[i]? with|some x=>x|none=>[W Qp]
def La:List (List Tok)->List Tok
 |[]=>[]
 |a::l=>a++l.flatMap λb=>M CY::b
def YK(k n:Nat)(nm ty:Bs)(ks:List (List Tok)):List Tok:=
 match k with
 |1=>[N (YE n) n]
 |2=>[W Wv]
 |3=>[W Rk]
 |5=>[W XB]
 |6=>[L nm]
 |7=>OX ks 0++[M DJ,L nm]
 |8=>OX ks 0++M DJ::L nm::M Au::(La (ks.drop 1)++[M BD])
 |9=>U ty::M DJ::L nm::M Au::(La ks++[M BD])
 |10=>[M Au,W Ib,U ty,M BD]
 |11=>W Ib::U9 ty::M Fe::(OX ks 0++[M FV])
 |12=>OX ks 0++M Fe::(OX ks 1++[M FV])
 |13=>OX ks 0++[M DJ,W G7]
 |14=>M Au::M Dq::(OX ks 0++[M BD])
 |15=>M Au::M IV::(OX ks 0++[M BD])
 |16=>M Au::(OX ks 0++M nm::(OX ks 1++[M BD]))
 |17=>M Au::(OX ks 0++M L9::(OX ks 1++[M BD]))
 |18=>M Au::(OX ks 0++M W9::(OX ks 1++[M BD]))
 |19=>M Au::(OX ks 0++[W RP,U ty,M BD])
 |20=>M Au::(OX ks 0++[W OC,U ty,M BD])
 |_=>[W Qp]
mutual
def tokE:Ex->List Tok
 |.mk k n nm ty _ ks=>YK k n nm ty (AMm ks)
def AMm:List Ex->List (List Tok)
 |[]=>[]
 |e::l=>tokE e::AMm l
end
theorem AFf:∀l:List Ex,AMm l=l.map tokE
 |[]=>by unfold AMm;rfl
 |a::l=>by unfold AMm;rw[AFf l];rfl
theorem Ad(k n:Nat)(nm ty:Bs)(ar:Bool)(ks:List Ex):textE (.mk k n nm ty ar ks)=ARR k n nm ty (ks.map textE):=by unfold textE;rw[ACz]
theorem Bl(k n:Nat)(nm ty:Bs)(ar:Bool)(ks:List Ex):tokE (.mk k n nm ty ar ks)=YK k n nm ty (ks.map tokE):=by unfold tokE;rw[AFf]
def Out(r:Bs):Prop:=∀c l,r=c::l->inner c=false
theorem ALh{c:UInt8}{r:Bs}(h:inner c=false):Out (c::r):=λ_ _ e=>by cases e;exact h
theorem AQX{t:Tok}{r:Bs}(h:t.kind≠5)(ho:Out r):ALc t r=true:=by
 cases r with
 |nil=>rfl
 |cons c l=>exact AGR h (ho c l rfl)
theorem UL{t:Tok}{r:Bs}{ts:List Tok}(hw:Wf t)(hk:t.kind≠5)(ho:Out r)(h:Dj r ts):Dj (t.text++r) (t::ts):=AIy hw (AQX hk ho) h
def AXE(e:Ex):Prop:=∀r ts,Out r->Dj r ts->Dj (textE e++r) (tokE e++ts)
theorem wP(l:Bs):(U9 l).text=l:=by unfold U9;cases ZV l<;>rfl
theorem ACr(l:Bs):(U9 l).kind≠5:=by unfold U9;cases ZV l<;>simp[W,U]
theorem ADq{l:Bs}(h:jZ l=true):Wf (U9 l):=by
 unfold U9
 cases hu:ZV l with
 |true=>exact AGA hu
 |false=>
  simp only[jZ,hu,Bool.or_false,Bool.or_eq_true,decide_eq_true_eq]at h
  rcases h with rfl|rfl
  ·exact IJ (by decide)
  ·exact IJ (by decide)
theorem ABF{m:Bs}{r:Bs}{ts:List Tok}(hm:m∈EX)(h:Dj r ts):Dj (m++([32]++r)) (M m::ts):=RD (t:=M m) (.mark hm) h
theorem AKt{o:Bs}(h:o∈AEi):o∈EX:=by
 simp only[AEi,List.mem_cons,List.not_mem_nil,or_false]at h
 rcases h with rfl|rfl|rfl|rfl|rfl|rfl|rfl|rfl|rfl<;>decide
theorem AIu{p:UInt8->Bool}{l:Bs}(h:nameB p l=true):∃c t,l=c::t/\inner c=true:=by
 have h:=uq h
 obtain⟨c,t,e,_⟩:=h.hd
 exact⟨c,t,e,h.all c (by rw[e];exact List.mem_cons_self)⟩
theorem AUD(n:Nat):∃c t,YE n=c::t/\inner c=true:=by
 cases h:YE n with
 |nil=>exact absurd h (ALM n)
 |cons c t=>exact⟨c,t,rfl,Yj (pX _ _ c (by show c∈YE n;rw[h];exact List.mem_cons_self))⟩
def HdB(l:Bs):Prop:=∃c t,l=c::t/\(inner c=true∨c=40)
theorem HdB.app{l:Bs}(h:HdB l)(r:Bs):HdB (l++r):=by obtain⟨c,t,rfl,h⟩:=h;exact⟨c,t++r,rfl,h⟩
theorem AWx{e:Ex}(h:Wr e):HdB (textE e):=by
 have inn:∀{l:Bs},(∃c t,l=c::t/\inner c=true)->HdB l:=λ⟨c,t,e,h⟩=>⟨c,t,e,.inl h⟩
 have low:∀{l:Bs},qN l=true->HdB l:=λh=>inn (AIu (Bool.and_eq_true_iff.1 h).1)
 have upp:∀{l:Bs},ZV l=true->HdB l:=λh=>inn (AIu h)
 have lp:∀{l:Bs},HdB (Au++l):=λ{l}=>⟨40,l,rfl,.inr rfl⟩
 induction h with
 |num h=>rw[Ad];exact inn (AUD _)
 |tru=>exact⟨116,_,rfl,.inl (by decide)⟩
 |fls=>exact⟨102,_,rfl,.inl (by decide)⟩
 |nul=>exact⟨110,_,rfl,.inl (by decide)⟩
 |ths=>exact⟨116,_,rfl,.inl (by decide)⟩
 |loc h=>rw[Ad];exact low h
 |get h ha ih=>rw[Ad];exact ih.app _
 |call h ha hk hn ih=>rw[Ad];exact ih.app _
 |stat h hu hk hn=>rw[Ad];exact(upp hu).app _
 |new hu=>rw[Ad];exact lp
 |arr hu ha ih=>rw[Ad];exact HdB.app (l:=Ib) ⟨110,_,rfl,.inl (by decide)⟩ _
 |elm ha hb ih=>rw[Ad];exact ih.app _
 |len ha ih=>rw[Ad];exact ih.app _
 |neg ha ih=>rw[Ad];exact lp
 |not ha ih=>rw[Ad];exact lp
 |bin ho ha hb=>rw[Ad];exact lp
 |and ha hb=>rw[Ad];exact lp
 |or ha hb=>rw[Ad];exact lp
 |asx hu ha=>rw[Ad];exact lp
 |isx hu ha=>rw[Ad];exact lp
theorem ASx{l:Bs}(h:HdB l):ALc (M IV) l=true:=by
 obtain⟨c,t,rfl,h⟩:=h
 show MO (M IV) c=true
 rcases h with h|rfl
 ·exact AF7 rfl h
 ·decide
theorem AA1{α:Type}{f:α->Bs}{g:α->List Tok}{r:Bs}{ts:List Tok}(ho:Out r)(hr:Dj r ts):∀{ks:List α},(∀x∈ks,∀r ts,Out r->Dj r ts->Dj (f x++r) (g x++ts))->Dj (GZ (ks.map f)++r) (La (ks.map g)++ts)
 |[],_=>hr
 |a::ks,h=>by
  show Dj ((f a++((ks.map f).flatMap λb=>CY++([32]++b)))++r) ((g a++((ks.map g).flatMap λb=>M CY::b))++ts)
  rw[List.append_assoc,List.append_assoc]
  have tl:∀{ks:List α},(∀x∈ks,∀r ts,Out r->Dj r ts->Dj (f x++r) (g x++ts))->Out (((ks.map f).flatMap λb=>CY++([32]++b))++r)/\Dj (((ks.map f).flatMap λb=>CY++([32]++b))++r) (((ks.map g).flatMap λb=>M CY::b)++ts):=by
   intro ks
   induction ks with
   |nil=>intro _;exact⟨ho,hr⟩
   |cons b ks ih=>
    intro h
    obtain⟨h1,h2⟩:=ih λx hx=>h x (List.mem_cons_of_mem _ hx)
    refine⟨ALh (by decide),?_⟩
    simp only[List.map_cons,List.flatMap_cons,List.append_assoc,List.cons_append]
    exact Gt (m:=CY) (by decide) (Eb U8 (h b List.mem_cons_self _ _ h1 h2))
  obtain⟨h1,h2⟩:=tl λx hx=>h x (List.mem_cons_of_mem _ hx)
  exact h a List.mem_cons_self _ _ h1 h2
theorem AQc{e:Ex}(h:Wr e):AXE e:=by
 have wl:∀{l:Bs},qN l=true->Wf (L l):=λh=>AMn h
 have out:∀{m:Bs} {r:Bs},(match m with|[]=>false|c::_=> !inner c)=true->Out (m++r):=by
  intro m r h
  cases m with
  |nil=>cases h
  |cons c m=>exact ALh (by simpa using h)
 induction h with
 |num h=>intro r ts ho hr;rw[Ad,Bl];exact UL (t:=N (YE _) _) (.num (ALM _) (pX _ _) (ANO h)) (by simp[N]) ho hr
 |tru=>intro r ts ho hr;rw[Ad,Bl];exact UL (t:=W Wv) (IJ (by decide)) (by simp[W]) ho hr
 |fls=>intro r ts ho hr;rw[Ad,Bl];exact UL (t:=W Rk) (IJ (by decide)) (by simp[W]) ho hr
 |nul=>intro r ts ho hr;rw[Ad,Bl];exact UL (t:=W Qp) (IJ (by decide)) (by simp[W]) ho hr
 |ths=>intro r ts ho hr;rw[Ad,Bl];exact UL (t:=W XB) (IJ (by decide)) (by simp[W]) ho hr
 |loc h=>intro r ts ho hr;rw[Ad,Bl];exact UL (t:=L _) (wl h) (by simp[L]) ho hr
 | @get l a h ha ih=>
  intro r ts ho hr
  rw[Ad,Bl]
  show Dj ((textE a++(DJ++l))++r) ((tokE a++[M DJ,L l])++ts)
  simp only[List.append_assoc,List.cons_append,List.nil_append]
  exact ih _ _ (out (by decide)) (Gt (m:=DJ) (by decide) (UL (t:=L l) (wl h) (by simp[L]) ho hr))
 | @call l a ks h ha hk hn ih ihk=>
  intro r ts ho hr
  rw[Ad,Bl]
  show Dj ((textE a++(DJ++(l++(Au++(GZ (ks.map textE)++BD)))))++r) ((tokE a++M DJ::L l::M Au::(La (ks.map tokE)++[M BD]))++ts)
  simp only[List.append_assoc,List.cons_append,List.nil_append]
  exact ih _ _ (out (by decide)) (Gt (m:=DJ) (by decide) (UL (t:=L l) (wl h) (by simp[L]) (out (by decide)) (Gt (m:=Au) (by decide) (AA1 (out (by decide)) (Gt (m:=BD) (by decide) hr) ihk))))
 | @stat l u ks h hu hk hn ihk=>
  intro r ts ho hr
  rw[Ad,Bl]
  show Dj ((u++(DJ++(l++(Au++(GZ (ks.map textE)++BD)))))++r) ((U u::M DJ::L l::M Au::(La (ks.map tokE)++[M BD]))++ts)
  simp only[List.append_assoc,List.cons_append,List.nil_append]
  exact UL (t:=U u) (AGA hu) (by simp[U]) (out (by decide)) (Gt (m:=DJ) (by decide) (UL (t:=L l) (wl h) (by simp[L]) (out (by decide)) (Gt (m:=Au) (by decide) (AA1 (out (by decide)) (Gt (m:=BD) (by decide) hr) ihk))))
 | @new u hu=>
  intro r ts ho hr
  rw[Ad,Bl]
  show Dj ((Au++(Ib++([32]++(u++BD))))++r) ([M Au,W Ib,U u,M BD]++ts)
  simp only[List.append_assoc,List.cons_append,List.nil_append]
  exact Gt (m:=Au) (by decide) (RD (t:=W Ib) (IJ (by decide)) (UL (t:=U u) (AGA hu) (by simp[U]) (out (by decide)) (Gt (m:=BD) (by decide) hr)))
 | @arr u a hu ha ih=>
  intro r ts ho hr
  rw[Ad,Bl]
  show Dj ((Ib++([32]++(u++(Fe++(textE a++FV)))))++r) ((W Ib::U9 u::M Fe::(tokE a++[M FV]))++ts)
  simp only[List.append_assoc,List.cons_append,List.nil_append]
  have hb:=UL (t:=U9 u) (r:=Fe++(textE a++(FV++r))) (ADq hu) (ACr u) (out (by decide)) (Gt (m:=Fe) (by decide) (ih _ _ (out (by decide)) (Gt (m:=FV) (by decide) hr)))
  rw[wP]at hb
  exact RD (t:=W Ib) (IJ (by decide)) hb
 | @elm a b ha hb iha ihb=>
  intro r ts ho hr
  rw[Ad,Bl]
  show Dj ((textE a++(Fe++(textE b++FV)))++r) ((tokE a++M Fe::(tokE b++[M FV]))++ts)
  simp only[List.append_assoc,List.cons_append,List.nil_append]
  exact iha _ _ (out (by decide)) (Gt (m:=Fe) (by decide) (ihb _ _ (out (by decide)) (Gt (m:=FV) (by decide) hr)))
 | @len a ha ih=>
  intro r ts ho hr
  rw[Ad,Bl]
  show Dj ((textE a++(DJ++G7))++r) ((tokE a++[M DJ,W G7])++ts)
  simp only[List.append_assoc,List.cons_append,List.nil_append]
  exact ih _ _ (out (by decide)) (Gt (m:=DJ) (by decide) (UL (t:=W G7) (IJ (by decide)) (by simp[W]) ho hr))
 | @neg a ha ih=>
  intro r ts ho hr
  rw[Ad,Bl]
  show Dj ((Au++(Dq++(textE a++BD)))++r) ((M Au::M Dq::(tokE a++[M BD]))++ts)
  simp only[List.append_assoc,List.cons_append,List.nil_append]
  exact Gt (m:=Au) (by decide) (Gt (m:=Dq) (by decide) (ih _ _ (out (by decide)) (Gt (m:=BD) (by decide) hr)))
 | @not a ha ih=>
  intro r ts ho hr
  rw[Ad,Bl]
  show Dj ((Au++(IV++(textE a++BD)))++r) ((M Au::M IV::(tokE a++[M BD]))++ts)
  simp only[List.append_assoc,List.cons_append,List.nil_append]
  exact Gt (m:=Au) (by decide) (AIy (t:=M IV) (.mark (by decide)) (ASx ((AWx ha).app _)) (ih _ _ (out (by decide)) (Gt (m:=BD) (by decide) hr)))
 | @bin o a b ho' ha hb iha ihb=>
  intro r ts ho hr
  rw[Ad,Bl]
  show Dj ((Au++(textE a++([32]++(o++([32]++(textE b++BD))))))++r) ((M Au::(tokE a++M o::(tokE b++[M BD])))++ts)
  simp only[List.append_assoc,List.cons_append,List.nil_append]
  exact Gt (m:=Au) (by decide) (iha _ _ (out (m:=[32]) (by decide)) (Eb U8 (ABF (AKt ho') (ihb _ _ (out (by decide)) (Gt (m:=BD) (by decide) hr)))))
 | @and a b ha hb iha ihb=>
  intro r ts ho hr
  rw[Ad,Bl]
  show Dj ((Au++(textE a++([32]++(L9++([32]++(textE b++BD))))))++r) ((M Au::(tokE a++M L9::(tokE b++[M BD])))++ts)
  simp only[List.append_assoc,List.cons_append,List.nil_append]
  exact Gt (m:=Au) (by decide) (iha _ _ (out (m:=[32]) (by decide)) (Eb U8 (ABF (m:=L9) (by decide) (ihb _ _ (out (by decide)) (Gt (m:=BD) (by decide) hr)))))
 | @or a b ha hb iha ihb=>
  intro r ts ho hr
  rw[Ad,Bl]
  show Dj ((Au++(textE a++([32]++(W9++([32]++(textE b++BD))))))++r) ((M Au::(tokE a++M W9::(tokE b++[M BD])))++ts)
  simp only[List.append_assoc,List.cons_append,List.nil_append]
  exact Gt (m:=Au) (by decide) (iha _ _ (out (m:=[32]) (by decide)) (Eb U8 (ABF (m:=W9) (by decide) (ihb _ _ (out (by decide)) (Gt (m:=BD) (by decide) hr)))))
 | @asx u a hu ha ih=>
  intro r ts ho hr
  rw[Ad,Bl]
  show Dj ((Au++(textE a++([32]++(RP++([32]++(u++BD))))))++r) ((M Au::(tokE a++[W RP,U u,M BD]))++ts)
  simp only[List.append_assoc,List.cons_append,List.nil_append]
  exact Gt (m:=Au) (by decide) (ih _ _ (out (m:=[32]) (by decide)) (Eb U8 (RD (t:=W RP) (IJ (by decide)) (UL (t:=U u) (AGA hu) (by simp[U]) (out (by decide)) (Gt (m:=BD) (by decide) hr)))))
 | @isx u a hu ha ih=>
  intro r ts ho hr
  rw[Ad,Bl]
  show Dj ((Au++(textE a++([32]++(OC++([32]++(u++BD))))))++r) ((M Au::(tokE a++[W OC,U u,M BD]))++ts)
  simp only[List.append_assoc,List.cons_append,List.nil_append]
  exact Gt (m:=Au) (by decide) (ih _ _ (out (m:=[32]) (by decide)) (Eb U8 (RD (t:=W OC) (IJ (by decide)) (UL (t:=U u) (AGA hu) (by simp[U]) (out (by decide)) (Gt (m:=BD) (by decide) hr)))))
section
variable{G:AY}{H:Heap}{n:Nat}{k:KV}
theorem AFW{x:Nat}(hG:dZ G)(h:x<9223372036854775808)(hk:∀H' n',Kp H n H' n'->k (sB (YE x)) H' n'):Runs F G XE [.int .i64 (.ofNat x) 0,.int .i64 (.ofNat 10) 0] H n k:=by
 refine Am (s:=RG (ND lfp G)) Pm (by obtain⟨h,o⟩:=mD Ap G;rw[Pm]at h;cases h;exact o) ?_
 show ND lfp G (Runs F G) (.int .i64 (.ofNat x) 0) (.int .i64 (.ofNat 10) 0) H n k
 delta ND
 exact AVS hG h hk
end
theorem uo{f:Nat}{nk:Nk}{G:AY}{args:List V}{H:Heap}{n:Nat}{k:KV}(hf:T.get F f=some (.nat nk))(h:jm nk G args H n k):Runs F G f args H n k:=AA3 hf (show AED (.nat nk) G (Runs F G) args H n k from h)
theorem AC2:∀ls:List Bs,yT (ls.map λb=>[sB b])=some (ls.map Jg)
 |[]=>rfl
 |b::ls=>by
  show(match yT (ls.map λb=>[sB b])with|some x=>some ((b.length,enc b)::x)|none=>none)=_
  rw[AC2 ls];rfl
theorem ANR(ls:List Bs):GZ ls=Lib.join ls [44,32]:=by
 cases ls with
 |nil=>rfl
 |cons a l=>
  rw[Lib.join_cons]
  show a++l.flatMap (λb=>CY++([32]++b))=a++(l.map ([44,32]++ ·)).flatten
  rw[List.flatMap];rfl
theorem ACZ:∀ls:List Bs,∀b∈ls,b.length<=(GZ ls).length
 |[],b,h=>by cases h
 |a::l,b,h=>by
  unfold GZ
  rw[List.length_append]
  rcases List.mem_cons.1 h with rfl|h
  ·omega
  ·have:∀l:List Bs,b∈l->b.length<=(l.flatMap λb=>CY++([32]++b)).length:=by
    intro l
    induction l with
    |nil=>intro h;cases h
    |cons c l ih=>
     intro h
     simp only[List.flatMap_cons,List.length_append]
     rcases List.mem_cons.1 h with rfl|h
     ·omega
     ·have:=ih h;omega
   have:=this l h;omega
section
variable{G:AY}{H:Heap}{n:Nat}{k:KV}
theorem ANv{v:V}{ls:List Bs}(hv:El G H v 1 (ls.map λb=>[sB b]))(h1:ls.length<=1000000)(h2:(GZ ls).length<=1000000000000)(hk:k (sB (GZ ls)) H n):Runs F G YL [v,.str 2 8236] H n k:=by
 refine uo zU ?_
 show tN v (.str 2 8236) G H n k
 show FN (Xj (isStr v)) (Ip (elems v G H 1) λLS=>Ip (yT LS) λss=>FN (decide (ss.length<=YB/\(Yk (2,8236) ss).1<=YB)) (k (.str (Yk (2,8236) ss).1 (Yk (2,8236) ss).2) H n))
 rw[hv.1,hv.2]
 show Ip (yT (ls.map λb=>[sB b])) (λss=>FN (decide (ss.length<=YB/\(Yk (2,8236) ss).1<=YB)) (k (.str (Yk (2,8236) ss).1 (Yk (2,8236) ss).2) H n))
 rw[AC2]
 show FN (decide ((ls.map Jg).length<=YB/\(Yk (Jg [44,32]) (ls.map Jg)).1<=YB)) (k (.str (Yk (Jg [44,32]) (ls.map Jg)).1 (Yk (Jg [44,32]) (ls.map Jg)).2) H n)
 rw[ACm,<-ANR]
 show FN (decide ((ls.map Jg).length<=YB/\(GZ ls).length<=YB)) (k (sB (GZ ls)) H n)
 rw[decide_eq_true (show(ls.map Jg).length<=YB/\(GZ ls).length<=YB from⟨by rw[List.length_map];unfold YB;omega,by unfold YB;omega⟩)]
 exact hk
theorem AGJ{m:Nat}{v:V}{b:Bs}{LS:EY}{P:KV}{Z:LV}(ho:Own G H m n 1 v LS)(hm:m<=n)(hb:(LS.length+1)*16<=140737488355328)
 (hk:∀v' H',Own G H' m (n+2) 1 v' (LS++[[sB b]])->(∀id,id<n->v.Ry≠some id->T.get H' id=T.get H id)->(∀id,v'.Ry=some id->id=n+1)->P v' H' (n+2)):
 EH (Ar 1 1 Z [(0,.c (sB b))] E0) H n λw H n=>iW 1 16 v w G H n P:=by
 refine O3 (G:=G) (vs:=[sB b]) rfl (by omega) (λv hv=>by simp at hv;subst hv;exact⟨rfl,rfl⟩) λH6 f6 _ hel=>?_
 have ho6:=ho.kp f6
 refine zh ho6.gr (by omega) ho6.lo hel.2 hb ?_ (λh=>by cases h)
 intro v' H7 hgr hsame hlo
 refine hk v' H7 ⟨hgr,λid hid=>by have:=hlo id hid;omega⟩ (λid h1 h2=>(hsame id (by omega) h2).trans (f6.same id h1)) hlo
theorem AQi{v:V}{z:Nat}{L:LV}{LS:EY}(h:El G H v z (L::LS))(hv:KS v):∃w,AE9 z v E0 (some (.c (.int .i64 (.ofNat 1) 0))) none none=some w/\El G H w z LS/\w.Ry=v.Ry:=by
 obtain⟨hs,h⟩:=h
 have hd:∀{id o m:Nat},DX H id z m o=some (L::LS)->∃m',m=m'+1/\DX H id z m' (o+1)=some LS:=by
  intro id o m h
  cases m with
  |zero=>cases h
  |succ m=>
   have h3:Ci (gX H id (Nat.mul o z) z) (λL=>Ci (DX H id z m (Nat.succ o)) λLS=>some (L::LS))=some (L::LS):=h
   rw[Ba]at h3
   obtain⟨L',_,h3⟩:=h3
   rw[Ba]at h3
   obtain⟨LS',h4,h3⟩:=h3
   cases h3
   exact⟨m,rfl,h4⟩
 cases v<;>try (cases h;done)
 ·cases hs
 ·rename_i id o m c e
  cases hb:Nat.beq e z with
  |false=>have h':(Bool.rec (motive:=λ_=>Option EY) none (DX H id z m o) (Nat.beq e z):Option EY)=some (L::LS):=h;rw[hb]at h';cases h'
  |true=>
   have h':(Bool.rec (motive:=λ_=>Option EY) none (DX H id z m o) (Nat.beq e z):Option EY)=some (L::LS):=h
   rw[hb]at h'
   have he:e=z:=Nat.eq_of_beq_eq_true hb
   subst he
   obtain⟨m',rfl,h4⟩:=hd h'
   have hmc:=hv.2.1 _ _ _ _ _ rfl
   refine⟨.sl id (o+1) m' (c-1) e,?_,⟨rfl,?_⟩,rfl⟩
   ·show BJ (Nat.beq e e) (BJ (band (Nat.ble 1 (m'+1)) (band (Nat.ble (m'+1) c) (Nat.ble c c))) (f3 (o+1) (m'+1-1) (c-1) λo d c=>.sl id o d c e))=_
    rw[Fp,show Nat.ble 1 (m'+1)=true by rw[Nat.ble_eq];omega,show Nat.ble (m'+1) c=true by rw[Nat.ble_eq];omega,show Nat.ble c c=true by rw[Nat.ble_eq];omega]
    show Dk (o+1) (λa=>Dk (m'+1-1) λb=>Dk (c-1) λd=>some (.sl id a b d e))=_
    rw[Bc,Bc,Bc];rfl
   ·show(Bool.rec (motive:=λ_=>Option EY) none (DX H id e m' (o+1)) (Nat.beq e e):Option EY)=some LS
    rw[Fp];exact h4
 ·rename_i id o m e
  cases hb:Nat.beq e z with
  |false=>have h':(Bool.rec (motive:=λ_=>Option EY) none (DX H id z m o) (Nat.beq e z):Option EY)=some (L::LS):=h;rw[hb]at h';cases h'
  |true=>
   have h':(Bool.rec (motive:=λ_=>Option EY) none (DX H id z m o) (Nat.beq e z):Option EY)=some (L::LS):=h
   rw[hb]at h'
   have he:e=z:=Nat.eq_of_beq_eq_true hb
   subst he
   obtain⟨m',rfl,h4⟩:=hd h'
   exact⟨_,AI4,AMb h4,rfl⟩
 ·exact absurd rfl (hv.2.2 _ _ _ _ _)
def Eh(G:AY)(e:Ex):Prop:=∀(H:Heap) (n:Nat) (c:LV) (A:Nat->Prop) (k:KV),ER G H A c e->(∀id,A id->id<n)->(textE e).length<=100000000000->(∀H' n',Kp H n H' n'->k (sB (textE e)) H' n')->Runs F G Rj [.agg c] H n k
theorem IB{k i:Nat}{X Y:Prop}(h:k≠i)(hp:Y):AP (Ez (.one .int) false (.int .i64 (.ofNat k) 0) (.int .i64 (.ofNat i) 0)) (λv=>Ae v true X Y):=by
 rw[VN,BA,decide_eq_false h,Bg];exact hp
theorem Fb{k:Nat}{X Y:Prop}(hp:X):AP (Ez (.one .int) false (.int .i64 (.ofNat k) 0) (.int .i64 (.ofNat k) 0)) (λv=>Ae v true X Y):=by
 rw[VN,BA,decide_eq_true rfl,Bq];exact hp
theorem XY{kd nu i:Nat}{nm ty:Bs}{ar:Bool}{ks:List Ex}{x:Ex}{c:LV}{A:Nat->Prop}(hc:ER G H A c (.mk kd nu nm ty ar ks))(hA:∀id,A id->id<n)(hi:ks[i]? =some x)(ht:Eh G x)(hl:(textE x).length<=100000000000)
 (hk:∀H' n',Kp H n H' n'->k (sB (textE x)) H' n'):Runs F G DT [.agg c,.int .i64 (.ofNat i) 0] H n k:=by
 refine Am (s:=RG (UC lfp G)) Wj (by obtain⟨h,o⟩:=zW Ap G;rw[Wj]at h;cases h;exact o) ?_
 show UC lfp G (Runs F G) (.agg c) (.int .i64 (.ofNat i) 0) H n k
 delta UC
 refine D5 λH1 f1 g1=>?_
 have hc:ER G H1 A c (.mk kd nu nm ty ar ks):=hc.mono (λ_ h=>h) λid h=>f1.same id (hA id h)
 cases hc with
 |mk _ _ _ _ _ line col he hv ha hcs=>
 rename_i v cs
 obtain⟨hlt,_⟩:=List.getElem?_eq_some_iff.1 hi
 have q7:AZ (.ptr n 7) G H1=some v:=AQ g1 rfl
 obtain⟨cx,hcx,hx⟩:=hcs.at hi
 obtain⟨p,hp,hld⟩:=he.at hcx
 refine AB (v:=.ptr n 7) (by rw[Aa,Nat.zero_add]) (AB q7 (AB he.len (AB (Ht ..) ?_)))
 rw[hcs.len,decide_eq_true hlt,Bq]
 refine AB (v:=.ptr n 7) (by rw[Aa,Nat.zero_add]) (AB q7 (AB hp (AB (Qs hld) ?_)))
 exact ht H1 (n+1) cx A _ hx (λid h=>by have:=hA id h;omega) hl λH' n' f=>hk _ _ (f1.trans f)
theorem AUI{kd nu:Nat}{nm ty:Bs}{ar:Bool}{x:Ex}{ks:List Ex}{c:LV}{A:Nat->Prop}(hc:ER G H A c (.mk kd nu nm ty ar (x::ks)))(hA:∀id,A id->id<n)
 (hk:∀H' n' w cs,Kp H n H' n'->El G H' w 11 cs->(∀id,w.Ry=some id->A id)->QW G H' A cs ks->k w H' n'):Runs F G fP [.agg c] H n k:=by
 refine Am (s:=IQ (Rn lfp G)) VH (by obtain⟨h,o⟩:=wX Ap G;rw[VH]at h;cases h;exact o) ?_
 show Rn lfp G (Runs F G) (.agg c) H n k
 delta Rn
 refine D5 λH1 f1 g1=>?_
 have hc:ER G H1 A c (.mk kd nu nm ty ar (x::ks)):=hc.mono (λ_ h=>h) λid h=>f1.same id (hA id h)
 cases hc with
 |mk _ _ _ _ _ line col he hv ha hcs=>
 rename_i v cs
 cases hcs with
 |cons hx hcs=>
 have q7:AZ (.ptr n 7) G H1=some v:=AQ g1 rfl
 obtain⟨w,hw,hel,hsid⟩:=AQi he hv
 refine AB (v:=.ptr n 7) (by rw[Aa,Nat.zero_add]) (AB q7 (AB (v:=.ptr n 7) (by rw[Aa,Nat.zero_add]) (AB q7 (AB he.len (AB (v:=.int .i64 (.ofNat 1) 0) ?_ (AB hw ?_))))))
 ·rw[List.length_cons];rfl
 ·exact hk _ _ _ _ f1 hel (λid hid=>ha id (hsid▸hid)) hcs
theorem AOB{v:V}{cs:EY}{ks:List Ex}{A:Nat->Prop}(hv:El G H v 11 cs)(hva:∀id,v.Ry=some id->A id)(hc:QW G H A cs ks)(hA:∀id,A id->id<n)(ht:∀x∈ks,Eh G x)(hn:ks.length<=1000000)(hl:(GZ (ks.map textE)).length<=100000000000)
 (hk:∀H' n',Kp H n H' n'->k (sB (GZ (ks.map textE))) H' n'):Runs F G pO [v] H n k:=by
 refine Am (s:=IQ (dH lfp G)) jJ (by obtain⟨h,o⟩:=AF8 Ap G;rw[jJ]at h;cases h;exact o) ?_
 show dH lfp G (Runs F G) v H n k
 delta dH
 refine AB hv.len ?_
 rw[hc.len]
 refine IZ (N:=ks.length) (J:=λj q=>∃w H' n',q=(w,v,.int .i64 (.ofNat ks.length) 0,.int .i64 (.ofNat j) 0,H',n')/\Kp H n H' n'/\Own G H' n n' 1 w ((ks.take j).map λe=>[sB (textE e)])) ?_ ?_ ⟨.Aj,H,n,rfl,Kp.refl ..,Yp⟩
 ·rintro I j q hlt ⟨w,H1,n1,rfl,f1,ho⟩ ih
  show RJ lfp G (Runs F G) k I w v (.int .i64 (.ofNat ks.length) 0) (.int .i64 (.ofNat j) 0) H1 n1
  delta RJ
  have hn1:=f1.le
  have hv1:El G H1 v 11 cs:=hv.kp (λid hid=>hA id (hva id hid)) f1
  have hc1:QW G H1 A cs ks:=hc.mono (λ_ h=>h) λid h=>f1.same id (hA id h)
  obtain⟨cx,hcx,hx⟩:=hc1.at (List.getElem?_eq_getElem hlt)
  have htx:=ht _ (List.getElem_mem hlt)
  have hlx:(textE ks[j]).length<=(GZ (ks.map textE)).length:=ACZ _ _ (List.mem_map_of_mem (List.getElem_mem hlt))
  obtain⟨p,hp,hld⟩:=hv1.at hcx
  rw[Ht,BA,decide_eq_true hlt,Bq]
  refine AB hp (AB (Qs hld) ?_)
  refine BG rfl λH2 f2 g2=>?_
  refine DI g2 rfl hx.len (by omega) λH3 g2 t3=>?_
  have f3:Kp H1 n1 H3 (n1+1):=⟨f2.le,λid hid=>(t3 id (by omega)).trans (f2.same id hid)⟩
  refine AB (Ah (m:=11) g2 (by omega) hx.len) ?_
  have hx:ER G H3 A cx ks[j]:=hx.mono (λ_ h=>h) λid h=>f3.same id (by have:=hA id h;omega)
  refine htx H3 (n1+1) cx A _ hx (λid h=>by have:=hA id h;omega) (by omega) λH4 n4 f4=>?_
  have f4:=f3.trans f4
  have ho4:=ho.kp f4
  have hn4:=f4.le
  refine AGJ ho4 (by omega) (by rw[List.length_map,List.length_take];omega) λv' H5 ho5 hs5 _=>?_
  refine AB (Iz (by omega)) ?_
  refine ih _ ⟨v',H5,n4+2,rfl,⟨by omega,λid hid=>(hs5 id (by omega) (λe=>by have:=ho4.ge e;omega)).trans ((f4.same id (by omega)).trans (f1.same id hid))⟩,?_⟩
  rw[List.take_succ_eq_append_getElem hlt,List.map_append]
  exact ho5
 ·rintro I q ⟨w,H1,n1,rfl,f1,ho⟩
  show RJ lfp G (Runs F G) k I w v (.int .i64 (.ofNat ks.length) 0) (.int .i64 (.ofNat ks.length) 0) H1 n1
  delta RJ
  rw[Ht,BA,decide_eq_false (Nat.lt_irrefl _),Bg]
  show Vk lfp G (Runs F G) k w H1 n1
  delta Vk
  rw[List.take_length]at ho
  have hel:El G H1 w 1 ((ks.map textE).map λb=>[sB b]):=by rw[List.map_map];exact ho.el (by omega)
  exact ANv hel (by rw[List.length_map];exact hn) (by omega) (hk _ _ f1)
end
theorem ER.inv{G:AY}{H:Heap}{A:Nat->Prop}{c:LV}{kd nu:Nat}{nm ty:Bs}{ar:Bool}{ks:List Ex}(h:ER G H A c (.mk kd nu nm ty ar ks)):
 ∃line col v cs,c=iC kd nu nm ty ar line col v/\El G H v 11 cs/\KS v/\(∀id,v.Ry=some id->A id)/\QW G H A cs ks:=by
 cases h with
 |mk _ _ _ _ _ line col he hv ha hc=>exact⟨line,col,_,_,rfl,he,hv,ha,hc⟩
section
variable{G:AY}
theorem AT2(hG:dZ G){m:Nat}(hm:m<=288230376151711744):Eh G (.mk 1 m [] [] false []):=by
 intro H n c A k hx0 hA0 hl hk
 have e0:textE (.mk 1 m [] [] false [])=YE m:=by rw[Ad];rfl
 rw[e0]at hl hk
 try simp only[List.length_append]at hl
 obtain⟨line,col,v,cs,rfl,hel,hks,hva,hcs⟩:=hx0.inv
 refine Am (s:=IQ (AX lfp G)) Ac (by obtain⟨h,o⟩:=Bf Ap G;rw[Ac]at h;cases h;exact o) ?_
 show AX lfp G (Runs F G) (.agg (iC 1 m [] [] false line col v)) H n k
 delta AX
 refine D5 λH1 f1 g1=>?_
 have hx1:=hx0.mono (λ_ h=>h) λid h=>f1.same id (hA0 id h)
 have hA1:∀id,A id->id<n+1:=λid h=>by have:=hA0 id h;omega
 refine AB (Aa ..) (AB (AQ g1 rfl) ?_)
 repeat refine IB (by decide) ?_
 refine Fb ?_
 refine AB (Aa ..) (AB (AQ g1 rfl) ?_)
 refine AFW hG (by omega) λH2 n2 f2=>?_
 have hn2:=f2.le
 have g2:=f2.get g1 (by omega)
 have f2:=f1.trans f2
 have hx2:=hx0.mono (λ_ h=>h) λid h=>f2.same id (hA0 id h)
 have hA2:∀id,A id->id<n2:=λid h=>by have:=hA0 id h;omega
 have hk:=hk _ _ f2
 try simp only[List.append_assoc]at hk
 try simp only[List.append_assoc]
 exact hk
theorem AUH:Eh G (.mk 2 0 [] [] false []):=by
 intro H n c A k hx0 hA0 hl hk
 have e0:textE (.mk 2 0 [] [] false [])=Wv:=by rw[Ad];rfl
 rw[e0]at hl hk
 try simp only[List.length_append]at hl
 obtain⟨line,col,v,cs,rfl,hel,hks,hva,hcs⟩:=hx0.inv
 refine Am (s:=IQ (AX lfp G)) Ac (by obtain⟨h,o⟩:=Bf Ap G;rw[Ac]at h;cases h;exact o) ?_
 show AX lfp G (Runs F G) (.agg (iC 2 0 [] [] false line col v)) H n k
 delta AX
 refine D5 λH1 f1 g1=>?_
 have hx1:=hx0.mono (λ_ h=>h) λid h=>f1.same id (hA0 id h)
 have hA1:∀id,A id->id<n+1:=λid h=>by have:=hA0 id h;omega
 refine AB (Aa ..) (AB (AQ g1 rfl) ?_)
 repeat refine IB (by decide) ?_
 refine Fb ?_
 have hk:=hk _ _ f1
 try simp only[List.append_assoc]at hk
 try simp only[List.append_assoc]
 exact hk
theorem AT6:Eh G (.mk 3 0 [] [] false []):=by
 intro H n c A k hx0 hA0 hl hk
 have e0:textE (.mk 3 0 [] [] false [])=Rk:=by rw[Ad];rfl
 rw[e0]at hl hk
 try simp only[List.length_append]at hl
 obtain⟨line,col,v,cs,rfl,hel,hks,hva,hcs⟩:=hx0.inv
 refine Am (s:=IQ (AX lfp G)) Ac (by obtain⟨h,o⟩:=Bf Ap G;rw[Ac]at h;cases h;exact o) ?_
 show AX lfp G (Runs F G) (.agg (iC 3 0 [] [] false line col v)) H n k
 delta AX
 refine D5 λH1 f1 g1=>?_
 have hx1:=hx0.mono (λ_ h=>h) λid h=>f1.same id (hA0 id h)
 have hA1:∀id,A id->id<n+1:=λid h=>by have:=hA0 id h;omega
 refine AB (Aa ..) (AB (AQ g1 rfl) ?_)
 repeat refine IB (by decide) ?_
 refine Fb ?_
 have hk:=hk _ _ f1
 try simp only[List.append_assoc]at hk
 try simp only[List.append_assoc]
 exact hk
theorem ASX:Eh G (.mk 4 0 [] [] false []):=by
 intro H n c A k hx0 hA0 hl hk
 have e0:textE (.mk 4 0 [] [] false [])=Qp:=by rw[Ad];rfl
 rw[e0]at hl hk
 try simp only[List.length_append]at hl
 obtain⟨line,col,v,cs,rfl,hel,hks,hva,hcs⟩:=hx0.inv
 refine Am (s:=IQ (AX lfp G)) Ac (by obtain⟨h,o⟩:=Bf Ap G;rw[Ac]at h;cases h;exact o) ?_
 show AX lfp G (Runs F G) (.agg (iC 4 0 [] [] false line col v)) H n k
 delta AX
 refine D5 λH1 f1 g1=>?_
 have hx1:=hx0.mono (λ_ h=>h) λid h=>f1.same id (hA0 id h)
 have hA1:∀id,A id->id<n+1:=λid h=>by have:=hA0 id h;omega
 refine AB (Aa ..) (AB (AQ g1 rfl) ?_)
 repeat refine IB (by decide) ?_
 have hk:=hk _ _ f1
 try simp only[List.append_assoc]at hk
 try simp only[List.append_assoc]
 exact hk
theorem AUY:Eh G (.mk 5 0 [] [] false []):=by
 intro H n c A k hx0 hA0 hl hk
 have e0:textE (.mk 5 0 [] [] false [])=XB:=by rw[Ad];rfl
 rw[e0]at hl hk
 try simp only[List.length_append]at hl
 obtain⟨line,col,v,cs,rfl,hel,hks,hva,hcs⟩:=hx0.inv
 refine Am (s:=IQ (AX lfp G)) Ac (by obtain⟨h,o⟩:=Bf Ap G;rw[Ac]at h;cases h;exact o) ?_
 show AX lfp G (Runs F G) (.agg (iC 5 0 [] [] false line col v)) H n k
 delta AX
 refine D5 λH1 f1 g1=>?_
 have hx1:=hx0.mono (λ_ h=>h) λid h=>f1.same id (hA0 id h)
 have hA1:∀id,A id->id<n+1:=λid h=>by have:=hA0 id h;omega
 refine AB (Aa ..) (AB (AQ g1 rfl) ?_)
 repeat refine IB (by decide) ?_
 refine Fb ?_
 have hk:=hk _ _ f1
 try simp only[List.append_assoc]at hk
 try simp only[List.append_assoc]
 exact hk
theorem ASU{l:Bs}:Eh G (.mk 6 0 l [] false []):=by
 intro H n c A k hx0 hA0 hl hk
 have e0:textE (.mk 6 0 l [] false [])=l:=by rw[Ad];rfl
 rw[e0]at hl hk
 try simp only[List.length_append]at hl
 obtain⟨line,col,v,cs,rfl,hel,hks,hva,hcs⟩:=hx0.inv
 refine Am (s:=IQ (AX lfp G)) Ac (by obtain⟨h,o⟩:=Bf Ap G;rw[Ac]at h;cases h;exact o) ?_
 show AX lfp G (Runs F G) (.agg (iC 6 0 l [] false line col v)) H n k
 delta AX
 refine D5 λH1 f1 g1=>?_
 have hx1:=hx0.mono (λ_ h=>h) λid h=>f1.same id (hA0 id h)
 have hA1:∀id,A id->id<n+1:=λid h=>by have:=hA0 id h;omega
 refine AB (Aa ..) (AB (AQ g1 rfl) ?_)
 repeat refine IB (by decide) ?_
 refine Fb ?_
 refine AB (Aa ..) (AB (AQ g1 rfl) ?_)
 have hk:=hk _ _ f1
 try simp only[List.append_assoc]at hk
 try simp only[List.append_assoc]
 exact hk
theorem AUC{l:Bs}{a:Ex}(iha:Eh G a):Eh G (.mk 7 0 l [] false [a]):=by
 intro H n c A k hx0 hA0 hl hk
 have e0:textE (.mk 7 0 l [] false [a])=textE a++(DJ++l):=by rw[Ad];rfl
 rw[e0]at hl hk
 try simp only[List.length_append]at hl
 obtain⟨line,col,v,cs,rfl,hel,hks,hva,hcs⟩:=hx0.inv
 refine Am (s:=IQ (AX lfp G)) Ac (by obtain⟨h,o⟩:=Bf Ap G;rw[Ac]at h;cases h;exact o) ?_
 show AX lfp G (Runs F G) (.agg (iC 7 0 l [] false line col v)) H n k
 delta AX
 refine D5 λH1 f1 g1=>?_
 have hx1:=hx0.mono (λ_ h=>h) λid h=>f1.same id (hA0 id h)
 have hA1:∀id,A id->id<n+1:=λid h=>by have:=hA0 id h;omega
 refine AB (Aa ..) (AB (AQ g1 rfl) ?_)
 repeat refine IB (by decide) ?_
 refine Fb ?_
 refine AB (Ah (m:=11) g1 (by omega) rfl) ?_
 refine AB (Aa ..) (AB (AQ g1 rfl) ?_)
 refine XY (i:=0) hx1 hA1 rfl iha (by omega) λH2 n2 f2=>?_
 have hn2:=f2.le
 have g2:=f2.get g1 (by omega)
 have f2:=f1.trans f2
 have hx2:=hx0.mono (λ_ h=>h) λid h=>f2.same id (hA0 id h)
 have hA2:∀id,A id->id<n2:=λid h=>by have:=hA0 id h;omega
 refine AB (AQ g2 rfl) (Dv (TB _) ?_)
 refine AB (BO (a:=textE a) (b:=DJ) (by first|omega|(simp only[List.length_append];omega))) ?_
 refine AB (BO (a:=textE a++DJ) (b:=l) (by first|omega|(simp only[List.length_append];omega))) ?_
 have hk:=hk _ _ f2
 try simp only[List.append_assoc]at hk
 try simp only[List.append_assoc]
 exact hk
theorem AQh{l:Bs}{a:Ex}(iha:Eh G a){ks:List Ex}(ihk:∀x∈ks,Eh G x)(hn:ks.length<=200):Eh G (.mk 8 0 l [] false (a::ks)):=by
 intro H n c A k hx0 hA0 hl hk
 have e0:textE (.mk 8 0 l [] false (a::ks))=textE a++(DJ++(l++(Au++(GZ (ks.map textE)++BD)))):=by rw[Ad];rfl
 rw[e0]at hl hk
 try simp only[List.length_append]at hl
 obtain⟨line,col,v,cs,rfl,hel,hks,hva,hcs⟩:=hx0.inv
 refine Am (s:=IQ (AX lfp G)) Ac (by obtain⟨h,o⟩:=Bf Ap G;rw[Ac]at h;cases h;exact o) ?_
 show AX lfp G (Runs F G) (.agg (iC 8 0 l [] false line col v)) H n k
 delta AX
 refine D5 λH1 f1 g1=>?_
 have hx1:=hx0.mono (λ_ h=>h) λid h=>f1.same id (hA0 id h)
 have hA1:∀id,A id->id<n+1:=λid h=>by have:=hA0 id h;omega
 refine AB (Aa ..) (AB (AQ g1 rfl) ?_)
 repeat refine IB (by decide) ?_
 refine Fb ?_
 refine AB (Ah (m:=11) g1 (by omega) rfl) ?_
 refine AB (Aa ..) (AB (AQ g1 rfl) ?_)
 refine AB (Ah (m:=11) g1 (by omega) rfl) ?_
 refine XY (i:=0) hx1 hA1 rfl iha (by omega) λH2 n2 f2=>?_
 have hn2:=f2.le
 have g2:=f2.get g1 (by omega)
 have f2:=f1.trans f2
 have hx2:=hx0.mono (λ_ h=>h) λid h=>f2.same id (hA0 id h)
 have hA2:∀id,A id->id<n2:=λid h=>by have:=hA0 id h;omega
 refine AB (AQ g2 rfl) (Dv (TB _) ?_)
 refine AB (Ah (m:=11) g2 (by omega) rfl) (Dv hx2.vs ?_)
 refine AB (BO (a:=textE a) (b:=DJ) (by first|omega|(simp only[List.length_append];omega))) ?_
 refine AB (BO (a:=textE a++DJ) (b:=l) (by first|omega|(simp only[List.length_append];omega))) ?_
 refine AB (BO (a:=(textE a++DJ)++l) (b:=Au) (by first|omega|(simp only[List.length_append];omega))) ?_
 refine AUI hx2 hA2 λH3 n3 w cs' f3 helw hsw hcsw=>?_
 have hn3:=f3.le
 have g3:=f3.get g2 (by omega)
 have f3:=f2.trans f3
 have hx3:=hx0.mono (λ_ h=>h) λid h=>f3.same id (hA0 id h)
 have hA3:∀id,A id->id<n3:=λid h=>by have:=hA0 id h;omega
 refine AB (AQ g3 rfl) (Dv (TB _) ?_)
 refine AOB helw hsw hcsw hA3 ihk (by omega) (by omega) λH4 n4 f4=>?_
 have hn4:=f4.le
 have g4:=f4.get g3 (by omega)
 have f4:=f3.trans f4
 have hx4:=hx0.mono (λ_ h=>h) λid h=>f4.same id (hA0 id h)
 have hA4:∀id,A id->id<n4:=λid h=>by have:=hA0 id h;omega
 refine AB (AQ g4 rfl) (Dv (TB _) ?_)
 refine AB (BO (a:=((textE a++DJ)++l)++Au) (b:=GZ (ks.map textE)) (by first|omega|(simp only[List.length_append];omega))) ?_
 refine AB (BO (a:=(((textE a++DJ)++l)++Au)++GZ (ks.map textE)) (b:=BD) (by first|omega|(simp only[List.length_append];omega))) ?_
 have hk:=hk _ _ f4
 try simp only[List.append_assoc]at hk
 try simp only[List.append_assoc]
 exact hk
theorem APN{l u:Bs}{ks:List Ex}(ihk:∀x∈ks,Eh G x)(hn:ks.length<=200):Eh G (.mk 9 0 l u false ks):=by
 intro H n c A k hx0 hA0 hl hk
 have e0:textE (.mk 9 0 l u false ks)=u++(DJ++(l++(Au++(GZ (ks.map textE)++BD)))):=by rw[Ad];rfl
 rw[e0]at hl hk
 try simp only[List.length_append]at hl
 obtain⟨line,col,v,cs,rfl,hel,hks,hva,hcs⟩:=hx0.inv
 refine Am (s:=IQ (AX lfp G)) Ac (by obtain⟨h,o⟩:=Bf Ap G;rw[Ac]at h;cases h;exact o) ?_
 show AX lfp G (Runs F G) (.agg (iC 9 0 l u false line col v)) H n k
 delta AX
 refine D5 λH1 f1 g1=>?_
 have hx1:=hx0.mono (λ_ h=>h) λid h=>f1.same id (hA0 id h)
 have hA1:∀id,A id->id<n+1:=λid h=>by have:=hA0 id h;omega
 refine AB (Aa ..) (AB (AQ g1 rfl) ?_)
 repeat refine IB (by decide) ?_
 refine Fb ?_
 refine AB (Aa ..) (AB (Aa ..) (AB (AQ g1 rfl) ?_))
 refine AB (BO (a:=u) (b:=DJ) (by first|omega|(simp only[List.length_append];omega))) ?_
 refine AB (Aa ..) (AB (AQ g1 rfl) ?_)
 refine AB (BO (a:=u++DJ) (b:=l) (by first|omega|(simp only[List.length_append];omega))) ?_
 refine AB (BO (a:=(u++DJ)++l) (b:=Au) (by first|omega|(simp only[List.length_append];omega))) ?_
 refine AB (Aa ..) (AB (AQ g1 rfl) ?_)
 refine AOB (hel.same λid hid=>f1.same id (hA0 id (hva id hid))) hva (hcs.mono (λ_ h=>h) λid h=>f1.same id (hA0 id h)) hA1 ihk (by omega) (by omega) λH2 n2 f2=>?_
 have hn2:=f2.le
 have g2:=f2.get g1 (by omega)
 have f2:=f1.trans f2
 have hx2:=hx0.mono (λ_ h=>h) λid h=>f2.same id (hA0 id h)
 have hA2:∀id,A id->id<n2:=λid h=>by have:=hA0 id h;omega
 refine AB (AQ g2 rfl) (Dv (TB _) ?_)
 refine AB (AQ g2 rfl) (Dv (TB _) ?_)
 refine AB (BO (a:=((u++DJ)++l)++Au) (b:=GZ (ks.map textE)) (by first|omega|(simp only[List.length_append];omega))) ?_
 refine AB (BO (a:=(((u++DJ)++l)++Au)++GZ (ks.map textE)) (b:=BD) (by first|omega|(simp only[List.length_append];omega))) ?_
 have hk:=hk _ _ f2
 try simp only[List.append_assoc]at hk
 try simp only[List.append_assoc]
 exact hk
theorem ASM{u:Bs}:Eh G (.mk 10 0 [] u false []):=by
 intro H n c A k hx0 hA0 hl hk
 have e0:textE (.mk 10 0 [] u false [])=Au++(Ib++([32]++(u++BD))):=by rw[Ad];rfl
 rw[e0]at hl hk
 try simp only[List.length_append]at hl
 obtain⟨line,col,v,cs,rfl,hel,hks,hva,hcs⟩:=hx0.inv
 refine Am (s:=IQ (AX lfp G)) Ac (by obtain⟨h,o⟩:=Bf Ap G;rw[Ac]at h;cases h;exact o) ?_
 show AX lfp G (Runs F G) (.agg (iC 10 0 [] u false line col v)) H n k
 delta AX
 refine D5 λH1 f1 g1=>?_
 have hx1:=hx0.mono (λ_ h=>h) λid h=>f1.same id (hA0 id h)
 have hA1:∀id,A id->id<n+1:=λid h=>by have:=hA0 id h;omega
 refine AB (Aa ..) (AB (AQ g1 rfl) ?_)
 repeat refine IB (by decide) ?_
 refine Fb ?_
 refine AB (Aa ..) (AB (Aa ..) (AB (AQ g1 rfl) ?_))
 rw[show V.str 5 139442089512=sB (Au++(Ib++[32]))from rfl]
 refine AB (BO (a:=Au++(Ib++[32])) (b:=u) (by first|omega|(simp only[List.length_append];omega))) ?_
 refine AB (BO (a:=(Au++(Ib++[32]))++u) (b:=BD) (by first|omega|(simp only[List.length_append];omega))) ?_
 have hk:=hk _ _ f1
 try simp only[List.append_assoc]at hk
 try simp only[List.append_assoc]
 exact hk
theorem ATV{u:Bs}{a:Ex}(iha:Eh G a):Eh G (.mk 11 0 [] u false [a]):=by
 intro H n c A k hx0 hA0 hl hk
 have e0:textE (.mk 11 0 [] u false [a])=Ib++([32]++(u++(Fe++(textE a++FV)))):=by rw[Ad];rfl
 rw[e0]at hl hk
 try simp only[List.length_append]at hl
 obtain⟨line,col,v,cs,rfl,hel,hks,hva,hcs⟩:=hx0.inv
 refine Am (s:=IQ (AX lfp G)) Ac (by obtain⟨h,o⟩:=Bf Ap G;rw[Ac]at h;cases h;exact o) ?_
 show AX lfp G (Runs F G) (.agg (iC 11 0 [] u false line col v)) H n k
 delta AX
 refine D5 λH1 f1 g1=>?_
 have hx1:=hx0.mono (λ_ h=>h) λid h=>f1.same id (hA0 id h)
 have hA1:∀id,A id->id<n+1:=λid h=>by have:=hA0 id h;omega
 refine AB (Aa ..) (AB (AQ g1 rfl) ?_)
 repeat refine IB (by decide) ?_
 refine Fb ?_
 refine AB (Aa ..) (AB (Aa ..) (AB (AQ g1 rfl) ?_))
 rw[show V.str 4 544695662=sB (Ib++[32])from rfl]
 refine AB (BO (a:=Ib++[32]) (b:=u) (by first|omega|(simp only[List.length_append];omega))) ?_
 refine AB (BO (a:=(Ib++[32])++u) (b:=Fe) (by first|omega|(simp only[List.length_append];omega))) ?_
 refine AB (Ah (m:=11) g1 (by omega) rfl) ?_
 refine XY (i:=0) hx1 hA1 rfl iha (by omega) λH2 n2 f2=>?_
 have hn2:=f2.le
 have g2:=f2.get g1 (by omega)
 have f2:=f1.trans f2
 have hx2:=hx0.mono (λ_ h=>h) λid h=>f2.same id (hA0 id h)
 have hA2:∀id,A id->id<n2:=λid h=>by have:=hA0 id h;omega
 refine AB (AQ g2 rfl) (Dv (TB _) ?_)
 refine AB (BO (a:=((Ib++[32])++u)++Fe) (b:=textE a) (by first|omega|(simp only[List.length_append];omega))) ?_
 refine AB (BO (a:=(((Ib++[32])++u)++Fe)++textE a) (b:=FV) (by first|omega|(simp only[List.length_append];omega))) ?_
 have hk:=hk _ _ f2
 try simp only[List.append_assoc]at hk
 try simp only[List.append_assoc]
 exact hk
theorem ASh{a b:Ex}(iha:Eh G a)(ihb:Eh G b):Eh G (.mk 12 0 [] [] false [a,b]):=by
 intro H n c A k hx0 hA0 hl hk
 have e0:textE (.mk 12 0 [] [] false [a,b])=textE a++(Fe++(textE b++FV)):=by rw[Ad];rfl
 rw[e0]at hl hk
 try simp only[List.length_append]at hl
 obtain⟨line,col,v,cs,rfl,hel,hks,hva,hcs⟩:=hx0.inv
 refine Am (s:=IQ (AX lfp G)) Ac (by obtain⟨h,o⟩:=Bf Ap G;rw[Ac]at h;cases h;exact o) ?_
 show AX lfp G (Runs F G) (.agg (iC 12 0 [] [] false line col v)) H n k
 delta AX
 refine D5 λH1 f1 g1=>?_
 have hx1:=hx0.mono (λ_ h=>h) λid h=>f1.same id (hA0 id h)
 have hA1:∀id,A id->id<n+1:=λid h=>by have:=hA0 id h;omega
 refine AB (Aa ..) (AB (AQ g1 rfl) ?_)
 repeat refine IB (by decide) ?_
 refine Fb ?_
 refine AB (Ah (m:=11) g1 (by omega) rfl) ?_
 refine AB (Ah (m:=11) g1 (by omega) rfl) ?_
 refine XY (i:=0) hx1 hA1 rfl iha (by omega) λH2 n2 f2=>?_
 have hn2:=f2.le
 have g2:=f2.get g1 (by omega)
 have f2:=f1.trans f2
 have hx2:=hx0.mono (λ_ h=>h) λid h=>f2.same id (hA0 id h)
 have hA2:∀id,A id->id<n2:=λid h=>by have:=hA0 id h;omega
 refine AB (Ah (m:=11) g2 (by omega) rfl) (Dv hx2.vs ?_)
 refine AB (BO (a:=textE a) (b:=Fe) (by first|omega|(simp only[List.length_append];omega))) ?_
 refine XY (i:=1) hx2 hA2 rfl ihb (by omega) λH3 n3 f3=>?_
 have hn3:=f3.le
 have g3:=f3.get g2 (by omega)
 have f3:=f2.trans f3
 have hx3:=hx0.mono (λ_ h=>h) λid h=>f3.same id (hA0 id h)
 have hA3:∀id,A id->id<n3:=λid h=>by have:=hA0 id h;omega
 refine AB (BO (a:=textE a++Fe) (b:=textE b) (by first|omega|(simp only[List.length_append];omega))) ?_
 refine AB (BO (a:=(textE a++Fe)++textE b) (b:=FV) (by first|omega|(simp only[List.length_append];omega))) ?_
 have hk:=hk _ _ f3
 try simp only[List.append_assoc]at hk
 try simp only[List.append_assoc]
 exact hk
theorem ATb{a:Ex}(iha:Eh G a):Eh G (.mk 13 0 [] [] false [a]):=by
 intro H n c A k hx0 hA0 hl hk
 have e0:textE (.mk 13 0 [] [] false [a])=textE a++(DJ++G7):=by rw[Ad];rfl
 rw[e0]at hl hk
 try simp only[List.length_append]at hl
 obtain⟨line,col,v,cs,rfl,hel,hks,hva,hcs⟩:=hx0.inv
 refine Am (s:=IQ (AX lfp G)) Ac (by obtain⟨h,o⟩:=Bf Ap G;rw[Ac]at h;cases h;exact o) ?_
 show AX lfp G (Runs F G) (.agg (iC 13 0 [] [] false line col v)) H n k
 delta AX
 refine D5 λH1 f1 g1=>?_
 have hx1:=hx0.mono (λ_ h=>h) λid h=>f1.same id (hA0 id h)
 have hA1:∀id,A id->id<n+1:=λid h=>by have:=hA0 id h;omega
 refine AB (Aa ..) (AB (AQ g1 rfl) ?_)
 repeat refine IB (by decide) ?_
 refine Fb ?_
 refine AB (Ah (m:=11) g1 (by omega) rfl) ?_
 refine XY (i:=0) hx1 hA1 rfl iha (by omega) λH2 n2 f2=>?_
 have hn2:=f2.le
 have g2:=f2.get g1 (by omega)
 have f2:=f1.trans f2
 have hx2:=hx0.mono (λ_ h=>h) λid h=>f2.same id (hA0 id h)
 have hA2:∀id,A id->id<n2:=λid h=>by have:=hA0 id h;omega
 rw[show V.str 7 29401385160502318=sB (DJ++G7)from rfl]
 refine AB (BO (a:=textE a) (b:=DJ++G7) (by first|omega|(simp only[List.length_append];omega))) ?_
 have hk:=hk _ _ f2
 try simp only[List.append_assoc]at hk
 try simp only[List.append_assoc]
 exact hk
theorem ASR{a:Ex}(iha:Eh G a):Eh G (.mk 14 0 [] [] false [a]):=by
 intro H n c A k hx0 hA0 hl hk
 have e0:textE (.mk 14 0 [] [] false [a])=Au++(Dq++(textE a++BD)):=by rw[Ad];rfl
 rw[e0]at hl hk
 try simp only[List.length_append]at hl
 obtain⟨line,col,v,cs,rfl,hel,hks,hva,hcs⟩:=hx0.inv
 refine Am (s:=IQ (AX lfp G)) Ac (by obtain⟨h,o⟩:=Bf Ap G;rw[Ac]at h;cases h;exact o) ?_
 show AX lfp G (Runs F G) (.agg (iC 14 0 [] [] false line col v)) H n k
 delta AX
 refine D5 λH1 f1 g1=>?_
 have hx1:=hx0.mono (λ_ h=>h) λid h=>f1.same id (hA0 id h)
 have hA1:∀id,A id->id<n+1:=λid h=>by have:=hA0 id h;omega
 refine AB (Aa ..) (AB (AQ g1 rfl) ?_)
 repeat refine IB (by decide) ?_
 refine Fb ?_
 refine AB (Ah (m:=11) g1 (by omega) rfl) ?_
 refine XY (i:=0) hx1 hA1 rfl iha (by omega) λH2 n2 f2=>?_
 have hn2:=f2.le
 have g2:=f2.get g1 (by omega)
 have f2:=f1.trans f2
 have hx2:=hx0.mono (λ_ h=>h) λid h=>f2.same id (hA0 id h)
 have hA2:∀id,A id->id<n2:=λid h=>by have:=hA0 id h;omega
 refine AB (BO (a:=Au++Dq) (b:=textE a) (by first|omega|(simp only[List.length_append];omega))) ?_
 refine AB (BO (a:=(Au++Dq)++textE a) (b:=BD) (by first|omega|(simp only[List.length_append];omega))) ?_
 have hk:=hk _ _ f2
 try simp only[List.append_assoc]at hk
 try simp only[List.append_assoc]
 exact hk
theorem ATE{a:Ex}(iha:Eh G a):Eh G (.mk 15 0 [] [] false [a]):=by
 intro H n c A k hx0 hA0 hl hk
 have e0:textE (.mk 15 0 [] [] false [a])=Au++(IV++(textE a++BD)):=by rw[Ad];rfl
 rw[e0]at hl hk
 try simp only[List.length_append]at hl
 obtain⟨line,col,v,cs,rfl,hel,hks,hva,hcs⟩:=hx0.inv
 refine Am (s:=IQ (AX lfp G)) Ac (by obtain⟨h,o⟩:=Bf Ap G;rw[Ac]at h;cases h;exact o) ?_
 show AX lfp G (Runs F G) (.agg (iC 15 0 [] [] false line col v)) H n k
 delta AX
 refine D5 λH1 f1 g1=>?_
 have hx1:=hx0.mono (λ_ h=>h) λid h=>f1.same id (hA0 id h)
 have hA1:∀id,A id->id<n+1:=λid h=>by have:=hA0 id h;omega
 refine AB (Aa ..) (AB (AQ g1 rfl) ?_)
 repeat refine IB (by decide) ?_
 refine Fb ?_
 refine AB (Ah (m:=11) g1 (by omega) rfl) ?_
 refine XY (i:=0) hx1 hA1 rfl iha (by omega) λH2 n2 f2=>?_
 have hn2:=f2.le
 have g2:=f2.get g1 (by omega)
 have f2:=f1.trans f2
 have hx2:=hx0.mono (λ_ h=>h) λid h=>f2.same id (hA0 id h)
 have hA2:∀id,A id->id<n2:=λid h=>by have:=hA0 id h;omega
 refine AB (BO (a:=Au++IV) (b:=textE a) (by first|omega|(simp only[List.length_append];omega))) ?_
 refine AB (BO (a:=(Au++IV)++textE a) (b:=BD) (by first|omega|(simp only[List.length_append];omega))) ?_
 have hk:=hk _ _ f2
 try simp only[List.append_assoc]at hk
 try simp only[List.append_assoc]
 exact hk
theorem AUN{o:Bs}{a b:Ex}(iha:Eh G a)(ihb:Eh G b):Eh G (.mk 16 0 o [] false [a,b]):=by
 intro H n c A k hx0 hA0 hl hk
 have e0:textE (.mk 16 0 o [] false [a,b])=Au++(textE a++([32]++(o++([32]++(textE b++BD))))):=by rw[Ad];rfl
 rw[e0]at hl hk
 try simp only[List.length_append]at hl
 obtain⟨line,col,v,cs,rfl,hel,hks,hva,hcs⟩:=hx0.inv
 refine Am (s:=IQ (AX lfp G)) Ac (by obtain⟨h,o⟩:=Bf Ap G;rw[Ac]at h;cases h;exact o) ?_
 show AX lfp G (Runs F G) (.agg (iC 16 0 o [] false line col v)) H n k
 delta AX
 refine D5 λH1 f1 g1=>?_
 have hx1:=hx0.mono (λ_ h=>h) λid h=>f1.same id (hA0 id h)
 have hA1:∀id,A id->id<n+1:=λid h=>by have:=hA0 id h;omega
 refine AB (Aa ..) (AB (AQ g1 rfl) ?_)
 repeat refine IB (by decide) ?_
 refine Fb ?_
 refine AB (Ah (m:=11) g1 (by omega) rfl) ?_
 refine AB (Aa ..) (AB (AQ g1 rfl) ?_)
 refine AB (Ah (m:=11) g1 (by omega) rfl) ?_
 refine XY (i:=0) hx1 hA1 rfl iha (by omega) λH2 n2 f2=>?_
 have hn2:=f2.le
 have g2:=f2.get g1 (by omega)
 have f2:=f1.trans f2
 have hx2:=hx0.mono (λ_ h=>h) λid h=>f2.same id (hA0 id h)
 have hA2:∀id,A id->id<n2:=λid h=>by have:=hA0 id h;omega
 refine AB (AQ g2 rfl) (Dv (TB _) ?_)
 refine AB (Ah (m:=11) g2 (by omega) rfl) (Dv hx2.vs ?_)
 refine AB (BO (a:=Au) (b:=textE a) (by first|omega|(simp only[List.length_append];omega))) ?_
 refine AB (BO (a:=Au++textE a) (b:=[32]) (by first|omega|(simp only[List.length_append];omega))) ?_
 refine AB (BO (a:=(Au++textE a)++[32]) (b:=o) (by first|omega|(simp only[List.length_append];omega))) ?_
 refine AB (BO (a:=((Au++textE a)++[32])++o) (b:=[32]) (by first|omega|(simp only[List.length_append];omega))) ?_
 refine XY (i:=1) hx2 hA2 rfl ihb (by omega) λH3 n3 f3=>?_
 have hn3:=f3.le
 have g3:=f3.get g2 (by omega)
 have f3:=f2.trans f3
 have hx3:=hx0.mono (λ_ h=>h) λid h=>f3.same id (hA0 id h)
 have hA3:∀id,A id->id<n3:=λid h=>by have:=hA0 id h;omega
 refine AB (AQ g3 rfl) (Dv (TB _) ?_)
 refine AB (BO (a:=(((Au++textE a)++[32])++o)++[32]) (b:=textE b) (by first|omega|(simp only[List.length_append];omega))) ?_
 refine AB (BO (a:=((((Au++textE a)++[32])++o)++[32])++textE b) (b:=BD) (by first|omega|(simp only[List.length_append];omega))) ?_
 have hk:=hk _ _ f3
 try simp only[List.append_assoc]at hk
 try simp only[List.append_assoc]
 exact hk
theorem AT5{a b:Ex}(iha:Eh G a)(ihb:Eh G b):Eh G (.mk 17 0 [] [] false [a,b]):=by
 intro H n c A k hx0 hA0 hl hk
 have e0:textE (.mk 17 0 [] [] false [a,b])=Au++(textE a++([32]++(L9++([32]++(textE b++BD))))):=by rw[Ad];rfl
 rw[e0]at hl hk
 try simp only[List.length_append]at hl
 obtain⟨line,col,v,cs,rfl,hel,hks,hva,hcs⟩:=hx0.inv
 refine Am (s:=IQ (AX lfp G)) Ac (by obtain⟨h,o⟩:=Bf Ap G;rw[Ac]at h;cases h;exact o) ?_
 show AX lfp G (Runs F G) (.agg (iC 17 0 [] [] false line col v)) H n k
 delta AX
 refine D5 λH1 f1 g1=>?_
 have hx1:=hx0.mono (λ_ h=>h) λid h=>f1.same id (hA0 id h)
 have hA1:∀id,A id->id<n+1:=λid h=>by have:=hA0 id h;omega
 refine AB (Aa ..) (AB (AQ g1 rfl) ?_)
 repeat refine IB (by decide) ?_
 refine Fb ?_
 refine AB (Ah (m:=11) g1 (by omega) rfl) ?_
 refine AB (Ah (m:=11) g1 (by omega) rfl) ?_
 refine XY (i:=0) hx1 hA1 rfl iha (by omega) λH2 n2 f2=>?_
 have hn2:=f2.le
 have g2:=f2.get g1 (by omega)
 have f2:=f1.trans f2
 have hx2:=hx0.mono (λ_ h=>h) λid h=>f2.same id (hA0 id h)
 have hA2:∀id,A id->id<n2:=λid h=>by have:=hA0 id h;omega
 refine AB (Ah (m:=11) g2 (by omega) rfl) (Dv hx2.vs ?_)
 refine AB (BO (a:=Au) (b:=textE a) (by first|omega|(simp only[List.length_append];omega))) ?_
 rw[show V.str 4 539371040=sB ([32]++(L9++[32]))from rfl]
 refine AB (BO (a:=Au++textE a) (b:=[32]++(L9++[32])) (by first|omega|(simp only[List.length_append];omega))) ?_
 refine XY (i:=1) hx2 hA2 rfl ihb (by omega) λH3 n3 f3=>?_
 have hn3:=f3.le
 have g3:=f3.get g2 (by omega)
 have f3:=f2.trans f3
 have hx3:=hx0.mono (λ_ h=>h) λid h=>f3.same id (hA0 id h)
 have hA3:∀id,A id->id<n3:=λid h=>by have:=hA0 id h;omega
 refine AB (BO (a:=(Au++textE a)++([32]++(L9++[32]))) (b:=textE b) (by first|omega|(simp only[List.length_append];omega))) ?_
 refine AB (BO (a:=((Au++textE a)++([32]++(L9++[32])))++textE b) (b:=BD) (by first|omega|(simp only[List.length_append];omega))) ?_
 have hk:=hk _ _ f3
 try simp only[List.append_assoc]at hk
 try simp only[List.append_assoc]
 exact hk
theorem AU5{a b:Ex}(iha:Eh G a)(ihb:Eh G b):Eh G (.mk 18 0 [] [] false [a,b]):=by
 intro H n c A k hx0 hA0 hl hk
 have e0:textE (.mk 18 0 [] [] false [a,b])=Au++(textE a++([32]++(W9++([32]++(textE b++BD))))):=by rw[Ad];rfl
 rw[e0]at hl hk
 try simp only[List.length_append]at hl
 obtain⟨line,col,v,cs,rfl,hel,hks,hva,hcs⟩:=hx0.inv
 refine Am (s:=IQ (AX lfp G)) Ac (by obtain⟨h,o⟩:=Bf Ap G;rw[Ac]at h;cases h;exact o) ?_
 show AX lfp G (Runs F G) (.agg (iC 18 0 [] [] false line col v)) H n k
 delta AX
 refine D5 λH1 f1 g1=>?_
 have hx1:=hx0.mono (λ_ h=>h) λid h=>f1.same id (hA0 id h)
 have hA1:∀id,A id->id<n+1:=λid h=>by have:=hA0 id h;omega
 refine AB (Aa ..) (AB (AQ g1 rfl) ?_)
 repeat refine IB (by decide) ?_
 refine Fb ?_
 refine AB (Ah (m:=11) g1 (by omega) rfl) ?_
 refine AB (Ah (m:=11) g1 (by omega) rfl) ?_
 refine XY (i:=0) hx1 hA1 rfl iha (by omega) λH2 n2 f2=>?_
 have hn2:=f2.le
 have g2:=f2.get g1 (by omega)
 have f2:=f1.trans f2
 have hx2:=hx0.mono (λ_ h=>h) λid h=>f2.same id (hA0 id h)
 have hA2:∀id,A id->id<n2:=λid h=>by have:=hA0 id h;omega
 refine AB (Ah (m:=11) g2 (by omega) rfl) (Dv hx2.vs ?_)
 refine AB (BO (a:=Au) (b:=textE a) (by first|omega|(simp only[List.length_append];omega))) ?_
 rw[show V.str 4 545029152=sB ([32]++(W9++[32]))from rfl]
 refine AB (BO (a:=Au++textE a) (b:=[32]++(W9++[32])) (by first|omega|(simp only[List.length_append];omega))) ?_
 refine XY (i:=1) hx2 hA2 rfl ihb (by omega) λH3 n3 f3=>?_
 have hn3:=f3.le
 have g3:=f3.get g2 (by omega)
 have f3:=f2.trans f3
 have hx3:=hx0.mono (λ_ h=>h) λid h=>f3.same id (hA0 id h)
 have hA3:∀id,A id->id<n3:=λid h=>by have:=hA0 id h;omega
 refine AB (BO (a:=(Au++textE a)++([32]++(W9++[32]))) (b:=textE b) (by first|omega|(simp only[List.length_append];omega))) ?_
 refine AB (BO (a:=((Au++textE a)++([32]++(W9++[32])))++textE b) (b:=BD) (by first|omega|(simp only[List.length_append];omega))) ?_
 have hk:=hk _ _ f3
 try simp only[List.append_assoc]at hk
 try simp only[List.append_assoc]
 exact hk
theorem AT9{u:Bs}{a:Ex}(iha:Eh G a):Eh G (.mk 19 0 [] u false [a]):=by
 intro H n c A k hx0 hA0 hl hk
 have e0:textE (.mk 19 0 [] u false [a])=Au++(textE a++([32]++(RP++([32]++(u++BD))))):=by rw[Ad];rfl
 rw[e0]at hl hk
 try simp only[List.length_append]at hl
 obtain⟨line,col,v,cs,rfl,hel,hks,hva,hcs⟩:=hx0.inv
 refine Am (s:=IQ (AX lfp G)) Ac (by obtain⟨h,o⟩:=Bf Ap G;rw[Ac]at h;cases h;exact o) ?_
 show AX lfp G (Runs F G) (.agg (iC 19 0 [] u false line col v)) H n k
 delta AX
 refine D5 λH1 f1 g1=>?_
 have hx1:=hx0.mono (λ_ h=>h) λid h=>f1.same id (hA0 id h)
 have hA1:∀id,A id->id<n+1:=λid h=>by have:=hA0 id h;omega
 refine AB (Aa ..) (AB (AQ g1 rfl) ?_)
 repeat refine IB (by decide) ?_
 refine Fb ?_
 refine AB (Ah (m:=11) g1 (by omega) rfl) ?_
 refine AB (Aa ..) (AB (Aa ..) (AB (AQ g1 rfl) ?_))
 refine XY (i:=0) hx1 hA1 rfl iha (by omega) λH2 n2 f2=>?_
 have hn2:=f2.le
 have g2:=f2.get g1 (by omega)
 have f2:=f1.trans f2
 have hx2:=hx0.mono (λ_ h=>h) λid h=>f2.same id (hA0 id h)
 have hA2:∀id,A id->id<n2:=λid h=>by have:=hA0 id h;omega
 refine AB (AQ g2 rfl) (Dv (TB _) ?_)
 refine AB (BO (a:=Au) (b:=textE a) (by first|omega|(simp only[List.length_append];omega))) ?_
 rw[show V.str 4 544432416=sB ([32]++(RP++[32]))from rfl]
 refine AB (BO (a:=Au++textE a) (b:=[32]++(RP++[32])) (by first|omega|(simp only[List.length_append];omega))) ?_
 refine AB (BO (a:=(Au++textE a)++([32]++(RP++[32]))) (b:=u) (by first|omega|(simp only[List.length_append];omega))) ?_
 refine AB (BO (a:=((Au++textE a)++([32]++(RP++[32])))++u) (b:=BD) (by first|omega|(simp only[List.length_append];omega))) ?_
 have hk:=hk _ _ f2
 try simp only[List.append_assoc]at hk
 try simp only[List.append_assoc]
 exact hk
theorem AS2{u:Bs}{a:Ex}(iha:Eh G a):Eh G (.mk 20 0 [] u false [a]):=by
 intro H n c A k hx0 hA0 hl hk
 have e0:textE (.mk 20 0 [] u false [a])=Au++(textE a++([32]++(OC++([32]++(u++BD))))):=by rw[Ad];rfl
 rw[e0]at hl hk
 try simp only[List.length_append]at hl
 obtain⟨line,col,v,cs,rfl,hel,hks,hva,hcs⟩:=hx0.inv
 refine Am (s:=IQ (AX lfp G)) Ac (by obtain⟨h,o⟩:=Bf Ap G;rw[Ac]at h;cases h;exact o) ?_
 show AX lfp G (Runs F G) (.agg (iC 20 0 [] u false line col v)) H n k
 delta AX
 refine D5 λH1 f1 g1=>?_
 have hx1:=hx0.mono (λ_ h=>h) λid h=>f1.same id (hA0 id h)
 have hA1:∀id,A id->id<n+1:=λid h=>by have:=hA0 id h;omega
 refine AB (Aa ..) (AB (AQ g1 rfl) ?_)
 repeat refine IB (by decide) ?_
 refine Fb ?_
 refine AB (Ah (m:=11) g1 (by omega) rfl) ?_
 refine AB (Aa ..) (AB (Aa ..) (AB (AQ g1 rfl) ?_))
 refine XY (i:=0) hx1 hA1 rfl iha (by omega) λH2 n2 f2=>?_
 have hn2:=f2.le
 have g2:=f2.get g1 (by omega)
 have f2:=f1.trans f2
 have hx2:=hx0.mono (λ_ h=>h) λid h=>f2.same id (hA0 id h)
 have hA2:∀id,A id->id<n2:=λid h=>by have:=hA0 id h;omega
 refine AB (AQ g2 rfl) (Dv (TB _) ?_)
 refine AB (BO (a:=Au) (b:=textE a) (by first|omega|(simp only[List.length_append];omega))) ?_
 rw[show V.str 4 544434464=sB ([32]++(OC++[32]))from rfl]
 refine AB (BO (a:=Au++textE a) (b:=[32]++(OC++[32])) (by first|omega|(simp only[List.length_append];omega))) ?_
 refine AB (BO (a:=(Au++textE a)++([32]++(OC++[32]))) (b:=u) (by first|omega|(simp only[List.length_append];omega))) ?_
 refine AB (BO (a:=((Au++textE a)++([32]++(OC++[32])))++u) (b:=BD) (by first|omega|(simp only[List.length_append];omega))) ?_
 have hk:=hk _ _ f2
 try simp only[List.append_assoc]at hk
 try simp only[List.append_assoc]
 exact hk
theorem fJ(hG:dZ G){e:Ex}(h:Wr e):Eh G e:=by
 induction h with
 |num h=>exact AT2 hG h
 |tru=>exact AUH
 |fls=>exact AT6
 |nul=>exact ASX
 |ths=>exact AUY
 |loc h=>exact ASU
 |get h ha ih=>exact AUC ih
 |call h ha hk hn ih ihk=>exact AQh ih ihk hn
 |stat h hu hk hn ihk=>exact APN ihk hn
 |new hu=>exact ASM
 |arr hu ha ih=>exact ATV ih
 |elm ha hb iha ihb=>exact ASh iha ihb
 |len ha ih=>exact ATb ih
 |neg ha ih=>exact ASR ih
 |not ha ih=>exact ATE ih
 |bin ho ha hb iha ihb=>exact AUN iha ihb
 |and ha hb iha ihb=>exact AT5 iha ihb
 |or ha hb iha ihb=>exact AU5 iha ihb
 |asx hu ha ih=>exact AT9 ih
 |isx hu ha ih=>exact AS2 ih
end
def aG(t:Ty):Bs:=bif t.arr then t.nm++(Fe++FV)else t.nm
def zy(t:Ty):List Tok:=U9 t.nm::(bif t.arr then[M Fe,M FV]else[])
inductive rD:St->Prop
 |lt {l:Bs} {ty:Ty} {e:Ex} (hl:qN l=true) (ht:jZ ty.nm=true) (he:Wr e):rD (.mk 1 l ty [e] [] [])
 |put {a b:Ex} (ha:Wr a) (hk:a.kind=6∨a.kind=7∨a.kind=12) (hb:Wr b):rD (.mk 2 [] JE [a,b] [] [])
 |ask {a:Ex} (ha:Wr a) (hk:a.kind=8∨a.kind=9):rD (.mk 3 [] JE [a] [] [])
 |ite {c:Ex} {th el:List St} (hc:Wr c) (ht:∀x∈th,rD x) (he:∀x∈el,rD x):rD (.mk 4 [] JE [c] th el)
 |loop {c:Ex} {th:List St} (hc:Wr c) (ht:∀x∈th,rD x):rD (.mk 5 [] JE [c] th [])
 |ret {a:Ex} (ha:Wr a):rD (.mk 6 [] JE [a] [] [])
 |prt {a:Ex} (ha:Wr a):rD (.mk 7 [] JE [a] [] [])
def exT(es:List Ex)(i:Nat):Bs:=match es[i]? with|some e=>textE e|none=>Qp
def exK(es:List Ex)(i:Nat):List Tok:=match es[i]? with|some e=>tokE e|none=>[W Qp]
def tabs(d:Nat):Bs:=List.replicate d 9
def Jy(d:Nat)(ls:List Bs):Bs:=MG++([10]++(ls.flatten++(tabs d++m_rc)))
def Oh(ls:List (List Tok)):List Tok:=M MG::(ls.flatten++[M m_rc])
def ALx(d k:Nat)(nm:Bs)(ty:Ty)(es:List Ex)(th el:List Bs):Bs:=
 tabs d++match k with
 |1=>NM++([32]++(aG ty++([32]++(nm++([32]++(Di++([32]++(exT es 0++(Aq++[10])))))))))
 |2=>exT es 0++([32]++(Di++([32]++(exT es 1++(Aq++[10])))))
 |4=>IL++([32]++(exT es 0++([32]++(Jy d th++((bif el.isEmpty then[]else[32]++(EU++([32]++Jy d el)))++[10])))))
 |5=>FK++([32]++(exT es 0++([32]++(Jy d th++[10]))))
 |6=>EZ++([32]++(exT es 0++(Aq++[10])))
 |7=>FM++([32]++(exT es 0++(Aq++[10])))
 |_=>exT es 0++(Aq++[10])
mutual
def textS(d:Nat):St->Bs
 |.mk k nm ty es th el=>ALx d k nm ty es (wu (d+1) th) (wu (d+1) el)
def wu(d:Nat):List St->List Bs
 |[]=>[]
 |s::l=>textS d s::wu d l
end
theorem pW(d:Nat):∀l:List St,wu d l=l.map (textS d)
 |[]=>by unfold wu;rfl
 |a::l=>by unfold wu;rw[pW d l];rfl
theorem D7(d k:Nat)(nm:Bs)(ty:Ty)(es:List Ex)(th el:List St):textS d (.mk k nm ty es th el)=ALx d k nm ty es (th.map (textS (d+1))) (el.map (textS (d+1))):=by
 unfold textS;rw[pW,pW]
def Qu(k:Nat)(nm:Bs)(ty:Ty)(es:List Ex)(th el:List (List Tok)):List Tok:=
 match k with
 |1=>W NM::(zy ty++L nm::M Di::(exK es 0++[M Aq]))
 |2=>exK es 0++M Di::(exK es 1++[M Aq])
 |4=>W IL::(exK es 0++(Oh th++bif el.isEmpty then[]else W EU::Oh el))
 |5=>W FK::(exK es 0++Oh th)
 |6=>W EZ::(exK es 0++[M Aq])
 |7=>W FM::(exK es 0++[M Aq])
 |_=>exK es 0++[M Aq]
mutual
def FH:St->List Tok
 |.mk k nm ty es th el=>Qu k nm ty es (ACo th) (ACo el)
def ACo:List St->List (List Tok)
 |[]=>[]
 |s::l=>FH s::ACo l
end
theorem xM:∀l:List St,ACo l=l.map FH
 |[]=>by unfold ACo;rfl
 |a::l=>by unfold ACo;rw[xM l];rfl
theorem Ik(k:Nat)(nm:Bs)(ty:Ty)(es:List Ex)(th el:List St):FH (.mk k nm ty es th el)=Qu k nm ty es (th.map FH) (el.map FH):=by
 unfold FH;rw[xM,xM]
def ASi(s:St):Prop:=∀d r ts,Dj r ts->Dj (textS d s++r) (FH s++ts)
theorem Xe:Gap [10]:=wE (by decide)
theorem RQ(d:Nat):Gap (tabs d):=AAg λc hc=>by rw[List.eq_of_mem_replicate hc];decide
theorem yZ{m r:Bs}(h:(match m with|[]=>false|c::_=> !inner c)=true):Out (m++r):=by
 cases m with
 |nil=>cases h
 |cons c m=>exact ALh (by simpa using h)
theorem AEm{t:Ty}(h:jZ t.nm=true){r:Bs}{ts:List Tok}(hr:Dj r ts):Dj (aG t++([32]++r)) (zy t++ts):=by
 unfold aG zy
 cases t.arr with
 |false=>
  have:=RD (t:=U9 t.nm) (ADq h) hr
  rw[wP]at this;exact this
 |true=>
  have:=UL (t:=U9 t.nm) (r:=Fe++(FV++([32]++r))) (ADq h) (ACr _) (yZ (by decide)) (Gt (m:=Fe) (by decide) (Gt (m:=FV) (by decide) (Eb U8 hr)))
  rw[wP]at this
  simpa using this
theorem AMa{ls:List St}{d:Nat}{r:Bs}{ts:List Tok}(hr:Dj r ts):(∀x∈ls,ASi x)->Dj ((ls.map (textS d)).flatten++r) ((ls.map FH).flatten++ts):=by
 induction ls with
 |nil=>intro _;exact hr
 |cons a ls ih=>
  intro h
  simp only[List.map_cons,List.flatten_cons,List.append_assoc]
  exact h a List.mem_cons_self _ _ _ (ih λx hx=>h x (List.mem_cons_of_mem _ hx))
theorem zi{ls:List St}{d:Nat}{r:Bs}{ts:List Tok}(h:∀x∈ls,ASi x)(hr:Dj r ts):Dj (Jy d (ls.map (textS (d+1)))++r) (Oh (ls.map FH)++ts):=by
 unfold Jy Oh
 simp only[List.append_assoc,List.cons_append,List.nil_append]
 exact Gt (m:=MG) (by decide) (Eb Xe (AMa (Eb (RQ d) (Gt (m:=m_rc) (by decide) hr)) h))
theorem AWv{s:St}(h:rD s):ASi s:=by
 have semi:∀{r:Bs} {ts:List Tok} {e:Ex},Wr e->Dj r ts->Dj (textE e++(Aq++([10]++r))) (tokE e++M Aq::ts):=λhe hr=>
  AQc he _ _ (yZ (by decide)) (Gt (m:=Aq) (by decide) (Eb Xe hr))
 have wl:∀{l:Bs},qN l=true->Wf (L l):=λh=>AMn h
 induction h with
 | @lt l ty e hl ht he=>
  intro d r ts hr
  rw[D7,Ik]
  show Dj ((tabs d++(NM++([32]++(aG ty++([32]++(l++([32]++(Di++([32]++(textE e++(Aq++[10])))))))))))++r) ((W NM::(zy ty++L l::M Di::(tokE e++[M Aq])))++ts)
  simp only[List.append_assoc,List.cons_append,List.nil_append]
  exact Eb (RQ d) (RD (t:=W NM) (IJ (by decide)) (AEm ht (RD (t:=L l) (wl hl) (ABF (m:=Di) (by decide) (semi he hr)))))
 | @put a b ha hk hb=>
  intro d r ts hr
  rw[D7,Ik]
  show Dj ((tabs d++(textE a++([32]++(Di++([32]++(textE b++(Aq++[10])))))))++r) ((tokE a++M Di::(tokE b++[M Aq]))++ts)
  simp only[List.append_assoc,List.cons_append,List.nil_append]
  exact Eb (RQ d) (AQc ha _ _ (yZ (m:=[32]) (by decide)) (Eb U8 (ABF (m:=Di) (by decide) (semi hb hr))))
 | @ask a ha hk=>
  intro d r ts hr
  rw[D7,Ik]
  show Dj ((tabs d++(textE a++(Aq++[10])))++r) ((tokE a++[M Aq])++ts)
  simp only[List.append_assoc,List.cons_append,List.nil_append]
  exact Eb (RQ d) (semi ha hr)
 | @ite c th el hc ht he iht ihe=>
  intro d r ts hr
  rw[D7,Ik]
  show Dj ((tabs d++(IL++([32]++(textE c++([32]++(Jy d (th.map (textS (d+1)))++((bif (el.map (textS (d+1))).isEmpty then[]else[32]++(EU++([32]++Jy d (el.map (textS (d+1))))))++[10])))))))++r)
   ((W IL::(tokE c++(Oh (th.map FH)++bif (el.map FH).isEmpty then[]else W EU::Oh (el.map FH))))++ts)
  simp only[List.append_assoc,List.cons_append,List.nil_append]
  refine Eb (RQ d) (RD (t:=W IL) (IJ (by decide)) (AQc hc _ _ (yZ (m:=[32]) (by decide)) (Eb U8 (zi iht ?_))))
  cases el with
  |nil=>exact Eb (g:=[10]) (s:=r) (ts:=ts) Xe hr
  |cons a el=>
   simp only[List.map_cons,List.isEmpty_cons,cond_false,List.append_assoc,List.cons_append,List.nil_append]
   exact Eb U8 (RD (t:=W EU) (IJ (by decide)) (zi (ls:=a::el) ihe (Eb Xe hr)))
 | @loop c th hc ht iht=>
  intro d r ts hr
  rw[D7,Ik]
  show Dj ((tabs d++(FK++([32]++(textE c++([32]++(Jy d (th.map (textS (d+1)))++[10]))))))++r) ((W FK::(tokE c++Oh (th.map FH)))++ts)
  simp only[List.append_assoc,List.cons_append,List.nil_append]
  exact Eb (RQ d) (RD (t:=W FK) (IJ (by decide)) (AQc hc _ _ (yZ (m:=[32]) (by decide)) (Eb U8 (zi iht (Eb Xe hr)))))
 | @ret a ha=>
  intro d r ts hr
  rw[D7,Ik]
  show Dj ((tabs d++(EZ++([32]++(textE a++(Aq++[10])))))++r) ((W EZ::(tokE a++[M Aq]))++ts)
  simp only[List.append_assoc,List.cons_append,List.nil_append]
  exact Eb (RQ d) (RD (t:=W EZ) (IJ (by decide)) (semi ha hr))
 | @prt a ha=>
  intro d r ts hr
  rw[D7,Ik]
  show Dj ((tabs d++(FM++([32]++(textE a++(Aq++[10])))))++r) ((W FM::(tokE a++[M Aq]))++ts)
  simp only[List.append_assoc,List.cons_append,List.nil_append]
  exact Eb (RQ d) (RD (t:=W FM) (IJ (by decide)) (semi ha hr))
def Nb(f:Va):Bs:=[9]++(MN++([32]++(aG f.ty++([32]++(f.nm++(Aq++[10]))))))
def X9(f:Va):List Tok:=W MN::(zy f.ty++[L f.nm,M Aq])
def aQ(p:Va):Bs:=aG p.ty++([32]++p.nm)
def aZ(p:Va):List Tok:=zy p.ty++[L p.nm]
def Qd(m:Me):Bs:=[9]++((bif m.st then FB++[32]else[])++(D8++([32]++(aG m.ret++([32]++(m.nm++(Au++(GZ (m.ps.map aQ)++(BD++([32]++(Jy 1 (m.body.map (textS 2))++[10])))))))))))
def Tz(m:Me):List Tok:=(bif m.st then[W FB]else[])++W D8::(zy m.ret++L m.nm::M Au::(La (m.ps.map aZ)++M BD::Oh (m.body.map FH)))
def Qr(c:Cl):Bs:=J9++([32]++(c.nm++((bif c.sup.isEmpty then[]else[32]++(Hl++([32]++c.sup)))++([32]++(MG++([10]++((c.fs.map Nb).flatten++((c.ms.map Qd).flatten++(m_rc++[10])))))))))
def l7(c:Cl):List Tok:=W J9::U c.nm::((bif c.sup.isEmpty then[]else[W Hl,U c.sup])++M MG::((c.fs.map X9).flatten++((c.ms.map Tz).flatten++[M m_rc])))
structure WrV(v:Va):Prop where
 nm:qN v.nm=true
 ty:jZ v.ty.nm=true
structure WrM(m:Me):Prop where
 nm:qN m.nm=true
 ret:jZ m.ret.nm=true
 ps:∀p∈m.ps,WrV p
 pn:m.ps.length<=200
 body:∀s∈m.body,rD s
structure WrC(c:Cl):Prop where
 nm:ZV c.nm=true
 sup:c.sup=[]∨ZV c.sup=true
 fs:∀f∈c.fs,WrV f
 fn:c.fs.length<=200
 ms:∀m∈c.ms,WrM m
 mn:c.ms.length<=200
theorem APu{p:Va}(h:WrV p){r:Bs}{ts:List Tok}(ho:Out r)(hr:Dj r ts):Dj (aQ p++r) (aZ p++ts):=by
 unfold aQ aZ
 simp only[List.append_assoc,List.cons_append,List.nil_append]
 exact AEm h.ty (UL (t:=L p.nm) (AMn h.nm) (by simp[L]) ho hr)
theorem AJD{α:Type}{f:α->Bs}{g:α->List Tok}{ls:List α}{r:Bs}{ts:List Tok}(hr:Dj r ts):(∀x∈ls,∀r ts,Dj r ts->Dj (f x++r) (g x++ts))->Dj ((ls.map f).flatten++r) ((ls.map g).flatten++ts):=by
 induction ls with
 |nil=>intro _;exact hr
 |cons a ls ih=>
  intro h
  simp only[List.map_cons,List.flatten_cons,List.append_assoc]
  exact h a List.mem_cons_self _ _ (ih λx hx=>h x (List.mem_cons_of_mem _ hx))
theorem AJ3{p:Va}(h:WrV p){r:Bs}{ts:List Tok}(hr:Dj r ts):Dj (Nb p++r) (X9 p++ts):=by
 unfold Nb X9
 simp only[List.append_assoc,List.cons_append,List.nil_append]
 exact Eb (g:=[9]) (RQ 1) (RD (t:=W MN) (IJ (by decide)) (AEm h.ty (UL (t:=L p.nm) (AMn h.nm) (by simp[L]) (yZ (by decide)) (Gt (m:=Aq) (by decide) (Eb Xe hr)))))
theorem AMl{m:Me}(h:WrM m){r:Bs}{ts:List Tok}(hr:Dj r ts):Dj (Qd m++r) (Tz m++ts):=by
 unfold Qd Tz
 simp only[List.append_assoc,List.cons_append,List.nil_append]
 refine Eb (g:=[9]) (RQ 1) ?_
 have main:=RD (t:=W D8) (IJ (by decide)) (AEm h.ret (UL (t:=L m.nm) (AMn h.nm) (by simp[L]) (yZ (by decide)) (Gt (m:=Au) (by decide) (AA1 (f:=aQ) (g:=aZ) (yZ (by decide)) (Gt (m:=BD) (by decide) (Eb U8 (zi (d:=1) (λx hx=>AWv (h.body x hx)) (Eb Xe hr)))) (λx hx _ _ ho hr=>APu (h.ps x hx) ho hr)))))
 cases m.st with
 |false=>exact main
 |true=>
  simp only[cond_true,List.append_assoc,List.cons_append,List.nil_append]
  exact RD (t:=W FB) (IJ (by decide)) main
theorem AJn{c:Cl}(h:WrC c):Dj (Qr c) (l7 c++[TN]):=by
 unfold Qr l7
 simp only[List.append_assoc,List.cons_append,List.nil_append]
 have main:=Gt (m:=MG) (by decide) (Eb Xe (AJD (f:=Nb) (g:=X9) (ls:=c.fs) (AJD (f:=Qd) (g:=Tz) (ls:=c.ms) (Gt (m:=m_rc) (by decide) (AQA Xe)) (λx hx _ _ hr=>AMl (h.ms x hx) hr)) (λx hx _ _ hr=>AJ3 (h.fs x hx) hr)))
 refine RD (t:=W J9) (IJ (by decide)) ?_
 cases hs:c.sup.isEmpty with
 |true=>exact RD (t:=U c.nm) (AGA h.nm) main
 |false=>
  simp only[cond_false,List.append_assoc,List.cons_append,List.nil_append]
  have hu:ZV c.sup=true:=by
   rcases h.sup with h0|h0
   ·rw[h0]at hs;cases hs
   ·exact h0
  exact RD (t:=U c.nm) (AGA h.nm) (RD (t:=W Hl) (IJ (by decide)) (RD (t:=U c.sup) (AGA hu) main))
def Bu(H:Heap)(n b:Nat)(l:Bs):Prop:=b<n/\∃j,T.get H b=some (.TG 82 5 l.length (enc l) j)/\(l=[]∨b<j)
theorem Bu.kp{H H':Heap}{n n' b:Nat}{l:Bs}(h:Bu H n b l)(f:Kp H n H' n'):Bu H' n' b l:=by
 obtain⟨h1,j,h2,h3⟩:=h
 exact⟨by have:=f.le;omega,j,(f.same b h1).trans h2,h3⟩
theorem Xw(ls:List Bs)(j:Nat):(ls.take j).flatten.length<=ls.flatten.length:=by
 have h:ls.flatten=(ls.take j).flatten++(ls.drop j).flatten:=by rw[<-List.flatten_append,List.take_append_drop]
 rw[h,List.length_append];omega
theorem AF1:∀d,Lib.repeatL [9] d=tabs d
 |0=>rfl
 |d+1=>by
  show[9]++Lib.repeatL [9] d=_
  rw[AF1 d];rfl
theorem zK(d:Nat):AOG (.int .i64 (.ofNat 0) 0) (.int .i64 (.ofNat d) 0)=some (.int .i64 (.ofNat d) 0):=by
 cases d with
 |zero=>rfl
 |succ d=>rfl
section
variable{G:AY}{H:Heap}{n:Nat}{k:KV}
theorem rV{d:Nat}(hd:d<=100000000000)(hk:k (sB (tabs d)) H n):Runs F G U5 [.str 1 9,.int .i64 (.ofNat d) 0] H n k:=by
 refine uo sN ?_
 show FN (decide (d<=9223372036854775807/\1*d<=YB)) (k (.str (AHx (Jg [9]) d).1 (AHx (Jg [9]) d).2) H n)
 rw[ABr,AF1,decide_eq_true (show d<=9223372036854775807/\1*d<=YB from⟨by omega,by unfold YB;omega⟩)]
 exact hk
theorem ANL{P:KV}(h:∀H',Kp H n H' (n+1)->Bu H' (n+1) n []->P (.ptr n 0) H' (n+1)):EH (ANV 82 5 E0) H n P:=by
 rw[AU4]
 exact h _ ((Kp.refl H n).new _ (Nat.le_refl _) (by omega)) ⟨by omega,0,T.Cm ..,.inl rfl⟩
theorem lM{b:Nat}{l s:Bs}(h:Bu H n b l)(hs:l.length+s.length<=100000000000)(hk:∀v H',Kp H b H' (n+1)->Bu H' (n+1) b (l++s)->k v H' (n+1)):Runs F G Bo [.ptr b 0,sB s] H n k:=by
 obtain⟨h1,j,h2,h3⟩:=h
 refine uo VR ?_
 show(match T.get H b with
  |some (.TG t' e' l c j)=>FN (decide (t'=82/\e'=5/\l+s.length<=YB)) (k (.JL [.int .i64 (.ofNat s.length) 0,.AEG]) (T.set (T.set (bif decide (l=0)then H else T.set H j .dead) n (.own b)) b (.TG 82 5 (rJ (l,c) (s.length,enc s)).1 (rJ (l,c) (s.length,enc s)).2 n)) (n+1))
  |_=>False)
 rw[h2]
 show FN (decide (82=82/\5=5/\l.length+s.length<=YB)) (k (.JL [.int .i64 (.ofNat s.length) 0,.AEG]) (T.set (T.set (bif decide (l.length=0)then H else T.set H j .dead) n (.own b)) b (.TG 82 5 (rJ (Jg l) (Jg s)).1 (rJ (Jg l) (Jg s)).2 n)) (n+1))
 rw[lg,decide_eq_true (show 82=82/\5=5/\l.length+s.length<=YB from⟨rfl,rfl,by unfold YB;omega⟩)]
 refine hk _ _ ⟨by omega,λid hid=>?_⟩ ⟨by omega,n,T.Cm ..,.inr h1⟩
 rw[T.Ak _ _ (by omega),T.Ak _ _ (by omega)]
 cases hl:decide (l.length=0)with
 |true=>rfl
 |false=>
  have hj:b<j:=by
   rcases h3 with rfl|h3
   ·cases hl
   ·exact h3
  show T.get (T.set H j .dead) id=_
  rw[T.Ak _ _ (by omega)]
theorem ALB{b:Nat}{l:Bs}(h:Bu H n b l)(hk:∀H',Kp H b H' n->k (sB l) H' n):Runs F G Ll [.ptr b 0] H n k:=by
 obtain⟨h1,j,h2,h3⟩:=h
 refine uo Ya ?_
 show(match T.get H b with
  |some (.TG t' e' l c _)=>FN (decide (t'=82/\e'=5)) (k (.str l c) (T.set H b .dead) n)
  |_=>False)
 rw[h2]
 exact hk _ ⟨by omega,λid hid=>T.Ak _ _ (by omega)⟩
theorem ADC{t:Ty}(ht:t.nm.length<=100000000000)(hk:∀H',Kp H n H' (n+1)->k (sB (aG t)) H' (n+1)):Runs F G OL [.agg (tyC t)] H n k:=by
 refine Am (s:=IQ (Rf lfp G)) U2 (by obtain⟨h,o⟩:=wB Ap G;rw[U2]at h;cases h;exact o) ?_
 show Rf lfp G (Runs F G) (.agg (tyC t)) H n k
 delta Rf
 refine D5 λH1 f1 g1=>?_
 refine AB (Aa ..) (AB (v:=.bool t.arr) (AQ g1 rfl) ?_)
 have hk:=hk _ f1
 unfold aG at hk
 cases ha:t.arr with
 |true=>
  rw[ha]at hk
  rw[Bq]
  refine AB (Aa ..) (AB (v:=sB t.nm) (AQ g1 rfl) ?_)
  rw[show V.str 2 23899=sB (Fe++FV)from rfl]
  exact AB (BO (by show t.nm.length+2<_;omega)) hk
 |false=>
  rw[ha]at hk
  rw[Bg]
  exact AB (Aa ..) (AB (v:=sB t.nm) (AQ g1 rfl) hk)
def UF(G:AY)(e:St):Prop:=∀(H:Heap) (n d:Nat) (c:LV) (A:Nat->Prop) (k:KV),SY G H A c e->(∀id,A id->id<n)->(textS d e).length<=100000000000->(∀H' n',Kp H n H' n'->k (sB (textS d e)) H' n')->Runs F G gU [.agg c,.int .i64 (.ofNat d) 0] H n k
theorem RF.at{A:Nat->Prop}:∀{cs:EY} {es:List St} {i:Nat} {e:St},RF G H A cs es->es[i]? =some e->∃c,cs[i]? =some c/\SY G H A c e
 |_,_,0,_,.cons h _,he=>⟨_,rfl,by cases he;exact h⟩
 |_,_,i+1,_,.cons _ t,he=>RF.at t (i:=i) he
theorem AKE(d:Nat)(s:St):d<=(textS d s).length:=by
 obtain⟨k,nm,ty,es,th,el⟩:=s
 rw[D7]
 unfold ALx tabs
 rw[List.length_append,List.length_replicate];omega
theorem AFq(d:Nat):∀ss:List St,ss.length<=(ss.map (textS (d+1))).flatten.length
 |[]=>Nat.le_refl _
 |s::ss=>by
  have h1:=AKE (d+1) s
  have h2:=AFq d ss
  simp only[List.map_cons,List.flatten_cons,List.length_append,List.length_cons];omega
theorem AFI{v:V}{ss:List St}{d:Nat}{cs:EY}{A:Nat->Prop}(hel:El G H v 9 cs)(hva:∀id,v.Ry=some id->A id)(hc:RF G H A cs ss)(hA:∀id,A id->id<n)(ht:∀x∈ss,UF G x)(hl:(Jy d (ss.map (textS (d+1)))).length<=100000000000)
 (hk:∀H' n',Kp H n H' n'->k (sB (Jy d (ss.map (textS (d+1))))) H' n'):Runs F G WH [v,.int .i64 (.ofNat d) 0] H n k:=by
 have hl2:=hl
 unfold Jy tabs at hl2
 simp only[List.length_append,List.length_replicate]at hl2
 have hn0:=AFq d ss
 have hw:MG.length=1/\m_rc.length=1/\([10]:Bs).length=1:=⟨rfl,rfl,rfl⟩
 refine Am (s:=RG (Yf lfp G)) au (by obtain⟨h,o⟩:=ADo Ap G;rw[au]at h;cases h;exact o) ?_
 show Yf lfp G (Runs F G) v (.int .i64 (.ofNat d) 0) H n k
 delta Yf
 refine ANL λH1 f1 b1=>?_
 rw[show V.str 2 2683=sB (MG++[10])from rfl]
 refine lM b1 (by show 0+2<=_;omega) λ_ H2 f2 b2=>?_
 have f2:Kp H n H2 (n+1+1):=⟨by omega,λid hid=>(f2.same id hid).trans (f1.same id hid)⟩
 refine AB (hel.kp (λid hid=>hA id (hva id hid)) f2).len ?_
 rw[hc.len]
 refine IZ (N:=ss.length) (J:=λj q=>∃H' n',q=(.int .i64 (.ofNat d) 0,.ptr n 0,v,.int .i64 (.ofNat ss.length) 0,.int .i64 (.ofNat j) 0,H',n')/\Kp H n H' n'/\Bu H' n' n ((MG++[10])++((ss.map (textS (d+1))).take j).flatten)) ?_ ?_ ⟨H2,_,rfl,f2,by simpa using b2⟩
 ·rintro I j q hlt ⟨H3,n3,rfl,f3,b3⟩ ih
  show O9 lfp G (Runs F G) k I (.int .i64 (.ofNat d) 0) (.ptr n 0) v (.int .i64 (.ofNat ss.length) 0) (.int .i64 (.ofNat j) 0) H3 n3
  delta O9
  have hn3:=f3.le
  have hv3:El G H3 v 9 cs:=hel.kp (λid hid=>hA id (hva id hid)) f3
  have hc3:RF G H3 A cs ss:=hc.mono (λ_ h=>h) λid h=>f3.same id (hA id h)
  obtain⟨cx,hcx,hx⟩:=hc3.at (List.getElem?_eq_getElem hlt)
  have htx:=ht _ (List.getElem_mem hlt)
  obtain⟨p,hp,hld⟩:=hv3.at hcx
  rw[Ht,BA,decide_eq_true hlt,Bq]
  refine AB hp (AB (Qs hld) ?_)
  refine BG rfl λH4 f4 g4=>?_
  refine DI g4 rfl hx.len (by omega) λH5 g5 t5=>?_
  have f5:Kp H3 n3 H5 (n3+1):=⟨f4.le,λid hid=>(t5 id (by omega)).trans (f4.same id hid)⟩
  refine AB (Ah (m:=9) g5 (by omega) hx.len) (AB (Iz (by omega)) ?_)
  have hx:SY G H5 A cx ss[j]:=hx.mono (λ_ h=>h) λid h=>f5.same id (by have:=hA id h;omega)
  have e1:((ss.map (textS (d+1))).take (j+1)).flatten=((ss.map (textS (d+1))).take j).flatten++textS (d+1) ss[j]:=by
   rw[List.take_succ_eq_append_getElem (by rw[List.length_map];exact hlt),List.flatten_append,List.getElem_map];simp
  have e2:=Xw (ss.map (textS (d+1))) (j+1)
  rw[e1,List.length_append]at e2
  refine htx H5 (n3+1) (d+1) cx A _ hx (λid h=>by have:=hA id h;omega) (by omega) λH6 n6 f6=>?_
  have b6:=b3.kp (f5.trans f6)
  have hn6:=f6.le
  refine lM b6 (by simp only[List.length_append];omega) λ_ H7 f7 b7=>?_
  refine AB (Iz (by omega)) ?_
  refine ih _ ⟨H7,n6+1,rfl,⟨by omega,λid hid=>(f7.same id hid).trans ((f6.same id (by omega)).trans ((f5.same id (by omega)).trans (f3.same id hid)))⟩,?_⟩
  rw[e1,<-List.append_assoc]
  exact b7
 ·rintro I q ⟨H3,n3,rfl,f3,b3⟩
  show O9 lfp G (Runs F G) k I (.int .i64 (.ofNat d) 0) (.ptr n 0) v (.int .i64 (.ofNat ss.length) 0) (.int .i64 (.ofNat ss.length) 0) H3 n3
  delta O9
  rw[Ht,BA,decide_eq_false (Nat.lt_irrefl _),Bg]
  show UE lfp G (Runs F G) k (.int .i64 (.ofNat d) 0) (.ptr n 0) H3 n3
  delta UE
  rw[show(ss.map (textS (d+1))).take ss.length=ss.map (textS (d+1))by rw[<-List.length_map (f:=textS (d+1)),List.take_length]]at b3
  refine ALB b3 λH4 f4=>?_
  refine rV (by omega) ?_
  refine AB (BO (by simp only[List.length_append,tabs,List.length_replicate];omega)) ?_
  rw[show V.str 1 125=sB m_rc from rfl]
  refine AB (BO (by simp only[List.length_append,tabs,List.length_replicate];omega)) ?_
  have:=hk H4 n3 ⟨f3.le,λid hid=>(f4.same id hid).trans (f3.same id hid)⟩
  unfold Jy at this
  simpa only[List.append_assoc]using this
end
theorem Vm(d:Nat):(tabs d).length=d:=List.length_replicate
theorem AIe{G:AY}{H:Heap}{v:V}{z:Nat}{LS:EY}(h:El G H v z LS)(hk:KS v):CX v v=true:=by
 obtain⟨_,h⟩:=h
 cases v<;>first|exact hk.1|cases h
theorem AAC(t:Ty):t.nm.length<=(aG t).length:=by
 unfold aG
 cases t.arr with
 |true=>show _<=(t.nm++(Fe++FV)).length;rw[List.length_append];omega
 |false=>exact Nat.le_refl _
theorem SY.inv{G:AY}{H:Heap}{A:Nat->Prop}{c:LV}{does:Nat}{nm:Bs}{ty:Ty}{es:List Ex}{th el:List St}(h:SY G H A c (.mk does nm ty es th el)):
 ∃line col ve vt vl ct cl,c=ny does line col nm ty ve vt vl/\pq G H A ve es/\El G H vt 9 ct/\KS vt/\(∀id,vt.Ry=some id->A id)/\RF G H A ct th/\El G H vl 9 cl/\KS vl/\(∀id,vl.Ry=some id->A id)/\RF G H A cl el:=by
 cases h with
 |mk _ _ _ line col he ht kt a1 st hl kl a2 sl=>exact⟨line,col,_,_,_,_,_,rfl,he,ht,kt,a1,st,hl,kl,a2,sl⟩
theorem SY.vs{G:AY}{H:Heap}{A:Nat->Prop}{c:LV}{e:St}(h:SY G H A c e):CX (.agg c) (.agg c)=true:=by
 cases h with
 |mk does nm ty line col he ht kt a1 st hl kl a2 sl=>
  obtain⟨_,_,ke,_⟩:=he
  refine ABc λv hv'=>?_
  simp only[ny,List.mem_cons,List.not_mem_nil,or_false]at hv'
  rcases hv' with rfl|rfl|rfl|rfl|rfl|rfl|rfl|rfl|rfl
  ·exact bM ..
  ·exact bM ..
  ·exact bM ..
  ·exact AAV ..
  ·exact AAV ..
  ·exact AEu ..
  ·exact ke.1
  ·exact kt.1
  ·exact kl.1
section
variable{G:AY}
theorem Xi{H:Heap}{n i:Nat}{k:KV}{c:LV}{A:Nat->Prop}{does:Nat}{nm:Bs}{ty:Ty}{es:List Ex}{th el:List St}{e:Ex}(h:SY G H A c (.mk does nm ty es th el))(hA:∀id,A id->id<n)(hi:es[i]? =some e)(ht:Eh G e)(hl:(textE e).length<=100000000000)
 (hk:∀H' n',Kp H n H' n'->k (sB (textE e)) H' n'):Runs F G GL [.agg c,.int .i64 (.ofNat i) 0] H n k:=by
 obtain⟨line,col,ve,vt,vl,ct,cl,rfl,he,_⟩:=h.inv
 refine Am (s:=RG (RZ lfp G)) VD (by obtain⟨h,o⟩:=vU Ap G;rw[VD]at h;cases h;exact o) ?_
 show RZ lfp G (Runs F G) (.agg (ny does line col nm ty ve vt vl)) (.int .i64 (.ofNat i) 0) H n k
 delta RZ
 refine D5 λH1 f1 g1=>?_
 have he:pq G H1 A ve es:=he.mono (λ_ h=>h) λid h=>f1.same id (hA id h)
 obtain⟨cs,hel,_,_,_,_,hc⟩:=he
 obtain⟨hlt,_⟩:=List.getElem?_eq_some_iff.1 hi
 have hlt:i<es.length:=hlt
 obtain⟨cx,hcx,hx⟩:=hc.at hi
 obtain⟨p,hp,hld⟩:=hel.at hcx
 refine AB (Aa ..) (AB (v:=ve) (AQ g1 rfl) (AB hel.len (AB (Ht ..) ?_)))
 rw[hc.len,decide_eq_true hlt,Bq]
 refine AB (Aa ..) (AB (v:=ve) (AQ g1 rfl) (AB hp (AB (Qs hld) ?_)))
 exact ht H1 (n+1) cx A _ hx (λid h=>by have:=hA id h;omega) hl λH' n' f=>hk _ _ (f1.trans f)
theorem AWC{l:Bs}{ty:Ty}{a:Ex}(iha:Eh G a):UF G (.mk 1 l ty [a] [] []):=by
 intro H n d c A k hx0 hA0 hl hk
 have e0:textS d (.mk 1 l ty [a] [] [])=tabs d++(NM++([32]++(aG ty++([32]++(l++([32]++(Di++([32]++(textE a++(Aq++[10])))))))))):=by rw[D7];rfl
 rw[e0]at hl hk
 have htd:=Vm d
 try simp only[List.length_append]at hl
 obtain⟨line,col,ve,vt,vl,ct,cl,rfl,he,ht,kt,hta,hct,hel,kl,hela,hcl⟩:=hx0.inv
 refine Am (s:=RG (BI lfp G)) CW (by obtain⟨h,o⟩:=Gg Ap G;rw[CW]at h;cases h;exact o) ?_
 show BI lfp G (Runs F G) (.agg (ny 1 line col l ty ve vt vl)) (.int .i64 (.ofNat d) 0) H n k
 delta BI
 refine D5 λH1 f1 g1=>?_
 have hx1:=hx0.mono (λ_ h=>h) λid h=>f1.same id (hA0 id h)
 have hA1:∀id,A id->id<n+1:=λid h=>by have:=hA0 id h;omega
 refine AB (zK d) (rV (by omega) ?_)
 refine AB (Aa ..) (AB (AQ g1 rfl) ?_)
 repeat refine IB (by decide) ?_
 refine Fb ?_
 rw[show V.str 4 544499052=sB (NM++[32])from rfl]
 refine AB (BO (a:=tabs d) (b:=NM++[32]) (by first|omega|(simp only[List.length_append];omega))) ?_
 refine AB (Aa ..) (AB (v:=.agg (tyC ty)) (VX g1 (by omega) (by show 4+2<=9;omega)) ?_)
 refine AB (Aa ..) (AB (AQ g1 rfl) ?_)
 refine AB (Ah (m:=9) g1 (by omega) rfl) ?_
 have hty:=AAC ty
 refine ADC (by omega) λH2 f2=>?_
 have hn2:=f2.le
 have g2:=f2.get g1 (by omega)
 have f2:=f1.trans f2
 have hx2:=hx0.mono (λ_ h=>h) λid h=>f2.same id (hA0 id h)
 have hA2:∀id,A id->id<n+1+1:=λid h=>by have:=hA0 id h;omega
 refine AB (AQ g2 rfl) (Dv (TB _) ?_)
 refine AB (Ah (m:=9) g2 (by omega) rfl) (Dv hx2.vs ?_)
 refine AB (BO (a:=tabs d++(NM++[32])) (b:=aG ty) (by first|omega|(simp only[List.length_append];omega))) ?_
 refine AB (BO (a:=(tabs d++(NM++[32]))++aG ty) (b:=[32]) (by first|omega|(simp only[List.length_append];omega))) ?_
 refine AB (BO (a:=((tabs d++(NM++[32]))++aG ty)++[32]) (b:=l) (by first|omega|(simp only[List.length_append];omega))) ?_
 rw[show V.str 3 2112800=sB ([32]++(Di++[32]))from rfl]
 refine AB (BO (a:=(((tabs d++(NM++[32]))++aG ty)++[32])++l) (b:=[32]++(Di++[32])) (by first|omega|(simp only[List.length_append];omega))) ?_
 refine Xi (i:=0) (e:=a) hx2 hA2 rfl iha (by omega) λH3 n3 f3=>?_
 have hn3:=f3.le
 have g3:=f3.get g2 (by omega)
 have f3:=f2.trans f3
 have hx3:=hx0.mono (λ_ h=>h) λid h=>f3.same id (hA0 id h)
 have hA3:∀id,A id->id<n3:=λid h=>by have:=hA0 id h;omega
 refine AB (AQ g3 rfl) (Dv (TB _) ?_)
 refine AB (BO (a:=((((tabs d++(NM++[32]))++aG ty)++[32])++l)++([32]++(Di++[32]))) (b:=textE a) (by first|omega|(simp only[List.length_append];omega))) ?_
 rw[show V.str 2 2619=sB (Aq++[10])from rfl]
 refine AB (BO (a:=(((((tabs d++(NM++[32]))++aG ty)++[32])++l)++([32]++(Di++[32])))++textE a) (b:=Aq++[10]) (by first|omega|(simp only[List.length_append];omega))) ?_
 have hk:=hk _ _ f3
 try simp only[List.append_assoc]at hk
 try simp only[List.append_assoc]
 exact hk
theorem ASV{a b:Ex}(iha:Eh G a)(ihb:Eh G b):UF G (.mk 2 [] JE [a,b] [] []):=by
 intro H n d c A k hx0 hA0 hl hk
 have e0:textS d (.mk 2 [] JE [a,b] [] [])=tabs d++(textE a++([32]++(Di++([32]++(textE b++(Aq++[10])))))):=by rw[D7];rfl
 rw[e0]at hl hk
 have htd:=Vm d
 try simp only[List.length_append]at hl
 obtain⟨line,col,ve,vt,vl,ct,cl,rfl,he,ht,kt,hta,hct,hel,kl,hela,hcl⟩:=hx0.inv
 refine Am (s:=RG (BI lfp G)) CW (by obtain⟨h,o⟩:=Gg Ap G;rw[CW]at h;cases h;exact o) ?_
 show BI lfp G (Runs F G) (.agg (ny 2 line col [] JE ve vt vl)) (.int .i64 (.ofNat d) 0) H n k
 delta BI
 refine D5 λH1 f1 g1=>?_
 have hx1:=hx0.mono (λ_ h=>h) λid h=>f1.same id (hA0 id h)
 have hA1:∀id,A id->id<n+1:=λid h=>by have:=hA0 id h;omega
 refine AB (zK d) (rV (by omega) ?_)
 refine AB (Aa ..) (AB (AQ g1 rfl) ?_)
 repeat refine IB (by decide) ?_
 refine Fb ?_
 refine AB (Ah (m:=9) g1 (by omega) rfl) ?_
 refine AB (Ah (m:=9) g1 (by omega) rfl) ?_
 refine Xi (i:=0) (e:=a) hx1 hA1 rfl iha (by omega) λH2 n2 f2=>?_
 have hn2:=f2.le
 have g2:=f2.get g1 (by omega)
 have f2:=f1.trans f2
 have hx2:=hx0.mono (λ_ h=>h) λid h=>f2.same id (hA0 id h)
 have hA2:∀id,A id->id<n2:=λid h=>by have:=hA0 id h;omega
 refine AB (Ah (m:=9) g2 (by omega) rfl) (Dv hx2.vs ?_)
 refine AB (BO (a:=tabs d) (b:=textE a) (by first|omega|(simp only[List.length_append];omega))) ?_
 rw[show V.str 3 2112800=sB ([32]++(Di++[32]))from rfl]
 refine AB (BO (a:=tabs d++textE a) (b:=[32]++(Di++[32])) (by first|omega|(simp only[List.length_append];omega))) ?_
 refine Xi (i:=1) (e:=b) hx2 hA2 rfl ihb (by omega) λH3 n3 f3=>?_
 have hn3:=f3.le
 have g3:=f3.get g2 (by omega)
 have f3:=f2.trans f3
 have hx3:=hx0.mono (λ_ h=>h) λid h=>f3.same id (hA0 id h)
 have hA3:∀id,A id->id<n3:=λid h=>by have:=hA0 id h;omega
 refine AB (BO (a:=(tabs d++textE a)++([32]++(Di++[32]))) (b:=textE b) (by first|omega|(simp only[List.length_append];omega))) ?_
 rw[show V.str 2 2619=sB (Aq++[10])from rfl]
 refine AB (BO (a:=((tabs d++textE a)++([32]++(Di++[32])))++textE b) (b:=Aq++[10]) (by first|omega|(simp only[List.length_append];omega))) ?_
 have hk:=hk _ _ f3
 try simp only[List.append_assoc]at hk
 try simp only[List.append_assoc]
 exact hk
theorem ASf{a:Ex}(iha:Eh G a):UF G (.mk 6 [] JE [a] [] []):=by
 intro H n d c A k hx0 hA0 hl hk
 have e0:textS d (.mk 6 [] JE [a] [] [])=tabs d++(EZ++([32]++(textE a++(Aq++[10])))):=by rw[D7];rfl
 rw[e0]at hl hk
 have htd:=Vm d
 try simp only[List.length_append]at hl
 obtain⟨line,col,ve,vt,vl,ct,cl,rfl,he,ht,kt,hta,hct,hel,kl,hela,hcl⟩:=hx0.inv
 refine Am (s:=RG (BI lfp G)) CW (by obtain⟨h,o⟩:=Gg Ap G;rw[CW]at h;cases h;exact o) ?_
 show BI lfp G (Runs F G) (.agg (ny 6 line col [] JE ve vt vl)) (.int .i64 (.ofNat d) 0) H n k
 delta BI
 refine D5 λH1 f1 g1=>?_
 have hx1:=hx0.mono (λ_ h=>h) λid h=>f1.same id (hA0 id h)
 have hA1:∀id,A id->id<n+1:=λid h=>by have:=hA0 id h;omega
 refine AB (zK d) (rV (by omega) ?_)
 refine AB (Aa ..) (AB (AQ g1 rfl) ?_)
 repeat refine IB (by decide) ?_
 refine Fb ?_
 rw[show V.str 7 9128637130630514=sB (EZ++[32])from rfl]
 refine AB (BO (a:=tabs d) (b:=EZ++[32]) (by first|omega|(simp only[List.length_append];omega))) ?_
 refine AB (Ah (m:=9) g1 (by omega) rfl) ?_
 refine Xi (i:=0) (e:=a) hx1 hA1 rfl iha (by omega) λH2 n2 f2=>?_
 have hn2:=f2.le
 have g2:=f2.get g1 (by omega)
 have f2:=f1.trans f2
 have hx2:=hx0.mono (λ_ h=>h) λid h=>f2.same id (hA0 id h)
 have hA2:∀id,A id->id<n2:=λid h=>by have:=hA0 id h;omega
 refine AB (BO (a:=tabs d++(EZ++[32])) (b:=textE a) (by first|omega|(simp only[List.length_append];omega))) ?_
 rw[show V.str 2 2619=sB (Aq++[10])from rfl]
 refine AB (BO (a:=(tabs d++(EZ++[32]))++textE a) (b:=Aq++[10]) (by first|omega|(simp only[List.length_append];omega))) ?_
 have hk:=hk _ _ f2
 try simp only[List.append_assoc]at hk
 try simp only[List.append_assoc]
 exact hk
theorem ATf{a:Ex}(iha:Eh G a):UF G (.mk 7 [] JE [a] [] []):=by
 intro H n d c A k hx0 hA0 hl hk
 have e0:textS d (.mk 7 [] JE [a] [] [])=tabs d++(FM++([32]++(textE a++(Aq++[10])))):=by rw[D7];rfl
 rw[e0]at hl hk
 have htd:=Vm d
 try simp only[List.length_append]at hl
 obtain⟨line,col,ve,vt,vl,ct,cl,rfl,he,ht,kt,hta,hct,hel,kl,hela,hcl⟩:=hx0.inv
 refine Am (s:=RG (BI lfp G)) CW (by obtain⟨h,o⟩:=Gg Ap G;rw[CW]at h;cases h;exact o) ?_
 show BI lfp G (Runs F G) (.agg (ny 7 line col [] JE ve vt vl)) (.int .i64 (.ofNat d) 0) H n k
 delta BI
 refine D5 λH1 f1 g1=>?_
 have hx1:=hx0.mono (λ_ h=>h) λid h=>f1.same id (hA0 id h)
 have hA1:∀id,A id->id<n+1:=λid h=>by have:=hA0 id h;omega
 refine AB (zK d) (rV (by omega) ?_)
 refine AB (Aa ..) (AB (AQ g1 rfl) ?_)
 repeat refine IB (by decide) ?_
 refine Fb ?_
 rw[show V.str 6 35684440699504=sB (FM++[32])from rfl]
 refine AB (BO (a:=tabs d) (b:=FM++[32]) (by first|omega|(simp only[List.length_append];omega))) ?_
 refine AB (Ah (m:=9) g1 (by omega) rfl) ?_
 refine Xi (i:=0) (e:=a) hx1 hA1 rfl iha (by omega) λH2 n2 f2=>?_
 have hn2:=f2.le
 have g2:=f2.get g1 (by omega)
 have f2:=f1.trans f2
 have hx2:=hx0.mono (λ_ h=>h) λid h=>f2.same id (hA0 id h)
 have hA2:∀id,A id->id<n2:=λid h=>by have:=hA0 id h;omega
 refine AB (BO (a:=tabs d++(FM++[32])) (b:=textE a) (by first|omega|(simp only[List.length_append];omega))) ?_
 rw[show V.str 2 2619=sB (Aq++[10])from rfl]
 refine AB (BO (a:=(tabs d++(FM++[32]))++textE a) (b:=Aq++[10]) (by first|omega|(simp only[List.length_append];omega))) ?_
 have hk:=hk _ _ f2
 try simp only[List.append_assoc]at hk
 try simp only[List.append_assoc]
 exact hk
theorem ATu{a:Ex}(iha:Eh G a):UF G (.mk 3 [] JE [a] [] []):=by
 intro H n d c A k hx0 hA0 hl hk
 have e0:textS d (.mk 3 [] JE [a] [] [])=tabs d++(textE a++(Aq++[10])):=by rw[D7];rfl
 rw[e0]at hl hk
 have htd:=Vm d
 try simp only[List.length_append]at hl
 obtain⟨line,col,ve,vt,vl,ct,cl,rfl,he,ht,kt,hta,hct,hel,kl,hela,hcl⟩:=hx0.inv
 refine Am (s:=RG (BI lfp G)) CW (by obtain⟨h,o⟩:=Gg Ap G;rw[CW]at h;cases h;exact o) ?_
 show BI lfp G (Runs F G) (.agg (ny 3 line col [] JE ve vt vl)) (.int .i64 (.ofNat d) 0) H n k
 delta BI
 refine D5 λH1 f1 g1=>?_
 have hx1:=hx0.mono (λ_ h=>h) λid h=>f1.same id (hA0 id h)
 have hA1:∀id,A id->id<n+1:=λid h=>by have:=hA0 id h;omega
 refine AB (zK d) (rV (by omega) ?_)
 refine AB (Aa ..) (AB (AQ g1 rfl) ?_)
 repeat refine IB (by decide) ?_
 refine AB (Ah (m:=9) g1 (by omega) rfl) ?_
 refine Xi (i:=0) (e:=a) hx1 hA1 rfl iha (by omega) λH2 n2 f2=>?_
 have hn2:=f2.le
 have g2:=f2.get g1 (by omega)
 have f2:=f1.trans f2
 have hx2:=hx0.mono (λ_ h=>h) λid h=>f2.same id (hA0 id h)
 have hA2:∀id,A id->id<n2:=λid h=>by have:=hA0 id h;omega
 refine AB (BO (a:=tabs d) (b:=textE a) (by first|omega|(simp only[List.length_append];omega))) ?_
 rw[show V.str 2 2619=sB (Aq++[10])from rfl]
 refine AB (BO (a:=tabs d++textE a) (b:=Aq++[10]) (by first|omega|(simp only[List.length_append];omega))) ?_
 have hk:=hk _ _ f2
 try simp only[List.append_assoc]at hk
 try simp only[List.append_assoc]
 exact hk
theorem APC{a:Ex}(iha:Eh G a){th:List St}(iht:∀x∈th,UF G x):UF G (.mk 5 [] JE [a] th []):=by
 intro H n d c A k hx0 hA0 hl hk
 have e0:textS d (.mk 5 [] JE [a] th [])=tabs d++(FK++([32]++(textE a++([32]++(Jy d (th.map (textS (d+1)))++[10]))))):=by rw[D7];rfl
 rw[e0]at hl hk
 have htd:=Vm d
 try simp only[List.length_append]at hl
 obtain⟨line,col,ve,vt,vl,ct,cl,rfl,he,ht,kt,hta,hct,hel,kl,hela,hcl⟩:=hx0.inv
 refine Am (s:=RG (BI lfp G)) CW (by obtain⟨h,o⟩:=Gg Ap G;rw[CW]at h;cases h;exact o) ?_
 show BI lfp G (Runs F G) (.agg (ny 5 line col [] JE ve vt vl)) (.int .i64 (.ofNat d) 0) H n k
 delta BI
 refine D5 λH1 f1 g1=>?_
 have hx1:=hx0.mono (λ_ h=>h) λid h=>f1.same id (hA0 id h)
 have hA1:∀id,A id->id<n+1:=λid h=>by have:=hA0 id h;omega
 refine AB (zK d) (rV (by omega) ?_)
 refine AB (Aa ..) (AB (AQ g1 rfl) ?_)
 repeat refine IB (by decide) ?_
 refine Fb ?_
 rw[show V.str 6 35619982633079=sB (FK++[32])from rfl]
 refine AB (BO (a:=tabs d) (b:=FK++[32]) (by first|omega|(simp only[List.length_append];omega))) ?_
 refine AB (Ah (m:=9) g1 (by omega) rfl) ?_
 refine AB (Aa ..) (AB (v:=vt) (AQ g1 rfl) ?_)
 refine AB (zK d) ?_
 refine Xi (i:=0) (e:=a) hx1 hA1 rfl iha (by omega) λH2 n2 f2=>?_
 have hn2:=f2.le
 have g2:=f2.get g1 (by omega)
 have f2:=f1.trans f2
 have hx2:=hx0.mono (λ_ h=>h) λid h=>f2.same id (hA0 id h)
 have hA2:∀id,A id->id<n2:=λid h=>by have:=hA0 id h;omega
 refine AB (v:=vt) (AQ g2 rfl) (Dv (AIe ht kt) ?_)
 refine AB (BO (a:=tabs d++(FK++[32])) (b:=textE a) (by first|omega|(simp only[List.length_append];omega))) ?_
 refine AB (BO (a:=(tabs d++(FK++[32]))++textE a) (b:=[32]) (by first|omega|(simp only[List.length_append];omega))) ?_
 refine AFI (ht.same λid hid=>f2.same id (hA0 id (hta id hid))) hta (hct.mono (λ_ h=>h) λid h=>f2.same id (hA0 id h)) hA2 iht (by omega) λH3 n3 f3=>?_
 have hn3:=f3.le
 have g3:=f3.get g2 (by omega)
 have f3:=f2.trans f3
 have hx3:=hx0.mono (λ_ h=>h) λid h=>f3.same id (hA0 id h)
 have hA3:∀id,A id->id<n3:=λid h=>by have:=hA0 id h;omega
 refine AB (BO (a:=((tabs d++(FK++[32]))++textE a)++[32]) (b:=Jy d (th.map (textS (d+1)))) (by first|omega|(simp only[List.length_append];omega))) ?_
 refine AB (BO (a:=(((tabs d++(FK++[32]))++textE a)++[32])++Jy d (th.map (textS (d+1)))) (b:=[10]) (by first|omega|(simp only[List.length_append];omega))) ?_
 have hk:=hk _ _ f3
 try simp only[List.append_assoc]at hk
 try simp only[List.append_assoc]
 exact hk
theorem APQ{a:Ex}(iha:Eh G a){th:List St}(iht:∀x∈th,UF G x):UF G (.mk 4 [] JE [a] th []):=by
 intro H n d c A k hx0 hA0 hl hk
 have e0:textS d (.mk 4 [] JE [a] th [])=tabs d++(IL++([32]++(textE a++([32]++(Jy d (th.map (textS (d+1)))++[10]))))):=by rw[D7];rfl
 rw[e0]at hl hk
 have htd:=Vm d
 try simp only[List.length_append]at hl
 obtain⟨line,col,ve,vt,vl,ct,cl,rfl,he,ht,kt,hta,hct,hel,kl,hela,hcl⟩:=hx0.inv
 refine Am (s:=RG (BI lfp G)) CW (by obtain⟨h,o⟩:=Gg Ap G;rw[CW]at h;cases h;exact o) ?_
 show BI lfp G (Runs F G) (.agg (ny 4 line col [] JE ve vt vl)) (.int .i64 (.ofNat d) 0) H n k
 delta BI
 refine D5 λH1 f1 g1=>?_
 have hx1:=hx0.mono (λ_ h=>h) λid h=>f1.same id (hA0 id h)
 have hA1:∀id,A id->id<n+1:=λid h=>by have:=hA0 id h;omega
 refine AB (zK d) (rV (by omega) ?_)
 refine AB (Aa ..) (AB (AQ g1 rfl) ?_)
 repeat refine IB (by decide) ?_
 refine Fb ?_
 rw[show V.str 3 2123369=sB (IL++[32])from rfl]
 refine AB (BO (a:=tabs d) (b:=IL++[32]) (by first|omega|(simp only[List.length_append];omega))) ?_
 refine AB (Ah (m:=9) g1 (by omega) rfl) ?_
 refine AB (Aa ..) (AB (v:=vt) (AQ g1 rfl) ?_)
 refine AB (zK d) ?_
 refine Xi (i:=0) (e:=a) hx1 hA1 rfl iha (by omega) λH2 n2 f2=>?_
 have hn2:=f2.le
 have g2:=f2.get g1 (by omega)
 have f2:=f1.trans f2
 have hx2:=hx0.mono (λ_ h=>h) λid h=>f2.same id (hA0 id h)
 have hA2:∀id,A id->id<n2:=λid h=>by have:=hA0 id h;omega
 refine AB (v:=vt) (AQ g2 rfl) (Dv (AIe ht kt) ?_)
 refine AB (BO (a:=tabs d++(IL++[32])) (b:=textE a) (by first|omega|(simp only[List.length_append];omega))) ?_
 refine AB (BO (a:=(tabs d++(IL++[32]))++textE a) (b:=[32]) (by first|omega|(simp only[List.length_append];omega))) ?_
 refine AFI (ht.same λid hid=>f2.same id (hA0 id (hta id hid))) hta (hct.mono (λ_ h=>h) λid h=>f2.same id (hA0 id h)) hA2 iht (by omega) λH3 n3 f3=>?_
 have hn3:=f3.le
 have g3:=f3.get g2 (by omega)
 have f3:=f2.trans f3
 have hx3:=hx0.mono (λ_ h=>h) λid h=>f3.same id (hA0 id h)
 have hA3:∀id,A id->id<n3:=λid h=>by have:=hA0 id h;omega
 refine AB (BO (a:=((tabs d++(IL++[32]))++textE a)++[32]) (b:=Jy d (th.map (textS (d+1)))) (by first|omega|(simp only[List.length_append];omega))) ?_
 refine AB (Aa ..) (AB (v:=vl) (AQ g3 rfl) (AB (hel.same λid hid=>f3.same id (hA0 id (hela id hid))).len (AB (kN ..) ?_)))
 rw[hcl.len,decide_eq_false (show ¬0<([]:List St).length from Nat.lt_irrefl _),Bg]
 delta Jc
 refine AB (BO (a:=(((tabs d++(IL++[32]))++textE a)++[32])++Jy d (th.map (textS (d+1)))) (b:=[10]) (by first|omega|(simp only[List.length_append];omega))) ?_
 have hk:=hk _ _ f3
 try simp only[List.append_assoc]at hk
 try simp only[List.append_assoc]
 exact hk
theorem APJ{a:Ex}(iha:Eh G a){th:List St}(iht:∀x∈th,UF G x){y:St}{el:List St}(ihe:∀x∈y::el,UF G x):UF G (.mk 4 [] JE [a] th (y::el)):=by
 intro H n d c A k hx0 hA0 hl hk
 have e0:textS d (.mk 4 [] JE [a] th (y::el))=tabs d++(IL++([32]++(textE a++([32]++(Jy d (th.map (textS (d+1)))++(([32]++(EU++([32]++Jy d ((y::el).map (textS (d+1))))))++[10])))))):=by rw[D7];rfl
 rw[e0]at hl hk
 have htd:=Vm d
 try simp only[List.length_append]at hl
 obtain⟨line,col,ve,vt,vl,ct,cl,rfl,he,ht,kt,hta,hct,hel,kl,hela,hcl⟩:=hx0.inv
 refine Am (s:=RG (BI lfp G)) CW (by obtain⟨h,o⟩:=Gg Ap G;rw[CW]at h;cases h;exact o) ?_
 show BI lfp G (Runs F G) (.agg (ny 4 line col [] JE ve vt vl)) (.int .i64 (.ofNat d) 0) H n k
 delta BI
 refine D5 λH1 f1 g1=>?_
 have hx1:=hx0.mono (λ_ h=>h) λid h=>f1.same id (hA0 id h)
 have hA1:∀id,A id->id<n+1:=λid h=>by have:=hA0 id h;omega
 refine AB (zK d) (rV (by omega) ?_)
 refine AB (Aa ..) (AB (AQ g1 rfl) ?_)
 repeat refine IB (by decide) ?_
 refine Fb ?_
 rw[show V.str 3 2123369=sB (IL++[32])from rfl]
 refine AB (BO (a:=tabs d) (b:=IL++[32]) (by first|omega|(simp only[List.length_append];omega))) ?_
 refine AB (Ah (m:=9) g1 (by omega) rfl) ?_
 refine AB (Aa ..) (AB (v:=vt) (AQ g1 rfl) ?_)
 refine AB (zK d) ?_
 refine Xi (i:=0) (e:=a) hx1 hA1 rfl iha (by omega) λH2 n2 f2=>?_
 have hn2:=f2.le
 have g2:=f2.get g1 (by omega)
 have f2:=f1.trans f2
 have hx2:=hx0.mono (λ_ h=>h) λid h=>f2.same id (hA0 id h)
 have hA2:∀id,A id->id<n2:=λid h=>by have:=hA0 id h;omega
 refine AB (v:=vt) (AQ g2 rfl) (Dv (AIe ht kt) ?_)
 refine AB (BO (a:=tabs d++(IL++[32])) (b:=textE a) (by first|omega|(simp only[List.length_append];omega))) ?_
 refine AB (BO (a:=(tabs d++(IL++[32]))++textE a) (b:=[32]) (by first|omega|(simp only[List.length_append];omega))) ?_
 refine AFI (ht.same λid hid=>f2.same id (hA0 id (hta id hid))) hta (hct.mono (λ_ h=>h) λid h=>f2.same id (hA0 id h)) hA2 iht (by omega) λH3 n3 f3=>?_
 have hn3:=f3.le
 have g3:=f3.get g2 (by omega)
 have f3:=f2.trans f3
 have hx3:=hx0.mono (λ_ h=>h) λid h=>f3.same id (hA0 id h)
 have hA3:∀id,A id->id<n3:=λid h=>by have:=hA0 id h;omega
 refine AB (BO (a:=((tabs d++(IL++[32]))++textE a)++[32]) (b:=Jy d (th.map (textS (d+1)))) (by first|omega|(simp only[List.length_append];omega))) ?_
 refine AB (Aa ..) (AB (v:=vl) (AQ g3 rfl) (AB (hel.same λid hid=>f3.same id (hA0 id (hela id hid))).len (AB (kN ..) ?_)))
 rw[hcl.len,decide_eq_true (show 0<(y::el).length from Nat.succ_pos _),Bq]
 refine AB (Aa ..) (AB (v:=vl) (AQ g3 rfl) ?_)
 refine AB (zK d) ?_
 refine AFI (hel.same λid hid=>f3.same id (hA0 id (hela id hid))) hela (hcl.mono (λ_ h=>h) λid h=>f3.same id (hA0 id h)) hA3 ihe (by omega) λH4 n4 f4=>?_
 have hn4:=f4.le
 have g4:=f4.get g3 (by omega)
 have f4:=f3.trans f4
 have hx4:=hx0.mono (λ_ h=>h) λid h=>f4.same id (hA0 id h)
 have hA4:∀id,A id->id<n4:=λid h=>by have:=hA0 id h;omega
 rw[show V.str 6 35620100269344=sB ([32]++(EU++[32]))from rfl]
 refine AB (BO (a:=[32]++(EU++[32])) (b:=Jy d ((y::el).map (textS (d+1)))) (by first|omega|(simp only[List.length_append];omega))) ?_
 refine AB (BO (a:=(((tabs d++(IL++[32]))++textE a)++[32])++Jy d (th.map (textS (d+1)))) (b:=([32]++(EU++[32]))++Jy d ((y::el).map (textS (d+1)))) (by first|omega|(simp only[List.length_append];omega))) ?_
 delta Jc
 refine AB (BO (a:=((((tabs d++(IL++[32]))++textE a)++[32])++Jy d (th.map (textS (d+1))))++(([32]++(EU++[32]))++Jy d ((y::el).map (textS (d+1))))) (b:=[10]) (by first|omega|(simp only[List.length_append];omega))) ?_
 have hk:=hk _ _ f4
 try simp only[List.append_assoc]at hk
 try simp only[List.append_assoc]
 exact hk
theorem APX(hG:dZ G){e:St}(h:rD e):UF G e:=by
 induction h with
 |lt hl ht he=>exact AWC (fJ hG he)
 |put ha hk hb=>exact ASV (fJ hG ha) (fJ hG hb)
 |ask ha hk=>exact ATu (fJ hG ha)
 | @ite c th el hc ht he iht ihe=>
  cases el with
  |nil=>exact APQ (fJ hG hc) iht
  |cons y el=>exact APJ (fJ hG hc) iht ihe
 |loop hc ht iht=>exact APC (fJ hG hc) iht
 |ret ha=>exact ASf (fJ hG ha)
 |prt ha=>exact ATf (fJ hG ha)
end
def preB(st:Bool):Bs:=bif st then[9]++(FB++([32]++(D8++[32])))else[9]++(D8++[32])
def headB(m:Me):Bs:=preB m.st++(aG m.ret++([32]++(m.nm++(Au++(GZ (m.ps.map aQ)++(BD++[32]))))))
theorem AGO(m:Me):Qd m=headB m++(Jy 1 (m.body.map (textS 2))++[10]):=by
 unfold Qd headB preB
 cases m.st<;>simp only[cond_true,cond_false,List.append_assoc,List.nil_append]
theorem Zf.inv{G:AY}{H:Heap}{A:Nat->Prop}{c:LV}{m:Me}(h:Zf G H A c m):∃line col vp vb,c=meC line col m.nm m.st vp m.ret vb/\ADd G H A vp m.ps/\uX G H A vb m.body:=by
 cases h with
 |mk line col hp hb=>exact⟨line,col,_,_,rfl,hp,hb⟩
theorem Yb.at{G:AY}{H:Heap}{A:Nat->Prop}:∀{cs:EY} {es:List Me} {i:Nat} {e:Me},Yb G H A cs es->es[i]? =some e->∃c,cs[i]? =some c/\Zf G H A c e
 |_,_,0,_,.cons h _,he=>⟨_,rfl,by cases he;exact h⟩
 |_,_,i+1,_,.cons _ t,he=>Yb.at t (i:=i) he
theorem AMo(b:Bool):(preB b).length<=15:=by cases b<;>decide
section
variable{G:AY}{H:Heap}{n:Nat}{k:KV}
theorem AQw{m:Me}{c:LV}{A:Nat->Prop}(hc:Zf G H A c m)(hA:∀id,A id->id<n)(hn:m.ps.length<=1000000)(hl:(headB m).length<=100000000000)
 (hk:∀H' n',Kp H n H' n'->k (sB (headB m)) H' n'):Runs F G Yh [.agg c] H n k:=by
 obtain⟨line,col,vp,vb,rfl,⟨hel,_,_,_,hva⟩,_⟩:=hc.inv
 have hl2:=hl
 unfold headB at hl2
 simp only[List.length_append]at hl2
 have ht:=AAC m.ret
 refine Am (s:=IQ (Om lfp G)) SE (by obtain⟨h,o⟩:=pR Ap G;rw[SE]at h;cases h;exact o) ?_
 show Om lfp G (Runs F G) (.agg (meC line col m.nm m.st vp m.ret vb)) H n k
 delta Om
 refine D5 λH1 f1 g1=>?_
 have main:Gi lfp G (Runs F G) k (.ptr n 0) (sB (preB m.st)) H1 (n+1):=by
  show Gi lfp G (Runs F G) k (.ptr n 0) (sB (preB m.st)) H1 (n+1)
  delta Gi
  have hel1:El G H1 vp 3 (m.ps.map vaC):=hel.kp (λid hid=>hA id (hva id hid)) f1
  refine AB (Aa ..) (AB (v:=vp) (AQ g1 rfl) (AB hel1.len ?_))
  rw[List.length_map]
  refine IZ (N:=m.ps.length) (J:=λj q=>∃w H' n',q=(.ptr n 0,sB (preB m.st),w,vp,.int .i64 (.ofNat m.ps.length) 0,.int .i64 (.ofNat j) 0,H',n')/\Kp H1 (n+1) H' n'/\Own G H' (n+1) n' 1 w (((m.ps.map aQ).take j).map λb=>[sB b])) ?_ ?_ ⟨.Aj,H1,n+1,rfl,Kp.refl ..,Yp⟩
  ·rintro I j q hlt ⟨w,H2,n2,rfl,f2,ho⟩ ih
   show IU lfp G (Runs F G) k I (.ptr n 0) (sB (preB m.st)) w vp (.int .i64 (.ofNat m.ps.length) 0) (.int .i64 (.ofNat j) 0) H2 n2
   delta IU
   have hn2:=f2.le
   have hel2:El G H2 vp 3 (m.ps.map vaC):=hel1.kp (λid hid=>by have:=hA id (hva id hid);omega) f2
   have hcx:(m.ps.map vaC)[j]? =some (vaC m.ps[j]):=by rw[List.getElem?_map,List.getElem?_eq_getElem hlt];rfl
   obtain⟨p,hp,hld⟩:=hel2.at hcx
   rw[Ht,BA,decide_eq_true hlt,Bq]
   refine AB hp (AB (Qs hld) ?_)
   refine BG rfl λH3 f3 g3=>?_
   refine DI (L:=vaC m.ps[j]) g3 rfl rfl (by omega) λH4 g4 t4=>?_
   have f4:Kp H2 n2 H4 (n2+1):=⟨f3.le,λid hid=>(t4 id (by omega)).trans (f3.same id hid)⟩
   have hlx:(aQ m.ps[j]).length<=(GZ (m.ps.map aQ)).length:=ACZ _ _ (List.mem_map_of_mem (List.getElem_mem hlt))
   have hpx:(aQ m.ps[j]).length=(aG m.ps[j].ty).length+(1+m.ps[j].nm.length):=by unfold aQ;simp only[List.length_append,List.length_cons,List.length_nil]
   have htx:=AAC m.ps[j].ty
   refine AB (Aa ..) (AB (v:=.agg (tyC m.ps[j].ty)) (VX g4 (by omega) (by show 1+2<=3;omega)) ?_)
   refine AB (Aa ..) (AB (v:=sB m.ps[j].nm) (AQ g4 rfl) ?_)
   refine ADC (by omega) λH5 f5=>?_
   have g5:=f5.get g4 (by omega)
   refine AB (AQ g5 rfl) (Dv (TB _) ?_)
   refine AB (BO (a:=aG m.ps[j].ty) (b:=[32]) (by show _+1<_;omega)) ?_
   refine AB (BO (a:=aG m.ps[j].ty++[32]) (b:=m.ps[j].nm) (by simp only[List.length_append,List.length_cons,List.length_nil];omega)) ?_
   have ho5:=(ho.kp f4).kp f5
   refine AGJ ho5 (by omega) (by rw[List.length_map,List.length_take,List.length_map];omega) λv' H6 ho6 hs6 _=>?_
   refine AB (Iz (by omega)) ?_
   refine ih _ ⟨v',H6,_,rfl,⟨by omega,λid hid=>(hs6 id (by omega) (λe=>by have:=ho5.ge e;omega)).trans ((f5.same id (by omega)).trans ((f4.same id (by omega)).trans (f2.same id hid)))⟩,?_⟩
   rw[List.take_succ_eq_append_getElem (by rw[List.length_map];exact hlt),List.map_append,List.getElem_map]
   rw[List.append_assoc]at ho6
   exact ho6
  ·rintro I q ⟨w,H2,n2,rfl,f2,ho⟩
   show IU lfp G (Runs F G) k I (.ptr n 0) (sB (preB m.st)) w vp (.int .i64 (.ofNat m.ps.length) 0) (.int .i64 (.ofNat m.ps.length) 0) H2 n2
   delta IU
   rw[Ht,BA,decide_eq_false (Nat.lt_irrefl _),Bg]
   show LW lfp G (Runs F G) k (.ptr n 0) (sB (preB m.st)) w H2 n2
   delta LW
   rw[show(m.ps.map aQ).take m.ps.length=m.ps.map aQ by rw[<-List.length_map (f:=aQ),List.take_length]]at ho
   have hn2:=f2.le
   have g2:=f2.get g1 (by omega)
   refine AB (Aa ..) (AB (v:=.agg (tyC m.ret)) (VX g2 (by omega) (by show 5+2<=8;omega)) ?_)
   refine AB (Aa ..) (AB (v:=sB m.nm) (AQ g2 rfl) ?_)
   refine ADC (by omega) λH3 f3=>?_
   have g3:=f3.get g2 (by omega)
   refine AB (AQ g3 rfl) (Dv (TB _) ?_)
   have hpl:=AMo m.st
   refine AB (BO (a:=preB m.st) (b:=aG m.ret) (by omega)) ?_
   refine AB (BO (a:=preB m.st++aG m.ret) (b:=[32]) (by first|omega|(simp only[List.length_append];omega))) ?_
   refine AB (BO (a:=(preB m.st++aG m.ret)++[32]) (b:=m.nm) (by first|omega|(simp only[List.length_append];omega))) ?_
   refine AB (BO (a:=((preB m.st++aG m.ret)++[32])++m.nm) (b:=Au) (by first|omega|(simp only[List.length_append];omega))) ?_
   refine ANv ((ho.kp f3).el (by omega)) (by rw[List.length_map];exact hn) (by omega) ?_
   refine AB (AQ g3 rfl) (Dv (TB _) ?_)
   refine AB (BO (a:=(((preB m.st++aG m.ret)++[32])++m.nm)++Au) (b:=GZ (m.ps.map aQ)) (by first|omega|(simp only[List.length_append];omega))) ?_
   rw[show V.str 2 8233=sB (BD++[32])from rfl]
   refine AB (BO (a:=((((preB m.st++aG m.ret)++[32])++m.nm)++Au)++GZ (m.ps.map aQ)) (b:=BD++[32]) (by first|omega|(simp only[List.length_append];omega))) ?_
   have hk:=hk _ _ ((f1.trans f2).trans f3)
   unfold headB at hk
   simpa only[List.append_assoc]using hk
 refine AB (Aa ..) (AB (v:=.bool m.st) (AQ g1 rfl) ?_)
 cases hst:m.st with
 |true=>rw[Bq];rw[hst]at main;exact main
 |false=>rw[Bg];rw[hst]at main;exact main
end
theorem YS.inv{G:AY}{H:Heap}{A:Nat->Prop}{c:LV}{x:Cl}(h:YS G H A c x):∃line col vf vm,c=clC line col x.nm x.sup vf vm/\ADd G H A vf x.fs/\ALm G H A vm x.ms:=by
 cases h with
 |mk line col hf hm=>exact⟨line,col,_,_,rfl,hf,hm⟩
def ADx(c:Cl):Bs:=bif c.sup.isEmpty then[]else[32]++(Hl++([32]++c.sup))
theorem AI0{α:Type}{f:α->Bs}{xs:List α}{j:Nat}(h:j<xs.length):((xs.map f).take (j+1)).flatten=((xs.map f).take j).flatten++f xs[j]:=by
 rw[List.take_succ_eq_append_getElem (by rw[List.length_map];exact h),List.flatten_append,List.getElem_map];simp
theorem AK9{α:Type}{f:α->Bs}{xs:List α}:(xs.map f).take xs.length=xs.map f:=by
 rw[<-List.length_map (f:=f),List.take_length]
section
variable{G:AY}{H:Heap}{n:Nat}{k:KV}
theorem AL6(hG:dZ G){x:Cl}{c:LV}{A:Nat->Prop}(hc:YS G H A c x)(hA:∀id,A id->id<n)(hw:WrC x)(hl:(Qr x).length<=100000000000)
 (hk:∀H' n',Kp H n H' n'->k (sB (Qr x)) H' n'):Runs F G aK [.agg c] H n k:=by
 obtain⟨line,col,vf,vm,rfl,⟨helf,_,_,_,hvaf⟩,cs,helm,_,_,_,hvam,hcm⟩:=hc.inv
 have hl2:(J9++([32]++(x.nm++(ADx x++([32]++(MG++([10]++((x.fs.map Nb).flatten++((x.ms.map Qd).flatten++(m_rc++[10])))))))))).length<=100000000000:=hl
 simp only[List.length_append]at hl2
 have hk:∀H' n',Kp H n H' n'->k (sB (J9++([32]++(x.nm++(ADx x++([32]++(MG++([10]++((x.fs.map Nb).flatten++((x.ms.map Qd).flatten++(m_rc++[10]))))))))))) H' n':=hk
 have e1:([32]:Bs).length=1/\([10]:Bs).length=1/\([9]:Bs).length=1/\Aq.length=1/\MG.length=1/\m_rc.length=1/\J9.length=5/\MN.length=5/\Hl.length=7:=⟨rfl,rfl,rfl,rfl,rfl,rfl,rfl,rfl,rfl⟩
 refine Am (s:=IQ (QU lfp G)) UJ (by obtain⟨h,o⟩:=tZ Ap G;rw[UJ]at h;cases h;exact o) ?_
 show QU lfp G (Runs F G) (.agg (clC line col x.nm x.sup vf vm)) H n k
 delta QU
 refine D5 λH1 f1 g1=>?_
 refine ANL λH2 f2 b2=>?_
 have g2:=f2.get g1 (by omega)
 have f2:=f1.trans f2
 refine AB (Aa ..) (AB (v:=sB x.nm) (AQ g2 rfl) ?_)
 rw[show V.str 6 35680229092451=sB (J9++[32])from rfl]
 refine AB (BO (by simp only[List.length_append];omega)) ?_
 refine lM b2 (by simp only[List.length_append,List.length_nil];omega) λ_ H3 f3 b3=>?_
 rw[List.nil_append]at b3
 have g3:=(f3.same n (by omega)).trans g2
 have f3:Kp H n H3 (n+1+1+1):=⟨by omega,λid hid=>(f3.same id (by omega)).trans (f2.same id hid)⟩
 refine AB (Aa ..) (AB (v:=sB x.sup) (AQ g3 rfl) ?_)
 have main:∀H4 n4,Kp H n H4 n4->n+1<n4->T.get H4 n=some (one (clC line col x.nm x.sup vf vm))->Bu H4 n4 (n+1) ((J9++[32])++x.nm++ADx x)->Hf lfp G (Runs F G) k (.ptr n 0) (.ptr (n+1) 0) H4 n4:=by
  intro H4 n4 f4 hn4 g4 b4
  show Hf lfp G (Runs F G) k (.ptr n 0) (.ptr (n+1) 0) H4 n4
  delta Hf
  rw[show V.str 3 686880=sB ([32]++(MG++[10]))from rfl]
  refine lM b4 (by simp only[List.length_append];omega) λ_ H5 f5 b5=>?_
  have g5:=(f5.same n (by omega)).trans g4
  have f5:Kp H n H5 (n4+1):=⟨by have:=f4.le;omega,λid hid=>(f5.same id (by omega)).trans (f4.same id hid)⟩
  have helf5:El G H5 vf 3 (x.fs.map vaC):=helf.kp (λid hid=>hA id (hvaf id hid)) f5
  refine AB (Aa ..) (AB (v:=vf) (AQ g5 rfl) (AB helf5.len ?_))
  rw[List.length_map]
  generalize hl0:(J9++[32])++x.nm++ADx x++([32]++(MG++[10]))=L0 at b5
  have hL0:L0.length=J9.length+([32]:Bs).length+x.nm.length+(ADx x).length+(([32]:Bs).length+(MG.length+([10]:Bs).length)):=by rw[<-hl0];simp only[List.length_append]
  refine IZ (N:=x.fs.length) (J:=λj q=>∃H' n',q=(.ptr n 0,.ptr (n+1) 0,vf,.int .i64 (.ofNat x.fs.length) 0,.int .i64 (.ofNat j) 0,H',n')/\Kp H5 (n+1) H' n'/\n+1<n'/\Bu H' n' (n+1) (L0++((x.fs.map Nb).take j).flatten)) ?_ ?_
   ⟨H5,n4+1,rfl,⟨by omega,λ_ _=>rfl⟩,by omega,by simpa using b5⟩
  ·rintro I j q hlt ⟨H6,n6,rfl,f6,hn6,b6⟩ ih
   show Iu lfp G (Runs F G) k I (.ptr n 0) (.ptr (n+1) 0) vf (.int .i64 (.ofNat x.fs.length) 0) (.int .i64 (.ofNat j) 0) H6 n6
   delta Iu
   have hel6:El G H6 vf 3 (x.fs.map vaC):=helf5.kp (λid hid=>by have:=hA id (hvaf id hid);omega) f6
   have hcx:(x.fs.map vaC)[j]? =some (vaC x.fs[j]):=by rw[List.getElem?_map,List.getElem?_eq_getElem hlt];rfl
   obtain⟨p,hp,hld⟩:=hel6.at hcx
   rw[Ht,BA,decide_eq_true hlt,Bq]
   refine AB hp (AB (Qs hld) ?_)
   refine BG rfl λH7 f7 g7=>?_
   refine DI (L:=vaC x.fs[j]) g7 rfl rfl (by omega) λH8 g8 t8=>?_
   have f8:Kp H6 n6 H8 (n6+1):=⟨f7.le,λid hid=>(t8 id (by omega)).trans (f7.same id hid)⟩
   have eft:=AI0 (f:=Nb) hlt
   have hft:=Xw (x.fs.map Nb) (j+1)
   rw[eft,List.length_append]at hft
   have hpx:(Nb x.fs[j]).length=1+(5+(1+((aG x.fs[j].ty).length+(1+(x.fs[j].nm.length+2))))):=by unfold Nb;simp only[List.length_append];omega
   have htx:=AAC x.fs[j].ty
   refine AB (Aa ..) (AB (v:=.agg (tyC x.fs[j].ty)) (VX g8 (by omega) (by show 1+2<=3;omega)) ?_)
   refine AB (Aa ..) (AB (v:=sB x.fs[j].nm) (AQ g8 rfl) ?_)
   refine ADC (by omega) λH9 f9=>?_
   have g9:=f9.get g8 (by omega)
   refine AB (AQ g9 rfl) (Dv (TB _) ?_)
   rw[show V.str 7 9117615975392777=sB ([9]++(MN++[32]))from rfl]
   refine AB (BO (b:=aG x.fs[j].ty) (by simp only[List.length_append];omega)) ?_
   refine AB (BO (b:=[32]) (by simp only[List.length_append];omega)) ?_
   refine AB (BO (b:=x.fs[j].nm) (by simp only[List.length_append];omega)) ?_
   rw[show V.str 2 2619=sB (Aq++[10])from rfl]
   refine AB (BO (b:=Aq++[10]) (by simp only[List.length_append];omega)) ?_
   rw[show([9]++(MN++[32]))++aG x.fs[j].ty++[32]++x.fs[j].nm++(Aq++[10])=Nb x.fs[j]by unfold Nb;simp only[List.append_assoc]]
   have b9:=(b6.kp f8).kp f9
   refine lM b9 (by simp only[List.length_append];omega) λ_ H10 f10 b10=>?_
   have:=hw.fn
   refine AB (Iz (by omega)) ?_
   refine ih _ ⟨H10,_,rfl,⟨by omega,λid hid=>(f10.same id hid).trans ((f9.same id (by omega)).trans ((f8.same id (by omega)).trans (f6.same id hid)))⟩,by omega,?_⟩
   rw[eft,<-List.append_assoc]
   exact b10
  ·rintro I q ⟨H6,n6,rfl,f6,hn6,b6⟩
   show Iu lfp G (Runs F G) k I (.ptr n 0) (.ptr (n+1) 0) vf (.int .i64 (.ofNat x.fs.length) 0) (.int .i64 (.ofNat x.fs.length) 0) H6 n6
   delta Iu
   rw[Ht,BA,decide_eq_false (Nat.lt_irrefl _),Bg]
   show NG lfp G (Runs F G) k (.ptr n 0) (.ptr (n+1) 0) H6 n6
   delta NG
   rw[AK9]at b6
   have g6:=(f6.same n (by omega)).trans g5
   have f6:Kp H n H6 n6:=⟨by omega,λid hid=>(f6.same id (by omega)).trans (f5.same id hid)⟩
   have helm6:El G H6 vm 8 cs:=helm.kp (λid hid=>hA id (hvam id hid)) f6
   refine AB (Aa ..) (AB (v:=vm) (AQ g6 rfl) (AB helm6.len ?_))
   rw[hcm.len]
   generalize hl1:L0++(x.fs.map Nb).flatten=L1 at b6
   have hL1:L1.length=L0.length+(x.fs.map Nb).flatten.length:=by rw[<-hl1,List.length_append]
   refine IZ (N:=x.ms.length) (J:=λj q=>∃H' n',q=(.ptr (n+1) 0,vm,.int .i64 (.ofNat x.ms.length) 0,.int .i64 (.ofNat j) 0,H',n')/\Kp H6 (n+1) H' n'/\n+1<n'/\Bu H' n' (n+1) (L1++((x.ms.map Qd).take j).flatten)) ?_ ?_
    ⟨H6,n6,rfl,⟨by omega,λ_ _=>rfl⟩,by omega,by simpa using b6⟩
   ·rintro I j q hlt ⟨H7,n7,rfl,f7,hn7,b7⟩ ih
    show Iw lfp G (Runs F G) k I (.ptr (n+1) 0) vm (.int .i64 (.ofNat x.ms.length) 0) (.int .i64 (.ofNat j) 0) H7 n7
    delta Iw
    have f7':Kp H n H7 n7:=⟨by omega,λid hid=>(f7.same id (by omega)).trans (f6.same id hid)⟩
    have hel7:El G H7 vm 8 cs:=helm.kp (λid hid=>hA id (hvam id hid)) f7'
    have hcm7:Yb G H7 A cs x.ms:=hcm.mono (λ_ h=>h) λid h=>f7'.same id (hA id h)
    obtain⟨cx,hcx,hx⟩:=hcm7.at (List.getElem?_eq_getElem hlt)
    obtain⟨p,hp,hld⟩:=hel7.at hcx
    rw[Ht,BA,decide_eq_true hlt,Bq]
    refine AB hp (AB (Qs hld) ?_)
    refine BG rfl λH8 f8 g8=>?_
    refine DI (L:=cx) g8 rfl hx.len (by omega) λH9 g9 t9=>?_
    have f9:Kp H7 n7 H9 (n7+1):=⟨f8.le,λid hid=>(t9 id (by omega)).trans (f8.same id hid)⟩
    have hx9:Zf G H9 A cx x.ms[j]:=hx.mono (λ_ h=>h) λid h=>f9.same id (by have:=hA id h;omega)
    have hwm:=hw.ms _ (List.getElem_mem hlt)
    obtain⟨ml,mc,vp,vb,hcxe,hpp,hbb⟩:=hx9.inv
    obtain⟨bs,hbel,hbk,_,_,hbva,hbc⟩:=hbb
    have eft:=AI0 (f:=Qd) hlt
    have hft:=Xw (x.ms.map Qd) (j+1)
    rw[eft,List.length_append]at hft
    have hpx:(Qd x.ms[j]).length=(headB x.ms[j]).length+((Jy 1 (x.ms[j].body.map (textS 2))).length+1):=by rw[AGO];simp only[List.length_append];omega
    refine AB (Ah (m:=8) g9 (by omega) hx.len) ?_
    refine AB (Aa ..) (AB (v:=vb) (AQ g9 (by rw[hcxe];rfl)) ?_)
    refine AQw hx9 (λid h=>by have:=hA id h;omega) (by have:=hwm.pn;omega) (by omega) λH10 n10 f10=>?_
    have hn10:=f10.le
    have g10:=f10.get g9 (by omega)
    refine AB (v:=vb) (AQ g10 (by rw[hcxe];rfl)) (Dv (AIe hbel hbk) ?_)
    refine AFI (d:=1) (hbel.same λid hid=>f10.same id (by have:=hA id (hbva id hid);omega)) hbva (hbc.mono (λ_ h=>h) λid h=>f10.same id (by have:=hA id h;omega)) (λid h=>by have:=hA id h;omega) (λs hs=>APX hG (hwm.body s hs)) (by show(Jy 1 (x.ms[j].body.map (textS 2))).length<=_;omega) λH11 n11 f11=>?_
    have hn11:=f11.le
    show AP (B2.ev .add (sB (headB x.ms[j])) (sB (Jy 1 (x.ms[j].body.map (textS 2))))) _
    refine AB (BO (by omega)) ?_
    rw[show V.str 1 10=sB [10]from rfl]
    refine AB (BO (by simp only[List.length_append];omega)) ?_
    rw[show headB x.ms[j]++Jy 1 (x.ms[j].body.map (textS 2))++[10]=Qd x.ms[j]by rw[AGO];simp only[List.append_assoc]]
    have b11:=((b7.kp f9).kp f10).kp f11
    refine lM b11 (by simp only[List.length_append];omega) λ_ H12 f12 b12=>?_
    have:=hw.mn
    refine AB (Iz (by omega)) ?_
    refine ih _ ⟨H12,_,rfl,⟨by omega,λid hid=>(f12.same id hid).trans ((f11.same id (by omega)).trans ((f10.same id (by omega)).trans ((f9.same id (by omega)).trans (f7.same id hid))))⟩,by omega,?_⟩
    rw[eft,<-List.append_assoc]
    exact b12
   ·rintro I q ⟨H7,n7,rfl,f7,hn7,b7⟩
    show Iw lfp G (Runs F G) k I (.ptr (n+1) 0) vm (.int .i64 (.ofNat x.ms.length) 0) (.int .i64 (.ofNat x.ms.length) 0) H7 n7
    delta Iw
    rw[Ht,BA,decide_eq_false (Nat.lt_irrefl _),Bg]
    show Kz lfp G (Runs F G) k (.ptr (n+1) 0) H7 n7
    delta Kz
    rw[AK9]at b7
    rw[show V.str 2 2685=sB (m_rc++[10])from rfl]
    refine lM b7 (by simp only[List.length_append];omega) λ_ H8 f8 b8=>?_
    refine ALB b8 λH9 f9=>?_
    have hk:=hk H9 (n7+1) ⟨by omega,λid hid=>(f9.same id (by omega)).trans ((f8.same id (by omega)).trans ((f7.same id (by omega)).trans (f6.same id hid)))⟩
    rw[<-hl1,<-hl0]
    simpa only[List.append_assoc]using hk
 cases hs:x.sup with
 |nil=>
  rw[show Ez (.one .str) true (sB []) (.str 0 0)=some (.bool false)from rfl,BA,Bg]
  refine main _ _ f3 (by omega) g3 ?_
  rw[show ADx x=[]by unfold ADx;rw[hs];rfl,List.append_nil]
  exact b3
 |cons a s=>
  have h1:Ez (.one .str) true (sB (a::s)) (.str 0 0)=some (.bool true):=(AU8 (a::s) []).trans (by simp)
  rw[h1,BA,Bq]
  refine AB (Aa ..) (AB (v:=sB x.sup) (AQ g3 rfl) ?_)
  have hsb:ADx x=[32]++(Hl++([32]++x.sup)):=by unfold ADx;rw[hs];rfl
  rw[hsb]at hl2
  simp only[List.length_append]at hl2
  rw[show V.str 9 598610702552763229472=sB ([32]++(Hl++[32]))from rfl]
  refine AB (BO (by simp only[List.length_append];omega)) ?_
  refine lM b3 (by simp only[List.length_append];omega) λ_ H4 f4 b4=>?_
  refine main _ _ ⟨by omega,λid hid=>(f4.same id (by omega)).trans (f3.same id hid)⟩ (by omega) ((f4.same n (by omega)).trans g3) ?_
  rw[hsb]
  simpa only[List.append_assoc]using b4
end
end Go.PQ
