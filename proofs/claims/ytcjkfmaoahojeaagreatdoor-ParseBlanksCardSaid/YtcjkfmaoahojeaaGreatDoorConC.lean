/- Part of a proof; nothing is assumed. -/
import Derived.Test.YtcjkfmaoahojeaaGreatDoorLawA
import Derived.Test.YtcjkfmaoahojeaaGreatDoorEngG
import Derived.Test.YtcjkfmaoahojeaaGreatDoorConB
set_option linter.unusedVariables false
set_option linter.unusedSimpArgs false
namespace Go.PQ
open Go.Eng
set_option maxRecDepth 100000
def kK(l:Bs):Bool:=nameB small l&& !decide (l∈Tt)
def WO(l:Bs):Bool:=nameB great l
def aQ(l:Bs):Bool:=decide (l=vM)||(decide (l=fJ)||WO l)
def U0(l:Bs):Tok:=bif WO l then U l else W l
def AFB:List Bs:=[Zt,Dv,XZ,Sv,qF,Yk,nJ,V9,nD]
inductive Wr:Ex->Prop
 |num {n:Nat} (h:n<=288230376151711744):Wr (.mk 1 n [] [] false [])
 |tru:Wr (.mk 2 0 [] [] false [])
 |fls:Wr (.mk 3 0 [] [] false [])
 |nul:Wr (.mk 4 0 [] [] false [])
 |ths:Wr (.mk 5 0 [] [] false [])
 |loc {l:Bs} (h:kK l=true):Wr (.mk 6 0 l [] false [])
 |get {l:Bs} {a:Ex} (h:kK l=true) (ha:Wr a):Wr (.mk 7 0 l [] false [a])
 |call {l:Bs} {a:Ex} {ks:List Ex} (h:kK l=true) (ha:Wr a) (hk:∀x∈ks,Wr x) (hn:ks.length<=200):Wr (.mk 8 0 l [] false (a::ks))
 |stat {l u:Bs} {ks:List Ex} (h:kK l=true) (hu:WO u=true) (hk:∀x∈ks,Wr x) (hn:ks.length<=200):Wr (.mk 9 0 l u false ks)
 |new {u:Bs} (hu:WO u=true):Wr (.mk 10 0 [] u false [])
 |arr {u:Bs} {a:Ex} (hu:aQ u=true) (ha:Wr a):Wr (.mk 11 0 [] u false [a])
 |elm {a b:Ex} (ha:Wr a) (hb:Wr b):Wr (.mk 12 0 [] [] false [a,b])
 |len {a:Ex} (ha:Wr a):Wr (.mk 13 0 [] [] false [a])
 |neg {a:Ex} (ha:Wr a):Wr (.mk 14 0 [] [] false [a])
 |not {a:Ex} (ha:Wr a):Wr (.mk 15 0 [] [] false [a])
 |bin {o:Bs} {a b:Ex} (ho:o∈AFB) (ha:Wr a) (hb:Wr b):Wr (.mk 16 0 o [] false [a,b])
 |and {a b:Ex} (ha:Wr a) (hb:Wr b):Wr (.mk 17 0 [] [] false [a,b])
 |or {a b:Ex} (ha:Wr a) (hb:Wr b):Wr (.mk 18 0 [] [] false [a,b])
 |asx {u:Bs} {a:Ex} (hu:WO u=true) (ha:Wr a):Wr (.mk 19 0 [] u false [a])
 |isx {u:Bs} {a:Ex} (hu:WO u=true) (ha:Wr a):Wr (.mk 20 0 [] u false [a])
def ug(l:List Bs)(i:Nat):Bs:=match l[i]? with|some x=>x|none=>Qh
def Hf:List Bs->Bs
 |[]=>[]
 |a::l=>a++l.flatMap λb=>Ce++([32]++b)
def AUj(k n:Nat)(nm ty:Bs)(ks:List Bs):Bs:=
 match k with
 |1=>Yo n
 |2=>Vm
 |3=>RG
 |5=>WH
 |6=>nm
 |7=>ug ks 0++(DI++nm)
 |8=>ug ks 0++(DI++(nm++(BG++(Hf (ks.drop 1)++BH))))
 |9=>ty++(DI++(nm++(BG++(Hf ks++BH))))
 |10=>BG++(Ih++([32]++(ty++BH)))
 |11=>Ih++([32]++(ty++(GL++(ug ks 0++F8))))
 |12=>ug ks 0++(GL++(ug ks 1++F8))
 |13=>ug ks 0++(DI++Hr)
 |14=>BG++(Dv++(ug ks 0++BH))
 |15=>BG++(Iq++(ug ks 0++BH))
 |16=>BG++(ug ks 0++([32]++(nm++([32]++(ug ks 1++BH)))))
 |17=>BG++(ug ks 0++([32]++(NP++([32]++(ug ks 1++BH)))))
 |18=>BG++(ug ks 0++([32]++(YQ++([32]++(ug ks 1++BH)))))
 |19=>BG++(ug ks 0++([32]++(SX++([32]++(ty++BH)))))
 |20=>BG++(ug ks 0++([32]++(QU++([32]++(ty++BH)))))
 |_=>Qh
mutual
def textE:Ex->Bs
 |.mk k n nm ty _ ks=>AUj k n nm ty (AIw ks)
def AIw:List Ex->List Bs
 |[]=>[]
 |e::l=>textE e::AIw l
end
theorem AFy:∀l:List Ex,AIw l=l.map textE
 |[]=>by unfold AIw;rfl
 |a::l=>by unfold AIw;rw[AFy l];rfl
def QS(l:List (List Tok))(i:Nat):List Tok:=match l[i]? with|some x=>x|none=>[W Qh]
def J8:List (List Tok)->List Tok
 |[]=>[]
 |a::l=>a++l.flatMap λb=>M Ce::b
def aN(k n:Nat)(nm ty:Bs)(ks:List (List Tok)):List Tok:=
 match k with
 |1=>[N (Yo n) n]
 |2=>[W Vm]
 |3=>[W RG]
 |5=>[W WH]
 |6=>[L nm]
 |7=>QS ks 0++[M DI,L nm]
 |8=>QS ks 0++M DI::L nm::M BG::(J8 (ks.drop 1)++[M BH])
 |9=>U ty::M DI::L nm::M BG::(J8 ks++[M BH])
 |10=>[M BG,W Ih,U ty,M BH]
 |11=>W Ih::U0 ty::M GL::(QS ks 0++[M F8])
 |12=>QS ks 0++M GL::(QS ks 1++[M F8])
 |13=>QS ks 0++[M DI,W Hr]
 |14=>M BG::M Dv::(QS ks 0++[M BH])
 |15=>M BG::M Iq::(QS ks 0++[M BH])
 |16=>M BG::(QS ks 0++M nm::(QS ks 1++[M BH]))
 |17=>M BG::(QS ks 0++M NP::(QS ks 1++[M BH]))
 |18=>M BG::(QS ks 0++M YQ::(QS ks 1++[M BH]))
 |19=>M BG::(QS ks 0++[W SX,U ty,M BH])
 |20=>M BG::(QS ks 0++[W QU,U ty,M BH])
 |_=>[W Qh]
mutual
def tokE:Ex->List Tok
 |.mk k n nm ty _ ks=>aN k n nm ty (AO7 ks)
def AO7:List Ex->List (List Tok)
 |[]=>[]
 |e::l=>tokE e::AO7 l
end
theorem AIr:∀l:List Ex,AO7 l=l.map tokE
 |[]=>by unfold AO7;rfl
 |a::l=>by unfold AO7;rw[AIr l];rfl
theorem Ad(k n:Nat)(nm ty:Bs)(ar:Bool)(ks:List Ex):textE (.mk k n nm ty ar ks)=AUj k n nm ty (ks.map textE):=by unfold textE;rw[AFy]
theorem Ar(k n:Nat)(nm ty:Bs)(ar:Bool)(ks:List Ex):tokE (.mk k n nm ty ar ks)=aN k n nm ty (ks.map tokE):=by unfold tokE;rw[AIr]
def Out(r:Bs):Prop:=∀c l,r=c::l->inner c=false
theorem AQp{c:UInt8}{r:Bs}(h:inner c=false):Out (c::r):=λ_ _ e=>by cases e;exact h
theorem ASZ{t:Tok}{r:Bs}(h:t.kind≠5)(ho:Out r):AK4 t r=true:=by
 cases r with
 |nil=>rfl
 |cons c l=>exact AJd h (ho c l rfl)
theorem Vf{t:Tok}{r:Bs}{ts:List Tok}(hw:Wf t)(hk:t.kind≠5)(ho:Out r)(h:Dp r ts):Dp (t.text++r) (t::ts):=ALu hw (ASZ hk ho) h
def Aa8(e:Ex):Prop:=∀r ts,Out r->Dp r ts->Dp (textE e++r) (tokE e++ts)
theorem uP(l:Bs):(U0 l).text=l:=by unfold U0;cases WO l<;>rfl
theorem AFe(l:Bs):(U0 l).kind≠5:=by unfold U0;cases WO l<;>simp[W,U]
theorem AAh{l:Bs}(h:aQ l=true):Wf (U0 l):=by
 unfold U0
 cases hu:WO l with
 |true=>exact zC hu
 |false=>
  simp only[aQ,hu,Bool.or_false,Bool.or_eq_true,decide_eq_true_eq]at h
  rcases h with rfl|rfl
  ·exact Dn (by decide)
  ·exact Dn (by decide)
theorem AEU{m:Bs}{r:Bs}{ts:List Tok}(hm:m∈FM)(h:Dp r ts):Dp (m++([32]++r)) (M m::ts):=UW (t:=M m) (.mark hm) h
theorem AFP{o:Bs}(h:o∈AFB):o∈FM:=by
 simp only[AFB,List.mem_cons,List.not_mem_nil,or_false]at h
 rcases h with rfl|rfl|rfl|rfl|rfl|rfl|rfl|rfl|rfl<;>decide
theorem AMX{p:UInt8->Bool}{l:Bs}(h:nameB p l=true):∃c t,l=c::t/\inner c=true:=by
 have h:=zJ h
 obtain⟨c,t,e,_⟩:=h.hd
 exact⟨c,t,e,h.all c (by rw[e];exact List.mem_cons_self)⟩
theorem AXC(n:Nat):∃c t,Yo n=c::t/\inner c=true:=by
 cases h:Yo n with
 |nil=>exact absurd h (AKG n)
 |cons c t=>exact⟨c,t,rfl,dV (jX _ _ c (by show c∈Yo n;rw[h];exact List.mem_cons_self))⟩
def HdB(l:Bs):Prop:=∃c t,l=c::t/\(inner c=true∨c=40)
theorem HdB.app{l:Bs}(h:HdB l)(r:Bs):HdB (l++r):=by obtain⟨c,t,rfl,h⟩:=h;exact⟨c,t++r,rfl,h⟩
theorem AaL{e:Ex}(h:Wr e):HdB (textE e):=by
 have inn:∀{l:Bs},(∃c t,l=c::t/\inner c=true)->HdB l:=λ⟨c,t,e,h⟩=>⟨c,t,e,.inl h⟩
 have low:∀{l:Bs},kK l=true->HdB l:=λh=>inn (AMX (Bool.and_eq_true_iff.1 h).1)
 have upp:∀{l:Bs},WO l=true->HdB l:=λh=>inn (AMX h)
 have lp:∀{l:Bs},HdB (BG++l):=λ{l}=>⟨40,l,rfl,.inr rfl⟩
 induction h with
 |num h=>rw[Ad];exact inn (AXC _)
 |tru=>exact⟨116,_,rfl,.inl (by decide)⟩
 |fls=>exact⟨102,_,rfl,.inl (by decide)⟩
 |nul=>exact⟨110,_,rfl,.inl (by decide)⟩
 |ths=>exact⟨116,_,rfl,.inl (by decide)⟩
 |loc h=>rw[Ad];exact low h
 |get h ha ih=>rw[Ad];exact ih.app _
 |call h ha hk hn ih=>rw[Ad];exact ih.app _
 |stat h hu hk hn=>rw[Ad];exact(upp hu).app _
 |new hu=>rw[Ad];exact lp
 |arr hu ha ih=>rw[Ad];exact HdB.app (l:=Ih) ⟨110,_,rfl,.inl (by decide)⟩ _
 |elm ha hb ih=>rw[Ad];exact ih.app _
 |len ha ih=>rw[Ad];exact ih.app _
 |neg ha ih=>rw[Ad];exact lp
 |not ha ih=>rw[Ad];exact lp
 |bin ho ha hb=>rw[Ad];exact lp
 |and ha hb=>rw[Ad];exact lp
 |or ha hb=>rw[Ad];exact lp
 |asx hu ha=>rw[Ad];exact lp
 |isx hu ha=>rw[Ad];exact lp
theorem AXs{l:Bs}(h:HdB l):AK4 (M Iq) l=true:=by
 obtain⟨c,t,rfl,h⟩:=h
 show OL (M Iq) c=true
 rcases h with h|rfl
 ·exact AJo rfl h
 ·decide
theorem AEb{α:Type}{f:α->Bs}{g:α->List Tok}{r:Bs}{ts:List Tok}(ho:Out r)(hr:Dp r ts):∀{ks:List α},(∀x∈ks,∀r ts,Out r->Dp r ts->Dp (f x++r) (g x++ts))->Dp (Hf (ks.map f)++r) (J8 (ks.map g)++ts)
 |[],_=>hr
 |a::ks,h=>by
  show Dp ((f a++((ks.map f).flatMap λb=>Ce++([32]++b)))++r) ((g a++((ks.map g).flatMap λb=>M Ce::b))++ts)
  rw[List.append_assoc,List.append_assoc]
  have tl:∀{ks:List α},(∀x∈ks,∀r ts,Out r->Dp r ts->Dp (f x++r) (g x++ts))->Out (((ks.map f).flatMap λb=>Ce++([32]++b))++r)/\Dp (((ks.map f).flatMap λb=>Ce++([32]++b))++r) (((ks.map g).flatMap λb=>M Ce::b)++ts):=by
   intro ks
   induction ks with
   |nil=>intro _;exact⟨ho,hr⟩
   |cons b ks ih=>
    intro h
    obtain⟨h1,h2⟩:=ih λx hx=>h x (List.mem_cons_of_mem _ hx)
    refine⟨AQp (by decide),?_⟩
    simp only[List.map_cons,List.flatMap_cons,List.append_assoc,List.cons_append]
    exact IQ (m:=Ce) (by decide) (Et Vu (h b List.mem_cons_self _ _ h1 h2))
  obtain⟨h1,h2⟩:=tl λx hx=>h x (List.mem_cons_of_mem _ hx)
  exact h a List.mem_cons_self _ _ h1 h2
theorem ASo{e:Ex}(h:Wr e):Aa8 e:=by
 have wl:∀{l:Bs},kK l=true->Wf (L l):=λh=>AB1 h
 have out:∀{m:Bs} {r:Bs},(match m with|[]=>false|c::_=> !inner c)=true->Out (m++r):=by
  intro m r h
  cases m with
  |nil=>cases h
  |cons c m=>exact AQp (by simpa using h)
 induction h with
 |num h=>intro r ts ho hr;rw[Ad,Ar];exact Vf (t:=N (Yo _) _) (.num (AKG _) (jX _ _) (AIH h)) (by simp[N]) ho hr
 |tru=>intro r ts ho hr;rw[Ad,Ar];exact Vf (t:=W Vm) (Dn (by decide)) (by simp[W]) ho hr
 |fls=>intro r ts ho hr;rw[Ad,Ar];exact Vf (t:=W RG) (Dn (by decide)) (by simp[W]) ho hr
 |nul=>intro r ts ho hr;rw[Ad,Ar];exact Vf (t:=W Qh) (Dn (by decide)) (by simp[W]) ho hr
 |ths=>intro r ts ho hr;rw[Ad,Ar];exact Vf (t:=W WH) (Dn (by decide)) (by simp[W]) ho hr
 |loc h=>intro r ts ho hr;rw[Ad,Ar];exact Vf (t:=L _) (wl h) (by simp[L]) ho hr
 | @get l a h ha ih=>
  intro r ts ho hr
  rw[Ad,Ar]
  show Dp ((textE a++(DI++l))++r) ((tokE a++[M DI,L l])++ts)
  simp only[List.append_assoc,List.cons_append,List.nil_append]
  exact ih _ _ (out (by decide)) (IQ (m:=DI) (by decide) (Vf (t:=L l) (wl h) (by simp[L]) ho hr))
 | @call l a ks h ha hk hn ih ihk=>
  intro r ts ho hr
  rw[Ad,Ar]
  show Dp ((textE a++(DI++(l++(BG++(Hf (ks.map textE)++BH)))))++r) ((tokE a++M DI::L l::M BG::(J8 (ks.map tokE)++[M BH]))++ts)
  simp only[List.append_assoc,List.cons_append,List.nil_append]
  exact ih _ _ (out (by decide)) (IQ (m:=DI) (by decide) (Vf (t:=L l) (wl h) (by simp[L]) (out (by decide)) (IQ (m:=BG) (by decide) (AEb (out (by decide)) (IQ (m:=BH) (by decide) hr) ihk))))
 | @stat l u ks h hu hk hn ihk=>
  intro r ts ho hr
  rw[Ad,Ar]
  show Dp ((u++(DI++(l++(BG++(Hf (ks.map textE)++BH)))))++r) ((U u::M DI::L l::M BG::(J8 (ks.map tokE)++[M BH]))++ts)
  simp only[List.append_assoc,List.cons_append,List.nil_append]
  exact Vf (t:=U u) (zC hu) (by simp[U]) (out (by decide)) (IQ (m:=DI) (by decide) (Vf (t:=L l) (wl h) (by simp[L]) (out (by decide)) (IQ (m:=BG) (by decide) (AEb (out (by decide)) (IQ (m:=BH) (by decide) hr) ihk))))
 | @new u hu=>
  intro r ts ho hr
  rw[Ad,Ar]
  show Dp ((BG++(Ih++([32]++(u++BH))))++r) ([M BG,W Ih,U u,M BH]++ts)
  simp only[List.append_assoc,List.cons_append,List.nil_append]
  exact IQ (m:=BG) (by decide) (UW (t:=W Ih) (Dn (by decide)) (Vf (t:=U u) (zC hu) (by simp[U]) (out (by decide)) (IQ (m:=BH) (by decide) hr)))
 | @arr u a hu ha ih=>
  intro r ts ho hr
  rw[Ad,Ar]
  show Dp ((Ih++([32]++(u++(GL++(textE a++F8)))))++r) ((W Ih::U0 u::M GL::(tokE a++[M F8]))++ts)
  simp only[List.append_assoc,List.cons_append,List.nil_append]
  have hb:=Vf (t:=U0 u) (r:=GL++(textE a++(F8++r))) (AAh hu) (AFe u) (out (by decide)) (IQ (m:=GL) (by decide) (ih _ _ (out (by decide)) (IQ (m:=F8) (by decide) hr)))
  rw[uP]at hb
  exact UW (t:=W Ih) (Dn (by decide)) hb
 | @elm a b ha hb iha ihb=>
  intro r ts ho hr
  rw[Ad,Ar]
  show Dp ((textE a++(GL++(textE b++F8)))++r) ((tokE a++M GL::(tokE b++[M F8]))++ts)
  simp only[List.append_assoc,List.cons_append,List.nil_append]
  exact iha _ _ (out (by decide)) (IQ (m:=GL) (by decide) (ihb _ _ (out (by decide)) (IQ (m:=F8) (by decide) hr)))
 | @len a ha ih=>
  intro r ts ho hr
  rw[Ad,Ar]
  show Dp ((textE a++(DI++Hr))++r) ((tokE a++[M DI,W Hr])++ts)
  simp only[List.append_assoc,List.cons_append,List.nil_append]
  exact ih _ _ (out (by decide)) (IQ (m:=DI) (by decide) (Vf (t:=W Hr) (Dn (by decide)) (by simp[W]) ho hr))
 | @neg a ha ih=>
  intro r ts ho hr
  rw[Ad,Ar]
  show Dp ((BG++(Dv++(textE a++BH)))++r) ((M BG::M Dv::(tokE a++[M BH]))++ts)
  simp only[List.append_assoc,List.cons_append,List.nil_append]
  exact IQ (m:=BG) (by decide) (IQ (m:=Dv) (by decide) (ih _ _ (out (by decide)) (IQ (m:=BH) (by decide) hr)))
 | @not a ha ih=>
  intro r ts ho hr
  rw[Ad,Ar]
  show Dp ((BG++(Iq++(textE a++BH)))++r) ((M BG::M Iq::(tokE a++[M BH]))++ts)
  simp only[List.append_assoc,List.cons_append,List.nil_append]
  exact IQ (m:=BG) (by decide) (ALu (t:=M Iq) (.mark (by decide)) (AXs ((AaL ha).app _)) (ih _ _ (out (by decide)) (IQ (m:=BH) (by decide) hr)))
 | @bin o a b ho' ha hb iha ihb=>
  intro r ts ho hr
  rw[Ad,Ar]
  show Dp ((BG++(textE a++([32]++(o++([32]++(textE b++BH))))))++r) ((M BG::(tokE a++M o::(tokE b++[M BH])))++ts)
  simp only[List.append_assoc,List.cons_append,List.nil_append]
  exact IQ (m:=BG) (by decide) (iha _ _ (out (m:=[32]) (by decide)) (Et Vu (AEU (AFP ho') (ihb _ _ (out (by decide)) (IQ (m:=BH) (by decide) hr)))))
 | @and a b ha hb iha ihb=>
  intro r ts ho hr
  rw[Ad,Ar]
  show Dp ((BG++(textE a++([32]++(NP++([32]++(textE b++BH))))))++r) ((M BG::(tokE a++M NP::(tokE b++[M BH])))++ts)
  simp only[List.append_assoc,List.cons_append,List.nil_append]
  exact IQ (m:=BG) (by decide) (iha _ _ (out (m:=[32]) (by decide)) (Et Vu (AEU (m:=NP) (by decide) (ihb _ _ (out (by decide)) (IQ (m:=BH) (by decide) hr)))))
 | @or a b ha hb iha ihb=>
  intro r ts ho hr
  rw[Ad,Ar]
  show Dp ((BG++(textE a++([32]++(YQ++([32]++(textE b++BH))))))++r) ((M BG::(tokE a++M YQ::(tokE b++[M BH])))++ts)
  simp only[List.append_assoc,List.cons_append,List.nil_append]
  exact IQ (m:=BG) (by decide) (iha _ _ (out (m:=[32]) (by decide)) (Et Vu (AEU (m:=YQ) (by decide) (ihb _ _ (out (by decide)) (IQ (m:=BH) (by decide) hr)))))
 | @asx u a hu ha ih=>
  intro r ts ho hr
  rw[Ad,Ar]
  show Dp ((BG++(textE a++([32]++(SX++([32]++(u++BH))))))++r) ((M BG::(tokE a++[W SX,U u,M BH]))++ts)
  simp only[List.append_assoc,List.cons_append,List.nil_append]
  exact IQ (m:=BG) (by decide) (ih _ _ (out (m:=[32]) (by decide)) (Et Vu (UW (t:=W SX) (Dn (by decide)) (Vf (t:=U u) (zC hu) (by simp[U]) (out (by decide)) (IQ (m:=BH) (by decide) hr)))))
 | @isx u a hu ha ih=>
  intro r ts ho hr
  rw[Ad,Ar]
  show Dp ((BG++(textE a++([32]++(QU++([32]++(u++BH))))))++r) ((M BG::(tokE a++[W QU,U u,M BH]))++ts)
  simp only[List.append_assoc,List.cons_append,List.nil_append]
  exact IQ (m:=BG) (by decide) (ih _ _ (out (m:=[32]) (by decide)) (Et Vu (UW (t:=W QU) (Dn (by decide)) (Vf (t:=U u) (zC hu) (by simp[U]) (out (by decide)) (IQ (m:=BH) (by decide) hr)))))
section
variable{G:AV}{H:Heap}{n:Nat}{k:KV}
theorem AH2{x:Nat}(hG:kM G)(h:x<9223372036854775808)(hk:∀H' n',Kp H n H' n'->k (sB (Yo x)) H' n'):Runs F G ZI [.int .i64 (.ofNat x) 0,.int .i64 (.ofNat 10) 0] H n k:=by
 refine Am (s:=QD (OY lfp G)) RZ (by obtain⟨h,o⟩:=pG Ap G;rw[RZ]at h;cases h;exact o) ?_
 show OY lfp G (Runs F G) (.int .i64 (.ofNat x) 0) (.int .i64 (.ofNat 10) 0) H n k
 delta OY
 exact AZD hG h hk
end
theorem AAg{f:Nat}{nk:Nk}{G:AV}{args:List V}{H:Heap}{n:Nat}{k:KV}(hf:T.get F f=some (.nat nk))(h:tY nk G args H n k):Runs F G f args H n k:=ADf hf (show AGR (.nat nk) G (Runs F G) args H n k from h)
theorem AFw:∀ls:List Bs,ACB (ls.map λb=>[sB b])=some (ls.map KU)
 |[]=>rfl
 |b::ls=>by
  show(match ACB (ls.map λb=>[sB b])with|some x=>some ((b.length,enc b)::x)|none=>none)=_
  rw[AFw ls];rfl
theorem AOQ(ls:List Bs):Hf ls=Lib.join ls [44,32]:=by
 cases ls with
 |nil=>rfl
 |cons a l=>
  rw[Lib.join_cons]
  show a++l.flatMap (λb=>Ce++([32]++b))=a++(l.map ([44,32]++ ·)).flatten
  rw[List.flatMap];rfl
theorem AFc:∀ls:List Bs,∀b∈ls,b.length<=(Hf ls).length
 |[],b,h=>by cases h
 |a::l,b,h=>by
  unfold Hf
  rw[List.length_append]
  rcases List.mem_cons.1 h with rfl|h
  ·omega
  ·have:∀l:List Bs,b∈l->b.length<=(l.flatMap λb=>Ce++([32]++b)).length:=by
    intro l
    induction l with
    |nil=>intro h;cases h
    |cons c l ih=>
     intro h
     simp only[List.flatMap_cons,List.length_append]
     rcases List.mem_cons.1 h with rfl|h
     ·omega
     ·have:=ih h;omega
   have:=this l h;omega
section
variable{G:AV}{H:Heap}{n:Nat}{k:KV}
theorem AOd{v:V}{ls:List Bs}(hv:El G H v 1 (ls.map λb=>[sB b]))(h1:ls.length<=1000000)(h2:(Hf ls).length<=1000000000000)(hk:k (sB (Hf ls)) H n):Runs F G aO [v,.str 2 8236] H n k:=by
 refine AAg ACw ?_
 show AAv v (.str 2 8236) G H n k
 show En (Yi (isStr v)) (IV (elems v G H 1) λLS=>IV (ACB LS) λss=>En (decide (ss.length<=Z5/\(dQ (2,8236) ss).1<=Z5)) (k (.str (dQ (2,8236) ss).1 (dQ (2,8236) ss).2) H n))
 rw[hv.1,hv.2]
 show IV (ACB (ls.map λb=>[sB b])) (λss=>En (decide (ss.length<=Z5/\(dQ (2,8236) ss).1<=Z5)) (k (.str (dQ (2,8236) ss).1 (dQ (2,8236) ss).2) H n))
 rw[AFw]
 show En (decide ((ls.map KU).length<=Z5/\(dQ (KU [44,32]) (ls.map KU)).1<=Z5)) (k (.str (dQ (KU [44,32]) (ls.map KU)).1 (dQ (KU [44,32]) (ls.map KU)).2) H n)
 rw[AFL,<-AOQ]
 show En (decide ((ls.map KU).length<=Z5/\(Hf ls).length<=Z5)) (k (sB (Hf ls)) H n)
 rw[decide_eq_true (show(ls.map KU).length<=Z5/\(Hf ls).length<=Z5 from⟨by rw[List.length_map];unfold Z5;omega,by unfold Z5;omega⟩)]
 exact hk
theorem AIc{m:Nat}{v:V}{b:Bs}{LS:D5}{P:KV}{Z:LV}(ho:Own G H m n 1 v LS)(hm:m<=n)(hb:(LS.length+1)*16<=140737488355328)
 (hk:∀v' H',Own G H' m (n+2) 1 v' (LS++[[sB b]])->(∀id,id<n->v.Qa≠some id->T.get H' id=T.get H id)->(∀id,v'.Qa=some id->id=n+1)->P v' H' (n+2)):
 DY (Aj 1 1 Z [(0,.c (sB b))] E0) H n λw H n=>X0 1 16 v w G H n P:=by
 refine J9 (G:=G) (vs:=[sB b]) rfl (by omega) (λv hv=>by simp at hv;subst hv;exact⟨rfl,rfl⟩) λH6 f6 _ hel=>?_
 have ho6:=ho.kp f6
 refine ADS ho6.gr (by omega) ho6.lo hel.2 hb ?_ (λh=>by cases h)
 intro v' H7 hgr hsame hlo
 refine hk v' H7 ⟨hgr,λid hid=>by have:=hlo id hid;omega⟩ (λid h1 h2=>(hsame id (by omega) h2).trans (f6.same id h1)) hlo
theorem ARu{v:V}{z:Nat}{L:LV}{LS:D5}(h:El G H v z (L::LS))(hv:KS v):∃w,AI5 z v E0 (some (.c (.int .i64 (.ofNat 1) 0))) none none=some w/\El G H w z LS/\w.Qa=v.Qa:=by
 obtain⟨hs,h⟩:=h
 have hd:∀{id o m:Nat},DK H id z m o=some (L::LS)->∃m',m=m'+1/\DK H id z m' (o+1)=some LS:=by
  intro id o m h
  cases m with
  |zero=>cases h
  |succ m=>
   have h3:DR (mW H id (Nat.mul o z) z) (λL=>DR (DK H id z m (Nat.succ o)) λLS=>some (L::LS))=some (L::LS):=h
   rw[Bv]at h3
   obtain⟨L',_,h3⟩:=h3
   rw[Bv]at h3
   obtain⟨LS',h4,h3⟩:=h3
   cases h3
   exact⟨m,rfl,h4⟩
 cases v<;>try (cases h;done)
 ·cases hs
 ·rename_i id o m c e
  cases hb:Nat.beq e z with
  |false=>have h':(Bool.rec (motive:=λ_=>Option D5) none (DK H id z m o) (Nat.beq e z):Option D5)=some (L::LS):=h;rw[hb]at h';cases h'
  |true=>
   have h':(Bool.rec (motive:=λ_=>Option D5) none (DK H id z m o) (Nat.beq e z):Option D5)=some (L::LS):=h
   rw[hb]at h'
   have he:e=z:=Nat.eq_of_beq_eq_true hb
   subst he
   obtain⟨m',rfl,h4⟩:=hd h'
   have hmc:=hv.2.1 _ _ _ _ _ rfl
   refine⟨.sl id (o+1) m' (c-1) e,?_,⟨rfl,?_⟩,rfl⟩
   ·show BP (Nat.beq e e) (BP (band (Nat.ble 1 (m'+1)) (band (Nat.ble (m'+1) c) (Nat.ble c c))) (f3 (o+1) (m'+1-1) (c-1) λo d c=>.sl id o d c e))=_
    rw[Es,show Nat.ble 1 (m'+1)=true by rw[Nat.ble_eq];omega,show Nat.ble (m'+1) c=true by rw[Nat.ble_eq];omega,show Nat.ble c c=true by rw[Nat.ble_eq];omega]
    show Dz (o+1) (λa=>Dz (m'+1-1) λb=>Dz (c-1) λd=>some (.sl id a b d e))=_
    rw[CB,CB,CB];rfl
   ·show(Bool.rec (motive:=λ_=>Option D5) none (DK H id e m' (o+1)) (Nat.beq e e):Option D5)=some LS
    rw[Es];exact h4
 ·rename_i id o m e
  cases hb:Nat.beq e z with
  |false=>have h':(Bool.rec (motive:=λ_=>Option D5) none (DK H id z m o) (Nat.beq e z):Option D5)=some (L::LS):=h;rw[hb]at h';cases h'
  |true=>
   have h':(Bool.rec (motive:=λ_=>Option D5) none (DK H id z m o) (Nat.beq e z):Option D5)=some (L::LS):=h
   rw[hb]at h'
   have he:e=z:=Nat.eq_of_beq_eq_true hb
   subst he
   obtain⟨m',rfl,h4⟩:=hd h'
   exact⟨_,AMY,APu h4,rfl⟩
 ·exact absurd rfl (hv.2.2 _ _ _ _ _)
def E8(G:AV)(e:Ex):Prop:=∀(H:Heap) (n:Nat) (c:LV) (A:Nat->Prop) (k:KV),EO G H A c e->(∀id,A id->id<n)->(textE e).length<=100000000000->(∀H' n',Kp H n H' n'->k (sB (textE e)) H' n')->Runs F G Ut [.agg c] H n k
theorem Iu{k i:Nat}{X Y:Prop}(h:k≠i)(hp:Y):AP (EZ (.one .int) false (.int .i64 (.ofNat k) 0) (.int .i64 (.ofNat i) 0)) (λv=>Ac v true X Y):=by
 rw[Xx,Au,decide_eq_false h,Aq];exact hp
theorem GY{k:Nat}{X Y:Prop}(hp:X):AP (EZ (.one .int) false (.int .i64 (.ofNat k) 0) (.int .i64 (.ofNat k) 0)) (λv=>Ac v true X Y):=by
 rw[Xx,Au,decide_eq_true rfl,Ah];exact hp
theorem ZE{kd nu i:Nat}{nm ty:Bs}{ar:Bool}{ks:List Ex}{x:Ex}{c:LV}{A:Nat->Prop}(hc:EO G H A c (.mk kd nu nm ty ar ks))(hA:∀id,A id->id<n)(hi:ks[i]? =some x)(ht:E8 G x)(hl:(textE x).length<=100000000000)
 (hk:∀H' n',Kp H n H' n'->k (sB (textE x)) H' n'):Runs F G Dl [.agg c,.int .i64 (.ofNat i) 0] H n k:=by
 refine Am (s:=QD (Vg lfp G)) Yp (by obtain⟨h,o⟩:=ACt Ap G;rw[Yp]at h;cases h;exact o) ?_
 show Vg lfp G (Runs F G) (.agg c) (.int .i64 (.ofNat i) 0) H n k
 delta Vg
 refine Dk λH1 f1 g1=>?_
 have hc:EO G H1 A c (.mk kd nu nm ty ar ks):=hc.mono (λ_ h=>h) λid h=>f1.same id (hA id h)
 cases hc with
 |mk _ _ _ _ _ line col he hv ha hcs=>
 rename_i v cs
 obtain⟨hlt,_⟩:=List.getElem?_eq_some_iff.1 hi
 have q7:AX (.ptr n 7) G H1=some v:=AQ g1 rfl
 obtain⟨cx,hcx,hx⟩:=hcs.at hi
 obtain⟨p,hp,hld⟩:=he.at hcx
 refine AB (v:=.ptr n 7) (by rw[AZ,Nat.zero_add]) (AB q7 (AB he.len (AB (ES ..) ?_)))
 rw[hcs.len,decide_eq_true hlt,Ah]
 refine AB (v:=.ptr n 7) (by rw[AZ,Nat.zero_add]) (AB q7 (AB hp (AB (Jl hld) ?_)))
 exact ht H1 (n+1) cx A _ hx (λid h=>by have:=hA id h;omega) hl λH' n' f=>hk _ _ (f1.trans f)
theorem AXQ{kd nu:Nat}{nm ty:Bs}{ar:Bool}{x:Ex}{ks:List Ex}{c:LV}{A:Nat->Prop}(hc:EO G H A c (.mk kd nu nm ty ar (x::ks)))(hA:∀id,A id->id<n)
 (hk:∀H' n' w cs,Kp H n H' n'->El G H' w 11 cs->(∀id,w.Qa=some id->A id)->O4 G H' A cs ks->k w H' n'):Runs F G l9 [.agg c] H n k:=by
 refine Am (s:=Ho (Ue lfp G)) XT (by obtain⟨h,o⟩:=ABF Ap G;rw[XT]at h;cases h;exact o) ?_
 show Ue lfp G (Runs F G) (.agg c) H n k
 delta Ue
 refine Dk λH1 f1 g1=>?_
 have hc:EO G H1 A c (.mk kd nu nm ty ar (x::ks)):=hc.mono (λ_ h=>h) λid h=>f1.same id (hA id h)
 cases hc with
 |mk _ _ _ _ _ line col he hv ha hcs=>
 rename_i v cs
 cases hcs with
 |cons hx hcs=>
 have q7:AX (.ptr n 7) G H1=some v:=AQ g1 rfl
 obtain⟨w,hw,hel,hsid⟩:=ARu he hv
 refine AB (v:=.ptr n 7) (by rw[AZ,Nat.zero_add]) (AB q7 (AB (v:=.ptr n 7) (by rw[AZ,Nat.zero_add]) (AB q7 (AB he.len (AB (v:=.int .i64 (.ofNat 1) 0) ?_ (AB hw ?_))))))
 ·rw[List.length_cons];rfl
 ·exact hk _ _ _ _ f1 hel (λid hid=>ha id (hsid▸hid)) hcs
theorem AQy{v:V}{cs:D5}{ks:List Ex}{A:Nat->Prop}(hv:El G H v 11 cs)(hva:∀id,v.Qa=some id->A id)(hc:O4 G H A cs ks)(hA:∀id,A id->id<n)(ht:∀x∈ks,E8 G x)(hn:ks.length<=1000000)(hl:(Hf (ks.map textE)).length<=100000000000)
 (hk:∀H' n',Kp H n H' n'->k (sB (Hf (ks.map textE))) H' n'):Runs F G wM [v] H n k:=by
 refine Am (s:=Ho (kV lfp G)) rD (by obtain⟨h,o⟩:=AIE Ap G;rw[rD]at h;cases h;exact o) ?_
 show kV lfp G (Runs F G) v H n k
 delta kV
 refine AB hv.len ?_
 rw[hc.len]
 refine EP (N:=ks.length) (J:=λj q=>∃w H' n',q=(w,v,.int .i64 (.ofNat ks.length) 0,.int .i64 (.ofNat j) 0,H',n')/\Kp H n H' n'/\Own G H' n n' 1 w ((ks.take j).map λe=>[sB (textE e)])) ?_ ?_ ⟨.Ae,H,n,rfl,Kp.refl ..,Xp⟩
 ·rintro I j q hlt ⟨w,H1,n1,rfl,f1,ho⟩ ih
  show UF lfp G (Runs F G) k I w v (.int .i64 (.ofNat ks.length) 0) (.int .i64 (.ofNat j) 0) H1 n1
  delta UF
  have hn1:=f1.le
  have hv1:El G H1 v 11 cs:=hv.kp (λid hid=>hA id (hva id hid)) f1
  have hc1:O4 G H1 A cs ks:=hc.mono (λ_ h=>h) λid h=>f1.same id (hA id h)
  obtain⟨cx,hcx,hx⟩:=hc1.at (List.getElem?_eq_getElem hlt)
  have htx:=ht _ (List.getElem_mem hlt)
  have hlx:(textE ks[j]).length<=(Hf (ks.map textE)).length:=AFc _ _ (List.mem_map_of_mem (List.getElem_mem hlt))
  obtain⟨p,hp,hld⟩:=hv1.at hcx
  rw[ES,Au,decide_eq_true hlt,Ah]
  refine AB hp (AB (Jl hld) ?_)
  refine Az rfl λH2 f2 g2=>?_
  refine CG g2 rfl hx.len (by omega) λH3 g2 t3=>?_
  have f3:Kp H1 n1 H3 (n1+1):=⟨f2.le,λid hid=>(t3 id (by omega)).trans (f2.same id hid)⟩
  refine AB (Ai (m:=11) g2 (by omega) hx.len) ?_
  have hx:EO G H3 A cx ks[j]:=hx.mono (λ_ h=>h) λid h=>f3.same id (by have:=hA id h;omega)
  refine htx H3 (n1+1) cx A _ hx (λid h=>by have:=hA id h;omega) (by omega) λH4 n4 f4=>?_
  have f4:=f3.trans f4
  have ho4:=ho.kp f4
  have hn4:=f4.le
  refine AIc ho4 (by omega) (by rw[List.length_map,List.length_take];omega) λv' H5 ho5 hs5 _=>?_
  refine AB (Ef (by omega)) ?_
  refine ih _ ⟨v',H5,n4+2,rfl,⟨by omega,λid hid=>(hs5 id (by omega) (λe=>by have:=ho4.ge e;omega)).trans ((f4.same id (by omega)).trans (f1.same id hid))⟩,?_⟩
  rw[List.take_succ_eq_append_getElem hlt,List.map_append]
  exact ho5
 ·rintro I q ⟨w,H1,n1,rfl,f1,ho⟩
  show UF lfp G (Runs F G) k I w v (.int .i64 (.ofNat ks.length) 0) (.int .i64 (.ofNat ks.length) 0) H1 n1
  delta UF
  rw[ES,Au,decide_eq_false (Nat.lt_irrefl _),Aq]
  show Xq lfp G (Runs F G) k w H1 n1
  delta Xq
  rw[List.take_length]at ho
  have hel:El G H1 w 1 ((ks.map textE).map λb=>[sB b]):=by rw[List.map_map];exact ho.el (by omega)
  exact AOd hel (by rw[List.length_map];exact hn) (by omega) (hk _ _ f1)
end
theorem EO.inv{G:AV}{H:Heap}{A:Nat->Prop}{c:LV}{kd nu:Nat}{nm ty:Bs}{ar:Bool}{ks:List Ex}(h:EO G H A c (.mk kd nu nm ty ar ks)):
 ∃line col v cs,c=Ti kd nu nm ty ar line col v/\El G H v 11 cs/\KS v/\(∀id,v.Qa=some id->A id)/\O4 G H A cs ks:=by
 cases h with
 |mk _ _ _ _ _ line col he hv ha hc=>exact⟨line,col,_,_,rfl,he,hv,ha,hc⟩
section
variable{G:AV}
theorem AVL(hG:kM G){m:Nat}(hm:m<=288230376151711744):E8 G (.mk 1 m [] [] false []):=by
 intro H n c A k hx0 hA0 hl hk
 have e0:textE (.mk 1 m [] [] false [])=Yo m:=by rw[Ad];rfl
 rw[e0]at hl hk
 try simp only[List.length_append]at hl
 obtain⟨line,col,v,cs,rfl,hel,hks,hva,hcs⟩:=hx0.inv
 refine Am (s:=Ho (Aa lfp G)) Ag (by obtain⟨h,o⟩:=Bz Ap G;rw[Ag]at h;cases h;exact o) ?_
 show Aa lfp G (Runs F G) (.agg (Ti 1 m [] [] false line col v)) H n k
 delta Aa
 refine Dk λH1 f1 g1=>?_
 have hx1:=hx0.mono (λ_ h=>h) λid h=>f1.same id (hA0 id h)
 have hA1:∀id,A id->id<n+1:=λid h=>by have:=hA0 id h;omega
 refine AB (AZ ..) (AB (AQ g1 rfl) ?_)
 repeat refine Iu (by decide) ?_
 refine GY ?_
 refine AB (AZ ..) (AB (AQ g1 rfl) ?_)
 refine AH2 hG (by omega) λH2 n2 f2=>?_
 have hn2:=f2.le
 have g2:=f2.get g1 (by omega)
 have f2:=f1.trans f2
 have hx2:=hx0.mono (λ_ h=>h) λid h=>f2.same id (hA0 id h)
 have hA2:∀id,A id->id<n2:=λid h=>by have:=hA0 id h;omega
 have hk:=hk _ _ f2
 try simp only[List.append_assoc]at hk
 try simp only[List.append_assoc]
 exact hk
theorem AXF:E8 G (.mk 2 0 [] [] false []):=by
 intro H n c A k hx0 hA0 hl hk
 have e0:textE (.mk 2 0 [] [] false [])=Vm:=by rw[Ad];rfl
 rw[e0]at hl hk
 try simp only[List.length_append]at hl
 obtain⟨line,col,v,cs,rfl,hel,hks,hva,hcs⟩:=hx0.inv
 refine Am (s:=Ho (Aa lfp G)) Ag (by obtain⟨h,o⟩:=Bz Ap G;rw[Ag]at h;cases h;exact o) ?_
 show Aa lfp G (Runs F G) (.agg (Ti 2 0 [] [] false line col v)) H n k
 delta Aa
 refine Dk λH1 f1 g1=>?_
 have hx1:=hx0.mono (λ_ h=>h) λid h=>f1.same id (hA0 id h)
 have hA1:∀id,A id->id<n+1:=λid h=>by have:=hA0 id h;omega
 refine AB (AZ ..) (AB (AQ g1 rfl) ?_)
 repeat refine Iu (by decide) ?_
 refine GY ?_
 have hk:=hk _ _ f1
 try simp only[List.append_assoc]at hk
 try simp only[List.append_assoc]
 exact hk
theorem AXD:E8 G (.mk 3 0 [] [] false []):=by
 intro H n c A k hx0 hA0 hl hk
 have e0:textE (.mk 3 0 [] [] false [])=RG:=by rw[Ad];rfl
 rw[e0]at hl hk
 try simp only[List.length_append]at hl
 obtain⟨line,col,v,cs,rfl,hel,hks,hva,hcs⟩:=hx0.inv
 refine Am (s:=Ho (Aa lfp G)) Ag (by obtain⟨h,o⟩:=Bz Ap G;rw[Ag]at h;cases h;exact o) ?_
 show Aa lfp G (Runs F G) (.agg (Ti 3 0 [] [] false line col v)) H n k
 delta Aa
 refine Dk λH1 f1 g1=>?_
 have hx1:=hx0.mono (λ_ h=>h) λid h=>f1.same id (hA0 id h)
 have hA1:∀id,A id->id<n+1:=λid h=>by have:=hA0 id h;omega
 refine AB (AZ ..) (AB (AQ g1 rfl) ?_)
 repeat refine Iu (by decide) ?_
 refine GY ?_
 have hk:=hk _ _ f1
 try simp only[List.append_assoc]at hk
 try simp only[List.append_assoc]
 exact hk
theorem AWe:E8 G (.mk 4 0 [] [] false []):=by
 intro H n c A k hx0 hA0 hl hk
 have e0:textE (.mk 4 0 [] [] false [])=Qh:=by rw[Ad];rfl
 rw[e0]at hl hk
 try simp only[List.length_append]at hl
 obtain⟨line,col,v,cs,rfl,hel,hks,hva,hcs⟩:=hx0.inv
 refine Am (s:=Ho (Aa lfp G)) Ag (by obtain⟨h,o⟩:=Bz Ap G;rw[Ag]at h;cases h;exact o) ?_
 show Aa lfp G (Runs F G) (.agg (Ti 4 0 [] [] false line col v)) H n k
 delta Aa
 refine Dk λH1 f1 g1=>?_
 have hx1:=hx0.mono (λ_ h=>h) λid h=>f1.same id (hA0 id h)
 have hA1:∀id,A id->id<n+1:=λid h=>by have:=hA0 id h;omega
 refine AB (AZ ..) (AB (AQ g1 rfl) ?_)
 repeat refine Iu (by decide) ?_
 have hk:=hk _ _ f1
 try simp only[List.append_assoc]at hk
 try simp only[List.append_assoc]
 exact hk
theorem AWN:E8 G (.mk 5 0 [] [] false []):=by
 intro H n c A k hx0 hA0 hl hk
 have e0:textE (.mk 5 0 [] [] false [])=WH:=by rw[Ad];rfl
 rw[e0]at hl hk
 try simp only[List.length_append]at hl
 obtain⟨line,col,v,cs,rfl,hel,hks,hva,hcs⟩:=hx0.inv
 refine Am (s:=Ho (Aa lfp G)) Ag (by obtain⟨h,o⟩:=Bz Ap G;rw[Ag]at h;cases h;exact o) ?_
 show Aa lfp G (Runs F G) (.agg (Ti 5 0 [] [] false line col v)) H n k
 delta Aa
 refine Dk λH1 f1 g1=>?_
 have hx1:=hx0.mono (λ_ h=>h) λid h=>f1.same id (hA0 id h)
 have hA1:∀id,A id->id<n+1:=λid h=>by have:=hA0 id h;omega
 refine AB (AZ ..) (AB (AQ g1 rfl) ?_)
 repeat refine Iu (by decide) ?_
 refine GY ?_
 have hk:=hk _ _ f1
 try simp only[List.append_assoc]at hk
 try simp only[List.append_assoc]
 exact hk
theorem AVF{l:Bs}:E8 G (.mk 6 0 l [] false []):=by
 intro H n c A k hx0 hA0 hl hk
 have e0:textE (.mk 6 0 l [] false [])=l:=by rw[Ad];rfl
 rw[e0]at hl hk
 try simp only[List.length_append]at hl
 obtain⟨line,col,v,cs,rfl,hel,hks,hva,hcs⟩:=hx0.inv
 refine Am (s:=Ho (Aa lfp G)) Ag (by obtain⟨h,o⟩:=Bz Ap G;rw[Ag]at h;cases h;exact o) ?_
 show Aa lfp G (Runs F G) (.agg (Ti 6 0 l [] false line col v)) H n k
 delta Aa
 refine Dk λH1 f1 g1=>?_
 have hx1:=hx0.mono (λ_ h=>h) λid h=>f1.same id (hA0 id h)
 have hA1:∀id,A id->id<n+1:=λid h=>by have:=hA0 id h;omega
 refine AB (AZ ..) (AB (AQ g1 rfl) ?_)
 repeat refine Iu (by decide) ?_
 refine GY ?_
 refine AB (AZ ..) (AB (AQ g1 rfl) ?_)
 have hk:=hk _ _ f1
 try simp only[List.append_assoc]at hk
 try simp only[List.append_assoc]
 exact hk
theorem AW7{l:Bs}{a:Ex}(iha:E8 G a):E8 G (.mk 7 0 l [] false [a]):=by
 intro H n c A k hx0 hA0 hl hk
 have e0:textE (.mk 7 0 l [] false [a])=textE a++(DI++l):=by rw[Ad];rfl
 rw[e0]at hl hk
 try simp only[List.length_append]at hl
 obtain⟨line,col,v,cs,rfl,hel,hks,hva,hcs⟩:=hx0.inv
 refine Am (s:=Ho (Aa lfp G)) Ag (by obtain⟨h,o⟩:=Bz Ap G;rw[Ag]at h;cases h;exact o) ?_
 show Aa lfp G (Runs F G) (.agg (Ti 7 0 l [] false line col v)) H n k
 delta Aa
 refine Dk λH1 f1 g1=>?_
 have hx1:=hx0.mono (λ_ h=>h) λid h=>f1.same id (hA0 id h)
 have hA1:∀id,A id->id<n+1:=λid h=>by have:=hA0 id h;omega
 refine AB (AZ ..) (AB (AQ g1 rfl) ?_)
 repeat refine Iu (by decide) ?_
 refine GY ?_
 refine AB (Ai (m:=11) g1 (by omega) rfl) ?_
 refine AB (AZ ..) (AB (AQ g1 rfl) ?_)
 refine ZE (i:=0) hx1 hA1 rfl iha (by omega) λH2 n2 f2=>?_
 have hn2:=f2.le
 have g2:=f2.get g1 (by omega)
 have f2:=f1.trans f2
 have hx2:=hx0.mono (λ_ h=>h) λid h=>f2.same id (hA0 id h)
 have hA2:∀id,A id->id<n2:=λid h=>by have:=hA0 id h;omega
 refine AB (AQ g2 rfl) (Cc (VK _) ?_)
 refine AB (BX (a:=textE a) (b:=DI) (by first|omega|(simp only[List.length_append];omega))) ?_
 refine AB (BX (a:=textE a++DI) (b:=l) (by first|omega|(simp only[List.length_append];omega))) ?_
 have hk:=hk _ _ f2
 try simp only[List.append_assoc]at hk
 try simp only[List.append_assoc]
 exact hk
theorem ATh{l:Bs}{a:Ex}(iha:E8 G a){ks:List Ex}(ihk:∀x∈ks,E8 G x)(hn:ks.length<=200):E8 G (.mk 8 0 l [] false (a::ks)):=by
 intro H n c A k hx0 hA0 hl hk
 have e0:textE (.mk 8 0 l [] false (a::ks))=textE a++(DI++(l++(BG++(Hf (ks.map textE)++BH)))):=by rw[Ad];rfl
 rw[e0]at hl hk
 try simp only[List.length_append]at hl
 obtain⟨line,col,v,cs,rfl,hel,hks,hva,hcs⟩:=hx0.inv
 refine Am (s:=Ho (Aa lfp G)) Ag (by obtain⟨h,o⟩:=Bz Ap G;rw[Ag]at h;cases h;exact o) ?_
 show Aa lfp G (Runs F G) (.agg (Ti 8 0 l [] false line col v)) H n k
 delta Aa
 refine Dk λH1 f1 g1=>?_
 have hx1:=hx0.mono (λ_ h=>h) λid h=>f1.same id (hA0 id h)
 have hA1:∀id,A id->id<n+1:=λid h=>by have:=hA0 id h;omega
 refine AB (AZ ..) (AB (AQ g1 rfl) ?_)
 repeat refine Iu (by decide) ?_
 refine GY ?_
 refine AB (Ai (m:=11) g1 (by omega) rfl) ?_
 refine AB (AZ ..) (AB (AQ g1 rfl) ?_)
 refine AB (Ai (m:=11) g1 (by omega) rfl) ?_
 refine ZE (i:=0) hx1 hA1 rfl iha (by omega) λH2 n2 f2=>?_
 have hn2:=f2.le
 have g2:=f2.get g1 (by omega)
 have f2:=f1.trans f2
 have hx2:=hx0.mono (λ_ h=>h) λid h=>f2.same id (hA0 id h)
 have hA2:∀id,A id->id<n2:=λid h=>by have:=hA0 id h;omega
 refine AB (AQ g2 rfl) (Cc (VK _) ?_)
 refine AB (Ai (m:=11) g2 (by omega) rfl) (Cc hx2.vs ?_)
 refine AB (BX (a:=textE a) (b:=DI) (by first|omega|(simp only[List.length_append];omega))) ?_
 refine AB (BX (a:=textE a++DI) (b:=l) (by first|omega|(simp only[List.length_append];omega))) ?_
 refine AB (BX (a:=(textE a++DI)++l) (b:=BG) (by first|omega|(simp only[List.length_append];omega))) ?_
 refine AXQ hx2 hA2 λH3 n3 w cs' f3 helw hsw hcsw=>?_
 have hn3:=f3.le
 have g3:=f3.get g2 (by omega)
 have f3:=f2.trans f3
 have hx3:=hx0.mono (λ_ h=>h) λid h=>f3.same id (hA0 id h)
 have hA3:∀id,A id->id<n3:=λid h=>by have:=hA0 id h;omega
 refine AB (AQ g3 rfl) (Cc (VK _) ?_)
 refine AQy helw hsw hcsw hA3 ihk (by omega) (by omega) λH4 n4 f4=>?_
 have hn4:=f4.le
 have g4:=f4.get g3 (by omega)
 have f4:=f3.trans f4
 have hx4:=hx0.mono (λ_ h=>h) λid h=>f4.same id (hA0 id h)
 have hA4:∀id,A id->id<n4:=λid h=>by have:=hA0 id h;omega
 refine AB (AQ g4 rfl) (Cc (VK _) ?_)
 refine AB (BX (a:=((textE a++DI)++l)++BG) (b:=Hf (ks.map textE)) (by first|omega|(simp only[List.length_append];omega))) ?_
 refine AB (BX (a:=(((textE a++DI)++l)++BG)++Hf (ks.map textE)) (b:=BH) (by first|omega|(simp only[List.length_append];omega))) ?_
 have hk:=hk _ _ f4
 try simp only[List.append_assoc]at hk
 try simp only[List.append_assoc]
 exact hk
theorem AUA{l u:Bs}{ks:List Ex}(ihk:∀x∈ks,E8 G x)(hn:ks.length<=200):E8 G (.mk 9 0 l u false ks):=by
 intro H n c A k hx0 hA0 hl hk
 have e0:textE (.mk 9 0 l u false ks)=u++(DI++(l++(BG++(Hf (ks.map textE)++BH)))):=by rw[Ad];rfl
 rw[e0]at hl hk
 try simp only[List.length_append]at hl
 obtain⟨line,col,v,cs,rfl,hel,hks,hva,hcs⟩:=hx0.inv
 refine Am (s:=Ho (Aa lfp G)) Ag (by obtain⟨h,o⟩:=Bz Ap G;rw[Ag]at h;cases h;exact o) ?_
 show Aa lfp G (Runs F G) (.agg (Ti 9 0 l u false line col v)) H n k
 delta Aa
 refine Dk λH1 f1 g1=>?_
 have hx1:=hx0.mono (λ_ h=>h) λid h=>f1.same id (hA0 id h)
 have hA1:∀id,A id->id<n+1:=λid h=>by have:=hA0 id h;omega
 refine AB (AZ ..) (AB (AQ g1 rfl) ?_)
 repeat refine Iu (by decide) ?_
 refine GY ?_
 refine AB (AZ ..) (AB (AZ ..) (AB (AQ g1 rfl) ?_))
 refine AB (BX (a:=u) (b:=DI) (by first|omega|(simp only[List.length_append];omega))) ?_
 refine AB (AZ ..) (AB (AQ g1 rfl) ?_)
 refine AB (BX (a:=u++DI) (b:=l) (by first|omega|(simp only[List.length_append];omega))) ?_
 refine AB (BX (a:=(u++DI)++l) (b:=BG) (by first|omega|(simp only[List.length_append];omega))) ?_
 refine AB (AZ ..) (AB (AQ g1 rfl) ?_)
 refine AQy (hel.same λid hid=>f1.same id (hA0 id (hva id hid))) hva (hcs.mono (λ_ h=>h) λid h=>f1.same id (hA0 id h)) hA1 ihk (by omega) (by omega) λH2 n2 f2=>?_
 have hn2:=f2.le
 have g2:=f2.get g1 (by omega)
 have f2:=f1.trans f2
 have hx2:=hx0.mono (λ_ h=>h) λid h=>f2.same id (hA0 id h)
 have hA2:∀id,A id->id<n2:=λid h=>by have:=hA0 id h;omega
 refine AB (AQ g2 rfl) (Cc (VK _) ?_)
 refine AB (AQ g2 rfl) (Cc (VK _) ?_)
 refine AB (BX (a:=((u++DI)++l)++BG) (b:=Hf (ks.map textE)) (by first|omega|(simp only[List.length_append];omega))) ?_
 refine AB (BX (a:=(((u++DI)++l)++BG)++Hf (ks.map textE)) (b:=BH) (by first|omega|(simp only[List.length_append];omega))) ?_
 have hk:=hk _ _ f2
 try simp only[List.append_assoc]at hk
 try simp only[List.append_assoc]
 exact hk
theorem AWT{u:Bs}:E8 G (.mk 10 0 [] u false []):=by
 intro H n c A k hx0 hA0 hl hk
 have e0:textE (.mk 10 0 [] u false [])=BG++(Ih++([32]++(u++BH))):=by rw[Ad];rfl
 rw[e0]at hl hk
 try simp only[List.length_append]at hl
 obtain⟨line,col,v,cs,rfl,hel,hks,hva,hcs⟩:=hx0.inv
 refine Am (s:=Ho (Aa lfp G)) Ag (by obtain⟨h,o⟩:=Bz Ap G;rw[Ag]at h;cases h;exact o) ?_
 show Aa lfp G (Runs F G) (.agg (Ti 10 0 [] u false line col v)) H n k
 delta Aa
 refine Dk λH1 f1 g1=>?_
 have hx1:=hx0.mono (λ_ h=>h) λid h=>f1.same id (hA0 id h)
 have hA1:∀id,A id->id<n+1:=λid h=>by have:=hA0 id h;omega
 refine AB (AZ ..) (AB (AQ g1 rfl) ?_)
 repeat refine Iu (by decide) ?_
 refine GY ?_
 refine AB (AZ ..) (AB (AZ ..) (AB (AQ g1 rfl) ?_))
 rw[show V.str 5 139442089512=sB (BG++(Ih++[32]))from rfl]
 refine AB (BX (a:=BG++(Ih++[32])) (b:=u) (by first|omega|(simp only[List.length_append];omega))) ?_
 refine AB (BX (a:=(BG++(Ih++[32]))++u) (b:=BH) (by first|omega|(simp only[List.length_append];omega))) ?_
 have hk:=hk _ _ f1
 try simp only[List.append_assoc]at hk
 try simp only[List.append_assoc]
 exact hk
theorem AVw{u:Bs}{a:Ex}(iha:E8 G a):E8 G (.mk 11 0 [] u false [a]):=by
 intro H n c A k hx0 hA0 hl hk
 have e0:textE (.mk 11 0 [] u false [a])=Ih++([32]++(u++(GL++(textE a++F8)))):=by rw[Ad];rfl
 rw[e0]at hl hk
 try simp only[List.length_append]at hl
 obtain⟨line,col,v,cs,rfl,hel,hks,hva,hcs⟩:=hx0.inv
 refine Am (s:=Ho (Aa lfp G)) Ag (by obtain⟨h,o⟩:=Bz Ap G;rw[Ag]at h;cases h;exact o) ?_
 show Aa lfp G (Runs F G) (.agg (Ti 11 0 [] u false line col v)) H n k
 delta Aa
 refine Dk λH1 f1 g1=>?_
 have hx1:=hx0.mono (λ_ h=>h) λid h=>f1.same id (hA0 id h)
 have hA1:∀id,A id->id<n+1:=λid h=>by have:=hA0 id h;omega
 refine AB (AZ ..) (AB (AQ g1 rfl) ?_)
 repeat refine Iu (by decide) ?_
 refine GY ?_
 refine AB (AZ ..) (AB (AZ ..) (AB (AQ g1 rfl) ?_))
 rw[show V.str 4 544695662=sB (Ih++[32])from rfl]
 refine AB (BX (a:=Ih++[32]) (b:=u) (by first|omega|(simp only[List.length_append];omega))) ?_
 refine AB (BX (a:=(Ih++[32])++u) (b:=GL) (by first|omega|(simp only[List.length_append];omega))) ?_
 refine AB (Ai (m:=11) g1 (by omega) rfl) ?_
 refine ZE (i:=0) hx1 hA1 rfl iha (by omega) λH2 n2 f2=>?_
 have hn2:=f2.le
 have g2:=f2.get g1 (by omega)
 have f2:=f1.trans f2
 have hx2:=hx0.mono (λ_ h=>h) λid h=>f2.same id (hA0 id h)
 have hA2:∀id,A id->id<n2:=λid h=>by have:=hA0 id h;omega
 refine AB (AQ g2 rfl) (Cc (VK _) ?_)
 refine AB (BX (a:=((Ih++[32])++u)++GL) (b:=textE a) (by first|omega|(simp only[List.length_append];omega))) ?_
 refine AB (BX (a:=(((Ih++[32])++u)++GL)++textE a) (b:=F8) (by first|omega|(simp only[List.length_append];omega))) ?_
 have hk:=hk _ _ f2
 try simp only[List.append_assoc]at hk
 try simp only[List.append_assoc]
 exact hk
theorem AWS{a b:Ex}(iha:E8 G a)(ihb:E8 G b):E8 G (.mk 12 0 [] [] false [a,b]):=by
 intro H n c A k hx0 hA0 hl hk
 have e0:textE (.mk 12 0 [] [] false [a,b])=textE a++(GL++(textE b++F8)):=by rw[Ad];rfl
 rw[e0]at hl hk
 try simp only[List.length_append]at hl
 obtain⟨line,col,v,cs,rfl,hel,hks,hva,hcs⟩:=hx0.inv
 refine Am (s:=Ho (Aa lfp G)) Ag (by obtain⟨h,o⟩:=Bz Ap G;rw[Ag]at h;cases h;exact o) ?_
 show Aa lfp G (Runs F G) (.agg (Ti 12 0 [] [] false line col v)) H n k
 delta Aa
 refine Dk λH1 f1 g1=>?_
 have hx1:=hx0.mono (λ_ h=>h) λid h=>f1.same id (hA0 id h)
 have hA1:∀id,A id->id<n+1:=λid h=>by have:=hA0 id h;omega
 refine AB (AZ ..) (AB (AQ g1 rfl) ?_)
 repeat refine Iu (by decide) ?_
 refine GY ?_
 refine AB (Ai (m:=11) g1 (by omega) rfl) ?_
 refine AB (Ai (m:=11) g1 (by omega) rfl) ?_
 refine ZE (i:=0) hx1 hA1 rfl iha (by omega) λH2 n2 f2=>?_
 have hn2:=f2.le
 have g2:=f2.get g1 (by omega)
 have f2:=f1.trans f2
 have hx2:=hx0.mono (λ_ h=>h) λid h=>f2.same id (hA0 id h)
 have hA2:∀id,A id->id<n2:=λid h=>by have:=hA0 id h;omega
 refine AB (Ai (m:=11) g2 (by omega) rfl) (Cc hx2.vs ?_)
 refine AB (BX (a:=textE a) (b:=GL) (by first|omega|(simp only[List.length_append];omega))) ?_
 refine ZE (i:=1) hx2 hA2 rfl ihb (by omega) λH3 n3 f3=>?_
 have hn3:=f3.le
 have g3:=f3.get g2 (by omega)
 have f3:=f2.trans f3
 have hx3:=hx0.mono (λ_ h=>h) λid h=>f3.same id (hA0 id h)
 have hA3:∀id,A id->id<n3:=λid h=>by have:=hA0 id h;omega
 refine AB (BX (a:=textE a++GL) (b:=textE b) (by first|omega|(simp only[List.length_append];omega))) ?_
 refine AB (BX (a:=(textE a++GL)++textE b) (b:=F8) (by first|omega|(simp only[List.length_append];omega))) ?_
 have hk:=hk _ _ f3
 try simp only[List.append_assoc]at hk
 try simp only[List.append_assoc]
 exact hk
theorem AXz{a:Ex}(iha:E8 G a):E8 G (.mk 13 0 [] [] false [a]):=by
 intro H n c A k hx0 hA0 hl hk
 have e0:textE (.mk 13 0 [] [] false [a])=textE a++(DI++Hr):=by rw[Ad];rfl
 rw[e0]at hl hk
 try simp only[List.length_append]at hl
 obtain⟨line,col,v,cs,rfl,hel,hks,hva,hcs⟩:=hx0.inv
 refine Am (s:=Ho (Aa lfp G)) Ag (by obtain⟨h,o⟩:=Bz Ap G;rw[Ag]at h;cases h;exact o) ?_
 show Aa lfp G (Runs F G) (.agg (Ti 13 0 [] [] false line col v)) H n k
 delta Aa
 refine Dk λH1 f1 g1=>?_
 have hx1:=hx0.mono (λ_ h=>h) λid h=>f1.same id (hA0 id h)
 have hA1:∀id,A id->id<n+1:=λid h=>by have:=hA0 id h;omega
 refine AB (AZ ..) (AB (AQ g1 rfl) ?_)
 repeat refine Iu (by decide) ?_
 refine GY ?_
 refine AB (Ai (m:=11) g1 (by omega) rfl) ?_
 refine ZE (i:=0) hx1 hA1 rfl iha (by omega) λH2 n2 f2=>?_
 have hn2:=f2.le
 have g2:=f2.get g1 (by omega)
 have f2:=f1.trans f2
 have hx2:=hx0.mono (λ_ h=>h) λid h=>f2.same id (hA0 id h)
 have hA2:∀id,A id->id<n2:=λid h=>by have:=hA0 id h;omega
 rw[show V.str 7 29401385160502318=sB (DI++Hr)from rfl]
 refine AB (BX (a:=textE a) (b:=DI++Hr) (by first|omega|(simp only[List.length_append];omega))) ?_
 have hk:=hk _ _ f2
 try simp only[List.append_assoc]at hk
 try simp only[List.append_assoc]
 exact hk
theorem AVW{a:Ex}(iha:E8 G a):E8 G (.mk 14 0 [] [] false [a]):=by
 intro H n c A k hx0 hA0 hl hk
 have e0:textE (.mk 14 0 [] [] false [a])=BG++(Dv++(textE a++BH)):=by rw[Ad];rfl
 rw[e0]at hl hk
 try simp only[List.length_append]at hl
 obtain⟨line,col,v,cs,rfl,hel,hks,hva,hcs⟩:=hx0.inv
 refine Am (s:=Ho (Aa lfp G)) Ag (by obtain⟨h,o⟩:=Bz Ap G;rw[Ag]at h;cases h;exact o) ?_
 show Aa lfp G (Runs F G) (.agg (Ti 14 0 [] [] false line col v)) H n k
 delta Aa
 refine Dk λH1 f1 g1=>?_
 have hx1:=hx0.mono (λ_ h=>h) λid h=>f1.same id (hA0 id h)
 have hA1:∀id,A id->id<n+1:=λid h=>by have:=hA0 id h;omega
 refine AB (AZ ..) (AB (AQ g1 rfl) ?_)
 repeat refine Iu (by decide) ?_
 refine GY ?_
 refine AB (Ai (m:=11) g1 (by omega) rfl) ?_
 refine ZE (i:=0) hx1 hA1 rfl iha (by omega) λH2 n2 f2=>?_
 have hn2:=f2.le
 have g2:=f2.get g1 (by omega)
 have f2:=f1.trans f2
 have hx2:=hx0.mono (λ_ h=>h) λid h=>f2.same id (hA0 id h)
 have hA2:∀id,A id->id<n2:=λid h=>by have:=hA0 id h;omega
 refine AB (BX (a:=BG++Dv) (b:=textE a) (by first|omega|(simp only[List.length_append];omega))) ?_
 refine AB (BX (a:=(BG++Dv)++textE a) (b:=BH) (by first|omega|(simp only[List.length_append];omega))) ?_
 have hk:=hk _ _ f2
 try simp only[List.append_assoc]at hk
 try simp only[List.append_assoc]
 exact hk
theorem AXG{a:Ex}(iha:E8 G a):E8 G (.mk 15 0 [] [] false [a]):=by
 intro H n c A k hx0 hA0 hl hk
 have e0:textE (.mk 15 0 [] [] false [a])=BG++(Iq++(textE a++BH)):=by rw[Ad];rfl
 rw[e0]at hl hk
 try simp only[List.length_append]at hl
 obtain⟨line,col,v,cs,rfl,hel,hks,hva,hcs⟩:=hx0.inv
 refine Am (s:=Ho (Aa lfp G)) Ag (by obtain⟨h,o⟩:=Bz Ap G;rw[Ag]at h;cases h;exact o) ?_
 show Aa lfp G (Runs F G) (.agg (Ti 15 0 [] [] false line col v)) H n k
 delta Aa
 refine Dk λH1 f1 g1=>?_
 have hx1:=hx0.mono (λ_ h=>h) λid h=>f1.same id (hA0 id h)
 have hA1:∀id,A id->id<n+1:=λid h=>by have:=hA0 id h;omega
 refine AB (AZ ..) (AB (AQ g1 rfl) ?_)
 repeat refine Iu (by decide) ?_
 refine GY ?_
 refine AB (Ai (m:=11) g1 (by omega) rfl) ?_
 refine ZE (i:=0) hx1 hA1 rfl iha (by omega) λH2 n2 f2=>?_
 have hn2:=f2.le
 have g2:=f2.get g1 (by omega)
 have f2:=f1.trans f2
 have hx2:=hx0.mono (λ_ h=>h) λid h=>f2.same id (hA0 id h)
 have hA2:∀id,A id->id<n2:=λid h=>by have:=hA0 id h;omega
 refine AB (BX (a:=BG++Iq) (b:=textE a) (by first|omega|(simp only[List.length_append];omega))) ?_
 refine AB (BX (a:=(BG++Iq)++textE a) (b:=BH) (by first|omega|(simp only[List.length_append];omega))) ?_
 have hk:=hk _ _ f2
 try simp only[List.append_assoc]at hk
 try simp only[List.append_assoc]
 exact hk
theorem AVN{o:Bs}{a b:Ex}(iha:E8 G a)(ihb:E8 G b):E8 G (.mk 16 0 o [] false [a,b]):=by
 intro H n c A k hx0 hA0 hl hk
 have e0:textE (.mk 16 0 o [] false [a,b])=BG++(textE a++([32]++(o++([32]++(textE b++BH))))):=by rw[Ad];rfl
 rw[e0]at hl hk
 try simp only[List.length_append]at hl
 obtain⟨line,col,v,cs,rfl,hel,hks,hva,hcs⟩:=hx0.inv
 refine Am (s:=Ho (Aa lfp G)) Ag (by obtain⟨h,o⟩:=Bz Ap G;rw[Ag]at h;cases h;exact o) ?_
 show Aa lfp G (Runs F G) (.agg (Ti 16 0 o [] false line col v)) H n k
 delta Aa
 refine Dk λH1 f1 g1=>?_
 have hx1:=hx0.mono (λ_ h=>h) λid h=>f1.same id (hA0 id h)
 have hA1:∀id,A id->id<n+1:=λid h=>by have:=hA0 id h;omega
 refine AB (AZ ..) (AB (AQ g1 rfl) ?_)
 repeat refine Iu (by decide) ?_
 refine GY ?_
 refine AB (Ai (m:=11) g1 (by omega) rfl) ?_
 refine AB (AZ ..) (AB (AQ g1 rfl) ?_)
 refine AB (Ai (m:=11) g1 (by omega) rfl) ?_
 refine ZE (i:=0) hx1 hA1 rfl iha (by omega) λH2 n2 f2=>?_
 have hn2:=f2.le
 have g2:=f2.get g1 (by omega)
 have f2:=f1.trans f2
 have hx2:=hx0.mono (λ_ h=>h) λid h=>f2.same id (hA0 id h)
 have hA2:∀id,A id->id<n2:=λid h=>by have:=hA0 id h;omega
 refine AB (AQ g2 rfl) (Cc (VK _) ?_)
 refine AB (Ai (m:=11) g2 (by omega) rfl) (Cc hx2.vs ?_)
 refine AB (BX (a:=BG) (b:=textE a) (by first|omega|(simp only[List.length_append];omega))) ?_
 refine AB (BX (a:=BG++textE a) (b:=[32]) (by first|omega|(simp only[List.length_append];omega))) ?_
 refine AB (BX (a:=(BG++textE a)++[32]) (b:=o) (by first|omega|(simp only[List.length_append];omega))) ?_
 refine AB (BX (a:=((BG++textE a)++[32])++o) (b:=[32]) (by first|omega|(simp only[List.length_append];omega))) ?_
 refine ZE (i:=1) hx2 hA2 rfl ihb (by omega) λH3 n3 f3=>?_
 have hn3:=f3.le
 have g3:=f3.get g2 (by omega)
 have f3:=f2.trans f3
 have hx3:=hx0.mono (λ_ h=>h) λid h=>f3.same id (hA0 id h)
 have hA3:∀id,A id->id<n3:=λid h=>by have:=hA0 id h;omega
 refine AB (AQ g3 rfl) (Cc (VK _) ?_)
 refine AB (BX (a:=(((BG++textE a)++[32])++o)++[32]) (b:=textE b) (by first|omega|(simp only[List.length_append];omega))) ?_
 refine AB (BX (a:=((((BG++textE a)++[32])++o)++[32])++textE b) (b:=BH) (by first|omega|(simp only[List.length_append];omega))) ?_
 have hk:=hk _ _ f3
 try simp only[List.append_assoc]at hk
 try simp only[List.append_assoc]
 exact hk
theorem AWO{a b:Ex}(iha:E8 G a)(ihb:E8 G b):E8 G (.mk 17 0 [] [] false [a,b]):=by
 intro H n c A k hx0 hA0 hl hk
 have e0:textE (.mk 17 0 [] [] false [a,b])=BG++(textE a++([32]++(NP++([32]++(textE b++BH))))):=by rw[Ad];rfl
 rw[e0]at hl hk
 try simp only[List.length_append]at hl
 obtain⟨line,col,v,cs,rfl,hel,hks,hva,hcs⟩:=hx0.inv
 refine Am (s:=Ho (Aa lfp G)) Ag (by obtain⟨h,o⟩:=Bz Ap G;rw[Ag]at h;cases h;exact o) ?_
 show Aa lfp G (Runs F G) (.agg (Ti 17 0 [] [] false line col v)) H n k
 delta Aa
 refine Dk λH1 f1 g1=>?_
 have hx1:=hx0.mono (λ_ h=>h) λid h=>f1.same id (hA0 id h)
 have hA1:∀id,A id->id<n+1:=λid h=>by have:=hA0 id h;omega
 refine AB (AZ ..) (AB (AQ g1 rfl) ?_)
 repeat refine Iu (by decide) ?_
 refine GY ?_
 refine AB (Ai (m:=11) g1 (by omega) rfl) ?_
 refine AB (Ai (m:=11) g1 (by omega) rfl) ?_
 refine ZE (i:=0) hx1 hA1 rfl iha (by omega) λH2 n2 f2=>?_
 have hn2:=f2.le
 have g2:=f2.get g1 (by omega)
 have f2:=f1.trans f2
 have hx2:=hx0.mono (λ_ h=>h) λid h=>f2.same id (hA0 id h)
 have hA2:∀id,A id->id<n2:=λid h=>by have:=hA0 id h;omega
 refine AB (Ai (m:=11) g2 (by omega) rfl) (Cc hx2.vs ?_)
 refine AB (BX (a:=BG) (b:=textE a) (by first|omega|(simp only[List.length_append];omega))) ?_
 rw[show V.str 4 539371040=sB ([32]++(NP++[32]))from rfl]
 refine AB (BX (a:=BG++textE a) (b:=[32]++(NP++[32])) (by first|omega|(simp only[List.length_append];omega))) ?_
 refine ZE (i:=1) hx2 hA2 rfl ihb (by omega) λH3 n3 f3=>?_
 have hn3:=f3.le
 have g3:=f3.get g2 (by omega)
 have f3:=f2.trans f3
 have hx3:=hx0.mono (λ_ h=>h) λid h=>f3.same id (hA0 id h)
 have hA3:∀id,A id->id<n3:=λid h=>by have:=hA0 id h;omega
 refine AB (BX (a:=(BG++textE a)++([32]++(NP++[32]))) (b:=textE b) (by first|omega|(simp only[List.length_append];omega))) ?_
 refine AB (BX (a:=((BG++textE a)++([32]++(NP++[32])))++textE b) (b:=BH) (by first|omega|(simp only[List.length_append];omega))) ?_
 have hk:=hk _ _ f3
 try simp only[List.append_assoc]at hk
 try simp only[List.append_assoc]
 exact hk
theorem AY6{a b:Ex}(iha:E8 G a)(ihb:E8 G b):E8 G (.mk 18 0 [] [] false [a,b]):=by
 intro H n c A k hx0 hA0 hl hk
 have e0:textE (.mk 18 0 [] [] false [a,b])=BG++(textE a++([32]++(YQ++([32]++(textE b++BH))))):=by rw[Ad];rfl
 rw[e0]at hl hk
 try simp only[List.length_append]at hl
 obtain⟨line,col,v,cs,rfl,hel,hks,hva,hcs⟩:=hx0.inv
 refine Am (s:=Ho (Aa lfp G)) Ag (by obtain⟨h,o⟩:=Bz Ap G;rw[Ag]at h;cases h;exact o) ?_
 show Aa lfp G (Runs F G) (.agg (Ti 18 0 [] [] false line col v)) H n k
 delta Aa
 refine Dk λH1 f1 g1=>?_
 have hx1:=hx0.mono (λ_ h=>h) λid h=>f1.same id (hA0 id h)
 have hA1:∀id,A id->id<n+1:=λid h=>by have:=hA0 id h;omega
 refine AB (AZ ..) (AB (AQ g1 rfl) ?_)
 repeat refine Iu (by decide) ?_
 refine GY ?_
 refine AB (Ai (m:=11) g1 (by omega) rfl) ?_
 refine AB (Ai (m:=11) g1 (by omega) rfl) ?_
 refine ZE (i:=0) hx1 hA1 rfl iha (by omega) λH2 n2 f2=>?_
 have hn2:=f2.le
 have g2:=f2.get g1 (by omega)
 have f2:=f1.trans f2
 have hx2:=hx0.mono (λ_ h=>h) λid h=>f2.same id (hA0 id h)
 have hA2:∀id,A id->id<n2:=λid h=>by have:=hA0 id h;omega
 refine AB (Ai (m:=11) g2 (by omega) rfl) (Cc hx2.vs ?_)
 refine AB (BX (a:=BG) (b:=textE a) (by first|omega|(simp only[List.length_append];omega))) ?_
 rw[show V.str 4 545029152=sB ([32]++(YQ++[32]))from rfl]
 refine AB (BX (a:=BG++textE a) (b:=[32]++(YQ++[32])) (by first|omega|(simp only[List.length_append];omega))) ?_
 refine ZE (i:=1) hx2 hA2 rfl ihb (by omega) λH3 n3 f3=>?_
 have hn3:=f3.le
 have g3:=f3.get g2 (by omega)
 have f3:=f2.trans f3
 have hx3:=hx0.mono (λ_ h=>h) λid h=>f3.same id (hA0 id h)
 have hA3:∀id,A id->id<n3:=λid h=>by have:=hA0 id h;omega
 refine AB (BX (a:=(BG++textE a)++([32]++(YQ++[32]))) (b:=textE b) (by first|omega|(simp only[List.length_append];omega))) ?_
 refine AB (BX (a:=((BG++textE a)++([32]++(YQ++[32])))++textE b) (b:=BH) (by first|omega|(simp only[List.length_append];omega))) ?_
 have hk:=hk _ _ f3
 try simp only[List.append_assoc]at hk
 try simp only[List.append_assoc]
 exact hk
theorem AWE{u:Bs}{a:Ex}(iha:E8 G a):E8 G (.mk 19 0 [] u false [a]):=by
 intro H n c A k hx0 hA0 hl hk
 have e0:textE (.mk 19 0 [] u false [a])=BG++(textE a++([32]++(SX++([32]++(u++BH))))):=by rw[Ad];rfl
 rw[e0]at hl hk
 try simp only[List.length_append]at hl
 obtain⟨line,col,v,cs,rfl,hel,hks,hva,hcs⟩:=hx0.inv
 refine Am (s:=Ho (Aa lfp G)) Ag (by obtain⟨h,o⟩:=Bz Ap G;rw[Ag]at h;cases h;exact o) ?_
 show Aa lfp G (Runs F G) (.agg (Ti 19 0 [] u false line col v)) H n k
 delta Aa
 refine Dk λH1 f1 g1=>?_
 have hx1:=hx0.mono (λ_ h=>h) λid h=>f1.same id (hA0 id h)
 have hA1:∀id,A id->id<n+1:=λid h=>by have:=hA0 id h;omega
 refine AB (AZ ..) (AB (AQ g1 rfl) ?_)
 repeat refine Iu (by decide) ?_
 refine GY ?_
 refine AB (Ai (m:=11) g1 (by omega) rfl) ?_
 refine AB (AZ ..) (AB (AZ ..) (AB (AQ g1 rfl) ?_))
 refine ZE (i:=0) hx1 hA1 rfl iha (by omega) λH2 n2 f2=>?_
 have hn2:=f2.le
 have g2:=f2.get g1 (by omega)
 have f2:=f1.trans f2
 have hx2:=hx0.mono (λ_ h=>h) λid h=>f2.same id (hA0 id h)
 have hA2:∀id,A id->id<n2:=λid h=>by have:=hA0 id h;omega
 refine AB (AQ g2 rfl) (Cc (VK _) ?_)
 refine AB (BX (a:=BG) (b:=textE a) (by first|omega|(simp only[List.length_append];omega))) ?_
 rw[show V.str 4 544432416=sB ([32]++(SX++[32]))from rfl]
 refine AB (BX (a:=BG++textE a) (b:=[32]++(SX++[32])) (by first|omega|(simp only[List.length_append];omega))) ?_
 refine AB (BX (a:=(BG++textE a)++([32]++(SX++[32]))) (b:=u) (by first|omega|(simp only[List.length_append];omega))) ?_
 refine AB (BX (a:=((BG++textE a)++([32]++(SX++[32])))++u) (b:=BH) (by first|omega|(simp only[List.length_append];omega))) ?_
 have hk:=hk _ _ f2
 try simp only[List.append_assoc]at hk
 try simp only[List.append_assoc]
 exact hk
theorem AVJ{u:Bs}{a:Ex}(iha:E8 G a):E8 G (.mk 20 0 [] u false [a]):=by
 intro H n c A k hx0 hA0 hl hk
 have e0:textE (.mk 20 0 [] u false [a])=BG++(textE a++([32]++(QU++([32]++(u++BH))))):=by rw[Ad];rfl
 rw[e0]at hl hk
 try simp only[List.length_append]at hl
 obtain⟨line,col,v,cs,rfl,hel,hks,hva,hcs⟩:=hx0.inv
 refine Am (s:=Ho (Aa lfp G)) Ag (by obtain⟨h,o⟩:=Bz Ap G;rw[Ag]at h;cases h;exact o) ?_
 show Aa lfp G (Runs F G) (.agg (Ti 20 0 [] u false line col v)) H n k
 delta Aa
 refine Dk λH1 f1 g1=>?_
 have hx1:=hx0.mono (λ_ h=>h) λid h=>f1.same id (hA0 id h)
 have hA1:∀id,A id->id<n+1:=λid h=>by have:=hA0 id h;omega
 refine AB (AZ ..) (AB (AQ g1 rfl) ?_)
 repeat refine Iu (by decide) ?_
 refine GY ?_
 refine AB (Ai (m:=11) g1 (by omega) rfl) ?_
 refine AB (AZ ..) (AB (AZ ..) (AB (AQ g1 rfl) ?_))
 refine ZE (i:=0) hx1 hA1 rfl iha (by omega) λH2 n2 f2=>?_
 have hn2:=f2.le
 have g2:=f2.get g1 (by omega)
 have f2:=f1.trans f2
 have hx2:=hx0.mono (λ_ h=>h) λid h=>f2.same id (hA0 id h)
 have hA2:∀id,A id->id<n2:=λid h=>by have:=hA0 id h;omega
 refine AB (AQ g2 rfl) (Cc (VK _) ?_)
 refine AB (BX (a:=BG) (b:=textE a) (by first|omega|(simp only[List.length_append];omega))) ?_
 rw[show V.str 4 544434464=sB ([32]++(QU++[32]))from rfl]
 refine AB (BX (a:=BG++textE a) (b:=[32]++(QU++[32])) (by first|omega|(simp only[List.length_append];omega))) ?_
 refine AB (BX (a:=(BG++textE a)++([32]++(QU++[32]))) (b:=u) (by first|omega|(simp only[List.length_append];omega))) ?_
 refine AB (BX (a:=((BG++textE a)++([32]++(QU++[32])))++u) (b:=BH) (by first|omega|(simp only[List.length_append];omega))) ?_
 have hk:=hk _ _ f2
 try simp only[List.append_assoc]at hk
 try simp only[List.append_assoc]
 exact hk
theorem lS(hG:kM G){e:Ex}(h:Wr e):E8 G e:=by
 induction h with
 |num h=>exact AVL hG h
 |tru=>exact AXF
 |fls=>exact AXD
 |nul=>exact AWe
 |ths=>exact AWN
 |loc h=>exact AVF
 |get h ha ih=>exact AW7 ih
 |call h ha hk hn ih ihk=>exact ATh ih ihk hn
 |stat h hu hk hn ihk=>exact AUA ihk hn
 |new hu=>exact AWT
 |arr hu ha ih=>exact AVw ih
 |elm ha hb iha ihb=>exact AWS iha ihb
 |len ha ih=>exact AXz ih
 |neg ha ih=>exact AVW ih
 |not ha ih=>exact AXG ih
 |bin ho ha hb iha ihb=>exact AVN iha ihb
 |and ha hb iha ihb=>exact AWO iha ihb
 |or ha hb iha ihb=>exact AY6 iha ihb
 |asx hu ha ih=>exact AWE ih
 |isx hu ha ih=>exact AVJ ih
end
def nG(t:Ty):Bs:=bif t.arr then t.nm++(GL++F8)else t.nm
def tyK(t:Ty):List Tok:=U0 t.nm::(bif t.arr then[M GL,M F8]else[])
inductive WrS:St->Prop
 |lt {l:Bs} {ty:Ty} {e:Ex} (hl:kK l=true) (ht:aQ ty.nm=true) (he:Wr e):WrS (.mk 1 l ty [e] [] [])
 |put {a b:Ex} (ha:Wr a) (hk:a.kind=6∨a.kind=7∨a.kind=12) (hb:Wr b):WrS (.mk 2 [] JY [a,b] [] [])
 |ask {a:Ex} (ha:Wr a) (hk:a.kind=8∨a.kind=9):WrS (.mk 3 [] JY [a] [] [])
 |ite {c:Ex} {th el:List St} (hc:Wr c) (ht:∀x∈th,WrS x) (he:∀x∈el,WrS x):WrS (.mk 4 [] JY [c] th el)
 |loop {c:Ex} {th:List St} (hc:Wr c) (ht:∀x∈th,WrS x):WrS (.mk 5 [] JY [c] th [])
 |ret {a:Ex} (ha:Wr a):WrS (.mk 6 [] JY [a] [] [])
 |prt {a:Ex} (ha:Wr a):WrS (.mk 7 [] JY [a] [] [])
def exT(es:List Ex)(i:Nat):Bs:=match es[i]? with|some e=>textE e|none=>Qh
def exK(es:List Ex)(i:Nat):List Tok:=match es[i]? with|some e=>tokE e|none=>[W Qh]
def tabs(d:Nat):Bs:=List.replicate d 9
def HY(d:Nat)(ls:List Bs):Bs:=OC++([10]++(ls.flatten++(tabs d++m_rc)))
def MB(ls:List (List Tok)):List Tok:=M OC::(ls.flatten++[M m_rc])
def APd(d k:Nat)(nm:Bs)(ty:Ty)(es:List Ex)(th el:List Bs):Bs:=
 tabs d++match k with
 |1=>O0++([32]++(nG ty++([32]++(nm++([32]++(EG++([32]++(exT es 0++(Aw++[10])))))))))
 |2=>exT es 0++([32]++(EG++([32]++(exT es 1++(Aw++[10])))))
 |4=>Jr++([32]++(exT es 0++([32]++(HY d th++((bif el.isEmpty then[]else[32]++(EL++([32]++HY d el)))++[10])))))
 |5=>Fe++([32]++(exT es 0++([32]++(HY d th++[10]))))
 |6=>Eo++([32]++(exT es 0++(Aw++[10])))
 |7=>Fp++([32]++(exT es 0++(Aw++[10])))
 |_=>exT es 0++(Aw++[10])
mutual
def textS(d:Nat):St->Bs
 |.mk k nm ty es th el=>APd d k nm ty es (ABz (d+1) th) (ABz (d+1) el)
def ABz(d:Nat):List St->List Bs
 |[]=>[]
 |s::l=>textS d s::ABz d l
end
theorem xB(d:Nat):∀l:List St,ABz d l=l.map (textS d)
 |[]=>by unfold ABz;rfl
 |a::l=>by unfold ABz;rw[xB d l];rfl
theorem DT(d k:Nat)(nm:Bs)(ty:Ty)(es:List Ex)(th el:List St):textS d (.mk k nm ty es th el)=APd d k nm ty es (th.map (textS (d+1))) (el.map (textS (d+1))):=by
 unfold textS;rw[xB,xB]
def Tn(k:Nat)(nm:Bs)(ty:Ty)(es:List Ex)(th el:List (List Tok)):List Tok:=
 match k with
 |1=>W O0::(tyK ty++L nm::M EG::(exK es 0++[M Aw]))
 |2=>exK es 0++M EG::(exK es 1++[M Aw])
 |4=>W Jr::(exK es 0++(MB th++bif el.isEmpty then[]else W EL::MB el))
 |5=>W Fe::(exK es 0++MB th)
 |6=>W Eo::(exK es 0++[M Aw])
 |7=>W Fp::(exK es 0++[M Aw])
 |_=>exK es 0++[M Aw]
mutual
def Eh:St->List Tok
 |.mk k nm ty es th el=>Tn k nm ty es (AFs th) (AFs el)
def AFs:List St->List (List Tok)
 |[]=>[]
 |s::l=>Eh s::AFs l
end
theorem ABs:∀l:List St,AFs l=l.map Eh
 |[]=>by unfold AFs;rfl
 |a::l=>by unfold AFs;rw[ABs l];rfl
theorem EU(k:Nat)(nm:Bs)(ty:Ty)(es:List Ex)(th el:List St):Eh (.mk k nm ty es th el)=Tn k nm ty es (th.map Eh) (el.map Eh):=by
 unfold Eh;rw[ABs,ABs]
def AVx(s:St):Prop:=∀d r ts,Dp r ts->Dp (textS d s++r) (Eh s++ts)
theorem Zd:Gap [10]:=jC (by decide)
theorem UN(d:Nat):Gap (tabs d):=yF λc hc=>by rw[List.eq_of_mem_replicate hc];decide
theorem ACK{m r:Bs}(h:(match m with|[]=>false|c::_=> !inner c)=true):Out (m++r):=by
 cases m with
 |nil=>cases h
 |cons c m=>exact AQp (by simpa using h)
theorem AHp{t:Ty}(h:aQ t.nm=true){r:Bs}{ts:List Tok}(hr:Dp r ts):Dp (nG t++([32]++r)) (tyK t++ts):=by
 unfold nG tyK
 cases t.arr with
 |false=>
  have:=UW (t:=U0 t.nm) (AAh h) hr
  rw[uP]at this;exact this
 |true=>
  have:=Vf (t:=U0 t.nm) (r:=GL++(F8++([32]++r))) (AAh h) (AFe _) (ACK (by decide)) (IQ (m:=GL) (by decide) (IQ (m:=F8) (by decide) (Et Vu hr)))
  rw[uP]at this
  simpa using this
theorem ARC{ls:List St}{d:Nat}{r:Bs}{ts:List Tok}(hr:Dp r ts):(∀x∈ls,AVx x)->Dp ((ls.map (textS d)).flatten++r) ((ls.map Eh).flatten++ts):=by
 induction ls with
 |nil=>intro _;exact hr
 |cons a ls ih=>
  intro h
  simp only[List.map_cons,List.flatten_cons,List.append_assoc]
  exact h a List.mem_cons_self _ _ _ (ih λx hx=>h x (List.mem_cons_of_mem _ hx))
theorem ADL{ls:List St}{d:Nat}{r:Bs}{ts:List Tok}(h:∀x∈ls,AVx x)(hr:Dp r ts):Dp (HY d (ls.map (textS (d+1)))++r) (MB (ls.map Eh)++ts):=by
 unfold HY MB
 simp only[List.append_assoc,List.cons_append,List.nil_append]
 exact IQ (m:=OC) (by decide) (Et Zd (ARC (Et (UN d) (IQ (m:=m_rc) (by decide) hr)) h))
theorem Aaw{s:St}(h:WrS s):AVx s:=by
 have semi:∀{r:Bs} {ts:List Tok} {e:Ex},Wr e->Dp r ts->Dp (textE e++(Aw++([10]++r))) (tokE e++M Aw::ts):=λhe hr=>
  ASo he _ _ (ACK (by decide)) (IQ (m:=Aw) (by decide) (Et Zd hr))
 have wl:∀{l:Bs},kK l=true->Wf (L l):=λh=>AB1 h
 induction h with
 | @lt l ty e hl ht he=>
  intro d r ts hr
  rw[DT,EU]
  show Dp ((tabs d++(O0++([32]++(nG ty++([32]++(l++([32]++(EG++([32]++(textE e++(Aw++[10])))))))))))++r) ((W O0::(tyK ty++L l::M EG::(tokE e++[M Aw])))++ts)
  simp only[List.append_assoc,List.cons_append,List.nil_append]
  exact Et (UN d) (UW (t:=W O0) (Dn (by decide)) (AHp ht (UW (t:=L l) (wl hl) (AEU (m:=EG) (by decide) (semi he hr)))))
 | @put a b ha hk hb=>
  intro d r ts hr
  rw[DT,EU]
  show Dp ((tabs d++(textE a++([32]++(EG++([32]++(textE b++(Aw++[10])))))))++r) ((tokE a++M EG::(tokE b++[M Aw]))++ts)
  simp only[List.append_assoc,List.cons_append,List.nil_append]
  exact Et (UN d) (ASo ha _ _ (ACK (m:=[32]) (by decide)) (Et Vu (AEU (m:=EG) (by decide) (semi hb hr))))
 | @ask a ha hk=>
  intro d r ts hr
  rw[DT,EU]
  show Dp ((tabs d++(textE a++(Aw++[10])))++r) ((tokE a++[M Aw])++ts)
  simp only[List.append_assoc,List.cons_append,List.nil_append]
  exact Et (UN d) (semi ha hr)
 | @ite c th el hc ht he iht ihe=>
  intro d r ts hr
  rw[DT,EU]
  show Dp ((tabs d++(Jr++([32]++(textE c++([32]++(HY d (th.map (textS (d+1)))++((bif (el.map (textS (d+1))).isEmpty then[]else[32]++(EL++([32]++HY d (el.map (textS (d+1))))))++[10])))))))++r)
   ((W Jr::(tokE c++(MB (th.map Eh)++bif (el.map Eh).isEmpty then[]else W EL::MB (el.map Eh))))++ts)
  simp only[List.append_assoc,List.cons_append,List.nil_append]
  refine Et (UN d) (UW (t:=W Jr) (Dn (by decide)) (ASo hc _ _ (ACK (m:=[32]) (by decide)) (Et Vu (ADL iht ?_))))
  cases el with
  |nil=>exact Et (g:=[10]) (s:=r) (ts:=ts) Zd hr
  |cons a el=>
   simp only[List.map_cons,List.isEmpty_cons,cond_false,List.append_assoc,List.cons_append,List.nil_append]
   exact Et Vu (UW (t:=W EL) (Dn (by decide)) (ADL (ls:=a::el) ihe (Et Zd hr)))
 | @loop c th hc ht iht=>
  intro d r ts hr
  rw[DT,EU]
  show Dp ((tabs d++(Fe++([32]++(textE c++([32]++(HY d (th.map (textS (d+1)))++[10]))))))++r) ((W Fe::(tokE c++MB (th.map Eh)))++ts)
  simp only[List.append_assoc,List.cons_append,List.nil_append]
  exact Et (UN d) (UW (t:=W Fe) (Dn (by decide)) (ASo hc _ _ (ACK (m:=[32]) (by decide)) (Et Vu (ADL iht (Et Zd hr)))))
 | @ret a ha=>
  intro d r ts hr
  rw[DT,EU]
  show Dp ((tabs d++(Eo++([32]++(textE a++(Aw++[10])))))++r) ((W Eo::(tokE a++[M Aw]))++ts)
  simp only[List.append_assoc,List.cons_append,List.nil_append]
  exact Et (UN d) (UW (t:=W Eo) (Dn (by decide)) (semi ha hr))
 | @prt a ha=>
  intro d r ts hr
  rw[DT,EU]
  show Dp ((tabs d++(Fp++([32]++(textE a++(Aw++[10])))))++r) ((W Fp::(tokE a++[M Aw]))++ts)
  simp only[List.append_assoc,List.cons_append,List.nil_append]
  exact Et (UN d) (UW (t:=W Fp) (Dn (by decide)) (semi ha hr))
def L8(f:Va):Bs:=[9]++(PY++([32]++(nG f.ty++([32]++(f.nm++(Aw++[10]))))))
def Xf(f:Va):List Tok:=W PY::(tyK f.ty++[L f.nm,M Aw])
def iw(p:Va):Bs:=nG p.ty++([32]++p.nm)
def aX(p:Va):List Tok:=tyK p.ty++[L p.nm]
def UK(m:Me):Bs:=[9]++((bif m.st then F9++[32]else[])++(E5++([32]++(nG m.ret++([32]++(m.nm++(BG++(Hf (m.ps.map iw)++(BH++([32]++(HY 1 (m.body.map (textS 2))++[10])))))))))))
def Qm(m:Me):List Tok:=(bif m.st then[W F9]else[])++W E5::(tyK m.ret++L m.nm::M BG::(J8 (m.ps.map aX)++M BH::MB (m.body.map Eh)))
def XY(c:Cl):Bs:=OE++([32]++(c.nm++((bif c.sup.isEmpty then[]else[32]++(Fv++([32]++c.sup)))++([32]++(OC++([10]++((c.fs.map L8).flatten++((c.ms.map UK).flatten++(m_rc++[10])))))))))
def Rh(c:Cl):List Tok:=W OE::U c.nm::((bif c.sup.isEmpty then[]else[W Fv,U c.sup])++M OC::((c.fs.map Xf).flatten++((c.ms.map Qm).flatten++[M m_rc])))
structure WrV(v:Va):Prop where
 nm:kK v.nm=true
 ty:aQ v.ty.nm=true
structure WrM(m:Me):Prop where
 nm:kK m.nm=true
 ret:aQ m.ret.nm=true
 ps:∀p∈m.ps,WrV p
 pn:m.ps.length<=200
 body:∀s∈m.body,WrS s
structure WrC(c:Cl):Prop where
 nm:WO c.nm=true
 sup:c.sup=[]∨WO c.sup=true
 fs:∀f∈c.fs,WrV f
 fn:c.fs.length<=200
 ms:∀m∈c.ms,WrM m
 mn:c.ms.length<=200
theorem ATs{p:Va}(h:WrV p){r:Bs}{ts:List Tok}(ho:Out r)(hr:Dp r ts):Dp (iw p++r) (aX p++ts):=by
 unfold iw aX
 simp only[List.append_assoc,List.cons_append,List.nil_append]
 exact AHp h.ty (Vf (t:=L p.nm) (AB1 h.nm) (by simp[L]) ho hr)
theorem AMn{α:Type}{f:α->Bs}{g:α->List Tok}{ls:List α}{r:Bs}{ts:List Tok}(hr:Dp r ts):(∀x∈ls,∀r ts,Dp r ts->Dp (f x++r) (g x++ts))->Dp ((ls.map f).flatten++r) ((ls.map g).flatten++ts):=by
 induction ls with
 |nil=>intro _;exact hr
 |cons a ls ih=>
  intro h
  simp only[List.map_cons,List.flatten_cons,List.append_assoc]
  exact h a List.mem_cons_self _ _ (ih λx hx=>h x (List.mem_cons_of_mem _ hx))
theorem AN9{p:Va}(h:WrV p){r:Bs}{ts:List Tok}(hr:Dp r ts):Dp (L8 p++r) (Xf p++ts):=by
 unfold L8 Xf
 simp only[List.append_assoc,List.cons_append,List.nil_append]
 exact Et (g:=[9]) (UN 1) (UW (t:=W PY) (Dn (by decide)) (AHp h.ty (Vf (t:=L p.nm) (AB1 h.nm) (by simp[L]) (ACK (by decide)) (IQ (m:=Aw) (by decide) (Et Zd hr)))))
theorem AOz{m:Me}(h:WrM m){r:Bs}{ts:List Tok}(hr:Dp r ts):Dp (UK m++r) (Qm m++ts):=by
 unfold UK Qm
 simp only[List.append_assoc,List.cons_append,List.nil_append]
 refine Et (g:=[9]) (UN 1) ?_
 have main:=UW (t:=W E5) (Dn (by decide)) (AHp h.ret (Vf (t:=L m.nm) (AB1 h.nm) (by simp[L]) (ACK (by decide)) (IQ (m:=BG) (by decide) (AEb (f:=iw) (g:=aX) (ACK (by decide)) (IQ (m:=BH) (by decide) (Et Vu (ADL (d:=1) (λx hx=>Aaw (h.body x hx)) (Et Zd hr)))) (λx hx _ _ ho hr=>ATs (h.ps x hx) ho hr)))))
 cases m.st with
 |false=>exact main
 |true=>
  simp only[cond_true,List.append_assoc,List.cons_append,List.nil_append]
  exact UW (t:=W F9) (Dn (by decide)) main
theorem AOA{c:Cl}(h:WrC c):Dp (XY c) (Rh c++[Qi]):=by
 unfold XY Rh
 simp only[List.append_assoc,List.cons_append,List.nil_append]
 have main:=IQ (m:=OC) (by decide) (Et Zd (AMn (f:=L8) (g:=Xf) (ls:=c.fs) (AMn (f:=UK) (g:=Qm) (ls:=c.ms) (IQ (m:=m_rc) (by decide) (AMG Zd)) (λx hx _ _ hr=>AOz (h.ms x hx) hr)) (λx hx _ _ hr=>AN9 (h.fs x hx) hr)))
 refine UW (t:=W OE) (Dn (by decide)) ?_
 cases hs:c.sup.isEmpty with
 |true=>exact UW (t:=U c.nm) (zC h.nm) main
 |false=>
  simp only[cond_false,List.append_assoc,List.cons_append,List.nil_append]
  have hu:WO c.sup=true:=by
   rcases h.sup with h0|h0
   ·rw[h0]at hs;cases hs
   ·exact h0
  exact UW (t:=U c.nm) (zC h.nm) (UW (t:=W Fv) (Dn (by decide)) (UW (t:=U c.sup) (zC hu) main))
def Bu(H:Heap)(n b:Nat)(l:Bs):Prop:=b<n/\∃j,T.get H b=some (.VT 66 5 l.length (enc l) j)/\(l=[]∨b<j)
theorem Bu.kp{H H':Heap}{n n' b:Nat}{l:Bs}(h:Bu H n b l)(f:Kp H n H' n'):Bu H' n' b l:=by
 obtain⟨h1,j,h2,h3⟩:=h
 exact⟨by have:=f.le;omega,j,(f.same b h1).trans h2,h3⟩
theorem Zo(ls:List Bs)(j:Nat):(ls.take j).flatten.length<=ls.flatten.length:=by
 have h:ls.flatten=(ls.take j).flatten++(ls.drop j).flatten:=by rw[<-List.flatten_append,List.take_append_drop]
 rw[h,List.length_append];omega
theorem AIp:∀d,Lib.repeatL [9] d=tabs d
 |0=>rfl
 |d+1=>by
  show[9]++Lib.repeatL [9] d=_
  rw[AIp d];rfl
theorem ACq(d:Nat):APw (.int .i64 (.ofNat 0) 0) (.int .i64 (.ofNat d) 0)=some (.int .i64 (.ofNat d) 0):=by
 cases d with
 |zero=>rfl
 |succ d=>rfl
section
variable{G:AV}{H:Heap}{n:Nat}{k:KV}
theorem AAP{d:Nat}(hd:d<=100000000000)(hk:k (sB (tabs d)) H n):Runs F G Xe [.str 1 9,.int .i64 (.ofNat d) 0] H n k:=by
 refine AAg zB ?_
 show En (decide (d<=9223372036854775807/\1*d<=Z5)) (k (.str (ALa (KU [9]) d).1 (ALa (KU [9]) d).2) H n)
 rw[AEp,AIp,decide_eq_true (show d<=9223372036854775807/\1*d<=Z5 from⟨by omega,by unfold Z5;omega⟩)]
 exact hk
theorem AQ0{P:KV}(h:∀H',Kp H n H' (n+1)->Bu H' (n+1) n []->P (.ptr n 0) H' (n+1)):DY (AQO 66 5 E0) H n P:=by
 rw[AZl]
 exact h _ ((Kp.refl H n).new _ (Nat.le_refl _) (by omega)) ⟨by omega,0,T.DJ ..,.inl rfl⟩
theorem ou{b:Nat}{l s:Bs}(h:Bu H n b l)(hs:l.length+s.length<=100000000000)(hk:∀v H',Kp H b H' (n+1)->Bu H' (n+1) b (l++s)->k v H' (n+1)):Runs F G CQ [.ptr b 0,sB s] H n k:=by
 obtain⟨h1,j,h2,h3⟩:=h
 refine AAg XR ?_
 show(match T.get H b with
  |some (.VT t' e' l c j)=>En (decide (t'=66/\e'=5/\l+s.length<=Z5)) (k (.J4 [.int .i64 (.ofNat s.length) 0,.AHW]) (T.set (T.set (bif decide (l=0)then H else T.set H j .dead) n (.own b)) b (.VT 66 5 (zH (l,c) (s.length,enc s)).1 (zH (l,c) (s.length,enc s)).2 n)) (n+1))
  |_=>False)
 rw[h2]
 show En (decide (66=66/\5=5/\l.length+s.length<=Z5)) (k (.J4 [.int .i64 (.ofNat s.length) 0,.AHW]) (T.set (T.set (bif decide (l.length=0)then H else T.set H j .dead) n (.own b)) b (.VT 66 5 (zH (KU l) (KU s)).1 (zH (KU l) (KU s)).2 n)) (n+1))
 rw[pR,decide_eq_true (show 66=66/\5=5/\l.length+s.length<=Z5 from⟨rfl,rfl,by unfold Z5;omega⟩)]
 refine hk _ _ ⟨by omega,λid hid=>?_⟩ ⟨by omega,n,T.DJ ..,.inr h1⟩
 rw[T.BA _ _ (by omega),T.BA _ _ (by omega)]
 cases hl:decide (l.length=0)with
 |true=>rfl
 |false=>
  have hj:b<j:=by
   rcases h3 with rfl|h3
   ·cases hl
   ·exact h3
  show T.get (T.set H j .dead) id=_
  rw[T.BA _ _ (by omega)]
theorem AOs{b:Nat}{l:Bs}(h:Bu H n b l)(hk:∀H',Kp H b H' n->k (sB l) H' n):Runs F G Nl [.ptr b 0] H n k:=by
 obtain⟨h1,j,h2,h3⟩:=h
 refine AAg aS ?_
 show(match T.get H b with
  |some (.VT t' e' l c _)=>En (decide (t'=66/\e'=5)) (k (.str l c) (T.set H b .dead) n)
  |_=>False)
 rw[h2]
 exact hk _ ⟨by omega,λid hid=>T.BA _ _ (by omega)⟩
theorem AGm{t:Ty}(ht:t.nm.length<=100000000000)(hk:∀H',Kp H n H' (n+1)->k (sB (nG t)) H' (n+1)):Runs F G QO [.agg (tyC t)] H n k:=by
 refine Am (s:=Ho (Um lfp G)) XW (by obtain⟨h,o⟩:=ABh Ap G;rw[XW]at h;cases h;exact o) ?_
 show Um lfp G (Runs F G) (.agg (tyC t)) H n k
 delta Um
 refine Dk λH1 f1 g1=>?_
 refine AB (AZ ..) (AB (v:=.bool t.arr) (AQ g1 rfl) ?_)
 have hk:=hk _ f1
 unfold nG at hk
 cases ha:t.arr with
 |true=>
  rw[ha]at hk
  rw[Ah]
  refine AB (AZ ..) (AB (v:=sB t.nm) (AQ g1 rfl) ?_)
  rw[show V.str 2 23899=sB (GL++F8)from rfl]
  exact AB (BX (by show t.nm.length+2<_;omega)) hk
 |false=>
  rw[ha]at hk
  rw[Aq]
  exact AB (AZ ..) (AB (v:=sB t.nm) (AQ g1 rfl) hk)
def Vh(G:AV)(e:St):Prop:=∀(H:Heap) (n d:Nat) (c:LV) (A:Nat->Prop) (k:KV),MX G H A c e->(∀id,A id->id<n)->(textS d e).length<=100000000000->(∀H' n',Kp H n H' n'->k (sB (textS d e)) H' n')->Runs F G mY [.agg c,.int .i64 (.ofNat d) 0] H n k
theorem TA.at{A:Nat->Prop}:∀{cs:D5} {es:List St} {i:Nat} {e:St},TA G H A cs es->es[i]? =some e->∃c,cs[i]? =some c/\MX G H A c e
 |_,_,0,_,.cons h _,he=>⟨_,rfl,by cases he;exact h⟩
 |_,_,i+1,_,.cons _ t,he=>TA.at t (i:=i) he
theorem ANN(d:Nat)(s:St):d<=(textS d s).length:=by
 obtain⟨k,nm,ty,es,th,el⟩:=s
 rw[DT]
 unfold APd tabs
 rw[List.length_append,List.length_replicate];omega
theorem AJM(d:Nat):∀ss:List St,ss.length<=(ss.map (textS (d+1))).flatten.length
 |[]=>Nat.le_refl _
 |s::ss=>by
  have h1:=ANN (d+1) s
  have h2:=AJM d ss
  simp only[List.map_cons,List.flatten_cons,List.length_append,List.length_cons];omega
theorem AI0{v:V}{ss:List St}{d:Nat}{cs:D5}{A:Nat->Prop}(hel:El G H v 9 cs)(hva:∀id,v.Qa=some id->A id)(hc:TA G H A cs ss)(hA:∀id,A id->id<n)(ht:∀x∈ss,Vh G x)(hl:(HY d (ss.map (textS (d+1)))).length<=100000000000)
 (hk:∀H' n',Kp H n H' n'->k (sB (HY d (ss.map (textS (d+1))))) H' n'):Runs F G YN [v,.int .i64 (.ofNat d) 0] H n k:=by
 have hl2:=hl
 unfold HY tabs at hl2
 simp only[List.length_append,List.length_replicate]at hl2
 have hn0:=AJM d ss
 have hw:OC.length=1/\m_rc.length=1/\([10]:Bs).length=1:=⟨rfl,rfl,rfl⟩
 refine Am (s:=QD (dH lfp G)) jg (by obtain⟨h,o⟩:=AGN Ap G;rw[jg]at h;cases h;exact o) ?_
 show dH lfp G (Runs F G) v (.int .i64 (.ofNat d) 0) H n k
 delta dH
 refine AQ0 λH1 f1 b1=>?_
 rw[show V.str 2 2683=sB (OC++[10])from rfl]
 refine ou b1 (by show 0+2<=_;omega) λ_ H2 f2 b2=>?_
 have f2:Kp H n H2 (n+1+1):=⟨by omega,λid hid=>(f2.same id hid).trans (f1.same id hid)⟩
 refine AB (hel.kp (λid hid=>hA id (hva id hid)) f2).len ?_
 rw[hc.len]
 refine EP (N:=ss.length) (J:=λj q=>∃H' n',q=(.int .i64 (.ofNat d) 0,.ptr n 0,v,.int .i64 (.ofNat ss.length) 0,.int .i64 (.ofNat j) 0,H',n')/\Kp H n H' n'/\Bu H' n' n ((OC++[10])++((ss.map (textS (d+1))).take j).flatten)) ?_ ?_ ⟨H2,_,rfl,f2,by simpa using b2⟩
 ·rintro I j q hlt ⟨H3,n3,rfl,f3,b3⟩ ih
  show Rn lfp G (Runs F G) k I (.int .i64 (.ofNat d) 0) (.ptr n 0) v (.int .i64 (.ofNat ss.length) 0) (.int .i64 (.ofNat j) 0) H3 n3
  delta Rn
  have hn3:=f3.le
  have hv3:El G H3 v 9 cs:=hel.kp (λid hid=>hA id (hva id hid)) f3
  have hc3:TA G H3 A cs ss:=hc.mono (λ_ h=>h) λid h=>f3.same id (hA id h)
  obtain⟨cx,hcx,hx⟩:=hc3.at (List.getElem?_eq_getElem hlt)
  have htx:=ht _ (List.getElem_mem hlt)
  obtain⟨p,hp,hld⟩:=hv3.at hcx
  rw[ES,Au,decide_eq_true hlt,Ah]
  refine AB hp (AB (Jl hld) ?_)
  refine Az rfl λH4 f4 g4=>?_
  refine CG g4 rfl hx.len (by omega) λH5 g5 t5=>?_
  have f5:Kp H3 n3 H5 (n3+1):=⟨f4.le,λid hid=>(t5 id (by omega)).trans (f4.same id hid)⟩
  refine AB (Ai (m:=9) g5 (by omega) hx.len) (AB (Ef (by omega)) ?_)
  have hx:MX G H5 A cx ss[j]:=hx.mono (λ_ h=>h) λid h=>f5.same id (by have:=hA id h;omega)
  have e1:((ss.map (textS (d+1))).take (j+1)).flatten=((ss.map (textS (d+1))).take j).flatten++textS (d+1) ss[j]:=by
   rw[List.take_succ_eq_append_getElem (by rw[List.length_map];exact hlt),List.flatten_append,List.getElem_map];simp
  have e2:=Zo (ss.map (textS (d+1))) (j+1)
  rw[e1,List.length_append]at e2
  refine htx H5 (n3+1) (d+1) cx A _ hx (λid h=>by have:=hA id h;omega) (by omega) λH6 n6 f6=>?_
  have b6:=b3.kp (f5.trans f6)
  have hn6:=f6.le
  refine ou b6 (by simp only[List.length_append];omega) λ_ H7 f7 b7=>?_
  refine AB (Ef (by omega)) ?_
  refine ih _ ⟨H7,n6+1,rfl,⟨by omega,λid hid=>(f7.same id hid).trans ((f6.same id (by omega)).trans ((f5.same id (by omega)).trans (f3.same id hid)))⟩,?_⟩
  rw[e1,<-List.append_assoc]
  exact b7
 ·rintro I q ⟨H3,n3,rfl,f3,b3⟩
  show Rn lfp G (Runs F G) k I (.int .i64 (.ofNat d) 0) (.ptr n 0) v (.int .i64 (.ofNat ss.length) 0) (.int .i64 (.ofNat ss.length) 0) H3 n3
  delta Rn
  rw[ES,Au,decide_eq_false (Nat.lt_irrefl _),Aq]
  show Vt lfp G (Runs F G) k (.int .i64 (.ofNat d) 0) (.ptr n 0) H3 n3
  delta Vt
  rw[show(ss.map (textS (d+1))).take ss.length=ss.map (textS (d+1))by rw[<-List.length_map (f:=textS (d+1)),List.take_length]]at b3
  refine AOs b3 λH4 f4=>?_
  refine AAP (by omega) ?_
  refine AB (BX (by simp only[List.length_append,tabs,List.length_replicate];omega)) ?_
  rw[show V.str 1 125=sB m_rc from rfl]
  refine AB (BX (by simp only[List.length_append,tabs,List.length_replicate];omega)) ?_
  have:=hk H4 n3 ⟨f3.le,λid hid=>(f4.same id hid).trans (f3.same id hid)⟩
  unfold HY at this
  simpa only[List.append_assoc]using this
end
theorem JB(d:Nat):(tabs d).length=d:=List.length_replicate
theorem AIi{G:AV}{H:Heap}{v:V}{z:Nat}{LS:D5}(h:El G H v z LS)(hk:KS v):BU v v=true:=by
 obtain⟨_,h⟩:=h
 cases v<;>first|exact hk.1|cases h
theorem AC0(t:Ty):t.nm.length<=(nG t).length:=by
 unfold nG
 cases t.arr with
 |true=>show _<=(t.nm++(GL++F8)).length;rw[List.length_append];omega
 |false=>exact Nat.le_refl _
theorem MX.inv{G:AV}{H:Heap}{A:Nat->Prop}{c:LV}{does:Nat}{nm:Bs}{ty:Ty}{es:List Ex}{th el:List St}(h:MX G H A c (.mk does nm ty es th el)):
 ∃line col ve vt vl ct cl,c=gI does line col nm ty ve vt vl/\fO G H A ve es/\El G H vt 9 ct/\KS vt/\(∀id,vt.Qa=some id->A id)/\TA G H A ct th/\El G H vl 9 cl/\KS vl/\(∀id,vl.Qa=some id->A id)/\TA G H A cl el:=by
 cases h with
 |mk _ _ _ line col he ht kt a1 st hl kl a2 sl=>exact⟨line,col,_,_,_,_,_,rfl,he,ht,kt,a1,st,hl,kl,a2,sl⟩
theorem MX.vs{G:AV}{H:Heap}{A:Nat->Prop}{c:LV}{e:St}(h:MX G H A c e):BU (.agg c) (.agg c)=true:=by
 cases h with
 |mk does nm ty line col he ht kt a1 st hl kl a2 sl=>
  obtain⟨_,_,ke,_⟩:=he
  refine AEB λv hv'=>?_
  simp only[gI,List.mem_cons,List.not_mem_nil,or_false]at hv'
  rcases hv' with rfl|rfl|rfl|rfl|rfl|rfl|rfl|rfl|rfl
  ·exact kS ..
  ·exact kS ..
  ·exact kS ..
  ·exact AEH ..
  ·exact AEH ..
  ·exact lF ..
  ·exact ke.1
  ·exact kt.1
  ·exact kl.1
section
variable{G:AV}
theorem ZR{H:Heap}{n i:Nat}{k:KV}{c:LV}{A:Nat->Prop}{does:Nat}{nm:Bs}{ty:Ty}{es:List Ex}{th el:List St}{e:Ex}(h:MX G H A c (.mk does nm ty es th el))(hA:∀id,A id->id<n)(hi:es[i]? =some e)(ht:E8 G e)(hl:(textE e).length<=100000000000)
 (hk:∀H' n',Kp H n H' n'->k (sB (textE e)) H' n'):Runs F G G5 [.agg c,.int .i64 (.ofNat i) 0] H n k:=by
 obtain⟨line,col,ve,vt,vl,ct,cl,rfl,he,_⟩:=h.inv
 refine Am (s:=QD (Ug lfp G)) XK (by obtain⟨h,o⟩:=AA4 Ap G;rw[XK]at h;cases h;exact o) ?_
 show Ug lfp G (Runs F G) (.agg (gI does line col nm ty ve vt vl)) (.int .i64 (.ofNat i) 0) H n k
 delta Ug
 refine Dk λH1 f1 g1=>?_
 have he:fO G H1 A ve es:=he.mono (λ_ h=>h) λid h=>f1.same id (hA id h)
 obtain⟨cs,hel,_,_,_,_,hc⟩:=he
 obtain⟨hlt,_⟩:=List.getElem?_eq_some_iff.1 hi
 have hlt:i<es.length:=hlt
 obtain⟨cx,hcx,hx⟩:=hc.at hi
 obtain⟨p,hp,hld⟩:=hel.at hcx
 refine AB (AZ ..) (AB (v:=ve) (AQ g1 rfl) (AB hel.len (AB (ES ..) ?_)))
 rw[hc.len,decide_eq_true hlt,Ah]
 refine AB (AZ ..) (AB (v:=ve) (AQ g1 rfl) (AB hp (AB (Jl hld) ?_)))
 exact ht H1 (n+1) cx A _ hx (λid h=>by have:=hA id h;omega) hl λH' n' f=>hk _ _ (f1.trans f)
theorem AY9{l:Bs}{ty:Ty}{a:Ex}(iha:E8 G a):Vh G (.mk 1 l ty [a] [] []):=by
 intro H n d c A k hx0 hA0 hl hk
 have e0:textS d (.mk 1 l ty [a] [] [])=tabs d++(O0++([32]++(nG ty++([32]++(l++([32]++(EG++([32]++(textE a++(Aw++[10])))))))))):=by rw[DT];rfl
 rw[e0]at hl hk
 have htd:=JB d
 try simp only[List.length_append]at hl
 obtain⟨line,col,ve,vt,vl,ct,cl,rfl,he,ht,kt,hta,hct,hel,kl,hela,hcl⟩:=hx0.inv
 refine Am (s:=QD (BR lfp G)) Cm (by obtain⟨h,o⟩:=Hz Ap G;rw[Cm]at h;cases h;exact o) ?_
 show BR lfp G (Runs F G) (.agg (gI 1 line col l ty ve vt vl)) (.int .i64 (.ofNat d) 0) H n k
 delta BR
 refine Dk λH1 f1 g1=>?_
 have hx1:=hx0.mono (λ_ h=>h) λid h=>f1.same id (hA0 id h)
 have hA1:∀id,A id->id<n+1:=λid h=>by have:=hA0 id h;omega
 refine AB (ACq d) (AAP (by omega) ?_)
 refine AB (AZ ..) (AB (AQ g1 rfl) ?_)
 repeat refine Iu (by decide) ?_
 refine GY ?_
 rw[show V.str 4 544499052=sB (O0++[32])from rfl]
 refine AB (BX (a:=tabs d) (b:=O0++[32]) (by first|omega|(simp only[List.length_append];omega))) ?_
 refine AB (AZ ..) (AB (v:=.agg (tyC ty)) (ML g1 (by omega) (by show 4+2<=9;omega)) ?_)
 refine AB (AZ ..) (AB (AQ g1 rfl) ?_)
 refine AB (Ai (m:=9) g1 (by omega) rfl) ?_
 have hty:=AC0 ty
 refine AGm (by omega) λH2 f2=>?_
 have hn2:=f2.le
 have g2:=f2.get g1 (by omega)
 have f2:=f1.trans f2
 have hx2:=hx0.mono (λ_ h=>h) λid h=>f2.same id (hA0 id h)
 have hA2:∀id,A id->id<n+1+1:=λid h=>by have:=hA0 id h;omega
 refine AB (AQ g2 rfl) (Cc (VK _) ?_)
 refine AB (Ai (m:=9) g2 (by omega) rfl) (Cc hx2.vs ?_)
 refine AB (BX (a:=tabs d++(O0++[32])) (b:=nG ty) (by first|omega|(simp only[List.length_append];omega))) ?_
 refine AB (BX (a:=(tabs d++(O0++[32]))++nG ty) (b:=[32]) (by first|omega|(simp only[List.length_append];omega))) ?_
 refine AB (BX (a:=((tabs d++(O0++[32]))++nG ty)++[32]) (b:=l) (by first|omega|(simp only[List.length_append];omega))) ?_
 rw[show V.str 3 2112800=sB ([32]++(EG++[32]))from rfl]
 refine AB (BX (a:=(((tabs d++(O0++[32]))++nG ty)++[32])++l) (b:=[32]++(EG++[32])) (by first|omega|(simp only[List.length_append];omega))) ?_
 refine ZR (i:=0) (e:=a) hx2 hA2 rfl iha (by omega) λH3 n3 f3=>?_
 have hn3:=f3.le
 have g3:=f3.get g2 (by omega)
 have f3:=f2.trans f3
 have hx3:=hx0.mono (λ_ h=>h) λid h=>f3.same id (hA0 id h)
 have hA3:∀id,A id->id<n3:=λid h=>by have:=hA0 id h;omega
 refine AB (AQ g3 rfl) (Cc (VK _) ?_)
 refine AB (BX (a:=((((tabs d++(O0++[32]))++nG ty)++[32])++l)++([32]++(EG++[32]))) (b:=textE a) (by first|omega|(simp only[List.length_append];omega))) ?_
 rw[show V.str 2 2619=sB (Aw++[10])from rfl]
 refine AB (BX (a:=(((((tabs d++(O0++[32]))++nG ty)++[32])++l)++([32]++(EG++[32])))++textE a) (b:=Aw++[10]) (by first|omega|(simp only[List.length_append];omega))) ?_
 have hk:=hk _ _ f3
 try simp only[List.append_assoc]at hk
 try simp only[List.append_assoc]
 exact hk
theorem AWx{a b:Ex}(iha:E8 G a)(ihb:E8 G b):Vh G (.mk 2 [] JY [a,b] [] []):=by
 intro H n d c A k hx0 hA0 hl hk
 have e0:textS d (.mk 2 [] JY [a,b] [] [])=tabs d++(textE a++([32]++(EG++([32]++(textE b++(Aw++[10])))))):=by rw[DT];rfl
 rw[e0]at hl hk
 have htd:=JB d
 try simp only[List.length_append]at hl
 obtain⟨line,col,ve,vt,vl,ct,cl,rfl,he,ht,kt,hta,hct,hel,kl,hela,hcl⟩:=hx0.inv
 refine Am (s:=QD (BR lfp G)) Cm (by obtain⟨h,o⟩:=Hz Ap G;rw[Cm]at h;cases h;exact o) ?_
 show BR lfp G (Runs F G) (.agg (gI 2 line col [] JY ve vt vl)) (.int .i64 (.ofNat d) 0) H n k
 delta BR
 refine Dk λH1 f1 g1=>?_
 have hx1:=hx0.mono (λ_ h=>h) λid h=>f1.same id (hA0 id h)
 have hA1:∀id,A id->id<n+1:=λid h=>by have:=hA0 id h;omega
 refine AB (ACq d) (AAP (by omega) ?_)
 refine AB (AZ ..) (AB (AQ g1 rfl) ?_)
 repeat refine Iu (by decide) ?_
 refine GY ?_
 refine AB (Ai (m:=9) g1 (by omega) rfl) ?_
 refine AB (Ai (m:=9) g1 (by omega) rfl) ?_
 refine ZR (i:=0) (e:=a) hx1 hA1 rfl iha (by omega) λH2 n2 f2=>?_
 have hn2:=f2.le
 have g2:=f2.get g1 (by omega)
 have f2:=f1.trans f2
 have hx2:=hx0.mono (λ_ h=>h) λid h=>f2.same id (hA0 id h)
 have hA2:∀id,A id->id<n2:=λid h=>by have:=hA0 id h;omega
 refine AB (Ai (m:=9) g2 (by omega) rfl) (Cc hx2.vs ?_)
 refine AB (BX (a:=tabs d) (b:=textE a) (by first|omega|(simp only[List.length_append];omega))) ?_
 rw[show V.str 3 2112800=sB ([32]++(EG++[32]))from rfl]
 refine AB (BX (a:=tabs d++textE a) (b:=[32]++(EG++[32])) (by first|omega|(simp only[List.length_append];omega))) ?_
 refine ZR (i:=1) (e:=b) hx2 hA2 rfl ihb (by omega) λH3 n3 f3=>?_
 have hn3:=f3.le
 have g3:=f3.get g2 (by omega)
 have f3:=f2.trans f3
 have hx3:=hx0.mono (λ_ h=>h) λid h=>f3.same id (hA0 id h)
 have hA3:∀id,A id->id<n3:=λid h=>by have:=hA0 id h;omega
 refine AB (BX (a:=(tabs d++textE a)++([32]++(EG++[32]))) (b:=textE b) (by first|omega|(simp only[List.length_append];omega))) ?_
 rw[show V.str 2 2619=sB (Aw++[10])from rfl]
 refine AB (BX (a:=((tabs d++textE a)++([32]++(EG++[32])))++textE b) (b:=Aw++[10]) (by first|omega|(simp only[List.length_append];omega))) ?_
 have hk:=hk _ _ f3
 try simp only[List.append_assoc]at hk
 try simp only[List.append_assoc]
 exact hk
theorem AVv{a:Ex}(iha:E8 G a):Vh G (.mk 6 [] JY [a] [] []):=by
 intro H n d c A k hx0 hA0 hl hk
 have e0:textS d (.mk 6 [] JY [a] [] [])=tabs d++(Eo++([32]++(textE a++(Aw++[10])))):=by rw[DT];rfl
 rw[e0]at hl hk
 have htd:=JB d
 try simp only[List.length_append]at hl
 obtain⟨line,col,ve,vt,vl,ct,cl,rfl,he,ht,kt,hta,hct,hel,kl,hela,hcl⟩:=hx0.inv
 refine Am (s:=QD (BR lfp G)) Cm (by obtain⟨h,o⟩:=Hz Ap G;rw[Cm]at h;cases h;exact o) ?_
 show BR lfp G (Runs F G) (.agg (gI 6 line col [] JY ve vt vl)) (.int .i64 (.ofNat d) 0) H n k
 delta BR
 refine Dk λH1 f1 g1=>?_
 have hx1:=hx0.mono (λ_ h=>h) λid h=>f1.same id (hA0 id h)
 have hA1:∀id,A id->id<n+1:=λid h=>by have:=hA0 id h;omega
 refine AB (ACq d) (AAP (by omega) ?_)
 refine AB (AZ ..) (AB (AQ g1 rfl) ?_)
 repeat refine Iu (by decide) ?_
 refine GY ?_
 rw[show V.str 7 9128637130630514=sB (Eo++[32])from rfl]
 refine AB (BX (a:=tabs d) (b:=Eo++[32]) (by first|omega|(simp only[List.length_append];omega))) ?_
 refine AB (Ai (m:=9) g1 (by omega) rfl) ?_
 refine ZR (i:=0) (e:=a) hx1 hA1 rfl iha (by omega) λH2 n2 f2=>?_
 have hn2:=f2.le
 have g2:=f2.get g1 (by omega)
 have f2:=f1.trans f2
 have hx2:=hx0.mono (λ_ h=>h) λid h=>f2.same id (hA0 id h)
 have hA2:∀id,A id->id<n2:=λid h=>by have:=hA0 id h;omega
 refine AB (BX (a:=tabs d++(Eo++[32])) (b:=textE a) (by first|omega|(simp only[List.length_append];omega))) ?_
 rw[show V.str 2 2619=sB (Aw++[10])from rfl]
 refine AB (BX (a:=(tabs d++(Eo++[32]))++textE a) (b:=Aw++[10]) (by first|omega|(simp only[List.length_append];omega))) ?_
 have hk:=hk _ _ f2
 try simp only[List.append_assoc]at hk
 try simp only[List.append_assoc]
 exact hk
theorem AVo{a:Ex}(iha:E8 G a):Vh G (.mk 7 [] JY [a] [] []):=by
 intro H n d c A k hx0 hA0 hl hk
 have e0:textS d (.mk 7 [] JY [a] [] [])=tabs d++(Fp++([32]++(textE a++(Aw++[10])))):=by rw[DT];rfl
 rw[e0]at hl hk
 have htd:=JB d
 try simp only[List.length_append]at hl
 obtain⟨line,col,ve,vt,vl,ct,cl,rfl,he,ht,kt,hta,hct,hel,kl,hela,hcl⟩:=hx0.inv
 refine Am (s:=QD (BR lfp G)) Cm (by obtain⟨h,o⟩:=Hz Ap G;rw[Cm]at h;cases h;exact o) ?_
 show BR lfp G (Runs F G) (.agg (gI 7 line col [] JY ve vt vl)) (.int .i64 (.ofNat d) 0) H n k
 delta BR
 refine Dk λH1 f1 g1=>?_
 have hx1:=hx0.mono (λ_ h=>h) λid h=>f1.same id (hA0 id h)
 have hA1:∀id,A id->id<n+1:=λid h=>by have:=hA0 id h;omega
 refine AB (ACq d) (AAP (by omega) ?_)
 refine AB (AZ ..) (AB (AQ g1 rfl) ?_)
 repeat refine Iu (by decide) ?_
 refine GY ?_
 rw[show V.str 6 35684440699504=sB (Fp++[32])from rfl]
 refine AB (BX (a:=tabs d) (b:=Fp++[32]) (by first|omega|(simp only[List.length_append];omega))) ?_
 refine AB (Ai (m:=9) g1 (by omega) rfl) ?_
 refine ZR (i:=0) (e:=a) hx1 hA1 rfl iha (by omega) λH2 n2 f2=>?_
 have hn2:=f2.le
 have g2:=f2.get g1 (by omega)
 have f2:=f1.trans f2
 have hx2:=hx0.mono (λ_ h=>h) λid h=>f2.same id (hA0 id h)
 have hA2:∀id,A id->id<n2:=λid h=>by have:=hA0 id h;omega
 refine AB (BX (a:=tabs d++(Fp++[32])) (b:=textE a) (by first|omega|(simp only[List.length_append];omega))) ?_
 rw[show V.str 2 2619=sB (Aw++[10])from rfl]
 refine AB (BX (a:=(tabs d++(Fp++[32]))++textE a) (b:=Aw++[10]) (by first|omega|(simp only[List.length_append];omega))) ?_
 have hk:=hk _ _ f2
 try simp only[List.append_assoc]at hk
 try simp only[List.append_assoc]
 exact hk
theorem AXW{a:Ex}(iha:E8 G a):Vh G (.mk 3 [] JY [a] [] []):=by
 intro H n d c A k hx0 hA0 hl hk
 have e0:textS d (.mk 3 [] JY [a] [] [])=tabs d++(textE a++(Aw++[10])):=by rw[DT];rfl
 rw[e0]at hl hk
 have htd:=JB d
 try simp only[List.length_append]at hl
 obtain⟨line,col,ve,vt,vl,ct,cl,rfl,he,ht,kt,hta,hct,hel,kl,hela,hcl⟩:=hx0.inv
 refine Am (s:=QD (BR lfp G)) Cm (by obtain⟨h,o⟩:=Hz Ap G;rw[Cm]at h;cases h;exact o) ?_
 show BR lfp G (Runs F G) (.agg (gI 3 line col [] JY ve vt vl)) (.int .i64 (.ofNat d) 0) H n k
 delta BR
 refine Dk λH1 f1 g1=>?_
 have hx1:=hx0.mono (λ_ h=>h) λid h=>f1.same id (hA0 id h)
 have hA1:∀id,A id->id<n+1:=λid h=>by have:=hA0 id h;omega
 refine AB (ACq d) (AAP (by omega) ?_)
 refine AB (AZ ..) (AB (AQ g1 rfl) ?_)
 repeat refine Iu (by decide) ?_
 refine AB (Ai (m:=9) g1 (by omega) rfl) ?_
 refine ZR (i:=0) (e:=a) hx1 hA1 rfl iha (by omega) λH2 n2 f2=>?_
 have hn2:=f2.le
 have g2:=f2.get g1 (by omega)
 have f2:=f1.trans f2
 have hx2:=hx0.mono (λ_ h=>h) λid h=>f2.same id (hA0 id h)
 have hA2:∀id,A id->id<n2:=λid h=>by have:=hA0 id h;omega
 refine AB (BX (a:=tabs d) (b:=textE a) (by first|omega|(simp only[List.length_append];omega))) ?_
 rw[show V.str 2 2619=sB (Aw++[10])from rfl]
 refine AB (BX (a:=tabs d++textE a) (b:=Aw++[10]) (by first|omega|(simp only[List.length_append];omega))) ?_
 have hk:=hk _ _ f2
 try simp only[List.append_assoc]at hk
 try simp only[List.append_assoc]
 exact hk
theorem ATm{a:Ex}(iha:E8 G a){th:List St}(iht:∀x∈th,Vh G x):Vh G (.mk 5 [] JY [a] th []):=by
 intro H n d c A k hx0 hA0 hl hk
 have e0:textS d (.mk 5 [] JY [a] th [])=tabs d++(Fe++([32]++(textE a++([32]++(HY d (th.map (textS (d+1)))++[10]))))):=by rw[DT];rfl
 rw[e0]at hl hk
 have htd:=JB d
 try simp only[List.length_append]at hl
 obtain⟨line,col,ve,vt,vl,ct,cl,rfl,he,ht,kt,hta,hct,hel,kl,hela,hcl⟩:=hx0.inv
 refine Am (s:=QD (BR lfp G)) Cm (by obtain⟨h,o⟩:=Hz Ap G;rw[Cm]at h;cases h;exact o) ?_
 show BR lfp G (Runs F G) (.agg (gI 5 line col [] JY ve vt vl)) (.int .i64 (.ofNat d) 0) H n k
 delta BR
 refine Dk λH1 f1 g1=>?_
 have hx1:=hx0.mono (λ_ h=>h) λid h=>f1.same id (hA0 id h)
 have hA1:∀id,A id->id<n+1:=λid h=>by have:=hA0 id h;omega
 refine AB (ACq d) (AAP (by omega) ?_)
 refine AB (AZ ..) (AB (AQ g1 rfl) ?_)
 repeat refine Iu (by decide) ?_
 refine GY ?_
 rw[show V.str 6 35619982633079=sB (Fe++[32])from rfl]
 refine AB (BX (a:=tabs d) (b:=Fe++[32]) (by first|omega|(simp only[List.length_append];omega))) ?_
 refine AB (Ai (m:=9) g1 (by omega) rfl) ?_
 refine AB (AZ ..) (AB (v:=vt) (AQ g1 rfl) ?_)
 refine AB (ACq d) ?_
 refine ZR (i:=0) (e:=a) hx1 hA1 rfl iha (by omega) λH2 n2 f2=>?_
 have hn2:=f2.le
 have g2:=f2.get g1 (by omega)
 have f2:=f1.trans f2
 have hx2:=hx0.mono (λ_ h=>h) λid h=>f2.same id (hA0 id h)
 have hA2:∀id,A id->id<n2:=λid h=>by have:=hA0 id h;omega
 refine AB (v:=vt) (AQ g2 rfl) (Cc (AIi ht kt) ?_)
 refine AB (BX (a:=tabs d++(Fe++[32])) (b:=textE a) (by first|omega|(simp only[List.length_append];omega))) ?_
 refine AB (BX (a:=(tabs d++(Fe++[32]))++textE a) (b:=[32]) (by first|omega|(simp only[List.length_append];omega))) ?_
 refine AI0 (ht.same λid hid=>f2.same id (hA0 id (hta id hid))) hta (hct.mono (λ_ h=>h) λid h=>f2.same id (hA0 id h)) hA2 iht (by omega) λH3 n3 f3=>?_
 have hn3:=f3.le
 have g3:=f3.get g2 (by omega)
 have f3:=f2.trans f3
 have hx3:=hx0.mono (λ_ h=>h) λid h=>f3.same id (hA0 id h)
 have hA3:∀id,A id->id<n3:=λid h=>by have:=hA0 id h;omega
 refine AB (BX (a:=((tabs d++(Fe++[32]))++textE a)++[32]) (b:=HY d (th.map (textS (d+1)))) (by first|omega|(simp only[List.length_append];omega))) ?_
 refine AB (BX (a:=(((tabs d++(Fe++[32]))++textE a)++[32])++HY d (th.map (textS (d+1)))) (b:=[10]) (by first|omega|(simp only[List.length_append];omega))) ?_
 have hk:=hk _ _ f3
 try simp only[List.append_assoc]at hk
 try simp only[List.append_assoc]
 exact hk
theorem ASl{a:Ex}(iha:E8 G a){th:List St}(iht:∀x∈th,Vh G x):Vh G (.mk 4 [] JY [a] th []):=by
 intro H n d c A k hx0 hA0 hl hk
 have e0:textS d (.mk 4 [] JY [a] th [])=tabs d++(Jr++([32]++(textE a++([32]++(HY d (th.map (textS (d+1)))++[10]))))):=by rw[DT];rfl
 rw[e0]at hl hk
 have htd:=JB d
 try simp only[List.length_append]at hl
 obtain⟨line,col,ve,vt,vl,ct,cl,rfl,he,ht,kt,hta,hct,hel,kl,hela,hcl⟩:=hx0.inv
 refine Am (s:=QD (BR lfp G)) Cm (by obtain⟨h,o⟩:=Hz Ap G;rw[Cm]at h;cases h;exact o) ?_
 show BR lfp G (Runs F G) (.agg (gI 4 line col [] JY ve vt vl)) (.int .i64 (.ofNat d) 0) H n k
 delta BR
 refine Dk λH1 f1 g1=>?_
 have hx1:=hx0.mono (λ_ h=>h) λid h=>f1.same id (hA0 id h)
 have hA1:∀id,A id->id<n+1:=λid h=>by have:=hA0 id h;omega
 refine AB (ACq d) (AAP (by omega) ?_)
 refine AB (AZ ..) (AB (AQ g1 rfl) ?_)
 repeat refine Iu (by decide) ?_
 refine GY ?_
 rw[show V.str 3 2123369=sB (Jr++[32])from rfl]
 refine AB (BX (a:=tabs d) (b:=Jr++[32]) (by first|omega|(simp only[List.length_append];omega))) ?_
 refine AB (Ai (m:=9) g1 (by omega) rfl) ?_
 refine AB (AZ ..) (AB (v:=vt) (AQ g1 rfl) ?_)
 refine AB (ACq d) ?_
 refine ZR (i:=0) (e:=a) hx1 hA1 rfl iha (by omega) λH2 n2 f2=>?_
 have hn2:=f2.le
 have g2:=f2.get g1 (by omega)
 have f2:=f1.trans f2
 have hx2:=hx0.mono (λ_ h=>h) λid h=>f2.same id (hA0 id h)
 have hA2:∀id,A id->id<n2:=λid h=>by have:=hA0 id h;omega
 refine AB (v:=vt) (AQ g2 rfl) (Cc (AIi ht kt) ?_)
 refine AB (BX (a:=tabs d++(Jr++[32])) (b:=textE a) (by first|omega|(simp only[List.length_append];omega))) ?_
 refine AB (BX (a:=(tabs d++(Jr++[32]))++textE a) (b:=[32]) (by first|omega|(simp only[List.length_append];omega))) ?_
 refine AI0 (ht.same λid hid=>f2.same id (hA0 id (hta id hid))) hta (hct.mono (λ_ h=>h) λid h=>f2.same id (hA0 id h)) hA2 iht (by omega) λH3 n3 f3=>?_
 have hn3:=f3.le
 have g3:=f3.get g2 (by omega)
 have f3:=f2.trans f3
 have hx3:=hx0.mono (λ_ h=>h) λid h=>f3.same id (hA0 id h)
 have hA3:∀id,A id->id<n3:=λid h=>by have:=hA0 id h;omega
 refine AB (BX (a:=((tabs d++(Jr++[32]))++textE a)++[32]) (b:=HY d (th.map (textS (d+1)))) (by first|omega|(simp only[List.length_append];omega))) ?_
 refine AB (AZ ..) (AB (v:=vl) (AQ g3 rfl) (AB (hel.same λid hid=>f3.same id (hA0 id (hela id hid))).len (AB (Ls ..) ?_)))
 rw[hcl.len,decide_eq_false (show ¬0<([]:List St).length from Nat.lt_irrefl _),Aq]
 delta KQ
 refine AB (BX (a:=(((tabs d++(Jr++[32]))++textE a)++[32])++HY d (th.map (textS (d+1)))) (b:=[10]) (by first|omega|(simp only[List.length_append];omega))) ?_
 have hk:=hk _ _ f3
 try simp only[List.append_assoc]at hk
 try simp only[List.append_assoc]
 exact hk
theorem ATW{a:Ex}(iha:E8 G a){th:List St}(iht:∀x∈th,Vh G x){y:St}{el:List St}(ihe:∀x∈y::el,Vh G x):Vh G (.mk 4 [] JY [a] th (y::el)):=by
 intro H n d c A k hx0 hA0 hl hk
 have e0:textS d (.mk 4 [] JY [a] th (y::el))=tabs d++(Jr++([32]++(textE a++([32]++(HY d (th.map (textS (d+1)))++(([32]++(EL++([32]++HY d ((y::el).map (textS (d+1))))))++[10])))))):=by rw[DT];rfl
 rw[e0]at hl hk
 have htd:=JB d
 try simp only[List.length_append]at hl
 obtain⟨line,col,ve,vt,vl,ct,cl,rfl,he,ht,kt,hta,hct,hel,kl,hela,hcl⟩:=hx0.inv
 refine Am (s:=QD (BR lfp G)) Cm (by obtain⟨h,o⟩:=Hz Ap G;rw[Cm]at h;cases h;exact o) ?_
 show BR lfp G (Runs F G) (.agg (gI 4 line col [] JY ve vt vl)) (.int .i64 (.ofNat d) 0) H n k
 delta BR
 refine Dk λH1 f1 g1=>?_
 have hx1:=hx0.mono (λ_ h=>h) λid h=>f1.same id (hA0 id h)
 have hA1:∀id,A id->id<n+1:=λid h=>by have:=hA0 id h;omega
 refine AB (ACq d) (AAP (by omega) ?_)
 refine AB (AZ ..) (AB (AQ g1 rfl) ?_)
 repeat refine Iu (by decide) ?_
 refine GY ?_
 rw[show V.str 3 2123369=sB (Jr++[32])from rfl]
 refine AB (BX (a:=tabs d) (b:=Jr++[32]) (by first|omega|(simp only[List.length_append];omega))) ?_
 refine AB (Ai (m:=9) g1 (by omega) rfl) ?_
 refine AB (AZ ..) (AB (v:=vt) (AQ g1 rfl) ?_)
 refine AB (ACq d) ?_
 refine ZR (i:=0) (e:=a) hx1 hA1 rfl iha (by omega) λH2 n2 f2=>?_
 have hn2:=f2.le
 have g2:=f2.get g1 (by omega)
 have f2:=f1.trans f2
 have hx2:=hx0.mono (λ_ h=>h) λid h=>f2.same id (hA0 id h)
 have hA2:∀id,A id->id<n2:=λid h=>by have:=hA0 id h;omega
 refine AB (v:=vt) (AQ g2 rfl) (Cc (AIi ht kt) ?_)
 refine AB (BX (a:=tabs d++(Jr++[32])) (b:=textE a) (by first|omega|(simp only[List.length_append];omega))) ?_
 refine AB (BX (a:=(tabs d++(Jr++[32]))++textE a) (b:=[32]) (by first|omega|(simp only[List.length_append];omega))) ?_
 refine AI0 (ht.same λid hid=>f2.same id (hA0 id (hta id hid))) hta (hct.mono (λ_ h=>h) λid h=>f2.same id (hA0 id h)) hA2 iht (by omega) λH3 n3 f3=>?_
 have hn3:=f3.le
 have g3:=f3.get g2 (by omega)
 have f3:=f2.trans f3
 have hx3:=hx0.mono (λ_ h=>h) λid h=>f3.same id (hA0 id h)
 have hA3:∀id,A id->id<n3:=λid h=>by have:=hA0 id h;omega
 refine AB (BX (a:=((tabs d++(Jr++[32]))++textE a)++[32]) (b:=HY d (th.map (textS (d+1)))) (by first|omega|(simp only[List.length_append];omega))) ?_
 refine AB (AZ ..) (AB (v:=vl) (AQ g3 rfl) (AB (hel.same λid hid=>f3.same id (hA0 id (hela id hid))).len (AB (Ls ..) ?_)))
 rw[hcl.len,decide_eq_true (show 0<(y::el).length from Nat.succ_pos _),Ah]
 refine AB (AZ ..) (AB (v:=vl) (AQ g3 rfl) ?_)
 refine AB (ACq d) ?_
 refine AI0 (hel.same λid hid=>f3.same id (hA0 id (hela id hid))) hela (hcl.mono (λ_ h=>h) λid h=>f3.same id (hA0 id h)) hA3 ihe (by omega) λH4 n4 f4=>?_
 have hn4:=f4.le
 have g4:=f4.get g3 (by omega)
 have f4:=f3.trans f4
 have hx4:=hx0.mono (λ_ h=>h) λid h=>f4.same id (hA0 id h)
 have hA4:∀id,A id->id<n4:=λid h=>by have:=hA0 id h;omega
 rw[show V.str 6 35620100269344=sB ([32]++(EL++[32]))from rfl]
 refine AB (BX (a:=[32]++(EL++[32])) (b:=HY d ((y::el).map (textS (d+1)))) (by first|omega|(simp only[List.length_append];omega))) ?_
 refine AB (BX (a:=(((tabs d++(Jr++[32]))++textE a)++[32])++HY d (th.map (textS (d+1)))) (b:=([32]++(EL++[32]))++HY d ((y::el).map (textS (d+1)))) (by first|omega|(simp only[List.length_append];omega))) ?_
 delta KQ
 refine AB (BX (a:=((((tabs d++(Jr++[32]))++textE a)++[32])++HY d (th.map (textS (d+1))))++(([32]++(EL++[32]))++HY d ((y::el).map (textS (d+1))))) (b:=[10]) (by first|omega|(simp only[List.length_append];omega))) ?_
 have hk:=hk _ _ f4
 try simp only[List.append_assoc]at hk
 try simp only[List.append_assoc]
 exact hk
theorem AT5(hG:kM G){e:St}(h:WrS e):Vh G e:=by
 induction h with
 |lt hl ht he=>exact AY9 (lS hG he)
 |put ha hk hb=>exact AWx (lS hG ha) (lS hG hb)
 |ask ha hk=>exact AXW (lS hG ha)
 | @ite c th el hc ht he iht ihe=>
  cases el with
  |nil=>exact ASl (lS hG hc) iht
  |cons y el=>exact ATW (lS hG hc) iht ihe
 |loop hc ht iht=>exact ATm (lS hG hc) iht
 |ret ha=>exact AVv (lS hG ha)
 |prt ha=>exact AVo (lS hG ha)
end
def preB(st:Bool):Bs:=bif st then[9]++(F9++([32]++(E5++[32])))else[9]++(E5++[32])
def headB(m:Me):Bs:=preB m.st++(nG m.ret++([32]++(m.nm++(BG++(Hf (m.ps.map iw)++(BH++[32]))))))
theorem AEy(m:Me):UK m=headB m++(HY 1 (m.body.map (textS 2))++[10]):=by
 unfold UK headB preB
 cases m.st<;>simp only[cond_true,cond_false,List.append_assoc,List.nil_append]
theorem aY.inv{G:AV}{H:Heap}{A:Nat->Prop}{c:LV}{m:Me}(h:aY G H A c m):∃line col vp vb,c=meC line col m.nm m.st vp m.ret vb/\ABX G H A vp m.ps/\PX G H A vb m.body:=by
 cases h with
 |mk line col hp hb=>exact⟨line,col,_,_,rfl,hp,hb⟩
theorem ZW.at{G:AV}{H:Heap}{A:Nat->Prop}:∀{cs:D5} {es:List Me} {i:Nat} {e:Me},ZW G H A cs es->es[i]? =some e->∃c,cs[i]? =some c/\aY G H A c e
 |_,_,0,_,.cons h _,he=>⟨_,rfl,by cases he;exact h⟩
 |_,_,i+1,_,.cons _ t,he=>ZW.at t (i:=i) he
theorem AI3(b:Bool):(preB b).length<=15:=by cases b<;>decide
section
variable{G:AV}{H:Heap}{n:Nat}{k:KV}
theorem AS1{m:Me}{c:LV}{A:Nat->Prop}(hc:aY G H A c m)(hA:∀id,A id->id<n)(hn:m.ps.length<=1000000)(hl:(headB m).length<=100000000000)
 (hk:∀H' n',Kp H n H' n'->k (sB (headB m)) H' n'):Runs F G dG [.agg c] H n k:=by
 obtain⟨line,col,vp,vb,rfl,⟨hel,_,_,_,hva⟩,_⟩:=hc.inv
 have hl2:=hl
 unfold headB at hl2
 simp only[List.length_append]at hl2
 have ht:=AC0 m.ret
 refine Am (s:=Ho (RI lfp G)) U8 (by obtain⟨h,o⟩:=xZ Ap G;rw[U8]at h;cases h;exact o) ?_
 show RI lfp G (Runs F G) (.agg (meC line col m.nm m.st vp m.ret vb)) H n k
 delta RI
 refine Dk λH1 f1 g1=>?_
 have main:Hq lfp G (Runs F G) k (.ptr n 0) (sB (preB m.st)) H1 (n+1):=by
  show Hq lfp G (Runs F G) k (.ptr n 0) (sB (preB m.st)) H1 (n+1)
  delta Hq
  have hel1:El G H1 vp 3 (m.ps.map vaC):=hel.kp (λid hid=>hA id (hva id hid)) f1
  refine AB (AZ ..) (AB (v:=vp) (AQ g1 rfl) (AB hel1.len ?_))
  rw[List.length_map]
  refine EP (N:=m.ps.length) (J:=λj q=>∃w H' n',q=(.ptr n 0,sB (preB m.st),w,vp,.int .i64 (.ofNat m.ps.length) 0,.int .i64 (.ofNat j) 0,H',n')/\Kp H1 (n+1) H' n'/\Own G H' (n+1) n' 1 w (((m.ps.map iw).take j).map λb=>[sB b])) ?_ ?_ ⟨.Ae,H1,n+1,rfl,Kp.refl ..,Xp⟩
  ·rintro I j q hlt ⟨w,H2,n2,rfl,f2,ho⟩ ih
   show I8 lfp G (Runs F G) k I (.ptr n 0) (sB (preB m.st)) w vp (.int .i64 (.ofNat m.ps.length) 0) (.int .i64 (.ofNat j) 0) H2 n2
   delta I8
   have hn2:=f2.le
   have hel2:El G H2 vp 3 (m.ps.map vaC):=hel1.kp (λid hid=>by have:=hA id (hva id hid);omega) f2
   have hcx:(m.ps.map vaC)[j]? =some (vaC m.ps[j]):=by rw[List.getElem?_map,List.getElem?_eq_getElem hlt];rfl
   obtain⟨p,hp,hld⟩:=hel2.at hcx
   rw[ES,Au,decide_eq_true hlt,Ah]
   refine AB hp (AB (Jl hld) ?_)
   refine Az rfl λH3 f3 g3=>?_
   refine CG (L:=vaC m.ps[j]) g3 rfl rfl (by omega) λH4 g4 t4=>?_
   have f4:Kp H2 n2 H4 (n2+1):=⟨f3.le,λid hid=>(t4 id (by omega)).trans (f3.same id hid)⟩
   have hlx:(iw m.ps[j]).length<=(Hf (m.ps.map iw)).length:=AFc _ _ (List.mem_map_of_mem (List.getElem_mem hlt))
   have hpx:(iw m.ps[j]).length=(nG m.ps[j].ty).length+(1+m.ps[j].nm.length):=by unfold iw;simp only[List.length_append,List.length_cons,List.length_nil]
   have htx:=AC0 m.ps[j].ty
   refine AB (AZ ..) (AB (v:=.agg (tyC m.ps[j].ty)) (ML g4 (by omega) (by show 1+2<=3;omega)) ?_)
   refine AB (AZ ..) (AB (v:=sB m.ps[j].nm) (AQ g4 rfl) ?_)
   refine AGm (by omega) λH5 f5=>?_
   have g5:=f5.get g4 (by omega)
   refine AB (AQ g5 rfl) (Cc (VK _) ?_)
   refine AB (BX (a:=nG m.ps[j].ty) (b:=[32]) (by show _+1<_;omega)) ?_
   refine AB (BX (a:=nG m.ps[j].ty++[32]) (b:=m.ps[j].nm) (by simp only[List.length_append,List.length_cons,List.length_nil];omega)) ?_
   have ho5:=(ho.kp f4).kp f5
   refine AIc ho5 (by omega) (by rw[List.length_map,List.length_take,List.length_map];omega) λv' H6 ho6 hs6 _=>?_
   refine AB (Ef (by omega)) ?_
   refine ih _ ⟨v',H6,_,rfl,⟨by omega,λid hid=>(hs6 id (by omega) (λe=>by have:=ho5.ge e;omega)).trans ((f5.same id (by omega)).trans ((f4.same id (by omega)).trans (f2.same id hid)))⟩,?_⟩
   rw[List.take_succ_eq_append_getElem (by rw[List.length_map];exact hlt),List.map_append,List.getElem_map]
   rw[List.append_assoc]at ho6
   exact ho6
  ·rintro I q ⟨w,H2,n2,rfl,f2,ho⟩
   show I8 lfp G (Runs F G) k I (.ptr n 0) (sB (preB m.st)) w vp (.int .i64 (.ofNat m.ps.length) 0) (.int .i64 (.ofNat m.ps.length) 0) H2 n2
   delta I8
   rw[ES,Au,decide_eq_false (Nat.lt_irrefl _),Aq]
   show Nb lfp G (Runs F G) k (.ptr n 0) (sB (preB m.st)) w H2 n2
   delta Nb
   rw[show(m.ps.map iw).take m.ps.length=m.ps.map iw by rw[<-List.length_map (f:=iw),List.take_length]]at ho
   have hn2:=f2.le
   have g2:=f2.get g1 (by omega)
   refine AB (AZ ..) (AB (v:=.agg (tyC m.ret)) (ML g2 (by omega) (by show 5+2<=8;omega)) ?_)
   refine AB (AZ ..) (AB (v:=sB m.nm) (AQ g2 rfl) ?_)
   refine AGm (by omega) λH3 f3=>?_
   have g3:=f3.get g2 (by omega)
   refine AB (AQ g3 rfl) (Cc (VK _) ?_)
   have hpl:=AI3 m.st
   refine AB (BX (a:=preB m.st) (b:=nG m.ret) (by omega)) ?_
   refine AB (BX (a:=preB m.st++nG m.ret) (b:=[32]) (by first|omega|(simp only[List.length_append];omega))) ?_
   refine AB (BX (a:=(preB m.st++nG m.ret)++[32]) (b:=m.nm) (by first|omega|(simp only[List.length_append];omega))) ?_
   refine AB (BX (a:=((preB m.st++nG m.ret)++[32])++m.nm) (b:=BG) (by first|omega|(simp only[List.length_append];omega))) ?_
   refine AOd ((ho.kp f3).el (by omega)) (by rw[List.length_map];exact hn) (by omega) ?_
   refine AB (AQ g3 rfl) (Cc (VK _) ?_)
   refine AB (BX (a:=(((preB m.st++nG m.ret)++[32])++m.nm)++BG) (b:=Hf (m.ps.map iw)) (by first|omega|(simp only[List.length_append];omega))) ?_
   rw[show V.str 2 8233=sB (BH++[32])from rfl]
   refine AB (BX (a:=((((preB m.st++nG m.ret)++[32])++m.nm)++BG)++Hf (m.ps.map iw)) (b:=BH++[32]) (by first|omega|(simp only[List.length_append];omega))) ?_
   have hk:=hk _ _ ((f1.trans f2).trans f3)
   unfold headB at hk
   simpa only[List.append_assoc]using hk
 refine AB (AZ ..) (AB (v:=.bool m.st) (AQ g1 rfl) ?_)
 cases hst:m.st with
 |true=>rw[Ah];rw[hst]at main;exact main
 |false=>rw[Aq];rw[hst]at main;exact main
end
theorem XF.inv{G:AV}{H:Heap}{A:Nat->Prop}{c:LV}{x:Cl}(h:XF G H A c x):∃line col vf vm,c=clC line col x.nm x.sup vf vm/\ABX G H A vf x.fs/\APj G H A vm x.ms:=by
 cases h with
 |mk line col hf hm=>exact⟨line,col,_,_,rfl,hf,hm⟩
def AHG(c:Cl):Bs:=bif c.sup.isEmpty then[]else[32]++(Fv++([32]++c.sup))
theorem ALp{α:Type}{f:α->Bs}{xs:List α}{j:Nat}(h:j<xs.length):((xs.map f).take (j+1)).flatten=((xs.map f).take j).flatten++f xs[j]:=by
 rw[List.take_succ_eq_append_getElem (by rw[List.length_map];exact h),List.flatten_append,List.getElem_map];simp
theorem APl{α:Type}{f:α->Bs}{xs:List α}:(xs.map f).take xs.length=xs.map f:=by
 rw[<-List.length_map (f:=f),List.take_length]
section
variable{G:AV}{H:Heap}{n:Nat}{k:KV}
theorem AIX(hG:kM G){x:Cl}{c:LV}{A:Nat->Prop}(hc:XF G H A c x)(hA:∀id,A id->id<n)(hw:WrC x)(hl:(XY x).length<=100000000000)
 (hk:∀H' n',Kp H n H' n'->k (sB (XY x)) H' n'):Runs F G Xg [.agg c] H n k:=by
 obtain⟨line,col,vf,vm,rfl,⟨helf,_,_,_,hvaf⟩,cs,helm,_,_,_,hvam,hcm⟩:=hc.inv
 have hl2:(OE++([32]++(x.nm++(AHG x++([32]++(OC++([10]++((x.fs.map L8).flatten++((x.ms.map UK).flatten++(m_rc++[10])))))))))).length<=100000000000:=hl
 simp only[List.length_append]at hl2
 have hk:∀H' n',Kp H n H' n'->k (sB (OE++([32]++(x.nm++(AHG x++([32]++(OC++([10]++((x.fs.map L8).flatten++((x.ms.map UK).flatten++(m_rc++[10]))))))))))) H' n':=hk
 have e1:([32]:Bs).length=1/\([10]:Bs).length=1/\([9]:Bs).length=1/\Aw.length=1/\OC.length=1/\m_rc.length=1/\OE.length=5/\PY.length=5/\Fv.length=7:=⟨rfl,rfl,rfl,rfl,rfl,rfl,rfl,rfl,rfl⟩
 refine Am (s:=Ho (SY lfp G)) WB (by obtain⟨h,o⟩:=zT Ap G;rw[WB]at h;cases h;exact o) ?_
 show SY lfp G (Runs F G) (.agg (clC line col x.nm x.sup vf vm)) H n k
 delta SY
 refine Dk λH1 f1 g1=>?_
 refine AQ0 λH2 f2 b2=>?_
 have g2:=f2.get g1 (by omega)
 have f2:=f1.trans f2
 refine AB (AZ ..) (AB (v:=sB x.nm) (AQ g2 rfl) ?_)
 rw[show V.str 6 35680229092451=sB (OE++[32])from rfl]
 refine AB (BX (by simp only[List.length_append];omega)) ?_
 refine ou b2 (by simp only[List.length_append,List.length_nil];omega) λ_ H3 f3 b3=>?_
 rw[List.nil_append]at b3
 have g3:=(f3.same n (by omega)).trans g2
 have f3:Kp H n H3 (n+1+1+1):=⟨by omega,λid hid=>(f3.same id (by omega)).trans (f2.same id hid)⟩
 refine AB (AZ ..) (AB (v:=sB x.sup) (AQ g3 rfl) ?_)
 have main:∀H4 n4,Kp H n H4 n4->n+1<n4->T.get H4 n=some (one (clC line col x.nm x.sup vf vm))->Bu H4 n4 (n+1) ((OE++[32])++x.nm++AHG x)->Io lfp G (Runs F G) k (.ptr n 0) (.ptr (n+1) 0) H4 n4:=by
  intro H4 n4 f4 hn4 g4 b4
  show Io lfp G (Runs F G) k (.ptr n 0) (.ptr (n+1) 0) H4 n4
  delta Io
  rw[show V.str 3 686880=sB ([32]++(OC++[10]))from rfl]
  refine ou b4 (by simp only[List.length_append];omega) λ_ H5 f5 b5=>?_
  have g5:=(f5.same n (by omega)).trans g4
  have f5:Kp H n H5 (n4+1):=⟨by have:=f4.le;omega,λid hid=>(f5.same id (by omega)).trans (f4.same id hid)⟩
  have helf5:El G H5 vf 3 (x.fs.map vaC):=helf.kp (λid hid=>hA id (hvaf id hid)) f5
  refine AB (AZ ..) (AB (v:=vf) (AQ g5 rfl) (AB helf5.len ?_))
  rw[List.length_map]
  generalize hl0:(OE++[32])++x.nm++AHG x++([32]++(OC++[10]))=L0 at b5
  have hL0:L0.length=OE.length+([32]:Bs).length+x.nm.length+(AHG x).length+(([32]:Bs).length+(OC.length+([10]:Bs).length)):=by rw[<-hl0];simp only[List.length_append]
  refine EP (N:=x.fs.length) (J:=λj q=>∃H' n',q=(.ptr n 0,.ptr (n+1) 0,vf,.int .i64 (.ofNat x.fs.length) 0,.int .i64 (.ofNat j) 0,H',n')/\Kp H5 (n+1) H' n'/\n+1<n'/\Bu H' n' (n+1) (L0++((x.fs.map L8).take j).flatten)) ?_ ?_
   ⟨H5,n4+1,rfl,⟨by omega,λ_ _=>rfl⟩,by omega,by simpa using b5⟩
  ·rintro I j q hlt ⟨H6,n6,rfl,f6,hn6,b6⟩ ih
   show Jk lfp G (Runs F G) k I (.ptr n 0) (.ptr (n+1) 0) vf (.int .i64 (.ofNat x.fs.length) 0) (.int .i64 (.ofNat j) 0) H6 n6
   delta Jk
   have hel6:El G H6 vf 3 (x.fs.map vaC):=helf5.kp (λid hid=>by have:=hA id (hvaf id hid);omega) f6
   have hcx:(x.fs.map vaC)[j]? =some (vaC x.fs[j]):=by rw[List.getElem?_map,List.getElem?_eq_getElem hlt];rfl
   obtain⟨p,hp,hld⟩:=hel6.at hcx
   rw[ES,Au,decide_eq_true hlt,Ah]
   refine AB hp (AB (Jl hld) ?_)
   refine Az rfl λH7 f7 g7=>?_
   refine CG (L:=vaC x.fs[j]) g7 rfl rfl (by omega) λH8 g8 t8=>?_
   have f8:Kp H6 n6 H8 (n6+1):=⟨f7.le,λid hid=>(t8 id (by omega)).trans (f7.same id hid)⟩
   have eft:=ALp (f:=L8) hlt
   have hft:=Zo (x.fs.map L8) (j+1)
   rw[eft,List.length_append]at hft
   have hpx:(L8 x.fs[j]).length=1+(5+(1+((nG x.fs[j].ty).length+(1+(x.fs[j].nm.length+2))))):=by unfold L8;simp only[List.length_append];omega
   have htx:=AC0 x.fs[j].ty
   refine AB (AZ ..) (AB (v:=.agg (tyC x.fs[j].ty)) (ML g8 (by omega) (by show 1+2<=3;omega)) ?_)
   refine AB (AZ ..) (AB (v:=sB x.fs[j].nm) (AQ g8 rfl) ?_)
   refine AGm (by omega) λH9 f9=>?_
   have g9:=f9.get g8 (by omega)
   refine AB (AQ g9 rfl) (Cc (VK _) ?_)
   rw[show V.str 7 9117615975392777=sB ([9]++(PY++[32]))from rfl]
   refine AB (BX (b:=nG x.fs[j].ty) (by simp only[List.length_append];omega)) ?_
   refine AB (BX (b:=[32]) (by simp only[List.length_append];omega)) ?_
   refine AB (BX (b:=x.fs[j].nm) (by simp only[List.length_append];omega)) ?_
   rw[show V.str 2 2619=sB (Aw++[10])from rfl]
   refine AB (BX (b:=Aw++[10]) (by simp only[List.length_append];omega)) ?_
   rw[show([9]++(PY++[32]))++nG x.fs[j].ty++[32]++x.fs[j].nm++(Aw++[10])=L8 x.fs[j]by unfold L8;simp only[List.append_assoc]]
   have b9:=(b6.kp f8).kp f9
   refine ou b9 (by simp only[List.length_append];omega) λ_ H10 f10 b10=>?_
   have:=hw.fn
   refine AB (Ef (by omega)) ?_
   refine ih _ ⟨H10,_,rfl,⟨by omega,λid hid=>(f10.same id hid).trans ((f9.same id (by omega)).trans ((f8.same id (by omega)).trans (f6.same id hid)))⟩,by omega,?_⟩
   rw[eft,<-List.append_assoc]
   exact b10
  ·rintro I q ⟨H6,n6,rfl,f6,hn6,b6⟩
   show Jk lfp G (Runs F G) k I (.ptr n 0) (.ptr (n+1) 0) vf (.int .i64 (.ofNat x.fs.length) 0) (.int .i64 (.ofNat x.fs.length) 0) H6 n6
   delta Jk
   rw[ES,Au,decide_eq_false (Nat.lt_irrefl _),Aq]
   show OX lfp G (Runs F G) k (.ptr n 0) (.ptr (n+1) 0) H6 n6
   delta OX
   rw[APl]at b6
   have g6:=(f6.same n (by omega)).trans g5
   have f6:Kp H n H6 n6:=⟨by omega,λid hid=>(f6.same id (by omega)).trans (f5.same id hid)⟩
   have helm6:El G H6 vm 8 cs:=helm.kp (λid hid=>hA id (hvam id hid)) f6
   refine AB (AZ ..) (AB (v:=vm) (AQ g6 rfl) (AB helm6.len ?_))
   rw[hcm.len]
   generalize hl1:L0++(x.fs.map L8).flatten=L1 at b6
   have hL1:L1.length=L0.length+(x.fs.map L8).flatten.length:=by rw[<-hl1,List.length_append]
   refine EP (N:=x.ms.length) (J:=λj q=>∃H' n',q=(.ptr (n+1) 0,vm,.int .i64 (.ofNat x.ms.length) 0,.int .i64 (.ofNat j) 0,H',n')/\Kp H6 (n+1) H' n'/\n+1<n'/\Bu H' n' (n+1) (L1++((x.ms.map UK).take j).flatten)) ?_ ?_
    ⟨H6,n6,rfl,⟨by omega,λ_ _=>rfl⟩,by omega,by simpa using b6⟩
   ·rintro I j q hlt ⟨H7,n7,rfl,f7,hn7,b7⟩ ih
    show JZ lfp G (Runs F G) k I (.ptr (n+1) 0) vm (.int .i64 (.ofNat x.ms.length) 0) (.int .i64 (.ofNat j) 0) H7 n7
    delta JZ
    have f7':Kp H n H7 n7:=⟨by omega,λid hid=>(f7.same id (by omega)).trans (f6.same id hid)⟩
    have hel7:El G H7 vm 8 cs:=helm.kp (λid hid=>hA id (hvam id hid)) f7'
    have hcm7:ZW G H7 A cs x.ms:=hcm.mono (λ_ h=>h) λid h=>f7'.same id (hA id h)
    obtain⟨cx,hcx,hx⟩:=hcm7.at (List.getElem?_eq_getElem hlt)
    obtain⟨p,hp,hld⟩:=hel7.at hcx
    rw[ES,Au,decide_eq_true hlt,Ah]
    refine AB hp (AB (Jl hld) ?_)
    refine Az rfl λH8 f8 g8=>?_
    refine CG (L:=cx) g8 rfl hx.len (by omega) λH9 g9 t9=>?_
    have f9:Kp H7 n7 H9 (n7+1):=⟨f8.le,λid hid=>(t9 id (by omega)).trans (f8.same id hid)⟩
    have hx9:aY G H9 A cx x.ms[j]:=hx.mono (λ_ h=>h) λid h=>f9.same id (by have:=hA id h;omega)
    have hwm:=hw.ms _ (List.getElem_mem hlt)
    obtain⟨ml,mc,vp,vb,hcxe,hpp,hbb⟩:=hx9.inv
    obtain⟨bs,hbel,hbk,_,_,hbva,hbc⟩:=hbb
    have eft:=ALp (f:=UK) hlt
    have hft:=Zo (x.ms.map UK) (j+1)
    rw[eft,List.length_append]at hft
    have hpx:(UK x.ms[j]).length=(headB x.ms[j]).length+((HY 1 (x.ms[j].body.map (textS 2))).length+1):=by rw[AEy];simp only[List.length_append];omega
    refine AB (Ai (m:=8) g9 (by omega) hx.len) ?_
    refine AB (AZ ..) (AB (v:=vb) (AQ g9 (by rw[hcxe];rfl)) ?_)
    refine AS1 hx9 (λid h=>by have:=hA id h;omega) (by have:=hwm.pn;omega) (by omega) λH10 n10 f10=>?_
    have hn10:=f10.le
    have g10:=f10.get g9 (by omega)
    refine AB (v:=vb) (AQ g10 (by rw[hcxe];rfl)) (Cc (AIi hbel hbk) ?_)
    refine AI0 (d:=1) (hbel.same λid hid=>f10.same id (by have:=hA id (hbva id hid);omega)) hbva (hbc.mono (λ_ h=>h) λid h=>f10.same id (by have:=hA id h;omega)) (λid h=>by have:=hA id h;omega) (λs hs=>AT5 hG (hwm.body s hs)) (by show(HY 1 (x.ms[j].body.map (textS 2))).length<=_;omega) λH11 n11 f11=>?_
    have hn11:=f11.le
    show AP (B2.ev .add (sB (headB x.ms[j])) (sB (HY 1 (x.ms[j].body.map (textS 2))))) _
    refine AB (BX (by omega)) ?_
    rw[show V.str 1 10=sB [10]from rfl]
    refine AB (BX (by simp only[List.length_append];omega)) ?_
    rw[show headB x.ms[j]++HY 1 (x.ms[j].body.map (textS 2))++[10]=UK x.ms[j]by rw[AEy];simp only[List.append_assoc]]
    have b11:=((b7.kp f9).kp f10).kp f11
    refine ou b11 (by simp only[List.length_append];omega) λ_ H12 f12 b12=>?_
    have:=hw.mn
    refine AB (Ef (by omega)) ?_
    refine ih _ ⟨H12,_,rfl,⟨by omega,λid hid=>(f12.same id hid).trans ((f11.same id (by omega)).trans ((f10.same id (by omega)).trans ((f9.same id (by omega)).trans (f7.same id hid))))⟩,by omega,?_⟩
    rw[eft,<-List.append_assoc]
    exact b12
   ·rintro I q ⟨H7,n7,rfl,f7,hn7,b7⟩
    show JZ lfp G (Runs F G) k I (.ptr (n+1) 0) vm (.int .i64 (.ofNat x.ms.length) 0) (.int .i64 (.ofNat x.ms.length) 0) H7 n7
    delta JZ
    rw[ES,Au,decide_eq_false (Nat.lt_irrefl _),Aq]
    show NR lfp G (Runs F G) k (.ptr (n+1) 0) H7 n7
    delta NR
    rw[APl]at b7
    rw[show V.str 2 2685=sB (m_rc++[10])from rfl]
    refine ou b7 (by simp only[List.length_append];omega) λ_ H8 f8 b8=>?_
    refine AOs b8 λH9 f9=>?_
    have hk:=hk H9 (n7+1) ⟨by omega,λid hid=>(f9.same id (by omega)).trans ((f8.same id (by omega)).trans ((f7.same id (by omega)).trans (f6.same id hid)))⟩
    rw[<-hl1,<-hl0]
    simpa only[List.append_assoc]using hk
 cases hs:x.sup with
 |nil=>
  rw[show EZ (.one .str) true (sB []) (.str 0 0)=some (.bool false)from rfl,Au,Aq]
  refine main _ _ f3 (by omega) g3 ?_
  rw[show AHG x=[]by unfold AHG;rw[hs];rfl,List.append_nil]
  exact b3
 |cons a s=>
  have h1:EZ (.one .str) true (sB (a::s)) (.str 0 0)=some (.bool true):=(ARr (a::s) []).trans (by simp)
  rw[h1,Au,Ah]
  refine AB (AZ ..) (AB (v:=sB x.sup) (AQ g3 rfl) ?_)
  have hsb:AHG x=[32]++(Fv++([32]++x.sup)):=by unfold AHG;rw[hs];rfl
  rw[hsb]at hl2
  simp only[List.length_append]at hl2
  rw[show V.str 9 598610702552763229472=sB ([32]++(Fv++[32]))from rfl]
  refine AB (BX (by simp only[List.length_append];omega)) ?_
  refine ou b3 (by simp only[List.length_append];omega) λ_ H4 f4 b4=>?_
  refine main _ _ ⟨by omega,λid hid=>(f4.same id (by omega)).trans (f3.same id hid)⟩ (by omega) ((f4.same n (by omega)).trans g3) ?_
  rw[hsb]
  simpa only[List.append_assoc]using b4
end
theorem AQM{G:AV}{H:Heap}{n id m z bs:Nat}{t:T LV}{w:V}{LS NS:D5}{k:KV}(hz:0<z)(hb:T.get H id=some (.arr z m t))(hid:id<n)(h:elems (.sl id 0 m m z) G H z=some LS)
 (hw:elems w G H z=some NS) (hr:(m+NS.length)*bs<=140737488355328)
 (hne:NS≠[]) (hk:∀v' H',Gr G H' n z v' (LS++NS)->(∀j,j<n->T.get H' j=T.get H j)->(∀j,v'.Qa=some j->j=n)->k v' H' (n+1)):X0 z bs (.sl id 0 m m z) w G H n k:=by
 unfold X0
 rw[hw,vW]
 have h2:(Bool.rec (motive:=λ_=>Option D5) none (DK H id z m 0) (Nat.beq z z):Option D5)=some LS:=h
 rw[Es]at h2
 have h2:DK H id z m 0=some LS:=h2
 obtain⟨hl,hat⟩:=P8 _ _ h2
 have e0:AJf (.sl id 0 m m z) G z bs NS H n k=Bool.rec (motive:=λ_=>Prop) (IV (DK H id z m 0) λOS=>PK z bs OS NS H n k) (IV (T.get H id) λb=>ADw id 0 m m z (m+NS.length) NS H n k b) (Nat.ble (m+NS.length) m):=by
  show En (Nat.beq z z) (Ea (Nat.add m (len NS)) λneed=>Bool.rec (motive:=λ_=>Prop) (IV (DK H id z m 0) λOS=>PK z bs OS NS H n k) (IV (T.get H id) λb=>ADw id 0 m m z need NS H n k b) (Nat.ble need m))=_
  rw[Es,qR,CO,len_eq];rfl
 rw[e0]
 by_cases hN:NS.length=0
 ·exact absurd (List.length_eq_zero_iff.1 hN) hne
 ·rw[show Nat.ble (m+NS.length) m=false by rw[Bool.eq_false_iff];intro hc;rw[Nat.ble_eq]at hc;omega]
  show IV (DK H id z m 0) (λOS=>PK z bs OS NS H n k)
  rw[h2,vW]
  show Ea (Nat.add (len LS) (len NS)) (λneed=>En (Qk need bs) (Ea n λn=>k (.O5 n 0 need z) (T.set H n (.arr z need (GH NS (len LS) (GH LS 0 .e)))) (Nat.succ n)))
  rw[CO,CO,len_eq,len_eq,show Qk (Nat.add LS.length NS.length) bs=true from Zm (by rw[hl];exact hr),qR]
  have e:Nat.add LS.length NS.length=(LS++NS).length:=by rw[List.length_append];rfl
  rw[e]
  refine hk _ _ (.O5 (LS:=LS++NS) (T.DJ ..) (Nat.le_refl _) (λi L hi=>?_) (Nat.le_refl _)) (λj hj=>T.BA _ _ (by omega)) (λj hj=>by cases hj;rfl)
  rw[FY,FY]
  by_cases hlt:i<LS.length
  ·rw[if_neg (by omega),if_pos ⟨Nat.zero_le _,by omega⟩]
   rw[List.getElem?_append_left hlt]at hi
   exact hi
  ·rw[List.getElem?_append_right (by omega)]at hi
   have hlt2:=(List.getElem?_eq_some_iff.1 hi).1
   rw[if_pos ⟨by omega,by omega⟩];exact hi
def Ow(G:AV)(H:Heap)(m n z:Nat)(v:V)(LS:D5):Prop:=Own G H m n z v LS∨∃id t,v=.sl id 0 LS.length LS.length z/\T.get H id=some (.arr z LS.length t)/\m<=id/\id<n/\El G H v z LS
theorem Ow.el{G:AV}{H:Heap}{m n z:Nat}{v:V}{LS:D5}(h:Ow G H m n z v LS)(hz:0<z):El G H v z LS:=by
 rcases h with h|⟨_,_,_,_,_,_,h⟩
 ·exact h.el hz
 ·exact h
theorem Ow.at{G:AV}{H:Heap}{m n z:Nat}{v:V}{LS:D5}(h:Ow G H m n z v LS){id:Nat}(hid:v.Qa=some id):m<=id/\id<n:=by
 rcases h with h|⟨i,_,rfl,_,h1,h2,_⟩
 ·exact⟨h.ge hid,h.lo id hid⟩
 ·cases Em hid;exact⟨h1,h2⟩
theorem Ow.ok{G:AV}{H:Heap}{m n z:Nat}{v:V}{LS:D5}(h:Ow G H m n z v LS):KS v/\kD v=true/\CZ v=[v]:=by
 rcases h with h|⟨i,_,rfl,_⟩
 ·exact QL h.gr
 ·exact⟨Wy (Nat.le_refl _),rfl,rfl⟩
theorem Ow.vs{G:AV}{H:Heap}{m n z:Nat}{v:V}{LS:D5}(h:Ow G H m n z v LS)(hz:0<z):BU v v=true:=AIi (h.el hz) h.ok.1
theorem Ow.kp{G:AV}{H H':Heap}{m n n' z:Nat}{v:V}{LS:D5}(h:Ow G H m n z v LS)(f:Kp H n H' n'):Ow G H' m n' z v LS:=by
 rcases h with h|⟨id,t,rfl,h1,h2,h3,h4⟩
 ·exact .inl (h.kp f)
 ·exact .inr ⟨id,t,rfl,(f.same id h3).trans h1,h2,by have:=f.le;omega,h4.same λj hj=>f.same j (by cases Em hj;exact h3)⟩
theorem Ow.frame{G:AV}{H H':Heap}{m n n' z:Nat}{v:V}{LS:D5}(h:Ow G H m n z v LS)(hn:n<=n')(hs:∀id,v.Qa=some id->T.get H' id=T.get H id):Ow G H' m n' z v LS:=by
 rcases h with h|⟨id,t,rfl,h1,h2,h3,h4⟩
 ·obtain⟨g,l⟩:=h
  refine .inl ⟨?_,λid hid=>by have:=l id hid;omega⟩
  cases g with
  |nil=>exact .nil
  |O5 hg hc ht hid=>exact .O5 ((hs _ rfl).trans hg) hc ht hid
 ·exact .inr ⟨id,t,rfl,(hs id rfl).trans h1,h2,by omega,h4.same λj hj=>hs j hj⟩
theorem AEL{G:AV}{H:Heap}{n z bs m:Nat}{v:V}{c:LV}{LS:D5}{P:KV}{Z:LV}(ho:Ow G H m n z v LS)(hm:m<=n)(hz:0<z)(hc:c.length=z)(hok:kD (.agg c)=true)(hb:(LS.length+1)*bs<=140737488355328)
 (hk:∀v' H',Ow G H' m (n+2) z v' (LS++[c])->(∀id,id<n->v.Qa≠some id->T.get H' id=T.get H id)->(∀id,v'.Qa=some id->id=n+1)->P v' H' (n+2)):
 DY (Aj z 1 Z [(0,.c (.agg c))] E0) H n λw H n=>X0 z bs v w G H n P:=by
 rcases ho with ho|⟨id,t,rfl,h1,h2,h3,h4⟩
 ·exact ADE ho hm hz hc hok hb λv' H' h=>hk v' H' (.inl h)
 ·refine J9 (G:=G) (vs:=[.agg c]) rfl hz (λv hv=>by simp at hv;subst hv;exact⟨hok,hc⟩) λH6 f6 _ hel=>?_
  refine AQM hz ((f6.same id h3).trans h1) (by omega) (h4.same λj hj=>f6.same j (by cases Em hj;exact h3)).2 hel.2 hb (λh=>by cases h) λv' H' hg hs hid=>?_
  refine hk v' H' (.inl ⟨?_,λj hj=>by have:=hid j hj;omega⟩) (λj hj _=>(hs j (by omega)).trans (f6.same j hj)) hid
  have hg:Gr G H' (n+1) z v' (LS++[c]):=hg
  generalize LS++[c]=X at hg⊢
  cases hg with
  |nil=>exact .nil
  |O5 b1 b2 b3 b4=>exact .O5 b1 b2 b3 (by omega)
theorem AXu(l:Bs)(b:Bool):Bh [.str 0 0,.bool false] [(0,1,.c (sB l)),(1,1,.c (.bool b))]=some (.agg [sB l,.bool b]):=rfl
theorem AQF(l:Bs):Bh [.str 0 0,.bool false] [(0,1,.c (sB l))]=some (.agg [sB l,.bool false]):=rfl
theorem AIh{g:Nat}(h:g<=7):WO [67,UInt8.ofNat (97+g)]=true:=by
 match g,h with
 |0,_=>decide
 |1,_=>decide
 |2,_=>decide
 |3,_=>decide
 |4,_=>decide
 |5,_=>decide
 |6,_=>decide
 |7,_=>decide
theorem APC{g:Nat}(h:g<=7):kK [110,UInt8.ofNat (97+g)]=true:=by
 match g,h with
 |0,_=>decide
 |1,_=>decide
 |2,_=>decide
 |3,_=>decide
 |4,_=>decide
 |5,_=>decide
 |6,_=>decide
 |7,_=>decide
theorem AUN{l:Bs}(h:WO l=true):aQ l=true:=by unfold aQ;rw[h];simp
section
variable{G:AV}{H:Heap}{n:Nat}{k:KV}
theorem AMs{m:Nat}(hk:∀H' g,Kp H n H' (n+1)->g<=7->k (sB [67,UInt8.ofNat (97+g)]) H' (n+1)):Runs F G FQ [.int .i64 (.ofNat m) 0] H n k:=by
 refine Am (s:=Ho (Qo lfp G)) Uw (by obtain⟨h,o⟩:=xA Ap G;rw[Uw]at h;cases h;exact o) ?_
 show Qo lfp G (Runs F G) (.int .i64 (.ofNat m) 0) H n k
 delta Qo
 refine AB (AB6 _ (m:=7) (by omega)) ?_
 have hu:aj (.ofNat m) 7<=7:=(TP _ (m:=7) (by omega)).2
 generalize aj (.ofNat m) 7=g at hu
 refine AB (cvq (q:=.u8) (by show g<256;omega)) (AB (ATv (q:=.u8) (by show 97+g<256;omega)) ?_)
 refine J9 (G:=G) (vs:=[.int .u8 (.ofNat (97+g)) 0]) rfl (by omega) (λv hv=>by simp at hv;subst hv;exact⟨rfl,rfl⟩) λH1 f1 _ hel=>?_
 have e:(UInt8.ofNat (97+g)).toNat=97+g:=by rw[UInt8.toNat_ofNat'];omega
 have hel:El G H1 (.sl n 0 1 1 1) 1 (PE [UInt8.ofNat (97+g)]):=by
  show El G H1 _ 1 [[V.int .u8 (.ofNat (UInt8.ofNat (97+g)).toNat) 0]]
  rw[e];exact hel
 refine AB (ALD hel) ?_
 rw[show V.str 1 67=sB [67]from rfl]
 refine AB (BX (by show 1+1<_;omega)) ?_
 exact hk _ g f1 hu
theorem ASh{m:Nat}(hk:∀H' g,Kp H n H' (n+1)->g<=7->k (sB [110,UInt8.ofNat (97+g)]) H' (n+1)):Runs F G EW [.int .i64 (.ofNat m) 0] H n k:=by
 refine Am (s:=Ho (RF lfp G)) U5 (by obtain⟨h,o⟩:=yc Ap G;rw[U5]at h;cases h;exact o) ?_
 show RF lfp G (Runs F G) (.int .i64 (.ofNat m) 0) H n k
 delta RF
 refine AB (AB6 _ (m:=7) (by omega)) ?_
 have hu:aj (.ofNat m) 7<=7:=(TP _ (m:=7) (by omega)).2
 generalize aj (.ofNat m) 7=g at hu
 refine AB (cvq (q:=.u8) (by show g<256;omega)) (AB (ATv (q:=.u8) (by show 97+g<256;omega)) ?_)
 refine J9 (G:=G) (vs:=[.int .u8 (.ofNat (97+g)) 0]) rfl (by omega) (λv hv=>by simp at hv;subst hv;exact⟨rfl,rfl⟩) λH1 f1 _ hel=>?_
 have e:(UInt8.ofNat (97+g)).toNat=97+g:=by rw[UInt8.toNat_ofNat'];omega
 have hel:El G H1 (.sl n 0 1 1 1) 1 (PE [UInt8.ofNat (97+g)]):=by
  show El G H1 _ 1 [[V.int .u8 (.ofNat (UInt8.ofNat (97+g)).toNat) 0]]
  rw[e];exact hel
 refine AB (ALD hel) ?_
 rw[show V.str 1 110=sB [110]from rfl]
 refine AB (BX (by show 1+1<_;omega)) ?_
 exact hk _ g f1 hu
theorem ADd{m:Nat}(hk:∀H' u,Kp H n H' (n+1)->WO u=true->u.length=2->k (sB u) H' (n+1)):Runs F G FQ [.int .i64 (.ofNat m) 0] H n k:=
 AMs λH' g f hg=>hk H' _ f (AIh hg) rfl
theorem AAW{m:Nat}(hk:∀H' u,Kp H n H' (n+1)->kK u=true->u.length=2->k (sB u) H' (n+1)):Runs F G EW [.int .i64 (.ofNat m) 0] H n k:=
 ASh λH' g f hg=>hk H' _ f (APC hg) rfl
theorem ALn{l:Bs}{ar:Bool}(hl:l.length<=4611686018427387904)(hk:∀H' n' u,Kp H n H' n'->aQ u=true->u.length<=4->k (.agg [sB u,.bool ar]) H' n'):Runs F G QC [.agg [sB l,.bool ar]] H n k:=by
 refine Am (s:=Ho (Un lfp G)) Xj (by obtain⟨h,o⟩:=ABH Ap G;rw[Xj]at h;cases h;exact o) ?_
 show Un lfp G (Runs F G) (.agg [sB l,.bool ar]) H n k
 delta Un
 refine Dk λH1 f1 g1=>?_
 refine Az rfl λH2 f2 g2=>?_
 have g1:=f2.get g1 (by omega)
 have f2:=f1.trans f2
 refine AB (v:=.ptr n 0) (by rw[AZ]) (AB (AQ (off:=0) g1 (v:=sB l) rfl) (AB (O8 l) ?_))
 have j6:∀m,m<9223372036854775808->LH lfp G (Runs F G) k (.ptr n 0) (.ptr (n+1) 0) (.int .i64 (.ofNat m) 0) H2 (n+1+1):=by
  intro m hm
  delta LH
  refine AB (ART m (by omega)) (AB (v:=.ptr n 1) (by rw[AZ,Nat.zero_add]) (AB (AQ (off:=1) g1 (v:=.bool ar) rfl) ?_))
  refine AMs λH3 g f3 hg=>?_
  have g1:=f3.get g1 (by omega);have g2:=f3.get g2 (by omega)
  refine AB (AQ (off:=1) g1 (v:=.bool ar) rfl) (Cc (by cases ar<;>rfl) ?_)
  refine dW (G:=G) (ws:=[vM,fJ,[67,UInt8.ofNat (97+g)]]) rfl λH4 f4 hw=>?_
  have g2:=f4.get g2 (by omega)
  have f4:=(f2.trans f3).trans f4
  have h3:m%3<3:=Nat.mod_lt _ (by decide)
  generalize m%3=i at h3
  have hw2:∃u,aQ u=true/\u.length<=4/\∃p,BO 1 (.sl (n+1+1+1) 0 3 3 1) (.int .i64 (.ofNat i) 0)=some p/\AX p G H4=some (sB u):=by
   match i,h3 with
   |0,_=>obtain⟨p,h1,h2⟩:=hw.at (i:=0) rfl;exact⟨_,by decide,by decide,p,h1,aI h2⟩
   |1,_=>obtain⟨p,h1,h2⟩:=hw.at (i:=1) rfl;exact⟨_,by decide,by decide,p,h1,aI h2⟩
   |2,_=>obtain⟨p,h1,h2⟩:=hw.at (i:=2) rfl;exact⟨_,AUN (AIh hg),(by show 2<=4;omega),p,h1,aI h2⟩
  obtain⟨t,ht,hlen,p,hp,hq⟩:=hw2
  refine AB hp (AB hq (AB (AXu ..) ?_))
  refine CG g2 rfl rfl (by omega) λH5 g5 t5=>?_
  rw[DX (m:=2) g5 (by omega) rfl]
  simp only[go_sem]
  exact hk _ _ t ⟨by omega,λid hid=>(t5 id (by omega)).trans (f4.same id hid)⟩ ht hlen
 rw[Ls,Au]
 cases hd:decide (0<l.length)with
 |false=>rw[Aq];exact j6 _ (by omega)
 |true=>
  have hd:=of_decide_eq_true hd
  rw[Ah]
  have hc:(l[0]).toNat<256:=(l[0]).toNat_lt
  refine AB (v:=.ptr n 0) (by rw[AZ]) (AB (AQ (off:=0) g1 (v:=sB l) rfl) (AB (AGA hd) (AB (AQi (by omega)) (AB (Ef (by omega)) ?_))))
  exact j6 _ (by omega)
theorem AP4{u:Bs}(hk:∀H',Kp H n H' (n+1)->k (.agg [sB u,.bool false]) H' (n+1)):Runs F G Vx [sB u] H n k:=by
 refine Am (s:=Ho (aA lfp G)) gQ (by obtain⟨h,o⟩:=AGC Ap G;rw[gQ]at h;cases h;exact o) ?_
 show aA lfp G (Runs F G) (sB u) H n k
 delta aA
 refine Az rfl λH2 f2 g2=>?_
 refine AB (AQF ..) ?_
 refine CG g2 rfl rfl (by omega) λH5 g5 t5=>?_
 rw[DX (m:=2) g5 (by omega) rfl]
 simp only[go_sem]
 exact hk _ ⟨by omega,λid hid=>(t5 id (by omega)).trans (f2.same id hid)⟩
theorem AT4{u:Bs}{b:Bool}(hk:∀H',Kp H n H' (n+2)->k (.agg [sB u,.bool false]) H' (n+2)):Runs F G mV [.agg [sB u,.bool b]] H n k:=by
 refine Am (s:=Ho (Uo lfp G)) Xc (by obtain⟨h,o⟩:=AA9 Ap G;rw[Xc]at h;cases h;exact o) ?_
 show Uo lfp G (Runs F G) (.agg [sB u,.bool b]) H n k
 delta Uo
 refine Dk λH1 f1 g1=>?_
 refine Az rfl λH2 f2 g2=>?_
 have g1:=f2.get g1 (by omega)
 have f2:=f1.trans f2
 refine AB (AZ ..) (AB (v:=sB u) (AQ g1 rfl) (AB (AQF ..) ?_))
 refine CG g2 rfl rfl (by omega) λH5 g5 t5=>?_
 rw[DX (m:=2) g5 (by omega) rfl]
 simp only[go_sem]
 exact hk _ ⟨by omega,λid hid=>(t5 id (by omega)).trans (f2.same id hid)⟩
end
end Go.PQ
