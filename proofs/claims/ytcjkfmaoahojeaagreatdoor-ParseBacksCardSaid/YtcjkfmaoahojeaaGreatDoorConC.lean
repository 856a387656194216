/- Part of a proof; nothing is assumed. -/
import Derived.Test.YtcjkfmaoahojeaaGreatDoorLawA
import Derived.Test.YtcjkfmaoahojeaaGreatDoorEngG
import Derived.Test.YtcjkfmaoahojeaaGreatDoorConB
set_option linter.unusedVariables false
set_option linter.unusedSimpArgs false
namespace Go.PQ
open Go.Eng
set_option maxRecDepth 100000
def iy(l:Bs):Bool:=nameB small l&& !decide (l∈TN)
def Ws(l:Bs):Bool:=nameB great l
def eG(l:Bs):Bool:=decide (l=uf)||(decide (l=dX)||Ws l)
def Wl(l:Bs):Tok:=bif Ws l then U l else W l
def AEq:List Bs:=[Zp,Dz,WZ,SN,pz,YK,lg,VR,lW]
inductive Wr:Ex->Prop
 |num {n:Nat} (h:n<=288230376151711744):Wr (.mk 1 n [] [] false [])
 |tru:Wr (.mk 2 0 [] [] false [])
 |fls:Wr (.mk 3 0 [] [] false [])
 |nul:Wr (.mk 4 0 [] [] false [])
 |ths:Wr (.mk 5 0 [] [] false [])
 |loc {l:Bs} (h:iy l=true):Wr (.mk 6 0 l [] false [])
 |get {l:Bs} {a:Ex} (h:iy l=true) (ha:Wr a):Wr (.mk 7 0 l [] false [a])
 |call {l:Bs} {a:Ex} {ks:List Ex} (h:iy l=true) (ha:Wr a) (hk:∀x∈ks,Wr x) (hn:ks.length<=200):Wr (.mk 8 0 l [] false (a::ks))
 |stat {l u:Bs} {ks:List Ex} (h:iy l=true) (hu:Ws u=true) (hk:∀x∈ks,Wr x) (hn:ks.length<=200):Wr (.mk 9 0 l u false ks)
 |new {u:Bs} (hu:Ws u=true):Wr (.mk 10 0 [] u false [])
 |arr {u:Bs} {a:Ex} (hu:eG u=true) (ha:Wr a):Wr (.mk 11 0 [] u false [a])
 |elm {a b:Ex} (ha:Wr a) (hb:Wr b):Wr (.mk 12 0 [] [] false [a,b])
 |len {a:Ex} (ha:Wr a):Wr (.mk 13 0 [] [] false [a])
 |neg {a:Ex} (ha:Wr a):Wr (.mk 14 0 [] [] false [a])
 |not {a:Ex} (ha:Wr a):Wr (.mk 15 0 [] [] false [a])
 |bin {o:Bs} {a b:Ex} (ho:o∈AEq) (ha:Wr a) (hb:Wr b):Wr (.mk 16 0 o [] false [a,b])
 |and {a b:Ex} (ha:Wr a) (hb:Wr b):Wr (.mk 17 0 [] [] false [a,b])
 |or {a b:Ex} (ha:Wr a) (hb:Wr b):Wr (.mk 18 0 [] [] false [a,b])
 |asx {u:Bs} {a:Ex} (hu:Ws u=true) (ha:Wr a):Wr (.mk 19 0 [] u false [a])
 |isx {u:Bs} {a:Ex} (hu:Ws u=true) (ha:Wr a):Wr (.mk 20 0 [] u false [a])
def uK(l:List Bs)(i:Nat):Bs:=match l[i]? with|some x=>x|none=>TS
def IZ:List Bs->Bs
 |[]=>[]
 |a::l=>a++l.flatMap λb=>DK++([32]++b)
def AUJ(k n:Nat)(nm ty:Bs)(ks:List Bs):Bs:=
 match k with
 |1=>Zw n
 |2=>YT
 |3=>UM
 |5=>Yd
 |6=>nm
 |7=>uK ks 0++(DX++nm)
 |8=>uK ks 0++(DX++(nm++(BJ++(IZ (ks.drop 1)++BM))))
 |9=>ty++(DX++(nm++(BJ++(IZ ks++BM))))
 |10=>BJ++(Jb++([32]++(ty++BM)))
 |11=>Jb++([32]++(ty++(Hq++(uK ks 0++G6))))
 |12=>uK ks 0++(Hq++(uK ks 1++G6))
 |13=>uK ks 0++(DX++Io)
 |14=>BJ++(Dz++(uK ks 0++BM))
 |15=>BJ++(JA++(uK ks 0++BM))
 |16=>BJ++(uK ks 0++([32]++(nm++([32]++(uK ks 1++BM)))))
 |17=>BJ++(uK ks 0++([32]++(Ob++([32]++(uK ks 1++BM)))))
 |18=>BJ++(uK ks 0++([32]++(ZP++([32]++(uK ks 1++BM)))))
 |19=>BJ++(uK ks 0++([32]++(UC++([32]++(ty++BM)))))
 |20=>BJ++(uK ks 0++([32]++(Qv++([32]++(ty++BM)))))
 |_=>TS
mutual
def textE:Ex->Bs
 |.mk k n nm ty _ ks=>AUJ k n nm ty (AHy ks)
def AHy:List Ex->List Bs
 |[]=>[]
 |e::l=>textE e::AHy l
end
theorem AFY:∀l:List Ex,AHy l=l.map textE
 |[]=>by unfold AHy;rfl
 |a::l=>by unfold AHy;rw[AFY l];rfl
def QD(l:List (List Tok))(i:Nat):List Tok:=match l[i]? with|some x=>x|none=>[W TS]
def Lu:List (List Tok)->List Tok
 |[]=>[]
 |a::l=>a++l.flatMap λb=>M DK::b
def Zu(k n:Nat)(nm ty:Bs)(ks:List (List Tok)):List Tok:=
 match k with
 |1=>[N (Zw n) n]
 |2=>[W YT]
 |3=>[W UM]
 |5=>[W Yd]
 |6=>[L nm]
 |7=>QD ks 0++[M DX,L nm]
 |8=>QD ks 0++M DX::L nm::M BJ::(Lu (ks.drop 1)++[M BM])
 |9=>U ty::M DX::L nm::M BJ::(Lu ks++[M BM])
 |10=>[M BJ,W Jb,U ty,M BM]
 |11=>W Jb::Wl ty::M Hq::(QD ks 0++[M G6])
 |12=>QD ks 0++M Hq::(QD ks 1++[M G6])
 |13=>QD ks 0++[M DX,W Io]
 |14=>M BJ::M Dz::(QD ks 0++[M BM])
 |15=>M BJ::M JA::(QD ks 0++[M BM])
 |16=>M BJ::(QD ks 0++M nm::(QD ks 1++[M BM]))
 |17=>M BJ::(QD ks 0++M Ob::(QD ks 1++[M BM]))
 |18=>M BJ::(QD ks 0++M ZP::(QD ks 1++[M BM]))
 |19=>M BJ::(QD ks 0++[W UC,U ty,M BM])
 |20=>M BJ::(QD ks 0++[W Qv,U ty,M BM])
 |_=>[W TS]
mutual
def tokE:Ex->List Tok
 |.mk k n nm ty _ ks=>Zu k n nm ty (AN5 ks)
def AN5:List Ex->List (List Tok)
 |[]=>[]
 |e::l=>tokE e::AN5 l
end
theorem AJL:∀l:List Ex,AN5 l=l.map tokE
 |[]=>by unfold AN5;rfl
 |a::l=>by unfold AN5;rw[AJL l];rfl
theorem Ae(k n:Nat)(nm ty:Bs)(ar:Bool)(ks:List Ex):textE (.mk k n nm ty ar ks)=AUJ k n nm ty (ks.map textE):=by unfold textE;rw[AFY]
theorem CO(k n:Nat)(nm ty:Bs)(ar:Bool)(ks:List Ex):tokE (.mk k n nm ty ar ks)=Zu k n nm ty (ks.map tokE):=by unfold tokE;rw[AJL]
def Out(r:Bs):Prop:=∀c l,r=c::l->inner c=false
theorem APs{c:UInt8}{r:Bs}(h:inner c=false):Out (c::r):=λ_ _ e=>by cases e;exact h
theorem ARl{t:Tok}{r:Bs}(h:t.kind≠5)(ho:Out r):ANj t r=true:=by
 cases r with
 |nil=>rfl
 |cons c l=>exact AJN h (ho c l rfl)
theorem Vk{t:Tok}{r:Bs}{ts:List Tok}(hw:Wf t)(hk:t.kind≠5)(ho:Out r)(h:Dq r ts):Dq (t.text++r) (t::ts):=ALg hw (ARl hk ho) h
def Aai(e:Ex):Prop:=∀r ts,Out r->Dq r ts->Dq (textE e++r) (tokE e++ts)
theorem AAw(l:Bs):(Wl l).text=l:=by unfold Wl;cases Ws l<;>rfl
theorem AFj(l:Bs):(Wl l).kind≠5:=by unfold Wl;cases Ws l<;>simp[W,U]
theorem AGB{l:Bs}(h:eG l=true):Wf (Wl l):=by
 unfold Wl
 cases hu:Ws l with
 |true=>exact AIj hu
 |false=>
  simp only[eG,hu,Bool.or_false,Bool.or_eq_true,decide_eq_true_eq]at h
  rcases h with rfl|rfl
  ·exact Ih (by decide)
  ·exact Ih (by decide)
theorem ADF{m:Bs}{r:Bs}{ts:List Tok}(hm:m∈FI)(h:Dq r ts):Dq (m++([32]++r)) (M m::ts):=Ti (t:=M m) (.mark hm) h
theorem ANC{o:Bs}(h:o∈AEq):o∈FI:=by
 simp only[AEq,List.mem_cons,List.not_mem_nil,or_false]at h
 rcases h with rfl|rfl|rfl|rfl|rfl|rfl|rfl|rfl|rfl<;>decide
theorem AMI{p:UInt8->Bool}{l:Bs}(h:nameB p l=true):∃c t,l=c::t/\inner c=true:=by
 have h:=zH h
 obtain⟨c,t,e,_⟩:=h.hd
 exact⟨c,t,e,h.all c (by rw[e];exact List.mem_cons_self)⟩
theorem AVc(n:Nat):∃c t,Zw n=c::t/\inner c=true:=by
 cases h:Zw n with
 |nil=>exact absurd h (ANh n)
 |cons c t=>exact⟨c,t,rfl,ay (wX _ _ c (by show c∈Zw n;rw[h];exact List.mem_cons_self))⟩
def HdB(l:Bs):Prop:=∃c t,l=c::t/\(inner c=true∨c=40)
theorem HdB.app{l:Bs}(h:HdB l)(r:Bs):HdB (l++r):=by obtain⟨c,t,rfl,h⟩:=h;exact⟨c,t++r,rfl,h⟩
theorem AZ0{e:Ex}(h:Wr e):HdB (textE e):=by
 have inn:∀{l:Bs},(∃c t,l=c::t/\inner c=true)->HdB l:=λ⟨c,t,e,h⟩=>⟨c,t,e,.inl h⟩
 have low:∀{l:Bs},iy l=true->HdB l:=λh=>inn (AMI (Bool.and_eq_true_iff.1 h).1)
 have upp:∀{l:Bs},Ws l=true->HdB l:=λh=>inn (AMI h)
 have lp:∀{l:Bs},HdB (BJ++l):=λ{l}=>⟨40,l,rfl,.inr rfl⟩
 induction h with
 |num h=>rw[Ae];exact inn (AVc _)
 |tru=>exact⟨116,_,rfl,.inl (by decide)⟩
 |fls=>exact⟨102,_,rfl,.inl (by decide)⟩
 |nul=>exact⟨110,_,rfl,.inl (by decide)⟩
 |ths=>exact⟨116,_,rfl,.inl (by decide)⟩
 |loc h=>rw[Ae];exact low h
 |get h ha ih=>rw[Ae];exact ih.app _
 |call h ha hk hn ih=>rw[Ae];exact ih.app _
 |stat h hu hk hn=>rw[Ae];exact(upp hu).app _
 |new hu=>rw[Ae];exact lp
 |arr hu ha ih=>rw[Ae];exact HdB.app (l:=Jb) ⟨110,_,rfl,.inl (by decide)⟩ _
 |elm ha hb ih=>rw[Ae];exact ih.app _
 |len ha ih=>rw[Ae];exact ih.app _
 |neg ha ih=>rw[Ae];exact lp
 |not ha ih=>rw[Ae];exact lp
 |bin ho ha hb=>rw[Ae];exact lp
 |and ha hb=>rw[Ae];exact lp
 |or ha hb=>rw[Ae];exact lp
 |asx hu ha=>rw[Ae];exact lp
 |isx hu ha=>rw[Ae];exact lp
theorem AVb{l:Bs}(h:HdB l):ANj (M JA) l=true:=by
 obtain⟨c,t,rfl,h⟩:=h
 show N9 (M JA) c=true
 rcases h with h|rfl
 ·exact AII rfl h
 ·decide
theorem AEI{α:Type}{f:α->Bs}{g:α->List Tok}{r:Bs}{ts:List Tok}(ho:Out r)(hr:Dq r ts):∀{ks:List α},(∀x∈ks,∀r ts,Out r->Dq r ts->Dq (f x++r) (g x++ts))->Dq (IZ (ks.map f)++r) (Lu (ks.map g)++ts)
 |[],_=>hr
 |a::ks,h=>by
  show Dq ((f a++((ks.map f).flatMap λb=>DK++([32]++b)))++r) ((g a++((ks.map g).flatMap λb=>M DK::b))++ts)
  rw[List.append_assoc,List.append_assoc]
  have tl:∀{ks:List α},(∀x∈ks,∀r ts,Out r->Dq r ts->Dq (f x++r) (g x++ts))->Out (((ks.map f).flatMap λb=>DK++([32]++b))++r)/\Dq (((ks.map f).flatMap λb=>DK++([32]++b))++r) (((ks.map g).flatMap λb=>M DK::b)++ts):=by
   intro ks
   induction ks with
   |nil=>intro _;exact⟨ho,hr⟩
   |cons b ks ih=>
    intro h
    obtain⟨h1,h2⟩:=ih λx hx=>h x (List.mem_cons_of_mem _ hx)
    refine⟨APs (by decide),?_⟩
    simp only[List.map_cons,List.flatMap_cons,List.append_assoc,List.cons_append]
    exact Hy (m:=DK) (by decide) (Em Wv (h b List.mem_cons_self _ _ h1 h2))
  obtain⟨h1,h2⟩:=tl λx hx=>h x (List.mem_cons_of_mem _ hx)
  exact h a List.mem_cons_self _ _ h1 h2
theorem ARq{e:Ex}(h:Wr e):Aai e:=by
 have wl:∀{l:Bs},iy l=true->Wf (L l):=λh=>APL h
 have out:∀{m:Bs} {r:Bs},(match m with|[]=>false|c::_=> !inner c)=true->Out (m++r):=by
  intro m r h
  cases m with
  |nil=>cases h
  |cons c m=>exact APs (by simpa using h)
 induction h with
 |num h=>intro r ts ho hr;rw[Ae,CO];exact Vk (t:=N (Zw _) _) (.num (ANh _) (wX _ _) (AN3 h)) (by simp[N]) ho hr
 |tru=>intro r ts ho hr;rw[Ae,CO];exact Vk (t:=W YT) (Ih (by decide)) (by simp[W]) ho hr
 |fls=>intro r ts ho hr;rw[Ae,CO];exact Vk (t:=W UM) (Ih (by decide)) (by simp[W]) ho hr
 |nul=>intro r ts ho hr;rw[Ae,CO];exact Vk (t:=W TS) (Ih (by decide)) (by simp[W]) ho hr
 |ths=>intro r ts ho hr;rw[Ae,CO];exact Vk (t:=W Yd) (Ih (by decide)) (by simp[W]) ho hr
 |loc h=>intro r ts ho hr;rw[Ae,CO];exact Vk (t:=L _) (wl h) (by simp[L]) ho hr
 | @get l a h ha ih=>
  intro r ts ho hr
  rw[Ae,CO]
  show Dq ((textE a++(DX++l))++r) ((tokE a++[M DX,L l])++ts)
  simp only[List.append_assoc,List.cons_append,List.nil_append]
  exact ih _ _ (out (by decide)) (Hy (m:=DX) (by decide) (Vk (t:=L l) (wl h) (by simp[L]) ho hr))
 | @call l a ks h ha hk hn ih ihk=>
  intro r ts ho hr
  rw[Ae,CO]
  show Dq ((textE a++(DX++(l++(BJ++(IZ (ks.map textE)++BM)))))++r) ((tokE a++M DX::L l::M BJ::(Lu (ks.map tokE)++[M BM]))++ts)
  simp only[List.append_assoc,List.cons_append,List.nil_append]
  exact ih _ _ (out (by decide)) (Hy (m:=DX) (by decide) (Vk (t:=L l) (wl h) (by simp[L]) (out (by decide)) (Hy (m:=BJ) (by decide) (AEI (out (by decide)) (Hy (m:=BM) (by decide) hr) ihk))))
 | @stat l u ks h hu hk hn ihk=>
  intro r ts ho hr
  rw[Ae,CO]
  show Dq ((u++(DX++(l++(BJ++(IZ (ks.map textE)++BM)))))++r) ((U u::M DX::L l::M BJ::(Lu (ks.map tokE)++[M BM]))++ts)
  simp only[List.append_assoc,List.cons_append,List.nil_append]
  exact Vk (t:=U u) (AIj hu) (by simp[U]) (out (by decide)) (Hy (m:=DX) (by decide) (Vk (t:=L l) (wl h) (by simp[L]) (out (by decide)) (Hy (m:=BJ) (by decide) (AEI (out (by decide)) (Hy (m:=BM) (by decide) hr) ihk))))
 | @new u hu=>
  intro r ts ho hr
  rw[Ae,CO]
  show Dq ((BJ++(Jb++([32]++(u++BM))))++r) ([M BJ,W Jb,U u,M BM]++ts)
  simp only[List.append_assoc,List.cons_append,List.nil_append]
  exact Hy (m:=BJ) (by decide) (Ti (t:=W Jb) (Ih (by decide)) (Vk (t:=U u) (AIj hu) (by simp[U]) (out (by decide)) (Hy (m:=BM) (by decide) hr)))
 | @arr u a hu ha ih=>
  intro r ts ho hr
  rw[Ae,CO]
  show Dq ((Jb++([32]++(u++(Hq++(textE a++G6)))))++r) ((W Jb::Wl u::M Hq::(tokE a++[M G6]))++ts)
  simp only[List.append_assoc,List.cons_append,List.nil_append]
  have hb:=Vk (t:=Wl u) (r:=Hq++(textE a++(G6++r))) (AGB hu) (AFj u) (out (by decide)) (Hy (m:=Hq) (by decide) (ih _ _ (out (by decide)) (Hy (m:=G6) (by decide) hr)))
  rw[AAw]at hb
  exact Ti (t:=W Jb) (Ih (by decide)) hb
 | @elm a b ha hb iha ihb=>
  intro r ts ho hr
  rw[Ae,CO]
  show Dq ((textE a++(Hq++(textE b++G6)))++r) ((tokE a++M Hq::(tokE b++[M G6]))++ts)
  simp only[List.append_assoc,List.cons_append,List.nil_append]
  exact iha _ _ (out (by decide)) (Hy (m:=Hq) (by decide) (ihb _ _ (out (by decide)) (Hy (m:=G6) (by decide) hr)))
 | @len a ha ih=>
  intro r ts ho hr
  rw[Ae,CO]
  show Dq ((textE a++(DX++Io))++r) ((tokE a++[M DX,W Io])++ts)
  simp only[List.append_assoc,List.cons_append,List.nil_append]
  exact ih _ _ (out (by decide)) (Hy (m:=DX) (by decide) (Vk (t:=W Io) (Ih (by decide)) (by simp[W]) ho hr))
 | @neg a ha ih=>
  intro r ts ho hr
  rw[Ae,CO]
  show Dq ((BJ++(Dz++(textE a++BM)))++r) ((M BJ::M Dz::(tokE a++[M BM]))++ts)
  simp only[List.append_assoc,List.cons_append,List.nil_append]
  exact Hy (m:=BJ) (by decide) (Hy (m:=Dz) (by decide) (ih _ _ (out (by decide)) (Hy (m:=BM) (by decide) hr)))
 | @not a ha ih=>
  intro r ts ho hr
  rw[Ae,CO]
  show Dq ((BJ++(JA++(textE a++BM)))++r) ((M BJ::M JA::(tokE a++[M BM]))++ts)
  simp only[List.append_assoc,List.cons_append,List.nil_append]
  exact Hy (m:=BJ) (by decide) (ALg (t:=M JA) (.mark (by decide)) (AVb ((AZ0 ha).app _)) (ih _ _ (out (by decide)) (Hy (m:=BM) (by decide) hr)))
 | @bin o a b ho' ha hb iha ihb=>
  intro r ts ho hr
  rw[Ae,CO]
  show Dq ((BJ++(textE a++([32]++(o++([32]++(textE b++BM))))))++r) ((M BJ::(tokE a++M o::(tokE b++[M BM])))++ts)
  simp only[List.append_assoc,List.cons_append,List.nil_append]
  exact Hy (m:=BJ) (by decide) (iha _ _ (out (m:=[32]) (by decide)) (Em Wv (ADF (ANC ho') (ihb _ _ (out (by decide)) (Hy (m:=BM) (by decide) hr)))))
 | @and a b ha hb iha ihb=>
  intro r ts ho hr
  rw[Ae,CO]
  show Dq ((BJ++(textE a++([32]++(Ob++([32]++(textE b++BM))))))++r) ((M BJ::(tokE a++M Ob::(tokE b++[M BM])))++ts)
  simp only[List.append_assoc,List.cons_append,List.nil_append]
  exact Hy (m:=BJ) (by decide) (iha _ _ (out (m:=[32]) (by decide)) (Em Wv (ADF (m:=Ob) (by decide) (ihb _ _ (out (by decide)) (Hy (m:=BM) (by decide) hr)))))
 | @or a b ha hb iha ihb=>
  intro r ts ho hr
  rw[Ae,CO]
  show Dq ((BJ++(textE a++([32]++(ZP++([32]++(textE b++BM))))))++r) ((M BJ::(tokE a++M ZP::(tokE b++[M BM])))++ts)
  simp only[List.append_assoc,List.cons_append,List.nil_append]
  exact Hy (m:=BJ) (by decide) (iha _ _ (out (m:=[32]) (by decide)) (Em Wv (ADF (m:=ZP) (by decide) (ihb _ _ (out (by decide)) (Hy (m:=BM) (by decide) hr)))))
 | @asx u a hu ha ih=>
  intro r ts ho hr
  rw[Ae,CO]
  show Dq ((BJ++(textE a++([32]++(UC++([32]++(u++BM))))))++r) ((M BJ::(tokE a++[W UC,U u,M BM]))++ts)
  simp only[List.append_assoc,List.cons_append,List.nil_append]
  exact Hy (m:=BJ) (by decide) (ih _ _ (out (m:=[32]) (by decide)) (Em Wv (Ti (t:=W UC) (Ih (by decide)) (Vk (t:=U u) (AIj hu) (by simp[U]) (out (by decide)) (Hy (m:=BM) (by decide) hr)))))
 | @isx u a hu ha ih=>
  intro r ts ho hr
  rw[Ae,CO]
  show Dq ((BJ++(textE a++([32]++(Qv++([32]++(u++BM))))))++r) ((M BJ::(tokE a++[W Qv,U u,M BM]))++ts)
  simp only[List.append_assoc,List.cons_append,List.nil_append]
  exact Hy (m:=BJ) (by decide) (ih _ _ (out (m:=[32]) (by decide)) (Em Wv (Ti (t:=W Qv) (Ih (by decide)) (Vk (t:=U u) (AIj hu) (by simp[U]) (out (by decide)) (Hy (m:=BM) (by decide) hr)))))
section
variable{G:AV}{H:Heap}{n:Nat}{k:KV}
theorem AIl{x:Nat}(hG:jy G)(h:x<9223372036854775808)(hk:∀H' n',Kp H n H' n'->k (sB (Zw x)) H' n'):Runs F G Yo [.int .i64 (.ofNat x) 0,.int .i64 (.ofNat 10) 0] H n k:=by
 refine Am (s:=QS (OV lfp G)) RI (by obtain⟨h,o⟩:=qj Ap G;rw[RI]at h;cases h;exact o) ?_
 show OV lfp G (Runs F G) (.int .i64 (.ofNat x) 0) (.int .i64 (.ofNat 10) 0) H n k
 delta OV
 exact AZF hG h hk
end
theorem zV{f:Nat}{nk:Nk}{G:AV}{args:List V}{H:Heap}{n:Nat}{k:KV}(hf:T.get F f=some (.nat nk))(h:oU nk G args H n k):Runs F G f args H n k:=ADf hf (show AHM (.nat nk) G (Runs F G) args H n k from h)
theorem AFN:∀ls:List Bs,ABn (ls.map λb=>[sB b])=some (ls.map KT)
 |[]=>rfl
 |b::ls=>by
  show(match ABn (ls.map λb=>[sB b])with|some x=>some ((b.length,enc b)::x)|none=>none)=_
  rw[AFN ls];rfl
theorem AP6(ls:List Bs):IZ ls=Lib.join ls [44,32]:=by
 cases ls with
 |nil=>rfl
 |cons a l=>
  rw[Lib.join_cons]
  show a++l.flatMap (λb=>DK++([32]++b))=a++(l.map ([44,32]++ ·)).flatten
  rw[List.flatMap];rfl
theorem AFg:∀ls:List Bs,∀b∈ls,b.length<=(IZ ls).length
 |[],b,h=>by cases h
 |a::l,b,h=>by
  unfold IZ
  rw[List.length_append]
  rcases List.mem_cons.1 h with rfl|h
  ·omega
  ·have:∀l:List Bs,b∈l->b.length<=(l.flatMap λb=>DK++([32]++b)).length:=by
    intro l
    induction l with
    |nil=>intro h;cases h
    |cons c l ih=>
     intro h
     simp only[List.flatMap_cons,List.length_append]
     rcases List.mem_cons.1 h with rfl|h
     ·omega
     ·have:=ih h;omega
   have:=this l h;omega
section
variable{G:AV}{H:Heap}{n:Nat}{k:KV}
theorem AQZ{v:V}{ls:List Bs}(hv:El G H v 1 (ls.map λb=>[sB b]))(h1:ls.length<=1000000)(h2:(IZ ls).length<=1000000000000)(hk:k (sB (IZ ls)) H n):Runs F G Zn [v,.str 2 8236] H n k:=by
 refine zV ACZ ?_
 show zW v (.str 2 8236) G H n k
 show Ed (YN (isStr v)) (Hu (elems v G H 1) λLS=>Hu (ABn LS) λss=>Ed (decide (ss.length<=Zx/\(bU (2,8236) ss).1<=Zx)) (k (.str (bU (2,8236) ss).1 (bU (2,8236) ss).2) H n))
 rw[hv.1,hv.2]
 show Hu (ABn (ls.map λb=>[sB b])) (λss=>Ed (decide (ss.length<=Zx/\(bU (2,8236) ss).1<=Zx)) (k (.str (bU (2,8236) ss).1 (bU (2,8236) ss).2) H n))
 rw[AFN]
 show Ed (decide ((ls.map KT).length<=Zx/\(bU (KT [44,32]) (ls.map KT)).1<=Zx)) (k (.str (bU (KT [44,32]) (ls.map KT)).1 (bU (KT [44,32]) (ls.map KT)).2) H n)
 rw[AFB,<-AP6]
 show Ed (decide ((ls.map KT).length<=Zx/\(IZ ls).length<=Zx)) (k (sB (IZ ls)) H n)
 rw[decide_eq_true (show(ls.map KT).length<=Zx/\(IZ ls).length<=Zx from⟨by rw[List.length_map];unfold Zx;omega,by unfold Zx;omega⟩)]
 exact hk
theorem AHm{m:Nat}{v:V}{b:Bs}{LS:Dv}{P:KV}{Z:LV}(ho:Own G H m n 1 v LS)(hm:m<=n)(hb:(LS.length+1)*16<=140737488355328)
 (hk:∀v' H',Own G H' m (n+2) 1 v' (LS++[[sB b]])->(∀id,id<n->v.QU≠some id->T.get H' id=T.get H id)->(∀id,v'.QU=some id->id=n+1)->P v' H' (n+2)):
 DW (Aj 1 1 Z [(0,.c (sB b))] E0) H n λw H n=>Xx 1 16 v w G H n P:=by
 refine Ju (G:=G) (vs:=[sB b]) rfl (by omega) (λv hv=>by simp at hv;subst hv;exact⟨rfl,rfl⟩) λH6 f6 _ hel=>?_
 have ho6:=ho.kp f6
 refine ACu ho6.gr (by omega) ho6.lo hel.2 hb ?_ (λh=>by cases h)
 intro v' H7 hgr hsame hlo
 refine hk v' H7 ⟨hgr,λid hid=>by have:=hlo id hid;omega⟩ (λid h1 h2=>(hsame id (by omega) h2).trans (f6.same id h1)) hlo
theorem ARh{v:V}{z:Nat}{L:LV}{LS:Dv}(h:El G H v z (L::LS))(hv:KS v):∃w,AIM z v E0 (some (.c (.int .i64 (.ofNat 1) 0))) none none=some w/\El G H w z LS/\w.QU=v.QU:=by
 obtain⟨hs,h⟩:=h
 have hd:∀{id o m:Nat},DF H id z m o=some (L::LS)->∃m',m=m'+1/\DF H id z m' (o+1)=some LS:=by
  intro id o m h
  cases m with
  |zero=>cases h
  |succ m=>
   have h3:DJ (lC H id (Nat.mul o z) z) (λL=>DJ (DF H id z m (Nat.succ o)) λLS=>some (L::LS))=some (L::LS):=h
   rw[Bq]at h3
   obtain⟨L',_,h3⟩:=h3
   rw[Bq]at h3
   obtain⟨LS',h4,h3⟩:=h3
   cases h3
   exact⟨m,rfl,h4⟩
 cases v<;>try (cases h;done)
 ·cases hs
 ·rename_i id o m c e
  cases hb:Nat.beq e z with
  |false=>have h':(Bool.rec (motive:=λ_=>Option Dv) none (DF H id z m o) (Nat.beq e z):Option Dv)=some (L::LS):=h;rw[hb]at h';cases h'
  |true=>
   have h':(Bool.rec (motive:=λ_=>Option Dv) none (DF H id z m o) (Nat.beq e z):Option Dv)=some (L::LS):=h
   rw[hb]at h'
   have he:e=z:=Nat.eq_of_beq_eq_true hb
   subst he
   obtain⟨m',rfl,h4⟩:=hd h'
   have hmc:=hv.2.1 _ _ _ _ _ rfl
   refine⟨.sl id (o+1) m' (c-1) e,?_,⟨rfl,?_⟩,rfl⟩
   ·show BO (Nat.beq e e) (BO (band (Nat.ble 1 (m'+1)) (band (Nat.ble (m'+1) c) (Nat.ble c c))) (f3 (o+1) (m'+1-1) (c-1) λo d c=>.sl id o d c e))=_
    rw[Eh,show Nat.ble 1 (m'+1)=true by rw[Nat.ble_eq];omega,show Nat.ble (m'+1) c=true by rw[Nat.ble_eq];omega,show Nat.ble c c=true by rw[Nat.ble_eq];omega]
    show Dy (o+1) (λa=>Dy (m'+1-1) λb=>Dy (c-1) λd=>some (.sl id a b d e))=_
    rw[Bv,Bv,Bv];rfl
   ·show(Bool.rec (motive:=λ_=>Option Dv) none (DF H id e m' (o+1)) (Nat.beq e e):Option Dv)=some LS
    rw[Eh];exact h4
 ·rename_i id o m e
  cases hb:Nat.beq e z with
  |false=>have h':(Bool.rec (motive:=λ_=>Option Dv) none (DF H id z m o) (Nat.beq e z):Option Dv)=some (L::LS):=h;rw[hb]at h';cases h'
  |true=>
   have h':(Bool.rec (motive:=λ_=>Option Dv) none (DF H id z m o) (Nat.beq e z):Option Dv)=some (L::LS):=h
   rw[hb]at h'
   have he:e=z:=Nat.eq_of_beq_eq_true hb
   subst he
   obtain⟨m',rfl,h4⟩:=hd h'
   exact⟨_,AL0,AO8 h4,rfl⟩
 ·exact absurd rfl (hv.2.2 _ _ _ _ _)
def Et(G:AV)(e:Ex):Prop:=∀(H:Heap) (n:Nat) (c:LV) (A:Nat->Prop) (k:KV),EJ G H A c e->(∀id,A id->id<n)->(textE e).length<=100000000000->(∀H' n',Kp H n H' n'->k (sB (textE e)) H' n')->Runs F G UK [.agg c] H n k
theorem Ic{k i:Nat}{X Y:Prop}(h:k≠i)(hp:Y):AP (EU (.one .int) false (.int .i64 (.ofNat k) 0) (.int .i64 (.ofNat i) 0)) (λv=>Ac v true X Y):=by
 rw[YX,Aw,decide_eq_false h,Aq];exact hp
theorem F9{k:Nat}{X Y:Prop}(hp:X):AP (EU (.one .int) false (.int .i64 (.ofNat k) 0) (.int .i64 (.ofNat k) 0)) (λv=>Ac v true X Y):=by
 rw[YX,Aw,decide_eq_true rfl,Ah];exact hp
theorem Yx{kd nu i:Nat}{nm ty:Bs}{ar:Bool}{ks:List Ex}{x:Ex}{c:LV}{A:Nat->Prop}(hc:EJ G H A c (.mk kd nu nm ty ar ks))(hA:∀id,A id->id<n)(hi:ks[i]? =some x)(ht:Et G x)(hl:(textE x).length<=100000000000)
 (hk:∀H' n',Kp H n H' n'->k (sB (textE x)) H' n'):Runs F G Dh [.agg c,.int .i64 (.ofNat i) 0] H n k:=by
 refine Am (s:=QS (Vj lfp G)) YU (by obtain⟨h,o⟩:=ACU Ap G;rw[YU]at h;cases h;exact o) ?_
 show Vj lfp G (Runs F G) (.agg c) (.int .i64 (.ofNat i) 0) H n k
 delta Vj
 refine Di λH1 f1 g1=>?_
 have hc:EJ G H1 A c (.mk kd nu nm ty ar ks):=hc.mono (λ_ h=>h) λid h=>f1.same id (hA id h)
 cases hc with
 |mk _ _ _ _ _ line col he hv ha hcs=>
 rename_i v cs
 obtain⟨hlt,_⟩:=List.getElem?_eq_some_iff.1 hi
 have q7:AX (.ptr n 7) G H1=some v:=AQ g1 rfl
 obtain⟨cx,hcx,hx⟩:=hcs.at hi
 obtain⟨p,hp,hld⟩:=he.at hcx
 refine AB (v:=.ptr n 7) (by rw[Aa,Nat.zero_add]) (AB q7 (AB he.len (AB (ES ..) ?_)))
 rw[hcs.len,decide_eq_true hlt,Ah]
 refine AB (v:=.ptr n 7) (by rw[Aa,Nat.zero_add]) (AB q7 (AB hp (AB (J3 hld) ?_)))
 exact ht H1 (n+1) cx A _ hx (λid h=>by have:=hA id h;omega) hl λH' n' f=>hk _ _ (f1.trans f)
theorem AWY{kd nu:Nat}{nm ty:Bs}{ar:Bool}{x:Ex}{ks:List Ex}{c:LV}{A:Nat->Prop}(hc:EJ G H A c (.mk kd nu nm ty ar (x::ks)))(hA:∀id,A id->id<n)
 (hk:∀H' n' w cs,Kp H n H' n'->El G H' w 11 cs->(∀id,w.QU=some id->A id)->Ou G H' A cs ks->k w H' n'):Runs F G lK [.agg c] H n k:=by
 refine Am (s:=Gw (UW lfp G)) WW (by obtain⟨h,o⟩:=ABU Ap G;rw[WW]at h;cases h;exact o) ?_
 show UW lfp G (Runs F G) (.agg c) H n k
 delta UW
 refine Di λH1 f1 g1=>?_
 have hc:EJ G H1 A c (.mk kd nu nm ty ar (x::ks)):=hc.mono (λ_ h=>h) λid h=>f1.same id (hA id h)
 cases hc with
 |mk _ _ _ _ _ line col he hv ha hcs=>
 rename_i v cs
 cases hcs with
 |cons hx hcs=>
 have q7:AX (.ptr n 7) G H1=some v:=AQ g1 rfl
 obtain⟨w,hw,hel,hsid⟩:=ARh he hv
 refine AB (v:=.ptr n 7) (by rw[Aa,Nat.zero_add]) (AB q7 (AB (v:=.ptr n 7) (by rw[Aa,Nat.zero_add]) (AB q7 (AB he.len (AB (v:=.int .i64 (.ofNat 1) 0) ?_ (AB hw ?_))))))
 ·rw[List.length_cons];rfl
 ·exact hk _ _ _ _ f1 hel (λid hid=>ha id (hsid▸hid)) hcs
theorem APw{v:V}{cs:Dv}{ks:List Ex}{A:Nat->Prop}(hv:El G H v 11 cs)(hva:∀id,v.QU=some id->A id)(hc:Ou G H A cs ks)(hA:∀id,A id->id<n)(ht:∀x∈ks,Et G x)(hn:ks.length<=1000000)(hl:(IZ (ks.map textE)).length<=100000000000)
 (hk:∀H' n',Kp H n H' n'->k (sB (IZ (ks.map textE))) H' n'):Runs F G vS [v] H n k:=by
 refine Am (s:=Gw (iU lfp G)) rH (by obtain⟨h,o⟩:=AHx Ap G;rw[rH]at h;cases h;exact o) ?_
 show iU lfp G (Runs F G) v H n k
 delta iU
 refine AB hv.len ?_
 rw[hc.len]
 refine ER (N:=ks.length) (J:=λj q=>∃w H' n',q=(w,v,.int .i64 (.ofNat ks.length) 0,.int .i64 (.ofNat j) 0,H',n')/\Kp H n H' n'/\Own G H' n n' 1 w ((ks.take j).map λe=>[sB (textE e)])) ?_ ?_ ⟨.Ad,H,n,rfl,Kp.refl ..,XP⟩
 ·rintro I j q hlt ⟨w,H1,n1,rfl,f1,ho⟩ ih
  show Tt lfp G (Runs F G) k I w v (.int .i64 (.ofNat ks.length) 0) (.int .i64 (.ofNat j) 0) H1 n1
  delta Tt
  have hn1:=f1.le
  have hv1:El G H1 v 11 cs:=hv.kp (λid hid=>hA id (hva id hid)) f1
  have hc1:Ou G H1 A cs ks:=hc.mono (λ_ h=>h) λid h=>f1.same id (hA id h)
  obtain⟨cx,hcx,hx⟩:=hc1.at (List.getElem?_eq_getElem hlt)
  have htx:=ht _ (List.getElem_mem hlt)
  have hlx:(textE ks[j]).length<=(IZ (ks.map textE)).length:=AFg _ _ (List.mem_map_of_mem (List.getElem_mem hlt))
  obtain⟨p,hp,hld⟩:=hv1.at hcx
  rw[ES,Aw,decide_eq_true hlt,Ah]
  refine AB hp (AB (J3 hld) ?_)
  refine Az rfl λH2 f2 g2=>?_
  refine CB g2 rfl hx.len (by omega) λH3 g2 t3=>?_
  have f3:Kp H1 n1 H3 (n1+1):=⟨f2.le,λid hid=>(t3 id (by omega)).trans (f2.same id hid)⟩
  refine AB (Ai (m:=11) g2 (by omega) hx.len) ?_
  have hx:EJ G H3 A cx ks[j]:=hx.mono (λ_ h=>h) λid h=>f3.same id (by have:=hA id h;omega)
  refine htx H3 (n1+1) cx A _ hx (λid h=>by have:=hA id h;omega) (by omega) λH4 n4 f4=>?_
  have f4:=f3.trans f4
  have ho4:=ho.kp f4
  have hn4:=f4.le
  refine AHm ho4 (by omega) (by rw[List.length_map,List.length_take];omega) λv' H5 ho5 hs5 _=>?_
  refine AB (Ee (by omega)) ?_
  refine ih _ ⟨v',H5,n4+2,rfl,⟨by omega,λid hid=>(hs5 id (by omega) (λe=>by have:=ho4.ge e;omega)).trans ((f4.same id (by omega)).trans (f1.same id hid))⟩,?_⟩
  rw[List.take_succ_eq_append_getElem hlt,List.map_append]
  exact ho5
 ·rintro I q ⟨w,H1,n1,rfl,f1,ho⟩
  show Tt lfp G (Runs F G) k I w v (.int .i64 (.ofNat ks.length) 0) (.int .i64 (.ofNat ks.length) 0) H1 n1
  delta Tt
  rw[ES,Aw,decide_eq_false (Nat.lt_irrefl _),Aq]
  show XT lfp G (Runs F G) k w H1 n1
  delta XT
  rw[List.take_length]at ho
  have hel:El G H1 w 1 ((ks.map textE).map λb=>[sB b]):=by rw[List.map_map];exact ho.el (by omega)
  exact AQZ hel (by rw[List.length_map];exact hn) (by omega) (hk _ _ f1)
end
theorem EJ.inv{G:AV}{H:Heap}{A:Nat->Prop}{c:LV}{kd nu:Nat}{nm ty:Bs}{ar:Bool}{ks:List Ex}(h:EJ G H A c (.mk kd nu nm ty ar ks)):
 ∃line col v cs,c=TF kd nu nm ty ar line col v/\El G H v 11 cs/\KS v/\(∀id,v.QU=some id->A id)/\Ou G H A cs ks:=by
 cases h with
 |mk _ _ _ _ _ line col he hv ha hc=>exact⟨line,col,_,_,rfl,he,hv,ha,hc⟩
section
variable{G:AV}
theorem AVx(hG:jy G){m:Nat}(hm:m<=288230376151711744):Et G (.mk 1 m [] [] false []):=by
 intro H n c A k hx0 hA0 hl hk
 have e0:textE (.mk 1 m [] [] false [])=Zw m:=by rw[Ae];rfl
 rw[e0]at hl hk
 try simp only[List.length_append]at hl
 obtain⟨line,col,v,cs,rfl,hel,hks,hva,hcs⟩:=hx0.inv
 refine Am (s:=Gw (AZ lfp G)) Af (by obtain⟨h,o⟩:=Bz Ap G;rw[Af]at h;cases h;exact o) ?_
 show AZ lfp G (Runs F G) (.agg (TF 1 m [] [] false line col v)) H n k
 delta AZ
 refine Di λH1 f1 g1=>?_
 have hx1:=hx0.mono (λ_ h=>h) λid h=>f1.same id (hA0 id h)
 have hA1:∀id,A id->id<n+1:=λid h=>by have:=hA0 id h;omega
 refine AB (Aa ..) (AB (AQ g1 rfl) ?_)
 repeat refine Ic (by decide) ?_
 refine F9 ?_
 refine AB (Aa ..) (AB (AQ g1 rfl) ?_)
 refine AIl hG (by omega) λH2 n2 f2=>?_
 have hn2:=f2.le
 have g2:=f2.get g1 (by omega)
 have f2:=f1.trans f2
 have hx2:=hx0.mono (λ_ h=>h) λid h=>f2.same id (hA0 id h)
 have hA2:∀id,A id->id<n2:=λid h=>by have:=hA0 id h;omega
 have hk:=hk _ _ f2
 try simp only[List.append_assoc]at hk
 try simp only[List.append_assoc]
 exact hk
theorem AWb:Et G (.mk 2 0 [] [] false []):=by
 intro H n c A k hx0 hA0 hl hk
 have e0:textE (.mk 2 0 [] [] false [])=YT:=by rw[Ae];rfl
 rw[e0]at hl hk
 try simp only[List.length_append]at hl
 obtain⟨line,col,v,cs,rfl,hel,hks,hva,hcs⟩:=hx0.inv
 refine Am (s:=Gw (AZ lfp G)) Af (by obtain⟨h,o⟩:=Bz Ap G;rw[Af]at h;cases h;exact o) ?_
 show AZ lfp G (Runs F G) (.agg (TF 2 0 [] [] false line col v)) H n k
 delta AZ
 refine Di λH1 f1 g1=>?_
 have hx1:=hx0.mono (λ_ h=>h) λid h=>f1.same id (hA0 id h)
 have hA1:∀id,A id->id<n+1:=λid h=>by have:=hA0 id h;omega
 refine AB (Aa ..) (AB (AQ g1 rfl) ?_)
 repeat refine Ic (by decide) ?_
 refine F9 ?_
 have hk:=hk _ _ f1
 try simp only[List.append_assoc]at hk
 try simp only[List.append_assoc]
 exact hk
theorem AWP:Et G (.mk 3 0 [] [] false []):=by
 intro H n c A k hx0 hA0 hl hk
 have e0:textE (.mk 3 0 [] [] false [])=UM:=by rw[Ae];rfl
 rw[e0]at hl hk
 try simp only[List.length_append]at hl
 obtain⟨line,col,v,cs,rfl,hel,hks,hva,hcs⟩:=hx0.inv
 refine Am (s:=Gw (AZ lfp G)) Af (by obtain⟨h,o⟩:=Bz Ap G;rw[Af]at h;cases h;exact o) ?_
 show AZ lfp G (Runs F G) (.agg (TF 3 0 [] [] false line col v)) H n k
 delta AZ
 refine Di λH1 f1 g1=>?_
 have hx1:=hx0.mono (λ_ h=>h) λid h=>f1.same id (hA0 id h)
 have hA1:∀id,A id->id<n+1:=λid h=>by have:=hA0 id h;omega
 refine AB (Aa ..) (AB (AQ g1 rfl) ?_)
 repeat refine Ic (by decide) ?_
 refine F9 ?_
 have hk:=hk _ _ f1
 try simp only[List.append_assoc]at hk
 try simp only[List.append_assoc]
 exact hk
theorem AXG:Et G (.mk 4 0 [] [] false []):=by
 intro H n c A k hx0 hA0 hl hk
 have e0:textE (.mk 4 0 [] [] false [])=TS:=by rw[Ae];rfl
 rw[e0]at hl hk
 try simp only[List.length_append]at hl
 obtain⟨line,col,v,cs,rfl,hel,hks,hva,hcs⟩:=hx0.inv
 refine Am (s:=Gw (AZ lfp G)) Af (by obtain⟨h,o⟩:=Bz Ap G;rw[Af]at h;cases h;exact o) ?_
 show AZ lfp G (Runs F G) (.agg (TF 4 0 [] [] false line col v)) H n k
 delta AZ
 refine Di λH1 f1 g1=>?_
 have hx1:=hx0.mono (λ_ h=>h) λid h=>f1.same id (hA0 id h)
 have hA1:∀id,A id->id<n+1:=λid h=>by have:=hA0 id h;omega
 refine AB (Aa ..) (AB (AQ g1 rfl) ?_)
 repeat refine Ic (by decide) ?_
 have hk:=hk _ _ f1
 try simp only[List.append_assoc]at hk
 try simp only[List.append_assoc]
 exact hk
theorem AWf:Et G (.mk 5 0 [] [] false []):=by
 intro H n c A k hx0 hA0 hl hk
 have e0:textE (.mk 5 0 [] [] false [])=Yd:=by rw[Ae];rfl
 rw[e0]at hl hk
 try simp only[List.length_append]at hl
 obtain⟨line,col,v,cs,rfl,hel,hks,hva,hcs⟩:=hx0.inv
 refine Am (s:=Gw (AZ lfp G)) Af (by obtain⟨h,o⟩:=Bz Ap G;rw[Af]at h;cases h;exact o) ?_
 show AZ lfp G (Runs F G) (.agg (TF 5 0 [] [] false line col v)) H n k
 delta AZ
 refine Di λH1 f1 g1=>?_
 have hx1:=hx0.mono (λ_ h=>h) λid h=>f1.same id (hA0 id h)
 have hA1:∀id,A id->id<n+1:=λid h=>by have:=hA0 id h;omega
 refine AB (Aa ..) (AB (AQ g1 rfl) ?_)
 repeat refine Ic (by decide) ?_
 refine F9 ?_
 have hk:=hk _ _ f1
 try simp only[List.append_assoc]at hk
 try simp only[List.append_assoc]
 exact hk
theorem AV0{l:Bs}:Et G (.mk 6 0 l [] false []):=by
 intro H n c A k hx0 hA0 hl hk
 have e0:textE (.mk 6 0 l [] false [])=l:=by rw[Ae];rfl
 rw[e0]at hl hk
 try simp only[List.length_append]at hl
 obtain⟨line,col,v,cs,rfl,hel,hks,hva,hcs⟩:=hx0.inv
 refine Am (s:=Gw (AZ lfp G)) Af (by obtain⟨h,o⟩:=Bz Ap G;rw[Af]at h;cases h;exact o) ?_
 show AZ lfp G (Runs F G) (.agg (TF 6 0 l [] false line col v)) H n k
 delta AZ
 refine Di λH1 f1 g1=>?_
 have hx1:=hx0.mono (λ_ h=>h) λid h=>f1.same id (hA0 id h)
 have hA1:∀id,A id->id<n+1:=λid h=>by have:=hA0 id h;omega
 refine AB (Aa ..) (AB (AQ g1 rfl) ?_)
 repeat refine Ic (by decide) ?_
 refine F9 ?_
 refine AB (Aa ..) (AB (AQ g1 rfl) ?_)
 have hk:=hk _ _ f1
 try simp only[List.append_assoc]at hk
 try simp only[List.append_assoc]
 exact hk
theorem AW6{l:Bs}{a:Ex}(iha:Et G a):Et G (.mk 7 0 l [] false [a]):=by
 intro H n c A k hx0 hA0 hl hk
 have e0:textE (.mk 7 0 l [] false [a])=textE a++(DX++l):=by rw[Ae];rfl
 rw[e0]at hl hk
 try simp only[List.length_append]at hl
 obtain⟨line,col,v,cs,rfl,hel,hks,hva,hcs⟩:=hx0.inv
 refine Am (s:=Gw (AZ lfp G)) Af (by obtain⟨h,o⟩:=Bz Ap G;rw[Af]at h;cases h;exact o) ?_
 show AZ lfp G (Runs F G) (.agg (TF 7 0 l [] false line col v)) H n k
 delta AZ
 refine Di λH1 f1 g1=>?_
 have hx1:=hx0.mono (λ_ h=>h) λid h=>f1.same id (hA0 id h)
 have hA1:∀id,A id->id<n+1:=λid h=>by have:=hA0 id h;omega
 refine AB (Aa ..) (AB (AQ g1 rfl) ?_)
 repeat refine Ic (by decide) ?_
 refine F9 ?_
 refine AB (Ai (m:=11) g1 (by omega) rfl) ?_
 refine AB (Aa ..) (AB (AQ g1 rfl) ?_)
 refine Yx (i:=0) hx1 hA1 rfl iha (by omega) λH2 n2 f2=>?_
 have hn2:=f2.le
 have g2:=f2.get g1 (by omega)
 have f2:=f1.trans f2
 have hx2:=hx0.mono (λ_ h=>h) λid h=>f2.same id (hA0 id h)
 have hA2:∀id,A id->id<n2:=λid h=>by have:=hA0 id h;omega
 refine AB (AQ g2 rfl) (Cc (U0 _) ?_)
 refine AB (BZ (a:=textE a) (b:=DX) (by first|omega|(simp only[List.length_append];omega))) ?_
 refine AB (BZ (a:=textE a++DX) (b:=l) (by first|omega|(simp only[List.length_append];omega))) ?_
 have hk:=hk _ _ f2
 try simp only[List.append_assoc]at hk
 try simp only[List.append_assoc]
 exact hk
theorem ARr{l:Bs}{a:Ex}(iha:Et G a){ks:List Ex}(ihk:∀x∈ks,Et G x)(hn:ks.length<=200):Et G (.mk 8 0 l [] false (a::ks)):=by
 intro H n c A k hx0 hA0 hl hk
 have e0:textE (.mk 8 0 l [] false (a::ks))=textE a++(DX++(l++(BJ++(IZ (ks.map textE)++BM)))):=by rw[Ae];rfl
 rw[e0]at hl hk
 try simp only[List.length_append]at hl
 obtain⟨line,col,v,cs,rfl,hel,hks,hva,hcs⟩:=hx0.inv
 refine Am (s:=Gw (AZ lfp G)) Af (by obtain⟨h,o⟩:=Bz Ap G;rw[Af]at h;cases h;exact o) ?_
 show AZ lfp G (Runs F G) (.agg (TF 8 0 l [] false line col v)) H n k
 delta AZ
 refine Di λH1 f1 g1=>?_
 have hx1:=hx0.mono (λ_ h=>h) λid h=>f1.same id (hA0 id h)
 have hA1:∀id,A id->id<n+1:=λid h=>by have:=hA0 id h;omega
 refine AB (Aa ..) (AB (AQ g1 rfl) ?_)
 repeat refine Ic (by decide) ?_
 refine F9 ?_
 refine AB (Ai (m:=11) g1 (by omega) rfl) ?_
 refine AB (Aa ..) (AB (AQ g1 rfl) ?_)
 refine AB (Ai (m:=11) g1 (by omega) rfl) ?_
 refine Yx (i:=0) hx1 hA1 rfl iha (by omega) λH2 n2 f2=>?_
 have hn2:=f2.le
 have g2:=f2.get g1 (by omega)
 have f2:=f1.trans f2
 have hx2:=hx0.mono (λ_ h=>h) λid h=>f2.same id (hA0 id h)
 have hA2:∀id,A id->id<n2:=λid h=>by have:=hA0 id h;omega
 refine AB (AQ g2 rfl) (Cc (U0 _) ?_)
 refine AB (Ai (m:=11) g2 (by omega) rfl) (Cc hx2.vs ?_)
 refine AB (BZ (a:=textE a) (b:=DX) (by first|omega|(simp only[List.length_append];omega))) ?_
 refine AB (BZ (a:=textE a++DX) (b:=l) (by first|omega|(simp only[List.length_append];omega))) ?_
 refine AB (BZ (a:=(textE a++DX)++l) (b:=BJ) (by first|omega|(simp only[List.length_append];omega))) ?_
 refine AWY hx2 hA2 λH3 n3 w cs' f3 helw hsw hcsw=>?_
 have hn3:=f3.le
 have g3:=f3.get g2 (by omega)
 have f3:=f2.trans f3
 have hx3:=hx0.mono (λ_ h=>h) λid h=>f3.same id (hA0 id h)
 have hA3:∀id,A id->id<n3:=λid h=>by have:=hA0 id h;omega
 refine AB (AQ g3 rfl) (Cc (U0 _) ?_)
 refine APw helw hsw hcsw hA3 ihk (by omega) (by omega) λH4 n4 f4=>?_
 have hn4:=f4.le
 have g4:=f4.get g3 (by omega)
 have f4:=f3.trans f4
 have hx4:=hx0.mono (λ_ h=>h) λid h=>f4.same id (hA0 id h)
 have hA4:∀id,A id->id<n4:=λid h=>by have:=hA0 id h;omega
 refine AB (AQ g4 rfl) (Cc (U0 _) ?_)
 refine AB (BZ (a:=((textE a++DX)++l)++BJ) (b:=IZ (ks.map textE)) (by first|omega|(simp only[List.length_append];omega))) ?_
 refine AB (BZ (a:=(((textE a++DX)++l)++BJ)++IZ (ks.map textE)) (b:=BM) (by first|omega|(simp only[List.length_append];omega))) ?_
 have hk:=hk _ _ f4
 try simp only[List.append_assoc]at hk
 try simp only[List.append_assoc]
 exact hk
theorem ASd{l u:Bs}{ks:List Ex}(ihk:∀x∈ks,Et G x)(hn:ks.length<=200):Et G (.mk 9 0 l u false ks):=by
 intro H n c A k hx0 hA0 hl hk
 have e0:textE (.mk 9 0 l u false ks)=u++(DX++(l++(BJ++(IZ (ks.map textE)++BM)))):=by rw[Ae];rfl
 rw[e0]at hl hk
 try simp only[List.length_append]at hl
 obtain⟨line,col,v,cs,rfl,hel,hks,hva,hcs⟩:=hx0.inv
 refine Am (s:=Gw (AZ lfp G)) Af (by obtain⟨h,o⟩:=Bz Ap G;rw[Af]at h;cases h;exact o) ?_
 show AZ lfp G (Runs F G) (.agg (TF 9 0 l u false line col v)) H n k
 delta AZ
 refine Di λH1 f1 g1=>?_
 have hx1:=hx0.mono (λ_ h=>h) λid h=>f1.same id (hA0 id h)
 have hA1:∀id,A id->id<n+1:=λid h=>by have:=hA0 id h;omega
 refine AB (Aa ..) (AB (AQ g1 rfl) ?_)
 repeat refine Ic (by decide) ?_
 refine F9 ?_
 refine AB (Aa ..) (AB (Aa ..) (AB (AQ g1 rfl) ?_))
 refine AB (BZ (a:=u) (b:=DX) (by first|omega|(simp only[List.length_append];omega))) ?_
 refine AB (Aa ..) (AB (AQ g1 rfl) ?_)
 refine AB (BZ (a:=u++DX) (b:=l) (by first|omega|(simp only[List.length_append];omega))) ?_
 refine AB (BZ (a:=(u++DX)++l) (b:=BJ) (by first|omega|(simp only[List.length_append];omega))) ?_
 refine AB (Aa ..) (AB (AQ g1 rfl) ?_)
 refine APw (hel.same λid hid=>f1.same id (hA0 id (hva id hid))) hva (hcs.mono (λ_ h=>h) λid h=>f1.same id (hA0 id h)) hA1 ihk (by omega) (by omega) λH2 n2 f2=>?_
 have hn2:=f2.le
 have g2:=f2.get g1 (by omega)
 have f2:=f1.trans f2
 have hx2:=hx0.mono (λ_ h=>h) λid h=>f2.same id (hA0 id h)
 have hA2:∀id,A id->id<n2:=λid h=>by have:=hA0 id h;omega
 refine AB (AQ g2 rfl) (Cc (U0 _) ?_)
 refine AB (AQ g2 rfl) (Cc (U0 _) ?_)
 refine AB (BZ (a:=((u++DX)++l)++BJ) (b:=IZ (ks.map textE)) (by first|omega|(simp only[List.length_append];omega))) ?_
 refine AB (BZ (a:=(((u++DX)++l)++BJ)++IZ (ks.map textE)) (b:=BM) (by first|omega|(simp only[List.length_append];omega))) ?_
 have hk:=hk _ _ f2
 try simp only[List.append_assoc]at hk
 try simp only[List.append_assoc]
 exact hk
theorem AV4{u:Bs}:Et G (.mk 10 0 [] u false []):=by
 intro H n c A k hx0 hA0 hl hk
 have e0:textE (.mk 10 0 [] u false [])=BJ++(Jb++([32]++(u++BM))):=by rw[Ae];rfl
 rw[e0]at hl hk
 try simp only[List.length_append]at hl
 obtain⟨line,col,v,cs,rfl,hel,hks,hva,hcs⟩:=hx0.inv
 refine Am (s:=Gw (AZ lfp G)) Af (by obtain⟨h,o⟩:=Bz Ap G;rw[Af]at h;cases h;exact o) ?_
 show AZ lfp G (Runs F G) (.agg (TF 10 0 [] u false line col v)) H n k
 delta AZ
 refine Di λH1 f1 g1=>?_
 have hx1:=hx0.mono (λ_ h=>h) λid h=>f1.same id (hA0 id h)
 have hA1:∀id,A id->id<n+1:=λid h=>by have:=hA0 id h;omega
 refine AB (Aa ..) (AB (AQ g1 rfl) ?_)
 repeat refine Ic (by decide) ?_
 refine F9 ?_
 refine AB (Aa ..) (AB (Aa ..) (AB (AQ g1 rfl) ?_))
 rw[show V.str 5 139442089512=sB (BJ++(Jb++[32]))from rfl]
 refine AB (BZ (a:=BJ++(Jb++[32])) (b:=u) (by first|omega|(simp only[List.length_append];omega))) ?_
 refine AB (BZ (a:=(BJ++(Jb++[32]))++u) (b:=BM) (by first|omega|(simp only[List.length_append];omega))) ?_
 have hk:=hk _ _ f1
 try simp only[List.append_assoc]at hk
 try simp only[List.append_assoc]
 exact hk
theorem AU8{u:Bs}{a:Ex}(iha:Et G a):Et G (.mk 11 0 [] u false [a]):=by
 intro H n c A k hx0 hA0 hl hk
 have e0:textE (.mk 11 0 [] u false [a])=Jb++([32]++(u++(Hq++(textE a++G6)))):=by rw[Ae];rfl
 rw[e0]at hl hk
 try simp only[List.length_append]at hl
 obtain⟨line,col,v,cs,rfl,hel,hks,hva,hcs⟩:=hx0.inv
 refine Am (s:=Gw (AZ lfp G)) Af (by obtain⟨h,o⟩:=Bz Ap G;rw[Af]at h;cases h;exact o) ?_
 show AZ lfp G (Runs F G) (.agg (TF 11 0 [] u false line col v)) H n k
 delta AZ
 refine Di λH1 f1 g1=>?_
 have hx1:=hx0.mono (λ_ h=>h) λid h=>f1.same id (hA0 id h)
 have hA1:∀id,A id->id<n+1:=λid h=>by have:=hA0 id h;omega
 refine AB (Aa ..) (AB (AQ g1 rfl) ?_)
 repeat refine Ic (by decide) ?_
 refine F9 ?_
 refine AB (Aa ..) (AB (Aa ..) (AB (AQ g1 rfl) ?_))
 rw[show V.str 4 544695662=sB (Jb++[32])from rfl]
 refine AB (BZ (a:=Jb++[32]) (b:=u) (by first|omega|(simp only[List.length_append];omega))) ?_
 refine AB (BZ (a:=(Jb++[32])++u) (b:=Hq) (by first|omega|(simp only[List.length_append];omega))) ?_
 refine AB (Ai (m:=11) g1 (by omega) rfl) ?_
 refine Yx (i:=0) hx1 hA1 rfl iha (by omega) λH2 n2 f2=>?_
 have hn2:=f2.le
 have g2:=f2.get g1 (by omega)
 have f2:=f1.trans f2
 have hx2:=hx0.mono (λ_ h=>h) λid h=>f2.same id (hA0 id h)
 have hA2:∀id,A id->id<n2:=λid h=>by have:=hA0 id h;omega
 refine AB (AQ g2 rfl) (Cc (U0 _) ?_)
 refine AB (BZ (a:=((Jb++[32])++u)++Hq) (b:=textE a) (by first|omega|(simp only[List.length_append];omega))) ?_
 refine AB (BZ (a:=(((Jb++[32])++u)++Hq)++textE a) (b:=G6) (by first|omega|(simp only[List.length_append];omega))) ?_
 have hk:=hk _ _ f2
 try simp only[List.append_assoc]at hk
 try simp only[List.append_assoc]
 exact hk
theorem AWM{a b:Ex}(iha:Et G a)(ihb:Et G b):Et G (.mk 12 0 [] [] false [a,b]):=by
 intro H n c A k hx0 hA0 hl hk
 have e0:textE (.mk 12 0 [] [] false [a,b])=textE a++(Hq++(textE b++G6)):=by rw[Ae];rfl
 rw[e0]at hl hk
 try simp only[List.length_append]at hl
 obtain⟨line,col,v,cs,rfl,hel,hks,hva,hcs⟩:=hx0.inv
 refine Am (s:=Gw (AZ lfp G)) Af (by obtain⟨h,o⟩:=Bz Ap G;rw[Af]at h;cases h;exact o) ?_
 show AZ lfp G (Runs F G) (.agg (TF 12 0 [] [] false line col v)) H n k
 delta AZ
 refine Di λH1 f1 g1=>?_
 have hx1:=hx0.mono (λ_ h=>h) λid h=>f1.same id (hA0 id h)
 have hA1:∀id,A id->id<n+1:=λid h=>by have:=hA0 id h;omega
 refine AB (Aa ..) (AB (AQ g1 rfl) ?_)
 repeat refine Ic (by decide) ?_
 refine F9 ?_
 refine AB (Ai (m:=11) g1 (by omega) rfl) ?_
 refine AB (Ai (m:=11) g1 (by omega) rfl) ?_
 refine Yx (i:=0) hx1 hA1 rfl iha (by omega) λH2 n2 f2=>?_
 have hn2:=f2.le
 have g2:=f2.get g1 (by omega)
 have f2:=f1.trans f2
 have hx2:=hx0.mono (λ_ h=>h) λid h=>f2.same id (hA0 id h)
 have hA2:∀id,A id->id<n2:=λid h=>by have:=hA0 id h;omega
 refine AB (Ai (m:=11) g2 (by omega) rfl) (Cc hx2.vs ?_)
 refine AB (BZ (a:=textE a) (b:=Hq) (by first|omega|(simp only[List.length_append];omega))) ?_
 refine Yx (i:=1) hx2 hA2 rfl ihb (by omega) λH3 n3 f3=>?_
 have hn3:=f3.le
 have g3:=f3.get g2 (by omega)
 have f3:=f2.trans f3
 have hx3:=hx0.mono (λ_ h=>h) λid h=>f3.same id (hA0 id h)
 have hA3:∀id,A id->id<n3:=λid h=>by have:=hA0 id h;omega
 refine AB (BZ (a:=textE a++Hq) (b:=textE b) (by first|omega|(simp only[List.length_append];omega))) ?_
 refine AB (BZ (a:=(textE a++Hq)++textE b) (b:=G6) (by first|omega|(simp only[List.length_append];omega))) ?_
 have hk:=hk _ _ f3
 try simp only[List.append_assoc]at hk
 try simp only[List.append_assoc]
 exact hk
theorem AV7{a:Ex}(iha:Et G a):Et G (.mk 13 0 [] [] false [a]):=by
 intro H n c A k hx0 hA0 hl hk
 have e0:textE (.mk 13 0 [] [] false [a])=textE a++(DX++Io):=by rw[Ae];rfl
 rw[e0]at hl hk
 try simp only[List.length_append]at hl
 obtain⟨line,col,v,cs,rfl,hel,hks,hva,hcs⟩:=hx0.inv
 refine Am (s:=Gw (AZ lfp G)) Af (by obtain⟨h,o⟩:=Bz Ap G;rw[Af]at h;cases h;exact o) ?_
 show AZ lfp G (Runs F G) (.agg (TF 13 0 [] [] false line col v)) H n k
 delta AZ
 refine Di λH1 f1 g1=>?_
 have hx1:=hx0.mono (λ_ h=>h) λid h=>f1.same id (hA0 id h)
 have hA1:∀id,A id->id<n+1:=λid h=>by have:=hA0 id h;omega
 refine AB (Aa ..) (AB (AQ g1 rfl) ?_)
 repeat refine Ic (by decide) ?_
 refine F9 ?_
 refine AB (Ai (m:=11) g1 (by omega) rfl) ?_
 refine Yx (i:=0) hx1 hA1 rfl iha (by omega) λH2 n2 f2=>?_
 have hn2:=f2.le
 have g2:=f2.get g1 (by omega)
 have f2:=f1.trans f2
 have hx2:=hx0.mono (λ_ h=>h) λid h=>f2.same id (hA0 id h)
 have hA2:∀id,A id->id<n2:=λid h=>by have:=hA0 id h;omega
 rw[show V.str 7 29401385160502318=sB (DX++Io)from rfl]
 refine AB (BZ (a:=textE a) (b:=DX++Io) (by first|omega|(simp only[List.length_append];omega))) ?_
 have hk:=hk _ _ f2
 try simp only[List.append_assoc]at hk
 try simp only[List.append_assoc]
 exact hk
theorem AVE{a:Ex}(iha:Et G a):Et G (.mk 14 0 [] [] false [a]):=by
 intro H n c A k hx0 hA0 hl hk
 have e0:textE (.mk 14 0 [] [] false [a])=BJ++(Dz++(textE a++BM)):=by rw[Ae];rfl
 rw[e0]at hl hk
 try simp only[List.length_append]at hl
 obtain⟨line,col,v,cs,rfl,hel,hks,hva,hcs⟩:=hx0.inv
 refine Am (s:=Gw (AZ lfp G)) Af (by obtain⟨h,o⟩:=Bz Ap G;rw[Af]at h;cases h;exact o) ?_
 show AZ lfp G (Runs F G) (.agg (TF 14 0 [] [] false line col v)) H n k
 delta AZ
 refine Di λH1 f1 g1=>?_
 have hx1:=hx0.mono (λ_ h=>h) λid h=>f1.same id (hA0 id h)
 have hA1:∀id,A id->id<n+1:=λid h=>by have:=hA0 id h;omega
 refine AB (Aa ..) (AB (AQ g1 rfl) ?_)
 repeat refine Ic (by decide) ?_
 refine F9 ?_
 refine AB (Ai (m:=11) g1 (by omega) rfl) ?_
 refine Yx (i:=0) hx1 hA1 rfl iha (by omega) λH2 n2 f2=>?_
 have hn2:=f2.le
 have g2:=f2.get g1 (by omega)
 have f2:=f1.trans f2
 have hx2:=hx0.mono (λ_ h=>h) λid h=>f2.same id (hA0 id h)
 have hA2:∀id,A id->id<n2:=λid h=>by have:=hA0 id h;omega
 refine AB (BZ (a:=BJ++Dz) (b:=textE a) (by first|omega|(simp only[List.length_append];omega))) ?_
 refine AB (BZ (a:=(BJ++Dz)++textE a) (b:=BM) (by first|omega|(simp only[List.length_append];omega))) ?_
 have hk:=hk _ _ f2
 try simp only[List.append_assoc]at hk
 try simp only[List.append_assoc]
 exact hk
theorem AV1{a:Ex}(iha:Et G a):Et G (.mk 15 0 [] [] false [a]):=by
 intro H n c A k hx0 hA0 hl hk
 have e0:textE (.mk 15 0 [] [] false [a])=BJ++(JA++(textE a++BM)):=by rw[Ae];rfl
 rw[e0]at hl hk
 try simp only[List.length_append]at hl
 obtain⟨line,col,v,cs,rfl,hel,hks,hva,hcs⟩:=hx0.inv
 refine Am (s:=Gw (AZ lfp G)) Af (by obtain⟨h,o⟩:=Bz Ap G;rw[Af]at h;cases h;exact o) ?_
 show AZ lfp G (Runs F G) (.agg (TF 15 0 [] [] false line col v)) H n k
 delta AZ
 refine Di λH1 f1 g1=>?_
 have hx1:=hx0.mono (λ_ h=>h) λid h=>f1.same id (hA0 id h)
 have hA1:∀id,A id->id<n+1:=λid h=>by have:=hA0 id h;omega
 refine AB (Aa ..) (AB (AQ g1 rfl) ?_)
 repeat refine Ic (by decide) ?_
 refine F9 ?_
 refine AB (Ai (m:=11) g1 (by omega) rfl) ?_
 refine Yx (i:=0) hx1 hA1 rfl iha (by omega) λH2 n2 f2=>?_
 have hn2:=f2.le
 have g2:=f2.get g1 (by omega)
 have f2:=f1.trans f2
 have hx2:=hx0.mono (λ_ h=>h) λid h=>f2.same id (hA0 id h)
 have hA2:∀id,A id->id<n2:=λid h=>by have:=hA0 id h;omega
 refine AB (BZ (a:=BJ++JA) (b:=textE a) (by first|omega|(simp only[List.length_append];omega))) ?_
 refine AB (BZ (a:=(BJ++JA)++textE a) (b:=BM) (by first|omega|(simp only[List.length_append];omega))) ?_
 have hk:=hk _ _ f2
 try simp only[List.append_assoc]at hk
 try simp only[List.append_assoc]
 exact hk
theorem AVW{o:Bs}{a b:Ex}(iha:Et G a)(ihb:Et G b):Et G (.mk 16 0 o [] false [a,b]):=by
 intro H n c A k hx0 hA0 hl hk
 have e0:textE (.mk 16 0 o [] false [a,b])=BJ++(textE a++([32]++(o++([32]++(textE b++BM))))):=by rw[Ae];rfl
 rw[e0]at hl hk
 try simp only[List.length_append]at hl
 obtain⟨line,col,v,cs,rfl,hel,hks,hva,hcs⟩:=hx0.inv
 refine Am (s:=Gw (AZ lfp G)) Af (by obtain⟨h,o⟩:=Bz Ap G;rw[Af]at h;cases h;exact o) ?_
 show AZ lfp G (Runs F G) (.agg (TF 16 0 o [] false line col v)) H n k
 delta AZ
 refine Di λH1 f1 g1=>?_
 have hx1:=hx0.mono (λ_ h=>h) λid h=>f1.same id (hA0 id h)
 have hA1:∀id,A id->id<n+1:=λid h=>by have:=hA0 id h;omega
 refine AB (Aa ..) (AB (AQ g1 rfl) ?_)
 repeat refine Ic (by decide) ?_
 refine F9 ?_
 refine AB (Ai (m:=11) g1 (by omega) rfl) ?_
 refine AB (Aa ..) (AB (AQ g1 rfl) ?_)
 refine AB (Ai (m:=11) g1 (by omega) rfl) ?_
 refine Yx (i:=0) hx1 hA1 rfl iha (by omega) λH2 n2 f2=>?_
 have hn2:=f2.le
 have g2:=f2.get g1 (by omega)
 have f2:=f1.trans f2
 have hx2:=hx0.mono (λ_ h=>h) λid h=>f2.same id (hA0 id h)
 have hA2:∀id,A id->id<n2:=λid h=>by have:=hA0 id h;omega
 refine AB (AQ g2 rfl) (Cc (U0 _) ?_)
 refine AB (Ai (m:=11) g2 (by omega) rfl) (Cc hx2.vs ?_)
 refine AB (BZ (a:=BJ) (b:=textE a) (by first|omega|(simp only[List.length_append];omega))) ?_
 refine AB (BZ (a:=BJ++textE a) (b:=[32]) (by first|omega|(simp only[List.length_append];omega))) ?_
 refine AB (BZ (a:=(BJ++textE a)++[32]) (b:=o) (by first|omega|(simp only[List.length_append];omega))) ?_
 refine AB (BZ (a:=((BJ++textE a)++[32])++o) (b:=[32]) (by first|omega|(simp only[List.length_append];omega))) ?_
 refine Yx (i:=1) hx2 hA2 rfl ihb (by omega) λH3 n3 f3=>?_
 have hn3:=f3.le
 have g3:=f3.get g2 (by omega)
 have f3:=f2.trans f3
 have hx3:=hx0.mono (λ_ h=>h) λid h=>f3.same id (hA0 id h)
 have hA3:∀id,A id->id<n3:=λid h=>by have:=hA0 id h;omega
 refine AB (AQ g3 rfl) (Cc (U0 _) ?_)
 refine AB (BZ (a:=(((BJ++textE a)++[32])++o)++[32]) (b:=textE b) (by first|omega|(simp only[List.length_append];omega))) ?_
 refine AB (BZ (a:=((((BJ++textE a)++[32])++o)++[32])++textE b) (b:=BM) (by first|omega|(simp only[List.length_append];omega))) ?_
 have hk:=hk _ _ f3
 try simp only[List.append_assoc]at hk
 try simp only[List.append_assoc]
 exact hk
theorem AV2{a b:Ex}(iha:Et G a)(ihb:Et G b):Et G (.mk 17 0 [] [] false [a,b]):=by
 intro H n c A k hx0 hA0 hl hk
 have e0:textE (.mk 17 0 [] [] false [a,b])=BJ++(textE a++([32]++(Ob++([32]++(textE b++BM))))):=by rw[Ae];rfl
 rw[e0]at hl hk
 try simp only[List.length_append]at hl
 obtain⟨line,col,v,cs,rfl,hel,hks,hva,hcs⟩:=hx0.inv
 refine Am (s:=Gw (AZ lfp G)) Af (by obtain⟨h,o⟩:=Bz Ap G;rw[Af]at h;cases h;exact o) ?_
 show AZ lfp G (Runs F G) (.agg (TF 17 0 [] [] false line col v)) H n k
 delta AZ
 refine Di λH1 f1 g1=>?_
 have hx1:=hx0.mono (λ_ h=>h) λid h=>f1.same id (hA0 id h)
 have hA1:∀id,A id->id<n+1:=λid h=>by have:=hA0 id h;omega
 refine AB (Aa ..) (AB (AQ g1 rfl) ?_)
 repeat refine Ic (by decide) ?_
 refine F9 ?_
 refine AB (Ai (m:=11) g1 (by omega) rfl) ?_
 refine AB (Ai (m:=11) g1 (by omega) rfl) ?_
 refine Yx (i:=0) hx1 hA1 rfl iha (by omega) λH2 n2 f2=>?_
 have hn2:=f2.le
 have g2:=f2.get g1 (by omega)
 have f2:=f1.trans f2
 have hx2:=hx0.mono (λ_ h=>h) λid h=>f2.same id (hA0 id h)
 have hA2:∀id,A id->id<n2:=λid h=>by have:=hA0 id h;omega
 refine AB (Ai (m:=11) g2 (by omega) rfl) (Cc hx2.vs ?_)
 refine AB (BZ (a:=BJ) (b:=textE a) (by first|omega|(simp only[List.length_append];omega))) ?_
 rw[show V.str 4 539371040=sB ([32]++(Ob++[32]))from rfl]
 refine AB (BZ (a:=BJ++textE a) (b:=[32]++(Ob++[32])) (by first|omega|(simp only[List.length_append];omega))) ?_
 refine Yx (i:=1) hx2 hA2 rfl ihb (by omega) λH3 n3 f3=>?_
 have hn3:=f3.le
 have g3:=f3.get g2 (by omega)
 have f3:=f2.trans f3
 have hx3:=hx0.mono (λ_ h=>h) λid h=>f3.same id (hA0 id h)
 have hA3:∀id,A id->id<n3:=λid h=>by have:=hA0 id h;omega
 refine AB (BZ (a:=(BJ++textE a)++([32]++(Ob++[32]))) (b:=textE b) (by first|omega|(simp only[List.length_append];omega))) ?_
 refine AB (BZ (a:=((BJ++textE a)++([32]++(Ob++[32])))++textE b) (b:=BM) (by first|omega|(simp only[List.length_append];omega))) ?_
 have hk:=hk _ _ f3
 try simp only[List.append_assoc]at hk
 try simp only[List.append_assoc]
 exact hk
theorem AYH{a b:Ex}(iha:Et G a)(ihb:Et G b):Et G (.mk 18 0 [] [] false [a,b]):=by
 intro H n c A k hx0 hA0 hl hk
 have e0:textE (.mk 18 0 [] [] false [a,b])=BJ++(textE a++([32]++(ZP++([32]++(textE b++BM))))):=by rw[Ae];rfl
 rw[e0]at hl hk
 try simp only[List.length_append]at hl
 obtain⟨line,col,v,cs,rfl,hel,hks,hva,hcs⟩:=hx0.inv
 refine Am (s:=Gw (AZ lfp G)) Af (by obtain⟨h,o⟩:=Bz Ap G;rw[Af]at h;cases h;exact o) ?_
 show AZ lfp G (Runs F G) (.agg (TF 18 0 [] [] false line col v)) H n k
 delta AZ
 refine Di λH1 f1 g1=>?_
 have hx1:=hx0.mono (λ_ h=>h) λid h=>f1.same id (hA0 id h)
 have hA1:∀id,A id->id<n+1:=λid h=>by have:=hA0 id h;omega
 refine AB (Aa ..) (AB (AQ g1 rfl) ?_)
 repeat refine Ic (by decide) ?_
 refine F9 ?_
 refine AB (Ai (m:=11) g1 (by omega) rfl) ?_
 refine AB (Ai (m:=11) g1 (by omega) rfl) ?_
 refine Yx (i:=0) hx1 hA1 rfl iha (by omega) λH2 n2 f2=>?_
 have hn2:=f2.le
 have g2:=f2.get g1 (by omega)
 have f2:=f1.trans f2
 have hx2:=hx0.mono (λ_ h=>h) λid h=>f2.same id (hA0 id h)
 have hA2:∀id,A id->id<n2:=λid h=>by have:=hA0 id h;omega
 refine AB (Ai (m:=11) g2 (by omega) rfl) (Cc hx2.vs ?_)
 refine AB (BZ (a:=BJ) (b:=textE a) (by first|omega|(simp only[List.length_append];omega))) ?_
 rw[show V.str 4 545029152=sB ([32]++(ZP++[32]))from rfl]
 refine AB (BZ (a:=BJ++textE a) (b:=[32]++(ZP++[32])) (by first|omega|(simp only[List.length_append];omega))) ?_
 refine Yx (i:=1) hx2 hA2 rfl ihb (by omega) λH3 n3 f3=>?_
 have hn3:=f3.le
 have g3:=f3.get g2 (by omega)
 have f3:=f2.trans f3
 have hx3:=hx0.mono (λ_ h=>h) λid h=>f3.same id (hA0 id h)
 have hA3:∀id,A id->id<n3:=λid h=>by have:=hA0 id h;omega
 refine AB (BZ (a:=(BJ++textE a)++([32]++(ZP++[32]))) (b:=textE b) (by first|omega|(simp only[List.length_append];omega))) ?_
 refine AB (BZ (a:=((BJ++textE a)++([32]++(ZP++[32])))++textE b) (b:=BM) (by first|omega|(simp only[List.length_append];omega))) ?_
 have hk:=hk _ _ f3
 try simp only[List.append_assoc]at hk
 try simp only[List.append_assoc]
 exact hk
theorem AUZ{u:Bs}{a:Ex}(iha:Et G a):Et G (.mk 19 0 [] u false [a]):=by
 intro H n c A k hx0 hA0 hl hk
 have e0:textE (.mk 19 0 [] u false [a])=BJ++(textE a++([32]++(UC++([32]++(u++BM))))):=by rw[Ae];rfl
 rw[e0]at hl hk
 try simp only[List.length_append]at hl
 obtain⟨line,col,v,cs,rfl,hel,hks,hva,hcs⟩:=hx0.inv
 refine Am (s:=Gw (AZ lfp G)) Af (by obtain⟨h,o⟩:=Bz Ap G;rw[Af]at h;cases h;exact o) ?_
 show AZ lfp G (Runs F G) (.agg (TF 19 0 [] u false line col v)) H n k
 delta AZ
 refine Di λH1 f1 g1=>?_
 have hx1:=hx0.mono (λ_ h=>h) λid h=>f1.same id (hA0 id h)
 have hA1:∀id,A id->id<n+1:=λid h=>by have:=hA0 id h;omega
 refine AB (Aa ..) (AB (AQ g1 rfl) ?_)
 repeat refine Ic (by decide) ?_
 refine F9 ?_
 refine AB (Ai (m:=11) g1 (by omega) rfl) ?_
 refine AB (Aa ..) (AB (Aa ..) (AB (AQ g1 rfl) ?_))
 refine Yx (i:=0) hx1 hA1 rfl iha (by omega) λH2 n2 f2=>?_
 have hn2:=f2.le
 have g2:=f2.get g1 (by omega)
 have f2:=f1.trans f2
 have hx2:=hx0.mono (λ_ h=>h) λid h=>f2.same id (hA0 id h)
 have hA2:∀id,A id->id<n2:=λid h=>by have:=hA0 id h;omega
 refine AB (AQ g2 rfl) (Cc (U0 _) ?_)
 refine AB (BZ (a:=BJ) (b:=textE a) (by first|omega|(simp only[List.length_append];omega))) ?_
 rw[show V.str 4 544432416=sB ([32]++(UC++[32]))from rfl]
 refine AB (BZ (a:=BJ++textE a) (b:=[32]++(UC++[32])) (by first|omega|(simp only[List.length_append];omega))) ?_
 refine AB (BZ (a:=(BJ++textE a)++([32]++(UC++[32]))) (b:=u) (by first|omega|(simp only[List.length_append];omega))) ?_
 refine AB (BZ (a:=((BJ++textE a)++([32]++(UC++[32])))++u) (b:=BM) (by first|omega|(simp only[List.length_append];omega))) ?_
 have hk:=hk _ _ f2
 try simp only[List.append_assoc]at hk
 try simp only[List.append_assoc]
 exact hk
theorem AWO{u:Bs}{a:Ex}(iha:Et G a):Et G (.mk 20 0 [] u false [a]):=by
 intro H n c A k hx0 hA0 hl hk
 have e0:textE (.mk 20 0 [] u false [a])=BJ++(textE a++([32]++(Qv++([32]++(u++BM))))):=by rw[Ae];rfl
 rw[e0]at hl hk
 try simp only[List.length_append]at hl
 obtain⟨line,col,v,cs,rfl,hel,hks,hva,hcs⟩:=hx0.inv
 refine Am (s:=Gw (AZ lfp G)) Af (by obtain⟨h,o⟩:=Bz Ap G;rw[Af]at h;cases h;exact o) ?_
 show AZ lfp G (Runs F G) (.agg (TF 20 0 [] u false line col v)) H n k
 delta AZ
 refine Di λH1 f1 g1=>?_
 have hx1:=hx0.mono (λ_ h=>h) λid h=>f1.same id (hA0 id h)
 have hA1:∀id,A id->id<n+1:=λid h=>by have:=hA0 id h;omega
 refine AB (Aa ..) (AB (AQ g1 rfl) ?_)
 repeat refine Ic (by decide) ?_
 refine F9 ?_
 refine AB (Ai (m:=11) g1 (by omega) rfl) ?_
 refine AB (Aa ..) (AB (Aa ..) (AB (AQ g1 rfl) ?_))
 refine Yx (i:=0) hx1 hA1 rfl iha (by omega) λH2 n2 f2=>?_
 have hn2:=f2.le
 have g2:=f2.get g1 (by omega)
 have f2:=f1.trans f2
 have hx2:=hx0.mono (λ_ h=>h) λid h=>f2.same id (hA0 id h)
 have hA2:∀id,A id->id<n2:=λid h=>by have:=hA0 id h;omega
 refine AB (AQ g2 rfl) (Cc (U0 _) ?_)
 refine AB (BZ (a:=BJ) (b:=textE a) (by first|omega|(simp only[List.length_append];omega))) ?_
 rw[show V.str 4 544434464=sB ([32]++(Qv++[32]))from rfl]
 refine AB (BZ (a:=BJ++textE a) (b:=[32]++(Qv++[32])) (by first|omega|(simp only[List.length_append];omega))) ?_
 refine AB (BZ (a:=(BJ++textE a)++([32]++(Qv++[32]))) (b:=u) (by first|omega|(simp only[List.length_append];omega))) ?_
 refine AB (BZ (a:=((BJ++textE a)++([32]++(Qv++[32])))++u) (b:=BM) (by first|omega|(simp only[List.length_append];omega))) ?_
 have hk:=hk _ _ f2
 try simp only[List.append_assoc]at hk
 try simp only[List.append_assoc]
 exact hk
theorem jR(hG:jy G){e:Ex}(h:Wr e):Et G e:=by
 induction h with
 |num h=>exact AVx hG h
 |tru=>exact AWb
 |fls=>exact AWP
 |nul=>exact AXG
 |ths=>exact AWf
 |loc h=>exact AV0
 |get h ha ih=>exact AW6 ih
 |call h ha hk hn ih ihk=>exact ARr ih ihk hn
 |stat h hu hk hn ihk=>exact ASd ihk hn
 |new hu=>exact AV4
 |arr hu ha ih=>exact AU8 ih
 |elm ha hb iha ihb=>exact AWM iha ihb
 |len ha ih=>exact AV7 ih
 |neg ha ih=>exact AVE ih
 |not ha ih=>exact AV1 ih
 |bin ho ha hb iha ihb=>exact AVW iha ihb
 |and ha hb iha ihb=>exact AV2 iha ihb
 |or ha hb iha ihb=>exact AYH iha ihb
 |asx hu ha ih=>exact AUZ ih
 |isx hu ha ih=>exact AWO ih
end
def sG(t:Ty):Bs:=bif t.arr then t.nm++(Hq++G6)else t.nm
def tyK(t:Ty):List Tok:=Wl t.nm::(bif t.arr then[M Hq,M G6]else[])
inductive WrS:St->Prop
 |lt {l:Bs} {ty:Ty} {e:Ex} (hl:iy l=true) (ht:eG ty.nm=true) (he:Wr e):WrS (.mk 1 l ty [e] [] [])
 |put {a b:Ex} (ha:Wr a) (hk:a.kind=6∨a.kind=7∨a.kind=12) (hb:Wr b):WrS (.mk 2 [] JO [a,b] [] [])
 |ask {a:Ex} (ha:Wr a) (hk:a.kind=8∨a.kind=9):WrS (.mk 3 [] JO [a] [] [])
 |ite {c:Ex} {th el:List St} (hc:Wr c) (ht:∀x∈th,WrS x) (he:∀x∈el,WrS x):WrS (.mk 4 [] JO [c] th el)
 |loop {c:Ex} {th:List St} (hc:Wr c) (ht:∀x∈th,WrS x):WrS (.mk 5 [] JO [c] th [])
 |ret {a:Ex} (ha:Wr a):WrS (.mk 6 [] JO [a] [] [])
 |prt {a:Ex} (ha:Wr a):WrS (.mk 7 [] JO [a] [] [])
def exT(es:List Ex)(i:Nat):Bs:=match es[i]? with|some e=>textE e|none=>TS
def exK(es:List Ex)(i:Nat):List Tok:=match es[i]? with|some e=>tokE e|none=>[W TS]
def tabs(d:Nat):Bs:=List.replicate d 9
def I4(d:Nat)(ls:List Bs):Bs:=Nu++([10]++(ls.flatten++(tabs d++m_rc)))
def QO(ls:List (List Tok)):List Tok:=M Nu::(ls.flatten++[M m_rc])
def APg(d k:Nat)(nm:Bs)(ty:Ty)(es:List Ex)(th el:List Bs):Bs:=
 tabs d++match k with
 |1=>P5++([32]++(sG ty++([32]++(nm++([32]++(EM++([32]++(exT es 0++(BD++[10])))))))))
 |2=>exT es 0++([32]++(EM++([32]++(exT es 1++(BD++[10])))))
 |4=>KI++([32]++(exT es 0++([32]++(I4 d th++((bif el.isEmpty then[]else[32]++(Ec++([32]++I4 d el)))++[10])))))
 |5=>Fz++([32]++(exT es 0++([32]++(I4 d th++[10]))))
 |6=>E8++([32]++(exT es 0++(BD++[10])))
 |7=>Gu++([32]++(exT es 0++(BD++[10])))
 |_=>exT es 0++(BD++[10])
mutual
def textS(d:Nat):St->Bs
 |.mk k nm ty es th el=>APg d k nm ty es (ABc (d+1) th) (ABc (d+1) el)
def ABc(d:Nat):List St->List Bs
 |[]=>[]
 |s::l=>textS d s::ABc d l
end
theorem yE(d:Nat):∀l:List St,ABc d l=l.map (textS d)
 |[]=>by unfold ABc;rfl
 |a::l=>by unfold ABc;rw[yE d l];rfl
theorem D6(d k:Nat)(nm:Bs)(ty:Ty)(es:List Ex)(th el:List St):textS d (.mk k nm ty es th el)=APg d k nm ty es (th.map (textS (d+1))) (el.map (textS (d+1))):=by
 unfold textS;rw[yE,yE]
def TT(k:Nat)(nm:Bs)(ty:Ty)(es:List Ex)(th el:List (List Tok)):List Tok:=
 match k with
 |1=>W P5::(tyK ty++L nm::M EM::(exK es 0++[M BD]))
 |2=>exK es 0++M EM::(exK es 1++[M BD])
 |4=>W KI::(exK es 0++(QO th++bif el.isEmpty then[]else W Ec::QO el))
 |5=>W Fz::(exK es 0++QO th)
 |6=>W E8::(exK es 0++[M BD])
 |7=>W Gu::(exK es 0++[M BD])
 |_=>exK es 0++[M BD]
mutual
def FW:St->List Tok
 |.mk k nm ty es th el=>TT k nm ty es (AE3 th) (AE3 el)
def AE3:List St->List (List Tok)
 |[]=>[]
 |s::l=>FW s::AE3 l
end
theorem AAg:∀l:List St,AE3 l=l.map FW
 |[]=>by unfold AE3;rfl
 |a::l=>by unfold AE3;rw[AAg l];rfl
theorem JJ(k:Nat)(nm:Bs)(ty:Ty)(es:List Ex)(th el:List St):FW (.mk k nm ty es th el)=TT k nm ty es (th.map FW) (el.map FW):=by
 unfold FW;rw[AAg,AAg]
def AUR(s:St):Prop:=∀d r ts,Dq r ts->Dq (textS d s++r) (FW s++ts)
theorem ZJ:Gap [10]:=AA7 (by decide)
theorem Tc(d:Nat):Gap (tabs d):=AEX λc hc=>by rw[List.eq_of_mem_replicate hc];decide
theorem ACO{m r:Bs}(h:(match m with|[]=>false|c::_=> !inner c)=true):Out (m++r):=by
 cases m with
 |nil=>cases h
 |cons c m=>exact APs (by simpa using h)
theorem AHF{t:Ty}(h:eG t.nm=true){r:Bs}{ts:List Tok}(hr:Dq r ts):Dq (sG t++([32]++r)) (tyK t++ts):=by
 unfold sG tyK
 cases t.arr with
 |false=>
  have:=Ti (t:=Wl t.nm) (AGB h) hr
  rw[AAw]at this;exact this
 |true=>
  have:=Vk (t:=Wl t.nm) (r:=Hq++(G6++([32]++r))) (AGB h) (AFj _) (ACO (by decide)) (Hy (m:=Hq) (by decide) (Hy (m:=G6) (by decide) (Em Wv hr)))
  rw[AAw]at this
  simpa using this
theorem ANz{ls:List St}{d:Nat}{r:Bs}{ts:List Tok}(hr:Dq r ts):(∀x∈ls,AUR x)->Dq ((ls.map (textS d)).flatten++r) ((ls.map FW).flatten++ts):=by
 induction ls with
 |nil=>intro _;exact hr
 |cons a ls ih=>
  intro h
  simp only[List.map_cons,List.flatten_cons,List.append_assoc]
  exact h a List.mem_cons_self _ _ _ (ih λx hx=>h x (List.mem_cons_of_mem _ hx))
theorem ACc{ls:List St}{d:Nat}{r:Bs}{ts:List Tok}(h:∀x∈ls,AUR x)(hr:Dq r ts):Dq (I4 d (ls.map (textS (d+1)))++r) (QO (ls.map FW)++ts):=by
 unfold I4 QO
 simp only[List.append_assoc,List.cons_append,List.nil_append]
 exact Hy (m:=Nu) (by decide) (Em ZJ (ANz (Em (Tc d) (Hy (m:=m_rc) (by decide) hr)) h))
theorem AaP{s:St}(h:WrS s):AUR s:=by
 have semi:∀{r:Bs} {ts:List Tok} {e:Ex},Wr e->Dq r ts->Dq (textE e++(BD++([10]++r))) (tokE e++M BD::ts):=λhe hr=>
  ARq he _ _ (ACO (by decide)) (Hy (m:=BD) (by decide) (Em ZJ hr))
 have wl:∀{l:Bs},iy l=true->Wf (L l):=λh=>APL h
 induction h with
 | @lt l ty e hl ht he=>
  intro d r ts hr
  rw[D6,JJ]
  show Dq ((tabs d++(P5++([32]++(sG ty++([32]++(l++([32]++(EM++([32]++(textE e++(BD++[10])))))))))))++r) ((W P5::(tyK ty++L l::M EM::(tokE e++[M BD])))++ts)
  simp only[List.append_assoc,List.cons_append,List.nil_append]
  exact Em (Tc d) (Ti (t:=W P5) (Ih (by decide)) (AHF ht (Ti (t:=L l) (wl hl) (ADF (m:=EM) (by decide) (semi he hr)))))
 | @put a b ha hk hb=>
  intro d r ts hr
  rw[D6,JJ]
  show Dq ((tabs d++(textE a++([32]++(EM++([32]++(textE b++(BD++[10])))))))++r) ((tokE a++M EM::(tokE b++[M BD]))++ts)
  simp only[List.append_assoc,List.cons_append,List.nil_append]
  exact Em (Tc d) (ARq ha _ _ (ACO (m:=[32]) (by decide)) (Em Wv (ADF (m:=EM) (by decide) (semi hb hr))))
 | @ask a ha hk=>
  intro d r ts hr
  rw[D6,JJ]
  show Dq ((tabs d++(textE a++(BD++[10])))++r) ((tokE a++[M BD])++ts)
  simp only[List.append_assoc,List.cons_append,List.nil_append]
  exact Em (Tc d) (semi ha hr)
 | @ite c th el hc ht he iht ihe=>
  intro d r ts hr
  rw[D6,JJ]
  show Dq ((tabs d++(KI++([32]++(textE c++([32]++(I4 d (th.map (textS (d+1)))++((bif (el.map (textS (d+1))).isEmpty then[]else[32]++(Ec++([32]++I4 d (el.map (textS (d+1))))))++[10])))))))++r)
   ((W KI::(tokE c++(QO (th.map FW)++bif (el.map FW).isEmpty then[]else W Ec::QO (el.map FW))))++ts)
  simp only[List.append_assoc,List.cons_append,List.nil_append]
  refine Em (Tc d) (Ti (t:=W KI) (Ih (by decide)) (ARq hc _ _ (ACO (m:=[32]) (by decide)) (Em Wv (ACc iht ?_))))
  cases el with
  |nil=>exact Em (g:=[10]) (s:=r) (ts:=ts) ZJ hr
  |cons a el=>
   simp only[List.map_cons,List.isEmpty_cons,cond_false,List.append_assoc,List.cons_append,List.nil_append]
   exact Em Wv (Ti (t:=W Ec) (Ih (by decide)) (ACc (ls:=a::el) ihe (Em ZJ hr)))
 | @loop c th hc ht iht=>
  intro d r ts hr
  rw[D6,JJ]
  show Dq ((tabs d++(Fz++([32]++(textE c++([32]++(I4 d (th.map (textS (d+1)))++[10]))))))++r) ((W Fz::(tokE c++QO (th.map FW)))++ts)
  simp only[List.append_assoc,List.cons_append,List.nil_append]
  exact Em (Tc d) (Ti (t:=W Fz) (Ih (by decide)) (ARq hc _ _ (ACO (m:=[32]) (by decide)) (Em Wv (ACc iht (Em ZJ hr)))))
 | @ret a ha=>
  intro d r ts hr
  rw[D6,JJ]
  show Dq ((tabs d++(E8++([32]++(textE a++(BD++[10])))))++r) ((W E8::(tokE a++[M BD]))++ts)
  simp only[List.append_assoc,List.cons_append,List.nil_append]
  exact Em (Tc d) (Ti (t:=W E8) (Ih (by decide)) (semi ha hr))
 | @prt a ha=>
  intro d r ts hr
  rw[D6,JJ]
  show Dq ((tabs d++(Gu++([32]++(textE a++(BD++[10])))))++r) ((W Gu::(tokE a++[M BD]))++ts)
  simp only[List.append_assoc,List.cons_append,List.nil_append]
  exact Em (Tc d) (Ti (t:=W Gu) (Ih (by decide)) (semi ha hr))
def Oq(f:Va):Bs:=[9]++(O5++([32]++(sG f.ty++([32]++(f.nm++(BD++[10]))))))
def Zc(f:Va):List Tok:=W O5::(tyK f.ty++[L f.nm,M BD])
def mW(p:Va):Bs:=sG p.ty++([32]++p.nm)
def fZ(p:Va):List Tok:=tyK p.ty++[L p.nm]
def WH(m:Me):Bs:=[9]++((bif m.st then Ip++[32]else[])++(Ep++([32]++(sG m.ret++([32]++(m.nm++(BJ++(IZ (m.ps.map mW)++(BM++([32]++(I4 1 (m.body.map (textS 2))++[10])))))))))))
def VQ(m:Me):List Tok:=(bif m.st then[W Ip]else[])++W Ep::(tyK m.ret++L m.nm::M BJ::(Lu (m.ps.map fZ)++M BM::QO (m.body.map FW)))
def Zb(c:Cl):Bs:=OM++([32]++(c.nm++((bif c.sup.isEmpty then[]else[32]++(I9++([32]++c.sup)))++([32]++(Nu++([10]++((c.fs.map Oq).flatten++((c.ms.map WH).flatten++(m_rc++[10])))))))))
def wE(c:Cl):List Tok:=W OM::U c.nm::((bif c.sup.isEmpty then[]else[W I9,U c.sup])++M Nu::((c.fs.map Zc).flatten++((c.ms.map VQ).flatten++[M m_rc])))
structure WrV(v:Va):Prop where
 nm:iy v.nm=true
 ty:eG v.ty.nm=true
structure WrM(m:Me):Prop where
 nm:iy m.nm=true
 ret:eG m.ret.nm=true
 ps:∀p∈m.ps,WrV p
 pn:m.ps.length<=200
 body:∀s∈m.body,WrS s
structure WrC(c:Cl):Prop where
 nm:Ws c.nm=true
 sup:c.sup=[]∨Ws c.sup=true
 fs:∀f∈c.fs,WrV f
 fn:c.fs.length<=200
 ms:∀m∈c.ms,WrM m
 mn:c.ms.length<=200
theorem ASk{p:Va}(h:WrV p){r:Bs}{ts:List Tok}(ho:Out r)(hr:Dq r ts):Dq (mW p++r) (fZ p++ts):=by
 unfold mW fZ
 simp only[List.append_assoc,List.cons_append,List.nil_append]
 exact AHF h.ty (Vk (t:=L p.nm) (APL h.nm) (by simp[L]) ho hr)
theorem ALJ{α:Type}{f:α->Bs}{g:α->List Tok}{ls:List α}{r:Bs}{ts:List Tok}(hr:Dq r ts):(∀x∈ls,∀r ts,Dq r ts->Dq (f x++r) (g x++ts))->Dq ((ls.map f).flatten++r) ((ls.map g).flatten++ts):=by
 induction ls with
 |nil=>intro _;exact hr
 |cons a ls ih=>
  intro h
  simp only[List.map_cons,List.flatten_cons,List.append_assoc]
  exact h a List.mem_cons_self _ _ (ih λx hx=>h x (List.mem_cons_of_mem _ hx))
theorem AMu{p:Va}(h:WrV p){r:Bs}{ts:List Tok}(hr:Dq r ts):Dq (Oq p++r) (Zc p++ts):=by
 unfold Oq Zc
 simp only[List.append_assoc,List.cons_append,List.nil_append]
 exact Em (g:=[9]) (Tc 1) (Ti (t:=W O5) (Ih (by decide)) (AHF h.ty (Vk (t:=L p.nm) (APL h.nm) (by simp[L]) (ACO (by decide)) (Hy (m:=BD) (by decide) (Em ZJ hr)))))
theorem ANs{m:Me}(h:WrM m){r:Bs}{ts:List Tok}(hr:Dq r ts):Dq (WH m++r) (VQ m++ts):=by
 unfold WH VQ
 simp only[List.append_assoc,List.cons_append,List.nil_append]
 refine Em (g:=[9]) (Tc 1) ?_
 have main:=Ti (t:=W Ep) (Ih (by decide)) (AHF h.ret (Vk (t:=L m.nm) (APL h.nm) (by simp[L]) (ACO (by decide)) (Hy (m:=BJ) (by decide) (AEI (f:=mW) (g:=fZ) (ACO (by decide)) (Hy (m:=BM) (by decide) (Em Wv (ACc (d:=1) (λx hx=>AaP (h.body x hx)) (Em ZJ hr)))) (λx hx _ _ ho hr=>ASk (h.ps x hx) ho hr)))))
 cases m.st with
 |false=>exact main
 |true=>
  simp only[cond_true,List.append_assoc,List.cons_append,List.nil_append]
  exact Ti (t:=W Ip) (Ih (by decide)) main
theorem ANL{c:Cl}(h:WrC c):Dq (Zb c) (wE c++[YW]):=by
 unfold Zb wE
 simp only[List.append_assoc,List.cons_append,List.nil_append]
 have main:=Hy (m:=Nu) (by decide) (Em ZJ (ALJ (f:=Oq) (g:=Zc) (ls:=c.fs) (ALJ (f:=WH) (g:=VQ) (ls:=c.ms) (Hy (m:=m_rc) (by decide) (ARc ZJ)) (λx hx _ _ hr=>ANs (h.ms x hx) hr)) (λx hx _ _ hr=>AMu (h.fs x hx) hr)))
 refine Ti (t:=W OM) (Ih (by decide)) ?_
 cases hs:c.sup.isEmpty with
 |true=>exact Ti (t:=U c.nm) (AIj h.nm) main
 |false=>
  simp only[cond_false,List.append_assoc,List.cons_append,List.nil_append]
  have hu:Ws c.sup=true:=by
   rcases h.sup with h0|h0
   ·rw[h0]at hs;cases hs
   ·exact h0
  exact Ti (t:=U c.nm) (AIj h.nm) (Ti (t:=W I9) (Ih (by decide)) (Ti (t:=U c.sup) (AIj hu) main))
def Bu(H:Heap)(n b:Nat)(l:Bs):Prop:=b<n/\∃j,T.get H b=some (.VD 66 5 l.length (enc l) j)/\(l=[]∨b<j)
theorem Bu.kp{H H':Heap}{n n' b:Nat}{l:Bs}(h:Bu H n b l)(f:Kp H n H' n'):Bu H' n' b l:=by
 obtain⟨h1,j,h2,h3⟩:=h
 exact⟨by have:=f.le;omega,j,(f.same b h1).trans h2,h3⟩
theorem ZV(ls:List Bs)(j:Nat):(ls.take j).flatten.length<=ls.flatten.length:=by
 have h:ls.flatten=(ls.take j).flatten++(ls.drop j).flatten:=by rw[<-List.flatten_append,List.take_append_drop]
 rw[h,List.length_append];omega
theorem AIq:∀d,Lib.repeatL [9] d=tabs d
 |0=>rfl
 |d+1=>by
  show[9]++Lib.repeatL [9] d=_
  rw[AIq d];rfl
theorem ACY(d:Nat):AQN (.int .i64 (.ofNat 0) 0) (.int .i64 (.ofNat d) 0)=some (.int .i64 (.ofNat d) 0):=by
 cases d with
 |zero=>rfl
 |succ d=>rfl
section
variable{G:AV}{H:Heap}{n:Nat}{k:KV}
theorem zM{d:Nat}(hd:d<=100000000000)(hk:k (sB (tabs d)) H n):Runs F G XO [.str 1 9,.int .i64 (.ofNat d) 0] H n k:=by
 refine zV zA ?_
 show Ed (decide (d<=9223372036854775807/\1*d<=Zx)) (k (.str (AJ7 (KT [9]) d).1 (AJ7 (KT [9]) d).2) H n)
 rw[ADt,AIq,decide_eq_true (show d<=9223372036854775807/\1*d<=Zx from⟨by omega,by unfold Zx;omega⟩)]
 exact hk
theorem AOb{P:KV}(h:∀H',Kp H n H' (n+1)->Bu H' (n+1) n []->P (.ptr n 0) H' (n+1)):DW (APD 66 5 E0) H n P:=by
 rw[AYL]
 exact h _ ((Kp.refl H n).new _ (Nat.le_refl _) (by omega)) ⟨by omega,0,T.C9 ..,.inl rfl⟩
theorem rO{b:Nat}{l s:Bs}(h:Bu H n b l)(hs:l.length+s.length<=100000000000)(hk:∀v H',Kp H b H' (n+1)->Bu H' (n+1) b (l++s)->k v H' (n+1)):Runs F G CP [.ptr b 0,sB s] H n k:=by
 obtain⟨h1,j,h2,h3⟩:=h
 refine zV Wj ?_
 show(match T.get H b with
  |some (.VD t' e' l c j)=>Ed (decide (t'=66/\e'=5/\l+s.length<=Zx)) (k (.Jq [.int .i64 (.ofNat s.length) 0,.AHN]) (T.set (T.set (bif decide (l=0)then H else T.set H j .dead) n (.own b)) b (.VD 66 5 (zl (l,c) (s.length,enc s)).1 (zl (l,c) (s.length,enc s)).2 n)) (n+1))
  |_=>False)
 rw[h2]
 show Ed (decide (66=66/\5=5/\l.length+s.length<=Zx)) (k (.Jq [.int .i64 (.ofNat s.length) 0,.AHN]) (T.set (T.set (bif decide (l.length=0)then H else T.set H j .dead) n (.own b)) b (.VD 66 5 (zl (KT l) (KT s)).1 (zl (KT l) (KT s)).2 n)) (n+1))
 rw[qm,decide_eq_true (show 66=66/\5=5/\l.length+s.length<=Zx from⟨rfl,rfl,by unfold Zx;omega⟩)]
 refine hk _ _ ⟨by omega,λid hid=>?_⟩ ⟨by omega,n,T.C9 ..,.inr h1⟩
 rw[T.Au _ _ (by omega),T.Au _ _ (by omega)]
 cases hl:decide (l.length=0)with
 |true=>rfl
 |false=>
  have hj:b<j:=by
   rcases h3 with rfl|h3
   ·cases hl
   ·exact h3
  show T.get (T.set H j .dead) id=_
  rw[T.Au _ _ (by omega)]
theorem ANf{b:Nat}{l:Bs}(h:Bu H n b l)(hk:∀H',Kp H b H' n->k (sB l) H' n):Runs F G Nb [.ptr b 0] H n k:=by
 obtain⟨h1,j,h2,h3⟩:=h
 refine zV aA ?_
 show(match T.get H b with
  |some (.VD t' e' l c _)=>Ed (decide (t'=66/\e'=5)) (k (.str l c) (T.set H b .dead) n)
  |_=>False)
 rw[h2]
 exact hk _ ⟨by omega,λid hid=>T.Au _ _ (by omega)⟩
theorem AF0{t:Ty}(ht:t.nm.length<=100000000000)(hk:∀H',Kp H n H' (n+1)->k (sB (sG t)) H' (n+1)):Runs F G Py [.agg (tyC t)] H n k:=by
 refine Am (s:=Gw (UR lfp G)) WU (by obtain⟨h,o⟩:=AAv Ap G;rw[WU]at h;cases h;exact o) ?_
 show UR lfp G (Runs F G) (.agg (tyC t)) H n k
 delta UR
 refine Di λH1 f1 g1=>?_
 refine AB (Aa ..) (AB (v:=.bool t.arr) (AQ g1 rfl) ?_)
 have hk:=hk _ f1
 unfold sG at hk
 cases ha:t.arr with
 |true=>
  rw[ha]at hk
  rw[Ah]
  refine AB (Aa ..) (AB (v:=sB t.nm) (AQ g1 rfl) ?_)
  rw[show V.str 2 23899=sB (Hq++G6)from rfl]
  exact AB (BZ (by show t.nm.length+2<_;omega)) hk
 |false=>
  rw[ha]at hk
  rw[Aq]
  exact AB (Aa ..) (AB (v:=sB t.nm) (AQ g1 rfl) hk)
def VY(G:AV)(e:St):Prop:=∀(H:Heap) (n d:Nat) (c:LV) (A:Nat->Prop) (k:KV),NH G H A c e->(∀id,A id->id<n)->(textS d e).length<=100000000000->(∀H' n',Kp H n H' n'->k (sB (textS d e)) H' n')->Runs F G lQ [.agg c,.int .i64 (.ofNat d) 0] H n k
theorem Rz.at{A:Nat->Prop}:∀{cs:Dv} {es:List St} {i:Nat} {e:St},Rz G H A cs es->es[i]? =some e->∃c,cs[i]? =some c/\NH G H A c e
 |_,_,0,_,.cons h _,he=>⟨_,rfl,by cases he;exact h⟩
 |_,_,i+1,_,.cons _ t,he=>Rz.at t (i:=i) he
theorem AMv(d:Nat)(s:St):d<=(textS d s).length:=by
 obtain⟨k,nm,ty,es,th,el⟩:=s
 rw[D6]
 unfold APg tabs
 rw[List.length_append,List.length_replicate];omega
theorem AJJ(d:Nat):∀ss:List St,ss.length<=(ss.map (textS (d+1))).flatten.length
 |[]=>Nat.le_refl _
 |s::ss=>by
  have h1:=AMv (d+1) s
  have h2:=AJJ d ss
  simp only[List.map_cons,List.flatten_cons,List.length_append,List.length_cons];omega
theorem AIk{v:V}{ss:List St}{d:Nat}{cs:Dv}{A:Nat->Prop}(hel:El G H v 9 cs)(hva:∀id,v.QU=some id->A id)(hc:Rz G H A cs ss)(hA:∀id,A id->id<n)(ht:∀x∈ss,VY G x)(hl:(I4 d (ss.map (textS (d+1)))).length<=100000000000)
 (hk:∀H' n',Kp H n H' n'->k (sB (I4 d (ss.map (textS (d+1))))) H' n'):Runs F G Xd [v,.int .i64 (.ofNat d) 0] H n k:=by
 have hl2:=hl
 unfold I4 tabs at hl2
 simp only[List.length_append,List.length_replicate]at hl2
 have hn0:=AJJ d ss
 have hw:Nu.length=1/\m_rc.length=1/\([10]:Bs).length=1:=⟨rfl,rfl,rfl⟩
 refine Am (s:=QS (bY lfp G)) iQ (by obtain⟨h,o⟩:=AF3 Ap G;rw[iQ]at h;cases h;exact o) ?_
 show bY lfp G (Runs F G) v (.int .i64 (.ofNat d) 0) H n k
 delta bY
 refine AOb λH1 f1 b1=>?_
 rw[show V.str 2 2683=sB (Nu++[10])from rfl]
 refine rO b1 (by show 0+2<=_;omega) λ_ H2 f2 b2=>?_
 have f2:Kp H n H2 (n+1+1):=⟨by omega,λid hid=>(f2.same id hid).trans (f1.same id hid)⟩
 refine AB (hel.kp (λid hid=>hA id (hva id hid)) f2).len ?_
 rw[hc.len]
 refine ER (N:=ss.length) (J:=λj q=>∃H' n',q=(.int .i64 (.ofNat d) 0,.ptr n 0,v,.int .i64 (.ofNat ss.length) 0,.int .i64 (.ofNat j) 0,H',n')/\Kp H n H' n'/\Bu H' n' n ((Nu++[10])++((ss.map (textS (d+1))).take j).flatten)) ?_ ?_ ⟨H2,_,rfl,f2,by simpa using b2⟩
 ·rintro I j q hlt ⟨H3,n3,rfl,f3,b3⟩ ih
  show Rk lfp G (Runs F G) k I (.int .i64 (.ofNat d) 0) (.ptr n 0) v (.int .i64 (.ofNat ss.length) 0) (.int .i64 (.ofNat j) 0) H3 n3
  delta Rk
  have hn3:=f3.le
  have hv3:El G H3 v 9 cs:=hel.kp (λid hid=>hA id (hva id hid)) f3
  have hc3:Rz G H3 A cs ss:=hc.mono (λ_ h=>h) λid h=>f3.same id (hA id h)
  obtain⟨cx,hcx,hx⟩:=hc3.at (List.getElem?_eq_getElem hlt)
  have htx:=ht _ (List.getElem_mem hlt)
  obtain⟨p,hp,hld⟩:=hv3.at hcx
  rw[ES,Aw,decide_eq_true hlt,Ah]
  refine AB hp (AB (J3 hld) ?_)
  refine Az rfl λH4 f4 g4=>?_
  refine CB g4 rfl hx.len (by omega) λH5 g5 t5=>?_
  have f5:Kp H3 n3 H5 (n3+1):=⟨f4.le,λid hid=>(t5 id (by omega)).trans (f4.same id hid)⟩
  refine AB (Ai (m:=9) g5 (by omega) hx.len) (AB (Ee (by omega)) ?_)
  have hx:NH G H5 A cx ss[j]:=hx.mono (λ_ h=>h) λid h=>f5.same id (by have:=hA id h;omega)
  have e1:((ss.map (textS (d+1))).take (j+1)).flatten=((ss.map (textS (d+1))).take j).flatten++textS (d+1) ss[j]:=by
   rw[List.take_succ_eq_append_getElem (by rw[List.length_map];exact hlt),List.flatten_append,List.getElem_map];simp
  have e2:=ZV (ss.map (textS (d+1))) (j+1)
  rw[e1,List.length_append]at e2
  refine htx H5 (n3+1) (d+1) cx A _ hx (λid h=>by have:=hA id h;omega) (by omega) λH6 n6 f6=>?_
  have b6:=b3.kp (f5.trans f6)
  have hn6:=f6.le
  refine rO b6 (by simp only[List.length_append];omega) λ_ H7 f7 b7=>?_
  refine AB (Ee (by omega)) ?_
  refine ih _ ⟨H7,n6+1,rfl,⟨by omega,λid hid=>(f7.same id hid).trans ((f6.same id (by omega)).trans ((f5.same id (by omega)).trans (f3.same id hid)))⟩,?_⟩
  rw[e1,<-List.append_assoc]
  exact b7
 ·rintro I q ⟨H3,n3,rfl,f3,b3⟩
  show Rk lfp G (Runs F G) k I (.int .i64 (.ofNat d) 0) (.ptr n 0) v (.int .i64 (.ofNat ss.length) 0) (.int .i64 (.ofNat ss.length) 0) H3 n3
  delta Rk
  rw[ES,Aw,decide_eq_false (Nat.lt_irrefl _),Aq]
  show VG lfp G (Runs F G) k (.int .i64 (.ofNat d) 0) (.ptr n 0) H3 n3
  delta VG
  rw[show(ss.map (textS (d+1))).take ss.length=ss.map (textS (d+1))by rw[<-List.length_map (f:=textS (d+1)),List.take_length]]at b3
  refine ANf b3 λH4 f4=>?_
  refine zM (by omega) ?_
  refine AB (BZ (by simp only[List.length_append,tabs,List.length_replicate];omega)) ?_
  rw[show V.str 1 125=sB m_rc from rfl]
  refine AB (BZ (by simp only[List.length_append,tabs,List.length_replicate];omega)) ?_
  have:=hk H4 n3 ⟨f3.le,λid hid=>(f4.same id hid).trans (f3.same id hid)⟩
  unfold I4 at this
  simpa only[List.append_assoc]using this
end
theorem Il(d:Nat):(tabs d).length=d:=List.length_replicate
theorem AIN{G:AV}{H:Heap}{v:V}{z:Nat}{LS:Dv}(h:El G H v z LS)(hk:KS v):BR v v=true:=by
 obtain⟨_,h⟩:=h
 cases v<;>first|exact hk.1|cases h
theorem ACh(t:Ty):t.nm.length<=(sG t).length:=by
 unfold sG
 cases t.arr with
 |true=>show _<=(t.nm++(Hq++G6)).length;rw[List.length_append];omega
 |false=>exact Nat.le_refl _
theorem NH.inv{G:AV}{H:Heap}{A:Nat->Prop}{c:LV}{does:Nat}{nm:Bs}{ty:Ty}{es:List Ex}{th el:List St}(h:NH G H A c (.mk does nm ty es th el)):
 ∃line col ve vt vl ct cl,c=eu does line col nm ty ve vt vl/\dU G H A ve es/\El G H vt 9 ct/\KS vt/\(∀id,vt.QU=some id->A id)/\Rz G H A ct th/\El G H vl 9 cl/\KS vl/\(∀id,vl.QU=some id->A id)/\Rz G H A cl el:=by
 cases h with
 |mk _ _ _ line col he ht kt a1 st hl kl a2 sl=>exact⟨line,col,_,_,_,_,_,rfl,he,ht,kt,a1,st,hl,kl,a2,sl⟩
theorem NH.vs{G:AV}{H:Heap}{A:Nat->Prop}{c:LV}{e:St}(h:NH G H A c e):BR (.agg c) (.agg c)=true:=by
 cases h with
 |mk does nm ty line col he ht kt a1 st hl kl a2 sl=>
  obtain⟨_,_,ke,_⟩:=he
  refine ADL λv hv'=>?_
  simp only[eu,List.mem_cons,List.not_mem_nil,or_false]at hv'
  rcases hv' with rfl|rfl|rfl|rfl|rfl|rfl|rfl|rfl|rfl
  ·exact jB ..
  ·exact jB ..
  ·exact jB ..
  ·exact AEG ..
  ·exact AEG ..
  ·exact iP ..
  ·exact ke.1
  ·exact kt.1
  ·exact kl.1
section
variable{G:AV}
theorem ZQ{H:Heap}{n i:Nat}{k:KV}{c:LV}{A:Nat->Prop}{does:Nat}{nm:Bs}{ty:Ty}{es:List Ex}{th el:List St}{e:Ex}(h:NH G H A c (.mk does nm ty es th el))(hA:∀id,A id->id<n)(hi:es[i]? =some e)(ht:Et G e)(hl:(textE e).length<=100000000000)
 (hk:∀H' n',Kp H n H' n'->k (sB (textE e)) H' n'):Runs F G Gs [.agg c,.int .i64 (.ofNat i) 0] H n k:=by
 obtain⟨line,col,ve,vt,vl,ct,cl,rfl,he,_⟩:=h.inv
 refine Am (s:=QS (UJ lfp G)) Wu (by obtain⟨h,o⟩:=AAx Ap G;rw[Wu]at h;cases h;exact o) ?_
 show UJ lfp G (Runs F G) (.agg (eu does line col nm ty ve vt vl)) (.int .i64 (.ofNat i) 0) H n k
 delta UJ
 refine Di λH1 f1 g1=>?_
 have he:dU G H1 A ve es:=he.mono (λ_ h=>h) λid h=>f1.same id (hA id h)
 obtain⟨cs,hel,_,_,_,_,hc⟩:=he
 obtain⟨hlt,_⟩:=List.getElem?_eq_some_iff.1 hi
 have hlt:i<es.length:=hlt
 obtain⟨cx,hcx,hx⟩:=hc.at hi
 obtain⟨p,hp,hld⟩:=hel.at hcx
 refine AB (Aa ..) (AB (v:=ve) (AQ g1 rfl) (AB hel.len (AB (ES ..) ?_)))
 rw[hc.len,decide_eq_true hlt,Ah]
 refine AB (Aa ..) (AB (v:=ve) (AQ g1 rfl) (AB hp (AB (J3 hld) ?_)))
 exact ht H1 (n+1) cx A _ hx (λid h=>by have:=hA id h;omega) hl λH' n' f=>hk _ _ (f1.trans f)
theorem AYF{l:Bs}{ty:Ty}{a:Ex}(iha:Et G a):VY G (.mk 1 l ty [a] [] []):=by
 intro H n d c A k hx0 hA0 hl hk
 have e0:textS d (.mk 1 l ty [a] [] [])=tabs d++(P5++([32]++(sG ty++([32]++(l++([32]++(EM++([32]++(textE a++(BD++[10])))))))))):=by rw[D6];rfl
 rw[e0]at hl hk
 have htd:=Il d
 try simp only[List.length_append]at hl
 obtain⟨line,col,ve,vt,vl,ct,cl,rfl,he,ht,kt,hta,hct,hel,kl,hela,hcl⟩:=hx0.inv
 refine Am (s:=QS (BQ lfp G)) Cj (by obtain⟨h,o⟩:=Gz Ap G;rw[Cj]at h;cases h;exact o) ?_
 show BQ lfp G (Runs F G) (.agg (eu 1 line col l ty ve vt vl)) (.int .i64 (.ofNat d) 0) H n k
 delta BQ
 refine Di λH1 f1 g1=>?_
 have hx1:=hx0.mono (λ_ h=>h) λid h=>f1.same id (hA0 id h)
 have hA1:∀id,A id->id<n+1:=λid h=>by have:=hA0 id h;omega
 refine AB (ACY d) (zM (by omega) ?_)
 refine AB (Aa ..) (AB (AQ g1 rfl) ?_)
 repeat refine Ic (by decide) ?_
 refine F9 ?_
 rw[show V.str 4 544499052=sB (P5++[32])from rfl]
 refine AB (BZ (a:=tabs d) (b:=P5++[32]) (by first|omega|(simp only[List.length_append];omega))) ?_
 refine AB (Aa ..) (AB (v:=.agg (tyC ty)) (NQ g1 (by omega) (by show 4+2<=9;omega)) ?_)
 refine AB (Aa ..) (AB (AQ g1 rfl) ?_)
 refine AB (Ai (m:=9) g1 (by omega) rfl) ?_
 have hty:=ACh ty
 refine AF0 (by omega) λH2 f2=>?_
 have hn2:=f2.le
 have g2:=f2.get g1 (by omega)
 have f2:=f1.trans f2
 have hx2:=hx0.mono (λ_ h=>h) λid h=>f2.same id (hA0 id h)
 have hA2:∀id,A id->id<n+1+1:=λid h=>by have:=hA0 id h;omega
 refine AB (AQ g2 rfl) (Cc (U0 _) ?_)
 refine AB (Ai (m:=9) g2 (by omega) rfl) (Cc hx2.vs ?_)
 refine AB (BZ (a:=tabs d++(P5++[32])) (b:=sG ty) (by first|omega|(simp only[List.length_append];omega))) ?_
 refine AB (BZ (a:=(tabs d++(P5++[32]))++sG ty) (b:=[32]) (by first|omega|(simp only[List.length_append];omega))) ?_
 refine AB (BZ (a:=((tabs d++(P5++[32]))++sG ty)++[32]) (b:=l) (by first|omega|(simp only[List.length_append];omega))) ?_
 rw[show V.str 3 2112800=sB ([32]++(EM++[32]))from rfl]
 refine AB (BZ (a:=(((tabs d++(P5++[32]))++sG ty)++[32])++l) (b:=[32]++(EM++[32])) (by first|omega|(simp only[List.length_append];omega))) ?_
 refine ZQ (i:=0) (e:=a) hx2 hA2 rfl iha (by omega) λH3 n3 f3=>?_
 have hn3:=f3.le
 have g3:=f3.get g2 (by omega)
 have f3:=f2.trans f3
 have hx3:=hx0.mono (λ_ h=>h) λid h=>f3.same id (hA0 id h)
 have hA3:∀id,A id->id<n3:=λid h=>by have:=hA0 id h;omega
 refine AB (AQ g3 rfl) (Cc (U0 _) ?_)
 refine AB (BZ (a:=((((tabs d++(P5++[32]))++sG ty)++[32])++l)++([32]++(EM++[32]))) (b:=textE a) (by first|omega|(simp only[List.length_append];omega))) ?_
 rw[show V.str 2 2619=sB (BD++[10])from rfl]
 refine AB (BZ (a:=(((((tabs d++(P5++[32]))++sG ty)++[32])++l)++([32]++(EM++[32])))++textE a) (b:=BD++[10]) (by first|omega|(simp only[List.length_append];omega))) ?_
 have hk:=hk _ _ f3
 try simp only[List.append_assoc]at hk
 try simp only[List.append_assoc]
 exact hk
theorem AVt{a b:Ex}(iha:Et G a)(ihb:Et G b):VY G (.mk 2 [] JO [a,b] [] []):=by
 intro H n d c A k hx0 hA0 hl hk
 have e0:textS d (.mk 2 [] JO [a,b] [] [])=tabs d++(textE a++([32]++(EM++([32]++(textE b++(BD++[10])))))):=by rw[D6];rfl
 rw[e0]at hl hk
 have htd:=Il d
 try simp only[List.length_append]at hl
 obtain⟨line,col,ve,vt,vl,ct,cl,rfl,he,ht,kt,hta,hct,hel,kl,hela,hcl⟩:=hx0.inv
 refine Am (s:=QS (BQ lfp G)) Cj (by obtain⟨h,o⟩:=Gz Ap G;rw[Cj]at h;cases h;exact o) ?_
 show BQ lfp G (Runs F G) (.agg (eu 2 line col [] JO ve vt vl)) (.int .i64 (.ofNat d) 0) H n k
 delta BQ
 refine Di λH1 f1 g1=>?_
 have hx1:=hx0.mono (λ_ h=>h) λid h=>f1.same id (hA0 id h)
 have hA1:∀id,A id->id<n+1:=λid h=>by have:=hA0 id h;omega
 refine AB (ACY d) (zM (by omega) ?_)
 refine AB (Aa ..) (AB (AQ g1 rfl) ?_)
 repeat refine Ic (by decide) ?_
 refine F9 ?_
 refine AB (Ai (m:=9) g1 (by omega) rfl) ?_
 refine AB (Ai (m:=9) g1 (by omega) rfl) ?_
 refine ZQ (i:=0) (e:=a) hx1 hA1 rfl iha (by omega) λH2 n2 f2=>?_
 have hn2:=f2.le
 have g2:=f2.get g1 (by omega)
 have f2:=f1.trans f2
 have hx2:=hx0.mono (λ_ h=>h) λid h=>f2.same id (hA0 id h)
 have hA2:∀id,A id->id<n2:=λid h=>by have:=hA0 id h;omega
 refine AB (Ai (m:=9) g2 (by omega) rfl) (Cc hx2.vs ?_)
 refine AB (BZ (a:=tabs d) (b:=textE a) (by first|omega|(simp only[List.length_append];omega))) ?_
 rw[show V.str 3 2112800=sB ([32]++(EM++[32]))from rfl]
 refine AB (BZ (a:=tabs d++textE a) (b:=[32]++(EM++[32])) (by first|omega|(simp only[List.length_append];omega))) ?_
 refine ZQ (i:=1) (e:=b) hx2 hA2 rfl ihb (by omega) λH3 n3 f3=>?_
 have hn3:=f3.le
 have g3:=f3.get g2 (by omega)
 have f3:=f2.trans f3
 have hx3:=hx0.mono (λ_ h=>h) λid h=>f3.same id (hA0 id h)
 have hA3:∀id,A id->id<n3:=λid h=>by have:=hA0 id h;omega
 refine AB (BZ (a:=(tabs d++textE a)++([32]++(EM++[32]))) (b:=textE b) (by first|omega|(simp only[List.length_append];omega))) ?_
 rw[show V.str 2 2619=sB (BD++[10])from rfl]
 refine AB (BZ (a:=((tabs d++textE a)++([32]++(EM++[32])))++textE b) (b:=BD++[10]) (by first|omega|(simp only[List.length_append];omega))) ?_
 have hk:=hk _ _ f3
 try simp only[List.append_assoc]at hk
 try simp only[List.append_assoc]
 exact hk
theorem AVI{a:Ex}(iha:Et G a):VY G (.mk 6 [] JO [a] [] []):=by
 intro H n d c A k hx0 hA0 hl hk
 have e0:textS d (.mk 6 [] JO [a] [] [])=tabs d++(E8++([32]++(textE a++(BD++[10])))):=by rw[D6];rfl
 rw[e0]at hl hk
 have htd:=Il d
 try simp only[List.length_append]at hl
 obtain⟨line,col,ve,vt,vl,ct,cl,rfl,he,ht,kt,hta,hct,hel,kl,hela,hcl⟩:=hx0.inv
 refine Am (s:=QS (BQ lfp G)) Cj (by obtain⟨h,o⟩:=Gz Ap G;rw[Cj]at h;cases h;exact o) ?_
 show BQ lfp G (Runs F G) (.agg (eu 6 line col [] JO ve vt vl)) (.int .i64 (.ofNat d) 0) H n k
 delta BQ
 refine Di λH1 f1 g1=>?_
 have hx1:=hx0.mono (λ_ h=>h) λid h=>f1.same id (hA0 id h)
 have hA1:∀id,A id->id<n+1:=λid h=>by have:=hA0 id h;omega
 refine AB (ACY d) (zM (by omega) ?_)
 refine AB (Aa ..) (AB (AQ g1 rfl) ?_)
 repeat refine Ic (by decide) ?_
 refine F9 ?_
 rw[show V.str 7 9128637130630514=sB (E8++[32])from rfl]
 refine AB (BZ (a:=tabs d) (b:=E8++[32]) (by first|omega|(simp only[List.length_append];omega))) ?_
 refine AB (Ai (m:=9) g1 (by omega) rfl) ?_
 refine ZQ (i:=0) (e:=a) hx1 hA1 rfl iha (by omega) λH2 n2 f2=>?_
 have hn2:=f2.le
 have g2:=f2.get g1 (by omega)
 have f2:=f1.trans f2
 have hx2:=hx0.mono (λ_ h=>h) λid h=>f2.same id (hA0 id h)
 have hA2:∀id,A id->id<n2:=λid h=>by have:=hA0 id h;omega
 refine AB (BZ (a:=tabs d++(E8++[32])) (b:=textE a) (by first|omega|(simp only[List.length_append];omega))) ?_
 rw[show V.str 2 2619=sB (BD++[10])from rfl]
 refine AB (BZ (a:=(tabs d++(E8++[32]))++textE a) (b:=BD++[10]) (by first|omega|(simp only[List.length_append];omega))) ?_
 have hk:=hk _ _ f2
 try simp only[List.append_assoc]at hk
 try simp only[List.append_assoc]
 exact hk
theorem AU6{a:Ex}(iha:Et G a):VY G (.mk 7 [] JO [a] [] []):=by
 intro H n d c A k hx0 hA0 hl hk
 have e0:textS d (.mk 7 [] JO [a] [] [])=tabs d++(Gu++([32]++(textE a++(BD++[10])))):=by rw[D6];rfl
 rw[e0]at hl hk
 have htd:=Il d
 try simp only[List.length_append]at hl
 obtain⟨line,col,ve,vt,vl,ct,cl,rfl,he,ht,kt,hta,hct,hel,kl,hela,hcl⟩:=hx0.inv
 refine Am (s:=QS (BQ lfp G)) Cj (by obtain⟨h,o⟩:=Gz Ap G;rw[Cj]at h;cases h;exact o) ?_
 show BQ lfp G (Runs F G) (.agg (eu 7 line col [] JO ve vt vl)) (.int .i64 (.ofNat d) 0) H n k
 delta BQ
 refine Di λH1 f1 g1=>?_
 have hx1:=hx0.mono (λ_ h=>h) λid h=>f1.same id (hA0 id h)
 have hA1:∀id,A id->id<n+1:=λid h=>by have:=hA0 id h;omega
 refine AB (ACY d) (zM (by omega) ?_)
 refine AB (Aa ..) (AB (AQ g1 rfl) ?_)
 repeat refine Ic (by decide) ?_
 refine F9 ?_
 rw[show V.str 6 35684440699504=sB (Gu++[32])from rfl]
 refine AB (BZ (a:=tabs d) (b:=Gu++[32]) (by first|omega|(simp only[List.length_append];omega))) ?_
 refine AB (Ai (m:=9) g1 (by omega) rfl) ?_
 refine ZQ (i:=0) (e:=a) hx1 hA1 rfl iha (by omega) λH2 n2 f2=>?_
 have hn2:=f2.le
 have g2:=f2.get g1 (by omega)
 have f2:=f1.trans f2
 have hx2:=hx0.mono (λ_ h=>h) λid h=>f2.same id (hA0 id h)
 have hA2:∀id,A id->id<n2:=λid h=>by have:=hA0 id h;omega
 refine AB (BZ (a:=tabs d++(Gu++[32])) (b:=textE a) (by first|omega|(simp only[List.length_append];omega))) ?_
 rw[show V.str 2 2619=sB (BD++[10])from rfl]
 refine AB (BZ (a:=(tabs d++(Gu++[32]))++textE a) (b:=BD++[10]) (by first|omega|(simp only[List.length_append];omega))) ?_
 have hk:=hk _ _ f2
 try simp only[List.append_assoc]at hk
 try simp only[List.append_assoc]
 exact hk
theorem AVw{a:Ex}(iha:Et G a):VY G (.mk 3 [] JO [a] [] []):=by
 intro H n d c A k hx0 hA0 hl hk
 have e0:textS d (.mk 3 [] JO [a] [] [])=tabs d++(textE a++(BD++[10])):=by rw[D6];rfl
 rw[e0]at hl hk
 have htd:=Il d
 try simp only[List.length_append]at hl
 obtain⟨line,col,ve,vt,vl,ct,cl,rfl,he,ht,kt,hta,hct,hel,kl,hela,hcl⟩:=hx0.inv
 refine Am (s:=QS (BQ lfp G)) Cj (by obtain⟨h,o⟩:=Gz Ap G;rw[Cj]at h;cases h;exact o) ?_
 show BQ lfp G (Runs F G) (.agg (eu 3 line col [] JO ve vt vl)) (.int .i64 (.ofNat d) 0) H n k
 delta BQ
 refine Di λH1 f1 g1=>?_
 have hx1:=hx0.mono (λ_ h=>h) λid h=>f1.same id (hA0 id h)
 have hA1:∀id,A id->id<n+1:=λid h=>by have:=hA0 id h;omega
 refine AB (ACY d) (zM (by omega) ?_)
 refine AB (Aa ..) (AB (AQ g1 rfl) ?_)
 repeat refine Ic (by decide) ?_
 refine AB (Ai (m:=9) g1 (by omega) rfl) ?_
 refine ZQ (i:=0) (e:=a) hx1 hA1 rfl iha (by omega) λH2 n2 f2=>?_
 have hn2:=f2.le
 have g2:=f2.get g1 (by omega)
 have f2:=f1.trans f2
 have hx2:=hx0.mono (λ_ h=>h) λid h=>f2.same id (hA0 id h)
 have hA2:∀id,A id->id<n2:=λid h=>by have:=hA0 id h;omega
 refine AB (BZ (a:=tabs d) (b:=textE a) (by first|omega|(simp only[List.length_append];omega))) ?_
 rw[show V.str 2 2619=sB (BD++[10])from rfl]
 refine AB (BZ (a:=tabs d++textE a) (b:=BD++[10]) (by first|omega|(simp only[List.length_append];omega))) ?_
 have hk:=hk _ _ f2
 try simp only[List.append_assoc]at hk
 try simp only[List.append_assoc]
 exact hk
theorem AQ4{a:Ex}(iha:Et G a){th:List St}(iht:∀x∈th,VY G x):VY G (.mk 5 [] JO [a] th []):=by
 intro H n d c A k hx0 hA0 hl hk
 have e0:textS d (.mk 5 [] JO [a] th [])=tabs d++(Fz++([32]++(textE a++([32]++(I4 d (th.map (textS (d+1)))++[10]))))):=by rw[D6];rfl
 rw[e0]at hl hk
 have htd:=Il d
 try simp only[List.length_append]at hl
 obtain⟨line,col,ve,vt,vl,ct,cl,rfl,he,ht,kt,hta,hct,hel,kl,hela,hcl⟩:=hx0.inv
 refine Am (s:=QS (BQ lfp G)) Cj (by obtain⟨h,o⟩:=Gz Ap G;rw[Cj]at h;cases h;exact o) ?_
 show BQ lfp G (Runs F G) (.agg (eu 5 line col [] JO ve vt vl)) (.int .i64 (.ofNat d) 0) H n k
 delta BQ
 refine Di λH1 f1 g1=>?_
 have hx1:=hx0.mono (λ_ h=>h) λid h=>f1.same id (hA0 id h)
 have hA1:∀id,A id->id<n+1:=λid h=>by have:=hA0 id h;omega
 refine AB (ACY d) (zM (by omega) ?_)
 refine AB (Aa ..) (AB (AQ g1 rfl) ?_)
 repeat refine Ic (by decide) ?_
 refine F9 ?_
 rw[show V.str 6 35619982633079=sB (Fz++[32])from rfl]
 refine AB (BZ (a:=tabs d) (b:=Fz++[32]) (by first|omega|(simp only[List.length_append];omega))) ?_
 refine AB (Ai (m:=9) g1 (by omega) rfl) ?_
 refine AB (Aa ..) (AB (v:=vt) (AQ g1 rfl) ?_)
 refine AB (ACY d) ?_
 refine ZQ (i:=0) (e:=a) hx1 hA1 rfl iha (by omega) λH2 n2 f2=>?_
 have hn2:=f2.le
 have g2:=f2.get g1 (by omega)
 have f2:=f1.trans f2
 have hx2:=hx0.mono (λ_ h=>h) λid h=>f2.same id (hA0 id h)
 have hA2:∀id,A id->id<n2:=λid h=>by have:=hA0 id h;omega
 refine AB (v:=vt) (AQ g2 rfl) (Cc (AIN ht kt) ?_)
 refine AB (BZ (a:=tabs d++(Fz++[32])) (b:=textE a) (by first|omega|(simp only[List.length_append];omega))) ?_
 refine AB (BZ (a:=(tabs d++(Fz++[32]))++textE a) (b:=[32]) (by first|omega|(simp only[List.length_append];omega))) ?_
 refine AIk (ht.same λid hid=>f2.same id (hA0 id (hta id hid))) hta (hct.mono (λ_ h=>h) λid h=>f2.same id (hA0 id h)) hA2 iht (by omega) λH3 n3 f3=>?_
 have hn3:=f3.le
 have g3:=f3.get g2 (by omega)
 have f3:=f2.trans f3
 have hx3:=hx0.mono (λ_ h=>h) λid h=>f3.same id (hA0 id h)
 have hA3:∀id,A id->id<n3:=λid h=>by have:=hA0 id h;omega
 refine AB (BZ (a:=((tabs d++(Fz++[32]))++textE a)++[32]) (b:=I4 d (th.map (textS (d+1)))) (by first|omega|(simp only[List.length_append];omega))) ?_
 refine AB (BZ (a:=(((tabs d++(Fz++[32]))++textE a)++[32])++I4 d (th.map (textS (d+1)))) (b:=[10]) (by first|omega|(simp only[List.length_append];omega))) ?_
 have hk:=hk _ _ f3
 try simp only[List.append_assoc]at hk
 try simp only[List.append_assoc]
 exact hk
theorem ASI{a:Ex}(iha:Et G a){th:List St}(iht:∀x∈th,VY G x):VY G (.mk 4 [] JO [a] th []):=by
 intro H n d c A k hx0 hA0 hl hk
 have e0:textS d (.mk 4 [] JO [a] th [])=tabs d++(KI++([32]++(textE a++([32]++(I4 d (th.map (textS (d+1)))++[10]))))):=by rw[D6];rfl
 rw[e0]at hl hk
 have htd:=Il d
 try simp only[List.length_append]at hl
 obtain⟨line,col,ve,vt,vl,ct,cl,rfl,he,ht,kt,hta,hct,hel,kl,hela,hcl⟩:=hx0.inv
 refine Am (s:=QS (BQ lfp G)) Cj (by obtain⟨h,o⟩:=Gz Ap G;rw[Cj]at h;cases h;exact o) ?_
 show BQ lfp G (Runs F G) (.agg (eu 4 line col [] JO ve vt vl)) (.int .i64 (.ofNat d) 0) H n k
 delta BQ
 refine Di λH1 f1 g1=>?_
 have hx1:=hx0.mono (λ_ h=>h) λid h=>f1.same id (hA0 id h)
 have hA1:∀id,A id->id<n+1:=λid h=>by have:=hA0 id h;omega
 refine AB (ACY d) (zM (by omega) ?_)
 refine AB (Aa ..) (AB (AQ g1 rfl) ?_)
 repeat refine Ic (by decide) ?_
 refine F9 ?_
 rw[show V.str 3 2123369=sB (KI++[32])from rfl]
 refine AB (BZ (a:=tabs d) (b:=KI++[32]) (by first|omega|(simp only[List.length_append];omega))) ?_
 refine AB (Ai (m:=9) g1 (by omega) rfl) ?_
 refine AB (Aa ..) (AB (v:=vt) (AQ g1 rfl) ?_)
 refine AB (ACY d) ?_
 refine ZQ (i:=0) (e:=a) hx1 hA1 rfl iha (by omega) λH2 n2 f2=>?_
 have hn2:=f2.le
 have g2:=f2.get g1 (by omega)
 have f2:=f1.trans f2
 have hx2:=hx0.mono (λ_ h=>h) λid h=>f2.same id (hA0 id h)
 have hA2:∀id,A id->id<n2:=λid h=>by have:=hA0 id h;omega
 refine AB (v:=vt) (AQ g2 rfl) (Cc (AIN ht kt) ?_)
 refine AB (BZ (a:=tabs d++(KI++[32])) (b:=textE a) (by first|omega|(simp only[List.length_append];omega))) ?_
 refine AB (BZ (a:=(tabs d++(KI++[32]))++textE a) (b:=[32]) (by first|omega|(simp only[List.length_append];omega))) ?_
 refine AIk (ht.same λid hid=>f2.same id (hA0 id (hta id hid))) hta (hct.mono (λ_ h=>h) λid h=>f2.same id (hA0 id h)) hA2 iht (by omega) λH3 n3 f3=>?_
 have hn3:=f3.le
 have g3:=f3.get g2 (by omega)
 have f3:=f2.trans f3
 have hx3:=hx0.mono (λ_ h=>h) λid h=>f3.same id (hA0 id h)
 have hA3:∀id,A id->id<n3:=λid h=>by have:=hA0 id h;omega
 refine AB (BZ (a:=((tabs d++(KI++[32]))++textE a)++[32]) (b:=I4 d (th.map (textS (d+1)))) (by first|omega|(simp only[List.length_append];omega))) ?_
 refine AB (Aa ..) (AB (v:=vl) (AQ g3 rfl) (AB (hel.same λid hid=>f3.same id (hA0 id (hela id hid))).len (AB (MJ ..) ?_)))
 rw[hcl.len,decide_eq_false (show ¬0<([]:List St).length from Nat.lt_irrefl _),Aq]
 delta KD
 refine AB (BZ (a:=(((tabs d++(KI++[32]))++textE a)++[32])++I4 d (th.map (textS (d+1)))) (b:=[10]) (by first|omega|(simp only[List.length_append];omega))) ?_
 have hk:=hk _ _ f3
 try simp only[List.append_assoc]at hk
 try simp only[List.append_assoc]
 exact hk
theorem ASO{a:Ex}(iha:Et G a){th:List St}(iht:∀x∈th,VY G x){y:St}{el:List St}(ihe:∀x∈y::el,VY G x):VY G (.mk 4 [] JO [a] th (y::el)):=by
 intro H n d c A k hx0 hA0 hl hk
 have e0:textS d (.mk 4 [] JO [a] th (y::el))=tabs d++(KI++([32]++(textE a++([32]++(I4 d (th.map (textS (d+1)))++(([32]++(Ec++([32]++I4 d ((y::el).map (textS (d+1))))))++[10])))))):=by rw[D6];rfl
 rw[e0]at hl hk
 have htd:=Il d
 try simp only[List.length_append]at hl
 obtain⟨line,col,ve,vt,vl,ct,cl,rfl,he,ht,kt,hta,hct,hel,kl,hela,hcl⟩:=hx0.inv
 refine Am (s:=QS (BQ lfp G)) Cj (by obtain⟨h,o⟩:=Gz Ap G;rw[Cj]at h;cases h;exact o) ?_
 show BQ lfp G (Runs F G) (.agg (eu 4 line col [] JO ve vt vl)) (.int .i64 (.ofNat d) 0) H n k
 delta BQ
 refine Di λH1 f1 g1=>?_
 have hx1:=hx0.mono (λ_ h=>h) λid h=>f1.same id (hA0 id h)
 have hA1:∀id,A id->id<n+1:=λid h=>by have:=hA0 id h;omega
 refine AB (ACY d) (zM (by omega) ?_)
 refine AB (Aa ..) (AB (AQ g1 rfl) ?_)
 repeat refine Ic (by decide) ?_
 refine F9 ?_
 rw[show V.str 3 2123369=sB (KI++[32])from rfl]
 refine AB (BZ (a:=tabs d) (b:=KI++[32]) (by first|omega|(simp only[List.length_append];omega))) ?_
 refine AB (Ai (m:=9) g1 (by omega) rfl) ?_
 refine AB (Aa ..) (AB (v:=vt) (AQ g1 rfl) ?_)
 refine AB (ACY d) ?_
 refine ZQ (i:=0) (e:=a) hx1 hA1 rfl iha (by omega) λH2 n2 f2=>?_
 have hn2:=f2.le
 have g2:=f2.get g1 (by omega)
 have f2:=f1.trans f2
 have hx2:=hx0.mono (λ_ h=>h) λid h=>f2.same id (hA0 id h)
 have hA2:∀id,A id->id<n2:=λid h=>by have:=hA0 id h;omega
 refine AB (v:=vt) (AQ g2 rfl) (Cc (AIN ht kt) ?_)
 refine AB (BZ (a:=tabs d++(KI++[32])) (b:=textE a) (by first|omega|(simp only[List.length_append];omega))) ?_
 refine AB (BZ (a:=(tabs d++(KI++[32]))++textE a) (b:=[32]) (by first|omega|(simp only[List.length_append];omega))) ?_
 refine AIk (ht.same λid hid=>f2.same id (hA0 id (hta id hid))) hta (hct.mono (λ_ h=>h) λid h=>f2.same id (hA0 id h)) hA2 iht (by omega) λH3 n3 f3=>?_
 have hn3:=f3.le
 have g3:=f3.get g2 (by omega)
 have f3:=f2.trans f3
 have hx3:=hx0.mono (λ_ h=>h) λid h=>f3.same id (hA0 id h)
 have hA3:∀id,A id->id<n3:=λid h=>by have:=hA0 id h;omega
 refine AB (BZ (a:=((tabs d++(KI++[32]))++textE a)++[32]) (b:=I4 d (th.map (textS (d+1)))) (by first|omega|(simp only[List.length_append];omega))) ?_
 refine AB (Aa ..) (AB (v:=vl) (AQ g3 rfl) (AB (hel.same λid hid=>f3.same id (hA0 id (hela id hid))).len (AB (MJ ..) ?_)))
 rw[hcl.len,decide_eq_true (show 0<(y::el).length from Nat.succ_pos _),Ah]
 refine AB (Aa ..) (AB (v:=vl) (AQ g3 rfl) ?_)
 refine AB (ACY d) ?_
 refine AIk (hel.same λid hid=>f3.same id (hA0 id (hela id hid))) hela (hcl.mono (λ_ h=>h) λid h=>f3.same id (hA0 id h)) hA3 ihe (by omega) λH4 n4 f4=>?_
 have hn4:=f4.le
 have g4:=f4.get g3 (by omega)
 have f4:=f3.trans f4
 have hx4:=hx0.mono (λ_ h=>h) λid h=>f4.same id (hA0 id h)
 have hA4:∀id,A id->id<n4:=λid h=>by have:=hA0 id h;omega
 rw[show V.str 6 35620100269344=sB ([32]++(Ec++[32]))from rfl]
 refine AB (BZ (a:=[32]++(Ec++[32])) (b:=I4 d ((y::el).map (textS (d+1)))) (by first|omega|(simp only[List.length_append];omega))) ?_
 refine AB (BZ (a:=(((tabs d++(KI++[32]))++textE a)++[32])++I4 d (th.map (textS (d+1)))) (b:=([32]++(Ec++[32]))++I4 d ((y::el).map (textS (d+1)))) (by first|omega|(simp only[List.length_append];omega))) ?_
 delta KD
 refine AB (BZ (a:=((((tabs d++(KI++[32]))++textE a)++[32])++I4 d (th.map (textS (d+1))))++(([32]++(Ec++[32]))++I4 d ((y::el).map (textS (d+1))))) (b:=[10]) (by first|omega|(simp only[List.length_append];omega))) ?_
 have hk:=hk _ _ f4
 try simp only[List.append_assoc]at hk
 try simp only[List.append_assoc]
 exact hk
theorem ATH(hG:jy G){e:St}(h:WrS e):VY G e:=by
 induction h with
 |lt hl ht he=>exact AYF (jR hG he)
 |put ha hk hb=>exact AVt (jR hG ha) (jR hG hb)
 |ask ha hk=>exact AVw (jR hG ha)
 | @ite c th el hc ht he iht ihe=>
  cases el with
  |nil=>exact ASI (jR hG hc) iht
  |cons y el=>exact ASO (jR hG hc) iht ihe
 |loop hc ht iht=>exact AQ4 (jR hG hc) iht
 |ret ha=>exact AVI (jR hG ha)
 |prt ha=>exact AU6 (jR hG ha)
end
def preB(st:Bool):Bs:=bif st then[9]++(Ip++([32]++(Ep++[32])))else[9]++(Ep++[32])
def headB(m:Me):Bs:=preB m.st++(sG m.ret++([32]++(m.nm++(BJ++(IZ (m.ps.map mW)++(BM++[32]))))))
theorem ADm(m:Me):WH m=headB m++(I4 1 (m.body.map (textS 2))++[10]):=by
 unfold WH headB preB
 cases m.st<;>simp only[cond_true,cond_false,List.append_assoc,List.nil_append]
theorem aB.inv{G:AV}{H:Heap}{A:Nat->Prop}{c:LV}{m:Me}(h:aB G H A c m):∃line col vp vb,c=meC line col m.nm m.st vp m.ret vb/\ABe G H A vp m.ps/\PE G H A vb m.body:=by
 cases h with
 |mk line col hp hb=>exact⟨line,col,_,_,rfl,hp,hb⟩
theorem ZH.at{G:AV}{H:Heap}{A:Nat->Prop}:∀{cs:Dv} {es:List Me} {i:Nat} {e:Me},ZH G H A cs es->es[i]? =some e->∃c,cs[i]? =some c/\aB G H A c e
 |_,_,0,_,.cons h _,he=>⟨_,rfl,by cases he;exact h⟩
 |_,_,i+1,_,.cons _ t,he=>ZH.at t (i:=i) he
theorem AHs(b:Bool):(preB b).length<=15:=by cases b<;>decide
section
variable{G:AV}{H:Heap}{n:Nat}{k:KV}
theorem ASV{m:Me}{c:LV}{A:Nat->Prop}(hc:aB G H A c m)(hA:∀id,A id->id<n)(hn:m.ps.length<=1000000)(hl:(headB m).length<=100000000000)
 (hk:∀H' n',Kp H n H' n'->k (sB (headB m)) H' n'):Runs F G bP [.agg c] H n k:=by
 obtain⟨line,col,vp,vb,rfl,⟨hel,_,_,_,hva⟩,_⟩:=hc.inv
 have hl2:=hl
 unfold headB at hl2
 simp only[List.length_append]at hl2
 have ht:=ACh m.ret
 refine Am (s:=Gw (Qs lfp G)) Uh (by obtain⟨h,o⟩:=vX Ap G;rw[Uh]at h;cases h;exact o) ?_
 show Qs lfp G (Runs F G) (.agg (meC line col m.nm m.st vp m.ret vb)) H n k
 delta Qs
 refine Di λH1 f1 g1=>?_
 have main:G8 lfp G (Runs F G) k (.ptr n 0) (sB (preB m.st)) H1 (n+1):=by
  show G8 lfp G (Runs F G) k (.ptr n 0) (sB (preB m.st)) H1 (n+1)
  delta G8
  have hel1:El G H1 vp 3 (m.ps.map vaC):=hel.kp (λid hid=>hA id (hva id hid)) f1
  refine AB (Aa ..) (AB (v:=vp) (AQ g1 rfl) (AB hel1.len ?_))
  rw[List.length_map]
  refine ER (N:=m.ps.length) (J:=λj q=>∃w H' n',q=(.ptr n 0,sB (preB m.st),w,vp,.int .i64 (.ofNat m.ps.length) 0,.int .i64 (.ofNat j) 0,H',n')/\Kp H1 (n+1) H' n'/\Own G H' (n+1) n' 1 w (((m.ps.map mW).take j).map λb=>[sB b])) ?_ ?_ ⟨.Ad,H1,n+1,rfl,Kp.refl ..,XP⟩
  ·rintro I j q hlt ⟨w,H2,n2,rfl,f2,ho⟩ ih
   show Iu lfp G (Runs F G) k I (.ptr n 0) (sB (preB m.st)) w vp (.int .i64 (.ofNat m.ps.length) 0) (.int .i64 (.ofNat j) 0) H2 n2
   delta Iu
   have hn2:=f2.le
   have hel2:El G H2 vp 3 (m.ps.map vaC):=hel1.kp (λid hid=>by have:=hA id (hva id hid);omega) f2
   have hcx:(m.ps.map vaC)[j]? =some (vaC m.ps[j]):=by rw[List.getElem?_map,List.getElem?_eq_getElem hlt];rfl
   obtain⟨p,hp,hld⟩:=hel2.at hcx
   rw[ES,Aw,decide_eq_true hlt,Ah]
   refine AB hp (AB (J3 hld) ?_)
   refine Az rfl λH3 f3 g3=>?_
   refine CB (L:=vaC m.ps[j]) g3 rfl rfl (by omega) λH4 g4 t4=>?_
   have f4:Kp H2 n2 H4 (n2+1):=⟨f3.le,λid hid=>(t4 id (by omega)).trans (f3.same id hid)⟩
   have hlx:(mW m.ps[j]).length<=(IZ (m.ps.map mW)).length:=AFg _ _ (List.mem_map_of_mem (List.getElem_mem hlt))
   have hpx:(mW m.ps[j]).length=(sG m.ps[j].ty).length+(1+m.ps[j].nm.length):=by unfold mW;simp only[List.length_append,List.length_cons,List.length_nil]
   have htx:=ACh m.ps[j].ty
   refine AB (Aa ..) (AB (v:=.agg (tyC m.ps[j].ty)) (NQ g4 (by omega) (by show 1+2<=3;omega)) ?_)
   refine AB (Aa ..) (AB (v:=sB m.ps[j].nm) (AQ g4 rfl) ?_)
   refine AF0 (by omega) λH5 f5=>?_
   have g5:=f5.get g4 (by omega)
   refine AB (AQ g5 rfl) (Cc (U0 _) ?_)
   refine AB (BZ (a:=sG m.ps[j].ty) (b:=[32]) (by show _+1<_;omega)) ?_
   refine AB (BZ (a:=sG m.ps[j].ty++[32]) (b:=m.ps[j].nm) (by simp only[List.length_append,List.length_cons,List.length_nil];omega)) ?_
   have ho5:=(ho.kp f4).kp f5
   refine AHm ho5 (by omega) (by rw[List.length_map,List.length_take,List.length_map];omega) λv' H6 ho6 hs6 _=>?_
   refine AB (Ee (by omega)) ?_
   refine ih _ ⟨v',H6,_,rfl,⟨by omega,λid hid=>(hs6 id (by omega) (λe=>by have:=ho5.ge e;omega)).trans ((f5.same id (by omega)).trans ((f4.same id (by omega)).trans (f2.same id hid)))⟩,?_⟩
   rw[List.take_succ_eq_append_getElem (by rw[List.length_map];exact hlt),List.map_append,List.getElem_map]
   rw[List.append_assoc]at ho6
   exact ho6
  ·rintro I q ⟨w,H2,n2,rfl,f2,ho⟩
   show Iu lfp G (Runs F G) k I (.ptr n 0) (sB (preB m.st)) w vp (.int .i64 (.ofNat m.ps.length) 0) (.int .i64 (.ofNat m.ps.length) 0) H2 n2
   delta Iu
   rw[ES,Aw,decide_eq_false (Nat.lt_irrefl _),Aq]
   show MC lfp G (Runs F G) k (.ptr n 0) (sB (preB m.st)) w H2 n2
   delta MC
   rw[show(m.ps.map mW).take m.ps.length=m.ps.map mW by rw[<-List.length_map (f:=mW),List.take_length]]at ho
   have hn2:=f2.le
   have g2:=f2.get g1 (by omega)
   refine AB (Aa ..) (AB (v:=.agg (tyC m.ret)) (NQ g2 (by omega) (by show 5+2<=8;omega)) ?_)
   refine AB (Aa ..) (AB (v:=sB m.nm) (AQ g2 rfl) ?_)
   refine AF0 (by omega) λH3 f3=>?_
   have g3:=f3.get g2 (by omega)
   refine AB (AQ g3 rfl) (Cc (U0 _) ?_)
   have hpl:=AHs m.st
   refine AB (BZ (a:=preB m.st) (b:=sG m.ret) (by omega)) ?_
   refine AB (BZ (a:=preB m.st++sG m.ret) (b:=[32]) (by first|omega|(simp only[List.length_append];omega))) ?_
   refine AB (BZ (a:=(preB m.st++sG m.ret)++[32]) (b:=m.nm) (by first|omega|(simp only[List.length_append];omega))) ?_
   refine AB (BZ (a:=((preB m.st++sG m.ret)++[32])++m.nm) (b:=BJ) (by first|omega|(simp only[List.length_append];omega))) ?_
   refine AQZ ((ho.kp f3).el (by omega)) (by rw[List.length_map];exact hn) (by omega) ?_
   refine AB (AQ g3 rfl) (Cc (U0 _) ?_)
   refine AB (BZ (a:=(((preB m.st++sG m.ret)++[32])++m.nm)++BJ) (b:=IZ (m.ps.map mW)) (by first|omega|(simp only[List.length_append];omega))) ?_
   rw[show V.str 2 8233=sB (BM++[32])from rfl]
   refine AB (BZ (a:=((((preB m.st++sG m.ret)++[32])++m.nm)++BJ)++IZ (m.ps.map mW)) (b:=BM++[32]) (by first|omega|(simp only[List.length_append];omega))) ?_
   have hk:=hk _ _ ((f1.trans f2).trans f3)
   unfold headB at hk
   simpa only[List.append_assoc]using hk
 refine AB (Aa ..) (AB (v:=.bool m.st) (AQ g1 rfl) ?_)
 cases hst:m.st with
 |true=>rw[Ah];rw[hst]at main;exact main
 |false=>rw[Aq];rw[hst]at main;exact main
end
theorem Zt.inv{G:AV}{H:Heap}{A:Nat->Prop}{c:LV}{x:Cl}(h:Zt G H A c x):∃line col vf vm,c=clC line col x.nm x.sup vf vm/\ABe G H A vf x.fs/\APY G H A vm x.ms:=by
 cases h with
 |mk line col hf hm=>exact⟨line,col,_,_,rfl,hf,hm⟩
def AGn(c:Cl):Bs:=bif c.sup.isEmpty then[]else[32]++(I9++([32]++c.sup))
theorem AL8{α:Type}{f:α->Bs}{xs:List α}{j:Nat}(h:j<xs.length):((xs.map f).take (j+1)).flatten=((xs.map f).take j).flatten++f xs[j]:=by
 rw[List.take_succ_eq_append_getElem (by rw[List.length_map];exact h),List.flatten_append,List.getElem_map];simp
theorem AP4{α:Type}{f:α->Bs}{xs:List α}:(xs.map f).take xs.length=xs.map f:=by
 rw[<-List.length_map (f:=f),List.take_length]
section
variable{G:AV}{H:Heap}{n:Nat}{k:KV}
theorem ANn(hG:jy G){x:Cl}{c:LV}{A:Nat->Prop}(hc:Zt G H A c x)(hA:∀id,A id->id<n)(hw:WrC x)(hl:(Zb x).length<=100000000000)
 (hk:∀H' n',Kp H n H' n'->k (sB (Zb x)) H' n'):Runs F G gY [.agg c] H n k:=by
 obtain⟨line,col,vf,vm,rfl,⟨helf,_,_,_,hvaf⟩,cs,helm,_,_,_,hvam,hcm⟩:=hc.inv
 have hl2:(OM++([32]++(x.nm++(AGn x++([32]++(Nu++([10]++((x.fs.map Oq).flatten++((x.ms.map WH).flatten++(m_rc++[10])))))))))).length<=100000000000:=hl
 simp only[List.length_append]at hl2
 have hk:∀H' n',Kp H n H' n'->k (sB (OM++([32]++(x.nm++(AGn x++([32]++(Nu++([10]++((x.fs.map Oq).flatten++((x.ms.map WH).flatten++(m_rc++[10]))))))))))) H' n':=hk
 have e1:([32]:Bs).length=1/\([10]:Bs).length=1/\([9]:Bs).length=1/\BD.length=1/\Nu.length=1/\m_rc.length=1/\OM.length=5/\O5.length=5/\I9.length=7:=⟨rfl,rfl,rfl,rfl,rfl,rfl,rfl,rfl,rfl⟩
 refine Am (s:=Gw (Sj lfp G)) Vt (by obtain⟨h,o⟩:=zT Ap G;rw[Vt]at h;cases h;exact o) ?_
 show Sj lfp G (Runs F G) (.agg (clC line col x.nm x.sup vf vm)) H n k
 delta Sj
 refine Di λH1 f1 g1=>?_
 refine AOb λH2 f2 b2=>?_
 have g2:=f2.get g1 (by omega)
 have f2:=f1.trans f2
 refine AB (Aa ..) (AB (v:=sB x.nm) (AQ g2 rfl) ?_)
 rw[show V.str 6 35680229092451=sB (OM++[32])from rfl]
 refine AB (BZ (by simp only[List.length_append];omega)) ?_
 refine rO b2 (by simp only[List.length_append,List.length_nil];omega) λ_ H3 f3 b3=>?_
 rw[List.nil_append]at b3
 have g3:=(f3.same n (by omega)).trans g2
 have f3:Kp H n H3 (n+1+1+1):=⟨by omega,λid hid=>(f3.same id (by omega)).trans (f2.same id hid)⟩
 refine AB (Aa ..) (AB (v:=sB x.sup) (AQ g3 rfl) ?_)
 have main:∀H4 n4,Kp H n H4 n4->n+1<n4->T.get H4 n=some (one (clC line col x.nm x.sup vf vm))->Bu H4 n4 (n+1) ((OM++[32])++x.nm++AGn x)->IW lfp G (Runs F G) k (.ptr n 0) (.ptr (n+1) 0) H4 n4:=by
  intro H4 n4 f4 hn4 g4 b4
  show IW lfp G (Runs F G) k (.ptr n 0) (.ptr (n+1) 0) H4 n4
  delta IW
  rw[show V.str 3 686880=sB ([32]++(Nu++[10]))from rfl]
  refine rO b4 (by simp only[List.length_append];omega) λ_ H5 f5 b5=>?_
  have g5:=(f5.same n (by omega)).trans g4
  have f5:Kp H n H5 (n4+1):=⟨by have:=f4.le;omega,λid hid=>(f5.same id (by omega)).trans (f4.same id hid)⟩
  have helf5:El G H5 vf 3 (x.fs.map vaC):=helf.kp (λid hid=>hA id (hvaf id hid)) f5
  refine AB (Aa ..) (AB (v:=vf) (AQ g5 rfl) (AB helf5.len ?_))
  rw[List.length_map]
  generalize hl0:(OM++[32])++x.nm++AGn x++([32]++(Nu++[10]))=L0 at b5
  have hL0:L0.length=OM.length+([32]:Bs).length+x.nm.length+(AGn x).length+(([32]:Bs).length+(Nu.length+([10]:Bs).length)):=by rw[<-hl0];simp only[List.length_append]
  refine ER (N:=x.fs.length) (J:=λj q=>∃H' n',q=(.ptr n 0,.ptr (n+1) 0,vf,.int .i64 (.ofNat x.fs.length) 0,.int .i64 (.ofNat j) 0,H',n')/\Kp H5 (n+1) H' n'/\n+1<n'/\Bu H' n' (n+1) (L0++((x.fs.map Oq).take j).flatten)) ?_ ?_
   ⟨H5,n4+1,rfl,⟨by omega,λ_ _=>rfl⟩,by omega,by simpa using b5⟩
  ·rintro I j q hlt ⟨H6,n6,rfl,f6,hn6,b6⟩ ih
   show JX lfp G (Runs F G) k I (.ptr n 0) (.ptr (n+1) 0) vf (.int .i64 (.ofNat x.fs.length) 0) (.int .i64 (.ofNat j) 0) H6 n6
   delta JX
   have hel6:El G H6 vf 3 (x.fs.map vaC):=helf5.kp (λid hid=>by have:=hA id (hvaf id hid);omega) f6
   have hcx:(x.fs.map vaC)[j]? =some (vaC x.fs[j]):=by rw[List.getElem?_map,List.getElem?_eq_getElem hlt];rfl
   obtain⟨p,hp,hld⟩:=hel6.at hcx
   rw[ES,Aw,decide_eq_true hlt,Ah]
   refine AB hp (AB (J3 hld) ?_)
   refine Az rfl λH7 f7 g7=>?_
   refine CB (L:=vaC x.fs[j]) g7 rfl rfl (by omega) λH8 g8 t8=>?_
   have f8:Kp H6 n6 H8 (n6+1):=⟨f7.le,λid hid=>(t8 id (by omega)).trans (f7.same id hid)⟩
   have eft:=AL8 (f:=Oq) hlt
   have hft:=ZV (x.fs.map Oq) (j+1)
   rw[eft,List.length_append]at hft
   have hpx:(Oq x.fs[j]).length=1+(5+(1+((sG x.fs[j].ty).length+(1+(x.fs[j].nm.length+2))))):=by unfold Oq;simp only[List.length_append];omega
   have htx:=ACh x.fs[j].ty
   refine AB (Aa ..) (AB (v:=.agg (tyC x.fs[j].ty)) (NQ g8 (by omega) (by show 1+2<=3;omega)) ?_)
   refine AB (Aa ..) (AB (v:=sB x.fs[j].nm) (AQ g8 rfl) ?_)
   refine AF0 (by omega) λH9 f9=>?_
   have g9:=f9.get g8 (by omega)
   refine AB (AQ g9 rfl) (Cc (U0 _) ?_)
   rw[show V.str 7 9117615975392777=sB ([9]++(O5++[32]))from rfl]
   refine AB (BZ (b:=sG x.fs[j].ty) (by simp only[List.length_append];omega)) ?_
   refine AB (BZ (b:=[32]) (by simp only[List.length_append];omega)) ?_
   refine AB (BZ (b:=x.fs[j].nm) (by simp only[List.length_append];omega)) ?_
   rw[show V.str 2 2619=sB (BD++[10])from rfl]
   refine AB (BZ (b:=BD++[10]) (by simp only[List.length_append];omega)) ?_
   rw[show([9]++(O5++[32]))++sG x.fs[j].ty++[32]++x.fs[j].nm++(BD++[10])=Oq x.fs[j]by unfold Oq;simp only[List.append_assoc]]
   have b9:=(b6.kp f8).kp f9
   refine rO b9 (by simp only[List.length_append];omega) λ_ H10 f10 b10=>?_
   have:=hw.fn
   refine AB (Ee (by omega)) ?_
   refine ih _ ⟨H10,_,rfl,⟨by omega,λid hid=>(f10.same id hid).trans ((f9.same id (by omega)).trans ((f8.same id (by omega)).trans (f6.same id hid)))⟩,by omega,?_⟩
   rw[eft,<-List.append_assoc]
   exact b10
  ·rintro I q ⟨H6,n6,rfl,f6,hn6,b6⟩
   show JX lfp G (Runs F G) k I (.ptr n 0) (.ptr (n+1) 0) vf (.int .i64 (.ofNat x.fs.length) 0) (.int .i64 (.ofNat x.fs.length) 0) H6 n6
   delta JX
   rw[ES,Aw,decide_eq_false (Nat.lt_irrefl _),Aq]
   show OT lfp G (Runs F G) k (.ptr n 0) (.ptr (n+1) 0) H6 n6
   delta OT
   rw[AP4]at b6
   have g6:=(f6.same n (by omega)).trans g5
   have f6:Kp H n H6 n6:=⟨by omega,λid hid=>(f6.same id (by omega)).trans (f5.same id hid)⟩
   have helm6:El G H6 vm 8 cs:=helm.kp (λid hid=>hA id (hvam id hid)) f6
   refine AB (Aa ..) (AB (v:=vm) (AQ g6 rfl) (AB helm6.len ?_))
   rw[hcm.len]
   generalize hl1:L0++(x.fs.map Oq).flatten=L1 at b6
   have hL1:L1.length=L0.length+(x.fs.map Oq).flatten.length:=by rw[<-hl1,List.length_append]
   refine ER (N:=x.ms.length) (J:=λj q=>∃H' n',q=(.ptr (n+1) 0,vm,.int .i64 (.ofNat x.ms.length) 0,.int .i64 (.ofNat j) 0,H',n')/\Kp H6 (n+1) H' n'/\n+1<n'/\Bu H' n' (n+1) (L1++((x.ms.map WH).take j).flatten)) ?_ ?_
    ⟨H6,n6,rfl,⟨by omega,λ_ _=>rfl⟩,by omega,by simpa using b6⟩
   ·rintro I j q hlt ⟨H7,n7,rfl,f7,hn7,b7⟩ ih
    show Jc lfp G (Runs F G) k I (.ptr (n+1) 0) vm (.int .i64 (.ofNat x.ms.length) 0) (.int .i64 (.ofNat j) 0) H7 n7
    delta Jc
    have f7':Kp H n H7 n7:=⟨by omega,λid hid=>(f7.same id (by omega)).trans (f6.same id hid)⟩
    have hel7:El G H7 vm 8 cs:=helm.kp (λid hid=>hA id (hvam id hid)) f7'
    have hcm7:ZH G H7 A cs x.ms:=hcm.mono (λ_ h=>h) λid h=>f7'.same id (hA id h)
    obtain⟨cx,hcx,hx⟩:=hcm7.at (List.getElem?_eq_getElem hlt)
    obtain⟨p,hp,hld⟩:=hel7.at hcx
    rw[ES,Aw,decide_eq_true hlt,Ah]
    refine AB hp (AB (J3 hld) ?_)
    refine Az rfl λH8 f8 g8=>?_
    refine CB (L:=cx) g8 rfl hx.len (by omega) λH9 g9 t9=>?_
    have f9:Kp H7 n7 H9 (n7+1):=⟨f8.le,λid hid=>(t9 id (by omega)).trans (f8.same id hid)⟩
    have hx9:aB G H9 A cx x.ms[j]:=hx.mono (λ_ h=>h) λid h=>f9.same id (by have:=hA id h;omega)
    have hwm:=hw.ms _ (List.getElem_mem hlt)
    obtain⟨ml,mc,vp,vb,hcxe,hpp,hbb⟩:=hx9.inv
    obtain⟨bs,hbel,hbk,_,_,hbva,hbc⟩:=hbb
    have eft:=AL8 (f:=WH) hlt
    have hft:=ZV (x.ms.map WH) (j+1)
    rw[eft,List.length_append]at hft
    have hpx:(WH x.ms[j]).length=(headB x.ms[j]).length+((I4 1 (x.ms[j].body.map (textS 2))).length+1):=by rw[ADm];simp only[List.length_append];omega
    refine AB (Ai (m:=8) g9 (by omega) hx.len) ?_
    refine AB (Aa ..) (AB (v:=vb) (AQ g9 (by rw[hcxe];rfl)) ?_)
    refine ASV hx9 (λid h=>by have:=hA id h;omega) (by have:=hwm.pn;omega) (by omega) λH10 n10 f10=>?_
    have hn10:=f10.le
    have g10:=f10.get g9 (by omega)
    refine AB (v:=vb) (AQ g10 (by rw[hcxe];rfl)) (Cc (AIN hbel hbk) ?_)
    refine AIk (d:=1) (hbel.same λid hid=>f10.same id (by have:=hA id (hbva id hid);omega)) hbva (hbc.mono (λ_ h=>h) λid h=>f10.same id (by have:=hA id h;omega)) (λid h=>by have:=hA id h;omega) (λs hs=>ATH hG (hwm.body s hs)) (by show(I4 1 (x.ms[j].body.map (textS 2))).length<=_;omega) λH11 n11 f11=>?_
    have hn11:=f11.le
    show AP (B2.ev .add (sB (headB x.ms[j])) (sB (I4 1 (x.ms[j].body.map (textS 2))))) _
    refine AB (BZ (by omega)) ?_
    rw[show V.str 1 10=sB [10]from rfl]
    refine AB (BZ (by simp only[List.length_append];omega)) ?_
    rw[show headB x.ms[j]++I4 1 (x.ms[j].body.map (textS 2))++[10]=WH x.ms[j]by rw[ADm];simp only[List.append_assoc]]
    have b11:=((b7.kp f9).kp f10).kp f11
    refine rO b11 (by simp only[List.length_append];omega) λ_ H12 f12 b12=>?_
    have:=hw.mn
    refine AB (Ee (by omega)) ?_
    refine ih _ ⟨H12,_,rfl,⟨by omega,λid hid=>(f12.same id hid).trans ((f11.same id (by omega)).trans ((f10.same id (by omega)).trans ((f9.same id (by omega)).trans (f7.same id hid))))⟩,by omega,?_⟩
    rw[eft,<-List.append_assoc]
    exact b12
   ·rintro I q ⟨H7,n7,rfl,f7,hn7,b7⟩
    show Jc lfp G (Runs F G) k I (.ptr (n+1) 0) vm (.int .i64 (.ofNat x.ms.length) 0) (.int .i64 (.ofNat x.ms.length) 0) H7 n7
    delta Jc
    rw[ES,Aw,decide_eq_false (Nat.lt_irrefl _),Aq]
    show MH lfp G (Runs F G) k (.ptr (n+1) 0) H7 n7
    delta MH
    rw[AP4]at b7
    rw[show V.str 2 2685=sB (m_rc++[10])from rfl]
    refine rO b7 (by simp only[List.length_append];omega) λ_ H8 f8 b8=>?_
    refine ANf b8 λH9 f9=>?_
    have hk:=hk H9 (n7+1) ⟨by omega,λid hid=>(f9.same id (by omega)).trans ((f8.same id (by omega)).trans ((f7.same id (by omega)).trans (f6.same id hid)))⟩
    rw[<-hl1,<-hl0]
    simpa only[List.append_assoc]using hk
 cases hs:x.sup with
 |nil=>
  rw[show EU (.one .str) true (sB []) (.str 0 0)=some (.bool false)from rfl,Aw,Aq]
  refine main _ _ f3 (by omega) g3 ?_
  rw[show AGn x=[]by unfold AGn;rw[hs];rfl,List.append_nil]
  exact b3
 |cons a s=>
  have h1:EU (.one .str) true (sB (a::s)) (.str 0 0)=some (.bool true):=(ASf (a::s) []).trans (by simp)
  rw[h1,Aw,Ah]
  refine AB (Aa ..) (AB (v:=sB x.sup) (AQ g3 rfl) ?_)
  have hsb:AGn x=[32]++(I9++([32]++x.sup)):=by unfold AGn;rw[hs];rfl
  rw[hsb]at hl2
  simp only[List.length_append]at hl2
  rw[show V.str 9 598610702552763229472=sB ([32]++(I9++[32]))from rfl]
  refine AB (BZ (by simp only[List.length_append];omega)) ?_
  refine rO b3 (by simp only[List.length_append];omega) λ_ H4 f4 b4=>?_
  refine main _ _ ⟨by omega,λid hid=>(f4.same id (by omega)).trans (f3.same id hid)⟩ (by omega) ((f4.same n (by omega)).trans g3) ?_
  rw[hsb]
  simpa only[List.append_assoc]using b4
end
theorem AQg{G:AV}{H:Heap}{n id m z bs:Nat}{t:T LV}{w:V}{LS NS:Dv}{k:KV}(hz:0<z)(hb:T.get H id=some (.arr z m t))(hid:id<n)(h:elems (.sl id 0 m m z) G H z=some LS)
 (hw:elems w G H z=some NS) (hr:(m+NS.length)*bs<=140737488355328)
 (hne:NS≠[]) (hk:∀v' H',Gr G H' n z v' (LS++NS)->(∀j,j<n->T.get H' j=T.get H j)->(∀j,v'.QU=some j->j=n)->k v' H' (n+1)):Xx z bs (.sl id 0 m m z) w G H n k:=by
 unfold Xx
 rw[hw,uq]
 have h2:(Bool.rec (motive:=λ_=>Option Dv) none (DF H id z m 0) (Nat.beq z z):Option Dv)=some LS:=h
 rw[Eh]at h2
 have h2:DF H id z m 0=some LS:=h2
 obtain⟨hl,hat⟩:=O6 _ _ h2
 have e0:AI8 (.sl id 0 m m z) G z bs NS H n k=Bool.rec (motive:=λ_=>Prop) (Hu (DF H id z m 0) λOS=>O3 z bs OS NS H n k) (Hu (T.get H id) λb=>ADQ id 0 m m z (m+NS.length) NS H n k b) (Nat.ble (m+NS.length) m):=by
  show Ed (Nat.beq z z) (ET (Nat.add m (len NS)) λneed=>Bool.rec (motive:=λ_=>Prop) (Hu (DF H id z m 0) λOS=>O3 z bs OS NS H n k) (Hu (T.get H id) λb=>ADQ id 0 m m z need NS H n k b) (Nat.ble need m))=_
  rw[Eh,ou,CJ,len_eq];rfl
 rw[e0]
 by_cases hN:NS.length=0
 ·exact absurd (List.length_eq_zero_iff.1 hN) hne
 ·rw[show Nat.ble (m+NS.length) m=false by rw[Bool.eq_false_iff];intro hc;rw[Nat.ble_eq]at hc;omega]
  show Hu (DF H id z m 0) (λOS=>O3 z bs OS NS H n k)
  rw[h2,uq]
  show ET (Nat.add (len LS) (len NS)) (λneed=>Ed (QK need bs) (ET n λn=>k (.QF n 0 need z) (T.set H n (.arr z need (Fh NS (len LS) (Fh LS 0 .e)))) (Nat.succ n)))
  rw[CJ,CJ,len_eq,len_eq,show QK (Nat.add LS.length NS.length) bs=true from ZU (by rw[hl];exact hr),ou]
  have e:Nat.add LS.length NS.length=(LS++NS).length:=by rw[List.length_append];rfl
  rw[e]
  refine hk _ _ (.QF (LS:=LS++NS) (T.C9 ..) (Nat.le_refl _) (λi L hi=>?_) (Nat.le_refl _)) (λj hj=>T.Au _ _ (by omega)) (λj hj=>by cases hj;rfl)
  rw[FN,FN]
  by_cases hlt:i<LS.length
  ·rw[if_neg (by omega),if_pos ⟨Nat.zero_le _,by omega⟩]
   rw[List.getElem?_append_left hlt]at hi
   exact hi
  ·rw[List.getElem?_append_right (by omega)]at hi
   have hlt2:=(List.getElem?_eq_some_iff.1 hi).1
   rw[if_pos ⟨by omega,by omega⟩];exact hi
def Ow(G:AV)(H:Heap)(m n z:Nat)(v:V)(LS:Dv):Prop:=Own G H m n z v LS∨∃id t,v=.sl id 0 LS.length LS.length z/\T.get H id=some (.arr z LS.length t)/\m<=id/\id<n/\El G H v z LS
theorem Ow.el{G:AV}{H:Heap}{m n z:Nat}{v:V}{LS:Dv}(h:Ow G H m n z v LS)(hz:0<z):El G H v z LS:=by
 rcases h with h|⟨_,_,_,_,_,_,h⟩
 ·exact h.el hz
 ·exact h
theorem Ow.at{G:AV}{H:Heap}{m n z:Nat}{v:V}{LS:Dv}(h:Ow G H m n z v LS){id:Nat}(hid:v.QU=some id):m<=id/\id<n:=by
 rcases h with h|⟨i,_,rfl,_,h1,h2,_⟩
 ·exact⟨h.ge hid,h.lo id hid⟩
 ·cases En hid;exact⟨h1,h2⟩
theorem Ow.ok{G:AV}{H:Heap}{m n z:Nat}{v:V}{LS:Dv}(h:Ow G H m n z v LS):KS v/\jq v=true/\Cb v=[v]:=by
 rcases h with h|⟨i,_,rfl,_⟩
 ·exact QC h.gr
 ·exact⟨WC (Nat.le_refl _),rfl,rfl⟩
theorem Ow.vs{G:AV}{H:Heap}{m n z:Nat}{v:V}{LS:Dv}(h:Ow G H m n z v LS)(hz:0<z):BR v v=true:=AIN (h.el hz) h.ok.1
theorem Ow.kp{G:AV}{H H':Heap}{m n n' z:Nat}{v:V}{LS:Dv}(h:Ow G H m n z v LS)(f:Kp H n H' n'):Ow G H' m n' z v LS:=by
 rcases h with h|⟨id,t,rfl,h1,h2,h3,h4⟩
 ·exact .inl (h.kp f)
 ·exact .inr ⟨id,t,rfl,(f.same id h3).trans h1,h2,by have:=f.le;omega,h4.same λj hj=>f.same j (by cases En hj;exact h3)⟩
theorem Ow.frame{G:AV}{H H':Heap}{m n n' z:Nat}{v:V}{LS:Dv}(h:Ow G H m n z v LS)(hn:n<=n')(hs:∀id,v.QU=some id->T.get H' id=T.get H id):Ow G H' m n' z v LS:=by
 rcases h with h|⟨id,t,rfl,h1,h2,h3,h4⟩
 ·obtain⟨g,l⟩:=h
  refine .inl ⟨?_,λid hid=>by have:=l id hid;omega⟩
  cases g with
  |nil=>exact .nil
  |QF hg hc ht hid=>exact .QF ((hs _ rfl).trans hg) hc ht hid
 ·exact .inr ⟨id,t,rfl,(hs id rfl).trans h1,h2,by omega,h4.same λj hj=>hs j hj⟩
theorem AEA{G:AV}{H:Heap}{n z bs m:Nat}{v:V}{c:LV}{LS:Dv}{P:KV}{Z:LV}(ho:Ow G H m n z v LS)(hm:m<=n)(hz:0<z)(hc:c.length=z)(hok:jq (.agg c)=true)(hb:(LS.length+1)*bs<=140737488355328)
 (hk:∀v' H',Ow G H' m (n+2) z v' (LS++[c])->(∀id,id<n->v.QU≠some id->T.get H' id=T.get H id)->(∀id,v'.QU=some id->id=n+1)->P v' H' (n+2)):
 DW (Aj z 1 Z [(0,.c (.agg c))] E0) H n λw H n=>Xx z bs v w G H n P:=by
 rcases ho with ho|⟨id,t,rfl,h1,h2,h3,h4⟩
 ·exact ACm ho hm hz hc hok hb λv' H' h=>hk v' H' (.inl h)
 ·refine Ju (G:=G) (vs:=[.agg c]) rfl hz (λv hv=>by simp at hv;subst hv;exact⟨hok,hc⟩) λH6 f6 _ hel=>?_
  refine AQg hz ((f6.same id h3).trans h1) (by omega) (h4.same λj hj=>f6.same j (by cases En hj;exact h3)).2 hel.2 hb (λh=>by cases h) λv' H' hg hs hid=>?_
  refine hk v' H' (.inl ⟨?_,λj hj=>by have:=hid j hj;omega⟩) (λj hj _=>(hs j (by omega)).trans (f6.same j hj)) hid
  have hg:Gr G H' (n+1) z v' (LS++[c]):=hg
  generalize LS++[c]=X at hg⊢
  cases hg with
  |nil=>exact .nil
  |QF b1 b2 b3 b4=>exact .QF b1 b2 b3 (by omega)
theorem AVU(l:Bs)(b:Bool):Bl [.str 0 0,.bool false] [(0,1,.c (sB l)),(1,1,.c (.bool b))]=some (.agg [sB l,.bool b]):=rfl
theorem AOS(l:Bs):Bl [.str 0 0,.bool false] [(0,1,.c (sB l))]=some (.agg [sB l,.bool false]):=rfl
theorem AHn{g:Nat}(h:g<=7):Ws [67,UInt8.ofNat (97+g)]=true:=by
 match g,h with
 |0,_=>decide
 |1,_=>decide
 |2,_=>decide
 |3,_=>decide
 |4,_=>decide
 |5,_=>decide
 |6,_=>decide
 |7,_=>decide
theorem APh{g:Nat}(h:g<=7):iy [110,UInt8.ofNat (97+g)]=true:=by
 match g,h with
 |0,_=>decide
 |1,_=>decide
 |2,_=>decide
 |3,_=>decide
 |4,_=>decide
 |5,_=>decide
 |6,_=>decide
 |7,_=>decide
theorem ATC{l:Bs}(h:Ws l=true):eG l=true:=by unfold eG;rw[h];simp
section
variable{G:AV}{H:Heap}{n:Nat}{k:KV}
theorem ALD{m:Nat}(hk:∀H' g,Kp H n H' (n+1)->g<=7->k (sB [67,UInt8.ofNat (97+g)]) H' (n+1)):Runs F G FD [.int .i64 (.ofNat m) 0] H n k:=by
 refine Am (s:=Gw (Qi lfp G)) Ul (by obtain⟨h,o⟩:=wY Ap G;rw[Ul]at h;cases h;exact o) ?_
 show Qi lfp G (Runs F G) (.int .i64 (.ofNat m) 0) H n k
 delta Qi
 refine AB (AFZ _ (m:=7) (by omega)) ?_
 have hu:jM (.ofNat m) 7<=7:=(Wy _ (m:=7) (by omega)).2
 generalize jM (.ofNat m) 7=g at hu
 refine AB (cvq (q:=.u8) (by show g<256;omega)) (AB (AR9 (q:=.u8) (by show 97+g<256;omega)) ?_)
 refine Ju (G:=G) (vs:=[.int .u8 (.ofNat (97+g)) 0]) rfl (by omega) (λv hv=>by simp at hv;subst hv;exact⟨rfl,rfl⟩) λH1 f1 _ hel=>?_
 have e:(UInt8.ofNat (97+g)).toNat=97+g:=by rw[UInt8.toNat_ofNat'];omega
 have hel:El G H1 (.sl n 0 1 1 1) 1 (PL [UInt8.ofNat (97+g)]):=by
  show El G H1 _ 1 [[V.int .u8 (.ofNat (UInt8.ofNat (97+g)).toNat) 0]]
  rw[e];exact hel
 refine AB (AKx hel) ?_
 rw[show V.str 1 67=sB [67]from rfl]
 refine AB (BZ (by show 1+1<_;omega)) ?_
 exact hk _ g f1 hu
theorem ATF{m:Nat}(hk:∀H' g,Kp H n H' (n+1)->g<=7->k (sB [110,UInt8.ofNat (97+g)]) H' (n+1)):Runs F G EO [.int .i64 (.ofNat m) 0] H n k:=by
 refine Am (s:=Gw (Qc lfp G)) Ut (by obtain⟨h,o⟩:=vW Ap G;rw[Ut]at h;cases h;exact o) ?_
 show Qc lfp G (Runs F G) (.int .i64 (.ofNat m) 0) H n k
 delta Qc
 refine AB (AFZ _ (m:=7) (by omega)) ?_
 have hu:jM (.ofNat m) 7<=7:=(Wy _ (m:=7) (by omega)).2
 generalize jM (.ofNat m) 7=g at hu
 refine AB (cvq (q:=.u8) (by show g<256;omega)) (AB (AR9 (q:=.u8) (by show 97+g<256;omega)) ?_)
 refine Ju (G:=G) (vs:=[.int .u8 (.ofNat (97+g)) 0]) rfl (by omega) (λv hv=>by simp at hv;subst hv;exact⟨rfl,rfl⟩) λH1 f1 _ hel=>?_
 have e:(UInt8.ofNat (97+g)).toNat=97+g:=by rw[UInt8.toNat_ofNat'];omega
 have hel:El G H1 (.sl n 0 1 1 1) 1 (PL [UInt8.ofNat (97+g)]):=by
  show El G H1 _ 1 [[V.int .u8 (.ofNat (UInt8.ofNat (97+g)).toNat) 0]]
  rw[e];exact hel
 refine AB (AKx hel) ?_
 rw[show V.str 1 110=sB [110]from rfl]
 refine AB (BZ (by show 1+1<_;omega)) ?_
 exact hk _ g f1 hu
theorem AEa{m:Nat}(hk:∀H' u,Kp H n H' (n+1)->Ws u=true->u.length=2->k (sB u) H' (n+1)):Runs F G FD [.int .i64 (.ofNat m) 0] H n k:=
 ALD λH' g f hg=>hk H' _ f (AHn hg) rfl
theorem zY{m:Nat}(hk:∀H' u,Kp H n H' (n+1)->iy u=true->u.length=2->k (sB u) H' (n+1)):Runs F G EO [.int .i64 (.ofNat m) 0] H n k:=
 ATF λH' g f hg=>hk H' _ f (APh hg) rfl
theorem ALo{l:Bs}{ar:Bool}(hl:l.length<=4611686018427387904)(hk:∀H' n' u,Kp H n H' n'->eG u=true->u.length<=4->k (.agg [sB u,.bool ar]) H' n'):Runs F G QA [.agg [sB l,.bool ar]] H n k:=by
 refine Am (s:=Gw (UU lfp G)) Wq (by obtain⟨h,o⟩:=AA2 Ap G;rw[Wq]at h;cases h;exact o) ?_
 show UU lfp G (Runs F G) (.agg [sB l,.bool ar]) H n k
 delta UU
 refine Di λH1 f1 g1=>?_
 refine Az rfl λH2 f2 g2=>?_
 have g1:=f2.get g1 (by omega)
 have f2:=f1.trans f2
 refine AB (v:=.ptr n 0) (by rw[Aa]) (AB (AQ (off:=0) g1 (v:=sB l) rfl) (AB (Pm l) ?_))
 have j6:∀m,m<9223372036854775808->Kq lfp G (Runs F G) k (.ptr n 0) (.ptr (n+1) 0) (.int .i64 (.ofNat m) 0) H2 (n+1+1):=by
  intro m hm
  delta Kq
  refine AB (AOD m (by omega)) (AB (v:=.ptr n 1) (by rw[Aa,Nat.zero_add]) (AB (AQ (off:=1) g1 (v:=.bool ar) rfl) ?_))
  refine ALD λH3 g f3 hg=>?_
  have g1:=f3.get g1 (by omega);have g2:=f3.get g2 (by omega)
  refine AB (AQ (off:=1) g1 (v:=.bool ar) rfl) (Cc (by cases ar<;>rfl) ?_)
  refine jW (G:=G) (ws:=[uf,dX,[67,UInt8.ofNat (97+g)]]) rfl λH4 f4 hw=>?_
  have g2:=f4.get g2 (by omega)
  have f4:=(f2.trans f3).trans f4
  have h3:m%3<3:=Nat.mod_lt _ (by decide)
  generalize m%3=i at h3
  have hw2:∃u,eG u=true/\u.length<=4/\∃p,BN 1 (.sl (n+1+1+1) 0 3 3 1) (.int .i64 (.ofNat i) 0)=some p/\AX p G H4=some (sB u):=by
   match i,h3 with
   |0,_=>obtain⟨p,h1,h2⟩:=hw.at (i:=0) rfl;exact⟨_,by decide,by decide,p,h1,dV h2⟩
   |1,_=>obtain⟨p,h1,h2⟩:=hw.at (i:=1) rfl;exact⟨_,by decide,by decide,p,h1,dV h2⟩
   |2,_=>obtain⟨p,h1,h2⟩:=hw.at (i:=2) rfl;exact⟨_,ATC (AHn hg),(by show 2<=4;omega),p,h1,dV h2⟩
  obtain⟨t,ht,hlen,p,hp,hq⟩:=hw2
  refine AB hp (AB hq (AB (AVU ..) ?_))
  refine CB g2 rfl rfl (by omega) λH5 g5 t5=>?_
  rw[DU (m:=2) g5 (by omega) rfl]
  simp only[go_sem]
  exact hk _ _ t ⟨by omega,λid hid=>(t5 id (by omega)).trans (f4.same id hid)⟩ ht hlen
 rw[MJ,Aw]
 cases hd:decide (0<l.length)with
 |false=>rw[Aq];exact j6 _ (by omega)
 |true=>
  have hd:=of_decide_eq_true hd
  rw[Ah]
  have hc:(l[0]).toNat<256:=(l[0]).toNat_lt
  refine AB (v:=.ptr n 0) (by rw[Aa]) (AB (AQ (off:=0) g1 (v:=sB l) rfl) (AB (AEz hd) (AB (APB (by omega)) (AB (Ee (by omega)) ?_))))
  exact j6 _ (by omega)
theorem AQR{u:Bs}(hk:∀H',Kp H n H' (n+1)->k (.agg [sB u,.bool false]) H' (n+1)):Runs F G VK [sB u] H n k:=by
 refine Am (s:=Gw (Zr lfp G)) gI (by obtain⟨h,o⟩:=AFX Ap G;rw[gI]at h;cases h;exact o) ?_
 show Zr lfp G (Runs F G) (sB u) H n k
 delta Zr
 refine Az rfl λH2 f2 g2=>?_
 refine AB (AOS ..) ?_
 refine CB g2 rfl rfl (by omega) λH5 g5 t5=>?_
 rw[DU (m:=2) g5 (by omega) rfl]
 simp only[go_sem]
 exact hk _ ⟨by omega,λid hid=>(t5 id (by omega)).trans (f2.same id hid)⟩
theorem ATL{u:Bs}{b:Bool}(hk:∀H',Kp H n H' (n+2)->k (.agg [sB u,.bool false]) H' (n+2)):Runs F G lI [.agg [sB u,.bool b]] H n k:=by
 refine Am (s:=Gw (UZ lfp G)) XF (by obtain⟨h,o⟩:=ABf Ap G;rw[XF]at h;cases h;exact o) ?_
 show UZ lfp G (Runs F G) (.agg [sB u,.bool b]) H n k
 delta UZ
 refine Di λH1 f1 g1=>?_
 refine Az rfl λH2 f2 g2=>?_
 have g1:=f2.get g1 (by omega)
 have f2:=f1.trans f2
 refine AB (Aa ..) (AB (v:=sB u) (AQ g1 rfl) (AB (AOS ..) ?_))
 refine CB g2 rfl rfl (by omega) λH5 g5 t5=>?_
 rw[DU (m:=2) g5 (by omega) rfl]
 simp only[go_sem]
 exact hk _ ⟨by omega,λid hid=>(t5 id (by omega)).trans (f2.same id hid)⟩
end
end Go.PQ
