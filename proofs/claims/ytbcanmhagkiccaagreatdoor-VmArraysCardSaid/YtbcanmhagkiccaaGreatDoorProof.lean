/- PROVED: the Go function kilnlaw16.VmArrays (three ints in, one bool out) returns true for every input, and leaves its arguments as they were: the tied card VmArraysCardSaid. CONDITIONS: none beyond the card's own (the listed package variables hold what the program's text lays; the card ties it). The way: the code is turned into abstract code, checked by the kernel to be what the program has (text Code), an abstract run is proved to stand for the run of the model (texts EngA to EngF), the abstract code is proved to do what plain functions of values do (Plain, PlainR), each function is walked once and shown to compute what a function of plain data computes (Walk, Con.., Law), and the statement is proved of these. Names are short and blanks few for want of room. -/
import Derived.Test.YtbcanmhagkiccaaGreatDoorCaseA
import Derived.Test.YtbcanmhagkiccaaGreatDoorCaseB
import Derived.Test.YtbcanmhagkiccaaGreatDoorCaseC
import Derived.Test.YtbcanmhagkiccaaGreatDoorCaseD
import Derived.Test.YtbcanmhagkiccaaGreatDoorCaseE
import Derived.Test.YtbcanmhagkiccaaGreatDoorCaseF
import Derived.Test.YtbcanmhagkiccaaGreatDoorCaseG
import Derived.Test.YtbcanmhagkiccaaGreatDoorCaseH
import Derived.Test.YtbcanmhagkiccaaGreatDoorCaseI
import Derived.Test.YtbcanmhagkiccaaGreatDoorCaseJ
import Derived.Test.YtbcanmhagkiccaaGreatDoorCaseK
import Derived.Test.YtbcanmhagkiccaaGreatDoorCaseL
import Derived.Test.YtbcanmhagkiccaaGreatDoorCaseM
import Derived.Test.YtbcanmhagkiccaaGreatDoorCaseN
import Derived.Test.YtbcanmhagkiccaaGreatDoorCaseO
import Derived.Test.YtbcanmhagkiccaaGreatDoorCaseP
import Derived.Test.YtbcanmhagkiccaaGreatDoorSeat
import Derived.Test.YtbcanmhagkiccaaGreatDoorTie
import Derived.Test.YtbcanmhagkiccaaGreatDoorCards
import Derived.SevenTiedAt
set_option linter.unusedVariables false
set_option linter.unusedSimpArgs false
set_option maxRecDepth 100000
namespace Go.R5.VD
open Go.Eng Go.R5
theorem Z9{z:Int}{n:Nat}{v:V}{H:Heap}{m:Nat}:∀k a,BX z n a k v H m->∀j,j<k->po z n (.ofNat (a+j)) v H m
 |0,_,_,j,h=>absurd h (by omega)
 |k+1,a,h,0,_=>h.1
 |k+1,a,h,j+1,hj=>by
  have:=Z9 k (a+1) h.2 j (by omega)
  rwa [show a+1+j=a+(j+1)by omega]at this
theorem Y1{x:Int}{n:Nat}:∀k a,(∀j,j<k->Eqs x n (a+j))->BR x n a k
 |0,_,_=>trivial
 |k+1,a,h=>⟨h 0 (by omega),Y1 k (a+1) λj hj=>by rw[show a+1+j=a+(j+1)by omega];exact h (j+1) (by omega)⟩
noncomputable def fx(x:Int)(a j:Nat):Int:=Bool.rec (Int.ofNat j) x (Nat.beq j a)
noncomputable def tot(x:Int)(a:Nat):Nat->Nat->Int
 |0,_=>0
 |k+1,i=>fx x a i+tot x a k (i+1)
theorem fB(x:Int)(a:Nat):∀k i (u:Int),chain x a k i (IntKind.wrap .i64 u)=IntKind.wrap .i64 (u+tot x a k i)
 |0,i,u=>by show IntKind.wrap .i64 u=_;rw[show u+tot x a 0 i=u from Int.add_zero u]
 |k+1,i,u=>by
  show chain x a k (i+1) (KN .i64 (kP (IntKind.wrap .i64 u) (fx x a i)))=_
  rw[G6,Z5]
  have e:IntKind.wrap .i64 (IntKind.wrap .i64 u+fx x a i)=IntKind.wrap .i64 (u+fx x a i):=by
   refine Zc ?_
   rw[Int.add_emod,jZ,<-Int.add_emod]
  rw[e,fB x a k (i+1)]
  rw[show u+tot x a (k+1) i=u+fx x a i+tot x a k (i+1)by show u+(fx x a i+tot x a k (i+1))=_;omega]
theorem Aa2(x:Int)(a j:Nat):fx x a j=if j=a then x else(j:Int):=by
 unfold fx
 by_cases h:j=a
 ·rw[if_pos h,h,show Nat.beq a a=true by simp]
 ·rw[if_neg h,show Nat.beq j a=false by rw[Bool.eq_false_iff];simpa using h];rfl
def tri:Nat->Nat->Nat
 |0,_=>0
 |k+1,i=>i+tri k (i+1)
theorem zh(x:Int)(a:Nat):∀k i,tot x a k i=(tri k i:Int)+(if i<=a/\a<i+k then x-a else 0)
 |0,i=>by rw[if_neg (by omega)];rfl
 |k+1,i=>by
  show fx x a i+tot x a k (i+1)=((i+tri k (i+1):Nat):Int)+_
  rw[Aa2,zh x a k (i+1)]
  by_cases h:i=a
  ·rw[if_pos h,if_neg (by omega),if_pos (by omega)];omega
  ·rw[if_neg h]
   by_cases h2:i<=a/\a<i+(k+1)
   ·rw[if_pos (by omega),if_pos h2];omega
   ·rw[if_neg (by omega),if_neg h2];omega
theorem Aco:∀n,n<32->tri n 0=n*(n-1)/2:=by decide
theorem AWj:∀n,n<32->∀a,a<n->a<=n*(n-1)/2:=by decide
theorem eqs(x:Int){n a:Nat}(hn:n<32)(ha:a<n):Eqs x n a:=by
 have h1:Sum x n a=IntKind.wrap .i64 ((n*(n-1)/2:Nat)+(x-a)):=by
  have:=fB x a n 0 0
  rw[show IntKind.wrap .i64 0=0 from rfl,zh,Aco n hn,if_pos (by omega),Int.zero_add]at this
  exact this
 have h2:W (.ofNat (n*(n-1)/2-a)) x=IntKind.wrap .i64 ((n*(n-1)/2:Nat)+(x-a)):=by
  unfold W
  rw[G6,Z5]
  have:=AWj n hn a ha
  congr 1
  show((n*(n-1)/2-a:Nat):Int)+x=_
  omega
 unfold Eqs
 rw[h1,h2]
 exact⟨eq_self _,trivial⟩
attribute [local irreducible] pr po pre
def Ok(z:Int)(n:Nat)(u:Int):Prop:=pre G0 (Runs F G0) True OX (po z n u) .e 0
theorem lift{K:V->Heap->Nat->Prop}(h:pr K){z:Int}{n:Nat}{u:Int}(hK:∀v H m,K v H m->po z n u v H m):Ok z n u:=by
 unfold pr at h
 show pre G0 (Runs F G0) True OX (po z n u) .e 0
 exact AFy (Eo (ASS (aI 3000) G0) 3000) (D8 F G0) (λh=>h) hK h
theorem blk{z:Int}{n a0 k:Nat}(c:pr (λv H m=>BX z n a0 k v H m)=(True/\BR z n a0 k))(hn:n<32)(hk:a0+k<=n){a:Nat}(h1:a0<=a)(h2:a<a0+k):Ok z n (.ofNat a):=
 lift (c.mpr ⟨trivial,Y1 _ _ λj hj=>eqs z hn (by omega)⟩) λv H m h=>by
  have:=Z9 k a0 h (a-a0) (by omega)
  rwa [show a0+(a-a0)=a by omega]at this
theorem blk0{z:Int}{n k:Nat}(c:∀q,pr (λv H m=>po z n (.negSucc q) v H m/\po z n (.ofNat (Nat.add q n)) v H m/\BX z n 0 k v H m)=(True/\True/\True/\BR z n 0 k))(hn:n<32)(hk:k<=n):
 (∀q,Ok z n (.negSucc q))/\(∀q,Ok z n (.ofNat (Nat.add q n)))/\∀a,a<k->Ok z n (.ofNat a):=by
 have E:True/\True/\True/\BR z n 0 k:=⟨trivial,trivial,trivial,Y1 _ _ λj hj=>eqs z hn (by omega)⟩
 refine⟨λq=>?_,λq=>?_,λa ha=>?_⟩
 ·have h:=(c q).mpr E
  exact lift h λv H m h=>And.left h
 ·have h:=(c q).mpr E
  exact lift h λv H m h=>And.left (And.right h)
 ·have h:=(c 0).mpr E
  refine lift h λv H m h=>?_
  have:=Z9 k 0 (And.right (And.right h)) a ha
  rwa [Nat.zero_add]at this
def Row(n:Nat):Prop:=∀z:Int,(∀q,Ok z n (.negSucc q))/\(∀q,Ok z n (.ofNat (Nat.add q n)))/\∀a,a<n->Ok z n (.ofNat a)
attribute [local irreducible] Ok
theorem w0:Row 0:=λz=>blk0 (λq=>AgB z q) (by omega) (by omega)
theorem w1:Row 1:=λz=>blk0 (λq=>Afd z q) (by omega) (by omega)
theorem w2:Row 2:=λz=>blk0 (λq=>AfR z q) (by omega) (by omega)
theorem w3:Row 3:=λz=>blk0 (λq=>Af8 z q) (by omega) (by omega)
theorem w4:Row 4:=λz=>blk0 (λq=>AfK z q) (by omega) (by omega)
theorem w5:Row 5:=λz=>blk0 (λq=>AfE z q) (by omega) (by omega)
theorem w6:Row 6:=λz=>blk0 (λq=>AgN z q) (by omega) (by omega)
theorem w7:Row 7:=λz=>blk0 (λq=>AfC z q) (by omega) (by omega)
theorem w8:Row 8:=λz=>blk0 (λq=>Afs z q) (by omega) (by omega)
theorem w9:Row 9:=λz=>blk0 (λq=>AfS z q) (by omega) (by omega)
theorem w10:Row 10:=λz=>blk0 (λq=>Aaq z q) (by omega) (by omega)
theorem w11:Row 11:=λz=>blk0 (λq=>Aag z q) (by omega) (by omega)
theorem w12:Row 12:=λz=>by
 obtain⟨h1,h2,h3⟩:=blk0 (λq=>Ade z q) (by omega) (by omega)
 refine⟨h1,h2,λa ha=>?_⟩
 rcases Nat.lt_or_ge a 11 with g|g
 ·exact h3 a g
 exact blk (Acx z 0) (by omega) (by omega) g (by omega)
theorem w13:Row 13:=λz=>by
 obtain⟨h1,h2,h3⟩:=blk0 (λq=>AcN z q) (by omega) (by omega)
 refine⟨h1,h2,λa ha=>?_⟩
 rcases Nat.lt_or_ge a 10 with g|g
 ·exact h3 a g
 exact blk (AcF z 0) (by omega) (by omega) g (by omega)
theorem w14:Row 14:=λz=>by
 obtain⟨h1,h2,h3⟩:=blk0 (λq=>Acj z q) (by omega) (by omega)
 refine⟨h1,h2,λa ha=>?_⟩
 rcases Nat.lt_or_ge a 9 with g|g
 ·exact h3 a g
 exact blk (Abm z 0) (by omega) (by omega) g (by omega)
theorem w15:Row 15:=λz=>by
 obtain⟨h1,h2,h3⟩:=blk0 (λq=>AcB z q) (by omega) (by omega)
 refine⟨h1,h2,λa ha=>?_⟩
 rcases Nat.lt_or_ge a 8 with g|g
 ·exact h3 a g
 exact blk (AbU z 0) (by omega) (by omega) g (by omega)
theorem w16:Row 16:=λz=>by
 obtain⟨h1,h2,h3⟩:=blk0 (λq=>Ac3 z q) (by omega) (by omega)
 refine⟨h1,h2,λa ha=>?_⟩
 rcases Nat.lt_or_ge a 8 with g|g
 ·exact h3 a g
 exact blk (Ab0 z 0) (by omega) (by omega) g (by omega)
theorem w17:Row 17:=λz=>by
 obtain⟨h1,h2,h3⟩:=blk0 (λq=>Abe z q) (by omega) (by omega)
 refine⟨h1,h2,λa ha=>?_⟩
 rcases Nat.lt_or_ge a 7 with g|g
 ·exact h3 a g
 rcases Nat.lt_or_ge a 16 with g2|g2
 ·exact blk (AdZ z 0) (by omega) (by omega) g g2
 clear g;rename _<=_=>g
 exact blk (Adb z 0) (by omega) (by omega) g (by omega)
theorem w18:Row 18:=λz=>by
 obtain⟨h1,h2,h3⟩:=blk0 (λq=>Ab1 z q) (by omega) (by omega)
 refine⟨h1,h2,λa ha=>?_⟩
 rcases Nat.lt_or_ge a 6 with g|g
 ·exact h3 a g
 rcases Nat.lt_or_ge a 14 with g2|g2
 ·exact blk (Aaw z 0) (by omega) (by omega) g g2
 clear g;rename _<=_=>g
 exact blk (Abl z 0) (by omega) (by omega) g (by omega)
theorem w19:Row 19:=λz=>by
 obtain⟨h1,h2,h3⟩:=blk0 (λq=>Ach z q) (by omega) (by omega)
 refine⟨h1,h2,λa ha=>?_⟩
 rcases Nat.lt_or_ge a 6 with g|g
 ·exact h3 a g
 rcases Nat.lt_or_ge a 14 with g2|g2
 ·exact blk (Abt z 0) (by omega) (by omega) g g2
 clear g;rename _<=_=>g
 exact blk (Acu z 0) (by omega) (by omega) g (by omega)
theorem w20:Row 20:=λz=>by
 obtain⟨h1,h2,h3⟩:=blk0 (λq=>Aba z q) (by omega) (by omega)
 refine⟨h1,h2,λa ha=>?_⟩
 rcases Nat.lt_or_ge a 6 with g|g
 ·exact h3 a g
 rcases Nat.lt_or_ge a 14 with g2|g2
 ·exact blk (AbZ z 0) (by omega) (by omega) g g2
 clear g;rename _<=_=>g
 exact blk (AdR z 0) (by omega) (by omega) g (by omega)
theorem w21:Row 21:=λz=>by
 obtain⟨h1,h2,h3⟩:=blk0 (λq=>AdO z q) (by omega) (by omega)
 refine⟨h1,h2,λa ha=>?_⟩
 rcases Nat.lt_or_ge a 5 with g|g
 ·exact h3 a g
 rcases Nat.lt_or_ge a 12 with g2|g2
 ·exact blk (AdH z 0) (by omega) (by omega) g g2
 clear g;rename _<=_=>g
 rcases Nat.lt_or_ge a 19 with g2|g2
 ·exact blk (AdF z 0) (by omega) (by omega) g g2
 clear g;rename _<=_=>g
 exact blk (AcM z 0) (by omega) (by omega) g (by omega)
theorem w22:Row 22:=λz=>by
 obtain⟨h1,h2,h3⟩:=blk0 (λq=>Aa3 z q) (by omega) (by omega)
 refine⟨h1,h2,λa ha=>?_⟩
 rcases Nat.lt_or_ge a 5 with g|g
 ·exact h3 a g
 rcases Nat.lt_or_ge a 12 with g2|g2
 ·exact blk (Acy z 0) (by omega) (by omega) g g2
 clear g;rename _<=_=>g
 rcases Nat.lt_or_ge a 19 with g2|g2
 ·exact blk (Aao z 0) (by omega) (by omega) g g2
 clear g;rename _<=_=>g
 exact blk (Adh z 0) (by omega) (by omega) g (by omega)
theorem w23:Row 23:=λz=>by
 obtain⟨h1,h2,h3⟩:=blk0 (λq=>Acl z q) (by omega) (by omega)
 refine⟨h1,h2,λa ha=>?_⟩
 rcases Nat.lt_or_ge a 4 with g|g
 ·exact h3 a g
 rcases Nat.lt_or_ge a 10 with g2|g2
 ·exact blk (AcK z 0) (by omega) (by omega) g g2
 clear g;rename _<=_=>g
 rcases Nat.lt_or_ge a 16 with g2|g2
 ·exact blk (Adm z 0) (by omega) (by omega) g g2
 clear g;rename _<=_=>g
 rcases Nat.lt_or_ge a 22 with g2|g2
 ·exact blk (AbN z 0) (by omega) (by omega) g g2
 clear g;rename _<=_=>g
 exact blk (Ad2 z 0) (by omega) (by omega) g (by omega)
theorem w24:Row 24:=λz=>by
 obtain⟨h1,h2,h3⟩:=blk0 (λq=>AcW z q) (by omega) (by omega)
 refine⟨h1,h2,λa ha=>?_⟩
 rcases Nat.lt_or_ge a 4 with g|g
 ·exact h3 a g
 rcases Nat.lt_or_ge a 10 with g2|g2
 ·exact blk (Aav z 0) (by omega) (by omega) g g2
 clear g;rename _<=_=>g
 rcases Nat.lt_or_ge a 16 with g2|g2
 ·exact blk (AbM z 0) (by omega) (by omega) g g2
 clear g;rename _<=_=>g
 rcases Nat.lt_or_ge a 22 with g2|g2
 ·exact blk (AcD z 0) (by omega) (by omega) g g2
 clear g;rename _<=_=>g
 exact blk (AcC z 0) (by omega) (by omega) g (by omega)
theorem w25:Row 25:=λz=>by
 obtain⟨h1,h2,h3⟩:=blk0 (λq=>AdP z q) (by omega) (by omega)
 refine⟨h1,h2,λa ha=>?_⟩
 rcases Nat.lt_or_ge a 4 with g|g
 ·exact h3 a g
 rcases Nat.lt_or_ge a 10 with g2|g2
 ·exact blk (Acw z 0) (by omega) (by omega) g g2
 clear g;rename _<=_=>g
 rcases Nat.lt_or_ge a 16 with g2|g2
 ·exact blk (Aas z 0) (by omega) (by omega) g g2
 clear g;rename _<=_=>g
 rcases Nat.lt_or_ge a 22 with g2|g2
 ·exact blk (Abh z 0) (by omega) (by omega) g g2
 clear g;rename _<=_=>g
 exact blk (Adq z 0) (by omega) (by omega) g (by omega)
theorem w26:Row 26:=λz=>by
 obtain⟨h1,h2,h3⟩:=blk0 (λq=>AbF z q) (by omega) (by omega)
 refine⟨h1,h2,λa ha=>?_⟩
 rcases Nat.lt_or_ge a 4 with g|g
 ·exact h3 a g
 rcases Nat.lt_or_ge a 10 with g2|g2
 ·exact blk (AcY z 0) (by omega) (by omega) g g2
 clear g;rename _<=_=>g
 rcases Nat.lt_or_ge a 16 with g2|g2
 ·exact blk (Abi z 0) (by omega) (by omega) g g2
 clear g;rename _<=_=>g
 rcases Nat.lt_or_ge a 22 with g2|g2
 ·exact blk (Aby z 0) (by omega) (by omega) g g2
 clear g;rename _<=_=>g
 exact blk (Adn z 0) (by omega) (by omega) g (by omega)
theorem w27:Row 27:=λz=>by
 obtain⟨h1,h2,h3⟩:=blk0 (λq=>AbX z q) (by omega) (by omega)
 refine⟨h1,h2,λa ha=>?_⟩
 rcases Nat.lt_or_ge a 3 with g|g
 ·exact h3 a g
 rcases Nat.lt_or_ge a 8 with g2|g2
 ·exact blk (AdY z 0) (by omega) (by omega) g g2
 clear g;rename _<=_=>g
 rcases Nat.lt_or_ge a 13 with g2|g2
 ·exact blk (Abk z 0) (by omega) (by omega) g g2
 clear g;rename _<=_=>g
 rcases Nat.lt_or_ge a 18 with g2|g2
 ·exact blk (Ac2 z 0) (by omega) (by omega) g g2
 clear g;rename _<=_=>g
 rcases Nat.lt_or_ge a 23 with g2|g2
 ·exact blk (AbR z 0) (by omega) (by omega) g g2
 clear g;rename _<=_=>g
 exact blk (AbG z 0) (by omega) (by omega) g (by omega)
theorem w28:Row 28:=λz=>by
 obtain⟨h1,h2,h3⟩:=blk0 (λq=>AbS z q) (by omega) (by omega)
 refine⟨h1,h2,λa ha=>?_⟩
 rcases Nat.lt_or_ge a 3 with g|g
 ·exact h3 a g
 rcases Nat.lt_or_ge a 8 with g2|g2
 ·exact blk (Acg z 0) (by omega) (by omega) g g2
 clear g;rename _<=_=>g
 rcases Nat.lt_or_ge a 13 with g2|g2
 ·exact blk (AdC z 0) (by omega) (by omega) g g2
 clear g;rename _<=_=>g
 rcases Nat.lt_or_ge a 18 with g2|g2
 ·exact blk (Abs z 0) (by omega) (by omega) g g2
 clear g;rename _<=_=>g
 rcases Nat.lt_or_ge a 23 with g2|g2
 ·exact blk (Acd z 0) (by omega) (by omega) g g2
 clear g;rename _<=_=>g
 exact blk (Ab2 z 0) (by omega) (by omega) g (by omega)
theorem w29:Row 29:=λz=>by
 obtain⟨h1,h2,h3⟩:=blk0 (λq=>AdD z q) (by omega) (by omega)
 refine⟨h1,h2,λa ha=>?_⟩
 rcases Nat.lt_or_ge a 3 with g|g
 ·exact h3 a g
 rcases Nat.lt_or_ge a 8 with g2|g2
 ·exact blk (Ac6 z 0) (by omega) (by omega) g g2
 clear g;rename _<=_=>g
 rcases Nat.lt_or_ge a 13 with g2|g2
 ·exact blk (Ac1 z 0) (by omega) (by omega) g g2
 clear g;rename _<=_=>g
 rcases Nat.lt_or_ge a 18 with g2|g2
 ·exact blk (Adw z 0) (by omega) (by omega) g g2
 clear g;rename _<=_=>g
 rcases Nat.lt_or_ge a 23 with g2|g2
 ·exact blk (AcQ z 0) (by omega) (by omega) g g2
 clear g;rename _<=_=>g
 rcases Nat.lt_or_ge a 28 with g2|g2
 ·exact blk (AcX z 0) (by omega) (by omega) g g2
 clear g;rename _<=_=>g
 exact blk (Aa7 z 0) (by omega) (by omega) g (by omega)
theorem w30:Row 30:=λz=>by
 obtain⟨h1,h2,h3⟩:=blk0 (λq=>AcO z q) (by omega) (by omega)
 refine⟨h1,h2,λa ha=>?_⟩
 rcases Nat.lt_or_ge a 3 with g|g
 ·exact h3 a g
 rcases Nat.lt_or_ge a 8 with g2|g2
 ·exact blk (Acf z 0) (by omega) (by omega) g g2
 clear g;rename _<=_=>g
 rcases Nat.lt_or_ge a 13 with g2|g2
 ·exact blk (AbT z 0) (by omega) (by omega) g g2
 clear g;rename _<=_=>g
 rcases Nat.lt_or_ge a 18 with g2|g2
 ·exact blk (AcP z 0) (by omega) (by omega) g g2
 clear g;rename _<=_=>g
 rcases Nat.lt_or_ge a 23 with g2|g2
 ·exact blk (AcL z 0) (by omega) (by omega) g g2
 clear g;rename _<=_=>g
 rcases Nat.lt_or_ge a 28 with g2|g2
 ·exact blk (AbI z 0) (by omega) (by omega) g g2
 clear g;rename _<=_=>g
 exact blk (Acr z 0) (by omega) (by omega) g (by omega)
theorem w31:Row 31:=λz=>by
 obtain⟨h1,h2,h3⟩:=blk0 (λq=>AbJ z q) (by omega) (by omega)
 refine⟨h1,h2,λa ha=>?_⟩
 rcases Nat.lt_or_ge a 3 with g|g
 ·exact h3 a g
 rcases Nat.lt_or_ge a 8 with g2|g2
 ·exact blk (AcT z 0) (by omega) (by omega) g g2
 clear g;rename _<=_=>g
 rcases Nat.lt_or_ge a 13 with g2|g2
 ·exact blk (AbC z 0) (by omega) (by omega) g g2
 clear g;rename _<=_=>g
 rcases Nat.lt_or_ge a 18 with g2|g2
 ·exact blk (Aal z 0) (by omega) (by omega) g g2
 clear g;rename _<=_=>g
 rcases Nat.lt_or_ge a 23 with g2|g2
 ·exact blk (Aa1 z 0) (by omega) (by omega) g g2
 clear g;rename _<=_=>g
 rcases Nat.lt_or_ge a 28 with g2|g2
 ·exact blk (Abj z 0) (by omega) (by omega) g g2
 clear g;rename _<=_=>g
 exact blk (Acb z 0) (by omega) (by omega) g (by omega)
attribute [local irreducible] Row
theorem row:∀n,n<32->Row n
 |0,_=>w0
 |1,_=>w1
 |2,_=>w2
 |3,_=>w3
 |4,_=>w4
 |5,_=>w5
 |6,_=>w6
 |7,_=>w7
 |8,_=>w8
 |9,_=>w9
 |10,_=>w10
 |11,_=>w11
 |12,_=>w12
 |13,_=>w13
 |14,_=>w14
 |15,_=>w15
 |16,_=>w16
 |17,_=>w17
 |18,_=>w18
 |19,_=>w19
 |20,_=>w20
 |21,_=>w21
 |22,_=>w22
 |23,_=>w23
 |24,_=>w24
 |25,_=>w25
 |26,_=>w26
 |27,_=>w27
 |28,_=>w28
 |29,_=>w29
 |30,_=>w30
 |31,_=>w31
 |n+32,h=>absurd h (by omega)
theorem kQ(x1:Nat){u:Int}(h:u=(x1:Int)-16)(hx:x1<64):Sub x1 u:=by
 show some (V.int .i64 (KN .i64 (kP (.ofNat x1) (Int.neg (.ofNat 16)))) 0)=_
 rw[G6,Z5,h]
 congr 2
 show IntKind.wrap .i64 ((x1:Int)+ -16)=_
 rw[sW (by omega) (by omega)];omega
theorem AY4(z:Int){n x1:Nat}(hn:n<32)(hx:x1<64):∃u,Sub x1 u/\Ok z n u:=by
 have h:=row n hn
 unfold Row at h
 obtain⟨h1,h2,h3⟩:=h z
 rcases Nat.lt_or_ge x1 16 with g|g
 ·exact⟨.negSucc (15-x1),kQ x1 (by rw[Int.negSucc_eq];omega) hx,h1 _⟩
 rcases Nat.lt_or_ge (x1-16) n with g2|g2
 ·exact⟨.ofNat (x1-16),kQ x1 (by show((x1-16:Nat):Int)=_;omega) hx,h3 _ g2⟩
 ·exact⟨.ofNat (Nat.add (x1-16-n) n),kQ x1 (by show(((x1-16-n)+n:Nat):Int)=_;omega) hx,h2 _⟩
theorem runs(z0 z1 z2:Int):Runs F G0 3 [.int .i64 z0 0,.int .i64 z1 0,.int .i64 z2 0] .e 0 λv _ _=>v=.bool true:=by
 obtain⟨u,hs,ho⟩:=AY4 z2 (n:=MB z0 31) (x1:=MB z1 63) (Nat.lt_succ_of_le (Lm z0 (by decide)).2) (Nat.lt_succ_of_le (Lm z1 (by decide)).2)
 refine Eb (k:=OX) (λ_ _ _ hv=>GZ hv) (EY AWb (AbW (aI 3000) z0 z1 z2 (MB z0 31) (MB z1 63) u rfl rfl (Bc.refl _) (Eo AT9 3000) (D8 F G0) ?_))
 rw[split]
 unfold Ok po at ho
 exact AFy (Bc.refl _) (D8 F G0) (λ_=>hs) (λv H m h=>h) ho
end Go.R5.VD
namespace Go.Proofs.YtbcanmhagkiccaaGreatDoor
open Go Go.Eng Go.ChangeShapes Go.WideShapes Go.RowKit
set_option maxRecDepth 100000
theorem Oa(os:Os)(started:os.Started)(H:Type)(enc:TypeId×Value->H):
 ReturnsInHanded {} Tryz.checked os 3 .any (λw args=>(Rows.vmArraysSpec.pre enc Tryz.prog Tryz.f3 [] false w args/\laidMetH Tryz.prog AGQ w)/\sizedMet enc Tryz.prog Tryz.f3 (OpenSpec.ofChange Rows.vmArraysSpec) false w args)
  (Rows.vmArraysSpec.post enc Tryz.prog Tryz.f3 false true false false):=by
 refine law_lifted (C:=Tryz.checked) (F:=Go.R5.F) Go.R5.AX0 started (tb:=4) Afv (by kernel_rfl) Tryz.func3 rfl ?_ (by kernel_rfl) Tryz.underlying4 laidOut ?_
  (World.doorLaid Tryz.prog 400 os) #[.int .i64 0,.int .i64 0,.int .i64 0] 8 rfl (by kernel_rfl) (by kernel_rfl) (by kernel_rfl) (by kernel_rfl) (by kernel_rfl) (door_met os _) ?_
 ·intro ds hl
  match ds,hl with
  |[d0,d1,d2],_=>rfl
 ·intro t ht
  rw[Tryz.params3]at ht
  simp at ht
  rcases ht with rfl|rfl<;>exact⟨by kernel_rfl,of_decide_eq_true (by kernel_rfl)⟩
 ·intro W args ds ps hval hA hL
  rw[Tryz.params3]at hA hval
  obtain⟨v0,v1,v2,d0,d1,d2,p,q,r,rfl,rfl,rfl,h0,h1,h2⟩:=trodAll_three hA
  obtain⟨b0,k0⟩:=hval 0 3 v0 rfl rfl
  obtain⟨b1,k1⟩:=hval 1 3 v1 rfl rfl
  obtain⟨b2,k2⟩:=hval 2 2 v2 rfl rfl
  obtain⟨a0,rfl,rfl,rfl,w0⟩:=open_int Tryz.underlying3 k0 h0
  obtain⟨a1,rfl,rfl,rfl,w1⟩:=open_int Tryz.underlying3 k1 h1
  obtain⟨a2,rfl,rfl,rfl,w2⟩:=open_int Tryz.underlying2 k2 h2
  exact⟨Go.R5.G0,[.int .i64 a0 0,.int .i64 a1 0,.int .i64 a2 0],of_laid hL,.cons rfl (.cons rfl (.cons rfl .nil)),Go.R5.VD.runs a0 a1 a2⟩
theorem SL:Rows.VmArraysSaid:=
 OpenClaim.holds_of_wide 3 Tryz.f3 rfl rfl rfl rfl rfl rfl rfl ⟨rfl,rfl,rfl,rfl,rfl⟩ rfl rfl rfl rfl rfl (by kernel_rfl) Tryz.func3 (by kernel_rfl)
  (of_decide_eq_true (by kernel_rfl)) (by unfold Func.isWrapper;rw[if_neg (of_decide_eq_false (by kernel_rfl))];exact⟨rfl,rfl⟩)
  (λos started H enc _=>Oa os started H enc)
theorem vmArrays_card:Rows.VmArraysCardSaid:=
 Claim7.holds_tied_plain_at .later [] [.data,.data] true (true, "faa67dfe6eac30979732dff4c5815e95a100e6289b5d55981712a5ea36fcfa04") false
  SL (λ_ h=>by cases h) (by kernel_rfl) (λ_ h=>by cases h) vmArrays_row_tie rfl ⟨rfl,rfl⟩ (by kernel_rfl) rfl
  (λf fn hf hfn=>by
   obtain rfl:f=3:=Option.some.inj ((show Tryz.prog.funcNamed "kiln/kilnlaw16.VmArrays" =some 3 by kernel_rfl).symm.trans hf) |>.symm
   obtain rfl:fn=Tryz.f3:=(Option.some.inj (Tryz.func3.symm.trans hfn)).symm
   exact⟨by kernel_rfl,λj t ht=>by
    rw[Tryz.params3]at ht
    have hm:=Array.mem_of_getElem? ht
    exact AIR (by simp at hm;rcases hm with h|h<;>simp[h])⟩)
  (by kernel_rfl)
#print axioms vmArrays_card
end Go.Proofs.YtbcanmhagkiccaaGreatDoor
