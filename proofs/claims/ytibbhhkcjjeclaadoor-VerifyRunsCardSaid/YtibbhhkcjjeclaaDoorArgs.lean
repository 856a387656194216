/- Part of a proof; nothing is assumed. -/
import Derived.Test.YtibbhhkcjjeclaaDoorConB
import Derived.Test.YtibbhhkcjjeclaaDoorWalk
set_option linter.unusedVariables false
set_option linter.unusedSimpArgs false
namespace Go.RL
open Go.Bh
set_option maxRecDepth 100000
theorem pick{α:Type}{Q:α->LV->Prop}:∀{LS:ER},(∀L∈LS,∃x,Q x L)->∃xs:List α,xs.length=LS.length/\∀(i:Nat) (x:α) (L:LV),xs[i]? =some x->LS[i]? =some L->Q x L
 |[],_=>⟨[],rfl,λi x L h=>by simp at h⟩
 |L::LS,h=>by
  obtain⟨x,hx⟩:=h L (List.mem_cons_self ..)
  obtain⟨xs,hl,hq⟩:=pick (LS:=LS) λL hL=>h L (List.mem_cons_of_mem _ hL)
  refine⟨x::xs,by simp[hl],λi y M h1 h2=>?_⟩
  cases i with
  |zero=>simp at h1 h2;subst h1;subst h2;exact hx
  |succ i=>simp at h1 h2;exact hq i y M h1 h2
theorem AK3{α:Type}{g:α->LV}{R:α->Prop}{LS:ER}(h:∀L∈LS,∃x,L=g x/\R x):∃xs:List α,LS=xs.map g/\∀x∈xs,R x:=by
 obtain⟨xs,hl,hq⟩:=pick (Q:=λx L=>L=g x/\R x) h
 refine⟨xs,?_,λx hx=>?_⟩
 ·apply List.ext_getElem (by simp[hl])
  intro i h1 h2
  rw[List.getElem_map]
  exact(hq i _ _ (List.getElem?_eq_getElem (by simp at h2;exact h2)) (List.getElem?_eq_getElem h1)).1
 ·obtain⟨i,hi⟩:=List.mem_iff_getElem?.1 hx
  have hlt:=(List.getElem?_eq_some_iff.1 hi).1
  exact(hq i _ _ hi (List.getElem?_eq_getElem (by omega))).2
theorem _root_.Go.Bh.RSl.lo{v:V}{m n:Nat}(h:RSl v m):Lo v n:=by
 rcases h with⟨rfl,_⟩|⟨b,o,c,rfl,_,_⟩<;>intro id hid<;>cases hid
section
variable{G:AX}
end
end Go.RL
