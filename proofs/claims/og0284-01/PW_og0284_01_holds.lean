import PyProof.Rows.All
import Wide.All
import OpenK.AllK
import Wide.FinOn
import PyProof.AttrMissHeap
import PyProof.WalksS
import PyProof.Rows.SetFrom
import Lean
import PySem.Challenge.RW_og0284_01
set_option Elab.async false
set_option maxRecDepth 100000
set_option linter.all false
set_option maxHeartbeats 2000000
set_option tactic.hygienic false
section
namespace Mine
section
set_option tactic.hygienic true
universe u v
section
variable{α:Type u}{β:Type v}{P:Prop}
theorem aF{m:Option α}{f:α->β}{b:β}(h:m.map f=some b)(k:∀a,m=some a->f a=b->P):P:=by
 cases m with
 | none=>nomatch h
 | some a=>exact k a rfl (Option.some.inj h)
theorem lp{m:Option α}{f:α->Option β}{b:β}(h:m.bind f=some b)(k:∀a,m=some a->f a=some b->P):P:=by
 cases m with
 | none=>nomatch h
 | some a=>exact k a rfl h
theorem cE{l:List α}{f:α->β}{b:β}(h:b∈l.map f)(k:∀a,a∈l->f a=b->P):P:=by
 obtain⟨a,h1,h2⟩:=List.mem_map.mp h;exact k a h1 h2
theorem lW{o:Option α}(h:o.isSome=true)(k:∀a,o=some a->P):P:=by
 cases o with
 | none=>nomatch h
 | some a=>exact k a rfl
theorem mC{a b:α}{l:List α}(h:a∈b::l):a=b\/a∈l:=List.mem_cons.mp h
theorem mS{a b:α}(h:a∈[b]):a=b:=List.mem_singleton.mp h
theorem mA{l:List α}{p:α->Bool}(h:l.all p=true):∀x,x∈l->p x=true:=List.all_eq_true.mp h
theorem iE{l:List α}(h:l.isEmpty=true):l=[]:=List.isEmpty_iff.mp h
theorem mR{m n:Nat}(h:m<n):m∈List.range n:=List.mem_range.mpr h
end
end
section
set_option tactic.hygienic true
universe u
@[elab_as_elim] theorem ac {α:Sort u} {a b:α} {motive:α->Prop} (h:a=b) (x:motive b):motive a:=h▸x
@[elab_as_elim] theorem bP {α:Sort u} {a b:α} {motive:α->Prop} (h:a=b) (x:motive a):motive b:=h▸x
end
theorem bW  {r:Qn->Qx->Prop} {P:Prop} (h:∃x0 x1,r x0 x1) (k:∀x0 x1,r x0 x1->P):P:=by
 obtain⟨x0,x1,hr⟩:=h;exact k x0 x1 hr
theorem ag{a0 r:Qn->Prop}{P:Prop}(h:∃x0,a0 x0/\r x0)(k:∀x0,a0 x0->r x0->P):P:=by
 obtain⟨x0,h0,hr⟩:=h;exact k x0 h0 hr
theorem cg  {a0 a1 r P:Prop} (h:a0/\a1/\r) (k:a0->a1->r->P):P:=by
 obtain⟨h0,h1,hr⟩:=h;exact k h0 h1 hr
theorem aZ{a0 r:Qn->Qx->Prop}{P:Prop}(h:∃x0 x1,a0 x0 x1/\r x0 x1)(k:∀x0 x1,a0 x0 x1->r x0 x1->P):P:=by
 obtain⟨x0,x1,h0,hr⟩:=h;exact k x0 x1 h0 hr
theorem cC{a0 a1 r:Qn->Prop}{P:Prop}(h:∃x0,a0 x0/\a1 x0/\r x0)(k:∀x0,a0 x0->a1 x0->r x0->P):P:=by
 obtain⟨x0,h0,h1,hr⟩:=h;exact k x0 h0 h1 hr
theorem nA{a0:Prop}{a1 r:Qn->Prop}{P:Prop}(h:a0/\(∃x0,a1 x0/\r x0))(k:a0->∀x0,a1 x0->r x0->P):P:=by
 obtain⟨h0,x0,h1,hr⟩:=h;exact k h0 x0 h1 hr
theorem ao{a0 a1 r:Qn->Qx->Prop}{P:Prop}(h:∃x0 x1,a0 x0 x1/\a1 x0 x1/\r x0 x1)(k:∀x0 x1,a0 x0 x1->a1 x0 x1->r x0 x1->P):P:=by
 obtain⟨x0,x1,h0,h1,hr⟩:=h;exact k x0 x1 h0 h1 hr
theorem bw{a0 r:Qn->Qx->QI->Prop}{P:Prop}(h:∃x0 x1 x2,a0 x0 x1 x2/\r x0 x1 x2)(k:∀x0 x1 x2,a0 x0 x1 x2->r x0 x1 x2->P):P:=by
 obtain⟨x0,x1,x2,h0,hr⟩:=h;exact k x0 x1 x2 h0 hr
theorem cM{a0 a1 a2 r:Qn->Prop}{P:Prop}(h:∃x0,a0 x0/\a1 x0/\a2 x0/\r x0)(k:∀x0,a0 x0->a1 x0->a2 x0->r x0->P):P:=by
 obtain⟨x0,h0,h1,h2,hr⟩:=h;exact k x0 h0 h1 h2 hr
theorem aP{a0 a1 r:Qn->Qx->QI->Prop}{P:Prop}(h:∃x0 x1 x2,a0 x0 x1 x2/\a1 x0 x1 x2/\r x0 x1 x2)(k:∀x0 x1 x2,a0 x0 x1 x2->a1 x0 x1 x2->r x0 x1 x2->P):P:=by
 obtain⟨x0,x1,x2,h0,h1,hr⟩:=h;exact k x0 x1 x2 h0 h1 hr
theorem bV{a0 a1 a2 r:Qn->Qx->Prop}{P:Prop}(h:∃x0 x1,a0 x0 x1/\a1 x0 x1/\a2 x0 x1/\r x0 x1)(k:∀x0 x1,a0 x0 x1->a1 x0 x1->a2 x0 x1->r x0 x1->P):P:=by
 obtain⟨x0,x1,h0,h1,h2,hr⟩:=h;exact k x0 x1 h0 h1 h2 hr
theorem cJ{a0 a1 a2 r:Qn->Qx->QI->Prop}{P:Prop}(h:∃x0 x1 x2,a0 x0 x1 x2/\a1 x0 x1 x2/\a2 x0 x1 x2/\r x0 x1 x2)(k:∀x0 x1 x2,a0 x0 x1 x2->a1 x0 x1 x2->a2 x0 x1 x2->r x0 x1 x2->P):P:=by
 obtain⟨x0,x1,x2,h0,h1,h2,hr⟩:=h;exact k x0 x1 x2 h0 h1 h2 hr
theorem aq{p:Qn->Qx->Prop}(x0:Qn)(x1:Qx)(h:p x0 x1):∃y0 y1,p y0 y1:=⟨x0,x1,h⟩
theorem aI{p:Qn->Qx->QI->Prop}(x0:Qn)(x1:Qx)(x2:QI)(h:p x0 x1 x2):∃y0 y1 y2,p y0 y1 y2:=⟨x0,x1,x2,h⟩
theorem cK{p:Qn->Qx->QI->QU->Prop}(x0:Qn)(x1:Qx)(x2:QI)(x3:QU)(h:p x0 x1 x2 x3):∃y0 y1 y2 y3,p y0 y1 y2 y3:=⟨x0,x1,x2,x3,h⟩
theorem bM{p:Qn->Qx->QI->QU->Ra->Prop}(x0:Qn)(x1:Qx)(x2:QI)(x3:QU)(x4:Ra)(h:p x0 x1 x2 x3 x4):∃y0 y1 y2 y3 y4,p y0 y1 y2 y3 y4:=⟨x0,x1,x2,x3,x4,h⟩
theorem dQ{p:Qn->Qx->QI->QU->Ra->Rz->Prop}(x0:Qn)(x1:Qx)(x2:QI)(x3:QU)(x4:Ra)(x5:Rz)(h:p x0 x1 x2 x3 x4 x5):∃y0 y1 y2 y3 y4 y5,p y0 y1 y2 y3 y4 y5:=⟨x0,x1,x2,x3,x4,x5,h⟩
theorem qR{p:Qn->Qx->QI->QU->Ra->Rz->Sq->Prop}(x0:Qn)(x1:Qx)(x2:QI)(x3:QU)(x4:Ra)(x5:Rz)(x6:Sq)(h:p x0 x1 x2 x3 x4 x5 x6):∃y0 y1 y2 y3 y4 y5 y6,p y0 y1 y2 y3 y4 y5 y6:=⟨x0,x1,x2,x3,x4,x5,x6,h⟩
theorem aD  {a0 r P:Prop} (h:a0/\r) (k:a0->r->P):P:=by
 obtain⟨h0,hr⟩:=h;exact k h0 hr
theorem aA  {r:Qn->Prop} {P:Prop} (h:∃x0,r x0) (k:∀x0,r x0->P):P:=by
 obtain⟨x0,hr⟩:=h;exact k x0 hr
theorem DS  {a0 a1 a2 r P:Prop} (h:a0/\a1/\a2/\r) (k:a0->a1->a2->r->P):P:=by
 obtain⟨h0,h1,h2,hr⟩:=h;exact k h0 h1 h2 hr
theorem rc  {r:Qn->Qx->QI->Prop} {P:Prop} (h:∃x0 x1 x2,r x0 x1 x2) (k:∀x0 x1 x2,r x0 x1 x2->P):P:=by
 obtain⟨x0,x1,x2,hr⟩:=h;exact k x0 x1 x2 hr
theorem Am{a0:Prop}{r:Qn->Qx->QI->Prop}{P:Prop}(h:a0/\(∃x0 x1 x2,r x0 x1 x2))(k:a0->∀x0 x1 x2,r x0 x1 x2->P):P:=by
 obtain⟨h0,x0,x1,x2,hr⟩:=h;exact k h0 x0 x1 x2 hr
theorem fB{a0:Qn->Prop}{a1 r:Qn->Qx->Prop}{P:Prop}(h:∃x0,a0 x0/\(∃x1,a1 x0 x1/\r x0 x1))(k:∀x0,a0 x0->∀x1,a1 x0 x1->r x0 x1->P):P:=by
 obtain⟨x0,h0,x1,h1,hr⟩:=h;exact k x0 h0 x1 h1 hr
theorem An{a0:Prop}{a1 r:Qn->Qx->Prop}{P:Prop}(h:a0/\(∃x0 x1,a1 x0 x1/\r x0 x1))(k:a0->∀x0 x1,a1 x0 x1->r x0 x1->P):P:=by
 obtain⟨h0,x0,x1,h1,hr⟩:=h;exact k h0 x0 x1 h1 hr
theorem Ak{a0 a1:Qn->Prop}{r:Qn->Qx->Prop}{P:Prop}(h:∃x0,a0 x0/\a1 x0/\(∃x1,r x0 x1))(k:∀x0,a0 x0->a1 x0->∀x1,r x0 x1->P):P:=by
 obtain⟨x0,h0,h1,x1,hr⟩:=h;exact k x0 h0 h1 x1 hr
theorem jl  {a0 a1 a2 a3 r P:Prop} (h:a0/\a1/\a2/\a3/\r) (k:a0->a1->a2->a3->r->P):P:=by
 obtain⟨h0,h1,h2,h3,hr⟩:=h;exact k h0 h1 h2 h3 hr
theorem eZ{a0 a1:Qn->Prop}{a2 r:Qn->Qx->Prop}{P:Prop}(h:∃x0,a0 x0/\a1 x0/\(∃x1,a2 x0 x1/\r x0 x1))(k:∀x0,a0 x0->a1 x0->∀x1,a2 x0 x1->r x0 x1->P):P:=by
 obtain⟨x0,h0,h1,x1,h2,hr⟩:=h;exact k x0 h0 h1 x1 h2 hr
theorem w7{a0:Qn->Prop}{a1 a2 r:Qn->Qx->Prop}{P:Prop}(h:∃x0,a0 x0/\(∃x1,a1 x0 x1/\a2 x0 x1/\r x0 x1))(k:∀x0,a0 x0->∀x1,a1 x0 x1->a2 x0 x1->r x0 x1->P):P:=by
 obtain⟨x0,h0,x1,h1,h2,hr⟩:=h;exact k x0 h0 x1 h1 h2 hr
theorem pk{a0:Prop}{a1 a2 r:Qn->Qx->Prop}{P:Prop}(h:a0/\(∃x0 x1,a1 x0 x1/\a2 x0 x1/\r x0 x1))(k:a0->∀x0 x1,a1 x0 x1->a2 x0 x1->r x0 x1->P):P:=by
 obtain⟨h0,x0,x1,h1,h2,hr⟩:=h;exact k h0 x0 x1 h1 h2 hr
theorem w8  {a0 a1 a2 a3 a4 r P:Prop} (h:a0/\a1/\a2/\a3/\a4/\r) (k:a0->a1->a2->a3->a4->r->P):P:=by
 obtain⟨h0,h1,h2,h3,h4,hr⟩:=h;exact k h0 h1 h2 h3 h4 hr
theorem w6{a0 r:Qn->Qx->QI->QU->Prop}{P:Prop}(h:∃x0 x1 x2 x3,a0 x0 x1 x2 x3/\r x0 x1 x2 x3)(k:∀x0 x1 x2 x3,a0 x0 x1 x2 x3->r x0 x1 x2 x3->P):P:=by
 obtain⟨x0,x1,x2,x3,h0,hr⟩:=h;exact k x0 x1 x2 x3 h0 hr
theorem fA{a0 a1 r:Qn->Qx->QI->QU->Prop}{P:Prop}(h:∃x0 x1 x2 x3,a0 x0 x1 x2 x3/\a1 x0 x1 x2 x3/\r x0 x1 x2 x3)(k:∀x0 x1 x2 x3,a0 x0 x1 x2 x3->a1 x0 x1 x2 x3->r x0 x1 x2 x3->P):P:=by
 obtain⟨x0,x1,x2,x3,h0,h1,hr⟩:=h;exact k x0 x1 x2 x3 h0 h1 hr
theorem uf{a0 a1 a2 a3 r:Qn->Qx->Prop}{P:Prop}(h:∃x0 x1,a0 x0 x1/\a1 x0 x1/\a2 x0 x1/\a3 x0 x1/\r x0 x1)(k:∀x0 x1,a0 x0 x1->a1 x0 x1->a2 x0 x1->a3 x0 x1->r x0 x1->P):P:=by
 obtain⟨x0,x1,h0,h1,h2,h3,hr⟩:=h;exact k x0 x1 h0 h1 h2 h3 hr
theorem ug{a0:Prop}{a1 a2 a3 r:Qn->Qx->Prop}{P:Prop}(h:a0/\(∃x0 x1,a1 x0 x1/\a2 x0 x1/\a3 x0 x1/\r x0 x1))(k:a0->∀x0 x1,a1 x0 x1->a2 x0 x1->a3 x0 x1->r x0 x1->P):P:=by
 obtain⟨h0,x0,x1,h1,h2,h3,hr⟩:=h;exact k h0 x0 x1 h1 h2 h3 hr
theorem dT{a0 r:Qn->Qx->QI->QU->Ra->Prop}{P:Prop}(h:∃x0 x1 x2 x3 x4,a0 x0 x1 x2 x3 x4/\r x0 x1 x2 x3 x4)(k:∀x0 x1 x2 x3 x4,a0 x0 x1 x2 x3 x4->r x0 x1 x2 x3 x4->P):P:=by
 obtain⟨x0,x1,x2,x3,x4,h0,hr⟩:=h;exact k x0 x1 x2 x3 x4 h0 hr
theorem l9{a0:Qn->Prop}{a1 a2 r:Qn->Qx->QI->Prop}{P:Prop}(h:∃x0,a0 x0/\(∃x1 x2,a1 x0 x1 x2/\a2 x0 x1 x2/\r x0 x1 x2))(k:∀x0,a0 x0->∀x1 x2,a1 x0 x1 x2->a2 x0 x1 x2->r x0 x1 x2->P):P:=by
 obtain⟨x0,h0,x1,x2,h1,h2,hr⟩:=h;exact k x0 h0 x1 x2 h1 h2 hr
theorem dj{a0 a1 a2 r:Qn->Qx->QI->QU->Prop}{P:Prop}(h:∃x0 x1 x2 x3,a0 x0 x1 x2 x3/\a1 x0 x1 x2 x3/\a2 x0 x1 x2 x3/\r x0 x1 x2 x3)(k:∀x0 x1 x2 x3,a0 x0 x1 x2 x3->a1 x0 x1 x2 x3->a2 x0 x1 x2 x3->r x0 x1 x2 x3->P):P:=by
 obtain⟨x0,x1,x2,x3,h0,h1,h2,hr⟩:=h;exact k x0 x1 x2 x3 h0 h1 h2 hr
theorem re{a0 a1:Qn->Prop}{a2 r:Qn->Qx->QI->QU->Prop}{P:Prop}(h:∃x0,a0 x0/\a1 x0/\(∃x1 x2 x3,a2 x0 x1 x2 x3/\r x0 x1 x2 x3))(k:∀x0,a0 x0->a1 x0->∀x1 x2 x3,a2 x0 x1 x2 x3->r x0 x1 x2 x3->P):P:=by
 obtain⟨x0,h0,h1,x1,x2,x3,h2,hr⟩:=h;exact k x0 h0 h1 x1 x2 x3 h2 hr
theorem rf{a0:Prop}{a1 r:Qn->Qx->QI->QU->Ra->Prop}{P:Prop}(h:a0/\(∃x0 x1 x2 x3 x4,a1 x0 x1 x2 x3 x4/\r x0 x1 x2 x3 x4))(k:a0->∀x0 x1 x2 x3 x4,a1 x0 x1 x2 x3 x4->r x0 x1 x2 x3 x4->P):P:=by
 obtain⟨h0,x0,x1,x2,x3,x4,h1,hr⟩:=h;exact k h0 x0 x1 x2 x3 x4 h1 hr
theorem j5{a0:Prop}{a1 a2 a3 r:Qn->Qx->QI->Prop}{P:Prop}(h:a0/\(∃x0 x1 x2,a1 x0 x1 x2/\a2 x0 x1 x2/\a3 x0 x1 x2/\r x0 x1 x2))(k:a0->∀x0 x1 x2,a1 x0 x1 x2->a2 x0 x1 x2->a3 x0 x1 x2->r x0 x1 x2->P):P:=by
 obtain⟨h0,x0,x1,x2,h1,h2,h3,hr⟩:=h;exact k h0 x0 x1 x2 h1 h2 h3 hr
theorem j3{a0 a1 a2 a3 r:Qn->Qx->QI->Prop}{P:Prop}(h:∃x0 x1 x2,a0 x0 x1 x2/\a1 x0 x1 x2/\a2 x0 x1 x2/\a3 x0 x1 x2/\r x0 x1 x2)(k:∀x0 x1 x2,a0 x0 x1 x2->a1 x0 x1 x2->a2 x0 x1 x2->a3 x0 x1 x2->r x0 x1 x2->P):P:=by
 obtain⟨x0,x1,x2,h0,h1,h2,h3,hr⟩:=h;exact k x0 x1 x2 h0 h1 h2 h3 hr
theorem j4{a0:Qn->Prop}{a1 a2 r:Qn->Qx->QI->QU->Prop}{P:Prop}(h:∃x0,a0 x0/\(∃x1 x2 x3,a1 x0 x1 x2 x3/\a2 x0 x1 x2 x3/\r x0 x1 x2 x3))(k:∀x0,a0 x0->∀x1 x2 x3,a1 x0 x1 x2 x3->a2 x0 x1 x2 x3->r x0 x1 x2 x3->P):P:=by
 obtain⟨x0,h0,x1,x2,x3,h1,h2,hr⟩:=h;exact k x0 h0 x1 x2 x3 h1 h2 hr
theorem qZ{a0 a1 r:Qn->Qx->QI->QU->Ra->Prop}{P:Prop}(h:∃x0 x1 x2 x3 x4,a0 x0 x1 x2 x3 x4/\a1 x0 x1 x2 x3 x4/\r x0 x1 x2 x3 x4)(k:∀x0 x1 x2 x3 x4,a0 x0 x1 x2 x3 x4->a1 x0 x1 x2 x3 x4->r x0 x1 x2 x3 x4->P):P:=by
 obtain⟨x0,x1,x2,x3,x4,h0,h1,hr⟩:=h;exact k x0 x1 x2 x3 x4 h0 h1 hr
theorem iM{a0 a1 a2 a3 r:Qn->Qx->QI->QU->Prop}{P:Prop}(h:∃x0 x1 x2 x3,a0 x0 x1 x2 x3/\a1 x0 x1 x2 x3/\a2 x0 x1 x2 x3/\a3 x0 x1 x2 x3/\r x0 x1 x2 x3)(k:∀x0 x1 x2 x3,a0 x0 x1 x2 x3->a1 x0 x1 x2 x3->a2 x0 x1 x2 x3->a3 x0 x1 x2 x3->r x0 x1 x2 x3->P):P:=by
 obtain⟨x0,x1,x2,x3,h0,h1,h2,h3,hr⟩:=h;exact k x0 x1 x2 x3 h0 h1 h2 h3 hr
theorem ny{a0 a1:Qn->Prop}{a2 a3 a4 a5 a6 r:Qn->Qx->Prop}{P:Prop}(h:∃x0,a0 x0/\a1 x0/\(∃x1,a2 x0 x1/\a3 x0 x1/\a4 x0 x1/\a5 x0 x1/\a6 x0 x1/\r x0 x1))(k:∀x0,a0 x0->a1 x0->∀x1,a2 x0 x1->a3 x0 x1->a4 x0 x1->a5 x0 x1->a6 x0 x1->r x0 x1->P):P:=by
 obtain⟨x0,h0,h1,x1,h2,h3,h4,h5,h6,hr⟩:=h;exact k x0 h0 h1 x1 h2 h3 h4 h5 h6 hr
theorem nz{a0:Prop}{a1 r:Qn->Qx->QI->QU->Ra->Rz->Sq->Prop}{P:Prop}(h:a0/\(∃x0 x1 x2 x3 x4 x5 x6,a1 x0 x1 x2 x3 x4 x5 x6/\r x0 x1 x2 x3 x4 x5 x6))(k:a0->∀x0 x1 x2 x3 x4 x5 x6,a1 x0 x1 x2 x3 x4 x5 x6->r x0 x1 x2 x3 x4 x5 x6->P):P:=by
 obtain⟨h0,x0,x1,x2,x3,x4,x5,x6,h1,hr⟩:=h;exact k h0 x0 x1 x2 x3 x4 x5 x6 h1 hr
theorem nk{a0 a1 a2 r:Qn->Qx->QI->QU->Ra->Rz->Prop}{P:Prop}(h:∃x0 x1 x2 x3 x4 x5,a0 x0 x1 x2 x3 x4 x5/\a1 x0 x1 x2 x3 x4 x5/\a2 x0 x1 x2 x3 x4 x5/\r x0 x1 x2 x3 x4 x5)(k:∀x0 x1 x2 x3 x4 x5,a0 x0 x1 x2 x3 x4 x5->a1 x0 x1 x2 x3 x4 x5->a2 x0 x1 x2 x3 x4 x5->r x0 x1 x2 x3 x4 x5->P):P:=by
 obtain⟨x0,x1,x2,x3,x4,x5,h0,h1,h2,hr⟩:=h;exact k x0 x1 x2 x3 x4 x5 h0 h1 h2 hr
theorem nr{a0:Qn->Prop}{a1 a2 a3 r:Qn->Qx->QI->QU->Ra->Prop}{P:Prop}(h:∃x0,a0 x0/\(∃x1 x2 x3 x4,a1 x0 x1 x2 x3 x4/\a2 x0 x1 x2 x3 x4/\a3 x0 x1 x2 x3 x4/\r x0 x1 x2 x3 x4))(k:∀x0,a0 x0->∀x1 x2 x3 x4,a1 x0 x1 x2 x3 x4->a2 x0 x1 x2 x3 x4->a3 x0 x1 x2 x3 x4->r x0 x1 x2 x3 x4->P):P:=by
 obtain⟨x0,h0,x1,x2,x3,x4,h1,h2,h3,hr⟩:=h;exact k x0 h0 x1 x2 x3 x4 h1 h2 h3 hr
theorem nu{a0 a1:Qn->Prop}{a2 a3 a4 r:Qn->Qx->QI->QU->Prop}{P:Prop}(h:∃x0,a0 x0/\a1 x0/\(∃x1 x2 x3,a2 x0 x1 x2 x3/\a3 x0 x1 x2 x3/\a4 x0 x1 x2 x3/\r x0 x1 x2 x3))(k:∀x0,a0 x0->a1 x0->∀x1 x2 x3,a2 x0 x1 x2 x3->a3 x0 x1 x2 x3->a4 x0 x1 x2 x3->r x0 x1 x2 x3->P):P:=by
 obtain⟨x0,h0,h1,x1,x2,x3,h2,h3,h4,hr⟩:=h;exact k x0 h0 h1 x1 x2 x3 h2 h3 h4 hr
theorem ef{a0 a1 a2 a3 r:Qn->Qx->QI->QU->Ra->Prop}{P:Prop}(h:∃x0 x1 x2 x3 x4,a0 x0 x1 x2 x3 x4/\a1 x0 x1 x2 x3 x4/\a2 x0 x1 x2 x3 x4/\a3 x0 x1 x2 x3 x4/\r x0 x1 x2 x3 x4)(k:∀x0 x1 x2 x3 x4,a0 x0 x1 x2 x3 x4->a1 x0 x1 x2 x3 x4->a2 x0 x1 x2 x3 x4->a3 x0 x1 x2 x3 x4->r x0 x1 x2 x3 x4->P):P:=by
 obtain⟨x0,x1,x2,x3,x4,h0,h1,h2,h3,hr⟩:=h;exact k x0 x1 x2 x3 x4 h0 h1 h2 h3 hr
theorem eg{a0 a1 a2 a3 a4 r:Qn->Qx->QI->QU->Prop}{P:Prop}(h:∃x0 x1 x2 x3,a0 x0 x1 x2 x3/\a1 x0 x1 x2 x3/\a2 x0 x1 x2 x3/\a3 x0 x1 x2 x3/\a4 x0 x1 x2 x3/\r x0 x1 x2 x3)(k:∀x0 x1 x2 x3,a0 x0 x1 x2 x3->a1 x0 x1 x2 x3->a2 x0 x1 x2 x3->a3 x0 x1 x2 x3->a4 x0 x1 x2 x3->r x0 x1 x2 x3->P):P:=by
 obtain⟨x0,x1,x2,x3,h0,h1,h2,h3,h4,hr⟩:=h;exact k x0 x1 x2 x3 h0 h1 h2 h3 h4 hr
theorem ff{P:Prop}(h:false=true):P:=nomatch h
theorem tf{P:Prop}(h:true=false):P:=nomatch h
theorem dC{α:Type}{a:α}{P:Prop}(h:none=some a):P:=nomatch h
theorem sn{α:Type}{a:α}{P:Prop}(h:some a=none):P:=nomatch h
theorem nq{a b:Nat}{P:Prop}(h:a=b)(e:Nat.beq a b=false):P:=absurd h (Nat.ne_of_beq_eq_false e)
theorem ni{α:Type _}{a:α}{P:Prop}(h:a∈([]:List α)):P:=nomatch h
end Mine
end
section
open PySem PySem.W PyProof.Rows PySem.Spec PySem.Calls
namespace Mine
open LCg
noncomputable abbrev pZ (l c e : Nat) : PySem.Pos := ⟨l, c, l, e⟩
def IL(self:Value):Code×Pos->Bool
 | (.builtin "bytearray.__contains__" ⟨v::_,_⟩,_)|(.builtin "bytearray.__mod__" ⟨v::_,_⟩,_)
 | (.builtin "bytearray.__rmod__" ⟨_::v::_,_⟩,_)|(.builtin "_struct.pack_into.held" ⟨v::_,_⟩,_)=>Builtin.Bytes.sameRef v self
 | (.builtin "bytearray.find.held" ⟨_::_::held,_⟩,_)=>held.any (Builtin.Bytes.sameRef self)
 | (.builtin id ⟨v::_,_⟩,_)=>Builtin.Bytes.sameRef v self&&Builtin.Bytes.decodersThatHold.contains id
 | _=>false
def ly(c:Code):Prop:=∀self p,IL self (c,p)=false
def rE(Γ:PySem.Ctx):Prop:=∀x∈Γ.below,ly x.1
def pQ(Γ:PySem.Ctx):Prop:=ly Γ.code/\rE Γ
theorem pQ.enter(h:pQ Γ)(c:Code)(hd:Option Value)(p:Pos):rE (Γ.enter c hd p):=λ x hx=>by
 rcases mC hx with rfl|hx
 ·exact h.1
 ·exact h.2 x hx
def aB{α:Type}(M:Model)(A:Around)(t:Sem α)(Q:α->Shared->Prop)(E:Value->Shared->Prop)(s:Shared):Prop:=
 ∀Γ p,Γ.In A->pQ Γ->Sem.wp M Γ t (λ a zz s'=>Q a s') (λ e zz s'=>E e s') p s
def aL(M:Model)(A:Around)(c:Code)(R:Result->Shared->Prop)(s:Shared):Prop:=
 ∀Γ p,Γ.code=c->Γ.Below A->rE Γ->wpCode M Γ R p s
section
variable{α β:Type}{M:Model}{A:Around}{E:Value->Shared->Prop}{s:Shared}{env:Env}
theorem ah(h:wpAny M A t Q E s):aB M A t Q E s:=λ Γ p Qp zz=>h Γ p Qp
theorem al(h:Q a s):aB M A (pure a) Q E s:=λ zz zz zz zz=>h
theorem ax(h:aB M A t Q E s)(hQ:∀a s,Q a s->Q' a s)(hE:∀e s,E e s->E' e s):aB M A t Q' E' s:=
 λ Γ p Qp hc=>Sem.wp_mono M Γ t (λ a zz s=>hQ a s) (λ e zz s=>hE e s) p s (h Γ p Qp hc)
theorem aK(h:aB M A t Q E s)(hQ:∀a s,Q a s->Q' a s):aB M A t Q' E s:=ax h hQ λ zz zz x=>x
theorem aj(h:aB M A m (λ a s'=>aB M A (f a) Q E s') E s):aB M A (m >>= f) Q E s:=λ Γ p Qp hc=>by
 refine ac (Sem.wp_bind' _ _ _ _ _ _ _ _)<|Sem.wp_mono M Γ m (λ a p' s' h'=>h' Γ p' Qp hc) (λ zz zz zz h'=>h') p s (h Γ p Qp hc)
theorem az(h:wpAny M A m (λ a s'=>aB M A (f a) Q E s') E s):aB M A (m >>= f) Q E s:=aj (ah h)
theorem uL(h:aB M A m (λ a s'=>wpAny M A (f a) Q E s') E s):aB M A (m >>= f) Q E s:=
 aj (ax h (λ zz zz x=>ah x) λ zz zz x=>x)
theorem ak(h:aB M A m Q E s):aB M A (holding vs m) Q E s:=
 λ Γ p Qp hc=>by refine ac (Sem.wp_holding _ _ _ _ _ _ _ _) ?_;exact h Γ p Qp hc
theorem bR(h:aB M A m Q (λ e s'=>wpAny M A (k e) (λ zz s''=>E e s'') E s') s):aB M A (m.onRaise k) Q E s:=λ Γ p Qp hc=>by
 refine ac (Sem.wp_onRaise _ _ _ _ _ _ _ _)<|Sem.wp_mono M Γ m (λ zz zz zz h'=>h') (λ e p' s' h'=>h' Γ p' Qp) p s (h Γ p Qp hc)
theorem iD{Q:Except Value α->Shared->Prop}(h:aB M A m (λ a=>Q (.ok a)) (λ e=>Q (.error e)) s):aB M A m.attempt Q E s:=λ Γ p Qp hc=>by
 refine ac (Sem.wp_attempt _ _ _ _ _ _ _) ?_;exact h Γ p Qp hc
theorem aw(h:aB M A (f ()) Q E s):aB M A (standAt pos >>= f) Q E s:=az (wpAny_standAt h)
theorem eQ(h:aB M A m Q E s):aB M A (operate vs m) Q E s:=λ Γ p Qp hc=>by
 refine ac (Sem.wp_operate _ _ _ _ _ _ _ _) ?_;exact h Γ p Qp hc
theorem rF(hc:aL M (A.mark h) c (λ r s'=>match r with|.ok f=>Q f s'|.error e=>E e s') s)(hnb:h≠some byPass:=by intro x;cases x) :
  aB M A (run c h) Q E s:=λ Γ p Qp Qu=>by refine ac (Sem.wp_run _ _ _ _ _ _ _ _) ?_;exact hc _ p rfl (Qp.enter c h p hnb) (Qu.enter c h p)
theorem gu(hc:aL M A c (λ r s'=>match r with|.ok (.ret v)=>Q v s'|.ok _=>False|.error e=>E e s') s):aB M A (runValue c) Q E s:=
 λ Γ p Qp Qu=>by refine ac (Sem.wp_runValue _ _ _ _ _ _ _) ?_;exact hc _ p rfl (Qp.enter c none p (by intro x;exact dC x)) (Qu.enter c none p)
theorem bB(hc:aL M A (.call f ⟨pos,kw⟩) (λ r s'=>match r with|.ok (.ret v)=>Q v s'|.ok _=>False|.error e=>E e s') s):aB M A (call f pos kw) Q E s:=gu hc
theorem dk(h:aL M A c R s)(hR:∀r s,R r s->R' r s):aL M A c R' s:=λ Γ p hc Qp Qu=>wpCode_mono hR (h Γ p hc Qp Qu)
theorem aV(hb:ly c)
  (h:aB M (A.under c) (M.den c) (λ fin s'=>match fin with|.done f=>R (.ok f) s'|.again c'=>c'.quiet=true/\aL M A c' R s') (λ e s'=>R (.error e) s') s):aL M A c R s:=λ Γ p hc Qp Qu=>by
 rw[wpCode_iff_wp,hc];refine Sem.wp_mono M Γ _ (λ fin p' s' h'=>?_) (λ zz zz zz h'=>h') p s (h Γ p (hc▸Qp.in) ⟨by refine ac hc ?_;exact hb,Qu⟩);cases fin with
 | done f=>exact h'
 | again c'=>exact⟨h'.1,h'.2 (Γ.goto c') p' rfl (Qp.goto c') Qu⟩
theorem kh(hb:ly c)(hq:c.quiet=true)(I:Nat->Shared->Prop)
  (turn:∀n s,I n s->aB M (A.under c) (M.den c) (λ fin s'=>match fin with|.done f=>R (.ok f) s'|.again c'=>c'=c/\∃m,m<n/\I m s') (λ e s'=>R (.error e) s') s)
  (n:Nat) (h:I n s):aL M A c R s:=λ Γ p hc Qp Qu=>by
 refine wpCode_loop M Γ R (λ n zz s=>I n s) (by refine ac hc ?_;exact hq) (λ n p s hI=>?_) n p s h;refine ac hc<|Sem.wp_mono M Γ _ (λ fin p' s' h'=>?_) (λ zz zz zz h'=>h') p s (turn n s hI Γ p (hc▸Qp.in) ⟨by refine ac hc ?_;exact hb,Qu⟩);cases fin with
 | done f=>exact h'
 | again c'=>exact h'
theorem mn(h:Q false s):aB M A (Builtin.Bytes.exported v) Q E s:=λ Γ p Qp Qu=>by
 refine(?_:Q (((Γ.code,p)::Γ.below).any (IL v)) s);rw[List.any_eq_false.mpr λ x hx=>by
  rcases mC hx with rfl|hx
  ·rw[Qu.1];exact Bool.false_ne_true
  ·refine ac (show IL v x=false from Qu.2 x hx v x.2) ?_;exact Bool.false_ne_true]
 exact h
end
section
set_option tactic.hygienic true
abbrev bX(b:Array UInt8):Obj:={cls:=.type "bytearray",data:=.bytearray b}
section
variable{prog:Program}{w:World}{A:Around}{E:Value->Shared->Prop}{s:Shared}
theorem x7:mroOf (.type "bytearray")=pure [.type "bytearray",.type "object"]:=by refine ac (mroOf_type _) ?_;kernel_rfl
theorem pH:typeLookup (.type "bytearray") "__new__"=pure (some (.builtin "bytearray.__new__")):=by refine ac (typeLookup_type _ _) (ac builtinLookup_eq_fast ?_);kernel_rfl
theorem AH:Bind.madeBy (.type "bytearray")=pure (some "bytearray.__new__"):=madeBy_type x7 pH (by decide +kernel)
theorem jo:Slot "bytearray" "__init__" "bytearray.__init__":=
 .of (owner:="bytearray") (n:="__init__") (by refine ac (typeLookup_type _ _) (ac builtinLookup_eq_fast ?_);kernel_rfl) (by decide +kernel) (by decide +kernel) (by decide +kernel)
  (by first|exact .inl (by decide +kernel)|exact .inr (by decide +kernel)) (by refine ac (isSubtype_type _ _) ?_;kernel_rfl)
theorem md:Slot "bytearray" "append" "bytearray.append":=
 .of (owner:="bytearray") (n:="append") (by refine ac (typeLookup_type _ _) (ac builtinLookup_eq_fast ?_);kernel_rfl) (by decide +kernel) (by decide +kernel) (by decide +kernel)
  (by first|exact .inl (by decide +kernel)|exact .inr (by decide +kernel)) (by refine ac (isSubtype_type _ _) ?_;kernel_rfl)
theorem x8:PlainAttrs "bytearray":=
 ⟨⟨"bytearray.__getattribute__",by refine ac (typeLookup_type _ _) (ac builtinLookup_eq_fast ?_);kernel_rfl,by decide +kernel⟩,by refine ac (typeLookup_type _ _) (ac builtinLookup_eq_fast ?_);kernel_rfl⟩
theorem kz:typeOf (.builtin "bytearray.append")=pure (.type "method_descriptor"):=by refine(?_:builtinType _=_);refine ac builtinType_eq_fast ?_;kernel_rfl
theorem kx:isSubtype (.type "bytearray") (.type "bytearray")=pure true:=by refine ac (isSubtype_type _ _) ?_;kernel_rfl
theorem nM:checkTypeCall "bytearray" ⟨[],[]⟩=pure ():=by kernel_rfl
theorem pG:checkBuiltinCall "bytearray.__new__" ⟨[.type "bytearray"],[]⟩=pure ():=by kernel_rfl
theorem g9:plainId "bytearray.__new__"=true:=by decide +kernel
theorem nN:entryFor table "bytearray.__new__"=some Builtin.«list.__new__»:=
 entryFor_alias (id':="list.__new__") (by kernel_rfl) (by first|rfl|decide +kernel) (by decide +kernel) (by kernel_rfl)
theorem lq:entryFor table "bytearray.__init__"=some Builtin.«bytearray.__init__»:=by first|exact entryFor_of_fast (by kernel_rfl)|exact entryFor_of_tree (by kernel_rfl)
theorem iX:entryFor table "bytearray.append"=some Builtin.«bytearray.append»:=by first|exact entryFor_of_fast (by kernel_rfl)|exact entryFor_of_tree (by kernel_rfl)
theorem iW:plainId "bytearray.append"=true:=by decide +kernel
theorem ky:typeLookup (.type "bytearray") "__release_buffer__"=pure (some (.builtin "bytearray.__release_buffer__")):=by refine ac (typeLookup_type _ _) (ac builtinLookup_eq_fast ?_);kernel_rfl
theorem iC:typeLookup (.type "bytearray") "__buffer__"=pure (some (.builtin "bytearray.__buffer__")):=by refine ac (typeLookup_type _ _) (ac builtinLookup_eq_fast ?_);kernel_rfl
theorem pF:typeLookup (.type "bytearray") "__bytes__"=pure none:=by refine ac (typeLookup_type _ _) (ac builtinLookup_eq_fast ?_);kernel_rfl
theorem pE:typeLookup (.type "bytearray") "__index__"=pure none:=by refine ac (typeLookup_type _ _) (ac builtinLookup_eq_fast ?_);kernel_rfl
theorem AI:Builtin.Bytes.bindOptional "bytearray.__init__" "bytearray" ["source","encoding","errors"] [] []=pure [none,none,none]:=by kernel_rfl
set_option maxRecDepth 1000000 in
set_option maxHeartbeats 4000000 in
theorem xZ:("bytearray.__new__".splitOn ".__new__").headD ""="bytearray":=by simp +decide [String.splitOn,String.splitOnAux]
end
end
section
variable{prog:Program}{w:World}{A:Around}{E:Value->Shared->Prop}{s:Shared}
theorem dW(h:s.heap.get? a=some (bX b)):s.TypeIs (.ref a) "bytearray":=by
 exact⟨_,h,rfl⟩
theorem pI(h:Q₁ (.ref s.heap.objs.size) {s with heap:=s.heap.push (bX #[])}) :
  codeAny (model prog w) A (.call (.builtin "bytearray.__new__") ⟨[.type "bytearray"],[]⟩) (wants Q₁ E) s:=by
 refine codeAny_of_tree<|(?_:wpAny _ A.in1 (do checkBuiltinCall "bytearray.__new__" ⟨[.type "bytearray"],[]⟩;again (.builtin "bytearray.__new__" ⟨[.type "bytearray"],[]⟩)) _ _ s)
 refine wpAny_bind (wpAny_of_eq pG (wpAny_pure ⟨plainId_quiet g9 _,codeAny_builtin_stack nN rfl λ p st=>?_⟩));refine ac (Around.under_plainId g9 _) ?_;have hsub:=kx;have hown:=xZ;obtain⟨hp,g,d,tk,os⟩:=s;simp only[hown];wp_walk
 exact h
theorem bQ(hc:c=false)(h:wpAny M A b Q E s):wpAny M A (if c=true then a else b) Q E s:=by
 subst hc;exact h
theorem cH(hc:c=false)(h:aB M A b Q E s):aB M A (if c=true then a else b) Q E s:=by
 subst hc;exact h
theorem fN(ho:s.heap.get? a=some (bX b))(h:Q false s) :
  aB M A (Builtin.Bytes.exported (Value.ref a) <||> do return (← Builtin.Bytes.exportsOf (Value.ref a))>0) Q E s:=by
 refine(?_:aB _ _ (Builtin.Bytes.exported (Value.ref a) >>= _) _ _ _);refine aj (mn ?_);refine(?_:aB _ _ (Builtin.Bytes.exportsOf (Value.ref a) >>= _) _ _ _);refine ah (wpAny_bind ?_);refine(?_:wpAny _ _ (load a >>= _) _ _ _);exact wpAny_bind (wpAny_load ho (wpAny_pure (wpAny_pure h)))
theorem eR(ho:s.heap.get? a=some (bX b))(hz:(f b).size<=sizeLine)(h:Q () {s with heap:=s.heap.update a (Obj.mapBytearray f)}) :
  wpAny M A (Builtin.Bytes.write (.ref a) f) Q E s:=by
 refine(?_:wpAny _ _ (updateBytearray a f) _ _ _);unfold updateBytearray;refine wpAny_bind (wpAny_load ho ?_);refine(?_:wpAny _ _ (update a (Obj.mapBytearray f) >>= λ zz=>lookBehind a) _ _ _);refine wpAny_bind (wpAny_update ho ?_);have hS:(s.heap.update a (Obj.mapBytearray f)).get? a=some (bX (f b)):=Heap.get?_update_self (Obj.mapBytearray f) ho rfl;refine wpAny_lookBehind hS ?_ h;refine(?_:(if(f b).size>sizeLine then some "bytearray:memory" else none)=none);exact ac (if_neg (Nat.not_lt.mpr hz)) rfl
theorem xY(a:Addr):∃(d1 d3:Sem Fin) (K:List (Option Value)->Sem Fin),Builtin.«bytearray.__init__» ⟨[.ref a],[]⟩=(Builtin.Bytes.ownRelease (.ref a) >>= λ r=>if r=true then d1 else(Builtin.Bytes.bindOptional "bytearray.__init__" "bytearray" ["source","encoding","errors"] [] [] >>= K))/\
  K [none,none,none]=((Builtin.Bytes.exported (Value.ref a) <||> do return (← Builtin.Bytes.exportsOf (Value.ref a))>0) >>= λ r=>if r=true then d3 else(Builtin.Bytes.write (.ref a) (λ zz=>#[]) >>= λ zz=>ret Value.none)):=⟨_,_,_,rfl,rfl⟩
theorem rq(ho:s.heap.get? a=some (bX #[]))(h:R (.ok (.ret .none)) {s with heap:=s.heap.update a (Obj.mapBytearray λ zz=>#[])}) :
  aB (model prog w) A (Builtin.«bytearray.__init__» ⟨[.ref a],[]⟩) (λ fin s'=>match fin with|.done f=>R (.ok f) s'|.again c'=>c'.quiet=true/\aL (model prog w) B c' R s') (λ e s'=>R (.error e) s') s:=by
 have hT:=dW ho;refine bw (xY a) λ d1 d3 K e1 e2=>ac e1<|aj ?_;unfold Builtin.Bytes.ownRelease Builtin.Bytes.slotIsOwn;refine az (wpAny_bind (wpAny_specialOf hT ky ?_));refine bQ (by decide +kernel)<|ac (show("bytearray.__release_buffer__".dropRight ("__release_buffer__".length+1))="bytearray" from by decide +kernel)<|wpAny_isInstance hT kx (al ?_);refine cH rfl<|az (wpAny_of_eq AI ?_);refine ac e2<|aj (fN ho ?_);refine cH rfl<|ah (wpAny_bind (eR ho (Nat.zero_le _) ?_));refine(?_:wpAny _ _ (ret Value.none) _ _ _);exact wpAny_pure h
theorem nO(ho:s.heap.get? a=some (bX b))(h0:0<=n)(h1:n<256)(hz:b.size+1<=sizeLine)(h:R (.ok (.ret .none)) {s with heap:=s.heap.update a (Obj.mapBytearray (·.push n.toNat.toUInt8))}) :
  aB (model prog w) A (Builtin.«bytearray.append» ⟨[.ref a,.int n t],[]⟩) (λ fin s'=>match fin with|.done f=>R (.ok f) s'|.again c'=>c'.quiet=true/\aL (model prog w) B c' R s') (λ e s'=>R (.error e) s') s:=by
 unfold Builtin.«bytearray.append»;refine az (wpAny_of_eq (a:=(Value.ref a,Value.int n t)) rfl ?_);dsimp only;unfold Builtin.Bytes.byteValue;refine az (wpAny_bind (wpAny_of_eq (rfl:asIndex (.int n t)=pure n) ?_));refine bQ (by simp only[Bool.or_eq_false_iff,decide_eq_false_iff_not];lia) (wpAny_pure ?_);unfold Builtin.Bytes.checkResize;refine aj (aj (fN ho ?_));refine cH rfl (al ?_);refine ah (wpAny_bind (eR ho (by refine ac (Array.size_push _) ?_;exact hz) ?_));exact wpAny_pure h
theorem eX{id:String}(hid:Builtin.Bytes.decodersThatHold.contains id=false)(h:∀self p,IL self (.builtin id ⟨v::l,kw⟩,p)=(Builtin.Bytes.sameRef v self&&Builtin.Bytes.decodersThatHold.contains id)):ly (.builtin id ⟨v::l,kw⟩):=λ self p=>by rw[h,hid,Bool.and_false]
theorem cN{id:String}(hb:entryFor table id=some b)(hn:ly (.builtin id args))
  (h:aB (model prog w) (A.under (.builtin id args)) (b args) (λ fin s'=>match fin with|.done f=>R (.ok f) s'|.again c'=>c'.quiet=true/\aL (model prog w) A c' R s') (λ e s'=>R (.error e) s') s) :
  aL (model prog w) A (.builtin id args) R s:=by
 refine aV hn<|(?_:aB _ _ (match entryFor table id with|some b=>b args|none=>unsupported ((withoutEnding? id "#data").getD id)) _ _ s)
 refine ac hb ?_;exact h
theorem cj{id:String}(hq:plainId id=true)(hb:entryFor table id=some b)(hn:ly (.builtin id args))
  (h:wpAny (model prog w) A.in1 (checkBuiltinCall id args) (λ zz s₁=>aB (model prog w) A.in1 (b args)
   (λ fin s'=>match fin with|.done f=>R (.ok f) s'|.again c'=>c'.quiet=true/\aL (model prog w) A c' R s') (λ e s'=>R (.error e) s') s₁)
   (λ e s'=>R (.error e) s') s):aL (model prog w) A (.call (.builtin id) args) R s:=by
 refine aV (λ zz zz=>rfl)<|(?_:aB _ A.in1 (do checkBuiltinCall id args;again (.builtin id args)) _ _ s)
 refine az (wpAny_mono h (λ zz s₁ h₁=>al (And.intro (plainId_quiet hq args) (cN hb hn ?_))) λ zz zz h'=>h');refine ac (Around.under_plainId hq args)<|h₁
theorem pD:(Value.type "bytearray"==Value.type "type")=false:=by decide +kernel
theorem El:((Manifest.find? "bytearray").bind (·.mro.findSome? λ t=>(Manifest.find? t).bind λ b=>if b.noNew then some true else if b.attrs.any (·.1=="__new__") then some false else none)).getD false=false:=by decide +kernel
theorem kP(h:Q (.ref s.heap.objs.size) {s with heap:=(s.heap.push (bX #[])).update s.heap.objs.size (Obj.mapBytearray λ zz=>#[])}) :
  aB (model prog w) A (call (.type "bytearray") []) Q E s:=by
 refine bB (aV (λ zz zz=>rfl) ?_);refine(?_:aB _ _ (callAny (.type "bytearray") _) _ _ _);refine al ⟨Code.quiet_builtin _ (by decide +kernel),cN F.entry_type_call (λ zz zz=>rfl) ?_⟩;refine ac (Around.under_plain (weight_type_call_type "bytearray" [] []) rfl) ?_;have h1:=pD;have h2:=El;have h3:=nM;have h4:=x7;have h5:=AH;have h6:=kx;dsimp only;unfold Builtin.«type.__call__»;dsimp only;simp only[h1,h2,Bool.false_eq_true,if_false];refine az (wpAny_of_eq h3 ?_);refine az (wpAny_of_eq h4 ?_);refine cH rfl ?_;refine az (wpAny_of_eq h5 ?_);dsimp only;refine az (wpAny_pure ?_);refine az (wpAny_holding (wpAny_call (codeAny_mono (pI (Q₁:=λ v s'=>v=.ref s.heap.objs.size/\s'={s with heap:=s.heap.push (bX #[])}) (E:=λ zz zz=>False) ⟨rfl,rfl⟩) λ r s₁ hr=>?_)));cases r with
 | error e=>exact hr.elim
 | ok f=>
  cases f with
  | ret obj=>
   obtain⟨rfl,rfl⟩:=hr;have ho:(s.heap.push (bX #[])).get? s.heap.objs.size=some (bX #[]):=Heap.get?_push_size _ rfl;have hT:=dW (s:={s with heap:=s.heap.push (bX #[])}) ho;dsimp only;refine az (wpAny_isInstance hT h6 ?_);refine cH rfl<|aj (ak ?_);unfold callSpecial?;refine az (wpAny_specialOf hT jo.lookup ?_);dsimp only;refine ak<|az (wpAny_of_eq (jo.bind _) ?_);dsimp only;have hw:=rq (prog:=prog) (w:=w) (A:=A.in1.in1) (B:=A.in1) (s:={s with heap:=s.heap.push (bX #[])}) (R:=λ r s'=>r=.ok (.ret .none)/\s'={s with heap:=(s.heap.push (bX #[])).update s.heap.objs.size (Obj.mapBytearray λ zz=>#[])}) ho ⟨rfl,rfl⟩;refine aj (bB (dk (cj (R:=λ r s'=>r=.ok (.ret .none)/\s'={s with heap:=(s.heap.push (bX #[])).update s.heap.objs.size (Obj.mapBytearray λ zz=>#[])}) jo.plain lq (eX (by decide +kernel) λ zz zz=>rfl) (jo.check _ _ _ _ _ _ _ _ hT rfl hw)) λ r s₁ hr=>?_));obtain⟨rfl,rfl⟩:=hr;refine al<|cH (by decide)<|al h
  | _=>exact hr.elim
theorem kQ(ho:s.heap.get? a=some (bX b))(h0:0<=n)(h1:n<256)(hz:b.size+1<=sizeLine)
  (h:Q .none {s with heap:=s.heap.update a (Obj.mapBytearray (·.push n.toNat.toUInt8))}):aB (model prog w) A (call (.builtin "bytearray.append") [.ref a,.int n t]) Q E s:=by
 have hw:=nO (prog:=prog) (w:=w) (A:=A.in1) (B:=A) (t:=t) (R:=λ r s'=>r=.ok (.ret .none)/\s'={s with heap:=s.heap.update a (Obj.mapBytearray (·.push n.toNat.toUInt8))}) ho h0 h1 hz ⟨rfl,rfl⟩;refine bB (dk (cj (R:=λ r s'=>r=.ok (.ret .none)/\s'={s with heap:=s.heap.update a (Obj.mapBytearray (·.push n.toNat.toUInt8))}) iW iX (eX (by decide +kernel) λ zz zz=>rfl) (md.check _ _ _ _ _ _ _ _ (dW ho) rfl hw)) λ r s₁ hr=>?_);obtain⟨rfl,rfl⟩:=hr;exact h
end
section
set_option tactic.hygienic true
section
variable{prog:Program}{w:World}{A:Around}{E:Value->Shared->Prop}{s:Shared}
theorem Eh(ho:s.heap.get? a=some (bX b))(hz:b.size<=sizeLine)(h:Q (.bytes b s.toks) {s with toks:=s.toks+1}) :
  codeAny (model prog w) A (.call (.builtin "bytes.__new__") ⟨[.type "bytes",.ref a],[]⟩) (wants Q E) s:=by
 have hT:=dW ho;refine codeAny_of_tree<|(?_:wpAny _ A.in1 (do checkBuiltinCall "bytes.__new__" ⟨[.type "bytes",.ref a],[]⟩;again (.builtin "bytes.__new__" ⟨[.type "bytes",.ref a],[]⟩)) _ _ s)
 refine wpAny_bind (wpAny_of_eq (F.bm_newCall _) (wpAny_pure ⟨plainId_quiet F.bm_plain _,codeAny_builtin F.bm_entry ?_⟩));refine ac (Around.under_plainId F.bm_plain _) ?_;unfold Builtin.«bytes.__new__»;refine wpAny_bind (wpAny_of_eq (a:=true) rfl ?_);refine bQ rfl<|wpAny_bind (wpAny_of_eq F.bm_sub ?_);refine bQ rfl<|wpAny_bind (wpAny_of_eq (F.bm_bind _) ?_);refine wpAny_bind (wpAny_of_eq (a:=()) rfl ?_);refine wpAny_bind (wpAny_of_eq (a:=()) rfl ?_);refine bQ rfl<|wpAny_bind (wpAny_specialOf hT pF ?_);refine wpAny_bind (wpAny_bind ?_);refine(?_:wpAny _ _ (load a >>= _) _ _ _);refine wpAny_bind (wpAny_load ho ?_);(try dsimp only)
 refine wpAny_pure (wpAny_pure ?_);refine bQ rfl<|wpAny_bind (wpAny_specialOf hT pE ?_);refine bm_if_true rfl ?_;first
  | refine(?_:wpAny _ _ (Builtin.Bytes.buffer? "bytes.__new__" (.ref a) true >>= _) _ _ _)
  | (refine wpAny_bind ?_;refine(?_:wpAny _ _ (Builtin.Bytes.buffer? "bytes.__new__" (.ref a) true >>= _) _ _ _))
 refine wpAny_bind ?_;unfold Builtin.Bytes.buffer?;refine wpAny_bind (wpAny_specialOf hT iC ?_);(try dsimp only)
 unfold Builtin.Bytes.slotIsOwn;refine wpAny_bind (wpAny_bind (wpAny_specialOf hT iC ?_));(try dsimp only)
 refine bQ (by decide +kernel)<|ac (show("bytearray.__buffer__".dropRight ("__buffer__".length+1))="bytearray" from by decide +kernel)<|wpAny_isInstance hT kx<|bQ rfl<|wpAny_bind (wpAny_specialOf hT iC ?_);(try dsimp only)
 unfold Builtin.Bytes.ownRelease Builtin.Bytes.slotIsOwn;refine wpAny_bind (wpAny_bind (wpAny_bind (wpAny_specialOf hT ky ?_)));(try dsimp only)
 refine bQ (by decide +kernel)<|ac (show("bytearray.__release_buffer__".dropRight ("__release_buffer__".length+1))="bytearray" from by decide +kernel)<|wpAny_isInstance hT kx (wpAny_pure ?_);refine bQ rfl<|wpAny_bind ?_;unfold Builtin.Bytes.payload Builtin.Bytes.payload?;refine wpAny_bind (wpAny_bind (wpAny_load ho ?_));refine wpAny_pure (wpAny_pure (wpAny_pure ?_));refine wpAny_bind (wpAny_rule (wpAny_bind (wpAny_mkBytes ?_ hz)));refine(?_:wpAny _ _ (if(Value.type "bytes"==Value.type "bytes")=true then _ else _) _ _ _);refine bm_if_true (by decide) ?_;first
  | exact wpAny_pure h
  | exact wpAny_bind (wpAny_pure (wpAny_pure h))
theorem ll(ho:s.heap.get? a=some (bX b))(hz:b.size<=sizeLine)(h:Q (.bytes b s.toks) {s with toks:=s.toks+1}) :
  wpAny (model prog w) A (call (.type "bytes") [.ref a]) Q E s:=by
 refine callType_codes (Q₁:=λ obj s₁=>s₁.TypeIs obj "bytes"/\Q obj s₁) F.bm_called (F.bm_typeCall _) F.entry_object_init (Eh ho hz ⟨PySem.W.typeIs_bytes _ _ _,h⟩) λ obj s₁ h₁=>⟨h₁.1,F.args_object_init_2 obj _,object_init_meets F.bm_called.init.lookup F.bm_called.made (by decide) prog w A.in1 _ s₁ ⟨h₁.1,rfl,h₁.2⟩⟩
end
end
section
variable{α β:Type}{M:Model}{A:Around}{E:Value->Shared->Prop}{s:Shared}{env:Env}
theorem yD{st:Stmt}(h:wpAny M A (exec st env) (λ f s'=>match f with|.next=>aB M A (execs rest env) Q E s'|f=>Q f s') E s):aB M A (execs (st::rest) env) Q E s:=by
 refine ac (execs_cons _ _ _)<|az (wpAny_mono h (λ f s' h'=>?_) λ zz zz e=>e);cases f<;>first|exact h'|exact al h'
theorem bg{st:Stmt}(h:aB M A (exec st env) (λ f s'=>match f with|.next=>aB M A (execs rest env) Q E s'|f=>Q f s') E s):aB M A (execs (st::rest) env) Q E s:=by
 refine ac (execs_cons _ _ _)<|aj (ax h (λ f s' h'=>?_) λ zz zz e=>e);cases f<;>first|exact h'|exact al h'
theorem jq(hc:aL M (A.mark none) c (λ r s'=>match r with|.ok f=>Q f s'|.error e=>cameBackBy M A env E e s') s):aB M A (runOwn c env none) Q E s:=by
 unfold runOwn;exact bR (rF hc)
theorem tx(h:aL M A (.whileLoop test body orelse env) (λ r s'=>match r with|.ok f=>Q f s'|.error e=>cameBackBy M A env E e s') s) :
  aB M A (exec (.While test body orelse pos) env) Q E s:=by
 refine ac (exec_While _ _ _ _ _) ?_;exact aw (jq h)
theorem p5(h:aB M A (eval e env) (λ v=>Q (.ret v)) E s):aB M A (exec (.Return (some e) pos) env) Q E s:=by
 refine ac (exec_Return_some _ _ _) ?_;exact aw (aj (ax h (λ zz zz x=>al x) λ zz zz x=>x))
theorem uM(h:aB M A m Q E s):aB M A (m.keep vs) Q E s:=λ Γ p Qp Qu=>by refine ac (Sem.wp_keep _ _ _ _ _ _ _ _) ?_;exact h Γ p Qp Qu
theorem gs(h:aB M A t Q E s):aB M A (t >>= λ r=>holding [r] point >>= λ zz=>pure r) Q E s:=
 aj (ax h (λ r zz hr=>ah (wpAny_bind (wpAny_holding (wpAny_point (wpAny_pure hr))))) λ zz zz x=>x)
end
section
variable{prog:Program}{w:World}{A:Around}{R:Result->Shared->Prop}{s:Shared}
theorem ki
  (h:aB (model prog w) (A.deeper env) (execs body env) (λ f s'=>R (.ok (.ret (match f with|.ret v=>v|_=>.none))) s')
   (λ e s'=>wpAny (model prog w) (A.deeper env) (leaving env e) (λ zz s''=>R (.error e) s'') (λ e' s''=>R (.error e') s'') s') s) :
  aL (model prog w) A (.func body env) R s:=by
 refine aV (λ zz zz=>rfl)<|(?_:aB _ (A.deeper env) (do point;match ← (execs body env).onRaise (leaving env) with|.ret v=>ret v|_=>ret .none) _ _ s)
 refine az (wpAny_point (aj (bR (ax h (λ f s' h'=>?_) λ zz zz h'=>h'))));cases f<;>exact al h'
theorem b5(QA:A.depth<recursionLimit)(ho:s.heap.get? a=some o)
  (hd':o.data=.func fd) (hco:fd.scope.isCoroutine=false) (QO:fd.scope.isGenerator=false) (hbody:fd.body=.stmts body) (hcd:s.heap.CodeRec fd.code fd.qualname)
  (h:wpAny (model prog w) A.in1 (bindArgs fd args) (λ binds s₁=>
   wpAny (model prog w) A.in1 (newFunctionEnv fd.scope fd.globals fd.closure binds (fd.qualname++".<locals>.") (some a) fd.code none fd.builtins)
    (λ env P0=>P0.heap.NoLimit/\aL (model prog w) A (.func body env) R P0) (λ e s'=>R (.error e) s') s₁) (λ e s'=>R (.error e) s') s) :
  aL (model prog w) A (.call (.ref a) args) R s:=by
 refine aV (λ zz zz=>rfl)<|(?_:aB _ A.in1 (callAny (.ref a) args) _ _ s)
 simp only[callAny];refine az (wpAny_load ho ?_);(refine dj hcd λ c oc vs tq hc hoc hdc hq=>?_;clear hcd);simp only[hd',callFunction,hco,QO,hbody,hc];rw[hc] at h;refine az (m:=field (.ref c) 1) (wpAny_field hoc hdc hq (az (wpAny_pure ?_)));exact az (wpAny_mono h (λ binds s₁ h₁=>az (wpAny_mono h₁ (λ env P0 Qa=>az (wpAny_enterFrame Qa.1 QA
  (al (And.intro rfl Qa.2)))) λ zz zz h'=>h')) λ zz zz h'=>h')
end
end Mine
end
section
namespace Mine
section
set_option tactic.hygienic true
universe u
theorem sI{α:Type u}{a b:α}(h:some a=some b):a=b:=Option.some.inj h
end
end Mine
end
section
open PySem PySem.W PyProof.Rows PySem.Spec PySem.Calls
namespace Mine
open LCg
theorem pB:pQ ⟨.builtin "claim.caller" {},none,none,[],none⟩:=⟨λ zz zz=>rfl,λ x hx=>ni hx⟩
theorem mx{R:Result->Shared->Prop}(hreg:s.asleep)
  (h:aB (model prog w) callerA t (λ fin s'=>∃f,fin=.done f/\(R (.ok f) s'/\leftWithCleanup s'.gens=false)) (λ e s'=>R (.error e) s'/\leftWithCleanup s'.gens=false) s) :
  ∃n r s' s'',runN (denote table) prog w n s ⟨t,.builtin "claim.caller" {},default,[]⟩=.halted (outcomeOf r) s'/\
   schedN (denote table) prog w n (.single s ⟨t,.builtin "claim.caller" {},default,[]⟩)=.halted (outcomeOf r) s'/\s'.forget=s''.forget/\R r s'':=by
 have g:Sem.wp (model prog w) ⟨.builtin "claim.caller" {},none,none,[],none⟩ t (Sem.finPost (model prog w) ⟨.builtin "claim.caller" {},none,none,[],none⟩ λ r s'=>R r s'/\leftWithCleanup s'.gens=false) (λ e zz s'=>R (.error e) s'/\leftWithCleanup s'.gens=false) default s:=by
  refine Sem.wp_mono _ _ t (λ fin p' s' h'=>?_) (λ zz zz zz h'=>h') default s (h _ default caller_in pB);(refine ag h' λ f P2 hf=>?_;clear h';obtain rfl:=P2);exact hf
 refine dj (wp_halts_full (M:=model prog w) (R:=R) hreg g) λ n r s₁ P0 hs hn hfo hR=>(cK n r P0 s₁ ⟨hn,hs,hfo,hR⟩)
theorem Al{Qn:Sort _}{Qx:Sort _}{QI:Sort _}{QU:Sort _}{Ra:Sort _}{Rz:Sort _}{Sq:Sort _}{a0 a1 a2 a3 r:Qn->Qx->QI->QU->Ra->Rz->Sq->Prop}{P:Prop}(h:∃x0,∃x1,∃x2,∃x3,∃x4,∃x5,∃x6,a0 x0 x1 x2 x3 x4 x5 x6/\a1 x0 x1 x2 x3 x4 x5 x6/\a2 x0 x1 x2 x3 x4 x5 x6/\a3 x0 x1 x2 x3 x4 x5 x6/\r x0 x1 x2 x3 x4 x5 x6)(k:∀x0 x1 x2 x3 x4 x5 x6,a0 x0 x1 x2 x3 x4 x5 x6->a1 x0 x1 x2 x3 x4 x5 x6->a2 x0 x1 x2 x3 x4 x5 x6->a3 x0 x1 x2 x3 x4 x5 x6->r x0 x1 x2 x3 x4 x5 x6->P):P:=by
 obtain⟨x0,x1,x2,x3,x4,x5,x6,h0,h1,h2,h3,hr⟩:=h;exact k x0 x1 x2 x3 x4 x5 x6 h0 h1 h2 h3 hr
theorem ur{c:ClaimW}{tree:List Value->Sem PySem.Fin}{free:Addr->Prop}(hz:s.asleep)(hgens:s.gens=#[])
  (hspec:∀args,c.pre args=true->WData.layableAll args=true->∀ord:List DictEntry->List DictEntry,(∀l,(ord l).Perm l)->
   ∃vs s₁,layAllW c.records (classAt s.heap) w.params ord args s=some (vs,s₁)/\
    aB (model c.prog w) callerA (tree vs) (λ fin s'=>∃f,fin=.done f/\(c.Ends s args vs s₁ (.ok f) s'/\s'.os=s.os/\AllBare s'.gens/\kept s'.heap))
     (λ e s'=>c.Ends s args vs s₁ (.error e) s'/\s'.os=s.os/\AllBare s'.gens/\kept s'.heap) s₁) :
  c.CallFrom (λ vs=>⟨tree vs,.builtin "claim.caller" {},default,[]⟩) w free gens kept s:=λ args hpre hlay ord hord=>by
 refine aZ (hspec args hpre hlay ord hord) λ vs s₁ hlaid hcode=>?_;have hal:=layAllW_rest _ _ _ hlaid;refine eg (mx (R:=λ r s'=>c.Ends s args vs s₁ r s'/\s'.os=s.os/\kept s'.heap) (Shared.asleep_of_life hal.2.2.2 hz)
  (ax hcode (λ zz zz h=>ag h λ f e h=>⟨f,e,⟨h.1,h.2.1,h.2.2.2⟩,leftWithCleanup_false_of_bare h.2.2.1⟩) λ zz zz h=>⟨⟨h.1,h.2.1,h.2.2.2⟩,leftWithCleanup_false_of_bare h.2.2.1⟩)) λ k r s' s'' hrun hsched hfo hcase hos hkp=>?_
 refine jl (Shared.forget_eq hfo) λ eh zz zz eo zz=>?_;have hcase:=hcase.congr eh;rw[← eh] at hkp;rw[← eo] at hos;have hlife:s'.heap.life=s.heap.life:=(runN_life _ _ _ hrun).trans hal.2.2.2;refine(aq vs s₁ ⟨hlaid,(aI k _ s' ⟨hsched,?_,(λ zz i x hx=>by rw[hgens] at hx;simp at hx),hkp,by exact ac hlife rfl,Shared.rest_eq hos⟩)⟩);refine hcase.imp (λ h=>ag h λ v hr h=>jl h λ d1 d2 d3 d4 d5=>?_) λ h=>bw h λ e ob cls hr h=>jl h λ d1 d2 d3 d4 d5=>?_
 ·exact⟨v,ac hr rfl,d1,d2,d3,λ b o y zz=>d4 b o y,d5⟩
 ·exact aI e ob cls ⟨ac hr rfl,d1,d2,d3,d4,λ b o y zz=>d5 b o y⟩
abbrev H8(q:Program)(loose:List Str)(XP:(Str->Option Value)->Heap->Prop)(YP:World->Heap->Prop)(r:RowW)(d:DefRec)(kwd:List (Str×Expr)):Prop:=
 ∀(w:World) (Qj s₁:Shared) (mg mb:Str->Option Value),Ground q loose r.records XP w Qj mg mb s₁.heap->YP w s₁.heap->∀(a:Addr) (o:Obj) (pm cd doc dV kV:Value),s₁.heap.get? a=some o->
  o.data=.func {docDef d.name d.params d.body d.scope pm cd doc with defaults:=dV,kwdefaults:=kV}->s₁.heap.CodeRec cd d.name->Dflts mg s₁.heap d.params kwd dV kV->mg d.name=some (.ref a)->s₁.gens=#[]->
  ∀(args:List WData) (vals:List Value) (as:List Addr),r.claim.pre args=true->WData.layableAll args=true->ReadsAllW r.records (classAt Qj.heap) s₁.heap vals args as->WellAll w.params s₁.heap vals args->(∀a∈as,(a==sysModules)=false)->
   aB (model r.prog w) callerA (PySem.call (.ref a) vals) (λ v s'=>GoodWG r.claim (classAt Qj.heap) (ExcName.means Qj.heap) args s₁ (.ok (.ret v)) s')
    (λ e s'=>GoodWG r.claim (classAt Qj.heap) (ExcName.means Qj.heap) args s₁ (.error e) s') s₁
theorem PySem.W.holds_open{r:OpenRow}{q:Program}
  (left:LeftO r.prog q loose Xt Yf Ya N) (hY:∀w s,Yf s=Ya w->YP w s.heap) (hYk:∀w h h',YP w h->(∀b o,h.get? b=some o->h'.get? b=some o)->YP w h')
  (hX:∀s,Xt s=true->XP (s.heap.nsMap mainGlobals) s.heap) (hXk:∀mg h h',XP mg h->(∀b o,h.get? b=some o->h'.get? b=some o)->XP mg h')
  (hdef:defOf q r.name=some (d,kwd)) (hp:r.prog.theDef r.name=some (d.params,d.body,d.scope)) (hk:kwWritten? d.params.kwonlyargs d.params.kw_defaults=some kwd) (hRf:∀s,Xt s=true->RecFacts r.records s.heap) (hwr:(!r.writes||r.records.isEmpty)=true)
  (k1:r.wellSaid=true) (ok:(chainsOk q&&opensWell r.prog&&(frees r.toRowW&&r.within.isEmpty))=true) (hb:r.prog.bare) (hw:r.toRowW.promised)
  (call:H8 q loose XP YP r.toRowW d kwd):r.Holds:=by
 refine aD (Bool.and_eq_true_iff.mp ok) λ ok k5=>?_;refine aD (Bool.and_eq_true_iff.mp ok) λ hch o1=>?_;refine aD (Bool.and_eq_true_iff.mp k5) λ k5 k6=>?_;refine jl (frees_parts k5) λ hsame hu ha hap hm=>?_;refine⟨k1,hw,⟨hb,o1,by refine(?_:r.toRowW.makers.map _=[]);refine ac hm ?_;rfl⟩,hw.witness,λ w=>⟨(left.behind hX hch w).1,λ s' hs'=>?_⟩⟩;refine ny ((left.behind (XP:=λ mg h=>XP mg h/\RecFacts r.records h) (λ s hs=>⟨hX s hs,hRf s hs⟩) hch w).2 s' hs') λ Qj hf hg0 s hT hz hgens hg G00 y=>?_;have G0:Ground q loose [] XP w s (s.heap.nsMap mainGlobals) (s.heap.nsMap builtinsNs) s.heap:=⟨G00.T,G00.B,G00.D,G00.TE,G00.TD,G00.W,G00.X.1,G00.cls,G00.has,G00.apart,G00.once,G00.K⟩
 have RF:=G00.X.2;have hT':=hT;refine⟨Qj,hf,hg0,s,hT,λ n hn=>?_,RF.1,RF.2.1,?_⟩
 ·obtain rfl:n=r.name:=by split at hn<;>simp_all
  exact pinned_of_view hg G0 hdef hp hk
 have hgens:s.gens=#[]:=Array.eq_empty_of_size_eq_zero (beq_iff_eq.mp hgens);have G:Ground q loose r.records XP w s _ _ s.heap:=RF.ground G0;refine ur (c:=r.toRowW.claim) hz hgens λ args hpre hlay ord hord=>?_;(refine lW (layAllW_isSome (P:=w.params) (ord:=ord) G.has args r.toRowW.args s (pre_splitW hpre).1) λ Qc hlaid=>?_;obtain⟨vs,s₁⟩:=Qc);have keeps:=layAllW_keeps _ _ _ hlaid;have hal:=layAllW_rest _ _ _ hlaid;refine cC (reads_layAllW hord _ _ _ hlaid hlay s₁.heap (λ zz zz e=>e)) λ as hrd hin hold=>?_;have L:Laid r.records w s s₁ args vs as:=⟨⟨ord,hord,hlaid⟩,hrd,hin,hold,keeps,hal.1.trans hgens,hal.2.2.1⟩
 have G₁:=G.keeps hXk keeps;refine Al (G₁.fn hdef) λ a o pm cd doc dV kV h1 h2 h3 h4 h5=>?_;have h:=call w s s₁ _ _ G₁ (hYk _ _ _ (hY w s y) keeps) a o pm cd doc dV kV h2 h3 h4 h5 (defOf_name hdef▸h1) L.gens args vs as hpre hlay L.reads L.well (L.low G.low);have hi:=ident_freeW hu ha hap;have hwi:r.toRowW.claim.within=[]:=iE k6;refine(aq vs s₁ ⟨hlaid,az (wpAny_nsGet G₁.T.g ?_)⟩);refine ac (show s.heap.nsMap mainGlobals r.toRowW.name=some (.ref a) from defOf_name hdef▸h1) ?_;refine(?_:aB _ _ (PySem.call (.ref a) vs >>= λ x=>ret x) _ _ _);refine aj (ax h (λ v s' g=>al ⟨.ret v,rfl,?_⟩) λ e s' g=>?_)
 ·have z:=g.laid (c:=r.toRowW.claim) hsame hwi hi L;exact⟨z.1,z.2.1,z.2.2,λ q=>⟨namesKept_of hT' hg _ keeps g.2.1.old,noTable hwr q⟩⟩
 ·have z:=g.laid (c:=r.toRowW.claim) hsame hwi hi L;exact⟨z.1,z.2.1,z.2.2,λ q=>⟨namesKept_of hT' hg _ keeps g.2.1.old,noTable hwr q⟩⟩
end Mine
end
section
open PySem PySem.W PyProof.Rows
set_option Elab.async false
namespace Mine
def q0 : PySem.Str := Str.ofString "a"
theorem q1 : q0 = q0 := rfl
name_quick tw16349216596472256690 for q0 by q1
name_quick tw10138199336372458610 for q0 by q1
name_quick tw18410474027866654770 for q0 by q1
name_quick tw9151444980202551346 for q0 by q1
name_quick tw4407734736301137906 for q0 by q1
name_quick tw16645262185327669138 for q0 by q1
name_quick tw4552823106982906706 for q0 by q1
name_quick tw951843321253372498 for q0 by q1
name_quick tw10190238754879171395 for q0 by q1
name_quick tw16366562015402752707 for q0 by q1
name_quick tw4978915544186085027 for q0 by q1
name_quick tw14096952598973939363 for q0 by q1
name_quick tw136631920214876835 for q0 by q1
name_quick tw3365093317950918147 for q0 by q1
name_quick tw7286323032743288035 for q0 by q1
name_quick tw11817470609975844035 for q0 by q1
name_quick tw13725850141900786883 for q0 by q1
name_quick tw15941990521404812483 for q0 by q1
name_quick tw11788150170368784547 for q0 by q1
name_quick tw1688077112079251587 for q0 by q1
name_quick tw15475462885187679331 for q0 by q1
name_quick tw505943868828395459 for q0 by q1
name_quick tw5135500740108067664 for q0 by q1
name_quick tw18428756778242999024 for q0 by q1
name_quick tw4549671731633647312 for q0 by q1
name_quick tw535072334866317008 for q0 by q1
name_quick tw3460871413274159568 for q0 by q1
name_quick tw17070079461858475408 for q0 by q1
name_quick tw2478078296215019888 for q0 by q1
name_quick tw6834602518627153040 for q0 by q1
name_quick tw2078703811421203504 for q0 by q1
name_quick tw6967401301877209104 for q0 by q1
name_quick tw17945601986348317505 for q0 by q1
name_quick tw13236226663087606529 for q0 by q1
name_quick tw15079194523842364033 for q0 by q1
name_quick tw16916688483869632129 for q0 by q1
name_quick tw15195428891847259777 for q0 by q1
name_quick tw17913803186225011329 for q0 by q1
name_quick tw2315820567201803617 for q0 by q1
name_quick tw16180582048198870337 for q0 by q1
name_quick tw14821650378409806113 for q0 by q1
name_quick tw5721027456603625697 for q0 by q1
name_quick tw5386766301290243201 for q0 by q1
name_quick tw12660628722211587041 for q0 by q1
name_quick tw7581816359482902497 for q0 by q1
name_quick tw3825061337978711158 for q0 by q1
name_quick tw5082074563857973206 for q0 by q1
name_quick tw9467589175468403638 for q0 by q1
name_quick tw9082586571710850966 for q0 by q1
name_quick tw15594154523371331382 for q0 by q1
name_quick tw3264259588550801142 for q0 by q1
name_quick tw17015423121036801654 for q0 by q1
name_quick tw3142773779024712118 for q0 by q1
name_quick tw7573151900890175926 for q0 by q1
name_quick tw3619232141914619222 for q0 by q1
name_quick tw14433975572909055671 for q0 by q1
name_quick tw13670142967304031831 for q0 by q1
name_quick tw8800560270773162519 for q0 by q1
name_quick tw5854881644878751223 for q0 by q1
name_quick tw10308316962582663543 for q0 by q1
name_quick tw8902219603052485911 for q0 by q1
name_quick tw15663404670287596823 for q0 by q1
name_quick tw15194748194917737719 for q0 by q1
name_quick tw8125055898148337911 for q0 by q1
name_quick tw8989982439271903415 for q0 by q1
name_quick tw13200701876752130231 for q0 by q1
name_quick tw2670528217467546775 for q0 by q1
name_quick tw17341736924252097559 for q0 by q1
name_quick tw878741703135273975 for q0 by q1
name_quick tw14971970265804392439 for q0 by q1
name_quick tw13145125596335152023 for q0 by q1
name_quick tw6909570525239066004 for q0 by q1
name_quick tw2862820112641550484 for q0 by q1
name_quick tw15806122291839087668 for q0 by q1
name_quick tw15450981722951097364 for q0 by q1
name_quick tw7619357645376055252 for q0 by q1
name_quick tw6363645014702824404 for q0 by q1
name_quick tw921073385446354868 for q0 by q1
name_quick tw8430678208038309684 for q0 by q1
name_quick tw1041845030581493396 for q0 by q1
name_quick tw7094674258960923220 for q0 by q1
name_quick tw8537084889766193716 for q0 by q1
name_quick tw7503421922109321716 for q0 by q1
name_quick tw1218959903707654005 for q0 by q1
name_quick tw725871291056497461 for q0 by q1
name_quick tw13505292571300825877 for q0 by q1
name_quick tw17537794083376710389 for q0 by q1
name_quick tw11964429278604863157 for q0 by q1
name_quick tw4338827642740501141 for q0 by q1
name_quick tw392140993173905013 for q0 by q1
name_quick tw12237943961548833269 for q0 by q1
name_quick tw10470071008263537045 for q0 by q1
name_quick tw10528696920762540405 for q0 by q1
name_quick tw12809422525583811893 for q0 by q1
name_quick tw18163708392712065173 for q0 by q1
name_quick tw1536587703002861866 for q0 by q1
name_quick tw3094477031063562474 for q0 by q1
name_quick tw1320183511955256522 for q0 by q1
name_quick tw7082770336023389322 for q0 by q1
name_quick tw5228443966233409354 for q0 by q1
name_quick tw8488268690174267210 for q0 by q1
name_quick tw9800571698397750058 for q0 by q1
name_quick tw12679591844961189642 for q0 by q1
name_quick tw3768068617246420682 for q0 by q1
name_quick tw15034313371233782410 for q0 by q1
name_quick tw10918131014791663178 for q0 by q1
name_quick tw5349121933718820234 for q0 by q1
name_quick tw3436264866546951355 for q0 by q1
name_quick tw7231524377534056507 for q0 by q1
name_quick tw16789607257665165339 for q0 by q1
name_quick tw13215998728584607739 for q0 by q1
name_quick tw13833065179229638619 for q0 by q1
name_quick tw3953757239420563355 for q0 by q1
name_quick tw10885399304501877467 for q0 by q1
name_quick tw10455430044892516648 for q0 by q1
name_quick tw15423634916342008072 for q0 by q1
name_quick tw10314498396905981064 for q0 by q1
name_quick tw5770868932273138760 for q0 by q1
name_quick tw9794667896261083176 for q0 by q1
name_quick tw17111948838632640456 for q0 by q1
name_quick tw11166208814598095752 for q0 by q1
name_quick tw7112787868492120936 for q0 by q1
name_quick tw16697116713213952808 for q0 by q1
name_quick tw5882768191206486792 for q0 by q1
name_quick tw17815586953681464072 for q0 by q1
name_quick tw6832808476680081064 for q0 by q1
name_quick tw9893030918988833448 for q0 by q1
name_quick tw11767421526060770920 for q0 by q1
name_quick tw9285146279643344392 for q0 by q1
name_quick tw13900631225919944168 for q0 by q1
name_quick tw16877100571367274856 for q0 by q1
name_quick tw4304570678033467752 for q0 by q1
name_quick tw8719427161674164953 for q0 by q1
name_quick tw15007238320947547705 for q0 by q1
name_quick tw12756057524590257761 for q0 by q1
name_quick tw2759451637364818457 for q0 by q1
name_quick tw3427515755752030745 for q0 by q1
name_quick tw17280976486791472633 for q0 by q1
name_quick tw10650810973499830745 for q0 by q1
name_quick tw17027116597318869337 for q0 by q1
name_quick tw6683783046931543321 for q0 by q1
name_quick tw13776390136698705113 for q0 by q1
name_quick tw16039550372008468697 for q0 by q1
name_quick tw17988542015724977305 for q0 by q1
name_quick tw12647630874787467225 for q0 by q1
name_quick tw139799656371268569 for q0 by q1
name_quick tw148260917463534702 for q0 by q1
name_quick tw18340240734955500558 for q0 by q1
name_quick tw441327347791068078 for q0 by q1
name_quick tw2401699919119007470 for q0 by q1
name_quick tw900395245841561262 for q0 by q1
name_quick tw16451151925259046446 for q0 by q1
name_quick tw9458956999447867950 for q0 by q1
name_quick tw4318056027017086478 for q0 by q1
name_quick tw5521996953922150894 for q0 by q1
name_quick tw7276740287692124622 for q0 by q1
name_quick tw724751600484774222 for q0 by q1
name_quick tw7399820185058455694 for q0 by q1
name_quick tw12488000419048109807 for q0 by q1
name_quick tw6608546151821533871 for q0 by q1
name_quick tw15560500314895047343 for q0 by q1
name_quick tw11957962974430299695 for q0 by q1
name_quick tw16758808235637498351 for q0 by q1
name_quick tw4434333111790514575 for q0 by q1
name_quick tw13721567128424951087 for q0 by q1
name_quick tw9575731206691268911 for q0 by q1
name_quick tw9206804518496725263 for q0 by q1
name_quick tw2948108419219029167 for q0 by q1
name_quick tw912392155897948271 for q0 by q1
name_quick tw1267870562809915468 for q0 by q1
name_quick tw1184552218554016812 for q0 by q1
name_quick tw7229665172594901996 for q0 by q1
name_quick tw4879560196417449868 for q0 by q1
name_quick tw2427829803689571180 for q0 by q1
name_quick tw6434265647005701932 for q0 by q1
name_quick tw2134368852220247820 for q0 by q1
name_quick tw14979626087600564940 for q0 by q1
name_quick tw667198328695590252 for q0 by q1
name_quick tw12494133203773749484 for q0 by q1
name_quick tw4071324889030633612 for q0 by q1
name_quick tw17020146562604978829 for q0 by q1
name_quick tw608726401823008365 for q0 by q1
name_quick tw11838138170533393997 for q0 by q1
name_quick tw12821735335276811757 for q0 by q1
name_quick tw16374537267813192141 for q0 by q1
name_quick tw13581749221687468397 for q0 by q1
name_quick tw482417222145425773 for q0 by q1
name_quick tw10054680653034459469 for q0 by q1
name_quick tw4042386549635913901 for q0 by q1
name_quick tw3952652319720093869 for q0 by q1
name_quick tw10833955939284561965 for q0 by q1
name_quick tw9137105182441381901 for q0 by q1
name_quick tw9305782018832362445 for q0 by q1
name_quick tw14544052848187043789 for q0 by q1
name_quick tw11378322030455005005 for q0 by q1
name_quick tw15766043655864335149 for q0 by q1
name_quick tw3282434896037501709 for q0 by q1
name_quick tw11892598404827812706 for q0 by q1
name_quick tw4558998842232669794 for q0 by q1
name_quick tw15215539614974913122 for q0 by q1
name_quick tw3797612339304411714 for q0 by q1
name_quick tw4797165386629745026 for q0 by q1
name_quick tw17000458434675057986 for q0 by q1
name_quick tw12835720964997663042 for q0 by q1
name_quick tw9594665118957945026 for q0 by q1
name_quick tw12850107946570832962 for q0 by q1
name_quick tw3856783459128436802 for q0 by q1
name_quick tw14909702598903578594 for q0 by q1
name_quick tw10919533547850550483 for q0 by q1
name_quick tw1708024556718086227 for q0 by q1
name_quick tw1503297043503765363 for q0 by q1
name_quick tw8588708647495961459 for q0 by q1
name_quick tw12888383288653087603 for q0 by q1
name_quick tw13251646731365433171 for q0 by q1
name_quick tw14874922208557711187 for q0 by q1
name_quick tw2718901123391026995 for q0 by q1
name_quick tw5732905514179830355 for q0 by q1
name_quick tw14112274594779413971 for q0 by q1
name_quick tw10227693086864044499 for q0 by q1
name_quick tw15066959818950650227 for q0 by q1
name_quick tw4299136966843209011 for q0 by q1
name_quick tw16413963553889246368 for q0 by q1
name_quick tw9673203406766833760 for q0 by q1
name_quick tw10274401152429577152 for q0 by q1
name_quick tw12177649209318274912 for q0 by q1
name_quick tw16328912562034613984 for q0 by q1
name_quick tw5976474108018559520 for q0 by q1
name_quick tw15376083050721069600 for q0 by q1
name_quick tw6891000109920058784 for q0 by q1
name_quick tw7323676302269181137 for q0 by q1
name_quick tw8075568018651887793 for q0 by q1
name_quick tw17517737089405305841 for q0 by q1
name_quick tw17057272898397164401 for q0 by q1
name_quick tw16176465441171805009 for q0 by q1
name_quick tw6794992719758384945 for q0 by q1
name_quick tw2883484788219351825 for q0 by q1
name_quick tw7496433998918960881 for q0 by q1
name_quick tw8047484207015712433 for q0 by q1
name_quick tw6380047634161181297 for q0 by q1
name_quick tw11796506867022685745 for q0 by q1
name_quick tw11625766737575182897 for q0 by q1
name_quick tw14285029430470858289 for q0 by q1
name_quick tw17434858337260393937 for q0 by q1
name_quick tw8649964590619651473 for q0 by q1
name_quick tw17172517015917474193 for q0 by q1
name_quick tw11790162104776037713 for q0 by q1
name_quick tw5697894365363955025 for q0 by q1
name_quick tw17522200706408893777 for q0 by q1
name_quick tw7275051467321613617 for q0 by q1
name_quick tw14973007898608030118 for q0 by q1
name_quick tw15133509641930783078 for q0 by q1
name_quick tw8253183596043897158 for q0 by q1
name_quick tw12540713548012372134 for q0 by q1
name_quick tw13512673800721320934 for q0 by q1
name_quick tw7250012664060256230 for q0 by q1
name_quick tw7987952416473584550 for q0 by q1
name_quick tw6607189417530752870 for q0 by q1
name_quick tw6944952908185719654 for q0 by q1
name_quick tw17842620306162639686 for q0 by q1
name_quick tw764782834095389478 for q0 by q1
name_quick tw5248340912204065574 for q0 by q1
name_quick tw16145008321745377990 for q0 by q1
name_quick tw4933834842325187142 for q0 by q1
name_quick tw7581352650102555174 for q0 by q1
name_quick tw7543618554067911206 for q0 by q1
name_quick tw14952990662201256454 for q0 by q1
name_quick tw939162767068533735 for q0 by q1
name_quick tw10073347824450446311 for q0 by q1
name_quick tw13252181687094117063 for q0 by q1
name_quick tw15980859228951719591 for q0 by q1
name_quick tw14305139224198610471 for q0 by q1
name_quick tw11682084944484805031 for q0 by q1
name_quick tw11108263761283441063 for q0 by q1
name_quick tw6550987210724342151 for q0 by q1
name_quick tw11588390666370768167 for q0 by q1
name_quick tw2968979199505139716 for q0 by q1
name_quick tw7269565832213808900 for q0 by q1
name_quick tw15168306246750427876 for q0 by q1
name_quick tw10042830170769951172 for q0 by q1
name_quick tw12734952128020822468 for q0 by q1
name_quick tw3256587380925597060 for q0 by q1
name_quick tw4525517667737911620 for q0 by q1
name_quick tw4039474712603431140 for q0 by q1
name_quick tw8704618095886561957 for q0 by q1
name_quick tw15323854079317868165 for q0 by q1
name_quick tw18350330562280901221 for q0 by q1
name_quick tw2039238271031011813 for q0 by q1
name_quick tw2735471455948067141 for q0 by q1
name_quick tw4224760802259116069 for q0 by q1
name_quick tw16049961110935095269 for q0 by q1
name_quick tw2660918139993853925 for q0 by q1
name_quick tw6519424955469430661 for q0 by q1
name_quick tw9492235034089005946 for q0 by q1
name_quick tw15157221202141545114 for q0 by q1
name_quick tw8119918657739134586 for q0 by q1
name_quick tw15059462757989803610 for q0 by q1
name_quick tw3355348695024010778 for q0 by q1
name_quick tw8098380416015320538 for q0 by q1
name_quick tw3820604794100220378 for q0 by q1
name_quick tw10589684114461592954 for q0 by q1
name_quick tw6012508502120743258 for q0 by q1
name_quick tw4824431525194463578 for q0 by q1
name_quick tw470574548607681690 for q0 by q1
name_quick tw682011567655089306 for q0 by q1
name_quick tw11518781747449614426 for q0 by q1
name_quick tw13551572312386263098 for q0 by q1
name_quick tw13329733208086693882 for q0 by q1
name_quick tw17954736447514056666 for q0 by q1
name_quick tw6148621092414575339 for q0 by q1
name_quick tw8658103293671471659 for q0 by q1
name_quick tw13002492023102617099 for q0 by q1
name_quick tw5565278806992967083 for q0 by q1
name_quick tw11013792430000457035 for q0 by q1
name_quick tw5450187663091677483 for q0 by q1
name_quick tw16966814322356759819 for q0 by q1
name_quick tw383695940523520267 for q0 by q1
name_quick tw14185684948912167051 for q0 by q1
name_quick tw5037115443357749227 for q0 by q1
name_quick tw13016732220969518872 for q0 by q1
name_quick tw9236875199018929784 for q0 by q1
name_quick tw7198390536060210744 for q0 by q1
name_quick tw10045867985992453528 for q0 by q1
name_quick tw14168537005229113720 for q0 by q1
name_quick tw2506853364499732696 for q0 by q1
name_quick tw5964786160019209400 for q0 by q1
name_quick tw3891137856419664920 for q0 by q1
name_quick tw1393629259489396696 for q0 by q1
name_quick tw10938465397075749097 for q0 by q1
name_quick tw7788680626742099145 for q0 by q1
name_quick tw11045092711201947657 for q0 by q1
name_quick tw8796240567053077481 for q0 by q1
name_quick tw12172078356533094185 for q0 by q1
name_quick tw1210750091971509897 for q0 by q1
name_quick tw14907048974825807369 for q0 by q1
name_quick tw2001226814458364393 for q0 by q1
name_quick tw17000155066101142889 for q0 by q1
name_quick tw10362974711232342345 for q0 by q1
name_quick tw15736541856241217950 for q0 by q1
name_quick tw3636048126100218174 for q0 by q1
name_quick tw2370425770031549630 for q0 by q1
name_quick tw11277716924127702174 for q0 by q1
name_quick tw1962928258387122110 for q0 by q1
name_quick tw13335737130258781183 for q0 by q1
name_quick tw11452132507678324671 for q0 by q1
name_quick tw11994158751524154303 for q0 by q1
name_quick tw6448080314894763839 for q0 by q1
name_quick tw1139862187096482527 for q0 by q1
name_quick tw6603568321005784799 for q0 by q1
name_quick tw9011979029575296479 for q0 by q1
name_quick tw12973657651903071711 for q0 by q1
name_quick tw16349804527192203551 for q0 by q1
name_quick tw4405960384096086239 for q0 by q1
name_quick tw5853609219237828028 for q0 by q1
name_quick tw17853915177807527196 for q0 by q1
name_quick tw5345256250457102556 for q0 by q1
name_quick tw7365555872484859036 for q0 by q1
name_quick tw3504847659760329788 for q0 by q1
name_quick tw14427280190107063356 for q0 by q1
name_quick tw10181792811725400092 for q0 by q1
name_quick tw16241802466949684156 for q0 by q1
name_quick tw4800724452203346748 for q0 by q1
name_quick tw13562626542330456828 for q0 by q1
name_quick tw13317431791736044220 for q0 by q1
name_quick tw7745614565497352828 for q0 by q1
name_quick tw6144853644547557980 for q0 by q1
name_quick tw18345786424863182364 for q0 by q1
name_quick tw16296994325663420285 for q0 by q1
name_quick tw17814930658547583709 for q0 by q1
name_quick tw13902233598862641821 for q0 by q1
name_quick tw7469732015759309437 for q0 by q1
name_quick tw11186114360453789277 for q0 by q1
name_quick tw9292931687148149277 for q0 by q1
name_quick tw8881496252177385917 for q0 by q1
name_quick tw13358618909089187005 for q0 by q1
name_quick tw18263319221461684349 for q0 by q1
name_quick tw7223099382166521180 for q0 by q1
name_quick tw12880481315911338174 for q0 by q1
name_quick tw9787396351842916947 for q0 by q1
name_quick tw16644606511662114574 for q0 by q1
name_quick tw17101871299007795629 for q0 by q1
name_quick tw16942194440817826258 for q0 by q1
name_quick tw5149714755402479525 for q0 by q1
name_quick tw973662469405803806 for q0 by q1
name_quick tw10379131730601215995 for q0 by q1
name_quick tw14323765505736481980 for q0 by q1
name_quick tw4575980220486274672 for q0 by q1
name_quick tw6993175162768986339 for q0 by q1
name_quick tw6179359751918216688 for q0 by q1
name_quick tw9265879793445154701 for q0 by q1
name_quick tw17899373020297197333 for q0 by q1
name_quick tw13580328829973926956 for q0 by q1
name_quick tw2902314222560053993 for q0 by q1
name_quick tw11707371222683016368 for q0 by q1
name_quick tw2378363196638174374 for q0 by q1
name_quick tw7081425507203772304 for q0 by q1
name_quick tw4904739604578439355 for q0 by q1
name_quick tw18350638575300117064 for q0 by q1
name_quick tw12224578244612797663 for q0 by q1
name_quick tw8620020772036689432 for q0 by q1
name_quick tw13640514254501968386 for q0 by q1
name_quick tw13915792640404377917 for q0 by q1
name_quick tw2387720566874501970 for q0 by q1
name_quick tw17596809139577655471 for q0 by q1
name_quick tw13102660428377437172 for q0 by q1
name_quick tw13912434898499826684 for q0 by q1
name_quick tw6587116730350146372 for q0 by q1
name_quick tw17071476683966804577 for q0 by q1
name_quick tw17139780236743587250 for q0 by q1
name_quick tw17964007177503468958 for q0 by q1
name_quick tw12233582284571471492 for q0 by q1
name_quick tw15542691292777871779 for q0 by q1
name_quick tw9674257727999782656 for q0 by q1
name_quick tw8579058602437062094 for q0 by q1
name_quick tw325292655437039998 for q0 by q1
name_quick tw189603312586018693 for q0 by q1
name_quick tw9979284746773624096 for q0 by q1
name_quick tw6714822604882049554 for q0 by q1
name_quick tw13036272033356848781 for q0 by q1
name_quick tw16869277618539721502 for q0 by q1
name_quick tw1544652992362985085 for q0 by q1
name_quick tw2922074901204462755 for q0 by q1
name_quick tw1204117194425446250 for q0 by q1
name_quick tw10670733350059645105 for q0 by q1
name_quick tw607167704815816724 for q0 by q1
name_quick tw1829445100760108279 for q0 by q1
name_quick tw5646442142991981755 for q0 by q1
name_quick tw3105397867545767578 for q0 by q1
name_quick tw8732485361984058174 for q0 by q1
name_quick tw7670514497116975361 for q0 by q1
name_quick tw2958062672499776758 for q0 by q1
name_quick tw17774800907425398282 for q0 by q1
name_quick tw17765544955259793912 for q0 by q1
name_quick tw12095823642532355627 for q0 by q1
name_quick tw16874561944515371726 for q0 by q1
name_quick tw4921902886906138986 for q0 by q1
name_quick tw9575948337506731703 for q0 by q1
name_quick tw17100903815162463580 for q0 by q1
name_quick tw11328821685186248670 for q0 by q1
name_quick tw5303519439607764402 for q0 by q1
name_quick tw3118938333895590913 for q0 by q1
name_quick tw12025208970609079342 for q0 by q1
name_quick tw14981143343336467331 for q0 by q1
name_quick tw14210447440969649564 for q0 by q1
name_quick tw11462045893675790159 for q0 by q1
name_quick tw7098571738820278039 for q0 by q1
name_quick tw15199281503961881116 for q0 by q1
name_quick tw1419416864934026935 for q0 by q1
set_option maxRecDepth 100000 in
set_option maxHeartbeats 8000000 in
open_top hd for PySem.Challenge.rw_og0284_01
end Mine
end
section
open PySem PySem.W PyProof.Rows PySem.Spec PySem.Calls
namespace Mine
section
set_option tactic.hygienic true
structure Ends(P:Prop):Prop where
 out:P
abbrev lB(h h':Heap):Prop:=∀b o,h.get? b=some o->h'.get? b=some o
section
variable{prog:Program}{w:World}{A₀ A:Around}{s:Shared}{base h₀:Heap}{outer:List Env}{L:Addr}{m:Str->Option Value}{env:Env}{K:Frag}{p:Program}{loose:List Str}{mean:ExcName->Option Value}{mg mb:Str->Option Value}
 {R:Result->Shared->Prop} {name qual:Str} {params:Arguments} {body:List Stmt} {scope:Scope} {dV kV doc pm Qr ct oc:Value} {an od:Option Addr} {QP:Array (Option Value)} {f:Addr} {args:Args}
end
end
end Mine
end
section
open PySem PySem.W PyProof.Rows PySem.Spec PySem.Calls
namespace Mine
open LCg
structure bD(prog:Program)(w:World)(A:Around)(xv:Value)(h:Heap)(n:Nat)(P:Nat->Value->Prop)(dep:List Addr):Prop where
  has:∀b∈dep,∃o,h.get? b=some o
  iter:∀(s:Shared) (Q:Value->Shared->Prop) (E:Value->Shared->Prop),s.heap=h->
    (∀(o:Obj) (fp:List Addr) (St:Nat->Heap->Prop),o.isFreed=false->Walks prog w A s.heap.objs.size fp [s.heap.objs.size] n P St->(∀b∈fp,b=s.heap.objs.size\/b∈dep)->St 0 (s.heap.push o)->
      (∀i h,St i h->∃o,h.get? s.heap.objs.size=some o)->
      (∀target i (s':Shared) v (Q':Unit->Shared->Prop) (E':Value->Shared->Prop),St i s'.heap->Q' () s'->wpAny (model prog w) A (letOwnedTupleGo target (.ref s.heap.objs.size) v) Q' E' s')->
      Q (.ref s.heap.objs.size) {s with heap:=s.heap.push o})->wpAny (model prog w) A (pyIter xv) Q E s
section
variable{prog:Program}{w:World}{A:Around}{h:Heap}
theorem gJ(ho:s.heap.get? I=some o)(hc:o.cls=.type n)(hd:o.data=.fields vs)
    (hn:(["enumerate","zip","dict_itemiterator","dict_reverseitemiterator","odict_iterator","itertools.zip_longest","itertools.pairwise"].contains n)=false) (h:Q () s) :
    wpAny (model prog w) A (letOwnedTupleGo target (.ref I) v) Q E s:=by
  unfold letOwnedTupleGo;split
  · cases v<;>first
      | exact wpAny_pure h
      | (refine wpAny_bind (wpAny_load ho ?_)
         refine ac hc (ac hd ?_);dsimp only;refine ac hn (ac (Bool.false_and _) ?_);refine ac (if_neg Bool.false_ne_true)<|wpAny_pure h)
  · cases v<;>first
      | exact wpAny_pure h
      | (refine wpAny_bind (wpAny_load ho ?_)
         refine ac hc (ac hd ?_);dsimp only;refine ac hn (ac (Bool.false_and _) ?_);refine ac (if_neg Bool.false_ne_true)<|wpAny_pure h)
  · exact wpAny_pure h
theorem bD.bytes(hh:A.handled=none):bD prog w A (.bytes b t) h b.size (λ i v=>∃c u,b[i]?=some c/\v=.int (c.toNat:Int) u) [] where
  has:=λ zz hb=>ni hb
  iter:=λ s Q E e hQ=>by
    refine KBw.pyIter_bytes (hQ _ _ _ rfl (KBw.walks hh s.heap.objs.size b t) (λ b' hb=>.inl (mS hb)) ⟨_,Heap.get?_push_size _ rfl,rfl,rfl⟩ (λ i h st=>by(refine ag st λ o e zz=>?_;clear st);exact⟨o,e⟩) ?_);rintro target i s' v Q' E' ⟨o,ho,hc,hd⟩ hq;exact gJ ho hc hd (by decide) hq
theorem bD.list(hh:A.handled=none)(hl:h.IsList l items):bD prog w A (.ref l) h items.size (λ i v=>items[i]?=some v) [l] where
  has:=λ b hb=>by refine ac (mS hb) ?_;(refine ag hl λ o e zz=>?_;clear hl);exact⟨o,e⟩
  iter:=λ s Q E e hQ=>by
    subst e;have hlt:l<s.heap.objs.size:=by(refine ag hl λ zz e zz=>?_;clear hl);exact Heap.lt_size e
    refine wpAny_pyIter_list hl (hQ _ _ _ rfl (Walks.list hh s.heap.objs.size l (Nat.ne_of_lt hlt) items) (λ b' hb=>?_) ⟨⟨_,Heap.get?_push_size _ rfl,rfl,rfl⟩,hl.push _⟩ (λ i h st=>by refine ag st.1 λ o e zz=>?_;exact⟨o,e⟩) ?_)
    · rcases mC hb with e|hb
      · exact .inl e
      · exact .inr hb
    · rintro target i s' v Q' E' ⟨⟨o,ho,hc,hd⟩,_⟩ hq;exact gJ ho hc hd (by decide) hq
theorem bD.tuple(hh:A.handled=none)(hl:h.IsTuple l items):bD prog w A (.ref l) h items.size (λ i v=>items[i]?=some v) [l] where
  has:=λ b hb=>by refine ac (mS hb) ?_;(refine ag hl λ o e zz=>?_;clear hl);exact⟨o,e⟩
  iter:=λ s Q E e hQ=>by
    subst e;have hlt:l<s.heap.objs.size:=by(refine ag hl λ zz e zz=>?_;clear hl);exact Heap.lt_size e
    refine wpAny_pyIter_tuple hl (hQ _ _ _ rfl (Walks.tuple hh s.heap.objs.size l (Nat.ne_of_lt hlt) items) (λ b' hb=>?_) ⟨⟨_,Heap.get?_push_size _ rfl,rfl,rfl⟩,hl.push _⟩ (λ i h st=>by refine ag st.1 λ o e zz=>?_;exact⟨o,e⟩) ?_)
    · rcases mC hb with e|hb
      · exact .inl e
      · exact .inr hb
    · rintro target i s' v Q' E' ⟨⟨o,ho,hc,hd⟩,_⟩ hq;exact gJ ho hc hd (by decide) hq
theorem bD.dict{K:Type}[DecidableEq K]{knd:KeyKind prog w K}{kvs:List (K×Value)}(hh:A.handled=none)(hd:(d==sysModules)=false)(hm:h.DictOf knd d kvs) :
    bD prog w A (.ref d) h kvs.length (λ i v=>∃k x,kvs[i]?=some (k,x)/\knd.is k v=true) [d] where
  has:=λ b hb=>by refine ac (mS hb) ?_;(refine bw hm λ o zz zz e zz=>?_;clear hm);exact⟨o,e⟩
  iter:=λ s Q E e hQ=>by
    subst e;refine aA hm.dictAt λ ep hm=>wpAny_pyIter_dict hd hm (hQ _ _ _ rfl (Walks.dictKeys hh s.heap.objs.size d (Nat.ne_of_lt hm.lt_size) kvs ep) (λ b' hb=>?_) ⟨⟨_,Heap.get?_push_size _ rfl,rfl,rfl⟩,hm.push _⟩ (λ i h st=>by refine ag st.1 λ o e zz=>?_;exact⟨o,e⟩) ?_)
    · rcases mC hb with e|hb
      · exact .inl e
      · exact .inr hb
    · rintro target i s' v Q' E' ⟨⟨o,ho,hc,hd⟩,_⟩ hq;exact gJ ho hc hd (by decide) hq
end
section
variable{prog:Program}{w:World}{A:Around}{E:Value->Shared->Prop}{s:Shared}{h₀:Heap}{env:Env}{m:Str->Option Value}{news:List (Addr×Obj)}
end
section
variable{prog:Program}{w:World}{A:Around}{E:Value->Shared->Prop}{s:Shared}{h₀:Heap}{L:Addr}{m:Str->Option Value}{env:Env}{news:List (Addr×Obj)}
abbrev i8(ji:List Expr)(cenv:Env):Sem Bool:=forIn ji true λ c r=>if r=true then do let ok ← isTrue c cenv (eval c cenv);pure (ForInStep.yield ok) else pure (ForInStep.yield r)
end
section
variable{prog:Program}{w:World}{A:Around}{E:Value->Shared->Prop}{s:Shared}{h₀:Heap}{L:Addr}{m:Str->Option Value}{news:List (Addr×Obj)}
theorem wJ{items:List Value}(j:Nat)(hk:k=(j:Int))(hlt:j<1000)(ht:IsTup s.heap t items.toArray)
  (hx:items[j]?=some x) (h:Q x s)
  (hs:subscripted QM false (.ref t) (.int k u)=operate [.ref t,.int k u] (getItem (.ref t) (.int k u)):=by with_unfolding_all rfl) :
  wpAny (model prog w) A (subscriptTail value QM (.ref t) (.int k u)) Q E s:=by
 subst hk;refine item_tupleT ht (by lia) (by lia) (seqIndex_of (by lia) ?_) (by simpa using hx) h hs;have:j<items.length:=by
  rcases Nat.lt_or_ge j items.length with h|h
  ·exact h
  ·rw[List.getElem?_eq_none h] at hx;exact dC hx
 lia
theorem tZ{items:List Value}(j:Nat)(hk:k=(j:Int))(hlt:j<1000)(ht:s.heap.IsList t items.toArray)
  (hx:items[j]?=some x) (h:Q x s)
  (hs:subscripted QM false (.ref t) (.int k u)=operate [.ref t,.int k u] (getItem (.ref t) (.int k u)):=by with_unfolding_all rfl) :
  wpAny (model prog w) A (subscriptTail value QM (.ref t) (.int k u)) Q E s:=by
 subst hk;exact tail_any ht.typeIs slot_list_getitem.lookup (wpAny_getItem_list ht (by lia) (by lia) (by simpa using hx) h) hs
end
def yr(dom:List Addr)(h h':Heap):Prop:=∀b o,b∉dom->h.get? b=some o->h'.get? b=some o
theorem yr.fr(k:yr dom h h')(F:Fr h₀ L h m)(hL:L∉dom)(h0:∀a∈dom,h₀.get? a=none):Fr h₀ L h' m:=by
 refine bw F.ns λ oL es ep hl r=>⟨(aI oL es ep ⟨k _ _ hL hl,r⟩),λ b o e=>k b o (λ m=>by rw[h0 b m] at e;exact dC e) (F.keep b o e),F.above⟩
theorem yr.frN(Qq:List (Addr×Obj))(k:yr (Qq.map (·.1)) h h')(F:Fr h₀ L h m)(N:News h₀ L h Qq):Fr h₀ L h' m:=
 k.fr F (λ q=>by refine cE q λ p hp e=>?_;exact(N p hp).2.1 e) λ a ha=>by(refine cE ha λ p hp PZ=>?_;(clear ha;obtain rfl:=PZ));exact(N p hp).2.2
section
variable{prog:Program}{w:World}{A₀ A:Around}{s:Shared}{base h₀:Heap}{outer:List Env}{L:Addr}{m:Str->Option Value}{env:Env}{K:Frag}{p:Program}{loose:List Str}{mean:ExcName->Option Value}{mg mb:Str->Option Value}
 {R:Result->Shared->Prop} {name qual:Str} {params:Arguments} {body:List Stmt} {scope:Scope} {dV kV doc pm Qr ct oc:Value} {an od:Option Addr} {QP:Array (Option Value)} {f:Addr} {args:Args}
theorem DP(Qq:List (Addr×Obj))(B:Below A₀ base outer h₀)(F:Fr h₀ L s.heap m)(N:News h₀ L s.heap Qq)(Qk:K.In h₀)(T:Top p loose mean mg mb h₀)(hA:A.frames=some (env::outer))(hf:env.frame=some L)(hke:env.scope.kind=.function)
  (ho:K.lookup f=some ⟨oc,od,.func (fnOf name qual params body scope dV kV doc pm an Qr ct),QP⟩) (hcd:codeIn K Qr qual=true) (QA:A.depth<recursionLimit)
  (binds:List (Str×Value)) (QH:BindsTo s (fnOf name qual params body scope dV kV doc pm an Qr ct) args binds) (QN:∀y∈binds,scope.names.lookup y.1=some .local)
  (h:∀g L' h₁,g=hideAll s.heap (Qq.map (·.1))->Fr g L' h₁ (λ y=>binds.reverse.lookup y)->News g L' h₁ Qq->Below A base (env::outer) g->K.In g->Top p loose mean mg mb g->
   wpAny (model prog w) (A.deeper (envOf qual scope L' f Qr)) (execs body (envOf qual scope L' f Qr))
    (λ fl s'=>R (.ok (.ret (match fl with|.ret v=>v|_=>.none))) s')
    (λ e s'=>wpAny (model prog w) (A.deeper (envOf qual scope L' f Qr)) (leaving (envOf qual scope L' f Qr) e) (λ zz s''=>R (.error e) s'') (λ e' s''=>R (.error e') s'') s')
    {s with heap:=h₁,toks:=s.toks+binds.length})
  (hco:scope.isCoroutine=false) (QO:scope.isGenerator=false) (hk:scope.kind=.function)
  (hcell:∀x∈scope.names,x.2≠.cell):codeAny (model prog w) A (.call (.ref f) args) R s:=by
 refine codeAny_call_def (fd:=fnX name qual params body scope [] dV kV doc pm an Qr ct) (body:=body) (binds:=binds) QA ((Qk.keeps F.keep) _ _ ho) rfl (T.nolimit.keeps F.keep) (codeRec_of (Qk.keeps F.keep) hcd) rfl QH hcell QN (λ h₁ hns hk₁=>?_) hco QO hk;have nm:∀b o,h₀.get? b=some o->b∉Qq.map (·.1):=λ b o e q=>by
  (refine cE q λ p hp PZ=>?_;obtain rfl:=PZ);rw[(N p hp).2.2] at e;exact dC e
 have st:h₀.StaysIn (hideAll s.heap (Qq.map (·.1))):=λ b o e=>hideAll_get _ (F.keep b o e) (nm b o e);have nL:L∉Qq.map (·.1):=λ q=>by
  refine cE q λ p hp e=>(N p hp).2.1 e
 have B₁:=pushX B F hf hke;have Q4:Below A base (env::outer) (hideAll s.heap (Qq.map (·.1))):=⟨hA,λ b o e=>st b o (B.stays b o e),funFrames_hideAll B₁.frames λ env' he b hb hf'=>by
  cases he with
  | head=>rw[hf] at hf';exact nL ((sI hf':L=b)▸hb)
  | tail _ he=>
   refine aZ (funFrames_in B.frames env' he) λ RK Qv Ro Rc=>?_;rw[Ro] at hf';exact nm RK Qv Rc ((sI hf':RK=b)▸hb)⟩
 exact h _ s.heap.objs.size h₁ rfl ⟨hns,λ b o e=>hk₁ b o (of_hideAll _ e),Nat.le_of_eq (hideAll_size _ _)⟩
  (λ p hp=>⟨hk₁ _ _ (N p hp).1,Nat.ne_of_lt (Heap.lt_size (N p hp).1),hideAll_none _ (List.mem_map_of_mem hp)⟩) Q4 (Qk.keeps st) (T.keeps st)
end
theorem o6:∀{b c:List UInt8},(b.map λ c=>(c.toNat:Int))=c.map (λ c=>(c.toNat:Int))->b=c
 | [],[],_=>rfl
 | [],_::_,h=>by simp at h
 | _::_,[],h=>by simp at h
 | x::b,y::c,h=>by
  simp only[List.map_cons,List.cons.injEq] at h;have e:x=y:=by apply UInt8.toNat_inj.mp;omega
  exact ac e (ac (o6 h.2) rfl)
section
variable{prog:Program}{w:World}{A:Around}{E:Value->Shared->Prop}{s:Shared}{h₀:Heap}{L:Addr}{m:Str->Option Value}{news:List (Addr×Obj)}{b d:List UInt8}{t:Tok}
theorem tN{lo hi:Option Int}(e:(b.drop (lo.elim 0 (clipAt b.length))).take (hi.elim b.length (clipAt b.length)-lo.elim 0 (clipAt b.length))=d):KBy.picked b.toArray lo hi=d.toArray:=by
 have h:=KBc.ints_picked (b:=b.toArray) (ks:=b.map λ c=>(c.toNat:Int)) (KBw.ints_list b) lo hi;unfold KBw.bInts at h;have e2:(KBy.picked b.toArray lo hi).toList=d:=by
  apply o6;exact ac h (bP e (ac List.map_take (ac List.map_drop (ac (List.length_map _) rfl))))
 apply Array.ext';exact ac e2 rfl
theorem zp{lo hi:Option Int}(d:List UInt8)(hF:Fr h₀ L s.heap m)(hN:News h₀ L s.heap news)(hl:IsPart l lo)(hu:IsPart u hi)(hz:b.length<=16777216)
  (e:(b.drop (lo.elim 0 (clipAt b.length))).take (hi.elim b.length (clipAt b.length)-lo.elim 0 (clipAt b.length))=d)
  (h:∀h' t' k,Fr h₀ L h' m->News h₀ L h' news->Q (.bytes d.toArray t') {s with heap:=h',toks:=k})
  (hs:subscripted QM false (.bytes b.toArray t) (.ref s.heap.objs.size)=operate [.ref s.heap.objs.size,.bytes b.toArray t] (getItem (.bytes b.toArray t) (.ref s.heap.objs.size)):=by with_unfolding_all rfl)
  (ht:∀r,letTemporaryGo value (.bytes b.toArray t) r=pure ():=by intro _;with_unfolding_all rfl) :
  wpAny (model prog w) A (subscriptTail value QM (.bytes b.toArray t) (.ref s.heap.objs.size)) Q E {s with heap:=s.heap.push {cls:=.type "slice",data:=.fields #[l,u,.none] } }:=
 KBc.slice_K (ks:=b.map λ c=>(c.toNat:Int)) hF hN (KBw.ints_list b) hl hu (by refine ac (List.length_map _) ?_;exact hz) (λ h' t' k F N zz=>by refine ac (tN e) ?_;exact h h' t' k F N) hs ht
theorem Gm(k:Int)(e:(b.length:Int)=k)(hz:b.length<=1099511627776)(h:Q (.int k (s.toks+1)) {s with toks:=s.toks+1+1}):wpAny (model prog w) A (call (.builtin "len") [.bytes b.toArray t]) Q E s:=
 len_bytes (by simpa using hz) (by refine ac List.size_toArray (ac e ?_);exact h)
end
end Mine
end
section
open PySem PySem.W PyProof.Rows PySem.Spec PySem.Calls
namespace Mine
section
set_option tactic.hygienic true
abbrev Bs:=List UInt8
inductive aU:List Value->List Bs->Prop
 | nil:aU [] []
 | cons (b:Bs) (t:Tok) {vs bs}:aU vs bs->aU (.bytes b.toArray t::vs) (b::bs)
end
end Mine
end
section
open PySem PySem.W PyProof.Rows PySem.Spec PySem.Calls
namespace Mine
open LCg
section
variable{M:Model}{A:Around}{E:Value->Shared->Prop}{s:Shared}{env:Env}
theorem mo
  (h:aB M A (spliced ((false,x)::rest)) (λ vs s'=>Q ⟨vs,[]⟩ s') E s):aB M A (evalArgs f true ((false,x)::rest) []) Q E s:=by
 unfold evalArgs;refine(?_:aB M A (spliced ((false,x)::rest) >>= _) Q E s);refine aj (ax h (λ vs s' h'=>?_) λ zz zz x=>x);refine ak (ah ?_);exact wpAny_bind (wpAny_pure (wpAny_bind (wpAny_pure (wpAny_pure h'))))
theorem c8(hf:keeperOf f=pure .machine)(hplain:args.any (·.1)=false)
  (h:aB M A (evalArgs f true args []) (λ a s₁=>aB M A (call f (first++a.pos) a.kw) Q E s₁) E s):aB M A (callWith pos f first args []) Q E s:=by
 unfold callWith;refine aj (ak (ax h (λ a s₁ h₁=>aw ?_) λ zz zz x=>x));simp only[hplain,List.any_nil,Bool.or_false,hf];refine az (wpAny_pure ?_);exact gs h₁
end
section
open PySem PySem.W PyProof.Rows PySem.Spec PySem.Calls Builtin Builtin.ObjectAttr Builtin.Getset_descriptor
section
variable{prog:Program}{w:World}{A:Around}{s:Shared}{K:Frag}{p x C:Addr}{R:Result->Shared->Prop}
theorem tL(X:K.In s.heap)(hp:recIn K p "property"=some (.ref fget::rest))
  (h:aL (model prog w) A (.call (.ref fget) ⟨[.ref x],[]⟩) R s):aL (model prog w) A (.call (.builtin "property.__get__") ⟨[.ref p,.ref x,tp],[]⟩) R s:=by
 refine bW (rec_of X hp) λ d sl ho=>?_;obtain⟨hh,g,dr,t,os⟩:=s;refine cj KF.slot_prop.plain KF.entry_prop (eX (by decide +kernel) λ zz zz=>rfl) (KF.slot_prop.check _ _ _ _ _ _ _ _ ⟨_,ho,rfl⟩ (KF.args_prop _ _ _) (ah ?_));unfold Builtin.«property.__get__» descrGetArgs;dsimp only at ho;repeat lk
 exact⟨rfl,h⟩
end
section
variable{prog:Program}{w:World}{A:Around}{E:Value->Shared->Prop}{s:Shared}{h₀:Heap}{L:Addr}{m:Str->Option Value}{K:Frag}{x C:Addr}{ox:Obj}{name:Str}{expr:Bool}
theorem t5(X:K.In s.heap)(I:InstAt s.heap x ox C od)(hga:findIn K (.ref C) "__getattribute__"=some (some (.builtin "object.__getattribute__")))
  (h:aB (model prog w) A.in1 (Builtin.«proto.getattr_hooked» ⟨[.ref x,.str name s.toks],[]⟩)
   (λ fin s'=>match fin with|.done (.ret v)=>wpAny (model prog w) A (handedOut v) Q E s'|_=>False) (λ e s'=>wpAny (model prog w) A (noteIf true (.ref x) (.str name s.toks) e) (λ zz s''=>E e s'') E s') {s with toks:=s.toks+1}) :
  aB (model prog w) A (getAttr (.ref x) name expr) Q E s:=by
 obtain⟨hh,g,d,t,os⟩:=s;have L0:=I.type (M:=model prog w);have L1:=looks_findIn (M:=model prog w) X hga;unfold getAttr getAttrBy;refine az (wpAny_mkText (ak (az (L0.at (az (L1.at ?_))))));refine(?_:aB _ _ (getAttrEveryday _ _ _) _ _ _);refine uL (bR (gu (cN F.plainObj_entry_getattr_hooked (eX (by decide +kernel) λ zz zz=>rfl) (ax h (λ fin s' z=>?_) λ zz zz z=>z))));rcases fin with (_|_|_|_)|_<;>first|exact z|exact z.elim
theorem t6(X:K.In s.heap)(I:InstAt s.heap x ox C od)(hga:findIn K (.ref C) "__getattribute__"=some (some (.builtin "object.__getattribute__")))
  (hf:findObj K C od name=some (.bind g a)) (hk:findIn K (.ref C) "__getattr__"=some none)
  (h:aB (model prog w) A.in1 (call g [a,.ref x,.ref C]) (λ v s'=>wpAny (model prog w) A (handedOut v) Q E s') (λ e s'=>wpAny (model prog w) A (noteIf true (.ref x) (.str name s.toks) e) (λ zz s''=>E e s'') E s') {s with toks:=s.toks+1}) :
  aB (model prog w) A (getAttr (.ref x) name expr) Q E s:=by
 refine t5 X I hga ?_;obtain⟨hh',gg,d,t,os⟩:=s;have L0:=I.type (M:=model prog w);have L1:=looks_find (M:=model prog w) X I hf;have L2:=looks_findIn (M:=model prog w) X hk;refine az (wpAny_pure (az (L0.at (az (L1.at (az (L2.at ?_)))))));refine(?_:aB _ _ (holding [a] (call g [a,.ref x,.ref C]) >>= ret) _ _ _);exact aj (ak (ax h (λ v s' z=>al z) λ zz zz z=>z))
theorem t4(F:Fr h₀ L s.heap m)(Qk:K.In h₀)(I:InstAt s.heap x ox C (some od))(hg:plainGet K C name=true)(hh:hasDictIn K C=true)
  (ha:findIn K (.ref C) name=some (some (.ref p))) (hn:specialIn K (.ref p) "__get__"=some (some (.builtin "property.__get__"))) (ht:takesIn K (.ref p)=some true) (hp:recIn K p "property"=some (.ref fget::rest))
  (h:aL (model prog w) A.in1 (.call (.ref fget) ⟨[.ref x],[]⟩) (λ r s'=>match r with|.ok (.ret v)=>wpAny (model prog w) A (handedOut v) Q E s'|.ok _=>False|.error e=>wpAny (model prog w) A (noteIf true (.ref x) (.str name s.toks) e) (λ zz s''=>E e s'') E s') {s with toks:=s.toks+1}) :
  aB (model prog w) A (getAttr (.ref x) name expr) Q E s:=
 t6 (Qk.keeps F.keep) I (plainGet_of hg).1 (findObj_data (by refine ag (any_some hh) λ cd hc zz=>?_;refine ac hc ?_;rfl) ha hn ht) (plainGet_of hg).2 (bB (tL (s:={s with toks:=s.toks+1}) (Qk.keeps F.keep) hp h))
def uy(M:Model)(A:Around)(Q:Value->Shared->Prop)(E:Value->Shared->Prop)(v:Value)(s:Shared):Prop:=wpAny M A (handedOut v) Q E s
def Ie(M:Model)(A:Around)(E:Value->Shared->Prop)(x:Addr)(name:Str)(t:Tok)(e:Value)(s:Shared):Prop:=wpAny M A (noteIf true (.ref x) (.str name t) e) (λ zz s''=>E e s'') E s
theorem qT(F:Fr h₀ L s.heap m)(Qk:K.In h₀)(I:InstAt s.heap x ox C (some od))(hg:plainGet K C name=true)(hh:hasDictIn K C=true)
  (ha:findIn K (.ref C) name=some (some (.ref p))) (hn:specialIn K (.ref p) "__get__"=some (some (.builtin "property.__get__"))) (ht:takesIn K (.ref p)=some true) (hp:recIn K p "property"=some (.ref fget::rest))
  (h:aL (model prog w) A.in1 (.call (.ref fget) ⟨[.ref x],[]⟩) (λ r s'=>match r with|.ok (.ret v)=>uy (model prog w) A Q E v s'|.ok _=>False|.error e=>Ie (model prog w) A E x name s.toks e s') {s with toks:=s.toks+1}) :
  aB (model prog w) A (getAttr (.ref x) name expr) Q E s:=
 t4 F Qk I hg hh ha hn ht hp h
theorem uy.ref(h:Q (.ref a) s):uy (model prog w) A Q E (.ref a) s:=by
 unfold uy;refine ac (handedOut_of rfl) ?_;exact wpAny_pure h
end
end
section
variable{prog:Program}{w:World}{A:Around}{E:Value->Shared->Prop}{s:Shared}{h₀:Heap}{L d:Addr}{m:Str->Option Value}{news:List (Addr×Obj)}{g:Obj->List (Addr×Obj)}{o:Obj}{kvs:List (Bs×Value)}{k:Bs}{t:Tok}{v:Value}
theorem dE(prog:Program)(w:World)(k:Bs)(t:Tok):(bytesKind prog w).is k (.bytes k.toArray t)=true:=by refine(?_:PySem.W.isBytes k (.bytes k.toArray t)=true);simp [PySem.W.isBytes]
theorem o0:Obj.IsDictOf (bytesKind prog w) (dictOf [] 0) []:=(aq (#[]) 0 ⟨⟨rfl,rfl,rfl⟩,rfl,λ zz he=>by simp at he,Pairs.nil,List.nodup_nil⟩)
theorem qM(hd:o.IsDictOf (bytesKind prog w) kvs):(kvs.map (·.1)).Nodup:=by(refine uf hd λ zz zz zz zz zz zz hn=>?_;clear hd);exact hn
theorem Ap(D:s.heap.DictOf (bytesKind prog w) d kvs)(lo:(d==sysModules)=false)(hv:valueAt kvs k=some v)(h:Q (.bool true) {s with toks:=s.toks+1}):wpAny (model prog w) A (compareOp .In (.bytes k.toArray t) (.ref d)) Q E s:=
 wpAny_in_of (dE _ _ _ _) lo D.mapOf (by refine ac hv ?_;exact h)
theorem DZ(D:s.heap.DictOf (bytesKind prog w) d kvs)(lo:(d==sysModules)=false)(hv:valueAt kvs k=none)(h:Q (.bool false) {s with toks:=s.toks+1}):wpAny (model prog w) A (compareOp .In (.bytes k.toArray t) (.ref d)) Q E s:=
 wpAny_in_of (dE _ _ _ _) lo D.mapOf (by refine ac hv ?_;exact h)
theorem rg(D:s.heap.DictOf (bytesKind prog w) d kvs)(lo:(d==sysModules)=false)(hv:valueAt kvs k=some v)(h:Q (.bool false) {s with toks:=s.toks+1}):wpAny (model prog w) A (compareOp .NotIn (.bytes k.toArray t) (.ref d)) Q E s:=
 wpAny_notIn_of (dE _ _ _ _) lo D.mapOf (by refine ac hv ?_;exact h)
theorem uk(D:s.heap.DictOf (bytesKind prog w) d kvs)(lo:(d==sysModules)=false)(hv:valueAt kvs k=none)(h:Q (.bool true) {s with toks:=s.toks+1}):wpAny (model prog w) A (compareOp .NotIn (.bytes k.toArray t) (.ref d)) Q E s:=
 wpAny_notIn_of (dE _ _ _ _) lo D.mapOf (by refine ac hv ?_;exact h)
theorem nB{id:String}(slot:Slot "dict" name id)(hty:typeOf (.builtin id)=pure (.type "method_descriptor"))(D:s.heap.DictOf (bytesKind prog w) d kvs)(h:Q (.builtin id,[.ref d]) s):wpAny (model prog w) A (getMethod (.ref d) name pl) Q E s:=
 getMethod_builtin D.typeIs PySem.F.plainAttrs_dict slot hty D.mapOf.noDict h
theorem um(D:s.heap.DictOf (bytesKind prog w) d kvs)(lo:(d==sysModules)=false)(hv:valueAt kvs k=some v)(h:Q v {s with toks:=s.toks+1}):wpAny (model prog w) A (call (.builtin "dict.get") [.ref d,.bytes k.toArray t]) Q E s:=
 call_meetsIn PySem.F.slot_dict_get D.typeIs PySem.F.entry_dict_get (PySem.F.args_dict_get_2 _ _) (meets_dict_get _ d (dE _ _ _ _) lo) ⟨_,D.mapOf,by refine ac hv ?_;exact h⟩
theorem xn(D:s.heap.DictOf (bytesKind prog w) d kvs)(lo:(d==sysModules)=false)(hv:valueAt kvs k=none)(h:Q .none {s with toks:=s.toks+1}):wpAny (model prog w) A (call (.builtin "dict.get") [.ref d,.bytes k.toArray t]) Q E s:=
 call_meetsIn PySem.F.slot_dict_get D.typeIs PySem.F.entry_dict_get (PySem.F.args_dict_get_2 _ _) (meets_dict_get _ d (dE _ _ _ _) lo) ⟨_,D.mapOf,by refine ac hv ?_;exact h⟩
theorem ul{dflt:Value}(D:s.heap.DictOf (bytesKind prog w) d kvs)(lo:(d==sysModules)=false)(hv:valueAt kvs k=some v)(h:Q v {s with toks:=s.toks+1}):wpAny (model prog w) A (call (.builtin "dict.get") [.ref d,.bytes k.toArray t,dflt]) Q E s:=
 call_meetsIn PySem.F.slot_dict_get D.typeIs PySem.F.entry_dict_get (PySem.F.args_dict_get_3 _ _ _) (meets_dict_get_default _ d (dE _ _ _ _) lo dflt) ⟨_,D.mapOf,by refine ac hv ?_;exact h⟩
theorem xk{dflt:Value}(D:s.heap.DictOf (bytesKind prog w) d kvs)(lo:(d==sysModules)=false)(hv:valueAt kvs k=none)(h:Q dflt {s with toks:=s.toks+1}):wpAny (model prog w) A (call (.builtin "dict.get") [.ref d,.bytes k.toArray t,dflt]) Q E s:=
 call_meetsIn PySem.F.slot_dict_get D.typeIs PySem.F.entry_dict_get (PySem.F.args_dict_get_3 _ _ _) (meets_dict_get_default _ d (dE _ _ _ _) lo dflt) ⟨_,D.mapOf,by refine ac hv ?_;exact h⟩
theorem J6(D:s.heap.DictOf (bytesKind prog w) d kvs)(lo:(d==sysModules)=false)(hsz:kvs.length<=1000)(h:Q (.int kvs.length (s.toks+1)) {s with toks:=s.toks+1+1}):wpAny (model prog w) A (call (.builtin "len") [.ref d]) Q E s:=
 call_len_dict lo D (by omega) h
theorem xj{dflt:Value}(D:s.heap.DictOf (bytesKind prog w) d kvs)(lo:(d==sysModules)=false)(hv:valueAt kvs k=none)(h:Q dflt {s with toks:=s.toks+1}):wpAny (model prog w) A (call (.builtin "dict.pop") [.ref d,.bytes k.toArray t,dflt]) Q E s:=
 call_meetsIn PySem.F.slot_dict_pop D.typeIs PySem.F.entry_dict_pop (PySem.F.args_dict_pop_3 _ _ _) (meets_dict_pop_default _ d (dE _ _ _ _) lo rfl dflt) ⟨kvs,D,hv,h⟩
end
section
set_option genCtorIdx false
set_option genSizeOf false
set_option genInjectivity false
noncomputable def il:List Str:=[Str.ofString "_wall",Str.ofString "TermError",Str.ofString "BadCommand",Str.ofString "BadKey",Str.ofString "sign_lead",Str.ofString "SignReader",Str.ofString "is_sign",Str.ofString "utf8_octets",Str.ofString "Key",Str.ofString "key_is_capital",Str.ofString "key_is_small",Str.ofString "key_settled",Str.ofString "key_lower",Str.ofString "key_names",Str.ofString "key_named",Str.ofString "key_one_sign",Str.ofString "key_split",Str.ofString "read_key",Str.ofString "key_word",Str.ofString "Command",Str.ofString "CommandBlock",Str.ofString "CommandBranch",Str.ofString "command_is_name_sign",Str.ofString "command_escaped",Str.ofString "command_octal",Str.ofString "WordReader",Str.ofString "CommandReader",Str.ofString "read_commands",Str.ofString "command_is_bare",Str.ofString "command_quoted",Str.ofString "command_word_octets",Str.ofString "command_octets",Str.ofString "commands_octets",Str.ofString "mux_key_word",Str.ofString "KeyBinding",Str.ofString "KeyTables",Str.ofString "key_rows",Str.ofString "key_notes",Str.ofString "_law_keys",Str.ofString "_law_tables",Str.ofString "_law_deeds",Str.ofString "_law_is_barred",Str.ofString "_law_row",Str.ofString "_law_told",Str.ofString "_law_rows_right",Str.ofString "_law_found_right",Str.ofString "_law_deed",Str.ofString "_law_commands",Str.ofString "law",Str.ofString "__name__",Str.ofString "Exception",Str.ofString "__init__",Str.ofString "SIGN_ILL",Str.ofString "SIGN_TRAIL",Str.ofString "SIGN_MASK",Str.ofString "SIGN_LAST",Str.ofString "feed",Str.ofString "begin",Str.ofString "go_on",Str.ofString "rest",Str.ofString "is_empty",Str.ofString "switch",Str.ofString "same_as",Str.ofString "SHIFT",Str.ofString "META",Str.ofString "CONTROL",Str.ofString "KEY_MODIFIERS",Str.ofString "KEY_PRESSED",Str.ofString "KEY_LETTERS",Str.ofString "KEY_NUMBERS",Str.ofString "KEY_CODES",Str.ofString "KEY_PAD",Str.ofString "KEY_ALIASES",Str.ofString "with_held",Str.ofString "told",Str.ofString "COMMAND_BLANKS",Str.ofString "COMMAND_ENDS",Str.ofString "COMMAND_DIRECTIVES",Str.ofString "COMMAND_PLAIN",Str.ofString "turn",Str.ofString "word",Str.ofString "take_single",Str.ofString "take_double",Str.ofString "take_escape",Str.ofString "take_variable",Str.ofString "read",Str.ofString "pass_by",Str.ofString "new_group",Str.ofString "is_live",Str.ofString "end_command",Str.ofString "take_word",Str.ofString "add_word",Str.ofString "open_block",Str.ofString "close_block",Str.ofString "take_condition",Str.ofString "take_directive",Str.ofString "ANY_KEY",Str.ofString "REPEAT_TIME",Str.ofString "commands",Str.ofString "octets",Str.ofString "table",Str.ofString "bind",Str.ofString "unbind",Str.ofString "unbind_all",Str.ofString "set_prefix",Str.ofString "is_prefix",Str.ofString "find",Str.ofString "bound",Str.ofString "names",Str.ofString "rows",Str.ofString "copy",Str.ofString "k",Str.ofString "octet",Str.ofString "code",Str.ofString "last",Str.ofString "name",Str.ofString "held",Str.ofString "event",Str.ofString "small",Str.ofString "codes",Str.ofString "is_ahead",Str.ofString "key",Str.ofString "found",Str.ofString "is_first",Str.ofString "letters",Str.ofString "environment",Str.ofString "decide",Str.ofString "command",Str.ofString "property",Str.ofString "tables",Str.ofString "only",Str.ofString "call",Str.ofString "made",Str.ofString "binding",Str.ofString "due",Str.ofString "prefixes",Str.ofString "number",Str.ofString "kind",Str.ofString "goal",Str.ofString "script",Str.ofString "numbers",Str.ofString "written",Str.ofString "alone",Str.ofString "self",Str.ofString "is_utf8",Str.ofString "left",Str.ofString "low",Str.ofString "high",Str.ofString "lead",Str.ofString "other",Str.ofString "bytes",Str.ofString "more",Str.ofString "alias",Str.ofString "sign",Str.ofString "bit",Str.ofString "group",Str.ofString "words",Str.ofString "places",Str.ofString "place",Str.ofString "depth",Str.ofString "is_outer",Str.ofString "is_so",Str.ofString "is_taken",Str.ofString "has_else",Str.ofString "get",Str.ofString "at",Str.ofString "end",Str.ofString "has_brace",Str.ofString "first",Str.ofString "last_group",Str.ofString "blocks",Str.ofString "branches",Str.ofString "block",Str.ofString "branch",Str.ofString "is_plain",Str.ofString "bytearray",Str.ofString "isinstance",Str.ofString "join",Str.ofString "enumerate",Str.ofString "is_repeat",Str.ofString "note",Str.ofString "flags",Str.ofString "head",Str.ofString "prefix",Str.ofString "repeat",Str.ofString "later",Str.ofString "second",Str.ofString "many",Str.ofString "is_second",Str.ofString "some",Str.ofString "own",Str.ofString "every",Str.ofString "row",Str.ofString "sorted",Str.ofString "elder",Str.ofString "was",Str.ofString "is_bare",Str.ofString "extend",Str.ofString "octal",Str.ofString "append",Str.ofString "pop",Str.ofString "len",Str.ofString "dict",Str.ofString "clear",Str.ofString "int",Str.ofString "list",Str.ofString "one",Str.ofString "super"]
noncomputable def nm(i:Nat):Str:=(il[i]?).getD ⟨#[1114112+i]⟩
noncomputable def Jf(s:Str):Nat:=s.cps.toList.foldl (λ a c=>a*2097152+c+1) 0
theorem tT:(il.map Jf).Nodup:=by decide +kernel
theorem qB:∀s∈il,(s.cps.toList.all λ c=>decide (c<1114112))=true:=by decide +kernel
theorem mE(h:il[i]?=none):nm i=⟨#[1114112+i]⟩:=by unfold nm;refine ac h ?_;rfl
theorem sj(h:il[i]?=some s):nm i=s:=by unfold nm;refine ac h ?_;rfl
theorem f9(h:nm i=nm j):i=j:=by
 have AF:∀{i:Nat} {s:Str},il[i]?=some s->∀k,s≠⟨#[1114112+k]⟩:=λ e k q=>by
  have:=qB _ (List.mem_of_getElem? e)
  rw[q] at this
  simp at this
  lia
 cases hi:il[i]? with
 | none=>
  cases hj:il[j]? with
  | none=>
   rw[mE hi,mE hj] at h
   injection h with h
   simp at h
   lia
  | some s=>rw[mE hi,sj hj] at h;exact absurd h.symm (AF hj i)
 | some s=>
  cases hj:il[j]? with
  | none=>rw[sj hi,mE hj] at h;exact absurd h (AF hi j)
  | some t=>
   rw[sj hi,sj hj] at h
   subst h
   have:=tT
   rw[List.nodup_iff_pairwise_ne,List.pairwise_iff_getElem] at this
   have li:i<il.length:=(List.getElem?_eq_some_iff.mp hi).1
   have lj:j<il.length:=(List.getElem?_eq_some_iff.mp hj).1
   have ei:il[i]=s:=(List.getElem?_eq_some_iff.mp hi).2
   have ej:il[j]=s:=(List.getElem?_eq_some_iff.mp hj).2
   rcases Nat.lt_trichotomy i j with q|q|q
   ·exact absurd (ac (List.getElem_map _) (ac (List.getElem_map _) (ac ei (ac ej rfl)))) (this i j (by simpa using li) (by simpa using lj) q)
   ·exact q
   ·exact absurd (ac (List.getElem_map _) (ac (List.getElem_map _) (ac ei (ac ej rfl)))) (this j i (by simpa using lj) (by simpa using li) q)
structure BR where
 key:List UInt8
 told:List UInt8
 rep:Bool
 note:List UInt8
inductive PV where
 | int (k:Int)|byt (b:List UInt8)|boo (b:Bool)|non|seq (b:Bool) (l:List PV)|ins (C:Addr) (ks:List Nat) (l:List PV)|bnd (r:BR)
inductive AV where
 | int (k:Int)|byt (b:List UInt8)|boo (b:Bool)|non|obj (i:Nat)|val (v:Value)|pv (p:PV)|num (d:Nat) (f:List ((Nat×Nat)×Nat))
structure KT where
 made:List (List UInt8×List (List UInt8×BR))
 pre:Option (List UInt8)
 sec:Option (List UInt8)
 kn:List ((List UInt8×List UInt8)×Option BR)
 pr:List (List UInt8×Bool)
inductive AO where
 | lst (l:List AV)|tup (l:List AV)|ins (C:Addr) (f:List (Nat×AV))|bar (b:List UInt8)|frz (b:Bool) (l:List AV)|dic (l:List (List UInt8×AV))|frd (l:List (List UInt8×AV))|dip (n:Nat) (kn:List (List UInt8×Option PV)) (e:Option Bool) (em:List (List UInt8×Bool)) (l:List (List UInt8×PV))|dir (t:List UInt8) (o:Option AV) (A B:List (List UInt8×Value))|ktb (S:KT)|cel (v:Option AV)
structure St where
 loc:List (Nat×AV)
 obs:List AO
 ph:Bool
structure Fz where
 cel:Addr->Obj->Prop
 bds:Addr->Option BR
structure RR where
 ad:List Addr
 z:Fz
structure Fz.Le(z z':Fz):Prop where
 c:∀a o,z.cel a o->z'.cel a o
 b:∀a r,z.bds a=some r->z'.bds a=some r
structure RR.Le(ρ ρ':RR):Prop where
 a:∀(i:Nat) (x:Addr),ρ.ad[i]?=some x->ρ'.ad[i]?=some x
 z:ρ.z.Le ρ'.z
theorem Fz.Le.refl{z:Fz}:z.Le z:=⟨λ zz zz h=>h,λ zz zz h=>h⟩
theorem Fz.Le.trans{z z' z'':Fz}(h:z.Le z')(h':z'.Le z''):z.Le z'':=⟨λ a o x=>h'.c a o (h.c a o x),λ a o x=>h'.b a o (h.b a o x)⟩
theorem RR.Le.refl{ρ:RR}:ρ.Le ρ:=⟨λ zz zz h=>h,Fz.Le.refl⟩
theorem RR.Le.trans{ρ ρ' ρ'':RR}(h:ρ.Le ρ')(h':ρ'.Le ρ''):ρ.Le ρ'':=⟨λ i x e=>h'.a i x (h.a i x e),h.z.trans h'.z⟩
noncomputable abbrev iI(vs:List Value)(n:Nat):Obj:={cls:=.type "list",data:=.seq vs.toArray n}
noncomputable abbrev yF(vs:List Value)(n:Nat):Obj:={cls:=.type "tuple",data:=.seq vs.toArray n}
noncomputable abbrev rQ(b:Bool)(vs:List Value)(n:Nat):Obj:=if b then iI vs n else yF vs n
noncomputable def ay{α β:Type}(R:α->β->Prop):List α->List β->Prop
 | [],ys=>ys=[]
 | x::xs,ys=>∃y zs,ys=y::zs/\R x y/\ay R xs zs
section
variable{α β:Type}{R R':α->β->Prop}
theorem ay.k(h:R x y)(t:ay R xs ys):ay R (x::xs) (y::ys):=(aq y ys ⟨rfl,h,t⟩)
theorem ay.imp(f:∀x y,R x y->R' x y):∀{xs:List α} {ys:List β},ay R xs ys->ay R' xs ys:=by intro l_;induction l_ with
 | nil=>intro _ h;exact h
 | cons x xs P9=>
  intro _ h
  refine ao h λ y zs e a t=>(aq y zs ⟨e,f x y a,P9 t⟩)
theorem ay.len:∀{xs:List α} {ys:List β},ay R xs ys->ys.length=xs.length:=by intro l_;induction l_ with
 | nil=>intro _ h;exact congrArg List.length h
 | cons x xs P9=>
  intro _ h
  refine ao h λ y zs e a t=>(congrArg List.length e).trans (congrArg Nat.succ (P9 t))
theorem ay.app:∀{xs:List α} {ys:List β} {xs':List α} {ys':List β},ay R xs ys->ay R xs' ys'->ay R (xs++xs') (ys++ys'):=by intro l_;induction l_ with
 | nil=>intro _ xs' ys' h h';exact(congrArg (λ z=>ay R xs' (z++ys')) (show _=[] from h)).mpr h'
 | cons x xs P9=>
  intro _ xs' ys' h h'
  refine ao h λ y zs e a t=>(aq y (zs++ys') ⟨congrArg (·++ys') e,a,(P9 t h')⟩)
theorem ay.get:∀{xs:List α} {ys:List β},ay R xs ys->∀{j:Nat} {x:α},xs[j]?=some x->∃y,ys[j]?=some y/\R x y:=by intro l_;induction l_ with
 | nil=>intro _ _ j x e;exact(dC e)
 | cons x xs P9=>
  intro _ h j x' e
  (refine ao h λ y zs PZ a t=>?_;clear h;obtain rfl:=PZ)
  cases j with
  | zero=>exact⟨y,rfl,sI e▸a⟩
  | succ j=>exact(P9 t) e
theorem ay.set:∀{xs:List α} {ys:List β},ay R xs ys->∀(j:Nat) {x:α} {y:β},R x y->ay R (xs.set j x) (ys.set j y)
 | [],_,h,j,x,y,_=>by refine ac (show _=[] from h) ?_;exact rfl
 | x'::xs,_,h,j,x,y,r=>by
  (refine ao h λ y' zs PZ a t=>?_;clear h;obtain rfl:=PZ)
  cases j with
  | zero=>exact(aq y zs ⟨rfl,r,t⟩)
  | succ j=>exact(aq y' (zs.set j y) ⟨rfl,a,t.set j r⟩)
theorem ay.map:∀{xs:List γ} {ys:List β},ay (λ x y=>R (f x) y) xs ys->ay R (xs.map f) ys:=by intro l_;induction l_ with
 | nil=>intro _ h;exact h
 | cons x xs P9=>
  intro _ h
  refine ao h λ y zs e a t=>(aq y zs ⟨e,a,(P9 t)⟩)
end
noncomputable def fh:List Nat->List Value->List DictEntry->Prop
 | [],vs,es=>vs=[]/\es=[]
 | i::ks,vs,es=>∃v vs' h t es',vs=v::vs'/\es=⟨h,.str (nm i) t,v⟩::es'/\fh ks vs' es'
noncomputable def eA(z:Fz):Nat->PV->Value->Prop
 | 0,_,_=>False
 | n+1,p,v=>match p with
  | .int k=>∃t,v=.int k t
  | .byt b=>∃t,v=.bytes b.toArray t
  | .boo b=>v=.bool b
  | .non=>v=.none
  | .seq b l=>∃a m vs,v=.ref a/\z.cel a (rQ b vs m)/\ay (eA z n) l vs
  | .ins C ks l=>∃a dx m vs es,v=.ref a/\z.cel a (instObj C dx)/\z.cel dx (dictOf es m)/\fh ks vs es/\ay (eA z n) l vs
  | .bnd r=>∃a,v=.ref a/\z.bds a=some r
noncomputable def bA(z:Fz)(p:PV)(v:Value):Prop:=∃n,eA z n p v
theorem eA.mono(e:z.Le z'):∀{n:Nat} {p:PV} {v:Value},eA z n p v->eA z' (n+1) p v
 | n+1,p,v,h=>match p,h with
  | .int _,h=>h
  | .byt _,h=>h
  | .boo _,h=>h
  | .non,h=>h
  | .seq b l,h=>by(refine aP h λ a m vs e1 e2 t=>?_;clear h);exact(aI a m vs ⟨e1,e.c _ _ e2,t.imp λ zz zz x=>eA.mono e x⟩)
  | .ins C ks l,h=>by(refine ef h λ a dx m vs es e1 e2 e3 e4 t=>?_;clear h);exact(bM a dx m vs es ⟨e1,e.c _ _ e2,e.c _ _ e3,e4,t.imp λ zz zz x=>eA.mono e x⟩)
  | .bnd _,h=>by(refine ag h λ a e1 e2=>?_;clear h);exact⟨a,e1,e.b _ _ e2⟩
theorem bA.mono(e:z.Le z')(h:bA z p v):bA z' p v:=by(revert h;refine λ P3=>aA P3 λ n h=>?_;clear P3);exact⟨n+1,h.mono e⟩
theorem eA.more{z:Fz}(h:n<=m)(x:eA z n p v):eA z m p v:=by
 induction h with
 | refl=>exact x
 | step _ ih=>exact ih.mono Fz.Le.refl
theorem bA.all:∀{l:List PV} {vs:List Value},ay (bA z) l vs->∃n,ay (eA z n) l vs:=by intro l_;induction l_ with
 | nil=>intro _ h;exact⟨0,h⟩
 | cons p l P9=>
  intro _ h
  (refine ao h λ v vs e Qb t=>?_;clear h;(refine aA Qb λ n x=>?_;clear Qb))
  refine aA (P9 t) λ m t=>(aI (max n m) v vs ⟨e,x.more (Nat.le_max_left _ _),t.imp λ zz zz y=>y.more (Nat.le_max_right _ _)⟩)
noncomputable def Is(ρ:RR)(a:AV)(v:Value):Prop:=match a with
 | .int k=>∃t,v=.int k t
 | .byt b=>∃t,v=.bytes b.toArray t
 | .boo b=>v=.bool b
 | .non=>v=.none
 | .obj i=>∃x,v=.ref x/\ρ.ad[i]?=some x
 | .val u=>v=u
 | .pv p=>bA ρ.z p v
 | .num d f=>∃(n:Nat) (t:Tok),v=.int ((n/d:Nat):Int) t/\∀x∈f,n/x.1.1%x.1.2=x.2
noncomputable abbrev IsL(ρ:RR):List AV->List Value->Prop:=ay (Is ρ)
noncomputable abbrev cw(ρ:RR):List (Nat×AV)->List DictEntry->Prop:=ay λ p e=>∃h t v,e=⟨h,.str (nm p.1) t,v⟩/\Is ρ p.2 v
noncomputable abbrev fE{α:Type}(R:α->Value->Prop):List (List UInt8×α)->List (List UInt8×Value)->Prop:=ay λ p q=>q.1=p.1/\R p.2 q.2
theorem Is.mono(e:ρ.Le ρ'):∀{a:AV} {v:Value},Is ρ a v->Is ρ' a v
 | .int _,_,h=>h
 | .byt _,_,h=>h
 | .boo _,_,h=>h
 | .non,_,h=>h
 | .val _,_,h=>h
 | .num _ _,_,h=>h
 | .obj i,_,h=>by(refine ag h λ x q r=>?_;clear h);exact⟨x,q,e.a i x r⟩
 | .pv p,_,h=>bA.mono e.z h
theorem cw.mono(e:ρ.Le ρ')(h:cw ρ f es):cw ρ' f es:=h.imp λ zz zz x=>by(refine bw x λ a b v q y=>?_;clear x);exact(aI a b v ⟨q,y.mono e⟩)
noncomputable abbrev bF(w:World)(o:Obj)(kvs:List (List UInt8×Value)):Prop:=o.IsDictOf (bytesKind PySem.Challenge.rw_og0284_01.prog w) kvs
noncomputable def bC{α:Type}(k:List UInt8)(l:List (List UInt8×α)):Option α:=(l.find? λ x=>x.1=k).map (·.2)
noncomputable def bt{α:Type}(k:List UInt8)(a:α)(l:List (List UInt8×α)):List (List UInt8×α):=if l.any (λ x=>x.1=k) then l.map (λ x=>if x.1=k then(x.1,a) else x) else l++[(k,a)]
noncomputable def bx{α:Type}(k:List UInt8)(l:List (List UInt8×α)):List (List UInt8×α):=l.filter λ x=>decide (x.1≠k)
structure Ik(n:Nat)(kn:List (List UInt8×Option PV))(e:Option Bool)(em:List (List UInt8×Bool))(l:List (List UInt8×PV)):Prop where
 n:l.length<=n
 kn:∀x∈kn,bC x.1 l=x.2
 e:∀b,e=some b->l.isEmpty=b
 em:∀x∈em,(bx x.1 l).isEmpty=x.2
noncomputable def aJ:Option (List UInt8)->PV
 | none=>.non
 | some b=>.byt b
noncomputable def aE:List (List UInt8):=[[111,119,110],[112,114,101,102,105,120],[114,111,111,116]]
noncomputable def br:List (List UInt8):=[[65],[65,110,121],[67,45,77,45,120],[67,45,97],[70,53],[85,112],[97]]
noncomputable def iw:List (List UInt8):=[[110,101,119,45,119,105,110,100,111,119],[110,101,120,116,45,119,105,110,100,111,119],[107,105,108,108,45,112,97,110,101]]
noncomputable def qC:List (List UInt8):=[[],[116,111,108,100]]
noncomputable def cS(l:List (List UInt8×BR)):Prop:=l≠[]/\(l.map (·.1)).Nodup/\∀x∈l,x.1∈br/\x.2.key=x.1
noncomputable def KT.rows(S:KT)(t:List UInt8):Option (List (List UInt8×BR)):=bC t S.made
noncomputable def KT.look(S:KT)(t w:List UInt8):Option BR:=(S.rows t).bind (bC w)
structure KT.ok(S:KT):Prop where
 nd:(S.made.map (·.1)).Nodup
 rw:∀x∈S.made,x.1∈aE/\cS x.2
 kn:∀x∈S.kn,S.look x.1.1 x.1.2=x.2
 pr:∀x∈S.pr,(S.rows x.1).isSome=x.2
noncomputable abbrev bo:=Nat×Nat
structure Cl(h:Heap)(τ:Addr->bo)(k j:Nat)(a:Addr)(o:Obj):Prop where
 g:h.get? a=some o
 t:τ a=(k,j)
noncomputable def dz(t:List UInt8):Nat:=4+aE.findIdx (·==t)
noncomputable def ci(w:World)(h:Heap)(τ:Addr->bo)(z:Fz)(k:Nat)(x:List UInt8×List (List UInt8×BR))(y:List UInt8×Value):Prop:=
 y.1=x.1/\∃a o kv,y.2=.ref a/\Cl h τ k (dz x.1) a o/\bF w o kv/\fE (λ r v=>bA z (.bnd r) v) x.2 kv
inductive fg(w:World)(h:Heap)(τ:Addr->bo)(z:Fz)(k:Nat)(S:KT)(a:Addr):Prop
 | mk (dx dm dl:Addr) (om ol:Obj) (es:List DictEntry) (n:Nat) (kvs:List (List UInt8×Value)) (v1 v2:Value) (t:Tok)
  (c0:Cl h τ k 0 a (instObj 754 dx)) (c1:Cl h τ k 1 dx (dictOf es n)) (c2:Cl h τ k 2 dm om) (c3:Cl h τ k 3 dl ol)
  (ek:fh [132,185,183,186,184] [.ref dm,.ref dl,v1,v2,.int 500 t] es) (p:bA z (aJ S.pre) v1) (q:bA z (aJ S.sec) v2) (dom:bF w om kvs) (dol:bF w ol []) (ok:S.ok) (rs:ay (ci w h τ z k) S.made kvs)
theorem fg.el{P':Prop}(hh:fg w h τ z k S a)(kk:∀(dx dm dl:Addr) (om ol:Obj) (es:List DictEntry) (n:Nat) (kvs:List (List UInt8×Value)) (v1 v2:Value) (t:Tok) (c0:Cl h τ k 0 a (instObj 754 dx)) (c1:Cl h τ k 1 dx (dictOf es n)) (c2:Cl h τ k 2 dm om) (c3:Cl h τ k 3 dl ol) (ek:fh [132,185,183,186,184] [.ref dm,.ref dl,v1,v2,.int 500 t] es) (p:bA z (aJ S.pre) v1) (q:bA z (aJ S.sec) v2) (dom:bF w om kvs) (dol:bF w ol []) (ok:S.ok) (rs:ay (ci w h τ z k) S.made kvs),P'):P':=by
 obtain⟨dx,dm,dl,om,ol,es,n,kvs,v1,v2,t,c0,c1,c2,c3,ek,p,q,dom,dol,ok,rs⟩:=hh
 exact kk dx dm dl om ol es n kvs v1 v2 t c0 c1 c2 c3 ek p q dom dol ok rs
noncomputable def OR(w:World)(fx:Addr->Obj->Nat->Prop)(h:Heap)(τ:Addr->bo)(ρ:RR)(k:Nat)(o:AO)(a:Addr):Prop:=match o with
 | .lst l=>∃vs n,Cl h τ k 0 a (iI vs n)/\IsL ρ l vs
 | .tup l=>∃vs n,Cl h τ k 0 a (yF vs n)/\IsL ρ l vs
 | .ins C f=>∃dx es n,Cl h τ k 0 a (instObj C dx)/\Cl h τ k 1 dx (dictOf es n)/\cw ρ f es
 | .bar b=>Cl h τ k 0 a (bX b.toArray)
 | .frz b l=>∃vs n,fx a (rQ b vs n) k/\IsL ρ l vs
 | .dic l=>∃ob kvs,Cl h τ k 0 a ob/\bF w ob kvs/\fE (Is ρ) l kvs
 | .frd l=>∃ob kvs,(fx a ob k/\(a==sysModules)=false)/\bF w ob kvs/\fE (Is ρ) l kvs
 | .dip n kn e em l=>∃ob kvs,Cl h τ k 0 a ob/\bF w ob kvs/\fE (bA ρ.z) l kvs/\Ik n kn e em l
 | .dir t x A B=>∃ob,Cl h τ k 0 a ob/\(A++B).length<=50/\match x with
  | none=>t∉(A++B).map (·.1)/\bF w ob (A++B)
  | some x=>∃v,Is ρ x v/\bF w ob (A++(t,v)::B)
 | .ktb S=>fg w h τ ρ.z k S a
 | .cel x=>∃ob,Cl h τ k 0 a ob/\match x with
  | none=>ob.data=.cell none
  | some x=>∃u,ob.data=.cell (some u)/\Is ρ x u
section
variable{w:World}{fx fx':Addr->Obj->Nat->Prop}{h h':Heap}{τ τ':Addr->bo}{ρ ρ':RR}{k k':Nat}
theorem fg.imp(hc:∀a o j,Cl h τ k j a o->Cl h' τ' k' j a o)(e:z.Le z')(x:fg w h τ z k S a):fg w h' τ' z' k' S a:=by
 (refine fg.el x λ dx dm dl om ol es n kvs v1 v2 t c0 c1 c2 c3 ek p q dom dol ok rs=>?_;clear x)
 exact⟨dx,dm,dl,om,ol,es,n,kvs,v1,v2,t,hc _ _ _ c0,hc _ _ _ c1,hc _ _ _ c2,hc _ _ _ c3,ek,p.mono e,q.mono e,dom,dol,ok,rs.imp λ _ _ ⟨q,a,o,kv,e1,e2,e3,e4⟩=>⟨q,(aI a o kv ⟨e1,hc _ _ _ e2,e3,e4.imp λ _ _ ⟨u,v⟩=>⟨u,v.mono e⟩⟩)⟩⟩
theorem OR.imp(hc:∀a o j,Cl h τ k j a o->Cl h' τ' k' j a o)(e:ρ.Le ρ')(hf:∀a o,fx a o k->fx' a o k'):∀{o:AO} {a:Addr},OR w fx h τ ρ k o a->OR w fx' h' τ' ρ' k' o a
 | .lst l,_,x=>by(refine aZ x λ vs n c y=>?_;clear x);exact(aq vs n ⟨hc _ _ _ c,y.imp λ zz zz z=>z.mono e⟩)
 | .tup l,_,x=>by(refine aZ x λ vs n c y=>?_;clear x);exact(aq vs n ⟨hc _ _ _ c,y.imp λ zz zz z=>z.mono e⟩)
 | .ins C f,_,x=>by(refine aP x λ dx es n c c' y=>?_;clear x);exact(aI dx es n ⟨hc _ _ _ c,hc _ _ _ c',cw.mono e y⟩)
 | .bar b,_,x=>hc _ _ _ x
 | .frz b l,_,x=>by(refine aZ x λ vs n c y=>?_;clear x);exact(aq vs n ⟨hf _ _ c,y.imp λ zz zz z=>z.mono e⟩)
 | .dic l,_,x=>by(refine ao x λ ob kvs c d y=>?_;clear x);exact(aq ob kvs ⟨hc _ _ _ c,d,y.imp λ zz zz z=>⟨z.1,z.2.mono e⟩⟩)
 | .frd l,_,x=>by(refine ao x λ ob kvs c d y=>?_;clear x);exact(aq ob kvs ⟨⟨hf _ _ c.1,c.2⟩,d,y.imp λ zz zz z=>⟨z.1,z.2.mono e⟩⟩)
 | .dip _ _ _ _ l,_,x=>by(refine bV x λ ob kvs c d y q=>?_;clear x);exact(aq ob kvs ⟨hc _ _ _ c,d,y.imp λ zz zz z=>⟨z.1,z.2.mono e.z⟩,q⟩)
 | .dir t none A B,_,x=>by(refine ag x λ ob c y=>?_;clear x);exact⟨ob,hc _ _ _ c,y⟩
 | .dir t (some _) A B,_,x=>by(refine eZ x λ ob c l v y d=>?_;clear x);exact⟨ob,hc _ _ _ c,l,v,y.mono e,d⟩
 | .ktb S,_,x=>fg.imp hc e.z x
 | .cel none,_,x=>by(refine ag x λ ob c y=>?_;clear x);exact⟨ob,hc _ _ _ c,y⟩
 | .cel (some _),_,x=>by(refine fB x λ ob c u d y=>?_;clear x);exact⟨ob,hc _ _ _ c,u,d,y.mono e⟩
end
noncomputable def eI(t:List UInt8):PV:=.seq true [.ins 346 [155,156,157] [.int 0,.seq true [.byt t],.seq true [.int 0]]]
inductive uJ(h:Heap)(τ:Addr->bo)(z:Fz)(ph:Bool)(a:Addr)(r:BR):Prop
 | mk (dx:Addr) (es:List DictEntry) (n:Nat) (vk v vn:Value) (c0:Cl h τ 2 (2*a) a (instObj 655 dx)) (c1:Cl h τ 2 (2*a+1) dx (dictOf es n)) (ek:fh [121,74,179,180] [vk,v,.bool r.rep,vn] es)
  (k:bA z (.byt r.key) vk) (nt:bA z (.byt r.note) vn) (t:bA z (.byt r.told) v\/ph=true/\bA z (eI r.told) v)
theorem uJ.imp(hc:∀b o j,Cl h τ 2 j b o->Cl h' τ' 2 j b o)(e:z.Le z')(x:uJ h τ z ph a r):uJ h' τ' z' ph a r:=by
 obtain⟨dx,es,n,vk,v,vn,c0,c1,ek,k,nt,t⟩:=x
 exact⟨dx,es,n,vk,v,vn,hc _ _ _ c0,hc _ _ _ c1,ek,k.mono e,nt.mono e,t.imp (·.mono e) λ y=>⟨y.1,y.2.mono e⟩⟩
theorem uJ.el{P':Prop}(hh:uJ h τ z ph a r)(kk:∀(dx:Addr) (es:List DictEntry) (n:Nat) (vk v vn:Value) (c0:Cl h τ 2 (2*a) a (instObj 655 dx)) (c1:Cl h τ 2 (2*a+1) dx (dictOf es n)) (ek:fh [121,74,179,180] [vk,v,.bool r.rep,vn] es) (k:bA z (.byt r.key) vk) (nt:bA z (.byt r.note) vn) (t:bA z (.byt r.told) v\/ph=true/\bA z (eI r.told) v),P'):P':=by
 obtain⟨dx,es,n,vk,v,vn,c0,c1,ek,k,nt,t⟩:=hh
 exact kk dx es n vk v vn c0 c1 ek k nt t
structure Cx where
 w:World
 prg:Program
 loose:List Str
 mean:ExcName->Option Value
 (mg mb:Str->Option Value)
 (dp un:Nat)
 gd:Option (List Code)
 cn:Str
 fs:Scope
 fL:Addr
 cs:Scope
 (L a:Addr)
 ccd:Value
 cl:List (Str×Addr)
 vq:Str
 vf:Option Addr
 vc:List (Str×Addr)
 outer:List Env
 A₀:Around
 (base h₀:Heap)
 E:Value->Shared->Prop
 s:Shared
 fx:Addr->Obj->Nat->Prop
noncomputable abbrev Cx.A(c:Cx):Around:=ktrTop c.dp c.un c.gd c.cn c.fs c.fL c.a c.ccd c.cl c.outer
noncomputable abbrev Cx.M(c:Cx):Model:=model PySem.Challenge.rw_og0284_01.prog c.w
noncomputable abbrev Cx.fenv(c:Cx):Env:=envX c.cn c.fs c.fL c.a c.ccd c.cl
noncomputable abbrev Cx.env(c:Cx):Env:={scope:=c.cs,locals:=c.L,globals:=mainGlobals,cells:=c.vc,qual:=c.vq,func:=c.vf,code:=c.ccd,frame:=some c.fL,builtins:=builtinsNs}
noncomputable abbrev Cx.K(c:Cx):Frag:=hd.heap_39 c.w.params
structure aQ(c:Cx)(d:Nat):Prop where
 B:c.base.StaysIn c.h₀
 FF:∀h m,Fr c.h₀ c.L h m->h.FunFrames c.base (c.fenv::c.outer)
 off:∀h nw,News c.h₀ c.L h nw->∀e∈c.fenv::c.outer,∀b,e.frame=some b->b∉nw.map (·.1)
 X:c.K.In c.h₀
 T:Top c.prg c.loose c.mean c.mg c.mb c.h₀
 hk:c.cs.kind=.function
 hd:c.dp+d<recursionLimit
 hu:c.un+(10*d+100)<cLine
 hE:PassesOwn c.M c.A c.env c.E
 hc:∀y,c.cs.names.lookup y=some .local->c.vc.lookup y=none
 hc2:∀y,c.cs.names.lookup y=some .cell->∃a,c.vc.lookup y=some a
theorem aQ.less(h:aQ c d)(l:d'<=d):aQ c d':={h with hd:=Nat.lt_of_le_of_lt (Nat.add_le_add_left l _) h.hd,hu:=Nat.lt_of_le_of_lt (Nat.add_le_add_left (Nat.add_le_add_right (Nat.mul_le_mul_left 10 l) 100) _) h.hu}
noncomputable def W{α:Type}(c:Cx)(t:Sem α)(Q:α->Shared->Prop)(s:Shared):Prop:=aB c.M c.A t Q c.E s
noncomputable def c6(ρ:RR)(loc:List (Nat×AV))(m:Str->Option Value):Prop:=∀i a,loc.lookup i=some a->∃v,m (nm i)=some v/\Is ρ a v
theorem c6.mono(e:ρ.Le ρ')(h:c6 ρ loc m):c6 ρ' loc m:=λ i a q=>by refine ag (h i a q) λ v x y=>?_;exact⟨v,x,y.mono e⟩
noncomputable def dn(vc:List (Str×Addr))(m:Str->Option Value)(y:Str):Option Value:=match vc.lookup y with
 | some a=>some (.ref a)
 | none=>m y
structure rB(h₀:Heap)(L:Addr)(h:Heap)(a:Addr):Prop where
 g:(h.get? a).isSome=true
 l:a≠L
 n:h₀.get? a=none
structure aR(c:Cx)(h:Heap)(τ:Addr->bo)(ρ:RR)(os:List AO)(ph:Bool):Prop where
 N:∀a,(τ a).1≠0->rB c.h₀ c.L h a
 Y:∀a k j,τ a=(k+2,j)->(a==sysModules)=false
 sz:ρ.ad.length=os.length
 O:∀i o,os[i]?=some o->∃a,ρ.ad[i]?=some a/\OR c.w c.fx h τ ρ (i+3) o a
 Z:∀a o,ρ.z.cel a o->Cl h τ 1 0 a o
 X:∀a o k,c.fx a o k->Cl h τ 1 (k+1) a o
 B:∀a r,ρ.z.bds a=some r->uJ h τ ρ.z ph a r
noncomputable def lu(Qj s:Shared):Prop:=s.gens=Qj.gens/\s.drawn=Qj.drawn/\s.os=Qj.os
inductive au(c:Cx)(ρ:RR)(σ:St)(s:Shared):Prop
 | mk (m:Str->Option Value) (τ:Addr->bo) (F:Fr c.h₀ c.L s.heap m) (L:c6 ρ σ.loc (dn c.vc m)) (K:aR c s.heap τ ρ σ.obs σ.ph) (r:lu c.s s)
theorem au.el{P':Prop}(hh:au c ρ σ s)(kk:∀(m:Str->Option Value) (τ:Addr->bo) (F:Fr c.h₀ c.L s.heap m) (L:c6 ρ σ.loc (dn c.vc m)) (K:aR c s.heap τ ρ σ.obs σ.ph) (r:lu c.s s),P'):P':=by
 obtain⟨m,τ,F,L,K,r⟩:=hh
 exact kk m τ F L K r
inductive PE(c:Cx)(ρ:RR)(σ:St)(a:AV)(v:Value)(s:Shared):Prop
 | mk (ρ':RR) (e:ρ.Le ρ') (R:au c ρ' σ s) (x:Is ρ' a v)
inductive PL(c:Cx)(ρ:RR)(σ:St)(l:List AV)(vs:List Value)(s:Shared):Prop
 | mk (ρ':RR) (e:ρ.Le ρ') (R:au c ρ' σ s) (x:IsL ρ' l vs)
theorem PE.el{P':Prop}(hh:PE c ρ σ a v s)(kk:∀(ρ':RR) (e:ρ.Le ρ') (R:au c ρ' σ s) (x:Is ρ' a v),P'):P':=by
 obtain⟨ρ',e,R,x⟩:=hh
 exact kk ρ' e R x
theorem PL.el{P':Prop}(hh:PL c ρ σ l vs s)(kk:∀(ρ':RR) (e:ρ.Le ρ') (R:au c ρ' σ s) (x:IsL ρ' l vs),P'):P':=by
 obtain⟨ρ',e,R,x⟩:=hh
 exact kk ρ' e R x
theorem W.pe{Q:Value->Shared->Prop}(h:W c t (PE c ρ σ a) s)(k:∀v s' ρ',ρ.Le ρ'->au c ρ' σ s'->Is ρ' a v->Q v s'):W c t Q s:=aK h λ v s z=>by
 (refine PE.el z λ ρ' e R x=>?_;clear z)
 exact k v s ρ' e R x
end
section
variable{α:Type}{M:Model}{A:Around}{E:Value->Shared->Prop}{s:Shared}{env:Env}
theorem dX(h:Q () s):aB M A (release vs keep) Q E s:=ah (wpAny_release' h)
theorem aH(h:aB M A m P E s)(k:∀a s',P a s'->aB M A (f a) Q E s'):aB M A (m >>= f) Q E s:=
 aj (ax h k λ zz zz x=>x)
theorem lG(h:aB M A (eval e env) P E s)(k:∀v s',P v s'->Q (.ret v) s'):aB M A (exec (.Return (some e) pos) env) Q E s:=
 p5 (ax h k λ zz zz x=>x)
theorem c9(h:aB M A (eval value env) P E s)(k:∀v s',P v s'->aB M A (storeName env x v) (λ zz=>Q .next) E s')
  (hs:swapsWith value (some (.Name x pos')) pos.line env=pure false):aB M A (exec (.Assign [.Name x pos'] value pos) env) Q E s:=λ Γ p Qp hc=>by
 simp only[exec_Assign_Name env x pos' value pos hs,Sem.wp_bind',Sem.wp_cmd_standAt,Sem.wp_bindName,Sem.wp_pure'];exact Sem.wp_mono M Γ _ (λ v zz s₁ h₁=>k v s₁ h₁ Γ _ Qp hc) (λ zz zz zz h'=>h') _ _ (h Γ _ Qp hc)
theorem fG(h:aB M A (eval value env) P E s)
  (k:∀v s',P v s'->aB M A (eval o env) (λ ov P0=>aB M A (setAttr ov QL v) (λ zz=>Q .next) E P0) E s')
  (hs:swapsWith value (some (.Attribute o QL pos')) pos.line env=pure false):aB M A (exec (.Assign [.Attribute o QL pos'] value pos) env) Q E s:=λ Γ p Qp Qu=>by
 simp only[plainObj_exec_Assign_Attribute o QL pos' value pos hs,assign_Attribute,Sem.wp_bind',Sem.wp_holding,Sem.wp_cmd_standAt,Sem.wp_release,Sem.wp_pure'];exact Sem.wp_mono M Γ _ (λ v Sz s₁ h₁=>Sem.wp_mono M Γ _ (λ ov zz P0 Qa=>Qa Γ _ Qp Qu) (λ zz zz zz h'=>h') _ _ (k v s₁ h₁ Γ Sz Qp Qu)) (λ zz zz zz h'=>h') _ _ (h Γ _ Qp Qu)
theorem iQ(h:aB M A (eval value env) P E s)
  (g:∀v s',P v s'->aB M A (assign (.Tuple elts k tpos) env v) (λ zz=>Q .next) E s')
  (hs:swapsWithSole [.Tuple elts k tpos] value pos.line env=pure false) (hw:swappedStores [.Tuple elts k tpos] value env=pure none):aB M A (exec (.Assign [.Tuple elts k tpos] value pos) env) Q E s:=by
 refine ac (PyProof.Rows.exec_Assign _ _ _)<|aw<|ac hs<|az (wpAny_pure ?_);refine ac (if_neg (by decide))<|aH h λ v s₁ h₁=>ac hw<|az (wpAny_pure ?_);refine(?_:aB M A (do assignAll v [assign (.Tuple elts k tpos) env];pure .next) Q E s₁);exact aH (g v s₁ h₁) λ zz zz x=>al x
theorem gy(h:aB M A (eval value env) P E s)
  (g:∀v s',P v s'->aB M A (unpackItems v names.length none) (λ items P0=>aB M A (assignInOrder (names.reverse.map λ n=>bindName env n) items.reverse) (λ zz=>Q .next) E P0) E s')
  (hs:swapsWithSole [.Tuple elts k tpos] value pos.line env=pure false) (hw:swappedStores [.Tuple elts k tpos] value env=pure (some names)):aB M A (exec (.Assign [.Tuple elts k tpos] value pos) env) Q E s:=by
 refine ac (PyProof.Rows.exec_Assign _ _ _)<|aw<|ac hs<|az (wpAny_pure ?_);refine ac (if_neg (by decide))<|aH h λ v s₁ h₁=>ac hw<|az (wpAny_pure ?_);refine(?_:aB M A (do rule "assign.swapped-stores";let items ← unpackItems v names.length none;assignInOrder (names.reverse.map λ n=>bindName env n) items.reverse;pure .next) Q E s₁);exact az (wpAny_rule (aH (g v s₁ h₁) λ items P0 Qa=>aH Qa λ zz zz x=>al x))
theorem bJ(h:aB M A (t x) (λ zz s₁=>aB M A (assignInOrder ts xs) Q E s₁) E s):aB M A (assignInOrder (t::ts) (x::xs)) Q E s:=by
 refine(?_:aB M A (holding _ (t x) >>= λ zz=>assignInOrder ts xs) Q E s);exact aj (ak h)
theorem uV(h:aB M A (isTrue test env (eval test env)) P E s)
  (k:∀b s',P b s'->if b then aB M A (execs body env) Q E s' else aB M A (execs orelse env) Q E s'):aB M A (exec (.If test body orelse pos) env) Q E s:=by
 refine ac (exec_If _ _ _ _ _)<|aw (aH h λ b P0 Qa=>?_);have:=k b P0 Qa;cases b<;>exact this
theorem fj(h:aB M A (eval func env) P E s)(k:∀f s',P f s'->aB M A (callWith pos f [] (backTo pos (starEach args env)) []) Q E s')
  (he:eval (.Call func args [] pos) env=(do callWith pos (← eval func env) [] (backTo pos (starEach args env)) (backToKw pos (keywordEach [] env)))):aB M A (eval (.Call func args [] pos) env) Q E s:=by
 refine ac he ?_;exact aH h k
theorem fR(h:aB M A (eval o env) P E s)
  (k:∀ov s₁,P ov s₁->aB M A (getMethod ov name pl) (λ fx P0=>aB M A (callWith pos fx.1 fx.2 (backTo pos (starEach args env)) []) Q E P0) E s₁)
  (he:eval (.Call (.Attribute o name apos) args [] pos) env=(do
   let ov ← eval o env
   standAt apos.atName
   let (f,first) ← holding [ov] (getMethod ov name pl)
   callWith pos f first (backTo pos (starEach args env)) [])):aB M A (eval (.Call (.Attribute o name apos) args [] pos) env) Q E s:=by
 refine ac he<|aH h λ ov s₁ h₁=>aw (aj (ak (k ov s₁ h₁)))
theorem bd(h:aB M A x P E s)(k:∀v s₁,P v s₁->aB M A (spliced rest) (λ vs P0=>Q (v::vs) P0) E s₁) :
  aB M A (spliced ((false,x)::rest)) Q E s:=by
 rw[spliced];refine aH h λ v s₁ h₁=>?_;simp only[Bool.false_eq_true,if_false];exact az (wpAny_pure (aj (ak (aK (k v s₁ h₁) λ vs P0 Qa=>al Qa))))
theorem cr(h:Q [] s):aB M A (spliced (backTo pos (starEach [] env))) Q E s:=ah (args_nil h)
theorem dy(hp:trees.any (·.1)=false)(h:aB M A (spliced trees) P E s):aB M A (evalArgs f true trees []) (λ a s'=>a.kw=[]/\P a.pos s') E s:=by
 cases trees with
 | nil=>
  unfold evalArgs;refine(?_:aB M A (spliced [] >>= _) _ E s);refine aH h λ vs s' h'=>ak (ah ?_);exact wpAny_bind (wpAny_pure (wpAny_bind (wpAny_pure (wpAny_pure ⟨rfl,h'⟩))))
 | cons t ts=>
  obtain⟨b,x⟩:=t;have hb:b=false:=by
   simp only[List.any_cons,Bool.or_eq_false_iff] at hp;exact hp.1
  (clear hp;subst hb);exact mo (ax h (λ zz zz x=>⟨rfl,x⟩) λ zz zz x=>x)
theorem dY(hp:args.any (·.1)=false)
  (h:aB M A (spliced args) P E s) (k:∀vs s',P vs s'->(∃kk,(kk=Keeper.frame\/kk=Keeper.machine\/kk=Keeper.boundFrame)/\Looks M s'.heap (keeperOf f) kk)/\aB M A (call f (first++vs)) Q E s'):aB M A (callWith pos f first args []) Q E s:=by
 unfold callWith;refine aH (ak (dy hp h)) λ a s₁ h₁=>aw ?_;obtain⟨hkw,h₁⟩:=h₁;(refine aD (k _ _ h₁) λ Qc Qa=>?_;(refine ag Qc λ kk hk' L=>?_;clear Qc));refine ac hkw ?_;simp only[hp,List.any_nil,Bool.or_false];refine az (L.here ?_);have marked (mk:Value):aB M A (callMarked mk f (first++a.pos) []) Q E s₁:=by unfold callMarked;exact uM Qa
 rcases hk' with rfl|rfl|rfl<;>dsimp only<;>first|exact gs Qa|(split<;>first|exact gs Qa|exact gs (marked _))
theorem cq{K:Frag}(hk:keepIn K f=true)(hp:args.any (·.1)=false)
  (h:aB M A (spliced args) P E s) (k:∀vs s',P vs s'->K.In s'.heap/\aB M A (call f (first++vs)) Q E s'):aB M A (callWith pos f first args []) Q E s:=
 dY hp h λ vs s' x=>⟨keeps_K (M:=M) hk _ (k vs s' x).1,(k vs s' x).2⟩
end
section
variable{α:Type}{M:Model}{A:Around}{E:Value->Shared->Prop}{s:Shared}{env:Env}
theorem jt(h:aB M A (eval x env) P E s)(k:∀v s',P v s'->aB M A (unaryOp op v) Q E s'):aB M A (eval (.UnaryOp op x pos) env) Q E s:=by
 refine ac (eval_UnaryOp _ _ _)<|aH h λ v s₁ h₁=>aw (ak (k v s₁ h₁))
theorem on(h:aB M A (isTrue test env (eval test env)) P E s)
  (k:∀b s',P b s'->if b then aB M A (eval body env) Q E s' else aB M A (eval orelse env) Q E s'):aB M A (eval (.IfExp test body orelse pos) env) Q E s:=by
 refine ac (eval_IfExp _ _ _ _)<|aH h λ b P0 Qa=>?_;have:=k b P0 Qa;cases b<;>exact this
theorem kT(h:aB M A (eval P1 env) P E s)
  (k:∀v s₁,P v s₁->aB M A (truthy v) (λ c P0=>if c then aB M A (eval (.BoolOp .And (P8::rest) pos) env) Q E P0 else Q v P0) E s₁):aB M A (eval (.BoolOp .And (P1::P8::rest) pos) env) Q E s:=by
 refine(?_:aB M A (do
  let v ← eval P1 env
  standAt pos
  let c ← holding [v] (truthy v)
  match BoolOp.And,c with
  | .And,false|.Or,true=>pure v
  | _,_=>boolOp pos .And (eval P8 env::evalEach rest env)) Q E s)
 refine aH h λ v s₁ h₁=>aw (aH (ak (k v s₁ h₁)) λ c P0 Qa=>?_);cases c with
 | false=>exact al Qa
 | true=>exact Qa
theorem mv(h:aB M A (eval P1 env) P E s)
  (k:∀v s₁,P v s₁->aB M A (truthy v) (λ c P0=>if c then Q v P0 else aB M A (eval (.BoolOp .Or (P8::rest) pos) env) Q E P0) E s₁):aB M A (eval (.BoolOp .Or (P1::P8::rest) pos) env) Q E s:=by
 refine(?_:aB M A (do
  let v ← eval P1 env
  standAt pos
  let c ← holding [v] (truthy v)
  match BoolOp.Or,c with
  | .And,false|.Or,true=>pure v
  | _,_=>boolOp pos .Or (eval P8 env::evalEach rest env)) Q E s)
 refine aH h λ v s₁ h₁=>aw (aH (ak (k v s₁ h₁)) λ c P0 Qa=>?_);cases c with
 | false=>exact Qa
 | true=>exact al Qa
theorem fP(h:aB M A (isTrue x env (eval x env)) P E s)(k:∀c s',P c s'->Q (!c) s'):aB M A (isTrue (.UnaryOp .Not x pos) env whole) Q E s:=by
 refine(?_:aB M A (do return !(← isTrue x env (eval x env))) Q E s);exact aH h λ c s' h'=>al (k c s' h')
theorem kR(h:aB M A (isTrue x env (eval x env)) P E s)
  (k:∀c s',P c s'->if c then aB M A (isTrue (.BoolOp .And rest pos) env whole) Q E s' else Q false s'):aB M A (isTrue (.BoolOp .And (x::rest) pos) env whole) Q E s:=by
 refine(?_:aB M A (do
  match BoolOp.And,← isTrue x env (eval x env) with
  | .And,false=>pure false
  | .Or,true=>pure true
  | _,_=>allTrue .And rest env) Q E s)
 refine aH h λ c s' h'=>?_;have h':=k c s' h';cases c with
 | false=>exact al h'
 | true=>exact h'
theorem mt(h:aB M A (isTrue x env (eval x env)) P E s)
  (k:∀c s',P c s'->if c then Q true s' else aB M A (isTrue (.BoolOp .Or rest pos) env whole) Q E s'):aB M A (isTrue (.BoolOp .Or (x::rest) pos) env whole) Q E s:=by
 refine(?_:aB M A (do
  match BoolOp.Or,← isTrue x env (eval x env) with
  | .And,false=>pure false
  | .Or,true=>pure true
  | _,_=>allTrue .Or rest env) Q E s)
 refine aH h λ c s' h'=>?_;have h':=k c s' h';cases c with
 | false=>exact h'
 | true=>exact al h'
theorem eE(h:aB M A whole P E s)(k:∀v s₁,P v s₁->aB M A (truthy v) Q E s₁)
  (he:isTrue e env whole=(do let v ← whole;standAt e.pos;holding [v] (truthy v))):aB M A (isTrue e env whole) Q E s:=by
 refine ac he<|aH h λ v s₁ h₁=>aw (ak (k v s₁ h₁))
theorem kS(h:aB M A r P E s)
  (k:∀b s₁,P b s₁->aB M A (compareOp op a b) (λ c P0=>aB M A (truthy c) (λ t s₃=>if t then aB M A (compareChain pos b (op'::ops) (r'::rs)) Q E s₃ else Q c s₃) E P0) E s₁) :
  aB M A (compareChain pos a (op::op'::ops) (r::r'::rs)) Q E s:=by
 refine(?_:aB M A (do
  let rv ← holding [a] r
  standAt pos
  let c ← holding [a,rv] (compareOp op a rv)
  release [a,rv] [c]
  if ← holding [c,rv] (truthy c) then compareChain pos rv (op'::ops) (r'::rs) else pure c) Q E s)
 refine aH (ak h) λ b s₁ h₁=>aw (aH (ak (k b s₁ h₁)) λ c P0 Qa=>aj (dX (aH (ak Qa) λ t s₃ Qo=>?_)));cases t with
 | false=>exact al Qo
 | true=>exact Qo
theorem fQ(h:aB M A r P E s)(k:∀b s₁,P b s₁->aB M A (compareOp op a b) Q E s₁):aB M A (compareChain pos a [op] [r]) Q E s:=by
 refine(?_:aB M A (do
  let rv ← holding [a] r
  standAt pos
  operate [a,rv] (compareOp op a rv)) Q E s)
 exact aH (ak h) λ b s₁ h₁=>aw (eQ (k b s₁ h₁))
theorem ms(h:aB M A r P E s)
  (k:∀b s₁,P b s₁->aB M A (compareOp op a b) (λ c P0=>aB M A (truthy c) (λ t s₃=>if t then aB M A (testChain pos b (op'::ops) (r'::rs)) Q E s₃ else Q false s₃) E P0) E s₁) :
  aB M A (testChain pos a (op::op'::ops) (r::r'::rs)) Q E s:=by
 refine(?_:aB M A (do
  let rv ← holding [a] r
  standAt pos
  let c ← holding [a,rv] (compareOp op a rv)
  release [a,rv] [c]
  if ← holding [c,rv] (truthy c) then testChain pos rv (op'::ops) (r'::rs) else pure false) Q E s)
 refine aH (ak h) λ b s₁ h₁=>aw (aH (ak (k b s₁ h₁)) λ c P0 Qa=>aj (dX (aH (ak Qa) λ t s₃ Qo=>?_)));cases t with
 | false=>exact al Qo
 | true=>exact Qo
theorem gv(h:aB M A r P E s)(k:∀b s₁,P b s₁->aB M A (compareOp op a b) (λ c P0=>aB M A (truthy c) Q E P0) E s₁) :
  aB M A (testChain pos a [op] [r]) Q E s:=by
 refine(?_:aB M A (do
  let rv ← holding [a] r
  standAt pos
  let c ← operate [a,rv] (compareOp op a rv)
  holding [c] (truthy c)) Q E s)
 exact aH (ak h) λ b s₁ h₁=>aw (aH (eQ (k b s₁ h₁)) λ c P0 Qa=>ak Qa)
theorem ju(h:aB M A (eval l env) P E s)(k:∀a s₁,P a s₁->aB M A (compareChain pos a ops (evalEach rs env)) Q E s₁)
  (hm:lastMarks ops rs=false):aB M A (eval (.Compare l ops rs pos) env) Q E s:=by
 refine(?_:aB M A (do compareChain pos (← eval l env) ops (markedEach ops rs (evalEach rs env))) Q E s);refine ac (markedEach_of_false _ _ _ hm)<|aH h k
theorem dw(h:aB M A (eval l env) P E s)(k:∀a s₁,P a s₁->aB M A (testChain pos a ops (evalEach rs env)) Q E s₁)
  (hm:lastMarks ops rs=false):aB M A (isTrue (.Compare l ops rs pos) env whole) Q E s:=by
 refine(?_:aB M A (do testChain pos (← eval l env) ops (markedEach ops rs (evalEach rs env))) Q E s);refine ac (markedEach_of_false _ _ _ hm)<|aH h k
theorem uW(h:aB M A (eval l env) P E s)(k:∀a s₁,P a s₁->aB M A (eval r env) (λ b P0=>aB M A (binaryOp op a b) Q E P0) E s₁):aB M A (eval (.BinOp l op r pos) env) Q E s:=by
 refine ac (arm_eval_BinOp _ _ _ _ _)<|aH h λ a s₁ h₁=>aH (ak (k a s₁ h₁)) λ b P0 Qa=>aw (eQ Qa)
theorem dZ(h:aB M A (eval value env) P E s)(k:∀o s₁,P o s₁->aB M A (eval QM env) (λ i P0=>aB M A (subscriptTail value QM o i) Q E P0) E s₁):aB M A (eval (.Subscript value QM pos) env) Q E s:=by
 refine(?_:aB M A (do
  let o ← eval value env
  let i ← holding [o] (eval QM env)
  standAt pos
  let r ← subscripted QM (← getitemInPython o) o i
  letTemporaryGo value o r
  pure r) Q E s)
 exact aH h λ o s₁ h₁=>aH (ak (k o s₁ h₁)) λ i P0 Qa=>aw Qa
theorem oj(h:aB M A (evalPart l env) P E s) (k:∀v s₁,P v s₁->aB M A (evalPart u env) (λ x P0=>
   Q (.ref P0.heap.objs.size) {P0 with heap:=P0.heap.push {cls:=.type "slice",data:=.fields #[v,x,.none] } }) E s₁):aB M A (eval (.Slice l u none p) env) Q E s:=by
 refine ac (arm_eval_Slice _ _ _ _ _)<|aH h λ v s₁ h₁=>aH (ak (k v s₁ h₁)) λ x P0 Qa=>(?_:aB M A (holding [v,x] (pure .none) >>= λ st=>newFields "slice" [v,x,st]) Q E P0)
 exact ah (wpAny_bind (wpAny_holding (wpAny_pure (wpAny_newObj_type Qa))))
theorem oh(h:aB M A (spliced (backTo pos (starEach elts env))) P E s)(g:∀vs s₁,P vs s₁->aB M A (newTuple vs) Q E s₁):aB M A (eval (.Tuple elts k pos) env) Q E s:=by
 refine ac (arm_eval_Tuple _ _ _ _)<|aw (aH h g)
theorem yR(h:aB M A (spliced (backTo pos (starEach elts env))) P E s)(g:∀vs s₁,P vs s₁->aB M A (newList vs) Q E s₁):aB M A (eval (.List elts pos) env) Q E s:=by
 refine ac (arm_eval_List _ _ _)<|aw (aH h g)
end
section
variable{prog:Program}{w:World}{A:Around}{E:Value->Shared->Prop}{s:Shared}{env:Env}
theorem rI(h:aB (model prog w) A (eval e env) P E s)(k:∀v s',P v s'->Q .next s')
  (hi:interactive env=false) (hs:swapsWith e none pos.line env=pure false):aB (model prog w) A (exec (.Expr e pos) env) Q E s:=by
 refine ac (exec_Expr env e pos hi hs)<|aw (aH h λ v s' h'=>ah (wpAny_dropValue (k v s' h')))
theorem mw(h:aB (model prog w) A (eval value env) P E s)(k:∀o s₁,P o s₁->aB (model prog w) A (getAttr o QL true) Q E s₁)
  (he:eval (.Attribute value QL pos) env=(do
   let o ← eval value env
   standAt pos.atName
   let r ← holding [o] (getAttr o QL true)
   letTemporaryGo value o r
   pure r)):aB (model prog w) A (eval (.Attribute value QL pos) env) Q E s:=by
 refine ac he<|aH h λ o s₁ h₁=>aw (aH (ak (k o s₁ h₁)) λ r P0 Qa=>ah (wpAny_bind (wpAny_letTemporaryGo (wpAny_pure Qa))))
end
section
open PySem.Builtin (Bytes.order)
theorem oJ:∀a b:Bs,Builtin.Bytes.order b a=(Builtin.Bytes.order a b).swap
 | [],[]|[],_::_|_::_,[]=>rfl
 | x::a,y::b=>by
  simp only[Builtin.Bytes.order];by_cases h1:x<y
  ·have h2:¬y<x:=λ h=>absurd (UInt8.lt_trans h1 h) (UInt8.lt_irrefl _);simp [h1,h2]
  ·by_cases h2:y<x
   ·simp [h1,h2]
   ·simp [h1,h2,oJ a b]
theorem C4(h:Builtin.Bytes.order a b=.eq):a=b:=by
 have:=PySem.W.order_eq a b;rw[h] at this;simpa using this.symm
theorem vV(a:Bs):Builtin.Bytes.order a a=.eq:=by
 have:=PySem.W.order_eq a a;simpa using this
theorem lN:∀{a b c:Bs},Builtin.Bytes.order a b=.lt->Builtin.Bytes.order b c=.lt->Builtin.Bytes.order a c=.lt
 | [],[],_,h,_=>by simp [Builtin.Bytes.order] at h
 | _::_,[],_,h,_=>by simp [Builtin.Bytes.order] at h
 | [],_::_,[],_,h=>by simp [Builtin.Bytes.order] at h
 | _::_,_::_,[],_,h=>by simp [Builtin.Bytes.order] at h
 | [],_::_,_::_,_,_=>by simp [Builtin.Bytes.order]
 | x::a,y::b,z::c,h1,h2=>by
  simp only[Builtin.Bytes.order] at h1 h2 ⊢;by_cases hxy:x<y
  ·by_cases hyz:y<z
   ·exact ac (if_pos (UInt8.lt_trans hxy hyz)) rfl
   ·rw[if_neg hyz] at h2;by_cases hzy:z<y
    ·rw[if_pos hzy] at h2;cases h2
    ·have:y=z:=UInt8.le_antisymm (UInt8.not_lt.mp hzy) (UInt8.not_lt.mp hyz);subst this;exact ac (if_pos hxy) rfl
  ·rw[if_neg hxy] at h1;by_cases hyx:y<x
   ·rw[if_pos hyx] at h1;cases h1
   ·have e:x=y:=UInt8.le_antisymm (UInt8.not_lt.mp hyx) (UInt8.not_lt.mp hxy);(clear hxy;subst e);rw[if_neg hyx] at h1;by_cases hyz:x<z
    ·exact ac (if_pos hyz) rfl
    ·rw[if_neg hyz] at h2 ⊢;by_cases hzy:z<x
     ·rw[if_pos hzy] at h2;cases h2
     ·rw[if_neg hzy] at h2 ⊢;exact lN h1 h2
def fH(a b:Bs):Bool:=Builtin.Bytes.order a b==.lt
theorem mI:fH a b=true↔Builtin.Bytes.order a b=.lt:=by unfold fH;simp
theorem ga(a:Bs):fH a a=false:=by unfold fH;refine ac (vV _) ?_;rfl
theorem fu(h1:fH a b=true)(h2:fH b c=true):fH a c=true:=mI.mpr (lN (mI.mp h1) (mI.mp h2))
theorem io(h1:fH a b=false)(h2:fH b a=false):a=b:=by
 unfold fH at h1 h2;rw[oJ] at h2;cases e:Builtin.Bytes.order a b with
 | eq=>exact C4 e
 | lt=>rw[e] at h1;exact tf h1
 | gt=>rw[e] at h2;exact tf h2
theorem mH(h:fH a c=true):fH a b=true\/fH b c=true:=by
 cases h1:fH a b with
 | true=>exact .inl rfl
 | false=>
  refine .inr ?_;cases h2:fH b a with
  | true=>exact fu h2 h
  | false=>refine bP (io h1 h2) ?_;exact h
@[reducible] def gl:PyProof.Rows.KeyKind where
 α:=Bs
 blt:=fH
 irrefl:=ga
 trans _ _ _:=fu
 negTrans _ _ _:=mH
 total _ _:=io
 keyOf v:=match v with|.bytes b _=>some b.toList|_=>none
 dflt:=[]
theorem rS:Slot "bytes" "__lt__" "bytes.__lt__":=
 .of (owner:="bytes") (n:="__lt__") (by refine ac (typeLookup_type _ _) (ac builtinLookup_eq_fast ?_);kernel_rfl) (by decide +kernel) (by decide +kernel) (by decide +kernel)
  (by first|exact .inl (by decide +kernel)|exact .inr (by decide +kernel)) (by refine ac (isSubtype_type _ _) ?_;kernel_rfl)
theorem w4:entryFor table "bytes.__lt__"=some Builtin.«bytes.__lt__»:=entryFor_of_tree (by kernel_rfl)
theorem AL(a b:Value):argsOk "bytes.__lt__" ⟨[a,b],[]⟩:=by
 unfold argsOk;refine ac (signature?_of (id:="bytes.__lt__") (n:=['_','_','t','l','_','_']) (o:=['s','e','t','y','b']) (by kernel_rfl) PySem.W.FB.owner_bytes) ?_;kernel_rfl
theorem Ax(h:Q (.bool (fH a.toList b.toList)) s) :
  wpAny (model prog w) A (call (.builtin "bytes.__lt__") [.bytes a t,.bytes b u]) Q E s:=by
 refine wpAny_call_entry rS (PySem.W.typeIs_bytes s a t) w4 ?_ (AL _ _);refine(?_:wpAny _ _ (isInstance (.bytes b u) (.type "bytes") >>= λ r=>_) _ _ s);refine wpAny_bind (wpAny_isInstance (PySem.W.typeIs_bytes s b u) F.sub_bytes_bytes ?_);exact wpAny_pure ⟨_,rfl,h⟩
theorem gY:gl.OneLt:=by
 intro prog w A E s x y a b Q ha hb h;cases x<;>simp only[gl,reduceCtorEq,Option.some.injEq] at ha
 cases y<;>simp only[gl,reduceCtorEq,Option.some.injEq] at hb
 cases ha;cases hb;refine ac (oneLt'_eq _ _ _) ?_;simp only[if_true];refine wpAny_bind (wpAny_cRoomFor_byValue rfl ?_);refine wpAny_bind (wpAny_callSpecialIfBound?_slot (PySem.W.typeIs_bytes s _ _) rS (Ax ?_));exact wpAny_truthy_bool h
theorem aU.all:∀{vs:List Value} {ns:List Bs},aU vs ns->∀v∈vs,∃b t,v=.bytes b t
 | _,_,.nil,v,h=>by simp at h
 | _,_,.cons b t r,v,h=>by
  rcases mC h with rfl|h
  ·exact(aq _ _ rfl)
  ·exact r.all v h
theorem iJ:∀{vs:List Value} {ns:List Bs},aU vs ns->vs.mapM firstOfTuple'=pure (vs.map λ zz=>none)
 | _,_,.nil=>by simp
 | _,_,.cons b t h=>by
  refine ac List.mapM_cons (ac (show firstOfTuple' (.bytes b.toArray t)=pure none from rfl) (ac (iJ h) ?_));simp
theorem gz:∀{vs:List Value} {ns:List Bs},aU vs ns->vs.mapM typeOf=pure (vs.map λ zz=>Value.type "bytes")
 | _,_,.nil=>by simp
 | _,_,.cons b t h=>by
  refine ac List.mapM_cons (ac (gz h) ?_);show(pure (Value.type "bytes") >>= λ b=>pure _ >>= λ bs=>pure (b::bs))=_;simp
theorem fT(hS:aU (QY::Rg::vs) ns):keyKind' (QY::Rg::vs).toArray=pure oneType':=by
 refine ac (keyKind'_eq _) (ac List.mapM_toArray (ac (iJ hS) ?_));simp only[map_pure,pure_bind];refine ac (if_neg (by simp)) (ac (if_neg (by simp)) ?_);refine ac (oneTypeOnly'_eq _) (ac List.mapM_toArray (ac (gz hS) ?_));simp only[map_pure,pure_bind];have hall:((List.map (λ zz=>Value.type "bytes") (QY::Rg::vs)).toArray.all λ x=>x==Value.type "bytes")=true:=by
  simp only[List.all_toArray,List.all_map,List.all_eq_true];intro _ _;rfl
 have h0:(List.map (λ zz=>Value.type "bytes") (QY::Rg::vs)).toArray[0]?=some (Value.type "bytes"):=by simp
 refine ac h0 ?_;simp only[hall,if_true,pure_bind,Option.isSome_some]
def nG:Value->Bs
 | .bytes b _=>b.toList
 | _=>[]
theorem aU.of:∀(vs:List Value),(∀v∈vs,∃b t,v=.bytes b t)->aU vs (vs.map nG):=by intro l_;induction l_ with
 | nil=>intro _;exact .nil
 | cons v vs P9=>
  intro h;(refine bW (h v (.head _)) λ b t PZ=>?_;obtain rfl:=PZ);have:=aU.cons b.toList t (P9 λ u hu=>h u (.tail _ hu));rw[Array.toArray_toList] at this;exact this
theorem aU.bs:∀{vs:List Value} {ns:List Bs},aU vs ns->vs.map nG=ns
 | _,_,.nil=>rfl
 | _,_,.cons b t h=>by refine ac List.map_cons (ac h.bs ?_);rfl
def iG(ks:List Bs):List Bs:=ks.mergeSort λ a b=>!fH b a
theorem qr(ks:List Bs):(iG ks).Perm ks:=List.mergeSort_perm _ _
theorem mD(ks:List Bs):(iG ks).Pairwise λ a b=>fH b a=false:=by
 have:=List.pairwise_mergeSort (le:=λ a b=>!fH b a) (λ a b c h1 h2=>by
  simp only[Bool.not_eq_true'] at *;cases h:fH c a with
  | false=>rfl
  | true=>rcases mH (b:=b) h with x|x<;>simp_all) (λ a b=>by
  cases h1:fH b a<;>cases h2:fH a b<;>simp
  have:=fu h1 h2;rw[ga] at this;exact ff this) ks
 refine this.imp ?_;intro a b h;simpa using h
theorem oA(hp:xs.Perm ks)(hs:xs.Pairwise λ a b=>fH b a=false):xs=iG ks:=
 List.Perm.eq_of_pairwise (le:=λ a b=>fH b a=false) (λ a b zz zz h1 h2=>io h2 h1) hs (mD ks) (hp.trans (qr ks).symm)
theorem jz(hS:aU vs ns)(hp:xs.Perm (pairsOf vs))(hs:SortedToK gl xs (pairsOf vs).size):aU (xs.map (·.2)).toList (iG ns):=by
 have hl:xs.toList.Perm (vs.zip vs):=by refine bP (pairsOf_toList _) ?_;exact Array.perm_iff_toList_perm.mp hp
 have hmem:∀p,p∈xs.toList->p.1=p.2/\p.1∈vs:=λ p hp'=>mem_zip_self (hl.mem_iff.mp hp');have e:(xs.map (·.2)).toList=xs.toList.map (·.1):=by
  refine ac Array.toList_map ?_;exact List.map_congr_left λ p hp'=>(hmem p hp').1.symm
 refine ac e ?_;have h1:=aU.of (xs.toList.map (·.1)) (by
  intro v hv;(refine cE hv λ p hp' PZ=>?_;(clear hv;obtain rfl:=PZ));exact hS.all _ (hmem p hp').2)
 have e2:(xs.toList.map (·.1)).map nG=iG ns:=by
  refine oA ?_ ?_
  ·have h2:=hl.map (λ p=>nG p.1);have e3:(vs.zip vs).map (λ p=>nG p.1)=ns:=by
    have:(vs.zip vs).map (λ p=>nG p.1)=((vs.zip vs).map Prod.fst).map nG:=by refine ac List.map_map ?_;rfl
    exact ac this (ac (List.map_fst_zip (Nat.le_refl _)) (ac hS.bs rfl))
   rw[e3] at h2;refine ac List.map_map<|h2
  ·rw[List.pairwise_iff_getElem];intro i j hi hj hij;have hi':i<xs.size:=by simpa using hi
   have hj':j<xs.size:=by simpa using hj
   have h1:=hs i j (Nat.le_of_lt hij) (by refine bP hp.size_eq ?_;exact hj');refine bW (hS.all _ (hmem xs[i] (by simp)).2) λ x t ex=>bW (hS.all _ (hmem xs[j] (by simp)).2) λ y u ey=>?_;have k1:KK gl xs i=x.toList:=by unfold KK;refine ac (getElem?_pos xs i hi') (ac (show xs[i]=(.bytes x t,xs[i].2) from Prod.ext ex rfl) ?_);rfl
   have k2:KK gl xs j=y.toList:=by unfold KK;refine ac (getElem?_pos xs j hj') (ac (show xs[j]=(.bytes y u,xs[j].2) from Prod.ext ey rfl) ?_);rfl
   rw[k1,k2] at h1;change fH y.toList x.toList=false at h1;simp only[List.getElem_map,Array.getElem_toList];refine ac (show nG xs[i].1=x.toList by rw[ex];rfl) (ac (show nG xs[j].1=y.toList by rw[ey];rfl) ?_);exact h1
 rw[e2] at h1;exact h1
theorem gK(hS:aU vs ns):PyProof.Rows.KeysOf gl (pairsOf vs):=by
 intro p hp;rw[pairsOf_toList] at hp;refine bW (hS.all _ (mem_zip_self hp).2) λ b t e=>⟨b.toList,by exact ac e rfl⟩
section
variable{prog:Program}{w:World}{A:Around}{E:Value->Shared->Prop}{s:Shared}{h₀:Heap}{L:Addr}{m:Str->Option Value}{news:List (Addr×Obj)}
theorem zm(F:Fr h₀ L s.heap m)(N:News h₀ L s.heap news)(hl:s.heap.IsList l vs.toArray)(hS:aU vs ns)(h64:vs.length<64)
  (h:∀(a:Addr) (h':Heap) (vs':List Value) (e:Nat),Fr h₀ L h' m->News h₀ L h' ((a,listOf vs'.toArray e)::news)->(∀p∈news,p.1<a)->aU vs' (iG ns)->Q (.ref a) {s with heap:=h'}) :
  wpAny (model prog w) A (call (.builtin "sorted") [.ref l]) Q E s:=by
 refine sortedK gY hl (gK hS) (λ QY Rg rest e=>fT (by refine bP e ?_;exact hS)) h64 λ st' hp hs=>?_;refine aA (sortedAll_at s.heap vs ((arrOf st').map (·.2))) λ e he=>?_;have he':(sortedAll s.heap vs ((arrOf st').map (·.2))).get? (s.heap.objs.size+1)=some (listOf ((arrOf st').map (·.2)).toList.toArray e):=by exact ac he rfl
 exact h _ _ _ e (F.kept λ zz zz=>sortedAll_old) (N.kept_cons F (λ zz zz=>sortedAll_old) (Nat.le_succ _) he') (λ p hp'=>Nat.lt_succ_of_lt (Heap.lt_size (N p hp').1)) (jz hS hp hs)
theorem oU{kvs:List (Bs×Value)}:∀{vs:List Value},vs.length=kvs.length->(∀(j:Nat) (v:Value),vs[j]?=some v->∃k x,kvs[j]?=some (k,x)/\(bytesKind prog w).is k v=true)->aU vs (kvs.map (·.1)):=by
 induction kvs with
 | nil=>intro vs hl _;cases vs<;>first|exact .nil|simp at hl
 | cons kv kvs ih=>
  intro vs hl hv;cases vs with
  | nil=>simp at hl
  | cons v vs=>
   refine aZ (hv 0 v rfl) λ k x h1 h2=>?_;simp at h1;(refine aA (PySem.W.isBytes_shape h2) λ t P2=>?_;(clear h2;obtain rfl:=P2));refine ac List.map_cons (ac h1 ?_);exact .cons k t (ih (by simpa using hl) λ j u hu=>by simpa using hv (j+1) u (by simpa using hu))
theorem zn{d:Addr}(hh:A.handled=none)(F:Fr h₀ L s.heap m)(N:News h₀ L s.heap news)(D:s.heap.DictOf (bytesKind prog w) d kvs)(lo:(d==sysModules)=false)(h64:kvs.length<64)
  (h:∀(a:Addr) (h':Heap) (tk:Nat) (vs':List Value) (e:Nat),Fr h₀ L h' m->News h₀ L h' ((a,listOf vs'.toArray e)::news)->(∀p∈news,p.1<a)->aU vs' (iG (kvs.map (·.1)))->Q (.ref a) {s with heap:=h',toks:=tk}) :
  wpAny (model prog w) A (call (.builtin "sorted") [.ref d]) Q E s:=by
 refine aA D.dictAt λ ep hat=>kdu_sorted (kdl_dict (knd:=bytesKind prog w) (kvs:=kvs) (ep:=ep) lo) hh F N hat (by refine ac sizeLine_eq ?_;lia) λ B h' tk vs F' N' l1 hl hv=>?_;have hS:=oU hl hv;have hB:=(N' _ (.head _))
 have h64':vs.length<64:=by refine ac hl ?_;exact h64
 refine wpAny_call_entry slot_list_sort ⟨_,hB.1,rfl⟩ entry_list_sort (list_sort_treeK (s:={s with heap:=h',toks:=tk}) gY (show h'.get? B=some (seqObj "list" vs.toArray 0) from hB.1) (gK hS) (λ QY Rg rest e=>fT (by refine bP e ?_;exact hS)) h64' λ st' hp hs=>⟨_,rfl,?_⟩) (args_list_sort _);refine aA (sortedHeap_at (out:=(arrOf st').map (·.2)) (show h'.get? B=some (seqObj "list" vs.toArray 0) from hB.1)) λ e he=>?_;have he':(sortedHeap h' B vs ((arrOf st').map (·.2))).get? B=some (listOf ((arrOf st').map (·.2)).toList.toArray e):=by exact ac he rfl
 have old:∀b o,b≠B->h'.get? b=some o->(sortedHeap h' B vs ((arrOf st').map (·.2))).get? b=some o:=λ b o hb hg=>(sortedHeap_old hb (Heap.lt_size hg)).trans hg;have F2:Fr h₀ L (sortedHeap h' B vs ((arrOf st').map (·.2))) m:=by
  obtain⟨⟨oL,es,ep2,hL,r⟩,k,ab⟩:=F';exact⟨(aI oL es ep2 ⟨old _ _ (Ne.symm hB.2.1) hL,r⟩),λ b o e=>old b o (λ q=>by rw[q,hB.2.2] at e;exact dC e) (k b o e),ab⟩
 refine h B _ tk _ e F2 (λ p hp'=>?_) l1 (jz hS hp hs);rcases mC hp' with rfl|hp'
 ·exact⟨he',hB.2⟩
 ·have z:=N' p (.tail _ hp');exact⟨old _ _ (Nat.ne_of_lt (l1 p hp')) z.1,z.2⟩
end
end
section
variable{prog:Program}{w:World}{A:Around}{E:Value->Shared->Prop}{s:Shared}{h₀:Heap}{L d e:Addr}{m:Str->Option Value}{news:List (Addr×Obj)}{kvs:List (Bs×Value)}
theorem BE(kvs:List (Bs×Value)):kvs.length=([]:List (Bs×Value)).length->KeqHits A s ([]:List (Bs×Value)) kvs true:=λ h=>by
 cases kvs with
 | nil=>exact .nil
 | cons _ _=>exact nq h rfl
theorem J7(D:s.heap.DictOf (bytesKind prog w) d kvs)(De:s.heap.DictOf (bytesKind prog w) e [])(lo:(d==sysModules)=false)(lo':(e==sysModules)=false)(hu:A.units<cLine)(hb:kvs.isEmpty=b)(h:Q (.bool b) s) :
  wpAny (model prog w) A (compareOp .Eq (.ref d) (.ref e)) Q E s:=by
 subst hb;refine keq_eq lo lo' D De hu (BE kvs) ?_;cases kvs<;>simpa using h
theorem J5(D:s.heap.DictOf (bytesKind prog w) d kvs)(De:s.heap.DictOf (bytesKind prog w) e [])(lo:(d==sysModules)=false)(lo':(e==sysModules)=false)(hu:A.units<cLine)(hb:kvs.isEmpty=b)(h:Q (.bool (!b)) s) :
  wpAny (model prog w) A (compareOp .NotEq (.ref d) (.ref e)) Q E s:=by
 subst hb;refine keq_ne lo lo' D De hu (BE kvs) ?_;cases kvs<;>simpa using h
theorem G9(hh:A.handled=none)(F:Fr h₀ L s.heap m)(N:News h₀ L s.heap news)(D:s.heap.DictOf (bytesKind prog w) d kvs)(lo:(d==sysModules)=false)(hz:kvs.length<=1000)
  (h:∀(B:Addr) c h' tk vs,Fr h₀ L h' m->News h₀ L h' ((B,listOf vs.toArray c)::news)->(∀q∈news,q.1<B)->aU vs (kvs.map (·.1))->Q (.ref B) {s with heap:=h',toks:=tk}) :
  wpAny (model prog w) A (call (.type "list") [.ref d]) Q E s:=by
 refine aA D.dictAt λ ep hat=>kdl_N (kdl_dict (knd:=bytesKind prog w) (kvs:=kvs) (ep:=ep) lo) hh F N hat (by refine ac sizeLine_eq ?_;lia) λ B c h' tk vs F' N' l1 hl hv=>h B c h' tk vs F' N' l1 (oU hl hv)
end
section
open PySem.SeqAt (EqAt RcAt RcNeAt rc_eq_decline_or)
theorem da:isSubtype (.type "NoneType") (.type "bytes")=pure false:=by refine ac (isSubtype_type _ _) ?_;kernel_rfl
theorem jx:isSubtype (.type "bytes") (.type "NoneType")=pure false:=by refine ac (isSubtype_type _ _) ?_;kernel_rfl
theorem de:Slot "bytes" (cmpInfo .Eq).2.2 "bytes.__eq__":=PySem.W.FB.slot_bytes_eq
theorem dR(b:Array UInt8)(u:Tok):Gives (Builtin.«NoneType.__eq__» ⟨[.none,.bytes b u],[]⟩) (.val (Value.notImplemented)):=
 .of_wp λ M A E s Q h=>by obtain⟨hp,g,d,tk,os⟩:=s;wp_walk;exact⟨_,rfl,h⟩
theorem dS(b:Array UInt8)(u:Tok):Gives (Builtin.«bytes.__eq__» ⟨[.bytes b u,.none],[]⟩) (.val (Value.notImplemented)):=by
 refine .of_wp λ M A E s Q hq=>(?_:wpAny M A (isInstance .none (.type "bytes") >>= λ r=>_) _ E s)
 refine wpAny_bind (wpAny_isInstance (T:="NoneType") rfl da ?_);refine wpAny_bind (wpAny_isInstance (T:="NoneType") rfl da ?_);refine ac (if_pos (by decide))<|wpAny_bind (wpAny_rule ?_);exact wpAny_pure ⟨_,rfl,hq⟩
section
variable{A:Around}{s:Shared}
theorem kU(b:Array UInt8)(u:Tok):RcAt A s (.bytes b u) .none false:=λ prog w E Q h=>
 rc_eq_decline_or (k:=false) (PySem.W.typeIs_bytes s b u) rfl (by decide) da PySem.W.FB.slot_bytes_eq F.slot_NoneType_eq_refl
  (λ zz hq=>call_gives PySem.W.FB.slot_bytes_eq (PySem.W.typeIs_bytes s b u) PySem.W.FB.entry_bytes_eq (PySem.W.FB.args_bytes_eq_2 _ _) (dS b u) hq)
  (λ zz hq=>call_gives F.slot_NoneType_eq_refl rfl F.entry_NoneType_eq (F.args_NoneType_eq_2 _ _) (dR b u) hq)
  (λ zz hq=>wpAny_of_eq (rfl:isSame (.bytes b u) .none=pure false) hq) (.inl rfl) h
theorem fS(b:Array UInt8)(u:Tok):RcAt A s .none (.bytes b u) false:=λ prog w E Q h=>
 rc_eq_decline_or (k:=false) rfl (PySem.W.typeIs_bytes s b u) (by decide) jx F.slot_NoneType_eq de
  (λ zz hq=>call_gives F.slot_NoneType_eq rfl F.entry_NoneType_eq (F.args_NoneType_eq_2 _ _) (dR b u) hq)
  (λ zz hq=>call_gives de (PySem.W.typeIs_bytes s b u) PySem.W.FB.entry_bytes_eq (PySem.W.FB.args_bytes_eq_2 _ _) (dS b u) hq)
  (λ zz hq=>wpAny_of_eq (rfl:isSame .none (.bytes b u)=pure false) hq) (.inl rfl) h
theorem j2(b:Array UInt8)(u:Tok):EqAt A s .none (.bytes b u) false:=λ prog w E Q h=>by
 unfold eqBool;refine wpAny_holding<|wpAny_ite_split (λ hab=>absurd (eq_of_beq hab) nofun) (λ zz=>?_);exact wpAny_bind (fS b u prog w E _ (wpAny_truthy_bool h))
end
theorem lf(h:Q (.bool false) s):wpAny (model prog w) A (compareOp .Eq (.bytes b u) .none) Q E s:=kU b u prog w E Q h
end
end Mine
end
section
open PySem PySem.W PyProof.Rows PySem.Spec PySem.Calls
namespace Mine
section
set_option genCtorIdx false
set_option genSizeOf false
set_option genInjectivity false
inductive FT where
 | one (i:Nat) (p:Pos)|mul (l:List (Nat×Pos)) (k:Nat) (r:Pos)|cel (i:Nat) (p:Pos)
inductive X where
 | loc (i:Nat) (p:Pos)|cel (i:Nat) (p:Pos)|glo (i:Nat) (p:Pos)|int (k:Int) (q:Nat) (p:Pos)|byt (b:List UInt8) (q:Nat) (p:Pos)|non (q:Nat) (p:Pos)|boo (b:Bool) (q:Nat) (p:Pos)
 | att (e:X) (a:Nat) (p:Pos)
 | call (f:X) (l:List X) (p:Pos)
 | meth (o:X) (a:Nat) (ap:Pos) (l:List X) (p:Pos)
 | cmp (op:CmpOp) (a b:X) (p:Pos)
 | cmq (Qv QD:CmpOp) (a b c:X) (p:Pos)
 | and (l:List X) (p:Pos)|or (l:List X) (p:Pos)|not (e:X) (p:Pos)|ife (t a b:X) (p:Pos)
 | bin (op:Operator) (a b:X) (p:Pos)|inv (a:X) (p:Pos)
 | sub (o i:X) (p:Pos)|sl (o:X) (l u:Option X) (p q:Pos)
 | tup (l:List X) (k:Nat) (p:Pos)|lst (l:List X) (p:Pos)
 | neg (a:X) (p:Pos)|dct (p:Pos)
 | lc (e:X) (t:FT) (it:X) (c:Option X) (nms:List (Nat×NameKind)) (fv:List Nat) (p:Pos)
 | raw (k:Nat) (f:Expr) (l:List Expr) (p:Pos) (nms:List (Nat×NameKind)) (xs:List X)
noncomputable abbrev lZ (i l c e : Nat) : X := .loc i ⟨l, c, l, e⟩
noncomputable abbrev gZ (i l c e : Nat) : X := .glo i ⟨l, c, l, e⟩
inductive Tg where
 | nam (i:Nat) (p:Pos)|att (o:X) (a:Nat) (p:Pos)|cel (i:Nat) (p:Pos)|two (i:Nat) (p:Pos) (j:Nat) (q:Pos) (k:Nat) (r:Pos)
inductive S where
 | ret (x:X) (p:Pos)|ret0 (p:Pos)|asg (i:Nat) (q:Pos) (x:X) (p:Pos)|asc (i:Nat) (q:Pos) (x:X) (p:Pos)|aat (o:X) (a:Nat) (q:Pos) (x:X) (p:Pos)|asu (o i:X) (q:Pos) (x:X) (p:Pos)
 | tsw (l:List (Nat×Pos)) (k:Nat) (q:Pos) (x:List X) (k':Nat) (q' p:Pos)|tpl (l:List Tg) (k:Nat) (q:Pos) (x:X) (p:Pos)|ex (x:X) (p:Pos)
 | iff (t:X) (a b:List S) (p:Pos)|whl (t:X) (b:List S) (p:Pos)|fr (t:FT) (it:X) (b:List S) (p:Pos)|fen (l:List (Nat×Pos)) (k:Nat) (r:Pos) (g:Nat) (x:X) (gp cp:Pos) (b:List S) (p:Pos)|brk (p:Pos)|cnt (p:Pos)|pas (p:Pos)|rai (x:X) (p:Pos)|raw (st:Stmt)
inductive Fl where
 | nxt|brk|cnt|ret (v:AV)
noncomputable def gi:List (Nat×Pos)->List Expr
 | []=>[]
 | (i,p)::ts=>.Name (nm i) p::gi ts
noncomputable def ui:FT->Expr
 | .one i p=>.Name (nm i) p
 | .mul l k r=>.Tuple (gi l) k r
 | .cel i p=>.Name (nm i) p
noncomputable def lH(nms:List (Nat×NameKind)):Scope:={kind:=.function,names:=((".0":Str),.local)::nms.map (λ x=>(nm x.1,x.2)),isGenerator:=false,isCoroutine:=false}
noncomputable def xo(sc:Scope)(nms:List (Nat×NameKind)):Scope:={lH nms with names:=(lH nms).names.map λ(n,k)=>if(k==.free&&sc.kind==.function&&sc.names.lookup n==some .cell) then(n,.cell) else(n,k)}
mutual
noncomputable def a8:X->Expr
 | .loc i p=>.Name (nm i) p
 | .glo i p=>.Name (nm i) p
 | .cel i p=>.Name (nm i) p
 | .int k q p=>.Constant (.int k) q p
 | .byt b q p=>.Constant (.bytes b) q p
 | .non q p=>.Constant .none q p
 | .boo b q p=>.Constant (.bool b) q p
 | .att e a p=>.Attribute (a8 e) (nm a) p
 | .call f l p=>.Call (a8 f) (bZ l) [] p
 | .meth o a ap l p=>.Call (.Attribute (a8 o) (nm a) ap) (bZ l) [] p
 | .cmp op a b p=>.Compare (a8 a) [op] [a8 b] p
 | .cmq Qv QD a b c p=>.Compare (a8 a) [Qv,QD] [a8 b,a8 c] p
 | .and l p=>.BoolOp .And (bZ l) p
 | .or l p=>.BoolOp .Or (bZ l) p
 | .not e p=>.UnaryOp .Not (a8 e) p
 | .inv e p=>.UnaryOp .Invert (a8 e) p
 | .neg e p=>.UnaryOp .USub (a8 e) p
 | .ife t a b p=>.IfExp (a8 t) (a8 a) (a8 b) p
 | .bin op a b p=>.BinOp (a8 a) op (a8 b) p
 | .sub o i p=>.Subscript (a8 o) (a8 i) p
 | .sl o l u p q=>.Subscript (a8 o) (.Slice (DU l) (DU u) none p) q
 | .tup l k p=>.Tuple (bZ l) k p
 | .lst l p=>.List (bZ l) p
 | .dct p=>.Dict [] [] p
 | .lc e t it c nms _ p=>.ListComp (a8 e) [⟨ui t,a8 it,DW c,0⟩] (lH nms) p
 | .raw _ f l p _ _=>.Call f l [] p
noncomputable def bZ:List X->List Expr
 | []=>[]
 | x::xs=>a8 x::bZ xs
noncomputable def DU:Option X->Option Expr
 | none=>none
 | some x=>some (a8 x)
noncomputable def DW:Option X->List Expr
 | none=>[]
 | some x=>[a8 x]
end
noncomputable def gV:Tg->Expr
 | .nam i p=>.Name (nm i) p
 | .att o a p=>.Attribute (a8 o) (nm a) p
 | .cel i p=>.Name (nm i) p
 | .two i p j q k r=>.Tuple [.Name (nm i) p,.Name (nm j) q] k r
noncomputable def c4:List Tg->List Expr
 | []=>[]
 | t::ts=>gV t::c4 ts
mutual
noncomputable def iT:S->Stmt
 | .ret x p=>.Return (some (a8 x)) p
 | .ret0 p=>.Return none p
 | .asg i q x p=>.Assign [.Name (nm i) q] (a8 x) p
 | .asc i q x p=>.Assign [.Name (nm i) q] (a8 x) p
 | .aat o a q x p=>.Assign [.Attribute (a8 o) (nm a) q] (a8 x) p
 | .asu o i q x p=>.Assign [.Subscript (a8 o) (a8 i) q] (a8 x) p
 | .tsw l k q x k' q' p=>.Assign [.Tuple (gi l) k q] (.Tuple (bZ x) k' q') p
 | .tpl l k q x p=>.Assign [.Tuple (c4 l) k q] (a8 x) p
 | .ex x p=>.Expr (a8 x) p
 | .iff t a b p=>.If (a8 t) (ba a) (ba b) p
 | .whl t b p=>.While (a8 t) (ba b) [] p
 | .fr t i b p=>.For (ui t) (a8 i) (ba b) [] p
 | .fen l k r g x gp cp b p=>.For (.Tuple (gi l) k r) (.Call (.Name (nm g) gp) [a8 x] [] cp) (ba b) [] p
 | .brk p=>.Break p
 | .cnt p=>.Continue p
 | .pas p=>.Pass p
 | .rai x p=>.Raise (some (a8 x)) none p
 | .raw st=>st
noncomputable def ba:List S->List Stmt
 | []=>[]
 | s::ss=>iT s::ba ss
end
noncomputable def cf(sc:Scope)(k:NameKind)(i:Nat):Bool:=decide (sc.names.lookup (nm i)=some k)&&!(nm i==("__debug__":Str))
noncomputable def ii:X->Bool
 | .call (.loc _ _) [] _=>false
 | .call (.cel _ _) [] _=>false
 | .call (.glo i _) [] _=>i != 207
 | .raw _ _ _ _ _ _=>false
 | _=>true
noncomputable def sf:X->Bool
 | .att _ _ _=>false
 | _=>true
noncomputable def nF(sc:Scope):List (Nat×Pos)->Bool
 | []=>true
 | (i,_)::ts=>cf sc .local i&&nF sc ts
noncomputable def uo(sc:Scope):FT->Bool
 | .one i _=>cf sc .local i
 | .mul l _ _=>nF sc l
 | .cel i _=>cf sc .cell i
noncomputable def Au(sc:Scope)(nms:List (Nat×NameKind))(fv:List Nat):Bool:=
 nms.all (λ x=>!decide (x.2=.cell)&&(!decide (x.2=.local)||decide ((lH nms).names.lookup (nm x.1)=some .local))&&(!decide (x.2=.free)||cf sc .cell x.1)&&((lH nms).names.lookup (nm x.1)==some x.2))&&fv.all (λ i=>decide ((i,.free)∈nms))
mutual
noncomputable def cv(sc:Scope):X->Bool
 | .loc i _=>cf sc .local i
 | .glo i _=>cf sc .globalImplicit i
 | .cel i _=>cf sc .cell i
 | .int _ _ _|.byt _ _ _|.non _ _|.boo _ _ _|.dct _=>true
 | .att e _ _=>cv sc e&&ii e
 | .call f l _=>cv sc f&&(gk sc l&&sf f)
 | .meth o _ ap l p=>cv sc o&&(gk sc l&&(ii o&&(decide (l.length<30)&&ap.endLine==p.line)))
 | .cmp _ a b _=>cv sc a&&cv sc b
 | .cmq _ _ a b c _=>cv sc a&&(cv sc b&&cv sc c)
 | .and l _|.or l _|.tup l _ _|.lst l _=>gk sc l
 | .not e _|.inv e _|.neg e _=>cv sc e
 | .ife t a b _=>cv sc t&&(cv sc a&&cv sc b)
 | .bin _ a b _|.sub a b _=>cv sc a&&cv sc b
 | .sl o l u _ _=>cv sc o&&(rj sc l&&rj sc u)
 | .lc e t it c nms fv _=>cv sc it&&(Au sc nms fv&&(uo (xo sc nms) t&&(rj (xo sc nms) c&&cv (xo sc nms) e)))
 | .raw _ _ _ _ nms xs=>(nms.all λ x=>cf sc x.2 x.1)&&gk sc xs
noncomputable def gk(sc:Scope):List X->Bool
 | []=>true
 | x::xs=>cv sc x&&gk sc xs
noncomputable def rj(sc:Scope):Option X->Bool
 | none=>true
 | some x=>cv sc x
end
noncomputable def xF(sc:Scope):Tg->Bool
 | .nam i _=>cf sc .local i
 | .att o _ _=>cv sc o
 | .cel i _=>cf sc .cell i
 | .two i _ j _ _ _=>cf sc .local i&&cf sc .local j
noncomputable def xG(sc:Scope):List Tg->Bool
 | []=>true
 | t::ts=>xF sc t&&xG sc ts
noncomputable def jJ:Tg->Bool
 | .nam _ _=>false
 | _=>true
noncomputable def wq(ts:List Expr):Nat:=(ts.head?.map (·.pos.line)).getD 0
noncomputable def Fy(l:List (Nat×Pos))(vs:List Expr):Bool:=(l.length==2||l.length==3)&&(vs.length==l.length&&((l.map λ x=>nm x.1).eraseDups.length==l.length&&(!vs.all (foldedForSure 8)&&(!vs.all (constantsAlone 8)&&l.all λ t=>t.2.line==wq (gi l)))))
noncomputable def Bw(l:List Tg):X->Bool
 | .tup vs _ _=>!(l.length==2||l.length==3)||vs.length != l.length||l.any jJ
 | _=>true
noncomputable def im:X->Bool
 | .lc _ _ _ _ _ _ _=>false
 | _=>true
mutual
noncomputable def kl(sc:Scope):S->Bool
 | .ret x _|.rai x _=>cv sc x
 | .ex x _=>cv sc x&&im x
 | .ret0 _|.brk _|.cnt _|.pas _|.raw _=>true
 | .asg i _ x _=>cf sc .local i&&(cv sc x&&im x)
 | .asc i _ x _=>cf sc .cell i&&(cv sc x&&im x)
 | .aat o _ _ x _=>cv sc o&&(cv sc x&&im x)
 | .asu o i _ x _=>cv sc o&&(cv sc i&&(cv sc x&&im x))
 | .tsw l _ _ x _ _ _=>gk sc x&&(nF sc l&&Fy l (bZ x))
 | .tpl l _ _ x _=>xG sc l&&(cv sc x&&Bw l x)
 | .iff t a b _=>cv sc t&&(bz sc a&&bz sc b)
 | .whl t b _=>cv sc t&&bz sc b
 | .fr t i b _=>uo sc t&&(cv sc i&&bz sc b)
 | .fen l _ _ g x _ _ b _=>cf sc .globalImplicit g&&(nF sc l&&(cv sc x&&bz sc b))
noncomputable def bz(sc:Scope):List S->Bool
 | []=>true
 | s::ss=>kl sc s&&bz sc ss
end
structure FD where
 ps:List Nat
 dfl:List AV
 body:List S
 cel:List Nat
structure FS where
 ps:List Nat
 base:Addr
 args:List X
 body:List S
 p0:Pos
 p1:Pos
 p2:Pos
 p3:Pos
 p4:Pos
noncomputable def xh(fs:FS):Stmt:=.Expr (.Call (.Attribute (.Call (.Name "super" fs.p0) [] [] fs.p1) "__init__" fs.p2) (bZ fs.args) [] fs.p3) fs.p4
structure bq where
 glo:List (Nat×AV)
 tup:List (Addr×List AV)
 att:List (Addr×List Nat)
 met:List ((Addr×Nat)×Addr)
 fns:List ((Addr×Nat)×FD)
 cls:List (Addr×Addr)
 pur:Addr->List AV->Option (AV ⊕ AO)
 ktm:Addr->KT->List AV->Option ((AV ⊕ KT)×KT)
 cmd:List UInt8->Bool
 isi:List Addr
 sup:List ((Addr×Nat)×FS)
 stf:Addr->List AV->List AO->Bool->Option (AV×List AO)
 kp:List Addr
 raw:X->Nat->St->Option (AV×St)
theorem nn{α:Type}{a:α}{P:Prop}(h:none=some a):P:=(dC h)
theorem ji[Decidable p](h:(if p then m else none)=some a):p/\m=some a:=Option.ite_none_right_eq_some.mp h
theorem b4(h:m.bind f=some b):∃a,m=some a/\f a=some b:=Option.bind_eq_some_iff.mp h
theorem zQ(h:m.map f=some b):∃a,m=some a/\f a=b:=Option.map_eq_some_iff.mp h
theorem aY(h:m.or n=some a):m=some a\/n=some a:=by cases m<;>first|exact .inr h|exact .inl h
theorem ae{P:Prop}(h:m.bind f=some b)(k:∀a,m=some a->f a=some b->P):P:=by refine lp h λ a h1 h2=>?_;exact k a h1 h2
theorem bK{P:β->Prop}(h:m.map f=some b)(k:∀a,m=some a->P (f a)):P b:=by refine aF h λ a h1 h2=>?_;exact h2▸k a h1
theorem ai[Decidable p]{P:Prop}(h:(if p then m else none)=some a)(k:p->m=some a->P):P:=k (ji h).1 (ji h).2
theorem af{P:Prop}(h:(a&&b)=true)(k:a=true->b=true->P):P:=k ((Bool.and_eq_true _ _).mp h).1 ((Bool.and_eq_true _ _).mp h).2
noncomputable def En:AV->Option Nat
 | .obj i=>some i
 | _=>none
noncomputable def fY:AV->Option (List UInt8)
 | .byt b=>some b
 | _=>none
noncomputable def nR:AV->Option Int
 | .int k=>some k
 | _=>none
noncomputable def BT:AV->Option Bool
 | .boo b=>some b
 | _=>none
noncomputable def H6:AV->Option Value
 | .val v=>some v
 | _=>none
noncomputable def Lg:AV->Option PV
 | .pv p=>some p
 | _=>none
noncomputable def Kn:AV->Option (Nat×List ((Nat×Nat)×Nat))
 | .num d f=>some (d,f)
 | _=>none
noncomputable def BD:AV->Bool
 | .non=>true
 | _=>false
noncomputable def IG:Value->Option Addr
 | .ref a=>some a
 | _=>none
noncomputable def IE:PV->Option (Bool×List PV)
 | .seq b l=>some (b,l)
 | _=>none
noncomputable def FL:AO->Option (Bool×List AV)
 | .lst l=>some (true,l)
 | .tup l=>some (false,l)
 | .frz b l=>some (b,l)
 | _=>none
noncomputable def IV:AO->Option (List AV)
 | .lst l=>some l
 | _=>none
noncomputable def Km:AO->Option (List UInt8)
 | .bar b=>some b
 | _=>none
noncomputable def Lh:AO->Option KT
 | .ktb S=>some S
 | _=>none
noncomputable def Ko:AO->Option (Option AV)
 | .cel v=>some v
 | _=>none
noncomputable def LY:AO->Option Nat
 | .dip n _ _ _ _=>some n
 | _=>none
noncomputable def uh:AO->Option (List (List UInt8×AV))
 | .dic l=>some l
 | .frd l=>some l
 | _=>none
noncomputable def rK{α:Type}:List α->Option (α×List α)
 | []=>none
 | a::l=>some (a,l)
noncomputable def pW(os:List AO)(v:AV):Option AO:=(En v).bind (os[·]?)
noncomputable def ik(p:Nat->Bool):AV->Bool
 | .obj i=>p i
 | _=>true
noncomputable def lP(p:Nat->Bool):AO->Bool
 | .lst l=>l.all (ik p)
 | .tup l=>l.all (ik p)
 | .frz _ l=>l.all (ik p)
 | .ins _ f=>f.all λ x=>ik p x.2
 | .dic l=>l.all λ x=>ik p x.2
 | .frd l=>l.all λ x=>ik p x.2
 | .cel v=>(match v with|some v=>ik p v|none=>true)
 | .dir _ v _ _=>(match v with|some v=>ik p v|none=>true)
 | _=>true
noncomputable def b9(f:Nat->Nat):AV->AV
 | .obj i=>.obj (f i)
 | v=>v
noncomputable def dL(f:Nat->Nat):AO->AO
 | .lst l=>.lst (l.map (b9 f))
 | .tup l=>.tup (l.map (b9 f))
 | .frz b l=>.frz b (l.map (b9 f))
 | .ins C l=>.ins C (l.map λ p=>(p.1,b9 f p.2))
 | .dic l=>.dic (l.map λ p=>(p.1,b9 f p.2))
 | .frd l=>.frd (l.map λ p=>(p.1,b9 f p.2))
 | .cel v=>.cel (v.map (b9 f))
 | .dir t v A B=>.dir t (v.map (b9 f)) A B
 | o=>o
noncomputable abbrev gG(k:Nat):AV->Bool:=ik λ i=>decide (i<k)
noncomputable abbrev eL(k:Nat):AO->Bool:=lP λ i=>decide (i<k)
noncomputable def mz(k:Nat)(v:AV)(os:List AO):List AO:=if gG k v&&(os.take k).all (eL k) then os.take k else os
noncomputable def upd(i:Nat)(v:AV):List (Nat×AV)->List (Nat×AV)
 | []=>[(i,v)]
 | x::r=>if x.1=i then(x.1,v)::r else x::upd i v r
noncomputable def F9(op:CmpOp)(a b:Int):Option Bool:=match op with
 | .Eq=>some (a==b)|.NotEq=>some (a != b)|.Lt=>some (decide (a<b))|.LtE=>some (decide (a<=b))|.Gt=>some (decide (a>b))|.GtE=>some (decide (a>=b))
 | _=>none
noncomputable def Ec(k:Int)(b:List UInt8):Option Bool:=if 0<=k/\k<256 then some (b.contains k.toNat.toUInt8) else none
noncomputable def toP:AV->Option PV
 | .int k=>some (.int k)|.byt b=>some (.byt b)|.boo b=>some (.boo b)|.non=>some .non|.pv p=>some p
 | _=>none
noncomputable def toPs:List AV->Option (List PV)
 | []=>some []
 | a::l=>(toP a).bind λ p=>(toPs l).map λ ps=>p::ps
noncomputable def ofP:PV->AV
 | .int k=>.int k|.byt b=>.byt b|.boo b=>.boo b|.non=>.non
 | p=>.pv p
noncomputable def nT(f:PV->PV->Bool):List PV->List PV->Bool
 | [],m=>m.isEmpty
 | p::l,m=>match m with
  | []=>false
  | q::m=>f p q&&nT f l m
noncomputable def eH:Nat->PV->PV->Bool
 | 0,_,_=>false
 | n+1,p,q=>match p with
  | .byt a=>(match q with|.byt b=>a==b|_=>false)
  | .boo a=>(match q with|.boo b=>a==b|_=>false)
  | .non=>(match q with|.non=>true|_=>false)
  | .seq b l=>(match q with|.seq c m=>b==c&&nT (eH n) l m|_=>false)
  | _=>false
noncomputable def dK(T:bq)(os:List AO)(v:AV):Option (Bool×List AV):=match v with
 | .obj i=>(os[i]?).bind FL
 | .val u=>(IG u).bind λ a=>(T.tup.lookup a).map λ l=>(false,l)
 | .pv p=>(IE p).map λ x=>(x.1,x.2.map ofP)
 | _=>none
noncomputable def tS(o:AO)(k:List UInt8):Option (Option AV):=match o with
 | .dip _ kn _ _ l=>some ((((kn.find? λ x=>x.1=k).map (·.2)).getD (bC k l)).map ofP)
 | .dir t x _ _=>if k=t then some x else none
 | .dic l=>some (bC k l)
 | .frd l=>some (bC k l)
 | _=>none
noncomputable def zL(o:AO)(k:List UInt8)(v:AV):Option AO:=match o with
 | .dic l=>if l.length<=1000 then some (.dic (bt k v l)) else none
 | .dip n kn _ _ l=>if n<=50 then(toP v).map λ p=>.dip (n+1) ((k,some p)::kn.filter (λ x=>x.1≠k)) (some false) [] (bt k p l) else none
 | .dir t x A B=>if k=t then some (match x with
  | some _=>.dir t (some v) A B
  | none=>.dir t (some v) (A++B) []) else none
 | _=>none
noncomputable def CZ(n:Nat)(kn:List (List UInt8×Option PV))(e:Option Bool)(em:List (List UInt8×Bool))(l:List (List UInt8×PV))(k:List UInt8)(x:Option PV):Option AV×AO:=match x with
 | some p=>(some (ofP p),.dip n ((k,none)::kn.filter (λ x=>x.1≠k)) ((em.find? λ x=>x.1=k).map (·.2)) [] (bx k l))
 | none=>(none,.dip n kn e em l)
noncomputable def zM(o:AO)(k:List UInt8):Option (Option AV×AO):=match o with
 | .dic l=>if l.length<=1000 then some (bC k l,.dic (bx k l)) else none
 | .dip n kn e em l=>if n<=50 then(kn.find? λ x=>x.1=k).map λ x=>CZ n kn e em l k x.2 else none
 | .dir t x A B=>if k=t then some (x,.dir t none A B) else none
 | _=>none
noncomputable def zN(o:AO):Option Nat:=match o with
 | .dip n _ _ _ l=>if n<=50 then some l.length else none
 | o=>(uh o).bind λ l=>if l.length<=50 then some l.length else none
noncomputable def oM(o:AO):Option (List (List UInt8)):=match o with
 | .dip n _ _ _ l=>if n<=50 then some (l.map (·.1)) else none
 | o=>(uh o).bind λ l=>if l.length<=50 then some (l.map (·.1)) else none
noncomputable def wb(o:AO):Option Bool:=match o with
 | .dip _ _ e _ l=>some (e.getD l.isEmpty)
 | .dir _ x _ _=>x.map λ zz=>false
 | .dic l=>some l.isEmpty
 | .frd l=>some l.isEmpty
 | _=>none
noncomputable def o8(k:List UInt8):List (List UInt8)->List (List UInt8)
 | []=>[k]
 | x::l=>if fH x k then x::o8 k l else k::x::l
noncomputable def bi:List (List UInt8)->List (List UInt8)
 | []=>[]
 | k::l=>o8 k (bi l)
noncomputable def xL:List AV->Option (List (List UInt8))
 | []=>some []
 | a::l=>(fY a).bind λ b=>(xL l).map λ bs=>b::bs
noncomputable def kq(l:List (List UInt8)):AV:=.pv (.seq true (l.map .byt))
noncomputable def dg(T:bq)(os:List AO)(v:AV):Option (Bool×List PV):=(dK T os v).bind λ x=>(toPs x.2).map λ l=>(x.1,l)
noncomputable def IO(p q:Bool×List PV):Option Bool:=if p.1==q.1&&nT (eH 10) p.2 q.2 then some true else none
noncomputable def IN(T:bq)(os:List AO)(ne:Bool)(a b:AV):Option Bool:=
 ((fY a).bind λ x=>((fY b).map λ y=>x==y).or (if BD b&&!ne then some false else none)).or
 ((if BD a then(if ne then(if BD b then some true else none) else(fY b).map λ zz=>false) else none).or
 ((if ne then none else(BT a).bind λ x=>(BT b).map λ y=>x==y).or
 (((pW os b).bind uh).bind (λ l=>if l.isEmpty then(pW os a).bind wb else none) |>.or
 ((dg T os a).bind λ p=>(dg T os b).bind λ q=>IO p q))))
noncomputable def BU(a b:AV):Option Bool:=((fY a).bind λ x=>((fY b).map λ y=>decide (y=x)).or (if BD b then some false else none)).or ((nR a).bind λ x=>(nR b).map λ y=>y==x)
noncomputable def Er(a:AV):List AV->Option Bool
 | []=>some false
 | b::l=>(BU a b).bind λ x=>(Er a l).map λ y=>x||y
noncomputable def gO:AO->Bool
 | .dic _=>true
 | .frd _=>true
 | .dip _ _ _ _ _=>true
 | .dir _ _ _ _=>true
 | _=>false
noncomputable def KZ(os:List AO)(a b:AV):Option Bool:=(fY a).bind λ x=>(pW os b).bind λ o=>(tS o x).map (·.isSome)
noncomputable def K0(a b:AV):Option Bool:=(nR a).bind λ x=>(fY b).bind λ y=>Ec x y
noncomputable def KY(T:bq)(os:List AO)(a b:AV):Option Bool:=(K0 a b).or ((KZ os a b).or ((dK T os b).bind λ x=>if x.2.length<=1000 then Er a x.2 else none))
noncomputable def wc(os:List AO)(a b:AV):Option Bool:=(K0 a b).or (KZ os a b)
noncomputable def qO:AV->Option Bool
 | .non=>some true
 | .int _=>some false
 | .byt _=>some false
 | .obj _=>some false
 | .boo _=>some false
 | .pv p=>(match p with
  | .bnd _=>some false
  | .seq _ _=>some false
  | _=>none)
 | _=>none
noncomputable def IP(op:CmpOp)(a b:AV):Option Bool:=(nR a).bind λ x=>(nR b).bind λ y=>F9 op x y
noncomputable def eO(T:bq)(os:List AO)(op:CmpOp)(a b:AV):Option Bool:=match op with
 | .Is=>if BD b then qO a else none
 | .IsNot=>if BD b then(qO a).map (!·) else none
 | .In=>KY T os a b
 | .NotIn=>(wc os a b).map (!·)
 | .Eq=>(IP .Eq a b).or (IN T os false a b)
 | .NotEq=>(IP .NotEq a b).or ((IN T os true a b).map (!·))
 | op=>IP op a b
noncomputable def xU(f:Int->Int->Int)(a b:AV):Option AV:=(nR a).bind λ x=>(nR b).map λ y=>.int (f x y)
noncomputable def Hl(op:Operator)(a b:AV):Option AV:=match op with
 | .Add=>(xU (·+·) a b).or ((fY a).bind λ x=>(fY b).bind λ y=>if x.length+y.length<=1000000 then some (.byt (x++y)) else none)
 | .Sub=>xU (·-·) a b
 | .BitAnd=>xU Builtin.bitAnd a b
 | .BitOr=>xU Builtin.bitOr a b
 | .FloorDiv=>(Kn a).bind λ q=>(nR b).bind λ y=>if q.1=1/\0<y/\y<100000 then some (.num y.toNat q.2) else none
 | .Mod=>((Kn a).bind λ q=>(nR b).bind λ y=>if 0<y then(q.2.lookup (q.1,y.toNat)).map λ r=>.int (Int.ofNat r) else none).or ((nR a).bind λ x=>(nR b).bind λ y=>if 0<y then some (.int (x%y)) else none)
 | _=>none
noncomputable def idx(k:Int)(n:Nat):Option Nat:=if 0<=k/\k<n then some k.toNat else none
noncomputable def Jc(o:AV)(k:Int):Option AV:=(fY o).bind λ b=>if b.length<=1000 then(idx k b.length).map λ j=>.int ((b.getD j 0).toNat:Int) else none
noncomputable def Jb(T:bq)(os:List AO)(o:AV)(k:Int):Option AV:=(dK T os o).bind λ x=>if x.2.length<=1000 then(idx k x.2.length).bind λ j=>x.2[j]? else none
noncomputable def CJ(os:List AO)(o:AV)(k:List UInt8):Option AV:=(pW os o).bind λ d=>(tS d k).bind id
noncomputable def FA(T:bq)(os:List AO)(o i:AV):Option AV:=((nR i).bind λ k=>(Jc o k).or (Jb T os o k)).or ((fY i).bind (CJ os o))
noncomputable def qQ:List AV->Option (List UInt8)
 | []=>some []
 | a::l=>(nR a).bind λ k=>if 0<=k/\k<256 then(qQ l).map λ b=>k.toNat.toUInt8::b else none
noncomputable def JW(o:AO):Option (List AV×AO):=match o with
 | .lst l=>some (l,.frz true l)
 | .tup l=>some (l,.frz false l)
 | .frz b l=>some (l,.frz b l)
 | .dic l=>if l.length<=1000 then some (l.map (λ x=>.byt x.1),.frd l) else none
 | .frd l=>if l.length<=1000 then some (l.map (λ x=>.byt x.1),.frd l) else none
 | _=>none
noncomputable def frz(T:bq)(os:List AO)(v:AV):Option (List AV×List AO):=match v with
 | .byt b=>if b.length<=1000 then some (b.map (λ c=>.int (c.toNat:Int)),os) else none
 | .val u=>(IG u).bind λ a=>(T.tup.lookup a).map λ l=>(l,os)
 | .pv p=>(IE p).map λ x=>(x.2.map ofP,os)
 | .obj i=>(os[i]?).bind λ o=>(JW o).map λ q=>(q.1,os.set i q.2)
 | _=>none
noncomputable def uY(R9 os:List AO)(v:AV):List AO:=match v with
 | .obj i=>match R9[i]? with
  | some o=>os.set i o
  | none=>os
 | _=>os
noncomputable abbrev Ev:=X->St->Option (AV×St)
noncomputable def pg(f:Ev):List X->St->Option (List AV×St)
 | [],σ=>some ([],σ)
 | x::xs,σ=>(f x σ).bind λ p=>(pg f xs p.2).bind λ q=>some (p.1::q.1,q.2)
noncomputable def J4(f:Ev)(x:Option X)(σ:St):Option (Option AV×St):=match x with
 | none=>some (none,σ)
 | some x=>(f x σ).bind λ p=>some (some p.1,p.2)
noncomputable def hin:AV->Bool
 | .val v=>handedIn v
 | _=>true
noncomputable def Av(σ:St)(i:Nat):Option AV:=(((σ.loc.lookup i).bind (pW σ.obs)).bind Ko).bind id
noncomputable def dt(σ:St)(o:AO):AV×St:=(.obj σ.obs.length,{σ with obs:=σ.obs++[o] })
noncomputable def attB(T:bq)(C:Addr)(a:Nat):Bool:=match T.att.lookup C with
 | some l=>l.contains a
 | none=>false
noncomputable def GM(T:bq)(o:AO)(a:Nat):Option AV:=match o with
 | .ins C f=>if attB T C a then(f.lookup a).filter hin else none
 | .ktb S=>if attB T 754 a then(if a=183 then some (ofP (aJ S.pre)) else if a=186 then some (ofP (aJ S.sec)) else none) else none
 | _=>none
noncomputable def Ad(ph:Bool)(r:BR)(a:Nat):Option AV:=if a=121 then some (.byt r.key) else if a=179 then some (.boo r.rep) else if a=180 then some (.byt r.note) else if a=74 then(if ph then none else some (.byt r.told)) else none
noncomputable def JQ(T:bq)(d:Nat)(ph:Bool)(p:PV)(a:Nat):Option AV:=match p with
 | .ins C ks l=>if attB T C a then(ks.zip (l.map ofP)).lookup a else none
 | .bnd r=>if attB T 655 a then Ad ph r a else if a=98 then(if ph&&(decide (12<=d)&&T.cmd r.told) then some (.pv (eI r.told)) else none) else none
 | _=>none
noncomputable def GN(T:bq)(d:Nat)(ph:Bool)(os:List AO)(v:AV)(a:Nat):Option AV:=match v with
 | .obj i=>(os[i]?).bind λ o=>GM T o a
 | .pv p=>JQ T d ph p a
 | _=>none
noncomputable def Jg(T:bq)(o:AO)(a:Nat)(x:AV):Option AO:=match o with
 | .ins C f=>if attB T C a=true/\f.length<100 then some (.ins C (upd a x f)) else none
 | _=>none
noncomputable def CM(T:bq)(os:List AO)(v:AV)(a:Nat)(x:AV):Option (List AO):=(En v).bind λ i=>(os[i]?).bind λ o=>(Jg T o a x).map λ o'=>os.set i o'
noncomputable def bnd(i:Option AV)(d:Nat)(n:Nat):Option Nat:=match i with
 | none=>some d
 | some a=>(nR a).bind λ k=>if 0<=k then some (min k.toNat n) else none
noncomputable def vx(v:AV)(l u:Option AV):Option AV:=(fY v).bind λ b=>if b.length<=1000 then(bnd l 0 b.length).bind λ i=>(bnd u b.length b.length).bind λ j=>some (.byt ((b.take j).drop i)) else none
noncomputable def zO(os:List AO)(o:AO):AV×List AO:=(.obj os.length,os++[o])
noncomputable def mkS(b:Bool)(l:List AV)(σ:St):AV×St:=match toPs l with
 | some ps=>(.pv (.seq b ps),σ)
 | none=>dt σ (if b then .lst l else .tup l)
noncomputable def Hb(T:bq)(op:Operator)(a b:AV)(σ:St):Option (AV×St):=match op with
 | .Add=>(dK T σ.obs a).bind λ x=>(dK T σ.obs b).bind λ y=>if x.1=y.1/\x.2.length+y.2.length<=1000/\(x.1||(!x.2.isEmpty&&!y.2.isEmpty))=true then(if x.1=true then(toPs (x.2++y.2)).map λ ps=>(.pv (.seq true ps),σ) else some (mkS false (x.2++y.2) σ)) else none
 | _=>none
noncomputable def KD(l:List AV):Option Unit:=if l.isEmpty then some () else none
noncomputable def Ck(l:List AV):Option AV:=(rK l).bind λ p=>(KD p.2).map λ zz=>p.1
noncomputable def KC(l:List AV):Option (AV×AV):=(rK l).bind λ p=>(Ck p.2).map λ b=>(p.1,b)
noncomputable def Ep(os:List AO)(v:AV):Option (Nat×AO):=(En v).bind λ i=>(os[i]?).map λ o=>(i,o)
noncomputable def Ly(x:Bool×List PV):Option (List PV):=if x.1=true then some x.2 else none
noncomputable def H7(v:AV):Option (List PV):=((Lg v).bind IE).bind Ly
noncomputable def tB(os:List AO)(v:AV)(g:AO->Option (AV×AO)):Option (AV×List AO):=(Ep os v).bind λ q=>(g q.2).map λ r=>(r.1,os.set q.1 r.2)
noncomputable def IK{α β:Type}(l:List α)(r:β):Option β:=if l.length<=1000 then some r else none
noncomputable abbrev uH:Type:=bq->List AO->AV->Option (AV×List AO)
noncomputable abbrev AQ:Type:=bq->List AO->AV->AV->Option (AV×List AO)
noncomputable def JF(v:AV):Option Nat:=(fY v).bind λ b=>IK b b.length
noncomputable def IJ(x:Bool×List AV):Option (List AV):=if x.1=true/\x.2.length<=1000 then some x.2 else none
noncomputable def JD(T:bq)(os:List AO)(v:AV):Option Nat:=((dK T os v).bind IJ).map List.length
noncomputable def JE(os:List AO)(v:AV):Option Nat:=(pW os v).bind zN
noncomputable def Bo:uH:=λ T os v=>((JF v).or ((JD T os v).or (JE os v))).map λ n=>(.int (n:Nat),os)
noncomputable def JV(b:AV)(o:AO):Option (AV×AO):=(IV o).bind λ l=>IK l (.non,.lst (l++[b]))
noncomputable def r9:AQ:=λ zz os a b=>tB os a (JV b)
noncomputable def JS(m:List PV)(o:AO):Option (AV×AO):=(IV o).bind λ l=>if l.length+m.length<=1000 then some (.non,.lst (l++m.map ofP)) else none
noncomputable def r7:AQ:=λ zz os a b=>(H7 b).bind λ m=>tB os a (JS m)
noncomputable def JU(k:Int)(o:AO):Option (AV×AO):=(Km o).bind λ b=>if b.length<=1000/\0<=k/\k<256 then some (.non,.bar (b++[k.toNat.toUInt8])) else none
noncomputable def Bt:AQ:=λ zz os a b=>(nR b).bind λ k=>tB os a (JU k)
noncomputable def vZ:AQ:=λ T os a b=>(fY a).bind λ zz=>(((dK T os b).bind IJ).bind Ck).bind λ v=>(fY v).map λ x=>(.byt x,os)
noncomputable def JL(T:bq)(c:Value):Option Bool:=((IG c).bind λ a=>if T.isi.contains a=true then some false else none).or (if c=.type "bytes" then some true else none)
noncomputable def JK(c:Value):Option Bool:=if c=.type "bytes" then some false else none
noncomputable def Bp:AQ:=λ T os a b=>(H6 b).bind λ c=>(((fY a).bind λ zz=>JL T c).or ((H7 a).bind λ zz=>JK c)).map λ r=>(.boo r,os)
noncomputable def JP(os:List AO)(a k:AV):Option (Option AV):=(fY k).bind λ k=>(pW os a).bind λ o=>tS o k
noncomputable def Bq:AQ:=λ zz os a k=>(JP os a k).map λ r=>(r.getD .non,os)
noncomputable def v9(os:List AO)(a k z:AV):Option (AV×List AO):=(JP os a k).map λ r=>(r.getD z,os)
noncomputable def JR(z:Option AV)(k:List UInt8)(o:AO):Option (AV×AO):=(zM o k).bind λ r=>(r.1.or z).map λ v=>(v,r.2)
noncomputable def vY(os:List AO)(z:Option AV)(a k:AV):Option (AV×List AO):=(fY k).bind λ k=>tB os a (JR z k)
noncomputable def JT(o:AO):Option (AV×AO):=(LY o).bind λ n=>if n<=50 then some (.non,.dip 0 [] (some true) [] []) else none
noncomputable def Br:uH:=λ zz os a=>tB os a JT
noncomputable def Jd(l:List PV):Option (List (List UInt8)):=if l.length<=50 then xL (l.map ofP) else none
noncomputable def Bn:uH:=λ zz os v=>(((pW os v).bind oM).or ((H7 v).bind Jd)).map λ l=>(kq (bi l),os)
noncomputable def Gb:List (String×uH):=[("len",Bo),("sorted",Bn),("dict.clear",Br)]
noncomputable def Ga:List (String×AQ):=[("list.append",r9),("list.extend",r7),("bytearray.append",Bt),("bytes.join",vZ),("isinstance",Bp),("dict.get",Bq),("dict.pop",λ zz os=>vY os none)]
noncomputable def Ju(os:List AO)(id:String)(a b c:AV):Option (AV×List AO):=if id="dict.get" then v9 os a b c else if id="dict.pop" then vY os (some c) a b else none
noncomputable def blt(T:bq)(os:List AO)(id:String)(vs:List AV):Option (AV×List AO):=(rK vs).bind λ p=>match p.2 with
 | []=>(Gb.lookup id).bind λ f=>f T os p.1
 | b::l=>match l with
  | []=>(Ga.lookup id).bind λ f=>f T os p.1 b
  | c::l=>if l.isEmpty then Ju os id p.1 b c else none
noncomputable def Bf:uH:=λ T os v=>((((pW os v).bind Km).bind λ b=>IK b b).or (((dK T os v).bind IJ).bind qQ)).map λ b=>(.byt b,os)
noncomputable def Bc:uH:=λ zz os v=>((pW os v).bind oM).map λ l=>(kq l,os)
noncomputable def G8(o:AO):Option AO:=match o with
 | .dip n _ _ _ l=>if n<=50 then some (.dip n [] none [] l) else none
 | o=>(uh o).bind λ l=>if l.length<=50 then some (.dic l) else none
noncomputable def Be:uH:=λ zz os v=>((pW os v).bind G8).map (zO os)
noncomputable def Bd:uH:=λ zz os v=>((BT v).map λ b=>(.int (if b then 1 else 0),os)).or ((nR v).map λ k=>(.int k,os))
noncomputable def KG:List (String×uH):=[("bytes",Bf),("list",Bc),("dict",Be),("int",Bd)]
noncomputable def IA(T:bq)(os:List AO)(id:String)(vs:List AV):Option (AV×List AO):=match vs with
 | []=>if id="bytearray" then some (zO os (.bar [])) else none
 | v::l=>if l.isEmpty then(KG.lookup id).bind λ f=>f T os v else none
noncomputable def KQ(T:bq)(o:AO)(a:Nat):Option AV:=match o with
 | .ins C f=>if(f.lookup a).isNone then(T.met.lookup (C,a)).map λ g=>.val (.ref g) else none
 | .ktb _=>if [132,185,183,186,184].contains a then none else(T.met.lookup (754,a)).map λ g=>.val (.ref g)
 | .lst _=>if a=199 then some (.val (.builtin "list.append")) else if a=197 then some (.val (.builtin "list.extend")) else none
 | .bar _=>if a=199 then some (.val (.builtin "bytearray.append")) else none
 | o=>if gO o then(if a=164 then some (.val (.builtin "dict.get")) else if a=200 then some (.val (.builtin "dict.pop")) else if a=203 then some (.val (.builtin "dict.clear")) else none) else none
noncomputable def Gi(T:bq)(os:List AO)(v:AV)(a:Nat):Option AV:=match v with
 | .obj i=>(os[i]?).bind λ o=>KQ T o a
 | .byt _=>if a=177 then some (.val (.builtin "bytes.join")) else none
 | .pv p=>(match p with
  | .bnd _=>if [121,74,179,180].contains a then none else(T.met.lookup (655,a)).map λ g=>.val (.ref g)
  | _=>none)
 | _=>none
noncomputable def FH(i:Nat)(v:AV)(σ:St):Option St:=((σ.loc.lookup i).bind (Ep σ.obs)).bind λ q=>(Ko q.2).map λ zz=>{σ with obs:=σ.obs.set q.1 (.cel (some v))}
noncomputable def stf:List (Nat×Pos)->List AV->List (Nat×AV)->List (Nat×AV)
 | [],_,loc=>loc
 | i::is,vs,loc=>match vs with
  | []=>loc
  | v::vs=>stf is vs (upd i.1 v loc)
noncomputable def put(T:bq)(t:FT)(v:AV)(σ:St):Option St:=match t with
 | .one i _=>some {σ with loc:=upd i v σ.loc}
 | .cel i _=>FH i v σ
 | .mul l _ _=>(dK T σ.obs v).bind λ x=>if x.1=false/\l.length=x.2.length then some {σ with loc:=stf l x.2 σ.loc} else none
noncomputable def K5(f:Fl)(σ:St)(go:St->Option (Fl×St)):Option (Fl×St):=match f with
 | .ret r=>some (.ret r,σ)
 | .brk=>some (.nxt,σ)
 | .nxt=>go σ
 | .cnt=>go σ
noncomputable def eF(t:FT)(run:St->Option (Fl×St))(T:bq):List AV->St->Option (Fl×St)
 | [],σ=>some (.nxt,σ)
 | v::vs,σ=>(put T t v σ).bind λ σ'=>(run σ').bind λ p=>K5 p.1 p.2 (eF t run T vs)
noncomputable def sx(T:bq)(t:FT)(base:List (Nat×AV))(tst:St->Option (Bool×St))(run:St->Option (AV×St)):List AV->St->Option (List AV×St)
 | [],σ=>some ([],σ)
 | v::vs,σ=>(put T t v {σ with loc:=base}).bind λ σ'=>(tst σ').bind λ b=>if b.1 then(run b.2).bind λ p=>(sx T t base tst run vs p.2).map λ r=>(p.1::r.1,r.2) else sx T t base tst run vs b.2
noncomputable def dU(fv:List Nat)(l:List (Nat×AV)):List (Nat×AV):=l.filter λ p=>fv.contains p.1
noncomputable def IC:List Nat->List AV->List (Nat×AV)->List (Nat×AV)
 | [],_,loc=>loc
 | i::is,vs,loc=>match vs with
  | []=>loc
  | v::vs=>upd i v (IC is vs loc)
noncomputable def FC(T:bq)(f:Ev)(t:Tg)(v:AV)(σ:St):Option St:=match t with
 | .nam i _=>some {σ with loc:=upd i v σ.loc}
 | .cel i _=>FH i v σ
 | .two i _ j _ _ _=>(dK T σ.obs v).bind λ x=>if x.1=false then(KC x.2).map λ q=>{σ with loc:=upd j q.2 (upd i q.1 σ.loc)} else none
 | .att o a _=>(f o σ).bind λ p=>(CM T p.2.obs p.1 a v).map λ os=>{p.2 with obs:=os}
noncomputable def IB(T:bq)(f:Ev):List Tg->List AV->St->Option St
 | [],vs,σ=>(KD vs).map λ zz=>σ
 | t::ts,vs,σ=>(rK vs).bind λ q=>(FC T f t q.1 σ).bind λ σ=>IB T f ts q.2 σ
noncomputable def bG:X->Bool
 | .and l _=>!l.isEmpty
 | .or l _=>!l.isEmpty
 | _=>true
structure eB where
 ev:Nat->X->St->Option (AV×St)
 tst:Nat->X->St->Option (Bool×St)
 cal:Nat->AV->List AV->St->Option (AV×St)
 exs:Nat->List S->St->Option (Fl×St)
noncomputable def y8(p:Bool×St):AV×St:=(.boo p.1,p.2)
noncomputable def kN(E:eB)(d:Nat)(cn:Option X)(σ:St):Option (Bool×St):=match cn with
 | none=>some (true,σ)
 | some x=>E.tst d x σ
noncomputable def EC(T:bq)(E:eB)(d:Nat)(op:CmpOp)(a b:X)(σ:St):Option (Bool×St):=(E.ev d a σ).bind λ p=>(E.ev d b p.2).bind λ q=>(eO T q.2.obs op p.1 q.1).map λ c=>(c,q.2)
noncomputable def Lx(T:bq)(E:eB)(d:Nat)(op:CmpOp)(c:X)(q:AV×St)(r:Bool):Option (Bool×St):=if r then(E.ev d c q.2).bind λ t=>(eO T t.2.obs op q.1 t.1).map λ c=>(c,t.2) else some (false,q.2)
noncomputable def I4(T:bq)(E:eB)(d:Nat)(Qv QD:CmpOp)(a b c:X)(σ:St):Option (Bool×St):=(E.ev d a σ).bind λ p=>(E.ev d b p.2).bind λ q=>(eO T q.2.obs Qv p.1 q.1).bind (Lx T E d QD c q)
noncomputable def EP(T:bq)(E:eB)(d:Nat)(x:X)(σ:St):Option (AV×St):=match x with
  | .loc i _=>(σ.loc.lookup i).map λ v=>(v,σ)
  | .glo i _=>(T.glo.lookup i).map λ v=>(v,σ)
  | .cel i _=>(Av σ i).map λ v=>(v,σ)
  | .int k _ _=>some (.int k,σ)
  | .byt b _ _=>some (.byt b,σ)
  | .non _ _=>some (.non,σ)
  | .boo b _ _=>some (.boo b,σ)
  | .att e a _=>(E.ev d e σ).bind λ p=>(GN T d p.2.ph p.2.obs p.1 a).map λ v=>(v,p.2)
  | .call f l _=>(E.ev d f σ).bind λ p=>(pg (E.ev d) l p.2).bind λ q=>E.cal d p.1 q.1 q.2
  | .meth o a _ l _=>(E.ev d o σ).bind λ p=>(Gi T p.2.obs p.1 a).bind λ f=>(pg (E.ev d) l p.2).bind λ q=>E.cal d f (p.1::q.1) q.2
  | .cmp op a b _=>(EC T E d op a b σ).map y8
  | .cmq Qv QD a b c _=>(I4 T E d Qv QD a b c σ).map y8
  | .and l p=>if l.isEmpty then none else(E.tst d (.and l p) σ).map y8
  | .or l p=>if l.isEmpty then none else(E.tst d (.or l p) σ).map y8
  | .not e p=>(E.tst d (.not e p) σ).map y8
  | .ife t a b _=>(E.tst d t σ).bind λ p=>if p.1 then E.ev d a p.2 else E.ev d b p.2
  | .bin op a b _=>(E.ev d a σ).bind λ p=>(E.ev d b p.2).bind λ q=>((Hl op p.1 q.1).map λ r=>(r,q.2)).or (Hb T op p.1 q.1 q.2)
  | .inv a _=>(E.ev d a σ).bind λ p=>(nR p.1).map λ k=>(.int (Builtin.bitNot k),p.2)
  | .sub o i _=>(E.ev d o σ).bind λ p=>(E.ev d i p.2).bind λ q=>(FA T q.2.obs p.1 q.1).map λ v=>(v,q.2)
  | .sl o l u _ _=>(E.ev d o σ).bind λ p=>(J4 (E.ev d) l p.2).bind λ q=>(J4 (E.ev d) u q.2).bind λ r=>(vx p.1 q.1 r.1).map λ v=>(v,r.2)
  | .tup l _ _=>(pg (E.ev d) l σ).bind λ p=>if p.1.length<=1000 then some (mkS false p.1 p.2) else none
  | .lst l _=>(pg (E.ev d) l σ).bind λ p=>if p.1.length<=1000 then some (dt p.2 (.lst p.1)) else none
  | .dct _=>some (dt σ (.dic []))
  | .lc e t it c _ fv _=>(E.ev d it σ).bind λ p=>(frz T p.2.obs p.1).bind λ q=>if q.1.length<=1000 then
    (sx T t (dU fv p.2.loc) (kN E d c) (E.ev d e) q.1 {p.2 with obs:=q.2}).map λ r=>mkS true r.1 ⟨p.2.loc,uY p.2.obs r.2.obs p.1,r.2.ph⟩ else none
  | .neg _ _=>none
  | .raw k f l p nms xs=>T.raw (.raw k f l p nms xs) d σ
noncomputable def I6(E:eB)(d:Nat)(p:Pos)(l:List X)(σ:St):Option (Bool×St):=match l with
 | []=>some (true,σ)
 | e::l=>if bG e then(E.tst d e σ).bind λ r=>if l.isEmpty then some r else if r.1 then E.tst d (.and l p) r.2 else some (false,r.2) else none
noncomputable def I5(E:eB)(d:Nat)(p:Pos)(l:List X)(σ:St):Option (Bool×St):=match l with
 | []=>some (false,σ)
 | e::l=>if bG e then(E.tst d e σ).bind λ r=>if l.isEmpty then some r else if r.1 then some (true,r.2) else E.tst d (.or l p) r.2 else none
noncomputable def I3(E:eB)(d:Nat)(x:X)(σ:St):Option (Bool×St):=(E.ev d x σ).bind λ p=>(BT p.1).map λ b=>(b,p.2)
noncomputable def Cw(T:bq)(E:eB)(d:Nat)(x:X)(σ:St):Option (Bool×St):=match x with
 | .not e _=>if bG e then(E.tst d e σ).map λ p=>(!p.1,p.2) else none
 | .ife _ _ _ _=>none
 | .cmp op a b _=>EC T E d op a b σ
 | .cmq Qv QD a b c _=>I4 T E d Qv QD a b c σ
 | .and l p=>I6 E d p l σ
 | .or l p=>I5 E d p l σ
 | x=>I3 E d x σ
noncomputable def JH(σ:St)(i:Nat)(q:(AV ⊕ KT)×KT):AV×St:=match q.1 with
 | .inl v=>(v,{σ with obs:=σ.obs.set i (.ktb q.2)})
 | .inr S'=>dt {σ with obs:=σ.obs.set i (.ktb q.2)} (.ktb S')
noncomputable def zy(σ:St)(r:AV ⊕ AO):AV×St:=match r with
 | .inl v=>(v,σ)
 | .inr o=>dt σ o
noncomputable def less(k d:Nat):Option Nat:=if k<=d then some (d-k) else none
noncomputable def lg(fc:FD)(vs:List AV)(k:Nat):List (Nat×AV):=(fc.cel.zipIdx k).map (λ x=>(x.1,AV.obj x.2))++(fc.ps.zip vs).filter λ x=>!fc.cel.contains x.1
noncomputable def iu(fc:FD)(vs:List AV):List AO:=fc.cel.map λ i=>.cel ((fc.ps.zip vs).lookup i)
noncomputable def Fw(i:Nat)(f:List (Nat×AV)):Option (AV×List (Nat×AV)):=(rK f).bind λ q=>if q.1.1=i then some (q.1.2,q.2) else none
noncomputable def La(f:List (Nat×AV)):Option BR:=(Fw 121 f).bind λ a=>(fY a.1).bind λ k=>(Fw 74 a.2).bind λ b=>(fY b.1).bind λ t=>(Fw 179 b.2).bind λ c=>(BT c.1).bind λ r=>(Fw 180 c.2).bind λ d=>(fY d.1).bind λ n=>if d.2.isEmpty then some ⟨k,t,r,n⟩ else none
noncomputable def K9(o:AO):Option BR:=match o with
 | .ins C f=>if C=655 then La f else none
 | _=>none
noncomputable def II(k:Nat)(σ:St):AV×St:=match (σ.obs[k]?).bind K9 with
 | some r=>if k+1=σ.obs.length/\(σ.obs.take k).all (eL k)=true then(.pv (.bnd r),{σ with obs:=σ.obs.take k}) else(.obj k,σ)
 | none=>(.obj k,σ)
noncomputable def LP:Fl->Option AV
 | .ret v=>some v
 | .nxt=>some .non
 | _=>none
noncomputable def AZ(σ:St)(p:Fl×St):Option (AV×St):=(LP p.1).map λ v=>(v,⟨σ.loc,mz σ.obs.length v p.2.obs,p.2.ph⟩)
noncomputable def qN:Fl->Option Unit
 | .nxt=>some ()
 | _=>none
noncomputable def Hd(T:bq)(d:Nat)(a:Addr)(vs:List AV)(σ:St):Option (AV×St):=(less 20 d).bind λ zz=>(T.stf a vs σ.obs σ.ph).map λ r=>(r.1,{σ with obs:=r.2})
noncomputable def Hf(T:bq)(d:Nat)(a:Addr)(vs:List AV)(σ:St):Option (AV×St):=(less 12 d).bind λ zz=>(rK vs).bind λ q=>(Ep σ.obs q.1).bind λ x=>(Lh x.2).bind λ S=>(T.ktm a S q.2).map (JH σ x.1)
noncomputable def Ka(T:bq)(d:Nat)(a:Addr)(vs:List AV)(σ:St):Option (AV×St):=(less 8 d).bind λ zz=>(T.pur a vs).map (zy σ)
noncomputable def run(E:eB)(d:Nat)(fd:FD)(vs:List AV)(os:List AO)(ph:Bool):Option (Fl×St):=E.exs d fd.body ⟨lg fd (vs++fd.dfl) os.length,os++iu fd (vs++fd.dfl),ph⟩
noncomputable def IS(T:bq)(E:eB)(d:Nat)(a:Addr)(vs:List AV)(σ:St):Option (AV×St):=(T.fns.lookup (a,vs.length)).bind λ fd=>(less 1 d).bind λ d=>(run E d fd vs σ.obs σ.ph).bind (AZ σ)
noncomputable def K7(T:bq)(E:eB)(d:Nat)(a:Addr)(vs:List AV)(σ:St):Option (AV×St):=(T.cls.lookup a).bind λ g=>(T.fns.lookup (g,vs.length+1)).bind λ fd=>(less 2 d).bind λ d=>
 (run E d fd (.obj σ.obs.length::vs) (σ.obs++[.ins a []]) σ.ph).bind λ p=>(qN p.1).map λ zz=>II σ.obs.length ⟨σ.loc,mz (σ.obs.length+1) .non p.2.obs,p.2.ph⟩
noncomputable def K6(T:bq)(E:eB)(d:Nat)(a:Addr)(vs:List AV)(σ:St):Option (AV×St):=(T.sup.lookup (a,vs.length)).bind λ fs=>(less 3 d).bind λ d=>
 (pg (E.ev (d+1)) fs.args ⟨fs.ps.zip (.obj σ.obs.length::vs),σ.obs++[.ins a []],σ.ph⟩).bind λ p=>(T.fns.lookup (fs.base,p.1.length+1)).bind λ fd=>
  (run E d fd (.obj σ.obs.length::p.1) p.2.obs p.2.ph).bind λ q=>(AZ p.2 q).bind λ q'=>(E.exs (d+1) fs.body q'.2).bind λ r=>(qN r.1).map λ zz=>(.obj σ.obs.length,⟨σ.loc,mz (σ.obs.length+1) .non r.2.obs,r.2.ph⟩)
noncomputable def J9(T:bq)(E:eB)(d:Nat)(a:Addr)(vs:List AV)(σ:St):Option (AV×St):=if T.kp.contains a=true then
 (Hd T d a vs σ).or ((Hf T d a vs σ).or ((Ka T d a vs σ).or ((IS T E d a vs σ).or ((K7 T E d a vs σ).or (K6 T E d a vs σ))))) else none
noncomputable def Iz(σ:St)(r:AV×List AO):AV×St:=(r.1,{σ with obs:=r.2})
noncomputable def xK(T:bq)(E:eB)(d:Nat)(f:AV)(vs:List AV)(σ:St):Option (AV×St):=(H6 f).bind λ u=>match u with
  | .ref a=>J9 T E d a vs σ
  | .builtin id=>(blt T σ.obs id vs).map (Iz σ)
  | .type id=>(IA T σ.obs id vs).map (Iz σ)
  | _=>none
noncomputable def G6(h:Nat)(k v:AV)(σ:St):Option St:=(σ.obs[h]?).bind λ o=>
 ((fY k).bind λ k=>(zL o k v).map λ o'=>{σ with obs:=σ.obs.set h o'}).or ((nR k).bind λ k=>(IV o).bind λ l=>if l.length<=1000 then(idx k l.length).map λ j=>{σ with obs:=σ.obs.set h (.lst (l.set j v))} else none)
noncomputable def nx(σ:St):Fl×St:=(.nxt,σ)
noncomputable def JN(T:bq)(g:Nat):Option Unit:=((T.glo.lookup g).bind H6).bind λ u=>if u=.type "enumerate" then some () else none
noncomputable def bv(T:bq)(E:eB)(d:Nat)(s:S)(σ:St):Option (Fl×St):=match s with
 | .ret x _=>(E.ev d x σ).map λ p=>(.ret p.1,p.2)
 | .ret0 _=>some (.ret .non,σ)
 | .asg i _ x _=>(E.ev d x σ).map λ p=>nx {p.2 with loc:=upd i p.1 p.2.loc}
 | .asc i _ x _=>(E.ev d x σ).bind λ p=>(FH i p.1 p.2).map nx
 | .asu o i _ x _=>(E.ev d x σ).bind λ p=>(E.ev d o p.2).bind λ q=>(E.ev d i q.2).bind λ r=>(En q.1).bind λ h=>(G6 h r.1 p.1 r.2).map nx
 | .aat o a _ x _=>(E.ev d x σ).bind λ p=>(E.ev d o p.2).bind λ q=>(CM T q.2.obs q.1 a p.1).map λ os=>nx {q.2 with obs:=os}
 | .tsw l _ _ x _ _ _=>(pg (E.ev d) x σ).bind λ p=>if p.1.length<=1000/\l.length=p.1.length then some (nx {p.2 with loc:=IC (l.map (·.1)) p.1 p.2.loc}) else none
 | .tpl l _ _ x _=>(E.ev d x σ).bind λ p=>(dK T p.2.obs p.1).bind λ y=>if y.1=false/\l.length=y.2.length then(IB T (E.ev d) l y.2 p.2).map nx else none
 | .ex x _=>(E.ev d x σ).map λ p=>nx p.2
 | .iff t a b _=>(E.tst d t σ).bind λ p=>if p.1 then E.exs d a p.2 else E.exs d b p.2
 | .whl t b q'=>(E.tst d t σ).bind λ p=>if p.1 then(E.exs d b p.2).bind λ q=>K5 q.1 q.2 (E.exs d [.whl t b q']) else some (nx p.2)
 | .fr t i b _=>(E.ev d i σ).bind λ p=>(frz T p.2.obs p.1).bind λ q=>(eF t (E.exs d b) T q.1 {p.2 with obs:=q.2}).map λ r=>(r.1,{r.2 with obs:=uY p.2.obs r.2.obs p.1})
 | .fen l k q g x _ _ b _=>(JN T g).bind λ zz=>(E.ev d x σ).bind λ p=>(H7 p.1).bind λ m=>(rK m).bind λ v=>if v.2.isEmpty then(put T (.mul l k q) (.pv (.seq false [.int 0,v.1])) p.2).bind λ σ'=>(E.exs d b σ').bind λ r=>(qN r.1).map λ zz=>nx r.2 else none
 | .brk _=>some (.brk,σ)
 | .cnt _=>some (.cnt,σ)
 | .pas _=>some (.nxt,σ)
 | .rai _ _=>none
 | .raw _=>none
noncomputable def G4(T:bq)(E:eB)(d:Nat)(ss:List S)(σ:St):Option (Fl×St):=match ss with
  | []=>some (.nxt,σ)
  | s::ss=>(bv T E d s σ).bind λ p=>match p.1 with
    | .nxt=>E.exs d ss p.2
    | .ret v=>some (.ret v,p.2)
    | .brk=>some (.brk,p.2)
    | .cnt=>some (.cnt,p.2)
noncomputable def aC(T:bq):Nat->eB
 | 0=>⟨λ zz zz zz=>none,λ zz zz zz=>none,λ zz zz zz zz=>none,λ zz zz zz=>none⟩
 | n+1=>⟨EP T (aC T n),Cw T (aC T n),xK T (aC T n),G4 T (aC T n)⟩
end
end Mine
end
section
open PySem PySem.W PyProof.Rows PySem.Spec PySem.Calls
namespace Mine
open LCg
section
set_option tactic.hygienic true
section
variable{prog:Program}{w:World}{A:Around}{E:Value->Shared->Prop}{s:Shared}{c:Array UInt8}{n:Int}{t u:Tok}{Q:Value->Shared->Prop}
theorem lY(h0:0<=n)(h1:n<256):Gives (Builtin.«bytes.__contains__» ⟨[.bytes c t,.int n u],[]⟩) (.val (.bool (c.contains n.toNat.toUInt8))):=by
 refine .of_wp λ M A E s Q hq=>(?_:wpAny M A (Builtin.Bytes.containsIn "bytes.__contains__" (.bytes c t) (.int n u) >>= λ r=>_) _ E s)
 refine wpAny_bind ?_;unfold Builtin.Bytes.containsIn;refine wpAny_bind (wpAny_attempt (wpAny_of_eq (rfl:asIndex (.int n u)=pure n) ?_));refine wpAny_bind (wpAny_of_eq KBy.buffer_eq ?_);refine(?_:wpAny M A (if(decide (n<0)||decide (n>=256))=true then _ else _) _ _ _);refine ac (if_neg (by simp only[Bool.or_eq_true,decide_eq_true_eq];lia))<|wpAny_pure (wpAny_pure ⟨_,rfl,hq⟩)
theorem mP(h0:0<=n)(h1:n<256)(h:Q (.bool (c.contains n.toNat.toUInt8)) s):wpAny (model prog w) A (compareOp .In (.int n u) (.bytes c t)) Q E s:=
 in_gives (PySem.W.typeIs_bytes s c t) FB.slot_bytes_contains FB.entry_bytes_contains (FB.args_bytes_contains_2 _ _) (lY h0 h1) h
theorem iS(h0:0<=n)(h1:n<256)(h:Q (.bool (!(c.contains n.toNat.toUInt8))) s):wpAny (model prog w) A (compareOp .NotIn (.int n u) (.bytes c t)) Q E s:=
 notIn_gives (PySem.W.typeIs_bytes s c t) FB.slot_bytes_contains FB.entry_bytes_contains (FB.args_bytes_contains_2 _ _) (lY h0 h1) h
theorem pa(h0:0<=n)(h1:n<256)(hx:c.contains n.toNat.toUInt8=x)(h:Q (.bool x) s):wpAny (model prog w) A (compareOp .In (.int n u) (.bytes c t)) Q E s:=mP h0 h1 (by refine ac hx ?_;exact h)
theorem jK(h0:0<=n)(h1:n<256)(hx:c.contains n.toNat.toUInt8=x)(h:Q (.bool (!x)) s):wpAny (model prog w) A (compareOp .NotIn (.int n u) (.bytes c t)) Q E s:=iS h0 h1 (by refine ac hx ?_;exact h)
theorem nH:Slot "bytes" "join" "bytes.join":=
 .of (owner:="bytes") (n:="join") (by refine ac (typeLookup_type _ _) (ac builtinLookup_eq_fast ?_);kernel_rfl) (by decide +kernel) (by decide +kernel) (by decide +kernel)
  (by first|exact .inl (by decide +kernel)|exact .inr (by decide +kernel)) (by refine ac (isSubtype_type _ _) ?_;kernel_rfl)
theorem AD:typeOf (.builtin "bytes.join")=pure (.type "method_descriptor"):=by refine(?_:builtinType _=_);refine ac builtinType_eq_fast ?_;kernel_rfl
theorem xP:entryFor table "bytes.join"=some Builtin.«bytes.join»:=entryFor_of_tree (by kernel_rfl)
theorem AE(a b:Value):argsOk "bytes.join" ⟨[a,b],[]⟩:=by
 unfold argsOk;refine ac (signature?_of (id:="bytes.join") (n:=['n','i','o','j']) (o:=['s','e','t','y','b']) (by kernel_rfl) FB.owner_bytes) ?_;kernel_rfl
theorem lh(hl:s.heap.IsList l #[.bytes x u])(h:Q (.bytes x u) s):wpAny (model prog w) A (call (.builtin "bytes.join") [.bytes c t,.ref l]) Q E s:=by
 refine wpAny_call (codeAny_call_builtin nH.plain xP (nH.check _ _ _ _ _ _ _ _ (PySem.W.typeIs_bytes s c t) (AE _ _) ?_));have hT:s.TypeIs (.ref l) "list":=hl.typeIs;refine Ak (id hl) λ ol hol hoc nl hod=>(?_:wpAny _ _ (Builtin.Bytes.joinItems (.ref l) >>= λ r=>_) _ _ _)
 refine wpAny_bind ?_;unfold Builtin.Bytes.joinItems;refine wpAny_bind (wpAny_typeOf hT ?_);refine bm_if_true rfl (wpAny_pure ?_);refine wpAny_bind<|(?_:wpAny _ _ (load l >>= _) _ _ _)
 refine wpAny_bind (wpAny_load hol ?_);refine ac hod<|wpAny_pure<|(?_:wpAny _ _ (typeOf (.bytes x u) >>= _) _ _ _)
 refine wpAny_bind (wpAny_typeOf (PySem.W.typeIs_bytes s x u) ?_);exact wpAny_bind (wpAny_rule (wpAny_pure h))
end
end
section
variable{w:World}{fx fx':Addr->Obj->Nat->Prop}{h h':Heap}{τ τ':Addr->bo}{ρ ρ':RR}{f:Nat->Nat}{p:Nat->Bool}{k k':Nat}
theorem Is.ren(hp:∀i x,p i=true->ρ.ad[i]?=some x->ρ'.ad[f i]?=some x)(le:ρ.z.Le ρ'.z):∀{a:AV} {v:Value},ik p a=true->Is ρ a v->Is ρ' (b9 f a) v
 | .obj i,_,o,x=>by(refine ag x λ a e q=>?_;clear x);exact⟨a,e,hp i a o q⟩
 | .int _,_,_,x=>x
 | .byt _,_,_,x=>x
 | .boo _,_,_,x=>x
 | .non,_,_,x=>x
 | .val _,_,_,x=>x
 | .num _ _,_,_,x=>x
 | .pv q,_,_,x=>bA.mono le x
theorem mh(h:(x::l).all q=true):q x=true/\l.all q=true:=(Bool.and_eq_true _ _).mp h
theorem ay.ren{R':γ->β->Prop}{g:α->γ}(hr:∀x y,q x=true->R x y->R' (g x) y):∀{xs:List α} {ys:List β},xs.all q=true->ay R xs ys->ay R' (xs.map g) ys:=by intro l_;induction l_ with
 | nil=>intro _ _ h;exact h
 | cons x xs P9=>
  intro _ o h;refine ao h λ y zs e a t=>?_;have o:=mh o;exact(aq y zs ⟨e,hr x y o.1 a,(P9 o.2 t)⟩)
theorem OR.ren(hp:∀i x,p i=true->ρ.ad[i]?=some x->ρ'.ad[f i]?=some x)(le:ρ.z.Le ρ'.z)(hc:∀a o j,Cl h τ k j a o->Cl h' τ' k' j a o)(hf:∀a o,fx a o k->fx' a o k'):∀{o:AO} {a:Addr},lP p o=true->OR w fx h τ ρ k o a->OR w fx' h' τ' ρ' k' (dL f o) a
 | .lst l,_,o,x=>by(refine aZ x λ vs n c y=>?_;clear x);exact(aq vs n ⟨hc _ _ _ c,y.ren (λ zz zz=>Is.ren hp le) o⟩)
 | .tup l,_,o,x=>by(refine aZ x λ vs n c y=>?_;clear x);exact(aq vs n ⟨hc _ _ _ c,y.ren (λ zz zz=>Is.ren hp le) o⟩)
 | .ins C f,_,o,x=>by(refine aP x λ dx es n c c' y=>?_;clear x);exact(aI dx es n ⟨hc _ _ _ c,hc _ _ _ c',y.ren (λ _ _ q ⟨a,b,v,e,z⟩=>(aI a b v ⟨e,z.ren hp le q⟩)) o⟩)
 | .bar b,_,_,x=>hc _ _ _ x
 | .frz b l,_,o,x=>by(refine aZ x λ vs n c y=>?_;clear x);exact(aq vs n ⟨hf _ _ c,y.ren (λ zz zz=>Is.ren hp le) o⟩)
 | .dic l,_,o,x=>by(refine ao x λ ob kvs c d y=>?_;clear x);exact(aq ob kvs ⟨hc _ _ _ c,d,y.ren (λ zz zz q z=>⟨z.1,z.2.ren hp le q⟩) o⟩)
 | .frd l,_,o,x=>by(refine ao x λ ob kvs c d y=>?_;clear x);exact(aq ob kvs ⟨⟨hf _ _ c.1,c.2⟩,d,y.ren (λ zz zz q z=>⟨z.1,z.2.ren hp le q⟩) o⟩)
 | .dip _ _ _ _ l,_,_,x=>by(refine bV x λ ob kvs c d y q=>?_;clear x);exact(aq ob kvs ⟨hc _ _ _ c,d,y.imp λ zz zz z=>⟨z.1,z.2.mono le⟩,q⟩)
 | .dir t none A B,_,_,x=>by(refine ag x λ ob c y=>?_;clear x);exact⟨ob,hc _ _ _ c,y⟩
 | .dir t (some _) A B,_,o,x=>by(refine eZ x λ ob c l v y d=>?_;clear x);exact⟨ob,hc _ _ _ c,l,v,y.ren hp le o,d⟩
 | .ktb S,_,_,x=>fg.imp hc le x
 | .cel none,_,_,x=>by(refine ag x λ ob c y=>?_;clear x);exact⟨ob,hc _ _ _ c,y⟩
 | .cel (some _),_,o,x=>by(refine fB x λ ob c u d y=>?_;clear x);exact⟨ob,hc _ _ _ c,u,d,y.ren hp le o⟩
theorem dA:∀a,b9 (λ i=>i) a=a:=λ a=>by cases a<;>rfl
theorem dh{g:α->α}(h:∀a,g a=a)(l:List α):l.map g=l:=(List.map_congr_left λ a zz=>h a).trans (List.map_id l)
theorem rT:∀o,dL (λ i=>i) o=o:=λ o=>by
 have p:∀{κ:Type} (x:κ×AV),(x.1,b9 (λ i=>i) x.2)=x:=λ x=>congrArg (Prod.mk x.1) (dA x.2);have q:∀v:Option AV,v.map (b9 λ i=>i)=v:=λ v=>by cases v<;>first|rfl|exact congrArg some (dA _)
 cases o with
 | lst l=>exact congrArg AO.lst (dh dA l)
 | tup l=>exact congrArg AO.tup (dh dA l)
 | frz b l=>exact congrArg (AO.frz b) (dh dA l)
 | ins C l=>exact congrArg (AO.ins C) (dh p l)
 | dic l=>exact congrArg AO.dic (dh p l)
 | frd l=>exact congrArg AO.frd (dh p l)
 | cel v=>exact congrArg AO.cel (q v)
 | dir t v A B=>exact congrArg (λ v=>AO.dir t v A B) (q v)
 | _=>rfl
end
noncomputable def RR.psh(ρ:RR)(a:Addr):RR:=⟨ρ.ad++[a],ρ.z⟩
noncomputable def RR.cut(ρ:RR)(k:Nat):RR:=⟨ρ.ad.take k,ρ.z⟩
noncomputable def RR.ice(ρ:RR)(P:Addr->Obj->Prop):RR:=⟨ρ.ad,⟨λ a o=>ρ.z.cel a o\/P a o,ρ.z.bds⟩⟩
theorem ck{l m:List α}{i:Nat}(h:l[i]?=some x):(l++m)[i]?=some x:=(List.getElem?_append_left (List.getElem?_eq_some_iff.mp h).1).trans h
theorem cD:(l++[x])[l.length]?=some x:=by refine ac (List.getElem?_append_right (Nat.le_refl _)) (ac (Nat.sub_self _) ?_);rfl
theorem th(h:(l++[x])[i]?=some y):l[i]?=some y\/i=l.length/\y=x:=by
 rcases Nat.lt_or_ge i l.length with q|q
 ·exact .inl ((List.getElem?_append_left q).symm.trans h)
 ·have e:=(List.getElem?_append_right q).symm.trans h;have l1:=(List.getElem?_eq_some_iff.mp e).1;have:i=l.length:=Nat.le_antisymm (Nat.sub_eq_zero_iff_le.mp (Nat.lt_one_iff.mp l1)) q;(clear h q l1;subst this);rw[Nat.sub_self] at e;exact .inr ⟨rfl,(sI e).symm⟩
theorem tg{l:List α}(h:(l.take k)[i]?=some x):i<k/\l[i]?=some x:=by
 have q:=(List.getElem?_eq_some_iff.mp h).1;rw[List.length_take] at q;exact⟨(Nat.lt_min.mp q).1,(List.getElem?_take_of_lt (Nat.lt_min.mp q).1).symm.trans h⟩
theorem i9{l:List α}(q:i<k)(h:l[i]?=some x):(l.take k)[i]?=some x:=(List.getElem?_take_of_lt q).trans h
theorem kG{α:Type}{l:List α}{x y:α}(h:(l.set i x)[j]?=some y):j=i/\y=x\/j≠i/\l[j]?=some y:=by
 rw[List.getElem?_set] at h;by_cases q:i=j
 ·rw[if_pos q] at h;exact .inl ⟨q.symm,(sI (ji h).2).symm⟩
 ·rw[if_neg q] at h;exact .inr ⟨λ z=>q z.symm,h⟩
theorem RR.Le.psh{ρ:RR}{a:Addr}:ρ.Le (ρ.psh a):=⟨λ zz zz h=>ck h,Fz.Le.refl⟩
theorem RR.Le.ice{ρ:RR}:ρ.Le (ρ.ice P):=⟨λ zz zz h=>h,λ zz zz h=>.inl h,λ zz zz h=>h⟩
theorem RR.Le.cut{ρ ρ':RR}(e:ρ.Le ρ'):ρ.Le (ρ'.cut ρ.ad.length):=⟨λ i x h=>i9 (List.getElem?_eq_some_iff.mp h).1 (e.a i x h),e.z⟩
section
variable{c:Cx}{d:Nat}{ρ ρ':RR}{σ σ':St}{s s':Shared}{a:AV}{h h':Heap}{τ τ':Addr->bo}{os:List AO}{ph:Bool}
theorem Is.low{v:Value}(o:gG k a=true)(x:Is ρ a v):Is (ρ.cut k) a v:=(congrArg (λ z=>Is (ρ.cut k) z v) (dA a)).mp (x.ren (ρ':=ρ.cut k) (p:=λ i=>decide (i<k)) (f:=λ i=>i) (λ i x q e=>i9 (of_decide_eq_true q) e) Fz.Le.refl o)
theorem IsL.low{l:List AV}{vs:List Value}(o:l.all (gG k)=true)(x:IsL ρ l vs):IsL (ρ.cut k) l vs:=dh dA l▸ay.ren (g:=b9 λ i=>i) (λ zz zz q y=>(dA _).symm▸Is.low q y) o x
theorem aR.imp(K:aR c h τ ρ os ph)(hc:∀a o k j,k≠0->Cl h τ k j a o->Cl h' τ' k j a o)(N:∀a,(τ' a).1≠0->rB c.h₀ c.L h' a)(Y:∀a k j,τ' a=(k+2,j)->(a==sysModules)=false):aR c h' τ' ρ os ph:=
 ⟨N,Y,K.sz,λ i o e=>by refine ag (K.O i o e) λ a x q=>?_;exact⟨a,x,q.imp (λ a o j=>hc a o _ j (Nat.succ_ne_zero _)) RR.Le.refl λ zz zz h=>h⟩,λ a o z=>hc a o 1 0 Nat.one_ne_zero (K.Z a o z),λ a o k z=>hc a o 1 _ Nat.one_ne_zero (K.X a o k z),λ a r z=>(K.B a r z).imp (λ b o j=>hc b o 2 j (Nat.succ_ne_zero _)) Fz.Le.refl⟩
theorem aR.grow(K:aR c h τ ρ os ph)(g:lB h h'):aR c h' τ ρ os ph:=
 K.imp (λ a o k j zz x=>⟨g a o x.g,x.t⟩) (λ a q=>by
  obtain⟨g1,l,n⟩:=K.N a q;refine lW g1 λ o e=>⟨Option.isSome_iff_exists.mpr ⟨o,g a o e⟩,l,n⟩) K.Y
theorem au.grown(R:au c ρ σ s)(g:lB s.heap h'):au c ρ σ {s with heap:=h',toks:=k}:=by
 obtain⟨m,τ,F,L,K,r⟩:=R;exact⟨m,τ,F.keeps g,L,K.grow g,r⟩
theorem au.toks(R:au c ρ σ s)(k:Nat):au c ρ σ {s with toks:=k}:=R.grown λ zz zz e=>e
theorem au.keep(R:au c ρ σ s)(e:c.h₀.get? b=some o):s.heap.get? b=some o:=by
 obtain⟨m,τ,F,L,K,r⟩:=R;exact F.keep _ _ e
theorem au.X(R:au c ρ σ s)(C:aQ c d):c.K.In s.heap:=by
 obtain⟨m,τ,F,L,K,r⟩:=R;exact C.X.keeps F.keep
theorem au.size(R:au c ρ σ s):ρ.ad.length=σ.obs.length:=by
 obtain⟨m,τ,F,L,K,r⟩:=R;exact K.sz
theorem AF(C:aQ c d)(R:au c ρ σ s):@LT.lt Nat _ 64 s.heap.objs.size:=by
 have h64:(c.K.lookup 64).isSome=true:=by kernel_rfl
 refine lW h64 λ o e=>Heap.lt_size (R.X C 64 o e)
theorem rB.new(F:Fr c.h₀ c.L h m)(hb:@LE.le Nat _ h.objs.size b)(hs:(h'.get? b).isSome=true):rB c.h₀ c.L h' b:=by
 have hn:h.get? b=none:=Heap.get?_none_of_le hb;refine⟨hs,λ z=>?_,?_⟩
 ·refine bw F.ns λ oL es ep hL zz=>?_;rw[z,hL] at hn;exact sn hn
 ·cases q2:c.h₀.get? b with
  | none=>rfl
  | some o'=>rw[F.keep b o' q2] at hn;exact sn hn
theorem nJ(hz:@LT.lt Nat _ 64 h.objs.size)(hb:@LE.le Nat _ h.objs.size b):(b==sysModules)=false:=beq_false_of_ne λ z=>by
 have h2:@LT.lt Nat _ 64 1:=by have:=Nat.lt_of_lt_of_le hz hb;rw[z] at this;exact this
 exact absurd h2 (by decide)
inductive rC(c:Cx)(ρ:RR)(s:Shared)(o:AO)(i:Nat)(v:Value):Prop
 | mk (τ:Addr->bo) (a:Addr) (e:v=.ref a) (q:OR c.w c.fx s.heap τ ρ (i+3) o a) (n:∀b k j,τ b=(k+2,j)->(b==sysModules)=false) (fx:∀b ob k,c.fx b ob k->s.heap.get? b=some ob)
theorem au.obj(R:au c ρ σ s)(e:σ.obs[i]?=some o)(x:Is ρ (.obj i) v):rC c ρ s o i v:=by
 obtain⟨m,τ,F,L,K,r⟩:=R;refine ag (K.O i o e) λ a e1 q=>ag x λ b e2 e3=>⟨τ,a,e2.trans (congrArg Value.ref (sI (e3.symm.trans e1))),q,K.Y,λ b ob k z=>(K.X b ob k z).g⟩
theorem rC.el{P':Prop}(hh:rC c ρ s o i v)(kk:∀(τ:Addr->bo) (a:Addr) (e:v=.ref a) (q:OR c.w c.fx s.heap τ ρ (i+3) o a) (n:∀b k j,τ b=(k+2,j)->(b==sysModules)=false) (fx:∀b ob k,c.fx b ob k->s.heap.get? b=some ob),P'):P':=by
 obtain⟨τ,a,e,q,n,fx⟩:=hh;exact kk τ a e q n fx
inductive BX(c:Cx)(ρ:RR)(σ:St)(s:Shared)(o:AO)(i:Nat)(v:Value):Prop
 | mk (m:Str->Option Value) (τ:Addr->bo) (a:Addr) (e:v=.ref a) (F:Fr c.h₀ c.L s.heap m) (q:OR c.w c.fx s.heap τ ρ (i+3) o a) (n:∀b,(τ b).1≠0->rB c.h₀ c.L s.heap b) (y:∀b k j,τ b=(k+2,j)->(b==sysModules)=false)
  (k:∀(b:Addr) (j:Nat) (ob:Obj) (o':AO) (h':Heap) (tk:Nat),τ b=(i+3,j)->Fr c.h₀ c.L h' m->(∀b' o,(τ b').1≠0->b'≠b->s.heap.get? b'=some o->h'.get? b'=some o)->h'.get? b=some ob->OR c.w c.fx h' τ ρ (i+3) o' a->au c ρ {σ with obs:=σ.obs.set i o'} {s with heap:=h',toks:=tk})
theorem au.upd(R:au c ρ σ s){o:AO}(e:σ.obs[i]?=some o)(x:Is ρ (.obj i) v):BX c ρ σ s o i v:=by
 obtain⟨m,τ,F,L,K,r⟩:=R;refine ag (K.O i o e) λ a e1 q=>?_;refine ag x λ b e2 e3=>⟨m,τ,a,e2.trans (congrArg Value.ref (sI (e3.symm.trans e1))),F,q,K.N,K.Y,λ b j ob o' h' tk z F' hs hb y=>?_⟩
 have keep:∀b' o k j',k≠i+3->k≠0->Cl s.heap τ k j' b' o->Cl h' τ k j' b' o:=λ b' o k j' hk hk' cl=>by
  obtain⟨g,t⟩:=cl;have hk0:(τ b').1≠0:=by refine ac t ?_;exact hk'
  refine⟨hs b' o hk0 (λ q=>hk ?_) g,t⟩;rw[q,z] at t;exact(congrArg Prod.fst t).symm
 have one:(1:Nat)≠i+3:=(Nat.succ_ne_succ.mpr (Nat.succ_ne_zero _).symm)
 refine⟨m,τ,F',L,⟨λ b' q=>?_,K.Y,K.sz.trans List.length_set.symm,λ j' o1 e1'=>?_,λ b' o z=>keep _ _ _ _ one Nat.one_ne_zero (K.Z b' o z),λ b' o k z=>keep _ _ _ _ one Nat.one_ne_zero (K.X b' o k z),λ b' r z=>(K.B b' r z).imp (λ b' o j=>keep _ _ _ _ (Nat.succ_ne_succ.mpr (Nat.succ_ne_succ.mpr (Nat.succ_ne_zero _).symm)) (Nat.succ_ne_zero _)) Fz.Le.refl⟩,r⟩
 ·obtain⟨g,l,n⟩:=K.N b' q;refine⟨?_,l,n⟩;by_cases q':b'=b
  ·refine ac q' (ac hb ?_);rfl
  ·refine lW g λ o' e=>ac (hs b' o' q q' e) ?_;rfl
 ·rcases kG e1' with ⟨rfl,rfl⟩|⟨q1,q2⟩
  ·exact⟨a,e1,y⟩
  ·refine ag (K.O j' o1 q2) λ a' e4 q4=>⟨a',e4,q4.imp (λ b' o j=>keep _ _ _ _ (λ z=>q1 (Nat.add_right_cancel z)) (Nat.succ_ne_zero _)) RR.Le.refl λ zz zz h=>h⟩
theorem BX.el{P':Prop}(hh:BX c ρ σ s o i v)(kk:∀(m:Str->Option Value) (τ:Addr->bo) (a:Addr) (e:v=.ref a) (F:Fr c.h₀ c.L s.heap m) (q:OR c.w c.fx s.heap τ ρ (i+3) o a) (n:∀b,(τ b).1≠0->rB c.h₀ c.L s.heap b) (y:∀b k j,τ b=(k+2,j)->(b==sysModules)=false) (k:∀(b:Addr) (j:Nat) (ob:Obj) (o':AO) (h':Heap) (tk:Nat),τ b=(i+3,j)->Fr c.h₀ c.L h' m->(∀b' o,(τ b').1≠0->b'≠b->s.heap.get? b'=some o->h'.get? b'=some o)->h'.get? b=some ob->OR c.w c.fx h' τ ρ (i+3) o' a->au c ρ {σ with obs:=σ.obs.set i o'} {s with heap:=h',toks:=tk}),P'):P':=by
 obtain⟨m,τ,a,e,F,q,n,y,k⟩:=hh;exact kk m τ a e F q n y k
theorem Cl.own(cl:Cl h τ (k+1) j b o):(τ b).1≠0:=by refine ac cl.t ?_;exact Nat.succ_ne_zero _
theorem jW{P:Addr->Prop}(hs:Heap.SameBut b h h'):∀b' o,P b'->b'≠b->h.get? b'=some o->h'.get? b'=some o:=λ b' o zz q e=>(hs.2 b' q).trans e
noncomputable def EM(h:Heap)(P:Addr->Prop):List (Addr×Obj):=open Classical in (List.range h.objs.size).filterMap λ b=>if P b then(h.get? b).map λ o=>(b,o) else none
theorem bj:p∈EM h P↔P p.1/\h.get? p.1=some p.2:=by
 classical
 refine List.mem_filterMap.trans ⟨λ⟨b,_,e⟩=>?_,λ⟨q,e⟩=>⟨p.1,mR (Heap.lt_size e),?_⟩⟩
 ·refine ai e λ q e=>?_;(refine aF e λ o e' PZ=>?_;obtain rfl:=PZ);exact⟨q,e'⟩
 ·refine ac (if_pos q) (ac e ?_);rfl
noncomputable def one(a:Addr)(b:Addr):Option Nat:=if b=a then some 0 else none
noncomputable def two(a dx:Addr)(b:Addr):Option Nat:=if b=a then some 0 else if b=dx then some 1 else none
theorem gL[Decidable p]{j k:Nat}(h:(if p then some j else none)=some k):p/\k=j:=by
 refine ai h λ q e=>⟨q,(sI e).symm⟩
theorem au.push(C:aQ c d)(R:au c ρ σ s){o:AO}(nt:Addr->Option Nat)(g:lB s.heap h')(hn:∀b j,nt b=some j->@LE.le Nat _ s.heap.objs.size b/\(h'.get? b).isSome=true)
  (x:∀τ,(∀b j,nt b=some j->τ b=(σ.obs.length+3,j))->OR c.w c.fx h' τ (ρ.psh xa) (σ.obs.length+3) o xa):au c (ρ.psh xa) {σ with obs:=σ.obs++[o] } {s with heap:=h',toks:=k}:=by
 have hz:=AF C R;obtain⟨m,τ,F,L,K,r⟩:=R;let τ':Addr->bo:=λ b=>(nt b).elim (τ b) λ j=>(σ.obs.length+3,j)
 have new:∀b j,nt b=some j->τ' b=(σ.obs.length+3,j):=λ b j e=>congrArg (λ z=>z.elim (τ b) λ j=>(σ.obs.length+3,j)) e;have old:∀b o,s.heap.get? b=some o->τ' b=τ b:=λ b o e=>by
  cases q:nt b with
  | none=>exact congrArg (λ z=>z.elim (τ b) λ j=>(σ.obs.length+3,j)) q
  | some j=>rw[Heap.get?_none_of_le (hn b j q).1] at e;exact dC e
 have K':=(K.grow g).imp (h':=h') (τ':=τ') (λ b o k j hk cl=>?_) (λ b q=>?_) λ b k j q=>?_
 ·exact⟨m,τ',F.keeps g,L.mono RR.Le.psh,⟨K'.N,K'.Y,by refine(?_:(ρ.ad++[xa]).length=_);refine ac List.length_append (ac List.length_append (ac K.sz ?_));rfl,λ i o1 e=>by
   rcases th e with e|⟨rfl,rfl⟩
   ·refine ag (K'.O i o1 e) λ a' e4 q4=>⟨a',RR.Le.psh.a _ _ e4,q4.imp (λ zz zz zz h=>h) RR.Le.psh λ zz zz h=>h⟩
   ·exact⟨xa,K.sz▸cD,x τ' new⟩,K'.Z,K'.X,K'.B⟩,r⟩
 ·obtain⟨g1,t⟩:=cl;have hk':(τ b).1≠0:=by refine ac t ?_;exact hk
  refine lW ((K.N b hk').g) λ o' e=>⟨g1,(old b o' e).trans t⟩
 ·cases q':nt b with
  | none=>
   rw[show τ' b=τ b from congrArg (λ z=>z.elim (τ b) λ j=>(σ.obs.length+3,j)) q'] at q;exact(K.grow g).N b q
  | some j=>exact rB.new F (hn b j q').1 (hn b j q').2
 ·cases q':nt b with
  | none=>exact K.Y b k j ((congrArg (λ z=>z.elim (τ b) λ j=>(σ.obs.length+3,j)) q').symm.trans q)
  | some j'=>exact nJ hz (hn b j' q').1
theorem au.ice(R:au c ρ σ s){k:Nat}(P:Addr->Obj->Prop)(g:lB s.heap h')(hn:∀b o,P b o->@LE.le Nat _ s.heap.objs.size b/\h'.get? b=some o):au c (ρ.ice P) σ {s with heap:=h',toks:=k}:=by
 obtain⟨m,τ,F,L,K,r⟩:=R;classical
 let τ':Addr->bo:=λ b=>if ∃o,P b o then(1,0) else τ b
 have old:∀b o,s.heap.get? b=some o->τ' b=τ b:=λ b o e=>if_neg λ zz=>by(refine aA zz λ o' q=>?_;clear zz);rw[Heap.get?_none_of_le (hn b o' q).1] at e;exact dC e
 have K':=(K.grow g).imp (h':=h') (τ':=τ') (λ b o k j hk cl=>?_) (λ b q=>?_) λ b k j q=>?_
 ·exact⟨m,τ',F.keeps g,L.mono RR.Le.ice,⟨K'.N,K'.Y,K.sz,λ i o1 e=>by
   refine ag (K'.O i o1 e) λ a' e4 q4=>⟨a',e4,q4.imp (λ zz zz zz h=>h) RR.Le.ice λ zz zz h=>h⟩,λ b o z=>z.elim (K'.Z b o) λ z=>⟨(hn b o z).2,if_pos ⟨o,z⟩⟩,K'.X,λ b r z=>(K'.B b r z).imp (λ zz zz zz h=>h) RR.Le.ice.z⟩,r⟩
 ·obtain⟨g1,t⟩:=cl;have hk':(τ b).1≠0:=by refine ac t ?_;exact hk
  refine lW ((K.N b hk').g) λ o' e=>⟨g1,(old b o' e).trans t⟩
 ·by_cases q':∃o,P b o
  ·(refine aA q' λ o z=>?_;clear q');exact rB.new F (hn b o z).1 (by refine ac ((hn b o z).2) ?_;rfl)
  ·rw[show τ' b=τ b from if_neg q'] at q;exact(K.grow g).N b q
 ·by_cases q':∃o,P b o
  ·exact nomatch (if_pos q').symm.trans q
  ·exact K.Y b k j ((if_neg q').symm.trans q)
inductive lA(c:Cx)(ρ:RR)(σ:St)(s:Shared):Prop
 | mk (m:Str->Option Value) (nw:List (Addr×Obj)) (F:Fr c.h₀ c.L s.heap m) (N:News c.h₀ c.L s.heap nw) (k:∀h' tk,Fr c.h₀ c.L h' m->News c.h₀ c.L h' nw->au c ρ σ {s with heap:=h',toks:=tk})
  (k':∀h' tk xa ob,Fr c.h₀ c.L h' m->News c.h₀ c.L h' ((xa,ob)::nw)->(∀p∈nw,p.1<xa)->au c (ρ.ice λ a o=>a=xa/\o=ob) σ {s with heap:=h',toks:=tk})
theorem au.led(R:au c ρ σ s):lA c ρ σ s:=by
 obtain⟨m,τ,F,L,K,r⟩:=R;have hm:∀b o,s.heap.get? b=some o->(τ b).1≠0->(b,o)∈EM s.heap λ b=>(τ b).1≠0:=λ b o e q=>bj.mpr ⟨q,e⟩;have K1:∀h',News c.h₀ c.L h' (EM s.heap λ b=>(τ b).1≠0)->aR c h' τ ρ σ.obs σ.ph:=λ h' N'=>K.imp (λ a o k j hk cl=>⟨(N' _ (hm a o cl.g (by refine ac cl.t ?_;exact hk))).1,cl.t⟩) (λ a q=>by
  obtain⟨g1,l,n⟩:=K.N a q;refine lW g1 λ o e=>?_;exact⟨by refine ac ((N' _ (hm a o e q)).1) ?_;rfl,l,n⟩) K.Y
 refine⟨m,EM s.heap λ b=>(τ b).1≠0,F,λ p hp=>?_,λ h' tk F' N'=>⟨m,τ,F',L,K1 h' N',r⟩,λ h' tk xa ob F' N' ap=>?_⟩
 ·refine aD (bj.mp hp) λ q e=>⟨e,(K.N _ q).l,(K.N _ q).n⟩
 ·have K2:=K1 h' λ p hp=>N' p (.tail _ hp);have ne:∀b,(τ b).1≠0->b≠xa:=λ b q z=>by
   refine lW ((K.N b q).g) λ o e=>absurd (ap _ (hm b o e q)) (by refine ac z ?_;exact Nat.lt_irrefl _)
  let τ':Addr->bo:=λ b=>if b=xa then(1,0) else τ b
  have K3:=K2.imp (h':=h') (τ':=τ') (λ b o k j hk cl=>⟨cl.g,(if_neg (ne b (by refine ac cl.t ?_;exact hk))).trans cl.t⟩) (λ b q=>?_) λ b k j q=>?_
  ·exact⟨m,τ',F',L.mono RR.Le.ice,⟨K3.N,K3.Y,K.sz,λ i o1 e=>by
    refine ag (K3.O i o1 e) λ a' e4 q4=>⟨a',e4,q4.imp (λ zz zz zz h=>h) RR.Le.ice λ zz zz h=>h⟩,λ b o z=>z.elim (K3.Z b o) λ z=>⟨by refine ac z.1 (ac z.2 ?_);exact(N' _ (.head _)).1,if_pos z.1⟩,K3.X,λ b r z=>(K3.B b r z).imp (λ zz zz zz h=>h) RR.Le.ice.z⟩,r⟩
  ·by_cases z:b=xa
   ·refine ac z ?_;exact⟨by refine ac ((N' _ (.head _)).1) ?_;rfl,(N' _ (.head _)).2.1,(N' _ (.head _)).2.2⟩
   ·exact K2.N b ((congrArg (λ y:bo=>y.1≠0) (if_neg z)).mp q)
  ·by_cases z:b=xa
   ·exact nomatch (if_pos z).symm.trans q
   ·exact K.Y b k j ((if_neg z).symm.trans q)
theorem lA.el{P':Prop}(hh:lA c ρ σ s)(kk:∀(m:Str->Option Value) (nw:List (Addr×Obj)) (F:Fr c.h₀ c.L s.heap m) (N:News c.h₀ c.L s.heap nw) (k:∀h' tk,Fr c.h₀ c.L h' m->News c.h₀ c.L h' nw->au c ρ σ {s with heap:=h',toks:=tk}) (k':∀h' tk xa ob,Fr c.h₀ c.L h' m->News c.h₀ c.L h' ((xa,ob)::nw)->(∀p∈nw,p.1<xa)->au c (ρ.ice λ a o=>a=xa/\o=ob) σ {s with heap:=h',toks:=tk}),P'):P':=by
 obtain⟨m,nw,F,N,k,k'⟩:=hh;exact kk m nw F N k k'
theorem aR.cut(K:aR c h τ ρ os ph)(hk:k<=os.length)(o:(os.take k).all (eL k)=true):aR c h τ (ρ.cut k) (os.take k) ph:=
 ⟨K.N,K.Y,by refine(?_:(ρ.ad.take k).length=_);exact ac List.length_take (ac List.length_take (ac K.sz rfl)),λ i o1 e=>by
  refine aD (tg e) λ q e'=>?_;refine ag (K.O i o1 e') λ a e4 q4=>?_;have low:=mA o o1 (List.mem_of_getElem? e);exact⟨a,i9 q e4,(congrArg (λ z=>OR c.w c.fx h τ (ρ.cut k) (i+3) z a) (rT o1)).mp (q4.ren (ρ':=ρ.cut k) (p:=λ i=>decide (i<k)) (f:=λ i=>i) (λ i x q e=>i9 (of_decide_eq_true q) e) Fz.Le.refl (λ zz zz zz h=>h) (λ zz zz h=>h) low)⟩,K.Z,K.X,K.B⟩
end
theorem kH:En v=some i->v=.obj i:=by cases v<;>first|exact λ h=>nn h|exact λ h=>congrArg AV.obj (sI h)
theorem a7:fY v=some b->v=.byt b:=by cases v<;>first|exact λ h=>nn h|exact λ h=>congrArg AV.byt (sI h)
theorem bI:nR v=some k->v=.int k:=by cases v<;>first|exact λ h=>nn h|exact λ h=>congrArg AV.int (sI h)
theorem fb:BT v=some b->v=.boo b:=by cases v<;>first|exact λ h=>nn h|exact λ h=>congrArg AV.boo (sI h)
theorem ru:H6 v=some u->v=.val u:=by cases v<;>first|exact λ h=>nn h|exact λ h=>congrArg AV.val (sI h)
theorem Em:Lg v=some p->v=.pv p:=by cases v<;>first|exact λ h=>nn h|exact λ h=>congrArg AV.pv (sI h)
theorem gc:BD v=true->v=.non:=by cases v<;>first|exact λ h=>(Bool.false_ne_true h).elim|exact λ zz=>rfl
theorem qt:IG v=some a->v=.ref a:=by cases v<;>first|exact λ h=>nn h|exact λ h=>congrArg Value.ref (sI h)
theorem qq:IE p=some x->p=.seq x.1 x.2:=by cases p<;>first|exact λ h=>nn h|exact λ h=>congrArg (λ x:Bool×List PV=>PV.seq x.1 x.2) (sI h)
theorem rx:IV o=some l->o=.lst l:=by cases o<;>first|exact λ h=>nn h|exact λ h=>congrArg AO.lst (sI h)
theorem ya:Km o=some b->o=.bar b:=by cases o<;>first|exact λ h=>nn h|exact λ h=>congrArg AO.bar (sI h)
theorem Eo{S:KT}:Lh o=some S->o=.ktb S:=by cases o<;>first|exact λ h=>nn h|exact λ h=>congrArg AO.ktb (sI h)
theorem yc:Ko o=some v->o=.cel v:=by cases o<;>first|exact λ h=>nn h|exact λ h=>congrArg AO.cel (sI h)
theorem cI{l:List α}:rK l=some q->l=q.1::q.2:=by cases l<;>first|exact λ h=>nn h|exact λ h=>congrArg (λ q:α×List α=>q.1::q.2) (sI h)
theorem ry{os:List AO}{v:AV}(h:Ep os v=some q):v=.obj q.1/\os[q.1]?=some q.2:=by
 refine ae h λ i hi h=>?_;(refine aF h λ o ho PZ=>?_;obtain rfl:=PZ);exact⟨kH hi,ho⟩
theorem cT{os:List AO}{v:AV}(h:pW os v=some o):∃i,v=.obj i/\os[i]?=some o:=by
 refine ae h λ i hi h=>⟨i,kH hi,h⟩
theorem qF:∀{l:List (Nat×AV)},(upd i a l).lookup j=if j=i then some a else l.lookup j:=by intro l_;induction l_ with
 | nil=>
  by_cases h:j=i
  ·refine ac (if_pos h) (ac h ?_);exact List.lookup_cons_self
  ·refine ac (if_neg h) ?_;refine(?_:(match j==i with|true=>some a|false=>none)=none);exact ac (beq_false_of_ne h) rfl
 | cons x r P9=>
  by_cases hk:x.1=i
  ·refine ac (show upd i a (x::r)=(x.1,a)::r from if_pos hk) ?_;by_cases h:j=i
   ·refine ac (if_pos h) (ac h (bP hk ?_));exact List.lookup_cons_self
   ·exact ac (if_neg h) (ac List.lookup_cons (ac List.lookup_cons (ac (beq_false_of_ne (hk▸h:j≠x.1)) rfl)))
  ·refine ac (show upd i a (x::r)=x::upd i a r from if_neg hk) (ac List.lookup_cons (ac List.lookup_cons (ac P9 ?_)));by_cases h:j=x.1
   ·refine ac (show(j==x.1)=true from beq_iff_eq.mpr h) ?_;exact(if_neg λ z=>hk (h.symm.trans z)).symm
   ·exact ac (beq_false_of_ne h) rfl
theorem yU:∀{l:List (Nat×AV)},(upd i a l).length<=l.length+1:=by intro l_;induction l_ with
 | nil=>exact Nat.le_refl _
 | cons x r P9=>
  refine(?_:(if x.1=i then(x.1,a)::r else x::upd i a r).length<=_);split
  ·exact Nat.le_succ _
  ·exact Nat.succ_le_succ P9
theorem c6.set(h:c6 ρ loc m)(x:Is ρ a v):c6 ρ (upd i a loc) (λ y=>if y=nm i then some v else m y):=λ j b e=>by
 rw[qF] at e;by_cases q:j=i
 ·rw[if_pos q] at e;exact⟨v,if_pos (congrArg nm q),sI e▸x⟩
 ·rw[if_neg q] at e;refine ag (h j b e) λ u e1 e2=>⟨u,(if_neg λ z=>q (f9 z)).trans e1,e2⟩
theorem fa(h:vc.lookup y=none):dn vc m y=m y:=by
 refine(?_:(match vc.lookup y with|some a=>some (Value.ref a)|none=>m y)=_);exact ac h rfl
theorem cP(h:vc.lookup y=some a):dn vc m y=some (.ref a):=by
 refine(?_:(match vc.lookup y with|some a=>some (Value.ref a)|none=>m y)=_);exact ac h rfl
theorem xJ(h:vc.lookup x=none):dn vc (λ y=>if y=x then some v else m y)=λ y=>if y=x then some v else dn vc m y:=by
 funext y
 by_cases q:y=x
 ·exact ac q (ac (fa h) (ac (if_pos rfl) (ac (if_pos rfl) rfl)))
 ·refine ac (if_neg q)<|(?_:(match vc.lookup y with|some a=>some (Value.ref a)|none=>if y=x then some v else m y)=(match vc.lookup y with|some a=>some (Value.ref a)|none=>m y))
  exact ac (if_neg q) rfl
theorem cB{k:NameKind}(h:cf sc k i=true):sc.names.lookup (nm i)=some k/\(nm i==("__debug__":Str))=false:=by
 refine af h λ h1 h2=>⟨of_decide_eq_true h1,Bool.not_eq_true' _ |>.mp h2⟩
noncomputable def ml(i:Nat)(v:AV):Prop:=∀w:World,(∃u,nsIn (hd.heap_39 w.params) mainGlobals (nm i)=some (some u)/\∀ρ,Is ρ v u)\/
 (nsIn (hd.heap_39 w.params) mainGlobals (nm i)=some none/\∃u,bootBuiltins (nm i)=some u/\nm i≠"__name__"/\∀ρ,Is ρ v u)
structure Iy(K:Frag)(C:Addr)(a:Nat):Prop where
 g:plainGet K C (nm a)=true
 h:hasDictIn K C=true
 t:∃t,findIn K (.ref C) (nm a)=some t/\noGet K t=true
 s:findIn K (.ref C) "__setattr__"=some (some (.builtin "object.__setattr__"))
 p:plainOver K C=true
 k:takerIn K C (nm a)=some none
noncomputable def B4(C:Addr)(a:Nat):Prop:=∀w:World,Iy (hd.heap_39 w.params) C a
section
variable{c:Cx}{d:Nat}{ρ:RR}{σ:St}{s:Shared}{a:AV}
theorem PE.here(R:au c ρ σ s)(x:Is ρ a v):PE c ρ σ a v s:=⟨ρ,RR.Le.refl,R,x⟩
theorem PE.from{v:Value}(e:ρ.Le PY)(h:PE c PY σ a v s):PE c ρ σ a v s:=by
 (refine PE.el h λ ρ' e' R x=>?_;clear h);exact⟨ρ',e.trans e',R,x⟩
theorem A6{p:Pos}(C:aQ c d)(R:au c ρ σ s)(h:cf c.cs .local i=true)(hl:σ.loc.lookup i=some a):W c (eval (.Name (nm i) p) c.env) (PE c ρ σ a) s:=by
 refine aD (cB h) λ h2 h3=>?_;have⟨m,τ,F,L,K,r⟩:=R;refine ag (L i a hl) λ v e x=>ah (wpAny_Name (wpAny_loadName_local C.hk h2 F.ns ((fa (C.hc _ h2)).symm.trans e) (.here R x)) h3)
theorem og{p:Pos}(C:aQ c d)(R:au c ρ σ s)(h:cf c.cs .globalImplicit i=true)(hg:ml i a):W c (eval (.Name (nm i) p) c.env) (PE c ρ σ a) s:=by
 refine aD (cB h) λ h2 h3=>?_;have⟨m,τ,F,L,K,r⟩:=R;have g:=(topRead_of C.T).g;rcases hg c.w with ⟨u,e,x⟩|⟨e,u,e2,e3,x⟩
 ·exact ah (Name_function_global C.hk h2 (loadGlobal_global (env:=c.env) (g.keeps F.keep) (mg_of C.X g e) (.here R (x ρ))) h3)
 ·exact ah (Name_function_global C.hk h2 (loadGlobal_builtin (env:=c.env) (g.keeps F.keep) (mg_none_of C.X g e) ((topRead_of C.T).b.keeps F.keep) (((topRead_of C.T).builtins _ e3).trans e2) (.here R (x ρ))) h3)
theorem n9{v:Value}(C:aQ c d)(R:au c ρ σ s)(h:cf c.cs .local i=true)(x:Is ρ a v)(k:∀s',au c ρ {σ with loc:=upd i a σ.loc} s'->Q () s'):wpAny c.M c.A (storeName c.env (nm i) v) Q c.E s:=by
 refine aD (cB h) λ h2 h3=>?_;(refine au.el R λ m τ F L K r=>?_;clear R);refine wpAny_storeName_local h2 F.ns (λ h' hn hs=>k _ ⟨_,τ,F.set hn hs,(xJ (C.hc _ h2)).symm▸L.set x,K.imp (λ b o k' j hk cl=>⟨(hs.2 b ?_).trans cl.g,cl.t⟩) (λ b q=>?_) K.Y,r⟩) (by refine(?_:(c.cs.kind==.class||(c.cs.kind==.module&&c.L != mainGlobals))=false);refine ac C.hk ?_;rfl)
 ·exact(K.N b (by refine ac cl.t ?_;exact hk)).l
 ·obtain⟨g,l,n⟩:=K.N b q;exact⟨by refine ac (hs.2 b l) ?_;exact g,l,n⟩
theorem mq{v:Value}(C:aQ c d)(R:au c ρ σ s)(h:cf c.cs .local i=true)(x:Is ρ a v)(k:∀s',au c ρ {σ with loc:=upd i a σ.loc} s'->Q () s'):W c (storeName c.env (nm i) v) Q s:=ah (n9 C R h x k)
theorem xI{v:Option AV}(C:aQ c d)(R:au c ρ σ s)(h:c.cs.names.lookup (nm i)=some .cell)(e:σ.loc.lookup i=some (.obj j)):∃ca,c.vc.lookup (nm i)=some ca/\Is ρ (.obj j) (.ref ca):=by
 refine aA (C.hc2 _ h) λ ca hc=>?_;(refine au.el R λ m τ F L K r=>?_;clear R);refine ag (L i _ e) λ u e1 x=>⟨ca,hc,sI ((cP hc).symm.trans e1)▸x⟩
theorem Fi{i:Nat}{p:Pos}(C:aQ c d)(R:au c ρ σ s)(h:cf c.cs .cell i=true)(hl:Av σ i=some a):W c (eval (.Name (nm i) p) c.env) (PE c ρ σ a) s:=by
 refine aD (cB h) λ h2 h3=>ae hl λ v hv hl=>ae hv λ o ho hv=>ae ho λ u hu ho=>?_;(refine ag (cT ho) λ j P2 ho=>?_;obtain rfl:=P2);refine ag (xI (v:=v) C R h2 hu) λ ca hc x=>?_;have q:=yc hv;rw[show v=some a from hl] at q;refine rC.el (R.obj (q▸ho) x) λ τ xa e q _ _=>?_;(refine fB q λ ob cl u' hd y=>?_;clear q);exact ah (wpAny_Name (wpAny_loadName_cell C.hk h2 hc ⟨ob,Value.ref.inj e▸cl.g,hd⟩ (.here R y)) h3)
theorem A2{i:Nat}{v:Value}(C:aQ c d)(R:au c ρ σ s)(h:cf c.cs .cell i=true)(hs:FH i a σ=some σ')(x:Is ρ a v)(k:∀s',au c ρ σ' s'->Q () s'):W c (storeName c.env (nm i) v) Q s:=by
 refine aD (cB h) λ h2 h3=>ae hs λ q hq hs=>?_;(refine aF hs λ RX hv PZ=>?_;obtain rfl:=PZ);refine ae hq λ u hu hq=>?_;(refine aD (ry hq) λ Qc ho=>?_;(clear hq;obtain rfl:=Qc));rw[yc hv] at ho;refine ag (xI (v:=RX) C R h2 hu) λ ca hc y=>BX.el (R.upd ho y) λ m τ xa e F q' n _ k'=>?_;(replace e:=Value.ref.inj e;obtain rfl:=e);have key:∀QY (ob:Obj),Cl s.heap τ (q.1+3) 0 ca ob->ob.data=.cell QY->W c (storeName c.env (nm i) v) Q s:=λ QY ob cl hd=>by
  have nw:=n _ cl.own;exact ah (wpAny_storeName_cell C.hk h2 hc ⟨ob,cl.g,hd⟩ λ h' ⟨o',ho',hd'⟩ hs=>k _ (k' ca 0 o' (.cel (some a)) h' s.toks cl.t (F.change hs nw.l nw.n) (jW hs) ho' ⟨o',⟨ho',cl.t⟩,v,hd',x⟩))
 cases RX with
 | none=>refine ag q' λ ob cl hd=>?_;exact key _ ob cl hd
 | some a₀=>(refine fB q' λ ob cl u' hd zz=>?_;clear q');exact key _ ob cl hd
theorem wG(i:Nat)(a:Nat)(t:Tok):(Value.str (nm i) t).isStr (nm a)=decide (i=a):=by
 refine(?_:(nm i==nm a)=decide (i=a));by_cases h:i=a
 ·exact ac h (ac (beq_self_eq_true _) (ac (decide_eq_true rfl) rfl))
 ·exact ac (decide_eq_false h) (ac (beq_false_of_ne λ q=>h (f9 q)) rfl)
theorem cw.find{a:Nat}:∀{f:List (Nat×AV)} {es:List DictEntry},cw ρ f es->es.any (·.refKey)=false/\match f.lookup a with
  | none=>es.find? (·.key.isStr (nm a))=none
  | some x=>∃e,es.find? (·.key.isStr (nm a))=some e/\Is ρ x e.val:=by intro l_;induction l_ with
 | nil=>intro es h;refine ac (show es=[] from h) ?_;exact⟨rfl,rfl⟩
 | cons p f P9=>
  intro es h;(revert h;refine λ P3=>ao P3 λ e es' PZ Qb h=>?_;clear P3;obtain rfl:=PZ;obtain⟨hs,t,v,rfl,x⟩:=Qb);refine aD (P9 h) λ ih1 ih2=>?_;refine⟨ih1,?_⟩;refine ac (List.find?_cons) (ac List.lookup_cons (ac (show((⟨hs,.str (nm p.1) t,v⟩:DictEntry).key.isStr (nm a))=decide (p.1=a) from wG p.1 a t) ?_));by_cases q:p.1=a
  ·refine ac (decide_eq_true q) (bP q (ac (beq_self_eq_true _) ?_));exact⟨_,rfl,x⟩
  ·refine ac (decide_eq_false q) (ac (beq_false_of_ne λ z=>q z.symm) ?_);exact ih2
theorem cw.get{f:List (Nat×AV)}{es:List DictEntry}(h:cw ρ f es)(e:f.lookup n=some a):∃v,getL (nm n) es=some (some v)/\Is ρ a v:=by
 refine aD (cw.find (a:=n) h) λ zz q=>?_;rw[e] at q;refine ag q λ en q x=>⟨en.val,by unfold getL;exact ac q rfl,x⟩
theorem cw.no{f:List (Nat×AV)}{es:List DictEntry}(h:cw ρ f es)(e:f.lookup n=none):getL (nm n) es=some none:=by
 refine aD (cw.find (a:=n) h) λ r q=>?_;rw[e] at q;unfold getL;refine ac (show es.find? _=none from q) (ac r ?_);rfl
theorem cw.put{v:Value}(y:Is ρ a v)(hs:Int)(t:Tok):∀{f:List (Nat×AV)} {es:List DictEntry},cw ρ f es->cw ρ (upd n a f) (putL (nm n) hs (.str (nm n) t) v es):=by intro l_;induction l_ with
 | nil=>intro es h;refine ac (show es=[] from h) ?_;exact(ay.k (aI hs t v ⟨rfl,y⟩) rfl)
 | cons p f P9=>
  intro es h;(revert h;refine λ P3=>ao P3 λ e es' PZ Qb h=>?_;clear P3;obtain rfl:=PZ;obtain⟨hs',t',u,rfl,x⟩:=Qb);refine(?_:cw ρ (if p.1=n then(p.1,a)::f else p::upd n a f) (if(⟨hs',.str (nm p.1) t',u⟩:DictEntry).key.isStr (nm n) then _ else _));refine ac (show((⟨hs',.str (nm p.1) t',u⟩:DictEntry).key.isStr (nm n))=decide (p.1=n) from wG p.1 n t') ?_;by_cases q:p.1=n
  ·refine ac (if_pos q) (ac (if_pos (decide_eq_true q)) ?_);exact(ay.k (aI hs' t' v ⟨rfl,y⟩) h)
  ·refine ac (if_neg q) (ac (if_neg (by rw[decide_eq_false q];exact Bool.false_ne_true)) ?_);exact(ay.k (aI hs' t' u ⟨rfl,x⟩) (P9 h))
theorem fh.ent:∀{vs:List Value} {es:List DictEntry} {l:List AV},fh ks vs es->IsL ρ l vs->cw ρ (ks.zip l) es:=by
 induction ks with
 | nil=>intro vs es l h _;exact h.2
 | cons k ks ih=>
  intro vs es l h x;(revert h;refine λ P3=>qZ P3 λ v vs' hs t es' QV Re h=>?_;clear P3;obtain rfl:=QV;obtain rfl:=Re);cases l with
  | nil=>cases (show v::vs'=[] from x)
  | cons a l=>
   refine ao x λ v' vs'' e y x=>?_;(refine aD (List.cons.inj e) λ Qc P2=>?_;(clear e;obtain rfl:=Qc);obtain rfl:=P2);exact(ay.k (aI hs t v ⟨rfl,y⟩) (ih h x))
theorem fz{C':Addr}(C:aQ c d)(R:au c ρ σ s)(hA:B4 C' n)(e1:s.heap.get? xa=some (instObj C' dx))(e2:s.heap.get? dx=some (dictOf es k))(ent:cw ρ f es)(hl:f.lookup n=some a)(hh:∀v,Is ρ a v->handedIn v=true) :
  W c (getAttr (.ref xa) (nm n) ex) (PE c ρ σ a) s:=by
 obtain⟨g1,g2,⟨t,g3,g4⟩,-,-,-⟩:=hA c.w;refine ag (ent.get hl) λ v q x=>?_;have⟨m,τ,F,L,K,r⟩:=R;exact ah (get_own F C.X ⟨e1,rfl,rfl,e2⟩ g1 g2 g3 g4 q (hh v x) (.here (R.toks _) x))
theorem bA.hin{p:PV}(x:bA z p v):handedIn v=true:=by
 (revert x;refine λ P3=>aA P3 λ n x=>?_;clear P3);cases n with
 | zero=>exact x.elim
 | succ n=>
  cases p with
  | int=>(refine aA x λ zz P2=>?_;clear x;obtain rfl:=P2);rfl
  | byt=>(refine aA x λ zz P2=>?_;clear x;obtain rfl:=P2);rfl
  | boo=>refine ac (show v=_ from x) ?_;rfl
  | non=>refine ac (show v=_ from x) ?_;rfl
  | seq=>(refine bw x λ zz zz zz Qb zz=>?_;clear x;obtain rfl:=Qb);rfl
  | ins=>(refine dT x λ zz zz zz zz zz QV zz=>?_;clear x;obtain rfl:=QV);rfl
  | bnd=>(refine ag x λ zz P2 zz=>?_;clear x;obtain rfl:=P2);rfl
theorem Is.hin(x:Is ρ a v)(h:hin a=true):handedIn v=true:=by
 cases a with
 | int=>(refine aA x λ zz P2=>?_;clear x;obtain rfl:=P2);rfl
 | byt=>(refine aA x λ zz P2=>?_;clear x;obtain rfl:=P2);rfl
 | boo=>refine ac (show v=_ from x) ?_;rfl
 | non=>refine ac (show v=_ from x) ?_;rfl
 | obj=>(refine ag x λ zz P2 zz=>?_;clear x;obtain rfl:=P2);rfl
 | val=>refine ac (show v=_ from x) ?_;exact h
 | pv=>exact bA.hin x
 | num=>(refine aZ x λ zz zz PZ zz=>?_;clear x;obtain rfl:=PZ);rfl
theorem bA.ofP{v:Value}(x:bA ρ.z p v):Is ρ (Mine.ofP p) v:=by
 have⟨n,y⟩:=x;cases n with
 | zero=>exact y.elim
 | succ n=>
  cases p with
  | int=>exact y
  | byt=>exact y
  | boo=>exact y
  | non=>exact y
  | seq=>exact x
  | ins=>exact x
  | bnd=>exact x
theorem Is.toP{p:PV}(x:Is ρ a v):toP a=some p->bA ρ.z p v:=by
 cases a with
 | int=>exact λ h=>sI h▸⟨1,x⟩
 | byt=>exact λ h=>sI h▸⟨1,x⟩
 | boo=>exact λ h=>sI h▸⟨1,x⟩
 | non=>exact λ h=>sI h▸⟨1,x⟩
 | pv=>exact λ h=>sI h▸x
 | obj=>exact λ h=>nn h
 | val=>exact λ h=>nn h
 | num=>exact λ h=>nn h
theorem sa:∀p,hin (ofP p)=true:=λ p=>by cases p<;>rfl
theorem bA.ofs{vs:List Value}(h:ay (bA ρ.z) l vs):IsL ρ (l.map Mine.ofP) vs:=ay.map (h.imp λ zz zz x=>x.ofP)
theorem eA.is{n:Nat}(h:eA z n p v):bA z p v:=⟨n,h⟩
theorem IsL.plain:∀{l:List AV} {vs:List Value} {ps:List PV},IsL ρ l vs->Mine.toPs l=some ps->ay (bA ρ.z) ps vs:=by intro l_;induction l_ with
 | nil=>intro vs ps h e;exact sI e▸h
 | cons a l P9=>
  intro vs ps h e;(revert h;refine λ P3=>ao P3 λ v vs' PZ x h=>?_;clear P3;obtain rfl:=PZ);refine ae e λ p hp e=>?_;(refine aF e λ qs hq PZ=>?_;obtain rfl:=PZ);exact(aq v vs' ⟨rfl,x.toP hp,P9 h hq⟩)
end
section
variable{c:Cx}{d:Nat}{ρ:RR}{σ:St}{s:Shared}{a:AV}
theorem au.cel(R:au c ρ σ s)(h:ρ.z.cel x o):s.heap.get? x=some o:=by
 (refine au.el R λ m τ F L K r=>?_;clear R);exact(K.Z x o h).g
theorem au.bdr(R:au c ρ σ s)(h:ρ.z.bds x=some r):∃τ,uJ s.heap τ ρ.z σ.ph x r:=by
 (refine au.el R λ m τ F L K _=>?_;clear R);exact⟨τ,K.B x r h⟩
noncomputable def tm(t:List UInt8):Prop:=∀(c:Cx) (d:Nat) (ρ:RR) (σ:St) (s:Shared) (r:BR) (val:Value) (ex:Bool),aQ c (d+12)->au c ρ σ s->σ.ph=true->r.told=t->bA ρ.z (.bnd r) val->W c (getAttr val (nm 98) ex) (PE c ρ σ (.pv (eI t))) s
noncomputable def yB(T:bq):Prop:=∀C a,attB T C a=true->B4 C a
theorem J2(h:m.filter p=some a):m=some a/\p a=true:=Option.filter_eq_some_iff.mp h
theorem r6(p:Option (List UInt8)):hin (Mine.ofP (aJ p))=true:=sa _
theorem DG{S:KT}(hT:yB T)(C:aQ c d)(R:au c ρ σ s)(q:fg c.w s.heap τ ρ.z i S x)(h:GM T (.ktb S) n=some a):W c (getAttr (.ref x) (nm n) ex) (PE c ρ σ a) s:=by
 refine ai h λ hb h=>?_;(refine fg.el q λ dx dm dl om ol es k kvs v1 v2 t c0 c1 _ _ ek p1 p2 _ _ _ _=>?_;clear q);have ent:cw ρ [(132,.val (.ref dm)),(185,.val (.ref dl)),(183,Mine.ofP (aJ S.pre)),(186,Mine.ofP (aJ S.sec)),(184,.int 500)] es:=
  ek.ent (l:=[.val (.ref dm),.val (.ref dl),Mine.ofP (aJ S.pre),Mine.ofP (aJ S.sec),.int 500]) (ay.k rfl (ay.k rfl (ay.k p1.ofP (ay.k p2.ofP (ay.k ⟨_,rfl⟩ rfl)))))
 by_cases e1:n=183
 ·rw[if_pos e1] at h;obtain rfl:=sI h;exact fz C R (hT _ _ hb) c0.g c1.g ent (by refine ac e1 ?_;rfl) λ v x=>x.hin (r6 _)
 ·rw[if_neg e1] at h;refine ai h λ e2 h=>?_;obtain rfl:=sI h;exact fz C R (hT _ _ hb) c0.g c1.g ent (by refine ac e2 ?_;rfl) λ v x=>x.hin (r6 _)
theorem Ac(h:Ad ph r n=some a):([121,74,179,180].zip [AV.byt r.key,if ph then .non else .byt r.told,.boo r.rep,.byt r.note]).lookup n=some a/\hin a=true/\(n=74->ph=false):=by
 unfold Ad at h;by_cases e1:n=121
 ·rw[if_pos e1] at h;refine ac e1 ?_;obtain rfl:=sI h;exact⟨rfl,rfl,λ q=>absurd q (by decide)⟩
 ·rw[if_neg e1] at h;by_cases e2:n=179
  ·rw[if_pos e2] at h;refine ac e2 ?_;obtain rfl:=sI h;exact⟨rfl,rfl,λ q=>absurd q (by decide)⟩
  ·rw[if_neg e2] at h;by_cases e3:n=180
   ·rw[if_pos e3] at h;refine ac e3 ?_;obtain rfl:=sI h;exact⟨rfl,rfl,λ q=>absurd q (by decide)⟩
   ·rw[if_neg e3] at h;refine ai h λ e4 h=>?_;cases ph with
    | true=>exact nn h
    | false=>refine ac e4 ?_;obtain rfl:=sI h;exact⟨rfl,rfl,λ zz=>rfl⟩
theorem Fa(hT:yB T)(hC:∀t,T.cmd t=true->tm t)(C:aQ c d)(R:au c ρ σ s)(x:Is ρ v val)(h:GN T d σ.ph σ.obs v n=some a):W c (getAttr val (nm n) ex) (PE c ρ σ a) s:=by
 cases v with
 | obj i=>
  refine ae h λ o e h=>?_;(refine rC.el (R.obj e x) λ τ xa PZ q _ _=>?_;obtain rfl:=PZ);cases o with
  | ins C' f=>
   refine ai h λ hb h=>aD (J2 h) λ h hh=>aP q λ dx es k c0 c1 ent=>fz C R (hT _ _ hb) c0.g c1.g ent h λ v x=>x.hin hh
  | ktb S=>exact DG hT C R q h
  | _=>exact nn h
 | pv p=>
  have⟨k,y⟩:=x;cases k with
  | zero=>exact y.elim
  | succ k=>
   cases p with
   | ins C' ks l=>
    refine ai h λ hb h=>?_;(revert y;refine λ P3=>ef P3 λ xa dx m vs es QV c0 c1 ek y=>?_;clear P3;obtain rfl:=QV);refine fz C R (hT _ _ hb) (R.cel c0) (R.cel c1) (ek.ent (bA.ofs (y.imp λ zz zz z=>z.is))) h λ v x=>x.hin ?_;have hm:∀{l:List PV} {ks:List Nat},(ks.zip (l.map Mine.ofP)).lookup n=some a->hin a=true:=λ{l}=>by
     induction l with
     | nil=>intro ks h;cases ks<;>exact nn h
     | cons p l ih=>
      intro ks h;cases ks with
      | nil=>exact nn h
      | cons k ks=>
       rw[List.map_cons,List.zip_cons_cons,List.lookup_cons] at h;cases q:n==k with
       | true=>rw[q] at h;exact sI h▸sa p
       | false=>rw[q] at h;exact ih h
    exact hm h
   | bnd r=>
    (refine ag y λ xa P2 hm=>?_;clear y;obtain rfl:=P2);obtain⟨τ,dx,es,m,vk,v,vn,c0,c1,ek,y1,y2,y3⟩:=R.bdr hm;replace h:(if attB T 655 n=true then Ad σ.ph r n else if n=98 then _ else none)=some a:=h;by_cases hb:attB T 655 n=true
    ·rw[if_pos hb] at h;refine cg (Ac h) λ h hh h74=>?_;have ent:∀u,Is ρ u v->cw ρ ([121,74,179,180].zip [AV.byt r.key,u,.boo r.rep,.byt r.note]) es:=λ u hu=>ek.ent (l:=[AV.byt r.key,u,.boo r.rep,.byt r.note]) (ay.k y1.ofP (ay.k hu (ay.k rfl (ay.k y2.ofP rfl))));by_cases q:n=74
     ·have hp:=h74 q;rw[hp] at h y3;exact fz C R (hT _ _ hb) c0.g c1.g (ent (.byt r.told) (y3.elim (λ z=>z.ofP) λ z=>(Bool.false_ne_true z.1).elim)) h λ v x=>x.hin hh
     ·refine fz C R (hT _ _ hb) c0.g c1.g (ent (.val v) rfl) (Eq.trans ?_ h) λ v x=>x.hin hh;refine(?_:(match n==121 with|true=>_|false=>match n==74 with|true=>_|false=>_)=(match n==121 with|true=>_|false=>match n==74 with|true=>_|false=>_));exact ac (beq_false_of_ne q) rfl
    ·rw[if_neg hb] at h;refine ai h λ e h'=>ai h' λ hh h''=>af hh λ h1 hh'=>af hh' λ h2 h3=>?_;(refine aA (Nat.exists_eq_add_of_le' (of_decide_eq_true h2)) λ d' P2=>?_;(clear h' hh hh' h2;obtain rfl:=P2));refine ac e<|sI h''▸hC _ h3 c d' ρ σ s r _ _ C R h1 rfl x
   | _=>exact nn h
 | _=>exact nn h
theorem yT:∀{pre:List (Addr×Obj)},(∀p∈pre,p.1≠d)->Upd d o o' (pre++[(d,o)]) (pre++[(d,o')]):=by intro l_;induction l_ with
 | nil=>exact λ zz=>.head λ zz h=>ni h
 | cons p pre P9=>exact λ h=>.tail (h p (.head _)) (P9 λ q hq=>h q (.tail _ hq))
theorem wg{τ:Addr->bo}(N:∀b,(τ b).1≠0->rB c.h₀ c.L s.heap b)(hb:(τ b).1≠0)(g:s.heap.get? b=some o):News c.h₀ c.L s.heap (EM s.heap (λ x=>(τ x).1≠0/\x≠b)++[(b,o)]):=λ p hp=>by
 rcases List.mem_append.mp hp with hp|hp
 ·(refine aD (bj.mp hp) λ Qc e=>?_;(refine aD Qc λ q zz=>?_;clear Qc));exact⟨e,(N _ q).l,(N _ q).n⟩
 ·refine ac (mS hp)<|⟨g,(N _ hb).l,(N _ hb).n⟩
theorem A3(hT:yB T){os:List AO}(C:aQ c d)(R:au c ρ σ s)(hv:Is ρ v val)(hx:Is ρ x u)(h:CM T σ.obs v n x=some os)
  (k:∀s',au c ρ {σ with obs:=os} s'->Q () s'):W c (setAttr val (nm n) u) Q s:=by
 refine ae h λ i hi h=>ae h λ o e h=>?_;(refine aF h λ o' h' PZ=>?_;obtain rfl:=PZ);(clear h;replace hi:=kH hi;obtain rfl:=hi);cases o with
 | ins C' f=>
  (refine aD (ji h') λ Qc h''=>?_;(refine aD Qc λ hb hz=>?_;clear Qc));(replace h'':=sI h'';obtain rfl:=h'');(refine BX.el (R.upd e hv) λ m τ xa Qb F q nw _ k'=>?_;(clear hv;obtain rfl:=Qb));refine aP q λ dx es kk c0 c1 ent=>?_;obtain⟨g1,g2,-,g5,g6,g7⟩:=hT _ _ hb c.w;have P:=cw.put (n:=n) hx (PyData.keyHash c.w.params (nm n)) (s.toks+1) ent;refine ah (set_dict F C.X (wg nw c1.own c1.g) ⟨c0.g,rfl,rfl,c1.g⟩ rfl g5 g6 g7 g2 ?_ rfl (yT λ p hp=>(bj.mp hp).1.2) ?_ λ h' F' N'=>k _ (k' dx 1 _ _ h' _ c1.t F' (λ b' o h0 hn g=>(N' (b',o) (List.mem_append_left _ (bj.mpr ⟨⟨h0,hn⟩,g⟩))).1) (N' _ (List.mem_append_right _ (.head _))).1 (aI dx _ _ ⟨⟨?_,c0.t⟩,⟨(N' _ (List.mem_append_right _ (.head _))).1,c1.t⟩,P⟩)))
  ·cases q:f.lookup n with
   | none=>refine ac (ent.no q) ?_;rfl
   | some y=>refine ag (ent.get q) λ v q zz=>?_;refine ac q ?_;rfl
  ·refine ac P.len<|Nat.le_trans yU (Nat.le_trans hz (by decide))
  ·refine(N' (xa,_) (List.mem_append_left _ (bj.mpr ⟨⟨c0.own,λ q=>?_⟩,c0.g⟩))).1;have t:=c0.t;rw[show xa=dx from q,c1.t] at t;exact nq (congrArg Prod.snd t) rfl
 | _=>exact nn h'
theorem au.fresh(C:aQ c d)(R:au c ρ σ s)(hf:ob.isFreed=false)(x:∀τ,Cl (s.heap.push ob) τ (σ.obs.length+3) 0 s.heap.objs.size ob->OR c.w c.fx (s.heap.push ob) τ (ρ.psh s.heap.objs.size) (σ.obs.length+3) o s.heap.objs.size) :
  PE c ρ (dt σ o).2 (dt σ o).1 (.ref s.heap.objs.size) {s with heap:=s.heap.push ob,toks:=k}:=by
 have g:(s.heap.push ob).get? s.heap.objs.size=some ob:=Heap.get?_push_size _ hf;refine⟨ρ.psh s.heap.objs.size,RR.Le.psh,au.push C R (one s.heap.objs.size) (λ b o e=>Heap.get?_push_of_some _ e) (λ b j e=>?_) λ τ h=>x τ ⟨g,h _ 0 (if_pos rfl)⟩,⟨_,rfl,?_⟩⟩
 ·(refine aD (gL e) λ Qc P2=>?_;(clear e;obtain rfl:=Qc);clear P2);exact⟨Nat.le_refl _,by refine ac g ?_;rfl⟩
 ·refine bP R.size ?_;exact cD
theorem bY(h:n<=1000):n<=sizeLine:=Nat.le_trans h (by refine ac sizeLine_eq ?_;decide)
theorem Ca(C:aQ c d)(R:au c ρ σ s)(x:IsL ρ l vs)(hl:l.length<=1000):W c (newList vs) (PE c ρ (dt σ (.lst l)).2 (dt σ (.lst l)).1) s:=
 ah (wpAny_newList (au.fresh C R (k:=s.toks) rfl λ τ cl=>(aq vs 0 ⟨cl,x.imp λ zz zz z=>z.mono RR.Le.psh⟩)) (by refine ac x.len ?_;exact bY hl))
theorem PE.mkS(C:aQ c d)(R:au c ρ σ s)(x:IsL ρ l vs):PE c ρ (Mine.mkS b l σ).2 (Mine.mkS b l σ).1 (.ref s.heap.objs.size) {s with heap:=s.heap.push (rQ b vs 0),toks:=k}:=by
 have hf:(rQ b vs 0).isFreed=false:=by cases b<;>rfl
 have g:(s.heap.push (rQ b vs 0)).get? s.heap.objs.size=some (rQ b vs 0):=Heap.get?_push_size _ hf;cases q:Mine.toPs l with
 | some ps=>
  refine ac (show Mine.mkS b l σ=(.pv (.seq b ps),σ) by unfold Mine.mkS;rw[q]) ?_;have R':=au.ice R (k:=k) (λ a o=>a=s.heap.objs.size/\o=rQ b vs 0) (λ b o e=>Heap.get?_push_of_some _ e) (λ a o e=>⟨Nat.le_of_eq e.1.symm,by refine ac e.1 (ac e.2 ?_);exact g⟩);refine⟨_,RR.Le.ice,R',?_⟩;obtain⟨n,y⟩:=bA.all (IsL.plain (x.imp λ zz zz z=>z.mono RR.Le.ice) q);exact⟨n+1,_,0,vs,rfl,.inr ⟨rfl,rfl⟩,y⟩
 | none=>
  refine ac (show Mine.mkS b l σ=dt σ (if b then .lst l else .tup l) by unfold Mine.mkS;rw[q]) ?_;have x':IsL (ρ.psh s.heap.objs.size) l vs:=x.imp λ zz zz z=>z.mono RR.Le.psh;cases b with
  | true=>exact au.fresh C R hf λ τ cl=>(aq vs 0 ⟨cl,x'⟩)
  | false=>exact au.fresh C R hf λ τ cl=>(aq vs 0 ⟨cl,x'⟩)
theorem E8(C:aQ c d)(R:au c ρ σ s)(x:IsL ρ l vs)(hl:l.length<=1000):W c (newTuple vs) (PE c ρ (mkS false l σ).2 (mkS false l σ).1) s:=
 ah (wpAny_newTuple (PE.mkS C R (b:=false) (k:=s.toks) x) (by refine ac x.len ?_;exact bY hl))
end
section
variable{α:Type}{R:α->Value->Prop}
theorem mW{l:List (List UInt8×β)}(q:x.1=k):(x::l).find? (λ y=>y.1=k)=some x:=List.find?_cons_of_pos (decide_eq_true q)
theorem sM{l:List (List UInt8×β)}(q:x.1≠k):(x::l).find? (λ y=>y.1=k)=l.find? λ y=>y.1=k:=List.find?_cons_of_neg λ z=>q (of_decide_eq_true z)
theorem qU{l:List (List UInt8×β)}(q:x.1=k):(x::l).filter (λ y=>decide (y.1≠k))=l.filter λ y=>decide (y.1≠k):=List.filter_cons_of_neg λ z=>(of_decide_eq_true z) q
theorem wP{l:List (List UInt8×β)}(q:x.1≠k):(x::l).filter (λ y=>decide (y.1≠k))=x::l.filter λ y=>decide (y.1≠k):=List.filter_cons_of_pos (decide_eq_true q)
noncomputable def Kw(R:α->Value->Prop)(kvs:List (List UInt8×Value))(k:List UInt8):Option α->Prop
 | none=>valueAt kvs k=none
 | some a=>∃v,valueAt kvs k=some v/\R a v
theorem fE.at_(k:List UInt8):∀{l:List (List UInt8×α)} {kvs:List (List UInt8×Value)},fE R l kvs->Kw R kvs k (bC k l):=by intro l_;induction l_ with
 | nil=>intro kvs h;refine ac (show kvs=[] from h) ?_;exact rfl
 | cons x l P9=>
  intro kvs h;(revert h;refine λ P3=>ao P3 λ y kvs' PZ Qb h=>?_;clear P3;obtain rfl:=PZ;obtain⟨e,r⟩:=Qb);have ih:=P9 h;unfold bC at ih ⊢;by_cases q:x.1=k
  ·refine ac (mW q)<|⟨y.2,by unfold valueAt;refine ac (mW (e.trans q)) ?_;rfl,r⟩
  ·refine ac (sM q) ?_;have e':valueAt (y::kvs') k=valueAt kvs' k:=by unfold valueAt;exact ac (sM (e▸q)) rfl
   revert ih;generalize Option.map (·.2) (l.find? λ y=>y.1=k)=z;intro ih;cases z with
   | none=>exact e'.trans ih
   | some a=>refine ag ih λ v g x=>?_;exact⟨v,e'.trans g,x⟩
theorem fE.keys:∀{l:List (List UInt8×α)} {kvs:List (List UInt8×Value)},fE R l kvs->kvs.map (·.1)=l.map (·.1):=by intro l_;induction l_ with
 | nil=>intro kvs h;refine ac (show kvs=[] from h) ?_;rfl
 | cons x l P9=>
  intro kvs h;(revert h;refine λ P3=>ao P3 λ y kvs' PZ Qb h=>?_;clear P3;obtain rfl:=PZ;obtain⟨e,_⟩:=Qb);exact ac List.map_cons (ac List.map_cons (ac e (ac (P9 h) rfl)))
theorem fE.emp(h:fE R l kvs):kvs.isEmpty=l.isEmpty:=by
 cases l with
 | nil=>exact congrArg List.isEmpty (show kvs=[] from h)
 | cons x l=>(refine aZ h λ y kvs' PZ zz=>?_;clear h;obtain rfl:=PZ);rfl
theorem fE.del(k:List UInt8):∀{l:List (List UInt8×α)} {kvs:List (List UInt8×Value)},fE R l kvs->fE R (bx k l) (without kvs k):=by intro l_;induction l_ with
 | nil=>intro kvs h;refine ac (show kvs=[] from h) ?_;exact rfl
 | cons x l P9=>
  intro kvs h;(revert h;refine λ P3=>ao P3 λ y kvs' PZ Qb h=>?_;clear P3;obtain rfl:=PZ;obtain⟨e,r⟩:=Qb);have ih:=P9 h;unfold bx without at ih ⊢;by_cases q:x.1=k
  ·refine ac (qU q) (ac (qU (e.trans q)) ?_);exact ih
  ·refine ac (wP q) (ac (wP (e▸q)) ?_);exact(aq y _ ⟨rfl,⟨e,r⟩,ih⟩)
theorem fE.sets(x:R a v):∀{l:List (List UInt8×α)} {kvs:List (List UInt8×Value)},fE R l kvs->fE R (l.map λ y=>if y.1=k then(y.1,a) else y) (kvs.map λ kv=>if kv.1=k then(kv.1,v) else kv):=by intro l_;induction l_ with
 | nil=>intro kvs h;refine ac (show kvs=[] from h) ?_;exact rfl
 | cons y l P9=>
  intro kvs h;(revert h;refine λ P3=>ao P3 λ z kvs' PZ Qb h=>?_;clear P3;obtain rfl:=PZ;obtain⟨e,r⟩:=Qb);refine(ay.k (?_) (P9 h));dsimp only;by_cases q:y.1=k
  ·refine ac (if_pos q) (ac (if_pos (e.trans q)) ?_);exact⟨e,x⟩
  ·refine ac (if_neg q) (ac (if_neg (e▸q)) ?_);exact⟨e,r⟩
theorem fE.put(h:fE R l kvs)(k:List UInt8)(x:R a v):fE R (bt k a l) (stored kvs k v):=by
 have any:kvs.any (λ kv=>kv.1=k)=l.any (λ kv=>kv.1=k):=by
  have:=congrArg (λ z:List (List UInt8)=>z.any λ y=>y=k) h.keys;rwa [List.any_map,List.any_map] at this
 unfold bt stored;refine ac any ?_;split
 ·exact fE.sets x h
 ·exact h.app (ay.k ⟨rfl,x⟩ rfl)
end
theorem xc(k:List UInt8)(l:List (List UInt8×α)):(bx k l).length<=l.length:=List.length_filter_le _ _
theorem vP(k:List UInt8)(a:α)(l:List (List UInt8×α)):(bt k a l).length<=l.length+1:=by
 unfold bt;split<;>simp
theorem rW(k:List UInt8)(a:α)(l:List (List UInt8×α)):(bt k a l).isEmpty=false:=by
 unfold bt;split
 ·rename_i h;cases l with|nil=>simp at h|cons=>rfl
 ·simp
theorem sq(k:List UInt8)(a:α):∀(l:List (List UInt8×α)),bC k (bt k a l)=some a:=by
 intro l;unfold bt;split
 ·rename_i h;induction l with
  | nil=>simp at h
  | cons x l ih=>
   refine ac List.map_cons ?_;unfold bC at ih ⊢;by_cases q:x.1=k
   ·refine ac (if_pos q) (ac (List.find?_cons_of_pos (by simpa using q)) ?_);rfl
   ·refine ac (if_neg q) (ac (List.find?_cons_of_neg (by simpa using q)) ?_);exact ih (by simpa [q] using h)
 ·rename_i h;unfold bC;rw[List.find?_append,List.find?_eq_none.mpr (λ x hx=>by
   have:=List.any_eq_false.mp (Bool.eq_false_iff.mpr h) x hx;exact this)]
  simp
theorem jP(a:α)(n:j≠k):∀(l:List (List UInt8×α)),bC j (bt k a l)=bC j l:=by
 intro l;unfold bt;split
 ·rename_i h;clear h;induction l with
  | nil=>rfl
  | cons x l ih=>
   refine ac List.map_cons ?_;unfold bC at ih ⊢;by_cases q:x.1=k
   ·refine ac (if_pos q) (ac (List.find?_cons_of_neg (by simpa [q] using Ne.symm n)) (ac (List.find?_cons_of_neg (by simpa [q] using Ne.symm n)) ?_));exact ih
   ·refine ac (if_neg q) ?_;by_cases r:x.1=j
    ·exact ac (List.find?_cons_of_pos (by simpa using r)) (ac (List.find?_cons_of_pos (by simpa using r)) rfl)
    ·refine ac (List.find?_cons_of_neg (by simpa using r)) (ac (List.find?_cons_of_neg (by simpa using r)) ?_);exact ih
 ·unfold bC;refine ac (List.find?_append) ?_;cases List.find? (λ x=>decide (x.1=j)) l with
  | none=>simp [Ne.symm n]
  | some=>rfl
theorem sr(k:List UInt8)(l:List (List UInt8×α)):bC k (bx k l)=none:=by
 unfold bC bx;refine ac (List.find?_eq_none.mpr (by simp)) ?_;rfl
theorem jQ(n:j≠k):∀(l:List (List UInt8×α)),bC j (bx k l)=bC j l:=by
 intro l;unfold bC bx;induction l with
 | nil=>rfl
 | cons x l ih=>
  by_cases q:x.1=k
  ·refine ac (List.filter_cons_of_neg (by simpa using q)) (ac (List.find?_cons_of_neg (by simpa [q] using Ne.symm n)) ?_);exact ih
  ·refine ac (List.filter_cons_of_pos (by simpa using q)) ?_;by_cases r:x.1=j
   ·exact ac (List.find?_cons_of_pos (by simpa using r)) (ac (List.find?_cons_of_pos (by simpa using r)) rfl)
   ·refine ac (List.find?_cons_of_neg (by simpa using r)) (ac (List.find?_cons_of_neg (by simpa using r)) ?_);exact ih
theorem iq(k:List UInt8):∀l,(o8 k l).Perm (k::l)
 | []=>.refl _
 | x::l=>by
  unfold o8;split
  ·exact((iq k l).cons x).trans (.swap k x l)
  ·exact .refl _
theorem bH:∀l,(bi l).Perm l
 | []=>.refl _
 | k::l=>(iq k _).trans ((bH l).cons k)
theorem wL(h:y∈o8 k l):y=k\/y∈l:=mC ((iq k l).mem_iff.mp h)
theorem o7(k:List UInt8):∀{l:List (List UInt8)},l.Pairwise (λ a b=>fH b a=false)->(o8 k l).Pairwise λ a b=>fH b a=false:=by intro l_;induction l_ with
 | nil=>intro _;unfold o8;simp
 | cons x l P9=>
  intro h;rw[List.pairwise_cons] at h;unfold o8;split
  ·rename_i q;refine List.pairwise_cons.mpr ⟨λ y hy=>?_,P9 h.2⟩;rcases wL hy with rfl|hy
   ·cases e:fH y x with
    | false=>rfl
    | true=>have:=fu q e;rw[ga] at this;exact ff this
   ·exact h.1 y hy
  ·rename_i q;have q:fH x k=false:=by simpa using q
   refine List.pairwise_cons.mpr ⟨λ y hy=>?_,List.pairwise_cons.mpr h⟩;rcases mC hy with rfl|hy
   ·exact q
   ·cases e:fH y k with
    | false=>rfl
    | true=>
     rcases mH (b:=x) e with z|z
     ·rw[h.1 y hy] at z;exact ff z
     ·rw[q] at z;exact ff z
theorem gN:∀l,(bi l).Pairwise λ a b=>fH b a=false
 | []=>.nil
 | k::l=>o7 k (gN l)
theorem oW(l:List (List UInt8)):bi l=iG l:=oA (bH l) (gN l)
section
open PySem.SeqAt (EqAt RcAt RcNeAt)
structure DV(ρ:RR)(o:AO)(kvs:List (List UInt8×Value)):Prop where
 get:∀k r,tS o k=some r->Kw (Is ρ) kvs k r
 emp:∀b,wb o=some b->kvs.isEmpty=b
 len:∀n,zN o=some n->kvs.length=n/\n<=50
 keys:∀ks,oM o=some ks->kvs.map (·.1)=ks/\kvs.length<=50
theorem jw{l:List (List UInt8×Value)}(h:t∉l.map (·.1)):valueAt l t=none:=by
 unfold valueAt;refine ac (List.find?_eq_none.mpr λ(x:List UInt8×Value) hx q=>h ((of_decide_eq_true q:x.1=t)▸List.mem_map_of_mem hx)) ?_;rfl
theorem iF{A B:List (List UInt8×Value)}(h:t∉A.map (·.1)):valueAt (A++(t,v)::B) t=some v:=by
 unfold valueAt;refine ac (List.find?_append) (ac (List.find?_eq_none.mpr λ(x:List UInt8×Value) hx q=>h ((of_decide_eq_true q:x.1=t)▸List.mem_map_of_mem hx)) (ac (mW (x:=(t,v)) rfl) ?_));rfl
theorem jU(h:bF w o (A++(t,v)::B)):t∉(A++B).map (·.1):=by
 have:=qM h;rw[List.map_append,List.map_cons] at this;refine ac List.map_append<|(List.nodup_cons.mp ((List.perm_middle.nodup_iff).mp this)).1
inductive DX(w:World)(ρ:RR)(h:Heap)(o:AO)(a:Addr):Prop
 | mk (kvs:List (List UInt8×Value)) (D:h.DictOf (bytesKind PySem.Challenge.rw_og0284_01.prog w) a kvs) (lo:(a==sysModules)=false) (V:DV ρ o kvs):DX w ρ h o a
theorem DX.el{P':Prop}(hh:DX w ρ h o a)(kk:∀(kvs:List (List UInt8×Value)) (D:h.DictOf (bytesKind PySem.Challenge.rw_og0284_01.prog w) a kvs) (lo:(a==sysModules)=false) (V:DV ρ o kvs),P'):P':=by
 obtain⟨kvs,D,lo,V⟩:=hh;exact kk kvs D lo V
section
variable{c:Cx}{d:Nat}{ρ:RR}{σ:St}{s:Shared}{a:AV}
theorem w9(x:fE (Is ρ) l kvs)(h1:∀k,tS o k=some (bC k l))(h2:wb o=some l.isEmpty)(h3:zN o=if l.length<=50 then some l.length else none)(h4:oM o=if l.length<=50 then some (l.map (·.1)) else none):DV ρ o kvs:=
 ⟨λ k r e=>sI ((h1 k).symm.trans e)▸fE.at_ k x,λ b e=>x.emp.trans (sI (h2.symm.trans e)),λ n e=>by
  refine ai (h3.symm.trans e) λ q e=>sI e▸⟨x.len,q⟩,λ ks e=>by
  refine ai (h4.symm.trans e) λ q e=>sI e▸⟨x.keys,x.len.symm▸q⟩⟩
theorem DX.of{a:Addr}(g:h.get? a=some ob)(D:bF c.w ob kvs)(lo:(a==sysModules)=false)(V:DV ρ o kvs):DX c.w ρ h o a:=⟨kvs,Heap.dictOf_iff.mpr ⟨ob,g,D⟩,lo,V⟩
theorem DT{τ:Addr->bo}{k:Nat}{o:AO}{a:Addr}(N:∀b k j,τ b=(k+2,j)->(b==sysModules)=false)(fx:∀b ob k,c.fx b ob k->h.get? b=some ob)(hd:gO o=true)(q:OR c.w c.fx h τ ρ (k+3) o a):DX c.w ρ h o a:=by
 cases o with
 | dic l=>
  refine ao q λ ob kvs cl D x=>.of cl.g D (N _ _ _ cl.t) (w9 x (λ zz=>rfl) rfl rfl rfl)
 | frd l=>
  (refine ao q λ ob kvs PZ D x=>?_;clear q;(refine aD PZ λ f lo=>?_;clear PZ));exact .of (fx _ _ _ f) D lo (w9 x (λ zz=>rfl) rfl rfl rfl)
 | dip n kn e em l=>
  refine bV q λ ob kvs cl D x K=>.of cl.g D (N _ _ _ cl.t) ⟨λ k r er=>?_,λ b eb=>x.emp.trans ?_,λ m en=>?_,λ ks ek=>?_⟩
  ·have e1:r=(bC k l).map ofP:=by
    refine(sI er).symm.trans (congrArg (Option.map ofP) ?_);cases f:kn.find? λ x=>x.1=k with
    | none=>rfl
    | some y=>
     have hk:y.1=k:=of_decide_eq_true (p:=y.1=k) (List.find?_some (p:=λ x:List UInt8×Option PV=>decide (x.1=k)) f);exact(K.kn _ (List.mem_of_find?_eq_some f)).symm.trans (congrArg (λ z=>bC z l) hk)
   have y:=fE.at_ k x;refine ac e1 ?_;cases f:bC k l with
   | none=>rw[f] at y;exact y
   | some p=>rw[f] at y;refine ag y λ v q1 q2=>?_;exact⟨v,q1,q2.ofP⟩
  ·cases e with
   | none=>exact sI eb
   | some b'=>exact(K.e b' rfl).trans (sI eb)
  ·refine ai en λ q e=>sI e▸⟨x.len,Nat.le_trans K.n q⟩
  ·refine ai ek λ q e=>?_;exact Option.some.inj e▸⟨x.keys,x.len.symm▸Nat.le_trans K.n q⟩
 | dir t y A B=>
  cases y with
  | none=>
   refine cM q λ ob cl l hn D=>?_;exact .of cl.g D (N _ _ _ cl.t) ⟨λ k r er=>by
    refine ai er λ e er=>?_;exact Option.some.inj er▸jw (e▸hn),λ b eb=>nn eb,λ m en=>nn en,λ ks ek=>nn ek⟩
  | some y=>
   (refine eZ q λ ob cl l v x D=>?_;clear q);refine .of cl.g D (N _ _ _ cl.t) ⟨λ k r er=>?_,λ b eb=>Option.some.inj eb▸?_,λ m en=>nn en,λ ks ek=>nn ek⟩
   ·refine ai er λ e er=>?_;have hm:=jU D;rw[List.map_append] at hm;exact Option.some.inj er▸⟨v,by refine ac e ?_;exact iF λ z=>hm (List.mem_append_left _ z),x⟩
   ·cases A<;>rfl
 | _=>exact(Bool.false_ne_true hd).elim
theorem au.dic(R:au c ρ σ s)(e:σ.obs[i]?=some o)(x:Is ρ (.obj i) v)(hd:gO o=true):∃a,v=.ref a/\DX c.w ρ s.heap o a:=by
 (refine rC.el (R.obj e x) λ τ a PZ q n fx=>?_;(clear x;obtain rfl:=PZ));exact⟨a,rfl,DT n fx hd q⟩
theorem jj:tS o k=some r->gO o=true:=by cases o<;>first|exact λ h=>nn h|exact λ zz=>rfl
theorem zW:zN o=some n->gO o=true:=by cases o<;>first|exact λ h=>nn h|exact λ zz=>rfl
theorem sD:oM o=some n->gO o=true:=by cases o<;>first|exact λ h=>nn h|exact λ zz=>rfl
theorem Aj:wb o=some b->gO o=true:=by cases o<;>first|exact λ h=>nn h|exact λ zz=>rfl
noncomputable def H9(a:Addr)(l:List AV):Prop:=∀w:World,∃vs n,(hd.heap_39 w.params).lookup a=some (yF vs n)/\∀ρ,IsL ρ l vs
noncomputable def fM(T:bq):Prop:=∀a l,T.tup.lookup a=some l->H9 a l
inductive SX(ρ:RR)(h:Heap)(x:Bool×List AV)(v:Value):Prop
 | mk (t:Addr) (vs:List Value) (n:Nat) (e:v=.ref t) (g:h.get? t=some (rQ x.1 vs n)) (l:IsL ρ x.2 vs):SX ρ h x v
theorem SX.el{P':Prop}(hh:SX ρ h x v)(kk:∀(t:Addr) (vs:List Value) (n:Nat) (e:v=.ref t) (g:h.get? t=some (rQ x.1 vs n)) (l:IsL ρ x.2 vs),P'):P':=by
 obtain⟨t,vs,n,e,g,l⟩:=hh;exact kk t vs n e g l
theorem cy(hT:fM T)(C:aQ c d)(R:au c ρ σ s)(y:Is ρ v val)(h:dK T σ.obs v=some x):SX ρ s.heap x val:=by
 cases v with
 | obj i=>
  refine ae h λ o e h=>?_;(refine rC.el (R.obj e y) λ τ a PZ q n fx=>?_;obtain rfl:=PZ);cases o with
  | lst l=>refine aZ q λ vs n cl x=>?_;exact sI h▸⟨a,vs,n,rfl,cl.g,x⟩
  | tup l=>refine aZ q λ vs n cl x=>?_;exact sI h▸⟨a,vs,n,rfl,cl.g,x⟩
  | frz b l=>refine aZ q λ vs n cl x=>?_;exact sI h▸⟨a,vs,n,rfl,fx _ _ _ cl,x⟩
  | _=>exact nn h
 | val u=>
  refine ae h λ b hb h=>?_;(refine aF h λ l hl PZ=>?_;obtain rfl:=PZ);refine aZ (hT b l hl c.w) λ vs n g x=>⟨b,vs,n,(show val=u from y).trans (qt hb),R.X C _ _ g,x ρ⟩
 | pv p=>
  (refine aF h λ x hx PZ=>?_;obtain rfl:=PZ);(replace hx:=qq hx;obtain rfl:=hx);(revert y;refine λ P3=>aA P3 λ n y=>?_;clear P3);cases n with
  | zero=>exact y.elim
  | succ n=>
   (revert y;refine λ P3=>aP P3 λ a m vs Qb q y=>?_;clear P3;obtain rfl:=Qb);exact⟨a,vs,m,rfl,R.cel q,bA.ofs (y.imp λ zz zz z=>z.is)⟩
 | _=>exact nn h
theorem pJ:∀{l m:List PV},nT f l m=true->l.length=m.length:=by intro l_;induction l_ with
 | nil=>intro m h;exact congrArg List.length (iE h).symm
 | cons p l P9=>
  intro m h;cases m with
  | nil=>exact(Bool.false_ne_true h).elim
  | cons q m=>exact congrArg Nat.succ (P9 ((Bool.and_eq_true _ _).mp h).2)
noncomputable def Lk(z:Fz)(s:Shared)(n:Nat):Prop:=∀{p q:PV} {A:Around} {u v:Value},eH n p q=true->A.units+n<cLine->bA z p u->bA z q v->EqAt A s u v true
theorem jB(H:Lk z s n)(hu:A.units+n<cLine):∀{l m:List PV} {us vs:List Value},nT (eH n) l m=true->ay (bA z) l us->ay (bA z) m vs->∀(j:Nat) (h1:j<us.length) (h2:j<vs.length),EqAt A s us[j] vs[j] true:=by intro l_;induction l_ with
 | nil=>intro m us vs _ x _ j h1 _;rw[show us=[] from x] at h1;exact absurd h1 (Nat.not_lt_zero _)
 | cons p l P9=>
  intro m us vs h x y j h1 h2;cases m with
  | nil=>exact(Bool.false_ne_true h).elim
  | cons q m=>
   refine af h λ h h'=>?_;(revert x;refine λ P3=>ao P3 λ u us' PZ xu x=>?_;clear P3;obtain rfl:=PZ);(revert y;refine λ P3=>ao P3 λ v vs' PZ yv y=>?_;clear P3;obtain rfl:=PZ);cases j with
   | zero=>exact H h hu xu yv
   | succ j=>exact P9 h' x y j (Nat.lt_of_succ_lt_succ h1) (Nat.lt_of_succ_lt_succ h2)
theorem vG(n:Nat):((List.range n).all λ zz=>true)=true:=List.all_eq_true.mpr λ zz zz=>rfl
theorem vA(g1:s.heap.get? t=some (rQ b us n))(g2:s.heap.get? t'=some (rQ b vs n'))(hl:us.length=vs.length)(hu:A.units+1<cLine)
  (it:∀(j:Nat) (h1:j<us.length) (h2:j<vs.length),EqAt A.in1 s us[j] vs[j] true):RcAt A s (.ref t) (.ref t') true/\RcNeAt A s (.ref t) (.ref t') false:=by
 have it':∀(j:Nat) (h1:j<us.toArray.size) (h2:j<vs.toArray.size),EqAt A.in1 s us.toArray[j] vs.toArray[j] true:=λ j h1 h2=>it j h1 h2;cases b with
 | true=>
  have l1:s.heap.IsList t us.toArray:=⟨_,g1,rfl,n,rfl⟩
  have l2:s.heap.IsList t' vs.toArray:=⟨_,g2,rfl,n',rfl⟩
  have x:=RcAt.lists (A:=A) (e:=λ zz=>true) l1 l2 hl (by lia) it';have y:=RcNeAt.lists (A:=A) (e:=λ zz=>true) l1 l2 hl (by lia) it';rw[vG] at x y;exact⟨x,y⟩
 | false=>
  have l1:s.heap.IsTuple t us.toArray:=⟨_,g1,rfl,n,rfl⟩
  have l2:s.heap.IsTuple t' vs.toArray:=⟨_,g2,rfl,n',rfl⟩
  have x:=RcAt.tuples (A:=A) (e:=λ zz=>true) l1 l2 (by lia) it';have y:=RcNeAt.tuples (A:=A) (e:=λ zz=>true) l1 l2 (by lia) it';rw[vG,show(us.toArray.size==vs.toArray.size)=true from beq_iff_eq.mpr hl] at x y;exact⟨x,y⟩
end
end
section
open PySem.SeqAt (EqAt RcAt RcNeAt)
section
variable{c:Cx}{d:Nat}{ρ:RR}{σ:St}{s:Shared}{a b:AV}{u v:Value}{T:bq}{r:Bool}
theorem zu(hc:∀a o,z.cel a o->s.heap.get? a=some o):∀n,Lk z s n:=by
 intro n;induction n with
 | zero=>intro p q A u v h;exact(Bool.false_ne_true h).elim
 | succ n ih=>
  intro p q A u v h hu x y;(revert x;refine λ P3=>aA P3 λ m x=>?_;clear P3);(revert y;refine λ P3=>aA P3 λ k y=>?_;clear P3);cases m with
  | zero=>exact x.elim
  | succ m=>
   cases k with
   | zero=>exact y.elim
   | succ k=>
    cases p with
    | byt a=>
     cases q with
     | byt b=>
      (refine aA x λ t P2=>?_;clear x;obtain rfl:=P2);(refine aA y λ t' P2=>?_;clear y;obtain rfl:=P2);refine ac (show a=b from beq_iff_eq.mp h)<|λ prog w E Q h=>PySem.W.eqBool_bytes (by refine ac (decide_eq_true rfl) ?_;exact h)
     | _=>exact(Bool.false_ne_true h).elim
    | boo a=>
     cases q with
     | boo b=>
      refine ac (show u=.bool a from x) (ac (show v=.bool b from y) (ac (show a=b from beq_iff_eq.mp h) ?_));exact EqAt.same _
     | _=>exact(Bool.false_ne_true h).elim
    | non=>
     cases q with
     | non=>
      refine ac (show u=.none from x) (ac (show v=.none from y) ?_);exact EqAt.same _
     | _=>exact(Bool.false_ne_true h).elim
    | seq b l=>
     cases q with
     | seq b' l'=>
      refine af h λ hb hs=>?_;(refine aP x λ a j us Qb xm xl=>?_;clear x;obtain rfl:=Qb);(refine aP y λ a' j' vs Qb ym yl=>?_;clear y;obtain rfl:=Qb);(replace hb:=beq_iff_eq.mp hb;obtain rfl:=hb);by_cases hne:a=a'
      ·refine ac hne ?_;exact EqAt.same _
      ·have hu':A.units+(n+1)<cLine:=hu;exact EqAt.of_refs hne (vA (hc _ _ xm) (hc _ _ ym) (ac xl.len (ac yl.len (ac (pJ hs) rfl))) (by lia) (jB ih (by refine(?_:A.units+1+n<_);lia) hs (xl.imp λ zz zz z=>z.is) (yl.imp λ zz zz z=>z.is))).1
     | _=>exact(Bool.false_ne_true h).elim
    | _=>exact(Bool.false_ne_true h).elim
noncomputable def KP(ne r:Bool):Bool:=if ne then !r else r
noncomputable def KO(ne:Bool):CmpOp:=if ne then .NotEq else .Eq
theorem lJ(hT:fM T)(C:aQ c d)(R:au c ρ σ s)(y:Is ρ a u)(h:dg T σ.obs a=some x):∃t vs n,u=.ref t/\s.heap.get? t=some (rQ x.1 vs n)/\ay (bA ρ.z) x.2 vs:=by
 refine ae h λ x hx h=>?_;(refine aF h λ l hl PZ=>?_;obtain rfl:=PZ);refine SX.el (cy hT C R y hx) λ t vs n e g y=>(aI t vs n ⟨e,g,IsL.plain y hl⟩)
theorem Ff(hT:fM T)(C:aQ c d)(R:au c ρ σ s)(x:Is ρ a u)(y:Is ρ b v)(h1:dg T σ.obs a=some p)(h2:dg T σ.obs b=some q)(h:IO p q=some r)(k:Q (.bool (KP ne r)) s):W c (compareOp (KO ne) u v) Q s:=by
 refine ai h λ h' e=>?_;(clear h;replace e:=sI e;obtain rfl:=e);refine af h' λ hb hs=>?_;(refine aP (lJ hT C R x h1) λ t us n Qb g1 xl=>?_;(clear x;obtain rfl:=Qb));(refine aP (lJ hT C R y h2) λ t' vs n' Qb g2 yl=>?_;(clear y;obtain rfl:=Qb));rw[← beq_iff_eq.mp hb] at g2;have hu:c.A.units+20<cLine:=by have:=C.hu;refine(?_:c.un+20<_);lia
 have E:=vA (A:=c.A) g1 g2 (ac xl.len (ac yl.len (ac (pJ hs) rfl))) (by lia) (jB (zu (λ zz zz=>R.cel) 10) (by refine(?_:c.A.units+1+10<_);lia) hs xl yl);cases ne with
 | false=>exact ah (E.1 _ _ _ _ k)
 | true=>exact ah (E.2 _ _ _ _ k)
theorem A8(hT:fM T)(C:aQ c d)(R:au c ρ σ s)(x:Is ρ a u)(y:Is ρ b v)(h:IN T σ.obs ne a b=some r)(k:Q (.bool (KP ne r)) s):W c (compareOp (KO ne) u v) Q s:=by
 rcases aY h with h|h
 ·refine ae h λ p hp h=>?_;rw[a7 hp] at x;(refine aA x λ t P2=>?_;clear x;obtain rfl:=P2);rcases aY h with h|h
  ·(refine aF h λ q hq PZ=>?_;obtain rfl:=PZ);rw[a7 hq] at y;(refine aA y λ t' P2=>?_;clear y;obtain rfl:=P2);cases ne with
   | false=>exact ah (eq_bytes k)
   | true=>exact ah (ne_bytes k)
  ·refine ai h λ h1 e=>af h1 λ h2 hn=>?_;obtain rfl:=sI e;rw[gc h2] at y;refine ac (show v=.none from y) ?_;cases ne with
   | false=>exact ah (lf k)
   | true=>exact(Bool.false_ne_true hn).elim
 ·rcases aY h with h|h
  ·refine ai h λ ha h=>?_;rw[gc ha] at x;refine ac (show u=.none from x) ?_;cases ne with
   | false=>
    (refine aF h λ q hq PZ=>?_;obtain rfl:=PZ);rw[a7 hq] at y;(refine aA y λ t' P2=>?_;clear y;obtain rfl:=P2);exact ah (fS _ _ _ _ _ _ k)
   | true=>
    refine ai h λ hb e=>?_;(replace e:=sI e;obtain rfl:=e);rw[gc hb] at y;refine ac (show v=.none from y)<|ah (RcNeAt.none_none _ _ _ _ k)
  ·rcases aY h with h|h
   ·cases ne with
    | true=>exact nn h
    | false=>
     refine ae h λ p hp h=>?_;(refine aF h λ q hq PZ=>?_;obtain rfl:=PZ);rw[fb hp] at x;rw[fb hq] at y;refine ac (show u=.bool p from x) (ac (show v=.bool q from y) ?_);exact ah (eq_bool k)
   ·rcases aY h with h|h
    ·refine ae h λ l hl h=>ae hl λ o' ho' hl=>ai h λ he h1=>ae h1 λ o ho h2=>?_;(refine ag (cT ho) λ i P2 ei=>?_;(clear h1 ho;obtain rfl:=P2));(refine ag (cT ho') λ j P2 ej=>?_;(clear ho';obtain rfl:=P2));(refine ag (R.dic ei x (Aj h2)) λ xa P2 PZ=>?_;obtain rfl:=P2;(refine DX.el PZ λ kvs D lo V=>?_;clear PZ));have hd:gO o'=true/\wb o'=some true:=by
      cases o' with
      | dic l'=>obtain rfl:=sI hl;exact⟨rfl,congrArg some he⟩
      | frd l'=>obtain rfl:=sI hl;exact⟨rfl,congrArg some he⟩
      | _=>exact nn hl
     (refine ag (R.dic ej y hd.1) λ xb P2 PZ=>?_;obtain rfl:=P2;(refine DX.el PZ λ kvs' D' lo' V'=>?_;clear PZ));rw[iE (V'.emp _ hd.2)] at D';have hu:c.A.units<cLine:=by have:=C.hu;refine(?_:c.un<_);lia
     cases ne with
     | false=>exact ah (J7 D D' lo lo' hu (V.emp _ h2) k)
     | true=>exact ah (J5 D D' lo lo' hu (V.emp _ h2) k)
    ·refine ae h λ p hp h=>ae h λ q hq h=>Ff hT C R x y hp hq h k
noncomputable def w0(z:AV)(y:Value):Bool:=match z with
 | .byt x=>(match y with|.bytes b _=>decide (b.toList=x)|_=>false)
 | .int k=>(match y with|.int j _=>j==k|_=>false)
 | _=>false
theorem yQ(x:Is ρ z v)(y:Is ρ a u)(h:BU z a=some r):EqAt c.A.in1 s u v (w0 z u)/\w0 z u=r:=by
 rcases aY h with h|h
 ·refine ae h λ p hp h=>?_;rw[a7 hp] at x ⊢;(refine aA x λ t P2=>?_;clear x;obtain rfl:=P2);rcases aY h with h|h
  ·(refine aF h λ q hq PZ=>?_;obtain rfl:=PZ);rw[a7 hq] at y;(refine aA y λ t' P2=>?_;clear y;obtain rfl:=P2);exact⟨λ prog w E Q h=>PySem.W.eqBool_bytes h,rfl⟩
  ·refine ai h λ h1 e=>?_;(replace e:=sI e;obtain rfl:=e);rw[gc h1] at y;refine ac (show u=.none from y)<|⟨j2 _ _,rfl⟩
 ·refine ae h λ p hp h=>?_;(refine aF h λ q hq PZ=>?_;obtain rfl:=PZ);rw[bI hp] at x ⊢;rw[bI hq] at y;(refine aA x λ t P2=>?_;clear x;obtain rfl:=P2);(refine aA y λ t' P2=>?_;clear y;obtain rfl:=P2);exact⟨EqAt.int_int _ _ _ _,rfl⟩
theorem Ci(x:Is ρ z v):∀{l:List AV} {us:List Value} {r:Bool},IsL ρ l us->Er z l=some r->(∀y∈us,EqAt c.A.in1 s y v (w0 z y))/\us.any (w0 z)=r:=by intro l_;induction l_ with
 | nil=>intro us r y h;refine ac (show us=[] from y) ?_;exact⟨λ zz q=>(List.not_mem_nil q).elim,sI h⟩
 | cons a l P9=>
  intro us r y h;(revert y;refine λ P3=>ao P3 λ u us PZ y ys=>?_;clear P3;obtain rfl:=PZ);refine ae h λ r1 h1 h=>?_;(refine aF h λ r2 h2 PZ=>?_;obtain rfl:=PZ);refine aD (P9 ys h2) λ i1 i2=>aD (yQ (c:=c) (s:=s) x y h1) λ o1 o2=>⟨λ w hw=>(mC hw).elim (λ e=>e▸o1) (i1 w),by exact ac List.any_cons (ac o2 (ac i2 rfl))⟩
theorem IY(hT:fM T)(C:aQ c d)(R:au c ρ σ s)(x:Is ρ a u)(y:Is ρ b v)(h:KY T σ.obs a b=some r)(k:∀tk,Q (.bool r) {s with toks:=tk}):W c (compareOp .In u v) Q s:=by
 rcases aY h with h|h
 ·refine ae h λ p hp h=>ae h λ q hq h=>?_;(refine aD (ji h) λ Qc e=>?_;(refine aD Qc λ h1 h2=>?_;clear Qc));rw[bI hp] at x;rw[a7 hq] at y;(refine aA x λ t P2=>?_;clear x;obtain rfl:=P2);(refine aA y λ t' P2=>?_;clear y;obtain rfl:=P2);exact ah (pa h1 h2 (by refine ac List.contains_toArray ?_;exact sI e) (k _))
 ·rcases aY h with h|h
  ·refine ae h λ p hp h=>ae h λ o ho h=>?_;(refine aF h λ w hw PZ=>?_;obtain rfl:=PZ);rw[a7 hp] at x;(refine aA x λ t P2=>?_;clear x;obtain rfl:=P2);(refine ag (cT ho) λ j P2 ej=>?_;(clear ho;obtain rfl:=P2));(refine ag (R.dic ej y (jj hw)) λ xb P2 PZ=>?_;obtain rfl:=P2;(refine DX.el PZ λ kvs D lo V=>?_;clear PZ));have z:=V.get _ _ hw;cases w with
   | none=>exact ah (DZ D lo z (k _))
   | some w=>refine ag z λ w' h2 zz=>?_;exact ah (Ap D lo h2 (k _))
  ·refine ae h λ q hq h=>ai h λ zz h=>?_;(refine SX.el (cy hT C R y hq) λ t vs n Qb g l=>?_;obtain rfl:=Qb);refine aD (Ci (c:=c) (s:=s) x l h) λ h1 h2=>?_;have k':Q (.bool (vs.toArray.any (w0 a))) s:=by refine ac List.any_toArray (ac h2 ?_);exact k s.toks
   obtain⟨b,l⟩:=q;cases b with
   | true=>exact ah (PySem.SeqAt.in_listAt _ ⟨_,g,rfl,n,rfl⟩ (λ y hy=>h1 y (List.mem_toArray.mp hy)) k')
   | false=>exact ah (PySem.SeqAt.in_tupleAt _ ⟨_,g,rfl,n,rfl⟩ (λ y hy=>h1 y (List.mem_toArray.mp hy)) k')
theorem yL(R:au c ρ σ s)(x:Is ρ a u)(y:Is ρ b v)(h:wc σ.obs a b=some r)(k:∀tk,Q (.bool (!r)) {s with toks:=tk}):W c (compareOp .NotIn u v) Q s:=by
 rcases aY h with h|h
 ·refine ae h λ p hp h=>ae h λ q hq h=>?_;(refine aD (ji h) λ Qc e=>?_;(refine aD Qc λ h1 h2=>?_;clear Qc));rw[bI hp] at x;rw[a7 hq] at y;(refine aA x λ t P2=>?_;clear x;obtain rfl:=P2);(refine aA y λ t' P2=>?_;clear y;obtain rfl:=P2);exact ah (jK h1 h2 (by refine ac List.contains_toArray ?_;exact sI e) (k _))
 ·refine ae h λ p hp h=>ae h λ o ho h=>?_;(refine aF h λ w hw PZ=>?_;obtain rfl:=PZ);rw[a7 hp] at x;(refine aA x λ t P2=>?_;clear x;obtain rfl:=P2);(refine ag (cT ho) λ j P2 ej=>?_;(clear ho;obtain rfl:=P2));(refine ag (R.dic ej y (jj hw)) λ xb P2 PZ=>?_;(clear y;obtain rfl:=P2);(refine DX.el PZ λ kvs D lo V=>?_;clear PZ));have z:=V.get _ _ hw;cases w with
  | none=>exact ah (uk D lo z (k _))
  | some w=>refine ag z λ w' h2 zz=>?_;exact ah (rg D lo h2 (k _))
inductive Kt(r:Bool)(v:Value):Prop
 | y (e:r=true) (v:v=.none)
 | i (e:r=false) (k:Int) (t:Tok) (v:v=.int k t)
 | b (e:r=false) (k:Array UInt8) (t:Tok) (v:v=.bytes k t)
 | w (e:r=false) (k:Bool) (v:v=.bool k)
 | r (e:r=false) (k:Addr) (v:v=.ref k)
theorem jX(x:Is ρ a v):qO a=some r->Kt r v:=by
 cases a with
 | non=>exact λ h=>.y (sI h).symm x
 | int=>(refine aA x λ t e=>?_;clear x);exact λ h=>.i (sI h).symm _ _ e
 | byt=>(refine aA x λ t e=>?_;clear x);exact λ h=>.b (sI h).symm _ _ e
 | boo=>exact λ h=>.w (sI h).symm _ x
 | obj=>refine ag x λ t e zz=>?_;exact λ h=>.r (sI h).symm _ e
 | pv p=>
  (revert x;refine λ P3=>aA P3 λ n x=>?_;clear P3);cases n with
  | zero=>exact x.elim
  | succ n=>
   cases p with
   | seq=>refine bw x λ t zz zz e zz=>?_;exact λ h=>.r (sI h).symm _ e
   | bnd=>refine ag x λ t e zz=>?_;exact λ h=>.r (sI h).symm _ e
   | _=>exact λ h=>nn h
 | _=>exact λ h=>nn h
theorem E5(h:F9 op x y=some r)(k:Q (.bool r) s):W c (compareOp op (.int x t) (.int y t')) Q s:=by
 cases op with
 | Eq=>exact ah (eq_int (sI h▸k))
 | NotEq=>exact ah (ne_int (sI h▸k))
 | Lt=>exact ah (lt_int (sI h▸k))
 | LtE=>exact ah (le_int (sI h▸k))
 | Gt=>exact ah (gt_int (sI h▸k))
 | GtE=>exact ah (ge_int (sI h▸k))
 | _=>exact nn h
theorem uS(x:Is ρ a u)(y:Is ρ b v)(h:IP op a b=some r)(k:∀tk,Q (.bool r) {s with toks:=tk}):W c (compareOp op u v) Q s:=by
 refine ae h λ p hp h=>ae h λ q hq h=>?_;rw[bI hp] at x;rw[bI hq] at y;(refine aA x λ t P2=>?_;clear x;obtain rfl:=P2);(refine aA y λ t' P2=>?_;clear y;obtain rfl:=P2);exact E5 h (k s.toks)
theorem lF(hT:fM T)(C:aQ c d)(R:au c ρ σ s)(x:Is ρ a u)(y:Is ρ b v)(h:eO T σ.obs op a b=some r)(k:∀tk,Q (.bool r) {s with toks:=tk}):W c (compareOp op u v) Q s:=by
 cases op with
 | Is=>
  refine ai h λ hb h=>?_;rw[gc hb] at y;refine ac (show v=.none from y) ?_;rcases jX x h with ⟨rfl,rfl⟩|⟨rfl,_,_,rfl⟩|⟨rfl,_,_,rfl⟩|⟨rfl,_,rfl⟩|⟨rfl,_,rfl⟩
  ·exact ah (is_none_none (k s.toks))
  ·exact ah (is_int_none (k s.toks))
  ·exact ah (is_bytes_none (k s.toks))
  ·exact ah (is_bool_none (k s.toks))
  ·exact ah (is_ref_none (k s.toks))
 | IsNot=>
  refine ai h λ hb h1=>?_;(refine aF h1 λ r' h2 PZ=>?_;obtain rfl:=PZ);rw[gc hb] at y;refine ac (show v=.none from y) ?_;rcases jX x h2 with ⟨rfl,rfl⟩|⟨rfl,_,_,rfl⟩|⟨rfl,_,_,rfl⟩|⟨rfl,_,rfl⟩|⟨rfl,_,rfl⟩
  ·exact ah (isnot_none_none (k s.toks))
  ·exact ah (isnot_int_none (k s.toks))
  ·exact ah (isnot_bytes_none (k s.toks))
  ·exact ah (isnot_bool_none (k s.toks))
  ·exact ah (isnot_ref_none (k s.toks))
 | In=>exact IY hT C R x y h k
 | NotIn=>
  (refine aF h λ r' h1 PZ=>?_;obtain rfl:=PZ);exact yL R x y h1 k
 | Eq=>exact(aY h).elim (λ h=>uS x y h k) λ h=>A8 (ne:=false) hT C R x y h (k s.toks)
 | NotEq=>
  rcases aY h with h|h
  ·exact uS x y h k
  ·(refine aF h λ r' h1 PZ=>?_;obtain rfl:=PZ);exact A8 (ne:=true) hT C R x y h1 (k s.toks)
 | _=>exact uS x y h k
end
end
section
variable{c:Cx}{d:Nat}{ρ:RR}{σ:St}{s:Shared}{a b r:AV}{u v:Value}{T:bq}
theorem g8(x:Is ρ a u)(y:Is ρ b v)(h:xU f a b=some r):∃k t k' t',u=.int k t/\v=.int k' t'/\r=.int (f k k'):=by
 refine ae h λ p hp h=>?_;(refine aF h λ q hq PZ=>?_;obtain rfl:=PZ);rw[bI hp] at x;rw[bI hq] at y;(refine aA x λ t e=>?_;clear x);(refine aA y λ t' e'=>?_;clear y);exact(cK p t q t' ⟨e,e',rfl⟩)
theorem yb:Kn a=some q->a=.num q.1 q.2:=by cases a<;>first|exact λ h=>nn h|exact λ h=>congrArg (λ q:Nat×List ((Nat×Nat)×Nat)=>AV.num q.1 q.2) (sI h)
theorem aN{α β:Type}[BEq α][LawfulBEq α]{a:α}{b:β}:∀{l:List (α×β)},l.lookup a=some b->(a,b)∈l:=by intro l_;induction l_ with
 | nil=>intro h;exact nn h
 | cons x_ l P9=>
  intro h;obtain⟨x,y⟩:=x_;rw[List.lookup_cons] at h;cases q:a==x with
  | true=>rw[q] at h;refine ac (eq_of_beq q) (ac (sI h) ?_);exact .head _
  | false=>rw[q] at h;exact .tail _ (P9 h)
theorem Fo(R:au c ρ σ s)(x:Is ρ a u)(y:Is ρ b v)(h:Hl op a b=some r):W c (binaryOp op u v) (PE c ρ σ r) s:=by
 cases op with
 | Add=>
  rcases aY h with h|h
  ·(refine fA (g8 x y h) λ zz zz zz zz QS QV Re=>?_;obtain rfl:=QS;obtain rfl:=QV;obtain rfl:=Re);exact ah (add_int (.here (R.toks _) ⟨_,rfl⟩))
  ·refine ae h λ p hp h1=>?_;refine ae h1 λ q hq h2=>?_;refine ai h2 λ hz e=>?_;rw[a7 hp] at x;rw[a7 hq] at y;(refine aA x λ t P2=>?_;clear x;obtain rfl:=P2);(refine aA y λ t' P2=>?_;clear y;obtain rfl:=P2);obtain rfl:=sI e;exact ah (KBy.add_bytes (Nat.le_trans hz (by decide)) λ t' k=>.here (R.toks k) ⟨t',by exact ac (List.append_toArray _ _) rfl⟩)
 | Sub=>
  (refine fA (g8 x y h) λ zz zz zz zz QS QV Re=>?_;obtain rfl:=QS;obtain rfl:=QV;obtain rfl:=Re);exact ah (sub_int (.here (R.toks _) ⟨_,rfl⟩))
 | BitAnd=>
  (refine fA (g8 x y h) λ zz zz zz zz QS QV Re=>?_;obtain rfl:=QS;obtain rfl:=QV;obtain rfl:=Re);exact ah (and_int (.here (R.toks _) ⟨_,rfl⟩))
 | BitOr=>
  (refine fA (g8 x y h) λ zz zz zz zz QS QV Re=>?_;obtain rfl:=QS;obtain rfl:=QV;obtain rfl:=Re);exact ah (or_int (.here (R.toks _) ⟨_,rfl⟩))
 | FloorDiv=>
  refine ae h λ p hp h1=>ae h1 λ k hq h2=>?_;(refine aD (ji h2) λ Qc e=>?_;(refine cg Qc λ h3 h4 h5=>?_;clear Qc));rw[yb hp] at x;rw[bI hq] at y;(refine aZ x λ n t PZ hf=>?_;clear x;obtain rfl:=PZ);(refine aA y λ t' P2=>?_;clear y;obtain rfl:=P2);obtain rfl:=sI e;(refine aA (Int.eq_ofNat_of_zero_le (Int.le_of_lt h4)) λ k P2=>?_;(clear h5;obtain rfl:=P2));refine ah (floordiv_int (Int.ne_of_gt h4) (.here (R.toks _) (aq n s.toks ⟨?_,hf⟩)) (.inl (PyProof.noPylong_small (by lia))));refine ac h3 (ac (Nat.div_one _) (ac (Int.fdiv_eq_ediv_of_nonneg _ (Int.natCast_nonneg _)) ?_));rfl
 | Mod=>
  rcases aY h with h|h
  ·refine ae h λ p hp h1=>ae h1 λ k hq h2=>ai h2 λ h4 h3=>?_;(refine aF h3 λ j hj PZ=>?_;(clear h3;obtain rfl:=PZ));rw[yb hp] at x;rw[bI hq] at y;(refine aZ x λ n t PZ hf=>?_;clear x;obtain rfl:=PZ);(refine aA y λ t' P2=>?_;clear y;obtain rfl:=P2);(refine aA (Int.eq_ofNat_of_zero_le (Int.le_of_lt h4)) λ k P2=>?_;obtain rfl:=P2);refine ah (mod_int' (Int.ne_of_gt h4) (.here (R.toks _) ⟨s.toks,?_⟩));have q:n/p.1%(k:Int).toNat=j:=hf _ (aN hj);refine ac (Int.fmod_eq_emod_of_nonneg _ (Int.natCast_nonneg _)) (bP q ?_);rfl
  ·refine ae h λ k hp h1=>ae h1 λ m hq h2=>ai h2 λ h4 e=>?_;rw[bI hp] at x;rw[bI hq] at y;(refine aA x λ t P2=>?_;clear x;obtain rfl:=P2);(refine aA y λ t' P2=>?_;clear y;obtain rfl:=P2);(clear h1 h2;replace e:=sI e;obtain rfl:=e);exact ah (mod_int' (Int.ne_of_gt h4) (.here (R.toks _) ⟨s.toks,by exact ac (Int.fmod_eq_emod_of_nonneg _ (Int.le_of_lt h4)) rfl⟩))
 | _=>exact nn h
theorem ay.ne(h:ay R l m)(e:(!l.isEmpty)=true):¬m.toArray.isEmpty=true:=by
 cases l with
 | nil=>exact(Bool.false_ne_true e).elim
 | cons x l=>(refine aZ h λ y m PZ zz=>?_;clear h;obtain rfl:=PZ);exact λ q=>Bool.false_ne_true (q:false=true)
theorem Ce{r:AV×St}(hT:fM T)(C:aQ c d)(R:au c ρ σ s)(x:Is ρ a u)(y:Is ρ b v)(h:Hb T op a b σ=some r):W c (binaryOp op u v) (PE c ρ r.2 r.1) s:=by
 cases op with
 | Add=>
  refine ae h λ p hp h1=>ae h1 λ q hq h2=>?_;(refine aD (ji h2) λ Qc h6=>?_;(refine cg Qc λ h3 h4 h5=>?_;clear Qc));(refine SX.el (cy hT C R x hp) λ t us n Qb g1 y1=>?_;(clear x;obtain rfl:=Qb));(refine SX.el (cy hT C R y hq) λ t' vs n' Qb g2 y2=>?_;(clear y;obtain rfl:=Qb));have hz:us.toArray.size+vs.toArray.size<=sizeLine:=by refine ac List.size_toArray (ac List.size_toArray (ac y1.len (ac y2.len ?_)));exact bY h4
  obtain⟨pb,pl⟩:=p;obtain⟨qb,ql⟩:=q;obtain rfl:pb=qb:=h3;have z:=y1.app y2;cases pb with
  | true=>
   rw[if_pos rfl] at h6;(refine aF h6 λ ps hps PZ=>?_;(clear h1 h2;obtain rfl:=PZ));refine lA.el R.led λ m nw F N k k'=>ah (add_arrays F N ⟨_,g1,rfl,n,rfl⟩ ⟨_,g2,rfl,n',rfl⟩ (λ h' F' N'=>⟨_,RR.Le.ice,k' h' s.toks _ _ F' N' λ p hp=>Heap.lt_size (N p hp).1,?_⟩) hz);obtain⟨j,w⟩:=bA.all (IsL.plain (z.imp λ zz zz q=>q.mono RR.Le.ice) hps);exact⟨j+1,_,0,_,rfl,.inr ⟨rfl,rfl⟩,w⟩
  | false=>
   rw[if_neg Bool.false_ne_true] at h6;(clear h1 h2;replace h6:=sI h6;obtain rfl:=h6);refine af h5 λ e1 e2=>ah (P.add_tuple g1 g2 (y1.ne e1) (y2.ne e2) ?_ hz);refine ac (show us.toArray++vs.toArray=(us++vs).toArray from List.append_toArray _ _)<|PE.mkS C R (b:=false) (k:=s.toks) z
 | _=>exact nn h
theorem mQ(h:idx k n=some j):k=(j:Int)/\j<n:=by
 (refine aD (ji h) λ Qc e=>?_;(refine aD Qc λ h1 h2=>?_;clear Qc));(clear h;replace e:=sI e;obtain rfl:=e);exact⟨(Int.toNat_of_nonneg h1).symm,by lia⟩
theorem gB(x:X)(o i:Value):subscripted (a8 x) false o i=operate [o,i] (getItem o i):=by cases x<;>rfl
theorem rN(h:∀a,o≠.ref a)(r:Value):letTemporaryGo base o r=pure ():=by
 unfold letTemporaryGo;split
 ·rfl
 ·exact absurd rfl (h _)
 ·rfl
theorem E0(xi:X)(hT:fM T)(C:aQ c d)(R:au c ρ σ s)(x:Is ρ a u)(y:Is ρ b v)(h:FA T σ.obs a b=some r):W c (subscriptTail ve (a8 xi) u v) (PE c ρ σ r) s:=by
 rcases aY h with h|h
 ·refine ae h λ k hk h1=>?_;rw[bI hk] at y;(refine aA y λ t P2=>?_;clear y;obtain rfl:=P2);rcases aY h1 with h1|h1
  ·refine ae h1 λ p hp h2=>ai h2 λ hz h3=>?_;(refine aF h3 λ j hj PZ=>?_;obtain rfl:=PZ);(refine aD (mQ hj) λ Qc hlt=>?_;obtain rfl:=Qc);rw[a7 hp] at x;(refine aA x λ t' P2=>?_;clear x;obtain rfl:=P2);exact ah (KBy.item_N (by lia) (by lia) (by lia) (.here (R.toks _) ⟨_,by exact ac (Int.toNat_natCast _) rfl⟩) (gB xi _ _) (rN λ a q=>(by cases q)))
  ·refine ae h1 λ p hp h2=>ai h2 λ hz h3=>ae h3 λ j hj e=>?_;(refine aD (mQ hj) λ Qc hlt=>?_;(clear hj;obtain rfl:=Qc));(refine SX.el (cy hT C R x hp) λ tt vs n Qb e1 e2=>?_;obtain rfl:=Qb);refine ag (e2.get e) λ w e3 e4=>?_;have hj':j<=1000:=Nat.le_of_lt (Nat.lt_of_lt_of_le hlt hz);obtain⟨pb,pl⟩:=p;cases pb with
   | true=>exact ah (tZ j rfl (by lia) ⟨_,e1,rfl,n,rfl⟩ e3 (.here R e4) (gB xi _ _))
   | false=>exact ah (wJ j rfl (by lia) ⟨_,e1,rfl,n,rfl⟩ e3 (.here R e4) (gB xi _ _))
 ·refine ae h λ k hk h1=>ae h1 λ o ho h2=>ae h2 λ q hq h3=>?_;rw[a7 hk] at y;(refine aA y λ t P2=>?_;clear y;obtain rfl:=P2);(refine ag (cT ho) λ i P2 ei=>?_;(clear h1 ho;obtain rfl:=P2));(refine ag (R.dic ei x (jj hq)) λ xa P2 PZ=>?_;(clear x;obtain rfl:=P2);(refine DX.el PZ λ kvs D lo V=>?_;clear PZ));rw[show q=some r from h3] at hq;refine ag (V.get _ _ hq) λ w e1 e2=>ah (tail_any D.typeIs slot_dict_getitem.lookup (wpAny_getItem_of (dE _ _ _ _) D.mapOf e1 (.here (R.toks _) e2)) (gB xi _ _))
noncomputable def B1(ρ:RR)(a:Option AV)(v:Value):Prop:=match a with
 | none=>v=.none
 | some a=>Is ρ a v
theorem s9{dflt n i:Nat}(x:B1 ρ l v)(h:bnd l dflt n=some i):∃lo,IsPart v lo/\lo.elim dflt (clipAt n)=i:=by
 cases l with
 | none=>refine ac (show v=.none from x) ?_;exact⟨none,.none,sI h⟩
 | some a=>
  refine ae h λ k hk h1=>ai h1 λ hz e=>?_;rw[bI hk] at x;(refine aA x λ t P2=>?_;clear x;obtain rfl:=P2);(refine aA (Int.eq_ofNat_of_zero_le hz) λ m P2=>?_;(clear hk h1 hz;obtain rfl:=P2));exact⟨some _,.int _ _,(clipAt_nat _ _).trans (sI e)⟩
theorem yK{lv uv:Value}(R:au c ρ σ s)(x:Is ρ a u)(y:B1 ρ l lv)(z:B1 ρ w uv)(h:vx a l w=some r) :
  W c (subscriptTail ve (.Slice le ue none p) u (.ref s.heap.objs.size)) (PE c ρ σ r) {s with heap:=s.heap.push {cls:=.type "slice",data:=.fields #[lv,uv,.none] } }:=by
 refine ae h λ b hb h1=>ai h1 λ hz h2=>ae h2 λ i hi h3=>ae h3 λ j hj e=>?_;rw[a7 hb] at x;(refine aA x λ t P2=>?_;clear x;obtain rfl:=P2);(clear h h1 h2 h3;replace e:=sI e;obtain rfl:=e);refine ag (s9 y hi) λ lo l1 l2=>ag (s9 z hj) λ hi' u1 u2=>lA.el R.led λ m nw F N k k'=>ah (zp ((b.take j).drop i) F N l1 u1 (Nat.le_trans hz (by decide)) (by exact ac l2 (ac u2 (ac List.drop_take rfl))) (λ h' t' tk F' N'=>.here (k h' tk F' N') ⟨t',rfl⟩) (by cases ve<;>rfl) (rN λ a q=>(by cases q)))
end
section
variable{c:Cx}{d:Nat}{ρ:RR}{σ:St}{s:Shared}{a b z:AV}{u v x:Value}{T:bq}
structure Kp(c:Cx)(ρ:RR)(s:Shared)(t:Sem Value)(τ:Addr->bo)(i:Nat)(xa:Addr)(q:AV×AO):Prop where
 t0:τ xa=(i+3,0)
 k:∀Q:Value->Shared->Prop,(∀v h' tk ob,Is ρ q.1 v->Heap.SameBut xa s.heap h'->h'.get? xa=some ob->OR c.w c.fx h' τ ρ (i+3) q.2 xa->Q v {s with heap:=h',toks:=tk})->W c t Q s
theorem nZ{t:Value->Sem Value}(R:au c ρ σ s)(y:Is ρ a u)(h:tB σ.obs a g=some r)(H:∀i o q τ xa,(xa==sysModules)=false\/τ xa≠(i+3,0)->OR c.w c.fx s.heap τ ρ (i+3) o xa->g o=some q->Kp c ρ s (t (.ref xa)) τ i xa q) :
  W c (t u) (PE c ρ {σ with obs:=r.2} r.1) s:=by
 refine ae h λ q hq h1=>?_;(refine aF h1 λ p hp PZ=>?_;(clear h h1;obtain rfl:=PZ));(refine aD (ry hq) λ Qc e=>?_;obtain rfl:=Qc);(refine BX.el (R.upd e y) λ m τ xa Qb F o n Y k=>?_;obtain rfl:=Qb);have hy:(xa==sysModules)=false\/τ xa≠(q.1+3,0):=(Classical.em (τ xa=(q.1+3,0))).imp (Y _ _ _) λ z=>z;obtain⟨t0,k0⟩:=H _ _ _ _ _ hy o hp;have nw:=n xa (by refine ac t0 ?_;exact Nat.succ_ne_zero _);exact k0 _ λ v h' tk ob y hs hb o'=>PE.here (k xa 0 ob _ h' tk t0 (F.change hs nw.l nw.n) (jW hs) hb o') y
theorem SB.refl:Heap.SameBut xa h h:=⟨rfl,λ zz zz=>rfl⟩
theorem Is.nn:Is ρ .non .none:=rfl
theorem mK(h:IK l q=some r):l.length<=1000/\q=r:=by
 refine ai h λ h1 e=>⟨h1,sI e⟩
theorem mJ{x:Bool×List AV}(h:IJ x=some l):x=(true,l)/\l.length<=1000:=by
 (refine aD (ji h) λ Qc e=>?_;(refine aD Qc λ h1 h2=>?_;clear Qc));(clear h;replace e:=sI e;obtain rfl:=e);exact⟨by obtain⟨b,l⟩:=x;exact ac (show b=true from h1) rfl,h2⟩
theorem nQ(h:H7 a=some l):a=.pv (.seq true l):=by
 refine ae h λ q hq h1=>ae hq λ p hp h2=>ai h1 λ h3 e=>?_;(clear h h1;replace e:=sI e;obtain rfl:=e);exact ac (Em hp) (ac (qq h2) (ac h3 rfl))
theorem je(R:au c ρ σ s)(x:Is ρ (.pv (.seq true l)) u):∃t vs n,u=.ref t/\s.heap.get? t=some (iI vs n)/\ay (bA ρ.z) l vs:=by
 (refine aA x λ n y=>?_;clear x);cases n with
 | zero=>exact y.elim
 | succ n=>
  (revert y;refine λ P3=>aP P3 λ a m vs Qb q y=>?_;clear P3;obtain rfl:=Qb);exact(aI a vs m ⟨rfl,R.cel q,y.imp λ zz zz z=>z.is⟩)
noncomputable def ES(T:bq):Prop:=∀a∈T.isi,∀w:World,kitOne (hd.heap_39 w.params) (.type "bytes") (.ref a)=some false
noncomputable def AR(id:Value)(f:uH):Prop:=∀(T:bq) (c:Cx) (d:Nat) (ρ:RR) (σ:St) (s:Shared) (a:AV) (u:Value) (r:AV×List AO),fM T->ES T->aQ c d->au c ρ σ s->Is ρ a u->f T σ.obs a=some r->W c (call id [u]) (PE c ρ {σ with obs:=r.2} r.1) s
noncomputable def Eu(id:Value)(f:AQ):Prop:=∀(T:bq) (c:Cx) (d:Nat) (ρ:RR) (σ:St) (s:Shared) (a b:AV) (u v:Value) (r:AV×List AO),fM T->ES T->aQ c d->au c ρ σ s->Is ρ a u->Is ρ b v->f T σ.obs a b=some r->W c (call id [u,v]) (PE c ρ {σ with obs:=r.2} r.1) s
theorem C8:AR (.builtin "len") Bo:=λ T c d ρ σ s a u r hT hI C R x h=>by
 (refine aF h λ n hn PZ=>?_;(clear h;obtain rfl:=PZ));rcases aY hn with hn|hn
 ·refine ae hn λ b hb h1=>?_;(refine aD (mK h1) λ hz P2=>?_;obtain rfl:=P2);rw[a7 hb] at x;(refine aA x λ t P2=>?_;clear x;obtain rfl:=P2);exact ah (Gm b.length rfl (by lia) (.here (R.toks _) ⟨_,rfl⟩))
 ·rcases aY hn with hn|hn
  ·(refine aF hn λ l hl PZ=>?_;obtain rfl:=PZ);refine ae hl λ y hy h1=>?_;(refine aD (mJ h1) λ Qc hz=>?_;obtain rfl:=Qc);(refine SX.el (cy hT C R x hy) λ t vs n Qb g z=>?_;obtain rfl:=Qb);exact ah (call_len_list ⟨_,g,rfl,n,rfl⟩ (by refine ac List.size_toArray (ac z.len ?_);exact(show((l.length:Nat):Int)<2 ^ 63 by lia)) (.here (R.toks _) ⟨_,by exact ac List.size_toArray (ac z.len rfl)⟩))
  ·refine ae hn λ o ho h1=>?_;(refine ag (cT ho) λ i P2 ei=>?_;obtain rfl:=P2);(refine ag (R.dic ei x (zW h1)) λ xa P2 PZ=>?_;(clear x;obtain rfl:=P2);(refine DX.el PZ λ kvs D lo V=>?_;clear PZ));(refine aD (V.len _ h1) λ Qc h2=>?_;obtain rfl:=Qc);exact ah (J6 D lo (by lia) (.here (R.toks _) ⟨_,rfl⟩))
theorem Df:Eu (.builtin "list.append") r9:=λ T c d ρ σ s a b u v r hT hI C R x y h=>
 nZ (t:=λ u=>call (.builtin "list.append") [u,v]) R x h λ i o q τ xa zz X g=>by
  refine ae g λ l hl h1=>?_;(refine aD (mK h1) λ hz P2=>?_;(clear h1;obtain rfl:=P2));rw[rx hl] at X;refine aZ X λ vs n cl X=>⟨cl.t,λ Q k=>ah (append_at cl.g (λ h' hs hb=>k _ h' s.toks _ Is.nn hs hb (aq (vs++[v]) (n+1) ⟨⟨hb.trans ?_,cl.t⟩,X.app (ay.k y rfl)⟩)) ?_)⟩
  ·exact ac (List.push_toArray _ _) rfl
  ·refine ac List.size_toArray (ac X.len ?_);exact bY hz
theorem wT{l b:Addr}(g1:s.heap.get? l=some (iI vs n))(g2:s.heap.get? b=some (iI ws n'))(hz:vs.length+ws.length<=1000)
  (h:∀h',Heap.SameBut l s.heap h'->(∃k,h'.get? l=some (iI (vs++ws) k))->Q .none {s with heap:=h'}):wpAny c.M c.A (call (.builtin "list.extend") [.ref l,.ref b]) Q c.E s:=by
 refine call_meets PySem.F.slot_list_extend ⟨_,g1,rfl⟩ PySem.F.entry_list_extend (PySem.F.args_list_extend_2 _ _) (PySem.AutoSeq1.list_extend_list_list_0 l vs.toArray n b ws.toArray n' (by simp [Builtin.List.listTooLong,sizeLine];lia) (by refine ac List.size_toArray (ac sizeLine_eq ?_);lia) (by simp only[List.size_toArray];refine ac sizeLine_eq ?_;lia)) ⟨g1,g2,h _ (Heap.SameBut.update ..) ?_⟩;have e:∃k,Obj.mapSeq (λ x=>x++ws.toArray) (iI vs n)=iI (vs++ws) k:=⟨_,by unfold Obj.mapSeq;simp [iI];rfl⟩
 (revert e;refine λ P3=>aA P3 λ k e=>?_;clear P3);exact⟨k,by exact ac (Heap.get?_update_self _ g1 (by rw[e];rfl)) (ac e rfl)⟩
theorem Db:Eu (.builtin "list.extend") r7:=λ T c d ρ σ s a b u v r hT hI C R x y h=>by
 refine ae h λ m hm h=>?_;rw[nQ hm] at y;obtain⟨t',ws,n',rfl,g',y⟩:=je R y;exact nZ (t:=λ u=>call (.builtin "list.extend") [u,.ref t']) R x h λ i o q τ xa zz X g=>by
  refine ae g λ l hl h1=>ai h1 λ hz e=>?_;(clear h1;replace e:=sI e;obtain rfl:=e);rw[rx hl] at X;refine aZ X λ vs n cl X=>⟨cl.t,λ Q k=>ah (wT cl.g g' (by refine ac X.len (ac y.len ?_);exact hz) λ h' hs ⟨j,hb⟩=>k _ h' s.toks _ Is.nn hs hb (aq _ j ⟨⟨hb,cl.t⟩,X.app (bA.ofs y)⟩))⟩
theorem Dd:Eu (.builtin "bytearray.append") Bt:=λ T c d ρ σ s a b u v r hT hI C R x y h=>by
 refine ae h λ k hk h=>?_;rw[bI hk] at y;(refine aA y λ t' P2=>?_;clear y;obtain rfl:=P2);exact nZ (t:=λ u=>call (.builtin "bytearray.append") [u,.int k t']) R x h λ i o q τ xa zz X g=>by
  refine ae g λ l hl h1=>?_;(refine aD (ji h1) λ Qc e=>?_;(refine cg Qc λ hz h0 h256=>?_;clear Qc));(clear h1;replace e:=Option.some.inj e;obtain rfl:=e);rw[ya hl] at X;have hb:(s.heap.update xa (Obj.mapBytearray (·.push k.toNat.toUInt8))).get? xa=some (bX (l.toArray.push k.toNat.toUInt8)):=Heap.get?_update_self _ X.g rfl;refine⟨X.t,λ Q k'=>kQ X.g h0 h256 ?_ (k' _ _ s.toks _ Is.nn (Heap.SameBut.update _ _ _) hb ⟨hb.trans ?_,X.t⟩)⟩
  ·refine ac List.size_toArray ?_;exact Nat.le_trans (Nat.succ_le_succ hz) (by refine ac sizeLine_eq ?_;decide)
  ·exact ac (List.push_toArray _ _) rfl
theorem jv(h:Ck l=some a):l=[a]:=by
 refine ae h λ p hp h1=>?_;(refine aF h1 λ q hq PZ=>?_;(clear h h1;obtain rfl:=PZ));refine ai hq λ h2 zz=>ac (cI hp) (ac (iE h2) rfl)
theorem zH:Eu (.builtin "bytes.join") vZ:=λ T c d ρ σ s a b u v r hT hI C R x y h=>by
 refine ae h λ p hp h1=>?_;refine ae h1 λ w hw h2=>?_;(refine aF h2 λ e he PZ=>?_;(clear h h1 h2;obtain rfl:=PZ));refine ae hw λ l hl h3=>ae hl λ q hq h4=>?_;(refine aD (mJ h4) λ Qc zz=>?_;(clear h4;obtain rfl:=Qc));rw[a7 hp] at x;(refine aA x λ t' P2=>?_;clear x;obtain rfl:=P2);(refine SX.el (cy hT C R y hq) λ t vs n Qb g z=>?_;(clear y;obtain rfl:=Qb));rw[show l=[w] from jv h3,a7 he] at z;(revert z;refine λ P3=>ao P3 λ v' vs' PZ Qb z=>?_;clear P3;obtain rfl:=PZ;obtain⟨t2,rfl⟩:=Qb);rw[show vs'=[] from z] at g;exact ah (lh ⟨_,g,rfl,n,rfl⟩ (.here R ⟨_,rfl⟩))
theorem C9:Eu (.builtin "isinstance") Bp:=λ T c d ρ σ s a b u v r hT hI C R x y h=>by
 refine ae h λ w hw h1=>?_;(refine aF h1 λ rr hr PZ=>?_;(clear h h1;obtain rfl:=PZ));rw[ru hw] at y;refine ac (show v=w from y) ?_;rcases aY hr with hr|hr
 ·refine ae hr λ p hp h2=>?_;rw[a7 hp] at x;(refine aA x λ t P2=>?_;clear x;obtain rfl:=P2);have hk:kitOne c.K (.type "bytes") w=some rr:=by
   rcases aY h2 with h2|h2
   ·refine ae h2 λ q hq h3=>ai h3 λ h4 e=>ac (qt hq) (bP (sI e) ?_);exact hI _ (List.contains_iff_mem.mp h4) c.w
   ·refine ai h2 λ h4 e=>ac h4 (bP (sI e) ?_);rfl
  exact ah (kia_one (kitx_bytes (K:=c.K)) (R.X C) trivial hk (λ q=>(by cases q)) λ tk=>.here (R.toks _) rfl)
 ·refine ae hr λ l hl h2=>ai h2 λ h4 e=>?_;rw[nQ hl] at x;(refine aP (je R x) λ t vs n Qb g zz=>?_;(clear x;obtain rfl:=Qb));have hk:kitOne c.K (.type "list") w=some rr:=by refine ac h4 (bP (sI e) ?_);rfl
  exact ah (kia_one (kitx_list (K:=c.K)) (R.X C) ⟨_,g,rfl⟩ hk (λ q=>(by cases q)) λ tk=>.here (R.toks _) rfl)
theorem sH(R:au c ρ σ s)(x:Is ρ a u)(y:Is ρ k v)(h:JP σ.obs a k=some q):∃xa kb t kvs,u=.ref xa/\v=.bytes (List.toArray kb) t/\s.heap.DictOf (bytesKind PySem.Challenge.rw_og0284_01.prog c.w) xa kvs/\(xa==sysModules)=false/\Kw (Is ρ) kvs kb q:=by
 refine ae h λ p hp h1=>ae h1 λ o ho h2=>?_;rw[a7 hp] at y;(refine aA y λ t P2=>?_;clear y;obtain rfl:=P2);(refine ag (cT ho) λ i P2 ei=>?_;(clear h h1 ho;obtain rfl:=P2));(refine ag (R.dic ei x (jj h2)) λ xa P2 PZ=>?_;(clear x;obtain rfl:=P2);(refine DX.el PZ λ kvs D lo V=>?_;clear PZ));exact(cK xa p t kvs ⟨rfl,rfl,D,lo,V.get _ _ h2⟩)
theorem Da:Eu (.builtin "dict.get") Bq:=λ T c d ρ σ s a b u v r hT hI C R x y h=>by
 (refine aF h λ q hq PZ=>?_;(clear h;obtain rfl:=PZ));(refine iM (sH R x y hq) λ xa kb t kvs QS QV D lo V=>?_;(clear x;obtain rfl:=QS);(clear y;obtain rfl:=QV));cases q with
 | none=>exact ah (xn D lo V (.here (R.toks _) rfl))
 | some w=>refine ag V λ v e z=>?_;exact ah (um D lo e (.here (R.toks _) z))
theorem zI(R:au c ρ σ s)(x':Is ρ a u)(y:Is ρ b v)(z':Is ρ z x)(h:v9 σ.obs a b z=some r):W c (call (.builtin "dict.get") [u,v,x]) (PE c ρ {σ with obs:=r.2} r.1) s:=by
 (refine aF h λ q hq PZ=>?_;(clear h;obtain rfl:=PZ));(refine iM (sH R x' y hq) λ xa kb t kvs QS QV D lo V=>?_;(clear x';obtain rfl:=QS);(clear y;obtain rfl:=QV));cases q with
 | none=>exact ah (xk D lo V (.here (R.toks _) z'))
 | some w=>refine ag V λ v e z=>?_;exact ah (ul D lo e (.here (R.toks _) z))
end
section
variable{c:Cx}{d:Nat}{ρ:RR}{σ:St}{s:Shared}{a b z:AV}{u v x:Value}{T:bq}
noncomputable def Ks(c:Cx)(ρ:RR)(τ:Addr->bo)(i:Nat)(xa:Addr)(kvs:List (List UInt8×Value))(k:List UInt8)(s:Shared)(r:Option AV×AO):Prop:=match r.1 with
 | none=>valueAt kvs k=none/\OR c.w c.fx s.heap τ ρ i r.2 xa
 | some z=>∃v,valueAt kvs k=some v/\Is ρ z v/\∀h' ob,Cl h' τ i 0 xa ob->bF c.w ob (without kvs k)->OR c.w c.fx h' τ ρ i r.2 xa
inductive Ic(c:Cx)(ρ:RR)(τ:Addr->bo)(i:Nat)(xa:Addr)(k:List UInt8)(s:Shared)(r:Option AV×AO):Prop
 | mk (ob:Obj) (kvs:List (List UInt8×Value)) (cl:Cl s.heap τ i 0 xa ob) (D:bF c.w ob kvs) (hz:kvs.length<=1000) (V:Ks c ρ τ i xa kvs k s r):Ic c ρ τ i xa k s r
theorem nY{A B:List (List UInt8×Value)}(hk:k∉(A++B).map (·.1)):without (A++(k,v)::B) k=A++B:=by
 have ne:∀x∈A++B,decide (x.1≠k)=true:=λ x hx=>decide_eq_true λ q=>hk (q▸List.mem_map_of_mem hx);unfold without;refine ac (List.filter_append _ _) (ac (qU (x:=(k,v)) rfl) (bP (List.filter_append _ _) ?_));exact List.filter_eq_self.mpr ne
theorem Ik.del{n:Nat}{kn:List (List UInt8×Option PV)}{e:Option Bool}{em:List (List UInt8×Bool)}(K:Ik n kn e em l):Ik n ((k,none)::kn.filter (λ x=>x.1≠k)) ((em.find? λ x=>x.1=k).map (·.2)) [] (bx k l):=
 ⟨Nat.le_trans (xc _ _) K.n,λ x hx=>by
  rcases mC hx with rfl|hx
  ·exact sr _ _
  ·refine aD (List.mem_filter.mp hx) λ h1 h2=>ac (jQ (of_decide_eq_true h2) _)<|K.kn _ h1,λ b hb=>by
  refine bK hb λ x hx=>bP (show x.1=k from of_decide_eq_true (p:=x.1=k) (List.find?_some (p:=λ x:List UInt8×Bool=>decide (x.1=k)) hx)) ?_;exact K.em _ (List.mem_of_find?_eq_some hx),λ zz h=>ni h⟩
theorem CX{xa:Addr}(X:OR c.w c.fx s.heap τ ρ i o xa)(h:zM o k=some r):Ic c ρ τ i xa k s r:=by
 cases o with
 | dic l=>
  refine ai h λ hz e=>?_;obtain rfl:=sI e;refine ao X λ ob kvs cl D y=>⟨ob,kvs,cl,D,by refine ac y.len ?_;exact hz,?_⟩
  have F:=fE.at_ k y;refine(?_:match bC k l with|none=>_|some z=>_);cases q:bC k l with
  | none=>
   have e0:bx k l=l:=List.filter_eq_self.mpr λ x hx=>decide_eq_true λ e=>(List.find?_eq_none.mp (Option.map_eq_none_iff.mp q) x hx) (decide_eq_true e)
   rw[q] at F;exact⟨F,(aq ob kvs ⟨cl,D,e0.symm▸y⟩)⟩
  | some z=>rw[q] at F;refine ag F λ v e1 e2=>?_;exact⟨v,e1,e2,λ h' ob' cl' D'=>(aq ob' _ ⟨cl',D',fE.del k y⟩)⟩
 | dip n kn e em l=>
  refine ai h λ hz h1=>bK h1 λ x hx=>bV X λ ob kvs cl D y K=>⟨ob,kvs,cl,D,by refine ac y.len ?_;exact Nat.le_trans K.n (Nat.le_trans hz (by decide)),?_⟩
  have hk:x.1=k:=of_decide_eq_true (p:=x.1=k) (List.find?_some (p:=λ x:List UInt8×Option PV=>decide (x.1=k)) hx);have F:=fE.at_ k y;rw[← hk,K.kn _ (List.mem_of_find?_eq_some hx),hk] at F;obtain⟨x1,x2⟩:=x;cases x2 with
  | none=>exact⟨F,(aq ob kvs ⟨cl,D,y,K⟩)⟩
  | some p=>refine ag F λ v e1 e2=>?_;exact⟨v,e1,e2.ofP,λ h' ob' cl' D'=>(aq ob' _ ⟨cl',D',fE.del k y,K.del⟩)⟩
 | dir t x A B=>
  refine ai h λ e h1=>?_;(replace h1:=sI h1;obtain rfl:=h1);cases x with
  | none=>
   refine cM X λ ob cl l hn D=>?_;exact⟨ob,_,cl,D,Nat.le_trans l (by decide),e▸jw hn,ob,cl,l,hn,D⟩
  | some x=>
   (refine eZ X λ ob cl l v y D=>?_;clear X);have hm:=jU D;refine⟨ob,_,cl,D,?_,v,?_,y,λ h' ob' cl' D'=>⟨ob',cl',l,hm,?_⟩⟩
   ·refine ac List.length_append (ac List.length_cons ?_);rw[List.length_append] at l;lia
   ·rw[List.map_append] at hm;refine ac e ?_;exact iF λ z=>hm (List.mem_append_left _ z)
   ·rw[e,nY hm] at D';exact D'
 | _=>exact nn h
theorem A4(R:au c ρ σ s)(x:Is ρ a u)(y:Is ρ b v)(hm:match zo with|none=>more=[]|some z=>∃w,more=[w]/\Is ρ z w)(ha:∀xa k t,argsOk "dict.pop" ⟨.ref xa::.bytes k t::more,[]⟩)(hmo:more=[]\/∃x,more=[x])(h:vY σ.obs zo a b=some r) :
  W c (call (.builtin "dict.pop") (u::v::more)) (PE c ρ {σ with obs:=r.2} r.1) s:=by
 refine ae h λ k hk h1=>?_;rw[a7 hk] at y;(refine aA y λ t' P2=>?_;clear y;obtain rfl:=P2);refine nZ (t:=λ u=>call (.builtin "dict.pop") (u::.bytes k.toArray t'::more)) R x h1 λ i o q τ xa hy X g=>ae g λ p hp h2=>bK h2 λ w hw=>?_;obtain⟨ob,kvs,cl,D,hz,V⟩:=CX X hp;have D':=Heap.dictOf_iff.mpr ⟨ob,cl.g,D⟩;refine⟨cl.t,λ Q k'=>?_⟩;obtain⟨p1,p2⟩:=p;cases p1 with
 | none=>
  (refine aD V λ e1 o'=>?_;clear V);obtain rfl:zo=some w:=hw;(refine ag hm λ w' P2 yw=>?_;clear hm;obtain rfl:=P2);exact ah (xj D' (hy.resolve_right λ z=>z cl.t) e1 (k' _ s.heap _ ob yw SB.refl cl.g o'))
 | some p1=>
  refine cC V λ w' e1 e2 o'=>?_;(replace hw:=sI hw;obtain rfl:=hw);exact ah (call_meetsIn PySem.F.slot_dict_pop D'.typeIs PySem.F.entry_dict_pop (ha _ _ _) (meets_dict_pop_there _ xa (dE _ _ _ _) more hmo rfl) (aq kvs w' ⟨D',bY hz,e1,λ h' hm hs=>by
   refine ag (Heap.dictOf_iff.mp hm) λ ob' g' D2=>k' _ h' _ ob' e2 hs g' (o' h' ob' ⟨g',cl.t⟩ D2)⟩))
theorem Dc:AR (.builtin "dict.clear") Br:=λ T c d ρ σ s a u r hT hI C R x h=>
 nZ (t:=λ u=>call (.builtin "dict.clear") [u]) R x h λ i o q τ xa hy X g=>by
  refine ae g λ n hn h1=>ai h1 λ hz e=>?_;(clear h1;obtain rfl:=sI e);cases o with
  | dip n' kn e em l=>
   obtain rfl:=sI hn;refine bV X λ ob kvs cl D y K=>?_;have D':=Heap.dictOf_iff.mpr ⟨ob,cl.g,D⟩;exact⟨cl.t,λ Q k'=>ah (call_meetsIn PySem.F.slot_dict_clear D'.typeIs PySem.F.entry_dict_clear (PySem.F.args_dict_clear_1 _) (meets_dict_clear _ xa) ⟨kvs,D',bY (by refine ac y.len ?_;exact Nat.le_trans K.n (Nat.le_trans hz (by decide))),λ h' hm hs=>by
    refine ag (Heap.dictOf_iff.mp hm) λ ob' g' D2=>k' _ h' s.toks ob' Is.nn hs g' (aq ob' ([]) ⟨⟨g',cl.t⟩,D2,rfl,⟨Nat.le_refl _,λ zz h=>(ni h),λ b hb=>sI hb,λ zz h=>ni h⟩⟩)⟩)⟩
  | _=>exact nn hn
theorem AB{z:Fz}(h:aU vs l):ay (eA z 1) (l.map .byt) vs:=by
 induction h with
 | nil=>exact rfl
 | cons b t _ ih=>exact(ay.k ⟨t,rfl⟩ ih)
theorem AA:∀{l:List PV} {vs:List Value} {ks:List (List UInt8)},ay (bA ρ.z) l vs->xL (l.map Mine.ofP)=some ks->aU vs ks:=by intro l_;induction l_ with
 | nil=>intro vs ks x h;refine ac (show vs=[] from x) (bP (sI h) ?_);exact .nil
 | cons p l P9=>
  intro vs ks x h;(revert x;refine λ P3=>ao P3 λ v vs PZ x xs=>?_;clear P3;obtain rfl:=PZ);refine ae h λ b hb h1=>bK h1 λ bs hbs=>?_;have y:=x.ofP;rw[a7 hb] at y;(refine aA y λ t P2=>?_;clear y;(clear x;obtain rfl:=P2));exact .cons b t (P9 xs hbs)
theorem ko(h:aU vs l):Is (ρ.ice λ a o=>a=xa/\o=iI vs n) (kq l) (.ref xa):=⟨2,xa,n,vs,rfl,.inr ⟨rfl,rfl⟩,AB h⟩
theorem C7:AR (.builtin "sorted") Bn:=λ T c d ρ σ s a u r hT hI C R x h=>by
 (refine aF h λ l hl PZ=>?_;(clear h;obtain rfl:=PZ));refine lA.el R.led λ m nw F N k k'=>?_;rcases aY hl with hl|hl
 ·refine ae hl λ o ho h1=>?_;(refine ag (cT ho) λ i P2 ei=>?_;obtain rfl:=P2);(refine ag (R.dic ei x (sD h1)) λ xa P2 PZ=>?_;obtain rfl:=P2;(refine DX.el PZ λ kvs D lo V=>?_;clear PZ));(refine aD (V.keys _ h1) λ Qc h2=>?_;obtain rfl:=Qc);exact ah (zn rfl F N D lo (by lia) λ xb h' tk vs' n F' N' ap hb=>⟨_,RR.Le.ice,k' h' tk xb _ F' N' ap,ko (by refine ac (oW _) ?_;exact hb)⟩)
 ·refine ae hl λ p hp h1=>ai h1 λ hz h2=>?_;rw[nQ hp] at x;(refine aP (je R x) λ t vs n Qb g y=>?_;(clear x;obtain rfl:=Qb));exact ah (zm F N ⟨_,g,rfl,n,rfl⟩ (AA y h2) (by refine ac y.len ?_;lia) λ xb h' vs' n F' N' ap hb=>⟨_,RR.Le.ice,k' h' s.toks xb _ F' N' ap,ko (by refine ac (oW _) ?_;exact hb)⟩)
noncomputable def yC{α:Type}(P:α->Prop):List α->Prop
 | []=>True
 | x::l=>P x/\yC P l
theorem jp:∀{l:List α},yC P l->∀x∈l,P x:=by intro l_;induction l_ with
 | nil=>exact λ zz x h=>(List.not_mem_nil h).elim
 | cons y l P9=>exact λ p x h=>(mC h).elim (λ e=>e▸p.1) (P9 p.2 x)
theorem zG:yC (λ p:String×uH=>AR (.builtin p.1) p.2) Gb:=⟨C8,C7,Dc,trivial⟩
theorem zF:yC (λ p:String×AQ=>Eu (.builtin p.1) p.2) Ga:=⟨Df,Db,Dd,zH,C9,Da,λ T c d ρ σ s a b u v r hT hI C R x y h=>A4 (zo:=none) R x y rfl (λ zz zz zz=>PySem.F.args_dict_pop_2 _ _) (.inl rfl) h,trivial⟩
theorem Fn{id:String}(hT:fM T)(hI:ES T)(C:aQ c d)(R:au c ρ σ s)(X:IsL ρ vs us)(h:blt T σ.obs id vs=some r):W c (call (.builtin id) us) (PE c ρ {σ with obs:=r.2} r.1) s:=by
 (refine lp h λ Qc hp h1=>?_;obtain⟨p1,p2⟩:=Qc);rw[cI hp] at X;(revert X;refine λ P3=>ao P3 λ u us PZ x X=>?_;clear P3;obtain rfl:=PZ);cases p2 with
 | nil=>
  refine ae h1 λ f hf h2=>ac (show us=[] from X)<|jp zG _ (aN hf) T c d ρ σ s _ _ r hT hI C R x h2
 | cons b l=>
  (revert X;refine λ P3=>ao P3 λ v us PZ y X=>?_;clear P3;obtain rfl:=PZ);cases l with
  | nil=>
   refine ae h1 λ f hf h2=>ac (show us=[] from X)<|jp zF _ (aN hf) T c d ρ σ s _ _ _ _ r hT hI C R x y h2
  | cons z l=>
   (revert X;refine λ P3=>ao P3 λ w us PZ z' X=>?_;clear P3;obtain rfl:=PZ);refine ai h1 λ e h2=>?_;rw[iE e] at X;refine ac (show us=[] from X) ?_;by_cases e1:id="dict.get"
   ·refine ac e1 ?_;exact zI R x y z' ((if_pos e1).symm.trans h2)
   ·refine ai ((if_neg e1).symm.trans h2) λ e2 h3=>ac e2<|A4 (zo:=some z) R x y ⟨w,rfl,z'⟩ (λ zz zz zz=>PySem.F.args_dict_pop_3 _ _ _) (.inr ⟨_,rfl⟩) h3
end
section
variable{c:Cx}{d:Nat}{ρ:RR}{σ:St}{s:Shared}{a b:AV}{u v:Value}{T:bq}
theorem au.fresh2(C:aQ c d)(R:au c ρ σ s)(hs:Heap.SameBut s.heap.objs.size (s.heap.push SA) h')(hb:h'.get? s.heap.objs.size=some ob)(x:∀τ,Cl h' τ (σ.obs.length+3) 0 s.heap.objs.size ob->OR c.w c.fx h' τ (ρ.psh s.heap.objs.size) (σ.obs.length+3) o s.heap.objs.size) :
  PE c ρ (dt σ o).2 (dt σ o).1 (.ref s.heap.objs.size) {s with heap:=h',toks:=k}:=by
 refine⟨ρ.psh s.heap.objs.size,RR.Le.psh,au.push C R (one s.heap.objs.size) (λ b o e=>(hs.2 b (Nat.ne_of_lt (Heap.lt_size e))).trans (Heap.get?_push_of_some _ e)) (λ b j e=>?_) λ τ h=>x τ ⟨hb,h _ 0 (if_pos rfl)⟩,⟨_,rfl,?_⟩⟩
 ·(refine aD (gL e) λ Qc P2=>?_;(clear e;obtain rfl:=Qc);clear P2);exact⟨Nat.le_refl _,by refine ac hb ?_;rfl⟩
 ·refine bP R.size ?_;exact cD
theorem qP:∀{l:List AV} {vs:List Value} {b:List UInt8},IsL ρ l vs->qQ l=some b->IntsAre vs (b.map λ c=>(c.toNat:Int)):=by intro l_;induction l_ with
 | nil=>intro vs b x h;refine ac (show vs=[] from x) (bP (sI h) ?_);exact .nil
 | cons a l P9=>
  intro vs b x h;(revert x;refine λ P3=>ao P3 λ v vs PZ x xs=>?_;clear P3;obtain rfl:=PZ);refine ae h λ k hk h1=>ai h1 λ hz h2=>?_;(refine aF h2 λ b' hb PZ=>?_;(clear h h1 h2;obtain rfl:=PZ));rw[bI hk] at x;(refine aA x λ t P2=>?_;clear x;obtain rfl:=P2);have e:((k.toNat.toUInt8).toNat:Int)=k:=by refine ac Nat.toUInt8_eq (ac UInt8.toNat_ofNat' ?_);lia
  refine ac List.map_cons (ac e ?_);exact .cons k t (P9 xs hb)
theorem rm(b:List UInt8):byteArr (b.map λ c=>(c.toNat:Int))=b.toArray:=by
 unfold byteArr;refine ac List.map_map<|congrArg List.toArray ((List.map_congr_left λ c zz=>by
  refine(?_:((c.toNat:Int)).toNat.toUInt8=c);exact ac (Int.toNat_natCast _) (ac Nat.toUInt8_eq (ac UInt8.ofNat_toNat rfl))).trans (List.map_id b))
theorem Ct:AR (.type "bytes") Bf:=λ T c d ρ σ s a u r hT hI C R x h=>by
 (refine aF h λ b hb PZ=>?_;(clear h;obtain rfl:=PZ));rcases aY hb with hb|hb
 ·refine ae hb λ o ho h1=>?_;(refine aD (mK h1) λ hz P2=>?_;obtain rfl:=P2);refine ae ho λ w hw h2=>?_;(refine ag (cT hw) λ i P2 ei=>?_;obtain rfl:=P2);rw[ya h2] at ei;(refine rC.el (R.obj ei x) λ τ xa PZ q _ _=>?_;obtain rfl:=PZ);exact ah (ll q.g (by refine ac List.size_toArray ?_;exact bY hz) (.here (R.toks _) ⟨_,rfl⟩))
 ·refine ae hb λ l hl h1=>ae hl λ q hq h2=>?_;(refine aD (mJ h2) λ Qc hz=>?_;(clear h2;obtain rfl:=Qc));(refine SX.el (cy hT C R x hq) λ t vs n Qb g z=>?_;(clear x;obtain rfl:=Qb));refine ah (call_bytes_ints ⟨_,g,rfl,n,rfl⟩ (qP z h1) (λ n hn=>?_) (by refine ac z.len ?_;exact bY hz) rfl λ h' t k g=>?_)
  ·(refine cE hn λ c hc PZ=>?_;(clear hn;obtain rfl:=PZ));exact⟨Int.natCast_nonneg _,by have:=c.toNat_lt;lia⟩
  ·refine ac (rm _)<|.here (R.grown g) ⟨_,rfl⟩
theorem Cq:AR (.type "list") Bc:=λ T c d ρ σ s a u r hT hI C R x h=>by
 (refine aF h λ l hl PZ=>?_;(clear h;obtain rfl:=PZ));refine lA.el R.led λ m nw F N k k'=>ae hl λ o ho h1=>?_;(refine ag (cT ho) λ i P2 ei=>?_;obtain rfl:=P2);(refine ag (R.dic ei x (sD h1)) λ xa P2 PZ=>?_;(clear x;obtain rfl:=P2);(refine DX.el PZ λ kvs D lo V=>?_;clear PZ));(refine aD (V.keys _ h1) λ Qc h2=>?_;obtain rfl:=Qc);exact ah (G9 rfl F N D lo (by lia) λ xb n h' tk vs' F' N' ap hb=>⟨_,RR.Le.ice,k' h' tk xb _ F' N' ap,ko hb⟩)
theorem p9(C:aQ c d)(R:au c ρ σ s)(D:s.heap.DictOf (bytesKind PySem.Challenge.rw_og0284_01.prog c.w) xa kvs)(lo:(xa==sysModules)=false)(hz:kvs.length<=50)
  (k:∀h' τ ob,Cl h' τ (σ.obs.length+3) 0 s.heap.objs.size ob->bF c.w ob kvs->OR c.w c.fx h' τ (ρ.psh s.heap.objs.size) (σ.obs.length+3) o' s.heap.objs.size) :
  W c (call (.type "dict") [.ref xa]) (PE c ρ {σ with obs:=(zO σ.obs o').2} (zO σ.obs o').1) s:=by
 refine ah (kt_call_dict lo D (by refine ac sizeLine_eq ?_;lia) λ h' hm hs=>?_);refine ag (Heap.dictOf_iff.mp hm) λ ob g D'=>au.fresh2 C R (k:=s.toks) hs g λ τ cl=>k h' τ ob cl D'
theorem Cs:AR (.type "dict") Be:=λ T c d ρ σ s a u r hT hI C R x h=>by
 (refine aF h λ o' ho' PZ=>?_;obtain rfl:=PZ);refine ae ho' λ o ho h1=>?_;(refine ag (cT ho) λ i P2 ei=>?_;(clear ho' ho;obtain rfl:=P2));(refine rC.el (R.obj ei x) λ τ xa PZ q n fx=>?_;(clear x;obtain rfl:=PZ));cases o with
 | dip m kn e em l=>
  refine ai h1 λ hz e'=>?_;obtain rfl:=sI e';refine bV q λ ob kvs cl D y K=>p9 C R (Heap.dictOf_iff.mpr ⟨ob,cl.g,D⟩) (n _ _ _ cl.t) (by refine ac y.len ?_;exact Nat.le_trans K.n hz) λ h' τ ob cl D'=>(aq ob kvs ⟨cl,D',y,⟨K.n,λ zz h=>(ni h),λ zz h=>(dC h),λ zz h=>(ni h)⟩⟩)
 | dic l=>
  refine ai h1 λ hz e'=>?_;obtain rfl:=sI e';refine ao q λ ob kvs cl D y=>p9 C R (Heap.dictOf_iff.mpr ⟨ob,cl.g,D⟩) (n _ _ _ cl.t) (by refine ac y.len ?_;exact hz) λ h' τ ob cl D'=>(aq ob kvs ⟨cl,D',y.imp λ zz zz z=>⟨z.1,z.2.mono RR.Le.psh⟩⟩)
 | frd l=>
  refine ai h1 λ hz e'=>?_;obtain rfl:=sI e';(refine ao q λ ob kvs PZ D y=>?_;clear q;(refine aD PZ λ f lo=>?_;clear PZ));exact p9 C R (Heap.dictOf_iff.mpr ⟨ob,fx _ _ _ f,D⟩) lo (by refine ac y.len ?_;exact hz) λ h' τ ob cl D'=>(aq ob kvs ⟨cl,D',y.imp λ zz zz z=>⟨z.1,z.2.mono RR.Le.psh⟩⟩)
 | _=>exact nn h1
theorem Cr:AR (.type "int") Bd:=λ T c d ρ σ s a u r hT hI C R x h=>by
 rcases aY h with h|h
 ·(refine aF h λ b hb PZ=>?_;obtain rfl:=PZ);rw[fb hb] at x;refine ac (show u=_ from x)<|ah (call_int_bool (.here (R.toks _) ⟨_,rfl⟩))
 ·(refine aF h λ k hk PZ=>?_;obtain rfl:=PZ);rw[bI hk] at x;(refine aA x λ t P2=>?_;clear x;obtain rfl:=P2);exact ah (call_int_int (.here R ⟨t,rfl⟩))
theorem Cp:yC (λ p:String×uH=>AR (.type p.1) p.2) KG:=⟨Ct,Cq,Cs,Cr,trivial⟩
theorem EW{id:String}(hT:fM T)(hI:ES T)(C:aQ c d)(R:au c ρ σ s)(X:IsL ρ vs us)(h:IA T σ.obs id vs=some r):W c (call (.type id) us) (PE c ρ {σ with obs:=r.2} r.1) s:=by
 cases vs with
 | nil=>
  refine ai h λ e h1=>?_;obtain rfl:=sI h1;refine ac (show us=[] from X) (ac e ?_);have hs:=Heap.SameBut.update (h:=s.heap.push (bX #[])) (a:=s.heap.objs.size) (f:=Obj.mapBytearray λ zz=>#[]);have ho':((s.heap.push (bX #[])).update s.heap.objs.size (Obj.mapBytearray λ zz=>#[])).get? s.heap.objs.size=some (bX #[]):=Heap.get?_update_self _ (Heap.get?_push_size _ rfl) rfl;exact kP (au.fresh2 C R (k:=s.toks) hs ho' λ τ cl=>cl)
 | cons v l=>
  refine ai h λ e h1=>ae h1 λ f hf h2=>?_;(revert X;refine λ P3=>ao P3 λ u us PZ x X=>?_;clear P3;obtain rfl:=PZ);rw[iE e] at X;refine ac (show us=[] from X)<|jp Cp _ (aN hf) T c d ρ σ s _ _ r hT hI C R x h2
structure Ku(K:Frag)(C:Addr)(a:Nat)(g:Addr):Prop where
 p:plainGet K C (nm a)=true
 f:findIn K (.ref C) (nm a)=some (some (.ref g))
 i:isFn K (.ref g)=true
noncomputable def BZ(C:Addr)(a:Nat)(g:Addr):Prop:=∀w:World,Ku (hd.heap_39 w.params) C a g
noncomputable def AS(T:bq):Prop:=∀C a g,T.met.lookup (C,a)=some g->BZ C a g
inductive MX(c:Cx)(ρ:RR)(σ:St)(f:AV)(v:Value)(x:Value×List Value)(s:Shared):Prop
 | mk (g:Value) (e:f=.val g) (e':x=(g,[v])) (R:au c ρ σ s):MX c ρ σ f v x s
theorem MX.el{P':Prop}(hh:MX c ρ σ f v x s)(kk:∀(g:Value) (e:f=.val g) (e':x=(g,[v])) (R:au c ρ σ s),P'):P':=by
 obtain⟨g,e,e',R⟩:=hh;exact kk g e e' R
theorem jY(C:aQ c d)(R:au c ρ σ s)(hM:BZ C' n g)(e1:s.heap.get? xa=some (instObj C' dx))(e2:s.heap.get? dx=some (dictOf es k))(ent:cw ρ f es)(hn:(f.lookup n).isNone=true) :
  W c (getMethod (.ref xa) (nm n) pl) (MX c ρ σ (.val (.ref g)) (.ref xa)) s:=by
 obtain⟨g1,g2,g3⟩:=hM c.w;have⟨m,τ,F,L,K,r⟩:=R;exact ah (method_inst F C.X ⟨e1,rfl,rfl,e2⟩ g1 g2 g3 (ent.no (Option.isNone_iff_eq_none.mp hn)) ⟨_,rfl,rfl,R⟩)
theorem pY:∀{ks:List Nat} {l:List AV},ks.contains n=false->((ks.zip l).lookup n).isNone=true
 | [],l,h=>rfl
 | k::ks,[],h=>rfl
 | k::ks,x::l,h=>by
  rw[List.contains_cons] at h;refine aD (Bool.or_eq_false_iff.mp h) λ h1 h2=>ac List.zip_cons_cons (ac List.lookup_cons (ac h1 ?_));exact pY h2
theorem K4{α:Type}{p:Prop}[Decidable p]{m:Option α}{a:α}(h:(if p then none else m)=some a):¬p/\m=some a:=Option.ite_none_left_eq_some.mp h
theorem gP{α:Type}{p:Prop}[Decidable p]{m:Option α}{a:α}{P:Prop}(h:(if p then none else m)=some a)(k:¬p->m=some a->P):P:=k (K4 h).1 (K4 h).2
theorem gU(R:au c ρ σ s)(x:Is ρ (.obj i) v)(e:σ.obs[i]?=some o)(h:(if gO o=true then(if n=164 then some (AV.val (.builtin "dict.get")) else if n=200 then some (.val (.builtin "dict.pop")) else if n=203 then some (.val (.builtin "dict.clear")) else none) else none)=some f) :
  W c (getMethod v (nm n) pl) (MX c ρ σ f v) s:=by
 refine ai h λ hd h1=>?_;(refine ag (R.dic e x hd) λ xa P2 PZ=>?_;(clear x;obtain rfl:=P2);(refine DX.el PZ λ kvs D lo V=>?_;clear PZ));by_cases q:n=164
 ·(clear h;obtain rfl:=sI ((if_pos q).symm.trans h1));refine ac q<|ah (nB PySem.F.slot_dict_get PySem.F.type_dict_get D ⟨_,rfl,rfl,R⟩)
 ·have h2:=(if_neg q).symm.trans h1;by_cases q:n=200
  ·(clear h h1;obtain rfl:=sI ((if_pos q).symm.trans h2));refine ac q<|ah (nB PySem.F.slot_dict_pop PySem.F.type_dict_pop D ⟨_,rfl,rfl,R⟩)
  ·refine ai ((if_neg q).symm.trans h2) λ q h3=>?_;(clear h h1 h2;replace h3:=sI h3;obtain rfl:=h3);refine ac q<|ah (nB PySem.F.slot_dict_clear PySem.F.type_dict_clear D ⟨_,rfl,rfl,R⟩)
theorem zS(R:au c ρ σ s)(g:s.heap.get? xa=some (iI vs k))(h:(if n=199 then some (AV.val (.builtin "list.append")) else if n=197 then some (.val (.builtin "list.extend")) else none)=some f):W c (getMethod (.ref xa) (nm n) pl) (MX c ρ σ f (.ref xa)) s:=by
 by_cases q:n=199
 ·obtain rfl:=sI ((if_pos q).symm.trans h);refine ac q<|ah (getMethod_builtin ⟨_,g,rfl⟩ PySem.F.plainAttrs_list PySem.F.slot_list_append PySem.F.type_list_append (λ a e=>by obtain rfl:=Value.ref.inj e;exact⟨_,g,rfl⟩) ⟨_,rfl,rfl,R⟩)
 ·refine ai ((if_neg q).symm.trans h) λ q h1=>?_;(clear h;replace h1:=sI h1;obtain rfl:=h1);refine ac q<|ah (getMethod_builtin ⟨_,g,rfl⟩ PySem.F.plainAttrs_list PySem.F.slot_list_extend PySem.F.type_list_extend (λ a e=>by(replace e:=Value.ref.inj e;obtain rfl:=e);exact⟨_,g,rfl⟩) ⟨_,rfl,rfl,R⟩)
theorem Dh(hT:AS T)(C:aQ c d)(R:au c ρ σ s)(x:Is ρ (.obj i) v)(e:σ.obs[i]?=some o)(h:KQ T o n=some f):W c (getMethod v (nm n) pl) (MX c ρ σ f v) s:=by
 have⟨τ,xa,ev,q,_,_⟩:=R.obj e x;cases o with
 | ins C' f'=>
  refine ai h λ hn h1=>?_;(refine aF h1 λ g hg PZ=>?_;obtain rfl:=PZ);refine aP q λ dx es k c0 c1 ent=>?_;refine ac ev<|jY C R (hT _ _ _ hg) c0.g c1.g ent hn
 | ktb S=>
  refine gP h λ hn h1=>?_;(refine aF h1 λ g hg PZ=>?_;obtain rfl:=PZ);(refine fg.el q λ dx dm dl om ol es k kvs v1 v2 t c0 c1 _ _ ek p1 p2 _ _ _ _=>?_;clear q);refine ac ev<|jY C R (hT _ _ _ hg) c0.g c1.g (ek.ent (l:=[.val (.ref dm),.val (.ref dl),Mine.ofP (aJ S.pre),Mine.ofP (aJ S.sec),.int 500]) (ay.k rfl (ay.k rfl (ay.k p1.ofP (ay.k p2.ofP (ay.k ⟨_,rfl⟩ rfl)))))) (pY (Bool.not_eq_true _▸hn))
 | lst l=>refine aZ q λ vs k cl y=>?_;refine ac ev ?_;exact zS R cl.g h
 | bar b=>
  refine ai h λ hn h1=>?_;(replace h1:=sI h1;obtain rfl:=h1);refine ac ev (ac hn ?_);exact ah (getMethod_builtin (dW q.g) x8 md kz (λ x e=>by obtain rfl:=Value.ref.inj e;exact⟨_,q.g,rfl⟩) ⟨_,rfl,rfl,R⟩)
 | dic l=>exact gU R x e h
 | frd l=>exact gU R x e h
 | dip m kn e' em l=>exact gU R x e h
 | dir t y A B=>exact gU R x e h
 | _=>exact nn h
theorem A5(hT:AS T)(C:aQ c d)(R:au c ρ σ s)(x:Is ρ a v)(h:Gi T σ.obs a n=some f):W c (getMethod v (nm n) pl) (MX c ρ σ f v) s:=by
 cases a with
 | obj i=>
  refine ae h λ o e h1=>Dh hT C R x e h1
 | byt b=>
  refine ai h λ hn h1=>?_;obtain rfl:=Option.some.inj h1;(refine aA x λ t P2=>?_;clear x;obtain rfl:=P2);refine ac hn<|ah (getMethod_builtin (PySem.W.typeIs_bytes _ _ _) PySem.W.FB.plainAttrs_bytes nH AD (λ x e=>(by cases e)) ⟨_,rfl,rfl,R⟩)
 | pv p=>
  cases p with
  | bnd r=>
   refine gP h λ hn h1=>?_;(refine aF h1 λ g hg PZ=>?_;(clear h1;obtain rfl:=PZ));(refine aA x λ k y=>?_;clear x);cases k with
   | zero=>exact y.elim
   | succ k=>
    (refine ag y λ xa P2 hm=>?_;clear y;obtain rfl:=P2);obtain⟨τ,dx,es,m,vk,v,vn,c0,c1,ek,y1,y2,y3⟩:=R.bdr hm;exact jY C R (hT _ _ _ hg) c0.g c1.g (ek.ent (l:=[AV.byt r.key,.val v,.boo r.rep,.byt r.note]) (ay.k y1.ofP (ay.k rfl (ay.k rfl (ay.k y2.ofP rfl))))) (pY (Bool.not_eq_true _▸hn))
  | _=>exact nn h
 | _=>exact nn h
end
section
set_option tactic.hygienic true
section
variable{prog:Program}{w:World}{A:Around}{E:Value->Shared->Prop}{s:Shared}{h₀:Heap}{env:Env}{m:Str->Option Value}{news:List (Addr×Obj)}{R:Result->Shared->Prop}
theorem pw(hb:ly c)(hq:c.quiet=true)(I:Nat->Shared->Prop)
  (turn:∀n s,I n s->aB M (A.under c) (M.den c) (λ fin s'=>match fin with
    | .done f=>R (.ok f) s'
    | .again c'=>(c'=c/\∃m,m<n/\I m s')\/(c'.quiet=true/\aL M A c' R s')) (λ e s'=>R (.error e) s') s)
  (n:Nat) (h:I n s):aL M A c R s:=by
 induction n using Nat.strongRecOn generalizing s with
 | ind n ih=>
  refine aV hb (aK (turn n s h) λ fin s' hf=>?_);cases fin with
  | done f=>exact hf
  | again c'=>
   rcases hf with ⟨rfl,m,hm,hI⟩|hf
   ·exact⟨hq,ih m hm hI⟩
   ·exact hf
theorem gw{m:Sem α}(h:aB M A m Q (notedBy M A env E) s):aB M A (m.onRaise λ x=>do noteFrame x env;theTreesLotGoes x) Q E s:=
 bR (ax h (λ _ _ q=>q) λ _ _ hx=>wpAny_bind (wpAny_mono hx (λ _ _ e=>wpAny_theTreesLotGoes e) λ _ _ e=>e))
theorem px(h:aB (model prog w) A (execs stmts env) (λ f s'=>R (.ok f) s') (notedBy (model prog w) A env λ e s'=>R (.error e) s') s):aL (model prog w) A (.block stmts env) R s:=by
 refine aV (λ _ _=>rfl)<|(?_:aB _ _ (do return Fin.done (← (execs stmts env).onRaise (λ x=>do noteFrame x env;theTreesLotGoes x))) _ _ s)
 exact aj (gw (ax h (λ f s' h'=>al h') λ _ _ h'=>h'))
theorem fV(I:Nat->Shared->Prop)
  (turn:∀n s,I n s->aB (model prog w) A (pyNext it) (λ r s₁=>match r with
   | none=>R (.ok .next) s₁
   | some v=>aB (model prog w) A (letOwnedTupleGo target it v) (λ _ Q3=>
     aB (model prog w) A (assign target env v) (λ _ P0=>aB (model prog w) A (execs body env) (λ f s₃=>match f with
      | .next|.cont=>∃m,m<n/\I m s₃
      | .brk=>R (.ok .next) s₃
      | .ret v=>R (.ok (.ret v)) s₃) (notedBy (model prog w) A env λ e s'=>R (.error e) s') P0) (notedBy (model prog w) A env λ e s'=>R (.error e) s') Q3) (notedBy (model prog w) A env λ e s'=>R (.error e) s') s₁) (notedBy (model prog w) A env λ e s'=>R (.error e) s') s)
  (n:Nat) (h:I n s):aL (model prog w) A (.forLoop target it body [] env) R s:=by
 refine pw (λ _ _=>rfl) rfl I (λ n s hI=>?_) n h;refine(?_:aB _ A ((forTurn target it body [] env).onRaise (λ x=>do noteFrame x env;theTreesLotGoes x)) _ _ s);refine gw ?_;simp only[forTurn];refine aw (aj (bR (ax (turn n s hI) (λ r s₁ h₁=>?_) λ _ _ h'=>wpAny_standAt h')));cases r with
 | none=>exact al (.inr ⟨rfl,px (ah (wpAny_execs_nil h₁))⟩)
 | some v=>
  refine aj (ax h₁ (λ _ Q3 Rl=>?_) λ _ _ h'=>h');refine aj (ax Rl (λ _ P0 Qa=>aj (ax Qa (λ f s₃ Qo=>?_) λ _ _ h'=>h')) λ _ _ h'=>h');cases f with
  | next=>exact al (.inl ⟨rfl,Qo⟩)
  | cont=>exact al (.inl ⟨rfl,Qo⟩)
  | brk=>exact al Qo
  | ret v=>exact al Qo
theorem DH{Q:Flow->Shared->Prop}(J:Nat->Shared->Prop)
  (S:bD prog w A xv s.heap n P dep) (h0:∀o,o.isFreed=false->J 0 {s with heap:=s.heap.push o})
  (hdep:∀i s',J i s'->∀b∈dep,∀o,s.heap.get? b=some o->s'.heap.get? b=some o)
  (hch:∀i s' h' tk,J i s'->(∀b o,b∉[s.heap.objs.size]->s'.heap.get? b=some o->h'.get? b=some o)->J i {s' with heap:=h',toks:=tk})
  (hE:PassesOwn (model prog w) A env E)
  (turn:∀i v s' oI,i<n->J i s'->s'.heap.get? s.heap.objs.size=some oI->P i v->
   aB (model prog w) A (assign target env v) (λ _ s₃=>aB (model prog w) A (execs body env) (λ f Ql=>match f with|.ret v=>Q (.ret v) Ql|.brk=>Q .next Ql|_=>J (i+1) Ql/\Ql.heap.get? s.heap.objs.size=some oI) E s₃) E s')
  (done:∀s',J n s'->Q .next s') :
  aB (model prog w) A (pyIter xv) (λ it P0=>aL (model prog w) A (.forLoop target it body [] env) (λ r s'=>match r with|.ok f=>Q f s'|.error e=>cameBackBy (model prog w) A env E e s') P0) E s:=by
 refine ah (S.iter s _ _ rfl λ o fp St hfr W hfp hst hIo hgo=>?_);refine fV (λ k s'=>∃i,St i s'.heap/\J i s'/\i<=n/\k=n+1-i) ?_ (n+1) ⟨0,hst,h0 o hfr,Nat.zero_le _,rfl⟩;rintro k s' ⟨i,hst',hJ,hi,rfl⟩;by_cases hlt:i<n
 ·refine ah (W.item i _ _ _ hlt hst' λ v h₁ Rb hP Q7 hk₁=>?_);have J₁:=hch i s' h₁ Rb hJ hk₁;obtain⟨oI,heI⟩:=hIo _ _ Q7;refine ah (hgo target (i+1) _ v _ _ Q7 ?_);refine ax (turn i v _ oI hlt J₁ heI hP) (λ _ P0 Qa=>ax Qa (λ f s₃ Qo=>?_) hE) hE;have fin:J (i+1) s₃/\s₃.heap.get? s.heap.objs.size=some oI->∃m,m<n+1-i/\∃i,St i s₃.heap/\J i s₃/\i<=n/\m=n+1-i:=λ⟨Sm,Qh⟩=>
   ⟨n+1-(i+1),by omega,i+1,W.frame _ _ _ Q7 (λ b hb o' e=>by
    rcases hfp b hb with rfl|hd
    ·exact(sI (heI.symm.trans e))▸Qh
    ·obtain⟨ob,hob⟩:=S.has b hd;refine bP (sI ((hdep i _ J₁ b hd ob hob).symm.trans e))<|hdep (i+1) s₃ Sm b hd _ hob),Sm,hlt,rfl⟩
  cases f with
  | ret v=>exact Qo
  | brk=>exact Qo
  | cont=>exact fin Qo
  | next=>exact fin Qo
 ·obtain rfl:i=n:=by omega
  exact ah (W.done _ _ _ hst' λ h₁ Rb hk₁=>done _ (hch _ s' h₁ Rb hJ hk₁))
theorem mu(h:aB (model prog w) A (eval iter env) P E s)
  (k:∀x s₁,P x s₁->aB (model prog w) A (pyIter x) (λ it P0=>aL (model prog w) A (.forLoop target it body [] env) (λ r s'=>match r with|.ok f=>Q f s'|.error e=>cameBackBy (model prog w) A env E e s') P0) E s₁)
  (hs:∀x,foldedSetIterable iter env x=pure x):aB (model prog w) A (exec (.For target iter body [] pos) env) Q E s:=by
 refine ac (exec_For _ _ _ _ _)<|aw (aH h λ x s₁ h₁=>?_);rw[hs];exact az (wpAny_pure (aw (aH (ak (k x s₁ h₁)) λ it P0 Qa=>jq Qa)))
theorem pu(I:Nat->Shared->Prop)
  (turn:∀n s,I n s->aB (model prog w) A (isTrue test env (eval test env)) (λ b P0=>
    if b then aB (model prog w) A (execs body env) (λ f s₃=>match f with
      | .next|.cont=>∃m,m<n/\I m s₃
      | .brk=>R (.ok .next) s₃
      | .ret v=>R (.ok (.ret v)) s₃) (notedBy (model prog w) A env λ e s'=>R (.error e) s') P0
    else R (.ok .next) P0)
    (notedBy (model prog w) A env λ e s'=>R (.error e) s') s)
  (n:Nat) (h:I n s):aL (model prog w) A (.whileLoop test body [] env) R s:=by
 refine kh (λ _ _=>rfl) rfl I (λ n s hI=>?_) n h;refine(?_:aB _ A ((whileTurn test body [] env).onRaise (λ x=>do noteFrame x env;theTreesLotGoes x)) _ _ s);refine gw ?_;simp only[whileTurn];refine aH (turn n s hI) λ b P0 Qa=>?_;cases b with
 | false=>
  simp only[Bool.false_eq_true,if_false] at Qa ⊢;exact ah (wpAny_bind (wpAny_execs_nil (wpAny_pure Qa)))
 | true=>
  simp only[if_true] at Qa ⊢;refine aH Qa λ f s₃ Qo=>?_;cases f with
  | next=>exact al ⟨rfl,Qo⟩
  | cont=>exact al ⟨rfl,Qo⟩
  | brk=>exact al Qo
  | ret v=>exact al Qo
end
end
noncomputable def Cx.hold(c:Cx)(a:Addr)(o:Obj)(k:Nat):Cx:={c with fx:=λ b p j=>c.fx b p j\/b=a/\p=o/\j=k}
theorem aQ.hold(C:aQ c d):aQ (c.hold a o k) d:=⟨C.B,C.FF,C.off,C.X,C.T,C.hk,C.hd,C.hu,C.hE,C.hc,C.hc2⟩
section
variable{c:Cx}{d:Nat}{ρ ρ':RR}{σ σ':St}{s:Shared}{a:AV}{h:Heap}{τ:Addr->bo}{os os':List AO}{ph:Bool}
noncomputable def gA(τ:Addr->bo)(x:Addr)(t:bo):Addr->bo:=λ b=>if b=x then t else τ b
theorem b8(h:b≠x):gA τ x t b=τ b:=if_neg h
theorem cx:gA τ x t x=t:=if_pos rfl
theorem Cl.turn{t:bo}(cl:Cl h τ k j b o)(n:τ x≠(k,j)):Cl h (gA τ x t) k j b o:=⟨cl.g,(b8 λ q=>n ((congrArg τ q).symm.trans cl.t)).trans cl.t⟩
structure Kq(c c':Cx)(h:Heap)(τ:Addr->bo)(ρ:RR)(os os':List AO)(x:Addr)(t:bo):Prop where
 n:t.1≠0->rB c.h₀ c.L h x
 y:∀k j,t=(k+2,j)->(x==sysModules)=false
 sz:os'.length=os.length
 o:∀j o,os'[j]?=some o->os[j]?=some o/\(∀m,τ x≠(j+3,m))/\(∀b p,c.fx b p (j+3)->c'.fx b p (j+3))\/∃b,ρ.ad[j]?=some b/\OR c'.w c'.fx h (gA τ x t) ρ (j+3) o b
 xx:∀b p k,c'.fx b p k->c.fx b p k/\b≠x\/b=x/\h.get? x=some p/\t=(1,k+1)
 z:τ x≠(1,0)
 b:∀j,τ x≠(2,j)
theorem aR.turn(w:c'.w=c.w)(h₀:c'.h₀=c.h₀)(L:c'.L=c.L)(K:aR c h τ ρ os ph)(T:Kq c c' h τ ρ os os' x t):aR c' h (gA τ x t) ρ os' ph:=by
 obtain⟨tn,ty,tsz,tO,txx,tz,tb⟩:=T;refine⟨λ b q=>?_,λ b k j q=>?_,K.sz.trans tsz.symm,λ j o e=>?_,λ b o z=>(K.Z b o z).turn tz,λ b o k z=>?_,λ b r z=>(K.B b r z).imp (λ zz zz j cl=>cl.turn (tb j)) Fz.Le.refl⟩
 ·refine ac h₀ (ac L ?_);by_cases e:b=x
  ·rw[e,cx] at q;refine ac e ?_;exact tn q
  ·rw[b8 e] at q;exact K.N b q
 ·by_cases e:b=x
  ·rw[e,cx] at q;refine ac e ?_;exact ty _ _ q
  ·rw[b8 e] at q;exact K.Y b _ _ q
 ·rcases tO j o e with ⟨e',n1,n2⟩|r
  ·refine ag (K.O j o e') λ b e1 q=>⟨b,e1,w▸q.imp (λ zz zz m cl=>cl.turn (n1 m)) RR.Le.refl n2⟩
  ·exact r
 ·rcases txx b o k z with ⟨z,n⟩|⟨rfl,g,q⟩
  ·exact⟨(K.X b o k z).g,(b8 n).trans (K.X b o k z).t⟩
  ·exact⟨g,cx.trans q⟩
theorem qj(h:j≠i):(i+3,k)≠(j+3,m):=λ q=>h (Nat.add_right_cancel (congrArg Prod.fst q)).symm
theorem ie:(i+3,k)≠(1,m):=λ q=>(nq (congrArg Prod.fst q) rfl)
theorem my:(i+3,k)≠(2,m):=λ q=>(nq (congrArg Prod.fst q) rfl)
theorem qk:(1,m)≠(i+2,k):=λ q=>(nq (congrArg Prod.fst q) rfl)
theorem vi:(1,m)≠(i+3,k):=λ q=>(nq (congrArg Prod.fst q) rfl)
theorem vl:(1,i+1)≠(1,0):=λ q=>(nq (congrArg Prod.snd q) rfl)
theorem vj:(1,m)≠(2,i):=λ q=>(nq (congrArg Prod.fst q) rfl)
inductive tj(c:Cx)(ρ:RR)(σ:St)(s:Shared)(i:Nat)(o':AO)(v:Value)(P:Obj->Prop):Prop
 | mk (xa:Addr) (ob:Obj) (p:P ob) (e:v=.ref xa) (e':ρ.ad[i]?=some xa) (g:s.heap.get? xa=some ob) (nf:∀p k,¬c.fx xa p k) (sm:(xa==sysModules)=false) (R:au (c.hold xa ob (i+3)) ρ {σ with obs:=σ.obs.set i o'} s)
theorem au.held(R:au c ρ σ s)(e:σ.obs[i]?=some o)(x:Is ρ (.obj i) v)(H:∀τ xa,OR c.w c.fx s.heap τ ρ (i+3) o xa->∃ob,Cl s.heap τ (i+3) 0 xa ob/\P ob)
  (H':∀xa ob τ fx,P ob->(xa==sysModules)=false->fx xa ob (i+3)->OR c.w fx s.heap τ ρ (i+3) o' xa):tj c ρ σ s i o' v P:=by
 (refine au.el R λ m τ F L K r=>?_;clear R);refine ag (K.O i o e) λ xa e1 q=>ag x λ b e2 e3=>ag (H τ xa q) λ ob cl p=>?_;have sm:=K.Y _ _ _ cl.t;have nf:∀p k,¬c.fx xa p k:=λ p k z=>ie (cl.t.symm.trans (K.X xa p k z).t);have K':aR (c.hold xa ob (i+3)) s.heap (gA τ xa (1,i+4)) ρ (σ.obs.set i o') σ.ph:=aR.turn (c:=c) rfl rfl rfl K ⟨λ zz=>K.N xa cl.own,λ k j q=>(qk q).elim,List.length_set,λ j o1 e1'=>?_,λ b p k z=>z.imp (λ z=>⟨z,λ q=>nf p k (q▸z)⟩) λ z=>⟨z.1,by refine ac z.2.1 ?_;exact cl.g,by exact ac z.2.2 rfl⟩,λ q=>ie (cl.t.symm.trans q),λ j q=>my (cl.t.symm.trans q)⟩
 ·exact⟨xa,ob,p,e2.trans (congrArg Value.ref (sI (e3.symm.trans e1))),e1,cl.g,nf,sm,⟨m,_,F,L,K',r⟩⟩
 ·rcases kG e1' with ⟨rfl,rfl⟩|⟨q1,q2⟩
  ·exact .inr ⟨xa,e1,H' _ _ _ _ p sm (.inr ⟨rfl,rfl,rfl⟩)⟩
  ·exact .inl ⟨q2,λ m=>by refine ac cl.t ?_;exact qj q1,λ zz zz=>.inl⟩
theorem tj.el{P':Prop}(hh:tj c ρ σ s i o' v P)(kk:∀(xa:Addr) (ob:Obj) (p:P ob) (e:v=.ref xa) (e':ρ.ad[i]?=some xa) (g:s.heap.get? xa=some ob) (nf:∀p k,¬c.fx xa p k) (sm:(xa==sysModules)=false) (R:au (c.hold xa ob (i+3)) ρ {σ with obs:=σ.obs.set i o'} s),P'):P':=by
 obtain⟨xa,ob,p,e,e',g,nf,sm,R⟩:=hh;exact kk xa ob p e e' g nf sm R
inductive aX(c:Cx)(ρ:RR)(σ:St)(s:Shared)(P:Addr->Prop):Prop
 | mk (m:Str->Option Value) (τ:Addr->bo) (F:Fr c.h₀ c.L s.heap m) (L:c6 ρ σ.loc (dn c.vc m)) (K:aR c s.heap τ ρ σ.obs σ.ph) (r:lu c.s s) (t:∀x,P x->(τ x).1=0/\c.L≠x/\c.h₀.get? x=none):aX c ρ σ s P
theorem aX.el{P':Prop}(hh:aX c ρ σ s P)(kk:∀(m:Str->Option Value) (τ:Addr->bo) (F:Fr c.h₀ c.L s.heap m) (L:c6 ρ σ.loc (dn c.vc m)) (K:aR c s.heap τ ρ σ.obs σ.ph) (r:lu c.s s) (t:∀x,P x->(τ x).1=0/\c.L≠x/\c.h₀.get? x=none),P'):P':=by
 obtain⟨m,τ,F,L,K,r,t⟩:=hh;exact kk m τ F L K r t
theorem aX.rel(R:aX c ρ σ s P):au c ρ σ s:=by
 (refine aX.el R λ m τ F L K r _=>?_;clear R);exact⟨m,τ,F,L,K,r⟩
theorem au.toN(R:au c ρ σ s):aX c ρ σ s λ zz=>False:=by
 (refine au.el R λ m τ F L K r=>?_;clear R);exact⟨m,τ,F,L,K,r,λ zz h=>h.elim⟩
theorem aX.sub(R:aX c ρ σ s P)(h:∀x,Q x->P x):aX c ρ σ s Q:=by
 (refine aX.el R λ m τ F L K r t=>?_;clear R);exact⟨m,τ,F,L,K,r,λ x q=>t x (h x q)⟩
theorem aX.reput(R:aX c ρ σ s P)(hx:ρ.ad[i]?=some xa)(H:∀τ,OR c.w c.fx s.heap τ ρ (i+3) o xa):aX c ρ {σ with obs:=σ.obs.set i o} s P:=by
 (refine aX.el R λ m τ F L K r t=>?_;clear R);refine⟨m,τ,F,L,⟨K.N,K.Y,K.sz.trans List.length_set.symm,λ j o1 e1=>?_,K.Z,K.X,K.B⟩,r,t⟩;rcases kG e1 with ⟨rfl,rfl⟩|⟨_,q⟩
 ·exact⟨xa,hx,H τ⟩
 ·exact K.O j o1 q
theorem aX.freed(nf:∀p k,¬c.fx xa p k)(sm:(xa==sysModules)=false)(hx:ρ.ad[i]?=some xa)(R:aX (c.hold xa ob (i+3)) ρ σ s P)(H:∀τ,Cl s.heap τ (i+3) 0 xa ob->OR c.w c.fx s.heap τ ρ (i+3) o xa):aX c ρ {σ with obs:=σ.obs.set i o} s P:=by
 (refine aX.el R λ m τ F L K r t=>?_;clear R);have cl:=K.X xa ob (i+3) (.inr ⟨rfl,rfl,rfl⟩);have K':aR c s.heap (gA τ xa (i+3,0)) ρ (σ.obs.set i o) σ.ph:=aR.turn (c:=c.hold xa ob (i+3)) rfl rfl rfl K ⟨λ zz=>K.N xa cl.own,λ k j q=>sm,List.length_set,λ j o1 e1'=>?_,λ b p k z=>.inl ⟨.inl z,λ q=>nf p k (q▸z)⟩,λ q=>vl (cl.t.symm.trans q),λ j q=>vj (cl.t.symm.trans q)⟩
 ·exact⟨m,_,F,L,K',r,λ x hp=>⟨(congrArg Prod.fst (b8 λ q:x=xa=>cl.own ((congrArg (λ b=>(τ b).1) q).symm.trans (t x hp).1))).trans (t x hp).1,(t x hp).2⟩⟩
 ·rcases kG e1' with ⟨rfl,rfl⟩|⟨q1,q2⟩
  ·exact .inr ⟨xa,hx,H _ ⟨cl.g,cx⟩⟩
  ·exact .inl ⟨q2,λ m=>by refine ac cl.t ?_;exact vi,λ b p z=>z.elim id λ z=>(q1 (Nat.add_right_cancel z.2.2)).elim⟩
end
section
variable{c:Cx}{d:Nat}{ρ ρ':RR}{σ σ':St}{s:Shared}{a:AV}{I:Addr}{oI:Obj}
theorem Ip(F:Fr h₀ L h m)(hb:@LE.le Nat _ h.objs.size b):h₀.get? b=none:=by
 cases q:h₀.get? b with
 | none=>rfl
 | some o'=>exact absurd (Heap.lt_size (F.keep _ _ q)) (Nat.not_lt.mpr hb)
theorem vU{os:List AO}(K:aR c h τ ρ os ph)(hx:@LE.le Nat _ h.objs.size x):(τ x).1=0:=Classical.byContradiction λ q=>by
 refine lW ((K.N x q).g) λ o e=>absurd (Heap.lt_size e) (Nat.not_lt.mpr hx)
theorem au.new(R:au c ρ σ s)(g:lB s.heap h'):aX c ρ σ {s with heap:=h',toks:=k} λ x=>@LE.le Nat _ s.heap.objs.size x:=by
 (refine au.el R λ m τ F L K r=>?_;clear R);exact⟨m,τ,F.keeps g,L,K.grow g,r,λ x hx=>⟨vU K hx,Nat.ne_of_lt (Nat.lt_of_lt_of_le F.ns.lt hx),Ip F hx⟩⟩
theorem au.fxno(R:au c ρ σ s)(hI:@LE.le Nat _ s.heap.objs.size I):∀p k,¬c.fx I p k:=λ p k z=>by
 (refine au.el R λ m τ F L K r=>?_;clear R);exact absurd (Heap.lt_size (K.X I p k z).g) (Nat.not_lt.mpr hI)
theorem aX.but(R:aX c ρ σ s P)(hI:P I)(hk:∀b o,b∉[I]->s.heap.get? b=some o->h'.get? b=some o):aX c ρ σ {s with heap:=h',toks:=k} P:=by
 (refine aX.el R λ m τ F L K r t=>?_;clear R);refine cg (t I hI) λ t1 l n=>?_;have ne:∀b,(τ b).1≠0->b∉[I]:=λ b q z=>q ((congrArg (λ b=>(τ b).1) (mS z)).trans t1);exact⟨m,τ,fr_but F hk l n,L,K.imp (λ b o k j hk' cl=>⟨hk b o (ne b (by refine ac cl.t ?_;exact hk')) cl.g,cl.t⟩) (λ b q=>by
  obtain⟨g,l,n⟩:=K.N b q;refine lW g λ o e=>⟨by refine ac (hk b o (ne b q) e) ?_;rfl,l,n⟩) K.Y,r,t⟩
theorem aX.hold(R:aX c ρ σ s P)(hI:P I)(j:Nat)(g:s.heap.get? I=some oI):aX (c.hold I oI j) ρ σ s λ x=>P x/\x≠I:=by
 (refine aX.el R λ m τ F L K r t=>?_;clear R);refine cg (t I hI) λ t1 l n=>?_;have ne:∀k i,k≠0->τ I≠(k,i):=λ k i hk q=>hk ((congrArg Prod.fst q).symm.trans t1);exact⟨m,_,F,L,aR.turn (c:=c) (c':=c.hold I oI j) (x:=I) (t:=(1,j+1)) (os':=σ.obs) rfl rfl rfl K ⟨λ zz=>⟨by refine ac g ?_;rfl,λ q=>l q.symm,n⟩,λ k i q=>(qk q).elim,rfl,λ i o e=>.inl ⟨e,λ m=>ne _ _ (Nat.succ_ne_zero _),λ zz zz=>.inl⟩,
  λ b p k z=>z.imp (λ z=>⟨z,λ q=>ne 1 (k+1) Nat.one_ne_zero (q▸(K.X b p k z).t)⟩) λ z=>⟨z.1,by refine ac z.2.1 ?_;exact g,by exact ac z.2.2 rfl⟩,ne _ _ Nat.one_ne_zero,λ j=>ne _ _ (by decide)⟩,r,λ x q=>⟨by refine ac (b8 q.2) ?_;exact(t x q.1).1,(t x q.1).2⟩⟩
theorem aX.drop(nf:∀p k,¬c.fx I p k)(hj:j<3)(R:aX (c.hold I oI j) ρ σ s P):aX c ρ σ s (λ x=>P x\/x=I)/\s.heap.get? I=some oI:=by
 (refine aX.el R λ m τ F L K r t=>?_;clear R);have cl:=K.X I oI j (.inr ⟨rfl,rfl,rfl⟩);have ow:=K.N I cl.own;have K':aR c s.heap (gA τ I (0,0)) ρ σ.obs σ.ph:=aR.turn (c:=c.hold I oI j) rfl rfl rfl K ⟨λ q=>(q rfl).elim,λ k i q=>(nq (congrArg Prod.fst q) rfl),rfl,λ i o e=>.inl ⟨e,λ m q=>vi (cl.t.symm.trans q),λ b p z=>z.elim id λ z=>by have:=z.2.2;lia⟩,λ b p k z=>.inl ⟨.inl z,λ q=>nf p k (q▸z)⟩,λ q=>vl (cl.t.symm.trans q),λ j q=>vj (cl.t.symm.trans q)⟩;refine⟨⟨m,_,F,L,K',r,λ x q=>?_⟩,cl.g⟩;by_cases e:x=I
 ·refine ac e ?_;exact⟨congrArg Prod.fst cx,λ q=>ow.l q.symm,ow.n⟩
 ·have z:=t x (q.resolve_right e);exact⟨by refine ac (b8 e) ?_;exact z.1,z.2⟩
theorem aX.ice(R:aX c ρ σ s P)(hI:P I)(g:s.heap.get? I=some oI):aX c (ρ.ice λ a o=>a=I/\o=oI) σ s λ x=>P x/\x≠I:=by
 (refine aX.el R λ m τ F L K r t=>?_;clear R);refine cg (t I hI) λ t1 l n=>?_;have ne:∀k i,k≠0->τ I≠(k,i):=λ k i hk q=>hk ((congrArg Prod.fst q).symm.trans t1);have K':=aR.turn (c:=c) (c':=c) (x:=I) (t:=(1,0)) (os':=σ.obs) rfl rfl rfl K ⟨λ zz=>⟨by refine ac g ?_;rfl,λ q=>l q.symm,n⟩,λ k i q=>(qk q).elim,rfl,λ i o e=>.inl ⟨e,λ m=>ne _ _ (Nat.succ_ne_zero _),λ zz zz z=>z⟩,
  λ b p k z=>.inl ⟨z,λ q=>ne 1 (k+1) Nat.one_ne_zero (q▸(K.X b p k z).t)⟩,ne _ _ Nat.one_ne_zero,λ j=>ne _ _ (by decide)⟩
 exact⟨m,_,F,L.mono RR.Le.ice,⟨K'.N,K'.Y,K'.sz,λ i o e=>by
  refine ag (K'.O i o e) λ a e1 q=>⟨a,e1,q.imp (λ zz zz zz h=>h) RR.Le.ice λ zz zz h=>h⟩,λ b o z=>z.elim (K'.Z b o) λ z=>⟨by refine ac z.1 (ac z.2 ?_);exact g,by refine ac z.1 ?_;exact cx⟩,K'.X,λ b r z=>(K'.B b r z).imp (λ zz zz zz h=>h) RR.Le.ice.z⟩,r,λ x q=>⟨by refine ac (b8 q.2) ?_;exact(t x q.1).1,(t x q.1).2⟩⟩
theorem aX.psh(R:aX c ρ σ s P)(hI:P I)(sm:(I==sysModules)=false)(g:s.heap.get? I=some oI)(H:∀τ,Cl s.heap τ (σ.obs.length+3) 0 I oI->OR c.w c.fx s.heap τ (ρ.psh I) (σ.obs.length+3) o I):au c (ρ.psh I) {σ with obs:=σ.obs++[o] } s:=by
 (refine aX.el R λ m τ F L K r t=>?_;clear R);refine cg (t I hI) λ t1 l n=>?_;have ne:∀k i,k≠0->τ I≠(k,i):=λ k i hk q=>hk ((congrArg Prod.fst q).symm.trans t1);have K':=aR.turn (c:=c) (c':=c) (x:=I) (t:=(σ.obs.length+3,0)) (os':=σ.obs) rfl rfl rfl K ⟨λ zz=>⟨by refine ac g ?_;rfl,λ q=>l q.symm,n⟩,λ k i q=>sm,rfl,λ i o e=>.inl ⟨e,λ m=>ne _ _ (Nat.succ_ne_zero _),λ zz zz z=>z⟩,
  λ b p k z=>.inl ⟨z,λ q=>ne 1 (k+1) Nat.one_ne_zero (q▸(K.X b p k z).t)⟩,ne _ _ Nat.one_ne_zero,λ j=>ne _ _ (by decide)⟩
 exact⟨m,_,F,L.mono RR.Le.psh,⟨K'.N,K'.Y,by refine(?_:(ρ.ad++[I]).length=_);refine ac List.length_append (ac List.length_append (ac K.sz ?_));rfl,λ i o1 e=>by
  rcases th e with e|⟨rfl,rfl⟩
  ·refine ag (K'.O i o1 e) λ a e1 q=>⟨a,RR.Le.psh.a _ _ e1,q.imp (λ zz zz zz h=>h) RR.Le.psh λ zz zz h=>h⟩
  ·exact⟨I,K.sz▸cD,H _ ⟨g,cx⟩⟩,K'.Z,K'.X,K'.B⟩,r⟩
noncomputable def Cx.fix(c:Cx)(f:Addr->Obj->Nat->Prop):Cx:={c with fx:=f}
structure LZ(c:Cx)(ρ:RR)(σ:St)(v:AV)(vs:List AV)(os:List AO)(val:Value)(f:Addr->Obj->Nat->Prop)(P:Nat->Value->Prop)(dep:List Addr)(s:Shared):Prop where
 rel:au (c.fix f) ρ {σ with obs:=os} s
 src:bD PySem.Challenge.rw_og0284_01.prog c.w c.A val s.heap vs.length P dep
 is_:∀i u,P i u->∃a,vs[i]?=some a/\Is ρ a u
 dep_:∀b∈dep,∀ρ' σ' s' o,ρ.Le ρ'->au (c.fix f) ρ' σ' s'->s.heap.get? b=some o->s'.heap.get? b=some o
 back:∀ρ' σ' s' (P:Addr->Prop),ρ.Le ρ'->aX (c.fix f) ρ' σ' s' P->aX c ρ' {σ' with obs:=uY σ.obs σ'.obs v} s' P
theorem f7(y:IsL ρ vs us)(i:Nat)(u:Value)(e:us.toArray[i]?=some u):∃a,vs[i]?=some a/\Is ρ a u:=by
 rw[List.getElem?_toArray] at e;have hi:i<vs.length:=by refine bP y.len ?_;exact(List.getElem?_eq_some_iff.mp e).1
 refine ag (y.get (List.getElem?_eq_getElem hi)) λ u' e1 e2=>?_;exact⟨_,List.getElem?_eq_getElem hi,sI (e1.symm.trans e)▸e2⟩
theorem wF(y:fE (Is ρ) l kvs)(i:Nat)(u:Value)(h:∃k x,kvs[i]?=some (k,x)/\(bytesKind PySem.Challenge.rw_og0284_01.prog c.w).is k u=true):∃a,(l.map λ x=>AV.byt x.1)[i]?=some a/\Is ρ a u:=by
 refine aZ h λ k z e hk=>?_;have e1:(kvs.map (·.1))[i]?=some k:=by refine ac (List.getElem?_map) (ac e ?_);rfl
 rw[y.keys,List.getElem?_map] at e1;(refine aF e1 λ p hp PZ=>?_;obtain rfl:=PZ);refine⟨.byt p.1,by refine ac (List.getElem?_map) (ac hp ?_);rfl,?_⟩;have hk:PySem.W.isBytes p.1 u=true:=hk;cases u with
 | bytes b t=>
  have:b.toList=p.1:=eq_of_beq hk;exact⟨t,by exact bP this (ac Array.toArray_toList rfl)⟩
 | _=>exact ff hk
theorem d6(g:h.get? xa=some (rQ b us n))(y:IsL ρ l us):bD PySem.Challenge.rw_og0284_01.prog c.w c.A (.ref xa) h l.length (λ i v=>us.toArray[i]?=some v) [xa]:=by
 refine bP y.len (bP List.size_toArray ?_);cases b with
 | true=>exact bD.list rfl ⟨_,g,rfl,n,rfl⟩
 | false=>exact bD.tuple rfl ⟨_,g,rfl,n,rfl⟩
theorem wC(lo:(xa==sysModules)=false)(g:h.get? xa=some ob)(D:bF c.w ob kvs)(y:fE (Is ρ) l kvs):bD PySem.Challenge.rw_og0284_01.prog c.w c.A (.ref xa) h (l.map λ x=>AV.byt x.1).length (λ i v=>∃k x,kvs[i]?=some (k,x)/\(bytesKind PySem.Challenge.rw_og0284_01.prog c.w).is k v=true) [xa]:=by
 refine ac (List.length_map _) (bP y.len ?_);exact bD.dict rfl lo (Heap.dictOf_iff.mpr ⟨ob,g,D⟩)
noncomputable def AN(c:Cx)(ρ:RR)(σ:St)(v:AV)(vs:List AV)(os:List AO)(val:Value)(s:Shared):Prop:=∃f P dep,LZ c ρ σ v vs os val f P dep s
theorem oz(R:au c ρ σ s)(S:bD PySem.Challenge.rw_og0284_01.prog c.w c.A val s.heap vs.length P [xa])(i:∀i u,P i u->∃a,vs[i]?=some a/\Is ρ a u)(dp:∃o,s.heap.get? xa=some o/\∀ρ' σ' s',ρ.Le ρ'->au c ρ' σ' s'->s'.heap.get? xa=some o)(u:∀os,uY σ.obs os v=os):AN c ρ σ v vs σ.obs val s:=
 (aI c.fx P ([xa]) ⟨R,S,i,λ b hb ρ' σ' s' o e R' g=>by
  refine ag dp λ o' g' k=>?_;rw[mS hb] at g ⊢;exact sI (g'.symm.trans g)▸k ρ' σ' s' e R',λ ρ' σ' s' P e R'=>by rw[u];exact R'⟩)
theorem rJ{os os':List AO}(e:os[i]?=some o):uY os os' (.obj i)=os'.set i o:=by
 refine(?_:(match os[i]? with|some o=>os'.set i o|none=>os')=_);exact ac e rfl
theorem jy{val:Value}{P:Obj->Prop}(R:au c ρ σ s)(e:σ.obs[i]?=some o)(x:Is ρ (.obj i) val)(H:∀τ xa,OR c.w c.fx s.heap τ ρ (i+3) o xa->∃ob,Cl s.heap τ (i+3) 0 xa ob/\P ob)
  (H':∀xa ob τ fx,P ob->(xa==sysModules)=false->fx xa ob (i+3)->OR c.w fx s.heap τ ρ (i+3) o' xa) (hb:∀xa ob h τ ρ',P ob->ρ.Le ρ'->Cl h τ (i+3) 0 xa ob->OR c.w c.fx h τ ρ' (i+3) o xa)
  (hs:∀xa ob,P ob->s.heap.get? xa=some ob->(xa==sysModules)=false->∃P,bD PySem.Challenge.rw_og0284_01.prog c.w c.A (.ref xa) s.heap vs.length P [xa]/\∀i u,P i u->∃a,vs[i]?=some a/\Is ρ a u):AN c ρ σ (.obj i) vs (σ.obs.set i o') val s:=by
 (refine tj.el (R.held e x H H') λ xa ob p Qb e' g nf sm R'=>?_;obtain rfl:=Qb);refine ag (hs xa ob p g sm) λ P' S hP=>(aI _ P' ([xa]) ⟨R',S,hP,λ b hb ρ' σ' s' Qv le R₁ Rp=>?_,λ ρ' σ' s' P le R₁=>?_⟩)
 ·rw[mS hb] at Rp ⊢;(refine au.el R₁ λ m τ F L K r=>?_;clear R₁);exact sI (g.symm.trans Rp)▸(K.X xa ob _ (.inr ⟨rfl,rfl,rfl⟩)).g
 ·refine ac (rJ e)<|aX.freed nf sm (le.a _ _ e') R₁ λ τ cl=>hb xa ob _ τ ρ' p le cl
theorem rP{vs:List AV}(R:au c ρ σ s)(e:σ.obs[i]?=some o)(x:Is ρ (.obj i) (.ref xa))(hf:c.fx xa ob (i+3))(H:∀h τ ρ',ρ.Le ρ'->OR c.w c.fx h τ ρ' (i+3) o xa)
  (S:bD PySem.Challenge.rw_og0284_01.prog c.w c.A (.ref xa) s.heap vs.length P [xa]) (hP:∀i u,P i u->∃a,vs[i]?=some a/\Is ρ a u):AN c ρ σ (.obj i) vs (σ.obs.set i o) (.ref xa) s:=by
 refine ag x λ b e2 e3=>?_;obtain rfl:=Value.ref.inj e2;have gx:∀{ρ' σ' s'},au c ρ' σ' s'->s'.heap.get? xa=some ob:=λ R'=>by
  (refine au.el R' λ m τ F L K r=>?_;clear R');exact(K.X _ _ _ hf).g
 refine(aI c.fx P ([xa]) ⟨(R.toN.reput e3 λ τ=>H _ τ ρ RR.Le.refl).rel,S,hP,λ b hb ρ' σ' s' Qv le R₁ Rp=>?_,λ ρ' σ' s' P le R₁=>?_⟩)
 ·rw[mS hb] at Rp ⊢;exact sI ((gx R).symm.trans Rp)▸gx R₁
 ·refine ac (rJ e)<|R₁.reput (le.a _ _ e3) λ τ=>H _ τ ρ' le
theorem vw(hT:fM T)(C:aQ c d)(R:au c ρ σ s)(x:Is ρ v val)(h:frz T σ.obs v=some q):AN c ρ σ v q.1 q.2 val s:=by
 cases v with
 | byt b=>
  refine ai h λ hz e=>?_;obtain rfl:=sI e;(refine aA x λ t P2=>?_;clear x;obtain rfl:=P2);have S:=bD.bytes (prog:=PySem.Challenge.rw_og0284_01.prog) (w:=c.w) (A:=c.A) (h:=s.heap) (b:=b.toArray) (t:=t) rfl;rw[List.size_toArray,← List.length_map (f:=λ c:UInt8=>AV.int (c.toNat:Int))] at S;exact(aI c.fx _ ([]) ⟨R,S,λ i u ⟨k,t',e,r⟩=>⟨.int (k.toNat:Int),by refine ac (List.getElem?_map) (bP (List.getElem?_toArray) (ac e ?_));rfl,⟨t',r⟩⟩,λ b hb=>(by cases hb),λ ρ' σ' s' P e R'=>R'⟩)
 | val u=>
  refine ae h λ b hb h1=>?_;(refine aF h1 λ l hl PZ=>?_;obtain rfl:=PZ);refine aZ (hT b l hl c.w) λ vs n g y=>ac ((show val=u from x).trans (qt hb))<|oz R (d6 (b:=false) (R.X C _ _ g) (y ρ)) (f7 (y ρ)) ⟨_,R.X C _ _ g,λ ρ' σ' s' e R'=>R'.X C _ _ g⟩ λ zz=>rfl
 | pv p=>
  (refine aF h λ y hy PZ=>?_;obtain rfl:=PZ);obtain rfl:=qq hy;(refine aA x λ n z=>?_;clear x);cases n with
  | zero=>exact z.elim
  | succ n=>
   (revert z;refine λ P3=>aP P3 λ a m vs Qb q z=>?_;clear P3;obtain rfl:=Qb);have z:=bA.ofs (z.imp λ zz zz z=>z.is);exact oz R (d6 (R.cel q) z) (f7 z) ⟨_,R.cel q,λ ρ' σ' s' e R'=>R'.cel (e.z.c _ _ q)⟩ λ zz=>rfl
 | obj i=>
  refine ae h λ o e h1=>?_;(refine aF h1 λ p hp PZ=>?_;obtain rfl:=PZ);cases o with
  | lst l=>
   obtain rfl:=sI hp;exact jy (P:=λ ob=>∃us n,ob=iI us n/\IsL ρ l us) R e x (λ τ xa ⟨us,n,cl,y⟩=>⟨_,cl,us,n,rfl,y⟩) (λ xa ob τ fx ⟨us,n,q,y⟩ sm z=>⟨us,n,(by rw[q] at z;exact z),y⟩) (λ xa ob h τ ρ' ⟨us,n,q,y⟩ le cl=>⟨us,n,q▸cl,y.imp λ zz zz z=>z.mono le⟩) λ xa ob ⟨us,n,q,y⟩ g sm=>⟨_,d6 (b:=true) (q▸g) y,f7 y⟩
  | tup l=>
   obtain rfl:=sI hp;exact jy (P:=λ ob=>∃us n,ob=yF us n/\IsL ρ l us) R e x (λ τ xa ⟨us,n,cl,y⟩=>⟨_,cl,us,n,rfl,y⟩) (λ xa ob τ fx ⟨us,n,q,y⟩ sm z=>⟨us,n,(by rw[q] at z;exact z),y⟩) (λ xa ob h τ ρ' ⟨us,n,q,y⟩ le cl=>⟨us,n,q▸cl,y.imp λ zz zz z=>z.mono le⟩) λ xa ob ⟨us,n,q,y⟩ g sm=>⟨_,d6 (b:=false) (q▸g) y,f7 y⟩
  | dic l=>
   refine ai hp λ hz h2=>?_;obtain rfl:=sI h2;exact jy (P:=λ ob=>∃kvs,bF c.w ob kvs/\fE (Is ρ) l kvs) R e x (λ τ xa ⟨ob,kvs,cl,D,y⟩=>⟨ob,cl,kvs,D,y⟩) (λ xa ob τ fx ⟨kvs,D,y⟩ sm z=>⟨ob,kvs,⟨z,sm⟩,D,y⟩) (λ xa ob h τ ρ' ⟨kvs,D,y⟩ le cl=>⟨ob,kvs,cl,D,y.imp λ zz zz z=>⟨z.1,z.2.mono le⟩⟩) λ xa ob ⟨kvs,D,y⟩ g sm=>⟨_,wC sm g D y,wF y⟩
  | frz b l=>
   obtain rfl:=sI hp;(refine rC.el (R.obj e x) λ τ xa PZ Qb _ fx=>?_;obtain rfl:=PZ;obtain⟨us,n,z,y⟩:=Qb);exact rP R e x z (λ h τ ρ' le=>(aq us n ⟨z,y.imp λ zz zz z=>z.mono le⟩)) (d6 (fx _ _ _ z) y) (f7 y)
  | frd l=>
   refine ai hp λ hz h2=>?_;obtain rfl:=sI h2;(refine rC.el (R.obj e x) λ τ xa PZ Qb _ fx=>?_;obtain rfl:=PZ;obtain⟨ob,kvs,⟨z,sm⟩,D,y⟩:=Qb);exact rP R e x z (λ h τ ρ' le=>(aq ob kvs ⟨⟨z,sm⟩,D,y.imp λ zz zz z=>⟨z.1,z.2.mono le⟩⟩)) (wC sm (fx _ _ _ z) D y) (wF y)
  | _=>exact nn hp
 | _=>exact nn h
end
section
variable{T:bq}{d:Nat}{c:Cx}{ρ:RR}{σ σ':St}{s:Shared}{a:AV}
theorem cO(C:aQ c d)(R:au c ρ σ s)(h:cf c.cs .local i=true)(x:Is ρ a v)(k:∀s',au c ρ {σ with loc:=upd i a σ.loc} s'->Q () s'):W c (assign (.Name (nm i) pos) c.env v) Q s:=by
 refine aw λ Γ p Qp hc=>ac (Sem.wp_bindName _ _ _ _ _ _ _ _ _)<|mq C R h x k Γ p Qp hc
theorem jr(C:aQ c d)(R:au c ρ σ s)(h:cf c.cs .cell i=true)(hs:FH i a σ=some σ')(x:Is ρ a v)(k:∀s',au c ρ σ' s'->Q () s'):W c (assign (.Name (nm i) pos) c.env v) Q s:=by
 refine aw λ Γ p Qp hc=>ac (Sem.wp_bindName _ _ _ _ _ _ _ _ _)<|A2 C R h hs x k Γ p Qp hc
theorem j8:∀l:List (Nat×Pos),(gi l).length=l.length
 | []=>rfl
 | _::l=>congrArg Nat.succ (j8 l)
theorem n7(R:au c ρ σ s)(ht:s.heap.get? t=some (yF items k))(q:∀s',au c ρ σ s'->Q items s'):W c (unpackItems (.ref t) items.length none) Q s:=by
 refine lA.el R.led λ m nw F N k' _=>ah (unpackItemsN_ F N (items:=items.toArray) ⟨_,ht,rfl,k,rfl⟩ rfl (ac List.size_toArray rfl) λ h' F' N'=>q _ (k' h' s.toks F' N'))
theorem tC(v:Value)(h:ts.findIdx? (·.1)=none):unpack v ts=(holding [v] (unpackItems v ts.length none) >>= λ items=>assignInOrder (ts.map (·.2)) items):=by
 unfold unpack;exact ac h rfl
theorem rt(elts:List Expr)(k:Nat)(pos:Pos)(env:Env)(v:Value):assign (.Tuple elts k pos) env v=(do standAt pos;unpack v (assignEach elts env)):=rfl
theorem uO{nn:Nat}(R:au c ρ σ s)(hf:ts.findIdx? (·.1)=none)(hl:ts.length=us.length)(g:s.heap.get? tt=some (yF us nn))(k:∀s',au c ρ σ s'->W c (assignInOrder (ts.map (·.2)) us) Q s') :
  W c (unpack (.ref tt) ts) Q s:=by
 refine ac (tC _ hf) (ac hl ?_);exact aj (ak (n7 R g k))
theorem iy:∀l:List (Nat×Pos),(assignEach (gi l) env).length=l.length/\(assignEach (gi l) env).findIdx? (·.1)=none
 | []=>⟨rfl,rfl⟩
 | (i,p)::ts=>by
  refine aD (iy (env:=env) ts) λ i1 i2=>⟨congrArg Nat.succ i1,?_⟩
  refine(?_:List.findIdx? _ ((false,_)::_)=none);refine ac (List.findIdx?_cons) (ac i2 ?_);rfl
theorem B8(C:aQ c d):∀{l:List (Nat×Pos)} {vs:List AV} {us:List Value} {σ:St} {s:Shared},nF c.cs l=true->l.length=vs.length->au c ρ σ s->IsL ρ vs us->(∀s',au c ρ {σ with loc:=stf l vs σ.loc} s'->Q () s')->
  W c (assignInOrder ((assignEach (gi l) c.env).map (·.2)) us) Q s:=by intro l_;induction l_ with
 | nil=>
  intro vs us σ s _ hl R x k;obtain rfl:=List.length_eq_zero_iff.mp hl.symm;refine ac (show us=[] from x)<|ah (wpAny_pure (k s R))
 | cons x_ l P9=>
  intro vs us σ s hm hl R x k;obtain⟨i,p⟩:=x_;cases vs with
  | nil=>exact nq hl rfl
  | cons v vs=>
   (revert x;refine λ P3=>ao P3 λ u us PZ x xs=>?_;clear P3;obtain rfl:=PZ);refine af hm λ h1 h2=>bJ (cO C R h1 x λ s' R'=>P9 h2 (Nat.succ.inj hl) R' xs k)
theorem oa(hT:fM T)(C:aQ c d)(R:au c ρ σ s)(hm:uo c.cs t=true)(x:Is ρ v val)(h:put T t v σ=some σ')(k:∀s',au c ρ σ' s'->Q () s'):W c (assign (ui t) c.env val) Q s:=by
 cases t with
 | one i p=>exact cO C R hm x (sI h▸k)
 | cel i p=>exact jr C R hm h x k
 | mul l kk r=>
  refine ae h λ q hq h1=>?_;(refine aD (ji h1) λ Qc h2=>?_;(refine aD Qc λ e1 e2=>?_;clear Qc));obtain rfl:=sI h2;(refine SX.el (cy hT C R x hq) λ tt us n Qb g xs=>?_;obtain rfl:=Qb);rw[e1] at g;exact aw (uO R (iy l).2 (ac ((iy l).1) (ac xs.len (ac e2 rfl))) g λ s₁ R₁=>B8 C hm e2 R₁ xs k)
end
section
set_option tactic.hygienic true
section
variable{prog:Program}{w:World}{A₀ A:Around}{s:Shared}{base h₀:Heap}{outer:List Env}{L:Addr}{m:Str->Option Value}{env:Env}{K:Frag}{p:Program}{loose:List Str}{mean:ExcName->Option Value}{mg mb:Str->Option Value}
 {R:Result->Shared->Prop} {name qual:Str} {params:Arguments} {body:List Stmt} {scope:Scope} {dV kV doc pm Qr ct oc:Value} {an od:Option Addr} {QP:Array (Option Value)} {f:Addr} {args:Args}
theorem ud(Qq:List (Addr×Obj))(Rj:base.StaysIn h₀)(FF:s.heap.FunFrames base (env::outer))(hoff:∀e∈env::outer,∀b,e.frame=some b->b∉Qq.map (·.1))(F:Fr h₀ L s.heap m)(N:News h₀ L s.heap Qq)(Qk:K.In h₀)(T:Top p loose mean mg mb h₀)(hA:A.frames=some (env::outer))
  (ho:K.lookup f=some ⟨oc,od,.func (fnOf name qual params body scope dV kV doc pm an Qr ct),QP⟩) (hcd:codeIn K Qr qual=true) (QA:A.depth<recursionLimit)
  (binds:List (Str×Value)) (QH:BindsTo s (fnOf name qual params body scope dV kV doc pm an Qr ct) args binds) (hkind:(binds.all λ y=>scope.names.lookup y.1==some .local||scope.names.lookup y.1==some .cell)=true)
  (Sc:((cellsFrom 0 scope.names []).map (·.1)).Nodup)
  (h:∀g L' h₁ tk cells,g=hideAll s.heap (Qq.map (·.1))->Fr g L' h₁ (bindL (envOfC qual scope L' f Qr).kindOf binds λ _=>none)->News g L' h₁ (cells++Qq)->
   CellsAre (bindC (envOfC qual scope L' f Qr).kindOf binds λ _=>none) (cellsFrom (L'+1) scope.names []) cells->Below A base (env::outer) g->K.In g->Top p loose mean mg mb g->(∀p∈Qq,p.1<L')->
   aB (model prog w) (A.deeper (envOfC qual scope L' f Qr)) (execs body (envOfC qual scope L' f Qr))
    (λ fl s'=>R (.ok (.ret (match fl with|.ret v=>v|_=>.none))) s')
    (λ e s'=>wpAny (model prog w) (A.deeper (envOfC qual scope L' f Qr)) (leaving (envOfC qual scope L' f Qr) e) (λ _ s''=>R (.error e) s'') (λ e' s''=>R (.error e') s'') s')
    {s with heap:=h₁,toks:=tk})
  (hco:scope.isCoroutine=false) (QO:scope.isGenerator=false) (hk:scope.kind=.function):aL (model prog w) A (.call (.ref f) args) R s:=by
 refine b5 QA ((Qk.keeps F.keep) _ _ ho) rfl hco QO rfl (codeRec_of (Qk.keeps F.keep) hcd) (QH _ _ _ _ ?_);refine wpAny_newFunctionEnv_cells hk (kindsX hkind _) λ env' he s' x=>?_;subst he;refine⟨(T.nolimit.keeps F.keep).keeps x.toInCall.keep,ki ?_⟩;(refine aZ x.done λ h₁ tk PZ _=>?_;obtain rfl:=PZ);have hk₁:=x.toInCall.keep;refine ag (Cl.news (h₀:=s.heap) (Nat.le_refl _) λ n c hm=>⟨x.cell n c (lookup_of_mem_nodup (cellsFrom_names scope.names 0 (s.heap.objs.size+1) [] [] rfl▸Sc) hm),x.above n c hm⟩) λ cells NC Y=>?_;have nm:∀b o,h₀.get? b=some o->b∉Qq.map (·.1):=λ b o e q=>by
  (refine cE q λ p hp PZ=>?_;obtain rfl:=PZ);rw[(N p hp).2.2] at e;exact dC e
 have st:h₀.StaysIn (hideAll s.heap (Qq.map (·.1))):=λ b o e=>hideAll_get _ (F.keep b o e) (nm b o e);have Q4:Below A base (env::outer) (hideAll s.heap (Qq.map (·.1))):=⟨hA,λ b o e=>st b o (Rj b o e),funFrames_hideAll FF λ env' he b hb hf'=>hoff env' he b hf' hb⟩
 refine h _ s.heap.objs.size h₁ tk cells rfl ⟨x.toInCall.ns,λ b o e=>hk₁ b o (of_hideAll _ e),Nat.le_of_eq (hideAll_size _ _)⟩ (λ p hp=>?_) Y Q4 (Qk.keeps st) (T.keeps st) (λ p hp=>Heap.lt_size (N p hp).1);rcases List.mem_append.mp hp with hp|hp
 ·refine⟨(NC p hp).1,(NC p hp).2.1,?_⟩;cases q:(hideAll s.heap (Qq.map (·.1))).get? p.1 with
  | none=>rfl
  | some o=>have:=of_hideAll _ q;rw[(NC p hp).2.2] at this;exact dC this
 ·exact⟨hk₁ _ _ (N p hp).1,Nat.ne_of_lt (Heap.lt_size (N p hp).1),hideAll_none _ (List.mem_map_of_mem hp)⟩
end
end
noncomputable def Lj(ρ:RR)(f:Fl)(fl:Flow):Prop:=match f with
 | .nxt=>fl=.next
 | .brk=>fl=.brk
 | .cnt=>fl=.cont
 | .ret a=>∃v,fl=.ret v/\Is ρ a v
inductive FE(c:Cx)(ρ:RR)(σ:St)(f:Fl)(fl:Flow)(s:Shared):Prop
 | mk (ρ':RR) (e:ρ.Le ρ') (R:au c ρ' σ s) (x:Lj ρ' f fl)
theorem CS{b:Nat×Value}{ps:List (Str×Value)}(h:y≠nm b.1):(ps.reverse++[(nm b.1,b.2)]).lookup y=ps.reverse.lookup y:=by
 refine ac List.lookup_append (ac List.lookup_cons (ac (beq_false_of_ne h) ?_));refine(?_:(ps.reverse.lookup y).or none=_);exact Option.or_none
theorem FE.el{P':Prop}(hh:FE c ρ σ f fl s)(kk:∀(ρ':RR) (e:ρ.Le ρ') (R:au c ρ' σ s) (x:Lj ρ' f fl),P'):P':=by
 obtain⟨ρ',e,R,x⟩:=hh;exact kk ρ' e R x
theorem iA:∀{ps:List Nat} {as:List AV} {vs:List Value},ps.Nodup->ps.length=as.length->IsL ρ as vs->match (ps.zip as).lookup i with
  | none=>((ps.map nm).zip vs).reverse.lookup (nm i)=none
  | some a=>i∈ps/\∃v,((ps.map nm).zip vs).reverse.lookup (nm i)=some v/\Is ρ a v:=by intro l_;induction l_ with
 | nil=>intro _ _ _ _ _;exact rfl
 | cons p ps P9=>
  intro as vs nd hl x;cases as with
  | nil=>exact nq hl rfl
  | cons a as=>
   (revert x;refine λ P3=>ao P3 λ v vs PZ x xs=>?_;clear P3;obtain rfl:=PZ);refine aD (List.nodup_cons.mp nd) λ n1 n2=>?_;have ih:=P9 n2 (Nat.succ.inj hl) xs;refine ac List.zip_cons_cons (ac List.lookup_cons (ac List.map_cons (ac List.zip_cons_cons (ac List.reverse_cons ?_))));by_cases q:i=p
   ·refine ac q (ac (beq_self_eq_true _) ?_);refine⟨.head _,v,?_,x⟩;rw[List.lookup_append,List.lookup_cons_self,List.lookup_eq_none_iff.mpr λ y hy=>?_]
    ·rfl
    ·refine cE ((List.of_mem_zip (List.mem_reverse.mp hy)).1) λ j hj e=>?_;exact bne_iff_ne.mpr λ z=>n1 (f9 (z.trans e.symm)▸hj)
   ·refine ac (beq_false_of_ne q)<|ac (CS (b:=(p,v)) (y:=nm i) λ z=>q (f9 z)) ?_;cases e:(ps.zip as).lookup i with
    | none=>rw[e] at ih;exact ih
    | some b=>rw[e] at ih;exact⟨.tail _ ih.1,ih.2⟩
noncomputable def uE(g:FuncData)(b:List Stmt):FuncData:=fnOf g.name g.qualname g.params b g.scope g.defaults g.kwdefaults g.doc g.pyModule g.annotations g.code g.closureTuple
inductive ET(K:Frag)(f:Addr)(n:Nat)(fd:FD):Prop
 | mk (oc:Value) (od:Option Addr) (QP:Array (Option Value)) (g:FuncData) (e1:K.lookup f=some ⟨oc,od,.func (uE g (ba fd.body)),QP⟩) (e2:codeIn K g.code g.qualname=true) (e3:bz g.scope fd.body=true)
  (k:g.scope.kind=.function) (co:g.scope.isCoroutine=false) (ge:g.scope.isGenerator=false) (cn:(cellsFrom 0 g.scope.names []).map (·.1)=fd.cel.map nm) (lc:∀i∈fd.ps,g.scope.names.lookup (nm i)=some .local\/i∈fd.cel)
  (nd:fd.ps.Nodup) (nc:fd.cel.Nodup) (ln:fd.ps.length=n+fd.dfl.length) (ce:∀i∈fd.cel,g.scope.names.lookup (nm i)=some .cell)
  (b:∀(s:Shared) (vs:List Value),K.In s.heap->vs.length=n->∃ds,(∀ρ,IsL ρ fd.dfl ds)/\BindsTo s (uE g (ba fd.body)) ⟨vs,[]⟩ ((fd.ps.map nm).zip (vs++ds)))
noncomputable def pO(f:Addr)(n:Nat)(fd:FD):Prop:=∀w:World,ET (hd.heap_39 w.params) f n fd
theorem ET.el{K:Frag}{P':Prop}(hh:ET K f n fd)(kk:∀(oc:Value) (od:Option Addr) (QP:Array (Option Value)) (g:FuncData) (e1:K.lookup f=some ⟨oc,od,.func (uE g (ba fd.body)),QP⟩) (e2:codeIn K g.code g.qualname=true) (e3:bz g.scope fd.body=true) (k:g.scope.kind=.function) (co:g.scope.isCoroutine=false) (ge:g.scope.isGenerator=false) (cn:(cellsFrom 0 g.scope.names []).map (·.1)=fd.cel.map nm) (lc:∀i∈fd.ps,g.scope.names.lookup (nm i)=some .local\/i∈fd.cel) (nd:fd.ps.Nodup) (nc:fd.cel.Nodup) (ln:fd.ps.length=n+fd.dfl.length) (ce:∀i∈fd.cel,g.scope.names.lookup (nm i)=some .cell) (b:∀(s:Shared) (vs:List Value),K.In s.heap->vs.length=n->∃ds,(∀ρ,IsL ρ fd.dfl ds)/\BindsTo s (uE g (ba fd.body)) ⟨vs,[]⟩ ((fd.ps.map nm).zip (vs++ds))),P'):P':=by
 obtain⟨oc,od,QP,g,e1,e2,e3,k,co,ge,cn,lc,nd,nc,ln,ce,b⟩:=hh;exact kk oc od QP g e1 e2 e3 k co ge cn lc nd nc ln ce b
noncomputable def own(h:Heap)(τ:Addr->bo):List (Addr×Obj):=EM h λ b=>(τ b).1≠0
inductive iZ(c c':Cx)(ρ:RR)(σ:St)(s:Shared):Prop
 | mk (m:Str->Option Value) (τ:Addr->bo) (F:Fr c.h₀ c.L s.heap m) (L:c6 ρ σ.loc (dn c.vc m)) (N:∀b,(τ b).1≠0->rB c.h₀ c.L s.heap b) (h:c'.h₀=hideAll s.heap ((own s.heap τ).map (·.1))) (hs:lu c.s c'.s) (w:c'.w=c.w) (fx:c'.fx=c.fx)
theorem iZ.el{P':Prop}(hh:iZ c c' ρ σ s)(kk:∀(m:Str->Option Value) (τ:Addr->bo) (F:Fr c.h₀ c.L s.heap m) (L:c6 ρ σ.loc (dn c.vc m)) (N:∀b,(τ b).1≠0->rB c.h₀ c.L s.heap b) (h:c'.h₀=hideAll s.heap ((own s.heap τ).map (·.1))) (hs:lu c.s c'.s) (w:c'.w=c.w) (fx:c'.fx=c.fx),P'):P':=by
 obtain⟨m,τ,F,L,N,h,hs,w,fx⟩:=hh;exact kk m τ F L N h hs w fx
structure EnY(c c':Cx)(RT:Result->Shared->Prop):Prop where
 o:c'.outer=c.fenv::c.outer
 b:c'.base=c.base
 l:c'.fL=c'.L
 E:c'.E=λ e s'=>wpAny c'.M c'.A (leaving c'.fenv e) (λ zz s''=>RT (.error e) s'') (λ e' s''=>RT (.error e') s'') s'
structure EU(c c':Cx)(f:Addr)(fd:FD)(RT:Result->Shared->Prop):Prop extends EnY c c' RT where
 e:c'.env=c'.fenv
 fs:c'.fs=c'.cs
 a:c'.A=c'.A₀.deeper c'.fenv
 a₀:c'.A₀.frames=some c'.outer
 cl:c'.cl.map (·.1)=fd.cel.map nm
 sc:∃oc od QP g,c.K.lookup f=some ⟨oc,od,.func (uE g (ba fd.body)),QP⟩/\g.scope=c'.cs
section
variable{c c':Cx}{d:Nat}{ρ ρ':RR}{σ σ':St}{s s':Shared}{a:AV}{τ:Addr->bo}{v:Value}
theorem lu.trans(a:lu s₁ P0)(b:lu P0 s₃):lu s₁ s₃:=⟨b.1.trans a.1,b.2.1.trans a.2.1,b.2.2.trans a.2.2⟩
theorem d7:b∈(own h τ).map (·.1)↔(τ b).1≠0/\(h.get? b).isSome=true:=by
 refine⟨λ q=>?_,λ⟨q,e⟩=>?_⟩
 ·(refine cE q λ p hp PZ=>?_;obtain rfl:=PZ);refine aD (bj.mp hp) λ h1 h2=>⟨h1,by refine ac h2 ?_;rfl⟩
 ·refine lW e λ o e=>List.mem_map.mpr ⟨(b,o),bj.mpr ⟨q,e⟩,rfl⟩
theorem dM(N:∀b,(τ b).1≠0->rB h₀ L h b):News h₀ L h (own h τ):=λ p hp=>by
 refine aD (bj.mp hp) λ q e=>⟨e,(N _ q).l,(N _ q).n⟩
inductive pS(c c':Cx)(ρ ρ':RR)(σ σ':St)(s':Shared)(P:Addr->Prop):Prop
 | mk (m:Str->Option Value) (τ:Addr->bo) (F:Fr c.h₀ c.L s'.heap m) (L:c6 ρ σ.loc (dn c.vc m)) (K:aR c s'.heap τ ρ' σ'.obs σ'.ph) (r:lu c.s s') (t:∀x,P x\/x=c'.L->(τ x).1=0/\c.L≠x/\c.h₀.get? x=none)
theorem aX.back(E:iZ c c' ρ σ s)(R:aX c' ρ' σ' s' P):pS c c' ρ ρ' σ σ' s' P:=by
 (refine iZ.el E λ m τ F L N hh hs w fx=>?_;clear E);(refine aX.el R λ m' τ' F' _ K' r' t=>?_;clear R);have st:∀b o,s.heap.get? b=some o->(τ b).1=0->c'.h₀.get? b=some o:=λ b o e q=>by
  refine ac hh<|hideAll_get _ e λ z=>(d7.mp z).1 q
 have Lt:(τ c.L).1=0:=Classical.byContradiction λ q=>(N _ q).l rfl;have Sb:∀b o,c.h₀.get? b=some o->(τ b).1=0:=λ b o e=>Classical.byContradiction λ q=>by rw[(N _ q).n] at e;exact dC e
 have none_of:∀b,c'.h₀.get? b=none->c.L≠b/\c.h₀.get? b=none:=λ b n=>by
  refine⟨λ z=>?_,?_⟩
  ·refine bw F.ns λ oL zz zz hL zz=>?_;rw[← z,st _ _ hL Lt] at n;exact sn n
  ·cases q2:c.h₀.get? b with
   | none=>rfl
   | some o=>rw[st _ _ (F.keep _ _ q2) (Sb _ _ q2)] at n;exact sn n
 refine⟨m,τ',yr.frN (own s.heap τ) (λ b o n e=>F'.keep b o (by refine ac hh ?_;exact hideAll_get _ e n)) F (dM N),L,⟨λ b q=>?_,K'.Y,K'.sz,λ i o e=>?_,K'.Z,fx▸K'.X,K'.B⟩,lu.trans hs r',λ x q=>?_⟩
 ·obtain⟨g,l,n⟩:=K'.N b q;exact⟨g,λ z=>(none_of b n).1 z.symm,(none_of b n).2⟩
 ·refine ag (K'.O i o e) λ b e1 q=>⟨b,e1,w▸fx▸q⟩
 ·rcases q with q|q
  ·exact⟨(t x q).1,none_of x (t x q).2.2⟩
  ·refine ac q<|⟨Classical.byContradiction λ z=>(K'.N _ z).l rfl,none_of _ (Heap.get?_none_of_le F'.above)⟩
theorem pS.el{P':Prop}(hh:pS c c' ρ ρ' σ σ' s' P)(kk:∀(m:Str->Option Value) (τ:Addr->bo) (F:Fr c.h₀ c.L s'.heap m) (L:c6 ρ σ.loc (dn c.vc m)) (K:aR c s'.heap τ ρ' σ'.obs σ'.ph) (r:lu c.s s') (t:∀x,P x\/x=c'.L->(τ x).1=0/\c.L≠x/\c.h₀.get? x=none),P'):P':=by
 obtain⟨m,τ,F,L,K,r,t⟩:=hh;exact kk m τ F L K r t
theorem ww(le:ρ.Le ρ'):ρ.ad.length<=ρ'.ad.length:=Nat.le_of_not_lt λ h=>by
 have e:ρ.ad[ρ'.ad.length]?=some (ρ.ad[ρ'.ad.length]'h):=List.getElem?_eq_getElem h;exact Nat.lt_irrefl _ (List.getElem?_eq_some_iff.mp (le.a _ _ e)).1
theorem PE.back(E:iZ c c' ρ σ s)(le:ρ.Le ρ')(R:au c' ρ' σ' s')(x:Is ρ' a v):PE c ρ ⟨σ.loc,mz ρ.ad.length a σ'.obs,σ'.ph⟩ a v s':=by
 refine pS.el (R.toN.back E) λ m τ F L K r _=>?_;by_cases q:(gG ρ.ad.length a&&(σ'.obs.take ρ.ad.length).all (eL ρ.ad.length))=true
 ·refine ac (show mz ρ.ad.length a σ'.obs=σ'.obs.take ρ.ad.length from if_pos q)<|af q λ q1 q2=>⟨ρ'.cut ρ.ad.length,le.cut,⟨m,τ,F,L.mono le.cut,K.cut (K.sz▸ww le) q2,r⟩,x.low q1⟩
 ·refine ac (show mz ρ.ad.length a σ'.obs=σ'.obs from if_neg q)<|⟨ρ',le,⟨m,τ,F,L.mono le,K,r⟩,x⟩
noncomputable def GT(fl:Flow):Value:=match fl with|.ret v=>v|_=>.none
theorem qW(hq:AZ σ p=some q)(sz:σ.obs.length=ρ.ad.length)(E:iZ c c' ρ σ s)(le:ρ.Le PY)(X:FE c' PY p.2 p.1 fl s'):PE c ρ q.2 q.1 (GT fl) s':=by
 (refine FE.el X λ ρ' e R x=>?_;clear X);(refine aF hq λ u hu PZ=>?_;obtain rfl:=PZ);obtain⟨f,σ'⟩:=p;refine ac sz ?_;cases f with
 | nxt=>
  obtain rfl:=sI hu;obtain rfl:fl=.next:=x;exact PE.back E (le.trans e) R rfl
 | ret w=>
  obtain rfl:=sI hu;(refine ag x λ v P2 y=>?_;clear x;obtain rfl:=P2);exact PE.back E (le.trans e) R y
 | _=>exact nn hu
end
theorem Below.ff(B:Below A₀ base outer h₀)(hf:env.frame=some L)(hk:env.scope.kind=.function) :
  (∀h m,Fr h₀ L h m->h.FunFrames base (env::outer))/\∀h nw,News h₀ L h nw->∀e∈env::outer,∀b,e.frame=some b->b∉nw.map (·.1):=
 ⟨λ h m F=>(pushX (A:=A₀) B F hf hk).frames,λ h nw N e he b hb q=>by
  (refine cE q λ p hp PZ=>?_;obtain rfl:=PZ);rcases mC he with rfl|he
  ·rw[hf] at hb;cases hb;exact(N p hp).2.1 rfl
  ·refine aZ (funFrames_in B.frames e he) λ RK Qv Ro Rc=>?_;rw[Ro] at hb;cases hb;rw[(N p hp).2.2] at Rc;exact dC Rc⟩
theorem xR{K:Str->Option NameKind}:∀(binds:List (Str×Value)) (m:Str->Option Value),bindL K binds m y=if K y=some .local then(binds.reverse.lookup y).or (m y) else m y:=by intro l_;induction l_ with
 | nil=>intro m;rw[bindL];show _=if _ then m y else m y;rw[ite_self]
 | cons x_ r P9=>
  intro m;obtain⟨n,v⟩:=x_;rw[bindL,P9,List.reverse_cons,List.lookup_append,List.lookup_cons,List.lookup_nil];by_cases h:K y=some .local
  ·rw[if_pos h,if_pos h,Option.or_assoc];by_cases q:y=n
   ·rw[q] at h;refine ac q (ac (if_pos h) (ac (beq_self_eq_true _) ?_));exact congrArg _ (if_pos rfl)
   ·refine ac (beq_false_of_ne q)<|(?_:_=Option.or _ (Option.or none (m y)))
    by_cases h':K n=some .local
    ·rw[if_pos h',if_neg q];rfl
    ·refine ac (if_neg h') ?_;rfl
  ·rw[if_neg h,if_neg h];by_cases h':K n=some .local
   ·rw[if_pos h',if_neg (λ z:y=n=>h ((congrArg K z).trans h'))]
   ·exact ac (if_neg h') rfl
theorem xS{K:Str->Option NameKind}:∀(binds:List (Str×Value)) (m:Str->Option Value),bindC K binds m y=if K y=some .local then m y else(binds.reverse.lookup y).or (m y):=by intro l_;induction l_ with
 | nil=>intro m;rw[bindC];show _=if _ then m y else m y;rw[ite_self]
 | cons x_ r P9=>
  intro m;obtain⟨n,v⟩:=x_;rw[bindC,P9,List.reverse_cons,List.lookup_append,List.lookup_cons,List.lookup_nil];by_cases h:K y=some .local
  ·rw[if_pos h,if_pos h];by_cases h':K n=some .local
   ·exact ac (if_pos h') rfl
   ·rw[if_neg h',if_neg (λ z:y=n=>h' ((congrArg K z).symm.trans h))]
  ·rw[if_neg h,if_neg h,Option.or_assoc];by_cases q:y=n
   ·rw[q] at h;refine ac q (ac (if_neg h) (ac (beq_self_eq_true _) ?_));exact congrArg _ (if_pos rfl)
   ·refine ac (beq_false_of_ne q)<|(?_:_=Option.or _ (Option.or none (m y)))
    by_cases h':K n=some .local
    ·refine ac (if_pos h') ?_;rfl
    ·rw[if_neg h',if_neg q];rfl
theorem fW:∀(names:List (Str×NameKind)) (n:Nat) (acc:List (Str×Addr)),(y,.cell)∈names\/y∈acc.map (·.1)->y∈(cellsFrom n names acc).map (·.1):=by intro l_;induction l_ with
 | nil=>intro _ _ h;exact h.elim (λ z=>(List.not_mem_nil z).elim) id
 | cons x_ r P9=>
  intro n acc h;obtain⟨n',k⟩:=x_;unfold cellsFrom;by_cases hk:(k==NameKind.cell)=true
  ·refine ac (if_pos hk)<|P9 _ _ (h.elim (λ h=>(mC h).elim (λ e=>.inr (by refine ac (show y=n' from congrArg Prod.fst e) ?_;exact .head _)) .inl) λ h=>.inr (.tail _ h))
  ·refine ac (if_neg hk)<|P9 _ _ (h.imp (λ h=>(mC h).elim (λ e=>(hk (by refine bP (show NameKind.cell=k from congrArg Prod.snd e) ?_;rfl)).elim) id) id)
theorem gW:∀(names:List (Str×NameKind)) (n:Nat) (acc:List (Str×Addr)) (k:Nat),(∀p∈acc,@LE.le Nat _ k p.2/\@LT.lt Nat _ p.2 n)->k<=n->(acc.map (·.2)).Nodup->(∀p∈cellsFrom n names acc,@LE.le Nat _ k p.2)/\((cellsFrom n names acc).map (·.2)).Nodup:=by intro l_;induction l_ with
 | nil=>intro n acc k h _ nd;exact⟨λ p hp=>(h p hp).1,nd⟩
 | cons x_ r P9=>
  intro n acc k h hk nd;obtain⟨n',kd⟩:=x_;unfold cellsFrom;by_cases q:(kd==NameKind.cell)=true
  ·refine ac (if_pos q)<|P9 (n+1) _ k (λ p hp=>?_) (Nat.le_succ_of_le hk) (List.nodup_cons.mpr ⟨λ z=>?_,nd⟩)
   ·rcases mC hp with rfl|hp
    ·exact⟨hk,Nat.lt_succ_self _⟩
    ·exact⟨(h p hp).1,Nat.lt_succ_of_lt (h p hp).2⟩
   ·refine cE z λ p hp e=>absurd (h p hp).2 (by refine ac (show p.2=n from e) ?_;exact Nat.lt_irrefl n)
  ·refine ac (if_neg q)<|P9 n acc k h hk nd
noncomputable def eP{α:Type}[DecidableEq α]:List α->α->Option Nat
 | [],_=>none
 | x::l,b=>if x=b then some 0 else(eP l b).map Nat.succ
theorem cZ[DecidableEq α]:∀{l:List α} {b:α} {j:Nat},eP l b=some j->l[j]?=some b:=by intro l_;induction l_ with
 | nil=>(intros;contradiction)
 | cons x l P9=>
  intro b j h;by_cases q:x=b
  ·obtain rfl:=sI ((if_pos q).symm.trans h);refine ac q ?_;rfl
  ·(refine aF ((if_neg q).symm.trans h) λ i h1 PZ=>?_;obtain rfl:=PZ);exact P9 h1
theorem d8[DecidableEq α]:∀{l:List α} {b:α} {j:Nat},l.Nodup->l[j]?=some b->eP l b=some j:=by intro l_;induction l_ with
 | nil=>(intros;contradiction)
 | cons x l P9=>
  intro b j nd h;refine aD (List.nodup_cons.mp nd) λ n1 n2=>?_;cases j with
  | zero=>exact if_pos (sI h)
  | succ j=>exact(if_neg λ q:x=b=>n1 (q▸List.mem_of_getElem? (l:=l) h)).trans (congrArg (Option.map Nat.succ) (P9 n2 h))
theorem pA{mC:Str->Option Value}(h:CellsAre mC cs cells):∀{j:Nat} {p:Str×Addr},cs[j]?=some p->∃o,(p.2,o)∈cells/\o.data=.cell (mC p.1):=by
 induction h with
 | nil=>exact λ e=>(dC e)
 | cons d _ ih=>
  intro j p e;cases j with
  | zero=>exact sI e▸⟨_,.head _,d⟩
  | succ j=>refine ag (ih e) λ o h1 h2=>?_;exact⟨o,.tail _ h1,h2⟩
theorem tu:∀{cel:List Nat} {k:Nat},i∈cel->∃j,cel[j]?=some i/\(((cel.zipIdx k).map λ x=>(x.1,AV.obj x.2))++rest).lookup i=some (.obj (k+j)):=by intro l_;induction l_ with
 | nil=>(intros;contradiction)
 | cons c cel P9=>
  intro k h;refine ac List.zipIdx_cons (ac List.map_cons (ac List.cons_append (ac List.lookup_cons ?_)));by_cases q:i=c
  ·refine ac q (ac (beq_self_eq_true _) ?_);exact⟨0,rfl,rfl⟩
  ·refine ac (beq_false_of_ne q)<|ag (P9 (k:=k+1) ((mC h).resolve_left q)) λ j h1 h2=>⟨j+1,h1,by exact ac h2 (ac (Nat.add_assoc _ _ _) (ac (Nat.add_comm 1 j) rfl))⟩
theorem to:∀{cel:List Nat} {k:Nat},i∉cel->(((cel.zipIdx k).map λ x=>(x.1,AV.obj x.2))++rest).lookup i=rest.lookup i:=by intro l_;induction l_ with
 | nil=>intro _ _;exact rfl
 | cons c cel P9=>
  intro k h;rw[List.zipIdx_cons,List.map_cons,List.cons_append,List.lookup_cons,beq_false_of_ne λ z=>h (by rw[z];exact .head _)];exact P9 λ z=>h (.tail _ z)
theorem kW{p:Nat->Bool}(h:p i=true):∀(l:List (Nat×AV)),(l.filter λ x=>p x.1).lookup i=l.lookup i:=by intro l_;induction l_ with
 | nil=>exact rfl
 | cons x_ l P9=>
  obtain⟨j,a⟩:=x_;by_cases q:p j=true
  ·exact ac (List.filter_cons_of_pos (by exact q)) (ac List.lookup_cons (ac List.lookup_cons (ac P9 rfl)))
  ·refine ac (List.filter_cons_of_neg (by exact q)) (ac List.lookup_cons (ac (beq_false_of_ne λ z:i=j=>q (z▸h)) ?_));exact P9
theorem lS:∀{cs:List (Str×α)} {j:Nat} {p:Str×α},(cs.map (·.1)).Nodup->cs[j]?=some p->cs.lookup p.1=some p.2:=by intro l_;induction l_ with
 | nil=>(intros;contradiction)
 | cons x_ cs P9=>
  intro j p nd h;obtain⟨a,b⟩:=x_;refine aD (List.nodup_cons.mp nd) λ n1 n2=>?_;cases j with
  | zero=>exact sI h▸List.lookup_cons_self
  | succ j=>
   have hm:p∈cs:=List.mem_of_getElem? (l:=cs) (i:=j) h;refine ac List.lookup_cons (ac (beq_false_of_ne λ z:p.1=a=>n1 (List.mem_map.mpr ⟨p,hm,z⟩)) ?_);exact P9 n2 h
theorem gE{l:List Nat}(h:l.Nodup):(l.map nm).Nodup:=List.nodup_iff_pairwise_ne.mpr (List.Pairwise.map nm (λ a b q z=>q (f9 z)) (List.nodup_iff_pairwise_ne.mp h))
theorem jO:∀{cs:List (Str×α)},y∉cs.map (·.1)->cs.lookup y=none:=λ h=>List.lookup_eq_none_iff.mpr λ p hp=>bne_iff_ne.mpr λ z=>h (z▸List.mem_map_of_mem hp)
section
variable{c:Cx}{d:Nat}{ρ:RR}{σ:St}{s:Shared}
noncomputable def Cx.enter(c:Cx)(A':Around)(qual:Str)(scope:Scope)(L' f:Addr)(Qr:Value)(g:Heap)(s:Shared)(RT:Result->Shared->Prop):Cx:=
 {w:=c.w,prg:=c.prg,loose:=c.loose,mean:=c.mean,mg:=c.mg,mb:=c.mb,dp:=A'.depth+1,un:=A'.units+3,gd:=c.gd,cn:=qual,fs:=scope,fL:=L',cs:=scope,L:=L',a:=f,ccd:=Qr,cl:=cellsFrom (L'+1) scope.names [],vq:=qual++".<locals>.",vf:=some f,vc:=cellsFrom (L'+1) scope.names [],outer:=c.fenv::c.outer,
  A₀:=ktrTop A'.depth A'.units c.gd c.cn c.fs c.fL c.a c.ccd c.cl c.outer,base:=c.base,h₀:=g,s:=s,fx:=c.fx,
  E:=λ e s'=>wpAny c.M ((ktrTop A'.depth A'.units c.gd c.cn c.fs c.fL c.a c.ccd c.cl c.outer).deeper (envOfC qual scope L' f Qr)) (leaving (envOfC qual scope L' f Qr) e) (λ zz s''=>RT (.error e) s'') (λ e' s''=>RT (.error e') s'') s'}
theorem RR.Le.app:ρ.Le ⟨ρ.ad++as,ρ.z⟩:=⟨λ zz zz h=>ck h,Fz.Le.refl⟩
noncomputable def rk(τ:Addr->bo)(as:List Addr)(k:Nat):Addr->bo:=λ b=>match eP as b with
 | none=>τ b
 | some j=>(k+j+3,0)
theorem pj{os os':List AO}(hz:@LT.lt Nat _ 64 s.heap.objs.size)(w:c'.w=c.w)(fx:c'.fx=c.fx)(K:aR c s.heap τ ρ os ph)(N:News c'.h₀ c'.L h₁ (cells++own s.heap τ))(AF:∀a∈as,@LE.le Nat _ s.heap.objs.size a)(nd:as.Nodup)(hc:∀(j:Nat) (a:Addr),as[j]?=some a->∃o,(a,o)∈cells)
  (ln:os'.length=as.length) (H:∀(j:Nat) (o:AO),os'[j]?=some o->∃a,as[j]?=some a/\OR c'.w c'.fx h₁ (rk τ as os.length) ⟨ρ.ad++as,ρ.z⟩ (os.length+j+3) o a):aR c' h₁ (rk τ as os.length) ⟨ρ.ad++as,ρ.z⟩ (os++os') ph:=by
 have old:∀b,(τ b).1≠0->rk τ as os.length b=τ b:=λ b q=>by
  cases e:eP as b with
  | none=>refine(?_:(match eP as b with|none=>τ b|some j=>_)=_);exact ac e rfl
  | some j=>
   refine lW ((K.N b q).g) λ o g=>absurd (Heap.lt_size g) (Nat.not_lt.mpr (AF b (List.mem_of_getElem? (cZ e))))
 have Qu:∀b o k j,k≠0->Cl s.heap τ k j b o->Cl h₁ (rk τ as os.length) k j b o:=λ b o k j hk cl=>by
  have q:(τ b).1≠0:=by refine ac cl.t ?_;exact hk
  exact⟨(N (b,o) (List.mem_append_right _ (bj.mpr ⟨q,cl.g⟩))).1,(old b q).trans cl.t⟩
 have le:ρ.Le ⟨ρ.ad++as,ρ.z⟩:=RR.Le.app;have cas:∀b {P:Prop},(∀j,as[j]?=some b->P)->(rk τ as os.length b=τ b->P)->P:=λ b P h1 h2=>by
  cases e:eP as b with
  | none=>exact h2 (by refine(?_:(match eP as b with|none=>τ b|some j=>_)=_);exact ac e rfl)
  | some j=>exact h1 j (cZ e)
 refine⟨λ b q=>cas b (λ j e=>?_) λ e=>?_,λ b k j q=>cas b (λ j e=>nJ hz (AF b (List.mem_of_getElem? e))) λ e=>K.Y b k j (e.symm.trans q),?_,λ i o e=>?_,λ b o z=>Qu b o 1 0 Nat.one_ne_zero (K.Z b o z),λ b o k z=>Qu b o 1 _ Nat.one_ne_zero (K.X b o k (fx▸z)),λ b r z=>(K.B b r z).imp (λ b o j=>Qu b o 2 j (Nat.succ_ne_zero _)) Fz.Le.refl⟩
 ·refine aA (hc j b e) λ o ho=>cg (N _ (List.mem_append_left _ ho)) λ h1 h2 h3=>⟨by refine ac h1 ?_;rfl,h2,h3⟩
 ·rw[e] at q;refine lW ((K.N b q).g) λ o g=>cg (N (b,o) (List.mem_append_right _ (bj.mpr ⟨q,g⟩))) λ h1 h2 h3=>⟨by refine ac h1 ?_;rfl,h2,h3⟩
 ·refine(?_:(ρ.ad++as).length=_);exact ac List.length_append (ac List.length_append (ac K.sz (ac ln rfl)))
 ·rcases Nat.lt_or_ge i os.length with q|q
  ·refine ag (K.O i o ((List.getElem?_append_left q).symm.trans e)) λ a e1 y=>?_;exact⟨a,ck e1,w▸fx▸y.imp (λ b o j=>Qu b o _ j (Nat.succ_ne_zero _)) le λ zz zz h=>h⟩
  ·refine ag (H (i-os.length) o ((List.getElem?_append_right q).symm.trans e)) λ a e1 y=>?_;rw[Nat.add_sub_cancel' q] at y;exact⟨a,(List.getElem?_append_right (by refine ac K.sz ?_;exact q)).trans (by refine ac K.sz ?_;exact e1),y⟩
end
section
variable{names:List (Str×NameKind)}{cs:List (Str×Addr)}{cells:List (Addr×Obj)}{fd:FD}{vs:List AV}{us:List Value}{K:Str->Option NameKind}{k j:Nat}
theorem we(lc:∀i∈fd.ps,names.lookup (nm i)=some .local\/i∈fd.cel)(ce:∀i∈fd.cel,names.lookup (nm i)=some .cell):(((fd.ps.map nm).zip us).all λ y=>names.lookup y.1==some .local||names.lookup y.1==some .cell)=true:=by
 refine List.all_eq_true.mpr λ y hy=>cE ((List.of_mem_zip hy).1) λ i hi e=>bP e ?_;rcases lc i hi with z|z
 ·refine ac z ?_;rfl
 ·refine ac (ce i z) ?_;rfl
theorem xp(QJ:cs.map (·.1)=fd.cel.map nm)(ce:∀i∈fd.cel,names.lookup (nm i)=some .cell)(y:Str)(hy:names.lookup y=some .local):cs.lookup y=none:=by
 refine jO λ z=>?_;rw[QJ] at z;refine cE z λ i hi e=>?_;cases hy.symm.trans (e▸ce i hi)
theorem xr(kN:((cellsFrom k names []).map (·.1)).Nodup)(y:Str)(hy:names.lookup y=some .cell):∃ca,(cellsFrom k names []).lookup y=some ca:=by
 refine cE (fW names k [] (.inl (aN hy))) λ p hp e=>aA (List.getElem?_of_mem hp) λ j hj=>?_;exact⟨p.2,e▸lS kN hj⟩
theorem BJ(QJ:cs.map (·.1)=fd.cel.map nm)(e:fd.cel[j]?=some i):∃p,cs[j]?=some p/\p.1=nm i:=by
 have:(cs.map (·.1))[j]?=some (nm i):=by refine ac QJ (ac (List.getElem?_map) (ac e ?_));rfl
 rw[List.getElem?_map] at this;exact zQ this
theorem s6(e:cs[j]?=some p):(cs.map (·.2))[j]?=some p.2:=by refine ac (List.getElem?_map) (ac e ?_);rfl
theorem xw(h:∀p∈cs,@LE.le Nat _ n p.2)(a:Addr)(ha:a∈cs.map (·.2)):@LE.le Nat _ n a:=by
 refine cE ha λ p hp e=>e▸h p hp
theorem BI{mC:Str->Option Value}(Y:CellsAre mC cs cells)(j:Nat)(a:Addr)(e:(cs.map (·.2))[j]?=some a):∃o,(a,o)∈cells:=by
 rw[List.getElem?_map] at e;refine aF e λ p hp ea=>ag (pA Y hp) λ o ho zz=>⟨o,ea▸ho⟩
theorem xq(QJ:cs.map (·.1)=fd.cel.map nm):(iu fd vs).length=(cs.map (·.2)).length:=by
 have:=congrArg List.length QJ;rw[List.length_map,List.length_map] at this;refine(?_:(fd.cel.map _).length=_);exact ac (List.length_map _) (ac (List.length_map _) (ac this rfl))
theorem sU(hK:∀y,K y=names.lookup y)(QJ:cs.map (·.1)=fd.cel.map nm)(kN:(cs.map (·.1)).Nodup)(lc:∀i∈fd.ps,names.lookup (nm i)=some .local\/i∈fd.cel)(nd:fd.ps.Nodup)(hlen:fd.ps.length=vs.length)(xs:IsL ρ vs us)(sz:ρ.ad.length=k){i:Nat}(e:(lg fd vs k).lookup i=some a) :
  ∃v,dn cs (bindL K ((fd.ps.map nm).zip us) λ zz=>none) (nm i)=some v/\Is ⟨ρ.ad++cs.map (·.2),ρ.z⟩ a v:=by
 by_cases hi:i∈fd.cel
 ·refine ag (tu (k:=k) (rest:=(fd.ps.zip vs).filter λ x=>!fd.cel.contains x.1) hi) λ j ej e'=>ag (BJ QJ ej) λ p hp ep=>bP (sI (e'.symm.trans e))<|⟨.ref p.2,cP (ep▸lS kN hp),p.2,rfl,(List.getElem?_append_right (by refine ac sz ?_;exact Nat.le_add_right _ _)).trans (by refine ac sz (ac (Nat.add_sub_cancel_left _ _) ?_);exact s6 hp)⟩
 ·have e':=(to hi).symm.trans e;rw[kW (p:=λ i=>!fd.cel.contains i) (by refine ac (Bool.not_eq_true' _) (bP (Bool.not_eq_true _) ?_);exact λ q=>hi (List.contains_iff_mem.mp q))] at e';have bl:=iA (i:=i) nd hlen xs;rw[e'] at bl;refine nA bl λ hp v hv y=>⟨v,?_,y.mono RR.Le.app⟩
  rw[fa (jO λ z=>by
   refine cE (QJ▸z) λ k hk q=>?_;exact hi (f9 q▸hk)),xR]
  refine ac (if_pos ((hK _).trans ((lc i hp).resolve_right hi))) (ac hv ?_);rfl
theorem sW{w:World}(hK:∀y,K y=names.lookup y)(QJ:cs.map (·.1)=fd.cel.map nm)(ad2:(cs.map (·.2)).Nodup)(ce:∀i∈fd.cel,names.lookup (nm i)=some .cell)(nd:fd.ps.Nodup)(hlen:fd.ps.length=vs.length)(xs:IsL ρ vs us)
  (Y:CellsAre (bindC K ((fd.ps.map nm).zip us) λ zz=>none) cs cells) (N:∀p∈cells,h₁.get? p.1=some p.2) (e:(iu fd vs)[j]?=some o):∃a,(cs.map (·.2))[j]?=some a/\OR w fx h₁ (rk τ (cs.map (·.2)) k) ⟨ρ.ad++cs.map (·.2),ρ.z⟩ (k+j+3) o a:=by
 have e:(fd.cel.map λ i=>AO.cel ((fd.ps.zip vs).lookup i))[j]?=some o:=e;rw[List.getElem?_map] at e;refine aF e λ i hi PZ=>bP PZ<|ag (BJ QJ hi) λ p hp ep=>ag (pA Y hp) λ ob hob hd=>?_;rw[xS,hK,ep,ce i (List.mem_of_getElem? hi),if_neg (by decide),Option.or_none] at hd;have cl:Cl h₁ (rk τ (cs.map (·.2)) k) (k+j+3) 0 p.2 ob:=⟨N _ hob,by
  refine(?_:(match eP _ p.2 with|none=>τ p.2|some j=>(k+j+3,0))=_);exact ac (d8 ad2 (s6 hp)) rfl⟩
 have bl:=iA (i:=i) nd hlen xs;cases q:(fd.ps.zip vs).lookup i with
 | none=>rw[q] at bl;exact⟨p.2,s6 hp,ob,cl,hd.trans (congrArg _ bl)⟩
 | some a=>
  rw[q] at bl;refine nA bl λ zz v hv y=>⟨p.2,s6 hp,ob,cl,v,hd.trans (congrArg _ hv),y.mono RR.Le.app⟩
end
section
variable{c:Cx}{d:Nat}{ρ:RR}{σ:St}{s:Shared}
theorem tA{f:Addr}{avs:List AV}(hA:A'=ktrTop A'.depth A'.units c.gd c.cn c.fs c.fL c.a c.ccd c.cl c.outer)(hF:pO f n fd)(C:aQ c d)(hd:A'.depth+1+d'<recursionLimit)(hu:A'.units+3+(10*d'+100)<cLine)
  (R:au c ρ σ s) (x:IsL ρ avs us) (hn:avs.length=n)
  (body:∀(c':Cx) PY s',EU c c' f fd RT->iZ c c' ρ σ s->aQ c' d'->bz c'.cs fd.body=true->ρ.Le PY->au c' PY ⟨lg fd (avs++fd.dfl) σ.obs.length,σ.obs++iu fd (avs++fd.dfl),σ.ph⟩ s'->W c' (execs (ba fd.body) c'.env) (λ fl s''=>RT (.ok (.ret (GT fl))) s'') s') :
  aL c.M A' (.call (.ref f) ⟨us,[]⟩) RT s:=by
 refine ET.el (hF c.w) λ oc od QP g e1 e2 e3 k co ge cn lc nd nc ln ce b=>?_;have hz:=AF C R;refine ag (b s us (R.X C) (x.len.trans hn)) λ ds h1 h2=>?_;(refine au.el R λ m τ F L K r=>?_;clear R);have N:=dM K.N;refine ac hA<|ud (A:=ktrTop A'.depth A'.units c.gd c.cn c.fs c.fL c.a c.ccd c.cl c.outer) _ C.B (C.FF _ _ F) (C.off _ _ N) F N C.X C.T rfl e1 e2 (by refine(?_:A'.depth<_);lia) _ h2 ?_ (by refine ac cn ?_;exact gE nc) (λ g' L' h₁ tk cells hg F' N' Y B' X' T' hlt=>?_) co ge k
 ·exact we lc ce
 ·have QJ:(cellsFrom (L'+1) g.scope.names []).map (·.1)=fd.cel.map nm:=by refine bP cn ?_;exact cellsFrom_names _ _ _ _ _ rfl
  refine aD (gW g.scope.names (L'+1) [] (L'+1) (λ zz h=>(ni h)) (Nat.le_refl _) .nil) λ ad1 ad2=>?_;have hL:@LE.le Nat _ s.heap.objs.size L':=by have:=F'.above;rw[hg] at this;exact Nat.le_trans (Nat.le_of_eq (hideAll_size _ _).symm) this
  have xs:IsL ρ (avs++fd.dfl) (us++ds):=x.app (h1 ρ);have hlen:fd.ps.length=(avs++fd.dfl).length:=by refine ac List.length_append (ac hn ?_);exact ln
  have kN:((cellsFrom (L'+1) g.scope.names []).map (·.1)).Nodup:=by refine ac QJ ?_;exact gE nc
  have K₁:=pj (c:=c) (c':=c.enter A' g.qualname g.scope L' f g.code g' s RT) (os':=iu fd (avs++fd.dfl)) hz rfl rfl K N' (xw λ p hp=>Nat.le_trans hL (Nat.le_of_succ_le (ad1 p hp))) ad2 (BI Y) (xq QJ) λ j o e=>sW (λ zz=>rfl) QJ ad2 ce nd hlen xs Y (λ p hp=>(N' _ (List.mem_append_left _ hp)).1) e;exact body (c.enter A' g.qualname g.scope L' f g.code g' s RT) ⟨ρ.ad++(cellsFrom (L'+1) g.scope.names []).map (·.2),ρ.z⟩ {s with heap:=h₁,toks:=tk} ⟨⟨rfl,rfl,rfl,rfl⟩,rfl,rfl,rfl,rfl,QJ,(cK _ _ _ g ⟨e1,rfl⟩)⟩ ⟨m,τ,F,L,K.N,hg,r,rfl,rfl⟩
   ⟨B'.stays,λ h m F=>(Below.ff B' rfl k).1 h m F,λ h nw N=>(Below.ff B' rfl k).2 h nw N,X',T',k,hd,hu,PassesOwn.leaving,xp QJ ce,xr kN⟩ e3 RR.Le.app ⟨_,_,F',λ i a e=>sU (λ zz=>rfl) QJ kN lc nd hlen xs K.sz e,K₁,⟨rfl,rfl,rfl⟩⟩
end
end Mine
end
section
open PySem PySem.W PyProof.Rows PySem.Spec PySem.Calls
namespace Mine
theorem oq(C:Addr)(rest:List Value):∃(d1:Sem PySem.Fin) (d2:Value->Sem PySem.Fin) (K:Option String->Sem PySem.Fin) (L:Value->Option Value->Sem PySem.Fin),
  Builtin.«type.__call__» ⟨.ref C::rest,[]⟩=(mroOf (.ref C) >>= λ m=>if m.isEmpty=true then d1 else(Bind.madeBy (.ref C) >>= K))/\
  (∀id,K (some id)=(holding [.builtin id] (call (.builtin id) (.ref C::rest) []) >>= λ obj=>isInstance obj (.ref C) >>= λ b=>if(!b)=true then d2 obj else(holding [obj] (callSpecial? obj "__init__" rest []) >>= L obj)))/\
  (∀obj,L obj none=ret obj)/\∀obj,L obj (some .none)=ret obj:=⟨_,_,_,_,rfl,λ id=>rfl,λ obj=>rfl,λ obj=>rfl⟩
theorem pC(C:Addr)(rest:List Value):∃(M:Obj->Sem PySem.Fin) (N:Option Value->Sem PySem.Fin) (N2:Value×List Value->Sem PySem.Fin),
  callAny (.ref C) ⟨rest,[]⟩=(load C >>= M)/\(∀oc od cd sl,M ⟨oc,od,.cls cd,sl⟩=(specialOf (.ref C) "__call__" >>= N))/\
  N (some (.builtin "type.__call__"))=(bindSpecial (.builtin "type.__call__") (.ref C) >>= N2)/\N2 (.builtin "type.__call__",[.ref C])=Sem.pure (PySem.Fin.again (.call (.builtin "type.__call__") ⟨.ref C::rest,[]⟩)):=⟨_,_,_,rfl,λ oc od cd sl=>rfl,rfl,rfl⟩
end Mine
end
section
open PySem PySem.W PyProof.Rows PySem.Spec PySem.Calls
namespace Mine
open LCg
open _root_.And renaming intro->N7
open _root_.Bool renaming true->L7,false->L8,false_ne_true->MC,not_eq_true'->Nd,and_eq_true->NZ,not_eq_true->OK,or_false->O2,false_eq_true->PD
open _root_.Classical renaming propDecidable->M0,byContradiction->OI
open _root_.Eq renaming trans->PC
open _root_.LawfulBEq renaming eq_of_beq->Mx
open _root_.List renaming mem_singleton->Ma,length_map->Md,length_append->Mf,append_nil->Mg,mem_cons->Mj,append_assoc->Mk,mem_append_right->Ml,all_eq_true->Mq,getElem?_eq_getElem->Mr,range->Ms,mem_map->Mu,mem_map_of_mem->Mw,getElem?_eq_some_iff->Mz,getElem?_append_right->MG,map_map->MH,lookup_cons->MI,contains_iff_mem->ML,mem_range->MM,map_cons->MP,length_cons->MR,mem_append_left->MS,map_congr_left->MT,mem_filter->MW,mem_flatMap->M2,map_append->M8,getElem?_map->Nc,getD_eq_getElem?_getD->Ng,nodup_cons->Nn,mem_append->No,length_set->Np,filter_cons_of_neg->Nu,size_toArray->Nw,take_length->Nz,any_eq_true->NA,mem_of_getElem?->NG,take_left'->NH,all_append->NI,mem_filterMap->NN,contains_cons->NO,not_mem_nil->NU,length_take->NV,length_eq_zero_iff->NW,filter_cons_of_pos->NX,forIn_cons->Oc,getElem?_eq_none->Oe,map_id->Oh,filter_eq_self->Oo,length_mapIdx->Oq,nodup_append->OA,map->OB,isEmpty_iff->OG,getElem_mem->OH,length->ON,length_nil->OO,nodup_iff_pairwise_ne->OU,take->O4,lookup_cons_self->Pm,mem_erase_of_ne->Po,getElem?_mapIdx->Pp,findIdx_getElem->Pq,map_eq_nil_iff->Pv,filterMap_cons->Pw,getElem?_drop->PB,reverse_cons->PK,length_drop->PT,isEmpty_map->PU,drop_length->PW
open _root_.List.cons renaming inj->Of
open _root_.Nat renaming ne_of_lt->Mi,le_refl->Mm,le_add_right->Mt,le_trans->ME,add_sub_cancel_left->MF,add_comm->MU,lt_succ_self->MV,le_succ->M6,lt_of_lt_of_le->M7,le_add_left->Nr,succ_ne_zero->ND,lt_trans->NM,lt_irrefl->NS,add_assoc->NT,succ_ne_self->N0,succ_le_succ->N5,mod_lt->Oa,le_of_eq->Ob,one_ne_zero->Od,add_sub_cancel'->Op,zero_add->Pk,zero_le->Pt,succ->Pu,lt_succ_of_lt->PQ,lt_succ_of_le->PR,le_succ_of_le->PS
open _root_.Nat.succ renaming inj->NF
open _root_.Option renaming some->L6,none->L9,isSome_iff_exists->MZ,map->Nk
open _root_.Option.some renaming inj->My
open _root_.Prod renaming fst->Mn,snd->NE
open _root_.Prod.mk renaming inj->MD
open _root_.Pure renaming pure->Nx
open _root_.PyProof.Rows renaming envOfC->OY,News->Pj,IntsAre->PM
open _root_.PySem renaming Shared->Mc,wpAny_bind->Me,model->Mh,wpAny_pure->Mp,wpAny->MJ,eval->MN,World->MO,wpAny_truthy_bool->MQ,wpAny_loadPart_at->M1,wpAny_holding->M3,Heap->M4,execs->Na,Program->Nb,wpAny_standAt->Nf,starEach->Ni,Around->Nj,Result->Nt,standAt->Nv,recursionLimit->NB,wpAny_mono->NK,checkBuiltinCall->NL,wpAny_isSubtype_exc->NP,callerA->NQ,cellsFrom->NR,excClassObj->N8,attributeBase->N9,backTo->Ok,ExcBaseFacts->Om,wpAny_execs_nil->On,wpAny_newFunctionEnv->Ot,exec->Ov,notedBy->Ow,noteFrame->Ox,holding->Oy,DictEntry->OC,swappedStores->OE,comprehension->OF,assignEach->OM,callWith->OS,wpAny_comp_letGo->OV,setFlight->OW,wpAt->OZ,mainGlobals->O1,relabel->O5,callAny->O6,ExcName->O8,wpAny_rule->Pb,wpAny_load->Pc,typeLookup->Pd,stored->Pe,newFunctionEnv->Pf,compPost->Pg,bindArgs->Ph,wpAt_of_wpAny->Pn,assignInOrder->Pr,swapsWith->Py,getMethod->Pz,codeAmong->PA,newList->PF,cellOf->PI,callEnv->PJ,BindsTo->PN,wpAt_bind->PP
open _root_.PySem.Around renaming under_plainId->Pa
open _root_.PySem.Bind renaming printed->O9
open _root_.PySem.Builtin.Dict renaming updateFrom->OD,pairItems->OJ
open _root_.PySem.Builtin.ObjectAttr renaming storeInDict->NY,newKeyGuard->PX
open _root_.PySem.Challenge renaming rw_og0284_01->Mo
open _root_.PySem.Code renaming quiet_builtin->Os
open _root_.PySem.F renaming slot_list_getattribute->N6
open _root_.PySem.Heap renaming get?_push_of_some->Mb,lt_size->Mv,dictOf_iff->MY,get?_push_size->Nh,size_push->Oi,get?_none_of_le->Oj,SameBut->O7,get?_update_ne->Px
open _root_.PySem.Heap.UpToSlots renaming of_keeps->NJ
open _root_.PySem.PassesOwn renaming leaving->Ol
open _root_.PySem.ScopeKind renaming function->O3
open _root_.PySem.Sem renaming wp_bind'->Pi,wp_mono->Ps
open _root_.PySem.Value renaming ref->Nq,builtin->O0
open _root_.PySem.Value.ref renaming inj->M5
open _root_.PySem.W renaming tabObj->MK,hideAll_get->M9,instObj->Nm,Frag->Ny,bytesKind->Og,findIn->Ou,hideAll->Oz,of_hideAll->OL,looks_findIn->OP,hideAll_none->OQ,Looks->OT,keepIn->OX,hideAll_size->PG,ghostOf->PH
open _root_.PySem.W.Looks renaming ld->Pl
section
set_option tactic.hygienic true
open PySem PySem.W PyProof.Rows PySem.Spec PySem.Calls Builtin
section
variable{prog:Nb}{w:MO}{A:Nj}{K:Ny}{C:Addr}{R:Nt->Mc->Prop}{h:M4}{g:Array GenState}{d:Drawn}{t:Nat}{os:OsState}
theorem eN{id:String}(hq:(Code.builtin id args).quiet=L7)(hb:entryFor table id=L6 b)(hn:ly (.builtin id args))
  (h:MJ (Mh prog w) A.in1 (NL id args) (λ _ s₁=>aB (Mh prog w) (A.under (.builtin id args)) (b args)
   (λ fin s'=>match fin with|.done f=>R (.ok f) s'|.again c'=>c'.quiet=L7/\aL (Mh prog w) A c' R s') (λ e s'=>R (.error e) s') s₁)
   (λ e s'=>R (.error e) s') s):aL (Mh prog w) A (.call (.builtin id) args) R s:=by
 refine aV (λ _ _=>rfl)<|(?_:aB _ A.in1 (do NL id args;again (.builtin id args)) _ _ s)
 exact az (NK h (λ _ s₁ h₁=>al (N7 hq (cN hb hn h₁))) λ _ _ h'=>h')
theorem jN{rest:List Value}(Y:Makes (Mh prog w) h C)(hi:OT (Mh prog w) h (Pd (.ref C) "__init__") (L6 init))
  (hb:∀self,OT (Mh prog w) h (bindSpecial init self) (init,[self])) (hne:(L6 init != L6 (O0 "object.__init__"))=L7)
  (hq:aL (Mh prog w) (A.under (.builtin "type.__call__" ⟨.ref C::rest,[]⟩)) (.call init ⟨.ref (h.objs.size+1)::rest,[]⟩) (InitBack (h.objs.size+1) R) ⟨(h.push emptyDict).push (Nm C h.objs.size),g,d,t,os⟩) :
  aL (Mh prog w) A (.call (.ref C) ⟨rest,[]⟩) R ⟨h,g,d,t,os⟩:=by
 have Y':=Y;obtain⟨⟨oc,od,cd,sl,hC,e1,e2,e4⟩,made,base,self,top,call,IA⟩:=Y;refine aV (λ _ _=>rfl)<|cJ (pC C rest) λ M N N2 q1 q2 q3 q4=>(?_:aB _ _ (O6 (.ref C) _) _ _ _)
 refine ac q1 (az (Pc hC (ac (q2 _ _ _ _) (az (call.at ?_)))));refine ac q3 (ac (tc_bind _) (az (Mp (ac q4 ?_))));refine al (N7 rfl ?_);refine eN (Os _ (by decide +kernel)) entry_typeCall (eX (by decide +kernel) λ _ _=>rfl) (check_slot tc_kind tc_split IA (tc_args _ _ _) ?_);refine dj (oq C rest) λ d1 d2 K' L e5 e6 e7 e8=>ac e5 ?_;have hm:OT (Mh prog w) h (mroOf (.ref C)) cd.mro:=((Pl (part:=L9) hC).andThen .now).andThen .now;refine az (hm.at ?_);refine ac e4 (ac (if_neg MC) ?_);refine az (made.at ?_);refine ac (e6 _)<|az (M3 (wpAny_call (new_K Y' hi (.inl hne) ?_)));have k:∀b o,h.get? b=L6 o->((h.push emptyDict).push (Nm C h.objs.size)).get? b=L6 o:=λ b o e=>Mb _ (Mb _ e);have hx:((h.push emptyDict).push (Nm C h.objs.size)).get? (h.objs.size+1)=L6 (Nm C h.objs.size):=by heap_get
 have t1:OT (Mh prog w) ((h.push emptyDict).push (Nm C h.objs.size)) (typeOf (.ref (h.objs.size+1))) (.ref C):=(Pl hx).andThen .now;have s1:=self.keeps k;have i1:=hi.keeps k;have b1:=(hb (.ref (h.objs.size+1))).keeps k;unfold isInstance callSpecial? specialOf;refine az (Me (t1.at (s1.at ?_)));refine cH rfl<|aj (ak (az (Me (t1.at (i1.at ?_)))));dsimp only;refine ak (az (b1.at ?_));refine aj (bB (dk hq λ r s' z=>?_));rcases r with e|(v|_|_|_)<;>first|exact z|exact z.elim|skip
 (revert z;refine λ P3=>aD P3 λ Qc z=>?_;clear P3;obtain rfl:=Qc);exact al (ac (e8 _) (al z))
end
end
structure Iv(K:Ny)(C g:Addr):Prop where
 m:makesIn K C=L7
 f:Ou K (.ref C) "__init__"=L6 (L6 (.ref g))
 t:typeIn K (.ref g)=L6 (.type "function")
noncomputable def B3(C g:Addr):Prop:=∀w:MO,Iv (hd.heap_39 w.params) C g
noncomputable def hG(f:Addr)(vs:List AV)(r:AV ⊕ AO):Prop:=∀(c:Cx) (d:Nat) (ρ:RR) (σ:St) (s:Mc) (us:List Value),aQ c (d+8)->au c ρ σ s->IsL ρ vs us->W c (call (.ref f) us) (PE c ρ (zy σ r).2 (zy σ r).1) s
noncomputable def bE(g:Addr)(S:KT)(vs:List AV)(q:(AV ⊕ KT)×KT):Prop:=∀(c:Cx) (d:Nat) (ρ:RR) (σ:St) (s:Mc) (i:Nat) (us:List Value),aQ c (d+12)->au c ρ σ s->σ.obs[i]?=L6 (.ktb S)->IsL ρ (.obj i::vs) us->W c (call (.ref g) us) (PE c ρ (JH σ i q).2 (JH σ i q).1) s
noncomputable def mi(g:Addr)(vs:List AV)(os:List AO)(ph:Bool)(r:AV×List AO):Prop:=∀(c:Cx) (d:Nat) (ρ:RR) (σ:St) (s:Mc) (us:List Value),aQ c (d+20)->au c ρ σ s->σ.obs=os->σ.ph=ph->IsL ρ vs us->W c (call (.ref g) us) (PE c ρ {σ with obs:=r.2} r.1) s
structure Kr(c':Cx)(fs:FS)(ls:List AV)(C:Addr)(σ σ':St)(avs:List AV)(σ₁ Qs:St):Prop where
 a:∀PY s₁,au c' PY ⟨fs.ps.zip (.obj σ.obs.length::ls),σ.obs++[.ins C []],σ.ph⟩ s₁->W c' (spliced (Ok fs.p3 (Ni (bZ fs.args) c'.env))) (PL c' PY σ₁ avs) s₁
 b:∀PY s₁ Rh,au c' PY σ₁ s₁->IsL PY (.obj σ.obs.length::avs) Rh->aL c'.M c'.A (.call (.ref fs.base) ⟨Rh,[]⟩) (λ r s'=>match r with|.ok (.ret _)=>∃P5,PY.Le P5/\au c' P5 Qs s'|.ok _=>False|.error e=>c'.E e s') s₁
 c:∀PY s₁,au c' PY Qs s₁->W c' (Na (ba fs.body) c'.env) (FE c' PY σ' .nxt) s₁
noncomputable def BY(C:Addr)(n:Nat)(fs:FS):Prop:=∀(c:Cx) (d:Nat) (ρ:RR) (σ:St) (s:Mc) (us:List Value) (vs:List AV) (σ':St),aQ c (d+3)->au c ρ σ s->IsL ρ vs us->vs.length=n->
 (∀c':Cx,aQ c' (d+1)->gk c'.cs fs.args=L7->bz c'.cs fs.body=L7->∃avs σ₁ Qs,Kr c' fs vs C σ σ' avs σ₁ Qs)->W c (call (.ref C) us) (PE c ρ ⟨σ.loc,mz (σ.obs.length+1) .non σ'.obs,σ'.ph⟩ (.obj σ.obs.length)) s
noncomputable def kJ(x:X)(d:Nat)(σ:St)(r:AV×St):Prop:=∀(c:Cx) (ρ:RR) (s:Mc),aQ c d->cv c.cs x=L7->au c ρ σ s->W c (MN (a8 x) c.env) (PE c ρ r.2 r.1) s
structure be(T:bq):Prop where
 glo:∀i v,T.glo.lookup i=L6 v->ml i v
 tup:fM T
 att:yB T
 met:AS T
 fns:∀a n fd,T.fns.lookup (a,n)=L6 fd->pO a n fd
 cls:∀C g,T.cls.lookup C=L6 g->B3 C g
 pur:∀a vs r,T.pur a vs=L6 r->hG a vs r
 ktm:∀g S vs q,T.ktm g S vs=L6 q->bE g S vs q
 cmd:∀t,T.cmd t=L7->tm t
 isi:ES T
 sup:∀C n fs,T.sup.lookup (C,n)=L6 fs->BY C n fs
 stf:∀g vs os ph r,T.stf g vs os ph=L6 r->mi g vs os ph r
 kp:∀a∈T.kp,∀w:MO,OX (hd.heap_39 w.params) (.ref a)=L7
 raw:∀x d σ r,T.raw x d σ=L6 r->kJ x d σ r
theorem j6(x:X)(rest:List Expr)(env:Env):Ni (a8 x::rest) env=(L8,MN (a8 x) env)::Ni rest env:=by cases x<;>rfl
theorem cu:∀l:List X,(Ok pos (Ni (bZ l) env)).any (·.1)=L8/\(Ok pos (Ni (bZ l) env)).all (!·.1)=L7
 | []=>⟨rfl,rfl⟩
 | x::xs=>by
  refine ac (show bZ (x::xs)=a8 x::bZ xs from rfl) (ac (j6 _ _ _) ?_);exact cu (env:=env) (pos:=pos) xs
theorem j9:∀l:List X,(bZ l).length=l.length
 | []=>rfl
 | _::xs=>congrArg Pu (j9 xs)
theorem uu(h:ii (.call f l p)=L7)(QL:Str)(env:Env)(whole:Sem Value):N9 (a8 (.call f l p)) QL env whole=whole:=by
 cases l with
 | cons=>cases f<;>rfl
 | nil=>
  cases f with
  | glo i q=>
   have n:(nm i != "super")=L7:=bne_iff_ne.mpr λ e=>by
    have h:(i != 207)=L7:=h;rw[f9 (e.trans (show _=nm 207 from rfl))] at h;exact ff h
   refine(?_:(if nm i != "super"||QL=="__class__"||env.kindOf "super" != L6 .globalImplicit||env.kindOf "__class__" != L6 .free then(do return ← whole) else _)=whole);exact ac (if_pos (by rw[n];rfl)) rfl
  | loc=>exact ff h
  | cel=>exact ff h
  | _=>rfl
theorem ku(h:ii o=L7)(QL:Str)(env:Env)(whole:Sem Value):N9 (a8 o) QL env whole=whole:=by
 cases o with
 | call f l p=>exact uu h QL env whole
 | raw=>exact ff h
 | _=>rfl
theorem bn(h:sf f=L7)(args:List Expr)(pos:Pos)(env:Env):MN (.Call (a8 f) args [] pos) env=(do OS pos (← MN (a8 f) env) [] (Ok pos (Ni args env)) (backToKw pos (keywordEach [] env))):=by
 cases f with
 | att=>exact ff h
 | _=>rfl
theorem sp(hp:ii o=L7)(hn:l.length<30)(hl:(apos.endLine==pos.line)=L7) :
  MN (.Call (.Attribute (a8 o) name apos) (bZ l) [] pos) env=(do
   let ov ← MN (a8 o) env
   Nv apos.atName
   let (f,first) ← Oy [ov] (Pz ov name (do return (← importBound (a8 o) env).getD L7))
   OS pos f first (Ok pos (Ni (bZ l) env)) []):=by
 refine ac (arm_eval_Call _ _ _ _ _ _ _) (ac (ku hp _ _ _) ?_);congr 1
 funext ov
 congr 1
 funext _
 unfold methodCall;have hf:methodCallForm ((bZ l).length+([]:List Keyword).length) (Ok pos (Ni (bZ l) env)) (backToKw pos (keywordEach [] env))=L7:=by
  show(_&&L7&&decide _)=L7;refine ac ((cu l).2) (ac (j9 _) ?_);exact decide_eq_true (by refine(?_:l.length+0+0<30);exact hn)
 refine ac hf ?_;unfold calleeOf methodCallPos;refine ac hl ?_;rfl
theorem AK(hp:ii o=L7)(QL:Str)(pos:Pos)(env:Env):MN (.Attribute (a8 o) QL pos) env=(do
   let o' ← MN (a8 o) env
   Nv pos.atName
   let r ← Oy [o'] (getAttr o' QL L7)
   letTemporaryGo (a8 o) o' r
   Nx r):=by
 exact ac (arm_eval_Attribute _ _ _ _) (ac (ku hp _ _ _) rfl)
noncomputable def gm(E:eB):Prop:=∀d x σ r (c:Cx) ρ s,E.ev d x σ=L6 r->aQ c d->cv c.cs x=L7->au c ρ σ s->W c (MN (a8 x) c.env) (PE c ρ r.2 r.1) s
inductive TE(c:Cx)(ρ:RR)(r:Bool×St)(b:Bool)(s:Mc):Prop
 | mk (ρ':RR) (e:ρ.Le ρ') (R:au c ρ' r.2 s) (q:b=r.1)
noncomputable def yh(E:eB):Prop:=∀d x σ r (c:Cx) ρ s,E.tst d x σ=L6 r->aQ c d->cv c.cs x=L7->au c ρ σ s->W c (isTrue (a8 x) c.env (MN (a8 x) c.env)) (TE c ρ r) s
theorem TE.el{P':Prop}(hh:TE c ρ r b s)(kk:∀(ρ':RR) (e:ρ.Le ρ') (R:au c ρ' r.2 s) (q:b=r.1),P'):P':=by
 obtain⟨ρ',e,R,q⟩:=hh;exact kk ρ' e R q
noncomputable def Ia(E:eB):Prop:=∀d x σ r (c:Cx) ρ s,E.tst d x σ=L6 r->bG x=L7->aQ c d->cv c.cs x=L7->au c ρ σ s->W c (MN (a8 x) c.env) (PE c ρ r.2 (.boo r.1)) s
noncomputable def yj(E:eB):Prop:=∀d f vs σ r (c:Cx) ρ s us,E.cal d (.val f) vs σ=L6 r->aQ c d->au c ρ σ s->IsL ρ vs us->W c (call f us) (PE c ρ r.2 r.1) s
noncomputable def yi(E:eB):Prop:=∀d ss σ r (c:Cx) ρ s,E.exs d ss σ=L6 r->aQ c d->bz c.cs ss=L7->au c ρ σ s->W c (Na (ba ss) c.env) (FE c ρ r.2 r.1) s
section
variable{T:bq}{E:eB}{d:Nat}{c:Cx}{ρ:RR}{σ σ':St}{s:Mc}{a:AV}
theorem W.from(e:ρ.Le PY)(h:W c t (PE c PY σ a) s):W c t (PE c ρ σ a) s:=ax h (λ zz zz z=>z.from e) λ zz zz z=>z
theorem js(he:gm E)(C:aQ c d):∀{l:List X} {σ:St} {r:List AV×St} {ρ:RR} {s:Mc},pg (E.ev d) l σ=L6 r->gk c.cs l=L7->au c ρ σ s->W c (spliced (Ok pos (Ni (bZ l) c.env))) (PL c ρ r.2 r.1) s:=by intro l_;induction l_ with
 | nil=>
  intro σ r ρ s h hm R;obtain rfl:=sI h;exact cr ⟨ρ,RR.Le.refl,R,rfl⟩
 | cons x xs P9=>
  intro σ r ρ s h hm R;refine ae h λ p hp h1=>ae h1 λ q hq h2=>?_;obtain rfl:=sI h2;refine af hm λ m1 m2=>ac (show bZ (x::xs)=a8 x::bZ xs from rfl) (ac (j6 _ _ _) ?_);refine bd (he d x σ p c ρ s hp C m1 R) λ v s₁ z=>?_;(refine PE.el z λ PY P1 R₁ P7=>?_;clear z);refine aK (P9 hq m2 R₁) λ us P0 z=>?_;(refine PL.el z λ P5 P8 P4 Qi=>?_;clear z);exact⟨P5,P1.trans P8,P4,_,_,rfl,P7.mono P8,Qi⟩
theorem Fh(hT:be T)(he:gm E)(hc:yj E)(hk:∀b vs σ r,E.cal d (.val (.ref b)) vs σ=L6 r->b∈T.kp)(hv:∀f vs σ r,E.cal d (.val f) vs σ=L6 r->(∃b,f=.ref b)\/keeperOf f=Nx .machine)(C:aQ c d)(R:au c ρ σ s)
  (h1:pg (E.ev d) l σ=L6 q) (h2:E.cal d (.val fv) (fvs++q.1) q.2=L6 r) (x:IsL ρ fvs fus) (hm:gk c.cs l=L7):W c (OS pos fv fus (Ok pos (Ni (bZ l) c.env)) []) (PE c ρ r.2 r.1) s:=by
 have st:=(cu (env:=c.env) (pos:=pos) l).1;have go:=js (pos:=pos) he C h1 hm R;have fin:∀us s',PL c ρ q.2 q.1 us s'->W c (call fv (fus++us)) (PE c ρ r.2 r.1) s':=λ us s' z=>by
  (refine PL.el z λ PY P1 R₁ P7=>?_;clear z);exact W.from P1 (hc d fv _ q.2 r c PY s' _ h2 C R₁ (ay.app (x.imp λ zz zz z=>z.mono P1) P7))
 rcases hv _ _ _ _ h2 with ⟨b,rfl⟩|hk'
 ·refine cq (K:=c.K) (hT.kp _ (hk _ _ _ _ h2) c.w) st go λ us s' z=>⟨?_,fin us s' z⟩
  (refine PL.el z λ _ _ R₁ _=>?_;clear z);exact R₁.X C
 ·refine c8 hk' st (aK (dy st go) λ a s' z=>?_);refine ac z.1<|fin _ _ z.2
end
section
variable{prog:Nb}{w:MO}{A:Nj}
theorem ri(I:Nat->Mc->Prop)
  (turn:∀n s,I n s->aB (Mh prog w) A (pyNext it) (λ r s₁=>match r with
   | none=>R (.ok .next) s₁
   | some v=>aB (Mh prog w) A (letOwnedTupleGo target it v) (λ zz Q3=>aB (Mh prog w) A (assign target env v) (λ zz P0=>
     aB (Mh prog w) A (i8 ifsJ9 env) (λ ok s₃=>
      if ok=L7 then aB (Mh prog w) A (MN elt env) (λ x Ql=>
       aB (Mh prog w) A (call (.builtin "list.append") [acc,x]) (λ zz s₅=>∃m,m<n/\I m s₅) (Ow (Mh prog w) A env λ e s'=>R (.error e) s') Ql) (Ow (Mh prog w) A env λ e s'=>R (.error e) s') s₃
      else ∃m,m<n/\I m s₃) (Ow (Mh prog w) A env λ e s'=>R (.error e) s') P0) (Ow (Mh prog w) A env λ e s'=>R (.error e) s') Q3) (Ow (Mh prog w) A env λ e s'=>R (.error e) s') s₁)
    (Ow (Mh prog w) A env λ e s'=>R (.error e) s') s)
  (n:Nat) (h:I n s):aL (Mh prog w) A (.compLoop (.ListComp elt [⟨target,iter,ifsJ9,0⟩] scope pos) 0 it acc env) R s:=by
 refine kh (λ zz zz=>rfl) rfl I (λ n s hI=>?_) n h;refine(?_:aB _ A ((compTurn (.ListComp elt [⟨target,iter,ifsJ9,0⟩] scope pos) 0 it acc env).onRaise (λ x=>do Ox x env;theTreesLotGoes x)) _ _ s);refine gw<|ac (compTurn_list _ _ _ _ _ _ _ _ _)<|aw (aj (aK (turn n s hI) λ r s₁ h₁=>?_));cases r with
 | none=>exact al h₁
 | some v=>
  refine aj (ax h₁ (λ zz Q3 Rl=>?_) λ zz zz h'=>h');refine aj (ax Rl (λ zz P0 Qa=>aj (ax Qa (λ ok s₃ Qo=>?_) λ zz zz h'=>h')) λ zz zz h'=>h');cases ok with
  | false=>exact al ⟨rfl,Qo⟩
  | true=>exact aj (aj (ax Qo (λ x Ql Q1=>aj (ax Q1 (λ zz s₅ Rr=>al (al ⟨rfl,Rr⟩)) λ zz zz h'=>h')) λ zz zz h'=>h'))
theorem qe(h:aB M A m Q (Ow M A env E) s) :
  aB M A (m.onRaise λ x=>do Ox x env;Nv pos) Q E s:=
 bR (ax h (λ zz zz q=>q) λ zz zz hx=>Me (NK hx (λ zz zz e=>Nf e) λ zz zz e=>e))
theorem iV{elt target iter ifsJ9 rest scope pos it acc env}
  (h0:aL (Mh prog w) A (.compLoop (.ListComp elt (⟨target,iter,ifsJ9,0⟩::rest) scope pos) 0 it acc env) R s)
  (h:aB (Mh prog w) A (pyIter it) (λ it' s'=>aL (Mh prog w) A (.compLoop (.ListComp elt (⟨target,iter,ifsJ9,0⟩::rest) scope pos) 0 it' acc env) R s')
   (Ow (Mh prog w) A env λ x s'=>R (.error x) s') s) :
  aL (Mh prog w) A (.compStart (.ListComp elt (⟨target,iter,ifsJ9,0⟩::rest) scope pos) 0 it acc env) R s:=by
 refine aV (λ zz zz=>rfl)<|(?_:aB _ _ ((compStart (.ListComp elt (⟨target,iter,ifsJ9,0⟩::rest) scope pos) 0 it acc env).onRaise (λ x=>do Ox x env;Nv theWindowsPlace)) _ _ s)
 refine qe ?_;unfold compStart;refine(?_:aB _ _ (ask >>= _) _ _ s);refine aj (ah (wpAny_askSetting ?_));split
 ·first
   | exact aj (al (al (N7 rfl h0)))
   | exact al (N7 rfl h0)
 ·first
   | exact aj (az (Pb (aw (aj (ax h (λ it' s' h'=>al (N7 rfl h')) λ zz zz x=>x)))))
   | (refine az (Pb ?_);refine(?_:aB _ _ (Nv iter.pos >>= _) _ _ s);exact aw (aj (ax h (λ it' s' h'=>al (N7 rfl h')) λ zz zz x=>x)))
end
section
variable{prog:Nb}{w:MO}{A:Nj}{E:Value->Mc->Prop}{s:Mc}{env:Env}
theorem D5(J:Nat->List Value->Mc->Prop)
  (hcell:∀y∈scope.names,y.2≠.cell) (hkind:scope.kind=.function) (S:bD prog w A xv s.heap n P dep) (hsz:n<=sizeLine)
  (h0:∀h' m tk,lB s.heap h'->h'.get? (s.heap.objs.size+1)=L6 (lst [])->h'.Ns (s.heap.objs.size+2) m->J 0 [] {s with heap:=h',toks:=tk})
  (hdep:∀i ys s',J i ys s'->∀b∈dep,∀o,s.heap.get? b=L6 o->s'.heap.get? b=L6 o)
  (hch:∀i ys s' h' tk,J i ys s'->(∀b o,b∉[s.heap.objs.size]->s'.heap.get? b=L6 o->h'.get? b=L6 o)->J i ys {s' with heap:=h',toks:=tk})
  (hJ:∀i ys s',J i ys s'->s'.heap.get? (s.heap.objs.size+1)=L6 (lst ys)/\(∃m,s'.heap.Ns (s.heap.objs.size+2) m)/\ys.length<=i)
  (turn:∀i v ys s' oI,i<n->J i ys s'->s'.heap.get? s.heap.objs.size=L6 oI->P i v->
   aB (Mh prog w) A (assign target (compEnvC scope cl (s.heap.objs.size+2) env) v) (λ zz s₃=>aB (Mh prog w) A (i8 ifsJ9 (compEnvC scope cl (s.heap.objs.size+2) env)) (λ ok Ql=>
    if ok=L7 then aB (Mh prog w) A (MN elt (compEnvC scope cl (s.heap.objs.size+2) env)) (λ y s₅=>(s₅.heap.get? s.heap.objs.size=L6 oI/\s₅.heap.get? (s.heap.objs.size+1)=L6 (lst ys))/\
     ∀h',O7 (s.heap.objs.size+1) s₅.heap h'->h'.get? (s.heap.objs.size+1)=L6 (lst (ys++[y]))->J (i+1) (ys++[y]) {s₅ with heap:=h'}) (λ zz zz=>False) Ql
    else Ql.heap.get? s.heap.objs.size=L6 oI/\J (i+1) ys Ql) (λ zz zz=>False) s₃) (λ zz zz=>False) s')
  (done:∀ys s' f m',J n ys s'->s'.heap.Ns (s.heap.objs.size+2) m'->Pg (Mh prog w) A E use Q (.ref (s.heap.objs.size+1)) (s.heap.objs.size+2) (.ok f) s') :
  aB (Mh prog w) A (pyIter xv) (λ it P0=>aB (Mh prog w) A (PF []) (λ acc s₃=>aB (Mh prog w) A (Pf scope env.globals cl [] env.qual L9 .none (L6 env)) (λ cenv Ql=>
   aL (Mh prog w) A (.compStart (.ListComp elt [⟨target,iter,ifsJ9,0⟩] scope pos) 0 it acc {cenv with scope:=O5 scope env}) (Pg (Mh prog w) A E use Q acc cenv.locals) Ql) E s₃) E P0) E s:=by
 refine ah (S.iter s _ _ rfl λ o fp St hfr W hfp hst hIo hgo=>ah (wpAny_newObj_type (ah (Ot hcell (λ y hy=>(ni hy)) (λ h₁ Q9 Q8=>?_) hkind))));have z1:(s.heap.push o).objs.size=s.heap.objs.size+1:=Oi _ _;have z2:((s.heap.push o).push (lst [])).objs.size=s.heap.objs.size+2:=(Oi _ _).trans (congrArg Pu z1);have e1:(.ref (s.heap.push o).objs.size:Value)=.ref (s.heap.objs.size+1):=congrArg Nq z1;have e2:((s.heap.push o).push {cls:=.type "list",dict:=L9,data:=.seq ([]:List Value).toArray}).objs.size=s.heap.objs.size+2:=z2;dsimp only at Q9 Q8 ⊢;rw[e2] at Q9 Q8 ⊢;refine ac e1 ?_;have old:∀b o',b≠s.heap.objs.size+2->((s.heap.push o).push (lst [])).get? b=L6 o'->h₁.get? b=L6 o':=λ b o' hb e=>Q8.extBut b o' hb (Mb _ e);have up:∀b o',(s.heap.push o).get? b=L6 o'->h₁.get? b=L6 o':=λ b o' e=>old b o' (Mi (M7 (Mv e) (ME (Ob z1) (M6 _)))) (Mb _ e);have J0:∀tk,J 0 [] {s with heap:=h₁,toks:=tk}:=λ tk=>h0 h₁ _ tk (λ b o' e=>up b o' (Mb _ e)) (old _ _ (Mi (MV _)) (z1▸Nh _ rfl)) Q9;have st0:St 0 h₁:=W.frame _ _ _ hst λ b zz o e=>up b o e;have loop:∀s₃:Mc,s₃={s with heap:=h₁,toks:=s.toks+([]:List (Str×Value)).length}->
   aL (Mh prog w) A (.compLoop (.ListComp elt [⟨target,iter,ifsJ9,0⟩] scope pos) 0 (.ref s.heap.objs.size) (.ref (s.heap.objs.size+1)) (compEnvC scope cl (s.heap.objs.size+2) env))
    (Pg (Mh prog w) A E use Q (.ref (s.heap.objs.size+1)) (s.heap.objs.size+2)) s₃:=by
  rintro s₃ rfl;refine ri (λ k s'=>∃i ys,i<=n/\k=n+1-i/\St i s'.heap/\J i ys s') ?_ (n+1) (aq 0 ([]) ⟨Pt _,rfl,st0,J0 _⟩);rintro k s' ⟨i,ys,hi,rfl,hst',hJ'⟩;by_cases hlt:i<n
  ·refine ah (W.item i _ _ _ hlt hst' λ v Qa Ri hPv Q6 Rn=>?_);have J₂:=hch i ys s' Qa Ri hJ' Rn;refine aA (hIo _ _ Q6) λ oI heI=>?_;have key:∀ys' s₅,s₅.heap.get? s.heap.objs.size=L6 oI->J (i+1) ys' s₅->∃mm,mm<n+1-i/\∃i ys,i<=n/\mm=n+1-i/\St i s₅.heap/\J i ys s₅:=λ ys' s₅ g Sl=>
    ⟨n+1-(i+1),by omega,(aq (i+1) ys' ⟨hlt,rfl,W.frame _ _ _ Q6 (λ b hb o' e=>by
     rcases hfp b hb with rfl|hd
     ·exact(sI (heI.symm.trans e))▸g
     ·refine aA (S.has b hd) λ ob hob=>bP (sI ((hdep i ys _ J₂ b hd ob hob).symm.trans e))<|hdep (i+1) ys' s₅ Sl b hd _ hob),Sl⟩)⟩
   refine ah (hgo target (i+1) _ v _ _ Q6 ?_);refine ax (turn i v ys _ oI hlt J₂ heI hPv) (λ zz s₃ Qo=>ax Qo (λ ok Ql Q1=>?_) λ zz zz e=>e.elim) λ zz zz e=>e.elim;cases ok with
   | false=>exact key _ _ Q1.1 Q1.2
   | true=>
    refine ax Q1 (λ y s₅ Rr=>?_) λ zz zz e=>e.elim;(refine aD Rr λ Qc k=>?_;clear Rr;(refine aD Qc λ g1 g2=>?_;clear Qc));have hl:=(hJ i ys _ J₂).2.2;exact ah (append_at (hsz:=by refine(?_:ys.toArray.size<=sizeLine);refine ac Nw ?_;exact ME hl (ME hi hsz)) g2 λ SG Rw Se=>key _ _ ((Rw.2 _ (Mi (MV _))).trans g1) (k SG Rw (Se.trans (congrArg L6 (lst_snoc ys y)))))
  ·obtain rfl:i=n:=Nat.le_antisymm hi (Nat.not_lt.mp hlt);refine ah (W.done _ _ _ hst' λ Qa Ri Rn=>?_);have J₂:=hch _ ys s' Qa Ri hJ' Rn;refine aA ((hJ _ ys _ J₂).2.1) λ m' hn'=>done ys _ _ m' J₂ hn'
 exact iV (loop _ rfl) (ah (W.self 0 _ _ _ st0 (loop _ rfl)))
theorem uU
  (hclos:closureFor scope env=Nx cl) (hkind:scope.kind=.function) (hnames:∀y∈scope.names,y.2=.local->scope.names.lookup y.1=L6 .local)
  (h:aB (Mh prog w) A (MN iter env) (λ xv s₁=>aB (Mh prog w) A (pyIter xv) (λ it P0=>aB (Mh prog w) A (PF []) (λ acc s₃=>aB (Mh prog w) A (Pf scope env.globals cl [] env.qual L9 .none (L6 env)) (λ cenv Ql=>
   aL (Mh prog w) A (.compStart (.ListComp elt [⟨target,iter,ifsJ9,0⟩] scope pos) 0 it acc {cenv with scope:=O5 scope env}) (Pg (Mh prog w) A E use Q acc cenv.locals) Ql) E s₃) E P0) E s₁) E s)
  (hs:∀x,foldedSetIterable iter env x=Nx x) :
  aB (Mh prog w) A (OF (.ListComp elt [⟨target,iter,ifsJ9,0⟩] scope pos) scope env p (PF []) L8 (MN iter env) use) Q E s:=by
 have ifp:∀{α:Type} {c:Prop} [Decidable c] {pos:Pos} {k:PUnit->Sem α} {Q:α->Mc->Prop} {s:Mc},aB (Mh prog w) A (k ()) Q E s->aB (Mh prog w) A (if c then(Nv pos >>= k) else k ()) Q E s:=λ{α c _ pos k Q s} h=>by
  by_cases q:c
  ·refine ac (if_pos q) ?_;exact aw h
  ·refine ac (if_neg q) ?_;exact h
 unfold OF;refine ac hclos (ac (show clausesOf (.ListComp elt [⟨target,iter,ifsJ9,0⟩] scope pos)=[⟨target,iter,ifsJ9,0⟩] from rfl) ?_);refine aH h λ x s₁ h₁=>aw (aj (ah (wpAny_of_eq (hs x) (aj (ak (ax h₁ (λ it P0 Qa=>ifp ?_) λ zz zz h'=>h'))))));refine aj (ax Qa (λ acc s₃ Qo=>aj (al (aj (ax Qo (λ cenv Ql Q1=>?_) λ zz zz h'=>h')))) λ zz zz h'=>h');dsimp only;have hv:∀x∈(scope.names.filter λ x=>(x.2==.local||x.2==.cell)&&x.1 != (".0":Str)).reverse,x.2=.local->
   Env.kindOf {cenv with scope:=O5 scope env} x.1=L6 .local:=λ x hx hl=>lookup_relabel_local (hnames x (MW.mp (List.mem_reverse.mp hx)).1 hl)
 refine ak (aj (iD (ak (rF (dk Q1 λ r s' hr=>?_)))));cases r with
 | ok f=>
  cases use with
  | none=>
   refine ag hr λ m hn hr=>ah (Me (M3 (OV (cenv:={cenv with scope:=O5 scope env}) hkind _ s' m hv hn λ h' m' zz hs'=>Mp (hr h' hs'))))
  | some u=>
   refine ah (Me (Pb (Me (M3 (NK hr (λ zz s'' hr'=>?_) λ zz zz h'=>h')))));refine ag hr' λ m hn hr'=>Me (OV (cenv:={cenv with scope:=O5 scope env}) hkind _ s'' m (λ x hx=>hv x ((No.mp hx).elim List.mem_of_mem_drop List.mem_of_mem_take)) hn λ h' m' zz hs'=>Mp (hr' h' hs'))
 | error x=>
  have hr':∃m,s'.heap.Ns cenv.locals m/\∀h',O7 cenv.locals s'.heap h'->∀cenv':Env,cenv'.locals=cenv.locals->MJ (Mh prog w) A (passOn "comprehension.variables-let-go" x cenv':Sem Value) (λ zz zz=>False) E {s' with heap:=h'}:=by cases use<;>exact hr
  refine ag hr' λ m hn hr=>ah (Me (M3 (OV (cenv:={cenv with scope:=O5 scope env}) hkind _ s' m hv hn λ h' m' zz hs'=>NK (hr h' hs' _ rfl) (λ zz zz f=>f.elim) λ zz zz y=>y)))
end
theorem jA(x:X)(env:Env)(v:Value):foldedSetIterable (a8 x) env v=Nx v:=by cases x<;>rfl
noncomputable def iN(env:Env)(l:List (Str×NameKind))(Sj:List (Str×Addr)):Sem (List (Str×Addr)):=do
 let mut cs:=Sj
 for (name,kind) in l do
  if kind==.free then cs:=(name,← PI env name)::cs
 return cs
theorem gj(h:PI env n=Nx a):iN env ((n,.free)::l) cs=iN env l ((n,a)::cs):=by
 unfold iN;simp only[Oc];refine ac h ?_;rfl
theorem xD(h:(k==NameKind.free)=L8):iN env ((n,k)::l) cs=iN env l cs:=by
 unfold iN;simp only[Oc];refine ac h ?_;rfl
structure KB(env:Env)(l:List (Str×NameKind))(cs cl:List (Str×Addr)):Prop where
 e:iN env l cs=Nx cl
 b:∀y a,cl.lookup y=L6 a->cs.lookup y=L6 a\/((y,.free)∈l/\env.cells.lookup y=L6 a)
 f:∀y,(y,.free)∈l\/(∃a,cs.lookup y=L6 a)->∃a,cl.lookup y=L6 a
theorem At:∀(l:List (Str×NameKind)) (cs:List (Str×Addr)),(∀x∈l,x.2=.free->∃a,env.cells.lookup x.1=L6 a)->∃cl,KB env l cs cl:=by intro l_;induction l_ with
 | nil=>intro cs _;exact⟨cs,rfl,λ y a h=>.inl h,λ y h=>h.elim (λ z=>(NU z).elim) id⟩
 | cons x_ l P9=>
  intro cs h;obtain⟨n,k⟩:=x_;by_cases hk:k=.free
  ·refine aA (h _ (.head _) hk) λ a ha=>?_;obtain⟨cl,h1,h2,h3⟩:=P9 ((n,a)::cs) λ x hx=>h x (.tail _ hx);refine⟨cl,by refine ac hk ?_;exact(gj (show PI env n=Nx a by unfold PI;exact ac (show env.cells.lookup n=L6 a from ha) rfl)).trans h1,λ y b e=>?_,λ y hy=>h3 y ?_⟩
   ·rcases h2 y b e with e|⟨e1,e2⟩
    ·rw[MI] at e;cases q:y==n with
     | true=>rw[q] at e;exact .inr ⟨by refine ac (Mx q) (ac hk ?_);exact .head _,by refine ac (Mx q) ?_;exact sI e▸ha⟩
     | false=>rw[q] at e;exact .inl e
    ·exact .inr ⟨.tail _ e1,e2⟩
   ·by_cases q:y=n
    ·exact .inr ⟨a,by refine ac q ?_;exact Pm⟩
    ·rcases hy with hy|⟨b,hb⟩
     ·exact .inl ((mC hy).resolve_left λ z=>q (congrArg Mn z))
     ·exact .inr ⟨b,by refine ac MI (ac (beq_false_of_ne q) ?_);exact hb⟩
  ·obtain⟨cl,h1,h2,h3⟩:=P9 cs λ x hx=>h x (.tail _ hx);refine⟨cl,(xD (beq_false_of_ne hk)).trans h1,λ y b e=>(h2 y b e).imp id λ z=>⟨.tail _ z.1,z.2⟩,λ y hy=>h3 y (hy.imp (λ hy=>(mC hy).resolve_left λ z=>hk (congrArg NE z).symm) id)⟩
theorem oR:∀{l:List (Nat×AV)},(dU fv l).lookup i=L6 a->i∈fv/\l.lookup i=L6 a:=by intro l_;induction l_ with
 | nil=>intro h;exact nn h
 | cons x l P9=>
  intro h;by_cases q:fv.contains x.1=L7
  ·rw[show dU fv (x::l)=x::dU fv l from NX q,MI] at h;refine ac MI ?_;cases e:i==x.1 with
   | true=>rw[e] at h;refine ac (Mx e) ?_;exact⟨ML.mp q,h⟩
   | false=>rw[e] at h;exact P9 h
  ·rw[show dU fv (x::l)=dU fv l from Nu q] at h;refine aD (P9 h) λ h1 h2=>⟨h1,by refine ac MI (ac (beq_false_of_ne λ z=>q (by rw[← z];exact ML.mpr h1)) ?_);exact h2⟩
theorem oQ{f:Str->NameKind->NameKind}:∀(l:List (Str×NameKind)),(l.map λ x=>(x.1,f x.1 x.2)).lookup y=(l.lookup y).map (f y):=by intro l_;induction l_ with
 | nil=>exact rfl
 | cons x_ l P9=>
  obtain⟨n,k⟩:=x_;refine ac MP (ac MI (ac MI ?_));by_cases q:y=n
  ·refine ac q (ac (beq_self_eq_true _) ?_);rfl
  ·refine ac (beq_false_of_ne q) ?_;exact P9
noncomputable def Jj(sc:Scope)(n:Str)(k:NameKind):NameKind:=if(k==.free&&sc.kind==.function&&sc.names.lookup n==L6 .cell)=L7 then .cell else k
theorem kf{sc:Scope}:(xo sc nms).names.lookup y=((lH nms).names.lookup y).map (Jj sc y):=by
 refine PC (congrArg (List.lookup y) (MT λ x zz=>?_)) (oQ (f:=Jj sc) (lH nms).names);exact(apply_ite (Prod.mk x.1) _ _ _).symm
structure Iw(sc:Scope)(nms:List (Nat×NameKind))(fv:List Nat):Prop where
 a1:∀x∈(lH nms).names,x.2≠.cell
 a2:∀x∈(lH nms).names,(lH nms).names.lookup x.1=L6 x.2
 a3:∀x∈(lH nms).names,x.2=.free->sc.names.lookup x.1=L6 .cell
 a4:∀i∈fv,(nm i,.free)∈(lH nms).names
theorem xH(h:Au sc nms fv=L7):Iw sc nms fv:=by
 refine af h λ h1 h2=>?_;have k:∀y∈nms,y.2≠.cell/\(y.2=.free->sc.names.lookup (nm y.1)=L6 .cell)/\(lH nms).names.lookup (nm y.1)=L6 y.2:=λ y hy=>by
  refine af (mA h1 y hy) λ k1 k4=>af k1 λ k1 k3=>af k1 λ k1 k2=>⟨λ q=>?_,λ q=>?_,Mx k4⟩
  ·rw[q] at k1;exact ff k1
  ·rw[q] at k3;exact(cB k3).1
 have z:∀x∈(lH nms).names,x=((".0":Str),.local)\/∃y∈nms,(nm y.1,y.2)=x:=λ x hx=>(mC hx).imp id Mu.mp;refine⟨λ x hx=>?_,λ x hx=>?_,λ x hx q=>?_,λ i hi=>List.mem_cons_of_mem _ (Mu.mpr ⟨_,of_decide_eq_true (mA h2 i hi),rfl⟩)⟩
 ·rcases z x hx with rfl|⟨y,hy,rfl⟩
  ·exact λ q=>nomatch q
  ·exact(k y hy).1
 ·rcases z x hx with rfl|⟨y,hy,rfl⟩
  ·exact Pm
  ·exact(k y hy).2.2
 ·rcases z x hx with rfl|⟨y,hy,rfl⟩
  ·exact nomatch q
  ·exact(k y hy).2.1 q
noncomputable abbrev Cx.comp(c:Cx)(nms:List (Nat×NameKind))(C:Addr)(cl:List (Str×Addr))(h:M4):Cx:={c with cs:=xo c.cs nms,L:=C,vc:=cl,vf:=L9,h₀:=h,E:=λ zz zz=>False}
section
variable{T:bq}{E:eB}{d:Nat}{c:Cx}{ρ ρ':RR}{σ σ':St}{s s':Mc}{a:AV}
theorem xy(C:aQ c d)(K:Iw c.cs nms fv)(F:Fr c.h₀ c.L h m)(hL:h.get? c.L=L6 oL)(hL':h₀.get? c.L=L6 oL)(st:∀b o,c.h₀.get? b=L6 o->h₀.get? b=L6 o)
  (h2:∀y a,cl.lookup y=L6 a->(y,.free)∈(lH nms).names) (h3:∀y,(y,.free)∈(lH nms).names->∃a,cl.lookup y=L6 a):aQ (c.comp nms C' cl h₀) d where
 B:=λ b o e=>st b o (C.B b o e)
 FF h' m' F':=C.FF h' m ⟨F.ns.at' λ o e=>(sI (hL.symm.trans e))▸F'.keep _ _ hL',λ b o e=>F'.keep b o (st b o e),F.above⟩
 off h' nw N:=C.off h' nw λ p q=>by
  refine cg (N p q) λ n1 n2 n3=>⟨n1,λ e=>?_,?_⟩
  ·have n3:h₀.get? p.1=L9:=n3;rw[e,hL'] at n3;exact sn n3
  ·cases e:c.h₀.get? p.1 with
   | none=>rfl
   | some o=>
    have n3:h₀.get? p.1=L9:=n3;rw[st _ _ e] at n3;exact sn n3
 X:=C.X.keeps st
 T:=C.T.keeps st
 hk:=rfl
 hd:=C.hd
 hu:=C.hu
 hE:=PassesOwn.never
 hc y hy:=by
  cases e:cl.lookup y with
  | none=>rfl
  | some b=>
   have m:=h2 _ _ e;rw[kf,K.a2 _ m] at hy;have hy:L6 (if(NameKind.free==.free&&c.cs.kind==.function&&c.cs.names.lookup y==L6 .cell)=L7 then NameKind.cell else .free)=L6 .local:=hy;rw[C.hk,K.a3 _ m rfl] at hy;exact nomatch hy
 hc2 y hy:=by
  rw[kf] at hy;refine aF hy λ k hk q=>?_;have m:=aN hk;by_cases z:k=.free
  ·exact h3 y (z▸m)
  ·rw[show Jj c.cs y k=k from if_neg (by refine ac (beq_false_of_ne z) ?_;exact MC)] at q;exact absurd q (K.a1 _ m)
theorem vd(ht:yh E)(C:aQ c d)(R:au c ρ σ s)(h:kN E d x σ=L6 r)(hm:rj c.cs x=L7):W c (i8 (DW x) c.env) (TE c ρ r) s:=by
 cases x with
 | none=>
  obtain rfl:=sI h;exact ah (Mp ⟨ρ,RR.Le.refl,R,rfl⟩)
 | some x=>
  have e:i8 (DW (L6 x)) c.env=isTrue (a8 x) c.env (MN (a8 x) c.env):=by
   refine(?_:(forIn [a8 x] L7 _:Sem Bool)=_);refine ac (Oc _ _ _ _) ?_;simp only[List.forIn_nil,if_true];first|rfl|simp
  refine ac e<|ht d x σ r c ρ s h C hm R
end
section
variable{T:bq}{E:eB}{d:Nat}{c:Cx}{ρ ρ':RR}{σ σ':St}{s s':Mc}{a:AV}
theorem aQ.fix(C:aQ c d):aQ (c.fix f) d:=⟨C.B,C.FF,C.off,C.X,C.T,C.hk,C.hd,C.hu,C.hE,C.hc,C.hc2⟩
theorem aX.reloc(R:aX c ρ σ s P)(h:∀m,c6 ρ loc (dn c.vc m)):aX c ρ {σ with loc:=loc} s P:=by
 (refine aX.el R λ m τ F L K r t=>?_;clear R);exact⟨m,τ,F,h m,K,r,t⟩
theorem aX.mkS(R:aX c ρ σ s P)(hD:P D)(sm:(D==sysModules)=L8)(g:s.heap.get? D=L6 (iI ys n))(x:IsL ρ l ys):PE c ρ (Mine.mkS L7 l σ).2 (Mine.mkS L7 l σ).1 (.ref D) s:=by
 have sz:=R.rel.size;cases q:Mine.toPs l with
 | some ps=>
  refine ac (show Mine.mkS L7 l σ=(.pv (.seq L7 ps),σ) by unfold Mine.mkS;rw[q]) ?_;obtain⟨j,y⟩:=bA.all (IsL.plain (x.imp λ zz zz z=>z.mono RR.Le.ice) q);exact⟨_,RR.Le.ice,(R.ice hD g).rel,j+1,_,n,ys,rfl,.inr ⟨rfl,rfl⟩,y⟩
 | none=>
  refine ac (show Mine.mkS L7 l σ=dt σ (.lst l) by unfold Mine.mkS;rw[q];rfl)<|⟨ρ.psh D,RR.Le.psh,R.psh hD sm g λ τ cl=>(aq ys n ⟨cl,x.imp λ zz zz z=>z.mono RR.Le.psh⟩),_,rfl,by refine bP sz ?_;exact cD⟩
inductive B0(f:List AV->St->Option (List AV×St))(base:List (Nat×AV))(c':Cx)(N:Addr)(ρ:RR)(vs:List AV)(r:List AV×St)(i:Nat)(ys:List Value)(s:Mc):Prop
 | mk (ρ':RR) (σ:St) (acc:List AV) (r':List AV×St) (le:ρ.Le ρ') (xs:IsL ρ' acc ys) (R:aX (c'.hold (N+1) (lst ys) 1) ρ' {σ with loc:=base} s λ x=>x=N) (hl:ys.length<=i) (h:f (vs.drop i) σ=L6 r') (e1:r.1=acc++r'.1) (e2:r.2=r'.2)
theorem sY{l:List α}{a:α}(h:l[i]?=L6 a):l.drop i=a::l.drop (i+1):=by
 refine aA (Mz.mp h) λ h1 h2=>?_;exact ac (List.drop_eq_getElem_cons h1) (ac h2 rfl)
theorem B0.el{P':Prop}(hh:B0 f base c' N ρ vs r i ys s)(kk:∀(ρ':RR) (σ:St) (acc:List AV) (r':List AV×St) (le:ρ.Le ρ') (xs:IsL ρ' acc ys) (R:aX (c'.hold (N+1) (lst ys) 1) ρ' {σ with loc:=base} s λ x=>x=N) (hl:ys.length<=i) (h:f (vs.drop i) σ=L6 r') (e1:r.1=acc++r'.1) (e2:r.2=r'.2),P'):P':=by
 obtain⟨ρ',σ,acc,r',le,xs,R,hl,h,e1,e2⟩:=hh;exact kk ρ' σ acc r' le xs R hl h e1 e2
inductive Ig(c:Cx)(ρ:RR)(σ:St)(l:List AV)(D C:Addr)(s:Mc):Prop
 | mk (ρ':RR) (ys:List Value) (e:ρ.Le ρ') (R:aX c ρ' σ s λ x=>x=D\/x=C) (g:s.heap.get? D=L6 (lst ys)) (x:IsL ρ' l ys) (n:D≠C) (sm:(D==sysModules)=L8)
theorem A7(hT:be T)(he:gm E)(ht:yh E){t:FT}{nms:List (Nat×NameKind)}{p:AV×St}{Q:Value->Mc->Prop}(C:aQ c d)
  (h1:W c (MN (a8 it) c.env) (PE c ρ p.2 p.1) s) (h2:frz T p.2.obs p.1=L6 q) (hz:q.1.length<=1000) (h3:sx T t (dU fv p.2.loc) (kN E d cc) (E.ev d e) q.1 {p.2 with obs:=q.2}=L6 r)
  (m1:Au c.cs nms fv=L7) (m2:uo (xo c.cs nms) t=L7) (m3:rj (xo c.cs nms) cc=L7) (m4:cv (xo c.cs nms) e=L7)
  (fin:∀D C' s' m' f,s'.heap.Ns C' m'->Ig c ρ ⟨p.2.loc,uY p.2.obs r.2.obs p.1,r.2.ph⟩ r.1 D C' s'->Pg c.M c.A c.E use Q (.ref D) C' (.ok f) s') :
  W c (OF (a8 (.lc e t it cc nms fv pos)) (lH nms) c.env ppos (PF []) L8 (MN (a8 it) c.env) use) Q s:=by
 have K:=xH m1;obtain⟨cl,Qu,hb,hf⟩:=At (env:=c.env) (lH nms).names [] λ x hx q=>C.hc2 _ (K.a3 x hx q);have hb':∀y a,cl.lookup y=L6 a->(y,.free)∈(lH nms).names/\c.vc.lookup y=L6 a:=λ y a z=>(hb y a z).resolve_left λ w=>(dC w)
 refine uU (cl:=cl) Qu rfl (λ y hy q=>by exact ac (K.a2 y hy) (ac q rfl)) (ax h1 (λ xv s₁ z=>?_) λ zz zz z=>z) (λ x=>jA it _ _);(refine PE.el z λ PY P1 R₁ P7=>?_;clear z);have hz64:=AF C R₁;refine rc (vw hT.tup C R₁ P7 h2) λ f P dep src=>?_;have fno:∀x,@LE.le Nat _ s₁.heap.objs.size x->∀p k,¬f x p k:=λ x hx=>src.rel.fxno hx;refine au.el src.rel λ m τ F L K₂ RC=>bw F.ns λ oL es ep hL hLr=>?_;generalize Q0:Oz s₁.heap ((own s₁.heap τ).map (·.1))=QE;have hsz:QE.objs.size=s₁.heap.objs.size:=by refine bP Q0 ?_;exact PG _ _
 have st:∀b o,c.h₀.get? b=L6 o->QE.get? b=L6 o:=λ b o e=>Q0▸M9 _ (F.keep b o e) λ z=>by
  have n:c.h₀.get? b=L9:=(K₂.N _ (d7.mp z).1).n;rw[e] at n;exact sn n
 have hL':QE.get? c.L=L6 oL:=Q0▸M9 _ hL λ z=>(K₂.N _ (d7.mp z).1).l rfl;have C':aQ ((c.fix f).comp nms (s₁.heap.objs.size+2) cl QE) d:=xy (c:=c.fix f) C.fix K F hL hL' st (λ y a z=>(hb' y a z).1) λ y z=>hf y (.inl z);have EN:iZ (c.fix f) ((c.fix f).comp nms (s₁.heap.objs.size+2) cl QE) PY {p.2 with obs:=q.2} s₁:=⟨m,τ,F,L,K₂.N,Q0.symm,⟨rfl,rfl,rfl⟩,rfl,rfl⟩
 have base:∀ρ' Rk,PY.Le ρ'->c6 ρ' (dU fv p.2.loc) (dn cl Rk):=λ ρ' Rk le i a hi=>by
  refine aD (oR hi) λ i1 i2=>?_;refine ag (L i a i2) λ v w1 w2=>?_;refine aA (hf _ (.inl (K.a4 i i1))) λ ca hca=>?_;exact⟨v,by refine ac (cP hca) (bP w1 ?_);exact(cP (hb' _ _ hca).2).symm,w2.mono le⟩
 have nD:∀p k,¬((c.fix f).comp nms (s₁.heap.objs.size+2) cl QE).fx (s₁.heap.objs.size+1) p k:=fno _ (M6 _);have nI:∀ys p k,¬(((c.fix f).comp nms (s₁.heap.objs.size+2) cl QE).hold (s₁.heap.objs.size+1) (lst ys) 1).fx s₁.heap.objs.size p k:=λ ys p k z=>z.elim (fno _ (Mm _) p k) λ z=>Mi (MV _) z.1;have up:∀{ρ' σ' s' ys},PY.Le ρ'->aX (((c.fix f).comp nms (s₁.heap.objs.size+2) cl QE).hold (s₁.heap.objs.size+1) (lst ys) 1) ρ' σ' s' (λ x=>x=s₁.heap.objs.size)->aX (c.fix f) ρ' ⟨p.2.loc,σ'.obs,σ'.ph⟩ s' (λ x=>x=s₁.heap.objs.size+1\/x=s₁.heap.objs.size+2)/\s'.heap.get? (s₁.heap.objs.size+1)=L6 (lst ys):=λ le R=>by
  refine aD (R.drop nD (by decide)) λ Qe g=>?_;refine pS.el (Qe.back EN) λ RG Rs RL Sk K₃ R8 R0=>?_;exact⟨⟨RG,Rs,RL,Sk.mono le,K₃,R8,λ x hx=>R0 x (hx.imp .inr id)⟩,g⟩
 refine D5 (B0 (sx T t (dU fv p.2.loc) (kN E d cc) (E.ev d e)) (dU fv p.2.loc) ((c.fix f).comp nms (s₁.heap.objs.size+2) cl QE) s₁.heap.objs.size PY q.1 r) (λ y hy=>K.a1 y hy) rfl src.src (bY hz) (λ h' Rk tk g gD hns=>?_) (λ i ys s' J b hb' o ho=>?_) (λ i ys s' h' tk J hk=>?_) (λ i ys s' J=>?_) (λ i v ys s' oI hi J gI hP=>?_) λ ys s' f' m' J hm'=>?_
 ·have Qe:aX ((c.fix f).comp nms (s₁.heap.objs.size+2) cl QE) PY ⟨dU fv p.2.loc,q.2,p.2.ph⟩ {s₁ with heap:=h',toks:=tk} λ x=>@LE.le Nat _ s₁.heap.objs.size x/\s₁.heap.objs.size+2≠x:=
   ⟨Rk,τ,⟨hns,λ b o e=>g b o (OL _ (Q0▸e)),by refine(?_:@LE.le Nat _ QE.objs.size _);refine ac hsz ?_;exact Mt _ _⟩,base PY Rk RR.Le.refl,⟨λ b q=>by
    refine lW ((K₂.N b q).g) λ o e=>?_;exact⟨by refine ac (g b o e) ?_;rfl,Mi (M7 (Mv e) (Mt _ _)),Q0▸OQ _ (d7.mpr ⟨q,by refine ac e ?_;rfl⟩)⟩,K₂.Y,K₂.sz,(K₂.grow g).O,(K₂.grow g).Z,(K₂.grow g).X,(K₂.grow g).B⟩,RC,λ x hx=>⟨vU K₂ hx.1,hx.2,Oj (by refine ac hsz ?_;exact hx.1)⟩⟩
  exact⟨PY,{p.2 with obs:=q.2},[],r,RR.Le.refl,rfl,(Qe.hold ⟨M6 _,N0 _⟩ 1 gD).sub λ x hx=>hx▸⟨⟨Mm _,λ z=>by lia⟩,Mi (MV _)⟩,Mm _,h3,rfl,rfl⟩
 ·(refine B0.el J λ ρ' σ' acc r' le xs R' hl h e1 e2=>?_;clear J);exact src.dep_ b hb' ρ' _ s' o le (up le R').1.rel ho
 ·(refine B0.el J λ ρ' σ' acc r' le xs R' hl h e1 e2=>?_;clear J);exact⟨ρ',σ',acc,r',le,xs,R'.but rfl hk,hl,h,e1,e2⟩
 ·(refine B0.el J λ ρ' σ' acc r' le xs R' hl h e1 e2=>?_;clear J);(refine aX.el R' λ RG Rs RL Sk K₃ R8 R0=>?_;clear R');exact⟨(K₃.X _ _ 1 (.inr ⟨rfl,rfl,rfl⟩)).g,⟨RG,RL.ns⟩,hl⟩
 ·(refine B0.el J λ ρ' σ' acc r' le xs R' hl h e1 e2=>?_;clear J);refine ag (src.is_ i v hP) λ av ea xa=>?_;rw[sY ea] at h;refine ae h λ RP hput h4=>?_;refine ae h4 λ b htst h5=>?_;have C'':aQ ((((c.fix f).comp nms (s₁.heap.objs.size+2) cl QE).hold (s₁.heap.objs.size+1) (lst ys) 1).hold s₁.heap.objs.size oI 0) d:=C'.hold.hold;refine aK (oa (Q:=λ zz P0=>au ((((c.fix f).comp nms (s₁.heap.objs.size+2) cl QE).hold (s₁.heap.objs.size+1) (lst ys) 1).hold s₁.heap.objs.size oI 0) ρ' RP P0) hT.tup C'' (R'.hold rfl 0 gI).rel m2 (xa.mono le) hput (λ P0 P4=>P4)) λ zz P0 P4=>?_;refine aK (vd ht C'' P4 htst m3) λ ok s₃ z=>?_;(refine TE.el z λ Qf Qh Qe Qb=>?_;clear z;obtain rfl:=Qb);cases hbb:b.1 with
  | false=>
   refine ac (if_neg MC) ?_;rw[hbb,if_neg MC] at h5;refine aD (Qe.toN.drop (nI ys) (by decide)) λ RI g1=>?_;exact⟨g1,Qf,b.2,acc,r',le.trans Qh,xs.imp λ zz zz z=>z.mono Qh,(RI.reloc λ m=>base Qf m (le.trans Qh)).sub λ x hx=>.inr hx,PS hl,h5,e1,e2⟩
  | true=>
   refine ac (if_pos rfl) ?_;rw[hbb,if_pos rfl] at h5;refine ae h5 λ p' hp' h6=>?_;(refine aF h6 λ Sw h7 PZ=>?_;obtain rfl:=PZ);refine W.pe (he d e b.2 p' _ Qf s₃ hp' C'' m4 Qe) λ y s₅ Qy QQ Q2 RA=>?_;refine aD (Q2.toN.drop (nI ys) (by decide)) λ RI g1=>?_;refine aD (RI.drop nD (by decide)) λ RD g2=>?_;exact⟨⟨g1,g2⟩,λ h' hs hd=>⟨Qy,p'.2,acc++[p'.1],Sw,(le.trans Qh).trans QQ,ay.app (xs.imp λ zz zz z=>z.mono (Qh.trans QQ)) (aq y ([]) ⟨rfl,RA,rfl⟩),(((RD.reloc λ m=>base Qy m ((le.trans Qh).trans QQ)).but (h':=h') (k:=s₅.toks) (.inr rfl) λ b o hb e=>(hs.2 b λ z=>hb (Ma.mpr z)).trans e).hold (.inr rfl) 1 hd).sub λ x hx=>⟨.inl (.inr hx),λ z=>Mi (MV _) (hx.symm.trans z)⟩,by refine ac Mf ?_;exact N5 hl,h7,by refine ac e1 (ac (Mk _ _ _) ?_);rfl,e2⟩⟩
 ·(refine B0.el J λ ρ' σ' acc r' le xs R' hl h e1 e2=>?_;clear J);rw[PW] at h;obtain rfl:=My h;refine aD (up le R') λ RU g=>?_;rw[e1,e2,Mg] at fin;exact fin _ _ s' m' f' hm' ⟨ρ',ys,P1.trans le,src.back ρ' _ _ _ le RU,g,xs,Mi (MV _),nJ hz64 (M6 _)⟩
theorem Ig.el{P':Prop}(hh:Ig c ρ σ l D C s)(kk:∀(ρ':RR) (ys:List Value) (e:ρ.Le ρ') (R:aX c ρ' σ s λ x=>x=D\/x=C) (g:s.heap.get? D=L6 (lst ys)) (x:IsL ρ' l ys) (n:D≠C) (sm:(D==sysModules)=L8),P'):P':=by
 obtain⟨ρ',ys,e,R,g,x,n,sm⟩:=hh;exact kk ρ' ys e R g x n sm
theorem IX(hT:be T)(he:gm E)(ht:yh E){p:AV×St}(C:aQ c d)(R:au c ρ σ s)
  (h1:E.ev d it σ=L6 p) (h2:frz T p.2.obs p.1=L6 q) (hz:q.1.length<=1000) (h3:sx T t (dU fv p.2.loc) (kN E d cc) (E.ev d e) q.1 {p.2 with obs:=q.2}=L6 r)
  (m0:cv c.cs it=L7) (m1:Au c.cs nms fv=L7) (m2:uo (xo c.cs nms) t=L7) (m3:rj (xo c.cs nms) cc=L7) (m4:cv (xo c.cs nms) e=L7) :
  W c (MN (a8 (.lc e t it cc nms fv pos)) c.env) (PE c ρ (mkS L7 r.1 ⟨p.2.loc,uY p.2.obs r.2.obs p.1,r.2.ph⟩).2 (mkS L7 r.1 ⟨p.2.loc,uY p.2.obs r.2.obs p.1,r.2.ph⟩).1) s:=
 A7 (use:=L9) hT he ht C (he d it σ p c ρ s h1 C m0 R) h2 hz h3 m1 m2 m3 m4 λ D C' s' m' zz hn z=>⟨m',hn,λ h' hs=>by
  (refine Ig.el z λ ρ' ys e R' g x n sm=>?_;clear z);exact((R'.but (h':=h') (k:=s'.toks) (.inr rfl) λ b o hb e=>(hs.2 b λ z=>hb (Ma.mpr z)).trans e).mkS (.inl rfl) sm ((hs.2 _ n).trans g) x).from e⟩
end
section
variable{T:bq}{E:eB}{d:Nat}{c:Cx}{ρ ρ':RR}{σ σ':St}{s s':Mc}{a:AV}
theorem W.fromT(e:ρ.Le PY)(h:W c t (TE c PY r) s):W c t (TE c ρ r) s:=ax h (λ b s' z=>by
 (refine TE.el z λ ρ' e' R q=>?_;clear z);exact⟨ρ',e.trans e',R,q⟩) λ zz zz z=>z
theorem oN(op:CmpOp)(x:X):lastMarks [op] [a8 x]=L8:=by cases x<;>rfl
theorem lR(Qv QD:CmpOp)(y x:X):lastMarks [Qv,QD] [a8 y,a8 x]=L8:=by cases x<;>rfl
theorem qc(hT:be T)(he:gm E)(C:aQ c d)(R:au c ρ σ s)(h:EC T E d op x y σ=L6 r)(hm:cv c.cs (.cmp op x y pos)=L7) :
  W c (MN (a8 (.cmp op x y pos)) c.env) (PE c ρ r.2 (.boo r.1)) s/\W c (isTrue (a8 (.cmp op x y pos)) c.env (MN (a8 (.cmp op x y pos)) c.env)) (TE c ρ r) s:=by
 refine ae h λ p hp h1=>ae h1 λ q hq h2=>?_;(refine aF h2 λ b hb PZ=>?_;obtain rfl:=PZ);refine af hm λ m1 m2=>⟨ju (he d x σ p c ρ s hp C m1 R) (λ u s₁ z=>?_) (oN _ _),dw (he d x σ p c ρ s hp C m1 R) (λ u s₁ z=>?_) (oN _ _)⟩
 ·(refine PE.el z λ PY P1 R₁ P7=>?_;clear z);refine fQ (he d y p.2 q c PY s₁ hq C m2 R₁) λ v P0 z=>?_;(refine PE.el z λ P5 P8 P4 Qi=>?_;clear z);exact lF hT.tup C P4 (P7.mono P8) Qi hb λ tk=>⟨P5,P1.trans P8,P4.toks tk,rfl⟩
 ·(refine PE.el z λ PY P1 R₁ P7=>?_;clear z);refine gv (he d y p.2 q c PY s₁ hq C m2 R₁) λ v P0 z=>?_;(refine PE.el z λ P5 P8 P4 Qi=>?_;clear z);exact lF hT.tup C P4 (P7.mono P8) Qi hb λ tk=>ah (MQ ⟨P5,P1.trans P8,P4.toks tk,rfl⟩)
theorem qa(hT:be T)(he:gm E)(C:aQ c d)(R:au c ρ σ s)(h:I4 T E d Qv QD x y z σ=L6 r)(hm:cv c.cs (.cmq Qv QD x y z pos)=L7) :
  W c (MN (a8 (.cmq Qv QD x y z pos)) c.env) (PE c ρ r.2 (.boo r.1)) s/\W c (isTrue (a8 (.cmq Qv QD x y z pos)) c.env (MN (a8 (.cmq Qv QD x y z pos)) c.env)) (TE c ρ r) s:=by
 refine ae h λ p hp h1=>ae h1 λ q hq h2=>ae h2 λ b hb h3=>af hm λ m1 m=>af m λ m2 m3=>?_;have last:∀{P5 P0 v},au c P5 q.2 P0->Is P5 q.1 v->ρ.Le P5->(b=L7->∃t k,E.ev d z q.2=L6 t/\eO T t.2.obs QD q.1 t.1=L6 k/\r=(k,t.2))/\(b=L8->PE c ρ r.2 (.boo r.1) (.bool L8) P0/\TE c ρ r L8 P0):=λ P4 Qi le=>by
  refine⟨λ hb=>?_,λ hb=>?_⟩
  ·rw[hb] at h3;refine ae h3 λ t ht h4=>?_;(refine aF h4 λ k hk PZ=>?_;obtain rfl:=PZ);exact(aq t k ⟨ht,hk,rfl⟩)
  ·rw[hb] at h3;obtain rfl:=sI h3;exact⟨⟨_,le,P4,rfl⟩,⟨_,le,P4,rfl⟩⟩
 refine⟨ju (he d x σ p c ρ s hp C m1 R) (λ u s₁ w=>?_) (lR _ _ _ _),dw (he d x σ p c ρ s hp C m1 R) (λ u s₁ w=>?_) (lR _ _ _ _)⟩
 ·(refine PE.el w λ PY P1 R₁ P7=>?_;clear w);refine kS (he d y p.2 q c PY s₁ hq C m2 R₁) λ v P0 w=>?_;(refine PE.el w λ P5 P8 P4 Qi=>?_;clear w);refine lF hT.tup C P4 (P7.mono P8) Qi hb λ tk=>ah (MQ ?_);refine aD (last (P4.toks tk) Qi (P1.trans P8)) λ l1 l2=>?_;cases hb':b with
  | false=>exact(l2 hb').1
  | true=>
   (refine ao (l1 hb') λ t k ht hk QS=>?_;obtain rfl:=QS);refine fQ (he d z q.2 t c P5 _ ht C m3 (P4.toks tk)) λ v' s₃ w=>?_;(refine PE.el w λ Qf Qh Qe QG=>?_;clear w);exact lF hT.tup C Qe (Qi.mono Qh) QG hk λ tk=>⟨Qf,(P1.trans P8).trans Qh,Qe.toks tk,rfl⟩
 ·(refine PE.el w λ PY P1 R₁ P7=>?_;clear w);refine ms (he d y p.2 q c PY s₁ hq C m2 R₁) λ v P0 w=>?_;(refine PE.el w λ P5 P8 P4 Qi=>?_;clear w);refine lF hT.tup C P4 (P7.mono P8) Qi hb λ tk=>ah (MQ ?_);refine aD (last (P4.toks tk) Qi (P1.trans P8)) λ l1 l2=>?_;cases hb':b with
  | false=>exact(l2 hb').2
  | true=>
   (refine ao (l1 hb') λ t k ht hk QS=>?_;obtain rfl:=QS);refine gv (he d z q.2 t c P5 _ ht C m3 (P4.toks tk)) λ v' s₃ w=>?_;(refine PE.el w λ Qf Qh Qe QG=>?_;clear w);exact lF hT.tup C Qe (Qi.mono Qh) QG hk λ tk=>ah (MQ ⟨Qf,(P1.trans P8).trans Qh,Qe.toks tk,rfl⟩)
theorem B1.mono(e:ρ.Le ρ')(h:B1 ρ o v):B1 ρ' o v:=by
 cases o with
 | none=>exact h
 | some x=>exact Is.mono e h
inductive PO(c:Cx)(ρ:RR)(r:Option AV×St)(v:Value)(s:Mc):Prop
 | mk (ρ':RR) (e:ρ.Le ρ') (R:au c ρ' r.2 s) (x:B1 ρ' r.1 v)
theorem rH(he:gm E)(C:aQ c d)(h:J4 (E.ev d) x σ=L6 r)(hm:rj c.cs x=L7)(R:au c ρ σ s):W c (evalPart (DU x) c.env) (PO c ρ r) s:=by
 cases x with
 | none=>obtain rfl:=sI h;exact al ⟨ρ,RR.Le.refl,R,rfl⟩
 | some x=>
  refine ae h λ p hp h1=>?_;obtain rfl:=sI h1;refine W.pe (he d x σ p c ρ s hp C hm R) λ v s' ρ' e R' x'=>⟨ρ',e,R',x'⟩
theorem PO.el{P':Prop}(hh:PO c ρ r v s)(kk:∀(ρ':RR) (e:ρ.Le ρ') (R:au c ρ' r.2 s) (x:B1 ρ' r.1 v),P'):P':=by
 obtain⟨ρ',e,R,x⟩:=hh;exact kk ρ' e R x
end
structure A0(T:bq)(E:eB):Prop where
 v:∀d f vs σ r,E.cal d f vs σ=L6 r->∃fv,f=.val fv
 k:∀d b vs σ r,E.cal d (.val (.ref b)) vs σ=L6 r->b∈T.kp
 m:∀d f vs σ r,E.cal d (.val f) vs σ=L6 r->(∃b,f=.ref b)\/keeperOf f=Nx .machine
section
variable{T:bq}{E:eB}{d:Nat}{c:Cx}{ρ ρ':RR}{σ σ':St}{s s':Mc}{a:AV}{r:AV×St}
theorem yP(hT:be T)(hK:A0 T E)(he:gm E)(hc:yj E)(C:aQ c d)(R:au c ρ σ s)(h:EP T E d (.call f l pos) σ=L6 r)(hm:cv c.cs (.call f l pos)=L7):W c (MN (a8 (.call f l pos)) c.env) (PE c ρ r.2 r.1) s:=by
 refine ae h λ p hp h1=>ae h1 λ q hq h2=>aA (hK.v _ _ _ _ _ h2) λ fv hfv=>?_;rw[hfv] at h2;refine af hm λ m1 m=>af m λ m2 m3=>fj (he d f σ p c ρ s hp C m1 R) (λ u s₁ z=>?_) (bn m3 _ _ _);(refine PE.el z λ PY P1 R₁ P7=>?_;clear z);rw[hfv] at P7;refine ac (show u=fv from P7)<|W.from P1 (Fh (fvs:=[]) hT he hc (hK.k d) (hK.m d) C R₁ hq h2 rfl m2)
theorem yM(hT:be T)(hK:A0 T E)(he:gm E)(hc:yj E)(C:aQ c d)(R:au c ρ σ s)(h:EP T E d (.meth o i ap l pos) σ=L6 r)(hm:cv c.cs (.meth o i ap l pos)=L7):W c (MN (a8 (.meth o i ap l pos)) c.env) (PE c ρ r.2 r.1) s:=by
 refine ae h λ p hp h1=>ae h1 λ f hf h2=>ae h2 λ q hq h3=>af hm λ m1 m=>af m λ m2 m=>af m λ m3 m=>af m λ m4 m5=>fR (he d o σ p c ρ s hp C m1 R) (λ u s₁ z=>?_) (sp m3 (of_decide_eq_true m4) m5);(refine PE.el z λ PY P1 R₁ P7=>?_;clear z);refine aK (A5 hT.met C R₁ P7 hf) λ fx P0 w=>?_;(refine MX.el w λ g P2 PZ P4=>?_;clear w;obtain rfl:=P2;obtain rfl:=PZ);exact W.from P1 (Fh (fvs:=[p.1]) hT he hc (hK.k d) (hK.m d) C P4 hq h3 (ay.k P7 rfl) m2)
theorem Cf(hT:be T)(he:gm E)(C:aQ c d)(R:au c ρ σ s)(h:EP T E d (.bin op y z pos) σ=L6 r)(hm:cv c.cs (.bin op y z pos)=L7):W c (MN (a8 (.bin op y z pos)) c.env) (PE c ρ r.2 r.1) s:=by
 refine ae h λ p hp h1=>ae h1 λ q hq h2=>af hm λ m1 m2=>uW (he d y σ p c ρ s hp C m1 R) λ u s₁ w=>?_;(refine PE.el w λ PY P1 R₁ P7=>?_;clear w);refine W.pe (he d z p.2 q c PY s₁ hq C m2 R₁) λ v P0 P5 P8 P4 Qi=>?_;rcases aY h2 with h2|h2
 ·(refine aF h2 λ k hk PZ=>?_;obtain rfl:=PZ);exact W.from (P1.trans P8) (Fo P4 (P7.mono P8) Qi hk)
 ·exact W.from (P1.trans P8) (Ce hT.tup C P4 (P7.mono P8) Qi h2)
theorem E3(he:gm E)(C:aQ c d)(R:au c ρ σ s)(h:EP T E d (.sl o l u p' q') σ=L6 r)(hm:cv c.cs (.sl o l u p' q')=L7):W c (MN (a8 (.sl o l u p' q')) c.env) (PE c ρ r.2 r.1) s:=by
 refine ae h λ p hp h1=>ae h1 λ q hq h2=>ae h2 λ t ht h3=>?_;(refine aF h3 λ v hv PZ=>?_;obtain rfl:=PZ);refine af hm λ m1 m=>?_;refine af m λ m2 m3=>dZ (he d o σ p c ρ s hp C m1 R) λ v s₁ w=>?_;(refine PE.el w λ PY P1 R₁ P7=>?_;clear w);refine oj (rH he C hq m2 R₁) λ w' P0 w=>?_;(refine PO.el w λ P5 P8 P4 Qi=>?_;clear w);refine aK (rH he C ht m3 P4) λ z s₃ w=>?_;(refine PO.el w λ Qf Qh Qe QG=>?_;clear w);exact W.from ((P1.trans P8).trans Qh) (yK Qe (P7.mono (P8.trans Qh)) (Qi.mono Qh) QG hv)
theorem zk(hT:be T)(hK:A0 T E)(he:gm E)(ht:yh E)(hv:Ia E)(hc:yj E)(C:aQ c d)(R:au c ρ σ s)(h:EP T E d x σ=L6 r)(hm:cv c.cs x=L7):W c (MN (a8 x) c.env) (PE c ρ r.2 r.1) s:=by
 cases x with
 | loc i q=>(refine aF h λ v hv PZ=>?_;obtain rfl:=PZ);exact A6 C R hm hv
 | glo i q=>(refine aF h λ v hv PZ=>?_;obtain rfl:=PZ);exact og C R hm (hT.glo _ _ hv)
 | cel i q=>(refine aF h λ v hv PZ=>?_;obtain rfl:=PZ);exact Fi C R hm hv
 | int i q p=>obtain rfl:=sI h;exact ah (wpAny_Constant_int (.here (R.toks _) ⟨_,rfl⟩))
 | byt b q p=>obtain rfl:=sI h;exact ah (Constant_bytes (.here (R.toks _) ⟨_,rfl⟩))
 | non q p=>obtain rfl:=sI h;exact ah (Constant_none (.here R rfl))
 | boo b q p=>obtain rfl:=sI h;exact ah (Constant_bool (.here R rfl))
 | att o i ap=>
  refine ae h λ p hp h1=>?_;(refine aF h1 λ v hv PZ=>?_;obtain rfl:=PZ);refine af hm λ m1 m2=>mw (he d o σ p c ρ s hp C m1 R) (λ u s₁ z=>?_) (AK m2 _ _ _);(refine PE.el z λ PY P1 R₁ P7=>?_;clear z);exact W.from P1 (Fa hT.att hT.cmd C R₁ P7 hv)
 | call f l pos=>exact yP hT hK he hc C R h hm
 | meth o i ap l pos=>exact yM hT hK he hc C R h hm
 | cmp op a b pos=>(refine aF h λ p hp PZ=>?_;obtain rfl:=PZ);exact(qc hT he C R hp hm).1
 | cmq Qv QD a b c' pos=>(refine aF h λ p hp PZ=>?_;obtain rfl:=PZ);exact(qa hT he C R hp hm).1
 | and l pos=>
  refine gP h λ hl h1=>?_;(refine aF h1 λ p hp PZ=>?_;obtain rfl:=PZ);exact hv d _ σ p c ρ s hp (by refine ac (show bG (.and l pos)=!l.isEmpty from rfl) (ac (Nd _) (bP (OK _) ?_));exact hl) C hm R
 | or l pos=>
  refine gP h λ hl h1=>?_;(refine aF h1 λ p hp PZ=>?_;obtain rfl:=PZ);exact hv d _ σ p c ρ s hp (by refine ac (show bG (.or l pos)=!l.isEmpty from rfl) (ac (Nd _) (bP (OK _) ?_));exact hl) C hm R
 | not y pos=>(refine aF h λ p hp PZ=>?_;obtain rfl:=PZ);exact hv d _ σ p c ρ s hp rfl C hm R
 | ife t y z pos=>
  refine ae h λ p hp h1=>af hm λ m1 m=>af m λ m2 m3=>on (ht d t σ p c ρ s hp C m1 R) λ b s₁ w=>?_;(refine TE.el w λ PY P1 R₁ Qb=>?_;clear w;obtain rfl:=Qb);cases hb:p.1 with
  | true=>rw[hb] at h1;exact W.from P1 (he d y p.2 r c PY s₁ h1 C m2 R₁)
  | false=>rw[hb] at h1;exact W.from P1 (he d z p.2 r c PY s₁ h1 C m3 R₁)
 | bin op y z pos=>exact Cf hT he C R h hm
 | inv y pos=>
  refine ae h λ p hp h1=>?_;(refine aF h1 λ k hk PZ=>?_;obtain rfl:=PZ);refine jt (he d y σ p c ρ s hp C hm R) λ u s₁ w=>?_;(refine PE.el w λ PY P1 R₁ P7=>?_;clear w);rw[bI hk] at P7;(refine aA P7 λ t P2=>?_;clear P7;obtain rfl:=P2);exact ah (invert_int ⟨PY,P1,R₁.toks _,_,rfl⟩)
 | sub o i pos=>
  refine ae h λ p hp h1=>ae h1 λ q hq h2=>?_;(refine aF h2 λ v hv PZ=>?_;obtain rfl:=PZ);refine af hm λ m1 m2=>dZ (he d o σ p c ρ s hp C m1 R) λ u s₁ w=>?_;(refine PE.el w λ PY P1 R₁ P7=>?_;clear w);refine W.pe (he d i p.2 q c PY s₁ hq C m2 R₁) λ v P0 P5 P8 P4 Qi=>W.from (P1.trans P8) (E0 i hT.tup C P4 (P7.mono P8) Qi hv)
 | sl o l u p' q'=>exact E3 he C R h hm
 | tup l q pos=>
  refine ae h λ p hp h1=>ai h1 λ hz h2=>?_;obtain rfl:=sI h2;refine oh (js he C hp hm R) λ vs s₁ w=>?_;(refine PL.el w λ PY P1 R₁ P7=>?_;clear w);exact W.from P1 (E8 C R₁ P7 hz)
 | lst l pos=>
  refine ae h λ p hp h1=>ai h1 λ hz h2=>?_;obtain rfl:=sI h2;refine yR (js he C hp hm R) λ vs s₁ w=>?_;(refine PL.el w λ PY P1 R₁ P7=>?_;clear w);exact W.from P1 (Ca C R₁ P7 hz)
 | neg y pos=>exact nn h
 | raw k f l pos nms xs=>exact hT.raw _ _ _ _ h c ρ s C hm R
 | dct pos=>
  obtain rfl:=sI h;exact ah (wpAny_Dict_empty (au.fresh C R (k:=s.toks) rfl λ τ cl=>(aq _ ([]) ⟨cl,o0,rfl⟩)))
 | lc e t it c' nms fv pos=>
  refine ae h λ p hp h1=>ae h1 λ q hq h2=>ai h2 λ hz h3=>?_;(refine aF h3 λ r' hr PZ=>?_;obtain rfl:=PZ);refine af hm λ m0 m=>af m λ m1 m=>af m λ m2 m=>af m λ m3 m4=>IX hT he ht C R hp hq hz hr m0 m1 m2 m3 m4
end
noncomputable def wd:X->Bool
 | .not _ _=>L8
 | .and _ _=>L8
 | .or _ _=>L8
 | .ife _ _ _ _=>L8
 | .cmp _ _ _ _=>L8
 | .cmq _ _ _ _ _ _=>L8
 | _=>L7
section
variable{T:bq}{E:eB}{d:Nat}{c:Cx}{ρ ρ':RR}{σ σ':St}{s s':Mc}{r:Bool×St}
theorem qx(hx:wd x=L7)(env:Env)(whole:Sem Value):isTrue (a8 x) env whole=(do let v ← whole;Nv (a8 x).pos;Oy [v] (truthy v)):=by
 cases x<;>first|rfl|exact ff hx
theorem uQ(hx:wd x=L7)(he:gm E)(C:aQ c d)(R:au c ρ σ s)(h:I3 E d x σ=L6 r)(hm:cv c.cs x=L7):W c (isTrue (a8 x) c.env (MN (a8 x) c.env)) (TE c ρ r) s:=by
 refine ae h λ p hp h1=>?_;(refine aF h1 λ b hb PZ=>?_;obtain rfl:=PZ);refine eE (he d x σ p c ρ s hp C hm R) (λ v s₁ z=>?_) (qx hx _ _);(refine PE.el z λ ρ' e R' x'=>?_;clear z);rw[fb hb] at x';refine ac (show v=_ from x')<|ah (MQ ⟨ρ',e,R',rfl⟩)
theorem uP(he:gm E)(C:aQ c d)(R:au c ρ σ s)(h:I3 E d x σ=L6 r)(hm:cv c.cs x=L7):W c (MN (a8 x) c.env) (PE c ρ r.2 (.boo r.1)) s:=by
 refine ae h λ p hp h1=>?_;(refine aF h1 λ b hb PZ=>?_;obtain rfl:=PZ);have:=he d x σ p c ρ s hp C hm R;rwa [fb hb] at this
theorem Ch(ht:yh E)(C:aQ c d)(R:au c ρ σ s)(h:I6 E d p l σ=L6 r)(hm:gk c.cs l=L7):W c (isTrue (a8 (.and l p)) c.env (MN (a8 (.and l p)) c.env)) (TE c ρ r) s:=by
 cases l with
 | nil=>
  obtain rfl:=sI h;exact ah (isTrue_and_nil ⟨ρ,RR.Le.refl,R,rfl⟩)
 | cons e l=>
  refine ai h λ zz h1=>ae h1 λ q hq h2=>af hm λ m1 m2=>kR (ht d e σ q c ρ s hq C m1 R) λ b s' z=>?_;(refine TE.el z λ PY P1 R₁ Qb=>?_;clear z;obtain rfl:=Qb);cases l with
  | nil=>
   obtain rfl:=sI h2;cases hb:q.1 with
   | true=>exact ah (isTrue_and_nil ⟨PY,P1,R₁,hb.symm⟩)
   | false=>exact⟨PY,P1,R₁,hb.symm⟩
  | cons e' l=>
   cases hb:q.1 with
   | true=>rw[hb] at h2;exact W.fromT P1 (ht d (.and (e'::l) p) q.2 r c PY s' h2 C m2 R₁)
   | false=>rw[hb] at h2;obtain rfl:=sI h2;exact⟨PY,P1,R₁,rfl⟩
theorem E7(ht:yh E)(C:aQ c d)(R:au c ρ σ s)(h:I5 E d p l σ=L6 r)(hm:gk c.cs l=L7):W c (isTrue (a8 (.or l p)) c.env (MN (a8 (.or l p)) c.env)) (TE c ρ r) s:=by
 cases l with
 | nil=>
  obtain rfl:=sI h;exact ah (isTrue_or_nil ⟨ρ,RR.Le.refl,R,rfl⟩)
 | cons e l=>
  refine ai h λ zz h1=>ae h1 λ q hq h2=>af hm λ m1 m2=>mt (ht d e σ q c ρ s hq C m1 R) λ b s' z=>?_;(refine TE.el z λ PY P1 R₁ Qb=>?_;clear z;obtain rfl:=Qb);cases l with
  | nil=>
   obtain rfl:=sI h2;cases hb:q.1 with
   | true=>exact⟨PY,P1,R₁,hb.symm⟩
   | false=>exact ah (isTrue_or_nil ⟨PY,P1,R₁,hb.symm⟩)
  | cons e' l=>
   cases hb:q.1 with
   | false=>rw[hb] at h2;exact W.fromT P1 (ht d (.or (e'::l) p) q.2 r c PY s' h2 C m2 R₁)
   | true=>rw[hb] at h2;obtain rfl:=sI h2;exact⟨PY,P1,R₁,rfl⟩
theorem Cg(hv:Ia E)(hn:(!l.isEmpty)=L7)(C:aQ c d)(R:au c ρ σ s)(h:I6 E d p l σ=L6 r)(hm:gk c.cs l=L7):W c (MN (a8 (.and l p)) c.env) (PE c ρ r.2 (.boo r.1)) s:=by
 cases l with
 | nil=>exact ff hn
 | cons e l=>
  refine ai h λ n1 h1=>ae h1 λ q hq h2=>af hm λ m1 m2=>?_;cases l with
  | nil=>obtain rfl:=sI h2;exact hv d e σ q c ρ s hq n1 C m1 R
  | cons e' l=>
   refine kT (hv d e σ q c ρ s hq n1 C m1 R) λ v s₁ z=>?_;(refine PE.el z λ PY P1 R₁ Qb=>?_;clear z;obtain rfl:=Qb);refine ah (MQ ?_);cases hb:q.1 with
   | true=>rw[hb] at h2;exact W.from P1 (hv d (.and (e'::l) p) q.2 r c PY s₁ h2 rfl C m2 R₁)
   | false=>rw[hb] at h2;obtain rfl:=sI h2;exact⟨PY,P1,R₁,rfl⟩
theorem E6(hv:Ia E)(hn:(!l.isEmpty)=L7)(C:aQ c d)(R:au c ρ σ s)(h:I5 E d p l σ=L6 r)(hm:gk c.cs l=L7):W c (MN (a8 (.or l p)) c.env) (PE c ρ r.2 (.boo r.1)) s:=by
 cases l with
 | nil=>exact ff hn
 | cons e l=>
  refine ai h λ n1 h1=>ae h1 λ q hq h2=>af hm λ m1 m2=>?_;cases l with
  | nil=>obtain rfl:=sI h2;exact hv d e σ q c ρ s hq n1 C m1 R
  | cons e' l=>
   refine mv (hv d e σ q c ρ s hq n1 C m1 R) λ v s₁ z=>?_;(refine PE.el z λ PY P1 R₁ Qb=>?_;clear z;obtain rfl:=Qb);refine ah (MQ ?_);cases hb:q.1 with
   | false=>rw[hb] at h2;exact W.from P1 (hv d (.or (e'::l) p) q.2 r c PY s₁ h2 rfl C m2 R₁)
   | true=>rw[hb] at h2;obtain rfl:=sI h2;exact⟨PY,P1,R₁,rfl⟩
theorem zi(hT:be T)(he:gm E)(ht:yh E)(C:aQ c d)(R:au c ρ σ s)(h:Cw T E d x σ=L6 r)(hm:cv c.cs x=L7):W c (isTrue (a8 x) c.env (MN (a8 x) c.env)) (TE c ρ r) s:=by
 cases x with
 | not y pos=>
  refine ai h λ zz h1=>?_;(refine aF h1 λ q hq PZ=>?_;obtain rfl:=PZ);refine fP (ht d y σ q c ρ s hq C hm R) λ b' s' z=>?_;(refine TE.el z λ PY P1 R₁ Qb=>?_;clear z;obtain rfl:=Qb);exact⟨PY,P1,R₁,rfl⟩
 | ife t y z pos=>exact nn h
 | and l p=>exact Ch ht C R h hm
 | or l p=>exact E7 ht C R h hm
 | cmp op a b pos=>exact(qc hT he C R h hm).2
 | cmq Qv QD a b c' pos=>exact(qa hT he C R h hm).2
 | _=>exact uQ rfl he C R h hm
theorem zh(hT:be T)(he:gm E)(hv:Ia E)(C:aQ c d)(R:au c ρ σ s)(h:Cw T E d x σ=L6 r)(hn:bG x=L7)(hm:cv c.cs x=L7):W c (MN (a8 x) c.env) (PE c ρ r.2 (.boo r.1)) s:=by
 cases x with
 | not y pos=>
  refine ai h λ hy h1=>?_;(refine aF h1 λ q hq PZ=>?_;obtain rfl:=PZ);refine jt (hv d y σ q c ρ s hq hy C hm R) λ v s₁ z=>?_;(refine PE.el z λ PY P1 R₁ Qb=>?_;clear z;obtain rfl:=Qb);exact ah (not_of (MQ ⟨PY,P1,R₁,rfl⟩))
 | ife t y z pos=>exact nn h
 | and l p=>exact Cg hv hn C R h hm
 | or l p=>exact E6 hv hn C R h hm
 | cmp op a b pos=>exact(qc hT he C R h hm).1
 | cmq Qv QD a b c' pos=>exact(qa hT he C R h hm).1
 | _=>exact uP he C R h hm
end
section
variable{T:bq}{E:eB}{d:Nat}{c:Cx}{ρ ρ':RR}{σ σ':St}{s s':Mc}{a:AV}
theorem dJ(h:im x=L7)(t:Option Expr)(l:Nat)(env:Env):Py (a8 x) t l env=Nx L8:=by
 cases x<;>first|rfl|exact ff h
theorem rR(x:X)(es:List Expr)(k:Nat)(p:Pos)(l:Nat)(env:Env):swapsWithSole [.Tuple es k p] (a8 x) l env=Nx L8:=by cases x<;>rfl
theorem di(C:aQ c d):interactive c.env=L8:=by
 refine(?_:(c.cs.kind==.module&&_)=L8);refine ac C.hk ?_;rfl
theorem j7:∀l:List Tg,(c4 l).length=l.length
 | []=>rfl
 | _::l=>congrArg Pu (j7 l)
noncomputable def ED(env:Env)(ts:List Expr):Expr->Option Str:=λ|.Name id pos=>if(env.kindOf id==L6 .local&&pos.line==(ts.head?.map (·.pos.line)).getD 0)=L7 then L6 id else L9|_=>L9
theorem CI(h:jJ t=L7)(hm:xF c.cs t=L7):ED c.env n (gV t)=L9:=by
 cases t with
 | nam=>exact ff h
 | cel i p=>
  refine if_neg λ q=>?_;have q:((c.cs.names.lookup (nm i)==L6 .local)&&_)=L7:=q;rw[(cB hm).1] at q;exact ff q
 | _=>rfl
theorem ze:∀{l:List Tg},xG c.cs l=L7->((c4 l).filterMap (ED c.env n)).length<=l.length/\(l.any jJ=L7->((c4 l).filterMap (ED c.env n)).length<l.length):=by intro l_;induction l_ with
 | nil=>intro _;exact⟨Mm _,λ h=>(ff h)⟩
 | cons t l P9=>
  intro hm;refine af hm λ m1 m2=>aD (P9 m2) λ i1 i2=>ac (show c4 (t::l)=gV t::c4 l from rfl) (ac Pw (ac List.any_cons ?_));cases q:ED c.env n (gV t) with
  | none=>exact⟨PS i1,λ zz=>PR i1⟩
  | some y=>
   refine⟨N5 i1,λ h=>Nat.succ_lt_succ (i2 ?_)⟩;cases hn:jJ t with
   | true=>exact sn (q.symm.trans (CI hn m1))
   | false=>rw[hn] at h;exact h
theorem qD(h:Bw l x=L7)(hm:xG c.cs l=L7):OE [.Tuple (c4 l) k tp] (a8 x) c.env=Nx L9:=by
 unfold OE;cases x with
 | tup vs kk p=>
  have h:((!(l.length==2||l.length==3)||vs.length != l.length)||l.any jJ)=L7:=h;rw[← j7 l,← j9 vs] at h;show(if(!((c4 l).length==2||(c4 l).length==3)||(bZ vs).length != (c4 l).length||c.env.blockKind != .function)=L7 then Nx L9 else _)=_;by_cases q:(!((c4 l).length==2||(c4 l).length==3)||(bZ vs).length != (c4 l).length||c.env.blockKind != .function)=L7
  ·exact if_pos q
  ·refine ac (if_neg q) ?_;split
   ·rfl
   ·rw[if_pos];refine ac (Bool.or_eq_true _ _)<|.inl (bne_iff_ne.mpr λ z=>?_);have q':((!((c4 l).length==2||(c4 l).length==3)||(bZ vs).length != (c4 l).length))=L8:=(Bool.or_eq_false_iff.mp (OK _▸q)).1;rw[q',Bool.false_or] at h;exact Mi ((ze hm).2 h) (PC z (j7 l))
 | _=>rfl
end
section
variable{T:bq}{E:eB}{d:Nat}{c:Cx}{ρ ρ':RR}{σ σ':St}{s s':Mc}{a:AV}
theorem wj:∀{l:List (Nat×Pos)},nF c.cs l=L7->(l.all λ t=>t.2.line==wq es)=L7->(gi l).filterMap (ED c.env es)=l.map λ x=>nm x.1:=by intro l_;induction l_ with
 | nil=>intro _ _;exact rfl
 | cons x_ is P9=>
  intro h h2;obtain⟨i,p⟩:=x_;refine af h λ h3 h4=>aD (mh h2) λ h5 h6=>?_;have q:ED c.env es (.Name (nm i) p)=L6 (nm i):=if_pos ((NZ _ _).mpr ⟨by refine(?_:(c.cs.names.lookup (nm i)==L6 .local)=L7);refine ac ((cB h3).1) ?_;rfl,h5⟩);refine ac (show gi ((i,p)::is)=.Name (nm i) p::gi is from rfl) (ac Pw (ac q (ac (P9 h4 h6) ?_)));rfl
theorem si:∀vs:List X,(bZ vs).any (λ|.Starred ..=>L7|zz=>L8)=L8
 | []=>rfl
 | x::xs=>by
  refine ac (show bZ (x::xs)=a8 x::bZ xs from rfl) (ac List.any_cons (ac (si xs) (ac (O2 _) ?_)));cases x<;>rfl
theorem vo(h:Fy l (bZ vs)=L7)(hi:nF c.cs l=L7)(hk:c.cs.kind=.function) :
  OE [.Tuple (gi l) k tp] (.Tuple (bZ vs) k' vp) c.env=Nx (L6 (l.map λ x=>nm x.1)):=by
 refine af h λ h1 h=>af h λ h2 h=>af h λ h3 h=>af h λ h4 h=>af h λ h5 h6=>?_;have e:=wj (es:=gi l) hi h6;have hl:(l.map λ x=>nm x.1).length=(gi l).length:=by exact ac (Md _) (ac (j8 _) rfl)
 rw[← j8 l] at h1 h2 h3;have hb:(c.env.blockKind != .function)=L8:=by
  refine(?_:((if c.cs.kind.isAnnotationScope then O3 else c.cs.kind) != .function)=L8);refine ac hk ?_;rfl
 unfold OE;dsimp only;rw[if_neg (by rw[h1,hb,O2,Bool.not_true,Bool.false_or,bne_iff_ne];exact λ z=>z (Mx h2)),if_neg,if_neg,if_neg (by refine ac ((Nd _).mp h4) ?_;exact MC),if_neg (by refine ac ((Nd _).mp h5) ?_;exact MC)]
 ·exact congrArg (λ x=>Nx (L6 x)) e
 rotate_left
 ·exact λ z=>MC ((si vs).symm.trans z)
 ·refine λ q=>?_;rw[Bool.or_eq_true,bne_iff_ne,bne_iff_ne] at q;rcases q with q|q
  ·exact q ((congrArg ON e).trans hl)
  ·exact q ((congrArg (λ z:List Str=>z.eraseDups.length) e).trans ((Mx h3).trans (hl.symm.trans (congrArg ON e).symm)))
inductive RE(c:Cx)(ρ:RR)(σ:St)(u:Unit)(s:Mc):Prop
 | mk (ρ':RR) (e:ρ.Le ρ') (R:au c ρ' σ s)
theorem yS(h:Ck l=L6 a)(x:IsL ρ l us):∃u,us=[u]/\Is ρ a u:=by
 rw[jv h] at x;(refine ao x λ u us' PZ y z=>?_;clear x;obtain rfl:=PZ);exact⟨u,by exact ac (show us'=[] from z) rfl,y⟩
theorem RE.el{c:Cx}{P':Prop}(hh:RE c ρ σ u s)(kk:∀(ρ':RR) (e:ρ.Le ρ') (R:au c ρ' σ s),P'):P':=by
 obtain⟨ρ',e,R⟩:=hh;exact kk ρ' e R
theorem B7(hT:be T)(he:gm E)(C:aQ c d)(h:FC T (E.ev d) t a σ=L6 σ')(hm:xF c.cs t=L7)(R:au c ρ σ s)(x:Is ρ a u):W c (assign (gV t) c.env u) (RE c ρ σ') s:=by
 cases t with
 | nam i p=>exact cO C R hm x λ s' R'=>⟨ρ,RR.Le.refl,sI h▸R'⟩
 | cel i p=>exact jr C R hm h x λ s' R'=>⟨ρ,RR.Le.refl,R'⟩
 | two i p j q kk r=>
  refine ae h λ y hy h1=>ai h1 λ e h2=>?_;(refine aF h2 λ z hz PZ=>?_;obtain rfl:=PZ);refine ae hz λ w hw h3=>?_;(refine aF h3 λ v hv PZ=>?_;obtain rfl:=PZ);refine af hm λ m1 m2=>?_;(refine SX.el (cy hT.tup C R x hy) λ tt us' n Qb g ys=>?_;obtain rfl:=Qb);rw[cI hw] at ys;(revert ys;refine λ P3=>ao P3 λ u1 us PZ y1 ys=>?_;clear P3;obtain rfl:=PZ);(refine ag (yS hv ys) λ u2 P2 y2=>?_;obtain rfl:=P2);rw[e] at g;exact aw (uO R rfl rfl g λ s₁ R₁=>bJ (cO C R₁ m1 y1 λ P0 P4=>bJ (cO C P4 m2 y2 λ s₃ Qe=>ah (Mp ⟨ρ,RR.Le.refl,Qe⟩))))
 | att o i p=>
  refine ae h λ q hq h1=>?_;(refine aF h1 λ os ho PZ=>?_;obtain rfl:=PZ);refine aH (m:=Oy _ (MN (a8 o) c.env)) (ak (he d o σ q c ρ s hq C hm R)) λ ov s₁ z=>?_;(refine PE.el z λ PY P1 R₁ P7=>?_;clear z);exact aw (aj (ak (A3 hT.att C R₁ P7 (x.mono P1) ho λ P0 P4=>dX ⟨PY,P1,P4⟩)))
theorem W.fromR{α:Type}(e:ρ.Le PY)(h:W c t (RE c PY σ) s):W c t (RE c ρ σ) s:=ax h (λ b s' z=>by
 (refine RE.el z λ ρ' e' R=>?_;clear z);exact⟨ρ',e.trans e',R⟩) λ zz zz z=>z
theorem ma(t:Tg)(es:List Expr)(env:Env):OM (gV t::es) env=(L8,assign (gV t) env)::OM es env:=by cases t<;>rfl
theorem E1(hT:be T)(he:gm E)(C:aQ c d):∀{l:List Tg} {vs:List AV} {us:List Value} {σ σ':St} {ρ:RR} {s:Mc},IB T (E.ev d) l vs σ=L6 σ'->xG c.cs l=L7->au c ρ σ s->IsL ρ vs us->
  W c (Pr ((OM (c4 l) c.env).map (·.2)) us) (RE c ρ σ') s:=by intro l_;induction l_ with
 | nil=>
  intro vs us σ σ' ρ s h hm R x;(refine aF h λ zz h1 PZ=>?_;obtain rfl:=PZ);refine ai h1 λ h2 zz=>?_;rw[iE h2] at x;refine ac (show us=[] from x) ?_;exact ah (Mp ⟨ρ,RR.Le.refl,R⟩)
 | cons t ts P9=>
  intro vs us σ σ' ρ s h hm R x;refine ae h λ q hq h1=>ae h1 λ σ₁ h2 h3=>af hm λ m1 m2=>?_;rw[cI hq] at x;(revert x;refine λ P3=>ao P3 λ u us PZ x xs=>?_;clear P3;obtain rfl:=PZ);refine ac (show c4 (t::ts)=gV t::c4 ts from rfl) (ac (ma _ _ _) ?_);refine bJ (aK (B7 hT he C h2 m1 R x) λ zz s₁ z=>?_);(refine RE.el z λ PY P1 R₁=>?_;clear z);exact W.fromR (α:=Unit) P1 (P9 h3 m2 R₁ (xs.imp λ zz zz z=>z.mono P1))
theorem mc:∀l:List Tg,(OM (c4 l) env).length=l.length/\(OM (c4 l) env).findIdx? (·.1)=L9
 | []=>⟨rfl,rfl⟩
 | t::ts=>by
  refine aD (mc (env:=env) ts) λ i1 i2=>ac (show c4 (t::ts)=gV t::c4 ts from rfl) (ac (ma _ _ _) ?_);exact⟨congrArg Pu i1,by refine ac (List.findIdx?_cons) (ac i2 ?_);rfl⟩
theorem E2(C:aQ c d):∀{vs:List AV} {us:List Value} {l:List (Nat×Pos)} {σ:St} {s:Mc} (pend:List (Value->Sem Unit)) (pv:List Value),IsL ρ vs us->nF c.cs l=L7->l.length=vs.length->au c ρ σ s->
  (∀s',au c ρ {σ with loc:=IC (l.map (·.1)) vs σ.loc} s'->W c (Pr pend pv) Q s')->
  W c (Pr (((l.map λ x=>nm x.1).map λ x=>bindName c.env x).reverse++pend) (us.reverse++pv)) Q s:=by intro l_;induction l_ with
 | nil=>
  intro us l σ s pend pv x hi hl R k;obtain rfl:=NW.mp hl;refine ac (show us=[] from x)<|k s R
 | cons v vs P9=>
  intro us l σ s pend pv x hi hl R k;cases l with
  | nil=>exact nq hl rfl
  | cons i is=>
   (revert x;refine λ P3=>ao P3 λ u us PZ x xs=>?_;clear P3;obtain rfl:=PZ);refine af hi λ m1 m2=>?_;rw[MP,MP,PK,PK,Mk,Mk];refine P9 (bindName c.env (nm i.1)::pend) (u::pv) xs m2 (NF hl) R λ s' R'=>bJ λ Γ p Qp hc=>ac (Sem.wp_bindName _ _ _ _ _ _ _ _ _)<|mq C R' m1 x (λ s'' R''=>k s'' R'') Γ p Qp hc
end
theorem qo{A B:List (List UInt8×Value)}(hk:k∉(A++B).map (·.1)):Pe (A++(k,v)::B) k u=A++(k,u)::B:=by
 have same:∀(l:List (List UInt8×Value)),(∀x∈l,x.1≠k)->l.map (λ kv=>if kv.1=k then(kv.1,u) else kv)=l:=λ l hl=>(MT λ x hx=>if_neg (hl x hx)).trans (Oh l);rw[M8] at hk;unfold Pe;exact ac (if_pos (NA.mpr ⟨(k,v),Ml _ (.head _),decide_eq_true rfl⟩)) (ac M8 (ac MP (ac (if_pos rfl) (ac (same A λ x hx q=>hk (MS _ (q▸Mw hx))) (ac (same B λ x hx q=>hk (Ml _ (q▸Mw hx))) rfl)))))
theorem tF{l:List (List UInt8×Value)}(hk:k∉l.map (·.1)):Pe l k u=l++[(k,u)]:=by
 unfold Pe;exact if_neg λ z=>by
  refine ag (NA.mp z) λ x hx q=>hk (of_decide_eq_true q▸Mw hx)
section
variable{T:bq}{d:Nat}{c:Cx}{ρ ρ':RR}{σ σ':St}{s s':Mc}{a:AV}{u:Value}
inductive ux(c:Cx)(ρ:RR)(τ:Addr->bo)(i:Nat)(xa:Addr)(k:List UInt8)(u:Value)(s:Mc)(o':AO):Prop
 | mk (ob:Obj) (kvs:List (List UInt8×Value)) (cl:Cl s.heap τ (i+3) 0 xa ob) (D:bF c.w ob kvs) (hz:kvs.length<=1000) (k':∀h' ob',Cl h' τ (i+3) 0 xa ob'->bF c.w ob' (Pe kvs k u)->OR c.w c.fx h' τ ρ (i+3) o' xa):ux c ρ τ i xa k u s o'
theorem ux.el{P':Prop}(hh:ux c ρ τ i xa k u s o')(kk:∀(ob:Obj) (kvs:List (List UInt8×Value)) (cl:Cl s.heap τ (i+3) 0 xa ob) (D:bF c.w ob kvs) (hz:kvs.length<=1000) (k':∀h' ob',Cl h' τ (i+3) 0 xa ob'->bF c.w ob' (Pe kvs k u)->OR c.w c.fx h' τ ρ (i+3) o' xa),P'):P':=by
 obtain⟨ob,kvs,cl,D,hz,k'⟩:=hh;exact kk ob kvs cl D hz k'
theorem sd{xa:Addr}(X:OR c.w c.fx s.heap τ ρ (i+3) o xa)(y:Is ρ a u)(h:zL o k a=L6 o'):ux c ρ τ i xa k u s o':=by
 cases o with
 | dic l=>
  refine ai h λ hz e=>?_;obtain rfl:=sI e;refine ao X λ ob kvs cl D x=>⟨ob,kvs,cl,D,by refine ac x.len ?_;exact hz,λ h' ob' cl' D'=>(aq ob' _ ⟨cl',D',fE.put x k y⟩)⟩
 | dip n kn e em l=>
  refine ai h λ hz h1=>bK h1 λ p hp=>bV X λ ob kvs cl D x K=>⟨ob,kvs,cl,D,by refine ac x.len ?_;exact ME K.n (ME hz (by decide)),λ h' ob' cl' D'=>(aq ob' _ ⟨cl',D',fE.put x k (y.toP hp),⟨ME (vP _ _ _) (N5 K.n),λ z hz=>?_,λ b hb=>sI hb▸rW _ _ _,λ _ hx=>(ni hx)⟩⟩)⟩
  rcases mC hz with rfl|hz
  ·exact sq _ _ _
  ·refine aD (MW.mp hz) λ h1 h2=>(jP _ (of_decide_eq_true h2) _).trans (K.kn _ h1)
 | dir t x A B=>
  refine ai h λ q e=>?_;obtain rfl:=My e;cases x with
  | some x=>
   (refine eZ X λ ob cl l v x' D=>?_;clear X);refine⟨ob,_,cl,D,?_,λ h' ob' cl' D'=>⟨ob',cl',l,u,y,?_⟩⟩
   ·rw[Mf] at l ⊢;refine ac MR ?_;lia
   ·rw[q,qo (jU D)] at D';exact D'
  | none=>
   refine cM X λ ob cl l hk D=>?_;refine⟨ob,_,cl,D,ME l (by decide),λ h' ob' cl' D'=>⟨ob',cl',by refine ac (Mg _) ?_;exact l,u,y,?_⟩⟩;rw[q,tF hk] at D';exact D'
 | _=>exact nn h
theorem tH(g:s.heap.get? l=L6 (iI vs n))(hj:j<vs.length)(hz:vs.length<=1000)(h:∀h' k,O7 l s.heap h'->h'.get? l=L6 (iI (vs.set j v) k)->Q () {s with heap:=h'}) :
  MJ c.M c.A (setItem (.ref l) (.int (j:Int) t) v) Q c.E s:=by
 refine ki_setAt (n:=n) (items:=vs.toArray) g (Int.natCast_nonneg _) (by lia) (by refine ac Nw ?_;exact Int.ofNat_lt.mpr hj) (h _ _ (Heap.SameBut.update ..) (?_:_=L6 (iI (vs.set j v) n)));have q:=PySem.IsL.update g (λ x=>x.setIfInBounds (j:Int).toNat v);have e:vs.toArray.setIfInBounds (j:Int).toNat v=(vs.set j v).toArray:=by refine ac (Int.toNat_natCast _) ?_;exact List.setIfInBounds_toArray _ _ _
 rw[e,if_pos (by refine ac Nw (ac Nw (ac Np ?_));exact beq_self_eq_true _)] at q;exact q
theorem Fd(R:au c ρ σ s)(x:Is ρ (.obj h) ov)(y:Is ρ k kv)(z:Is ρ a u)(e:G6 h k a σ=L6 σ')(K:∀s',au c ρ σ' s'->Q () s'):W c (setItem ov kv u) Q s:=by
 refine ae e λ o ho e1=>?_;(refine BX.el (R.upd ho x) λ m τ xa Qb F q n _ k'=>?_;obtain rfl:=Qb);rcases aY e1 with e1|e1
 ·refine ae e1 λ b hb e2=>?_;(refine aF e2 λ o' h' PZ=>?_;obtain rfl:=PZ);rw[a7 hb] at y;(refine aA y λ t P2=>?_;clear y;obtain rfl:=P2);refine ux.el (sd q z h') λ ob kvs cl D hz kk=>?_;have nw:=n _ cl.own;refine ah (wpAny_setItem_pairs (hsz:=bY hz) (dE _ _ _ _) (MY.mpr ⟨ob,cl.g,D⟩) λ h'' hm hs=>?_);refine ag (MY.mp hm) λ ob' g' D'=>K _ (k' xa 0 ob' _ h'' _ cl.t (F.change hs nw.l nw.n) (jW hs) g' (kk h'' ob' ⟨g',cl.t⟩ D'))
 ·refine ae e1 λ i hi e2=>ae e2 λ l hl e3=>ai e3 λ hz e4=>?_;(refine aF e4 λ j hj PZ=>?_;obtain rfl:=PZ);rw[bI hi] at y;(refine aA y λ t P2=>?_;clear y;obtain rfl:=P2);(refine aD (mQ hj) λ Qc hlt=>?_;obtain rfl:=Qc);rw[rx hl] at q;refine aZ q λ vs nn cl xs=>?_;have nw:=n _ cl.own;exact ah (tH cl.g (by refine ac xs.len ?_;exact hlt) (by refine ac xs.len ?_;exact hz) λ h' k hs hk=>K _ (k' xa 0 _ _ h' s.toks cl.t (F.change hs nw.l nw.n) (jW hs) hk (aq _ k ⟨⟨hk,cl.t⟩,xs.set j z⟩)))
theorem fF(h:aB c.M c.A (MN value c.env) P c.E s)
  (k:∀v s',P v s'->aB c.M c.A (MN o c.env) (λ ov P0=>aB c.M c.A (MN (a8 i) c.env) (λ iv s₃=>aB c.M c.A (setItem ov iv v) (λ zz=>Q .next) c.E s₃) c.E P0) c.E s')
  (hs:Py value (L6 (.Subscript o (a8 i) pos')) pos.line c.env=Nx L8):aB c.M c.A (Ov (.Assign [.Subscript o (a8 i) pos'] value pos) c.env) Q c.E s:=by
 refine ac (exec_Assign_Subscript _ _ _ _ _ hs)<|aw (aH h λ v s₁ h₁=>?_);refine ac (assign_Subscript _ _ _ _)<|aj (aH (ak (k v s₁ h₁)) λ ov P0 Qa=>aH (ak Qa) λ iv s₃ Qo=>aw (aj (ak (ax Qo (λ zz Ql Q1=>dX (al Q1)) λ zz zz z=>z))))
end
section
variable{T:bq}{E:eB}{n d:Nat}{c:Cx}{ρ ρ':RR}{σ σ':St}{s s':Mc}{a:AV}{r:Fl×St}
theorem FE.from(e:ρ.Le PY)(h:FE c PY σ' f fl s):FE c ρ σ' f fl s:=by
 (refine FE.el h λ ρ' e' R x=>?_;clear h);exact⟨ρ',e.trans e',R,x⟩
noncomputable def Jh(E:eB)(d:Nat)(ss:List S)(p:Fl×St):Option (Fl×St):=match p.1 with
 | .nxt=>E.exs d ss p.2
 | .ret v=>L6 (.ret v,p.2)
 | .brk=>L6 (.brk,p.2)
 | .cnt=>L6 (.cnt,p.2)
theorem rG{st:S}(h:(aC T i).exs d [st] σ=L6 r):∃j,i=j+1/\bv T (aC T j) d st σ=L6 r:=by
 cases i with
 | zero=>exact nn h
 | succ i=>
  refine ae h λ p hp h1=>?_;have h1:Jh (aC T i) d [] p=L6 r:=h1;refine⟨i,rfl,hp.trans ?_⟩;obtain⟨f,σ'⟩:=p;cases f with
  | nxt=>
   cases i with
   | zero=>exact nn h1
   | succ i=>exact h1
  | _=>exact h1
inductive Li(T:bq)(n:Nat)(c:Cx)(ρ:RR)(d:Nat)(st:S)(r:Fl×St)(i:Nat)(s:Mc):Prop
 | mk (hi:i<=n) (ρ':RR) (σ:St) (e:ρ.Le ρ') (R:au c ρ' σ s) (h:bv T (aC T i) d st σ=L6 r):Li T n c ρ d st r i s
theorem yJ(Ht:∀m,m<=n->yh (aC T m))(Hx:∀m,m<=n->yi (aC T m))(C:aQ c d)(R:au c ρ σ s)(h:bv T (aC T n) d (.whl t b pp) σ=L6 r)(m1:cv c.cs t=L7)(m2:bz c.cs b=L7) :
  W c (Ov (.While (a8 t) (ba b) [] pos) c.env) (FE c ρ r.2 r.1) s:=by
 refine tx (pu (Li T n c ρ d (.whl t b pp) r) (λ i s' J=>?_) n ⟨Mm _,ρ,σ,RR.Le.refl,R,h⟩);obtain⟨hi,ρ',σ',e,R',hw⟩:=J;refine ae hw λ p hp hw=>ax (Ht i hi d t σ' p c ρ' s' hp C m1 R') (λ b' s₁ z=>?_) C.hE;(refine TE.el z λ PY P1 R₁ Qb=>?_;clear z;obtain rfl:=Qb);cases hb:p.1 with
 | false=>
  rw[hb] at hw;obtain rfl:=sI hw;exact⟨PY,e.trans P1,R₁,rfl⟩
 | true=>
  rw[hb] at hw;refine ae hw λ q hq hw=>ax (Hx i hi d b p.2 q c PY s₁ hq C m2 R₁) (λ fl P0 z=>?_) C.hE;(revert z;refine λ P3=>FE.el P3 λ P5 P8 P4 z=>?_;clear P3);have pre:=(e.trans P1).trans P8;obtain⟨f,qσ⟩:=q;cases f with
  | nxt=>
   obtain rfl:fl=.next:=z;refine ag (rG hw) λ j hj h'=>⟨j,by lia,by lia,P5,qσ,pre,P4,h'⟩
  | cnt=>
   obtain rfl:fl=.cont:=z;refine ag (rG hw) λ j hj h'=>⟨j,by lia,by lia,P5,qσ,pre,P4,h'⟩
  | brk=>
   obtain rfl:fl=.brk:=z;obtain rfl:=sI hw;exact⟨P5,pre,P4,rfl⟩
  | ret x=>
   (refine ag z λ v P2 y=>?_;clear z;obtain rfl:=P2);obtain rfl:=sI hw;exact⟨P5,pre,P4,v,rfl,y⟩
inductive pN(T:bq)(run:St->Option (Fl×St))(t:FT)(c:Cx)(I:Addr)(ρ:RR)(vs:List AV)(r:Fl×St)(i:Nat)(s:Mc):Prop
 | mk (ρ':RR) (σ:St) (e:ρ.Le ρ') (R:aX c ρ' σ s λ x=>x=I) (h:eF t run T (vs.drop i) σ=L6 r):pN T run t c I ρ vs r i s
theorem pN.el{run:St->Option (Fl×St)}{P':Prop}(hh:pN T run t c I ρ vs r i s)(kk:∀(ρ':RR) (σ:St) (e:ρ.Le ρ') (R:aX c ρ' σ s λ x=>x=I) (h:eF t run T (vs.drop i) σ=L6 r),P'):P':=by
 obtain⟨ρ',σ,e,R,h⟩:=hh;exact kk ρ' σ e R h
theorem Fb(hT:be T)(he:gm E)(hx:yi E)(C:aQ c d)(R:au c ρ σ s)(m0:uo c.cs t=L7)(m1:cv c.cs it=L7)(m2:bz c.cs b=L7)
  (h1:E.ev d it σ=L6 p) (h2:frz T p.2.obs p.1=L6 q) (h3:eF t (E.exs d b) T q.1 {p.2 with obs:=q.2}=L6 r) :
  W c (Ov (.For (ui t) (a8 it) (ba b) [] pos) c.env) (FE c ρ {r.2 with obs:=uY p.2.obs r.2.obs p.1} r.1) s:=by
 refine mu (he d it σ p c ρ s h1 C m1 R) (λ val s₁ z=>?_) (λ x=>jA it _ _);(refine PE.el z λ PY P1 R₁ P7=>?_;clear z);refine rc (vw hT.tup C R₁ P7 h2) λ f P dep src=>?_;have nI:∀p k,¬(c.fix f).fx s₁.heap.objs.size p k:=src.rel.fxno (Mm _);refine DH (env:=c.env) (pN T (E.exs d b) t (c.fix f) s₁.heap.objs.size PY q.1 r) src.src (λ o hf=>⟨PY,_,RR.Le.refl,(src.rel.new (k:=s₁.toks) λ zz zz e=>Mb _ e).sub λ x hx=>hx▸Mm _,h3⟩) (λ i s' J b hb o ho=>?_) (λ i s' h' tk J hk=>?_) C.hE (λ i v s' oI hi J gI hP=>?_) λ s' J=>?_
 ·(refine pN.el J λ ρ' σ' e R' h=>?_;clear J);exact src.dep_ b hb ρ' _ s' o e R'.rel ho
 ·(refine pN.el J λ ρ' σ' e R' h=>?_;clear J);exact⟨ρ',σ',e,R'.but rfl hk,h⟩
 ·(refine pN.el J λ ρ' σ' e R' h=>?_;clear J);refine ag (src.is_ i v hP) λ av ea xa=>?_;rw[sY ea] at h;refine ae h λ RP hput h4=>ae h4 λ w hw h5=>?_;have C':aQ ((c.fix f).hold s₁.heap.objs.size oI 0) d:=(aQ.fix C).hold;refine oa (c:=(c.fix f).hold s₁.heap.objs.size oI 0) hT.tup C' (R'.hold rfl 0 gI).rel m0 (xa.mono e) hput λ P0 P4=>aK (hx d b RP w ((c.fix f).hold s₁.heap.objs.size oI 0) ρ' P0 hw C' m2 P4) λ fl s₃ z=>?_;(revert z;refine λ P3=>FE.el P3 λ Qf Qh Qe z=>?_;clear P3);refine aD (Qe.toN.drop nI (by decide)) λ RI g1=>?_;have le:=e.trans Qh;obtain⟨fw,Sp⟩:=w;cases fw with
  | nxt=>obtain rfl:fl=.next:=z;exact⟨⟨Qf,Sp,le,RI.sub λ x hx=>.inr hx,h5⟩,g1⟩
  | cnt=>obtain rfl:fl=.cont:=z;exact⟨⟨Qf,Sp,le,RI.sub λ x hx=>.inr hx,h5⟩,g1⟩
  | brk=>
   obtain rfl:fl=.brk:=z;obtain rfl:=sI h5;exact⟨Qf,P1.trans le,(src.back Qf Sp s₃ _ le RI).rel,rfl⟩
  | ret x=>
   (refine ag z λ u P2 y=>?_;clear z;obtain rfl:=P2);obtain rfl:=sI h5;exact⟨Qf,P1.trans le,(src.back Qf Sp s₃ _ le RI).rel,u,rfl,y⟩
 ·(refine pN.el J λ ρ' σ' e R' h=>?_;clear J);rw[PW] at h;obtain rfl:=My h;exact⟨ρ',P1.trans e,(src.back ρ' σ' s' _ e R').rel,rfl⟩
end
section
variable{T:bq}{E:eB}{n d:Nat}{c:Cx}{ρ ρ':RR}{σ σ':St}{s s':Mc}{a:AV}{r:Fl×St}
inductive Ir(c:Cx)(ρ:RR)(σ:St)(v:PV)(val:Value)(s':Mc):Prop
 | mk (PY:RR) (s₁:Mc) (a:Addr) (u:Value) (n0:Nat) (h':M4) (e:ρ.Le PY) (R:au c PY σ s₁) (y:bA PY.z v u) (hm:PY.z.cel a (iI [u] n0)) (hv:val=.ref (s₁.heap.objs.size+1)) (hs:s'={s₁ with heap:=h'})
  (a1:IsEnum h' (s₁.heap.objs.size+1) s₁.heap.objs.size 0 .none) (a2:h'.IsListIter s₁.heap.objs.size a 0) (a3:h'.objs.size=s₁.heap.objs.size+2) (a4:lB s₁.heap h'):Ir c ρ σ v val s'
inductive Iq(c:Cx)(ρ:RR)(σ:St)(N:Addr)(a:Addr)(u:Value)(n0:Nat)(s':Mc):Prop
 | mk (Qt:RR) (e:ρ.Le Qt) (R:aX c Qt σ s' λ x=>x=N) (hm:Qt.z.cel a (iI [u] n0)) (b1:IsEnum s'.heap (N+1) N 1 u) (b2:s'.heap.IsListIter N a 1):Iq c ρ σ N a u n0 s'
theorem Cc(hT:be T)(he:gm E)(C:aQ c d)(R:au c ρ σ s)(mg:cf c.cs .globalImplicit g=L7)(m1:cv c.cs x=L7)(hg:T.glo.lookup g=L6 (.val (.type "enumerate")))(h1:E.ev d x σ=L6 p)(hp:p.1=.pv (.seq L7 [v])) :
  W c (MN (.Call (.Name (nm g) gp) [a8 x] [] cp) c.env) (Ir c ρ p.2 v) s:=by
 refine fj (og C R mg (hT.glo _ _ hg)) (λ f s₁ z=>?_) (bn (f:=.glo g gp) rfl [a8 x] cp c.env);(refine PE.el z λ PY P1 R₁ P7=>?_;clear z);refine ac (show f=_ from P7) ?_;have st:=(cu (env:=c.env) (pos:=cp) [x]).1;have go:=js (pos:=cp) he C (l:=[x]) (σ:=σ) (r:=([p.1],p.2)) (by refine(?_:(E.ev d x σ).bind _=_);refine ac h1 ?_;rfl) (by refine(?_:(_&&L7)=L7);refine ac m1 ?_;rfl) R₁;refine c8 rfl st (aK (dy st go) λ a P0 z=>?_);(revert z;refine λ P3=>aD P3 λ z1 z=>?_;clear P3);(refine PL.el z λ P5 P8 P4 xs=>?_;clear z);refine ao xs λ us us' eu y ys=>ac z1 (ac eu (ac (show us'=[] from ys) ?_));replace y:Is P5 p.1 us:=y;rw[hp] at y;(refine aP (je P4 y) λ t vs n0 Qb gt yl=>?_;obtain rfl:=Qb);have⟨k,y'⟩:=y;cases k with
 | zero=>exact y'.elim
 | succ k=>
  refine aP y' λ a m ws ea hm yl=>?_;(revert yl;refine λ P3=>ao P3 λ u ws' PZ y0 yl=>?_;clear P3;obtain rfl:=PZ);rw[show ws'=[] from yl] at hm;obtain rfl:=M5 ea;exact ah (call_enumerate_list ⟨_,P4.cel hm,rfl,m,rfl⟩ λ h' a1 a2 a3 a4=>⟨P5,P0,t,u,m,h',P1.trans P8,P4,y0.is,hm,rfl,rfl,a1,a2,a3,a4⟩)
theorem Fc(hT:be T)(he:gm E)(hx:yi E){r:Pos}(C:aQ c d)(R:au c ρ σ s)(m0:nF c.cs l=L7)(mg:cf c.cs .globalImplicit g=L7)(m1:cv c.cs x=L7)(m2:bz c.cs b=L7)
  (hg:T.glo.lookup g=L6 (.val (.type "enumerate"))) (h1:E.ev d x σ=L6 p) (hp:p.1=.pv (.seq L7 [v])) (h2:put T (.mul l kk r) (.pv (.seq L8 [.int 0,v])) p.2=L6 Qs) (h3:E.exs d b Qs=L6 (.nxt,Rf)) :
  W c (Ov (.For (ui (.mul l kk r)) (.Call (.Name (nm g) gp) [a8 x] [] cp) (ba b) [] pos) c.env) (FE c ρ Rf .nxt) s:=by
 refine mu (Cc hT he C R mg m1 hg h1 hp) (λ val s' hP=>?_) (λ zz=>jA (.call (.glo g gp) [x] cp) _ _);obtain⟨PY,s₁,a,u,n0,h',P1,R₁,yu,hm,rfl,rfl,a1,a2,a3,a4⟩:=hP;have nE:∀p k,¬c.fx (s₁.heap.objs.size+1) p k:=R₁.fxno (M6 _);have ne:(s₁.heap.objs.size+1:Nat)≠s₁.heap.objs.size:=N0 _;refine ah (wpAny_pyIter_enum a1 (fV (λ k s'=>(k=1/\s'={s₁ with heap:=h'})\/(k=0/\Iq c ρ Rf s₁.heap.objs.size a u n0 s')) ?_ 1 (.inl ⟨rfl,rfl⟩)));rintro k s' (⟨rfl,rfl⟩|⟨rfl,Qt,QT,QB,hm4,b1,b2⟩)
 ·refine ah (wpAny_pyNext_enum_item (items:=[u].toArray) (x:=u) a1 a2 ⟨_,a4 _ _ (R₁.cel hm),rfl,n0,rfl⟩ rfl ne λ h2' o1 o2 o3 o4 o5=>?_);refine ah (wpAny_letOwnedTupleGo_enum o1 λ h3' en sb=>?_);refine cC o2 λ oi p1 p2 p3=>?_;have q1:h3'.get? s₁.heap.objs.size=L6 oi:=(sb.2 _ (Ne.symm ne)).trans p1;have nt:(h'.objs.size:Nat)≠s₁.heap.objs.size+1:=by refine ac a3 ?_;exact N0 _
  have q2:h3'.get? h'.objs.size=L6 (yF [.int ((0:Nat):Int) s₁.toks,u] 0):=(sb.2 _ nt).trans o3;have gr:lB s₁.heap h3':=λ b o e=>(sb.2 _ (Mi (PQ (Mv e)))).trans (o5 _ _ (Mi (PQ (Mv e))) (Mi (Mv e)) (a4 _ _ e));obtain⟨oe,en',he0⟩:∃oe,h3'.get? (s₁.heap.objs.size+1)=L6 oe/\oe=_:=⟨_,en,rfl⟩
  have RN:=(R₁.new (k:=s₁.toks+1) gr).ice (I:=h'.objs.size) (by refine(?_:@LE.le Nat _ _ _);refine ac a3 ?_;exact Mt _ _) q2;have RE:=(RN.hold (I:=s₁.heap.objs.size) ⟨Mm _,λ z=>by have z:(s₁.heap.objs.size:Nat)=h'.objs.size:=z;lia⟩ 0 q1).hold (I:=s₁.heap.objs.size+1) ⟨⟨M6 _,λ z=>nt z.symm⟩,ne⟩ 1 en';have xt:Is (PY.ice λ a o=>a=h'.objs.size/\o=yF [.int ((0:Nat):Int) s₁.toks,u] 0) (.pv (.seq L8 [.int 0,v])) (.ref h'.objs.size):=by
   refine aA (yu.mono (RR.Le.ice (ρ:=PY) (P:=λ a o=>a=h'.objs.size/\o=yF [.int ((0:Nat):Int) s₁.toks,u] 0)).z) λ k y=>?_;cases k with
   | zero=>exact y.elim
   | succ k=>exact⟨k+2,h'.objs.size,0,_,rfl,.inr ⟨rfl,rfl⟩,_,_,rfl,⟨_,rfl⟩,_,_,rfl,y,rfl⟩
  have C':aQ ((c.hold s₁.heap.objs.size oi 0).hold (s₁.heap.objs.size+1) oe 1) d:=C.hold.hold;refine ax (oa (c:=(c.hold s₁.heap.objs.size oi 0).hold (s₁.heap.objs.size+1) oe 1) (Q:=λ zz Ql=>au ((c.hold s₁.heap.objs.size oi 0).hold (s₁.heap.objs.size+1) oe 1) (PY.ice λ a o=>a=h'.objs.size/\o=yF [.int ((0:Nat):Int) s₁.toks,u] 0) Qs Ql) hT.tup C' RE.rel m0 xt h2 λ Ql QB=>QB) (λ zz Ql QB=>?_) C.hE;refine ax (hx d b Qs (.nxt,Rf) ((c.hold s₁.heap.objs.size oi 0).hold (s₁.heap.objs.size+1) oe 1) _ Ql h3 C' m2 QB) (λ fl s₅ z=>?_) C.hE;(revert z;refine λ P3=>FE.el P3 λ Qy QQ Q2 z=>?_;clear P3);obtain rfl:fl=.next:=z;refine aD (aX.drop (c:=c.hold s₁.heap.objs.size oi 0) (λ p k z=>z.elim (nE p k) λ z=>ne z.1) (by decide) Q2.toN) λ RD g1=>aD (aX.drop (c:=c) (R₁.fxno (Mm _)) (by decide) RD) λ RD g2=>⟨0,Nat.zero_lt_one,.inr ⟨rfl,Qy,(P1.trans RR.Le.ice).trans QQ,RD.sub λ x hx=>.inr hx,QQ.z.c _ _ (.inl hm),g1.trans (congrArg L6 he0),⟨oi,g2,p2,p3⟩⟩⟩
 ·refine ah (wpAny_pyNext_enum_end (items:=[u].toArray) rfl b1 b2 ⟨_,QB.rel.cel hm4,rfl,n0,rfl⟩ rfl λ h' eb=>?_);exact⟨Qt,QT,(QB.but (k:=s'.toks) rfl λ b o nb e=>eb b o (λ q=>nb (Ma.mpr q)) e).rel,rfl⟩
end
section
variable{T:bq}{n d:Nat}{c:Cx}{ρ ρ':RR}{σ σ':St}{s s':Mc}{a:AV}{r:Fl×St}
theorem W.fromF(e:ρ.Le PY)(h:W c t (FE c PY σ f) s):W c t (FE c ρ σ f) s:=ax h (λ zz zz z=>z.from e) λ zz zz z=>z
variable{E:eB}
theorem EX(he:gm E)(C:aQ c d)(R:au c ρ σ s)(h:bv T E d (.tsw l k q x k' q' pp) σ=L6 r)(hm:kl c.cs (.tsw l k q x k' q' pp)=L7):W c (Ov (iT (.tsw l k q x k' q' pp)) c.env) (FE c ρ r.2 r.1) s:=by
 refine ae h λ p hp h1=>?_;(refine aD (ji h1) λ Qc h2=>?_;(refine aD Qc λ hz hl=>?_;clear Qc));obtain rfl:=sI h2;refine af hm λ m1 m=>af m λ m2 m3=>gy (names:=l.map λ x=>nm x.1) (oh (js he C hp m1 R) λ vs s₁ z=>ah (wpAny_newTuple (Q:=λ v s'=>∃ρ',ρ.Le ρ'/\au c ρ' p.2 s'/\SX ρ' s'.heap (L8,p.1) v) ?_ ?_)) (λ v s₁ z=>?_) (rR (.tup x k' q') _ _ _ _ _) (vo m3 m2 C.hk)
 ·(refine PL.el z λ PY P1 R₁ P7=>?_;clear z);exact⟨PY,P1,R₁.grown (k:=s₁.toks) (λ zz zz e=>Mb _ e),_,vs,0,rfl,Nh _ rfl,P7⟩
 ·(refine PL.el z λ PY P1 R₁ P7=>?_;clear z);refine ac P7.len ?_;exact bY hz
 ·obtain⟨PY,P1,R₁,t,us,n,rfl,g,xs⟩:=z;refine ac (show(l.map λ x=>nm x.1).length=us.length by rw[Md,xs.len];exact hl)<|n7 R₁ g λ P0 P4=>?_;have:=E2 (Q:=λ zz s'=>FE c ρ {p.2 with loc:=IC (l.map (·.1)) p.1 p.2.loc} .nxt .next s') C [] [] xs m2 hl P4 λ s₃ Qe=>ah (Mp ⟨PY,P1,Qe,rfl⟩);rw[Mg,Mg,← List.map_reverse] at this;exact this
theorem EY(hT:be T)(he:gm E)(C:aQ c d)(R:au c ρ σ s)(h:bv T E d (.tpl l k q x pp) σ=L6 r)(hm:kl c.cs (.tpl l k q x pp)=L7):W c (Ov (iT (.tpl l k q x pp)) c.env) (FE c ρ r.2 r.1) s:=by
 refine ae h λ p hp h1=>ae h1 λ y hy h2=>?_;(refine aD (ji h2) λ Qc h3=>?_;(refine aD Qc λ e0 hl=>?_;clear Qc));(refine aF h3 λ Qs hs PZ=>?_;obtain rfl:=PZ);refine af hm λ m1 m=>af m λ m2 m4=>iQ (he d x σ p c ρ s hp C m2 R) (λ v s₁ z=>?_) (rR x _ _ _ _ _) (qD m4 m1);(refine PE.el z λ PY P1 R₁ P7=>?_;clear z);(refine SX.el (cy hT.tup C R₁ P7 hy) λ tt us n Qb g xs=>?_;obtain rfl:=Qb);rw[e0] at g;have L:=mc (env:=c.env) l;refine ac (rt _ _ _ _ _)<|aw (uO R₁ L.2 (ac L.1 (ac hl (ac xs.len rfl))) g λ P0 P4=>aK (E1 hT he C hs m1 P4 xs) λ zz s' z=>?_);(refine RE.el z λ ρ' e' R'=>?_;clear z);exact⟨ρ',P1.trans e',R',rfl⟩
theorem Fq(he:gm E)(C:aQ c d)(R:au c ρ σ s)(h:bv T E d (.asu o i q x pp) σ=L6 r)(hm:kl c.cs (.asu o i q x pp)=L7):W c (Ov (iT (.asu o i q x pp)) c.env) (FE c ρ r.2 r.1) s:=by
 refine ae h λ p hp h1=>ae h1 λ t ht h2=>ae h2 λ w hw h3=>ae h3 λ j hj h4=>?_;(refine aF h4 λ σ' hs PZ=>?_;obtain rfl:=PZ);refine af hm λ m1 m=>af m λ m2 m=>af m λ m3 m4=>fF (he d x σ p c ρ s hp C m3 R) (λ v s₁ z=>?_) (dJ m4 _ _ _);(refine PE.el z λ PY P1 R₁ P7=>?_;clear z);refine W.pe (he d o p.2 t c PY s₁ ht C m1 R₁) λ ov P0 P5 P8 P4 Qi=>W.pe (he d i t.2 w c P5 P0 hw C m2 P4) λ iv s₃ Qf Qh Qe QG=>?_;rw[kH hj] at Qi;exact Fd Qe (Qi.mono Qh) QG (P7.mono (P8.trans Qh)) hs λ s' R'=>⟨Qf,(P1.trans P8).trans Qh,R',rfl⟩
theorem Fs(hT:be T)(he:gm E)(C:aQ c d)(R:au c ρ σ s)(h:bv T E d (.aat o i q x pp) σ=L6 r)(hm:kl c.cs (.aat o i q x pp)=L7):W c (Ov (iT (.aat o i q x pp)) c.env) (FE c ρ r.2 r.1) s:=by
 refine ae h λ p hp h1=>ae h1 λ t ht h2=>?_;(refine aF h2 λ os ho PZ=>?_;obtain rfl:=PZ);refine af hm λ m1 m=>af m λ m2 m3=>fG (he d x σ p c ρ s hp C m2 R) (λ v s' z=>?_) (dJ m3 _ _ _);(refine PE.el z λ PY P1 R₁ P7=>?_;clear z);refine W.pe (he d o p.2 t c PY s' ht C m1 R₁) λ ov P0 P5 P8 P4 Qi=>A3 hT.att C P4 Qi (P7.mono P8) ho λ s₃ Qe=>⟨P5,P1.trans P8,Qe,rfl⟩
theorem Cb(hT:be T)(he:gm E)(hx:yi E)(C:aQ c d)(R:au c ρ σ s)(h:bv T E d (.fen l k q g x gp cp b pp) σ=L6 r)(hm:kl c.cs (.fen l k q g x gp cp b pp)=L7):W c (Ov (iT (.fen l k q g x gp cp b pp)) c.env) (FE c ρ r.2 r.1) s:=by
 refine ae h λ zz hg h1=>ae h1 λ p hp h2=>ae h2 λ m hm' h3=>ae h3 λ v hv h4=>ai h4 λ e h5=>ae h5 λ Qs h6 h7=>ae h7 λ w hw h8=>?_;(refine aF h8 λ zz hn PZ=>?_;obtain rfl:=PZ);refine ae hg λ u hu h9=>ae hu λ v' hv' h10=>ai h9 λ eu zz=>af hm λ m1 mm=>af mm λ m2 mm=>af mm λ m3 m4=>?_;obtain⟨wf,wσ⟩:=w;cases wf with
 | nxt=>exact Fc hT he hx (pos:=pp) C R m2 m1 m3 m4 (ac hv' (ac (ru h10) (ac eu rfl))) hp (ac (nQ hm') (ac (cI hv) (ac (iE e) rfl))) h6 hw
 | _=>exact nn hn
theorem mB(hT:be T)(He:gm (aC T n))(Ht:∀m,m<=n->yh (aC T m))(Hx:∀m,m<=n->yi (aC T m)){st:S}(C:aQ c d)(R:au c ρ σ s)(h:bv T (aC T n) d st σ=L6 r)(hm:kl c.cs st=L7):W c (Ov (iT st) c.env) (FE c ρ r.2 r.1) s:=by
 cases st with
 | ret x pp=>
  (refine aF h λ p hp PZ=>?_;obtain rfl:=PZ);refine lG (He d x σ p c ρ s hp C hm R) λ v s' z=>?_;(refine PE.el z λ ρ' e R' x=>?_;clear z);exact⟨ρ',e,R',v,rfl,x⟩
 | ret0 pp=>obtain rfl:=sI h;exact ah (wpAny_Return_none ⟨ρ,RR.Le.refl,R,_,rfl,rfl⟩)
 | asg i q x pp=>
  (refine aF h λ p hp PZ=>?_;obtain rfl:=PZ);refine af hm λ m1 m=>af m λ m2 m3=>c9 (He d x σ p c ρ s hp C m2 R) (λ v s' z=>?_) (dJ m3 _ _ _);(refine PE.el z λ ρ' e R' x=>?_;clear z);exact mq C R' m1 x λ s'' R''=>⟨ρ',e,R'',rfl⟩
 | asc i q x pp=>
  refine ae h λ p hp h1=>?_;(refine aF h1 λ Qs hs PZ=>?_;obtain rfl:=PZ);refine af hm λ m1 m=>af m λ m2 m3=>c9 (He d x σ p c ρ s hp C m2 R) (λ v s' z=>?_) (dJ m3 _ _ _);(refine PE.el z λ ρ' e R' x=>?_;clear z);exact A2 C R' m1 hs x λ s'' R''=>⟨ρ',e,R'',rfl⟩
 | aat o i q x pp=>exact Fs hT He C R h hm
 | asu o i q x pp=>exact Fq He C R h hm
 | rai x pp=>exact nn h
 | raw st=>exact nn h
 | tsw l k q x k' q' pp=>exact EX He C R h hm
 | tpl l k q x pp=>exact EY hT He C R h hm
 | ex x pp=>
  (refine aF h λ p hp PZ=>?_;obtain rfl:=PZ);refine af hm λ m1 m3=>rI (He d x σ p c ρ s hp C m1 R) (λ v s' z=>?_) (di C) (dJ m3 _ _ _);(refine PE.el z λ ρ' e R' _=>?_;clear z);exact⟨ρ',e,R',rfl⟩
 | iff t y z pp=>
  refine ae h λ q hq h1=>af hm λ m1 m=>af m λ m2 m3=>uV (Ht n (Mm _) d t σ q c ρ s hq C m1 R) λ b s₁ w=>?_;(refine TE.el w λ PY P1 R₁ Qb=>?_;clear w;obtain rfl:=Qb);cases hb:q.1 with
  | true=>rw[hb] at h1;exact W.fromF P1 (Hx n (Mm _) d y q.2 r c PY s₁ h1 C m2 R₁)
  | false=>rw[hb] at h1;exact W.fromF P1 (Hx n (Mm _) d z q.2 r c PY s₁ h1 C m3 R₁)
 | whl t b pp=>
  refine af hm λ m1 m2=>yJ Ht Hx C R h m1 m2
 | fr t it b pp=>
  refine ae h λ p hp h1=>ae h1 λ q hq h2=>?_;(refine aF h2 λ w hw PZ=>?_;obtain rfl:=PZ);refine af hm λ m0 m=>?_;refine af m λ m1 m2=>?_;exact Fb hT He (Hx n (Mm _)) C R m0 m1 m2 hp hq hw
 | fen l k q g x gp cp b pp=>exact Cb hT He (Hx n (Mm _)) C R h hm
 | brk q=>obtain rfl:=My h;exact aw (pos:=q) (al ⟨ρ,RR.Le.refl,R,rfl⟩)
 | cnt q=>obtain rfl:=My h;exact aw (pos:=q) (al ⟨ρ,RR.Le.refl,R,rfl⟩)
 | pas q=>obtain rfl:=My h;exact aw (pos:=q) (al ⟨ρ,RR.Le.refl,R,rfl⟩)
theorem zj(hT:be T)(He:gm (aC T n))(Ht:∀m,m<=n->yh (aC T m))(Hx:∀m,m<=n->yi (aC T m)){ss:List S}(C:aQ c d)(R:au c ρ σ s)(h:G4 T (aC T n) d ss σ=L6 r)(hm:bz c.cs ss=L7):W c (Na (ba ss) c.env) (FE c ρ r.2 r.1) s:=by
 cases ss with
 | nil=>obtain rfl:=sI h;exact ah (On ⟨ρ,RR.Le.refl,R,rfl⟩)
 | cons st ss=>
  refine ae h λ p hp h1=>af hm λ m1 m2=>bg (aK (mB hT He Ht Hx C R hp m1) λ fl s₁ z=>?_);(revert z;refine λ P3=>FE.el P3 λ PY P1 R₁ z=>?_;clear P3);obtain⟨f,RP⟩:=p;cases f with
  | nxt=>obtain rfl:fl=.next:=z;exact W.fromF P1 (Hx n (Mm _) d ss RP r c PY s₁ h1 C m2 R₁)
  | brk=>obtain rfl:fl=.brk:=z;obtain rfl:=sI h1;exact⟨PY,P1,R₁,rfl⟩
  | cnt=>obtain rfl:fl=.cont:=z;obtain rfl:=sI h1;exact⟨PY,P1,R₁,rfl⟩
  | ret x=>(refine ag z λ v P2 y=>?_;clear z;obtain rfl:=P2);obtain rfl:=sI h1;exact⟨PY,P1,R₁,v,rfl,y⟩
end
section
variable{T:bq}{E:eB}{n d:Nat}{c:Cx}{ρ ρ':RR}{σ σ':St}{s s':Mc}{a:AV}{v:Value}
theorem fy(h:less k d=L6 d'):d=d'+k:=by
 refine ai h λ h1 h2=>?_;have:=sI h2;lia
theorem au.low(R:au c ρ σ s):∀i a,σ.loc.lookup i=L6 a->gG ρ.ad.length a=L7:=λ i a h=>by
 (refine au.el R λ m τ F L K r=>?_;clear R);refine ag (L i a h) λ v zz y=>?_;cases a with
 | obj j=>refine ag y λ x zz e=>?_;exact decide_eq_true (Mz.mp e).1
 | _=>rfl
theorem ja(h:Fw i f=L6 r):f=(i,r.1)::r.2:=by
 refine ae h λ q hq h1=>ai h1 λ e h2=>ac (cI hq) (bP (sI h2) (bP e rfl))
inductive nU(ρ:RR)(i:Nat)(a:AV)(f:List (Nat×AV))(es:List OC):Prop
 | mk (v:Value) (es':List OC) (x:Is ρ a v) (r:cw ρ f es') (k:∀ks vs,fh ks vs es'->fh (i::ks) (v::vs) es):nU ρ i a f es
theorem nU.el{P':Prop}(hh:nU ρ i a f es)(kk:∀(v:Value) (es':List OC) (x:Is ρ a v) (r:cw ρ f es') (k:∀ks vs,fh ks vs es'->fh (i::ks) (v::vs) es),P'):P':=by
 obtain⟨v,es',x,r,k⟩:=hh;exact kk v es' x r k
theorem gT(h:cw ρ ((i,a)::f) es):nU ρ i a f es:=by
 (revert h;refine λ P3=>ao P3 λ _ es' PZ Qb h=>?_;clear P3;obtain rfl:=PZ;obtain⟨h1,t1,v1,rfl,y1⟩:=Qb);exact⟨v1,es',y1,h,λ ks vs k=>(bM v1 vs h1 t1 es' ⟨rfl,rfl,k⟩)⟩
inductive Ll(es:List OC)(r:BR):Prop
 | mk (vk vt vn:Value) (ek:fh [121,74,179,180] [vk,vt,.bool r.rep,vn] es) (hz:∀z,bA z (.byt r.key) vk/\bA z (.byt r.told) vt/\bA z (.byt r.note) vn):Ll es r
theorem AC(h:La f=L6 r)(X:cw ρ f es):Ll es r:=by
 refine ae h λ p hp h=>ae h λ k hk h=>?_;rw[ja hp,a7 hk] at X;refine nU.el (gT X) λ v1 es1 y1 X1 k1=>ae h λ q hq h=>?_;refine ae h λ t ht h=>?_;rw[ja hq,a7 ht] at X1;refine nU.el (gT X1) λ v2 es2 y2 X2 k2=>ae h λ w hw h=>ae h λ b hb h=>?_;rw[ja hw,fb hb] at X2;refine nU.el (gT X2) λ v3 es3 y3 X3 k3=>ae h λ u hu h=>ae h λ n hn h=>?_;rw[ja hu,a7 hn] at X3;refine nU.el (gT X3) λ v4 es4 y4 X4 k4=>ai h λ e h=>?_;obtain rfl:=sI h;rw[iE e] at X4;rw[show v3=_ from y3] at k3;exact⟨v1,v2,v4,k1 _ _ (k2 _ _ (k3 _ _ (k4 _ _ ⟨rfl,X4⟩))),λ z=>⟨⟨1,y1⟩,⟨1,y2⟩,⟨1,y4⟩⟩⟩
theorem E4(hk:k=ρ.ad.length)(le:ρ.Le ρ')(R:au c ρ' σ s)(hlow:∀i a,σ.loc.lookup i=L6 a->gG k a=L7)(x:Is ρ' (.obj k) v):PE c ρ (II k σ).2 (II k σ).1 v s:=by
 have no:PE c ρ σ (.obj k) v s:=⟨ρ',le,R,x⟩
 unfold II;cases hb:(σ.obs[k]?).bind K9 with
 | none=>exact no
 | some r=>
  show PE c ρ (if _ then _ else _:AV×St).2 (if _ then _ else _:AV×St).1 v s;by_cases q:k+1=σ.obs.length/\(σ.obs.take k).all (eL k)=L7
  ·refine ac (if_pos q)<|ae hb λ o ho hb=>?_;(refine aD q λ q1 q2=>?_;clear q);(refine au.el R λ m τ F L K rs=>?_;clear R);refine ag (K.O k o ho) λ xb e1 X=>?_;(refine ag x λ b P2 e3=>?_;clear x;obtain rfl:=P2);obtain rfl:=sI (e3.symm.trans e1);cases o with
   | ins C' f=>
    refine ai hb λ eC hb=>aP X λ dx es j c0 c1 ent=>?_;obtain⟨vk,vt,vn,ek,hz⟩:=AC hb ent;have K₁:=K.cut (k:=k) (by lia) q2;have ne:dx≠b:=λ q=>by
     have t:=c1.t;rw[q,c0.t] at t;exact nq (congrArg NE t) rfl
    have lt:∀{j o},(σ.obs.take k)[j]?=L6 o->j≠k:=λ e=>Mi (tg e).1;have K₂:=aR.turn (c:=c) (c':=c) (x:=b) (t:=(2,2*b)) (os':=σ.obs.take k) rfl rfl rfl K₁ ⟨λ _=>K.N b c0.own,λ i j q=>K.Y b _ _ c0.t,rfl,λ i o e=>.inl ⟨e,λ m=>by refine ac c0.t ?_;exact qj (lt e),λ zz zz z=>z⟩,λ b' p k' z=>.inl ⟨z,λ q=>ie (c0.t.symm.trans (q▸(K.X b' p k' z).t))⟩,λ q=>ie (c0.t.symm.trans q),λ j q=>my (c0.t.symm.trans q)⟩;have t1:gA τ b (2,2*b) dx=(k+3,1):=(b8 ne).trans c1.t;have K₃:=aR.turn (c:=c) (c':=c) (x:=dx) (t:=(2,2*b+1)) (os':=σ.obs.take k) rfl rfl rfl K₂ ⟨λ _=>K.N dx c1.own,λ i j q=>K.Y dx _ _ c1.t,rfl,λ i o e=>.inl ⟨e,λ m=>by refine ac t1 ?_;exact qj (lt e),λ zz zz z=>z⟩,λ b' p k' z=>.inl ⟨z,λ q=>ie (t1.symm.trans (q▸(K₂.X b' p k' z).t))⟩,λ q=>ie (t1.symm.trans q),λ j q=>my (t1.symm.trans q)⟩;have nb:∀a r',ρ'.z.bds a=L6 r'->a≠b:=λ a r' h q=>by
     obtain⟨_,_,_,_,_,_,d0,_⟩:=K.B a r' h;exact my (c0.t.symm.trans (q▸d0.t))
    have lz:(ρ'.cut k).Le ⟨ρ'.ad.take k,⟨ρ'.z.cel,λ a=>if a=b then L6 r else ρ'.z.bds a⟩⟩:=⟨λ zz zz h=>h,λ zz zz h=>h,λ a r' h=>(if_neg (nb a r' h)).trans h⟩
    have le':ρ.Le (ρ'.cut k):=by refine ac hk ?_;exact le.cut
    refine⟨_,le'.trans lz,⟨m,_,F,λ i a e=>?_,⟨K₃.N,K₃.Y,K₃.sz,λ i o e=>?_,K₃.Z,K₃.X,λ a r' z=>?_⟩,rs⟩,1,b,rfl,if_pos rfl⟩
    ·refine ag (L i a e) λ u w1 w2=>⟨u,w1,(w2.low (hlow i a e)).mono lz⟩
    ·refine ag (K₃.O i o e) λ x e1 y=>⟨x,e1,y.imp (λ zz zz zz h=>h) lz λ zz zz h=>h⟩
    ·by_cases q:a=b
     ·obtain rfl:=q;obtain rfl:=sI ((if_pos rfl).symm.trans z);exact⟨dx,es,j,vk,vt,vn,⟨eC▸c0.g,(b8 (Ne.symm ne)).trans cx⟩,⟨c1.g,cx⟩,ek,(hz _).1,(hz _).2.2,.inl (hz _).2.1⟩
     ·exact(K₃.B a r' ((if_neg q).symm.trans z)).imp (λ zz zz zz h=>h) lz.z
   | _=>exact nn hb
  ·refine ac (if_neg q) ?_;exact no
theorem au.make(C:aQ c d)(R:au c ρ σ ⟨hh,gg,dd,tt,oo⟩)(b:Addr):au c (ρ.psh (hh.objs.size+1)) {σ with obs:=σ.obs++[.ins b []] } ⟨(hh.push emptyDict).push (Nm b hh.objs.size),gg,dd,tt,oo⟩:=by
 have g1:((hh.push emptyDict).push (Nm b hh.objs.size)).get? (hh.objs.size+1)=L6 (Nm b hh.objs.size):=by heap_get
 have g2:((hh.push emptyDict).push (Nm b hh.objs.size)).get? hh.objs.size=L6 emptyDict:=Mb _ (Nh _ rfl);refine R.push C (k:=tt) (h':=(hh.push emptyDict).push (Nm b hh.objs.size)) (two (hh.objs.size+1) hh.objs.size) (λ zz zz e=>Mb _ (Mb _ e)) (λ b' j e=>?_) λ τ h=>(aI hh.objs.size ([]) 0 ⟨⟨g1,h _ 0 (if_pos rfl)⟩,⟨g2,h _ 1 ((if_neg (Mi (MV _))).trans (if_pos rfl))⟩,rfl⟩)
 by_cases q:b'=hh.objs.size+1
 ·refine ac q ?_;exact⟨M6 _,by refine ac g1 ?_;rfl⟩
 ·refine aD (gL ((if_neg q).symm.trans e)) λ q' zz=>ac q' ?_;exact⟨Mm _,by refine ac g2 ?_;rfl⟩
theorem Fm(hT:be T)(hx:yi E)(C:aQ c d)(R:au c ρ σ s)(x:IsL ρ vs us)(h:IS T E d b vs σ=L6 r):W c (call (.ref b) us) (PE c ρ r.2 r.1) s:=by
 refine ae h λ fd hf h1=>ae h1 λ d' hd h2=>ae h2 λ p hp h3=>?_;obtain rfl:=fy hd;refine bB (tA (A':=c.A) (d':=d') rfl (hT.fns _ _ _ hf) C (by have:=C.hd;refine(?_:c.dp+1+d'<_);lia) (by have:=C.hu;refine(?_:c.un+3+(10*d'+100)<_);lia) R x rfl λ c' PY s' zz EN C' hm le R'=>?_);exact aK (hx d' fd.body _ p c' PY s' hp C' hm R') λ fl s'' z=>qW h3 R.size.symm EN le z
theorem Fk(hT:be T)(hx:yi E)(C:aQ c d)(R:au c ρ σ s)(x:IsL ρ vs us)(h:K7 T E d b vs σ=L6 r):W c (call (.ref b) us) (PE c ρ r.2 r.1) s:=by
 refine ae h λ g hg h1=>ae h1 λ fd hf h2=>ae h2 λ d' hd h3=>ae h3 λ p hp h4=>?_;(refine aF h4 λ zz hn PZ=>?_;obtain rfl:=PZ);obtain rfl:=fy hd;obtain⟨m1,m2,m3⟩:=hT.cls _ _ hg c.w;obtain⟨hh,gg,dd,tt,oo⟩:=s;refine bB (jN (makes_of (R.X C) m1) (OP (R.X C) m2) (λ self=>bind_fn (R.X C) self m3) rfl ?_);have R₁:=R.make C b;have sz:=R.size;have le:ρ.Le (ρ.psh (hh.objs.size+1)):=RR.Le.psh;have hobj:Is (ρ.psh (hh.objs.size+1)) (.obj σ.obs.length) (.ref (hh.objs.size+1)):=⟨_,rfl,by refine bP sz ?_;exact cD⟩
 have ln:(ρ.psh (hh.objs.size+1)).ad.length=σ.obs.length+1:=by refine(?_:(ρ.ad++[_]).length=_);refine ac Mf (ac sz ?_);rfl
 refine tA (A':=c.A.under (.builtin "type.__call__" ⟨.ref b::us,[]⟩)) (d':=d') rfl (hT.fns _ _ _ hf) C (by have:=C.hd;refine(?_:c.dp+1+1+d'<_);lia) (by have:=C.hu;refine(?_:c.un+1+3+(10*d'+100)<_);lia) R₁ (show IsL _ (.obj σ.obs.length::vs) _ from(ay.k hobj (x.imp λ zz zz z=>z.mono le))) rfl λ c' PY s' zz EN C' hm Sa R'=>?_;refine aK (hx d' fd.body _ p c' PY s' hp C' hm R') λ fl s'' z=>?_;(revert z;refine λ P3=>FE.el P3 λ ρ' e R'' z=>?_;clear P3);obtain⟨pf,pσ⟩:=p;cases pf with
 | nxt=>
  obtain rfl:fl=.next:=z;refine⟨rfl,?_⟩;refine PE.el (PE.back (a:=.non) (v:=.none) EN (Sa.trans e) R'' rfl) λ P5 P8 P4 _=>?_;rw[ln] at P4;exact E4 sz.symm (le.trans P8) P4 (λ i a' hi=>by refine bP sz ?_;exact R.low i a' hi) (hobj.mono P8)
 | _=>exact nn hn
theorem Fj(hT:be T)(he:gm E)(hx:yi E)(C:aQ c d)(R:au c ρ σ s)(x:IsL ρ vs us)(h:K6 T E d b vs σ=L6 r):W c (call (.ref b) us) (PE c ρ r.2 r.1) s:=by
 refine ae h λ fs hf h1=>ae h1 λ d' hd h2=>ae h2 λ p hp h3=>ae h3 λ fd hfd h4=>ae h4 λ q hq h5=>ae h5 λ q' hq' h6=>ae h6 λ w hw h7=>?_;(refine aF h7 λ zz hn PZ=>?_;obtain rfl:=PZ);obtain rfl:=fy hd;refine hT.sup _ _ _ hf c d' ρ σ s us vs w.2 C R x rfl λ c' C' m1 m2=>(aI p.1 p.2 q'.2 (?_))
 refine⟨λ PY s₁ R₁=>js he C' hp m1 R₁,λ PY s₁ Rh R₁ P7=>?_,λ PY s₁ R₁=>?_⟩
 ·refine tA (A':=c'.A) (d':=d') rfl (hT.fns _ _ _ hfd) C' (by have:=C'.hd;refine(?_:c'.dp+1+d'<_);lia) (by have:=C'.hu;refine(?_:c'.un+3+(10*d'+100)<_);lia) R₁ P7 rfl λ c'' P5 s' zz EN C'' hm le R'=>?_;refine aK (hx d' fd.body _ q c'' P5 s' hq C'' hm R') λ fl s'' z=>PE.el (qW hq' R₁.size.symm EN le z) λ Qf Qh Qe _=>⟨Qf,Qh,Qe⟩
 ·obtain⟨wf,wσ⟩:=w;cases wf with
  | nxt=>exact hx (d'+1) fs.body _ _ c' PY s₁ hw C' m2 R₁
  | _=>exact nn hn
theorem vr(hT:be T)(he:gm E)(hx:yi E)(C:aQ c d)(R:au c ρ σ s)(x:IsL ρ vs us)(h:xK T E d (.val f) vs σ=L6 r):W c (call f us) (PE c ρ r.2 r.1) s:=by
 refine ae h λ u hu h1=>?_;obtain rfl:=sI hu;cases f with
 | ref b=>
  refine ai h1 λ zz h2=>?_;rcases aY h2 with h2|h2
  ·refine ae h2 λ d' hd h3=>?_;(refine aF h3 λ q hq PZ=>?_;obtain rfl:=PZ);obtain rfl:=fy hd;exact hT.stf _ _ _ _ _ hq c d' ρ σ s us C R rfl rfl x
  rcases aY h2 with h2|h2
  ·refine ae h2 λ d' hd h3=>ae h3 λ q hq h4=>ae h4 λ y hy h5=>ae h5 λ S hS h6=>?_;(refine aF h6 λ t ht PZ=>?_;obtain rfl:=PZ);obtain rfl:=fy hd;refine aD (ry hy) λ e1 e2=>?_;rw[cI hq,e1] at x;exact hT.ktm _ _ _ _ ht c d' ρ σ s y.1 us C R (ac e2 (ac (Eo hS) rfl)) x
  rcases aY h2 with h2|h2
  ·refine ae h2 λ d' hd h3=>?_;(refine aF h3 λ q hq PZ=>?_;obtain rfl:=PZ);obtain rfl:=fy hd;exact hT.pur _ _ _ hq c d' ρ σ s us C R x
  rcases aY h2 with h2|h2
  ·exact Fm hT hx C R x h2
  rcases aY h2 with h2|h2
  ·exact Fk hT hx C R x h2
  ·exact Fj hT he hx C R x h2
 | builtin id=>
  (refine aF h1 λ q hq PZ=>?_;obtain rfl:=PZ);exact Fn hT.tup hT.isi C R x hq
 | type id=>
  (refine aF h1 λ q hq PZ=>?_;obtain rfl:=PZ);exact EW hT.tup hT.isi C R x hq
 | _=>exact nn h1
theorem Hc(n:Nat):A0 T (aC T n):=by
 cases n with
 | zero=>exact⟨λ zz zz zz zz zz h=>nn h,λ zz zz zz zz zz h=>nn h,λ zz zz zz zz zz h=>nn h⟩
 | succ n=>
  refine⟨λ d f vs σ r h=>?_,λ d b vs σ r h=>?_,λ d f vs σ r h=>?_⟩
  ·replace h:xK T (aC T n) d f vs σ=L6 r:=h;refine ae h λ u hu zz=>⟨u,ru hu⟩
  ·replace h:xK T (aC T n) d (.val (.ref b)) vs σ=L6 r:=h;refine ae h λ u hu h1=>?_;obtain rfl:=sI hu;exact ML.mp (ji h1).1
  ·replace h:xK T (aC T n) d (.val f) vs σ=L6 r:=h;refine ae h λ u hu h1=>?_;obtain rfl:=sI hu;cases f with
   | ref b=>exact .inl ⟨b,rfl⟩
   | builtin id=>exact .inr rfl
   | type id=>exact .inr rfl
   | _=>exact nn h1
structure L3(E:eB):Prop where
 ev:gm E
 ts:yh E
 tv:Ia E
 cal:yj E
 ex:yi E
theorem bp(hT:be T)(n:Nat):L3 (aC T n):=by
 induction n using Nat.strongRecOn with
 | ind n ih=>
  cases n with
  | zero=>exact⟨λ zz zz zz zz zz zz zz h=>nn h,λ zz zz zz zz zz zz zz h=>nn h,λ zz zz zz zz zz zz zz h=>nn h,λ zz zz zz zz zz zz zz zz zz h=>nn h,λ zz zz zz zz zz zz zz h=>nn h⟩
  | succ n=>
   have I:=λ m (hm:m<=n)=>ih m (PR hm);obtain⟨i1,i2,i3,i4,i5⟩:=I n (Mm _);exact⟨λ d x σ r c ρ s h C hm R=>zk hT (Hc n) i1 i2 i3 i4 C R h hm,λ d x σ r c ρ s h C hm R=>zi hT i1 i2 C R h hm,λ d x σ r c ρ s h hn C hm R=>zh hT i1 i3 C R h hn hm,λ d f vs σ r c ρ s us h C R x=>vr hT i1 i5 C R x h,
    λ d ss σ r c ρ s h C hm R=>zj hT i1 (λ m hm=>(I m hm).ts) (λ m hm=>(I m hm).ex) C R h hm⟩
end
noncomputable def t7(K:Ny)(f:Addr):Option (Value×Option Addr×Array (Option Value)×FuncData):=match K.lookup f with
 | some ⟨oc,od,.func fd,QP⟩=>L6 (oc,od,QP,fd)
 | _=>L9
theorem sK{K:Ny}{x}(h:t7 K f=L6 x):K.lookup f=L6 ⟨x.1,x.2.1,.func x.2.2.2,x.2.2.1⟩:=by
 unfold t7 at h;split at h
 ·next e=>exact sI h▸e
 ·exact nn h
noncomputable def pd(K:Ny)(f:Addr):FuncData:=((t7 K f).getD default).2.2.2
noncomputable def z7(a:AV)(v:Value):Bool:=match a with
 | .int k=>(match v with|.int j _=>k==j|_=>L8)
 | .byt b=>(match v with|.bytes x _=>b==x.toList|_=>L8)
 | .boo b=>(match v with|.bool c=>b==c|_=>L8)
 | .non=>(match v with|.none=>L7|_=>L8)
 | .val u=>(match u with
  | .ref a=>(match v with|.ref b=>a==b|_=>L8)
  | .builtin a=>(match v with|.builtin b=>a==b|_=>L8)
  | .type a=>(match v with|.type b=>a==b|_=>L8)
  | _=>L8)
 | _=>L8
theorem mO(h:z7 a v=L7):Is ρ a v:=by
 cases a with
 | int k=>cases v with|int j t=>exact⟨t,by exact ac (Mx (show(k==j)=L7 from h)) rfl⟩|_=>exact ff h
 | byt b=>cases v with|bytes x t=>exact⟨t,by exact ac (Mx (show(b==x.toList)=L7 from h)) (ac Array.toArray_toList rfl)⟩|_=>exact ff h
 | boo b=>cases v with|bool c=>exact(congrArg Value.bool (Mx (show(b==c)=L7 from h))).symm|_=>exact ff h
 | non=>cases v with|none=>exact rfl|_=>exact ff h
 | val u=>
  cases u with
  | ref a=>cases v with|ref b=>exact(congrArg Nq (Mx (show(a==b)=L7 from h))).symm|_=>exact ff h
  | builtin a=>cases v with|builtin b=>exact(congrArg O0 (Mx (show(a==b)=L7 from h))).symm|_=>exact ff h
  | type a=>cases v with|type b=>exact(congrArg Value.type (Mx (show(a==b)=L7 from h))).symm|_=>exact ff h
  | _=>exact ff h
 | _=>exact ff h
noncomputable def sF:List AV->List Value->Bool
 | [],vs=>vs.isEmpty
 | a::l,vs=>match vs with
  | []=>L8
  | v::vs=>z7 a v&&sF l vs
theorem oX:∀{l:List AV} {vs:List Value},sF l vs=L7->IsL ρ l vs:=by intro l_;induction l_ with
 | nil=>intro vs h;exact iE h
 | cons a l P9=>
  intro vs h;cases vs with
  | nil=>exact ff h
  | cons v vs=>
   refine af h λ h1 h2=>(aq v vs ⟨rfl,mO h1,P9 h2⟩)
noncomputable def Bg(K:Ny)(a:Addr):Option (List Value×Nat):=match K.lookup a with
 | some ⟨_,_,.seq xs n,_⟩=>L6 (xs.toList,n)
 | _=>L9
noncomputable def Ao(K:Ny)(f:Addr)(n:Nat):List Value:=match (pd K f).defaults with
 | .ref a=>((Bg K a).getD default).1.drop (n+((Bg K a).getD default).1.length-(pd K f).params.args.length)
 | _=>[]
abbrev AY:Type:=List ((Addr×Nat)×FD)
noncomputable def JZ(K:Ny):AY->List (Option FuncData)
 | []=>[]
 | p::l=>(t7 K p.1.1).map (·.2.2.2)::JZ K l
noncomputable def JY(K:Ny):AY->List (Option FuncData)
 | []=>[]
 | p::l=>L6 (uE (pd K p.1.1) (ba p.2.body))::JY K l
noncomputable def Kf(K:Ny)(S:Setting)(vs:List Value):AY->List (Option (List (Str×Value)))
 | []=>[]
 | p::l=>peek K S (Ph (uE (pd K p.1.1) (ba p.2.body)) ⟨vs.take p.1.2,[]⟩)::Kf K S vs l
noncomputable def Ke(K:Ny)(vs:List Value):AY->List (Option (List (Str×Value)))
 | []=>[]
 | p::l=>L6 ((p.2.ps.map nm).zip (vs.take p.1.2++Ao K p.1.1 p.1.2))::Ke K vs l
noncomputable def GR(K:Ny)(p:(Addr×Nat)×FD):Bool:=codeIn K (pd K p.1.1).code (pd K p.1.1).qualname&&(bz (pd K p.1.1).scope p.2.body&&((pd K p.1.1).scope.kind==.function&&(!(pd K p.1.1).scope.isCoroutine&&(!(pd K p.1.1).scope.isGenerator&&(decide ((NR 0 (pd K p.1.1).scope.names []).map (·.1)=p.2.cel.map nm)&&(p.2.ps.all (λ i=>decide ((pd K p.1.1).scope.names.lookup (nm i)=L6 .local\/i∈p.2.cel)) &&
 (decide p.2.ps.Nodup&&(decide p.2.cel.Nodup&&(p.2.ps.length==p.1.2+p.2.dfl.length&&(p.2.cel.all (λ i=>(pd K p.1.1).scope.names.lookup (nm i)==L6 .cell)&&(sF p.2.dfl (Ao K p.1.1 p.1.2)&&decide (p.1.2<=7))))))))))))
theorem GQ{K:Ny}:∀{l:AY},p∈l->JZ K l=JY K l->(t7 K p.1.1).map (·.2.2.2)=L6 (uE (pd K p.1.1) (ba p.2.body)):=by intro l_;induction l_ with
 | nil=>(intros;contradiction)
 | cons q l P9=>
  intro hm h;refine aD (Of h) λ h1 h2=>?_;rcases mC hm with e|hm
  ·refine ac e ?_;exact h1
  ·exact P9 hm h2
theorem Hm{K:Ny}{S:Setting}:∀{l:AY},p∈l->Kf K S vs l=Ke K vs l->peek K S (Ph (uE (pd K p.1.1) (ba p.2.body)) ⟨vs.take p.1.2,[]⟩)=L6 ((p.2.ps.map nm).zip (vs.take p.1.2++Ao K p.1.1 p.1.2)):=by intro l_;induction l_ with
 | nil=>(intros;contradiction)
 | cons q l P9=>
  intro hm h;refine aD (Of h) λ h1 h2=>?_;rcases mC hm with e|hm
  ·refine ac e ?_;exact h1
  ·exact P9 hm h2
theorem FJ{vs:List Value}(h:vs.length<=7):[vs.getD 0 .none,vs.getD 1 .none,vs.getD 2 .none,vs.getD 3 .none,vs.getD 4 .none,vs.getD 5 .none,vs.getD 6 .none].take vs.length=vs:=by
 refine(?_:((Ms 7).map λ i=>vs.getD i .none).take vs.length=vs);refine List.ext_getElem (by refine ac NV (ac (Md _) (ac List.length_range ?_));exact Nat.min_eq_left h) λ i h1 h2=>?_;refine ac List.getElem_take (ac (List.getElem_map _) (ac (List.getElem_range _) (ac (Ng) (ac (Mr h2) ?_))));rfl
theorem wN{l:AY}(h1:∀w:MO,JZ (hd.heap_39 w.params) l=JY (hd.heap_39 w.params) l)(h2:∀w:MO,l.all (GR (hd.heap_39 w.params))=L7)
  (h3:∀(w:MO) (S:Setting) (a b c d e f g:Value),Kf (hd.heap_39 w.params) S [a,b,c,d,e,f,g] l=Ke (hd.heap_39 w.params) [a,b,c,d,e,f,g] l) (a:Addr) (n:Nat) (fd:FD) (hl:l.lookup (a,n)=L6 fd):pO a n fd:=λ w=>by
 have hm:=aN hl;(refine aF (GQ hm (h1 w)) λ Qc e1 e2=>?_;obtain⟨oc,od,QP,g⟩:=Qc);have e2:g=uE (pd (hd.heap_39 w.params) a) (ba fd.body):=e2;have k:=mA (h2 w) _ hm;refine af k λ k1 k=>af k λ k2 k=>af k λ k3 k=>af k λ k4 k=>af k λ k5 k=>af k λ k6 k=>af k λ k7 k=>af k λ k8 k=>af k λ k9 k=>af k λ k10 k=>af k λ k11 k=>af k λ k12 k13=>?_;refine⟨oc,od,QP,_,e2▸sK e1,k1,k2,Mx k3,(Nd _).mp k4,(Nd _).mp k5,of_decide_eq_true k6,λ i hi=>of_decide_eq_true (mA k7 i hi),of_decide_eq_true k8,of_decide_eq_true k9,Mx k10,λ i hi=>Mx (mA k11 i hi),λ s vs X e=>⟨Ao (hd.heap_39 w.params) a n,λ ρ=>oX k12,kp_binds X λ S=>?_⟩⟩;have:=Hm hm (h3 w S (vs.getD 0 .none) (vs.getD 1 .none) (vs.getD 2 .none) (vs.getD 3 .none) (vs.getD 4 .none) (vs.getD 5 .none) (vs.getD 6 .none));rw[show((a,n),fd).1.2=vs.length from e.symm,FJ (by refine ac e ?_;exact of_decide_eq_true k13)] at this;rw[e] at this;exact this
noncomputable def GL(K:Ny)(p:Nat×AV):Bool:=match nsIn K O1 (nm p.1) with
 | some (L6 u)=>z7 p.2 u
 | some L9=>(match bootBuiltins (nm p.1) with
  | some u=>z7 p.2 u&&nm p.1 != "__name__"
  | none=>L8)
 | none=>L8
theorem j0{l:List (Nat×AV)}(h:∀w:MO,l.all (GL (hd.heap_39 w.params))=L7)(i:Nat)(v:AV)(e:l.lookup i=L6 v):ml i v:=λ w=>by
 have h:=mA (h w) _ (aN e);unfold GL at h;split at h
 ·next u e=>exact .inl ⟨u,e,λ ρ=>mO h⟩
 ·next e=>
  split at h
  ·next u e'=>
   refine af h λ h1 h2=>.inr ⟨e,u,e',bne_iff_ne.mp h2,λ ρ=>mO h1⟩
  ·exact ff h
 ·exact ff h
section
set_option tactic.hygienic true
noncomputable def sG(o:Option (Option Value))(g:Addr):Bool:=match o with
 | some (L6 (.ref x))=>x==g
 | _=>L8
theorem oY(h:sG o g=L7):o=L6 (L6 (.ref g)):=by
 unfold sG at h;split at h
 ·exact ac (Mx h) rfl
 ·exact ff h
noncomputable def LG(K:Ny):Option (Option Value)->Bool
 | some t=>noGet K t
 | none=>L8
noncomputable def GG(o:Option (Option Value)):Bool:=match o with
 | some (L6 (.builtin x))=>x=="object.__setattr__"
 | _=>L8
noncomputable def GE(o:Option (Option Value)):Bool:=match o with
 | some L9=>L7
 | _=>L8
noncomputable def Lf(K:Ny)(C:Addr)(a:Nat):Bool:=plainGet K C (nm a)&&(hasDictIn K C&&(LG K (Ou K (.ref C) (nm a))&&(GG (Ou K (.ref C) "__setattr__")&&(plainOver K C&&GE (takerIn K C (nm a))))))
theorem H5{K:Ny}(h:Lf K C a=L7):Iy K C a:=by
 refine af h λ h1 h=>af h λ h2 h=>af h λ h3 h=>af h λ h4 h=>af h λ h5 h6=>⟨h1,h2,?_,?_,h5,?_⟩
 ·cases e:Ou K (.ref C) (nm a) with
  | none=>rw[e] at h3;exact ff h3
  | some t=>rw[e] at h3;exact⟨t,rfl,h3⟩
 ·unfold GG at h4;split at h4
  ·next e=>exact ac e (ac (Mx h4) rfl)
  ·exact ff h4
 ·unfold GE at h6;split at h6
  ·next e=>exact e
  ·exact ff h6
theorem AJ(h:∀w:MO,(T.att.all λ p=>p.2.all λ a=>Lf (hd.heap_39 w.params) p.1 a)=L7):yB T:=λ C a hb w=>by
 unfold Mine.attB at hb;cases e:T.att.lookup C with
 | none=>rw[e] at hb;exact ff hb
 | some l=>rw[e] at hb;exact H5 (mA (mA (h w) _ (aN e)) _ (ML.mp hb))
noncomputable def JA(K:Ny)(p:(Addr×Nat)×Addr):Bool:=plainGet K p.1.1 (nm p.1.2)&&(sG (Ou K (.ref p.1.1) (nm p.1.2)) p.2&&isFn K (.ref p.2))
theorem zP(h:∀w:MO,T.met.all (JA (hd.heap_39 w.params))=L7):AS T:=λ C a g e w=>by
 refine af (mA (h w) _ (aN e)) λ h1 h2=>af h2 λ h2 h3=>⟨h1,oY h2,h3⟩
noncomputable def I0(o:Option Value):Bool:=match o with
 | some (.type x)=>x=="function"
 | _=>L8
theorem Cu(h:I0 o=L7):o=L6 (.type "function"):=by
 unfold I0 at h;split at h
 ·exact ac (Mx h) rfl
 ·exact ff h
noncomputable def D7(K:Ny)(p:Addr×Addr):Bool:=makesIn K p.1&&(sG (Ou K (.ref p.1) "__init__") p.2&&I0 (typeIn K (.ref p.2)))
theorem py{K:Ny}(h:D7 K p=L7):Iv K p.1 p.2:=by
 refine af h λ h1 h2=>af h2 λ h2 h3=>⟨h1,oY h2,Cu h3⟩
theorem As{l:List (Addr×Addr)}(h:∀w:MO,l.all (D7 (hd.heap_39 w.params))=L7)(C g:Addr)(e:l.lookup C=L6 g):B3 C g:=λ w=>py (mA (h w) _ (aN e))
noncomputable def Fu(K:Ny)(p:Addr×List AV):Bool:=match K.lookup p.1 with
 | some ⟨.type c,L9,.seq xs _,sl⟩=>c=="tuple"&&(sl.size==0&&sF p.2 xs.toList)
 | _=>L8
theorem yZ(h:∀w:MO,T.tup.all (Fu (hd.heap_39 w.params))=L7):fM T:=λ a r e w=>by
 have k:=mA (h w) _ (aN e);unfold Fu at k;split at k
 ·next c xs n sl e=>
  refine af k λ h1 k=>af k λ h2 h3=>?_;obtain rfl:=Mx h1;obtain rfl:sl=#[]:=Array.size_eq_zero_iff.mp (Mx h2);exact(aq xs.toList n ⟨e,λ zz=>oX h3⟩)
 ·exact ff k
theorem wH{l:List Addr}(h:∀w:MO,(l.all λ a=>OX (hd.heap_39 w.params) (.ref a))=L7)(a:Addr)(ha:a∈l)(w:MO):OX (hd.heap_39 w.params) (.ref a)=L7:=mA (h w) _ ha
theorem z6(h:∀w:MO,(T.isi.all λ a=>decide (kitOne (hd.heap_39 w.params) (.type "bytes") (.ref a)=L6 L8))=L7):ES T:=λ a ha w=>of_decide_eq_true (mA (h w) _ ha)
end
def cG{α:Type}(M:Model)(A:Nj)(c:Code)(t:Sem α)(Q:α->Mc->Prop)(E:Value->Mc->Prop)(s:Mc):Prop:=
 ∀Γ p,Γ.code=c->Γ.In A->pQ Γ->Sem.wp M Γ t (λ a zz s'=>Q a s') (λ e zz s'=>E e s') p s
section
variable{α β:Type}{M:Model}{A:Nj}{c:Code}{E:Value->Mc->Prop}{s:Mc}{env:Env}{prog:Nb}{w:MO}
theorem uN(h:OZ M A c t Q E s):cG M A c t Q E s:=λ Γ p hc Qp zz=>h Γ p hc Qp
theorem ia{st:Stmt}(h:cG M A c (Ov st env) (λ f s'=>f=.next/\aB M A (Na rest env) Q E s') E s) :
  cG M A c (Na (st::rest) env) Q E s:=λ Γ p hc Qp Qu=>by
 refine ac (execs_cons _ _ _) (ac (Pi _ _ _ _ _ _ _ _) ?_);refine Ps M Γ _ (λ f p' s' h'=>?_) (λ zz zz zz h'=>h') _ _ (h Γ p hc Qp Qu);(revert h';refine λ P3=>aD P3 λ Qc h'=>?_;clear P3;obtain rfl:=Qc);exact h' Γ p' Qp Qu
theorem fZ(h:cG M A c m (λ a s'=>aB M A (f a) Q E s') E s):cG M A c (m >>= f) Q E s:=λ Γ p hc Qp Qu=>by
 refine ac (Pi _ _ _ _ _ _ _ _)<|Sem.wp_mono M Γ _ (λ a p' s' h'=>h' Γ p' Qp Qu) (λ zz zz zz h'=>h') _ _ (h Γ p hc Qp Qu)
theorem p6(h:cG M A c t Q E s)(hQ:∀a s,Q a s->Q' a s):cG M A c t Q' E s:=
 λ Γ p hc Qp Qu=>Ps M Γ t (λ a zz s=>hQ a s) (λ zz zz zz h=>h) p s (h Γ p hc Qp Qu)
theorem lD(h:MJ M A m (λ a s'=>cG M A c (f a) Q E s') E s):cG M A c (m >>= f) Q E s:=λ Γ p hc Qp Qu=>by
 refine ac (Pi _ _ _ _ _ _ _ _)<|Sem.wp_mono M Γ _ (λ a p' s' h'=>h' Γ p' hc Qp Qu) (λ zz zz zz h'=>h') _ _ (h Γ p Qp)
theorem p7(h:cG (Mh prog w) A c (MN e env) (λ zz=>Q .next) E s)
  (hi:interactive env=L8) (hs:Py e L9 pos.line env=Nx L8):cG (Mh prog w) A c (Ov (.Expr e pos) env) Q E s:=by
 refine ac (exec_Expr env e pos hi hs)<|lD (Nf (fZ (p6 h λ v s' h'=>ah (wpAny_dropValue h'))))
theorem ib
  (h:OZ M A c (N9 o name env (MN o env)) (λ ov s₁=>MJ M A (Pz ov name pl) (λ fx P0=>aB M A (OS pos fx.1 fx.2 (Ok pos (Ni args env)) []) Q E P0) E s₁) E s)
  (he:MN (.Call (.Attribute o name apos) args [] pos) env=(do
   let ov ← N9 o name env (MN o env)
   Nv apos.atName
   let (f,first) ← Oy [ov] (Pz ov name pl)
   OS pos f first (Ok pos (Ni args env)) [])) :
  cG M A c (MN (.Call (.Attribute o name apos) args [] pos) env) Q E s:=by
 refine ac he<|fZ (uN (PySem.wpAt_mono h (λ ov s₁ h₁=>az (Nf (az (M3 (NK h₁ (λ fx P0 Qa=>?_) λ zz zz x=>x))))) λ zz zz x=>x));exact Qa
end
section
variable{prog:Nb}{w:MO}{A:Nj}{s:Mc}{R:Nt->Mc->Prop}
theorem iU(hb:ly c)
  (h:cG (Mh prog w) (A.under c) c ((Mh prog w).den c) (λ fin s'=>match fin with|.done f=>R (.ok f) s'|.again c'=>c'.quiet=L7/\aL (Mh prog w) A c' R s') (λ e s'=>R (.error e) s') s):aL (Mh prog w) A c R s:=λ Γ p hc Qp Qu=>by
 rw[wpCode_iff_wp,hc];refine Ps (Mh prog w) Γ _ (λ fin p' s' h'=>?_) (λ zz zz zz h'=>h') p s (h Γ p hc (hc▸Qp.in) ⟨by refine ac hc ?_;exact hb,Qu⟩);cases fin with
 | done f=>exact h'
 | again c'=>exact⟨h'.1,h'.2 (Γ.goto c') p' rfl (Qp.goto c') Qu⟩
theorem nC
  (h:cG (Mh prog w) (A.deeper env) (.func body env) (Na body env) (λ f s'=>R (.ok (.ret (match f with|.ret v=>v|_=>.none))) s')
   (λ e s'=>MJ (Mh prog w) (A.deeper env) (leaving env e) (λ zz s''=>R (.error e) s'') (λ e' s''=>R (.error e') s'') s') s) :
  aL (Mh prog w) A (.func body env) R s:=by
 refine iU (λ zz zz=>rfl)<|(?_:cG _ (A.deeper env) _ (do point;match ← (Na body env).onRaise (leaving env) with|.ret v=>ret v|_=>ret .none) _ _ s)
 refine lD (wpAny_point (fZ λ Γ p hc Qp Qu=>?_));refine ac (Sem.wp_onRaise _ _ _ _ _ _ _ _)<|Sem.wp_mono (Mh prog w) Γ _ (λ f p' s' h'=>by cases f<;>exact al h') (λ e p' s' h'=>h' Γ p' Qp) p _ (h Γ p hc Qp Qu)
theorem iz
  (QA:A.depth<NB) (ho:s.heap.get? a=L6 o) (hdata:o.data=.func fd) (hlim:s.heap.NoLimit) (hcd:s.heap.CodeRec fd.code fd.qualname)
  (hbody:fd.body=.stmts body) (QH:PN s fd args binds)
  (hcell:∀x∈fd.scope.names,x.2≠.cell) (QN:∀x∈binds,fd.scope.names.lookup x.1=L6 .local)
  (h:∀h₀,h₀.Ns s.heap.objs.size (λ x=>binds.reverse.lookup x)->(∀b o,s.heap.get? b=L6 o->h₀.get? b=L6 o)->
   cG (Mh prog w) (A.deeper (PJ fd s.heap.objs.size a)) (.func body (PJ fd s.heap.objs.size a)) (Na body (PJ fd s.heap.objs.size a)) (λ f s'=>R (.ok (.ret (match f with|.ret v=>v|_=>.none))) s')
    (λ e s'=>MJ (Mh prog w) (A.deeper (PJ fd s.heap.objs.size a)) (leaving (PJ fd s.heap.objs.size a) e) (λ zz s''=>R (.error e) s'') (λ e' s''=>R (.error e') s'') s')
    {s with heap:=h₀,toks:=s.toks+binds.length})
  (hco:fd.scope.isCoroutine=L8) (QO:fd.scope.isGenerator=L8) (hk:fd.scope.kind=.function) :
  aL (Mh prog w) A (.call (.ref a) args) R s:=by
 refine b5 QA ho hdata hco QO hbody hcd (QH _ _ _ _ ?_);refine Ot hcell QN (λ h₀ RJ Rm=>⟨hlim.fresh _ Rm,nC (h h₀ RJ λ b o e=>?_)⟩) hk;exact Rm.extBut b o (Mi (Mv e)) (Mb _ e)
end
section
variable{prog:Nb}{w:MO}{A₀ A:Nj}{s:Mc}{base h₀:M4}{outer:List Env}{L:Addr}{m:Str->Option Value}{env:Env}{K:Ny}{p:Nb}{loose:List Str}{mean:O8->Option Value}{mg mb:Str->Option Value}
 {R:Nt->Mc->Prop} {name qual:Str} {params:Arguments} {body:List Stmt} {scope:Scope} {dV kV doc pm Qr ct oc:Value} {an od:Option Addr} {QP:Array (Option Value)} {f cc:Addr} {args:Args}
theorem uc(Qq:List (Addr×Obj))(Rj:base.StaysIn h₀)(FF:s.heap.FunFrames base (env::outer))(hoff:∀e∈env::outer,∀b,e.frame=L6 b->b∉Qq.map (·.1))(F:Fr h₀ L s.heap m)(N:Pj h₀ L s.heap Qq)(Qk:K.In h₀)(T:Top p loose mean mg mb h₀)(hA:A.frames=L6 (env::outer))
  (ho:K.lookup f=L6 ⟨oc,od,.func (ksFn name qual params body scope dV kV doc pm an Qr ct cc),QP⟩) (hcd:codeIn K Qr qual=L7) (QA:A.depth<NB)
  (binds:List (Str×Value)) (QH:PN s (ksFn name qual params body scope dV kV doc pm an Qr ct cc) args binds) (QN:∀y∈binds,scope.names.lookup y.1=L6 .local)
  (h:∀g L' h₁,g=Oz s.heap (Qq.map (·.1))->Fr g L' h₁ (λ y=>binds.reverse.lookup y)->Pj g L' h₁ Qq->Below A base (env::outer) g->K.In g->Top p loose mean mg mb g->
   cG (Mh prog w) (A.deeper (ksEnv qual scope L' f Qr cc)) (.func body (ksEnv qual scope L' f Qr cc)) (Na body (ksEnv qual scope L' f Qr cc))
    (λ fl s'=>R (.ok (.ret (match fl with|.ret v=>v|_=>.none))) s')
    (λ e s'=>MJ (Mh prog w) (A.deeper (ksEnv qual scope L' f Qr cc)) (leaving (ksEnv qual scope L' f Qr cc) e) (λ zz s''=>R (.error e) s'') (λ e' s''=>R (.error e') s'') s')
    {s with heap:=h₁,toks:=s.toks+binds.length})
  (hco:scope.isCoroutine=L8) (QO:scope.isGenerator=L8) (hk:scope.kind=.function)
  (hcell:∀x∈scope.names,x.2≠.cell):aL (Mh prog w) A (.call (.ref f) args) R s:=by
 refine iz (fd:=ksFn name qual params body scope dV kV doc pm an Qr ct cc) (body:=body) (binds:=binds) QA ((Qk.keeps F.keep) _ _ ho) rfl (T.nolimit.keeps F.keep) (codeRec_of (Qk.keeps F.keep) hcd) rfl QH hcell QN (λ h₁ hns hk₁=>?_) hco QO hk;have nm:∀b o,h₀.get? b=L6 o->b∉Qq.map (·.1):=λ b o e q=>by
  (refine cE q λ p hp PZ=>?_;(clear q;obtain rfl:=PZ));rw[(N p hp).2.2] at e;exact dC e
 have st:h₀.StaysIn (Oz s.heap (Qq.map (·.1))):=λ b o e=>M9 _ (F.keep b o e) (nm b o e);have Q4:Below A base (env::outer) (Oz s.heap (Qq.map (·.1))):=⟨hA,λ b o e=>st b o (Rj b o e),funFrames_hideAll FF λ env' he b hb hf'=>hoff env' he b hf' hb⟩
 exact h _ s.heap.objs.size h₁ rfl ⟨hns,λ b o e=>hk₁ b o (OL _ e),Ob (PG _ _)⟩
  (λ p hp=>⟨hk₁ _ _ (N p hp).1,Mi (Mv (N p hp).1),OQ _ (Mw hp)⟩) Q4 (Qk.keeps st) (T.keeps st)
theorem mF{p:Addr}(ho:s.heap.get? p=L6 (methodObj fv self))
  (h:aL (Mh prog w) A (.call fv ⟨self::pos,kw⟩) R s):aL (Mh prog w) A (.call (.ref p) ⟨pos,kw⟩) R s:=by
 obtain⟨hh,g,dr,t,os⟩:=s;refine aV (λ zz zz=>rfl)<|(?_:aB _ _ (O6 (.ref p) _) _ _ _)
 dsimp only at ho;simp only[O6];refine az (Pc ho ?_);cases fv<;>exact al ⟨rfl,h⟩
end
noncomputable def KJ(cc:Addr)(g:FuncData)(cd:Value)(b:List Stmt):FuncData:=ksFn g.name g.qualname g.params b g.scope g.defaults g.kwdefaults g.doc g.pyModule g.annotations cd g.closureTuple cc
noncomputable def Cx.enterS(c:Cx)(A':Nj)(qual:Str)(scope:Scope)(L' f:Addr)(Qr:Value)(cc:Addr)(g:M4)(s:Mc)(E:Value->Mc->Prop):Cx:=
 {w:=c.w,prg:=c.prg,loose:=c.loose,mean:=c.mean,mg:=c.mg,mb:=c.mb,dp:=A'.depth+1,un:=A'.units+3,gd:=c.gd,cn:=qual,fs:=scope,fL:=L',cs:=scope,L:=L',a:=f,ccd:=Qr,cl:=[("__class__",cc)],vq:=qual++".<locals>.",vf:=L6 f,vc:=[("__class__",cc)],outer:=c.fenv::c.outer,
  A₀:=ktrTop A'.depth A'.units c.gd c.cn c.fs c.fL c.a c.ccd c.cl c.outer,base:=c.base,h₀:=g,s:=s,fx:=c.fx,E:=E}
theorem se{h:M4}(x:h.Ns a m)(y:h.Ns a m'):m=m':=by
 refine cJ x λ o es ep e d zz f=>cJ y λ o' es' ep' e' d' zz f'=>?_;rw[sI (e.symm.trans e'),d'] at d;(refine aD (Data.dict.inj d) λ Qc zz=>?_;obtain rfl:=Qc);exact funext λ n=>(f n).symm.trans (f' n)
noncomputable def D6(K:Ny)(a:Addr):Bool:=match K.lookup a with
 | some ⟨_,_,.fields vs,_⟩=>(match (vs[2]?:Option Value) with
  | some (.str file _)=>(Mo.prog.main.file:Str)==file
  | _=>L8)
 | _=>L8
inductive Iu(K:Ny)(a:Addr):Prop
 | mk (ccl:Value) (cdd:Option Addr) (vs:Array Value) (ccs:Array (Option Value)) (file:Str) (tf:Tok) (e:K.lookup a=L6 ⟨ccl,cdd,.fields vs,ccs⟩) (e2:vs[2]?=L6 (.str file tf)) (e3:((Mo.prog.main.file:Str)==file)=L7):Iu K a
theorem Aq{K:Ny}(h:D6 K a=L7):Iu K a:=by
 unfold D6 at h;split at h
 ·rename_i e;split at h
  ·rename_i e2;exact⟨_,_,_,_,_,_,e,e2,h⟩
  ·exact ff h
 ·exact ff h
noncomputable def D9(K:Ny)(a D:Addr):Bool:=match K.lookup a with
 | some ⟨_,_,.cell (L6 (.ref b)),_⟩=>b==D&&(clsIn K D).isSome
 | _=>L8
inductive Ix(K:Ny)(a D:Addr):Prop
 | mk (cl:Value) (cld:Option Addr) (csl:Array (Option Value)) (cdD:ClassData) (e:K.lookup a=L6 ⟨cl,cld,.cell (L6 (.ref D)),csl⟩) (e2:clsIn K D=L6 cdD):Ix K a D
theorem Aw{K:Ny}(h:D9 K a D=L7):Ix K a D:=by
 unfold D9 at h;split at h
 ·rename_i e;refine af h λ h1 h2=>lW h2 λ cd hc=>?_;rw[Mx h1] at e;exact⟨_,_,_,cd,e,hc⟩
 ·exact ff h
noncomputable def bf:FS:=⟨[143,99,125,126],434,[lZ 99 296 25 31,lZ 125 296 33 44],[.aat (lZ 143 297 8 12) 126 (pZ 297 8 19) (lZ 126 297 22 28) (pZ 297 8 28),.aat (lZ 143 298 8 12) 98 (pZ 298 8 21) (.lst [] (pZ 298 24 26)) (pZ 298 8 26),.aat (lZ 143 299 8 12) 127 (pZ 299 8 20) (.non 0 (pZ 299 23 27)) (pZ 299 8 27),.aat (lZ 143 300 8 12) 155 (pZ 300 8 18) (.int 0 0 (pZ 300 21 22)) (pZ 300 8 22),.aat (lZ 143 301 8 12) 169 (pZ 301 8 23) (.int 0 0 (pZ 301 26 27)) (pZ 301 8 27),.aat (lZ 143 302 8 12) 170 (pZ 302 8 19) (.lst [] (pZ 302 22 24)) (pZ 302 8 24),.aat (lZ 143 303 8 12) 171 (pZ 303 8 21) (.lst [] (pZ 303 24 26)) (pZ 303 8 26)],(pZ 296 8 13),(pZ 296 8 15),(pZ 296 8 24),(pZ 296 8 45),(pZ 296 8 45)⟩
noncomputable def eY(w:MO):FuncData:=pd (hd.heap_39 w.params) 492
theorem GS(w:MO):(t7 (hd.heap_39 w.params) 492).map (·.2.2.2)=L6 (KJ 480 (eY w) (.ref 491) (xh bf::ba bf.body)):=by kernel_rfl
theorem D8(w:MO):(gk (eY w).scope bf.args&&(bz (eY w).scope bf.body&&((eY w).scope.names.all (λ x=>x.2 != .cell)&&bf.ps.all (λ i=>(eY w).scope.names.lookup (nm i)==L6 .local))))=L7:=by kernel_rfl
theorem Hn(w:MO)(S:Setting)(a b c d:Value):peek (hd.heap_39 w.params) S (Ph (KJ 480 (eY w) (.ref 491) (xh bf::ba bf.body)) ⟨[a,b,c,d],[]⟩)=L6 ((bf.ps.map nm).zip [a,b,c,d]):=by kernel_rfl
theorem GJ(env:Env):MN (.Call (.Attribute (.Call (.Name "super" bf.p0) [] [] bf.p1) "__init__" bf.p2) (bZ bf.args) [] bf.p3) env=(do
   let ov ← N9 (.Call (.Name "super" bf.p0) [] [] bf.p1) "__init__" env (MN (.Call (.Name "super" bf.p0) [] [] bf.p1) env)
   Nv bf.p2.atName
   let (f,first) ← Oy [ov] (Pz ov "__init__" (do return (← importBound (.Call (.Name "super" bf.p0) [] [] bf.p1) env).getD L7))
   OS bf.p3 f first (Ok bf.p3 (Ni (bZ bf.args) env)) []):=rfl
theorem Fv(h:vs.length=3):∃a b c,vs=[a,b,c]:=by
 cases vs with
 | nil=>exact nq h rfl
 | cons a vs=>
  cases vs with
  | nil=>exact nq h rfl
  | cons b vs=>
   cases vs with
   | nil=>exact nq h rfl
   | cons c vs=>exact(aI a b c (ac (NW.mp (NF (NF (NF h)))) rfl))
section
variable{c c':Cx}{d:Nat}{ρ ρ':RR}{σ σ':St}{s s':Mc}
theorem au.inst(R:au c ρ σ s)(e:σ.obs[i]?=L6 (.ins C' f))(x:Is ρ (.obj i) (.ref xa)):∃dx od,InstAt s.heap xa (Nm C' dx) C' (L6 od):=by
 (refine rC.el (R.obj e x) λ τ a ea Qb _ _=>?_;obtain⟨dx,es,n,c0,c1,_⟩:=Qb);obtain rfl:=M5 ea;exact(aq dx _ ⟨c0.g,rfl,rfl,c1.g⟩)
end
section
variable{c c':Cx}{h h₁:M4}{τ:Addr->bo}{ρ:RR}{os:List AO}{ph:Bool}
theorem aR.ctx(w:c'.w=c.w)(fx:c'.fx=c.fx)(K:aR c h τ ρ os ph)(N:Pj c'.h₀ c'.L h₁ (own h τ)):aR c' h₁ τ ρ os ph:=by
 have Qu:∀b o k j,k≠0->Cl h τ k j b o->Cl h₁ τ k j b o:=λ b o k j hk cl=>⟨(N (b,o) (bj.mpr ⟨by refine ac cl.t ?_;exact hk,cl.g⟩)).1,cl.t⟩
 refine⟨λ b q=>?_,K.Y,K.sz,λ i o e=>?_,λ b o z=>Qu b o 1 0 Od (K.Z b o z),λ b o k z=>Qu b o 1 _ Od (K.X b o k (fx▸z)),λ b r z=>(K.B b r z).imp (λ b o j=>Qu b o 2 j (ND _)) Fz.Le.refl⟩
 ·refine lW ((K.N b q).g) λ o g=>cg (N (b,o) (bj.mpr ⟨q,g⟩)) λ h1 h2 h3=>⟨by refine ac h1 ?_;rfl,h2,h3⟩
 ·refine ag (K.O i o e) λ a e1 y=>⟨a,e1,w▸fx▸y.imp (λ b o j=>Qu b o _ j (ND _)) RR.Le.refl λ zz zz h=>h⟩
end
structure KA(w:MO):Prop where
 kd:(eY w).scope.kind=.function
 co:(eY w).scope.isCoroutine=L8
 ge:(eY w).scope.isGenerator=L8
 cd:codeIn (hd.heap_39 w.params) (.ref 491) (eY w).qualname=L7
 n1:(eY w).scope.names.lookup ("super":Str)=L6 .globalImplicit
 n2:(eY w).scope.names.lookup ("__class__":Str)=L6 .free
 ar:((eY w).params.posonlyargs++(eY w).params.args).head?.map (·.arg)=L6 (nm 143)
 q6:mroIn (hd.heap_39 w.params) 572 (.ref 572)=L6 L7
 q7:nsIn (hd.heap_39 w.params) O1 "super"=L6 L9
 q8:nsIn (hd.heap_39 w.params) cStatics "thirdparty.any"=L6 L9
 q9:ks_superIn (hd.heap_39 w.params) 572 572 "__init__"=L6 (L6 (.ref 434))
 q10:typeIn (hd.heap_39 w.params) (.ref 434)=L6 (.type "function")
 q11:fnIn (hd.heap_39 w.params) 434=L7
 cb:D6 (hd.heap_39 w.params) 491=L7
 ce:D9 (hd.heap_39 w.params) 480 572=L7
 cl:D7 (hd.heap_39 w.params) (572,492)=L7
theorem J3(w:MO):KA w:=⟨by kernel_rfl,by kernel_rfl,by kernel_rfl,by kernel_rfl,by kernel_rfl,by kernel_rfl,by kernel_rfl,by kernel_rfl,by kernel_rfl,by kernel_rfl,by kernel_rfl,by kernel_rfl,by kernel_rfl,by kernel_rfl,by kernel_rfl,by kernel_rfl⟩
theorem FP:BY 572 3 bf:=λ c d ρ σ s us vs σ' C0 R x hn B=>by
 (refine rc (Fv hn) λ a0 b0 c0 Qb=>?_;obtain rfl:=Qb);(revert x;refine λ P3=>ao P3 λ u0 _ PZ y0 x=>?_;clear P3;obtain rfl:=PZ);(revert x;refine λ P3=>ao P3 λ u1 _ PZ y1 x=>?_;clear P3;obtain rfl:=PZ);(revert x;refine λ P3=>ao P3 λ u2 us' PZ y2 x=>?_;clear P3;obtain rfl:=PZ);obtain rfl:us'=[]:=x;have sz:=R.size;obtain⟨hk,hco,hge,hcd,n1,n2,har,q6,q7,q8,q9,q10,q11,hcb,hce,Qu⟩:=J3 c.w;obtain⟨m1,m2,m3⟩:=py Qu;(refine aF (GS c.w) λ Qc e1 e2=>?_;obtain⟨oc,od,QP,g⟩:=Qc);have e3:=sK e1;obtain rfl:g=_:=e2;refine af (D8 c.w) λ kA k=>af k λ kB k=>af k λ kC kD=>?_;have loc:∀i∈bf.ps,(eY c.w).scope.names.lookup (nm i)=L6 .local:=λ i hi=>Mx (mA kD i hi);have ncl:∀x∈(eY c.w).scope.names,x.2≠.cell:=λ x hx=>bne_iff_ne.mp (mA kC x hx);have nd:bf.ps.Nodup:=by decide
 have hbi:=Hn c.w;clear Qu;generalize eY c.w=g0 at *;obtain⟨hh,gg,dd,tt,oo⟩:=s;refine bB (jN (makes_of (R.X C0) m1) (OP (R.X C0) m2) (λ self=>bind_fn (R.X C0) self m3) rfl ?_);have R₁:=R.make C0 572;have le:ρ.Le (ρ.psh (hh.objs.size+1)):=RR.Le.psh;have hobj:Is (ρ.psh (hh.objs.size+1)) (.obj σ.obs.length) (.ref (hh.objs.size+1)):=⟨_,rfl,by refine bP sz ?_;exact cD⟩
 have xs:IsL (ρ.psh (hh.objs.size+1)) [.obj σ.obs.length,a0,b0,c0] [.ref (hh.objs.size+1),u0,u1,u2]:=(ay.k hobj (ay.k (y0.mono le) (ay.k (y1.mono le) (ay.k (y2.mono le) rfl))))
 have ln:(ρ.psh (hh.objs.size+1)).ad.length=σ.obs.length+1:=by refine(?_:(ρ.ad++[_]).length=_);refine ac Mf (ac sz ?_);rfl
 generalize ρ.psh (hh.objs.size+1)=PY at R₁ le hobj xs ln;have hX:=R₁.X C0;(refine au.el R₁ λ m τ F L K r=>?_;clear R₁);refine uc (A:=c.A.under (.builtin "type.__call__" ⟨[.ref 572,u0,u1,u2],[]⟩)) _ C0.B (C0.FF _ _ F) (C0.off _ _ (dM K.N)) F (dM K.N) C0.X C0.T rfl e3 hcd (by have:=C0.hd;refine(?_:c.dp+1<_);omega) ((bf.ps.map nm).zip [.ref (hh.objs.size+1),u0,u1,u2])
  (kp_binds hX λ S=>hbi S _ _ _ _) (λ y hy=>?_) (λ g L' h₁ hg F' N' B' X' T'=>?_) hco hge hk ncl
 ·refine cE ((List.of_mem_zip hy).1) λ j hj e=>bP e<|loc j hj
 refine(λ(h:∀E',E'=_->cG _ _ _ _ _ E' _)=>h _ rfl) λ E' hE'=>?_;have nocls:∀y,g0.scope.names.lookup y=L6 .local->[(("__class__":Str),(480:Addr))].lookup y=L9:=λ y hy=>by
  refine ac MI ?_;cases q:y==("__class__":Str) with
  | true=>rw[Mx q,n2] at hy;exact nomatch hy
  | false=>rfl
 have C':aQ (c.enterS (c.A.under (.builtin "type.__call__" ⟨[.ref 572,u0,u1,u2],[]⟩)) g0.qualname g0.scope L' 492 (.ref 491) 480 g ⟨(hh.push emptyDict).push (Nm 572 hh.objs.size),gg,dd,tt,oo⟩ E') (d+1):=⟨B'.stays,λ h m F=>(Below.ff B' rfl hk).1 h m F,λ h nw N=>(Below.ff B' rfl hk).2 h nw N,X',T',hk,by have:=C0.hd;refine(?_:c.dp+1+1+(d+1)<_);omega,by have:=C0.hu;refine(?_:c.un+1+3+(10*(d+1)+100)<_);omega,hE'▸Ol,nocls,λ y hy=>absurd rfl (ncl _ (aN hy))⟩
 have EN:iZ c (c.enterS (c.A.under (.builtin "type.__call__" ⟨[.ref 572,u0,u1,u2],[]⟩)) g0.qualname g0.scope L' 492 (.ref 491) 480 g ⟨(hh.push emptyDict).push (Nm 572 hh.objs.size),gg,dd,tt,oo⟩ E') PY {σ with obs:=σ.obs++[.ins 572 []] } ⟨(hh.push emptyDict).push (Nm 572 hh.objs.size),gg,dd,tt,oo⟩:=⟨m,τ,F,L,K.N,hg,r,rfl,rfl⟩
 obtain⟨avs,σ₁,Qs,ka,kb,kc⟩:=B _ C' kA kB;have loc':∀i a,(bf.ps.zip [.obj σ.obs.length,a0,b0,c0]).lookup i=L6 a->∃v,((bf.ps.map nm).zip [.ref (hh.objs.size+1),u0,u1,u2]).reverse.lookup (nm i)=L6 v/\[(("__class__":Str),(480:Addr))].lookup (nm i)=L9/\Is PY a v:=λ i a e=>by
  have bl:=iA (i:=i) nd rfl xs;rw[e] at bl;refine nA bl λ hp v hv y=>⟨v,hv,nocls _ (loc i hp),y⟩
 have R':au (c.enterS (c.A.under (.builtin "type.__call__" ⟨[.ref 572,u0,u1,u2],[]⟩)) g0.qualname g0.scope L' 492 (.ref 491) 480 g ⟨(hh.push emptyDict).push (Nm 572 hh.objs.size),gg,dd,tt,oo⟩ E') PY ⟨bf.ps.zip [.obj σ.obs.length,a0,b0,c0],σ.obs++[.ins 572 []],σ.ph⟩ ⟨h₁,gg,dd,tt+((bf.ps.map nm).zip [.ref (hh.objs.size+1),u0,u1,u2]).length,oo⟩:=
  ⟨_,τ,F',λ i a e=>by
   refine cC (loc' i a e) λ v hv hn y=>⟨v,(fa hn).trans hv,y⟩,aR.ctx (c:=c) rfl rfl K N',⟨rfl,rfl,rfl⟩⟩
 (refine cC (loc' 143 _ rfl) λ v0 hv0 PZ y0'=>?_;clear PZ);(refine ag y0' λ x0 P2 ex0=>?_;clear y0';obtain rfl:=P2);refine ag hobj λ x1 ex1 ex1'=>?_;obtain rfl:x0=hh.objs.size+1:=sI (ex0.symm.trans (ex1'.trans (congrArg L6 (M5 ex1).symm)));refine bW (R'.inst (i:=σ.obs.length) cD ⟨_,rfl,ex0⟩) λ dx odx I=>lA.el R'.led λ m2 nw F2 N2 k k'=>?_;have hm2:=(congrFun (se F2.ns F'.ns) (nm 143)).trans hv0;refine aF har λ ar har hself=>?_;obtain⟨ccl,cdd,vs2,ccs,file,tf,q1,q2,q3⟩:=Aq hcb;obtain⟨cl,cld,csl,cdD,q4,q5⟩:=Aw hce;refine ia (p7 (ib (pl:=_) ?_ (GJ _)) (di C') rfl);refine ks_node F2 X' N2 T' e3 har (by refine ac hself ?_;exact hm2) I q1 q2 q3 q4 q5 q6 q7 rfl n1 n2 (by refine ac hself ?_;exact loc 143 (.head _)) hk rfl rfl λ so h2 F3 N3 l3=>?_;have R2:=k' h2 (tt+((bf.ps.map nm).zip [.ref (hh.objs.size+1),u0,u1,u2]).length) so _ F3 N3 l3;refine bW (R2.inst (i:=σ.obs.length) cD ⟨_,rfl,ex0⟩) λ dx2 od2 I2=>ks_method F3 X' N3 (.head _) I2 q8 q9 q10 rfl λ q h3 F4 N4 l4=>?_;have R3:=k' h3 (tt+((bf.ps.map nm).zip [.ref (hh.objs.size+1),u0,u1,u2]).length+1) q _ F4 (λ p hp=>(mC hp).elim (λ e=>N4 p (e▸.head _)) λ hp=>N4 p (.tail _ (.tail _ hp))) λ p hp=>l4 p (.tail _ hp);refine dY (cu bf.args).1 (ka _ _ R3) λ us' s' z=>?_;(refine PL.el z λ Qt le4 R4 xs4=>?_;clear z);have hq4:=R4.cel (le4.z.c _ _ (.inr ⟨rfl,rfl⟩));refine⟨keeps_M (K:=c.K) q11 _ ⟨hq4,R4.X C'⟩,bB (mF hq4 (dk (kb Qt s' (.ref (hh.objs.size+1)::us') R4 (ay.k ⟨_,rfl,le4.a _ _ ex0⟩ xs4)) λ r s'' hr=>?_))⟩;cases r with
 | error e=>exact hr
 | ok fl=>
  cases fl with
  | ret v=>
   refine ag hr λ Qy e5 R5=>⟨rfl,aK (kc Qy s'' R5) λ fl s₆ z=>?_⟩
   (revert z;refine λ P3=>FE.el P3 λ RV e6 R6 z=>?_;clear P3);obtain rfl:fl=.next:=z;refine⟨rfl,?_⟩;refine PE.el (PE.back (a:=.non) (v:=.none) EN (((RR.Le.ice.trans le4).trans e5).trans e6) R6 rfl) λ RQ e7 R7 _=>?_;rw[ln] at R7;exact⟨RQ,le.trans e7,R7,⟨_,rfl,e7.a _ _ ex0⟩⟩
  | _=>exact hr.elim
noncomputable def Kk:List S:=[.aat (lZ 143 29 8 12) 144 (pZ 29 8 20) (lZ 144 29 23 30) (pZ 29 8 30),.aat (lZ 143 30 8 12) 145 (pZ 30 8 17) (.int 0 0 (pZ 30 20 21)) (pZ 30 8 21),.aat (lZ 143 31 8 12) 113 (pZ 31 8 17) (.int 0 0 (pZ 31 20 21)) (pZ 31 8 21),.aat (lZ 143 32 8 12) 146 (pZ 32 8 16) (.int 128 0 (pZ 32 19 22)) (pZ 32 8 22),.aat (lZ 143 33 8 12) 147 (pZ 33 8 17) (.int 191 0 (pZ 33 20 23)) (pZ 33 8 23)]
noncomputable def Kj:List S:=[.iff (.not (.att (lZ 143 36 15 19) 144 (pZ 36 15 27)) (pZ 36 11 27)) [.ret (.call (gZ 205 37 19 23) [lZ 99 37 24 30] (pZ 37 19 31)) (pZ 37 12 31)] [] ⟨36,8,37,31⟩,.asg 122 (pZ 38 8 13) (.lst [] (pZ 38 16 18)) (pZ 38 8 18),.fr (.one 112 (pZ 39 12 17)) (lZ 99 39 21 27) [.iff (.and [(.cmp .Gt (.att (lZ 143 40 15 19) 145 (pZ 40 15 24)) (.int 0 0 (pZ 40 27 28)) (pZ 40 15 28)),(.cmq .LtE .LtE (.att (lZ 143 40 33 37) 146 (pZ 40 33 41)) (lZ 112 40 45 50) (.att (lZ 143 40 54 58) 147 (pZ 40 54 63)) (pZ 40 33 63))] (pZ 40 15 63)) [.ex (.meth (lZ 143 41 16 20) 58 (pZ 41 16 26) [(lZ 112 41 27 32),(lZ 122 41 34 39)] (pZ 41 16 40)) (pZ 41 16 40)] [.iff (.cmp .Gt (.att (lZ 143 43 19 23) 145 (pZ 43 19 28)) (.int 0 0 (pZ 43 31 32)) (pZ 43 19 32)) [.ex (.meth (lZ 122 44 20 25) 199 (pZ 44 20 32) [gZ 52 44 33 41] (pZ 44 20 42)) (pZ 44 20 42)] [] ⟨43,16,44,42⟩,.ex (.meth (lZ 143 45 16 20) 57 (pZ 45 16 26) [(lZ 112 45 27 32),(lZ 122 45 34 39)] (pZ 45 16 40)) (pZ 45 16 40)] ⟨40,12,45,40⟩] ⟨39,8,45,40⟩,.ret (lZ 122 46 15 20) (pZ 46 8 20)]
noncomputable def H4:List S:=[.aat (lZ 143 49 8 12) 145 (pZ 49 8 17) (.int 0 0 (pZ 49 20 21)) (pZ 49 8 21),.asg 148 (pZ 50 8 12) (.call (gZ 4 50 15 24) [lZ 112 50 25 30] (pZ 50 15 31)) (pZ 50 8 31),.iff (.cmp .IsNot (lZ 148 51 11 15) (.non 0 (pZ 51 23 27)) (pZ 51 11 27)) [.tpl [.att (lZ 143 52 12 16) 145 (pZ 52 12 21),.att (lZ 143 52 23 27) 113 (pZ 52 23 32),.att (lZ 143 52 34 38) 146 (pZ 52 34 42),.att (lZ 143 52 44 48) 147 (pZ 52 44 53)] 0 (pZ 52 12 53) (lZ 148 52 56 60) (pZ 52 12 60)] [.ex (.meth (lZ 122 54 12 17) 199 (pZ 54 12 24) [(.ife (.cmp .Lt (lZ 112 54 34 39) (gZ 53 54 42 52) (pZ 54 34 52)) (lZ 112 54 25 30) (gZ 52 54 58 66) (pZ 54 25 66))] (pZ 54 12 67)) (pZ 54 12 67)] ⟨51,8,54,67⟩]
noncomputable def Kl:List S:=[.iff (.cmq .LtE .LtE (.int 194 0 (pZ 19 7 10)) (lZ 112 19 14 19) (.int 223 0 (pZ 19 23 26)) (pZ 19 7 26)) [.ret (.tup [(.int 1 0 (pZ 20 16 17)),(.bin .BitAnd (lZ 112 20 19 24) (.int 31 0 (pZ 20 27 29)) (pZ 20 19 29)),(.int 128 0 (pZ 20 31 34)),(.int 191 0 (pZ 20 36 39))] 0 (pZ 20 15 40)) (pZ 20 8 40)] [] ⟨19,4,20,40⟩,.iff (.cmq .LtE .LtE (.int 224 0 (pZ 21 7 10)) (lZ 112 21 14 19) (.int 239 0 (pZ 21 23 26)) (pZ 21 7 26)) [.ret (.tup [(.int 2 0 (pZ 22 16 17)),(.bin .BitAnd (lZ 112 22 19 24) (.int 15 0 (pZ 22 27 29)) (pZ 22 19 29)),(.ife (.cmp .Eq (lZ 112 22 38 43) (.int 224 0 (pZ 22 47 50)) (pZ 22 38 50)) (.int 160 0 (pZ 22 31 34)) (.int 128 0 (pZ 22 56 59)) (pZ 22 31 59)),(.ife (.cmp .Eq (lZ 112 22 68 73) (.int 237 0 (pZ 22 77 80)) (pZ 22 68 80)) (.int 159 0 (pZ 22 61 64)) (.int 191 0 (pZ 22 86 89)) (pZ 22 61 89))] 0 (pZ 22 15 90)) (pZ 22 8 90)] [] ⟨21,4,22,90⟩,.iff (.cmq .LtE .LtE (.int 240 0 (pZ 23 7 10)) (lZ 112 23 14 19) (.int 244 0 (pZ 23 23 26)) (pZ 23 7 26)) [.ret (.tup [(.int 3 0 (pZ 24 16 17)),(.bin .BitAnd (lZ 112 24 19 24) (.int 7 0 (pZ 24 27 28)) (pZ 24 19 28)),(.ife (.cmp .Eq (lZ 112 24 37 42) (.int 240 0 (pZ 24 46 49)) (pZ 24 37 49)) (.int 144 0 (pZ 24 30 33)) (.int 128 0 (pZ 24 55 58)) (pZ 24 30 58)),(.ife (.cmp .Eq (lZ 112 24 67 72) (.int 244 0 (pZ 24 76 79)) (pZ 24 67 79)) (.int 143 0 (pZ 24 60 63)) (.int 191 0 (pZ 24 85 88)) (pZ 24 60 88))] 0 (pZ 24 15 89)) (pZ 24 8 89)] [] ⟨23,4,24,89⟩,.ret (.non 0 (pZ 25 11 15)) (pZ 25 4 15)]
noncomputable def H3:List S:=[.ret (.and [(.cmq .LtE .LtE (.int 0 0 (pZ 77 11 12)) (lZ 113 77 16 20) (gZ 55 77 24 33) (pZ 77 11 33)),(.not (.cmq .LtE .LtE (.int 55296 0 (pZ 77 43 48)) (lZ 113 77 52 56) (.int 57343 0 (pZ 77 60 65)) (pZ 77 43 65)) (pZ 77 39 65))] (pZ 77 11 66)) (pZ 77 4 66)]
noncomputable def H2:List S:=[.iff (.not (.call (gZ 6 79 11 18) [lZ 113 79 19 23] (pZ 79 11 24)) (pZ 79 7 24)) [.asg 113 (pZ 80 8 12) (gZ 52 80 15 23) (pZ 80 8 23)] [] ⟨79,4,80,23⟩,.iff (.cmp .Lt (lZ 113 81 7 11) (.int 128 0 (pZ 81 14 17)) (pZ 81 7 17)) [.ret (.call (gZ 150 82 15 20) [(.lst [lZ 113 82 22 26] (pZ 82 21 27))] (pZ 82 15 28)) (pZ 82 8 28)] [] ⟨81,4,82,28⟩,.iff (.cmp .Lt (lZ 113 83 7 11) (.int 2048 0 (pZ 83 14 18)) (pZ 83 7 18)) [.ret (.call (gZ 150 84 15 20) [(.lst [(.bin .BitOr (.int 192 0 (pZ 84 22 25)) (.bin .RShift (lZ 113 84 28 32) (.int 6 0 (pZ 84 36 37)) (pZ 84 28 37)) (pZ 84 22 37)),(.bin .BitOr (gZ 53 84 39 49) (.bin .BitAnd (lZ 113 84 52 56) (gZ 54 84 59 68) (pZ 84 52 68)) (pZ 84 39 68))] (pZ 84 21 69))] (pZ 84 15 70)) (pZ 84 8 70)] [] ⟨83,4,84,70⟩,.asg 114 (pZ 85 4 8) (.lst [(.bin .BitOr (gZ 53 85 12 22) (.bin .BitAnd (.bin .RShift (lZ 113 85 25 29) (.int 6 0 (pZ 85 33 34)) (pZ 85 25 34)) (gZ 54 85 37 46) (pZ 85 25 46)) (pZ 85 12 46)),(.bin .BitOr (gZ 53 85 48 58) (.bin .BitAnd (lZ 113 85 61 65) (gZ 54 85 68 77) (pZ 85 61 77)) (pZ 85 48 77))] (pZ 85 11 78)) (pZ 85 4 78),.iff (.cmp .Lt (lZ 113 86 7 11) (.int 65536 0 (pZ 86 14 19)) (pZ 86 7 19)) [.ret (.call (gZ 150 87 15 20) [(.bin .Add (.lst [(.bin .BitOr (.int 224 0 (pZ 87 22 25)) (.bin .RShift (lZ 113 87 28 32) (.int 12 0 (pZ 87 36 38)) (pZ 87 28 38)) (pZ 87 22 38))] (pZ 87 21 39)) (lZ 114 87 42 46) (pZ 87 21 46))] (pZ 87 15 47)) (pZ 87 8 47)] [] ⟨86,4,87,47⟩,.ret (.call (gZ 150 88 11 16) [(.bin .Add (.lst [(.bin .BitOr (.int 240 0 (pZ 88 18 21)) (.bin .RShift (lZ 113 88 24 28) (.int 18 0 (pZ 88 32 34)) (pZ 88 24 34)) (pZ 88 18 34)),(.bin .BitOr (gZ 53 88 36 46) (.bin .BitAnd (.bin .RShift (lZ 113 88 49 53) (.int 12 0 (pZ 88 57 59)) (pZ 88 49 59)) (gZ 54 88 62 71) (pZ 88 49 71)) (pZ 88 36 71))] (pZ 88 17 72)) (lZ 114 88 75 79) (pZ 88 17 79))] (pZ 88 11 80)) (pZ 88 4 80)]
noncomputable def BS:List S:=[.aat (lZ 143 103 8 12) 115 (pZ 103 8 17) (lZ 115 103 20 24) (pZ 103 8 24),.aat (lZ 143 104 8 12) 113 (pZ 104 8 17) (lZ 113 104 20 24) (pZ 104 8 24),.aat (lZ 143 105 8 12) 116 (pZ 105 8 17) (lZ 116 105 20 24) (pZ 105 8 24),.aat (lZ 143 106 8 12) 117 (pZ 106 8 18) (lZ 117 106 21 26) (pZ 106 8 26)]
noncomputable def H1:List S:=[.ret (.cmq .LtE .LtE (.int 65 0 (pZ 114 11 13)) (lZ 113 114 17 21) (.int 90 0 (pZ 114 25 27)) (pZ 114 11 27)) (pZ 114 4 27)]
noncomputable def H0:List S:=[.ret (.cmq .LtE .LtE (.int 97 0 (pZ 116 11 13)) (lZ 113 116 17 21) (.int 122 0 (pZ 116 25 28)) (pZ 116 11 28)) (pZ 116 4 28)]
noncomputable def HZ:List S:=[.iff (.and [(.cmp .Eq (lZ 115 118 7 11) (.byt [] 0 (pZ 118 15 18)) (pZ 118 7 18)),(.cmp .NotEq (.bin .BitAnd (lZ 116 118 23 27) (gZ 65 118 30 37) (pZ 118 23 37)) (.int 0 0 (pZ 118 41 42)) (pZ 118 23 42)),(.call (gZ 9 118 47 61) [lZ 113 118 62 66] (pZ 118 47 67))] (pZ 118 7 67)) [.asg 113 (pZ 119 8 12) (.bin .Add (lZ 113 119 15 19) (.int 32 0 (pZ 119 22 24)) (pZ 119 15 24)) (pZ 119 8 24)] [.iff (.and [(.cmp .Eq (lZ 115 120 9 13) (.byt [] 0 (pZ 120 17 20)) (pZ 120 9 20)),(.cmp .Eq (.bin .BitAnd (lZ 116 120 25 29) (gZ 65 120 32 39) (pZ 120 25 39)) (.int 0 0 (pZ 120 43 44)) (pZ 120 25 44)),(.cmp .NotEq (.bin .BitAnd (lZ 116 120 50 54) (gZ 63 120 57 62) (pZ 120 50 62)) (.int 0 0 (pZ 120 66 67)) (pZ 120 50 67))] (pZ 120 9 68)) [.iff (.call (gZ 10 121 11 23) [lZ 113 121 24 28] (pZ 121 11 29)) [.tsw [(113,(pZ 122 12 16)),(116,(pZ 122 18 22))] 0 (pZ 122 12 22) [(.bin .Sub (lZ 113 122 26 30) (.int 32 0 (pZ 122 33 35)) (pZ 122 26 35)),(.bin .BitAnd (lZ 116 122 37 41) (.inv (gZ 63 122 45 50) (pZ 122 44 50)) (pZ 122 37 50))] 0 (pZ 122 25 51) (pZ 122 12 51)] [.iff (.call (gZ 9 123 13 27) [lZ 113 123 28 32] (pZ 123 13 33)) [.asg 116 (pZ 124 12 16) (.bin .BitAnd (lZ 116 124 19 23) (.inv (gZ 63 124 27 32) (pZ 124 26 32)) (pZ 124 19 32)) (pZ 124 12 32)] [] ⟨123,8,124,32⟩] ⟨121,8,124,32⟩] [] ⟨120,4,124,32⟩] ⟨118,4,124,32⟩,.ret (.call (gZ 8 125 11 14) [(lZ 115 125 15 19),(lZ 113 125 21 25),(lZ 116 125 27 31),(lZ 117 125 33 38)] (pZ 125 11 39)) (pZ 125 4 39)]
noncomputable def HY:List S:=[.ret (.call (gZ 150 127 11 16) [(.lc (.ife (.call (gZ 9 127 32 46) [lZ 112 127 47 52] (pZ 127 32 53)) (.bin .Add (lZ 112 127 18 23) (.int 32 0 (pZ 127 26 28)) (pZ 127 18 28)) (lZ 112 127 59 64) (pZ 127 18 64)) (.one 112 (pZ 127 69 74)) (lZ 99 127 78 84) L9 [(112,.local),(9,.globalImplicit)] [] (pZ 127 17 85))] (pZ 127 11 86)) (pZ 127 4 86)]
noncomputable def HX:List S:=[.asg 109 (pZ 129 4 8) (.bin .Add (.bin .Add (gZ 68 129 11 22) (gZ 69 129 25 36) (pZ 129 11 36)) (gZ 70 129 39 48) (pZ 129 11 48)) (pZ 129 4 48),.ret (.bin .Add (.bin .Add (.lc (.sub (lZ 192 130 12 15) (.int 0 0 (pZ 130 16 17)) (pZ 130 12 18)) (.one 192 (pZ 130 23 26)) (lZ 109 130 30 34) L9 [(192,.local)] [] (pZ 130 11 35)) (.lc (.sub (lZ 192 130 39 42) (.int 0 0 (pZ 130 43 44)) (pZ 130 39 45)) (.one 192 (pZ 130 50 53)) (gZ 71 130 57 64) L9 [(192,.local)] [] (pZ 130 38 65)) (pZ 130 11 65)) (.lst [(.byt [83,112,97,99,101] 0 (pZ 130 69 77))] (pZ 130 68 78)) (pZ 130 11 78)) (pZ 130 4 78)]
noncomputable def HW:List S:=[.asg 118 (pZ 132 4 9) (.call (gZ 12 132 12 21) [lZ 99 132 22 28] (pZ 132 12 29)) (pZ 132 4 29),.fr (.mul [(152,(pZ 133 8 13)),(115,(pZ 133 15 19))] 0 (pZ 133 8 19)) (gZ 72 133 23 34) [.iff (.cmp .Eq (lZ 152 134 11 16) (lZ 118 134 20 25) (pZ 134 11 25)) [.ret (lZ 115 135 19 23) (pZ 135 12 23)] [] ⟨134,8,135,23⟩] ⟨133,4,135,23⟩,.fr (.one 115 (pZ 136 8 12)) (.call (gZ 13 136 16 25) [] (pZ 136 16 27)) [.iff (.cmp .Eq (.call (gZ 12 137 11 20) [lZ 115 137 21 25] (pZ 137 11 26)) (lZ 118 137 30 35) (pZ 137 11 35)) [.ret (lZ 115 138 19 23) (pZ 138 12 23)] [] ⟨137,8,138,23⟩] ⟨136,4,138,23⟩,.ret (.non 0 (pZ 139 11 15)) (pZ 139 4 15)]
noncomputable def HV:List S:=[.asg 119 (pZ 141 4 9) (.meth (.call (gZ 5 141 12 22) [] (pZ 141 12 24)) 56 (pZ 141 12 29) [lZ 99 141 30 36] (pZ 141 12 37)) (pZ 141 4 37),.iff (.or [(.cmp .NotEq (.call (gZ 201 142 7 10) [lZ 119 142 11 16] (pZ 142 7 17)) (.int 1 0 (pZ 142 21 22)) (pZ 142 7 22)),(.cmp .Lt (.sub (lZ 119 142 26 31) (.int 0 0 (pZ 142 32 33)) (pZ 142 26 34)) (.int 32 0 (pZ 142 37 39)) (pZ 142 26 39)),(.cmq .LtE .Lt (.int 127 0 (pZ 142 43 46)) (.sub (lZ 119 142 50 55) (.int 0 0 (pZ 142 56 57)) (pZ 142 50 58)) (.int 160 0 (pZ 142 61 64)) (pZ 142 43 64)),(.cmp .NotEq (.call (gZ 7 142 69 80) [(.sub (lZ 119 142 81 86) (.int 0 0 (pZ 142 87 88)) (pZ 142 81 89))] (pZ 142 69 90)) (lZ 99 142 94 100) (pZ 142 69 100))] (pZ 142 7 101)) [.ret (.non 0 (pZ 143 15 19)) (pZ 143 8 19)] [] ⟨142,4,143,19⟩,.ret (.sub (lZ 119 144 11 16) (.int 0 0 (pZ 144 17 18)) (pZ 144 11 19)) (pZ 144 4 19)]
noncomputable def HU:List S:=[.asg 116 (pZ 146 4 8) (.int 0 0 (pZ 146 11 12)) (pZ 146 4 12),.asg 120 (pZ 147 4 12) (.boo L7 0 (pZ 147 15 19)) (pZ 147 4 19),.whl (lZ 120 148 10 18) [.asg 120 (pZ 149 8 16) (.boo L8 0 (pZ 149 19 24)) (pZ 149 8 24),.iff (.and [(.cmp .Gt (.call (gZ 201 150 11 14) [lZ 99 150 15 21] (pZ 150 11 22)) (.int 1 0 (pZ 150 25 26)) (pZ 150 11 26)),(.cmp .Eq (.sl (lZ 99 150 31 37) L9 (L6 (.int 1 0 (pZ 150 39 40))) (pZ 150 38 40) (pZ 150 31 41)) (.byt [94] 0 (pZ 150 45 49)) (pZ 150 31 49))] (pZ 150 11 49)) [.tsw [(116,(pZ 151 12 16)),(99,(pZ 151 18 24)),(120,(pZ 151 26 34))] 0 (pZ 151 12 34) [(.bin .BitOr (lZ 116 151 38 42) (gZ 65 151 45 52) (pZ 151 38 52)),(.sl (lZ 99 151 54 60) (L6 (.int 1 0 (pZ 151 61 62))) L9 (pZ 151 61 63) (pZ 151 54 64)),(.boo L7 0 (pZ 151 66 70))] 0 (pZ 151 37 71) (pZ 151 12 71)] [.iff (.and [(.cmp .Gt (.call (gZ 201 152 13 16) [lZ 99 152 17 23] (pZ 152 13 24)) (.int 2 0 (pZ 152 27 28)) (pZ 152 13 28)),(.cmp .Eq (.sl (lZ 99 152 33 39) (L6 (.int 1 0 (pZ 152 40 41))) (L6 (.int 2 0 (pZ 152 42 43))) (pZ 152 40 43) (pZ 152 33 44)) (.byt [45] 0 (pZ 152 48 52)) (pZ 152 33 52))] (pZ 152 13 52)) [.fr (.mul [(153,(pZ 153 16 20)),(154,(pZ 153 22 25))] 0 (pZ 153 16 25)) (gZ 66 153 29 42) [.iff (.or [(.cmp .Eq (.sub (lZ 99 154 19 25) (.int 0 0 (pZ 154 26 27)) (pZ 154 19 28)) (lZ 153 154 32 36) (pZ 154 19 36)),(.cmp .Eq (.sub (lZ 99 154 40 46) (.int 0 0 (pZ 154 47 48)) (pZ 154 40 49)) (.bin .Add (lZ 153 154 53 57) (.int 32 0 (pZ 154 60 62)) (pZ 154 53 62)) (pZ 154 40 62))] (pZ 154 19 62)) [.tsw [(116,(pZ 155 20 24)),(120,(pZ 155 26 34))] 0 (pZ 155 20 34) [(.bin .BitOr (lZ 116 155 38 42) (lZ 154 155 45 48) (pZ 155 38 48)),(.boo L7 0 (pZ 155 50 54))] 0 (pZ 155 37 55) (pZ 155 20 55)] [] ⟨154,16,155,55⟩] ⟨153,12,155,55⟩,.iff (lZ 120 156 15 23) [.asg 99 (pZ 157 16 22) (.sl (lZ 99 157 25 31) (L6 (.int 2 0 (pZ 157 32 33))) L9 (pZ 157 32 34) (pZ 157 25 35)) (pZ 157 16 35)] [] ⟨156,12,157,35⟩] [] ⟨152,8,157,35⟩] ⟨150,8,157,35⟩] ⟨148,4,157,35⟩,.ret (.tup [(lZ 116 158 12 16),(lZ 99 158 18 24)] 0 (pZ 158 11 25)) (pZ 158 4 25)]
noncomputable def iP:List S:=[.tpl [.nam 116 (pZ 160 4 8),.nam 59 (pZ 160 10 14)] 0 (pZ 160 4 14) (.call (gZ 16 160 17 26) [lZ 99 160 27 33] (pZ 160 17 34)) (pZ 160 4 34),.asg 113 (pZ 161 4 8) (.call (gZ 15 161 11 23) [lZ 59 161 24 28] (pZ 161 11 29)) (pZ 161 4 29),.iff (.cmp .IsNot (lZ 113 162 7 11) (.non 0 (pZ 162 19 23)) (pZ 162 7 23)) [.ret (.call (gZ 11 163 15 26) [(.byt [] 0 (pZ 163 27 30)),(lZ 113 163 32 36),(lZ 116 163 38 42)] (pZ 163 15 43)) (pZ 163 8 43)] [] ⟨162,4,163,43⟩,.iff (.cmp .Eq (.call (gZ 12 164 7 16) [lZ 59 164 17 21] (pZ 164 7 22)) (.byt [98,116,97,98] 0 (pZ 164 26 33)) (pZ 164 7 33)) [.ret (.call (gZ 8 165 15 18) [(.byt [84,97,98] 0 (pZ 165 19 25)),(.int 0 0 (pZ 165 27 28)),(.bin .BitOr (lZ 116 165 30 34) (gZ 63 165 37 42) (pZ 165 30 42))] (pZ 165 15 43)) (pZ 165 8 43)] [] ⟨164,4,165,43⟩,.asg 115 (pZ 166 4 8) (.call (gZ 14 166 11 20) [lZ 59 166 21 25] (pZ 166 11 26)) (pZ 166 4 26),.iff (.cmp .Is (lZ 115 167 7 11) (.non 0 (pZ 167 15 19)) (pZ 167 7 19)) [.rai (.call (gZ 3 168 14 20) [lZ 99 168 21 27] (pZ 168 14 28)) (pZ 168 8 28)] [] ⟨167,4,168,28⟩,.ret (.ife (.cmp .Eq (lZ 115 169 41 45) (.byt [83,112,97,99,101] 0 (pZ 169 49 57)) (pZ 169 41 57)) (.call (gZ 11 169 11 22) [(.byt [] 0 (pZ 169 23 26)),(.int 32 0 (pZ 169 28 30)),(lZ 116 169 32 36)] (pZ 169 11 37)) (.call (gZ 8 169 63 66) [(lZ 115 169 67 71),(.int 0 0 (pZ 169 73 74)),(lZ 116 169 76 80)] (pZ 169 63 81)) (pZ 169 11 81)) (pZ 169 4 81)]
noncomputable def HT:List S:=[.asg 122 (pZ 171 4 9) (.byt [] 0 (pZ 171 12 15)) (pZ 171 4 15),.fr (.mul [(153,(pZ 172 8 12)),(154,(pZ 172 14 17))] 0 (pZ 172 8 17)) (gZ 66 172 21 34) [.iff (.cmp .NotEq (.bin .BitAnd (.att (lZ 121 173 11 14) 116 (pZ 173 11 19)) (lZ 154 173 22 25) (pZ 173 11 25)) (.int 0 0 (pZ 173 29 30)) (pZ 173 11 30)) [.asg 122 (pZ 174 12 17) (.bin .Add (.bin .Add (lZ 122 174 20 25) (.call (gZ 150 174 28 33) [(.lst [lZ 153 174 35 39] (pZ 174 34 40))] (pZ 174 28 41)) (pZ 174 20 41)) (.byt [45] 0 (pZ 174 44 48)) (pZ 174 20 48)) (pZ 174 12 48)] [] ⟨173,8,174,48⟩] ⟨172,4,174,48⟩,.iff (.cmp .NotEq (.att (lZ 121 175 7 10) 115 (pZ 175 7 15)) (.byt [] 0 (pZ 175 19 22)) (pZ 175 7 22)) [.ret (.bin .Add (lZ 122 176 15 20) (.att (lZ 121 176 23 26) 115 (pZ 176 23 31)) (pZ 176 15 31)) (pZ 176 8 31)] [] ⟨175,4,176,31⟩,.ret (.bin .Add (lZ 122 177 11 16) (.ife (.cmp .Eq (.att (lZ 121 177 32 35) 113 (pZ 177 32 40)) (.int 32 0 (pZ 177 44 46)) (pZ 177 32 46)) (.byt [83,112,97,99,101] 0 (pZ 177 20 28)) (.call (gZ 7 177 52 63) [(.att (lZ 121 177 64 67) 113 (pZ 177 64 72))] (pZ 177 52 73)) (pZ 177 20 73)) (pZ 177 11 74)) (pZ 177 4 74)]
noncomputable def BQ:List S:=[.ret (.ife (.cmp .Eq (lZ 99 445 22 28) (gZ 96 445 32 39) (pZ 445 22 39)) (gZ 96 445 11 18) (.call (gZ 18 445 45 53) [(.call (gZ 17 445 54 62) [lZ 99 445 63 69] (pZ 445 54 70))] (pZ 445 45 71)) (pZ 445 11 71)) (pZ 445 4 71)]
noncomputable def HR:List S:=[.iff (.or [(.cmq .LtE .LtE (.int 65 0 (pZ 207 7 9)) (lZ 112 207 13 18) (.int 90 0 (pZ 207 22 24)) (pZ 207 7 24)),(.cmq .LtE .LtE (.int 97 0 (pZ 207 28 30)) (lZ 112 207 34 39) (.int 122 0 (pZ 207 43 46)) (pZ 207 28 46)),(.cmp .Eq (lZ 112 207 50 55) (.int 95 0 (pZ 207 59 61)) (pZ 207 50 61))] (pZ 207 7 61)) [.ret (.boo L7 0 (pZ 208 15 19)) (pZ 208 8 19)] [] ⟨207,4,208,19⟩,.ret (.and [(.not (lZ 123 209 15 23) (pZ 209 11 23)),(.cmq .LtE .LtE (.int 48 0 (pZ 209 28 30)) (lZ 112 209 34 39) (.int 57 0 (pZ 209 43 45)) (pZ 209 28 45))] (pZ 209 11 45)) (pZ 209 4 45)]
noncomputable def HI:List S:=[.iff (.or [(.cmp .Eq (lZ 80 409 7 11) (.byt [] 0 (pZ 409 15 18)) (pZ 409 7 18)),(.cmp .In (.sub (lZ 80 409 22 26) (.int 0 0 (pZ 409 27 28)) (pZ 409 22 29)) (.tup [(.int 37 0 (pZ 409 34 36)),(.int 126 0 (pZ 409 38 41))] 0 (pZ 409 33 42)) (pZ 409 22 42))] (pZ 409 7 42)) [.ret (.boo L8 0 (pZ 410 15 20)) (pZ 410 8 20)] [] ⟨409,4,410,20⟩,.fr (.one 112 (pZ 411 8 13)) (lZ 80 411 17 21) [.asg 174 (pZ 412 8 16) (.or [(.call (gZ 22 412 19 39) [(lZ 112 412 40 45),(.boo L8 0 (pZ 412 47 52))] (pZ 412 19 53)),(.cmp .In (lZ 112 412 57 62) (gZ 78 412 66 79) (pZ 412 57 79))] (pZ 412 19 79)) (pZ 412 8 79),.iff (.not (lZ 174 413 15 23) (pZ 413 11 23)) [.ret (.boo L8 0 (pZ 414 19 24)) (pZ 414 12 24)] [] ⟨413,8,414,24⟩] ⟨411,4,414,24⟩,.ret (.boo L7 0 (pZ 415 11 15)) (pZ 415 4 15)]
noncomputable def HH:List S:=[.iff (.call (gZ 28 417 7 22) [lZ 80 417 23 27] (pZ 417 7 28)) [.ret (lZ 80 418 15 19) (pZ 418 8 19)] [] ⟨417,4,418,19⟩,.asg 122 (pZ 419 4 9) (.call (gZ 175 419 12 21) [(.byt [34] 0 (pZ 419 22 26))] (pZ 419 12 27)) (pZ 419 4 27),.fr (.one 112 (pZ 420 8 13)) (lZ 80 420 17 21) [.iff (.cmp .In (lZ 112 421 11 16) (.tup [(.int 34 0 (pZ 421 21 23)),(.int 36 0 (pZ 421 25 27)),(.int 92 0 (pZ 421 29 31))] 0 (pZ 421 20 32)) (pZ 421 11 32)) [.ex (.meth (lZ 122 422 12 17) 197 (pZ 422 12 24) [(.call (gZ 150 422 25 30) [(.lst [(.int 92 0 (pZ 422 32 34)),(lZ 112 422 36 41)] (pZ 422 31 42))] (pZ 422 25 43))] (pZ 422 12 44)) (pZ 422 12 44)] [.iff (.or [(.cmp .Lt (lZ 112 423 13 18) (.int 32 0 (pZ 423 21 23)) (pZ 423 13 23)),(.cmp .Eq (lZ 112 423 27 32) (.int 127 0 (pZ 423 36 39)) (pZ 423 27 39))] (pZ 423 13 39)) [.ex (.meth (lZ 122 424 12 17) 197 (pZ 424 12 24) [(.call (gZ 150 424 25 30) [(.lst [(.int 92 0 (pZ 424 32 34)),(.bin .Add (.int 48 0 (pZ 424 36 38)) (.bin .FloorDiv (lZ 112 424 41 46) (.int 64 0 (pZ 424 50 52)) (pZ 424 41 52)) (pZ 424 36 52)),(.bin .Add (.int 48 0 (pZ 424 54 56)) (.bin .Mod (.bin .FloorDiv (lZ 112 424 59 64) (.int 8 0 (pZ 424 68 69)) (pZ 424 59 69)) (.int 8 0 (pZ 424 72 73)) (pZ 424 59 73)) (pZ 424 54 73)),(.bin .Add (.int 48 0 (pZ 424 75 77)) (.bin .Mod (lZ 112 424 80 85) (.int 8 0 (pZ 424 88 89)) (pZ 424 80 89)) (pZ 424 75 89))] (pZ 424 31 90))] (pZ 424 25 91))] (pZ 424 12 92)) (pZ 424 12 92)] [.ex (.meth (lZ 122 426 12 17) 199 (pZ 426 12 24) [lZ 112 426 25 30] (pZ 426 12 31)) (pZ 426 12 31)] ⟨423,8,426,31⟩] ⟨421,8,426,31⟩] ⟨420,4,426,31⟩,.ret (.bin .Add (.call (gZ 150 427 11 16) [lZ 122 427 17 22] (pZ 427 11 23)) (.byt [34] 0 (pZ 427 26 30)) (pZ 427 11 30)) (pZ 427 4 30)]
noncomputable def HG:List S:=[.iff (.call (gZ 176 429 7 17) [(lZ 80 429 18 22),(gZ 20 429 24 36)] (pZ 429 7 37)) [.ret (.bin .Add (.bin .Add (.byt [123,32] 0 (pZ 430 15 20)) (.call (gZ 32 430 23 38) [(.att (lZ 80 430 39 43) 98 (pZ 430 39 52))] (pZ 430 23 53)) (pZ 430 15 53)) (.byt [32,125] 0 (pZ 430 56 61)) (pZ 430 15 61)) (pZ 430 8 61)] [] ⟨429,4,430,61⟩,.ret (.call (gZ 29 431 11 25) [lZ 80 431 26 30] (pZ 431 11 31)) (pZ 431 4 31)]
noncomputable def HF:List S:=[.ret (.meth (.byt [32] 0 (pZ 433 11 15)) 177 (pZ 433 11 20) [(.lc (.call (gZ 30 433 22 41) [lZ 80 433 42 46] (pZ 433 22 47)) (.one 80 (pZ 433 52 56)) (.att (lZ 127 433 60 67) 156 (pZ 433 60 73)) L9 [(80,.local),(30,.globalImplicit)] [] (pZ 433 21 74))] (pZ 433 11 75)) (pZ 433 4 75)]
noncomputable def HS:List S:=[.aat (lZ 143 186 8 12) 155 (pZ 186 8 18) (lZ 155 186 21 26) (pZ 186 8 26),.aat (lZ 143 187 8 12) 156 (pZ 187 8 18) (lZ 156 187 21 26) (pZ 187 8 26),.aat (lZ 143 188 8 12) 157 (pZ 188 8 19) (lZ 157 188 22 28) (pZ 188 8 28)]
noncomputable def HQ:List S:=[.aat (lZ 143 220 8 12) 99 (pZ 220 8 19) (lZ 99 220 22 28) (pZ 220 8 28),.aat (lZ 143 221 8 12) 125 (pZ 221 8 24) (lZ 125 221 27 38) (pZ 221 8 38),.aat (lZ 143 222 8 12) 165 (pZ 222 8 15) (.int 0 0 (pZ 222 18 19)) (pZ 222 8 19)]
noncomputable def HJ:List S:=[.ret (.meth (.call (gZ 26 407 11 24) [(lZ 99 407 25 31),(.ife (.cmp .IsNot (lZ 125 407 48 59) (.non 0 (pZ 407 67 71)) (pZ 407 48 71)) (lZ 125 407 33 44) (.dct (pZ 407 77 79)) (pZ 407 33 79)),(lZ 126 407 81 87)] (pZ 407 11 88)) 85 (pZ 407 11 93) [] (pZ 407 11 95)) (pZ 407 4 95)]
noncomputable def HE:List S:=[.asg 122 (pZ 435 4 9) (.lst [] (pZ 435 12 14)) (pZ 435 4 14),.fen [(136,(pZ 436 8 14)),(127,(pZ 436 16 23))] 0 (pZ 436 8 23) 178 (lZ 98 436 37 45) (pZ 436 27 36) (pZ 436 27 46) [.iff (.cmp .Gt (lZ 136 437 11 17) (.int 0 0 (pZ 437 20 21)) (pZ 437 11 21)) [.ex (.meth (lZ 122 438 12 17) 199 (pZ 438 12 24) [(.ife (.cmp .Eq (.att (lZ 127 438 35 42) 155 (pZ 438 35 48)) (.att (.sub (lZ 98 438 52 60) (.bin .Sub (lZ 136 438 61 67) (.int 1 0 (pZ 438 70 71)) (pZ 438 61 71)) (pZ 438 52 72)) 155 (pZ 438 52 78)) (pZ 438 35 78)) (.byt [32,59,32] 0 (pZ 438 25 31)) (.byt [10] 0 (pZ 438 84 89)) (pZ 438 25 89))] (pZ 438 12 90)) (pZ 438 12 90)] [] ⟨437,8,438,90⟩,.ex (.meth (lZ 122 439 8 13) 199 (pZ 439 8 20) [(.call (gZ 31 439 21 35) [lZ 127 439 36 43] (pZ 439 21 44))] (pZ 439 8 45)) (pZ 439 8 45)] ⟨436,4,439,45⟩,.ret (.meth (.byt [] 0 (pZ 440 11 14)) 177 (pZ 440 11 19) [lZ 122 440 20 25] (pZ 440 11 26)) (pZ 440 4 26)]
noncomputable def BP:List S:=[.iff (.call (gZ 176 456 11 21) [(.att (lZ 143 456 22 26) 74 (pZ 456 22 31)),(gZ 150 456 33 38)] (pZ 456 11 39)) [.aat (lZ 143 457 12 16) 74 (pZ 457 12 21) (.call (gZ 27 457 24 37) [(.att (lZ 143 457 38 42) 74 (pZ 457 38 47))] (pZ 457 24 48)) (pZ 457 12 48)] [] ⟨456,8,457,48⟩,.ret (.att (lZ 143 458 15 19) 74 (pZ 458 15 24)) (pZ 458 8 24)]
noncomputable def HP:List S:=[.tsw [(57,(pZ 225 8 13)),(122,(pZ 225 15 20)),(196,(pZ 225 22 29))] 0 (pZ 225 8 29) [(.att (lZ 143 225 33 37) 165 (pZ 225 33 40)),(.call (gZ 175 225 42 51) [] (pZ 225 42 53)),(.boo L7 0 (pZ 225 55 59))] 0 (pZ 225 32 60) (pZ 225 8 60),.whl (.and [(.cmp .Lt (.att (lZ 143 226 14 18) 165 (pZ 226 14 21)) (.call (gZ 201 226 24 27) [(.att (lZ 143 226 28 32) 99 (pZ 226 28 39))] (pZ 226 24 40)) (pZ 226 14 40)),(.cmp .NotIn (.sub (.att (lZ 143 226 45 49) 99 (pZ 226 45 56)) (.att (lZ 143 226 57 61) 165 (pZ 226 57 64)) (pZ 226 45 65)) (gZ 76 226 73 85) (pZ 226 45 85))] (pZ 226 14 85)) [.asg 112 (pZ 227 12 17) (.sub (.att (lZ 143 227 20 24) 99 (pZ 227 20 31)) (.att (lZ 143 227 32 36) 165 (pZ 227 32 39)) (pZ 227 20 40)) (pZ 227 12 40),.iff (.cmp .Eq (lZ 112 228 15 20) (.int 39 0 (pZ 228 24 26)) (pZ 228 15 26)) [.ex (.meth (lZ 143 229 16 20) 81 (pZ 229 16 32) [lZ 122 229 33 38] (pZ 229 16 39)) (pZ 229 16 39)] [.iff (.cmp .Eq (lZ 112 230 17 22) (.int 34 0 (pZ 230 26 28)) (pZ 230 17 28)) [.ex (.meth (lZ 143 231 16 20) 82 (pZ 231 16 32) [lZ 122 231 33 38] (pZ 231 16 39)) (pZ 231 16 39)] [.iff (.cmp .Eq (lZ 112 232 17 22) (.int 92 0 (pZ 232 26 28)) (pZ 232 17 28)) [.ex (.meth (lZ 143 233 16 20) 83 (pZ 233 16 32) [lZ 122 233 33 38] (pZ 233 16 39)) (pZ 233 16 39)] [.iff (.cmp .Eq (lZ 112 234 17 22) (.int 36 0 (pZ 234 26 28)) (pZ 234 17 28)) [.ex (.meth (lZ 143 235 16 20) 84 (pZ 235 16 34) [lZ 122 235 35 40] (pZ 235 16 41)) (pZ 235 16 41)] [.iff (.and [(.cmp .Eq (lZ 112 236 17 22) (.int 126 0 (pZ 236 26 29)) (pZ 236 17 29)),(.cmp .Eq (.att (lZ 143 236 34 38) 165 (pZ 236 34 41)) (lZ 57 236 45 50) (pZ 236 34 50))] (pZ 236 17 50)) [.ex (.meth (lZ 122 237 16 21) 197 (pZ 237 16 28) [(.meth (.att (lZ 143 237 29 33) 125 (pZ 237 29 45)) 164 (pZ 237 29 49) [(.byt [72,79,77,69] 0 (pZ 237 50 57)),(.byt [] 0 (pZ 237 59 62))] (pZ 237 29 63))] (pZ 237 16 64)) (pZ 237 16 64),.aat (lZ 143 238 16 20) 165 (pZ 238 16 23) (.bin .Add (.att (lZ 143 238 26 30) 165 (pZ 238 26 33)) (.int 1 0 (pZ 238 36 37)) (pZ 238 26 37)) (pZ 238 16 37)] [.ex (.meth (lZ 122 240 16 21) 199 (pZ 240 16 28) [lZ 112 240 29 34] (pZ 240 16 35)) (pZ 240 16 35),.aat (lZ 143 241 16 20) 165 (pZ 241 16 23) (.bin .Add (.att (lZ 143 241 26 30) 165 (pZ 241 26 33)) (.int 1 0 (pZ 241 36 37)) (pZ 241 26 37)) (pZ 241 16 37),.cnt (pZ 242 16 24)] ⟨236,12,242,24⟩] ⟨234,12,242,24⟩] ⟨232,12,242,24⟩] ⟨230,12,242,24⟩] ⟨228,12,242,24⟩,.asg 196 (pZ 243 12 19) (.boo L8 0 (pZ 243 22 27)) (pZ 243 12 27)] ⟨226,8,243,27⟩,.ret (.tup [(.call (gZ 150 244 16 21) [lZ 122 244 22 27] (pZ 244 16 28)),(lZ 196 244 30 37)] 0 (pZ 244 15 38)) (pZ 244 8 38)]
noncomputable def HO:List S:=[.whl (.cmp .Lt (.att (lZ 143 306 14 18) 165 (pZ 306 14 21)) (.call (gZ 201 306 24 27) [(.att (lZ 143 306 28 32) 99 (pZ 306 28 39))] (pZ 306 24 40)) (pZ 306 14 40)) [.asg 112 (pZ 307 12 17) (.sub (.att (lZ 143 307 20 24) 99 (pZ 307 20 31)) (.att (lZ 143 307 32 36) 165 (pZ 307 32 39)) (pZ 307 20 40)) (pZ 307 12 40),.iff (.cmp .Eq (lZ 112 308 15 20) (.int 123 0 (pZ 308 24 27)) (pZ 308 15 27)) [.ex (.meth (lZ 143 309 16 20) 92 (pZ 309 16 31) [] (pZ 309 16 33)) (pZ 309 16 33)] [.iff (.cmp .Eq (lZ 112 310 17 22) (.int 125 0 (pZ 310 26 29)) (pZ 310 17 29)) [.ex (.meth (lZ 143 311 16 20) 93 (pZ 311 16 32) [] (pZ 311 16 34)) (pZ 311 16 34)] [.iff (.cmp .Eq (lZ 112 312 17 22) (.int 35 0 (pZ 312 26 28)) (pZ 312 17 28)) [.asg 166 (pZ 313 16 19) (.meth (.att (lZ 143 313 22 26) 99 (pZ 313 22 33)) 106 (pZ 313 22 38) [(.byt [10] 0 (pZ 313 39 44)),(.att (lZ 143 313 46 50) 165 (pZ 313 46 53))] (pZ 313 22 54)) (pZ 313 16 54),.aat (lZ 143 314 16 20) 165 (pZ 314 16 23) (.ife (.cmp .GtE (lZ 166 314 33 36) (.int 0 0 (pZ 314 40 41)) (pZ 314 33 41)) (lZ 166 314 26 29) (.call (gZ 201 314 47 50) [(.att (lZ 143 314 51 55) 99 (pZ 314 51 62))] (pZ 314 47 63)) (pZ 314 26 63)) (pZ 314 16 63)] [.iff (.and [(.cmp .Eq (lZ 112 315 17 22) (.int 92 0 (pZ 315 26 28)) (pZ 315 17 28)),(.cmp .Eq (.sl (.att (lZ 143 315 33 37) 99 (pZ 315 33 44)) (L6 (.bin .Add (.att (lZ 143 315 45 49) 165 (pZ 315 45 52)) (.int 1 0 (pZ 315 55 56)) (pZ 315 45 56))) (L6 (.bin .Add (.att (lZ 143 315 57 61) 165 (pZ 315 57 64)) (.int 2 0 (pZ 315 67 68)) (pZ 315 57 68))) (pZ 315 45 68) (pZ 315 33 69)) (.byt [10] 0 (pZ 315 73 78)) (pZ 315 33 78))] (pZ 315 17 78)) [.aat (lZ 143 316 16 20) 165 (pZ 316 16 23) (.bin .Add (.att (lZ 143 316 26 30) 165 (pZ 316 26 33)) (.int 2 0 (pZ 316 36 37)) (pZ 316 26 37)) (pZ 316 16 37)] [.iff (.cmp .In (lZ 112 317 17 22) (gZ 76 317 26 38) (pZ 317 17 38)) [.ex (.meth (lZ 143 318 16 20) 86 (pZ 318 16 28) [lZ 112 318 29 34] (pZ 318 16 35)) (pZ 318 16 35)] [.ex (.meth (lZ 143 320 16 20) 90 (pZ 320 16 30) [] (pZ 320 16 32)) (pZ 320 16 32)] ⟨317,12,320,32⟩] ⟨315,12,320,32⟩] ⟨312,12,320,32⟩] ⟨310,12,320,32⟩] ⟨308,12,320,32⟩] ⟨306,8,320,32⟩,.ex (.meth (lZ 143 321 8 12) 89 (pZ 321 8 24) [] (pZ 321 8 26)) (pZ 321 8 26),.iff (.cmp .NotEq (.att (lZ 143 322 11 15) 170 (pZ 322 11 22)) (.lst [] (pZ 322 26 28)) (pZ 322 11 28)) [.rai (.call (gZ 2 323 18 28) [(.sub (.sub (.att (lZ 143 323 29 33) 170 (pZ 323 29 40)) (.neg (.int 1 0 (pZ 323 42 43)) (pZ 323 41 43)) (pZ 323 29 44)) (.int 3 0 (pZ 323 45 46)) (pZ 323 29 47))] (pZ 323 18 48)) (pZ 323 12 48)] [] ⟨322,8,323,48⟩,.iff (.cmp .NotEq (.att (lZ 143 324 11 15) 171 (pZ 324 11 24)) (.lst [] (pZ 324 28 30)) (pZ 324 11 30)) [.rai (.call (gZ 2 325 18 28) [(.att (.sub (.att (lZ 143 325 29 33) 171 (pZ 325 29 42)) (.neg (.int 1 0 (pZ 325 44 45)) (pZ 325 43 45)) (pZ 325 29 46)) 158 (pZ 325 29 52))] (pZ 325 18 53)) (pZ 325 12 53)] [] ⟨324,8,325,53⟩,.ret (.att (lZ 143 326 15 19) 98 (pZ 326 15 28)) (pZ 326 8 28)]
noncomputable def HN:List S:=[.ret (.or [(.cmp .Eq (.att (lZ 143 340 15 19) 171 (pZ 340 15 28)) (.lst [] (pZ 340 32 34)) (pZ 340 15 34)),(.att (.sub (.att (lZ 143 340 38 42) 171 (pZ 340 38 51)) (.neg (.int 1 0 (pZ 340 53 54)) (pZ 340 52 54)) (pZ 340 38 55)) 88 (pZ 340 38 63))] (pZ 340 15 63)) (pZ 340 8 63)]
noncomputable def HM:List S:=[.iff (.and [(.cmp .IsNot (.att (lZ 143 343 11 15) 127 (pZ 343 11 23)) (.non 0 (pZ 343 31 35)) (pZ 343 11 35)),(.meth (lZ 143 343 40 44) 88 (pZ 343 40 52) [] (pZ 343 40 54))] (pZ 343 11 54)) [.ex (.meth (.att (lZ 143 344 12 16) 98 (pZ 344 12 25)) 199 (pZ 344 12 32) [(.att (lZ 143 344 33 37) 127 (pZ 344 33 45))] (pZ 344 12 46)) (pZ 344 12 46)] [] ⟨343,8,344,46⟩,.aat (lZ 143 345 8 12) 127 (pZ 345 8 20) (.non 0 (pZ 345 23 27)) (pZ 345 8 27)]
noncomputable def HL:List S:=[.asg 158 (pZ 348 8 13) (.att (lZ 143 348 16 20) 165 (pZ 348 16 23)) (pZ 348 8 23),.tpl [.nam 80 (pZ 349 8 12),.nam 196 (pZ 349 14 21)] 0 (pZ 349 8 21) (.meth (lZ 143 349 24 28) 80 (pZ 349 24 33) [] (pZ 349 24 35)) (pZ 349 8 35),.iff (.and [(lZ 196 350 11 18),(.cmp .In (lZ 80 350 23 27) (gZ 77 350 31 49) (pZ 350 23 49))] (pZ 350 11 49)) [.ex (.meth (lZ 143 351 12 16) 89 (pZ 351 12 28) [] (pZ 351 12 30)) (pZ 351 12 30),.ex (.meth (lZ 143 352 12 16) 95 (pZ 352 12 31) [(lZ 80 352 32 36),(lZ 158 352 38 43)] (pZ 352 12 44)) (pZ 352 12 44)] [.ex (.meth (lZ 143 354 12 16) 91 (pZ 354 12 25) [(lZ 80 354 26 30),(lZ 158 354 32 37)] (pZ 354 12 38)) (pZ 354 12 38)] ⟨350,8,354,38⟩]
noncomputable def HK:List S:=[.iff (.cmp .Is (.att (lZ 143 357 11 15) 127 (pZ 357 11 23)) (.non 0 (pZ 357 27 31)) (pZ 357 11 31)) [.aat (lZ 143 358 12 16) 127 (pZ 358 12 24) (.call (gZ 19 358 27 34) [(.att (lZ 143 358 35 39) 155 (pZ 358 35 45)),(.lst [] (pZ 358 47 49)),(.lst [] (pZ 358 51 53))] (pZ 358 27 54)) (pZ 358 12 54)] [] ⟨357,8,358,54⟩,.ex (.meth (.att (.att (lZ 143 359 8 12) 127 (pZ 359 8 20)) 156 (pZ 359 8 26)) 199 (pZ 359 8 33) [lZ 80 359 34 38] (pZ 359 8 39)) (pZ 359 8 39),.ex (.meth (.att (.att (lZ 143 360 8 12) 127 (pZ 360 8 20)) 157 (pZ 360 8 27)) 199 (pZ 360 8 34) [lZ 158 360 35 40] (pZ 360 8 41)) (pZ 360 8 41)]
noncomputable def HD:List S:=[.aat (lZ 143 449 8 12) 121 (pZ 449 8 16) (lZ 121 449 19 22) (pZ 449 8 22),.aat (lZ 143 450 8 12) 74 (pZ 450 8 17) (lZ 98 450 20 28) (pZ 450 8 28),.aat (lZ 143 451 8 12) 179 (pZ 451 8 22) (lZ 179 451 25 34) (pZ 451 8 34),.aat (lZ 143 452 8 12) 180 (pZ 452 8 17) (lZ 180 452 20 24) (pZ 452 8 24)]
noncomputable def HC:List S:=[.asg 181 (pZ 461 8 13) (.ife (.att (lZ 143 461 26 30) 179 (pZ 461 26 40)) (.byt [32,45,114] 0 (pZ 461 16 22)) (.byt [] 0 (pZ 461 46 49)) (pZ 461 16 49)) (pZ 461 8 49),.asg 180 (pZ 462 8 12) (.ife (.cmp .NotEq (.att (lZ 143 462 54 58) 180 (pZ 462 54 63)) (.byt [] 0 (pZ 462 67 70)) (pZ 462 54 70)) (.bin .Add (.byt [32,45,78,32] 0 (pZ 462 15 22)) (.call (gZ 29 462 25 39) [(.att (lZ 143 462 40 44) 180 (pZ 462 40 49))] (pZ 462 25 50)) (pZ 462 15 50)) (.byt [] 0 (pZ 462 76 79)) (pZ 462 15 79)) (pZ 462 8 79),.asg 121 (pZ 463 8 11) (.call (gZ 29 463 14 28) [(.att (lZ 143 463 29 33) 121 (pZ 463 29 37))] (pZ 463 14 38)) (pZ 463 8 38),.asg 182 (pZ 464 8 12) (.bin .Add (.bin .Add (.bin .Add (.bin .Add (.bin .Add (.bin .Add (.byt [98,105,110,100,45,107,101,121] 0 (pZ 464 15 26)) (lZ 181 464 29 34) (pZ 464 15 34)) (lZ 180 464 37 41) (pZ 464 15 41)) (.byt [32,45,84,32] 0 (pZ 464 44 51)) (pZ 464 15 51)) (.call (gZ 29 464 54 68) [lZ 100 464 69 74] (pZ 464 54 75)) (pZ 464 15 75)) (.byt [32] 0 (pZ 464 78 82)) (pZ 464 15 82)) (lZ 121 464 85 88) (pZ 464 15 88)) (pZ 464 8 88),.ret (.bin .Add (.bin .Add (.bin .Add (lZ 182 465 15 19) (.byt [32,123,32] 0 (pZ 465 22 28)) (pZ 465 15 28)) (.call (gZ 32 465 31 46) [(.att (lZ 143 465 47 51) 98 (pZ 465 47 60))] (pZ 465 31 61)) (pZ 465 15 61)) (.byt [32,125] 0 (pZ 465 64 69)) (pZ 465 15 69)) (pZ 465 8 69)]
noncomputable def HB:List S:=[.aat (lZ 143 469 8 12) 132 (pZ 469 8 17) (.dct (pZ 469 20 22)) (pZ 469 8 22),.aat (lZ 143 470 8 12) 185 (pZ 470 8 18) (.dct (pZ 470 21 23)) (pZ 470 8 23),.aat (lZ 143 471 8 12) 183 (pZ 471 8 19) (.call (gZ 33 471 22 34) [lZ 183 471 35 41] (pZ 471 22 42)) (pZ 471 8 42),.aat (lZ 143 472 8 12) 186 (pZ 472 8 19) (.non 0 (pZ 472 22 26)) (pZ 472 8 26),.aat (lZ 143 473 8 12) 184 (pZ 473 8 19) (lZ 184 473 22 28) (pZ 473 8 28)]
noncomputable def HA:List S:=[.iff (.cmp .In (lZ 115 476 11 15) (.att (lZ 143 476 19 23) 185 (pZ 476 19 29)) (pZ 476 11 29)) [.asu (.att (lZ 143 477 12 16) 132 (pZ 477 12 21)) (lZ 115 477 22 26) (pZ 477 12 27) (.call (.meth (.att (lZ 143 477 30 34) 185 (pZ 477 30 40)) 200 (pZ 477 30 44) [lZ 115 477 45 49] (pZ 477 30 50)) [] (pZ 477 30 52)) (pZ 477 12 52)] [] ⟨476,8,477,52⟩,.ret (.meth (.att (lZ 143 478 15 19) 132 (pZ 478 15 24)) 164 (pZ 478 15 28) [(lZ 115 478 29 33),(.dct (pZ 478 35 37))] (pZ 478 15 38)) (pZ 478 8 38)]
noncomputable def BO:List S:=[.asg 80 (pZ 481 8 12) (.call (gZ 33 481 15 27) [lZ 121 481 28 31] (pZ 481 15 32)) (pZ 481 8 32),.asg 109 (pZ 482 8 12) (.meth (lZ 143 482 15 19) 100 (pZ 482 15 25) [lZ 100 482 26 31] (pZ 482 15 32)) (pZ 482 8 32),.asu (lZ 109 483 8 12) (lZ 80 483 13 17) (pZ 483 8 18) (.call (gZ 34 483 21 31) [(lZ 80 483 32 36),(lZ 98 483 38 46),(lZ 179 483 48 57),(lZ 180 483 59 63)] (pZ 483 21 64)) (pZ 483 8 64),.asu (.att (lZ 143 484 8 12) 132 (pZ 484 8 17)) (lZ 100 484 18 23) (pZ 484 8 24) (lZ 109 484 27 31) (pZ 484 8 31)]
noncomputable def BN:List S:=[.asg 80 (pZ 487 8 12) (.call (gZ 33 487 15 27) [lZ 121 487 28 31] (pZ 487 15 32)) (pZ 487 8 32),.asg 109 (pZ 488 8 12) (.meth (lZ 143 488 15 19) 100 (pZ 488 15 25) [lZ 100 488 26 31] (pZ 488 15 32)) (pZ 488 8 32),.iff (.cmp .NotIn (lZ 80 489 11 15) (lZ 109 489 23 27) (pZ 489 11 27)) [.ret (.boo L8 0 (pZ 490 19 24)) (pZ 490 12 24)] [] ⟨489,8,490,24⟩,.ex (.meth (lZ 109 491 8 12) 200 (pZ 491 8 16) [lZ 80 491 17 21] (pZ 491 8 22)) (pZ 491 8 22),.iff (.cmp .Eq (lZ 109 492 11 15) (.dct (pZ 492 19 21)) (pZ 492 11 21)) [.ex (.meth (.att (lZ 143 493 12 16) 132 (pZ 493 12 21)) 200 (pZ 493 12 25) [lZ 100 493 26 31] (pZ 493 12 32)) (pZ 493 12 32)] [] ⟨492,8,493,32⟩,.ret (.boo L7 0 (pZ 494 15 19)) (pZ 494 8 19)]
noncomputable def Hz:List S:=[.asg 187 (pZ 497 8 12) (.call (gZ 201 497 15 18) [(.meth (lZ 143 497 19 23) 100 (pZ 497 19 29) [lZ 100 497 30 35] (pZ 497 19 36))] (pZ 497 15 37)) (pZ 497 8 37),.ex (.meth (.att (lZ 143 498 8 12) 132 (pZ 498 8 17)) 200 (pZ 498 8 21) [(lZ 100 498 22 27),(.non 0 (pZ 498 29 33))] (pZ 498 8 34)) (pZ 498 8 34),.ret (lZ 187 499 15 19) (pZ 499 8 19)]
noncomputable def Hy:List S:=[.asg 80 (pZ 502 8 12) (.ife (.cmp .Is (lZ 121 502 23 26) (.non 0 (pZ 502 30 34)) (pZ 502 23 34)) (.non 0 (pZ 502 15 19)) (.call (gZ 33 502 40 52) [lZ 121 502 53 56] (pZ 502 40 57)) (pZ 502 15 57)) (pZ 502 8 57),.iff (lZ 188 503 11 20) [.aat (lZ 143 504 12 16) 186 (pZ 504 12 23) (lZ 80 504 26 30) (pZ 504 12 30)] [.aat (lZ 143 506 12 16) 183 (pZ 506 12 23) (lZ 80 506 26 30) (pZ 506 12 30)] ⟨503,8,506,30⟩]
noncomputable def x9:List S:=[.ret (.or [(.cmp .Eq (lZ 80 509 15 19) (.att (lZ 143 509 23 27) 183 (pZ 509 23 34)) (pZ 509 15 34)),(.cmp .Eq (lZ 80 509 38 42) (.att (lZ 143 509 46 50) 186 (pZ 509 46 57)) (pZ 509 38 57))] (pZ 509 15 57)) (pZ 509 8 57)]
noncomputable def Hw:List S:=[.asg 109 (pZ 512 8 12) (.meth (lZ 143 512 15 19) 100 (pZ 512 15 25) [lZ 100 512 26 31] (pZ 512 15 32)) (pZ 512 8 32),.ret (.ife (.cmp .In (lZ 80 513 29 33) (lZ 109 513 37 41) (pZ 513 29 41)) (.sub (lZ 109 513 15 19) (lZ 80 513 20 24) (pZ 513 15 25)) (.meth (lZ 109 513 47 51) 164 (pZ 513 47 55) [gZ 96 513 56 63] (pZ 513 47 64)) (pZ 513 15 64)) (pZ 513 8 64)]
noncomputable def Hv:List S:=[.ret (.meth (.meth (lZ 143 516 15 19) 100 (pZ 516 15 25) [lZ 100 516 26 31] (pZ 516 15 32)) 164 (pZ 516 15 36) [(.call (gZ 33 516 37 49) [lZ 121 516 50 53] (pZ 516 37 54))] (pZ 516 15 55)) (pZ 516 8 55)]
noncomputable def Hu:List S:=[.ret (.call (gZ 193 519 15 21) [(.bin .Add (.call (gZ 205 519 22 26) [(.att (lZ 143 519 27 31) 132 (pZ 519 27 36))] (pZ 519 22 37)) (.call (gZ 205 519 40 44) [(.att (lZ 143 519 45 49) 185 (pZ 519 45 55))] (pZ 519 40 56)) (pZ 519 22 56))] (pZ 519 15 57)) (pZ 519 8 57)]
noncomputable def td:List S:=[.asc 189 (pZ 522 8 12) (.meth (lZ 143 522 15 19) 100 (pZ 522 15 25) [lZ 100 522 26 31] (pZ 522 15 32)) (pZ 522 8 32),.ret (.lc (.sub (.cel 189 (pZ 523 16 20)) (lZ 80 523 21 25) (pZ 523 16 26)) (.one 80 (pZ 523 31 35)) (.call (gZ 193 523 39 45) [(.cel 189 (pZ 523 46 50))] (pZ 523 39 51)) L9 [(80,.local),(189,.free)] [189] (pZ 523 15 52)) (pZ 523 8 52)]
noncomputable def Hs:List S:=[.asg 122 (pZ 526 8 13) (.call (gZ 35 526 16 25) [] (pZ 526 16 27)) (pZ 526 8 27),.tpl [.att (lZ 122 527 8 13) 183 (pZ 527 8 20),.att (lZ 122 527 22 27) 186 (pZ 527 22 34),.att (lZ 122 527 36 41) 184 (pZ 527 36 48)] 0 (pZ 527 8 48) (.tup [(.att (lZ 143 527 52 56) 183 (pZ 527 52 63)),(.att (lZ 143 527 65 69) 186 (pZ 527 65 76)),(.att (lZ 143 527 78 82) 184 (pZ 527 78 89))] 0 (pZ 527 51 90)) (pZ 527 8 90),.aat (lZ 122 528 8 13) 185 (pZ 528 8 19) (.call (gZ 202 528 22 26) [(.att (lZ 143 528 27 31) 185 (pZ 528 27 37))] (pZ 528 22 38)) (pZ 528 8 38),.fr (.one 100 (pZ 529 12 17)) (.att (lZ 143 529 21 25) 132 (pZ 529 21 30)) [.asu (.att (lZ 122 530 12 17) 132 (pZ 530 12 22)) (lZ 100 530 23 28) (pZ 530 12 29) (.call (gZ 202 530 32 36) [(.sub (.att (lZ 143 530 37 41) 132 (pZ 530 37 46)) (lZ 100 530 47 52) (pZ 530 37 53))] (pZ 530 32 54)) (pZ 530 12 54)] ⟨529,8,530,54⟩,.ret (lZ 122 531 15 20) (pZ 531 8 20)]
noncomputable def mf:List S:=[.asg 122 (pZ 533 4 9) (.lst [] (pZ 533 12 14)) (pZ 533 4 14),.fr (.cel 100 (pZ 534 8 13)) (.meth (lZ 129 534 17 23) 108 (pZ 534 17 29) [] (pZ 534 17 31)) [.iff (.or [(.cmp .Is (lZ 130 535 11 15) (.non 0 (pZ 535 19 23)) (pZ 535 11 23)),(.cmp .Eq (.cel 100 (pZ 535 27 32)) (lZ 130 535 36 40) (pZ 535 27 40))] (pZ 535 11 40)) [.ex (.meth (lZ 122 536 12 17) 197 (pZ 536 12 24) [(.lc (.meth (lZ 133 536 26 33) 99 (pZ 536 26 40) [(.cel 100 (pZ 536 41 46))] (pZ 536 26 47)) (.one 133 (pZ 536 52 59)) (.meth (lZ 129 536 63 69) 109 (pZ 536 63 74) [(.cel 100 (pZ 536 75 80))] (pZ 536 63 81)) L9 [(133,.local),(100,.free)] [100] (pZ 536 25 82))] (pZ 536 12 83)) (pZ 536 12 83)] [] ⟨535,8,536,83⟩] ⟨534,4,536,83⟩,.ret (lZ 122 537 11 16) (pZ 537 4 16)]
noncomputable def kF:List S:=[.ret (.lc (.tup [(.att (lZ 133 539 13 20) 121 (pZ 539 13 24)),(.att (lZ 133 539 26 33) 180 (pZ 539 26 38))] 0 (pZ 539 12 39)) (.one 133 (pZ 539 44 51)) (.meth (lZ 129 539 55 61) 109 (pZ 539 55 66) [lZ 100 539 67 72] (pZ 539 55 73)) (L6 (.cmp .NotEq (.att (lZ 133 539 77 84) 180 (pZ 539 77 89)) (.byt [] 0 (pZ 539 93 96)) (pZ 539 77 96))) [(133,.local)] [] (pZ 539 11 97)) (pZ 539 4 97)]
noncomputable def Hr:List S:=[.ret (.lst [(.tup [(.byt [97] 0 (pZ 542 13 17)),(.byt [97] 0 (pZ 542 19 23))] 0 (pZ 542 12 24)),(.tup [(.byt [94,97] 0 (pZ 542 27 32)),(.byt [67,45,97] 0 (pZ 542 34 40))] 0 (pZ 542 26 41)),(.tup [(.byt [67,45,97] 0 (pZ 542 44 50)),(.byt [67,45,97] 0 (pZ 542 52 58))] 0 (pZ 542 43 59)),(.tup [(.byt [117,112] 0 (pZ 542 62 67)),(.byt [85,112] 0 (pZ 542 69 74))] 0 (pZ 542 61 75)),(.tup [(.byt [77,45,67,45,120] 0 (pZ 542 78 86)),(.byt [67,45,77,45,120] 0 (pZ 542 88 96))] 0 (pZ 542 77 97)),(.tup [(.byt [83,45,97] 0 (pZ 542 100 106)),(.byt [65] 0 (pZ 542 108 112))] 0 (pZ 542 99 113)),(.tup [(.byt [65,110,121] 0 (pZ 542 116 122)),(.byt [65,110,121] 0 (pZ 542 124 130))] 0 (pZ 542 115 131)),(.tup [(.byt [70,53] 0 (pZ 542 134 139)),(.byt [70,53] 0 (pZ 542 141 146))] 0 (pZ 542 133 147))] (pZ 542 11 148)) (pZ 542 4 148)]
noncomputable def Hq:List S:=[.ret (.lst [(.byt [114,111,111,116] 0 (pZ 544 12 19)),(.byt [112,114,101,102,105,120] 0 (pZ 544 21 30)),(.byt [111,119,110] 0 (pZ 544 32 38))] (pZ 544 11 39)) (pZ 544 4 39)]
noncomputable def Hp:List S:=[.ret (.lst [(.byt [110,101,119,45,119,105,110,100,111,119] 0 (pZ 546 12 25)),(.byt [110,101,120,116,45,119,105,110,100,111,119] 0 (pZ 546 27 41)),(.byt [107,105,108,108,45,112,97,110,101] 0 (pZ 546 43 55))] (pZ 546 11 56)) (pZ 546 4 56)]
noncomputable def fX:List S:=[.ret (.lc (.bin .Add (.tup [lZ 80 554 13 17] 0 (pZ 554 12 19)) (.sub (.sub (.cel 132 (pZ 554 22 26)) (.cel 100 (pZ 554 27 32)) (pZ 554 22 33)) (lZ 80 554 34 38) (pZ 554 22 39)) (pZ 554 12 39)) (.one 80 (pZ 554 44 48)) (.call (gZ 193 554 52 58) [(.sub (.cel 132 (pZ 554 59 63)) (.cel 100 (pZ 554 64 69)) (pZ 554 59 70))] (pZ 554 52 71)) L9 [(80,.local),(132,.free),(100,.free)] [132,100] (pZ 554 11 72)) (pZ 554 4 72)]
noncomputable def Ho:List S:=[.ret (.ife (.cmp .Is (lZ 133 556 19 26) (.non 0 (pZ 556 30 34)) (pZ 556 19 34)) (.non 0 (pZ 556 11 15)) (.tup [(.att (lZ 133 556 41 48) 121 (pZ 556 41 52)),(.att (lZ 133 556 54 61) 74 (pZ 556 54 66)),(.att (lZ 133 556 68 75) 179 (pZ 556 68 85)),(.att (lZ 133 556 87 94) 180 (pZ 556 87 99))] 0 (pZ 556 40 100)) (pZ 556 11 100)) (pZ 556 4 100)]
noncomputable def iO:List S:=[.asg 134 (pZ 558 4 7) (.call (gZ 42 558 10 18) [(.cel 132 (pZ 558 19 23)),(lZ 100 558 25 30)] (pZ 558 10 31)) (pZ 558 4 31),.iff (.cmp .NotEq (.lc (.call (gZ 43 559 8 17) [lZ 133 559 18 25] (pZ 559 8 26)) (.one 133 (pZ 559 31 38)) (.meth (lZ 129 559 42 48) 109 (pZ 559 42 53) [lZ 100 559 54 59] (pZ 559 42 60)) L9 [(133,.local),(43,.globalImplicit)] [] (pZ 559 7 61)) (lZ 134 559 65 68) (pZ 559 7 68)) [.ret (.boo L8 0 (pZ 560 15 20)) (pZ 560 8 20)] [] ⟨559,4,560,20⟩,.iff (.cmp .NotEq (.call (gZ 37 561 7 16) [(lZ 129 561 17 23),(lZ 100 561 25 30)] (pZ 561 7 31)) (.lc (.tup [(.sub (lZ 192 561 37 40) (.int 0 0 (pZ 561 41 42)) (pZ 561 37 43)),(.sub (lZ 192 561 45 48) (.int 3 0 (pZ 561 49 50)) (pZ 561 45 51))] 0 (pZ 561 36 52)) (.one 192 (pZ 561 57 60)) (lZ 134 561 64 67) (L6 (.cmp .NotEq (.sub (lZ 192 561 71 74) (.int 3 0 (pZ 561 75 76)) (pZ 561 71 77)) (.byt [] 0 (pZ 561 81 84)) (pZ 561 71 84))) [(192,.local)] [] (pZ 561 35 85)) (pZ 561 7 85)) [.ret (.boo L8 0 (pZ 562 15 20)) (pZ 562 8 20)] [] ⟨561,4,562,20⟩,.ret (.cmp .Eq (.meth (lZ 129 563 11 17) 108 (pZ 563 11 23) [] (pZ 563 11 25)) (.lc (lZ 115 563 30 34) (.one 115 (pZ 563 39 43)) (.call (gZ 193 563 47 53) [(.cel 132 (pZ 563 54 58))] (pZ 563 47 59)) (L6 (.cmp .NotEq (.sub (.cel 132 (pZ 563 63 67)) (lZ 115 563 68 72) (pZ 563 63 73)) (.dct (pZ 563 77 79)) (pZ 563 63 79))) [(115,.local),(132,.free)] [132] (pZ 563 29 80)) (pZ 563 11 80)) (pZ 563 4 80)]
noncomputable def eJ:List S:=[.fr (.mul [(141,(pZ 565 8 15)),(80,(pZ 565 17 21))] 0 (pZ 565 8 21)) (.call (gZ 38 565 25 34) [] (pZ 565 25 36)) [.asg 190 (pZ 566 8 11) (.ife (.cmp .In (lZ 80 566 45 49) (.sub (lZ 132 566 53 57) (lZ 100 566 58 63) (pZ 566 53 64)) (pZ 566 45 64)) (.bin .Add (.tup [lZ 80 566 15 19] 0 (pZ 566 14 21)) (.sub (.sub (lZ 132 566 24 28) (lZ 100 566 29 34) (pZ 566 24 35)) (lZ 80 566 36 40) (pZ 566 24 41)) (pZ 566 14 41)) (.non 0 (pZ 566 70 74)) (pZ 566 14 74)) (pZ 566 8 74),.asg 191 (pZ 567 8 13) (.ife (.cmp .In (.byt [65,110,121] 0 (pZ 567 51 57)) (.sub (lZ 132 567 61 65) (lZ 100 567 66 71) (pZ 567 61 72)) (pZ 567 51 72)) (.bin .Add (.tup [(.byt [65,110,121] 0 (pZ 567 17 23))] 0 (pZ 567 16 25)) (.sub (.sub (lZ 132 567 28 32) (lZ 100 567 33 38) (pZ 567 28 39)) (.byt [65,110,121] 0 (pZ 567 40 46)) (pZ 567 28 47)) (pZ 567 16 47)) (.non 0 (pZ 567 78 82)) (pZ 567 16 82)) (pZ 567 8 82),.iff (.cmp .NotEq (.call (gZ 43 568 11 20) [(.meth (lZ 129 568 21 27) 107 (pZ 568 21 33) [(lZ 100 568 34 39),(lZ 141 568 41 48)] (pZ 568 21 49))] (pZ 568 11 50)) (lZ 190 568 54 57) (pZ 568 11 57)) [.ret (.boo L8 0 (pZ 569 19 24)) (pZ 569 12 24)] [] ⟨568,8,569,24⟩,.iff (.cmp .NotEq (.call (gZ 43 570 11 20) [(.meth (lZ 129 570 21 27) 106 (pZ 570 21 32) [(lZ 100 570 33 38),(lZ 80 570 40 44)] (pZ 570 21 45))] (pZ 570 11 46)) (.ife (.cmp .Is (lZ 190 570 60 63) (.non 0 (pZ 570 67 71)) (pZ 570 60 71)) (lZ 191 570 51 56) (lZ 190 570 77 80) (pZ 570 51 80)) (pZ 570 11 81)) [.ret (.boo L8 0 (pZ 571 19 24)) (pZ 571 12 24)] [] ⟨570,8,571,24⟩] ⟨565,4,571,24⟩,.ret (.boo L7 0 (pZ 572 11 15)) (pZ 572 4 15)]
noncomputable def ch:List S:=[.tpl [.nam 100 (pZ 574 4 9),.two 141 (pZ 574 12 19) 80 (pZ 574 21 25) 0 (pZ 574 11 26)] 0 (pZ 574 4 26) (.tup [(.sub (.call (gZ 39 574 30 41) [] (pZ 574 30 43)) (.bin .Mod (.bin .FloorDiv (lZ 136 574 44 50) (.int 64 0 (pZ 574 54 56)) (pZ 574 44 56)) (.int 3 0 (pZ 574 59 60)) (pZ 574 44 60)) (pZ 574 30 61)),(.sub (.call (gZ 38 574 63 72) [] (pZ 574 63 74)) (.bin .Mod (.bin .FloorDiv (lZ 136 574 75 81) (.int 8 0 (pZ 574 85 86)) (pZ 574 75 86)) (.int 8 0 (pZ 574 89 90)) (pZ 574 75 90)) (pZ 574 63 91))] 0 (pZ 574 29 92)) (pZ 574 4 92),.asg 137 (pZ 575 4 8) (.bin .Mod (lZ 136 575 11 17) (.int 8 0 (pZ 575 20 21)) (pZ 575 11 21)) (pZ 575 4 21),.iff (.cmp .Lt (lZ 137 576 7 11) (.int 4 0 (pZ 576 14 15)) (pZ 576 7 15)) [.asg 192 (pZ 577 8 11) (.tup [(.sub (.call (gZ 40 577 15 25) [] (pZ 577 15 27)) (.bin .Mod (.bin .FloorDiv (lZ 136 577 28 34) (.int 192 0 (pZ 577 38 41)) (pZ 577 28 41)) (.int 3 0 (pZ 577 44 45)) (pZ 577 28 45)) (pZ 577 15 46)),(.cmp .Eq (.bin .Mod (.bin .FloorDiv (lZ 136 577 48 54) (.int 576 0 (pZ 577 58 61)) (pZ 577 48 61)) (.int 2 0 (pZ 577 64 65)) (pZ 577 48 65)) (.int 1 0 (pZ 577 69 70)) (pZ 577 48 70)),(.sub (.lst [(.byt [] 0 (pZ 577 73 76)),(.byt [116,111,108,100] 0 (pZ 577 78 85))] (pZ 577 72 86)) (.bin .Mod (.bin .FloorDiv (lZ 136 577 87 93) (.int 1152 0 (pZ 577 97 101)) (pZ 577 87 101)) (.int 2 0 (pZ 577 104 105)) (pZ 577 87 105)) (pZ 577 72 106))] 0 (pZ 577 14 107)) (pZ 577 8 107),.ex (.meth (.cel 129 (pZ 578 8 14)) 101 (pZ 578 8 19) [(lZ 100 578 20 25),(lZ 141 578 27 34),(.sub (lZ 192 578 36 39) (.int 0 0 (pZ 578 40 41)) (pZ 578 36 42)),(.sub (lZ 192 578 44 47) (.int 1 0 (pZ 578 48 49)) (pZ 578 44 50)),(.sub (lZ 192 578 52 55) (.int 2 0 (pZ 578 56 57)) (pZ 578 52 58))] (pZ 578 8 59)) (pZ 578 8 59),.asu (.sub (lZ 132 579 8 12) (lZ 100 579 13 18) (pZ 579 8 19)) (lZ 80 579 20 24) (pZ 579 8 25) (lZ 192 579 28 31) (pZ 579 8 31),.ret (.boo L7 0 (pZ 580 15 19)) (pZ 580 8 19)] [] ⟨576,4,580,19⟩,.iff (.cmp .Eq (lZ 137 581 7 11) (.int 4 0 (pZ 581 15 16)) (pZ 581 7 16)) [.ret (.cmp .Eq (.meth (.cel 129 (pZ 582 15 21)) 102 (pZ 582 15 28) [(lZ 100 582 29 34),(lZ 141 582 36 43)] (pZ 582 15 44)) (.cmp .IsNot (.meth (.sub (lZ 132 582 49 53) (lZ 100 582 54 59) (pZ 582 49 60)) 200 (pZ 582 49 64) [(lZ 80 582 65 69),(.non 0 (pZ 582 71 75))] (pZ 582 49 76)) (.non 0 (pZ 582 84 88)) (pZ 582 49 88)) (pZ 582 15 89)) (pZ 582 8 89)] [] ⟨581,4,582,89⟩,.iff (.cmp .Eq (lZ 137 583 7 11) (.int 5 0 (pZ 583 15 16)) (pZ 583 7 16)) [.asg 187 (pZ 584 8 12) (.call (gZ 201 584 15 18) [(.sub (lZ 132 584 19 23) (lZ 100 584 24 29) (pZ 584 19 30))] (pZ 584 15 31)) (pZ 584 8 31),.ex (.meth (.sub (lZ 132 585 8 12) (lZ 100 585 13 18) (pZ 585 8 19)) 203 (pZ 585 8 25) [] (pZ 585 8 27)) (pZ 585 8 27),.ret (.cmp .Eq (.meth (.cel 129 (pZ 586 15 21)) 103 (pZ 586 15 32) [lZ 100 586 33 38] (pZ 586 15 39)) (lZ 187 586 43 47) (pZ 586 15 47)) (pZ 586 8 47)] [] ⟨583,4,586,47⟩,.iff (.cmp .Eq (lZ 80 587 7 11) (.byt [65,110,121] 0 (pZ 587 15 21)) (pZ 587 7 21)) [.tpl [.nam 141 (pZ 588 8 15),.nam 80 (pZ 588 17 21)] 0 (pZ 588 8 21) (.sub (.call (gZ 38 588 24 33) [] (pZ 588 24 35)) (.int 0 0 (pZ 588 36 37)) (pZ 588 24 38)) (pZ 588 8 38)] [] ⟨587,4,588,38⟩,.tsw [(188,(pZ 589 4 13)),(138,(pZ 589 15 19))] 0 (pZ 589 4 19) [(.cmp .Eq (.bin .Mod (.bin .FloorDiv (lZ 136 589 23 29) (.int 576 0 (pZ 589 33 36)) (pZ 589 23 36)) (.int 2 0 (pZ 589 39 40)) (pZ 589 23 40)) (.int 1 0 (pZ 589 44 45)) (pZ 589 23 45)),(.ife (.cmp .Eq (.bin .Mod (.bin .FloorDiv (lZ 136 589 55 61) (.int 192 0 (pZ 589 65 68)) (pZ 589 55 68)) (.int 3 0 (pZ 589 71 72)) (pZ 589 55 72)) (.int 0 0 (pZ 589 76 77)) (pZ 589 55 77)) (.non 0 (pZ 589 47 51)) (lZ 80 589 83 87) (pZ 589 47 87))] 0 (pZ 589 22 88) (pZ 589 4 88),.ex (.meth (.cel 129 (pZ 590 4 10)) 104 (pZ 590 4 21) [(.ife (.cmp .Is (lZ 138 590 30 34) (.non 0 (pZ 590 38 42)) (pZ 590 30 42)) (.non 0 (pZ 590 22 26)) (lZ 141 590 48 55) (pZ 590 22 55)),(lZ 188 590 57 66)] (pZ 590 4 67)) (pZ 590 4 67),.asu (.cel 135 (pZ 591 4 12)) (.call (gZ 204 591 13 16) [lZ 188 591 17 26] (pZ 591 13 27)) (pZ 591 4 28) (lZ 138 591 31 35) (pZ 591 4 35),.ret (.cmp .Eq (.lc (.meth (.cel 129 (pZ 592 12 18)) 105 (pZ 592 12 28) [lZ 206 592 29 32] (pZ 592 12 33)) (.mul [(149,(pZ 592 38 43)),(206,(pZ 592 45 48))] 0 (pZ 592 38 48)) (.call (gZ 38 592 52 61) [] (pZ 592 52 63)) L9 [(149,.local),(206,.local),(129,.free)] [129] (pZ 592 11 64)) (.lc (.cmp .In (lZ 206 592 69 72) (.cel 135 (pZ 592 76 84)) (pZ 592 69 84)) (.mul [(149,(pZ 592 89 94)),(206,(pZ 592 96 99))] 0 (pZ 592 89 99)) (.call (gZ 38 592 103 112) [] (pZ 592 103 114)) L9 [(149,.local),(206,.local),(135,.free)] [135] (pZ 592 68 115)) (pZ 592 11 115)) (pZ 592 4 115)]
noncomputable def me:List S:=[.asg 122 (pZ 594 4 9) (.lst [] (pZ 594 12 14)) (pZ 594 4 14),.fr (.one 100 (pZ 595 8 13)) (.call (gZ 193 595 17 23) [lZ 132 595 24 28] (pZ 595 17 29)) [.fr (.mul [(80,(pZ 596 12 16)),(74,(pZ 596 18 22)),(179,(pZ 596 24 33)),(180,(pZ 596 35 39))] 0 (pZ 596 12 39)) (.call (gZ 42 596 43 51) [(lZ 132 596 52 56),(lZ 100 596 58 63)] (pZ 596 43 64)) [.asg 182 (pZ 597 12 16) (.bin .Add (.bin .Add (.byt [98,105,110,100,45,107,101,121] 0 (pZ 597 19 30)) (.ife (lZ 179 597 44 53) (.byt [32,45,114] 0 (pZ 597 34 40)) (.byt [] 0 (pZ 597 59 62)) (pZ 597 34 62)) (pZ 597 19 63)) (.ife (.cmp .NotEq (lZ 180 597 85 89) (.byt [] 0 (pZ 597 93 96)) (pZ 597 85 96)) (.bin .Add (.byt [32,45,78,32] 0 (pZ 597 67 74)) (lZ 180 597 77 81) (pZ 597 67 81)) (.byt [] 0 (pZ 597 102 105)) (pZ 597 67 105)) (pZ 597 19 106)) (pZ 597 12 106),.ex (.meth (lZ 122 598 12 17) 199 (pZ 598 12 24) [(.bin .Add (.bin .Add (.bin .Add (.bin .Add (.bin .Add (.bin .Add (.bin .Add (lZ 182 598 25 29) (.byt [32,45,84,32] 0 (pZ 598 32 39)) (pZ 598 25 39)) (lZ 100 598 42 47) (pZ 598 25 47)) (.byt [32] 0 (pZ 598 50 54)) (pZ 598 25 54)) (lZ 80 598 57 61) (pZ 598 25 61)) (.byt [32,123,32] 0 (pZ 598 64 70)) (pZ 598 25 70)) (lZ 74 598 73 77) (pZ 598 25 77)) (.byt [32,125] 0 (pZ 598 80 85)) (pZ 598 25 85))] (pZ 598 12 86)) (pZ 598 12 86)] ⟨596,8,598,86⟩] ⟨595,4,598,86⟩,.ret (lZ 122 599 11 16) (pZ 599 4 16)]
noncomputable def Bm:Stmt:=.Pass (pZ 0 0 0)
noncomputable def GF:Stmt->Bool
 | .FunctionDef n _ _ _ _ _ _ _ _ _=>n==nm 48
 | _=>L8
noncomputable def EE:Stmt->List Stmt
 | .FunctionDef _ _ b _ _ _ _ _ _ _=>b
 | .If _ b _ _=>b
 | .For _ _ b _ _=>b
 | _=>[]
noncomputable def ID:Stmt->Expr
 | .If e _ _ _=>e
 | .Assign _ e _=>e
 | _=>.Constant .none 0 (pZ 0 0 0)
noncomputable def Gf:Expr->Expr
 | .UnaryOp _ e _=>e
 | e=>e
noncomputable def I1(i:Nat):Expr->Expr
 | .Tuple l _ _=>l.getD i (.Constant .none 0 (pZ 0 0 0))
 | e=>e
noncomputable def rV(k:Nat)(e:Expr)(nms:List (Nat×NameKind))(xs:List X):X:=match e with
 | .Call f l _ p=>.raw k f l p nms xs
 | _=>.non 0 (pZ 0 0 0)
noncomputable def wz:List Stmt:=((Mo.prog.main.body.find? GF).map EE).getD []
noncomputable def Gn:X:=(.lc (.tup [(lZ 100 608 41 46),(.call (gZ 202 608 48 52) [(.sub (.cel 132 (pZ 608 53 57)) (lZ 100 608 58 63) (pZ 608 53 64))] (pZ 608 48 65))] 0 (pZ 608 40 66)) (.one 100 (pZ 608 71 76)) (.cel 132 (pZ 608 80 84)) L9 [(100,.local),(202,.globalImplicit),(132,.free)] [132] (pZ 608 39 85))
noncomputable def KI:List (Nat×NameKind):=[(41,.globalImplicit),(129,.cell),(141,.cell)]
noncomputable def bh:List S:=[.raw (wz.getD 0 (.Pass (pZ 0 0 0))),.tpl [.cel 129 (pZ 602 4 10),.nam 135 (pZ 602 12 20),.cel 132 (pZ 602 22 26)] 0 (pZ 602 4 26) (.tup [(.call (gZ 35 602 30 39) [] (pZ 602 30 41)),(.lst [(.byt [67,45,98] 0 (pZ 602 44 50)),(.non 0 (pZ 602 52 56))] (pZ 602 43 57)),(.dct (pZ 602 59 61))] 0 (pZ 602 29 62)) (pZ 602 4 62),.fr (.one 100 (pZ 603 8 13)) (.call (gZ 39 603 17 28) [] (pZ 603 17 30)) [.asu (.cel 132 (pZ 604 8 12)) (lZ 100 604 13 18) (pZ 604 8 19) (.dct (pZ 604 22 24)) (pZ 604 8 24)] ⟨603,4,604,24⟩,.tpl [.cel 194 (pZ 605 4 9),.cel 195 (pZ 605 11 14)] 0 (pZ 605 4 14) (.tup [(.cel 129 (pZ 605 18 24)),(.dct (pZ 605 26 28))] 0 (pZ 605 17 29)) (pZ 605 4 29),.fr (.one 136 (pZ 606 8 14)) (lZ 140 606 18 25) [.iff (.cmp .Eq (.bin .Mod (lZ 136 607 11 17) (.int 8 0 (pZ 607 20 21)) (pZ 607 11 21)) (.int 7 0 (pZ 607 25 26)) (pZ 607 11 26)) [.tpl [.cel 194 (pZ 608 12 17),.cel 195 (pZ 608 19 22)] 0 (pZ 608 12 22) (.tup [(.cel 129 (pZ 608 26 32)),(rV 1 (I1 1 (ID ((EE ((EE (wz.getD 4 Bm)).getD 0 Bm)).getD 0 Bm))) [(202,.globalImplicit)] [Gn])] 0 (pZ 608 25 87)) (pZ 608 12 87),.asc 129 (pZ 609 12 18) (.meth (.cel 129 (pZ 609 21 27)) 110 (pZ 609 21 32) [] (pZ 609 21 34)) (pZ 609 12 34)] [.iff (.not (.call (gZ 46 610 17 26) [(.cel 129 (pZ 610 27 33)),(.cel 132 (pZ 610 35 39)),(lZ 135 610 41 49),(lZ 136 610 51 57)] (pZ 610 17 58)) (pZ 610 13 58)) [.ret (.boo L8 0 (pZ 611 19 24)) (pZ 611 12 24)] [] ⟨610,8,611,24⟩] ⟨607,8,611,24⟩,.asg 100 (pZ 612 8 13) (.sub (.call (gZ 39 612 16 27) [] (pZ 612 16 29)) (.bin .Mod (.bin .FloorDiv (lZ 136 612 30 36) (.int 64 0 (pZ 612 40 42)) (pZ 612 30 42)) (.int 3 0 (pZ 612 45 46)) (pZ 612 30 46)) (pZ 612 16 47)) (pZ 612 8 47),.iff (.or [(.not (.call (gZ 44 613 15 30) [(.cel 129 (pZ 613 31 37)),(.cel 132 (pZ 613 39 43)),(lZ 100 613 45 50)] (pZ 613 15 51)) (pZ 613 11 51)),(.not (.call (gZ 45 613 59 75) [(.cel 129 (pZ 613 76 82)),(.cel 132 (pZ 613 84 88)),(lZ 100 613 90 95)] (pZ 613 59 96)) (pZ 613 55 96))] (pZ 613 11 96)) [.ret (.boo L8 0 (pZ 614 19 24)) (pZ 614 12 24)] [] ⟨613,8,614,24⟩,.iff (.cmp .NotEq (.lst [(.att (.cel 129 (pZ 615 12 18)) 183 (pZ 615 12 25)),(.att (.cel 129 (pZ 615 27 33)) 186 (pZ 615 27 40))] (pZ 615 11 41)) (lZ 135 615 45 53) (pZ 615 11 53)) [.ret (.boo L8 0 (pZ 616 19 24)) (pZ 616 12 24)] [] ⟨615,8,616,24⟩] ⟨606,4,616,24⟩,.fr (.cel 141 (pZ 617 8 15)) (.tup [(.byt [] 0 (pZ 617 20 23)),(.byt [67,45] 0 (pZ 617 25 30)),(.byt [110,111,107,101,121] 0 (pZ 617 32 40))] 0 (pZ 617 19 41)) [.iff (.not (rV 0 (Gf (ID (EE (wz.getD 5 Bm) |>.getD 0 Bm))) KI []) (pZ 618 11 83)) [.ret (.boo L8 0 (pZ 619 19 24)) (pZ 619 12 24)] [] ⟨618,8,619,24⟩,.iff (.not (rV 0 (Gf (ID (EE (wz.getD 5 Bm) |>.getD 1 Bm))) KI []) (pZ 620 11 70)) [.ret (.boo L8 0 (pZ 621 19 24)) (pZ 621 12 24)] [] ⟨620,8,621,24⟩] ⟨617,4,621,24⟩,.iff (.cmp .NotEq (.lc (lZ 100 622 8 13) (.one 100 (pZ 622 18 23)) (.cel 195 (pZ 622 27 30)) (L6 (.not (.call (gZ 44 622 38 53) [(.cel 194 (pZ 622 54 59)),(.cel 195 (pZ 622 61 64)),(lZ 100 622 66 71)] (pZ 622 38 72)) (pZ 622 34 72))) [(100,.local),(44,.globalImplicit),(194,.free),(195,.free)] [194,195] (pZ 622 7 73)) (.lst [] (pZ 622 77 79)) (pZ 622 7 79)) [.ret (.boo L8 0 (pZ 623 15 20)) (pZ 623 8 20)] [] ⟨622,4,623,20⟩,.iff (.cmp .NotEq (.lc (lZ 100 624 8 13) (.one 100 (pZ 624 18 23)) (.cel 132 (pZ 624 27 31)) (L6 (.not (.call (gZ 44 624 39 54) [(.cel 129 (pZ 624 55 61)),(.cel 132 (pZ 624 63 67)),(lZ 100 624 69 74)] (pZ 624 39 75)) (pZ 624 35 75))) [(100,.local),(44,.globalImplicit),(132,.free),(129,.free)] [132,129] (pZ 624 7 76)) (.lst [] (pZ 624 80 82)) (pZ 624 7 82)) [.ret (.boo L8 0 (pZ 625 15 20)) (pZ 625 8 20)] [] ⟨624,4,625,20⟩,.asg 134 (pZ 626 4 7) (.call (gZ 47 626 10 23) [(.cel 132 (pZ 626 24 28))] (pZ 626 10 29)) (pZ 626 4 29),.asg 142 (pZ 627 4 9) (rV 3 (ID (wz.getD 9 Bm)) [(47,.globalImplicit)] [(.sub (.cel 132 (pZ 627 35 39)) (.byt [111,119,110] 0 (pZ 627 40 46)) (pZ 627 35 47))]) (pZ 627 4 49),.ret (.and [(.cmp .Eq (.call (gZ 36 628 11 19) [(.cel 129 (pZ 628 20 26))] (pZ 628 11 27)) (lZ 134 628 31 34) (pZ 628 11 34)),(.cmp .Eq (.call (gZ 36 628 39 47) [(.cel 129 (pZ 628 48 54)),(.byt [111,119,110] 0 (pZ 628 56 62))] (pZ 628 39 63)) (lZ 142 628 67 72) (pZ 628 39 72))] (pZ 628 11 72)) (pZ 628 4 72)]
noncomputable def GP:AY:=[((838,1),⟨[139],[],bh,[141,129,195,194,132]⟩),((88,1),⟨[143,144],[.boo L7],Kk,[]⟩),((95,2),⟨[143,99],[],Kj,[]⟩),((102,3),⟨[143,112,122],[],H4,[]⟩),((73,1),⟨[112],[],Kl,[]⟩),((151,1),⟨[113],[],H3,[]⟩),((158,1),⟨[113],[],H2,[]⟩),((240,4),⟨[143,115,113,116,117],[.int 1],BS,[]⟩),((240,5),⟨[143,115,113,116,117],[],BS,[]⟩),((268,1),⟨[113],[],H1,[]⟩),((275,1),⟨[113],[],H0,[]⟩),((283,3),⟨[115,113,116,117],[.int 1],HZ,[]⟩),((288,1),⟨[99],[],HY,[]⟩),((293,0),⟨[],[],HX,[]⟩),((300,1),⟨[99],[],HW,[]⟩),((307,1),⟨[99],[],HV,[]⟩),((314,1),⟨[99],[],HU,[]⟩),((321,1),⟨[99],[],iP,[]⟩),((328,1),⟨[121],[],HT,[]⟩),((622,1),⟨[99],[],BQ,[]⟩),((406,2),⟨[112,123],[],HR,[]⟩),((589,1),⟨[80],[],HI,[]⟩),((596,1),⟨[80],[],HH,[]⟩),((603,1),⟨[80],[],HG,[]⟩),((608,1),⟨[127],[],HF,[]⟩),((343,4),⟨[143,155,156,157],[],HS,[]⟩),((434,3),⟨[143,99,125],[],HQ,[]⟩),((582,1),⟨[99,125,126],[.non,.non],HJ,[]⟩),((615,1),⟨[98],[],HE,[]⟩),((644,1),⟨[143],[],BP,[]⟩),((441,1),⟨[143],[],HP,[]⟩),((499,1),⟨[143],[],HO,[]⟩),((520,1),⟨[143],[],HN,[]⟩),((527,1),⟨[143],[],HM,[]⟩),((534,1),⟨[143],[],HL,[]⟩),((541,3),⟨[143,80,158],[],HK,[]⟩),((637,5),⟨[143,121,98,179,180],[],HD,[]⟩),((652,2),⟨[143,100],[],HC,[]⟩),((674,1),⟨[143,183,184],[.byt [67,45,98],.int 500],HB,[]⟩),((681,2),⟨[143,115],[],HA,[]⟩),((689,6),⟨[143,100,121,98,179,180],[],BO,[]⟩),((696,3),⟨[143,100,121],[],BN,[]⟩),((703,2),⟨[143,100],[],Hz,[]⟩),((711,3),⟨[143,121,188],[],Hy,[]⟩),((718,2),⟨[143,80],[],x9,[]⟩),((725,3),⟨[143,100,80],[],Hw,[]⟩),((732,3),⟨[143,100,121],[],Hv,[]⟩),((739,1),⟨[143],[],Hu,[]⟩),((744,2),⟨[143,100],[],td,[189]⟩),((751,1),⟨[143],[],Hs,[]⟩),((764,1),⟨[129,130],[.non],mf,[100]⟩),((764,2),⟨[129,130],[],mf,[100]⟩),((769,2),⟨[129,100],[],kF,[]⟩),((776,0),⟨[],[],Hr,[]⟩),((783,0),⟨[],[],Hq,[]⟩),((790,0),⟨[],[],Hp,[]⟩),((802,2),⟨[132,100],[],fX,[100,132]⟩),((809,1),⟨[133],[],Ho,[]⟩),((814,3),⟨[129,132,100],[],iO,[132]⟩),((821,3),⟨[129,132,100],[],eJ,[]⟩),((826,4),⟨[129,132,135,136],[],ch,[135,129]⟩),((833,1),⟨[132],[],me,[]⟩)]
theorem gR(a:Addr)(n:Nat)(fd:FD)(h:GP.lookup (a,n)=L6 fd):pO a n fd:=wN (λ w=>by kernel_rfl) (λ w=>by kernel_rfl) (λ w S a b c d e f g=>by kernel_rfl) a n fd h
noncomputable def tb(p:Addr->List AV->Option (AV ⊕ AO))(k:Addr->KT->List AV->Option ((AV ⊕ KT)×KT))(c:List UInt8->Bool)(s:Addr->List AV->List AO->Bool->Option (AV×List AO))(q:X->Nat->St->Option (AV×St)):bq where
 glo:=[(4,.val (.ref 73)),(5,.val (.ref 140)),(6,.val (.ref 151)),(7,.val (.ref 158)),(8,.val (.ref 257)),(9,.val (.ref 268)),(10,.val (.ref 275)),(11,.val (.ref 283)),(12,.val (.ref 288)),(13,.val (.ref 293)),(14,.val (.ref 300)),(15,.val (.ref 307)),(16,.val (.ref 314)),(17,.val (.ref 321)),(18,.val (.ref 328)),(33,.val (.ref 622)),(22,.val (.ref 406)),(28,.val (.ref 589)),(29,.val (.ref 596)),(30,.val (.ref 603)),(31,.val (.ref 608)),(32,.val (.ref 615)),(27,.val (.ref 582)),(19,.val (.ref 346)),(20,.val (.ref 367)),(26,.val (.ref 572)),(34,.val (.ref 655)),(35,.val (.ref 754)),(36,.val (.ref 764)),(37,.val (.ref 769)),(38,.val (.ref 776)),(39,.val (.ref 783)),(40,.val (.ref 790)),(42,.val (.ref 802)),(43,.val (.ref 809)),(44,.val (.ref 814)),(45,.val (.ref 821)),(46,.val (.ref 826)),(47,.val (.ref 833)),(52,.int 65533),(53,.int 128),(54,.int 63),(55,.int 1114111),(63,.int 1),(64,.int 2),(65,.int 4),(66,.val (.ref 162)),(72,.val (.ref 225)),(68,.val (.ref 173)),(69,.val (.ref 194)),(70,.val (.ref 199)),(71,.val (.ref 218)),(77,.val (.ref 329)),(96,.byt [65,110,121]),(76,.byt [32,9,13,10,59,125]),(78,.byt [45,95,46,47,58,44,61,43,64,37,94,42,63,60,62,33,124,38,91,93,40,41,126]),(201,.val (.builtin "len")),(176,.val (.builtin "isinstance")),(193,.val (.builtin "sorted")),(150,.val (.type "bytes")),(175,.val (.type "bytearray")),(202,.val (.type "dict")),(205,.val (.type "list")),(204,.val (.type "int")),(178,.val (.type "enumerate"))]
 tup:=[(162,[.val (.ref 159),.val (.ref 160),.val (.ref 161)]),(159,[.int 67,.int 4]),(160,[.int 77,.int 2]),(161,[.int 83,.int 1]),(225,[.val (.ref 219),.val (.ref 220),.val (.ref 221),.val (.ref 222),.val (.ref 223),.val (.ref 224)]),(219,[.byt [105,99],.byt [73,110,115,101,114,116]]),(220,[.byt [100,99],.byt [68,101,108,101,116,101]]),(221,[.byt [112,112,97,103,101],.byt [80,97,103,101,85,112]]),(222,[.byt [112,103,117,112],.byt [80,97,103,101,85,112]]),(223,[.byt [110,112,97,103,101],.byt [80,97,103,101,68,111,119,110]]),(224,[.byt [112,103,100,110],.byt [80,97,103,101,68,111,119,110]]),(173,[.val (.ref 163),.val (.ref 164),.val (.ref 165),.val (.ref 166),.val (.ref 167),.val (.ref 168),.val (.ref 169),.val (.ref 170),.val (.ref 171),.val (.ref 172)]),(163,[.byt [85,112],.int 65]),(164,[.byt [68,111,119,110],.int 66]),(165,[.byt [82,105,103,104,116],.int 67]),(166,[.byt [76,101,102,116],.int 68]),(167,[.byt [69,110,100],.int 70]),(168,[.byt [72,111,109,101],.int 72]),(169,[.byt [70,49],.int 80]),(170,[.byt [70,50],.int 81]),(171,[.byt [70,51],.int 82]),(172,[.byt [70,52],.int 83]),(194,[.val (.ref 174),.val (.ref 175),.val (.ref 176),.val (.ref 177),.val (.ref 178),.val (.ref 179),.val (.ref 180),.val (.ref 181),.val (.ref 182),.val (.ref 183),.val (.ref 184),.val (.ref 185),.val (.ref 186),.val (.ref 187),.val (.ref 188),.val (.ref 189),.val (.ref 190),.val (.ref 191),.val (.ref 192),.val (.ref 193)]),(174,[.byt [73,110,115,101,114,116],.int 2]),(175,[.byt [68,101,108,101,116,101],.int 3]),(176,[.byt [80,97,103,101,85,112],.int 5]),(177,[.byt [80,97,103,101,68,111,119,110],.int 6]),(178,[.byt [70,53],.int 15]),(179,[.byt [70,54],.int 17]),(180,[.byt [70,55],.int 18]),(181,[.byt [70,56],.int 19]),(182,[.byt [70,57],.int 20]),(183,[.byt [70,49,48],.int 21]),(184,[.byt [70,49,49],.int 23]),(185,[.byt [70,49,50],.int 24]),(186,[.byt [70,49,51],.int 25]),(187,[.byt [70,49,52],.int 26]),(188,[.byt [70,49,53],.int 28]),(189,[.byt [70,49,54],.int 29]),(190,[.byt [70,49,55],.int 31]),(191,[.byt [70,49,56],.int 32]),(192,[.byt [70,49,57],.int 33]),(193,[.byt [70,50,48],.int 34]),(199,[.val (.ref 195),.val (.ref 196),.val (.ref 197),.val (.ref 198)]),(195,[.byt [84,97,98],.int 9]),(196,[.byt [69,110,116,101,114],.int 13]),(197,[.byt [69,115,99,97,112,101],.int 27]),(198,[.byt [66,83,112,97,99,101],.int 127]),(218,[.val (.ref 200),.val (.ref 201),.val (.ref 202),.val (.ref 203),.val (.ref 204),.val (.ref 205),.val (.ref 206),.val (.ref 207),.val (.ref 208),.val (.ref 209),.val (.ref 210),.val (.ref 211),.val (.ref 212),.val (.ref 213),.val (.ref 214),.val (.ref 215),.val (.ref 216),.val (.ref 217)]),(200,[.byt [75,80,48],.int 112,.int 48,.int 57399]),(201,[.byt [75,80,49],.int 113,.int 49,.int 57400]),(202,[.byt [75,80,50],.int 114,.int 50,.int 57401]),(203,[.byt [75,80,51],.int 115,.int 51,.int 57402]),(204,[.byt [75,80,52],.int 116,.int 52,.int 57403]),(205,[.byt [75,80,53],.int 117,.int 53,.int 57404]),(206,[.byt [75,80,54],.int 118,.int 54,.int 57405]),(207,[.byt [75,80,55],.int 119,.int 55,.int 57406]),(208,[.byt [75,80,56],.int 120,.int 56,.int 57407]),(209,[.byt [75,80,57],.int 121,.int 57,.int 57408]),(210,[.byt [75,80,46],.int 110,.int 46,.int 57409]),(211,[.byt [75,80,47],.int 111,.int 47,.int 57410]),(212,[.byt [75,80,42],.int 106,.int 42,.int 57411]),(213,[.byt [75,80,45],.int 109,.int 45,.int 57412]),(214,[.byt [75,80,43],.int 107,.int 43,.int 57413]),(215,[.byt [75,80,69,110,116,101,114],.int 77,.int 13,.int 57414]),(216,[.byt [75,80,61],.int 88,.int 61,.int 57415]),(217,[.byt [75,80,44],.int 108,.int 44,.int 57416]),(329,[.byt [37,105,102],.byt [37,101,108,105,102],.byt [37,101,108,115,101],.byt [37,101,110,100,105,102]])]
 att:=[(140,[144,145,113,146,147]),(257,[115,113,116,117]),(346,[155,156,157]),(572,[99,125,165,126,98,127,155,169,170,171]),(655,[121,74,179,180]),(754,[132,185,183,186,184])]
 met:=[((140,56),95),((140,57),102),((572,80),441),((572,85),499),((572,88),520),((572,89),527),((572,90),534),((572,91),541),((655,99),652),((754,100),681),((754,101),689),((754,102),696),((754,103),703),((754,104),711),((754,105),718),((754,106),725),((754,107),732),((754,108),739),((754,109),744),((754,110),751)]
 fns:=GP
 cls:=[(140,88),(257,240),(346,343),(655,637),(754,674)]
 pur:=p
 ktm:=k
 cmd:=c
 isi:=[367]
 sup:=[((572,3),bf)]
 stf:=s
 kp:=[73,88,95,102,140,151,158,240,257,268,275,283,288,293,300,307,314,321,328,343,346,406,434,441,499,520,527,534,541,572,582,589,596,603,608,615,622,637,644,652,655,674,681,689,696,703,711,718,725,732,739,744,751,754,764,769,776,783,790,802,809,814,821,826,833]
 raw:=q
theorem ot(hp:∀a vs r,p a vs=L6 r->hG a vs r)(hk:∀g S vs q,k g S vs=L6 q->bE g S vs q)(hc:∀t,c t=L7->tm t)(hs:∀g vs os ph r,s g vs os ph=L6 r->mi g vs os ph r)(hq:∀x d σ r,q x d σ=L6 r->kJ x d σ r):be (tb p k c s q) where
 glo:=j0 λ w=>by kernel_rfl
 tup:=yZ λ w=>by kernel_rfl
 att:=AJ λ w=>by kernel_rfl
 met:=zP λ w=>by kernel_rfl
 fns:=gR
 cls:=As λ w=>by kernel_rfl
 pur:=hp
 ktm:=hk
 cmd:=hc
 isi:=z6 λ w=>by kernel_rfl
 sup:=λ C n fs e=>by
  refine aD (MD ((Ma.mp (aN (l:=[((572,3),bf)]) e)))) λ q r=>?_;(refine aD (MD q) λ Qc P2=>?_;obtain rfl:=Qc;obtain rfl:=P2);exact r▸FP
 stf:=hs
 kp:=wH λ w=>by kernel_rfl
 raw:=hq
section
set_option tactic.hygienic true
noncomputable def hV(φ ψ:bo->bo)(τ τ':Addr->bo)(b:Addr):bo:=open Classical in if φ (τ b)=(1,3) then τ b else ψ (τ' b)
structure Bk(c:Cx)(φ ψ:bo->bo)(h h':M4)(τ τ':Addr->bo):Prop where
 old:∀b o k j,φ (k,j)=(1,3)->Cl h τ k j b o->Cl h' (hV φ ψ τ τ') k j b o
 vis:∀b o k j k' j',ψ (k,j)=(k',j')->(k,j)≠(1,3)->Cl h' τ' k j b o->Cl h' (hV φ ψ τ τ') k' j' b o
 N:∀b,(hV φ ψ τ τ' b).1≠0->rB c.h₀ c.L h' b
section
variable{c:Cx}{d:Nat}{ρ ρ':RR}{σ σ':St}{s s':Mc}{h h':M4}{τ τ':Addr->bo}{os os':List AO}{ph ph':Bool}{φ ψ:bo->bo}{X:Addr->Obj->Nat->Prop}
theorem aR.bk(hφ:∀j,(φ (0,j)).1=0)(hψ:∀j,(ψ (0,j)).1=0)(K:aR c h τ ρ os ph)(K':aR (c.fix X) h' τ' ρ' os' ph')(hX:∀b o,φ (τ b)=(1,3)->h.get? b=L6 o->X b o 2):Bk c φ ψ h h' τ τ':=by
 have own:∀b,φ (τ b)=(1,3)->(τ b).1≠0:=λ b q z=>by
  rw[show τ b=(0,(τ b).2) from congrArg (·,(τ b).2) z] at q;exact nq ((hφ _).symm.trans (congrArg Mn q)) rfl
 have hid:∀{b},φ (τ b)=(1,3)->hV φ ψ τ τ' b=τ b:=λ q=>if_pos q;have hidG:∀{b},φ (τ b)=(1,3)->τ' b=(1,3):=λ{b} q=>by
  refine lW ((K.N b (own b q)).g) λ o g=>(K'.X _ _ 2 (hX b o q g)).t
 refine⟨λ b o k j q cl=>?_,λ b o k j k' j' e n cl=>⟨cl.g,(if_neg λ q=>n (cl.t.symm.trans (hidG q))).trans ((congrArg ψ cl.t).trans e)⟩,λ b q=>?_⟩
 ·have q':=(congrArg φ cl.t).trans q;exact⟨(K'.X _ _ 2 (hX b o q' cl.g)).g,(hid q').trans cl.t⟩
 ·by_cases z:φ (τ b)=(1,3)
  ·refine lW ((K.N b (own b z)).g) λ o g=>⟨by refine ac ((K'.X _ _ 2 (hX b o z g)).g) ?_;rfl,(K.N b (own b z)).l,(K.N b (own b z)).n⟩
  ·rw[show hV φ ψ τ τ' b=ψ (τ' b) from if_neg z] at q;refine K'.N b λ z=>q<|ac (show τ' b=(0,(τ' b).2) from congrArg (·,(τ' b).2) z)<|hψ _
noncomputable def jk(h:M4)(τ:Addr->bo)(φ:bo->bo)(b:Addr)(o:Obj)(k:Nat):Prop:=k=2/\φ (τ b)=(1,3)/\h.get? b=L6 o
theorem mZ(z:jk h τ φ b o k):Cl h (λ b=>φ (τ b)) 1 (k+1) b o:=by
 (refine cg z λ Qc q g=>?_;clear z;obtain rfl:=Qc);exact⟨g,q⟩
theorem aR.vin(K:aR c h τ ρ os ph)(h0:∀j,(φ (0,j)).1=0)(h2:∀t k j,φ t=(k+2,j)->∃i j',t=(i+2,j'))(hz:φ (1,0)=(1,0))(le:∀a o,z₁.cel a o->ρ.z.cel a o)(hB:∀a r,z₁.bds a=L6 r->uJ h (λ b=>φ (τ b)) z₁ ph a r)(hl:ad₁.length=os₁.length)(hX:∀b o k,X b o k->Cl h (λ b=>φ (τ b)) 1 (k+1) b o)
  (hO:∀p o,os₁[p]?=L6 o->∃b,ad₁[p]?=L6 b/\OR c.w X h (λ b=>φ (τ b)) ⟨ad₁,z₁⟩ (p+3) o b):aR (c.fix X) h (λ b=>φ (τ b)) ⟨ad₁,z₁⟩ os₁ ph:=by
 refine⟨λ b q=>K.N b λ z=>q ?_,λ b k j q=>?_,hl,hO,λ a o z=>⟨(K.Z a o (le a o z)).g,(congrArg φ (K.Z a o (le a o z)).t).trans hz⟩,hX,hB⟩
 ·show(φ (τ b)).1=0;refine ac (show τ b=(0,(τ b).2) from congrArg (·,(τ b).2) z)<|h0 _
 ·refine bW (h2 _ _ _ q) λ i' j' e=>K.Y b i' j' e
theorem Bk.know(B:Bk c φ ψ h h' τ τ')(K:aR c h τ ρ os ph)(K':aR (c.fix X) h' τ' ρ' os' ph')(h2:∀t k j,ψ t=(k+2,j)->∃i j',t=(i+2,j'))(sz:ad''.length=os''.length)
  (hO:∀i o,os''[i]?=L6 o->∃a,ad''[i]?=L6 a/\OR c.w c.fx h' (hV φ ψ τ τ') ⟨ad'',z''⟩ (i+3) o a) (hZ:∀a o,z''.cel a o->Cl h' (hV φ ψ τ τ') 1 0 a o) (hX:∀b o k,c.fx b o k->Cl h' (hV φ ψ τ τ') 1 (k+1) b o) (hB:∀a r,z''.bds a=L6 r->uJ h' (hV φ ψ τ τ') z'' ph' a r):aR c h' (hV φ ψ τ τ') ⟨ad'',z''⟩ os'' ph':=by
 refine⟨B.N,λ b k j q=>?_,sz,hO,hZ,hX,hB⟩;by_cases z:φ (τ b)=(1,3)
 ·rw[show hV φ ψ τ τ' b=τ b from if_pos z] at q;exact K.Y b k j q
 ·rw[show hV φ ψ τ τ' b=ψ (τ' b) from if_neg z] at q;refine bW (h2 _ _ _ q) λ i' j' e=>K'.Y b i' j' e
end
end
noncomputable def r5(idx:List Nat)(t:bo):bo:=match t.1 with
 | 0=>t
 | 1=>(match t.2 with
  | j+4=>(match eP idx j with|some p=>(1,p+4)|none=>(1,3))
  | 0=>t
  | _=>(1,3))
 | 2=>t
 | i+3=>(match eP idx i with|some p=>(p+3,t.2)|none=>(1,3))
noncomputable def gq(idx:List Nat)(N p:Nat):Nat:=(idx[p]?).getD (N+(p-idx.length))
noncomputable def ER(idx:List Nat)(N:Nat)(t:bo):bo:=match t.1 with
 | 0=>t
 | 1=>(match t.2 with
  | p+4=>(match idx[p]? with|some i=>(1,i+4)|none=>(0,0))
  | 0=>t
  | _=>(0,0))
 | 2=>t
 | p+3=>(gq idx N p+3,t.2)
theorem ro{idx:List Nat}(h:idx[p]?=L6 i):gq idx N p=i:=by unfold gq;refine ac h ?_;rfl
theorem FZ{idx:List Nat}(h:eP idx i=L6 p):r5 idx (i+3,j)=(p+3,j):=by
 refine(?_:(match eP idx i with|some p=>(p+3,j)|none=>(1,3))=_);exact ac h rfl
theorem C1{idx:List Nat}(h:eP idx i=L9):r5 idx (i+3,j)=(1,3):=by
 refine(?_:(match eP idx i with|some p=>(p+3,j)|none=>(1,3))=_);exact ac h rfl
theorem vT{idx:List Nat}(h:eP idx i=L6 p):r5 idx (1,i+4)=(1,p+4):=by
 refine(?_:(match eP idx i with|some p=>((1,p+4):bo)|none=>(1,3))=_);exact ac h rfl
theorem rY{idx:List Nat}(h:eP idx i=L9):r5 idx (1,i+4)=(1,3):=by
 refine(?_:(match eP idx i with|some p=>((1,p+4):bo)|none=>(1,3))=_);exact ac h rfl
theorem xN{idx:List Nat}(h:idx[p]?=L6 i):ER idx N (1,p+4)=(1,i+4):=by
 refine(?_:(match idx[p]? with|some i=>((1,i+4):bo)|none=>(0,0))=_);exact ac h rfl
theorem C3{idx:List Nat}(h:r5 idx t=(k+2,j)):∃i j',t=(i+2,j'):=by
 obtain⟨a,b⟩:=t;match a with
 | 0=>exact nq (congrArg Mn h) rfl
 | 1=>
  match b with
  | 0=>exact nq (congrArg Mn h) rfl
  | 1=>exact nq (congrArg Mn h) rfl
  | 2=>exact nq (congrArg Mn h) rfl
  | 3=>exact nq (congrArg Mn h) rfl
  | i+4=>
   cases q:eP idx i with
   | none=>rw[rY q] at h;exact nq (congrArg Mn h) rfl
   | some p=>rw[vT q] at h;exact nq (congrArg Mn h) rfl
 | i+2=>exact(aq i b rfl)
theorem Ee{idx:List Nat}(h:ER idx N t=(k+2,j)):∃i j',t=(i+2,j'):=by
 obtain⟨a,b⟩:=t;match a with
 | 0=>exact nq (congrArg Mn h) rfl
 | 1=>
  match b with
  | 0=>exact nq (congrArg Mn h) rfl
  | 1=>exact nq (congrArg Mn h) rfl
  | 2=>exact nq (congrArg Mn h) rfl
  | 3=>exact nq (congrArg Mn h) rfl
  | i+4=>
   cases q:idx[i]? with
   | none=>exact nq ((congrArg Mn h).symm.trans (congrArg Mn (show ER idx N (1,i+4)=(0,0) by refine(?_:(match idx[i]? with|some i=>((1,i+4):bo)|none=>(0,0))=_);exact ac q rfl))) rfl
   | some p=>rw[xN q] at h;exact nq (congrArg Mn h) rfl
 | i+2=>exact(aq i b rfl)
section
variable{c:Cx}{d:Nat}{ρ ρ':RR}{σ σ':St}{s s':Mc}{h h':M4}{τ τ':Addr->bo}{os os' os₁:List AO}{ph ph':Bool}{idx:List Nat}
noncomputable def jE(idx:List Nat)(i:Nat):Nat:=(eP idx i).getD 0
noncomputable def qy(idx:List Nat)(i:Nat):Bool:=(eP idx i).isSome
structure hH(idx:List Nat)(os os₁:List AO):Prop where
 nd:idx.Nodup
 ln:os₁.length=idx.length
 o:∀p i:Nat,idx[p]?=L6 i->∃o:AO,os[i]?=L6 o/\lP (qy idx) o=L7/\os₁[p]?=L6 (dL (jE idx) o)
noncomputable def EJ(c:Cx)(h:M4)(τ:Addr->bo)(idx:List Nat)(b:Addr)(o:Obj)(k:Nat):Prop:=(∃i p,idx[p]?=L6 i/\k=p+3/\c.fx b o (i+3))\/jk h τ (r5 idx) b o k
noncomputable def uF(ρ:RR)(idx:List Nat):RR:=⟨idx.map λ i=>(ρ.ad[i]?).getD default,ρ.z⟩
theorem r4{i p:Nat}(e:idx[p]?=L6 i)(a:ρ.ad[i]?=L6 x):(uF ρ idx).ad[p]?=L6 x:=by
 refine(?_:(idx.map _)[p]?=_);refine ac (Nc) (ac e ?_);refine(?_:L6 ((ρ.ad[i]?).getD default)=_);refine ac a ?_;rfl
theorem rZ{i:Nat}(z:qy idx i=L7)(e:ρ.ad[i]?=L6 x):(uF ρ idx).ad[jE idx i]?=L6 x:=by
 refine lW z λ p hp=>ac (show jE idx i=p from congrArg (·.getD 0) hp)<|r4 (cZ hp) e
theorem aR.pick(K:aR c h τ ρ os ph)(P:hH idx os os₁):aR (c.fix (EJ c h τ idx)) h (λ b=>r5 idx (τ b)) (uF ρ idx) os₁ ph:=by
 refine K.vin (z₁:=ρ.z) (λ zz=>rfl) (λ t k j=>C3) rfl (λ zz zz z=>z) (λ a r z=>(K.B a r z).imp (λ b o j cl=>⟨cl.g,congrArg (r5 idx) cl.t⟩) Fz.Le.refl) ((Md _).trans P.ln.symm) (λ b o k z=>?_) λ p Qv e=>?_
 ·rcases z with ⟨i,p,e,rfl,z⟩|z
  ·have cl:=K.X b o _ z;exact⟨cl.g,(congrArg (r5 idx) cl.t).trans (vT (d8 P.nd e))⟩
  ·exact mZ z
 ·have hp:p<idx.length:=P.ln▸(Mz.mp e).1;have ei:=Mr hp;refine cC (P.o p _ ei) λ o e1 ok e2=>?_;obtain rfl:=My (e2.symm.trans e);refine ag (K.O _ o e1) λ a e3 q=>?_;have ix:=d8 P.nd ei;exact⟨a,r4 ei e3,OR.ren (fx:=c.fx) (fx':=EJ c h τ idx) (h:=h) (τ:=τ) (ρ:=ρ) (ρ':=uF ρ idx) (p:=qy idx) (f:=jE idx) (k:=idx[p]+3) (k':=p+3) (λ i x z e=>rZ z e) Fz.Le.refl (λ b o j cl=>⟨cl.g,(congrArg (r5 idx) cl.t).trans (FZ ix)⟩) (λ b o z=>.inl (aq _ p ⟨ei,rfl,z⟩)) ok q⟩
noncomputable def yY(idx:List Nat)(os os':List AO):List AO:=os.mapIdx (λ i o=>((eP idx i).bind (os'[·]?)).elim o (dL (gq idx os.length)))++(os'.drop idx.length).map (dL (gq idx os.length))
theorem yX:(yY idx os os').length=os.length+(os'.length-idx.length):=by
 unfold yY;exact ac Mf (ac Oq (ac (Md _) (ac PT rfl)))
theorem yW(e:os[i]?=L6 o):(yY idx os os')[i]?=L6 (((eP idx i).bind (os'[·]?)).elim o (dL (gq idx os.length))):=by
 refine ck<|ac (Pp) (ac e ?_);rfl
theorem yV(hq:idx.length<=q):(yY idx os os')[os.length+(q-idx.length)]?=(os'[q]?).map (dL (gq idx os.length)):=by
 unfold yY;exact ac (MG (by rw[Oq];exact Mt _ _)) (ac Oq (ac (MF _ _) (ac (Nc) (ac (PB) (ac (Op hq) rfl)))))
theorem zJ:∀o,lP (λ zz=>L7) o=L7:=λ o=>by
 have a:∀v,ik (λ zz=>L7) v=L7:=λ v=>by cases v<;>rfl
 cases o with
 | lst l=>exact Mq.mpr λ x zz=>a x
 | tup l=>exact Mq.mpr λ x zz=>a x
 | frz b l=>exact Mq.mpr λ x zz=>a x
 | ins C f=>exact Mq.mpr λ x zz=>a x.2
 | dic l=>exact Mq.mpr λ x zz=>a x.2
 | frd l=>exact Mq.mpr λ x zz=>a x.2
 | cel v=>cases v with
  | none=>rfl
  | some v=>exact a v
 | dir t v A B=>cases v with
  | none=>rfl
  | some v=>exact a v
 | _=>rfl
noncomputable def Bb(ρ ρ':RR)(m:Nat):RR:=⟨ρ.ad++ρ'.ad.drop m,ρ'.z⟩
theorem uZ(K:aR c h τ ρ os ph)(P:hH idx os os₁)(le:(uF ρ idx).Le ρ'){q:Nat}(e:ρ'.ad[q]?=L6 x):(Bb ρ ρ' idx.length).ad[gq idx os.length q]?=L6 x:=by
 unfold gq;cases z:idx[q]? with
 | some i=>
  refine ag (P.o q i z) λ o e1 zz=>ag (K.O i o e1) λ a e2 zz=>?_;obtain rfl:=sI ((le.a _ _ (r4 z e2)).symm.trans e);exact ck e2
 | none=>
  have hq:=List.getElem?_eq_none_iff.mp z;refine(?_:(ρ.ad++ρ'.ad.drop idx.length)[os.length+(q-idx.length)]?=_);refine bP K.sz (ac (MG (Mt _ _)) (ac (MF _ _) (ac (PB) (ac (Op hq) ?_))));exact e
theorem aR.unpick(K:aR c h τ ρ os ph)(P:hH idx os os₁)(K':aR (c.fix (EJ c h τ idx)) h' τ' ρ' os' ph')(le:(uF ρ idx).Le ρ'):aR c h' (hV (r5 idx) (ER idx os.length) τ τ') (Bb ρ ρ' idx.length) (yY idx os os') ph':=by
 have B:=K.bk (φ:=r5 idx) (ψ:=ER idx os.length) (λ zz=>rfl) (λ zz=>rfl) K' λ b o q g=>.inr ⟨rfl,q,g⟩;have lm:idx.length<=os'.length:=by
  have:=ww le;rw[K'.sz] at this;exact ME (Ob (Md _).symm) this
 have n3:∀{k j:Nat},(k+2,j)≠((1,3):bo):=λ q=>(nq (congrArg Mn q) rfl)
 have see:∀{p:Nat} {o:AO},os'[p]?=L6 o->∃a,(Bb ρ ρ' idx.length).ad[gq idx os.length p]?=L6 a/\OR c.w c.fx h' (hV (r5 idx) (ER idx os.length) τ τ') (Bb ρ ρ' idx.length) (gq idx os.length p+3) (dL (gq idx os.length) o) a:=λ{p o} e=>by
  refine ag (K'.O p o e) λ a e1 y=>⟨a,uZ K P le e1,OR.ren (fx:=EJ c h τ idx) (fx':=c.fx) (h:=h') (τ:=τ') (ρ:=ρ') (ρ':=Bb ρ ρ' idx.length) (p:=λ zz=>L7) (f:=gq idx os.length) (k:=p+3) (k':=gq idx os.length p+3) (λ q x zz e=>uZ K P le e) Fz.Le.refl (λ b o j cl=>B.vis _ _ _ _ _ _ rfl n3 cl) (λ b o z=>?_) (zJ o) y⟩
  rcases z with ⟨i',p',e',ep,z⟩|⟨ep,_⟩
  ·rw[← Nat.add_right_cancel ep] at e';refine ac (show gq idx os.length p=i' from ro e') ?_;exact z
  ·exact nq ep rfl
 refine B.know K K' (λ t k j=>Ee) ?_ (λ i o e=>?_) (λ a o z=>B.vis _ _ 1 0 _ _ rfl (λ q=>(nq (congrArg NE q) rfl)) (K'.Z a o z)) (λ b o k z=>?_) λ a r z=>(K'.B a r z).imp (λ b o j cl=>B.vis _ _ 2 j _ _ rfl n3 cl) Fz.Le.refl
 ·exact ac yX (ac Mf (ac PT (ac K.sz (ac K'.sz rfl))))
 ·rcases Nat.lt_or_ge i os.length with q|q
  ·have e0:=Mr q;rw[yW e0] at e;cases z:eP idx i with
   | none=>
    rw[z] at e;obtain rfl:=sI e;refine ag (K.O i _ e0) λ a e1 y=>⟨a,ck e1,OR.imp (ρ:=ρ) (ρ':=Bb ρ ρ' idx.length) (τ:=τ) (h:=h) (fx:=c.fx) (λ b o j cl=>B.old _ _ _ _ (C1 z) cl) ⟨λ zz zz h=>ck h,le.z⟩ (λ zz zz h=>h) y⟩
   | some p=>
    have hp:p<os'.length:=M7 (Mz.mp (cZ z)).1 lm;have e1:=Mr hp;rw[z,show(L6 p).bind (os'[·]?)=os'[p]? from rfl,e1] at e;obtain rfl:=sI e;have:=see e1;rw[show gq idx os.length p=i from ro (cZ z)] at this;exact this
  ·(refine aA (Nat.exists_eq_add_of_le q) λ x P2=>?_;obtain rfl:=P2);have:=yV (idx:=idx) (os:=os) (os':=os') (q:=idx.length+x) (Mt _ _);rw[MF,e] at this;(refine aF this.symm λ o' e1 PZ=>?_;obtain rfl:=PZ);have:=see e1;rw[show gq idx os.length (idx.length+x)=os.length+x by unfold gq;refine ac (Oe (Mt _ _)) (ac (MF _ _) ?_);rfl] at this;exact this
 ·have cl:=K.X b o k z;by_cases q:r5 idx (1,k+1)=(1,3)
  ·exact B.old _ _ _ _ q cl
  ·match k,z,cl,q with
   | 0,_,_,q=>exact(q rfl).elim
   | 1,_,_,q=>exact(q rfl).elim
   | 2,_,_,q=>exact(q rfl).elim
   | i+3,z,cl,q=>
    cases e:eP idx i with
    | none=>exact(q (rY e)).elim
    | some p=>exact B.vis _ _ _ _ _ _ (xN (cZ e)) (λ q=>(nq (congrArg NE q) rfl)) (K'.X b o (p+3) (.inl (aq i p ⟨cZ e,rfl,z⟩)))
end
section
variable{c:Cx}{d:Nat}{ρ ρ':RR}{σ σ':St}{s s':Mc}{h h':M4}{τ τ':Addr->bo}{os os' os₁ os'':List AO}{ph:Bool}{idx:List Nat}{lo:Nat}
noncomputable def jD(loc:List (Nat×AV))(m:Str->Option Value):List (Nat×AV):=loc.map λ x=>(x.1,.val ((m (nm x.1)).getD .none))
theorem oO{f:Nat->AV->AV}:∀{loc:List (Nat×AV)},(loc.map λ x=>(x.1,f x.1 x.2)).lookup i=(loc.lookup i).map (f i):=by intro l_;induction l_ with
 | nil=>exact rfl
 | cons x loc P9=>
  refine ac MP (ac MI (ac MI ?_));by_cases q:i=x.1
  ·refine ac q (ac (beq_self_eq_true _) ?_);rfl
  ·refine ac (beq_false_of_ne q) ?_;exact P9
theorem c6.raw{m:Str->Option Value}(h:c6 ρ loc m):c6 ρ' (jD loc m) m:=λ i a e=>by
 rw[show(jD loc m).lookup i=_ from oO (f:=λ i zz=>.val ((m (nm i)).getD .none))] at e;(refine aF e λ b hb PZ=>?_;obtain rfl:=PZ);refine ag (h i b hb) λ v w1 zz=>⟨v,w1,by refine ac w1 ?_;rfl⟩
theorem c6.unraw{m m':Str->Option Value}(h:c6 ρ loc m)(h':c6 ρ' (jD loc m) m'):c6 ρ loc m':=λ i a e=>by
 refine ag (h i a e) λ v w1 w2=>ag (h' i (.val ((m (nm i)).getD .none)) (by refine ac (show(jD loc m).lookup i=_ from oO (f:=λ i zz=>.val ((m (nm i)).getD .none))) (ac e ?_);rfl)) λ u k1 k2=>?_;rw[w1] at k2;exact⟨v,k1.trans (congrArg L6 k2),w2⟩
theorem zK(v:AV):ik (λ zz=>L7) v=L7:=by cases v<;>rfl
theorem Hk(nd:idx.Nodup)(h:qy idx i=L7):gq idx N (jE idx i)=i:=by
 refine lW h λ p hp=>ac (show jE idx i=p from congrArg (·.getD 0) hp)<|ro (cZ hp)
theorem fo(hp:∀i,p i=L7->g (f i)=i)(o:ik p v=L7):b9 g (b9 f v)=v:=by
 cases v with
 | obj i=>exact congrArg AV.obj (hp i o)
 | _=>rfl
theorem jL:∀{l:List α},(∀x,q x=L7->f x=x)->l.all q=L7->l.map f=l:=by intro l_;induction l_ with
 | nil=>exact λ zz zz=>rfl
 | cons x l P9=>exact λ h o=>af (show(q x&&l.all q)=L7 from o) λ o1 o2=>by exact ac MP (ac (h x o1) (ac (P9 h o2) rfl))
theorem tI(hp:∀i,p i=L7->g (f i)=i)(ok:lP p o=L7):dL g (dL f o)=o:=by
 have a:∀l:List AV,l.all (ik p)=L7->(l.map (b9 f)).map (b9 g)=l:=λ l o=>by refine ac MH ?_;exact jL (λ x q=>fo hp q) o
 have b:∀{κ:Type} (l:List (κ×AV)),l.all (λ x=>ik p x.2)=L7->(l.map λ x=>(x.1,b9 f x.2)).map (λ x=>(x.1,b9 g x.2))=l:=λ l o=>by refine ac MH ?_;exact jL (λ x q=>congrArg (Prod.mk x.1) (fo hp q)) o
 cases o with
 | lst l=>exact congrArg AO.lst (a l ok)
 | tup l=>exact congrArg AO.tup (a l ok)
 | frz q l=>exact congrArg (AO.frz q) (a l ok)
 | ins C l=>exact congrArg (AO.ins C) (b l ok)
 | dic l=>exact congrArg AO.dic (b l ok)
 | frd l=>exact congrArg AO.frd (b l ok)
 | cel v=>cases v with
  | none=>rfl
  | some v=>exact congrArg (λ v=>AO.cel (L6 v)) (fo hp ok)
 | dir t v A B=>cases v with
  | none=>rfl
  | some v=>exact congrArg (λ v=>AO.dir t (L6 v) A B) (fo hp ok)
 | _=>rfl
theorem uX(P:hH idx os os₁):yY idx os (os₁++tl)=os++tl.map (dL (gq idx os.length)):=by
 unfold yY;refine ac (List.drop_left' P.ln)<|congrArg (·++tl.map (dL (gq idx os.length))) (List.ext_getElem? λ i=>?_);refine ac (Pp) ?_;cases e:os[i]? with
 | none=>rfl
 | some SA=>
  cases z:eP idx i with
  | none=>rfl
  | some p=>
   refine cC (P.o p i (cZ z)) λ o e1 ok e2=>?_;obtain rfl:=sI (e.symm.trans e1);skip
   refine(?_:L6 (((os₁++tl)[p]?).elim _ _)=_);refine ac (ck e2)<|congrArg L6 (tI (λ i=>Hk P.nd) ok)
theorem jF(hT:be T)(P:hH idx σ.obs os₁)(hv:vs.all (ik (qy idx))=L7)
  (h:∀loc,(aC T n).cal k (.val (.ref f)) (vs.map (b9 (jE idx))) ⟨loc,os₁,σ.ph⟩=L6 (a,⟨loc,os₁++tl,σ.ph⟩)) (C:aQ c (d+k)) (R:au c ρ σ s) (x:IsL ρ vs us):W c (call (.ref f) us) (PE c ρ {σ with obs:=σ.obs++tl.map (dL (gq idx σ.obs.length))} (b9 (gq idx σ.obs.length) a)) s:=by
 (refine au.el R λ m τ F L K r=>?_;clear R);have QC:aQ (c.fix (EJ c s.heap τ idx)) k:=aQ.fix (C.less (Nr k d));have P7:IsL (uF ρ idx) (vs.map (b9 (jE idx))) us:=ay.ren (R:=Is ρ) (λ a v o y=>Is.ren (ρ:=ρ) (ρ':=uF ρ idx) (λ i x z e=>rZ z e) Fz.Le.refl o y) hv x;refine aK ((bp hT n).cal k (.ref f) _ _ _ (c.fix (EJ c s.heap τ idx)) (uF ρ idx) s us (h (jD σ.loc (dn c.vc m))) QC ⟨m,_,F,L.raw,K.pick P,r⟩ P7) λ v s' z=>?_;(refine PE.el z λ ρ' le PZ y=>?_;clear z;obtain⟨m',τ',F',L',K',r'⟩:=PZ);have K₂:=K.unpick P K' le;rw[show yY idx σ.obs (os₁++tl)=_ from uX P] at K₂;have lr:ρ.Le (Bb ρ ρ' idx.length):=⟨λ zz zz h=>ck h,le.z⟩
 exact⟨_,lr,⟨m',_,F',(L.unraw L').mono lr,K₂,r'⟩,y.ren (ρ':=Bb ρ ρ' idx.length) (f:=gq idx σ.obs.length) (p:=λ zz=>L7) (λ i x zz e=>uZ K P le e) Fz.Le.refl (zK a)⟩
theorem ij(hT:be T)(P:hH idx σ.obs os₁)(hv:vs.all (ik (qy idx))=L7)(ha:b9 (gq idx σ.obs.length) a=a)
  (h:∀loc,(aC T n).cal k (.val (.ref f)) (vs.map (b9 (jE idx))) ⟨loc,os₁,σ.ph⟩=L6 (a,⟨loc,os₁,σ.ph⟩)) (C:aQ c (d+k)) (R:au c ρ σ s) (x:IsL ρ vs us):W c (call (.ref f) us) (PE c ρ σ a) s:=by
 have z:=jF (tl:=[]) hT P hv (λ loc=>by refine ac (Mg _) ?_;exact h loc) C R x;rw[ha,show σ.obs++([]:List AO).map _=σ.obs from Mg _] at z;exact z
noncomputable def EQ(z:Fz)(h:M4)(τ':Addr->bo)(n:Nat):Fz:=⟨λ a o=>z.cel a o\/∃k j,τ' a=(k+3,j)/\n<=k/\h.get? a=L6 o,z.bds⟩
theorem xO{z:Fz}:z.Le (EQ z h τ' n):=⟨λ zz zz z=>.inl z,λ zz zz z=>z⟩
noncomputable def wn(f:AV->Option PV):List AV->Option (List PV)
 | []=>L6 []
 | a::l=>(f a).bind λ p=>(wn f l).map λ ps=>p::ps
noncomputable def BH(g:AV->Option PV)(o:AO):Option PV:=match o with
 | .lst l=>(wn g l).map (.seq L7)
 | .tup l=>(wn g l).map (.seq L8)
 | .ins C f=>(wn g (f.map (·.2))).map (.ins C (f.map (·.1)))
 | _=>L9
noncomputable def pt(lo:Nat)(os:List AO):Nat->AV->Option PV
 | 0,_=>L9
 | n+1,a=>(toP a).or ((En a).bind λ i=>(if lo<=i then os[i]? else L9).bind (BH (pt lo os n)))
theorem mG(hf:∀a p v,f a=L6 p->Is ρ a v->bA z' p v):∀{l:List AV} {vs:List Value} {ps:List PV},IsL ρ l vs->wn f l=L6 ps->ay (bA z') ps vs:=by intro l_;induction l_ with
 | nil=>intro vs ps x h;exact sI h▸x
 | cons a l P9=>
  intro vs ps x h;refine lp h λ p hp h1=>?_;(refine aF h1 λ qs hq PZ=>?_;obtain rfl:=PZ);(revert x;refine λ P3=>ao P3 λ v vs PZ x xs=>?_;clear P3;obtain rfl:=PZ);exact(aq v vs ⟨rfl,hf _ _ _ hp x,P9 xs hq⟩)
theorem cw.split:∀{f:List (Nat×AV)} {es:List OC},cw ρ f es->∃vs,IsL ρ (f.map (·.2)) vs/\fh (f.map (·.1)) vs es:=by intro l_;induction l_ with
 | nil=>intro es h;exact⟨[],rfl,rfl,h⟩
 | cons p f P9=>
  intro es h;refine nU.el (gT h) λ v es' x r k=>ag (P9 r) λ vs h1 h2=>⟨v::vs,(ay.k x h1),k _ _ h2⟩
theorem xe(hl:lo<=i)(hg:∀a p v,g a=L6 p->Is ρ' a v->bA (EQ ρ'.z h' τ' lo) p v)(X:OR c.w c.fx h' τ' ρ' (i+3) o xa)(e:BH g o=L6 p):bA (EQ ρ'.z h' τ' lo) p (.ref xa):=by
 cases o with
 | lst l=>
  (refine aF e λ ps hp PZ=>?_;obtain rfl:=PZ);refine aZ X λ vs n cl y=>aA (bA.all (mG hg y hp)) λ k w=>⟨k+1,xa,n,vs,rfl,.inr ⟨i,0,cl.t,hl,cl.g⟩,w⟩
 | tup l=>
  (refine aF e λ ps hp PZ=>?_;obtain rfl:=PZ);refine aZ X λ vs n cl y=>aA (bA.all (mG hg y hp)) λ k w=>⟨k+1,xa,n,vs,rfl,.inr ⟨i,0,cl.t,hl,cl.g⟩,w⟩
 | ins C f=>
  (refine aF e λ ps hp PZ=>?_;obtain rfl:=PZ);refine aP X λ dx es n c0 c1 ent=>ag ent.split λ vs y ek=>aA (bA.all (mG hg y hp)) λ k w=>⟨k+1,xa,dx,n,vs,es,rfl,.inr ⟨i,0,c0.t,hl,c0.g⟩,.inr ⟨i,1,c1.t,hl,c1.g⟩,ek,w⟩
 | _=>exact nn e
theorem xd(K:aR c h' τ' ρ' os' ph)(n:Nat):∀(a:AV) (p:PV) (v:Value),pt lo os' n a=L6 p->Is ρ' a v->bA (EQ ρ'.z h' τ' lo) p v:=by
 induction n with
 | zero=>exact λ a p v e zz=>nn e
 | succ n ih=>
  intro a p v e x;rcases aY e with e|e
  ·exact(x.toP e).mono xO
  ·refine ae e λ i hi e1=>ae e1 λ o ho e2=>ai ho λ hl ho=>?_;rw[kH hi] at x;(refine ag x λ b P2 eb=>?_;clear x;obtain rfl:=P2);refine ag (K.O i o ho) λ xa ea X=>?_;obtain rfl:=My (eb.symm.trans ea);exact xe hl ih X e2
end
theorem lK{os:List AO}:hH [] os []:=⟨.nil,rfl,λ zz zz e=>(dC e)⟩
theorem CU{vs:List AV}(hv:vs.all (ik λ zz=>L8)=L7):vs.map (b9 f)=vs:=jL (λ v q=>by
 cases v with
 | obj=>exact ff q
 | _=>rfl) hv
theorem qw{T:bq}(hT:be T)(hv:vs.all (ik λ zz=>L8)=L7)(ha:ik (λ zz=>L8) a=L7)(h:∀loc ph,(aC T n).cal 8 (.val (.ref f)) vs ⟨loc,[],ph⟩=L6 (a,⟨loc,[],ph⟩)):hG f vs (.inl a):=λ c d ρ σ s us C R x=>
 ij (n:=n) (k:=8) hT lK hv (by cases a<;>first|rfl|exact ff ha) (λ loc=>by refine ac (CU hv) ?_;exact h loc σ.ph) C R x
noncomputable def mp{α β:Type}(f:α->β):List α->List β
 | []=>[]
 | x::l=>f x::mp f l
theorem am:∀{l:List α},l.map f=mp g l->∀x∈l,f x=g x:=by intro l_;induction l_ with
 | nil=>exact λ zz zz h=>(ni h)
 | cons y l P9=>exact λ e x h=>(mC h).elim (λ q=>q▸(Of e).1) (P9 (Of e).2 x)
theorem sk{f g:α->β->γ}(h:l.map (λ x=>m.map (f x))=mp (λ x=>mp (g x) m) l)(x:α)(hx:x∈l)(y:β)(hy:y∈m):f x y=g x y:=am (am h x hx) y hy
theorem LH{f g:α->β->γ->δ}(h:l.map (λ x=>m.map λ y=>o.map (f x y))=mp (λ x=>mp (λ y=>mp (g x y) o) m) l)(x:α)(hx:x∈l)(y:β)(hy:y∈m)(z:γ)(hz:z∈o):f x y z=g x y z:=sk (am h x hx) y hy z hz
noncomputable def Gj:List (List UInt8×List UInt8):=[([97],[97]),([94,97],[67,45,97]),([67,45,97],[67,45,97]),([117,112],[85,112]),([77,45,67,45,120],[67,45,77,45,120]),([83,45,97],[65]),([65,110,121],[65,110,121]),([70,53],[70,53]),([67,45,98],[67,45,98])]
noncomputable def I8:bq:=tb (λ zz zz=>L9) (λ zz zz zz=>L9) (λ zz=>L8) (λ zz zz zz zz=>L9) λ zz zz zz=>L9
theorem vg:be I8:=ot (λ zz zz zz e=>nn e) (λ zz zz zz zz e=>nn e) (λ zz e=>(ff e)) (λ zz zz zz zz zz e=>nn e) λ zz zz zz zz e=>nn e
theorem Dn(loc:List (Nat×AV))(ph:Bool):Gj.map (λ x=>(aC I8 300).cal 8 (.val (.ref 622)) [.byt x.1] ⟨loc,[],ph⟩)=mp (λ x=>L6 (.byt x.2,⟨loc,[],ph⟩)) Gj:=by kernel_rfl
theorem Gk(h:x∈Gj):hG 622 [.byt x.1] (.inl (.byt x.2)):=qw (n:=300) vg rfl rfl λ loc ph=>am (Dn loc ph) x h
section
variable{T:bq}{n d:Nat}{σ σ' σ'':St}
theorem a9(h:bv T (aC T n) d s σ=L6 (.nxt,σ'))(h':(aC T n).exs d ss σ'=r):(aC T (n+1)).exs d (s::ss) σ=r:=by
 refine(?_:(bv T (aC T n) d s σ).bind _=r);refine ac h ?_;exact h'
theorem dD(h:bv T (aC T n) d s σ=L6 (.ret v,σ')):(aC T (n+1)).exs d (s::ss) σ=L6 (.ret v,σ'):=by
 refine(?_:(bv T (aC T n) d s σ).bind _=_);refine ac h ?_;rfl
theorem mY(h:(aC T n).ev d x σ=L6 (v,σ')):bv T (aC T n) d (.asg i q x p) σ=L6 (.nxt,{σ' with loc:=upd i v σ'.loc}):=by
 refine(?_:((aC T n).ev d x σ).map _=_);refine ac h ?_;rfl
theorem cL(h:(aC T n).ev d x σ=L6 (v,σ')):bv T (aC T n) d (.ret x p) σ=L6 (.ret v,σ'):=by
 refine(?_:((aC T n).ev d x σ).map _=_);refine ac h ?_;rfl
theorem wU(h:(aC T n).ev d x σ=L6 (v,σ')):bv T (aC T n) d (.ex x p) σ=L6 (.nxt,σ'):=by
 refine(?_:((aC T n).ev d x σ).map _=_);refine ac h ?_;rfl
theorem ed(h:(aC T n).tst d t σ=L6 (c,σ'))(h':(if c then(aC T n).exs d a σ' else(aC T n).exs d b σ')=r):bv T (aC T n) d (.iff t a b p) σ=r:=by
 refine(?_:((aC T n).tst d t σ).bind _=r);refine ac h ?_;exact h'
theorem ee(h:(aC T n).ev d f σ=L6 (fv,σ'))(h':pg ((aC T n).ev d) l σ'=L6 (vs,σ''))(h'':(aC T n).cal d fv vs σ''=r):(aC T (n+1)).ev d (.call f l p) σ=r:=by
 refine(?_:((aC T n).ev d f σ).bind _=r);refine ac h<|(?_:(pg ((aC T n).ev d) l σ').bind _=r)
 refine ac h' ?_;exact h''
theorem ng(h:(aC T n).ev d o σ=L6 (v,σ'))(hm:Gi T σ'.obs v a=L6 fv)(h':pg ((aC T n).ev d) l σ'=L6 (vs,σ''))(h'':(aC T n).cal d fv (v::vs) σ''=r):(aC T (n+1)).ev d (.meth o a ap l p) σ=r:=by
 refine(?_:((aC T n).ev d o σ).bind _=r);refine ac h<|(?_:(Gi T σ'.obs v a).bind _=r)
 refine ac hm<|(?_:(pg ((aC T n).ev d) l σ').bind _=r)
 refine ac h' ?_;exact h''
theorem u7(h:(aC T n).ev d a σ=L6 (u,σ'))(h':(aC T n).ev d b σ'=L6 (v,σ''))(hc:eO T σ''.obs op u v=L6 c):EC T (aC T n) d op a b σ=L6 (c,σ''):=by
 refine(?_:((aC T n).ev d a σ).bind _=_);refine ac h<|(?_:((aC T n).ev d b σ').bind _=_)
 refine ac h'<|(?_:(eO T σ''.obs op u v).map _=_)
 refine ac hc ?_;rfl
theorem DN(h:(aC T n).ev d a σ=L6 (u,σ'))(h':(aC T n).ev d b σ'=L6 (v,σ''))(hc:eO T σ''.obs op u v=L6 c):(aC T (n+1)).ev d (.cmp op a b p) σ=L6 (.boo c,σ''):=congrArg (Nk y8) (u7 h h' hc)
theorem i6(h:(aC T n).ev d a σ=L6 (u,σ'))(h':(aC T n).ev d b σ'=L6 (v,σ''))(hc:eO T σ''.obs op u v=L6 c):(aC T (n+1)).tst d (.cmp op a b p) σ=L6 (c,σ''):=u7 h h' hc
theorem rM(n1:bG P1=L7)(n2:bG P8=L7)(h:(aC T (n+2)).tst d P1 σ=L6 (a,σ))(h':(aC T (n+1)).tst d P8 σ=L6 (b,σ)):(aC T (n+3)).tst d (.or [P1,P8] p) σ=L6 (a||b,σ):=by
 refine(?_:(if bG P1=L7 then((aC T (n+2)).tst d P1 σ).bind (λ r=>if r.1 then L6 (L7,r.2) else(aC T (n+2)).tst d (.or [P8] p) r.2) else L9)=_);refine ac (if_pos n1) (ac h ?_);cases a
 ·refine(?_:(if bG P8=L7 then((aC T (n+1)).tst d P8 σ).bind (λ r=>L6 r) else L9)=_);refine ac (if_pos n2) (ac h' ?_);rfl
 ·rfl
theorem et(hm:T.kp.contains a=L7)(hs:Hd T (d+1) a vs σ=L9)(hk:Hf T (d+1) a vs σ=L9)(hp:T.pur a vs=L9)(hf:T.fns.lookup (a,vs.length)=L6 fd)
  (h:run (aC T n) d fd vs σ.obs σ.ph=L6 (.ret v,σ₁)):(aC T (n+1)).cal (d+1) (.val (.ref a)) vs σ=L6 (v,⟨σ.loc,mz σ.obs.length v σ₁.obs,σ₁.ph⟩):=by
 refine(?_:(if T.kp.contains a=L7 then(Hd T (d+1) a vs σ).or ((Hf T (d+1) a vs σ).or ((Ka T (d+1) a vs σ).or ((IS T (aC T n) (d+1) a vs σ).or _))) else L9)=_);have e1:Ka T (d+1) a vs σ=L9:=by
  refine(?_:(less 8 (d+1)).bind (λ zz=>(T.pur a vs).map (zy σ))=L9);refine ac hp ?_;cases less 8 (d+1)<;>rfl
 have e2:IS T (aC T n) (d+1) a vs σ=L6 (v,⟨σ.loc,mz σ.obs.length v σ₁.obs,σ₁.ph⟩):=by
  refine(?_:(T.fns.lookup (a,vs.length)).bind _=_);refine ac hf<|(?_:(run (aC T n) d fd vs σ.obs σ.ph).bind _=_)
  refine ac h ?_;rfl
 refine ac (if_pos hm) (ac hs (ac hk (ac e1 (ac e2 ?_))));rfl
end
theorem y9(p:PV):toP (ofP p)=L6 p:=by cases p<;>rfl
theorem eT:∀{l:List α},toPs (l.map λ x=>ofP (f x))=L6 (l.map f)
 | []=>rfl
 | x::l=>by
  refine(?_:(toP (ofP (f x))).bind (λ p=>(toPs (l.map λ x=>ofP (f x))).map λ ps=>p::ps)=_);refine ac (y9 _) (ac (eT (l:=l)) ?_);rfl
section
variable{T:bq}{n d:Nat}{σ:St}{α:Type}
theorem sv{run:St->Option (AV×St)}{os:List AO}:∀{l:List α} {loc:List (Nat×AV)},
  (∀x∈l,∃Qd,put T t (g x) ⟨base,os,ph⟩=L6 ⟨Qd,os,ph⟩/\tst ⟨Qd,os,ph⟩=L6 (c x,⟨Qd,os,ph⟩)/\(c x=L7->run ⟨Qd,os,ph⟩=L6 (h x,⟨Qd,os,ph⟩)))->
  ∃loc',sx T t base tst run (l.map g) ⟨loc,os,ph⟩=L6 ((l.filter c).map h,⟨loc',os,ph⟩):=by intro l_;induction l_ with
 | nil=>intro loc _;exact⟨loc,rfl⟩
 | cons x l P9=>
  intro loc H;refine cC (H x (.head _)) λ Qd h1 h2 h3=>aA (P9 (loc:=Qd) λ y hy=>H y (.tail _ hy)) λ loc' ih=>⟨loc',?_⟩
  refine(?_:(put T t (g x) ⟨base,os,ph⟩).bind _=_);refine ac h1<|(?_:(tst ⟨Qd,os,ph⟩).bind _=_)
  refine ac h2 ?_;cases hc:c x with
  | true=>
   refine(?_:(run ⟨Qd,os,ph⟩).bind _=_);refine ac (h3 hc) ?_;refine(?_:(sx T t base tst run (l.map g) ⟨Qd,os,ph⟩).map _=_);refine ac ih (ac (NX hc) ?_);rfl
  | false=>
   refine(?_:sx T t base tst run (l.map g) ⟨Qd,os,ph⟩=_);exact ac ih (ac (Nu (by rw[hc];exact MC)) rfl)
theorem sS{nms:List (Nat×NameKind)}{l:List α}{g:α->PV}{os:List AO}{loc:List (Nat×AV)}
  (hi:(aC T n).ev d it σ=L6 (.pv (.seq L7 (l.map g)),⟨loc,os,ph⟩)) (hl:l.length<=1000)
  (H:∀x∈l,∃Qd,put T t (ofP (g x)) ⟨dU fv loc,os,ph⟩=L6 ⟨Qd,os,ph⟩/\kN (aC T n) d cn ⟨Qd,os,ph⟩=L6 (c x,⟨Qd,os,ph⟩)/\(c x=L7->(aC T n).ev d e ⟨Qd,os,ph⟩=L6 (ofP (h x),⟨Qd,os,ph⟩))) :
  (aC T (n+1)).ev d (.lc e t it cn nms fv q) σ=L6 (.pv (.seq L7 ((l.filter c).map h)),⟨loc,os,ph⟩):=by
 refine aA (sv (T:=T) (t:=t) (base:=dU fv loc) (tst:=kN (aC T n) d cn) (run:=(aC T n).ev d e) (g:=λ x=>ofP (g x)) (h:=λ x=>ofP (h x)) (c:=c) (os:=os) (ph:=ph) (l:=l) (loc:=loc) H) λ loc' L=>?_;refine(?_:((aC T n).ev d it σ).bind _=_);refine ac hi ?_;refine(?_:(if((l.map g).map ofP).length<=1000 then(sx T t (dU fv loc) _ _ ((l.map g).map ofP) ⟨loc,os,ph⟩).map (λ r=>mkS L7 r.1 ⟨loc,r.2.obs,r.2.ph⟩) else L9)=_);refine ac (if_pos (by simpa using hl)) (ac MH ?_);have L':=L;refine(congrArg (Nk _) L').trans ?_;refine(?_:L6 (mkS L7 ((l.filter c).map λ x=>ofP (h x)) ⟨loc,os,ph⟩)=_);unfold Mine.mkS;exact ac eT rfl
end
noncomputable def jZ(m q:Nat)(x y:AV):AO:=.ins 754 [(132,.obj m),(185,.obj q),(183,x),(186,y),(184,.int 500)]
noncomputable def bl(rows:List (List UInt8×BR)):List (List UInt8×PV):=rows.map λ x=>(x.1,.bnd x.2)
noncomputable def Jx(vs:List AV):Option (AV ⊕ AO):=(Ck vs).bind λ v=>(fY v).bind λ w=>(Gj.lookup w).map λ b=>.inl (.byt b)
noncomputable def p1(a:Addr)(vs:List AV):Option (AV ⊕ AO):=if a=622 then Jx vs else L9
theorem Bj(a:Addr)(vs:List AV)(r:AV ⊕ AO)(h:p1 a vs=L6 r):hG a vs r:=by
 refine ai h λ e h1=>ae h1 λ v hv h2=>ae h2 λ w hw h3=>bK h3 λ b hb=>ac e (ac (jv hv) (ac (a7 hw) ?_));exact Gk (aN hb)
noncomputable def pU:bq:=tb p1 (λ zz zz zz=>L9) (λ zz=>L8) (λ zz zz zz zz=>L9) λ zz zz zz=>L9
theorem dG:be pU:=ot Bj (λ zz zz zz zz e=>nn e) (λ zz e=>(ff e)) (λ zz zz zz zz zz e=>nn e) λ zz zz zz zz e=>nn e
noncomputable def aO:List (List UInt8×List UInt8):=Gj.take 8
section
variable{c:Cx}{d:Nat}{ρ ρ':RR}{σ σ':St}{s s':Mc}{h h':M4}{τ τ':Addr->bo}{os os':List AO}{ph ph':Bool}{φ ψ:bo->bo}{X:Addr->Obj->Nat->Prop}{i:Nat}{S S':KT}
noncomputable def wY(ix:List Nat)(j:Nat):bo:=match j with
 | 0=>(3,0)
 | 1=>(3,1)
 | 2=>(4,0)
 | 3=>(5,0)
 | j=>(match eP ix j with|some p=>(p+6,0)|none=>(1,3))
noncomputable def b7(i:Nat)(ix:List Nat)(t:bo):bo:=match t.1 with
 | 0=>t
 | 1=>if t.2=0 then t else(1,3)
 | 2=>t
 | k+3=>if k=i then wY ix t.2 else(1,3)
noncomputable def EK(n:Nat)(ix:List Nat)(x j:Nat):bo:=match x with
 | 0=>(n+3,j)
 | 1=>(n+3,2)
 | 2=>(1,0)
 | 3=>(n+3,3)
 | q+4=>(match ix[q]? with|some j=>(n+3,j)|none=>(1,0))
noncomputable def d9(i n:Nat)(ix:List Nat)(t:bo):bo:=match t.1 with
 | 0=>t
 | 1=>if t.2=0 then t else(0,0)
 | 2=>t
 | 3=>(i+3,t.2)
 | 4=>(i+3,2)
 | 5=>(i+3,3)
 | p+6=>(match ix[p]? with|some j=>(i+3,j)|none=>EK n ix (p-ix.length) t.2)
theorem l5:b7 i ix (i+3,j)=wY ix j:=if_pos rfl
theorem G5(h:k≠i):b7 i ix (k+3,j)=(1,3):=if_neg h
theorem wW(h:eP ix (j+4)=L6 p):wY ix (j+4)=(p+6,0):=by
 refine(?_:(match eP ix (j+4) with|some p=>(p+6,0)|none=>(1,3))=_);exact ac h rfl
theorem DL(h:eP ix (j+4)=L9):wY ix (j+4)=(1,3):=by
 refine(?_:(match eP ix (j+4) with|some p=>(p+6,0)|none=>(1,3))=_);exact ac h rfl
theorem qS(h:ix[p]?=L6 j):d9 i n ix (p+6,j')=(i+3,j):=by
 refine(?_:(match ix[p]? with|some j=>(i+3,j)|none=>EK n ix (p-ix.length) j')=_);exact ac h rfl
theorem DF:d9 i n ix (ix.length+x+6,j')=EK n ix x j':=by
 refine(?_:(match ix[ix.length+x]? with|some j=>(i+3,j)|none=>EK n ix (ix.length+x-ix.length) j')=_);exact ac (Oe (Mt _ _)) (ac (MF _ _) rfl)
theorem wX(h:b7 i ix t=(k+2,j)):∃i j',t=(i+2,j'):=by
 obtain⟨a,b⟩:=t;match a with
 | 0=>exact nq (congrArg Mn h) rfl
 | 1=>
  cases b with
  | zero=>exact nq (congrArg Mn h) rfl
  | succ b=>exact nq (congrArg Mn h) rfl
 | i+2=>exact(aq i b rfl)
theorem DE(h:d9 i n ix t=(k+2,j)):∃i j',t=(i+2,j'):=by
 obtain⟨a,b⟩:=t;match a with
 | 0=>exact nq (congrArg Mn h) rfl
 | 1=>
  cases b with
  | zero=>exact nq (congrArg Mn h) rfl
  | succ b=>exact nq (congrArg Mn h) rfl
 | i+2=>exact(aq i b rfl)
inductive yq(c:Cx)(h:M4)(τ:Addr->bo)(ρ:RR)(os:List AO)(ph:Bool)(i:Nat)(S:KT):Prop
 | mk (a dm dl:Addr) (om:Obj) (kvs:List (List UInt8×Value)) (v1 v2:Value) (ea:ρ.ad[i]?=L6 a) (p:bA ρ.z (aJ S.pre) v1) (q:bA ρ.z (aJ S.sec) v2) (ok:S.ok) (cm:Cl h τ (i+3) 2 dm om) (dom:bF c.w om kvs) (rs:ay (ci c.w h τ ρ.z (i+3)) S.made kvs)
  (k:∀(ix:List Nat) (x y:AV) (D:AO) (rest:List AO) (adr:List Addr),adr.length=rest.length->Is ⟨a::dm::dl::adr,ρ.z⟩ x v1->Is ⟨a::dm::dl::adr,ρ.z⟩ y v2->OR c.w (jk h τ (b7 i ix)) h (λ b=>b7 i ix (τ b)) ⟨a::dm::dl::adr,ρ.z⟩ 4 D dm->
   (∀p o,rest[p]?=L6 o->∃b,adr[p]?=L6 b/\OR c.w (jk h τ (b7 i ix)) h (λ b=>b7 i ix (τ b)) ⟨a::dm::dl::adr,ρ.z⟩ (p+6) o b)->aR (c.fix (jk h τ (b7 i ix))) h (λ b=>b7 i ix (τ b)) ⟨a::dm::dl::adr,ρ.z⟩ (jZ 1 2 x y::D::.dic []::rest) ph)
theorem aR.ktin(K:aR c h τ ρ os ph)(e:os[i]?=L6 (.ktb S)):yq c h τ ρ os ph i S:=by
 obtain⟨a,ea,dx,dm,dl,om,ol,es,n,kvs,v1,v2,t,c0,c1,c2,c3,ek,p,q,dom,dol,ok,rs⟩:=K.O i _ e;refine⟨a,dm,dl,om,kvs,v1,v2,ea,p,q,ok,c2,dom,rs,λ ix x y D rest adr hl hx hy hD hr=>?_⟩;have cl:∀{b o j},Cl h τ (i+3) j b o->Cl h (λ b=>b7 i ix (τ b)) (wY ix j).1 (wY ix j).2 b o:=λ z=>⟨z.g,(congrArg (b7 i ix) z.t).trans l5⟩
 refine K.vin (λ zz=>rfl) (λ t k j=>wX) rfl (λ zz zz z=>z) (λ a r z=>(K.B a r z).imp (λ b o j cl=>⟨cl.g,congrArg (b7 i ix) cl.t⟩) Fz.Le.refl) (congrArg (·+3) hl) (λ b o k z=>mZ z) λ j o e=>?_;match j,e with
 | 0,e=>
  obtain rfl:=sI e;exact⟨a,rfl,(aI dx es n ⟨cl c0,cl c1,fh.ent (l:=[.obj 1,.obj 2,x,y,.int 500]) ek (ay.k ⟨dm,rfl,rfl⟩ (ay.k ⟨dl,rfl,rfl⟩ (ay.k hx (ay.k hy (ay.k ⟨t,rfl⟩ rfl)))))⟩)⟩
 | 1,e=>obtain rfl:=sI e;exact⟨dm,rfl,hD⟩
 | 2,e=>obtain rfl:=sI e;exact⟨dl,rfl,(aq ol ([]) ⟨cl c3,dol,rfl⟩)⟩
 | p+3,e=>exact hr p o e
theorem yq.el{P':Prop}(h':yq c h τ ρ os ph i S) (k':∀(a dm dl:Addr) (om:Obj) (kvs:List (List UInt8×Value)) (v1 v2:Value) (ea:ρ.ad[i]?=L6 a) (p:bA ρ.z (aJ S.pre) v1) (q:bA ρ.z (aJ S.sec) v2) (ok:S.ok) (cm:Cl h τ (i+3) 2 dm om) (dom:bF c.w om kvs) (rs:ay (ci c.w h τ ρ.z (i+3)) S.made kvs) (k:∀(ix:List Nat) (x y:AV) (D:AO) (rest:List AO) (adr:List Addr),adr.length=rest.length->Is ⟨a::dm::dl::adr,ρ.z⟩ x v1->Is ⟨a::dm::dl::adr,ρ.z⟩ y v2->OR c.w (jk h τ (b7 i ix)) h (λ b=>b7 i ix (τ b)) ⟨a::dm::dl::adr,ρ.z⟩ 4 D dm->
   (∀p o,rest[p]?=L6 o->∃b,adr[p]?=L6 b/\OR c.w (jk h τ (b7 i ix)) h (λ b=>b7 i ix (τ b)) ⟨a::dm::dl::adr,ρ.z⟩ (p+6) o b)->aR (c.fix (jk h τ (b7 i ix))) h (λ b=>b7 i ix (τ b)) ⟨a::dm::dl::adr,ρ.z⟩ (jZ 1 2 x y::D::.dic []::rest) ph),P'):P':=by
 obtain⟨a,dm,dl,om,kvs,v1,v2,ea,p,q,ok,cm,dom,rs,k⟩:=h';exact k' a dm dl om kvs v1 v2 ea p q ok cm dom rs k
end
noncomputable def Ib(X:AO)(rows:List (List UInt8×BR)):Prop:=(∃n kn e em,X=.dip n kn e em (bl rows))\/X=.dic (rows.map λ x=>(x.1,.pv (.bnd x.2)))
section
variable{α β γ:Type}{R:α->β->Prop}
theorem ay.unmap:∀{xs:List γ} {ys:List β},ay R (xs.map f) ys->ay (λ x y=>R (f x) y) xs ys:=by intro l_;induction l_ with
 | nil=>intro _ h;exact h
 | cons x xs P9=>
  intro _ h;refine ao h λ y zs e a t=>(aq y zs ⟨e,a,(P9 t)⟩)
theorem ay.split:∀{l:List α} {ys:List β},ay R (l++x::l') ys->∃A y B,ys=A++y::B/\ay R l A/\R x y/\ay R l' B:=by intro l_;induction l_ with
 | nil=>
  intro _ h;refine ao h λ y zs e a t=>(aI ([]) y zs ⟨e,rfl,a,t⟩)
 | cons z l P9=>
  intro _ h;(refine ao h λ y zs PZ a t=>?_;clear h;obtain rfl:=PZ);(refine cJ (P9 t) λ A y' B Qb h1 h2 h3=>?_;obtain rfl:=Qb);exact(aI (y::A) y' B ⟨rfl,(aq y A ⟨rfl,a,h1⟩),h2,h3⟩)
theorem ay.impm:∀{xs:List α} {ys:List β},(∀x∈xs,∀y,R x y->R' x y)->ay R xs ys->ay R' xs ys
 | [],_,_,h=>h
 | x::xs,_,f,h=>by
  refine ao h λ y zs e a t=>(aq y zs ⟨e,f x (.head _) y a,t.impm λ x q=>f x (.tail _ q)⟩)
end
theorem vb(hx:x∈aE)(n:x≠t):dz x≠dz t:=λ e=>n (by
 have e:aE.findIdx (·==x)=aE.findIdx (·==t):=Nat.add_left_cancel e;have l:=List.findIdx_lt_length_of_exists (p:=(·==x)) ⟨x,hx,beq_self_eq_true x⟩;have h1:=Mx (Pq (w:=l));have h2:=Mx (Pq (xs:=aE) (p:=(·==t)) (w:=by refine bP e ?_;exact l));exact(h1.symm.trans (getElem_congr_idx e)).trans h2)
theorem qY(hx:x∈aE)(n:x≠t):wY [dz t] (dz x)=(1,3):=by
 refine ac (show dz x=aE.findIdx (·==x)+4 from MU _ _)<|DL (if_neg λ q:dz t=_=>vb hx n (by refine ac q ?_;exact MU _ _))
section
variable{c:Cx}{d:Nat}{ρ ρ':RR}{σ σ':St}{s s':Mc}{h h':M4}{τ τ':Addr->bo}{os os':List AO}{ph ph':Bool}{X:Addr->Obj->Nat->Prop}{i n:Nat}{S S':KT}{ix:List Nat}{z:Fz}
theorem wE(B:Bk c (b7 i ix) (d9 i n ix) h h' τ τ')(hx:wY ix (dz x.1)=(1,3))(le:ρ.z.Le z)(r:ci c.w h τ ρ.z (i+3) x y):ci c.w h' (hV (b7 i ix) (d9 i n ix) τ τ') z (i+3) x y:=by
 (refine j5 r λ q a o kv e1 e2 e3 e4=>?_;clear r);exact⟨q,(aI a o kv ⟨e1,B.old _ _ _ _ (l5.trans hx) e2,e3,e4.imp λ _ _ ⟨u,v⟩=>⟨u,v.mono le⟩⟩)⟩
theorem wD(B:Bk c (b7 i ix) (d9 i n ix) h h' τ τ')(K':aR (c.fix X) h' τ' ρ' os' ph')(e:os'[p]?=L6 o)(hX:Ib o rows)(hi:d9 i n ix (p+3,0)=(I+3,dz t))(hv:Is ρ' (.obj p) v):ci c.w h' (hV (b7 i ix) (d9 i n ix) τ τ') ρ'.z (I+3) (t,rows) (t,v):=by
 refine ag (K'.O p o e) λ a ea y=>?_;(refine ag hv λ b P2 eb=>?_;clear hv;obtain rfl:=P2);obtain rfl:=sI (ea.symm.trans eb);have vis:=λ o cl=>B.vis a o _ _ _ _ hi (λ q=>(nq (congrArg Mn q) rfl)) cl;rcases hX with ⟨n,kn,e,em,rfl⟩|rfl
 ·(revert y;refine λ P3=>bV P3 λ ob kvs cl d y QV=>?_;clear P3;clear QV);exact⟨rfl,(aI a ob kvs ⟨rfl,vis _ cl,d,y.unmap⟩)⟩
 ·refine ao y λ ob kvs cl d y=>⟨rfl,(aI a ob kvs ⟨rfl,vis _ cl,d,y.unmap⟩)⟩
theorem sV:∀{ks:List Nat} {l:List AV} {es:List OC},ks.length=l.length->cw ρ (ks.zip l) es->∃vs,fh ks vs es/\IsL ρ l vs:=by
 intro ks;induction ks with
 | nil=>
  intro l es n h;cases l with
  | nil=>exact⟨[],⟨rfl,h⟩,rfl⟩
  | cons a l=>exact nq n rfl
 | cons i ks ih=>
  intro l es n h;cases l with
  | nil=>exact nq n rfl
  | cons a l=>
   obtain⟨_,es',rfl,⟨hh,t,v,rfl,y⟩,h2⟩:=h;refine ag (ih (NF n) h2) λ vs k x=>⟨v::vs,⟨v,vs,hh,t,es',rfl,rfl,k⟩,ay.k y x⟩
theorem KX{a b c d:AV}{P:Prop}(h:IsL ρ [a,b,c,d] vs)(k:∀v w x y,Is ρ a v->Is ρ b w->Is ρ c x->Is ρ d y->vs=[v,w,x,y]->P):P:=by
 obtain⟨v,_,rfl,h1,w,_,rfl,h2,x,_,rfl,h3,y,_,rfl,h4,rfl⟩:=h;exact k v w x y h1 h2 h3 h4 rfl
theorem LN{a b c d e:AV}{P:Prop}(h:IsL ρ [a,b,c,d,e] vs)(k:∀v w x y z,Is ρ a v->Is ρ b w->Is ρ c x->Is ρ d y->Is ρ e z->vs=[v,w,x,y,z]->P):P:=by
 obtain⟨v,_,rfl,h1,h⟩:=h;exact KX h λ w x y z h2 h3 h4 h5 e=>k v w x y z h1 h2 h3 h4 h5 (congrArg (v::·) e)
theorem Bz{dm:Addr}(B:Bk c (b7 i ix) (d9 i n ix) h h' τ τ')(K':aR (c.fix X) h' τ' ρ' os' ph')(e:os'[p]?=L6 (jZ m q x y))(eq:os'[q]?=L6 (.dic []))(em:ρ'.ad[m]?=L6 dm)
  (i0:∀j,d9 i n ix (p+3,j)=(I+3,j)) (i2:d9 i n ix (m+3,0)=(I+3,2)) (i3:d9 i n ix (q+3,0)=(I+3,3)) (cm:Cl h' τ' (m+3) 0 dm om) (D:bF c.w om kvs) (ok:S'.ok)
  (hx:∀v,Is ρ' x v->bA ρ'.z (aJ S'.pre) v) (hy:∀v,Is ρ' y v->bA ρ'.z (aJ S'.sec) v) (rs:ay (ci c.w h' (hV (b7 i ix) (d9 i n ix) τ τ') ρ'.z (I+3)) S'.made kvs) :
  ∃a,ρ'.ad[p]?=L6 a/\fg c.w h' (hV (b7 i ix) (d9 i n ix) τ τ') ρ'.z (I+3) S' a:=by
 refine j4 (K'.O p _ e) λ a ea dx es k c0 c1 ent=>l9 (K'.O q _ eq) λ dl el ol kv cl dl' y3=>?_;obtain rfl:kv=[]:=y3;have n3:∀{k j:Nat},(k+3,j)≠((1,3):bo):=λ q=>(nq (congrArg Mn q) rfl)
 refine ag (sV (ks:=[132,185,183,186,184]) (l:=[.obj m,.obj q,x,y,.int 500]) rfl ent) λ vs ek xs=>LN xs λ v1 v2 v3 v4 v5 h1 h2 h3 h4 h5 ev=>ag h1 λ b1 e1 f1=>ag h2 λ b2 e2 f2=>aA h5 λ t e5=>?_;have e1:=e1.trans (congrArg Nq (sI (f1.symm.trans em)));have e2:=e2.trans (congrArg Nq (sI (f2.symm.trans el)));rw[ev,e1,e2,e5] at ek;exact⟨a,ea,dx,dm,dl,om,ol,es,k,kvs,v3,v4,t,B.vis _ _ _ _ _ _ (i0 0) n3 c0,B.vis _ _ _ _ _ _ (i0 1) n3 c1,B.vis _ _ _ _ _ _ i2 n3 cm,B.vis _ _ _ _ _ _ i3 n3 cl,ek,hx _ h3,hy _ h4,D,dl',ok,rs⟩
theorem aR.ktout(B:Bk c (b7 i ix) (d9 i n ix) h h' τ τ')(K:aR c h τ ρ os ph)(K':aR (c.fix (jk h τ (b7 i ix))) h' τ' ρ' os' ph')(le:ρ.z.Le ρ'.z)(hl:adN.length=osN.length)(ha:∀o,os[i]?=L6 o->∃a,ρ.ad[i]?=L6 a/\fg c.w h' (hV (b7 i ix) (d9 i n ix) τ τ') ρ'.z (i+3) S' a)
  (hN:∀p o,osN[p]?=L6 o->∃a,adN[p]?=L6 a/\OR c.w c.fx h' (hV (b7 i ix) (d9 i n ix) τ τ') ⟨ρ.ad++adN,ρ'.z⟩ (os.length+p+3) o a):aR c h' (hV (b7 i ix) (d9 i n ix) τ τ') ⟨ρ.ad++adN,ρ'.z⟩ (os.set i (.ktb S')++osN) ph':=by
 refine B.know K K' (λ t k j=>DE) ?_ (λ j o e=>?_) (λ a o z=>B.vis _ _ 1 0 _ _ rfl (λ q=>(nq (congrArg NE q) rfl)) (K'.Z a o z)) (λ b o k z=>B.old _ _ _ _ rfl (K.X b o k z)) λ a r z=>(K'.B a r z).imp (λ b o j cl=>B.vis _ _ 2 j _ _ rfl (λ q=>(nq (congrArg Mn q) rfl)) cl) Fz.Le.refl
 ·exact ac Mf (ac Mf (ac Np (ac K.sz (ac hl rfl))))
 ·rcases Nat.lt_or_ge j os.length with q|q
  ·rw[List.getElem?_append_left (by refine ac Np ?_;exact q)] at e;rcases kG e with ⟨rfl,rfl⟩|⟨q1,q2⟩
   ·refine ag (ha _ (Mr q)) λ a ea ka=>?_;exact⟨a,ck ea,ka⟩
   ·refine ag (K.O j o q2) λ b e1 y=>⟨b,ck e1,y.imp (ρ':=⟨ρ.ad++adN,ρ'.z⟩) (λ b o j' cl=>B.old _ _ _ _ (G5 q1) cl) ⟨λ zz zz h=>ck h,le⟩ λ zz zz h=>h⟩
  ·rw[MG (by refine ac Np ?_;exact q),Np] at e;refine ag (hN _ o e) λ b e1 y=>?_;rw[Op q] at y;exact⟨b,(MG (by refine ac K.sz ?_;exact q)).trans (by refine ac K.sz ?_;exact e1),y⟩
end
theorem lQ[DecidableEq α]:∀{l m:List α},l.Nodup->(∀x∈l,x∈m)->l.length<=m.length:=by intro l_;induction l_ with
 | nil=>intro _ _ _;exact Pt _
 | cons x l P9=>
  intro m nd h;refine aD (Nn.mp nd) λ n1 n2=>?_;have ih:l.length<=(m.erase x).length:=P9 n2 λ y hy=>(Po λ e=>n1 (by refine bP e ?_;exact hy)).mpr (h y (.tail _ hy));rw[List.length_erase_of_mem (h x (.head _))] at ih;exact ME (N5 ih) (Ob (Nat.sub_add_cancel (List.length_pos_of_mem (h x (.head _)))))
theorem KT.ok.len{S:KT}(h:S.ok):S.made.length<=3:=by
 have:=lQ (m:=aE) h.nd λ x hx=>by(refine cE hx λ y hy PZ=>?_;obtain rfl:=PZ);exact(h.rw y hy).1
 rw[Md] at this;exact this
theorem cS.len(h:cS l):l.length<=7:=by
 have:=lQ (m:=br) h.2.1 λ x hx=>by(refine cE hx λ y hy PZ=>?_;obtain rfl:=PZ);exact(h.2.2 y hy).1
 rw[Md] at this;exact this
noncomputable def pL(S:KT)(t:List UInt8)(MA MB:List (List UInt8×List (List UInt8×BR)))(o:Option AV)(rest:List AO):Prop:=
 (o=L9/\rest=[]/\t∉S.made.map (·.1)/\MA=S.made/\MB=[])\/∃rows kn e em,o=L6 (.obj 3)/\rest=[.dip 7 kn e em (bl rows)]/\S.made=MA++(t,rows)::MB/\Ik 7 kn e em (bl rows)
noncomputable def rD(S':KT)(t:List UInt8)(MA MB:List (List UInt8×List (List UInt8×BR)))(A B:List (List UInt8×Value))(o:Option AV)(A' B':List (List UInt8×Value))(rest:List AO):Prop:=
 ∃MA' MB',((A'=A/\B'=B/\MA'=MA/\MB'=MB)\/(A'=A++B/\B'=[]/\MA'=MA++MB/\MB'=[]))/\((o=L9/\S'.made=MA'++MB')\/∃X rest' rows',o=L6 (.obj 3)/\rest=X::rest'/\Ib X rows'/\S'.made=MA'++(t,rows')::MB')
noncomputable def BW(p:Option (List UInt8))(X:Value->AV):Prop:=(∀v,X v=.val v)\/∀v,X v=ofP (aJ p)
theorem fq{z z':Fz}(h:Is ρ (ofP (aJ p)) v):bA z' (aJ p) v:=by
 cases p with
 | none=>exact⟨1,h⟩
 | some b=>exact⟨1,h⟩
theorem vX{z z':Fz}(h:bA z (aJ p) v):bA z' (aJ p) v:=fq (z:=z) (ρ:=⟨[],z⟩) h.ofP
theorem BW.is{p:Option (List UInt8)}{X:Value->AV}(h:BW p X)(y:bA ρ.z (aJ p) v):Is ρ (X v) v:=by
 rcases h with h|h
 ·rw[h];exact rfl
 ·rw[h];exact y.ofP
theorem BW.out{p p':Option (List UInt8)}{X:Value->AV}(h:BW p X)(y:bA z (aJ p) v)(hx:(x'=X v/\p'=p)\/x'=ofP (aJ p'))(hu:Is ρ x' u):bA z' (aJ p') u:=by
 rcases hx with ⟨rfl,rfl⟩|rfl
 ·rcases h with h|h
  ·rw[h] at hu;obtain rfl:u=v:=hu;exact vX y
  ·rw[h] at hu;exact fq (z:=z) hu
 ·exact fq (z:=z) hu
section
variable{c:Cx}{d n:Nat}{ρ ρ':RR}{σ σ':St}{s s':Mc}{h h':M4}{τ τ':Addr->bo}{os os':List AO}{ph ph':Bool}{X:Addr->Obj->Nat->Prop}{i:Nat}{S S':KT}{T:bq}
theorem z4{z:Fz}:∀{M:List (List UInt8×List (List UInt8×BR))} {kvs:List (List UInt8×Value)},ay (ci w h τ z k) M kvs->kvs.map (·.1)=M.map (·.1):=by intro l_;induction l_ with
 | nil=>intro _ h;exact congrArg _ h
 | cons x M P9=>
  intro _ h;(refine ao h λ y ys PZ Qb t=>?_;clear h;obtain rfl:=PZ;(refine aD Qb λ q _=>?_;clear Qb));exact ac MP (ac MP (ac q (ac (P9 t) rfl)))
inductive L5(c:Cx)(h:M4)(τ:Addr->bo)(z:Fz)(i:Nat)(t:List UInt8)(dm:Addr)(MA MB:List (List UInt8×List (List UInt8×BR)))(o:Option AV)(rest:List AO):Prop
 | mk (A B:List (List UInt8×Value)) (adr:List Addr) (ra:ay (ci c.w h τ z (i+3)) MA A) (rb:ay (ci c.w h τ z (i+3)) MB B) (no:∀x∈MA++MB,wY [dz t] (dz x.1)=(1,3)) (ln:adr.length=rest.length)
  (k:∀a dl,OR c.w (jk h τ (b7 i [dz t])) h (λ b=>b7 i [dz t] (τ b)) ⟨a::dm::dl::adr,z⟩ 4 (.dir t o A B) dm/\∀p o,rest[p]?=L6 o->∃b,adr[p]?=L6 b/\OR c.w (jk h τ (b7 i [dz t])) h (λ b=>b7 i [dz t] (τ b)) ⟨a::dm::dl::adr,z⟩ (p+6) o b)
theorem Dx{z:Fz}(ok:S.ok)(cm:Cl h τ (i+3) 2 dm om)(dom:bF c.w om kvs)(rs:ay (ci c.w h τ z (i+3)) S.made kvs)(O:pL S t MA MB o rest):L5 c h τ z i t dm MA MB o rest:=by
 have l3:kvs.length<=3:=rs.len▸ok.len;have cm':Cl h (λ b=>b7 i [dz t] (τ b)) 4 0 dm om:=⟨cm.g,(congrArg (b7 i [dz t]) cm.t).trans l5⟩
 rcases O with ⟨rfl,rfl,ht,rfl,rfl⟩|⟨rows,kn,e,em,rfl,rfl,hm,hk⟩
 ·exact⟨kvs,[],[],rs,rfl,λ x hx=>qY (ok.rw x (by rw[Mg] at hx;exact hx)).1 λ q=>ht (q▸Mw (by rw[Mg] at hx;exact hx)),rfl,λ a dl=>⟨⟨om,cm',by refine ac (Mg _) ?_;exact ME l3 (by decide),by refine ac (Mg _) (ac (z4 rs) ?_);exact ht,by refine ac (Mg _) ?_;exact dom⟩,λ zz zz h=>dC h⟩⟩
 ·have nd:=ok.nd;have rw':=ok.rw;rw[hm] at rs nd rw';(refine cJ rs.split λ A y B Qb h1 QV h3=>?_;obtain rfl:=Qb;(refine j5 QV λ q b ob kv e1 e2 e3 e4=>?_;clear QV));obtain⟨k',y⟩:=y;obtain rfl:k'=t:=q;obtain rfl:y=.ref b:=e1;rw[M8,MP] at nd;refine cg (OA.mp nd) λ n1 n2 n3=>?_;have ex:wY [dz k'] (dz k')=(6,0):=by
   refine ac (show dz k'=aE.findIdx (·==k')+4 from MU _ _)<|wW (if_pos rfl)
  refine⟨A,B,[b],h1,h3,λ x hx=>?_,rfl,λ a dl=>⟨⟨om,cm',?_,.ref b,⟨b,rfl,rfl⟩,dom⟩,λ p o e=>?_⟩⟩
  ·rcases No.mp hx with hx|hx
   ·exact qY (rw' x (MS _ hx)).1 (n3 _ (Mw hx) _ (.head _))
   ·exact qY (rw' x (Ml _ (.tail _ hx))).1 λ q=>(Nn.mp n2).1 (by refine bP q ?_;exact Mw (f:=(·.1)) hx)
  ·rw[Mf,MR] at l3;refine ac Mf<|Nat.le_trans (ME (Nat.add_le_add_left (M6 _) _) l3) (by decide)
  ·cases p with
   | zero=>exact sI e▸⟨b,rfl,(aq ob kv ⟨⟨e2.g,(congrArg (b7 i _) e2.t).trans (l5.trans ex)⟩,e3,ay.map (f:=λ x:List UInt8×BR=>(x.1,PV.bnd x.2)) e4,hk⟩)⟩
   | succ p=>exact dC e
end
section
variable{c:Cx}{d n m:Nat}{ρ ρ':RR}{σ σ':St}{s s':Mc}{h h':M4}{τ τ':Addr->bo}{os os':List AO}{ph ph':Bool}{X:Addr->Obj->Nat->Prop}{i:Nat}{S S':KT}{T:bq}
theorem ye(h:ay R xs ys)(r:R x y)(h':ay R xs' ys'):ay R (xs++x::xs') (ys++y::ys'):=h.app (aq y ys' ⟨rfl,r,h'⟩)
inductive L4(c:Cx)(h':M4)(τ' Ss:Addr->bo)(ρ':RR)(i:Nat)(S':KT):Prop
 | mk (dm:Addr) (om:Obj) (kvs:List (List UInt8×Value)) (e:ρ'.ad[1]?=L6 dm) (cm:Cl h' τ' 4 0 dm om) (D:bF c.w om kvs) (rs:ay (ci c.w h' Ss ρ'.z (i+3)) S'.made kvs)
theorem zZ{K:Bk c (b7 i [dz t]) (d9 i n [dz t]) h h' τ τ'}(K':aR (c.fix X) h' τ' ρ' (jZ 1 2 x y::.dir t o A' B'::.dic []::rest) ph')(le:ρ.z.Le ρ'.z)
  (ra:ay (ci c.w h τ ρ.z (i+3)) MA A) (rb:ay (ci c.w h τ ρ.z (i+3)) MB B) (no:∀x∈MA++MB,wY [dz t] (dz x.1)=(1,3)) (L:rD S' t MA MB A B o A' B' rest):L4 c h' τ' (hV (b7 i [dz t]) (d9 i n [dz t]) τ τ') ρ' i S':=by
 (refine w7 (K'.O 1 _ rfl) λ dm e ob cl QS y=>?_;clear QS);refine aZ L λ MA' MB' hA hL=>?_;have ra':ay (ci c.w h' (hV (b7 i [dz t]) (d9 i n [dz t]) τ τ') ρ'.z (i+3)) MA A:=ra.impm λ x hx y r=>wE K (no x (MS _ hx)) le r;have rb':ay (ci c.w h' (hV (b7 i [dz t]) (d9 i n [dz t]) τ τ') ρ'.z (i+3)) MB B:=rb.impm λ x hx y r=>wE K (no x (Ml _ hx)) le r;obtain⟨ra2,rb2⟩:ay (ci c.w h' (hV (b7 i [dz t]) (d9 i n [dz t]) τ τ') ρ'.z (i+3)) MA' A'/\ay (ci c.w h' (hV (b7 i [dz t]) (d9 i n [dz t]) τ τ') ρ'.z (i+3)) MB' B':=by
  rcases hA with ⟨rfl,rfl,rfl,rfl⟩|⟨rfl,rfl,rfl,rfl⟩
  ·exact⟨ra',rb'⟩
  ·exact⟨ra'.app rb',rfl⟩
 rcases hL with ⟨rfl,hm⟩|⟨X',rest',rows',rfl,rfl,hX,hm⟩
 ·exact⟨dm,ob,A'++B',e,cl,y.2,by refine ac hm ?_;exact ra2.app rb2⟩
 ·refine ag y λ v hv D=>⟨dm,ob,A'++(t,v)::B',e,cl,D,by refine ac hm ?_;exact ye ra2 (wD K K' rfl hX (qS rfl) hv) rb2⟩
theorem D0(le:ρ.z.Le ρ'.z):(ρ.cut 0).Le ρ':=⟨λ zz zz h=>(dC (show([]:List Addr)[_]?=L6 _ from h)),le⟩
theorem sC(hT:be T){rest:List AO}{X Y:Value->AV}(hX:BW S.pre X)(hY:BW S.sec Y)(hO:S.ok->pL S t MA MB o rest)(hlow:vs.all (gG 0)=L7)(hlv:gG 0 v=L7)
  (run:S.ok->∀loc ph v1 v2 A B,∃x' y' o' A' B' rest',(aC T m).cal 12 (.val (.ref g)) (.obj 0::vs) ⟨loc,jZ 1 2 (X v1) (Y v2)::.dir t o A B::.dic []::rest,ph⟩=L6 (v,⟨loc,jZ 1 2 x' y'::.dir t o' A' B'::.dic []::rest',ph⟩)/\((x'=X v1/\S'.pre=S.pre)\/x'=ofP (aJ S'.pre))/\((y'=Y v2/\S'.sec=S.sec)\/y'=ofP (aJ S'.sec))/\rD S' t MA MB A B o' A' B' rest') (ok:S.ok->S'.ok):bE g S vs (.inl v,S'):=by
 intro c d ρ σ s i us C R hi x;(refine au.el R λ mm τ F L K r=>?_;clear R);refine yq.el (K.ktin hi) λ a dm dl om kvs v1 v2 ea p q okS cm dom rs k=>?_;(refine ao x λ zz us PZ Qb xs=>?_;clear x;obtain rfl:=PZ;(refine ag Qb λ _ P2 ha=>?_;clear Qb;obtain rfl:=P2));obtain rfl:=sI (ea.symm.trans ha);obtain⟨A,B,adr,ra,rb,no,ln,hk⟩:=Dx okS cm dom rs (hO okS);refine nk (run okS (jD σ.loc (dn c.vc mm)) σ.ph v1 v2 A B) λ x' y' o' A' B' rest' hrun hx' hy' hL=>?_;have K₁:=k [dz t] (X v1) (Y v2) _ rest adr ln (hX.is (ρ:=⟨a::dm::dl::adr,ρ.z⟩) p) (hY.is (ρ:=⟨a::dm::dl::adr,ρ.z⟩) q) (hk a dl).1 (hk a dl).2;have QC:aQ (c.fix (jk s.heap τ (b7 i [dz t]))) 12:=aQ.fix (C.less (Nr 12 d));refine aK ((bp hT m).cal 12 (.ref g) _ _ _ (c.fix (jk s.heap τ (b7 i [dz t]))) ⟨a::dm::dl::adr,ρ.z⟩ s (.ref a::us) hrun QC ⟨mm,_,F,L.raw,K₁,r⟩ (ay.k ⟨a,rfl,rfl⟩ ((IsL.low hlow xs).imp λ zz zz z=>Is.mono (ρ:=ρ.cut 0) (ρ':=⟨a::dm::dl::adr,ρ.z⟩) (D0 Fz.Le.refl) z))) λ val s' z=>?_;(refine PE.el z λ ρ' le R' y=>?_;clear z);(refine au.el R' λ m' τ' F' L' K' r'=>?_;clear R');have B:=K.bk (φ:=b7 i [dz t]) (ψ:=d9 i σ.obs.length [dz t]) (λ zz=>rfl) (λ zz=>rfl) K' λ b o q g=>⟨rfl,q,g⟩
 obtain⟨dm',om',kvs',e1,cm',D',rs'⟩:=zZ (K:=B) K' le.z ra rb no hL;have ka:=Bz (p:=0) (m:=1) (q:=2) (I:=i) B K' rfl rfl e1 (λ zz=>rfl) rfl rfl cm' D' (ok okS) (λ zz hu=>hX.out p hx' hu) (λ zz hu=>hY.out q hy' hu) rs';refine ag ka λ a' ea' ka=>?_;obtain rfl:=sI ((le.a 0 _ rfl).symm.trans ea');have K₂:=aR.ktout (adN:=[]) (osN:=[]) B K K' le.z rfl (λ zz zz=>⟨_,ea,ka⟩) λ zz zz h=>(dC h)
 rw[Mg,Mg] at K₂;have lr:ρ.Le ⟨ρ.ad,ρ'.z⟩:=⟨λ zz zz h=>h,le.z⟩
 exact⟨_,lr,⟨m',_,F',(L.unraw L').mono lr,K₂,r'⟩,Is.mono (ρ:=ρ'.cut 0) (ρ':=⟨ρ.ad,ρ'.z⟩) (D0 (ρ:=ρ') Fz.Le.refl) (Is.low hlv y)⟩
end
section
set_option tactic.hygienic true
noncomputable def oK(x y:AV)(t:List UInt8)(o:Option AV)(A B:List (List UInt8×Value))(rest:List AO):List AO:=jZ 1 2 x y::.dir t o A B::.dic []::rest
noncomputable def bO(g:Addr)(vs:List AV)(x y:AV)(t:List UInt8)(o:Option AV)(A B:List (List UInt8×Value))(rest:List AO)(loc:List (Nat×AV))(ph:Bool):Option (AV×St):=(aC pU 200).cal 12 (.val (.ref g)) (.obj 0::vs) ⟨loc,oK x y t o A B rest,ph⟩
noncomputable def bN(v x y:AV)(t:List UInt8)(o:Option AV)(A B:List (List UInt8×Value))(rest:List AO)(loc:List (Nat×AV))(ph:Bool):Option (AV×St):=L6 (v,⟨loc,oK x y t o A B rest,ph⟩)
noncomputable def o3:Option AV:=L6 (.obj 3)
section
variable(loc:List (Nat×AV))(ph:Bool)(v1 v2:Value)(A B:List (List UInt8×Value))(L:List (List UInt8×PV))(r:BR)(x z:List UInt8)(y:Bool)
theorem f0:aE.map (λ t=>(br).map λ w=>bO 725 [.byt t,.byt w] (.val v1) (.val v2) t L9 A B [] loc ph)=mp (λ t=>mp (λ w=>bN .non (.val v1) (.val v2) t L9 A B [] loc ph) (br)) aE:=by kernel_rfl
theorem f1:aE.map (λ t=>(br).map λ w=>bO 725 [.byt t,.byt w] (.val v1) (.val v2) t o3 A B [.dip 7 [(w,L6 (.bnd r))] L9 [] L] loc ph)=mp (λ t=>mp (λ w=>bN (.pv (.bnd r)) (.val v1) (.val v2) t o3 A B [.dip 7 [(w,L6 (.bnd r))] L9 [] L] loc ph) (br)) aE:=by kernel_rfl
theorem f2:aE.map (λ t=>(br).map λ w=>bO 725 [.byt t,.byt w] (.val v1) (.val v2) t o3 A B [.dip 7 [(w,L9),([65,110,121],L9)] L9 [] L] loc ph)=mp (λ t=>mp (λ w=>bN .non (.val v1) (.val v2) t o3 A B [.dip 7 [(w,L9),([65,110,121],L9)] L9 [] L] loc ph) (br)) aE:=by kernel_rfl
theorem f3:aE.map (λ t=>(br.erase [65,110,121]).map λ w=>bO 725 [.byt t,.byt w] (.val v1) (.val v2) t o3 A B [.dip 7 [(w,L9),([65,110,121],L6 (.bnd r))] L9 [] L] loc ph)=mp (λ t=>mp (λ w=>bN (.pv (.bnd r)) (.val v1) (.val v2) t o3 A B [.dip 7 [(w,L9),([65,110,121],L6 (.bnd r))] L9 [] L] loc ph) (br.erase [65,110,121])) aE:=by kernel_rfl
theorem b0:aE.map (λ t=>(aO).map λ w=>bO 732 [.byt t,.byt w.1] (.val v1) (.val v2) t L9 A B [] loc ph)=mp (λ t=>mp (λ w=>bN .non (.val v1) (.val v2) t L9 A B [] loc ph) (aO)) aE:=by kernel_rfl
theorem b1:aE.map (λ t=>(aO).map λ w=>bO 732 [.byt t,.byt w.1] (.val v1) (.val v2) t o3 A B [.dip 7 [(w.2,L6 (.bnd r))] L9 [] L] loc ph)=mp (λ t=>mp (λ w=>bN (.pv (.bnd r)) (.val v1) (.val v2) t o3 A B [.dip 7 [(w.2,L6 (.bnd r))] L9 [] L] loc ph) (aO)) aE:=by kernel_rfl
theorem b2:aE.map (λ t=>(aO).map λ w=>bO 732 [.byt t,.byt w.1] (.val v1) (.val v2) t o3 A B [.dip 7 [(w.2,L9)] L9 [] L] loc ph)=mp (λ t=>mp (λ w=>bN .non (.val v1) (.val v2) t o3 A B [.dip 7 [(w.2,L9)] L9 [] L] loc ph) (aO)) aE:=by kernel_rfl
theorem d0:aE.map (λ t=>(aO).map λ w=>bO 689 [.byt t,.byt w.1,.byt x,.boo y,.byt z] (.val v1) (.val v2) t L9 A B [] loc ph)=mp (λ t=>mp (λ w=>bN .non (.val v1) (.val v2) t o3 (A++B) [] [.dic [(w.2,.pv (.bnd ⟨w.2,x,y,z⟩))]] loc ph) (aO)) aE:=by kernel_rfl
theorem d1:aE.map (λ t=>(aO).map λ w=>bO 689 [.byt t,.byt w.1,.byt x,.boo y,.byt z] (.val v1) (.val v2) t o3 A B [.dip 7 [] L9 [] L] loc ph)=mp (λ t=>mp (λ w=>bN .non (.val v1) (.val v2) t o3 A B [.dip 8 [(w.2,L6 (.bnd ⟨w.2,x,y,z⟩))] (L6 L8) [] (bt w.2 (.bnd ⟨w.2,x,y,z⟩) L)] loc ph) (aO)) aE:=by kernel_rfl
theorem u0:aE.map (λ t=>(aO).map λ w=>bO 696 [.byt t,.byt w.1] (.val v1) (.val v2) t L9 A B [] loc ph)=mp (λ t=>mp (λ w=>bN (.boo L8) (.val v1) (.val v2) t L9 A B [] loc ph) (aO)) aE:=by kernel_rfl
theorem u1:aE.map (λ t=>(aO).map λ w=>bO 696 [.byt t,.byt w.1] (.val v1) (.val v2) t o3 A B [.dip 7 [(w.2,L9)] L9 [] L] loc ph)=mp (λ t=>mp (λ w=>bN (.boo L8) (.val v1) (.val v2) t o3 A B [.dip 7 [(w.2,L9)] L9 [] L] loc ph) (aO)) aE:=by kernel_rfl
theorem u2:aE.map (λ t=>(aO).map λ w=>bO 696 [.byt t,.byt w.1] (.val v1) (.val v2) t o3 A B [.dip 7 [(w.2,L6 (.bnd r))] L9 [(w.2,L8)] L] loc ph)=mp (λ t=>mp (λ w=>bN (.boo L7) (.val v1) (.val v2) t o3 A B [.dip 7 [(w.2,L9)] (L6 L8) [] (bx w.2 L)] loc ph) (aO)) aE:=by kernel_rfl
theorem u3:aE.map (λ t=>(aO).map λ w=>bO 696 [.byt t,.byt w.1] (.val v1) (.val v2) t o3 A B [.dip 7 [(w.2,L6 (.bnd r))] L9 [(w.2,L7)] L] loc ph)=mp (λ t=>mp (λ w=>bN (.boo L7) (.val v1) (.val v2) t L9 A B [.dip 7 [(w.2,L9)] (L6 L7) [] (bx w.2 L)] loc ph) (aO)) aE:=by kernel_rfl
theorem a0:aE.map (λ t=>bO 703 [.byt t] (.val v1) (.val v2) t L9 A B [] loc ph)=mp (λ t=>bN (.int 0) (.val v1) (.val v2) t L9 A B [] loc ph) aE:=by kernel_rfl
theorem a1:aE.map (λ t=>bO 703 [.byt t] (.val v1) (.val v2) t o3 A B [.dip 7 [] L9 [] L] loc ph)=mp (λ t=>bN (.int (L.length:Nat)) (.val v1) (.val v2) t L9 A B [.dip 7 [] L9 [] L] loc ph) aE:=by kernel_rfl
theorem s0:aO.map (λ w=>bO 711 [.byt w.1,.boo L8] (.val v1) (.val v2) [0] L9 A B [] loc ph)=mp (λ w=>bN .non (.byt w.2) (.val v2) [0] L9 A B [] loc ph) aO:=by kernel_rfl
theorem s1:aO.map (λ w=>bO 711 [.byt w.1,.boo L7] (.val v1) (.val v2) [0] L9 A B [] loc ph)=mp (λ w=>bN .non (.val v1) (.byt w.2) [0] L9 A B [] loc ph) aO:=by kernel_rfl
theorem s2:bO 711 [.non,.boo L8] (.val v1) (.val v2) [0] L9 A B [] loc ph=bN .non .non (.val v2) [0] L9 A B [] loc ph:=by kernel_rfl
theorem s3:bO 711 [.non,.boo L7] (.val v1) (.val v2) [0] L9 A B [] loc ph=bN .non (.val v1) .non [0] L9 A B [] loc ph:=by kernel_rfl
end
end
section
variable{α β:Type}{k:List UInt8}{a b:α}{l A B:List (List UInt8×α)}
theorem eW(x:List UInt8×α):bC k (x::l)=if x.1=k then L6 x.2 else bC k l:=by
 by_cases q:x.1=k
 ·refine ac (if_pos q) ?_;exact congrArg (Nk (·.2)) (List.find?_cons_of_pos (p:=λ x:List UInt8×α=>decide (x.1=k)) (decide_eq_true q))
 ·refine ac (if_neg q) ?_;exact congrArg (Nk (·.2)) (List.find?_cons_of_neg (p:=λ x:List UInt8×α=>decide (x.1=k)) λ h=>q (of_decide_eq_true h))
theorem eV:∀{l:List (List UInt8×α)},bC k l=L9->k∉l.map (·.1):=by intro l_;induction l_ with
 | nil=>intro _ h;exact(ni h)
 | cons x l P9=>
  intro e h;rw[eW] at e;by_cases q:x.1=k
  ·rw[if_pos q] at e;exact sn e
  ·rw[if_neg q] at e;exact(mC h).elim (λ h=>q h.symm) (P9 e)
theorem bU:∀{l:List (List UInt8×α)},bC k l=L6 a->∃A B,l=A++(k,a)::B:=by intro l_;induction l_ with
 | nil=>(intros;contradiction)
 | cons x l P9=>
  intro e;rw[eW] at e;by_cases q:x.1=k
  ·rw[if_pos q] at e;obtain rfl:=sI e;exact(aq ([]) l (q▸rfl))
  ·rw[if_neg q] at e;(refine bW (P9 e) λ A B PZ=>?_;obtain rfl:=PZ);exact(aq (x::A) B rfl)
theorem wl(h:((A++(k,a)::B).map (·.1)).Nodup):(∀x∈A,x.1≠k)/\∀x∈B,x.1≠k:=by
 rw[M8,MP] at h;refine cg (OA.mp h) λ zz h2 h3=>⟨λ x hx q=>h3 _ (Mw hx) _ (.head _) q,λ x hx q=>(Nn.mp h2).1 (Mu.mpr ⟨x,hx,q⟩)⟩
theorem wm(h:∀x∈l,x.1≠k)(hf:∀x,x.1≠k->f x=x):l.map f=l:=(MT λ x hx=>hf x (h x hx)).trans (Oh l)
theorem oH(h:((A++(k,a)::B).map (·.1)).Nodup):bt k b (A++(k,a)::B)=A++(k,b)::B:=by
 refine aD (wl h) λ h1 h2=>(if_pos (NA.mpr ⟨(k,a),Ml _ (.head _),decide_eq_true rfl⟩)).trans<|ac M8 (ac MP (ac (wm h1 λ x q=>if_neg q) (ac (wm h2 λ x q=>if_neg q) (ac (if_pos rfl) rfl))))
theorem vO(h:k∉l.map (·.1)):bt k b l=l++[(k,b)]:=if_neg λ q=>by
 refine ag (NA.mp q) λ x hx e=>h (Mu.mpr ⟨x,hx,of_decide_eq_true e⟩)
theorem qX(h:∀x∈l,x.1≠k):bx k l=l:=Oo.mpr λ x hx=>decide_eq_true (h x hx)
theorem po(h:((A++(k,a)::B).map (·.1)).Nodup):bx k (A++(k,a)::B)=A++B:=by
 refine aD (wl h) λ h1 h2=>(List.filter_append ..).trans<|ac (Nu λ q=>(of_decide_eq_true q) rfl)<|congr (congrArg _ (qX h1)) (qX h2)
theorem gC(h:x∈bt k b l):x=(k,b)\/x∈l:=by
 by_cases q:l.any (λ x=>decide (x.1=k))=L7
 ·rw[show bt k b l=_ from if_pos q] at h;refine cE h λ y hy e=>?_;by_cases q:y.1=k
  ·rw[if_pos q] at e;exact .inl (bP e (ac q rfl))
  ·rw[if_neg q] at e;exact .inr (e▸hy)
 ·rw[show bt k b l=_ from if_neg q] at h;exact(No.mp h).elim .inr λ h=>.inl (mS h)
theorem f8(h:(l.map (·.1)).Nodup):((bt k b l).map (·.1)).Nodup:=by
 by_cases q:l.any (λ x=>decide (x.1=k))=L7
 ·rw[show bt k b l=_ from if_pos q,MH,show OB _ l=l.map (·.1) from MT λ x zz=>by
   refine(?_:(if x.1=k then(x.1,b) else x).1=x.1);by_cases q:x.1=k
   ·exact ac (if_pos q) rfl
   ·exact ac (if_neg q) rfl]
  exact h
 ·refine ac (show bt k b l=_ from if_neg q) (ac M8 ?_);refine OA.mpr ⟨h,Nn.mpr ⟨NU,.nil⟩,λ y hy z hz e=>q ?_⟩;(refine cE hy λ x hx PZ=>?_;obtain rfl:=PZ);exact NA.mpr ⟨x,hx,decide_eq_true (e.trans (mS hz))⟩
theorem gh(h:(l.map (·.1)).Nodup):((bx k l).map (·.1)).Nodup:=(List.filter_sublist.map _).nodup h
end
section
variable{k:List UInt8}{r:BR}{l:List (List UInt8×BR)}
theorem oP{f:α->β}{l:List (List UInt8×α)}:(bt k a l).map (λ x=>(x.1,f x.2))=bt k (f a) (l.map λ x=>(x.1,f x.2)):=by
 have e:(l.map λ x=>(x.1,f x.2)).any (λ x=>decide (x.1=k))=l.any λ x=>decide (x.1=k):=List.any_map;by_cases q:l.any (λ x=>decide (x.1=k))=L7
 ·refine ac (show bt k a l=_ from if_pos q) (ac (show bt k (f a) _=_ from if_pos (e.trans q)) (ac MH (ac MH ?_)));refine MT λ x zz=>(?_:((if x.1=k then(x.1,a) else x).1,f (if x.1=k then(x.1,a) else x).2)=if x.1=k then(x.1,f a) else(x.1,f x.2))
  by_cases q:x.1=k
  ·exact ac (if_pos q) (ac (if_pos q) rfl)
  ·exact ac (if_neg q) (ac (if_neg q) rfl)
 ·refine ac (show bt k a l=_ from if_neg q) (ac (show bt k (f a) _=_ from if_neg (e.symm▸q)) (ac M8 ?_));rfl
theorem jM{f:α->β}{l:List (List UInt8×α)}:(bx k l).map (λ x=>(x.1,f x.2))=bx k (l.map λ x=>(x.1,f x.2)):=by
 refine(?_:_=List.filter _ (OB _ l));refine ac List.filter_map ?_;rfl
theorem jd:∀{l:List (List UInt8×α)},bC k (l.map λ x=>(x.1,f x.2))=(bC k l).map f:=by intro l_;induction l_ with
 | nil=>exact rfl
 | cons x l P9=>
  refine ac MP (ac (eW _) (ac (eW _) ?_));by_cases q:x.1=k
  ·refine ac (if_pos q) (ac (if_pos q) ?_);rfl
  ·refine ac (if_neg q) (ac (if_neg q) ?_);exact P9
theorem Ed:(bl l).isEmpty=l.isEmpty:=by cases l<;>rfl
end
noncomputable def KT.mk'(S:KT)(M:List (List UInt8×List (List UInt8×BR))):KT:=⟨M,S.pre,S.sec,[],[]⟩
noncomputable def xM(o:Option BR):AV:=o.elim .non λ r=>.pv (.bnd r)
noncomputable def cW:List UInt8:=[65,110,121]
noncomputable def KT.find(S:KT)(t w:List UInt8):AV:=xM ((S.look t w).or (S.look t cW))
noncomputable def KT.bind(S:KT)(t w:List UInt8)(r:BR):KT:=S.mk' (bt t (bt w r ((S.rows t).getD [])) S.made)
noncomputable def KT.drop(S:KT)(t:List UInt8)(rows:List (List UInt8×BR)):KT:=if rows.isEmpty then S.mk' (bx t S.made) else S.mk' (bt t rows S.made)
noncomputable def KT.unbind(S:KT)(t w:List UInt8):KT:=(S.look t w).elim S λ zz=>S.drop t (bx w ((S.rows t).getD []))
noncomputable def KT.clear(S:KT)(t:List UInt8):KT:=(S.rows t).elim S λ zz=>S.mk' (bx t S.made)
noncomputable def KT.count(S:KT)(t:List UInt8):Nat:=((S.rows t).getD []).length
theorem KT.ok.mid{S:KT}(h:S.ok){rows:List (List UInt8×BR)}(e:S.made=MA++(t,rows)::MB):cS rows:=(h.rw (t,rows) (e▸Ml _ (.head _))).2
theorem Bu{S:KT}(h:(M.map (·.1)).Nodup)(h':∀x∈M,x.1∈aE/\cS x.2):(S.mk' M).ok:=⟨h,h',λ zz h=>(ni h),λ zz h=>(ni h)⟩
theorem qA{S:KT}(h:S.ok)(ht:t∈aE)(hr:cS rows):(S.mk' (bt t rows S.made)).ok:=
 Bu (f8 h.nd) λ x hx=>(gC hx).elim (λ e=>by refine ac e ?_;exact⟨ht,hr⟩) (h.rw x)
theorem wa{S:KT}(h:S.ok):(S.mk' (bx t S.made)).ok:=Bu (gh h.nd) λ x hx=>h.rw x (MW.mp hx).1
theorem jC(h:rows=[]\/cS rows)(hw:w∈br)(hr:r.key=w):cS (bt w r rows):=by
 rcases h with rfl|h
 ·exact⟨(λ q=>(by cases q)),Nn.mpr ⟨NU,.nil⟩,λ x hx=>by refine ac (mS hx) ?_;exact⟨hw,hr⟩⟩
 ·refine⟨λ q=>h.1 ?_,f8 h.2.1,λ x hx=>(gC hx).elim (λ e=>by refine ac e ?_;exact⟨hw,hr⟩) (h.2.2 x)⟩;by_cases e:rows.any (λ x=>decide (x.1=w))=L7
  ·rw[show bt w r rows=_ from if_pos e] at q;exact Pv.mp q
  ·rw[show bt w r rows=_ from if_neg e] at q;exact(List.append_eq_nil_iff.mp q).1
theorem oF(h:cS rows)(hne:(bx w rows).isEmpty=L8):cS (bx w rows):=
 ⟨λ q=>(by rw[q] at hne;exact tf hne),gh h.2.1,λ x hx=>h.2.2 x (MW.mp hx).1⟩
theorem ip{S S':KT}(b:Bool)(hO:S.ok->pL S t MA MB o rest)(hlow:vs.all (gG 0)=L7)(hlv:gG 0 v=L7)
  (run:∀loc ph v1 v2 A B,bO g vs (.val v1) (.val v2) t o A B rest loc ph=bN v (.val v1) (.val v2) t o' (cond b (A++B) A) (cond b [] B) rest' loc ph) (hL:S.ok->∀A B,rD S' t MA MB A B o' (cond b (A++B) A) (cond b [] B) rest') (pp:S'.pre=S.pre) (ss:S'.sec=S.sec) (ok:S.ok->S'.ok):bE g S vs (.inl v,S'):=
 sC (X:=.val) (Y:=.val) dG (.inl λ zz=>rfl) (.inl λ zz=>rfl) hO hlow hlv (λ ok loc ph v1 v2 A B=>(dQ _ _ _ _ _ _ ⟨run loc ph v1 v2 A B,.inl ⟨rfl,pp⟩,.inl ⟨rfl,ss⟩,hL ok A B⟩)) ok
section
variable{S S':KT}{t w:List UInt8}{MA MB:List (List UInt8×List (List UInt8×BR))}{rows:List (List UInt8×BR)}{kn:List (List UInt8×Option PV)}{em:List (List UInt8×Bool)}{A B:List (List UInt8×Value)}
theorem tW(h:pL S t MA MB o rest):rD S t MA MB A B o A B rest:=by
 rcases h with ⟨rfl,rfl,ht,rfl,rfl⟩|⟨rows,kn,e,em,rfl,rfl,hm,hk⟩
 ·exact(aq _ _ ⟨.inl ⟨rfl,rfl,rfl,rfl⟩,.inl ⟨rfl,(Mg _).symm⟩⟩)
 ·exact(aq _ _ ⟨.inl ⟨rfl,rfl,rfl,rfl⟩,.inr (aI _ ([]) rows ⟨rfl,rfl,.inl ⟨_,_,_,_,rfl⟩,hm⟩)⟩)
theorem cA(hO:S.ok->pL S t MA MB o rest)(hlow:vs.all (gG 0)=L7)(hlv:gG 0 v=L7)
  (run:∀loc ph v1 v2 A B,bO g vs (.val v1) (.val v2) t o A B rest loc ph=bN v (.val v1) (.val v2) t o A B rest loc ph):bE g S vs (.inl v,S):=ip L8 hO hlow hlv run (λ ok A B=>tW (hO ok)) rfl rfl id
theorem ft(h:S.rows t=L9):pL S t S.made [] L9 []:=.inl ⟨rfl,rfl,eV h,rfl,rfl⟩
theorem bS(hm:S.made=MA++(t,rows)::MB)(h1:∀x∈kn,(bC x.1 rows).map .bnd=x.2)(h2:∀x∈em,(bx x.1 rows).isEmpty=x.2)(ok:S.ok):pL S t MA MB o3 [.dip 7 kn L9 em (bl rows)]:=
 .inr (cK rows kn L9 em ⟨rfl,rfl,hm,by refine ac (show(bl rows).length=_ from Md _) ?_;exact(ok.mid hm).len,λ x hx=>jd.trans (h1 x hx),(λ zz h=>(dC h)),λ x hx=>by refine bP (h2 x hx) (bP Ed ?_);exact congrArg _ jM.symm⟩)
theorem jT(hm:S'.made=MA++(t,rows)::MB):rD S' t MA MB A B o3 A B [.dip n kn e em (bl rows)]:=(aq _ _ ⟨.inl ⟨rfl,rfl,rfl,rfl⟩,.inr (aI _ ([]) rows ⟨rfl,rfl,.inl ⟨_,_,_,_,rfl⟩,hm⟩)⟩)
theorem lU(hm:S'.made=MA++MB):rD S' t MA MB A B L9 A B rest:=(aq _ _ ⟨.inl ⟨rfl,rfl,rfl,rfl⟩,.inl ⟨rfl,hm⟩⟩)
theorem EO{x:Option PV}(h:(bC w rows).map .bnd=x):∀y∈[(w,x)],(bC y.1 rows).map .bnd=y.2:=λ y hy=>by refine ac (mS hy) ?_;exact h
theorem KW{x y:Option PV}(h:(bC w rows).map .bnd=x)(h':(bC v rows).map .bnd=y):∀z∈[(w,x),(v,y)],(bC z.1 rows).map .bnd=z.2:=λ z hz=>(mC hz).elim (λ e=>e▸h) λ hz=>mS hz▸h'
theorem nV{P:α->Prop}:∀x∈([]:List α),P x:=λ zz h=>(ni h)
theorem jg(h:S.rows t=L6 rows)(w:List UInt8):S.look t w=bC w rows:=congrArg (·.bind (bC w)) h
theorem jf(h:S.rows t=L9)(w:List UInt8):S.look t w=L9:=congrArg (·.bind (bC w)) h
theorem Ex(ht:t∈aE)(hw:w∈br):bE 725 S [.byt t,.byt w] (.inl (S.find t w),S):=by
 refine(?_:bE 725 S _ (.inl (xM ((S.look t w).or (S.look t cW))),S));cases h:S.rows t with
 | none=>
  refine ac (jf h _) (ac (jf h _) ?_);exact cA (λ zz=>ft h) rfl rfl λ loc ph v1 v2 A B=>sk (f0 loc ph v1 v2 A B) t ht w hw
 | some rows=>
  refine bW (bU h) λ MA MB hm=>ac (jg h _) (ac (jg h _) ?_);cases h2:bC w rows with
  | some r=>exact cA (bS hm (EO (congrArg _ h2)) nV) rfl rfl λ loc ph v1 v2 A B=>sk (f1 loc ph v1 v2 A B (bl rows) r) t ht w hw
  | none=>
   cases h3:bC cW rows with
   | none=>exact cA (bS hm (KW (congrArg _ h2) (congrArg _ h3)) nV) rfl rfl λ loc ph v1 v2 A B=>sk (f2 loc ph v1 v2 A B (bl rows)) t ht w hw
   | some r=>exact cA (bS hm (KW (congrArg _ h2) (congrArg _ h3)) nV) rfl rfl λ loc ph v1 v2 A B=>sk (f3 loc ph v1 v2 A B (bl rows) r) t ht w ((Po λ q=>by rw[q] at h2;exact dC (h2.symm.trans h3)).mpr hw)
theorem AX(ht:t∈aE)(hw:k∈aO):bE 732 S [.byt t,.byt k.1] (.inl (xM (S.look t k.2)),S):=by
 cases h:S.rows t with
 | none=>
  refine ac (jf h _) ?_;exact cA (λ zz=>ft h) rfl rfl λ loc ph v1 v2 A B=>sk (b0 loc ph v1 v2 A B) t ht k hw
 | some rows=>
  refine bW (bU h) λ MA MB hm=>ac (jg h _) ?_;cases h2:bC k.2 rows with
  | some r=>exact cA (bS hm (EO (congrArg _ h2)) nV) rfl rfl λ loc ph v1 v2 A B=>sk (b1 loc ph v1 v2 A B (bl rows) r) t ht k hw
  | none=>exact cA (bS hm (EO (congrArg _ h2)) nV) rfl rfl λ loc ph v1 v2 A B=>sk (b2 loc ph v1 v2 A B (bl rows)) t ht k hw
theorem jV:∀k∈aO,k.2∈br:=by decide +kernel
theorem Ez{x z:List UInt8}(ht:t∈aE)(hw:k∈aO):bE 689 S [.byt t,.byt k.1,.byt x,.boo y,.byt z] (.inl .non,S.bind t k.2 ⟨k.2,x,y,z⟩):=by
 have hk:=jV k hw;refine(?_:bE 689 S _ (_,S.mk' (bt t (bt k.2 ⟨k.2,x,y,z⟩ ((S.rows t).getD [])) S.made)));cases h:S.rows t with
 | none=>exact ip L7 (λ zz=>ft h) rfl rfl (λ loc ph v1 v2 A B=>sk (d0 loc ph v1 v2 A B x z y) t ht k hw) (λ zz A B=>(aq (S.made++[]) ([]) ⟨.inr ⟨rfl,rfl,rfl,rfl⟩,.inr (aI _ ([]) ([(k.2,⟨k.2,x,y,z⟩)]) ⟨rfl,rfl,.inr rfl,(vO (eV h)).trans (by refine ac (Mg _) ?_;rfl)⟩)⟩)) rfl rfl λ ok=>qA ok ht (jC (.inl rfl) hk rfl)
 | some rows=>
  refine bW (bU h) λ MA MB hm=>ip L8 (bS hm nV nV) rfl rfl (λ loc ph v1 v2 A B=>sk (d1 loc ph v1 v2 A B (bl rows) x z y) t ht k hw) (λ ok A B=>(oP (f:=PV.bnd) (a:=(⟨k.2,x,y,z⟩:BR)) (l:=rows))▸jT (by
   have nd:=ok.nd;refine(?_:bt t _ S.made=_);rw[hm] at nd ⊢;exact oH nd)) rfl rfl λ ok=>qA ok ht (jC (.inr (ok.mid hm)) hk rfl)
theorem yx(ht:t∈aE)(hw:k∈aO):bE 696 S [.byt t,.byt k.1] (.inl (.boo (S.look t k.2).isSome),S.unbind t k.2):=by
 refine(?_:bE 696 S _ (_,(S.look t k.2).elim S λ zz=>S.drop t (bx k.2 ((S.rows t).getD []))));cases h:S.rows t with
 | none=>
  refine ac (jf h _) ?_;exact cA (λ zz=>ft h) rfl rfl λ loc ph v1 v2 A B=>sk (u0 loc ph v1 v2 A B) t ht k hw
 | some rows=>
  refine bW (bU h) λ MA MB hm=>ac (jg h _) ?_;cases h2:bC k.2 rows with
  | none=>exact cA (bS hm (EO (congrArg _ h2)) nV) rfl rfl λ loc ph v1 v2 A B=>sk (u1 loc ph v1 v2 A B (bl rows)) t ht k hw
  | some r=>
   refine(?_:bE 696 S _ (_,if(bx k.2 rows).isEmpty then S.mk' (bx t S.made) else S.mk' (bt t (bx k.2 rows) S.made)));cases h3:(bx k.2 rows).isEmpty with
   | false=>exact ip L8 (bS (em:=[(k.2,L8)]) hm (EO (congrArg _ h2)) λ y hy=>by refine ac (mS hy) ?_;exact h3) rfl rfl (λ loc ph v1 v2 A B=>sk (u2 loc ph v1 v2 A B (bl rows) r) t ht k hw) (λ ok A B=>(jM (f:=PV.bnd) (k:=k.2) (l:=rows))▸jT (by
     have nd:=ok.nd;refine(?_:bt t _ S.made=_);rw[hm] at nd ⊢;exact oH nd)) rfl rfl λ ok=>qA ok ht (oF (ok.mid hm) h3)
   | true=>exact ip L8 (bS (em:=[(k.2,L7)]) hm (EO (congrArg _ h2)) λ y hy=>by refine ac (mS hy) ?_;exact h3) rfl rfl (λ loc ph v1 v2 A B=>sk (u3 loc ph v1 v2 A B (bl rows) r) t ht k hw) (λ ok A B=>lU (by
     have nd:=ok.nd;refine(?_:bx t S.made=_);rw[hm] at nd ⊢;exact po nd)) rfl rfl λ ok=>wa ok
theorem AW(ht:t∈aE):bE 703 S [.byt t] (.inl (.int (S.count t:Nat)),S.clear t):=by
 refine(?_:bE 703 S _ (.inl (.int (((S.rows t).getD []).length:Nat)),(S.rows t).elim S λ zz=>S.mk' (bx t S.made)));cases h:S.rows t with
 | none=>exact cA (λ zz=>ft h) rfl rfl λ loc ph v1 v2 A B=>am (a0 loc ph v1 v2 A B) t ht
 | some rows=>
  refine bW (bU h) λ MA MB hm=>(?_:bE 703 S _ (.inl (.int (rows.length:Nat)),_))
  refine bP (show(bl rows).length=rows.length from Md _) ?_;exact ip L8 (bS hm nV nV) rfl rfl (λ loc ph v1 v2 A B=>am (a1 loc ph v1 v2 A B (bl rows)) t ht) (λ ok A B=>lU (by
   have nd:=ok.nd;refine(?_:bx t S.made=_);rw[hm] at nd ⊢;exact po nd)) rfl rfl λ ok=>wa ok
noncomputable def KT.put(S:KT)(b:Bool)(p:Option (List UInt8)):KT:=if b then⟨S.made,S.pre,p,S.kn,S.pr⟩ else⟨S.made,p,S.sec,S.kn,S.pr⟩
theorem KT.ok.put(h:S.ok):(S.put b p).ok:=by cases b<;>exact⟨h.nd,h.rw,h.kn,h.pr⟩
theorem lO:S.ok->pL S [0] S.made [] L9 []:=λ ok=>.inl ⟨rfl,rfl,λ h=>by
 refine cE h λ x hx e=>?_;have:=(ok.rw x hx).1;rw[e] at this;exact absurd this (by decide),rfl,rfl⟩
theorem lT(e:S'.made=S.made):rD S' [0] S.made [] A B L9 A B []:=(aq _ _ ⟨.inl ⟨rfl,rfl,rfl,rfl⟩,.inl ⟨rfl,e.trans (Mg _).symm⟩⟩)
theorem AT(hlow:vs.all (gG 0)=L7)(run:∀loc ph v1 v2 A B,bO 711 vs (.val v1) (.val v2) [0] L9 A B [] loc ph=bN .non (cond b (.val v1) (ofP (aJ p))) (cond b (ofP (aJ p)) (.val v2)) [0] L9 A B [] loc ph):bE 711 S vs (.inl .non,S.put b p):=
 sC (X:=.val) (Y:=.val) dG (.inl λ zz=>rfl) (.inl λ zz=>rfl) lO hlow rfl (λ ok loc ph v1 v2 A B=>(dQ _ _ _ _ _ _ ⟨run loc ph v1 v2 A B,by cases b<;>first|exact .inr rfl|exact .inl ⟨rfl,rfl⟩,by cases b<;>first|exact .inr rfl|exact .inl ⟨rfl,rfl⟩,lT (by cases b<;>rfl)⟩)) KT.ok.put
theorem Im(hw:k∈aO):bE 711 S [.byt k.1,.boo b] (.inl .non,S.put b (L6 k.2)):=by
 cases b
 ·exact AT rfl λ loc ph v1 v2 A B=>am (s0 loc ph v1 v2 A B) k hw
 ·exact AT rfl λ loc ph v1 v2 A B=>am (s1 loc ph v1 v2 A B) k hw
theorem Il:bE 711 S [.non,.boo b] (.inl .non,S.put b L9):=by
 cases b
 ·exact AT rfl s2
 ·exact AT rfl s3
end
noncomputable def vC:S×X×X:=match td with
 | [a,.ret (.lc e _ i _ _ _ _) _]=>(a,e,i)
 | _=>(.pas (pZ 0 0 0),.non 0 (pZ 0 0 0),.non 0 (pZ 0 0 0))
noncomputable def t3(p:Option (List UInt8))(w:List UInt8):Bool:=p.elim L8 λ x=>w==x
section
variable{S S':KT}{t w:List UInt8}
theorem DM(n1:bG P1=L7)(n2:bG P8=L7)(h:(aC T (n+2)).tst d P1 σ=L6 (a,σ))(h':(aC T (n+1)).tst d P8 σ=L6 (b,σ)):(aC T (n+4)).ev d (.or [P1,P8] p) σ=L6 (.boo (a||b),σ):=congrArg (Nk y8) (rM n1 n2 h h')
theorem zx(p q:Option (List UInt8))(loc:List (Nat×AV))(ph:Bool)(A B:List (List UInt8×Value)):bO 718 [.byt w] (ofP (aJ p)) (ofP (aJ q)) [0] L9 A B [] loc ph=bN (.boo (t3 p w||t3 q w)) (ofP (aJ p)) (ofP (aJ q)) [0] L9 A B [] loc ph:=by
 have h:∀σ,σ=(⟨[(143,.obj 0),(80,.byt w)],oK (ofP (aJ p)) (ofP (aJ q)) [0] L9 A B [],ph⟩:St)->(aC pU 199).exs 11 x9 σ=L6 (.ret (.boo (t3 p w||t3 q w)),σ):=λ σ e=>by
  subst e;exact dD (n:=198) (cL (n:=198) (DM (n:=194) rfl rfl (by cases p<;>kernel_rfl) (by cases q<;>kernel_rfl)))
 exact(et (T:=pU) (n:=199) (d:=11) (a:=718) (fd:=⟨[143,80],[],x9,[]⟩) (by kernel_rfl) (by kernel_rfl) (by kernel_rfl) (by kernel_rfl) (by kernel_rfl) (h _ rfl)).trans (congrArg (λ os=>L6 (AV.boo (t3 p w||t3 q w),(⟨loc,os,ph⟩:St))) (by cases p<;>cases q<;>kernel_rfl))
theorem Io:bE 718 S [.byt w] (.inl (.boo (t3 S.pre w||t3 S.sec w)),S):=
 sC (X:=λ zz=>ofP (aJ S.pre)) (Y:=λ zz=>ofP (aJ S.sec)) dG (.inr λ zz=>rfl) (.inr λ zz=>rfl) lO rfl rfl (λ ok loc ph v1 v2 A B=>(dQ _ _ _ _ _ _ ⟨zx S.pre S.sec loc ph A B,.inr rfl,.inr rfl,lT rfl⟩)) id
noncomputable def rX(t:List UInt8)(v1 v2:Value)(A B:List (List UInt8×Value))(kn:List (List UInt8×Option PV))(L:List (List UInt8×PV))(c:Option AV):List AO:=oK (.val v1) (.val v2) t o3 A B [.dip 7 kn L9 [] L,.cel c]
noncomputable def JI(w:List UInt8)(p:PV)(f:List UInt8->Option PV):List (List UInt8×Option PV):=br.map λ y=>(y,if y=w then L6 p else f y)
theorem Dz(h:f w=L6 p):JI w p f=br.map λ y=>(y,f y):=MT λ y zz=>by
 by_cases q:y=w
 ·exact ac (if_pos q) (ac q (ac h rfl))
 ·exact ac (if_neg q) rfl
theorem zV{l:List (List UInt8×α)}(h:k∈l.map (·.1)):∃a,bC k l=L6 a/\(k,a)∈l:=by
 cases q:bC k l with
 | none=>exact absurd h (eV q)
 | some a=>(refine bW (bU q) λ A B PZ=>?_;obtain rfl:=PZ);exact⟨a,rfl,Ml _ (.head _)⟩
theorem r0(loc:List (Nat×AV))(ph:Bool)(v1 v2:Value)(A B:List (List UInt8×Value)):aE.map (λ t=>bO 744 [.byt t] (.val v1) (.val v2) t L9 A B [] loc ph)=mp (λ t=>bN (.pv (.seq L7 [])) (.val v1) (.val v2) t L9 A B [] loc ph) aE:=by kernel_rfl
noncomputable def uB(t:List UInt8):List (Nat×AV):=[(189,.obj 4),(143,.obj 0),(100,.byt t)]
theorem r1(ph:Bool)(v1 v2:Value)(A B:List (List UInt8×Value))(kn:List (List UInt8×Option PV))(L:List (List UInt8×PV)):aE.map (λ t=>bv pU (aC pU 198) 11 vC.1 ⟨uB t,rX t v1 v2 A B kn L L9,ph⟩)=mp (λ t=>L6 (.nxt,⟨uB t,rX t v1 v2 A B kn L o3,ph⟩)) aE:=by kernel_rfl
theorem r2(t:List UInt8)(ph:Bool)(v1 v2:Value)(A B:List (List UInt8×Value))(kn:List (List UInt8×Option PV))(L:List (List UInt8×PV)):(aC pU 196).ev 11 vC.2.2 ⟨uB t,rX t v1 v2 A B kn L o3,ph⟩=L6 (kq (bi (L.map (·.1))),⟨uB t,rX t v1 v2 A B kn L o3,ph⟩):=by kernel_rfl
theorem r3(t:List UInt8)(ph:Bool)(v1 v2:Value)(A B:List (List UInt8×Value))(r:BR)(f:List UInt8->Option PV)(L:List (List UInt8×PV)):br.map (λ w=>(aC pU 196).ev 11 vC.2.1 ⟨[(189,.obj 4),(80,.byt w)],rX t v1 v2 A B (JI w (.bnd r) f) L o3,ph⟩)=mp (λ w=>L6 (.pv (.bnd r),⟨[(189,.obj 4),(80,.byt w)],rX t v1 v2 A B (JI w (.bnd r) f) L o3,ph⟩)) br:=by kernel_rfl
noncomputable def hB(rows:List (List UInt8×BR))(w:List UInt8):BR:=(bC w rows).getD ⟨[],[],L8,[]⟩
noncomputable def tG(rows:List (List UInt8×BR)):List (List UInt8):=bi (rows.map (·.1))
noncomputable def qp(rows:List (List UInt8×BR)):List PV:=(tG rows).map λ w=>.bnd (hB rows w)
theorem tc:(bl rows).map (·.1)=rows.map (·.1):=MH
theorem oy(h:w∈tG rows):∃r,bC w rows=L6 r/\(w,r)∈rows/\hB rows w=r:=by
 refine ag (zV ((bH _).mem_iff.mp h)) λ r h1 h2=>?_;exact⟨r,h1,h2,by unfold hB;refine ac h1 ?_;rfl⟩
theorem zw(ht:t∈aE)(loc:List (Nat×AV))(ph:Bool)(v1 v2:Value)(A B:List (List UInt8×Value))(ok:cS rows)(hk:kn=br.map λ w=>(w,(bC w rows).map PV.bnd)) :
  bO 744 [.byt t] (.val v1) (.val v2) t o3 A B [.dip 7 kn L9 [] (bl rows)] loc ph=bN (.pv (.seq L7 (qp rows))) (.val v1) (.val v2) t o3 A B [.dip 7 kn L9 [] (bl rows)] loc ph:=by
 have L:=sS (T:=pU) (n:=196) (d:=11) (e:=vC.2.1) (it:=vC.2.2) (t:=.one 80 (pZ 523 31 35)) (cn:=L9) (nms:=[(80,.local),(189,.free)]) (fv:=[189]) (q:=(pZ 523 15 52)) (l:=bi ((bl rows).map (·.1))) (g:=.byt) (h:=λ w=>.bnd (hB rows w)) (c:=λ zz=>L7) (r2 t ph v1 v2 A B kn (bl rows)) (by rw[(bH _).length_eq,Md,bl,Md];exact ME ok.len (by decide)) λ x hx=>by
  refine⟨[(189,.obj 4),(80,.byt x)],rfl,rfl,λ zz=>?_⟩;rw[tc] at hx;refine cC (oy hx) λ r h1 h2 h3=>ac h3 (ac hk (bP (Dz (w:=x) (p:=.bnd r) (f:=λ w=>(bC w rows).map .bnd) (congrArg _ h1)) ?_));exact am (r3 t ph v1 v2 A B r _ _) x (ok.2.2 _ h2).1
 rw[Oo.mpr λ zz zz=>rfl,tc] at L;have h:∀σ,σ=(⟨uB t,rX t v1 v2 A B kn (bl rows) L9,ph⟩:St)->(aC pU 199).exs 11 td σ=L6 (.ret (.pv (.seq L7 (qp rows))),⟨uB t,rX t v1 v2 A B kn (bl rows) o3,ph⟩):=λ σ e=>by
  subst e;exact a9 (n:=198) (am (r1 ph v1 v2 A B kn (bl rows)) t ht) (dD (n:=197) (cL (n:=197) L))
 exact et (T:=pU) (n:=199) (d:=11) (a:=744) (fd:=⟨[143,100],[],td,[189]⟩) (by kernel_rfl) (by kernel_rfl) (by kernel_rfl) (by kernel_rfl) (by kernel_rfl) (h _ rfl)
theorem Ew(ht:t∈aE):bE 744 S [.byt t] (.inl (.pv (.seq L7 (qp ((S.rows t).getD [])))),S):=by
 cases h:S.rows t with
 | none=>exact cA (λ zz=>ft h) rfl rfl λ loc ph v1 v2 A B=>am (r0 loc ph v1 v2 A B) t ht
 | some rows=>
  refine bW (bU h) λ MA MB hm=>sC (X:=.val) (Y:=.val) dG (.inl λ zz=>rfl) (.inl λ zz=>rfl) (bS (kn:=br.map λ w=>(w,(bC w rows).map PV.bnd)) hm (λ x hx=>by(refine cE hx λ y zz PZ=>?_;obtain rfl:=PZ);rfl) nV) rfl rfl (λ ok loc ph v1 v2 A B=>(dQ _ _ _ _ _ _ ⟨zw ht loc ph v1 v2 A B (ok.mid hm) rfl,.inl ⟨rfl,rfl⟩,.inl ⟨rfl,rfl⟩,jT hm⟩)) id
end
noncomputable def CN:Nat->List (List (List UInt8))
 | 0=>[[]]
 | n+1=>[]::aE.flatMap λ t=>(CN n).map (t::·)
noncomputable def jH:List (List (List UInt8)):=(CN 3).filter λ l=>decide l.Nodup
theorem oE:∀{n:Nat} {l:List (List UInt8)},l.length<=n->(∀x∈l,x∈aE)->l∈CN n
 | 0,l,h,_=>by refine ac (NW.mp (Nat.le_zero.mp h)) ?_;exact .head _
 | n+1,[],_,_=>.head _
 | n+1,x::l,h,hx=>.tail _ (M2.mpr ⟨x,hx x (.head _),Mu.mpr ⟨l,oE (Nat.le_of_succ_le_succ h) (λ y hy=>hx y (.tail _ hy)),rfl⟩⟩)
theorem lL{S:KT}(h:S.ok):S.made.map (·.1)∈jH:=
 MW.mpr ⟨oE (by refine ac (Md _) ?_;exact h.len) λ x hx=>by(refine cE hx λ y hy PZ=>?_;obtain rfl:=PZ);exact(h.rw y hy).1,decide_eq_true h.nd⟩
noncomputable def Dt(k:Nat):List (List UInt8)->List (List UInt8×AV)
 | []=>[]
 | t::ts=>(t,.obj k)::Dt (k+1) ts
noncomputable def pn(ks:List (List UInt8))(L:List UInt8->List (List UInt8×PV)):List AO:=ks.map λ t=>.dip 7 [] L9 [] (L t)
noncomputable def mT(ks:List (List UInt8))(x y:AV)(L:List UInt8->List (List UInt8×PV)):List AO:=jZ 1 2 x y::.dic (Dt 3 ks)::.dic []::pn ks L
noncomputable def GO(b:Nat)(ks:List (List UInt8))(x y:AV)(L:List UInt8->List (List UInt8×PV)):List AO:=jZ (b+1) (b+3) x y::.dic (Dt (b+4) ks)::.dic []::.dic []::pn ks L
section
variable(loc:List (Nat×AV))(ph:Bool)(v1 v2:Value)(L:List UInt8->List (List UInt8×PV))
theorem n0:jH.map (λ ks=>(aC pU 200).cal 12 (.val (.ref 739)) [.obj 0] ⟨loc,mT ks (.val v1) (.val v2) L,ph⟩)=mp (λ ks=>L6 (kq (aE.filter λ t=>ks.contains t),⟨loc,mT ks (.val v1) (.val v2) L,ph⟩)) jH:=by kernel_rfl
theorem c0(p q:Option (List UInt8)):jH.map (λ ks=>(aC pU 200).cal 12 (.val (.ref 751)) [.obj 0] ⟨loc,mT ks (ofP (aJ p)) (ofP (aJ q)) L,ph⟩)=mp (λ ks=>L6 (.obj (ks.length+3),⟨loc,mT ks (ofP (aJ p)) (ofP (aJ q)) L++GO (ks.length+3) ks (ofP (aJ p)) (ofP (aJ q)) L,ph⟩)) jH:=by cases p<;>cases q<;>kernel_rfl
theorem m0:(aC pU 300).cal 8 (.val (.ref 754)) [] ⟨loc,[],ph⟩=L6 (.obj 0,⟨loc,[jZ 1 2 (.byt [67,45,98]) .non,.dic [],.dic []],ph⟩):=by kernel_rfl
end
noncomputable def KT.lst(S:KT)(t:List UInt8):List (List UInt8×PV):=bl ((S.rows t).getD [])
theorem tV:∀{l:List (List UInt8×α)},(l.map (·.1)).Nodup->∀x∈l,bC x.1 l=L6 x.2:=by intro l_;induction l_ with
 | nil=>(intros;contradiction)
 | cons y l P9=>
  intro nd x h;refine aD (Nn.mp nd) λ n1 n2=>ac (eW _) ?_;by_cases q:y.1=x.1
  ·refine ac (if_pos q)<|(mC h).elim (λ e=>e▸rfl) λ h=>(n1 (Mu.mpr ⟨x,h,q.symm⟩)).elim
  ·refine ac (if_neg q)<|(mC h).elim (λ e=>(q (e▸rfl)).elim) (P9 n2 x)
theorem jm{S:KT}(ok:S.ok){j:Nat}(e:S.made[j]?=L6 z):(pn (S.made.map (·.1)) S.lst)[j]?=L6 (.dip 7 [] L9 [] (bl z.2)):=by
 unfold pn;refine ac MH (ac (Nc) (ac e ?_));refine(?_:L6 (AO.dip 7 [] L9 [] (bl ((bC z.1 S.made).getD [])))=_);refine ac (tV ok.nd z (NG e)) ?_;rfl
noncomputable def gn(S:KT):List Nat:=(S.made.map (·.1)).map dz
theorem mM{S:KT}{j:Nat}(e:S.made[j]?=L6 z):(gn S)[j]?=L6 (dz z.1):=by
 unfold gn;refine ac MH (ac (Nc) (ac e ?_));rfl
theorem DC{S:KT}(ok:S.ok):(gn S).Nodup:=OU.mpr (List.pairwise_map.mpr (List.Pairwise.imp_of_mem (λ{a b} ha hb n=>vb (by(refine cE ha λ y hy PZ=>?_;obtain rfl:=PZ);exact(ok.rw y hy).1) n) (OU.mp ok.nd)))
section
variable{c:Cx}{d n m:Nat}{ρ ρ':RR}{σ σ':St}{s s':Mc}{h h':M4}{τ τ':Addr->bo}{os os':List AO}{ph ph':Bool}{X:Addr->Obj->Nat->Prop}{i I:Nat}{S S':KT}{T:bq}{ix:List Nat}
theorem Ds:∀{M:List (List UInt8×List (List UInt8×BR))} {kvs:List (List UInt8×Value)} {k:Nat},ay (ci w h τ z q) M kvs->(∀j y,kvs[j]?=L6 y->∃a,y.2=.ref a/\ρ.ad[k+j]?=L6 a)->fE (Is ρ) (Dt k (M.map (·.1))) kvs:=by intro l_;induction l_ with
 | nil=>intro _ _ r _;exact r
 | cons x M P9=>
  intro _ k r H;(refine ao r λ y ys PZ Qb t=>?_;clear r;obtain rfl:=PZ;(refine aD Qb λ e _=>?_;clear Qb));refine ag (H 0 y rfl) λ a e1 e2=>(aq y ys ⟨rfl,⟨e,a,e1,e2⟩,P9 t λ j y e=>by refine ac (NT _ _ _) (ac (MU 1 j) ?_);exact H (j+1) y e⟩)
theorem wx(B:Bk c (b7 i ix) (d9 i n ix) h h' τ τ')(K':aR (c.fix X) h' τ' ρ' os' ph'):∀{M:List (List UInt8×List (List UInt8×BR))} {kvs:List (List UInt8×Value)} {k:Nat},fE (Is ρ') (Dt k (M.map (·.1))) kvs->(∀j x,M[j]?=L6 x->os'[k+j]?=L6 (.dip 7 [] L9 [] (bl x.2))/\d9 i n ix (k+j+3,0)=(I+3,dz x.1))->ay (ci c.w h' (hV (b7 i ix) (d9 i n ix) τ τ') ρ'.z (I+3)) M kvs:=by intro l_;induction l_ with
 | nil=>intro _ _ r _;exact r
 | cons x M P9=>
  intro _ k r H;(revert r;refine λ P3=>ao P3 λ Qc ys PZ Qb r=>?_;clear P3;obtain⟨t,v⟩:=Qc;obtain rfl:=PZ;obtain⟨e,y⟩:=Qb);obtain rfl:t=x.1:=e;refine aD (H 0 x rfl) λ e1 e2=>(aq _ ys ⟨rfl,wD B K' e1 (.inl (cK _ _ _ _ rfl)) e2 y,P9 r λ j y e=>by refine ac (NT k 1 j) (ac (MU 1 j) ?_);exact H (j+1) y e⟩)
theorem Aa(e:k=ix.length+x+6):d9 i n ix (k,j)=EK n ix x j:=e▸DF
inductive Ij(c:Cx)(h:M4)(τ:Addr->bo)(ρ:RR)(ph:Bool)(i:Nat)(S:KT):Prop
 | mk (a:Addr) (ad:List Addr) (v1 v2:Value) (ea:ρ.ad[i]?=L6 a) (e0:ad[0]?=L6 a) (p:bA ρ.z (aJ S.pre) v1) (q:bA ρ.z (aJ S.sec) v2) (ok:S.ok)
  (k:∀x y:AV,Is ⟨ad,ρ.z⟩ x v1->Is ⟨ad,ρ.z⟩ y v2->aR (c.fix (jk h τ (b7 i (gn S)))) h (λ b=>b7 i (gn S) (τ b)) ⟨ad,ρ.z⟩ (mT (S.made.map (·.1)) x y S.lst) ph)
noncomputable def zA:Value->Addr
 | .ref a=>a
 | _=>default
theorem Ij.el{P':Prop}(hh:Ij c h τ ρ ph i S)(kk:∀(a:Addr) (ad:List Addr) (v1 v2:Value) (ea:ρ.ad[i]?=L6 a) (e0:ad[0]?=L6 a) (p:bA ρ.z (aJ S.pre) v1) (q:bA ρ.z (aJ S.sec) v2) (ok:S.ok) (k:∀x y:AV,Is ⟨ad,ρ.z⟩ x v1->Is ⟨ad,ρ.z⟩ y v2->aR (c.fix (jk h τ (b7 i (gn S)))) h (λ b=>b7 i (gn S) (τ b)) ⟨ad,ρ.z⟩ (mT (S.made.map (·.1)) x y S.lst) ph),P'):P':=by
 obtain⟨a,ad,v1,v2,ea,e0,p,q,ok,k⟩:=hh;exact kk a ad v1 v2 ea e0 p q ok k
theorem aR.ktf(K:aR c h τ ρ os ph)(e:os[i]?=L6 (.ktb S)):Ij c h τ ρ ph i S:=by
 refine yq.el (K.ktin e) λ a dm dl om kvs v1 v2 ea p q ok cm dom rs k=>?_;have hr:∀(j:Nat) (y:List UInt8×Value),kvs[j]?=L6 y->∃b,y.2=.ref b/\(kvs.map λ y=>zA y.2)[j]?=L6 b:=λ j y e=>by
  obtain⟨z,hz⟩:∃z,S.made[j]?=L6 z:=⟨_,Mr (rs.len▸(Mz.mp e).1)⟩
  (refine re (rs.get hz) λ y' e' PZ b o kv e1 zz=>?_;clear PZ);obtain rfl:=My (e.symm.trans e');exact⟨b,e1,by refine ac (Nc) (ac e ?_);exact congrArg (λ v=>L6 (zA v)) e1⟩
 refine⟨a,a::dm::dl::kvs.map λ y=>zA y.2,v1,v2,ea,rfl,p,q,ok,λ x y hx hy=>k (gn S) x y _ _ _ ?_ hx hy (aq om kvs ⟨⟨cm.g,(congrArg (b7 i (gn S)) cm.t).trans l5⟩,dom,Ds rs λ j y e=>?_⟩) λ j o e=>?_⟩
 ·refine ac (Md _) (ac rs.len ?_);unfold pn;exact ac (Md _) (ac (Md _) rfl)
 ·refine ag (hr j y e) λ b e1 e2=>?_;exact⟨b,e1,by refine ac (MU _ _) ?_;exact e2⟩
 ·have hj:j<S.made.length:=by have:=(Mz.mp e).1;unfold pn at this;rw[Md,Md] at this;exact this
  have ej:=Mr hj;obtain rfl:=sI ((jm ok ej).symm.trans e);(refine nu (rs.get ej) λ y ey PZ b o kv e1 cl D y3=>?_;clear PZ);refine⟨b,by refine ac (Nc) (ac ey ?_);exact congrArg (λ v=>L6 (zA v)) e1,(aq o kv ⟨⟨cl.g,(congrArg (b7 i (gn S)) cl.t).trans (l5.trans ?_)⟩,D,ay.map (f:=λ x:List UInt8×BR=>(x.1,PV.bnd x.2)) y3,by rw[bl,Md];exact(ok.rw _ (NG ej)).2.len,nV,(λ zz h=>(dC h)),nV⟩)⟩;have ix:=d8 (DC ok) (mM ej);rw[show dz _=_ from MU _ _] at ix ⊢;exact wW ix
theorem jh(B:Bk c (b7 i (gn S)) (d9 i n (gn S)) h h' τ τ')(K':aR (c.fix X) h' τ' ρ' os' ph')(ok:S.ok)(e:os'[p]?=L6 (jZ mk q x y))(em:os'[mk]?=L6 (.dic (Dt r (S.made.map (·.1)))))(eq:os'[q]?=L6 (.dic []))(er:∀j x,S.made[j]?=L6 x->os'[r+j]?=L6 (.dip 7 [] L9 [] (bl x.2))/\d9 i n (gn S) (r+j+3,0)=(I+3,dz x.1))
  (i0:∀j,d9 i n (gn S) (p+3,j)=(I+3,j)) (i2:d9 i n (gn S) (mk+3,0)=(I+3,2)) (i3:d9 i n (gn S) (q+3,0)=(I+3,3)) (hx:∀v,Is ρ' x v->bA ρ'.z (aJ S.pre) v) (hy:∀v,Is ρ' y v->bA ρ'.z (aJ S.sec) v) :
  ∃a,ρ'.ad[p]?=L6 a/\fg c.w h' (hV (b7 i (gn S)) (d9 i n (gn S)) τ τ') ρ'.z (I+3) S a:=by
 refine l9 (K'.O mk _ em) λ dm e1 om kvs cl D y=>Bz B K' e eq e1 i0 i2 i3 cl D ok hx hy (wx B K' y er)
theorem sJ(e:(pn ks L)[j]?=L6 o):(mT ks x y L++os)[3+j]?=L6 o:=by
 refine ac (MU _ _)<|ck (l:=pn ks L) e
theorem gQ:(mT ks x y L).length=ks.length+3:=congrArg (·+3) (Md _)
theorem nS{l m:List α}(h:l.length=b)(e:k=b+j):(l++m)[k]?=m[j]?:=by
 subst h e;exact ac (MG (Mt _ _)) (ac (MF _ _) rfl)
theorem AU:bE 739 S [] (.inl (kq (aE.filter λ t=>(S.made.map (·.1)).contains t)),S):=by
 intro c d ρ σ s i us C R hi x;(refine au.el R λ mm τ F L K r=>?_;clear R);refine Ij.el (K.ktf hi) λ a ad v1 v2 ea e0 p q ok k=>?_;(refine ao x λ zz us PZ Qb QS=>?_;clear x;obtain rfl:=PZ;(refine ag Qb λ _ P2 ha=>?_;clear Qb;obtain rfl:=P2);obtain rfl:=QS);obtain rfl:=My (ea.symm.trans ha);have QC:aQ (c.fix (jk s.heap τ (b7 i (gn S)))) 12:=aQ.fix (C.less (Nr 12 d));refine aK ((bp dG 200).cal 12 (.ref 739) _ _ _ (c.fix (jk s.heap τ (b7 i (gn S)))) ⟨ad,ρ.z⟩ s _ (am (n0 (jD σ.loc (dn c.vc mm)) σ.ph v1 v2 S.lst) _ (lL ok)) QC ⟨mm,_,F,L.raw,k (.val v1) (.val v2) rfl rfl,r⟩ (ay.k ⟨a,rfl,e0⟩ rfl)) λ val s' z=>?_;(refine PE.el z λ ρ' le R' y=>?_;clear z);(refine au.el R' λ m' τ' F' L' K' r'=>?_;clear R');have B:=K.bk (φ:=b7 i (gn S)) (ψ:=d9 i σ.obs.length (gn S)) (λ zz=>rfl) (λ zz=>rfl) K' λ b o q g=>⟨rfl,q,g⟩
 refine ag (jh (p:=0) (mk:=1) (q:=2) (r:=3) (I:=i) B K' ok rfl rfl rfl (λ j x e=>⟨Mg (mT _ _ _ _)▸sJ (os:=[]) (jm ok e),by refine ac (show 3+j+3=j+6 by lia) ?_;exact qS (mM e)⟩) (λ zz=>rfl) rfl rfl (λ zz hu=>BW.out (X:=.val) (.inl λ zz=>rfl) p (.inl ⟨rfl,rfl⟩) hu) (λ zz hu=>BW.out (X:=.val) (.inl λ zz=>rfl) q (.inl ⟨rfl,rfl⟩) hu)) λ a' ea' ka=>?_;obtain rfl:=My ((le.a 0 _ e0).symm.trans ea');have K₂:=aR.ktout (adN:=[]) (osN:=[]) B K K' le.z rfl (λ zz zz=>⟨_,ea,ka⟩) λ zz zz h=>(dC h)
 rw[Mg,Mg] at K₂;have lr:ρ.Le ⟨ρ.ad,ρ'.z⟩:=⟨λ zz zz h=>h,le.z⟩
 exact⟨_,lr,⟨m',_,F',(L.unraw L').mono lr,K₂,r'⟩,Is.mono (ρ:=ρ'.cut 0) (ρ':=⟨ρ.ad,ρ'.z⟩) (D0 (ρ:=ρ') Fz.Le.refl) (Is.low rfl y)⟩
theorem Ey:bE 751 S [] (.inr S,S):=by
 intro c d ρ σ s i us C R hi x;(refine au.el R λ mm τ F L K r=>?_;clear R);refine Ij.el (K.ktf hi) λ a ad v1 v2 ea e0 p q ok k=>?_;(refine ao x λ zz us PZ Qb QS=>?_;clear x;obtain rfl:=PZ;(refine ag Qb λ _ P2 ha=>?_;clear Qb;obtain rfl:=P2);obtain rfl:=QS);obtain rfl:=My (ea.symm.trans ha);have QC:aQ (c.fix (jk s.heap τ (b7 i (gn S)))) 12:=aQ.fix (C.less (Nr 12 d));refine aK ((bp dG 200).cal 12 (.ref 751) _ _ _ (c.fix (jk s.heap τ (b7 i (gn S)))) ⟨ad,ρ.z⟩ s _ (am (c0 (jD σ.loc (dn c.vc mm)) σ.ph S.lst S.pre S.sec) _ (lL ok)) QC ⟨mm,_,F,L.raw,k _ _ (bA.ofP (ρ:=⟨ad,ρ.z⟩) p) (bA.ofP (ρ:=⟨ad,ρ.z⟩) q),r⟩ (ay.k ⟨a,rfl,e0⟩ rfl)) λ val s' z=>?_;(refine PE.el z λ ρ' le R' Qb=>?_;clear z;obtain⟨a2,rfl,h2⟩:=Qb);(refine au.el R' λ m' τ' F' L' K' r'=>?_;clear R');have B:=K.bk (φ:=b7 i (gn S)) (ψ:=d9 i σ.obs.length (gn S)) (λ zz=>rfl) (λ zz=>rfl) K' λ b o q g=>⟨rfl,q,g⟩
 have hx:∀(p:Option (List UInt8)) v,Is ρ' (ofP (aJ p)) v->bA ρ'.z (aJ p) v:=λ zz zz hu=>fq (z:=ρ.z) hu;refine ag (jh (p:=0) (mk:=1) (q:=2) (r:=3) (I:=i) B K' ok rfl rfl rfl (λ j x e=>⟨sJ (jm ok e),by refine ac (show 3+j+3=j+6 by lia) ?_;exact qS (mM e)⟩) (λ zz=>rfl) rfl rfl (hx _) (hx _)) λ a' ea' ka=>?_;obtain rfl:=My ((le.a 0 _ e0).symm.trans ea');have ln:(gn S).length=(S.made.map (·.1)).length:=Md _;have nw:∀x j,d9 i σ.obs.length (gn S) ((S.made.map (·.1)).length+3+x+3,j)=EK σ.obs.length (gn S) x j:=λ x j=>Aa (by refine ac ln ?_;lia);refine ag (jh (p:=(S.made.map (·.1)).length+3) (mk:=(S.made.map (·.1)).length+3+1) (q:=(S.made.map (·.1)).length+3+3) (r:=(S.made.map (·.1)).length+3+4) (I:=σ.obs.length) B K' ok ((nS (j:=0) gQ rfl).trans rfl) ((nS (j:=1) gQ rfl).trans rfl) ((nS (j:=3) gQ rfl).trans rfl)
  (λ j x e=>⟨(nS gQ (NT _ 4 j)).trans (by refine ac (MU 4 j) ?_;exact jm ok e),by rw[NT _ 4 j,nw,MU 4 j];refine(?_:(match (gn S)[j]? with|some j=>(σ.obs.length+3,j)|none=>(1,0))=_);exact ac (mM e) rfl⟩) (λ j=>nw 0 j) (nw 1 0) (nw 3 0) (hx _) (hx _)) λ a3 ea3 kn=>?_
 obtain rfl:=sI (h2.symm.trans ea3);have K₂:=aR.ktout (adN:=[a2]) (osN:=[.ktb S]) B K K' le.z rfl (λ zz zz=>⟨_,ea,ka⟩) λ p o e=>by
  cases p with
  | zero=>exact⟨a2,rfl,sI e▸kn⟩
  | succ p=>exact dC e
 have lr:ρ.Le ⟨ρ.ad++[a2],ρ'.z⟩:=⟨λ zz zz h=>ck h,le.z⟩
 refine⟨_,lr,⟨m',_,F',(L.unraw L').mono lr,K₂,r'⟩,a2,rfl,?_⟩;refine(?_:(ρ.ad++[a2])[(σ.obs.set i (.ktb S)).length]?=_);refine ac Np (bP K.sz ?_);exact cD
noncomputable def Dy:KT:=⟨[],L6 [67,45,98],L9,[],[]⟩
theorem Id:hG 754 [] (.inr (.ktb Dy)):=by
 intro c d ρ σ s us C R x;(refine au.el R λ mm τ F L K r=>?_;clear R);obtain rfl:us=[]:=x;have QC:aQ (c.fix (jk s.heap τ (b7 σ.obs.length []))) 8:=aQ.fix (C.less (Nr 8 d));refine aK ((bp dG 300).cal 8 (.ref 754) _ _ _ (c.fix (jk s.heap τ (b7 σ.obs.length []))) ⟨[],ρ.z⟩ s _ (m0 (jD σ.loc (dn c.vc mm)) σ.ph) QC ⟨mm,_,F,L.raw,K.vin (λ zz=>rfl) (λ t k j=>wX) rfl (λ zz zz z=>z) (λ a r z=>(K.B a r z).imp (λ b o j cl=>⟨cl.g,congrArg (b7 σ.obs.length []) cl.t⟩) Fz.Le.refl) rfl (λ b o k z=>mZ z) (λ zz zz e=>(dC e)),r⟩ rfl) λ val s' z=>?_;(refine PE.el z λ ρ' le R' Qb=>?_;clear z;obtain⟨a2,rfl,h2⟩:=Qb);(refine au.el R' λ m' τ' F' L' K' r'=>?_;clear R');have B:=K.bk (φ:=b7 σ.obs.length []) (ψ:=d9 σ.obs.length 0 []) (λ zz=>rfl) (λ zz=>rfl) K' λ b o q g=>⟨rfl,q,g⟩
 refine ag (jh (S:=Dy) (p:=0) (mk:=1) (q:=2) (r:=3) (I:=σ.obs.length) B K' ⟨.nil,nV,nV,nV⟩ rfl rfl rfl (λ zz zz e=>(dC e)) (λ zz=>rfl) rfl rfl (λ zz hu=>fq (p:=L6 [67,45,98]) (z:=ρ.z) hu) (λ zz hu=>fq (p:=L9) (z:=ρ.z) hu)) λ a3 ea3 kn=>?_;obtain rfl:=sI (h2.symm.trans ea3);have K₂:=aR.ktout (S':=Dy) (adN:=[a2]) (osN:=[.ktb Dy]) B K K' le.z rfl (λ o e=>absurd (Mz.mp e).1 (NS _)) λ p o e=>by
  cases p with
  | zero=>exact⟨a2,rfl,sI e▸kn⟩
  | succ p=>exact dC e
 rw[List.set_eq_of_length_le (Mm _)] at K₂;have lr:ρ.Le ⟨ρ.ad++[a2],ρ'.z⟩:=⟨λ zz zz h=>ck h,le.z⟩
 exact⟨_,lr,⟨m',_,F',(L.unraw L').mono lr,K₂,r'⟩,a2,rfl,by refine(?_:(ρ.ad++[a2])[σ.obs.length]?=_);refine bP K.sz ?_;exact cD⟩
end
noncomputable def KT.lookK(S:KT)(t w:List UInt8):Option BR:=((S.kn.find? λ x=>x.1=(t,w)).map (·.2)).getD (S.look t w)
noncomputable def KT.presK(S:KT)(t:List UInt8):Bool:=((S.pr.find? λ x=>x.1=t).map (·.2)).getD (S.rows t).isSome
section
variable{c:Cx}{ρ:RR}{σ:St}{s:Mc}{S:KT}{i:Nat}{t w:List UInt8}
theorem wO{p:κ->Bool}{l:List (κ×α)}{f:κ->α}(h:∀x∈l,f x.1=x.2)(hp:∀k,p k=L7->f k=y):((l.find? λ x=>p x.1).map (·.2)).getD y=y:=by
 cases e:l.find? λ x=>p x.1 with
 | none=>rfl
 | some x=>exact(h x (List.mem_of_find?_eq_some e)).symm.trans (hp _ (List.find?_some (p:=λ x:κ×α=>p x.1) e))
theorem KT.ok.look(h:S.ok):S.lookK t w=S.look t w:=wO (p:=λ k=>decide (k=(t,w))) (f:=λ k=>S.look k.1 k.2) h.kn λ k e=>by exact ac (of_decide_eq_true e) rfl
theorem KT.ok.pres(h:S.ok):S.presK t=(S.rows t).isSome:=wO (p:=λ k=>decide (k=t)) (f:=λ k=>(S.rows k).isSome) h.pr λ k e=>by exact ac (of_decide_eq_true e) rfl
theorem mL(h:S.ok->bE g S vs q):bE g S vs q:=λ c d ρ σ s i us C R hi x=>by
 have R':=R;(refine au.el R' λ m τ F L K r=>?_;clear R');refine ag (K.O i _ hi) λ a ea k=>?_;(refine fg.el k λ dx dm dl om ol es n kvs v1 v2 t c0 c1 c2 c3 ek p q dom dol ok rs=>?_;clear k);exact h ok c d ρ σ s i us C R hi x
end
noncomputable def BM(vs:List AV):Option (List UInt8):=(Ck vs).bind fY
noncomputable def IU(vs:List AV):Option (List UInt8×List UInt8):=(rK vs).bind λ a=>(fY a.1).bind λ t=>(BM a.2).map λ w=>(t,w)
noncomputable def Ld(vs:List AV):Option ((List UInt8×List UInt8)×List UInt8×Bool×List UInt8):=(rK vs).bind λ a=>(fY a.1).bind λ t=>(rK a.2).bind λ b=>(fY b.1).bind λ k=>(rK b.2).bind λ c=>(fY c.1).bind λ x=>(rK c.2).bind λ d=>(BT d.1).bind λ y=>(BM d.2).map λ z=>((t,k),x,y,z)
noncomputable def Lc(vs:List AV):Option (Option (List UInt8)×Bool):=(KC vs).bind λ a=>(BT a.2).bind λ b=>((fY a.1).map λ k=>(L6 k,b)).or (if BD a.1 then L6 (L9,b) else L9)
theorem iB(h:BM vs=L6 t):vs=[.byt t]:=by
 refine lp h λ v h1 h2=>ac (jv h1) (ac (a7 h2) rfl)
theorem rp(h:IU vs=L6 p):vs=[.byt p.1,.byt p.2]:=by
 refine ae h λ a h1 h2=>ae h2 λ t h3 h4=>?_;(refine aF h4 λ w h5 PZ=>?_;obtain rfl:=PZ);exact ac (cI h1) (ac (a7 h3) (ac (iB h5) rfl))
theorem Ej(h:Ld vs=L6 p):vs=[.byt p.1.1,.byt p.1.2,.byt p.2.1,.boo p.2.2.1,.byt p.2.2.2]:=by
 refine ae h λ a h1 h=>ae h λ t h2 h=>ae h λ b h3 h=>ae h λ k h4 h=>ae h λ c h5 h=>ae h λ x h6 h=>ae h λ d h7 h=>ae h λ y h8 h=>?_;(refine aF h λ z h9 PZ=>?_;obtain rfl:=PZ);exact ac (cI h1) (ac (a7 h2) (ac (cI h3) (ac (a7 h4) (ac (cI h5) (ac (a7 h6) (ac (cI h7) (ac (fb h8) (ac (iB h9) rfl))))))))
theorem Ei(h:Lc vs=L6 p):vs=[ofP (aJ p.1),.boo p.2]:=by
 refine ae h λ a h1 h=>ae h λ b h2 h=>lp h1 λ q h3 h4=>?_;(refine aF h4 λ u h5 PZ=>?_;obtain rfl:=PZ);refine ac (cI h3) (ac (jv h5) ?_);refine ac (show u=.boo b from fb h2) ?_;rcases aY h with h|h
 ·(refine aF h λ k h6 PZ=>?_;obtain rfl:=PZ);refine ac (show q.1=.byt k from a7 h6) ?_;rfl
 ·refine aD (ji h) λ h6 h7=>?_;obtain rfl:=sI h7;refine ac (show q.1=.non from gc h6) ?_;rfl
noncomputable abbrev uI:Type:=KT->List AV->Option ((AV ⊕ KT)×KT)
noncomputable def Gw:uI:=λ S vs=>(IU vs).bind λ p=>if p.1∈aE/\p.2∈br then L6 (.inl (xM ((S.lookK p.1 p.2).or (S.lookK p.1 cW))),S) else L9
noncomputable def Gv:uI:=λ S vs=>(IU vs).bind λ p=>if p.1∈aE then(aO.lookup p.2).map λ w=>(.inl (xM (S.lookK p.1 w)),S) else L9
noncomputable def GB:uI:=λ S vs=>(Ld vs).bind λ p=>if p.1.1∈aE then(aO.lookup p.1.2).map λ w=>(.inl .non,S.bind p.1.1 w ⟨w,p.2.1,p.2.2.1,p.2.2.2⟩) else L9
noncomputable def GA:uI:=λ S vs=>(IU vs).bind λ p=>if p.1∈aE then(aO.lookup p.2).map λ w=>(.inl (.boo (S.lookK p.1 w).isSome),S.unbind p.1 w) else L9
noncomputable def Gz:uI:=λ S vs=>(BM vs).bind λ t=>if t∈aE then L6 (.inl (.int (S.count t:Nat)),S.clear t) else L9
noncomputable def Gy:uI:=λ S vs=>(Lc vs).bind λ p=>p.1.elim (L6 (.inl .non,S.put p.2 L9)) λ k=>(aO.lookup k).map λ w=>(.inl .non,S.put p.2 (L6 w))
noncomputable def Gx:uI:=λ S vs=>(BM vs).map λ w=>(.inl (.boo (t3 S.pre w||t3 S.sec w)),S)
noncomputable def Gu:uI:=λ S vs=>if vs.isEmpty then L6 (.inl (kq (aE.filter S.presK)),S) else L9
noncomputable def Gs:uI:=λ S vs=>(BM vs).bind λ t=>if t∈aE then L6 (.inl (.pv (.seq L7 (qp ((S.rows t).getD [])))),S) else L9
noncomputable def Gr:uI:=λ S vs=>if vs.isEmpty then L6 (.inr S,S) else L9
noncomputable def KV:List (Addr×uI):=[(725,Gw),(732,Gv),(689,GB),(696,GA),(703,Gz),(711,Gy),(718,Gx),(739,Gu),(744,Gs),(751,Gr)]
noncomputable def k1(g:Addr)(S:KT)(vs:List AV):Option ((AV ⊕ KT)×KT):=(KV.lookup g).bind λ f=>f S vs
noncomputable def Ii(p:Addr×uI):Prop:=∀S vs q,p.2 S vs=L6 q->bE p.1 S vs q
theorem vR{S:KT}:(S.rows t).isSome=(S.made.map (·.1)).contains t:=by
 cases h:S.rows t with
 | none=>exact(Bool.eq_false_iff.mpr λ q=>eV h (ML.mp q)).symm
 | some rows=>
  refine bW (bU h) λ MA MB hm=>(ML.mpr (hm▸Mu.mpr ⟨(t,rows),Ml _ (.head _),rfl⟩)).symm
theorem BB(g:Addr)(S:KT)(vs:List AV)(q:(AV ⊕ KT)×KT)(h:k1 g S vs=L6 q):bE g S vs q:=by
 refine lp h λ f hf h=>jp (P:=Ii) (l:=KV) ⟨λ S vs q h=>?_,λ S vs q h=>?_,λ S vs q h=>?_,λ S vs q h=>?_,λ S vs q h=>?_,λ S vs q h=>?_,λ S vs q h=>?_,λ S vs q h=>?_,λ S vs q h=>?_,λ S vs q h=>?_,trivial⟩ _ (aN hf) S vs q h
 ·refine ae h λ p hp h=>ai h λ hc h=>?_;obtain rfl:=sI h;refine ac (rp hp)<|mL λ ok=>by refine ac ok.look (ac ok.look ?_);exact Ex hc.1 hc.2
 ·refine ae h λ p hp h=>ai h λ hc h=>bK h λ w hw=>ac (rp hp)<|mL λ ok=>by refine ac ok.look ?_;exact AX (k:=(p.2,w)) hc (aN hw)
 ·refine ae h λ p hp h=>ai h λ hc h=>bK h λ w hw=>ac (Ej hp)<|Ez (k:=(p.1.2,w)) hc (aN hw)
 ·refine ae h λ p hp h=>ai h λ hc h=>bK h λ w hw=>ac (rp hp)<|mL λ ok=>by refine ac ok.look ?_;exact yx (k:=(p.2,w)) hc (aN hw)
 ·refine ae h λ p hp h=>ai h λ hc h=>?_;obtain rfl:=sI h;refine ac (iB hp)<|AW hc
 ·refine ae h λ p hp h=>ac (Ei hp) ?_;obtain⟨k,b⟩:=p;cases k with
  | none=>exact sI h▸Il
  | some k=>
   refine bK h λ w hw=>Im (k:=(k,w)) (aN hw)
 ·refine bK h λ w hw=>ac (iB hw)<|Io
 ·refine ai h λ hc h=>?_;obtain rfl:=sI h;refine ac (iE hc)<|mL λ ok=>by refine ac (show S.presK=λ t=>(S.made.map (·.1)).contains t from funext λ t=>ok.pres.trans vR) ?_;exact AU
 ·refine ae h λ p hp h=>ai h λ hc h=>?_;obtain rfl:=sI h;refine ac (iB hp)<|Ew hc
 ·refine ai h λ hc h=>?_;obtain rfl:=sI h;refine ac (iE hc)<|Ey
noncomputable def ut(a:Nat)(t:bo):bo:=match t.1 with
 | 0=>t
 | 1=>if t.2=0 then t else(1,3)
 | 2=>if t.2=2*a then(3,0) else if t.2=2*a+1 then(3,1) else(1,3)
 | _=>(1,3)
noncomputable def Lb(a:Nat)(t:bo):bo:=match t.1 with
 | 0=>t
 | 1=>if t.2=0 then t else(0,0)
 | 2=>t
 | 3=>(2,2*a+t.2)
 | _=>(1,0)
theorem Ef(h:ut a t=(k+2,j)):∃i j',t=(i+2,j'):=by
 obtain⟨x,b⟩:=t;match x with
 | 0=>exact nq (congrArg Mn h) rfl
 | 1=>
  cases b with
  | zero=>exact nq (congrArg Mn h) rfl
  | succ b=>exact nq (congrArg Mn h) rfl
 | i+2=>exact(aq i b rfl)
theorem Eg(h:Lb a t=(k+2,j)):∃i j',t=(i+2,j'):=by
 obtain⟨x,b⟩:=t;match x with
 | 0=>exact nq (congrArg Mn h) rfl
 | 1=>
  cases b with
  | zero=>exact nq (congrArg Mn h) rfl
  | succ b=>exact nq (congrArg Mn h) rfl
 | i+2=>exact(aq i b rfl)
theorem Kg:ut a (2,2*a+1)=(3,1):=(if_neg λ h=>absurd (show 2*a+1=2*a from h) (N0 _)).trans (if_pos rfl)
theorem xV(h:b≠a)(hj:j<2):ut a (2,2*b+j)=(1,3):=(if_neg (by refine(?_:¬2*b+j=2*a);lia)).trans (if_neg (by refine(?_:¬2*b+j=2*a+1);lia))
noncomputable def wK(k:List UInt8)(u:AV)(b:Bool)(n:List UInt8):AO:=.ins 655 [(121,.byt k),(74,u),(179,.boo b),(180,.byt n)]
noncomputable def wR:FD:=⟨[143],[],BP,[]⟩
noncomputable def rd(p:List UInt8×AV)(k:List UInt8)(b:Bool)(n:List UInt8)(loc:List (Nat×AV)):Option (AV×St):=(run (aC pU 300) 11 wR [.obj 0] [wK k p.2 b n] L7).bind (AZ ⟨loc,[wK k p.2 b n],L7⟩)
noncomputable def EH(p:List UInt8×AV)(k:List UInt8)(b:Bool)(n:List UInt8):AV×St:=(rd p k b n []).getD (.non,⟨[],[],L7⟩)
noncomputable def DD(o:Option AO):AV:=(o.bind λ o=>match o with|.ins zz f=>f.lookup 74|zz=>L9).getD .non
noncomputable def IH(p:List UInt8×AV)(k:List UInt8)(b:Bool)(n:List UInt8):List AO:=wK k (DD (EH p k b n).2.obs.head?) b n::(EH p k b n).2.obs.tail
noncomputable def Cm:List (List UInt8×AV):=iw.map (λ t=>(t,.byt t))++iw.map λ t=>(t,.pv (eI t))
theorem FX(k:List UInt8)(b:Bool)(n:List UInt8)(loc:List (Nat×AV)):Cm.map (λ p=>rd p k b n loc)=mp (λ p=>L6 ((EH p k b n).1,⟨loc,IH p k b n,L7⟩)) Cm:=by kernel_rfl
theorem FW(k:List UInt8)(b:Bool)(n:List UInt8):Cm.map (λ p=>(pt 1 (IH p k b n) 6 (EH p k b n).1,pt 1 (IH p k b n) 6 (DD (EH p k b n).2.obs.head?)))=mp (λ p=>(L6 (eI p.1),L6 (eI p.1))) Cm:=by kernel_rfl
theorem GK(w:MO):plainGet (hd.heap_39 w.params) 655 (nm 98)=L7/\hasDictIn (hd.heap_39 w.params) 655=L7/\Ou (hd.heap_39 w.params) (.ref 655) (nm 98)=L6 (L6 (.ref 645))/\specialIn (hd.heap_39 w.params) (.ref 645) "__get__"=L6 (L6 (.builtin "property.__get__"))/\takesIn (hd.heap_39 w.params) (.ref 645)=L6 L7/\(recIn (hd.heap_39 w.params) 645 "property").bind (·.head?)=L6 (.ref 644):=⟨by kernel_rfl,by kernel_rfl,by kernel_rfl,by kernel_rfl,by kernel_rfl,by kernel_rfl⟩
noncomputable def Jz:Nat->PV->Bool
 | 0,_=>L7
 | n+1,p=>match p with
  | .seq _ l=>l.all (Jz n)
  | .ins _ _ l=>l.all (Jz n)
  | .bnd _=>L8
  | _=>L7
theorem ay.alls{R R':α->β->Prop}(hr:∀x y,q x=L7->R x y->R' x y):∀{xs:List α} {ys:List β},xs.all q=L7->ay R xs ys->ay R' xs ys:=by intro l_;induction l_ with
 | nil=>intro _ _ h;exact h
 | cons x xs P9=>
  intro _ o h;refine ao h λ y zs e a t=>af (show(q x&&xs.all q)=L7 from o) λ o1 o2=>(aq y zs ⟨e,hr x y o1 a,(P9 o2 t)⟩)
theorem eA.tr(e:∀a o,z.cel a o->z'.cel a o)(n:Nat):∀(p:PV) (v:Value),Jz n p=L7->eA z n p v->eA z' n p v:=by
 induction n with
 | zero=>exact λ zz zz zz h=>h
 | succ n ih=>
  intro p v hn h;cases p with
  | seq b l=>
   refine aP h λ a m vs e1 e2 t=>?_;exact(aI a m vs ⟨e1,e _ _ e2,t.alls ih hn⟩)
  | ins C ks l=>
   (refine ef h λ a dx m vs es e1 e2 e3 e4 t=>?_;clear h);exact(bM a dx m vs es ⟨e1,e _ _ e2,e _ _ e3,e4,t.alls ih hn⟩)
  | bnd r=>exact ff hn
  | _=>exact h
theorem Ar(e:∀a o,z.cel a o->z'.cel a o)(h:bA z (eI t) v):bA z' (eI t) v:=by
 (revert h;refine λ P3=>aA P3 λ n h=>?_;clear P3);refine⟨n,eA.tr e n _ _ ?_ h⟩;match n with
 | 0=>rfl
 | 1=>rfl
 | 2=>rfl
 | 3=>rfl
 | n+4=>rfl
theorem Ba(h:t∈iw):(t,AV.byt t)∈Cm/\(t,AV.pv (eI t))∈Cm:=⟨MS _ (Mw h),Ml _ (Mw h)⟩
theorem xz(ht:t∈iw):tm t:=by
 intro c d ρ σ s r val ex C R hph hr x;obtain⟨a,rfl,hb⟩:∃a,val=.ref a/\ρ.z.bds a=L6 r:=by
  (revert x;refine λ P3=>aA P3 λ n x=>?_;clear P3);cases n with
  | zero=>exact x.elim
  | succ n=>exact x
 (refine au.el R λ m τ F L K rs=>?_;clear R);refine uJ.el (K.B a r hb) λ dx es k vk v vn c0 c1 ek yk yn yt=>?_;let z₁:Fz:=⟨ρ.z.cel,λ zz=>L9⟩
 have plain:∀{z:Fz} {b:List UInt8} {v:Value},bA z (.byt b) v->∃t,v=.bytes b.toArray t:=λ h=>by
  (revert h;refine λ P3=>aA P3 λ n h=>?_;clear P3);cases n with
  | zero=>exact h.elim
  | succ n=>exact h
 obtain⟨p,hp,hpt,hu⟩:∃p∈Cm,p.1=t/\Is ⟨[a],z₁⟩ p.2 v:=by
  rcases yt with y|⟨_,y⟩
  ·exact⟨_,(Ba ht).1,rfl,hr▸plain y⟩
  ·exact⟨_,(Ba ht).2,rfl,Ar (z:=ρ.z) (λ zz zz h=>h) (hr▸y)⟩
 have t0:ut a (τ a)=(3,0):=(congrArg (ut a) c0.t).trans (if_pos rfl);have t1:ut a (τ dx)=(3,1):=(congrArg (ut a) c1.t).trans Kg;have K₁:=K.vin (φ:=ut a) (z₁:=z₁) (ad₁:=[a]) (os₁:=[wK r.key p.2 r.rep r.note]) (λ zz=>rfl) (λ t k j=>Ef) rfl (λ zz zz h=>h) (λ zz zz h=>nn h) rfl (λ b o k z=>mZ z) λ q o e=>by
  cases q with
  | zero=>exact⟨a,rfl,sI e▸(aI dx es k ⟨⟨c0.g,t0⟩,⟨c1.g,t1⟩,fh.ent (l:=[.byt r.key,p.2,.boo r.rep,.byt r.note]) ek (ay.k (plain yk) (ay.k hu (ay.k rfl (ay.k (plain yn) rfl))))⟩)⟩
  | succ q=>exact dC e
 refine w8 (GK c.w) λ h1 h2 h3 h4 h5 h6=>lp h6 λ rl hrl hh=>?_;obtain⟨rest,rfl⟩:∃rest,rl=.ref 644::rest:=by
  cases rl with
  | nil=>exact nn hh
  | cons y l=>exact⟨l,by exact ac (show y=.ref 644 from sI hh) rfl⟩
 refine qT F C.X ⟨c0.g,rfl,rfl,c1.g⟩ h1 h2 h3 h4 h5 hrl ?_;have SM:au (c.fix (jk s.heap τ (ut a))) ⟨[a],z₁⟩ ⟨jD σ.loc (dn c.vc m),[wK r.key p.2 r.rep r.note],L7⟩ s:=⟨m,_,F,L.raw,hph▸K₁,rs⟩
 have R₁:=SM.toks (s.toks+1);have QC:aQ (c.fix (jk s.heap τ (ut a))) (d+12):=aQ.fix C;have hrun:=am (FX r.key r.rep r.note (jD σ.loc (dn c.vc m))) p hp;refine lp hrun λ q hq hfin=>?_;have hdp:=am (FW r.key r.rep r.note) p hp;refine tA (c:=c.fix (jk s.heap τ (ut a))) (A':=c.A.in1) (d':=11) rfl (dG.fns 644 1 wR (by kernel_rfl)) QC (by have:=C.hd;refine(?_:c.dp+1+11<_);lia) (by have:=C.hu;refine(?_:c.un+1+3+(10*11+100)<_);lia) R₁ (avs:=[.obj 0]) (ay.k ⟨a,rfl,rfl⟩ rfl) rfl λ c' PY s' zz EN C' hm le R'=>?_;refine aK ((bp dG 300).ex 11 wR.body _ q c' PY s' hq C' hm R') λ fl s'' z=>PE.el (qW hfin R₁.size.symm EN le z) λ ρ' le' P4 y=>?_;(refine au.el P4 λ m' τ' F' L' K' r'=>?_;clear P4);have B:=K.bk (φ:=ut a) (ψ:=Lb a) (λ zz=>rfl) (λ zz=>rfl) K' λ b o q g=>⟨rfl,q,g⟩
 refine j4 (K'.O 0 _ rfl) λ a' ea dx' es' k' d0 d1 ent=>?_;obtain rfl:=sI ((le'.a 0 _ rfl).symm.trans ea);have hid:∀b QK,b≠a->ρ.z.bds b=L6 QK->τ' b=(1,3):=λ b QK n e=>by
  obtain⟨_,_,_,_,_,_,f0,_⟩:=K.B b QK e;exact(K'.X b _ 2 ⟨rfl,(congrArg (ut a) f0.t).trans (xV (j:=0) n (by decide)),f0.g⟩).t
 let z2:Fz:=⟨(EQ ρ'.z s''.heap τ' 1).cel,λ b=>if b=a then L6 r else(ρ.z.bds b).or (ρ'.z.bds b)⟩
 have zb:∀b QK,z2.bds b=L6 QK->b=a/\QK=r\/b≠a/\(ρ.z.bds b=L6 QK\/ρ'.z.bds b=L6 QK):=λ b QK z=>by
  by_cases e:b=a
  ·exact .inl ⟨e,(sI ((if_pos e).symm.trans z)).symm⟩
  ·exact .inr ⟨e,aY ((if_neg e).symm.trans z)⟩
 have lz:ρ.z.Le z2:=⟨λ zz zz h=>.inl (le'.z.c _ _ h),λ b QK h=>by
  by_cases e:b=a
  ·exact(if_pos e).trans (bP h (ac e (ac hb rfl)))
  ·exact(if_neg e).trans (by refine ac h ?_;rfl)⟩
 have lz':(EQ ρ'.z s''.heap τ' 1).Le z2:=⟨λ zz zz h=>h,λ b QK h=>by
  obtain⟨_,_,_,_,_,_,f0,_⟩:=K'.B b QK h;by_cases e:b=a
  ·rw[e] at f0;exact nq (congrArg Mn (d0.t.symm.trans f0.t)) rfl
  ·refine(if_neg e).trans ?_;cases q:ρ.z.bds b with
   | none=>exact h
   | some RC=>exact nq (congrArg Mn ((hid b RC e q).symm.trans f0.t)) rfl⟩
 have hv:∀{u:AV} {v:Value},pt 1 (IH p r.key r.rep r.note) 6 u=L6 (eI p.1)->Is ρ' u v->bA z2 (eI r.told) v:=λ h y=>by
  refine ac hr (bP hpt ?_);exact(xd K' 6 _ _ _ h y).mono lz'
 have n2:∀{k j:Nat},(k+2,j)≠((1,3):bo):=λ q=>nq (congrArg Mn q) rfl;refine aD (MD hdp) λ e1 e2=>ag (sV (ks:=[121,74,179,180]) (l:=[.byt r.key,DD (EH p r.key r.rep r.note).2.obs.head?,.boo r.rep,.byt r.note]) rfl ent) λ vs ek' xs=>KX xs λ vk' vt' vr' vn' y1 y2 y3 y4 ev=>?_;rw[ev,show vr'=.bool r.rep from y3] at ek';have lr:ρ.Le ⟨ρ.ad,z2⟩:=⟨λ zz zz h=>h,lz⟩
 have K₂:=B.know (ad'':=ρ.ad) (os'':=σ.obs) (z'':=z2) K K' (λ t k j=>Eg) K.sz (λ i o e=>by
  refine ag (K.O i o e) λ b e1 y=>⟨b,e1,y.imp (ρ':=⟨ρ.ad,z2⟩) (λ b o j cl=>B.old _ _ _ _ rfl cl) lr λ zz zz h=>h⟩) (λ b o z=>by
  rcases z with z|⟨k,j,e,hk,g⟩
  ·exact B.vis _ _ 1 0 _ _ rfl (λ q=>nq (congrArg NE q) rfl) (K'.Z b o z)
  ·(refine aA (Nat.exists_eq_add_of_le' hk) λ k P2=>?_;obtain rfl:=P2);exact B.vis _ _ (k+1+3) j _ _ rfl n2 ⟨g,e⟩) (λ b o k z=>B.old _ _ _ _ rfl (K.X b o k z)) λ b QK z=>by
  rcases zb b QK z with ⟨rfl,rfl⟩|⟨n,z|z⟩
  ·exact⟨dx',_,k',vk',vt',vn',B.vis _ _ 3 0 _ _ rfl n2 d0,B.vis _ _ 3 1 _ _ rfl n2 d1,ek',⟨1,y1⟩,⟨1,y4⟩,.inr ⟨rfl,hv e2 y2⟩⟩
  ·refine uJ.el (K.B b QK z) λ Si Sh SE RZ QY RY f0 f1 g1 g2 g3 g4=>⟨Si,Sh,SE,RZ,QY,RY,B.old _ _ _ _ (xV (j:=0) n (by decide)) f0,B.old _ _ _ _ (xV (j:=1) n (by decide)) f1,g1,g2.mono lz,g3.mono lz,g4.imp (·.mono lz) λ y=>⟨rfl,y.2.mono lz⟩⟩
  ·exact(K'.B b QK z).imp (λ b o j cl=>B.vis _ _ 2 j _ _ rfl n2 cl) (xO.trans lz')
 obtain⟨av,hav⟩:∃av,GT fl=.ref av:=by
  refine aA (hv e1 y) λ nn h=>?_;cases nn with
  | zero=>exact h.elim
  | succ n=>refine bw h λ b zz zz e zz=>?_;exact⟨b,e⟩
 refine(?_:uy c.M c.A _ _ (GT fl) s'');have yv:=hv e1 y;rw[hav] at yv ⊢;exact uy.ref ⟨⟨ρ.ad,z2⟩,lr,⟨m',_,F',(L.unraw L').mono lr,hph▸K₂,r'⟩,hr▸yv⟩
noncomputable def p2(a:Addr)(vs:List AV):Option (AV ⊕ AO):=if a=754 then(if vs.isEmpty then L6 (.inr (.ktb Dy)) else L9) else p1 a vs
theorem Bi(a:Addr)(vs:List AV)(r:AV ⊕ AO)(h:p2 a vs=L6 r):hG a vs r:=by
 by_cases e:a=754
 ·refine aD (ji ((if_pos e).symm.trans h)) λ h1 h2=>?_;obtain rfl:=sI h2;refine ac e (ac (iE h1) ?_);exact Id
 ·exact Bj a vs r ((if_neg e).symm.trans h)
noncomputable def dN(t w:List UInt8)(p:PV):List UInt8:=match p with
 | .seq _ l=>match l with
  | [.byt x,.boo y,.byt z]=>[98,105,110,100,45,107,101,121]++(if y then [32,45,114] else [])++(if z.isEmpty then [] else [32,45,78,32]++z)++[32,45,84,32]++t++[32]++w++[32,123,32]++x++[32,125]
  | _=>[]
 | _=>[]
noncomputable def CP(o:AO):List (List UInt8×PV):=match o with
 | .dip _ _ _ _ l=>l
 | _=>[]
noncomputable def gH(t:List UInt8)(l:List (List UInt8×PV)):List AV:=(bi (l.map (·.1))).map λ w=>.byt (dN t w ((bC w l).getD .non))
noncomputable def cz(os:List AO)(j:Nat):List AV:=((os[j]?).bind uh).elim [] λ D=>(bi (D.map (·.1))).flatMap λ t=>((bC t D).bind (pW os)).elim [] λ o=>gH t (CP o)
noncomputable def cY(r:BR):PV:=.seq L8 [.byt r.told,.boo r.rep,.byt r.note]
noncomputable def Jv(vs:List AV):List UInt8:=((rK vs).bind λ q=>(BM q.2).bind λ t=>match q.1 with
 | .pv p=>(match p with
  | .bnd r=>L6 (dN t r.key (cY r))
  | _=>L9)
 | _=>L9).getD []
noncomputable def zg:List Addr:=[814,821,833,652]
noncomputable def ou(g:Addr)(vs:List AV)(os:List AO):AV×List AO:=if g=652 then(.byt (Jv vs),os) else if g=833 then(.obj os.length,os++[.lst (cz os (((Ck vs).bind En).getD 0))]) else(.boo L7,os)
noncomputable def f6(g:Addr)(vs:List AV)(os:List AO)(ph:Bool):Option (AV×List AO):=open Classical in
 if g∈zg then(if mi g vs os ph (ou g vs os) then L6 (ou g vs os) else L9) else L9
open Classical in
theorem zf(g:Addr)(vs:List AV)(os:List AO)(ph:Bool)(r:AV×List AO)(h:f6 g vs os ph=L6 r):mi g vs os ph r:=by
 refine aD (ji h) λ zz h=>aD (ji h) λ h1 h2=>sI h2▸h1
theorem jc{os:List AO}(hg:g∈zg)(h:mi g vs os ph (ou g vs os)):f6 g vs os ph=L6 (ou g vs os):=(if_pos hg).trans (@if_pos _ (M0 _) h _ _ _)
noncomputable abbrev tR:List UInt8:=[114,111,111,116]
noncomputable abbrev tP:List UInt8:=[112,114,101,102,105,120]
noncomputable abbrev tO:List UInt8:=[111,119,110]
noncomputable def J8(σ:St)(t:List UInt8):AO:=(((Av σ 132).bind λ v=>CJ σ.obs v t).bind λ v=>(pW σ.obs v).bind G8).getD (.lst [])
noncomputable def vJ(x:X)(σ:St):AV×St:=match x with
 | .raw k _ _ _ _ _=>if k=3 then(.obj (σ.obs.length+1),{σ with obs:=(λ os=>os++[.lst (cz os σ.obs.length)]) (σ.obs++[.dic [(tO,((Av σ 132).bind λ v=>CJ σ.obs v tO).getD .non)]])}) else if k=1 then(.obj (σ.obs.length+7),{σ with obs:=σ.obs++[J8 σ tR,.tup [.byt tR,.obj σ.obs.length],J8 σ tP,.tup [.byt tP,.obj (σ.obs.length+2)],J8 σ tO,.tup [.byt tO,.obj (σ.obs.length+4)],.lst [.obj (σ.obs.length+1),.obj (σ.obs.length+3),.obj (σ.obs.length+5)],.dic [(tR,.obj σ.obs.length),(tP,.obj (σ.obs.length+2)),(tO,.obj (σ.obs.length+4))]] }) else(.boo L7,σ)
 | _=>(.non,σ)
noncomputable def vK(x:X)(d:Nat)(σ:St):Option (AV×St):=open Classical in if kJ x d σ (vJ x σ) then L6 (vJ x σ) else L9
noncomputable def aM:bq:=tb p2 k1 (λ t=>iw.contains t) f6 vK
open Classical in
theorem bc:be aM:=ot Bi BB (λ t h=>xz (ML.mp h)) zf λ x d σ r h=>by
 refine aD (ji h) λ h1 h2=>sI h2▸h1
noncomputable def x0:X:=.non 0 (pZ 0 0 0)
noncomputable def sX:S->X
 | .ret x _=>x
 | .asg _ _ x _=>x
 | .iff x _ _ _=>x
 | .fr _ x _ _=>x
 | .ex x _=>x
 | _=>x0
noncomputable def xA:X->X
 | .cmp _ a _ _=>a
 | .lc e _ _ _ _ _ _=>e
 | _=>x0
noncomputable def xB:X->X
 | .cmp _ _ b _=>b
 | .lc _ _ i _ _ _ _=>i
 | _=>x0
noncomputable def xC:X->X
 | .lc _ _ _ (L6 c) _ _ _=>c
 | _=>x0
noncomputable def sN(l:List S)(i:Nat):S:=l.getD i (.pas (pZ 0 0 0))
noncomputable abbrev cF:Type:=List UInt8->List UInt8->Option BR
noncomputable abbrev aS:Type:=List (List UInt8×List (List UInt8×BR))
noncomputable abbrev mj:Type:=List UInt8->List (List UInt8×PV)
noncomputable def dI(w:List UInt8)(r:BR):PV:=.seq L8 [.byt w,.byt r.told,.boo r.rep,.byt r.note]
noncomputable def nW(M:aS)(p q:Option (List UInt8))(G:cF)(e:List UInt8->Bool):KT:=⟨M,p,q,aE.flatMap λ t=>br.map λ w=>((t,w),G t w),aE.map λ t=>(t,!e t)⟩
noncomputable def yG(G:cF)(e:List UInt8->Bool)(L:mj)(t:List UInt8):AO:=.dip 7 (br.map λ w=>(w,(G t w).map cY)) (L6 (e t)) [] (L t)
noncomputable def uj(b:Bool)(k:Nat):AO:=cond b (.frd [(tR,.obj k),(tP,.obj (k+1)),(tO,.obj (k+2))]) (.dic [(tR,.obj k),(tP,.obj (k+1)),(tO,.obj (k+2))])
noncomputable def Wv(b:Bool)(M:aS)(p q:Option (List UInt8))(G:cF)(e:List UInt8->Bool)(L:mj):List AO:=[.ktb (nW M p q G e),uj b 2,yG G e L tR,yG G e L tP,yG G e L tO]
noncomputable def uG(t w:List UInt8)(o:Option BR)(G:cF):cF:=λ x y=>if x=t/\y=w then o else G x y
theorem jG(h:G t w=o):uG t w o G=G:=by
 funext x y
 by_cases q:x=t/\y=w
 ·exact ac (show uG t w o G x y=o from if_pos q) (ac q.1 (ac q.2 (ac h rfl)))
 ·exact if_neg q
section
variable(n d:Nat)(b ph:Bool)(M:aS)(p q:Option (List UInt8))(G:cF)(e:List UInt8->Bool)(L:mj)
noncomputable def W7(t:List UInt8):List AO:=Wv b M p q G e L++[.cel (L6 (.obj 1)),.cel (L6 (.byt t)),.cel (L6 (.obj 1))]
noncomputable def qL:List (Nat×AV):=[(100,.obj 6),(132,.obj 7)]
theorem Lo:aE.map (λ t=>(aC aM (n+10)).ev (d+14) (xB (sX (sN fX 0))) ⟨qL,W7 b M p q G e L t,ph⟩)=mp (λ t=>L6 (kq (bi ((L t).map (·.1))),⟨qL,W7 b M p q G e L t,ph⟩)) aE:=by cases b<;>kernel_rfl
theorem Ln(r:BR):aE.map (λ t=>br.map λ w=>(aC aM (n+10)).ev (d+14) (xA (sX (sN fX 0))) ⟨qL++[(80,.byt w)],W7 b M p q (uG t w (L6 r) G) e L t,ph⟩)=mp (λ t=>mp (λ w=>L6 (.pv (dI w r),⟨qL++[(80,.byt w)],W7 b M p q (uG t w (L6 r) G) e L t,ph⟩)) br) aE:=by cases b<;>kernel_rfl
end
noncomputable def pX(w:List UInt8):List BR:=iw.flatMap λ t=>[L7,L8].flatMap λ r=>qC.map λ n=>⟨w,t,r,n⟩
theorem jn(h:r∈pX w):r.key=w:=by
 refine ag (M2.mp h) λ t zz h=>ag (M2.mp h) λ b zz h=>?_;(refine cE h λ n zz PZ=>?_;obtain rfl:=PZ);rfl
noncomputable def aG(M:aS)(t:List UInt8):List (List UInt8×BR):=(bC t M).getD []
structure Gd(M:aS)(G:cF)(e:List UInt8->Bool)(L:mj):Prop where
 g:∀t w,G t w=bC w (aG M t)
 l:∀t,L t=(aG M t).map λ x=>(x.1,cY x.2)
 e:∀t,e t=(aG M t).isEmpty
 k:∀t,∀x∈aG M t,x.1∈br/\x.2∈pX x.1
section
variable{n d:Nat}{b ph:Bool}{M:aS}{p q:Option (List UInt8)}{G:cF}{e:List UInt8->Bool}{L:mj}{t:List UInt8}
noncomputable def ig(M:aS)(t:List UInt8):List (List UInt8):=tG (aG M t)
theorem Gd.keys(g:Gd M G e L):(L t).map (·.1)=(aG M t).map (·.1):=by rw[g.l];exact MH
theorem Gd.mem(g:Gd M G e L)(h:w∈ig M t):∃r,G t w=L6 r/\w∈br/\hB (aG M t) w=r/\r.key=w:=by
 refine cC (oy h) λ r h1 h2 h3=>⟨r,(g.g t w).trans h1,(g.k t _ h2).1,h3,jn (g.k t _ h2).2⟩
theorem fk(g:Gd M G e L)(hl:(aG M t).length<=7):(ig M t).length<=1000:=by
 rw[ig,tG,(bH _).length_eq,Md];exact ME hl (by decide)
noncomputable def gf(M:aS)(t:List UInt8):AV:=.pv (.seq L7 ((ig M t).map λ w=>dI w (hB (aG M t) w)))
theorem nh{α:Type}{e it:X}{t:FT}{q:Pos}{l:List α}{g h:α->PV}{os:List AO}{ph:Bool}{loc:List (Nat×AV)}(hi:(aC T n).ev d it σ=L6 (.pv (.seq L7 (l.map g)),⟨loc,os,ph⟩))(hl:l.length<=1000)
  (H:∀x∈l,∃Qd,put T t (ofP (g x)) ⟨dU fv loc,os,ph⟩=L6 ⟨Qd,os,ph⟩/\(aC T n).ev d e ⟨Qd,os,ph⟩=L6 (ofP (h x),⟨Qd,os,ph⟩)):(aC T (n+1)).ev d (.lc e t it L9 nms fv q) σ=L6 (.pv (.seq L7 (l.map h)),⟨loc,os,ph⟩):=by
 have r:=sS (cn:=L9) (nms:=nms) (fv:=fv) (q:=q) (c:=λ zz=>L7) hi hl λ x hx=>by refine ag (H x hx) λ a h1 h2=>?_;exact⟨a,h1,rfl,λ zz=>h2⟩
 rwa [Oo.mpr λ zz zz=>rfl] at r
theorem Jn(g:Gd M G e L)(ht:t∈aE)(hl:(aG M t).length<=7):(aC aM (n+12)).exs (d+14) fX ⟨qL,W7 b M p q G e L t,ph⟩=L6 (.ret (gf M t),⟨qL,W7 b M p q G e L t,ph⟩):=by
 refine dD (cL ?_);refine nh (l:=ig M t) (g:=.byt) (h:=λ w=>dI w (hB (aG M t) w)) ((am (Lo n d b ph M p q G e L) t ht).trans (by refine ac g.keys ?_;rfl)) (fk g hl) λ x hx=>?_;refine cM (g.mem hx) λ r h1 h2 h3 zz=>?_;have h:=am (am (Ln n d b ph M p q G e L r) t ht) x h2;rw[jG h1] at h;exact⟨_,rfl,h3▸h⟩
noncomputable def W6(b:Bool)(M:aS)(p q:Option (List UInt8))(G:cF)(e:List UInt8->Bool)(L:mj):List AO:=Wv b M p q G e L++[.cel (L6 (.obj 1))]
noncomputable def qK(t:List UInt8):List (Nat×AV):=[(132,.obj 5),(129,.obj 0),(100,.byt t)]
noncomputable def gF(M:aS)(t:List UInt8):List (Nat×AV):=qK t++[(134,gf M t)]
theorem nj{os:List AO}(h:∀p∈l,eH 10 p p=L7):eO T os .Eq (.pv (.seq c l)) (.pv (.seq c l))=L6 L7/\eO T os .NotEq (.pv (.seq c l)) (.pv (.seq c l))=L6 L8:=by
 have a:∀l:List PV,(∀p∈l,eH 10 p p=L7)->nT (eH 10) l l=L7:=λ l=>by
  induction l with
  | nil=>exact λ zz=>rfl
  | cons p l ih=>exact λ h=>(NZ _ _).mpr ⟨h p (.head _),ih λ p hp=>h p (.tail _ hp)⟩
 have e:dg T os (.pv (.seq c l))=L6 (c,l):=by
  refine(?_:(toPs (l.map ofP)).map _=_);refine ac (show toPs (l.map ofP)=L6 l from(eT (f:=id)).trans (congrArg L6 (Oh l))) ?_;rfl
 have f:∀ne,IN T os ne (.pv (.seq c l)) (.pv (.seq c l))=L6 L7:=λ ne=>by
  have q:(dg T os (.pv (.seq c l))).bind (λ p=>(dg T os (.pv (.seq c l))).bind λ q=>IO p q)=L6 L7:=by
   refine ac e<|(?_:(if(c==c&&nT (eH 10) l l)=L7 then L6 L7 else L9)=_)
   refine ac (a l h) (ac (beq_self_eq_true _) ?_);rfl
  cases ne<;>exact q
 exact⟨f L8,congrArg (Nk (!·)) (f L7)⟩
theorem FN:eH 10 (dI w r) (dI w r)=L7:=by
 refine(?_:(w==w&&(r.told==r.told&&(r.rep==r.rep&&(r.note==r.note&&L7))))=L7);refine ac (beq_self_eq_true _) (ac (beq_self_eq_true _) (ac (beq_self_eq_true _) (ac (beq_self_eq_true _) ?_)));rfl
noncomputable def qh(w:List UInt8)(r:BR):PV:=.seq L8 [.byt w,.byt r.note]
theorem FO:eH 10 (qh w r) (qh w r)=L7:=by
 refine(?_:(w==w&&(r.note==r.note&&L7))=L7);refine ac (beq_self_eq_true _) (ac (beq_self_eq_true _) ?_);rfl
theorem DO:eO aM (W6 b M p q G e L) .NotEq (gf M t) (gf M t)=L6 L8:=(nj λ p h=>by
 (refine cE h λ w zz PZ=>?_;obtain rfl:=PZ);exact FN).2
section
variable(n d:Nat)(b ph:Bool)(M:aS)(p q:Option (List UInt8))(G:cF)(e:List UInt8->Bool)(L:mj)(r:BR)
noncomputable def yI(i:Nat):X:=xA (sX (sN iO i))
noncomputable def B5(i:Nat):X:=xB (sX (sN iO i))
theorem Lq:aE.map (λ t=>(aC aM (n+10)).ev 19 (xB (yI 1)) ⟨gF M t,W6 b M p q G e L,L8⟩)=mp (λ t=>L6 (.pv (.seq L7 (qp (aG M t))),⟨gF M t,W6 b M p q G e L,L8⟩)) aE:=by kernel_rfl
theorem Lp:(aC aM (n+10)).ev 19 (xA (yI 1)) ⟨[(133,.pv (.bnd r))],W6 b M p q G e L,L8⟩=L6 (.pv (dI r.key r),⟨[(133,.pv (.bnd r))],W6 b M p q G e L,L8⟩):=by cases b<;>kernel_rfl
noncomputable def wB(t:List UInt8):List (Nat×AV):=[(129,.obj 0),(100,.byt t)]
theorem Ls:aE.map (λ t=>(aC aM (n+10)).ev 18 (xB (sX (sN kF 0))) ⟨wB t,W6 b M p q G e L,L8⟩)=mp (λ t=>L6 (.pv (.seq L7 (qp (aG M t))),⟨wB t,W6 b M p q G e L,L8⟩)) aE:=by kernel_rfl
theorem Lr:(aC aM (n+10)).ev 18 (xA (sX (sN kF 0))) ⟨[(133,.pv (.bnd r))],W6 b M p q G e L,L8⟩=L6 (.pv (qh r.key r),⟨[(133,.pv (.bnd r))],W6 b M p q G e L,L8⟩)/\(aC aM (n+10)).tst 18 (xC (sX (sN kF 0))) ⟨[(133,.pv (.bnd r))],W6 b M p q G e L,L8⟩=L6 (!(r.note==[]),⟨[(133,.pv (.bnd r))],W6 b M p q G e L,L8⟩):=⟨by kernel_rfl,by kernel_rfl⟩
theorem Lu(w:List UInt8):(aC aM (n+10)).ev 19 (xA (B5 2)) ⟨[(192,.pv (dI w r))],W6 b M p q G e L,L8⟩=L6 (.pv (qh w r),⟨[(192,.pv (dI w r))],W6 b M p q G e L,L8⟩)/\(aC aM (n+10)).tst 19 (xC (B5 2)) ⟨[(192,.pv (dI w r))],W6 b M p q G e L,L8⟩=L6 (!(r.note==[]),⟨[(192,.pv (dI w r))],W6 b M p q G e L,L8⟩):=⟨by kernel_rfl,by kernel_rfl⟩
noncomputable def e3(x y z:Bool)(t:List UInt8):Bool:=if t=tR then x else if t=tP then y else z
theorem Lm:[L7,L8].map (λ b=>[L7,L8].map λ x=>[L7,L8].map λ y=>[L7,L8].map λ z=>aE.map λ t=>(aC aM (n+14)).ev 19 (sX (sN iO 3)) ⟨gF M t,W6 b M p q G (e3 x y z) L,L8⟩)=mp (λ b=>mp (λ x=>mp (λ y=>mp (λ z=>mp (λ t=>L6 (.boo L7,⟨gF M t,W6 b M p q G (e3 x y z) L++[.dic [],.dic [],.dic []],L8⟩)) aE) [L7,L8]) [L7,L8]) [L7,L8]) [L7,L8]:=by kernel_rfl
end
end
section
variable{n d:Nat}{b ph:Bool}{M:aS}{p q:Option (List UInt8)}{G:cF}{e:List UInt8->Bool}{L:mj}{t:List UInt8}
noncomputable def wQ:FD:=⟨[132,100],[],fX,[100,132]⟩
noncomputable def GX:FD:=⟨[129,100],[],kF,[]⟩
theorem CG:mz 6 (gf M t) (W7 b M p q G e L t)=W6 b M p q G e L:=by cases b<;>kernel_rfl
theorem Kb(g:Gd M G e L)(ht:t∈aE)(hl:(aG M t).length<=7):(aC aM (n+20)).cal 19 (.val (.ref 802)) [.obj 1,.byt t] ⟨loc,W6 b M p q G e L,ph⟩=L6 (gf M t,⟨loc,W6 b M p q G e L,ph⟩):=
 (et (n:=n+19) (d:=18) (fd:=wQ) (by kernel_rfl) (by kernel_rfl) (by cases b<;>kernel_rfl) (by kernel_rfl) (by kernel_rfl) ((show _=(aC aM (n+19)).exs 18 fX ⟨qL,W7 b M p q G e L t,ph⟩ by kernel_rfl).trans (Jn (n:=n+7) (d:=4) g ht hl))).trans (congrArg (λ os=>L6 (gf M t,(⟨loc,os,ph⟩:St))) CG)
noncomputable def iH(M:aS)(t:List UInt8):AV:=.pv (.seq L7 (((ig M t).filter λ w=>!((hB (aG M t) w).note==[])).map λ w=>qh w (hB (aG M t) w)))
theorem CH:mz 6 (iH M t) (W6 b M p q G e L)=W6 b M p q G e L:=by cases b<;>kernel_rfl
theorem Kc(g:Gd M G e L)(ht:t∈aE)(hl:(aG M t).length<=7):(aC aM (n+20)).cal 19 (.val (.ref 769)) [.obj 0,.byt t] ⟨loc,W6 b M p q G e L,L8⟩=L6 (iH M t,⟨loc,W6 b M p q G e L,L8⟩):=by
 have h:(aC aM (n+19)).exs 18 kF ⟨wB t,W6 b M p q G e L,L8⟩=L6 (.ret (iH M t),⟨wB t,W6 b M p q G e L,L8⟩):=dD (cL (sS (n:=n+17) (l:=ig M t) (g:=λ w=>.bnd (hB (aG M t) w)) (h:=λ w=>qh w (hB (aG M t) w)) (c:=λ w=>!((hB (aG M t) w).note==[])) (am (Ls (n+7) b M p q G e L) t ht) (fk g hl) λ x hx=>by
  refine cM (g.mem hx) λ r h1 h2 h3 h4=>?_;have h:=Lr (n+7) b M p q G e L r;rw[h4] at h;exact⟨_,rfl,h3▸h.2,λ zz=>h3▸h.1⟩))
 exact(et (n:=n+19) (d:=18) (fd:=GX) (by kernel_rfl) (by kernel_rfl) (by kernel_rfl) (by kernel_rfl) (by kernel_rfl) ((show _=(aC aM (n+19)).exs 18 kF ⟨wB t,W6 b M p q G e L,L8⟩ by kernel_rfl).trans h)).trans (congrArg (λ os=>L6 (iH M t,(⟨loc,os,L8⟩:St))) CH)
theorem cV{t:X}{p:Pos}(h:(aC T (n+1)).tst d t σ=L6 (L8,σ')):bv T (aC T (n+1)) d (.iff t a [] p) σ=L6 (.nxt,σ'):=ed h rfl
theorem Jm(g:Gd M G e L)(ht:t∈aE)(hl:(aG M t).length<=7):(aC aM (n+30)).exs 19 iO ⟨qK t,W6 b M p q G e L,L8⟩=L6 (.ret (.boo L7),⟨gF M t,W6 b M p q G e L++[.dic [],.dic [],.dic []],L8⟩):=by
 have s1:(aC aM (n+27)).ev 19 (yI 1) ⟨gF M t,W6 b M p q G e L,L8⟩=L6 (gf M t,⟨gF M t,W6 b M p q G e L,L8⟩):=by
  refine nh (n:=n+26) (l:=ig M t) (g:=λ w=>.bnd (hB (aG M t) w)) (h:=λ w=>dI w (hB (aG M t) w)) (am (Lq (n+16) b M p q G e L) t ht) (fk g hl) λ x hx=>cM (g.mem hx) λ r h1 h2 h3 h4=>?_;have h:=Lp (n+16) b M p q G e L r;rw[h4] at h;exact⟨_,rfl,h3▸h⟩
 have s2:(aC aM (n+26)).ev 19 (B5 2) ⟨gF M t,W6 b M p q G e L,L8⟩=L6 (iH M t,⟨gF M t,W6 b M p q G e L,L8⟩):=sS (n:=n+25) (l:=ig M t) (g:=λ w=>dI w (hB (aG M t) w)) (h:=λ w=>qh w (hB (aG M t) w)) (c:=λ w=>!((hB (aG M t) w).note==[])) rfl (fk g hl) λ x hx=>by
  have h:=Lu (n+15) b M p q G e L (hB (aG M t) x) x;exact⟨_,rfl,h.2,λ zz=>h.1⟩
 have s3:=am (am (am (am (am (Lm (n+12) M p q G L) b (by cases b<;>decide)) (e tR) (by cases e tR<;>decide)) (e tP) (by cases e tP<;>decide)) (e tO) (by cases e tO<;>decide)) t ht;have s0:bv aM (aC aM (n+29)) 19 (sN iO 0) ⟨qK t,W6 b M p q G e L,L8⟩=L6 (.nxt,⟨gF M t,W6 b M p q G e L,L8⟩):=mY (σ':=⟨qK t,W6 b M p q G e L,L8⟩) (ee (n:=n+28) (fv:=.val (.ref 802)) (vs:=[.obj 1,.byt t]) (σ':=⟨qK t,W6 b M p q G e L,L8⟩) (σ'':=⟨qK t,W6 b M p q G e L,L8⟩) (by kernel_rfl) (by kernel_rfl) (Kb (n:=n+8) g ht hl));have s4:(aC aM (n+26)).ev 19 (yI 2) ⟨gF M t,W6 b M p q G e L,L8⟩=L6 (iH M t,⟨gF M t,W6 b M p q G e L,L8⟩):=ee (n:=n+25) (fv:=.val (.ref 769)) (vs:=[.obj 0,.byt t]) (σ':=⟨gF M t,W6 b M p q G e L,L8⟩) (σ'':=⟨gF M t,W6 b M p q G e L,L8⟩) (by kernel_rfl) (by kernel_rfl) (Kc (n:=n+5) g ht hl);have q2:eO aM (W6 b M p q G e L) .NotEq (iH M t) (iH M t)=L6 L8:=(nj λ p h=>by
  (refine ag (Mu.mp h) λ w zz PZ=>?_;obtain rfl:=PZ);exact FO).2
 exact a9 s0 (a9 (cV (n:=n+27) (i6 (n:=n+27) s1 (by kernel_rfl) (DO (b:=b) (p:=p) (q:=q) (G:=G) (e:=e) (L:=L)))) (a9 (cV (n:=n+26) (i6 (n:=n+26) s4 s2 q2)) (dD (cL s3))))
end
section
variable{T:bq}{n d:Nat}{b ph:Bool}{M:aS}{p q:Option (List UInt8)}{G:cF}{e:List UInt8->Bool}{L:mj}{t:List UInt8}{σ:St}{os:List AO}{i j x y z:Nat}{a:Addr}
theorem fD(hm:T.kp.contains a=L7)(h:T.stf a vs σ.obs σ.ph=L6 r):(aC T (n+1)).cal (d+20) (.val (.ref a)) vs σ=L6 (r.1,{σ with obs:=r.2}):=by
 refine(?_:(if T.kp.contains a=L7 then(Hd T (d+20) a vs σ).or _ else L9)=_);have e:Hd T (d+20) a vs σ=L6 (r.1,{σ with obs:=r.2}):=by
  refine(?_:(less 20 (d+20)).bind (λ zz=>(T.stf a vs σ.obs σ.ph).map _)=_);refine ac h (ac (show less 20 (d+20)=L6 d from(if_pos (Nr _ _)).trans (congrArg L6 (Nat.add_sub_cancel _ _))) ?_);rfl
 refine ac (if_pos hm) (ac e ?_);rfl
noncomputable def GW:FD:=⟨[129,132,100],[],iO,[132]⟩
theorem GI{α:Type}{p:Prop}[Decidable p]{m:Option α}{a:α}(h:(if p then m else L9)=L6 a):p/\m=L6 a:=ji h
theorem pz(ha:a=814\/a=821)(hk:Hf aM 20 a vs σ=L9)(hf:aM.fns.lookup (a,vs.length)=L6 fd)(h:run (aC aM n) 19 fd vs σ.obs σ.ph=L6 (.ret (.boo L7),σ₁))(hs:mz σ.obs.length (.boo L7) σ₁.obs=σ.obs)(hp:σ₁.ph=σ.ph):(aC aM (n+1)).cal 20 (.val (.ref a)) vs σ=L6 (.boo L7,σ):=by
 have hm:aM.kp.contains a=L7:=by rcases ha with rfl|rfl<;>kernel_rfl
 have hg:a∈zg:=by rcases ha with rfl|rfl<;>decide
 have hR:∀os,ou a vs os=(.boo L7,os):=λ os=>by rcases ha with rfl|rfl<;>rfl
 cases hc:f6 a vs σ.obs σ.ph with
 | some r=>
  refine(fD (d:=0) hm hc).trans<|ac (show r=(.boo L7,σ.obs) from(sI (@GI _ _ (M0 _) _ _ ((if_pos hg).symm.trans hc)).2).symm.trans (hR _)) rfl
 | none=>
  refine(et (d:=19) hm ?_ hk (by rcases ha with rfl|rfl<;>kernel_rfl) hf h).trans ?_
  ·refine(?_:(less 20 20).bind (λ zz=>(f6 a vs σ.obs σ.ph).map _)=L9);refine ac hc ?_;rfl
  ·exact ac hs (ac hp rfl)
theorem KL(h:[u,v,x,y,z].Nodup):jE [u,v,x,y,z] u=0/\jE [u,v,x,y,z] v=1:=⟨congrArg (·.getD 0) (d8 h (show [u,v,x,y,z][0]?=L6 u from rfl)),congrArg (·.getD 0) (d8 h (show [u,v,x,y,z][1]?=L6 v from rfl))⟩
theorem xE(ha:a=814\/a=821)(P:hH [i,j,x,y,z] os (Wv b M p q G e L))(h:∀loc,(aC aM (n+1)).cal 20 (.val (.ref a)) [.obj 0,.obj 1,.byt t] ⟨loc,Wv b M p q G e L,L8⟩=L6 (.boo L7,⟨loc,Wv b M p q G e L,L8⟩)):f6 a [.obj i,.obj j,.byt t] os L8=L6 (.boo L7,os):=by
 have ok:mi a [.obj i,.obj j,.byt t] os L8 (.boo L7,os):=λ c d ρ σ s us C R eo eph x=>by
  obtain rfl:=eo;refine ij (n:=n+1) (k:=20) bc P ?_ rfl (λ loc=>?_) C R x
  ·refine(?_:((eP _ i).isSome&&((eP _ j).isSome&&(L7&&L7)))=L7);refine ac (d8 P.nd (show [i,j,_,y,z][0]?=L6 i from rfl)) (ac (d8 P.nd (show [i,j,_,y,z][1]?=L6 j from rfl)) ?_);rfl
  ·refine(?_:(aC aM (n+1)).cal 20 _ [.obj (jE _ i),.obj (jE _ j),.byt t] _=_);refine ac ((KL P.nd).1) (ac ((KL P.nd).2) (ac eph ?_));exact h loc
 rcases ha with rfl|rfl
 ·exact jc (by decide) ok
 ·exact jc (by decide) ok
theorem EA(P:hH [i,j,x,y,z] os (Wv b M p q G e L))(g:Gd M G e L)(ht:t∈aE)(hl:(aG M t).length<=7):f6 814 [.obj i,.obj j,.byt t] os L8=L6 (.boo L7,os):=
 xE (n:=30) (.inl rfl) P λ loc=>pz (n:=30) (fd:=GW) (.inl rfl) (by cases b<;>kernel_rfl) (by kernel_rfl) ((show _=(aC aM 30).exs 19 iO ⟨qK t,W6 b M p q G e L,L8⟩ by kernel_rfl).trans (Jm (n:=0) g ht hl)) (by cases b<;>kernel_rfl) rfl
end
noncomputable def sT:S->FT
 | .fr t _ _ _=>t
 | _=>.one 0 (pZ 0 0 0)
noncomputable def sB:S->List S
 | .fr _ _ b _=>b
 | .iff _ a _ _=>a
 | _=>[]
theorem mX{os:List AO}(h:(aC T n).ev d i σ=L6 (v,σ'))(hf:frz T σ'.obs v=L6 (vs,os))(ht:eF t ((aC T n).exs d b) T vs {σ' with obs:=os}=L6 (f,σ'')):bv T (aC T n) d (.fr t i b p) σ=L6 (f,{σ'' with obs:=uY σ'.obs σ''.obs v}):=by
 refine(?_:((aC T n).ev d i σ).bind _=_);refine ac h<|(?_:(frz T σ'.obs v).bind _=_)
 refine ac hf ?_;refine(?_:(eF t ((aC T n).exs d b) T vs {σ' with obs:=os}).map _=_);refine ac ht ?_;rfl
noncomputable def turn(T:bq)(t:FT)(E:St->Option (Fl×St))(v:AV)(σ:St):Option (Fl×St):=(put T t v σ).bind E
theorem tD{I:St->Prop}:∀{l:List α} {σ:St},(∀x∈l,∀σ,I σ->∃σ',turn T t E (g x) σ=L6 (.nxt,σ')/\I σ')->I σ->∃σ',eF t E T (l.map g) σ=L6 (.nxt,σ')/\I σ':=by intro l_;induction l_ with
 | nil=>intro σ _ h;exact⟨σ,rfl,h⟩
 | cons x l P9=>
  intro σ H h;refine ag (H x (.head _) σ h) λ σ₁ e h₁=>ag (P9 (λ y hy=>H y (.tail _ hy)) h₁) λ Qs P8 Qa=>ag (b4 e) λ Qg e3 e4=>⟨Qs,?_,Qa⟩
  refine(?_:(put T t (g x) σ).bind _=_);refine ac e3<|(?_:(E Qg).bind _=_)
  refine ac e4 ?_;exact P8
noncomputable def Gp(k:List UInt8×List UInt8):PV:=.seq L8 [.byt k.1,.byt k.2]
noncomputable def dP:List AV:=aO.map λ k=>.pv (Gp k)
noncomputable def W8(b:Bool)(M:aS)(p q:Option (List UInt8))(G:cF)(e:List UInt8->Bool)(L:mj):List AO:=Wv b M p q G e L++[.frz L7 dP]
noncomputable def qJ(t:List UInt8):List (Nat×AV):=[(129,.obj 0),(132,.obj 1),(100,.byt t)]
noncomputable def wo(t:List UInt8)(v1 v2 v3 v4:AV):List (Nat×AV):=qJ t++[(141,v1),(80,v2),(190,v3),(191,v4)]
noncomputable def IF(k:List UInt8×List UInt8)(t:List UInt8)(v1 v2 v3 v4:AV):List (List (Nat×AV)):=if k.1=[97] then [wo t v1 v2 v3 v4,qJ t] else [wo t v1 v2 v3 v4]
noncomputable def G2(t w:List UInt8)(o o':Option BR)(G:cF):cF:=uG t w o (uG t cW o' G)
noncomputable def u4(w:List UInt8)(o:Option BR):AV:=o.elim .non λ r=>.pv (dI w r)
noncomputable def IM(w:List UInt8)(o o':Option BR):AV:=if w=cW then u4 cW o else u4 cW o'
noncomputable def zv(i:Nat):S:=sN (sB (sN eJ 0)) i
noncomputable def I9(n:Nat)(k:List UInt8×List UInt8)(σ:St):Option (Fl×St):=(put aM (sT (sN eJ 0)) (.pv (Gp k)) σ).bind λ σ=>(bv aM (aC aM (n+22)) 19 (zv 0) σ).bind λ p=>(qN p.1).bind λ zz=>bv aM (aC aM (n+21)) 19 (zv 1) p.2
noncomputable def Cv(o:Option BR):AV:=o.elim .non λ r=>.pv (dI r.key r)
noncomputable def JX(w:List UInt8)(o o':Option BR):Option BR:=if w=cW then o else o.or o'
noncomputable def oo(r r':BR):List (Option BR×Option BR):=[(L9,L9),(L9,L6 r'),(L6 r,L9),(L6 r,L6 r')]
section
variable(n:Nat)(M:aS)(p q:Option (List UInt8))(G:cF)(e:List UInt8->Bool)(L:mj)(v1 v2 v3 v4:AV)(r r':BR)
noncomputable def U8(k:List UInt8×List UInt8)(t:List UInt8)(o:Option BR×Option BR)(loc:List (Nat×AV)):St:=⟨loc,W8 L8 M p q (G2 t k.2 o.1 o.2 G) e L,L8⟩
noncomputable def V8(k:List UInt8×List UInt8)(t:List UInt8)(o:Option BR×Option BR):St:=U8 M p q G e L k t o (wo t (.byt k.1) (.byt k.2) (u4 k.2 o.1) (IM k.2 o.1 o.2))
theorem ta:aO.map (λ k=>aE.map λ t=>(IF k t v1 v2 v3 v4).map λ loc=>(oo r r').map λ o=>I9 n k (U8 M p q G e L k t o loc))=mp (λ k=>mp (λ t=>mp (λ loc=>mp (λ o=>L6 (.nxt,V8 M p q G e L k t o)) (oo r r')) (IF k t v1 v2 v3 v4)) aE) aO:=by kernel_rfl
noncomputable def EV(i:Nat):X:=xA (sX (zv i))
theorem Lz:aO.map (λ k=>aE.map λ t=>(oo r r').map λ o=>((aC aM (n+19)).ev 19 (EV 2) (V8 M p q G e L k t o),(aC aM (n+18)).ev 19 (EV 3) (V8 M p q G e L k t o),(aC aM (n+18)).ev 19 (xB (sX (zv 3))) (V8 M p q G e L k t o)))=mp (λ k=>mp (λ t=>mp (λ o=>(L6 (Cv o.1,V8 M p q G e L k t o),L6 (Cv (JX k.2 o.1 o.2),V8 M p q G e L k t o),L6 (if o.1.isSome then u4 k.2 o.1 else IM k.2 o.1 o.2,V8 M p q G e L k t o))) (oo r r')) aE) aO:=by kernel_rfl
end
section
variable{n:Nat}{b:Bool}{M:aS}{p q:Option (List UInt8)}{G:cF}{e:List UInt8->Bool}{L:mj}{t w:List UInt8}{os:List AO}{i j x y z:Nat}{v1 v2 v3 v4:AV}
theorem Gd.at_(g:Gd M G e L)(h:G t w=L6 r):w∈br/\r∈pX w:=by
 refine bW (bU ((g.g t w).symm.trans h)) λ A B e=>g.k t (w,r) (e▸Ml _ (.head _))
theorem i7(h:∀r,o=L6 r->r.key=w):eO aM os .NotEq (Cv o) (u4 w o)=L6 L8:=by
 cases o with
 | none=>rfl
 | some r=>exact(h r rfl)▸(nj (c:=L8) λ p hp=>by
   rcases Mj.mp hp with rfl|hp
   ·exact beq_self_eq_true _
   rcases Mj.mp hp with rfl|hp
   ·exact beq_self_eq_true _
   rcases Mj.mp hp with rfl|hp
   ·exact beq_self_eq_true _
   refine ac (Ma.mp hp)<|beq_self_eq_true _).2
theorem C5(o o':Option BR):∃r r',(o,o')∈oo r r':=by
 cases o with
 | none=>cases o' with
  | none=>exact(aq ⟨[],[],L7,[]⟩ ⟨[],[],L7,[]⟩ (.head _))
  | some r=>exact(aq r r (.tail _ (.head _)))
 | some r=>cases o' with
  | none=>exact(aq r r (.tail _ (.tail _ (.head _))))
  | some r'=>exact(aq r r' (.tail _ (.tail _ (.tail _ (.head _)))))
theorem yz:G2 t w (G t w) (G t cW) G=G:=by
 unfold G2;exact ac (jG (t:=t) (w:=cW) rfl) (ac (jG rfl) rfl)
theorem rL(g:Gd M G e L)(hk:k∈aO)(ht:t∈aE)(QN:loc∈IF k t v1 v2 v3 v4):turn aM (sT (sN eJ 0)) ((aC aM (n+23)).exs 19 (sB (sN eJ 0))) (.pv (Gp k)) ⟨loc,W8 L8 M p q G e L,L8⟩=L6 (.nxt,V8 M p q G e L k t (G t k.2,G t cW)):=by
 refine bW (C5 (G t k.2) (G t cW)) λ r r' ho=>?_;have a:=am (am (am (am (ta n M p q G e L v1 v2 v3 v4 r r') k hk) t ht) loc QN) _ ho;have b:=LH (Lz n M p q G e L r r') k hk t ht _ ho;rw[show U8 M p q G e L k t (G t k.2,G t cW) loc=⟨loc,W8 L8 M p q G e L,L8⟩ from congrArg (λ G=>(⟨loc,W8 L8 M p q G e L,L8⟩:St)) yz] at a;refine aD (MD b) λ b1 b2=>aD (MD b2) λ b2 b3=>ag (b4 a) λ Qg a1 a=>?_;(refine ag (b4 a) λ Qc a2 a=>?_;obtain⟨f,σ₁⟩:=Qc);refine ag (b4 a) λ zz a3 a4=>?_;obtain rfl:f=.nxt:=by cases f<;>first|rfl|exact nn a3
 have k1:∀w r,G t w=L6 r->r.key=w:=λ w r h=>jn (g.at_ h).2;refine(?_:(put aM _ _ _).bind _=_);refine ac a1<|a9 (n:=n+22) a2 (a9 (n:=n+21) a4 (a9 (n:=n+20) (cV (n:=n+19) (i6 (n:=n+19) b1 (by kernel_rfl) (i7 (k1 k.2)))) (a9 (n:=n+19) (cV (n:=n+18) (i6 (n:=n+18) b2 b3 ?_)) rfl)));by_cases hw:k.2=cW
 ·have:=i7 (os:=(V8 M p q G e L k t (G t k.2,G t cW)).obs) (k1 k.2);unfold JX IM;refine ac (if_pos hw) (ac (if_pos hw) ?_);cases ho:G t k.2 with
  | none=>exact rfl
  | some r=>rw[ho] at this;exact this
 ·unfold JX IM;refine ac (if_neg hw) (ac (if_neg hw) ?_);cases ho:G t k.2 with
  | none=>exact i7 (k1 cW)
  | some r=>exact i7 (o:=L6 r) λ r' e'=>k1 k.2 r' (ho.trans e')
noncomputable def GV:FD:=⟨[129,132,100],[],eJ,[]⟩
theorem Jl(g:Gd M G e L)(ht:t∈aE):∃loc,(aC aM 30).exs 19 eJ ⟨qJ t,Wv L8 M p q G e L,L8⟩=L6 (.ret (.boo L7),⟨loc,Wv L8 M p q G e L++[.lst dP],L8⟩):=by
 obtain⟨σ',e1,v1,v2,v3,v4,rfl⟩:=tD (T:=aM) (t:=sT (sN eJ 0)) (E:=(aC aM 29).exs 19 (sB (sN eJ 0))) (g:=λ k=>.pv (Gp k)) (l:=aO.tail) (σ:=V8 M p q G e L ([97],[97]) t (G t [97],G t cW)) (I:=λ σ=>∃v1 v2 v3 v4,σ=⟨wo t v1 v2 v3 v4,W8 L8 M p q G e L,L8⟩) (λ k hk σ ⟨v1,v2,v3,v4,hσ⟩=>⟨_,hσ▸rL (n:=6) g (List.mem_of_mem_tail hk) ht (by
  unfold IF;by_cases q:k.1=[97]
  ·refine ac (if_pos q) ?_;exact .head _
  ·refine ac (if_neg q) ?_;exact .head _),(cK _ _ _ _ (congrArg (λ G=>(⟨_,W8 L8 M p q G e L,L8⟩:St)) yz))⟩) (cK _ _ _ _ (congrArg (λ G=>(⟨_,W8 L8 M p q G e L,L8⟩:St)) yz))
 have e0:=rL (n:=6) (v1:=.non) (v2:=.non) (v3:=.non) (v4:=.non) (loc:=qJ t) (p:=p) (q:=q) (k:=([97],[97])) g (.head _) ht (.tail _ (.head _));have e2:eF (sT (sN eJ 0)) ((aC aM 29).exs 19 (sB (sN eJ 0))) aM dP ⟨qJ t,W8 L8 M p q G e L,L8⟩=L6 (.nxt,⟨wo t v1 v2 v3 v4,W8 L8 M p q G e L,L8⟩):=by
  refine ag (b4 e0) λ Qg a1 a2=>(?_:(put aM _ (.pv (Gp ([97],[97]))) _).bind _=_)
  refine ac a1<|(?_:((aC aM 29).exs 19 _ Qg).bind _=_)
  refine ac a2 ?_;exact e1
 exact⟨_,a9 (n:=29) (mX (n:=29) (v:=.obj 5) (σ':=⟨qJ t,Wv L8 M p q G e L++[.lst dP],L8⟩) (vs:=dP) (os:=W8 L8 M p q G e L) (by kernel_rfl) (by kernel_rfl) e2) (dD (n:=28) rfl)⟩
theorem Ky(P:hH [i,j,x,y,z] os (Wv L8 M p q G e L))(g:Gd M G e L)(ht:t∈aE):f6 821 [.obj i,.obj j,.byt t] os L8=L6 (.boo L7,os):=
 xE (n:=30) (.inr rfl) P λ loc=>by
  refine aA (Jl (p:=p) (q:=q) g ht) λ l h=>pz (n:=30) (fd:=GV) (.inr rfl) (by kernel_rfl) (by kernel_rfl) ((show _=(aC aM 30).exs 19 eJ ⟨qJ t,Wv L8 M p q G e L,L8⟩ by kernel_rfl).trans h) (by kernel_rfl) rfl
end
noncomputable def FV(idx:List Nat)(t:bo):bo:=match t.1 with
 | i+3=>(eP idx i).elim (1,0) λ p=>(p+3,t.2)
 | _=>t
noncomputable def EL:AO->Bool
 | .frz _ _=>L8
 | .frd _=>L8
 | _=>L7
noncomputable def Wk(o o':AO):Prop:=∀w fx h τ ρ k a,OR w fx h τ ρ k o a->OR w fx h τ ρ k o' a
theorem Wk.refl:Wk o o:=λ zz zz zz zz zz zz zz h=>h
theorem OR.nofx(n:EL o=L7)(x:OR w fx h τ ρ k o a):OR w fx' h τ ρ k o a:=by
 cases o with
 | frz=>exact ff n
 | frd=>exact ff n
 | _=>exact x
noncomputable def cX(idx:List Nat)(os:List AO):List Nat->List AO->Prop
 | [],l=>l=[]
 | i::is,l=>∃o o' l',l=o'::l'/\os[i]?=L6 o/\(lP (qy idx) o&&EL o)=L7/\Wk (dL (jE idx) o) o'/\cX idx os is l'
section
variable{c:Cx}{ρ:RR}{σ:St}{s:Mc}{idx:List Nat}{os os₁:List AO}
theorem cX.k(h1:os[i]?=L6 o)(h2:(lP (qy idx) o&&EL o)=L7)(w:Wk (dL (jE idx) o) o')(r:cX idx os is l):cX idx os (i::is) (o'::l):=(aI o o' l ⟨rfl,h1,h2,w,r⟩)
theorem cX.at_:∀{is:List Nat} {l:List AO},cX idx os is l->l.length=is.length/\∀(p:Nat) (o':AO),l[p]?=L6 o'->∃i o,is[p]?=L6 i/\os[i]?=L6 o/\(lP (qy idx) o&&EL o)=L7/\Wk (dL (jE idx) o) o':=by intro l_;induction l_ with
 | nil=>intro _ h;exact⟨congrArg _ h,λ p o' e=>by rw[show _=[] from h] at e;exact dC e⟩
 | cons i is P9=>
  intro _ h;(refine j3 h λ o o' l' Qb e k w r=>?_;clear h;obtain rfl:=Qb);refine aD (P9 r) λ h1 h2=>⟨congrArg (·+1) h1,λ p Qv e'=>?_⟩
  cases p with
  | zero=>exact(aq i o ⟨rfl,e,k,sI e'▸w⟩)
  | succ p=>exact h2 p Qv e'
theorem au.relab(R:au c ρ σ s)(nd:idx.Nodup)(H:cX idx σ.obs idx os₁)(hl:∀i a,loc.lookup i=L6 a->∃a',σ.loc.lookup i=L6 a'/\ik (qy idx) a'=L7/\b9 (jE idx) a'=a):au c (uF ρ idx) ⟨loc,os₁,σ.ph⟩ s:=by
 (refine au.el R λ m τ F L K r=>?_;clear R);refine aD H.at_ λ ln H=>?_;have cl:∀{b o k j},k<3->Cl s.heap τ k j b o->Cl s.heap (λ b=>FV idx (τ b)) k j b o:=λ{b o k j} hk z=>⟨z.g,(congrArg (FV idx) z.t).trans (by
  match k,hk with
  | 0,_=>rfl
  | 1,_=>rfl
  | 2,_=>rfl)⟩
 refine⟨m,λ b=>FV idx (τ b),F,λ i a e=>?_,⟨λ b q=>K.N b λ z=>q ?_,λ b k j q=>?_,(Md _).trans ln.symm,λ p o' e=>?_,λ b o z=>cl (by decide) (K.Z b o z),λ b o k z=>cl (by decide) (K.X b o k z),λ a r z=>(K.B a r z).imp (λ b o j=>cl (by decide)) Fz.Le.refl⟩,r⟩
 ·(refine cC (hl i a e) λ a' e1 ok Qb=>?_;obtain rfl:=Qb);refine ag (L i a' e1) λ v w1 w2=>⟨v,w1,w2.ren (ρ':=uF ρ idx) (λ i x z e=>rZ z e) Fz.Le.refl ok⟩
 ·refine(?_:(FV idx (τ b)).1=0);refine ac (show τ b=(0,(τ b).2) from congrArg (·,(τ b).2) z) ?_;rfl
 ·obtain⟨k',j',e⟩:∃k' j',τ b=(k'+2,j'):=by
   generalize τ b=t at q;obtain⟨x,y⟩:=t;match x with
   | 0=>exact nq (congrArg Mn q) rfl
   | 1=>exact nq (congrArg Mn q) rfl
   | x+2=>exact(aq x y rfl)
  exact K.Y b k' j' e
 ·refine bV (H p o' e) λ i o ei e1 ok w=>af ok λ ok nf=>ag (K.O i o e1) λ a e3 q=>?_;have ix:=d8 nd ei;exact⟨a,r4 ei e3,w _ _ _ _ _ _ _ (OR.ren (fx:=λ zz zz zz=>False) (fx':=c.fx) (h:=s.heap) (τ:=τ) (ρ:=ρ) (ρ':=uF ρ idx) (p:=qy idx) (f:=jE idx) (k:=i+3) (k':=p+3) (λ i x z e=>rZ z e) Fz.Le.refl (λ b o j cl=>⟨cl.g,(congrArg (FV idx) cl.t).trans (by refine(?_:(eP idx i).elim _ _=_);refine ac ix ?_;rfl)⟩) (λ b o z=>z.elim) ok (OR.nofx nf q))⟩
end
noncomputable def gM(M:aS):cF:=λ t w=>bC w (aG M t)
noncomputable def eM(M:aS)(t:List UInt8):Bool:=(aG M t).isEmpty
noncomputable def lM(M:aS)(t:List UInt8):List (List UInt8×PV):=(aG M t).map λ x=>(x.1,cY x.2)
noncomputable def FY(l:List (List UInt8×BR)):Prop:=cS l/\∀y∈l,y.2∈pX y.1
structure c7(M:aS):Prop where
 nd:(M.map (·.1)).Nodup
 rw:∀x∈M,x.1∈aE/\FY x.2
noncomputable def iR(M:aS)(t:List UInt8)(rows:List (List UInt8×BR)):aS:=if rows.isEmpty then bx t M else bt t rows M
section
variable{M:aS}{t t' w:List UInt8}{rows:List (List UInt8×BR)}{r:BR}{p q:Option (List UInt8)}
theorem lI:aG (iR M t rows) t'=if t'=t then rows else aG M t':=by
 unfold iR aG;by_cases h:rows.isEmpty=L7
 ·refine ac (if_pos h) ?_;by_cases e:t'=t
  ·refine ac (if_pos e) (ac e (ac (sr _ _) (ac (OG.mp h) ?_)));rfl
  ·exact ac (if_neg e) (ac (jQ e _) rfl)
 ·refine ac (if_neg h) ?_;by_cases e:t'=t
  ·refine ac (if_pos e) (ac e (ac (sq _ _ _) ?_));rfl
  ·exact ac (if_neg e) (ac (jP _ e _) rfl)
theorem c7.set(h:c7 M)(ht:t∈aE)(hr:rows=[]\/FY rows):c7 (iR M t rows):=by
 unfold iR;by_cases e:rows.isEmpty=L7
 ·refine ac (if_pos e)<|⟨gh h.nd,λ x hx=>h.rw x (MW.mp hx).1⟩
 ·refine ac (if_neg e) ?_;have hr:=hr.resolve_left λ z=>e (z▸rfl);exact⟨f8 h.nd,λ x hx=>(gC hx).elim (λ e=>by refine ac e ?_;exact⟨ht,hr⟩) (h.rw x)⟩
theorem c7.row(h:c7 M)(t:List UInt8):aG M t=[]\/FY (aG M t):=by
 unfold aG;cases e:bC t M with
 | none=>exact .inl rfl
 | some rows=>
  (refine bW (bU e) λ A B PZ=>?_;obtain rfl:=PZ);exact .inr (h.rw (t,rows) (Ml _ (.head _))).2
theorem c7.len(h:c7 M)(t:List UInt8):(aG M t).length<=7:=(h.row t).elim (λ e=>by refine ac e ?_;decide) λ r=>r.1.len
theorem c7.gd(h:c7 M):Gd M (gM M) (eM M) (lM M):=⟨λ zz zz=>rfl,λ zz=>rfl,λ zz=>rfl,λ t x hx=>(h.row t).elim (λ e=>ni (e▸hx)) λ r=>⟨(r.1.2.2 x hx).1,r.2 x hx⟩⟩
theorem c7.put(h:c7 M)(hw:w∈br)(hr:r∈pX w):FY (bt w r (aG M t)):=⟨jC ((h.row t).imp id (·.1)) hw (jn hr),λ y hy=>(gC hy).elim (λ e=>by refine ac e ?_;exact hr) λ hy=>(h.row t).elim (λ e=>ni (e▸hy)) λ r=>r.2 y hy⟩
theorem c7.del(h:c7 M):bx w (aG M t)=[]\/FY (bx w (aG M t)):=by
 cases e:(bx w (aG M t)).isEmpty with
 | true=>exact .inl (OG.mp e)
 | false=>
  refine .inr ((h.row t).elim (λ z=>by rw[z] at e;exact tf e) λ r=>⟨oF r.1 e,λ y hy=>r.2 y (MW.mp hy).1⟩)
theorem yg(ok:c7 M)(hl:l=lM M t):Wk (.dip n kn e em l) (yG (gM M) (eM M) (lM M) t):=λ w fx h τ ρ k a x=>by
 (refine bV x λ ob kvs cl D y QV=>?_;clear x;clear QV);refine(aq ob kvs ⟨cl,D,hl▸y,?_,λ x hx=>?_,λ b e=>?_,nV⟩)
 ·rw[lM,Md];exact ok.len t
 ·(refine ag (Mu.mp hx) λ w zz PZ=>?_;obtain rfl:=PZ);exact jd
 ·rw[← sI e,lM,eM,PU]
theorem Es(h:aG M t=[]):Wk (.dic []) (yG (gM M) (eM M) (lM M) t):=λ w fx hh τ ρ k a x=>by
 refine ao x λ ob kvs cl D y=>?_;have e:lM M t=[]:=by rw[lM,h];rfl
 refine(aq ob kvs ⟨cl,D,e▸y,by refine ac e ?_;decide,λ x hx=>?_,λ b e'=>?_,nV⟩)
 ·(refine ag (Mu.mp hx) λ w zz PZ=>?_;obtain rfl:=PZ);exact jd
 ·rw[← sI e',lM,eM,PU]
theorem yf{S:KT}(ok:c7 M)(hm:S.made=M)(hp:S.pre=p)(hq:S.sec=q):Wk (.ktb S) (.ktb (nW M p q (gM M) (eM M))):=λ w fx h τ ρ k a x=>by
 (refine fg.el x λ dx dm dl om ol es n kvs v1 v2 tk c0 c1 c2 c3 ek p1 p2 dom dol okS rs=>?_;clear x);subst hm hp hq;refine⟨dx,dm,dl,om,ol,es,n,kvs,v1,v2,tk,c0,c1,c2,c3,ek,p1,p2,dom,dol,⟨okS.nd,okS.rw,λ x hx=>?_,λ x hx=>?_⟩,rs⟩
 ·refine ag (M2.mp hx) λ t zz hx=>?_;(refine ag (Mu.mp hx) λ w zz PZ=>?_;obtain rfl:=PZ);refine(?_:(bC t S.made).bind (bC w)=bC w ((bC t S.made).getD []));cases bC t S.made<;>rfl
 ·(refine ag (Mu.mp hx) λ t zz PZ=>?_;obtain rfl:=PZ);refine(?_:(bC t S.made).isSome=!((bC t S.made).getD []).isEmpty);cases e:bC t S.made with
  | none=>rfl
  | some rows=>
   refine bW (bU e) λ A B z=>?_;have ne:=(ok.rw (t,rows) (z▸Ml _ (.head _))).2.1.1;cases rows with
   | nil=>exact(ne rfl).elim
   | cons=>rfl
end
section
set_option tactic.hygienic true
noncomputable def IQ(C:List AO)(pf d1 d2 d3 kt:AO)(X:List AO):List AO:=C++[pf,uj L8 7,d1,d2,d3,kt]++X
noncomputable def g5(a b c d e:AO):Nat->AO
 | 0=>a
 | 1=>b
 | 2=>c
 | 3=>d
 | _=>e
noncomputable def c5(a:Nat->AO):List AO:=[a 0,a 1,a 2,a 3,a 4]
noncomputable def cQ(a:Nat->AO):List (List AO):=[[a 0],c5 a]
noncomputable def cU(a b c d e f:Nat):AV:=.num 1 [((1,8),a),((8,8),b),((64,3),c),((192,3),d),((576,2),e),((1152,2),f)]
noncomputable def Dv(n:Nat)(v:AV):List (Nat×AV):=[(135,.obj n),(129,.obj (n+1)),(132,.obj 6),(136,v)]
noncomputable def Dl(os:List AO):List AO:=os++[.cel (L6 (.obj 5)),.cel (L6 (.obj 10))]
noncomputable def eG:List AV:=[.byt tR,.byt tP,.byt tO]
noncomputable def df(os:List AO):List AO:=Dl os++[.lst eG,.lst dP]
noncomputable def zR(n:Nat)(v:AV)(t:AV)(w1 w2:AV):List (Nat×AV):=Dv n v++[(100,t),(141,w1),(80,w2)]
noncomputable def dH(n:Nat)(v t w1 w2:AV)(a:Nat):List (Nat×AV):=zR n v t w1 w2++[(137,.int (Int.ofNat a))]
noncomputable def G7:List AV:=[.byt [110,101,119,45,119,105,110,100,111,119],.byt [110,101,120,116,45,119,105,110,100,111,119],.byt [107,105,108,108,45,112,97,110,101]]
section
variable(aa xx:Nat->AO)(pf d1 d2 d3 kt:AO)(n:Nat)(a b c d e f:Nat)
noncomputable def dO(X:List AO):List AO:=IQ (c5 aa) pf d1 d2 d3 kt X
theorem LU:(cQ xx).map (λ X=>(Ms 3).map λ c=>(Ms 8).map λ b=>bv aM (aC aM (n+40)) 39 (sN ch 0) ⟨Dv (11+X.length) (cU a b c d e f),Dl (dO aa pf d1 d2 d3 kt X),L8⟩)=mp (λ X=>mp (λ c=>mp (λ b=>L6 (.nxt,⟨zR (11+X.length) (cU a b c d e f) (eG.getD c .non) (.byt (aO.getD b ([],[])).1) (.byt (aO.getD b ([],[])).2),df (dO aa pf d1 d2 d3 kt X),L8⟩)) (Ms 8)) (Ms 3)) (cQ xx):=by kernel_rfl
theorem LS(m:Nat)(t w1 w2:AV)(os:List AO):(Ms 8).map (λ a=>bv aM (aC aM (n+40)) 39 (sN ch 1) ⟨zR m (cU a b c d e f) t w1 w2,os,L8⟩)=mp (λ a=>L6 (.nxt,⟨dH m (cU a b c d e f) t w1 w2 a,os,L8⟩)) (Ms 8):=by kernel_rfl
theorem LR(m:Nat)(t w1 w2:AV)(os:List AO):(Ms 8).map (λ a=>((aC aM (n+40)).tst 39 (sX (sN ch 2)) ⟨dH m (cU a b c d e f) t w1 w2 a,os,L8⟩,(aC aM (n+40)).tst 39 (sX (sN ch 3)) ⟨dH m (cU a b c d e f) t w1 w2 a,os,L8⟩,(aC aM (n+40)).tst 39 (sX (sN ch 4)) ⟨dH m (cU a b c d e f) t w1 w2 a,os,L8⟩))=mp (λ a=>(L6 (decide (a<4),⟨dH m (cU a b c d e f) t w1 w2 a,os,L8⟩),L6 (a==4,⟨dH m (cU a b c d e f) t w1 w2 a,os,L8⟩),L6 (a==5,⟨dH m (cU a b c d e f) t w1 w2 a,os,L8⟩))) (Ms 8):=by kernel_rfl
noncomputable def CQ(t:List UInt8)(r:Bool)(k:List UInt8):AV:=.pv (.seq L8 [.byt t,.boo r,.byt k])
noncomputable def CW(n:Nat)(v t w1 w2:AV)(a:Nat)(r:AV):List (Nat×AV):=dH n v t w1 w2 a++[(192,r)]
noncomputable def yH(os:List AO):List AO:=df os++[.lst G7,.lst [.byt [],.byt [116,111,108,100]]]
theorem LQ(t w1 w2:AV):(cQ xx).map (λ X=>(Ms 3).map λ d=>(Ms 2).map λ e=>(Ms 2).map λ f=>bv aM (aC aM (n+40)) 39 (sN (sB (sN ch 2)) 0) ⟨dH (11+X.length) (cU a b c d e f) t w1 w2 a,df (dO aa pf d1 d2 d3 kt X),L8⟩)=mp (λ X=>mp (λ d=>mp (λ e=>mp (λ f=>L6 (.nxt,⟨CW (11+X.length) (cU a b c d e f) t w1 w2 a (CQ (iw.getD d []) (e==1) (qC.getD f [])),yH (dO aa pf d1 d2 d3 kt X),L8⟩)) (Ms 2)) (Ms 2)) (Ms 3)) (cQ xx):=by kernel_rfl
end
end
noncomputable def Je(T:bq)(n d:Nat):List S->St->Option St
 | [],σ=>L6 σ
 | s::ss,σ=>(bv T (aC T (n+ss.length+1)) d s σ).bind λ p=>(qN p.1).bind λ zz=>Je T n d ss p.2
theorem oZ(h:qN f=L6 u):f=.nxt:=by cases f<;>first|rfl|exact nn h
theorem zr{T:bq}:∀{A:List S} {σ σ':St},Je T n d A σ=L6 σ'->(aC T (n+1)).exs d B σ'=r->(aC T (n+A.length+1)).exs d (A++B) σ=r:=by intro l_;induction l_ with
 | nil=>intro σ σ' h h';exact sI h▸h'
 | cons s A P9=>
  intro σ σ' h h';(refine ag (b4 h) λ Qc h1 h=>?_;obtain⟨f,σ₁⟩:=Qc);refine ag (b4 h) λ zz h2 h=>?_;obtain rfl:=oZ h2;exact a9 h1 (P9 h h')
noncomputable def C6(t:List UInt8)(g:AO->AO)(s:List UInt8)(o:AO):AO:=if s=t then g o else o
section
variable(aa xx:Nat->AO)(n:Nat)(a b c d e f:Nat)(M:aS)(p q:Option (List UInt8))(G:cF)(em:List UInt8->Bool)(L:mj)
noncomputable def sO(X:List AO)(G:cF)(t:List UInt8)(g:AO->AO)(S:KT):List AO:=dO aa (.lst [ofP (aJ p),ofP (aJ q)]) (C6 t g tR (yG G em L tR)) (C6 t g tP (yG G em L tP)) (C6 t g tO (yG G em L tO)) (.ktb S) X
noncomputable def FK(w:List UInt8)(v:PV)(o:AO):AO:=(zL o w (.pv v)).getD o
noncomputable def tM(w:List UInt8)(o:AO):AO:=((zM o w).map (·.2)).getD o
noncomputable def Ha(_:AO):AO:=.dip 0 [] (L6 L7) [] []
noncomputable def S0(G:cF):KT:=nW M p q G em
noncomputable def IT(w:List UInt8)(x:List UInt8)(y:Bool)(z:List UInt8):BR:=⟨w,x,y,z⟩
theorem db(v:AV)(x z:List UInt8)(y:Bool):(cQ xx).map (λ X=>aE.map λ t=>aO.map λ k=>(aC aM (n+40)).exs 39 ((sB (sN ch 2)).tail) ⟨CW (11+X.length) v (.byt t) (.byt k.1) (.byt k.2) a (CQ x y z),yH (sO aa p q em L X G [] id (S0 M p q em G)),L8⟩)=mp (λ X=>mp (λ t=>mp (λ k=>L6 (.ret (.boo L7),⟨CW (11+X.length) v (.byt t) (.byt k.1) (.byt k.2) a (CQ x y z),yH (sO aa p q em L X G t (FK k.2 (cY (IT k.2 x y z))) ((S0 M p q em G).bind t k.2 (IT k.2 x y z))),L8⟩)) aO) aE) (cQ xx):=by kernel_rfl
theorem du(v:AV)(r:BR):(cQ xx).map (λ X=>aE.map λ t=>aO.map λ k=>[L9,L6 r].map λ o=>(aC aM (n+40)).exs 39 (sB (sN ch 3)) ⟨dH (11+X.length) v (.byt t) (.byt k.1) (.byt k.2) a,df (sO aa p q em L X (uG t k.2 o G) [] id (S0 M p q em (uG t k.2 o G))),L8⟩)=mp (λ X=>mp (λ t=>mp (λ k=>mp (λ o=>L6 (.ret (.boo L7),⟨dH (11+X.length) v (.byt t) (.byt k.1) (.byt k.2) a,df (sO aa p q em L X (uG t k.2 o G) t (tM k.2) ((S0 M p q em (uG t k.2 o G)).unbind t k.2)),L8⟩)) [L9,L6 r]) aO) aE) (cQ xx):=by kernel_rfl
theorem dc(v w1 w2:AV):(cQ xx).map (λ X=>aE.map λ t=>(aC aM (n+40)).exs 39 (sB (sN ch 4)) ⟨dH (11+X.length) v (.byt t) w1 w2 a,df (sO aa p q em L X G [] id (S0 M p q em G)),L8⟩)=mp (λ X=>mp (λ t=>L6 (.ret (.boo (((S0 M p q em G).count t:Int)==((L t).length:Int))),⟨dH (11+X.length) v (.byt t) w1 w2 a++[(187,.int ((L t).length:Int))],df (sO aa p q em L X G t Ha ((S0 M p q em G).clear t)),L8⟩)) aE) (cQ xx):=by kernel_rfl
noncomputable def kM:List (Option (List UInt8)):=[L9,L6 [67,45,98],L6 [97],L6 [67,45,97],L6 [85,112],L6 [67,45,77,45,120],L6 [65],L6 [70,53]]
noncomputable def fU(k:List UInt8×List UInt8)(d:Nat):Option (List UInt8):=if d=0 then L9 else L6 (if k.2=cW then [97] else k.2)
noncomputable def EI(e:Nat)(o v:Option (List UInt8)):Option (List UInt8)×Option (List UInt8):=if e=1 then(o,v) else(v,o)
noncomputable def CF(X:List AO)(pq:Option (List UInt8)×Option (List UInt8))(S:KT):List AO:=sO aa pq.1 pq.2 em L X G [] id S
noncomputable def IW(n:Nat)(v t:AV)(k:List UInt8×List UInt8)(a d e:Nat):List (Nat×AV):=zR n v t (.byt (if k.2=cW then [97] else k.1)) (.byt (if k.2=cW then [97] else k.2))++[(137,.int (Int.ofNat a)),(138,ofP (aJ (fU k d))),(188,.boo (e==1))]
noncomputable def vh(k:List UInt8):List AO:=if k=cW then [.lst dP] else []
theorem dp(t:AV):(cQ xx).map (λ X=>aO.map λ k=>(Ms 3).map λ d=>(Ms 2).map λ e=>Je aM (n+50) 39 ((ch.drop 5).take 4) ⟨dH (11+X.length) (cU a b c d e f) t (.byt k.1) (.byt k.2) a,df (CF aa G em L X (p,q) (nW M p q G em)),L8⟩)=mp (λ X=>mp (λ k=>mp (λ d=>mp (λ e=>L6 ⟨IW (11+X.length) (cU a b c d e f) t k a d e,df (CF aa G em L X (EI e (cond (e==1) p q) (fU k d)) (nW M (EI e (cond (e==1) p q) (fU k d)).1 (EI e (cond (e==1) p q) (fU k d)).2 G em))++vh k.2,L8⟩) (Ms 2)) (Ms 3)) aO) (cQ xx):=by kernel_rfl
noncomputable def JM(p:Option (List UInt8))(w:List UInt8):Bool:=p.elim L8 λ x=>decide (x=w)
noncomputable def KN:AV:=.pv (.seq L7 (aO.map λ k=>.boo (t3 p k.2||t3 q k.2)))
noncomputable def KM:AV:=.pv (.seq L7 (aO.map λ k=>.boo (JM p k.2||(JM q k.2||false))))
noncomputable def z9(X:List AO)(v1 v2 v3 v4 v5 v6 v7 v8:AV):List (Nat×AV):=[(135,.obj (11+X.length)),(129,.obj (11+X.length+1)),(132,v1),(136,v2),(100,v3),(141,v4),(80,v5),(137,v6),(138,v7),(188,v8)]
theorem dq(v1 v2 v3 v4 v5 v6 v7 v8:AV):(cQ xx).map (λ X=>[[],[.lst dP]].map λ T=>((aC aM (n+49)).ev 39 (xA (sX (sN ch 9))) ⟨z9 X v1 v2 v3 v4 v5 v6 v7 v8,df (CF aa G em L X (p,q) (nW M p q G em))++T,L8⟩,(aC aM (n+49)).ev 39 (xB (sX (sN ch 9))) ⟨z9 X v1 v2 v3 v4 v5 v6 v7 v8,df (CF aa G em L X (p,q) (nW M p q G em))++T++[.lst dP],L8⟩))=mp (λ X=>mp (λ T=>(L6 (KN p q,⟨z9 X v1 v2 v3 v4 v5 v6 v7 v8,df (CF aa G em L X (p,q) (nW M p q G em))++T++[.lst dP],L8⟩),L6 (KM p q,⟨z9 X v1 v2 v3 v4 v5 v6 v7 v8,df (CF aa G em L X (p,q) (nW M p q G em))++T++[.lst dP]++[.lst dP],L8⟩))) [[],[.lst dP]]) (cQ xx):=by cases p<;>cases q<;>kernel_rfl
theorem BC{p:Option (List UInt8)}:t3 p w=JM p w:=by
 cases p with
 | none=>rfl
 | some x=>exact Bool.eq_iff_iff.mpr ((beq_iff_eq (a:=w) (b:=x)).trans (eq_comm.trans (decide_eq_true_iff (p:=x=w)).symm))
theorem F6:KN p q=KM p q:=congrArg (λ f:List UInt8×List UInt8->PV=>AV.pv (.seq L7 (aO.map f))) (funext λ k=>by exact ac BC (ac BC (ac (O2 _) rfl)))
end
structure Dk(o o':AO):Prop where
 ok:∀g,lP g o=L7
 nf:EL o=L7
 wk:∀f,Wk (dL f o) o'
noncomputable abbrev e9(M:aS)(t:List UInt8):AO:=yG (gM M) (eM M) (lM M) t
noncomputable abbrev BA(M:aS)(p q:Option (List UInt8)):AO:=.ktb (nW M p q (gM M) (eM M))
section
variable{M M':aS}{t w:List UInt8}{p q:Option (List UInt8)}
theorem eD(ok:c7 M)(hl:l=lM M t):Dk (.dip n kn e em l) (e9 M t):=⟨λ zz=>rfl,rfl,λ zz=>yg ok hl⟩
theorem kK{S:KT}(ok:c7 M)(hm:S.made=M)(hp:S.pre=p)(hq:S.sec=q):Dk (.ktb S) (BA M p q):=⟨λ zz=>rfl,rfl,λ zz=>yf ok hm hp hq⟩
theorem hU(ok:c7 (iR M t rows))(h:Dk (g (e9 M t)) (e9 (iR M t rows) t)):Dk (C6 t g s (e9 M s)) (e9 (iR M t rows) s):=by
 unfold C6;by_cases e:s=t
 ·refine ac (if_pos e) (ac e ?_);exact h
 ·refine ac (if_neg e)<|eD ok (by unfold lM;exact ac lI (ac (if_neg e) rfl))
theorem qI:lM (iR M t rows) t=rows.map λ x=>(x.1,cY x.2):=by unfold lM;exact ac lI (ac (if_pos rfl) rfl)
inductive pP(C:List AO)(X:List AO)(os:List AO):Prop
 | mk (M:aS) (p q:Option (List UInt8)) (D1 D2 D3 K:AO) (e:os=IQ C (.lst [ofP (aJ p),ofP (aJ q)]) D1 D2 D3 K X) (ok:c7 M) (hp:p∈kM) (hq:q∈kM) (h1:Dk D1 (e9 M tR)) (h2:Dk D2 (e9 M tP)) (h3:Dk D3 (e9 M tO)) (hK:Dk K (BA M p q))
noncomputable def bu(C:List AO)(M:aS)(p q:Option (List UInt8))(X:List AO):List AO:=IQ C (.lst [ofP (aJ p),ofP (aJ q)]) (e9 M tR) (e9 M tP) (e9 M tO) (BA M p q) X
section
variable{aa xx:Nat->AO}{X:List AO}{a b c d e f:Nat}
theorem pc:∀k∈aO,∀d<3,fU k d∈kM:=by
 have:(aO.all λ k=>(Ms 3).all λ d=>decide (fU k d∈kM))=L7:=by decide +kernel
 exact λ k hk d hd=>of_decide_eq_true (Mq.mp (Mq.mp this k hk) d (MM.mpr hd))
theorem Ae(f:List UInt8->α):br.map (λ w=>(br.map λ y=>(y,f y)).find? λ x=>decide (x.1=w))=mp (λ w=>L6 (w,f w)) br:=by kernel_rfl
theorem CY(hw:w∈br):tM w (e9 M t)=(CZ 7 (br.map λ w=>(w,(gM M t w).map cY)) (L6 (eM M t)) [] (lM M t) w ((gM M t w).map cY)).2:=by
 have e:zM (e9 M t) w=L6 (CZ 7 (br.map λ w=>(w,(gM M t w).map cY)) (L6 (eM M t)) [] (lM M t) w ((gM M t w).map cY)):=by
  refine(?_:Nk _ (List.find? _ _)=_);refine ac (am (Ae λ w=>(gM M t w).map cY) w hw) ?_;rfl
 unfold tM;refine ac e ?_;rfl
theorem Do:(nW M p q (gM M) (eM M)).look t w=gM M t w:=by
 refine(?_:(bC t M).bind (bC w)=bC w ((bC t M).getD []));cases bC t M<;>rfl
theorem xf(ok:c7 M)(hp:p∈kM)(hq:q∈kM)(hX:X∈cQ xx)(ha:a<7)(hb:b<8)(hc:c<3)(hd:d<3)(he:e<2)(hf:f<2) :
  ∃σ,(aC aM 120).exs 39 ch ⟨Dv (11+X.length) (cU a b c d e f),Dl (bu (c5 aa) M p q X),L8⟩=L6 (.ret (.boo L7),σ)/\pP (c5 aa) X (σ.obs.take (11+X.length))/\σ.ph=L8:=by
 obtain⟨t,ht,ec⟩:∃t∈aE,eG.getD c .non=.byt t:=by
  match c,hc with
  | 0,_=>exact⟨tR,by decide,rfl⟩
  | 1,_=>exact⟨tP,by decide,rfl⟩
  | 2,_=>exact⟨tO,by decide,rfl⟩
 have hk:aO.getD b ([],[])∈aO:=by
  have:b<aO.length:=hb;refine ac (Ng) (ac (Mr this) ?_);exact OH this
 generalize ek:aO.getD b ([],[])=k at hk;have hw:=jV k hk;have d0:=am (am (am (LU aa xx (.lst [ofP (aJ p),ofP (aJ q)]) (e9 M tR) (e9 M tP) (e9 M tO) (BA M p q) 79 a d e f) X hX) c (MM.mpr hc)) b (MM.mpr hb);rw[ec,ek] at d0;have d1:=am (LS 78 b c d e f (11+X.length) (.byt t) (.byt k.1) (.byt k.2) (df (bu (c5 aa) M p q X))) a (MM.mpr (by lia));have te:=λ n=>am (LR n b c d e f (11+X.length) (.byt t) (.byt k.1) (.byt k.2) (df (bu (c5 aa) M p q X))) a (MM.mpr (by lia));have ln:∀{D1 D2 D3 K pf:AO},(IQ (c5 aa) pf D1 D2 D3 K X).length=11+X.length:=by
  intros;refine(?_:(_++X).length=_);refine ac Mf ?_;rfl
 have tkq:∀{os:List AO},os.length=11+X.length->(df os).take (11+X.length)=os:=λ{os} h=>by
  refine(?_:O4 _ ((os++_)++_)=_);exact ac (Mk _ _ _) (bP h (ac List.take_left rfl))
 have tky:∀{os:List AO},os.length=11+X.length->(yH os).take (11+X.length)=os:=λ{os} h=>by
  refine(?_:O4 _ (((os++_)++_)++_)=_);exact ac (Mk _ _ _) (ac (Mk _ _ _) (bP h (ac List.take_left rfl)))
 by_cases h4:a<4
 ·have d3:=am (am (am (am (LQ aa xx (.lst [ofP (aJ p),ofP (aJ q)]) (e9 M tR) (e9 M tP) (e9 M tO) (BA M p q) 76 a b c (.byt t) (.byt k.1) (.byt k.2)) X hX) d (MM.mpr hd)) e (MM.mpr he)) f (MM.mpr hf);have d4:=am (am (am (db aa xx 76 a M p q (gM M) (eM M) (lM M) (cU a b c d e f) (iw.getD d []) (qC.getD f []) (e==1)) X hX) t ht) k hk;have tt:=(MD (te 77)).1;rw[decide_eq_true h4] at tt;have hr:IT k.2 (iw.getD d []) (e==1) (qC.getD f [])∈pX k.2:=M2.mpr ⟨_,(by
   have:d<iw.length:=hd;refine ac (Ng) (ac (Mr this) ?_);exact OH this),M2.mpr ⟨_,(by cases (e==1)<;>decide),Mu.mpr ⟨_,(by
   have:f<qC.length:=hf;refine ac (Ng) (ac (Mr this) ?_);exact OH this),rfl⟩⟩⟩
  generalize IT k.2 (iw.getD d []) (e==1) (qC.getD f [])=r at d4 hr;have ok':=ok.set ht (.inr (ok.put (t:=t) hw hr));have hm:iR M t (bt k.2 r (aG M t))=bt t (bt k.2 r (aG M t)) M:=if_neg λ h=>by rw[rW] at h;exact ff h
  have hD:Dk (FK k.2 (cY r) (e9 M t)) (e9 (iR M t (bt k.2 r (aG M t))) t):=eD ok' (by refine ac qI (ac oP ?_);rfl);exact⟨_,a9 d0 (a9 d1 (dD (ed tt (a9 d3 d4)))),(tky ln).symm▸⟨_,p,q,_,_,_,_,rfl,ok',hp,hq,hU ok' hD,hU ok' hD,hU ok' hD,kK ok' hm.symm rfl rfl⟩,rfl⟩
 ·have n4:bv aM (aC aM 117) 39 (sN ch 2) ⟨dH (11+X.length) (cU a b c d e f) (.byt t) (.byt k.1) (.byt k.2) a,df (bu (c5 aa) M p q X),L8⟩=L6 (.nxt,⟨dH (11+X.length) (cU a b c d e f) (.byt t) (.byt k.1) (.byt k.2) a,df (bu (c5 aa) M p q X),L8⟩):=by
   have tt:=(MD (te 77)).1;rw[decide_eq_false h4] at tt;exact cV tt
  by_cases h5:a=4
  ·have tt:=(MD (MD (te 76)).2).1;rw[h5] at tt n4 d1 d0;have e6:∀S':KT,∃σ,(aC aM 116).exs 39 (sB (sN ch 3)) ⟨dH (11+X.length) (cU 4 b c d e f) (.byt t) (.byt k.1) (.byt k.2) 4,df (bu (c5 aa) M p q X),L8⟩=L6 (.ret (.boo L7),σ)/\σ.ph=L8/\σ.obs.take (11+X.length)=sO aa p q (eM M) (lM M) X (gM M) t (tM k.2) ((S0 M p q (eM M) (gM M)).unbind t k.2):=λ zz=>by
    obtain⟨r,ho⟩:∃r,gM M t k.2∈[L9,L6 r]:=by
     cases gM M t k.2 with
     | none=>exact⟨⟨[],[],L7,[]⟩,.head _⟩
     | some r=>exact⟨r,.tail _ (.head _)⟩
    have d4:=am (am (am (am (du aa xx 76 4 M p q (gM M) (eM M) (lM M) (cU 4 b c d e f) r) X hX) t ht) k hk) _ ho;rw[jG rfl] at d4;exact⟨_,d4,rfl,tkq ln⟩
   refine cC (e6 Dy) λ σ h1 h2 h3=>?_;subst h5;refine⟨σ,a9 d0 (a9 d1 (a9 n4 (dD (ed tt h1)))),?_,h2⟩;refine ac h3 ?_;have hu:(S0 M p q (eM M) (gM M)).unbind t k.2=(gM M t k.2).elim (S0 M p q (eM M) (gM M)) λ zz=>(S0 M p q (eM M) (gM M)).drop t (bx k.2 (aG M t)):=congrArg (λ o=>Option.elim o _ _) Do;have hpd:=CY (M:=M) (t:=t) hw;refine ac hu ?_;cases ho:gM M t k.2 with
   | none=>
    rw[ho] at hpd;have:∀s,Dk (C6 t (tM k.2) s (e9 M s)) (e9 M s):=λ s=>by
     unfold C6;by_cases e:s=t
     ·refine ac (if_pos e) (ac e (ac hpd ?_));exact eD ok rfl
     ·refine ac (if_neg e) ?_;exact eD ok rfl
    exact⟨M,p,q,_,_,_,_,rfl,ok,hp,hq,this _,this _,this _,kK ok rfl rfl rfl⟩
   | some r=>
    rw[ho] at hpd;have ok':=ok.set ht (ok.del (t:=t) (w:=k.2));have hD:Dk (tM k.2 (e9 M t)) (e9 (iR M t (bx k.2 (aG M t))) t):=by
     refine ac hpd ?_;exact eD ok' (by refine ac qI (ac jM ?_);rfl)
    refine⟨_,p,q,_,_,_,_,rfl,ok',hp,hq,hU ok' hD,hU ok' hD,hU ok' hD,kK ok' ?_ ?_ ?_⟩
    ·show(if _ then _ else _:KT).made=if _ then _ else _
     cases (bx k.2 (aG M t)).isEmpty<;>rfl
    ·show(if _ then _ else _:KT).pre=p;cases (bx k.2 (aG M t)).isEmpty<;>rfl
    ·show(if _ then _ else _:KT).sec=q;cases (bx k.2 (aG M t)).isEmpty<;>rfl
  ·have n5:bv aM (aC aM 116) 39 (sN ch 3) ⟨dH (11+X.length) (cU a b c d e f) (.byt t) (.byt k.1) (.byt k.2) a,df (bu (c5 aa) M p q X),L8⟩=L6 (.nxt,⟨dH (11+X.length) (cU a b c d e f) (.byt t) (.byt k.1) (.byt k.2) a,df (bu (c5 aa) M p q X),L8⟩):=by
    have tt:=(MD (MD (te 76)).2).1;rw[beq_false_of_ne h5] at tt;exact cV tt
   have tt:=(MD (MD (te 75)).2).2;by_cases h6:a=5
   ·subst h6;have d4:=am (am (dc aa xx 75 5 M p q (gM M) (eM M) (lM M) (cU 5 b c d e f) (.byt k.1) (.byt k.2)) X hX) t ht;have hc:((S0 M p q (eM M) (gM M)).count t:Int)==((lM M t).length:Int):=by
     rw[lM,Md];exact beq_self_eq_true _
    rw[hc] at d4;refine⟨_,a9 d0 (a9 d1 (a9 n4 (a9 n5 (dD (ed tt d4))))),(tkq ln).symm▸?_,rfl⟩;have ok':=ok.set (t:=t) (rows:=[]) ht (.inl rfl);have hD:Dk (Ha (e9 M t)) (e9 (iR M t []) t):=eD ok' (by refine ac qI ?_;rfl);refine⟨_,p,q,_,_,_,_,rfl,ok',hp,hq,hU ok' hD,hU ok' hD,hU ok' hD,kK ok' ?_ ?_ ?_⟩
    ·refine(?_:((bC t M).elim (S0 M p q (eM M) (gM M)) _).made=bx t M);cases z:bC t M with
     | none=>exact(qX λ x hx e=>eV z (Mu.mpr ⟨x,hx,e⟩)).symm
     | some rows=>rfl
    ·refine(?_:((bC t M).elim (S0 M p q (eM M) (gM M)) _).pre=p);cases bC t M<;>rfl
    ·refine(?_:((bC t M).elim (S0 M p q (eM M) (gM M)) _).sec=q);cases bC t M<;>rfl
   ·have n6:bv aM (aC aM 115) 39 (sN ch 4) ⟨dH (11+X.length) (cU a b c d e f) (.byt t) (.byt k.1) (.byt k.2) a,df (bu (c5 aa) M p q X),L8⟩=L6 (.nxt,⟨dH (11+X.length) (cU a b c d e f) (.byt t) (.byt k.1) (.byt k.2) a,df (bu (c5 aa) M p q X),L8⟩):=by
     rw[beq_false_of_ne h6] at tt;exact cV tt
    have d4:=am (am (am (am (dp aa xx 60 a b c f M p q (gM M) (eM M) (lM M) (.byt t)) X hX) k hk) d (MM.mpr hd)) e (MM.mpr he);have hpq:(EI e (cond (e==1) p q) (fU k d)).1∈kM/\(EI e (cond (e==1) p q) (fU k d)).2∈kM:=by
     match e,he with
     | 0,_=>exact⟨pc k hk d hd,hq⟩
     | 1,_=>exact⟨hp,pc k hk d hd⟩
    generalize EI e (cond (e==1) p q) (fU k d)=pq at d4 hpq;have dd:=am (am (dq aa xx 60 M pq.1 pq.2 (gM M) (eM M) (lM M) (.obj 6) (cU a b c d e f) (.byt t) (.byt (if k.2=cW then [97] else k.1)) (.byt (if k.2=cW then [97] else k.2)) (.int (Int.ofNat a)) (ofP (aJ (fU k d))) (.boo (e==1))) X hX) (vh k.2) (by
     unfold vh;by_cases q:k.2=cW
     ·refine ac (if_pos q) ?_;exact .tail _ (.head _)
     ·refine ac (if_neg q) ?_;exact .head _)
    refine aD (MD dd) λ q1 q2=>⟨_,a9 d0 (a9 d1 (a9 n4 (a9 n5 (a9 n6 (zr (n:=110) (A:=(ch.drop 5).take 4) (B:=ch.drop 9) d4 (dD (n:=110) (cL (DN (n:=109) q1 q2 (F6 pq.1 pq.2▸(nj λ p h=>?_).1))))))))),?_,rfl⟩
    ·(refine ag (Mu.mp h) λ k zz PZ=>?_;obtain rfl:=PZ);exact beq_self_eq_true _
    ·refine(show O4 _ _=_ from ?_)▸(⟨M,pq.1,pq.2,_,_,_,_,rfl,ok,hpq.1,hpq.2,eD ok rfl,eD ok rfl,eD ok rfl,kK ok rfl rfl rfl⟩:pP (c5 aa) X (CF aa (gM M) (eM M) (lM M) X (pq.1,pq.2) (nW M pq.1 pq.2 (gM M) (eM M))));refine ac (Mk _ _ _) (ac (Mk _ _ _) ?_);refine(?_:O4 _ (((_++_)++_)++_)=_);refine ac (Mk _ _ _) (ac (Mk _ _ _) ?_);exact NH ln
end
end
noncomputable def bL:List (Nat×AV):=[(141,.obj 0),(129,.obj 1),(195,.obj 2),(194,.obj 3),(132,.obj 4),(135,.obj 5)]
noncomputable def eU(v:AV):List (Nat×AV):=bL++[(136,v)]
noncomputable def zd(v t:AV):List (Nat×AV):=eU v++[(100,t)]
noncomputable def lC(wr:Option AV)(vW vE:AV):List AO:=c5 (g5 (.cel wr) (.cel (L6 (.obj 10))) (.cel (L6 vW)) (.cel (L6 vE)) (.cel (L6 (.obj 6))))
noncomputable def bT(i:Nat):S:=sN (sB (sN bh 4)) i
noncomputable def BF:FD:=⟨[129,132,135,136],[],ch,[135,129]⟩
theorem y7(hn:bG e=L7)(h:(aC T n).tst d e σ=L6 (b,σ')):(aC T (n+1)).tst d (.not e p) σ=L6 (!b,σ'):=by
 refine(?_:(if bG e=L7 then((aC T n).tst d e σ).map _ else L9)=_);refine ac (if_pos hn) (ac h ?_);rfl
theorem eS(h:(aC T n).ev d f σ=L6 (fv,σ))(h':pg ((aC T n).ev d) l σ=L6 (vs,σ))(h'':(aC T n).cal d fv vs σ=L6 (.boo L7,σ')):(aC T (n+3)).tst d (.not (.call f l p) p') σ=L6 (L8,σ'):=by
 refine y7 (n:=n+2) (b:=L7) rfl<|(?_:((aC T (n+1)).ev d (.call f l p) σ).bind _=_)
 refine ac (ee h h' h'') ?_;rfl
section
variable{aa xx:Nat->AO}{X:List AO}{a b c d e f:Nat}{M:aS}{p q:Option (List UInt8)}{loc:List (Nat×AV)}{C:List AO}
theorem xg(hC:C=c5 aa)(ok:c7 M)(hp:p∈kM)(hq:q∈kM)(hX:X∈cQ xx)(ha:a<7)(hb:b<8)(hc:c<3)(hd:d<3)(he:e<2)(hf:f<2)(lo:C.all (eL (11+X.length))=L7/\X.all (eL (11+X.length))=L7) :
  ∃os,(aC aM 121).cal 40 (.val (.ref 826)) [.obj 10,.obj 6,.obj 5,cU a b c d e f] ⟨loc,bu C M p q X,L8⟩=L6 (.boo L7,⟨loc,os,L8⟩)/\pP C X os:=by
 subst hC;refine cC (xf (aa:=aa) ok hp hq hX ha hb hc hd he hf) λ σ h1 h2 h3=>?_;have hl:(bu (c5 aa) M p q X).length=11+X.length:=by
  refine(?_:(_++X).length=_);refine ac Mf ?_;rfl
 have hr:run (aC aM 120) 39 BF [.obj 10,.obj 6,.obj 5,cU a b c d e f] (bu (c5 aa) M p q X) L8=L6 (.ret (.boo L7),σ):=by
  refine bP h1 (bP hl ?_);kernel_rfl
 have:mz (11+X.length) (.boo L7) σ.obs=σ.obs.take (11+X.length):=by
  refine if_pos ?_;obtain⟨M',p',q',D1,D2,D3,K,e1,_,hp',hq',k1,k2,k3,k4⟩:=h2;refine ac e1 ?_;refine(?_:(L7&&((c5 aa++[_,_,_,_,_,_])++X).all _)=L7);refine ac NI (ac NI (ac lo.1 (ac lo.2 ?_)));refine(?_:(L7&&(L7&&(lP _ (.lst [ofP (aJ p'),ofP (aJ q')])&&(lP _ (uj L8 7)&&(lP _ D1&&(lP _ D2&&(lP _ D3&&(lP _ K&&L7))))))&&L7))=L7);rw[k1.ok,k2.ok,k3.ok,k4.ok];have l:lP (λ i=>decide (i<11+X.length)) (.lst [ofP (aJ p'),ofP (aJ q')])=L7:=by cases p'<;>cases q'<;>rfl
  have h9:∀i,i<11->decide (i<11+X.length)=L7:=λ i h=>decide_eq_true (M7 h (Mt _ _));have m:lP (λ i=>decide (i<11+X.length)) (uj L8 7)=L7:=by
   refine(?_:(decide (7<_)&&(decide (8<_)&&(decide (9<_)&&L7)))=L7);refine ac (h9 7 (by decide)) (ac (h9 8 (by decide)) (ac (h9 9 (by decide)) ?_));rfl
  refine ac l (ac m ?_);rfl
 have e:=et (T:=aM) (n:=120) (d:=39) (a:=826) (vs:=[.obj 10,.obj 6,.obj 5,cU a b c d e f]) (σ:=⟨loc,bu (c5 aa) M p q X,L8⟩) (fd:=BF) (by kernel_rfl) (by kernel_rfl) (by kernel_rfl) (by kernel_rfl) (by kernel_rfl) hr;refine⟨σ.obs.take (11+X.length),e.trans ?_,h2⟩;refine(?_:L6 (AV.boo L7,(⟨loc,mz (bu (c5 aa) M p q X).length (.boo L7) σ.obs,σ.ph⟩:St))=_);exact ac hl (ac this (ac h3 rfl))
end
section
variable(xx:Nat->AO)(C:AO)(n:Nat)(a b c d e f:Nat)(M:aS)(p q:Option (List UInt8))(wr:Option AV)(vW vE v t:AV)(os X:List AO)(loc:List (Nat×AV))
theorem KU:(Ms 8).map (λ a=>(aC aM (n+10)).tst 40 (sX (bT 0)) ⟨eU (cU a b c d e f),os,L8⟩)=mp (λ a=>L6 (a==7,⟨eU (cU a b c d e f),os,L8⟩)) (Ms 8):=by kernel_rfl
theorem LJ:(cQ xx).map (λ X=>(Ms 3).map λ c=>bv aM (aC aM (n+30)) 40 (bT 1) ⟨eU (cU a b c d e f),bu (lC wr vW vE) M p q X,L8⟩)=mp (λ X=>mp (λ c=>L6 (.nxt,⟨zd (cU a b c d e f) (eG.getD c .non),bu (lC wr vW vE) M p q X++[.lst eG],L8⟩)) (Ms 3)) (cQ xx):=by kernel_rfl
theorem LI:(cQ xx).map (λ X=>kM.map λ p=>kM.map λ q=>(aC aM (n+30)).tst 40 (sX (bT 3)) ⟨zd v t,bu (lC wr vW vE) M p q X++[.lst eG],L8⟩)=mp (λ X=>mp (λ p=>mp (λ q=>L6 (L8,⟨zd v t,bu (lC wr vW vE) M p q X++[.lst eG]++[.lst [ofP (aJ p),ofP (aJ q)]],L8⟩)) kM) kM) (cQ xx):=by kernel_rfl
end
section
variable{xx:Nat->AO}{n:Nat}{a b c d e f:Nat}{M:aS}{p q:Option (List UInt8)}{wr:Option AV}{vW vE v t:AV}{os X:List AO}
theorem CD(ok:c7 M)(hp:p∈kM)(hq:q∈kM)(hX:X∈cQ xx)(ha:a<7)(hb:b<8)(hc:c<3)(hd:d<3)(he:e<2)(hf:f<2)(lo:(lC wr vW vE).all (eL (11+X.length))=L7/\X.all (eL (11+X.length))=L7) :
  ∃os,bv aM (aC aM 125) 40 (bT 0) ⟨eU (cU a b c d e f),bu (lC wr vW vE) M p q X,L8⟩=L6 (.nxt,⟨eU (cU a b c d e f),os,L8⟩)/\pP (lC wr vW vE) X os:=by
 refine ag (xg (loc:=eU (cU a b c d e f)) rfl ok hp hq hX ha hb hc hd he hf lo) λ os h r=>?_;have t:=am (KU 115 b c d e f (bu (lC wr vW vE) M p q X)) a (MM.mpr (by lia));rw[beq_false_of_ne (show a≠7 by lia)] at t;exact⟨os,ed t (a9 (n:=124) (cV (n:=123) (eS (n:=121) (by kernel_rfl) (by kernel_rfl) h)) rfl),r⟩
theorem Bh:hH [10,6,7,8,9] (bu (lC wr vW vE) M p q X++tl) (Wv L8 M p q (gM M) (eM M) (lM M)):=⟨by decide,rfl,λ k i h=>by
 match k,h with
 | 0,h=>exact sI h▸⟨_,rfl,rfl,rfl⟩
 | 1,h=>exact sI h▸⟨_,rfl,rfl,rfl⟩
 | 2,h=>exact sI h▸⟨_,rfl,rfl,rfl⟩
 | 3,h=>exact sI h▸⟨_,rfl,rfl,rfl⟩
 | 4,h=>exact sI h▸⟨_,rfl,rfl,rfl⟩⟩
theorem jb(hk:aM.kp.contains a=L7)(h:f6 a vs os L8=L6 (.boo L7,os)):(aC aM (n+1)).cal 40 (.val (.ref a)) vs ⟨loc,os,L8⟩=L6 (.boo L7,⟨loc,os,L8⟩):=fD (T:=aM) (d:=20) (σ:=⟨loc,os,L8⟩) (r:=(.boo L7,os)) hk h
theorem CC(ok:c7 M)(hp:p∈kM)(hq:q∈kM)(hX:X∈cQ xx)(hc:c<3):∃t,(aC aM 125).exs 40 [bT 1,bT 2,bT 3] ⟨eU (cU a b c d e f),bu (lC wr vW vE) M p q X,L8⟩=L6 (.nxt,⟨zd (cU a b c d e f) t,bu (lC wr vW vE) M p q X++[.lst eG]++[.lst [ofP (aJ p),ofP (aJ q)]],L8⟩):=by
 obtain⟨t,ht,ec⟩:∃t∈aE,eG.getD c .non=.byt t:=by
  match c,hc with
  | 0,_=>exact⟨tR,by decide,rfl⟩
  | 1,_=>exact⟨tP,by decide,rfl⟩
  | 2,_=>exact⟨tO,by decide,rfl⟩
 have h1:=am (am (LJ xx 94 a b d e f M p q wr vW vE) X hX) c (MM.mpr hc);rw[ec] at h1;have h4:=am (am (am (LI xx 92 M wr vW vE (cU a b c d e f) (.byt t)) X hX) p hp) q hq;have f1:=EA (Bh (wr:=wr) (vW:=vW) (vE:=vE) (X:=X) (M:=M) (p:=p) (q:=q) (tl:=[.lst eG])) ok.gd ht (ok.len t);have f2:=Ky (Bh (wr:=wr) (vW:=vW) (vE:=vE) (X:=X) (M:=M) (p:=p) (q:=q) (tl:=[.lst eG])) ok.gd ht;refine⟨_,a9 (n:=124) h1 (a9 (n:=123) (cV (n:=122) (rM (n:=120) (a:=L8) (b:=L8) rfl rfl ?_ ?_)) (a9 (n:=122) (cV (n:=121) h4) rfl))⟩
 ·exact eS (n:=119) (fv:=.val (.ref 814)) (vs:=[.obj 10,.obj 6,.byt t]) (by kernel_rfl) (by kernel_rfl) (jb (n:=118) (by kernel_rfl) f1)
 ·exact eS (n:=118) (fv:=.val (.ref 821)) (vs:=[.obj 10,.obj 6,.byt t]) (by kernel_rfl) (by kernel_rfl) (jb (n:=117) (by kernel_rfl) f2)
end
noncomputable def xT(i:Nat):X->X
 | .tup l _ _=>l.getD i x0
 | _=>x0
noncomputable def LB:S->X
 | .tpl _ _ _ x _=>x
 | _=>x0
noncomputable def LC:S->List Tg
 | .tpl l _ _ _ _=>l
 | _=>[]
noncomputable def K8:S:=sN (sB (bT 0)) 0
noncomputable def tK:X:=xT 1 (LB K8)
noncomputable def IR(M:aS)(t:List UInt8):AO:=.dip 7 [] L9 [] (lM M t)
noncomputable def r8(N:Nat)(M:aS):List AO:=[IR M tR,.tup [.byt tR,.obj N],IR M tP,.tup [.byt tP,.obj (N+2)],IR M tO,.tup [.byt tO,.obj (N+4)],.lst [.obj (N+1),.obj (N+3),.obj (N+5)],.dic [(tR,.obj N),(tP,.obj (N+2)),(tO,.obj (N+4))]]
noncomputable def sA(wr:Option AV)(vW vE v:AV)(M:aS)(p q:Option (List UInt8))(X:List AO):St:=⟨eU v,bu (lC wr vW vE) M p q X,L8⟩
noncomputable def EG(wr:Option AV)(vW vE v:AV)(M:aS)(p q:Option (List UInt8))(X:List AO):St:=⟨eU v,bu (lC wr vW vE) M p q X++r8 (11+X.length) M,L8⟩
noncomputable def BV(T:bq)(E:eB)(d:Nat)(l:List Tg)(p:AV×St):Option (Fl×St):=(dK T p.2.obs p.1).bind λ y=>if y.1=L8/\l.length=y.2.length then(IB T (E.ev d) l y.2 p.2).map nx else L9
theorem Af(h:(aC T n).ev d x σ=L6 r):bv T (aC T n) d (.tpl l k q x p) σ=BV T (aC T n) d l r:=by
 refine(?_:((aC T n).ev d x σ).bind _=_);refine ac h ?_;rfl
theorem Ah(h:(aC T n).ev d a σ=L6 (u,σ'))(h':(aC T n).ev d b σ'=L6 (v,σ'')):(aC T (n+1)).ev d (.tup [a,b] k p) σ=L6 (mkS L8 [u,v] σ''):=by
 refine(?_:(((aC T n).ev d a σ).bind _).bind _=_);refine ac h<|(?_:((((aC T n).ev d b σ').bind _).bind _).bind _=_)
 refine ac h' ?_;rfl
section
variable(xx:Nat->AO)(n:Nat)(b c d e f:Nat)(M:aS)(p q:Option (List UInt8))(wr:Option AV)(vW vE v:AV)(X:List AO)
noncomputable def LV(N:Nat)(wr:Option AV):List AO:=c5 (g5 (.cel wr) (.cel (L6 (.obj (N+9)))) (.cel (L6 (.obj (N+7)))) (.cel (L6 (.obj 10))) (.cel (L6 (.obj 6))))
noncomputable def Ji(X:List AO):St:=⟨eU v,bu (LV (11+X.length) wr) M p q X++r8 (11+X.length) M++[.tup [.obj 10,.obj (11+X.length+7)],BA M p q],L8⟩
theorem CV:(cQ xx).map (λ X=>vJ tK (sA wr vW vE v M p q X))=mp (λ X=>(.obj (11+X.length+7),EG wr vW vE v M p q X)) (cQ xx):=by kernel_rfl
theorem LW:(cQ xx).map (λ X=>(BV aM (aC aM (n+40)) 40 (LC K8) (mkS L8 [.obj 10,.obj (11+X.length+7)] (EG wr vW vE v M p q X))).bind λ r=>(qN r.1).bind λ zz=>bv aM (aC aM (n+39)) 40 (sN (sB (bT 0)) 1) r.2)=mp (λ X=>L6 (.nxt,Ji M p q wr v X)) (cQ xx):=by kernel_rfl
end
theorem CE{X:List AO}(hX:X∈cQ xx)(hr:kJ tK 40 (sA wr vW vE (cU 7 b c d e f) M p q X) (.obj (11+X.length+7),EG wr vW vE (cU 7 b c d e f) M p q X)):bv aM (aC aM 125) 40 (bT 0) (sA wr vW vE (cU 7 b c d e f) M p q X)=L6 (.nxt,Ji M p q wr (cU 7 b c d e f) X):=by
 have t:=am (KU 115 b c d e f (bu (lC wr vW vE) M p q X)) 7 (by decide);have h:=am (LW xx 84 M p q wr vW vE (cU 7 b c d e f)) X hX;(refine ag (b4 h) λ Qc h1 h=>?_;obtain⟨fl,σ⟩:=Qc);refine ag (b4 h) λ zz h2 h=>?_;obtain rfl:=oZ h2;have e:(aC aM 123).ev 40 tK (sA wr vW vE (cU 7 b c d e f) M p q X)=L6 (.obj (11+X.length+7),EG wr vW vE (cU 7 b c d e f) M p q X):=by
  refine(?_:vK tK 40 _=_);have q:=am (CV xx M p q wr vW vE (cU 7 b c d e f)) X hX;exact(congrArg L6 q).symm▸@if_pos _ (M0 _) (q.symm▸hr) _ _ _
 exact ed t (a9 (n:=124) ((Af (Ah (n:=123) (by kernel_rfl) e)).trans h1) (a9 (n:=123) h rfl))
noncomputable abbrev pK:Type:=Option (aS×Option (List UInt8)×Option (List UInt8))
noncomputable def b6(sh:pK):List AO:=sh.elim [.dic []] λ m=>[uj L8 12,e9 m.1 tR,e9 m.1 tP,e9 m.1 tO,BA m.1 m.2.1 m.2.2]
noncomputable def cR(sh:pK):AV:=sh.elim (.obj 10) λ zz=>.obj 15
noncomputable def gX(wr:Option AV)(sh:pK)(M:aS)(p q:Option (List UInt8))(loc:List (Nat×AV)):St:=⟨loc,bu (lC wr (.obj 11) (cR sh)) M p q (b6 sh),L8⟩
structure uC(sh:pK)(M:aS)(p q:Option (List UInt8)):Prop where
 ok:c7 M
 hp:p∈kM
 hq:q∈kM
 hs:∀m,sh=L6 m->c7 m.1
theorem vy(sh:pK):(lC L9 (.obj 11) (cR sh)).all (eL (11+(b6 sh).length))=L7/\(b6 sh).all (eL (11+(b6 sh).length))=L7:=by cases sh<;>exact⟨rfl,rfl⟩
theorem oB(sh:pK):∃xx,b6 sh∈cQ xx:=by
 cases sh with
 | none=>exact⟨λ zz=>.dic [],.head _⟩
 | some m=>exact⟨g5 _ _ _ _ _,.tail _ (.head _)⟩
section
variable{c:Cx}{d n:Nat}{ρ:RR}{σ σ':St}{s:Mc}{sh:pK}{M:aS}{p q:Option (List UInt8)}{v t:AV}{os os₁:List AO}{Q:Flow->Mc->Prop}
theorem lE{st:S}(C:aQ c d)(R:au c ρ σ s)(h:bv aM (aC aM n) d st σ=L6 (.nxt,σ'))(hm:kl c.cs st=L7)(k:∀ρ' s',au c ρ' σ' s'->W c (Na (ba ss) c.env) Q s'):W c (Na (ba (st::ss)) c.env) Q s:=by
 refine bg (aK (mB bc (bp bc n).ev (λ m zz=>(bp bc m).ts) (λ m zz=>(bp bc m).ex) C R h hm) λ fl s₁ z=>?_);(revert z;refine λ P3=>FE.el P3 λ PY _ R₁ z=>?_;clear P3);obtain rfl:fl=.next:=z;exact k PY s₁ R₁
theorem B9(C:aQ c d)(R:au c ρ σ s)(h:(aC aM n).exs d ss σ=L6 (.nxt,σ'))(hm:bz c.cs ss=L7)(k:∀ρ' s',au c ρ' σ' s'->Q .next s'):W c (Na (ba ss) c.env) Q s:=by
 refine aK ((bp bc n).ex d ss σ _ c ρ s h C hm R) λ fl s₁ z=>?_;(revert z;refine λ P3=>FE.el P3 λ PY _ R₁ z=>?_;clear P3);obtain rfl:fl=.next:=z;exact k PY s₁ R₁
theorem ay.refl{R:α->α->Prop}(h:∀x,R x x):∀l:List α,ay R l l
 | []=>rfl
 | x::l=>(aq x l ⟨rfl,h x,ay.refl h l⟩)
theorem au.wk(R:au c ρ σ s)(h:ay Wk σ.obs os₁):au c ρ {σ with obs:=os₁} s:=by
 (refine au.el R λ m τ F L K r=>?_;clear R);refine⟨m,τ,F,L,⟨K.N,K.Y,K.sz.trans h.len.symm,λ i o' e=>?_,K.Z,K.X,K.B⟩,r⟩;obtain⟨o,e0⟩:∃o,σ.obs[i]?=L6 o:=⟨_,Mr (h.len▸(Mz.mp e).1)⟩
 refine ag (h.get e0) λ QD e2 w=>?_;obtain rfl:=sI (e2.symm.trans e);refine ag (K.O i o e0) λ a e1 y=>⟨a,e1,w _ _ _ _ _ _ _ y⟩
theorem Dk.id(h:Dk o o'):Wk o o':=rT o▸h.wk λ i=>i
theorem vH{C X:List AO}{loc:List (Nat×AV)}(R:au c ρ ⟨loc,os,L8⟩ s)(h:pP C X os):∃M p q,c7 M/\p∈kM/\q∈kM/\au c ρ ⟨loc,bu C M p q X,L8⟩ s:=by
 obtain⟨M,p,q,D1,D2,D3,K,rfl,ok,hp,hq,k1,k2,k3,k4⟩:=h;have h6:ay Wk [.lst [ofP (aJ p),ofP (aJ q)],uj L8 7,D1,D2,D3,K] [.lst [ofP (aJ p),ofP (aJ q)],uj L8 7,e9 M tR,e9 M tP,e9 M tO,BA M p q]:=(ay.k Wk.refl (ay.k Wk.refl (ay.k k1.id (ay.k k2.id (ay.k k3.id (ay.k k4.id rfl))))))
 exact(aI M p q ⟨ok,hp,hq,R.wk (((ay.refl (λ zz=>Wk.refl) C).app h6).app (ay.refl (λ zz=>Wk.refl) X))⟩)
noncomputable def uz(idx:List Nat)(L:List (Nat×AV)):List (Nat×AV)->Prop
 | []=>True
 | x::l=>(∃a,L.lookup x.1=L6 a/\ik (qy idx) a=L7/\b9 (jE idx) a=x.2)/\uz idx L l
theorem uz.hl{idx:List Nat}:∀{l:List (Nat×AV)},uz idx L l->∀i a,l.lookup i=L6 a->∃a',L.lookup i=L6 a'/\ik (qy idx) a'=L7/\b9 (jE idx) a'=a
 | x::l,h,i,a,e=>by
  rw[MI] at e;by_cases q:i=x.1
  ·rw[q,beq_self_eq_true] at e;refine ac q (bP (sI e) ?_);exact h.1
  ·rw[beq_false_of_ne q] at e;exact h.2.hl i a e
theorem rU{X tl:List AO}(R:au c ρ ⟨loc,bu (lC wr vW vE) M p q X++tl,L8⟩ s)(hl:∀i a,bL.lookup i=L6 a->loc.lookup i=L6 a)(lo:(lC wr vW vE).all (eL (11+X.length))=L7/\X.all (eL (11+X.length))=L7):∃ρ',au c ρ' ⟨bL,bu (lC wr vW vE) M p q X,L8⟩ s:=by
 (refine au.el R λ m τ F L K r=>?_;clear R);have hn:(bu (lC wr vW vE) M p q X).length=11+X.length:=by
  refine(?_:(_++X).length=_);refine ac Mf ?_;rfl
 have h9:∀i,i<11->decide (i<11+X.length)=L7:=λ i h=>decide_eq_true (M7 h (Mt _ _));have low:(bu (lC wr vW vE) M p q X).all (eL (11+X.length))=L7:=by
  refine(?_:((_++[_,_,_,_,_,_])++X).all _=L7);refine ac NI (ac NI (ac lo.1 (ac lo.2 ?_)));have l:lP (λ i=>decide (i<11+X.length)) (.lst [ofP (aJ p),ofP (aJ q)])=L7:=by cases p<;>cases q<;>rfl
  refine(?_:(L7&&(lP _ (.lst [ofP (aJ p),ofP (aJ q)])&&((decide (7<_)&&(decide (8<_)&&(decide (9<_)&&L7)))&&L7))&&L7)=L7);refine ac l (ac (h9 7 (by decide)) (ac (h9 8 (by decide)) (ac (h9 9 (by decide)) ?_)));rfl
 have K':=K.cut (k:=11+X.length) (by refine ac Mf (ac hn ?_);exact Mt _ _) (by refine ac (NH hn) ?_;exact low);rw[NH hn] at K';refine⟨_,m,τ,F,λ i a e=>?_,K',r⟩;refine ag (L i a (hl i a e)) λ v w1 w2=>⟨v,w1,w2.low ?_⟩
 have:bL.all (λ x=>ik (λ i=>decide (i<6)) x.2)=L7:=rfl;have:=Mq.mp this _ (aN e);cases a with
 | obj i=>exact h9 i (NM (of_decide_eq_true this) (by decide))
 | _=>rfl
theorem vI(R:au c ρ (Ji M p q L9 v (b6 sh)) s)(hv:∀g,ik g v=L7)(hv':∀f,b9 f v=v)(ok:c7 M):∃ρ',au c ρ' (gX L9 (L6 (M,p,q)) M p q (eU v)) s:=by
 have w:∀t,Wk (IR M t) (e9 M t):=λ t=>yg ok rfl;have pf:∀idx,dL (jE idx) (.lst [ofP (aJ p),ofP (aJ q)])=.lst [ofP (aJ p),ofP (aJ q)]/\(lP (qy idx) (.lst [ofP (aJ p),ofP (aJ q)])&&EL (.lst [ofP (aJ p),ofP (aJ q)]))=L7:=λ idx=>by cases p<;>cases q<;>exact⟨rfl,rfl⟩
 have wp:∀idx,Wk (dL (jE idx) (.lst [ofP (aJ p),ofP (aJ q)])) (.lst [ofP (aJ p),ofP (aJ q)]):=λ idx=>by refine ac ((pf idx).1) ?_;exact Wk.refl
 cases sh with
 | none=>exact⟨_,R.relab (idx:=[0,1,2,3,4,5,6,7,8,9,21,19,12,14,16,10]) (by decide) (cX.k rfl rfl Wk.refl (cX.k rfl rfl Wk.refl (cX.k rfl rfl Wk.refl (cX.k rfl rfl Wk.refl (cX.k rfl rfl Wk.refl (cX.k rfl ((pf _).2) (wp _) (cX.k rfl rfl Wk.refl (cX.k rfl rfl Wk.refl (cX.k rfl rfl Wk.refl (cX.k rfl rfl Wk.refl (cX.k rfl rfl Wk.refl (cX.k rfl rfl Wk.refl (cX.k rfl rfl (w _) (cX.k rfl rfl (w _) (cX.k rfl rfl (w _) (cX.k rfl rfl Wk.refl rfl)))))))))))))))) (uz.hl (l:=eU v) ⟨⟨_,rfl,rfl,rfl⟩,⟨_,rfl,rfl,rfl⟩,⟨_,rfl,rfl,rfl⟩,⟨_,rfl,rfl,rfl⟩,⟨_,rfl,rfl,rfl⟩,⟨_,rfl,rfl,rfl⟩,⟨_,rfl,hv _,hv' _⟩,trivial⟩)⟩
 | some m=>exact⟨_,R.relab (idx:=[0,1,2,3,4,5,6,7,8,9,25,23,16,18,20,10]) (by decide) (cX.k rfl rfl Wk.refl (cX.k rfl rfl Wk.refl (cX.k rfl rfl Wk.refl (cX.k rfl rfl Wk.refl (cX.k rfl rfl Wk.refl (cX.k rfl ((pf _).2) (wp _) (cX.k rfl rfl Wk.refl (cX.k rfl rfl Wk.refl (cX.k rfl rfl Wk.refl (cX.k rfl rfl Wk.refl (cX.k rfl rfl Wk.refl (cX.k rfl rfl Wk.refl (cX.k rfl rfl (w _) (cX.k rfl rfl (w _) (cX.k rfl rfl (w _) (cX.k rfl rfl Wk.refl rfl)))))))))))))))) (uz.hl (l:=eU v) ⟨⟨_,rfl,rfl,rfl⟩,⟨_,rfl,rfl,rfl⟩,⟨_,rfl,rfl,rfl⟩,⟨_,rfl,rfl,rfl⟩,⟨_,rfl,rfl,rfl⟩,⟨_,rfl,rfl,rfl⟩,⟨_,rfl,hv _,hv' _⟩,trivial⟩)⟩
end
noncomputable def uA(c:Cx)(wr:Option AV)(loc:List (Nat×AV))(s:Mc):Prop:=∃ρ sh M p q,uC sh M p q/\au c ρ (gX wr sh M p q loc) s
inductive pM(v:AV):Prop
 | mk (a b c d e f:Nat) (ha:a<8) (hb:b<8) (hc:c<3) (hd:d<3) (he:e<2) (hf:f<2) (e':v=cU a b c d e f)
noncomputable def yo:Prop:=∀(sh:pK) (M:aS) (p q:Option (List UInt8)) (v:AV),c7 M->kJ tK 40 (sA L9 (.obj 11) (cR sh) v M p q (b6 sh)) (.obj (11+(b6 sh).length+7),EG L9 (.obj 11) (cR sh) v M p q (b6 sh))
theorem pM.el{P':Prop}(hh:pM v)(kk:∀(a b c d e f:Nat) (ha:a<8) (hb:b<8) (hc:c<3) (hd:d<3) (he:e<2) (hf:f<2) (e':v=cU a b c d e f),P'):P':=by
 obtain⟨a,b,c,d,e,f,ha,hb,hc,hd,he,hf,e'⟩:=hh;exact kk a b c d e f ha hb hc hd he hf e'
section
variable{c:Cx}{d n:Nat}{ρ:RR}{σ σ':St}{s:Mc}{sh:pK}{M:aS}{p q:Option (List UInt8)}{v t:AV}{os os₁:List AO}
theorem B6(hr:yo)(C:aQ c 40)(R:au c ρ (gX L9 sh M p q (eU v)) s)(fi:uC sh M p q)(nv:pM v)(hm:bz c.cs [bT 0,bT 1,bT 2,bT 3]=L7):W c (Na (ba [bT 0,bT 1,bT 2,bT 3]) c.env) (λ fl s'=>fl=.next/\uA c L9 bL s') s:=by
 (refine pM.el nv λ a b cc d e f ha hb hc hd he hf hz12=>?_;clear nv;obtain rfl:=hz12);refine af hm λ m0 m1=>?_;have rest:∀{ρ:RR} {s:Mc} {sh:pK} {M:aS} {p q:Option (List UInt8)},uC sh M p q->au c ρ (gX L9 sh M p q (eU (cU a b cc d e f))) s->W c (Na (ba [bT 1,bT 2,bT 3]) c.env) (λ fl s'=>fl=.next/\uA c L9 bL s') s:=λ{ρ s sh M p q} fi R=>by
  refine aA (oB sh) λ xx hX=>aA (CC (wr:=L9) (vW:=.obj 11) (vE:=cR sh) (a:=a) (b:=b) (c:=cc) (d:=d) (e:=e) (f:=f) fi.ok fi.hp fi.hq hX hc) λ t h=>?_;refine B9 C R h m1 λ ρ' s' R'=>⟨rfl,?_⟩
  rw[Mk] at R';obtain⟨ρ'',R''⟩:=rU R' (λ i a e=>by
   refine(?_:List.lookup i (bL++_)=_);refine ac List.lookup_append (ac e ?_);rfl) (vy sh)
  exact(bM ρ'' sh M p q ⟨fi,R''⟩)
 refine aA (oB sh) λ xx hX=>?_;by_cases h7:a=7
 ·subst h7;refine lE C R (CE hX (hr sh M p q _ fi.ok)) m0 λ ρ' s' R'=>aA (vI R' (λ zz=>rfl) (λ zz=>rfl) fi.ok) λ ρ'' R''=>rest ⟨fi.ok,fi.hp,fi.hq,λ m e=>sI e▸fi.ok⟩ R''
 ·refine ag (CD (wr:=L9) (vW:=.obj 11) (vE:=cR sh) (a:=a) (b:=b) (c:=cc) (d:=d) (e:=e) (f:=f) fi.ok fi.hp fi.hq hX (by lia) hb hc hd he hf (vy sh)) λ os h hD=>lE C R h m0 λ ρ' s' R'=>cJ (vH R' hD) λ M' p' q' ok' hp' hq' R''=>rest ⟨ok',hp',hq',fi.hs⟩ R''
theorem zX(hr:yo){i:Nat}(C:aQ c 40)(R:au c ρ σ s)(hi:σ.obs[i]?=L6 (.lst QF))(hl:σ.loc.lookup 140=L6 (.obj i))(hm:kl c.cs (sN bh 4)=L7)(hn:∀v∈QF,pM v)(start:∀{P6:Cx} {ρ:RR} {s:Mc},au P6 ρ {σ with obs:=σ.obs.set i (.frz L7 QF)} s->uA P6 L9 bL s) :
  W c (Ov (iT (sN bh 4)) c.env) (λ fl s'=>fl=.next/\∃xa ob,uA (c.hold xa ob (i+3)) L9 bL s') s:=by
 refine af hm λ m0 m=>af m λ m1 m2=>mu ((bp bc 1).ev 40 _ σ (.obj i,σ) c ρ s (by refine(?_:(σ.loc.lookup 140).map _=_);refine ac hl ?_;rfl) C m1 R) (λ val s₁ z=>?_) (λ x=>jA _ _ _);(refine PE.el z λ PY P1 R₁ P7=>?_;clear z);obtain⟨xa,ob,⟨us,k,rfl,y⟩,rfl,e',g,nf,sm,P4⟩:=R₁.held (o:=.lst QF) (o':=.frz L7 QF) (P:=λ ob=>∃us k,ob=iI us k/\IsL PY QF us) hi P7 (λ τ xa q=>by
  refine aZ q λ us k cl y=>⟨_,cl,(aq us k ⟨rfl,y⟩)⟩) λ xa ob τ fx q zz z=>by
  (refine aZ q λ us k PZ y=>?_;clear q;obtain rfl:=PZ);exact(aq us k ⟨z,y⟩)
 obtain⟨Qw,sh,M,p,q,fi,Qe⟩:uA (c.hold xa (iI us k) (i+3)) L9 bL s₁:=start (by
  obtain⟨m,τ,F,L,K,r⟩:=P4;exact⟨m,τ,F,L,K,r⟩)
 have nI:∀p k',¬(c.hold xa (iI us k) (i+3)).fx s₁.heap.objs.size p k':=Qe.fxno (Mm _);refine DH (env:=c.env) (λ zz s'=>∃ρ sh M p q,uC sh M p q/\aX (c.hold xa (iI us k) (i+3)) ρ (gX L9 sh M p q bL) s' λ x=>x=s₁.heap.objs.size) (d6 (c:=c) (b:=L7) g y) (λ o hf=>(bM Qw sh M p q ⟨fi,(Qe.new (k:=s₁.toks) λ zz zz e=>Mb _ e).sub λ x hx=>hx▸Mm _⟩)) (λ j s' J b hb o ho=>?_) (λ j s' h' tk J hk=>?_) C.hE (λ j v s' oI hj J gI hP=>?_) λ s' J=>?_
 ·(refine dT J λ ρ' sh M p q fi R'=>?_;clear J);(refine aX.el R' λ m τ F L K r _=>?_;clear R');rw[Ma.mp hb] at ho ⊢;obtain rfl:=sI (g.symm.trans ho);exact(K.X xa _ (i+3) (.inr ⟨rfl,rfl,rfl⟩)).g
 ·(refine dT J λ ρ' sh M p q fi R'=>?_;clear J);exact(bM ρ' sh M p q ⟨fi,R'.but rfl hk⟩)
 ·(refine dT J λ ρ' sh M p q fi R'=>?_;clear J);refine ag (f7 y j v hP) λ av ea xv=>?_;have nv:=hn av (NG ea);have xv':Is ρ' av v:=by
   (refine pM.el nv λ a b cc d e f _ _ _ _ _ _ hz12=>?_;clear nv;obtain rfl:=hz12);exact xv
  have QC:aQ (c.hold xa (iI us k) (i+3)) 40:=C.hold;have C':aQ ((c.hold xa (iI us k) (i+3)).hold s₁.heap.objs.size oI 0) 40:=QC.hold;refine oa (c:=(c.hold xa (iI us k) (i+3)).hold s₁.heap.objs.size oI 0) bc.tup C' (R'.hold rfl 0 gI).rel m0 xv' rfl λ P0 P4=>aK (B6 (c:=(c.hold xa (iI us k) (i+3)).hold s₁.heap.objs.size oI 0) hr C' P4 fi nv m2) λ fl s₃ z=>?_;(refine rf z λ Qc Qf R1 SN Sy Sx Sg Qe=>?_;clear z;obtain rfl:=Qc);refine aD (Qe.toN.drop nI (by decide)) λ RI g1=>⟨(bM Qf R1 SN Sy Sx ⟨Sg,RI.sub λ x hx=>.inr hx⟩),g1⟩
 ·(refine dT J λ ρ' sh M p q fi R'=>?_;clear J);exact⟨rfl,(qR xa _ ρ' sh M p q ⟨fi,R'.rel⟩)⟩
end
noncomputable def Dp(v:Value):List (Nat×AV):=[(141,.obj 0),(129,.obj 1),(195,.obj 2),(194,.obj 3),(132,.obj 4),(139,.val v),(140,.obj 5)]
noncomputable def Dg(QF:List AV):List AO:=[.cel L9,.cel L9,.cel L9,.cel L9,.cel L9,.lst QF]
noncomputable def Ge(QF:List AV):List AO:=[.cel L9,.cel (L6 (.obj 6)),.cel (L6 (.obj 14)),.cel (L6 (.obj 6)),.cel (L6 (.obj 8)),.lst QF,.ktb Dy,.lst [.byt [67,45,98],.non],.dic [(tR,.obj 11),(tP,.obj 12),(tO,.obj 13)],.tup [.obj 6,.obj 7,.obj 8],.lst eG,.dic [],.dic [],.dic [],.dic [],.tup [.obj 6,.obj 14]]
noncomputable def Gl(v:Value):List (Nat×AV):=Dp v++[(135,.obj 7),(100,.byt tO)]
theorem LX(v:Value)(QF:List AV):(aC aM 80).exs 40 [sN bh 1,sN bh 2,sN bh 3] ⟨Dp v,Dg QF,L8⟩=L6 (.nxt,⟨Gl v,Ge QF,L8⟩):=by kernel_rfl
theorem c7.nil:c7 []:=⟨.nil,λ zz h=>(ni h)⟩
theorem AG(R:au c ρ ⟨Gl v,(Ge QF).set 5 (.frz L7 QF),L8⟩ s):uA c L9 bL s:=by
 have w:∀t,Wk (.dic []) (e9 [] t):=λ t=>Es rfl;exact(bM _ L9 ([]) (L6 [67,45,98]) L9 ⟨⟨c7.nil,by decide,by decide,λ zz e=>(by cases e)⟩,R.relab (idx:=[0,1,2,3,4,7,8,11,12,13,6,14]) (by decide) (cX.k rfl rfl Wk.refl (cX.k rfl rfl Wk.refl (cX.k rfl rfl Wk.refl (cX.k rfl rfl Wk.refl (cX.k rfl rfl Wk.refl (cX.k rfl rfl Wk.refl (cX.k rfl rfl Wk.refl (cX.k rfl rfl (w _) (cX.k rfl rfl (w _) (cX.k rfl rfl (w _) (cX.k rfl rfl (yf c7.nil rfl rfl rfl) (cX.k rfl rfl Wk.refl rfl)))))))))))) (uz.hl (l:=bL) ⟨⟨_,rfl,rfl,rfl⟩,⟨_,rfl,rfl,rfl⟩,⟨_,rfl,rfl,rfl⟩,⟨_,rfl,rfl,rfl⟩,⟨_,rfl,rfl,rfl⟩,⟨_,rfl,rfl,rfl⟩,trivial⟩)⟩)
section
set_option tactic.hygienic true
section
variable{T:bq}{n d:Nat}{σ σ':St}{k:Nat}{l:List AV}{os:List AO}
theorem vz(h:os[k]?=L6 o):Ep os (.obj k)=L6 (k,o):=congrArg (Nk _) h
theorem Az(h:σ.obs[k]?=L6 (.lst l))(hl:l.length<=1000):(aC T (n+1)).cal d (.val (.builtin "list.append")) [.obj k,v] σ=L6 (.non,{σ with obs:=σ.obs.set k (.lst (l++[v]))}):=by
 refine(?_:(r9 T σ.obs (.obj k) v).map (Iz σ)=_);have e:r9 T σ.obs (.obj k) v=L6 (.non,σ.obs.set k (.lst (l++[v]))):=by
  refine(?_:(Ep σ.obs (.obj k)).bind _=_);refine ac (vz h)<|(?_:(if l.length<=1000 then L6 (AV.non,AO.lst (l++[v])) else L9).map _=_)
  refine ac (if_pos hl) ?_;rfl
 refine ac e ?_;rfl
theorem Ay(h:σ.obs[k]?=L6 (.lst l))(hl:l.length+m.length<=1000):(aC T (n+1)).cal d (.val (.builtin "list.extend")) [.obj k,.pv (.seq L7 m)] σ=L6 (.non,{σ with obs:=σ.obs.set k (.lst (l++m.map ofP))}):=by
 refine(?_:(r7 T σ.obs (.obj k) (.pv (.seq L7 m))).map (Iz σ)=_);have e:r7 T σ.obs (.obj k) (.pv (.seq L7 m))=L6 (.non,σ.obs.set k (.lst (l++m.map ofP))):=by
  refine(?_:(Ep σ.obs (.obj k)).bind _=_);refine ac (vz h)<|(?_:(if l.length+m.length<=1000 then L6 (AV.non,AO.lst (l++m.map ofP)) else L9).map _=_)
  refine ac (if_pos hl) ?_;rfl
 refine ac e ?_;rfl
end
noncomputable def dV(ts:List (List UInt8))(G:cF)(e:List UInt8->Bool)(L:mj):List AO:=.dic (Dt 1 ts)::ts.map (yG G e L)
noncomputable def uD:List (List (List UInt8)):=[[tR,tP,tO],[tO]]
noncomputable def tX(N:Nat):List (Nat×AV):=[(132,.obj 0),(122,.obj N)]
section
variable(n d:Nat)(ph:Bool)(G:cF)(e:List UInt8->Bool)(L:mj)(F:List AV)(r:BR)(v1 v2 v3 v4 v5:AV)
noncomputable def oV(ts:List (List UInt8)):List AO:=dV ts G e L++[.lst F]
noncomputable def pV(ts:List (List UInt8))(t:List UInt8):List AO:=oV G e L F ts++[.cel (L6 (.byt t)),.cel (L6 (.obj 0))]
noncomputable def lV(ts:List (List UInt8)):List (Nat×AV):=[(100,.obj (ts.length+2)),(132,.obj (ts.length+3))]
theorem Lw:uD.map (λ ts=>ts.map λ t=>(aC aM (n+10)).ev (d+14) (xB (sX (sN fX 0))) ⟨lV ts,pV G e L F ts t,ph⟩)=mp (λ ts=>mp (λ t=>L6 (kq (bi ((L t).map (·.1))),⟨lV ts,pV G e L F ts t,ph⟩)) ts) uD:=by kernel_rfl
theorem Lv:uD.map (λ ts=>ts.map λ t=>br.map λ w=>(aC aM (n+10)).ev (d+14) (xA (sX (sN fX 0))) ⟨lV ts++[(80,.byt w)],pV (uG t w (L6 r) G) e L F ts t,ph⟩)=mp (λ ts=>mp (λ t=>mp (λ w=>L6 (.pv (dI w r),⟨lV ts++[(80,.byt w)],pV (uG t w (L6 r) G) e L F ts t,ph⟩)) br) ts) uD:=by kernel_rfl
end
end
section
set_option tactic.hygienic true
section
variable{T:bq}{n d:Nat}{ph:Bool}{M:aS}{G:cF}{e:List UInt8->Bool}{L:mj}{F:List AV}{t w:List UInt8}{ts:List (List UInt8)}{os:List AO}{N:Nat}
theorem Cz(hs:ts∈uD)(ht:t∈ts):t∈aE:=by
 have:(uD.all λ ts=>ts.all λ t=>decide (t∈aE))=L7:=by decide +kernel
 exact of_decide_eq_true (Mq.mp (Mq.mp this ts hs) t ht)
theorem Hg(g:Gd M G e L)(hs:ts∈uD)(ht:t∈ts)(hl:(aG M t).length<=7)(hF:F.all (gG (ts.length+2))=L7):(aC aM (n+20)).cal 19 (.val (.ref 802)) [.obj 0,.byt t] ⟨loc,oV G e L F ts,ph⟩=L6 (gf M t,⟨loc,oV G e L F ts,ph⟩):=by
 have r:(aC aM (n+19)).exs 18 fX ⟨lV ts,pV G e L F ts t,ph⟩=L6 (.ret (gf M t),⟨lV ts,pV G e L F ts t,ph⟩):=dD (cL (nh (n:=n+17) (l:=ig M t) (g:=.byt) (h:=λ w=>dI w (hB (aG M t) w)) ((am (am (Lw (n+7) 4 ph G e L F) ts hs) t ht).trans (by refine ac g.keys ?_;rfl)) (fk g hl) λ x hx=>by
  refine cM (g.mem hx) λ r h1 h2 h3 _=>?_;have h:=am (am (am (Lv (n+7) 4 ph G e L F r) ts hs) t ht) x h2;rw[jG h1] at h;exact⟨_,rfl,h3▸h⟩))
 have ln:(oV G e L F ts).length=ts.length+2:=by
  refine(?_:((_::ts.map _)++[_]).length=_);refine ac Mf (ac MR (ac (Md _) ?_));rfl
 have lw:mz (oV G e L F ts).length (gf M t) (pV G e L F ts t)=oV G e L F ts:=by
  have tk:(pV G e L F ts t).take (oV G e L F ts).length=oV G e L F ts:=NH rfl;refine(if_pos ?_).trans tk;refine ac tk (ac ln ?_);refine(?_:(L7&&((_::ts.map _)++[AO.lst F]).all _)=L7);refine ac NI ?_;have h1:(dV ts G e L).all (eL (ts.length+2))=L7:=by
   rcases Mj.mp hs with rfl|hs
   ·rfl
   ·refine ac (Ma.mp hs) ?_;rfl
  refine(?_:(L7&&((dV ts G e L).all _&&(F.all _&&L7)))=L7);refine ac h1 (ac hF ?_);rfl
 have hr:run (aC aM (n+19)) 18 wQ [.obj 0,.byt t] (oV G e L F ts) ph=L6 (.ret (gf M t),⟨lV ts,pV G e L F ts t,ph⟩):=by
  refine bP r<|(?_:(aC aM (n+19)).exs 18 fX ⟨[(100,.obj (oV G e L F ts).length),(132,.obj ((oV G e L F ts).length+1))],_,ph⟩=_)
  refine ac ln ?_;rfl
 refine(et (n:=n+19) (d:=18) (fd:=wQ) (by kernel_rfl) (by kernel_rfl) ?_ (by kernel_rfl) (by kernel_rfl) hr).trans ?_
 ·kernel_rfl
 ·refine(?_:L6 (gf M t,(⟨loc,mz (oV G e L F ts).length (gf M t) (pV G e L F ts t),ph⟩:St))=_);exact ac lw rfl
end
end
noncomputable def FU(N:Nat)(t:AV):List (Nat×AV):=tX N++[(100,t)]
noncomputable def FR(N:Nat)(t v1 v2 v3 v4 v5:AV):List (Nat×AV):=FU N t++[(80,v1),(74,v2),(179,v3),(180,v4),(182,v5)]
noncomputable def fO:S:=sN me 1
noncomputable def fI:S:=sN (sB fO) 0
noncomputable def uK:X->List X
 | .meth _ _ _ l _=>l
 | _=>[]
noncomputable def LO(r:BR):List UInt8:=[98,105,110,100,45,107,101,121]++(if r.rep then [32,45,114] else [])++(if r.note.isEmpty then [] else [32,45,78,32]++r.note)
noncomputable def oG(N:Nat)(t:AV)(w:List UInt8)(r:BR):List (Nat×AV):=FR N t (.byt w) (.byt r.told) (.boo r.rep) (.byt r.note) (.byt (LO r))
section
variable(n N:Nat)(ph:Bool)(t v1 v2 v3 v4 v5:AV)(os:List AO)
theorem la:br.map (λ w=>(pX w).map λ r=>[FU N t,FR N t v1 v2 v3 v4 v5].map λ loc=>(put aM (sT fI) (.pv (dI w r)) ⟨loc,os,ph⟩).bind λ σ=>bv aM (aC aM (n+20)) 19 (sN (sB fI) 0) σ)=mp (λ w=>mp (λ r=>mp (λ loc=>L6 (.nxt,⟨oG N t w r,os,ph⟩)) [FU N t,FR N t v1 v2 v3 v4 v5]) (pX w)) br:=by kernel_rfl
theorem lb:aE.map (λ t=>br.map λ w=>(pX w).map λ r=>pg ((aC aM (n+19)).ev 19) (uK (sX (sN (sB fI) 1))) ⟨oG N (.byt t) w r,os,ph⟩)=mp (λ t=>mp (λ w=>mp (λ r=>L6 ([.byt (dN t w (cY r))],⟨oG N (.byt t) w r,os,ph⟩)) (pX w)) br) aE:=by kernel_rfl
end
section
variable{n d N:Nat}{ph:Bool}{M:aS}{G:cF}{e:List UInt8->Bool}{L:mj}{F:List AV}{t w:List UInt8}{ts:List (List UInt8)}{os:List AO}{r:BR}{loc:List (Nat×AV)}
theorem vF(ht:t∈aE)(hw:w∈br)(hr:r∈pX w)(hF:os[N]?=L6 (.lst F))(hl:F.length<=1000)(h:loc∈[FU N (.byt t),FR N (.byt t) v1 v2 v3 v4 v5]) :
  turn aM (sT fI) ((aC aM (n+22)).exs 19 (sB fI)) (.pv (dI w r)) ⟨loc,os,ph⟩=L6 (.nxt,⟨oG N (.byt t) w r,os.set N (.lst (F++[.byt (dN t w (cY r))])),ph⟩):=by
 have a:=am (am (am (la (n+1) N ph (.byt t) v1 v2 v3 v4 v5 os) w hw) r hr) loc h;have b:=am (am (am (lb n N ph os) t ht) w hw) r hr;refine ag (b4 a) λ σ h1 h2=>(?_:(put aM _ _ _).bind _=_)
 refine ac h1<|a9 (n:=n+21) h2 (a9 (n:=n+20) (wU (v:=.non) (σ':=⟨oG N (.byt t) w r,os.set N (.lst (F++[.byt (dN t w (cY r))])),ph⟩) ?_) rfl);exact ng (n:=n+19) (v:=.obj N) (fv:=.val (.builtin "list.append")) (σ':=⟨oG N (.byt t) w r,os,ph⟩) (σ'':=⟨oG N (.byt t) w r,os,ph⟩) (by kernel_rfl) (by refine(?_:(os[N]?).bind _=_);refine ac hF ?_;rfl) b (Az (n:=n+18) hF hl)
theorem tE{t:FT}{I:List AV->St->Prop}:∀{l:List α} {F:List AV} {σ:St},(∀x∈l,∀F σ,F.length<=1000->I F σ->∃σ',turn T t E (g x) σ=L6 (.nxt,σ')/\I (F++[ln x]) σ')->F.length+l.length<=1000->I F σ->∃σ',eF t E T (l.map g) σ=L6 (.nxt,σ')/\I (F++l.map ln) σ':=by intro l_;induction l_ with
 | nil=>intro F σ _ _ h;exact⟨σ,rfl,(Mg F).symm▸h⟩
 | cons x l P9=>
  intro F σ H hl h;refine ag (H x (.head _) F σ (by simp only[MR] at hl;lia) h) λ σ₁ e h₁=>ag (P9 (λ y hy=>H y (.tail _ hy)) (by simp only[MR,Mf,OO] at hl ⊢;lia) h₁) λ Qs P8 Qa=>ag (b4 e) λ Qg e3 e4=>?_;rw[Mk] at Qa;refine⟨Qs,?_,Qa⟩;refine(?_:(put T t (g x) σ).bind _=_);refine ac e3<|(?_:(E Qg).bind _=_)
  refine ac e4 ?_;exact P8
inductive lx(N:Nat)(ts:List (List UInt8))(G:cF)(e:List UInt8->Bool)(L:mj)(ph:Bool)(P:List (Nat×AV)->Prop)(F:List AV)(σ:St):Prop
 | mk (loc:List (Nat×AV)) (h:P loc) (b:∀v∈F,∃x,v=.byt x) (e:σ=⟨loc,oV G e L F ts,ph⟩)
noncomputable def GH(N:Nat)(t:AV)(loc:List (Nat×AV)):Prop:=∃v1 v2 v3 v4 v5,loc∈[FU N t,FR N t v1 v2 v3 v4 v5]
theorem lx.el{P':Prop}(hh:lx N ts G e L ph P F σ)(kk:∀(loc:List (Nat×AV)) (h:P loc) (b:∀v∈F,∃x,v=.byt x) (e:σ=⟨loc,oV G e L F ts,ph⟩),P'):P':=by
 obtain⟨loc,h,b,e⟩:=hh;exact kk loc h b e
theorem Bv(hs:ts∈uD):(oV G e L F ts)[ts.length+1]?=L6 (.lst F)/\∀F',(oV G e L F ts).set (ts.length+1) (.lst F')=oV G e L F' ts:=by
 rcases Mj.mp hs with rfl|hs
 ·exact⟨rfl,λ zz=>rfl⟩
 ·refine ac (Ma.mp hs) ?_;exact⟨rfl,λ zz=>rfl⟩
noncomputable def Dq(M:aS)(t w:List UInt8):AV:=.byt (dN t w (cY (hB (aG M t) w)))
theorem CL(b:∀v∈F,∃x,v=.byt x):∀v∈F++[.byt x],∃x,v=.byt x:=λ v hv=>(No.mp hv).elim (b v) λ h=>⟨x,Ma.mp h⟩
theorem qm(g:Gd M G e L)(hs:ts∈uD)(ht:t∈ts)(hl:(aG M t).length<=7)(hF:F.length<=900)(I:lx (ts.length+1) ts G e L ph (GH (ts.length+1) (.byt t)) F σ) :
  ∃σ',bv aM (aC aM (n+40)) 19 fI σ=L6 (.nxt,σ')/\lx (ts.length+1) ts G e L ph (GH (ts.length+1) (.byt t)) (F++(ig M t).map (Dq M t)) σ':=by
 have I':=I;(refine lx.el I λ loc P2 hb Qb=>?_;clear I;obtain⟨v1,v2,v3,v4,v5,QN⟩:=P2;obtain rfl:=Qb);have sl:(ig M t).length<=7:=by
  rw[ig,tG,(bH _).length_eq,Md];exact hl
 obtain⟨σ',e1,J⟩:=tE (T:=aM) (t:=sT fI) (E:=(aC aM (n+40)).exs 19 (sB fI)) (g:=λ w=>.pv (dI w (hB (aG M t) w))) (ln:=Dq M t) (l:=ig M t) (I:=lx (ts.length+1) ts G e L ph (GH (ts.length+1) (.byt t))) (λ w hw F σ hl I=>by
  (refine lx.el I λ loc P2 hb Qb=>?_;clear I;obtain⟨v1,v2,v3,v4,v5,QN⟩:=P2;obtain rfl:=Qb);refine cM (g.mem hw) λ r h1 h2 h3 zz=>?_;have hr:r∈pX w:=(g.at_ h1).2;have:=vF (n:=n+18) (ph:=ph) (Cz hs ht) h2 hr (Bv (G:=G) (e:=e) (L:=L) (F:=F) hs).1 hl QN;rw[(Bv hs).2] at this;refine⟨_,h3▸this,oG (ts.length+1) (.byt t) w r,(bM _ _ _ _ _ (.tail _ (.head _))),CL hb,?_⟩;refine(?_:_=(⟨_,oV G e L (F++[.byt (dN t w (cY (hB (aG M t) w)))]) ts,ph⟩:St));exact ac h3 rfl) (by lia) I'
 refine⟨σ',?_,J⟩;refine(mX (n:=n+40) (v:=gf M t) (σ':=⟨loc,oV G e L F ts,ph⟩) (vs:=(ig M t).map λ w=>.pv (dI w (hB (aG M t) w))) (os:=oV G e L F ts) ?_ ?_ e1)
 ·refine ee (n:=n+39) (fv:=.val (.ref 802)) (vs:=[.obj 0,.byt t]) (σ':=⟨loc,oV G e L F ts,ph⟩) (σ'':=⟨loc,oV G e L F ts,ph⟩) (by kernel_rfl) ?_ (Hg (n:=n+19) g hs ht hl (Mq.mpr λ v hv=>by(refine aA (hb v hv) λ x P2=>?_;obtain rfl:=P2);rfl));rcases Mj.mp QN with rfl|QN
  ·kernel_rfl
  ·refine ac (Ma.mp QN) ?_;kernel_rfl
 ·refine(?_:L6 ((OB _ (ig M t)).map ofP,_)=_);refine ac MH ?_;rfl
end
section
variable{n d:Nat}{ph:Bool}{M:aS}{G:cF}{e:List UInt8->Bool}{L:mj}{F:List AV}{t w:List UInt8}{ts:List (List UInt8)}{os:List AO}
noncomputable def Jt(N:Nat)(loc:List (Nat×AV)):Prop:=loc=tX N\/∃t,GH N t loc
theorem Cn(h:Jt N loc):GH N t' (upd 100 t' loc):=by
 rcases h with rfl|⟨t,v1,v2,v3,v4,v5,h⟩
 ·exact(bM .non .non .non .non .non (.head _))
 ·rcases Mj.mp h with rfl|h
  ·exact(bM v1 v2 v3 v4 v5 (.head _))
  ·refine ac (Ma.mp h) ?_;exact(bM v1 v2 v3 v4 v5 (.tail _ (.head _)))
noncomputable def gb(M:aS)(l:List (List UInt8)):List AV:=l.flatMap λ t=>(ig M t).map (Dq M t)
theorem vu(hl:(aG M t).length<=7):(ig M t).length<=7:=by rw[ig,tG,(bH _).length_eq,Md];exact hl
theorem outer(g:Gd M G e L)(hs:ts∈uD)(hl:∀t,(aG M t).length<=7):∀{l:List (List UInt8)} {F:List AV} {σ:St},(∀t∈l,t∈ts)->F.length+7*l.length<=900->lx (ts.length+1) ts G e L ph (Jt (ts.length+1)) F σ->
  ∃σ',eF (sT fO) ((aC aM (n+42)).exs 19 (sB fO)) aM (l.map .byt) σ=L6 (.nxt,σ')/\lx (ts.length+1) ts G e L ph (Jt (ts.length+1)) (F++gb M l) σ':=by intro l_;induction l_ with
 | nil=>intro F σ _ _ h;exact⟨σ,rfl,(Mg F).symm▸h⟩
 | cons t l P9=>
  intro F σ ht hF h;(refine lx.el h λ loc hP hb Qb=>?_;clear h;obtain rfl:=Qb);rw[MR] at hF;(refine ag (qm (n:=n+1) g hs (ht t (.head _)) (hl t) (F:=F) (σ:=⟨upd 100 (.byt t) loc,oV G e L F ts,ph⟩) (by lia) ⟨_,Cn hP,hb,rfl⟩) λ σ₁ e1 PZ=>?_;obtain⟨Qd,h1,h2,h3⟩:=PZ);have hlen:=vu (hl t);refine ag (P9 (F:=F++(ig M t).map (Dq M t)) (λ t h=>ht t (.tail _ h)) (by refine ac Mf (ac (Md _) ?_);lia) ⟨Qd,.inr ⟨_,h1⟩,h2,h3⟩) λ Qs e2 J=>?_;rw[Mk] at J;refine⟨Qs,?_,J⟩;refine(?_:(L6 _).bind _=_);refine(?_:((aC aM (n+42)).exs 19 (sB fO) ⟨upd 100 (.byt t) loc,oV G e L F ts,ph⟩).bind _=_);refine ac (show(aC aM (n+42)).exs 19 (sB fO) ⟨upd 100 (.byt t) loc,oV G e L F ts,ph⟩=L6 (.nxt,σ₁) from a9 (n:=n+41) e1 rfl)<|e2
theorem Jk(g:Gd M G e L)(hs:ts∈uD)(hl:∀t,(aG M t).length<=7):∃loc,(aC aM 60).exs 19 me ⟨[(132,.obj 0)],dV ts G e L,ph⟩=L6 (.ret (.obj (ts.length+1)),⟨loc,oV G e L (gb M (bi ts)) ts,ph⟩):=by
 have s0:bv aM (aC aM 59) 19 (sN me 0) ⟨[(132,.obj 0)],dV ts G e L,ph⟩=L6 (.nxt,⟨tX (ts.length+1),oV G e L [] ts,ph⟩):=by
  rcases Mj.mp hs with rfl|hs
  ·kernel_rfl
  ·refine ac (Ma.mp hs) ?_;kernel_rfl
 have hi:(aC aM 58).ev 19 (sX fO) ⟨tX (ts.length+1),oV G e L [] ts,ph⟩=L6 (kq (bi ts),⟨tX (ts.length+1),oV G e L [] ts,ph⟩):=by
  rcases Mj.mp hs with rfl|hs
  ·kernel_rfl
  ·refine ac (Ma.mp hs) ?_;kernel_rfl
 have l3:ts.length<=3:=by
  rcases Mj.mp hs with rfl|hs
  ·decide
  ·refine ac (Ma.mp hs) ?_;decide
 (refine ag (outer (n:=16) (ph:=ph) g hs hl (l:=bi ts) (F:=[]) (σ:=⟨tX (ts.length+1),oV G e L [] ts,ph⟩) (λ t h=>(bH _).mem_iff.mp h) (by refine ac ((bH _).length_eq) ?_;refine(?_:0+_<=_);lia) ⟨_,.inl rfl,λ zz h=>(by cases h),rfl⟩) λ σ' e1 PZ=>?_;obtain⟨loc,hP,hb,e2⟩:=PZ);subst e2;have hr:loc.lookup 122=L6 (.obj (ts.length+1)):=by
  rcases hP with rfl|⟨t,v1,v2,v3,v4,v5,h⟩
  ·rfl
  ·rcases Mj.mp h with rfl|h
   ·rfl
   ·refine ac (Ma.mp h) ?_;rfl
 refine⟨loc,a9 (n:=59) s0 (a9 (n:=58) (mX (n:=58) (vs:=(bi ts).map .byt) (os:=oV G e L [] ts) hi ?_ e1) (dD (n:=57) (cL ?_)))⟩
 ·refine(?_:L6 ((OB _ (bi ts)).map ofP,_)=_);refine ac MH ?_;rfl
 ·refine(?_:(loc.lookup 122).map _=_);refine ac hr ?_;rfl
end
section
variable{n d:Nat}{ph:Bool}{M:aS}{G:cF}{e:List UInt8->Bool}{L:mj}{F:List AV}{t w:List UInt8}{ts:List (List UInt8)}{os os₁:List AO}{a:Addr}{σ:St}{idx:List Nat}
theorem oS(g:Gd M (gM M) (eM M) (lM M)):gH t (lM M t)=(ig M t).map (Dq M t):=by
 unfold gH;refine ac (show bi ((lM M t).map (·.1))=ig M t from congrArg bi g.keys)<|List.map_congr_left λ w hw=>cM (g.mem hw) λ r h1 h2 h3 zz=>?_;unfold Dq;refine ac h3 (ac (show bC w (lM M t)=(bC w (aG M t)).map cY from jd) (ac (show bC w (aG M t)=L6 r from h1) ?_));rfl
theorem wi(ha:a=833)(hk:Hf aM 20 a vs σ=L9)(hf:aM.fns.lookup (a,vs.length)=L6 fd)(h:run (aC aM n) 19 fd vs σ.obs σ.ph=L6 (.ret (.obj σ.obs.length),σ₁))(ho:∃tl,σ₁.obs=σ.obs++.lst F::tl)(ho':σ₁.obs=σ.obs++[.lst F])(hp:σ₁.ph=σ.ph)(hR:ou a vs σ.obs=(.obj σ.obs.length,σ.obs++[.lst F])):(aC aM (n+1)).cal 20 (.val (.ref a)) vs σ=L6 (.obj σ.obs.length,{σ with obs:=σ.obs++[.lst F] }):=by
 have hm:aM.kp.contains a=L7:=by subst ha;kernel_rfl
 have hg:a∈zg:=by subst ha;decide
 cases hc:f6 a vs σ.obs σ.ph with
 | some r=>
  refine(fD (d:=0) hm hc).trans<|ac (show r=(.obj σ.obs.length,σ.obs++[.lst F]) from(sI (@GI _ _ (M0 _) _ _ ((if_pos hg).symm.trans hc)).2).symm.trans hR) rfl
 | none=>
  refine(et (d:=19) hm ?_ hk (by subst ha;kernel_rfl) hf h).trans ?_
  ·refine(?_:(less 20 20).bind (λ zz=>(f6 a vs σ.obs σ.ph).map _)=L9);refine ac hc ?_;rfl
  ·rw[show mz σ.obs.length (.obj σ.obs.length) σ₁.obs=σ₁.obs from if_neg λ h=>by
    have:=of_decide_eq_true (show decide (σ.obs.length<σ.obs.length)=L7 from(af h λ a zz=>a));exact NS _ this,ho',hp]
theorem qE(ha:a=833)(P:hH idx os os₁)(hv:vs.all (ik (qy idx))=L7)(hv':vs.map (b9 (jE idx))=vs')(hF:∀v∈F,∃x,v=.byt x)(hR:ou a vs os=(.obj os.length,os++[.lst F]))(h:∀loc,(aC aM (n+1)).cal 20 (.val (.ref a)) vs' ⟨loc,os₁,ph⟩=L6 (.obj os₁.length,⟨loc,os₁++[.lst F],ph⟩)):f6 a vs os ph=L6 (.obj os.length,os++[.lst F]):=by
 refine bP hR<|jc (by subst ha;decide) λ c d ρ σ s us C R eo eph x=>?_;obtain rfl:=eo;refine ac hR ?_;have z:=jF (n:=n+1) (k:=20) (tl:=[.lst F]) bc P hv (λ loc=>by refine ac hv' (ac eph ?_);exact h loc) C R x;rw[show b9 (gq idx σ.obs.length) (.obj os₁.length)=.obj σ.obs.length by
  refine(?_:AV.obj (gq _ _ _)=_);unfold gq;refine ac P.ln (ac (Oe (Mm _)) (ac (Nat.sub_self _) ?_));rfl,show [AO.lst F].map (dL (gq idx σ.obs.length))=[.lst F] by
  refine(?_:[AO.lst (F.map _)]=_);exact ac (show F.map (b9 (gq idx σ.obs.length))=F from(MT λ v hv=>by obtain⟨x,rfl⟩:=hF v hv;rfl).trans (Oh _)) rfl] at z
 exact z
theorem jR:∀(l:List (List UInt8)),∀v∈gb M l,∃x,v=.byt x:=λ l v hv=>by
 refine ag (M2.mp hv) λ t zz hv=>?_;(refine ag (Mu.mp hv) λ w zz PZ=>?_;obtain rfl:=PZ);exact⟨_,rfl⟩
noncomputable def GU:FD:=⟨[132],[],me,[]⟩
theorem DY:(dV ts G e L).length=ts.length+1:=congrArg (·+1) (Md _)
theorem Eb(g:Gd M (gM M) (eM M) (lM M))(hs:ts∈uD)(hl:∀t,(aG M t).length<=7)(loc:List (Nat×AV)):(aC aM 61).cal 20 (.val (.ref 833)) [.obj 0] ⟨loc,dV ts (gM M) (eM M) (lM M),ph⟩=L6 (.obj (dV ts (gM M) (eM M) (lM M)).length,⟨loc,dV ts (gM M) (eM M) (lM M)++[.lst (gb M (bi ts))],ph⟩):=by
 refine aA (Jk (ph:=ph) g hs hl) λ l h=>wi (n:=60) (fd:=GU) (σ₁:=⟨l,oV (gM M) (eM M) (lM M) (gb M (bi ts)) ts,ph⟩) (rfl) (by kernel_rfl) (by kernel_rfl) ?_ ⟨[],rfl⟩ rfl rfl ?_
 ·refine(?_:(aC aM 60).exs 19 me ⟨[(132,.obj 0)],dV ts _ _ _++[],ph⟩=_);refine ac (Mg _) (ac h ?_);refine(?_:L6 (Fl.ret _,_)=L6 (Fl.ret (.obj (dV ts _ _ _).length),_));exact ac DY rfl
 ·have:cz (dV ts (gM M) (eM M) (lM M)) 0=gb M (bi ts):=by
   have fm:∀l:List (List UInt8),(l.flatMap λ t=>gH t (lM M t))=gb M l:=λ l=>congrArg (λ f=>l.flatMap f) (funext λ t=>oS g);rw[← fm];rcases Mj.mp hs with rfl|hs
   ·kernel_rfl
   ·refine ac (Ma.mp hs) ?_;kernel_rfl
  refine(?_:(_,_++[AO.lst (cz _ 0)])=_);exact ac this rfl
end
theorem pi{os os':List AO}{ph:Bool}(hi:(aC T n).ev d it ⟨loc,os,ph⟩=L6 (.obj k,⟨loc,os,ph⟩))(ho:os[k]?=L6 o)(hf:frz T os (.obj k)=L6 (vs,os'))(hl:vs.length<=1000)(hu:os'.set k o=os)(H:∀v∈vs,∃Qd,put T t v ⟨dU fv loc,os',ph⟩=L6 ⟨Qd,os',ph⟩/\kN (aC T n) d cn ⟨Qd,os',ph⟩=L6 (L8,⟨Qd,os',ph⟩)):(aC T (n+1)).ev d (.lc e t it cn nms fv q) ⟨loc,os,ph⟩=L6 (.pv (.seq L7 []),⟨loc,os,ph⟩):=by
 refine aA (sv (T:=T) (t:=t) (base:=dU fv loc) (tst:=kN (aC T n) d cn) (run:=(aC T n).ev d e) (g:=id) (h:=λ _:AV=>.non) (c:=λ zz=>L8) (os:=os') (ph:=ph) (l:=vs) (loc:=loc) λ v hv=>by refine ag (H v hv) λ a h1 h2=>?_;exact⟨a,h1,h2,λ e=>nomatch e⟩) λ loc' L=>?_;have L2:=(congrArg (λ l=>sx T t (dU fv loc) (kN (aC T n) d cn) ((aC T n).ev d e) l ⟨loc,os',ph⟩) (Oh vs).symm).trans (L.trans (congrArg (λ l=>L6 (OB (λ _:AV=>AV.non) l,(⟨loc',os',ph⟩:St))) (List.filter_eq_nil_iff.mpr λ zz zz e=>ff e:vs.filter (λ zz=>L8)=[])));refine(?_:((aC T n).ev d it _).bind _=_);refine ac hi ?_;refine(?_:(frz T os (.obj k)).bind _=_);refine ac hf ?_;refine(?_:(if vs.length<=1000 then(sx T t (dU fv loc) _ _ vs ⟨loc,os',ph⟩).map (λ r=>mkS L7 r.1 ⟨loc,uY os r.2.obs (.obj k),r.2.ph⟩) else L9)=_);refine ac (if_pos hl) ?_;refine(congrArg (Nk _) L2).trans ?_;refine(?_:L6 (mkS L7 [] ⟨loc,(match os[k]? with|some o=>os'.set k o|none=>os'),ph⟩)=_);refine ac ho ?_;refine(?_:L6 (mkS L7 [] ⟨loc,os'.set k o,ph⟩)=_);refine ac hu ?_;rfl
noncomputable def lX(i:Nat):X:=xA (sX (sN bh i))
section
variable(n:Nat)(M:aS)(p q:Option (List UInt8))(wr:Option AV)(vW vE:AV)(xx:Nat->AO)
theorem Ja:[6,7].map (λ i=>(cQ xx).map λ X=>((aC aM (n+10)).ev 40 (xB (sX (sN bh i))) ⟨bL,bu (lC wr vW vE) M p q X,L8⟩).bind λ r=>(eO aM r.2.obs .NotEq (.pv (.seq L7 [])) r.1).map λ c=>(c,r.2))=mp (λ i=>mp (λ X=>L6 (L8,⟨bL,bu (lC wr vW vE) M p q X++[.lst []],L8⟩)) (cQ xx)) [6,7]:=by kernel_rfl
end
section
variable{n i:Nat}{M:aS}{p q:Option (List UInt8)}{wr:Option AV}{vW vE:AV}{xx:Nat->AO}{X:List AO}
theorem vm(hi:i∈[6,7])(hX:X∈cQ xx)(h:(aC aM (n+10)).ev 40 (lX i) ⟨bL,bu (lC wr vW vE) M p q X,L8⟩=L6 (.pv (.seq L7 []),⟨bL,bu (lC wr vW vE) M p q X,L8⟩)):bv aM (aC aM (n+11)) 40 (sN bh i) ⟨bL,bu (lC wr vW vE) M p q X,L8⟩=L6 (.nxt,⟨bL,bu (lC wr vW vE) M p q X++[.lst []],L8⟩):=by
 have z:=am (am (Ja n M p q wr vW vE xx) i hi) X hX;have t:EC aM (aC aM (n+10)) 40 .NotEq (lX i) (xB (sX (sN bh i))) ⟨bL,bu (lC wr vW vE) M p q X,L8⟩=L6 (L8,⟨bL,bu (lC wr vW vE) M p q X++[.lst []],L8⟩):=by
  unfold EC;refine ac h ?_;exact z
 rcases Mj.mp hi with rfl|hi
 ·exact cV (n:=n+10) t
 ·rw[Ma.mp hi] at t ⊢;exact cV (n:=n+10) t
theorem F0:hH [10,6,7,8,9] ((bu (lC wr vW vE) M p q X).set 6 (uj L7 7)) (Wv L7 M p q (gM M) (eM M) (lM M)):=⟨by decide,rfl,λ k i h=>by
 match k,h with
 | 0,h=>exact sI h▸⟨_,rfl,rfl,rfl⟩
 | 1,h=>exact sI h▸⟨_,rfl,rfl,rfl⟩
 | 2,h=>exact sI h▸⟨_,rfl,rfl,rfl⟩
 | 3,h=>exact sI h▸⟨_,rfl,rfl,rfl⟩
 | 4,h=>exact sI h▸⟨_,rfl,rfl,rfl⟩⟩
theorem F5:hH [15,11,12,13,14] ((bu (lC wr vW vE) M p q (b6 (L6 (m,p',q')))).set 11 (uj L7 12)) (Wv L7 m p' q' (gM m) (eM m) (lM m)):=⟨by decide,rfl,λ k i h=>by
 match k,h with
 | 0,h=>exact sI h▸⟨_,rfl,rfl,rfl⟩
 | 1,h=>exact sI h▸⟨_,rfl,rfl,rfl⟩
 | 2,h=>exact sI h▸⟨_,rfl,rfl,rfl⟩
 | 3,h=>exact sI h▸⟨_,rfl,rfl,rfl⟩
 | 4,h=>exact sI h▸⟨_,rfl,rfl,rfl⟩⟩
noncomputable def IZ:List AV:=[.byt tR,.byt tP,.byt tO]
theorem A9(h:v∈IZ):∃t∈aE,v=.byt t:=by
 rcases Mj.mp h with rfl|h
 ·exact⟨tR,by decide,rfl⟩
 ·rcases Mj.mp h with rfl|h
  ·exact⟨tP,by decide,rfl⟩
  ·exact⟨tO,by decide,Ma.mp h⟩
theorem l7(ok:c7 M):(aC aM (n+20)).ev 40 (lX 7) ⟨bL,bu (lC wr (.obj 11) vE) M p q X,L8⟩=L6 (.pv (.seq L7 []),⟨bL,bu (lC wr (.obj 11) vE) M p q X,L8⟩):=
 pi (n:=n+19) (k:=6) (o:=uj L8 7) (vs:=IZ) (os':=(bu (lC wr (.obj 11) vE) M p q X).set 6 (uj L7 7)) (by kernel_rfl) rfl rfl (by decide) rfl λ v hv=>by
  (refine ag (A9 hv) λ t ht PZ=>?_;obtain rfl:=PZ);exact⟨[(129,.obj 1),(132,.obj 4),(100,.byt t)],rfl,eS (n:=n+16) (fv:=.val (.ref 814)) (vs:=[.obj 10,.obj 6,.byt t]) (by kernel_rfl) (by kernel_rfl) (jb (n:=n+15) (by kernel_rfl) (EA F0 ok.gd ht (ok.len t)))⟩
theorem l6(fi:uC sh M p q):(aC aM (n+20)).ev 40 (lX 6) (gX wr sh M p q bL)=L6 (.pv (.seq L7 []),gX wr sh M p q bL):=by
 cases sh with
 | none=>kernel_rfl
 | some m=>
  obtain⟨m,p',q'⟩:=m;have ok:=fi.hs _ rfl;exact pi (n:=n+19) (k:=11) (o:=uj L8 12) (vs:=IZ) (os':=(bu (lC wr (.obj 11) (.obj 15)) M p q (b6 (L6 (m,p',q')))).set 11 (uj L7 12)) (by kernel_rfl) rfl rfl (by decide) rfl λ v hv=>by
   (refine ag (A9 hv) λ t ht PZ=>?_;obtain rfl:=PZ);exact⟨[(195,.obj 2),(194,.obj 3),(100,.byt t)],rfl,eS (n:=n+16) (fv:=.val (.ref 814)) (vs:=[.obj 15,.obj 11,.byt t]) (by kernel_rfl) (by kernel_rfl) (jb (n:=n+15) (by kernel_rfl) (EA F5 ok.gd ht (ok.len t)))⟩
end
noncomputable def Jp:List (List UInt8):=aE++(iw++(qC.tail++br))
theorem LF(loc:List (Nat×AV))(ph:Bool):Jp.map (λ t=>(aC pU 300).cal 8 (.val (.ref 596)) [.byt t] ⟨loc,[],ph⟩)=mp (λ t=>L6 (.byt t,⟨loc,[],ph⟩)) Jp:=by kernel_rfl
noncomputable def p3(a:Addr)(vs:List AV):Option (AV ⊕ AO):=if a=596 then(BM vs).bind λ w=>if w∈Jp then L6 (.inl (.byt w)) else L9 else p2 a vs
theorem F8(a:Addr)(vs:List AV)(r:AV ⊕ AO)(h:p3 a vs=L6 r):hG a vs r:=by
 by_cases e:a=596
 ·refine ag (b4 ((if_pos e).symm.trans h)) λ w h1 h4=>aD (ji h4) λ h2 h3=>?_;obtain rfl:=sI h3;refine ac e (ac (iB h1) ?_);exact qw (n:=300) dG rfl rfl λ loc ph=>am (LF loc ph) w h2
 ·exact Bi a vs r ((if_neg e).symm.trans h)
noncomputable def KH:bq:=tb p3 k1 (λ t=>iw.contains t) (λ zz zz zz zz=>L9) λ zz zz zz=>L9
theorem CA:be KH:=ot F8 BB (λ t h=>xz (ML.mp h)) (λ zz zz zz zz zz e=>nn e) λ zz zz zz zz e=>nn e
noncomputable def kO:S:=sN mf 1
noncomputable def kI:S:=sN (sB kO) 0
noncomputable def kE:X:=sX (sN (sB kI) 0)
noncomputable def kL:X:=(uK kE).getD 0 x0
noncomputable def Gc(o:Option (List UInt8)):AV:=o.elim .non .byt
theorem oc(loc:List (Nat×AV)):aE.map (λ t=>br.map λ w=>(pX w).map λ r=>(aC KH 300).cal 20 (.val (.ref 652)) [.pv (.bnd r),.byt t] ⟨loc,[],L7⟩)=mp (λ t=>mp (λ w=>mp (λ r=>L6 (.byt (dN t w (cY r)),⟨loc,[],L7⟩)) (pX w)) br) aE:=by kernel_rfl
theorem Kz{os:List AO}(ht:t∈aE)(hw:w∈br)(hr:r∈pX w):f6 652 [.pv (.bnd r),.byt t] os L7=L6 (.byt (dN t w (cY r)),os):=by
 have e:ou 652 [.pv (.bnd r),.byt t] os=(.byt (dN t w (cY r)),os):=by refine bP (jn hr) ?_;rfl
 refine bP e<|jc (by decide) λ c d ρ σ s us C R eo eph x=>?_;obtain rfl:=eo;refine ac e<|ij (n:=300) (k:=20) CA lK rfl rfl (λ loc=>eph▸am (am (am (oc loc) t ht) w hw) r hr) C R x
section
set_option tactic.hygienic true
noncomputable def Dw(N:Nat)(o:Option (List UInt8)):List (Nat×AV):=[(100,.obj N),(129,.obj 10),(130,Gc o),(122,.obj (N+1))]
noncomputable def qi(a:Nat->AO):List (List AO):=[[a 0,a 1,a 2],c5 a]
noncomputable def ez(C:List AO)(M:aS)(p q:Option (List UInt8))(X tl:List AO):List AO:=bu C M p q X++tl
section
variable(n:Nat)(M:aS)(p q:Option (List UInt8))(F:List AV)(aa xx yy:Nat->AO)
noncomputable def jI(X tl:List AO)(t:Option AV)(F:List AV):List AO:=ez (c5 aa) M p q X tl++[.cel t,.lst F]
noncomputable def dv(X tl:List AO)(o:Option (List UInt8))(t:Option AV)(F:List AV):St:=⟨Dw (ez (c5 aa) M p q X tl).length o,jI M p q aa X tl t F,L7⟩
theorem kr(o:Option (List UInt8)):(cQ xx).map (λ X=>(qi yy).map λ tl=>aE.map λ t=>(aC aM (n+20)).ev 39 (xB kL) (dv M p q aa X tl o (L6 (.byt t)) F))=mp (λ X=>mp (λ tl=>mp (λ t=>L6 (.pv (.seq L7 (qp (aG M t))),dv M p q aa X tl o (L6 (.byt t)) F)) aE) (qi yy)) (cQ xx):=by kernel_rfl
noncomputable def FM(o:Option (List UInt8))(t:List UInt8):Bool:=o.elim L7 λ x=>decide (x=t)
theorem ks:(cQ xx).map (λ X=>(qi yy).map λ tl=>aE.map λ t=>[L9,L6 tO].map λ o=>(aC aM (n+20)).tst 39 (sX kI) (dv M p q aa X tl o (L6 (.byt t)) F))=mp (λ X=>mp (λ tl=>mp (λ t=>mp (λ o=>L6 (FM o t,dv M p q aa X tl o (L6 (.byt t)) F)) [L9,L6 tO]) aE) (qi yy)) (cQ xx):=by kernel_rfl
theorem kn(o t:Option (List UInt8)):(cQ xx).map (λ X=>(qi yy).map λ tl=>((aC aM (n+20)).ev 39 (sX kO) (dv M p q aa X tl o L9 []),bv aM (aC aM (n+20)) 39 (sN mf 0) ⟨(Dw (ez (c5 aa) M p q X tl).length o).take 3,ez (c5 aa) M p q X tl++[.cel L9],L7⟩))=mp (λ X=>mp (λ tl=>(L6 (kq (aE.filter λ t=>(nW M p q (gM M) (eM M)).presK t),dv M p q aa X tl o L9 []),L6 (.nxt,dv M p q aa X tl o L9 []))) (qi yy)) (cQ xx):=by kernel_rfl
theorem LM(o:Option (List UInt8))(t:Option AV)(v:AV):(cQ xx).map (λ X=>(qi yy).map λ tl=>put aM (sT kO) v (dv M p q aa X tl o t F))=mp (λ X=>mp (λ tl=>L6 (dv M p q aa X tl o (L6 v) F)) (qi yy)) (cQ xx):=by kernel_rfl
theorem ke(t:AV)(v:PV):(cQ xx).map (λ X=>(qi yy).map λ tl=>pg ((aC aM (n+20)).ev 39) (uK (xA kL)) ⟨[(100,.obj (ez (c5 aa) M p q X tl).length),(133,.pv v)],jI M p q aa X tl (L6 t) F,L7⟩)=mp (λ X=>mp (λ tl=>L6 ([t],⟨[(100,.obj (ez (c5 aa) M p q X tl).length),(133,.pv v)],jI M p q aa X tl (L6 t) F,L7⟩)) (qi yy)) (cQ xx):=by kernel_rfl
end
end
theorem va:∀{B:List AO},(B++[a,b])[B.length+1]?=L6 b
 | []=>rfl
 | _::B=>va (B:=B)
theorem u9:∀{B:List AO},(B++[a,b]).set (B.length+1) b'=B++[a,b']
 | []=>rfl
 | x::B=>congrArg (x::·) (u9 (B:=B))
noncomputable def kY(M:aS)(o:Option (List UInt8))(t:List UInt8):List AV:=if FM o t then(ig M t).map (Dq M t) else []
section
variable{n:Nat}{M:aS}{p q o:Option (List UInt8)}{F:List AV}{aa xx yy:Nat->AO}{X tl:List AO}{t:List UInt8}
theorem DB(ok:c7 M)(hX:X∈cQ xx)(htl:tl∈qi yy)(ht:t∈aE):(aC aM (n+40)).ev 39 kL (dv M p q aa X tl o (L6 (.byt t)) F)=L6 (.pv (.seq L7 ((ig M t).map λ w=>.byt (dN t w (cY (hB (aG M t) w))))),dv M p q aa X tl o (L6 (.byt t)) F):=
 nh (n:=n+39) (l:=ig M t) (g:=λ w=>.bnd (hB (aG M t) w)) (h:=λ w=>.byt (dN t w (cY (hB (aG M t) w)))) (am (am (am (kr (n+19) M p q F aa xx yy o) X hX) tl htl) t ht) (fk ok.gd (ok.len t)) λ w hw=>by
  refine cM (ok.gd.mem hw) λ r h1 h2 h3 h4=>?_;have hr:r∈pX w:=(ok.gd.at_ h1).2;refine ac h3<|⟨[(100,.obj (ez (c5 aa) M p q X tl).length),(133,.pv (.bnd r))],rfl,ng (n:=n+38) (v:=.pv (.bnd r)) (fv:=.val (.ref 652)) (vs:=[.byt t]) (σ':=⟨[(100,.obj (ez (c5 aa) M p q X tl).length),(133,.pv (.bnd r))],jI M p q aa X tl (L6 (.byt t)) F,L7⟩) (σ'':=⟨[(100,.obj (ez (c5 aa) M p q X tl).length),(133,.pv (.bnd r))],jI M p q aa X tl (L6 (.byt t)) F,L7⟩) rfl rfl (am (am (ke (n+18) M p q F aa xx yy (.byt t) (.bnd r)) X hX) tl htl) ((fD (n:=n+37) (d:=19) (by kernel_rfl) (Kz ht h2 hr)).trans rfl)⟩
theorem DA(ok:c7 M)(hX:X∈cQ xx)(htl:tl∈qi yy)(ht:t∈aE)(ho:o∈[L9,L6 tO])(hF:F.length<=900):(aC aM (n+50)).exs 39 (sB kO) (dv M p q aa X tl o (L6 (.byt t)) F)=L6 (.nxt,dv M p q aa X tl o (L6 (.byt t)) (F++kY M o t)):=by
 have h:=am (am (am (am (ks (n+29) M p q F aa xx yy) X hX) tl htl) t ht) o ho;refine a9 (n:=n+49) (σ':=dv M p q aa X tl o (L6 (.byt t)) (F++kY M o t)) (ed (n:=n+49) h ?_) rfl;unfold kY;cases FM o t with
 | false=>
  refine(?_:_=L6 (Fl.nxt,dv M p q aa X tl o (L6 (.byt t)) (F++[])));refine ac (Mg _) ?_;rfl
 | true=>
  refine a9 (n:=n+48) (wU (v:=.non) (ng (n:=n+47) (v:=.obj ((ez (c5 aa) M p q X tl).length+1)) (fv:=.val (.builtin "list.extend")) (vs:=[.pv (.seq L7 ((ig M t).map λ w=>.byt (dN t w (cY (hB (aG M t) w)))))]) (σ':=dv M p q aa X tl o (L6 (.byt t)) F) (σ'':=dv M p q aa X tl o (L6 (.byt t)) F) rfl ?_ ?_ (Ay (n:=n+46) (l:=F) va ?_))) ?_
  ·show((jI M p q aa X tl (L6 (.byt t)) F)[_]?).bind _=_;refine ac (show(jI M p q aa X tl (L6 (.byt t)) F)[(ez (c5 aa) M p q X tl).length+1]?=L6 (.lst F) from va) ?_;rfl
  ·refine(?_:((aC aM (n+47)).ev 39 kL _).bind _=_);refine ac (DB (n:=n+7) ok hX htl ht) ?_;rfl
  ·refine ac (Md _) ?_;have:=vu (ok.len t);lia
  ·refine(?_:L6 (Fl.nxt,(⟨_,List.set _ _ _,L7⟩:St))=L6 (Fl.nxt,(⟨_,_,L7⟩:St)));refine ac (show(dv M p q aa X tl o (L6 (.byt t)) F).obs=ez (c5 aa) M p q X tl++[.cel (L6 (.byt t)),.lst F] from rfl) (ac u9 (ac MH ?_));rfl
theorem wu(ok:c7 M):(kY M o t).length<=7:=by
 unfold kY;cases FM o t with
 | false=>exact Pt _
 | true=>exact(Md _).symm▸vu (ok.len t)
theorem z5(ok:c7 M)(hX:X∈cQ xx)(htl:tl∈qi yy)(ho:o∈[L9,L6 tO]):∀{l:List (List UInt8)} {F:List AV} {v:Option AV},(∀t∈l,t∈aE)->F.length+7*l.length<=900->∃v',eF (sT kO) ((aC aM (n+50)).exs 39 (sB kO)) aM (l.map .byt) (dv M p q aa X tl o v F)=L6 (.nxt,dv M p q aa X tl o v' (F++l.flatMap (kY M o))):=by intro l_;induction l_ with
 | nil=>intro F v _ _;exact⟨v,(Mg F).symm▸rfl⟩
 | cons t l P9=>
  intro F v ht hF;rw[MR] at hF;have h7:=wu (o:=o) (t:=t) ok;refine aA (P9 (F:=F++kY M o t) (v:=L6 (.byt t)) (λ t h=>ht t (.tail _ h)) (by refine ac Mf ?_;lia)) λ v' h=>?_;refine⟨v',?_⟩;refine(?_:(put aM (sT kO) (.byt t) _).bind _=_);refine ac (am (am (LM M p q F aa xx yy o v (.byt t)) X hX) tl htl)<|(?_:((aC aM (n+50)).exs 39 (sB kO) _).bind _=_)
  refine ac (DA ok hX htl (ht t (.head _)) ho (by lia))<|h.trans (by refine ac (Mk _ _ _) ?_;rfl)
end
theorem t8:∀{l:List α},(∀x∈l,c x=L8->f x=[])->(l.filter c).flatMap f=l.flatMap f:=by intro l_;induction l_ with
 | nil=>intro _;exact rfl
 | cons x l P9=>
  intro h;have ih:=P9 λ y hy=>h y (.tail _ hy);cases e:c x with
  | true=>refine ac (NX e) ?_;exact congrArg (f x++·) ih
  | false=>
   refine ac (Nu (by rw[e];exact MC)) (ac ih ?_);refine(?_:_=f x++l.flatMap f);refine ac (h x (.head _) e) ?_;rfl
noncomputable def jS(M:aS)(p q o:Option (List UInt8)):List AV:=(aE.filter λ t=>(nW M p q (gM M) (eM M)).presK t).flatMap (kY M o)
theorem vS(M:aS)(p q:Option (List UInt8)):aE.map (λ t=>(nW M p q (gM M) (eM M)).presK t)=mp (λ t=>!eM M t) aE:=by kernel_rfl
theorem su(M:aS)(p q o:Option (List UInt8)):jS M p q o=aE.flatMap (kY M o):=t8 λ t ht e=>by
 have z:(!eM M t)=L8:=(am (vS M p q) t ht).symm.trans e;have r:aG M t=[]:=OG.mp (Bool.not_eq_false' ..▸z);unfold kY ig;refine ac r ?_;cases FM o t<;>rfl
theorem wt(M:aS)(p q:Option (List UInt8)):jS M p q L9=gb M (bi [tR,tP,tO]):=(su M p q L9).trans (by kernel_rfl)
theorem Dr(M:aS)(p q:Option (List UInt8)):jS M p q (L6 tO)=gb M (bi [tO]):=(su M p q (L6 tO)).trans (by kernel_rfl)
noncomputable def GY(o:Option (List UInt8)):FD:=⟨[129,130],o.elim [.non] λ zz=>[],mf,[100]⟩
noncomputable def Ft(o:Option (List UInt8)):List AV:=.obj 10::o.elim [] λ x=>[.byt x]
section
variable{n:Nat}{M:aS}{p q o:Option (List UInt8)}{F:List AV}{aa xx yy:Nat->AO}{X tl:List AO}{t:List UInt8}{loc:List (Nat×AV)}
theorem Jo(ok:c7 M)(hX:X∈cQ xx)(htl:tl∈qi yy)(ho:o∈[L9,L6 tO]):∃v,(aC aM (n+80)).exs 39 mf ⟨(Dw (ez (c5 aa) M p q X tl).length o).take 3,ez (c5 aa) M p q X tl++[.cel L9],L7⟩=L6 (.ret (.obj ((ez (c5 aa) M p q X tl).length+1)),dv M p q aa X tl o v (jS M p q o)):=by
 have h1:=λ n=>am (am (kn n M p q aa xx yy o L9) X hX) tl htl;have l3:(aE.filter λ t=>(nW M p q (gM M) (eM M)).presK t).length<=3:=List.length_filter_le _ _;refine aA (z5 (n:=n+28) (M:=M) (p:=p) (q:=q) (aa:=aa) ok hX htl ho (l:=aE.filter λ t=>(nW M p q (gM M) (eM M)).presK t) (F:=[]) (v:=L9) (λ t h=>(MW.mp h).1) (by refine(?_:0+_<=_);lia)) λ v h=>?_;refine⟨v,a9 (n:=n+79) (congrArg NE (h1 (n+59))) (a9 (n:=n+78) (mX (n:=n+78) (vs:=(aE.filter λ t=>(nW M p q (gM M) (eM M)).presK t).map .byt) (os:=jI M p q aa X tl L9 []) (congrArg Mn (h1 (n+58))) ?_ h) (dD (n:=n+77) (cL ?_)))⟩
 ·refine(?_:L6 ((OB _ _).map ofP,_)=_);refine ac MH ?_;rfl
 ·rfl
theorem Hh(ok:c7 M)(hX:X∈cQ xx)(htl:tl∈qi yy)(ho:o∈[L9,L6 tO]):∃v,(aC aM (n+81)).cal 40 (.val (.ref 764)) (Ft o) ⟨loc,ez (c5 aa) M p q X tl,L7⟩=L6 (.obj ((ez (c5 aa) M p q X tl).length+1),⟨loc,ez (c5 aa) M p q X tl++[.cel v,.lst (jS M p q o)],L7⟩):=by
 refine aA (Jo (n:=n) (M:=M) (p:=p) (q:=q) (aa:=aa) ok hX htl ho) λ v h=>⟨v,(et (n:=n+80) (d:=39) (fd:=GY o) (σ₁:=dv M p q aa X tl o v (jS M p q o)) (by kernel_rfl) (by cases o<;>kernel_rfl) (by cases o<;>kernel_rfl) (by cases o<;>kernel_rfl) (by cases o<;>kernel_rfl) (PC ?_ h)).trans ?_⟩
 ·cases o<;>kernel_rfl
 ·refine(?_:L6 (_,(⟨loc,mz _ _ (jI M p q aa X tl v (jS M p q o)),L7⟩:St))=_);rw[show mz (ez (c5 aa) M p q X tl).length (.obj ((ez (c5 aa) M p q X tl).length+1)) (jI M p q aa X tl v (jS M p q o))=jI M p q aa X tl v (jS M p q o) from if_neg λ h=>by
   have:=of_decide_eq_true (show decide ((ez (c5 aa) M p q X tl).length+1<(ez (c5 aa) M p q X tl).length)=L7 from(af h λ a zz=>a));lia];rfl
end
noncomputable def dF(M:aS):List AV:=gb M (bi [tR,tP,tO])
noncomputable def nX(M:aS):List AV:=gb M (bi [tO])
section
variable(M:aS)(p q:Option (List UInt8))(aa xx:Nat->AO)(y:AO)(X:List AO)
theorem sL(ok:c7 M)(l:List (List UInt8)):(l.flatMap λ t=>gH t (lM M t))=gb M l:=congrArg (λ f=>l.flatMap f) (funext λ t=>oS ok.gd)
theorem Kx(ok:c7 M):f6 833 [.obj 6] (bu (c5 aa) M p q X) L8=L6 (.obj (bu (c5 aa) M p q X).length,bu (c5 aa) M p q X++[.lst (dF M)]):=
 qE (n:=60) (idx:=[6,7,8,9]) (os₁:=dV [tR,tP,tO] (gM M) (eM M) (lM M)) (vs':=[.obj 0]) rfl ⟨by decide,rfl,λ k i h=>by
  match k,h with
  | 0,h=>exact sI h▸⟨_,rfl,rfl,rfl⟩
  | 1,h=>exact sI h▸⟨_,rfl,rfl,rfl⟩
  | 2,h=>exact sI h▸⟨_,rfl,rfl,rfl⟩
  | 3,h=>exact sI h▸⟨_,rfl,rfl,rfl⟩⟩ rfl rfl (jR _) (by
   refine(?_:(_,_++[AO.lst (cz _ 6)])=_);exact ac (show cz (bu (c5 aa) M p q X) 6=dF M from(show _=(bi [tR,tP,tO]).flatMap λ t=>gH t (lM M t) by kernel_rfl).trans (sL M ok _)) rfl) λ loc=>Eb ok.gd (.head _) ok.len loc
noncomputable def tQ(X:List AO):List AO:=bu (c5 aa) M p q X++[y]++[.dic [(tO,.obj 9)]]
theorem It(ok:c7 M)(hX:X∈cQ xx):f6 833 [.obj (bu (c5 aa) M p q X++[y]).length] (tQ M p q aa y X) L8=L6 (.obj (tQ M p q aa y X).length,tQ M p q aa y X++[.lst (nX M)]):=by
 rcases Mj.mp hX with rfl|hX
 ·refine qE (n:=60) (idx:=[13,9]) (os₁:=dV [tO] (gM M) (eM M) (lM M)) (vs':=[.obj 0]) rfl ⟨by decide,rfl,λ k i h=>?_⟩ rfl rfl (jR _) ?_ λ loc=>Eb ok.gd (.tail _ (.head _)) ok.len loc
  ·match k,h with
   | 0,h=>exact sI h▸⟨_,rfl,rfl,rfl⟩
   | 1,h=>exact sI h▸⟨_,rfl,rfl,rfl⟩
  ·refine(?_:(_,_++[AO.lst (cz _ 13)])=_);exact ac (show cz (tQ M p q aa y [xx 0]) 13=nX M from(show _=(bi [tO]).flatMap λ t=>gH t (lM M t) by kernel_rfl).trans (sL M ok _)) rfl
 ·obtain rfl:=Ma.mp hX;refine qE (n:=60) (idx:=[17,9]) (os₁:=dV [tO] (gM M) (eM M) (lM M)) (vs':=[.obj 0]) rfl ⟨by decide,rfl,λ k i h=>?_⟩ rfl rfl (jR _) ?_ λ loc=>Eb ok.gd (.tail _ (.head _)) ok.len loc
  ·match k,h with
   | 0,h=>exact sI h▸⟨_,rfl,rfl,rfl⟩
   | 1,h=>exact sI h▸⟨_,rfl,rfl,rfl⟩
  ·refine(?_:(_,_++[AO.lst (cz _ 17)])=_);exact ac (show cz (tQ M p q aa y (c5 xx)) 17=nX M from(show _=(bi [tO]).flatMap λ t=>gH t (lM M t) by kernel_rfl).trans (sL M ok _)) rfl
end
theorem Kd{l:List AV}(h:∀v∈l,∃x,v=.byt x):∃m:List (List UInt8),l=m.map .byt:=by
 induction l with
 | nil=>exact⟨[],rfl⟩
 | cons v l ih=>
  (refine aA (h v (.head _)) λ x P2=>?_;obtain rfl:=P2);(refine aA (ih λ v hv=>h v (.tail _ hv)) λ m P2=>?_;obtain rfl:=P2);exact⟨x::m,rfl⟩
theorem vB:∀m:List (List UInt8),nT (eH 10) (m.map .byt) (m.map .byt)=L7
 | []=>rfl
 | x::m=>(NZ _ _).mpr ⟨beq_self_eq_true x,vB m⟩
theorem wZ{T:bq}{os:List AO}(hb:∀v∈l,∃x,v=.byt x)(h1:os[i]?=L6 (.lst l))(h2:os[j]?=L6 (.lst l)):eO T os .Eq (.obj i) (.obj j)=L6 L7:=by
 (refine aA (Kd hb) λ m P2=>?_;obtain rfl:=P2);have e:∀k:Nat,os[k]?=L6 (.lst (m.map .byt))->dg T os (.obj k)=L6 (L7,m.map .byt):=λ k h=>by
  refine(?_:((os[k]?).bind FL).bind _=_);refine ac h<|(?_:(toPs (m.map λ x=>ofP (.byt x))).map _=_)
  refine ac eT ?_;rfl
 refine(?_:(((pW os (.obj j)).bind uh).bind _).or ((dg T os (.obj i)).bind λ p=>(dg T os (.obj j)).bind λ q=>IO p q)=_);refine ac (e i h1) (ac (e j h2) (ac (show pW os (.obj j)=L6 (.lst (m.map .byt)) from h2) ?_));refine(?_:(if(L7==L7&&nT (eH 10) (m.map .byt) (m.map .byt))=L7 then L6 L7 else L9)=_);refine ac (vB _) ?_;rfl
theorem Ai(ha:bG a=L7)(hb:bG b=L7)(h:(aC T (n+1)).tst d a σ=L6 (L7,σ'))(h':(aC T n).tst d b σ'=L6 (L7,σ'')):(aC T (n+3)).ev d (.and [a,b] p) σ=L6 (.boo L7,σ''):=by
 refine(?_:((if bG a=L7 then((aC T (n+1)).tst d a σ).bind _ else L9).map y8)=_);refine ac (if_pos ha) (ac h ?_);refine(?_:(((if bG b=L7 then((aC T n).tst d b σ').bind _ else L9)).map y8)=_);refine ac (if_pos hb) (ac h' ?_);rfl
theorem u6(h:(aC T n).ev d a σ=L6 (u,σ'))(h':(aC T n).ev d b σ'=L6 (v,σ'))(e:eO T σ'.obs .Eq u v=L6 L7):(aC T (n+1)).tst d (.cmp .Eq a b p) σ=L6 (L7,σ'):=by
 refine(?_:((aC T n).ev d a σ).bind _=_);refine ac h<|(?_:((aC T n).ev d b σ').bind _=_)
 refine ac h'<|(?_:(eO T σ'.obs .Eq u v).map _=_)
 refine ac e ?_;rfl
noncomputable def tJ:X:=sX (sN bh 9)
noncomputable def kX(N:Nat):List (Nat×AV):=bL++[(134,.obj N)]
noncomputable def tU(N K:Nat):List (Nat×AV):=kX N++[(142,.obj K)]
section
variable{n d:Nat}{M:aS}{p q:Option (List UInt8)}{wr:Option AV}{vE:AV}{xx:Nat->AO}{y:AO}{X:List AO}
theorem Fx(ok:c7 M):bv aM (aC aM (n+10)) 40 (sN bh 8) ⟨bL,bu (lC wr (.obj 11) vE) M p q X,L8⟩=L6 (.nxt,⟨kX (bu (lC wr (.obj 11) vE) M p q X).length,bu (lC wr (.obj 11) vE) M p q X++[.lst (dF M)],L8⟩):=
 mY (ee (n:=n+9) (fv:=.val (.ref 833)) (vs:=[.obj 6]) (σ':=⟨bL,bu (lC wr (.obj 11) vE) M p q X,L8⟩) (σ'':=⟨bL,bu (lC wr (.obj 11) vE) M p q X,L8⟩) (by kernel_rfl) (by kernel_rfl) (fD (T:=aM) (n:=n+8) (d:=20) (by kernel_rfl) (Kx M p q (g5 (.cel wr) (.cel (L6 (.obj 10))) (.cel (L6 (.obj 11))) (.cel (L6 vE)) (.cel (L6 (.obj 6)))) X ok)))
noncomputable def s8(M:aS)(p q:Option (List UInt8))(wr:Option AV)(vE:AV)(X:List AO):St:=⟨kX (bu (lC wr (.obj 11) vE) M p q X).length,bu (lC wr (.obj 11) vE) M p q X++[.lst (dF M)],L8⟩
noncomputable def o9(M:aS)(p q:Option (List UInt8))(wr:Option AV)(vE:AV)(X:List AO):List AO:=tQ M p q (g5 (.cel wr) (.cel (L6 (.obj 10))) (.cel (L6 (.obj 11))) (.cel (L6 vE)) (.cel (L6 (.obj 6)))) (.lst (dF M)) X
theorem LK(ok:c7 M)(hX:X∈cQ xx):cz (o9 M p q wr vE X) (bu (lC wr (.obj 11) vE) M p q X++[AO.lst (dF M)]).length=nX M:=by
 refine PC (b:=(bi [tO]).flatMap λ t=>gH t (lM M t)) ?_ (sL M ok _);rcases Mj.mp hX with rfl|hX
 ·kernel_rfl
 ·refine ac (Ma.mp hX) ?_;kernel_rfl
theorem zC(ok:c7 M)(hX:X∈cQ xx):vJ tJ (s8 M p q wr vE X)=(.obj (o9 M p q wr vE X).length,⟨kX (bu (lC wr (.obj 11) vE) M p q X).length,o9 M p q wr vE X++[.lst (nX M)],L8⟩):=by
 refine bP (LK (p:=p) (q:=q) (wr:=wr) (vE:=vE) ok hX) (ac (show(o9 M p q wr vE X).length=(bu (lC wr (.obj 11) vE) M p q X++[AO.lst (dF M)]).length+1 from Mf) ?_);kernel_rfl
noncomputable def AP:Prop:=∀(sh:pK) (M:aS) (p q:Option (List UInt8)) (wr:Option AV),c7 M->kJ tJ 40 (s8 M p q wr (cR sh) (b6 sh)) (.obj (o9 M p q wr (cR sh) (b6 sh)).length,⟨kX (bu (lC wr (.obj 11) (cR sh)) M p q (b6 sh)).length,o9 M p q wr (cR sh) (b6 sh)++[.lst (nX M)],L8⟩)
theorem zc(e:vJ tJ (s8 M p q wr vE X)=r)(hr:kJ tJ 40 (s8 M p q wr vE X) r):bv aM (aC aM (n+1)) 40 (sN bh 9) (s8 M p q wr vE X)=L6 (.nxt,{r.2 with loc:=upd 142 r.1 r.2.loc}):=
 mY (by
  refine(?_:vK tJ 40 _=L6 (r.1,r.2));exact(congrArg L6 e).symm▸@if_pos _ (M0 _) (e.symm▸hr) _ _ _)
theorem Dj:o9 M p q wr vE X++[.lst (nX M)]=ez (lC wr (.obj 11) vE) M p q X [.lst (dF M),.dic [(tO,.obj 9)],.lst (nX M)]:=by
 refine(?_:bu _ M p q X++[_]++[_]++[_]=_);refine ac (Mk _ _ _) (ac (Mk _ _ _) ?_);rfl
theorem Di:(o9 M p q wr vE X).length=(bu (lC wr (.obj 11) vE) M p q X).length+2:=by
 refine(?_:(bu _ M p q X++[_]++[_]).length=_);refine ac Mf (ac Mf ?_);rfl
theorem CB{a b c:AO}(ok:c7 M)(hX:X∈cQ xx)(ha:a=.lst (dF M))(hc:c=.lst (nX M))(hN:(bu (lC wr (.obj 11) vE) M p q X).length=N)(hL:L=tU N (N+2)):∃σ',(aC aM 100).exs 40 [sN bh 10] ⟨L,ez (lC wr (.obj 11) vE) M p q X [a,b,c],L7⟩=L6 (.ret (.boo L7),σ'):=by
 refine aA (Hh (n:=14) (M:=M) (p:=p) (q:=q) (aa:=g5 (.cel wr) (.cel (L6 (.obj 10))) (.cel (L6 (.obj 11))) (.cel (L6 vE)) (.cel (L6 (.obj 6)))) (yy:=g5 a b c (.cel L9) (.cel L9)) (o:=L9) (loc:=L) ok hX (tl:=[a,b,c]) (.head _) (.head _)) λ u h1=>aA (Hh (n:=13) (M:=M) (p:=p) (q:=q) (aa:=g5 (.cel wr) (.cel (L6 (.obj 10))) (.cel (L6 (.obj 11))) (.cel (L6 vE)) (.cel (L6 (.obj 6)))) (yy:=g5 a b c (.cel u) (.lst (jS M p q L9))) (o:=L6 tO) (loc:=L) ok hX (tl:=[a,b,c,.cel u,.lst (jS M p q L9)]) (.tail _ (.head _)) (.tail _ (.head _))) λ v h2=>?_;rw[wt] at h1;rw[wt,Dr] at h2;have n1:∀tl,(ez (lC wr (.obj 11) vE) M p q X tl).length=N+tl.length:=λ tl=>hN▸Mf;have e1:ez (lC wr (.obj 11) vE) M p q X [a,b,c]++[.cel u,.lst (gb M (bi [tR,tP,tO]))]=ez (lC wr (.obj 11) vE) M p q X [a,b,c,.cel u,.lst (dF M)]:=Mk ..;have e2:ez (lC wr (.obj 11) vE) M p q X [a,b,c,.cel u,.lst (gb M (bi [tR,tP,tO]))]++[.cel v,.lst (gb M (bi [tO]))]=ez (lC wr (.obj 11) vE) M p q X [a,b,c,.cel u,.lst (dF M),.cel v,.lst (nX M)]:=Mk ..;have g1:(aC aM 95).cal 40 (.val (.ref 764)) [.obj 10] ⟨L,ez (lC wr (.obj 11) vE) M p q X [a,b,c],L7⟩=L6 (.obj (N+4),⟨L,ez (lC wr (.obj 11) vE) M p q X [a,b,c,.cel u,.lst (dF M)],L7⟩):=h1.trans (by refine bP e1 ?_;exact congrArg (λ k=>L6 (AV.obj (k+1),(_:St))) (n1 _));have g2:(aC aM 94).cal 40 (.val (.ref 764)) [.obj 10,.byt tO] ⟨L,ez (lC wr (.obj 11) vE) M p q X [a,b,c,.cel u,.lst (dF M)],L7⟩=L6 (.obj (N+6),⟨L,ez (lC wr (.obj 11) vE) M p q X [a,b,c,.cel u,.lst (dF M),.cel v,.lst (nX M)],L7⟩):=h2.trans (by refine bP e2 ?_;exact congrArg (λ k=>L6 (AV.obj (k+1),(_:St))) (n1 _));have at_:∀{tl:List AO} {i:Nat} {o:AO},tl[i]?=L6 o->(ez (lC wr (.obj 11) vE) M p q X tl)[N+i]?=L6 o:=λ{tl i o} h=>by
  refine(?_:(bu _ M p q X++tl)[N+i]?=_);refine bP hN (ac (MG (Mt _ _)) (ac (MF _ _) ?_));exact h
 subst ha hc hL;exact⟨_,dD (n:=99) (cL (Ai (n:=96) rfl rfl (u6 (n:=96) (v:=.obj N) (ee (n:=95) (fv:=.val (.ref 764)) (vs:=[.obj 10]) (σ':=⟨tU N (N+2),ez (lC wr (.obj 11) vE) M p q X [.lst (dF M),b,.lst (nX M)],L7⟩) (σ'':=⟨tU N (N+2),ez (lC wr (.obj 11) vE) M p q X [.lst (dF M),b,.lst (nX M)],L7⟩) (by kernel_rfl) (by kernel_rfl) g1) (by kernel_rfl) (wZ (jR _) (at_ rfl) (at_ (i:=0) rfl))) (u6 (n:=95) (v:=.obj (N+2)) (ee (n:=94) (fv:=.val (.ref 764)) (vs:=[.obj 10,.byt tO]) (σ':=⟨tU N (N+2),ez (lC wr (.obj 11) vE) M p q X [.lst (dF M),b,.lst (nX M),.cel u,.lst (dF M)],L7⟩) (σ'':=⟨tU N (N+2),ez (lC wr (.obj 11) vE) M p q X [.lst (dF M),b,.lst (nX M),.cel u,.lst (dF M)],L7⟩) (by kernel_rfl) (by kernel_rfl) g2) (by kernel_rfl) (wZ (jR _) (at_ rfl) (at_ rfl)))))⟩
end
section
variable{c:Cx}{d n:Nat}{ρ:RR}{σ σ':St}{s:Mc}{loc:List (Nat×AV)}{os:List AO}
theorem au.sw(R:au c ρ ⟨loc,os,L8⟩ s):au c ρ ⟨loc,os,L7⟩ s:=by
 (refine au.el R λ m τ F L K r=>?_;clear R);refine⟨m,τ,F,L,⟨K.N,K.Y,K.sz,K.O,K.Z,K.X,λ a r z=>?_⟩,r⟩;refine uJ.el (K.B a r z) λ dx es n vk v vn c0 c1 ek k nt t=>⟨dx,es,n,vk,v,vn,c0,c1,ek,k,nt,t.elim .inl λ y=>(ff y.1)⟩
theorem sZ{wr:Option (List UInt8)}(R:au c ρ ⟨bL,bu (lC (wr.map .byt) (.obj 11) (cR sh)) M p q (b6 sh)++tl,L8⟩ s):∃ρ',au c ρ' (gX (wr.map .byt) sh M p q bL) s:=
 rU R (λ zz zz e=>e) (by cases sh<;>cases wr<;>exact⟨rfl,rfl⟩)
noncomputable def rO:List S:=[sN bh 6,sN bh 7,sN bh 8,sN bh 9,sN bh 10]
theorem Fg{wr:Option (List UInt8)}(r3:AP)(C:aQ c 40)(fi:uC sh M p q)(R:au c ρ (gX (wr.map .byt) sh M p q bL) s)(hm:bz c.cs rO=L7):W c (Na (ba rO) c.env) (λ fl s'=>fl=.ret (.bool L7)/\∃ρ σ,au c ρ σ s') s:=by
 refine aA (oB sh) λ xx hX=>af hm λ m6 m=>af m λ m7 m=>af m λ m8 m=>af m λ m9 m=>lE C R (vm (n:=10) (.head _) hX (l6 fi)) m6 λ ρ s R=>aA (sZ R) λ ρ R=>lE C R (vm (n:=10) (.tail _ (.head _)) hX (l7 fi.ok)) m7 λ ρ s R=>aA (sZ R) λ ρ R=>lE C R (Fx (n:=0) fi.ok) m8 λ ρ s R=>lE C R (zc (n:=0) (zC fi.ok hX) (r3 sh M p q _ fi.ok)) m9 λ ρ s R=>?_;have R:=R.sw;have e:(⟨tU (bu (lC (wr.map .byt) (.obj 11) (cR sh)) M p q (b6 sh)).length ((bu (lC (wr.map .byt) (.obj 11) (cR sh)) M p q (b6 sh)).length+2),ez (lC (wr.map .byt) (.obj 11) (cR sh)) M p q (b6 sh) [.lst (dF M),.dic [(tO,.obj 9)],.lst (nX M)],L7⟩:St)=⟨upd 142 (.obj (o9 M p q (wr.map .byt) (cR sh) (b6 sh)).length) (kX (bu (lC (wr.map .byt) (.obj 11) (cR sh)) M p q (b6 sh)).length),o9 M p q (wr.map .byt) (cR sh) (b6 sh)++[.lst (nX M)],L7⟩:=by
  refine bP Dj (ac Di ?_);rfl
 refine aA (CB (p:=p) (q:=q) (wr:=wr.map .byt) (vE:=cR sh) (b:=.dic [(tO,.obj 9)]) fi.ok hX rfl rfl rfl rfl) λ σ' h=>aK ((bp bc 100).ex 40 _ _ _ c ρ s h C m (e▸R)) λ fl s₁ z=>?_;obtain⟨ρ',_,R',v,h1,h2⟩:=z;exact⟨by exact ac h1 (ac (show v=.bool L7 from h2) rfl),(aq ρ' σ' R')⟩
end
section
variable{c:Cx}{d n:Nat}{ρ:RR}{σ σ':St}{s:Mc}{u:Value}{a:AV}
theorem tw{ke ve:PySem.Expr}(h:W c (MN ke c.env) (λ kv s₁=>W c (MN ve c.env) (λ vv P0=>W c (dictSet s.heap.objs.size kv vv) (λ zz s₃=>Q (.ref s.heap.objs.size) s₃) P0) s₁) {s with heap:=s.heap.push {cls:=.type "dict",data:=.dict #[] } }) :
  W c (MN (.Dict [L6 ke] [ve] pos) c.env) Q s:=by
 unfold W;refine ac (arm_eval_Dict _ _ _ _) (ac (show(evalEachOpt [L6 ke] c.env).zip ((evalEach [ve] c.env).map λ v=>do let x ← v;Nv pos;Nx x)=[(MN ke c.env,(do let x ← MN ve c.env;Nv pos;Nx x:Sem Value))].map (λ p=>(L6 p.1,p.2)) from rfl) (ac (dictDisplay_pairs [(MN ke c.env,(do let x ← MN ve c.env;Nv pos;Nx x:Sem Value))] (List.cons_ne_nil _ _) (by refine(?_:1<17);decide)) ?_));refine aw (aj ?_);unfold subDict;refine az (wpAny_alloc ?_);refine aj (ak ?_);refine ac (if_pos (by refine(?_:1<=15);decide)) ?_;refine aj ?_;rw[evalPairs];refine aj (ax h (λ kv s₁ h₁=>?_) λ zz zz e=>e);refine aj (ak (aj (ax h₁ (λ vv P0 Qa=>aw (al ?_)) λ zz zz e=>e)));refine aj (ak ?_);rw[evalPairs];refine al (al ?_);refine ak<|ac (Oc _ _ _ _)<|aj (aj (aj (ax Qa (λ zz s₃ Qo=>al ?_) λ zz zz e=>e)));exact al (al (al (al Qo)))
theorem Cd(R:au c ρ σ s)(x:Is ρ (.obj h) (.ref xa))(y:Is ρ (.byt b) kv)(z:Is ρ a u)(ho:σ.obs[h]?=L6 o)(h':zL o b a=L6 o')(K:∀s',au c ρ {σ with obs:=σ.obs.set h o'} s'->Q () s'):W c (dictSet xa kv u) Q s:=by
 refine BX.el (R.upd ho x) λ m τ xa' e F q n _ k'=>?_;obtain rfl:=M5 e;(refine aA y λ t P2=>?_;clear y;obtain rfl:=P2);refine ux.el (sd q z h') λ ob kvs cl D hz kk=>?_;have nw:=n _ cl.own;refine ah (wpAny_dictSet_pairs (hsz:=bY hz) (dE _ _ _ _) (MY.mpr ⟨ob,cl.g,D⟩) λ h'' hm hs=>?_);refine ag (MY.mp hm) λ ob' g' D'=>K _ (k' xa 0 ob' _ h'' _ cl.t (F.change hs nw.l nw.n) (jW hs) g' (kk h'' ob' ⟨g',cl.t⟩ D'))
theorem zq:(B++[x]).set B.length y=B++[y]:=by
 induction B with
 | nil=>rfl
 | cons z B ih=>exact congrArg (z::·) ih
noncomputable def x3:X:=.sub (.cel 132 (pZ 627 35 39)) (.byt [111,119,110] 0 (pZ 627 40 46)) (pZ 627 35 47)
theorem vL:a8 tJ=.Call (a8 (gZ 47 627 12 25)) [.Dict [L6 (a8 (.byt tO 0 (pZ 627 27 33)))] [a8 x3] (pZ 627 26 48)] [] (pZ 627 12 49):=by kernel_rfl
theorem Jr(n:Nat)(M:aS)(p q:Option (List UInt8))(wr:Option AV)(vE:AV)(X:List AO)(y z:AO)(N:Nat):(aC aM (n+5)).ev 40 x3 ⟨kX N,bu (lC wr (.obj 11) vE) M p q X++[y]++[z],L8⟩=L6 (.obj 9,⟨kX N,bu (lC wr (.obj 11) vE) M p q X++[y]++[z],L8⟩):=by kernel_rfl
theorem zB:AP:=λ sh M p q wr ok c ρ s C hm R=>by
 refine aA (oB sh) λ xx hX=>?_;have hm:((cf c.cs .globalImplicit 47&&L7)&&(cv c.cs x3&&L7))=L7:=hm;refine af hm λ m1 m2=>af m1 λ m1 zz=>af m2 λ m2 zz=>?_;refine ac vL (ac (bn rfl _ _ _) ?_);refine aj (aK ((bp bc 1).ev 40 (gZ 47 627 12 25) (s8 M p q wr (cR sh) (b6 sh)) (.val (.ref 833),s8 M p q wr (cR sh) (b6 sh)) c ρ s (by kernel_rfl) C m1 R) λ fv s₁ z=>?_);(refine PE.el z λ PY P1 R₁ P7=>?_;clear z);obtain rfl:fv=.ref 833:=P7;refine cq (K:=c.K) (bc.kp 833 (by decide +kernel) c.w) rfl (P:=λ us s'=>∃ρ' v,us=[v]/\PY.Le ρ'/\au c ρ' ⟨kX (bu (lC wr (.obj 11) (cR sh)) M p q (b6 sh)).length,o9 M p q wr (cR sh) (b6 sh),L8⟩ s'/\Is ρ' (.obj (bu (lC wr (.obj 11) (cR sh)) M p q (b6 sh)++[AO.lst (dF M)]).length) v) ?_ λ us s' z=>?_
 ·refine bd (tw ?_) λ v s' z=>cr z;obtain⟨P5,P8,P4,Qi⟩:=au.fresh C R₁ (k:=s₁.toks) (o:=.dic []) rfl λ τ cl=>(aq _ ([]) ⟨cl,o0,rfl⟩)
  refine W.pe ((bp bc 1).ev 40 (.byt tO 0 (pZ 627 27 33)) (dt (s8 M p q wr (cR sh) (b6 sh)) (.dic [])).2 (.byt tO,(dt (s8 M p q wr (cR sh) (b6 sh)) (.dic [])).2) c P5 _ rfl C rfl P4) λ kv P0 Qf Qh Qe QG=>W.pe ((bp bc 5).ev 40 x3 _ _ c Qf P0 (Jr 0 M p q wr (cR sh) (b6 sh) (.lst (dF M)) (.dic []) _) C m2 Qe) λ vv s₃ Qt QT QB RB=>?_;have y₂:=Qi.mono (Qh.trans QT);refine Cd QB (h:=(s8 M p q wr (cR sh) (b6 sh)).obs.length) (b:=tO) y₂ (QG.mono QT) RB cD rfl λ Ql Q2=>(aq Qt _ ⟨rfl,P8.trans (Qh.trans QT),?_,y₂⟩)
  have:List.set (bu (lC wr (.obj 11) (cR sh)) M p q (b6 sh)++[AO.lst (dF M)]++[.dic []]) (bu (lC wr (.obj 11) (cR sh)) M p q (b6 sh)++[AO.lst (dF M)]).length (.dic [(tO,.obj 9)])=o9 M p q wr (cR sh) (b6 sh):=zq;exact this▸Q2
 ·(refine bV z λ ρ' v PZ le R' xv=>?_;clear z;obtain rfl:=PZ);have f:=It M p q (g5 (.cel wr) (.cel (L6 (.obj 10))) (.cel (L6 (.obj 11))) (.cel (L6 (cR sh))) (.cel (L6 (.obj 6)))) xx (.lst (dF M)) (b6 sh) ok hX;have k:=fD (T:=aM) (a:=833) (vs:=[.obj (bu (lC wr (.obj 11) (cR sh)) M p q (b6 sh)++[AO.lst (dF M)]).length]) (r:=(.obj (o9 M p q wr (cR sh) (b6 sh)).length,o9 M p q wr (cR sh) (b6 sh)++[AO.lst (nX M)])) (n:=1) (d:=20) (σ:=⟨kX (bu (lC wr (.obj 11) (cR sh)) M p q (b6 sh)).length,o9 M p q wr (cR sh) (b6 sh),L8⟩) (by kernel_rfl) f;have l:IsL ρ' [.obj (bu (lC wr (.obj 11) (cR sh)) M p q (b6 sh)++[AO.lst (dF M)]).length] [v]:=(ay.k xv rfl)
  exact⟨R'.X C,W.from (P1.trans le) ((bp bc 2).cal 40 (.ref 833) _ _ _ c ρ' s' [v] k C R' l)⟩
end
theorem zU:Pd (.type "list") "keys"=Nx L9:=by refine ac (typeLookup_type _ _) (ac builtinLookup_eq_fast ?_);kernel_rfl
theorem tY
  (hx:s.heap.get? a=L6 {cls:=.type "list",dict:=L9,data:=.seq xs k,slots:=sl}) (hA:A.handled=L9)
  (h:∀h' tk e,M4.NewExcOf s.heap h' e "AttributeError"->Q L9 {s with heap:=h',toks:=tk}) :
  MJ (Mh prog w) A (getAttr? (.ref a) "keys") Q E s:=by
 obtain⟨hp,g,d,tk,os⟩:=s;have hT:∀tk',(⟨hp,g,d,tk',os⟩:Mc).TypeIs (.ref a) "list":=λ zz=>⟨_,hx,rfl⟩
 have f1:=sub_AttributeError;have f3:=N6.lookup;have f4:=N6.bind (.ref a);have f5:=am_list_getattr_none;unfold getAttr? getAttrBy? getAttrBy;repeat (any_goals (first|assumption|exact hT _|((with_reducible show MJ _ _ (call (O0 "list.__getattribute__") _ _) _ _ _);refine call_meets N6 (hT _) am_entry_list_getattribute (F.args_list_getattribute_2 _ _) (meets_getattribute_miss_list a xs k sl _ _ zU (by decide +kernel)) ⟨hx,hA,λ h' tk' e hx'=>?_⟩)|wp_step))
 refine bW hx'.there λ t' u' he=>(?_:MJ _ _ (getattributeRaised _ _ _ _ _ _ _) _ _ _)
 unfold getattributeRaised;repeat (any_goals (first|assumption|wp_step))
 exact h _ _ _ hx'.of
theorem iL:entryFor table "dict.update.loop"=L6 Builtin.«dict.update.loop»:=entryFor_of_tree (by kernel_rfl)
theorem dB:plainId "dict.update.loop"=L7:=by decide +kernel
structure TupAt(h:M4)(d I:Addr)(v:Value)(x:Bs×Value):Prop where
 t:∃t o n tk,v=.ref t/\h.get? t=L6 o/\o.cls=.type "tuple"/\o.data=.seq #[.bytes x.1.toArray tk,x.2] n/\t≠d/\t≠I
section
variable{prog:Nb}{w:MO}{A:Nj}{E:Value->Mc->Prop}{I d l:Addr}{items:Array Value}{R:Nt->Mc->Prop}
theorem qz(T:TupAt s.heap d I v x)(h:∀tk,Q [.bytes x.1.toArray tk,x.2] s):MJ (Mh prog w) A (OJ v) Q E s:=by
 (refine eg T.t λ t o n tk QS g hc hd hz8 hz9=>?_;obtain rfl:=QS;clear hz8;clear hz9);unfold OJ;refine Me (wpAny_typeOf (T:="tuple") ⟨o,g,hc⟩ ?_);refine ac (if_pos (by decide))<|wpAny_bind (wpAny_seqItems g hd ?_);exact Mp (h tk)
theorem fC{h h':M4}(D:h.DictOf (Og prog w) d acc)(k:∀o,h.get? d=L6 o->h'.get? d=L6 o):h'.DictOf (Og prog w) d acc:=by
 refine ag (MY.mp D) λ o g x=>MY.mpr ⟨o,k o g,x⟩
theorem TupAt.keep(T:TupAt h d I v x)(k:∀b o,b≠d->b≠I->h.get? b=L6 o->h'.get? b=L6 o):TupAt h' d I v x:=by
 refine eg T.t λ t o n tk e g hc hd n1 n2=>⟨t,o,n,tk,e,k _ _ n1 n2 g,hc,hd,n1,n2⟩
theorem kg(hh:A.in1.handled=L9)(hne:l≠I)(hdI:d≠I)(hdl:d≠l):∀(rest:List (Bs×Value)) (i:Nat) (z:Int) (zt:Tok) (acc:List (Bs×Value)) (s:Mc),i+rest.length=items.size->(∀j x,rest[j]?=L6 x->∃v,items[i+j]?=L6 v/\TupAt s.heap d I v x)->
  s.heap.IsListIter I l i->s.heap.IsList l items->s.heap.DictOf (Og prog w) d acc->acc.length+rest.length<=100->
  (∀s',Moved [d,I] (λ a b=>b=a) s s'->s'.heap.DictOf (Og prog w) d (merged acc rest)->R (.ok (.ret .none)) s')->
  codeAny (Mh prog w) A (.builtin "dict.update.loop" ⟨[.ref d,.ref I,.int z zt,.none],[]⟩) R s
 | [],i,z,zt,acc,s,hi,_,hI,hL,hD,_,hR=>by
  have W:=(Walks.list (prog:=prog) (w:=w) hh I l hne items).toS;refine codeAny_builtin iL ?_;refine ac (Pa dB _)<|(?_:MJ _ A.in1 (pyNext (.ref I) >>= _) _ _ s)
  refine Me (W.done s _ _ (by refine bP hi ?_;exact⟨hI,hL⟩) λ s' hm=>?_);refine Me (Mp (Mp (hR s' (hm.mono λ b hb=>.tail _ hb) ?_)));exact fC hD λ o e=>hm.heap d o (λ h=>hdI (Ma.mp h)) e
 | x::rest,i,z,zt,acc,s,hi,hT,hI,hL,hD,hz,hR=>by
  have W:=(Walks.list (prog:=prog) (w:=w) hh I l hne items).toS;rw[MR] at hi hz;refine codeAny_builtin iL<|ac (Pa dB _)<|(?_:MJ _ A.in1 (pyNext (.ref I) >>= _) _ _ s)
  refine Me (W.item i s _ _ (by lia) ⟨hI,hL⟩ λ v s' hP hst' hm=>?_);refine ag (hT 0 x rfl) λ v' e T=>?_;obtain rfl:v=v':=sI (hP.symm.trans e);have T':=T.keep (h':=s'.heap) λ b o zz n2 g=>hm.heap b o (λ h=>n2 (Ma.mp h)) g;have hD':s'.heap.DictOf (Og prog w) d acc:=fC hD λ o e=>hm.heap d o (λ h=>hdI (Ma.mp h)) e;refine Me (M3 (Me (wpAny_tryCatch (qz T' λ tk=>?_))));refine M3 (wpAny_dictSet_pairs (hsz:=by refine ac sizeLine_eq ?_;lia) (dE _ _ _ _) hD' λ h' hm' hs'=>?_);refine Mp ⟨plainId_quiet dB _,?_⟩;have k':∀b o,b≠d->s'.heap.get? b=L6 o->h'.get? b=L6 o:=λ b o n g=>(hs'.2 b n).trans g;refine kg hh hne hdI hdl rest (i+1) (z+1) _ (Pe acc x.1 x.2) _ (by lia) (λ j y hy=>?_) (hst'.1.at λ o e=>k' I o (Ne.symm hdI) e) (hst'.2.at λ o e=>k' l o (Ne.symm hdl) e) hm' (by have:=stored_length_le acc x.1 x.2;lia) λ s'' hm'' hD''=>hR s'' ?_ hD''
  ·refine ag (hT (j+1) y hy) λ v e T=>⟨v,by refine ac (NT _ _ _) (ac (MU 1 _) ?_);exact e,(T.keep (h':=s'.heap) λ b o zz n2 g=>hm.heap b o (λ h=>n2 (Ma.mp h)) g).keep λ b o n1 zz g=>k' b o n1 g⟩
  ·exact Moved.trans (λ zz zz zz h1 h2=>h2.trans h1) ((hm.mono λ b hb=>.tail _ hb).then_heap (M6 _) λ b o hb e=>k' b o (λ h=>hb (h▸.head _)) e) hm''
end
section
variable{prog:Nb}{w:MO}{A:Nj}{E:Value->Mc->Prop}{l:Addr}{s:Mc}
theorem km(hh:A.handled=L9)(hl:s.heap.get? l=L6 {cls:=.type "list",dict:=L9,data:=.seq xs k,slots:=sl})
  (hn:ps.length=xs.size) (hz:ps.length<=100) (hT:∀(j:Nat) (x:Bs×Value),ps[j]?=L6 x->∃v:Value,xs[j]?=L6 v/\∃(t:Addr) (o:Obj) (n:Nat) (tk:Tok),v=.ref t/\s.heap.get? t=L6 o/\o.cls=.type "tuple"/\o.data=.seq #[.bytes x.1.toArray tk,x.2] n)
  (h:∀h' tk,h'.DictOf (Og prog w) s.heap.objs.size (merged [] ps)->(∀b o,s.heap.get? b=L6 o->h'.get? b=L6 o)->Q (.ref s.heap.objs.size) {s with heap:=h',toks:=tk}) :
  MJ (Mh prog w) A (call (.type "dict") [.ref l]) Q E s:=by
 refine callType_codes (Q₁:=λ obj s₁=>obj=.ref s.heap.objs.size/\s₁={s with heap:=s.heap.push {cls:=.type "dict",data:=.dict #[] } }) F.kt_called_dict (F.kt_typeCall_dict_1 _) F.entry_dict_init (kt_code_dict_new _ ⟨rfl,rfl⟩) ?_;rintro obj s₁ ⟨rfl,rfl⟩;have hnew:(s.heap.push {cls:=.type "dict",data:=.dict #[] }).DictOf (Og prog w) s.heap.objs.size []:=M4.DictOf.new s.heap;have hl':(s.heap.push {cls:=.type "dict",data:=.dict #[] }).get? l=L6 {cls:=.type "list",dict:=L9,data:=.seq xs k,slots:=sl}:=Mb _ hl;refine⟨hnew.typeIs,F.args_dict_init_2 _ _,?_⟩;unfold Builtin.«dict.__init__»;refine Me ?_;unfold Builtin.Dict.selfAndRest;refine Me (wpAny_notOrdered_dict hnew.typeIs ?_);refine(?_:MJ _ _ (Nx (s.heap.objs.size,[Nq l])) _ _ _);refine Mp<|(?_:MJ _ _ (OD "dict.__init__" s.heap.objs.size (.ref l) [] .none) _ _ _)
 unfold OD;refine Me (wpAny_typeOf (T:="list") ⟨_,hl',rfl⟩ ?_);refine ac (if_pos (by decide))<|wpAny_bind (tY hl' (show A.in1.in1.handled=L9 by simpa using hh) λ h₁ Rb e ne=>?_);have hd₁:=fC hnew λ o e=>ne.keeps _ o e;have Rx:h₁.IsList l xs:=⟨_,ne.keeps _ _ hl',rfl,k,rfl⟩
 refine Me (Pb (Me (wpAny_pyIter_list Rx ?_)));have hi:s.heap.objs.size<h₁.objs.size:=by
  refine ag (MY.mp hd₁) λ o g zz=>Mv g
 have hlt:l<s.heap.objs.size:=Mv hl;refine Mp ⟨plainId_quiet dB _,?_⟩;refine kg (by simpa using hh) (Mi (NM hlt hi)) (Mi hi) (Nat.ne_of_gt hlt) ps 0 0 _ [] _ (by refine ac (Pk _) ?_;exact hn) (λ j x hx=>?_) ⟨_,Nh _ rfl,rfl,rfl⟩ (Rx.push _) (fC hd₁ λ o e=>Mb _ e) (by refine ac OO (ac (Pk _) ?_);exact hz) λ s' hm hD=>?_
 ·(refine nr (hT j x hx) λ v e t o n tk Re g hc hd=>?_;obtain rfl:=Re);refine ac (Pk _)<|⟨_,e,⟨t,o,n,tk,rfl,Mb _ (ne.keeps _ _ (Mb _ g)),hc,hd,Mi (Mv g),Mi (NM (Mv g) hi)⟩⟩
 ·obtain⟨h',g',d',tk',os'⟩:=s';obtain rfl:g'=s.gens:=hm.gens;obtain rfl:d'=s.drawn:=hm.drawn;obtain rfl:os'=s.os:=hm.os;refine⟨rfl,h h' tk' hD λ b o g=>hm.heap b o (λ q=>?_) (Mb _ (ne.keeps _ _ (Mb _ g)))⟩;have hb:=Mv g;rcases Mj.mp q with q|q
  ·exact NS _ (q▸hb)
  ·exact NS _ (NM hi (Ma.mp q▸hb))
end
noncomputable def EF(vE v:AV)(M:aS)(p q:Option (List UInt8))(X:List AO):St:=⟨eU v,bu (lC L9 (.obj 11) vE) M p q X++(r8 (11+X.length) M).take 7,L8⟩
theorem LL(n:Nat)(xx:Nat->AO)(M:aS)(p q:Option (List UInt8))(vE v:AV):(cQ xx).map (λ X=>(aC aM (n+20)).ev 40 Gn (sA L9 (.obj 11) vE v M p q X))=mp (λ X=>L6 (.obj (11+X.length+6),EF vE v M p q X)) (cQ xx):=by kernel_rfl
theorem vM:a8 tK=.Call (a8 (gZ 202 608 34 38)) [a8 Gn] [] (pZ 608 34 86):=by kernel_rfl
section
variable{c:Cx}{d:Nat}{ρ:RR}{σ:St}{s:Mc}
theorem qg(R:au c ρ σ s)(e:σ.obs[i]?=L6 (.tup [.byt t,.obj j]))(x:Is ρ (.obj i) v):∃u,Is ρ (.obj j) u/\∃(a:Addr) (o:Obj) (n:Nat) (tk:Tok),v=.ref a/\s.heap.get? a=L6 o/\o.cls=.type "tuple"/\o.data=.seq #[.bytes t.toArray tk,u] n:=by
 (refine rC.el (R.obj e x) λ τ a PZ Qb _ _=>?_;obtain rfl:=PZ;obtain⟨vs,n,cl,y⟩:=Qb);(revert y;refine λ P3=>ao P3 λ v1 vs PZ Qb y=>?_;clear P3;obtain rfl:=PZ;obtain⟨tk,rfl⟩:=Qb);(refine ao y λ u vs PZ z QS=>?_;clear y;obtain rfl:=PZ;obtain rfl:=QS);exact⟨u,z,(cK a _ n tk ⟨rfl,cl.g,rfl,rfl⟩)⟩
theorem yO(C:aQ c d)(R:au c ρ σ s)(e:σ.obs[n]?=L6 (.lst [.obj (N+1),.obj (N+3),.obj (N+5)]))(x:Is ρ (.obj n) (.ref l))(e1:σ.obs[N+1]?=L6 (.tup [.byt tR,.obj N]))(e2:σ.obs[N+3]?=L6 (.tup [.byt tP,.obj (N+2)]))(e3:σ.obs[N+5]?=L6 (.tup [.byt tO,.obj (N+4)])) :
  W c (call (.type "dict") [.ref l]) (PE c ρ {σ with obs:=σ.obs++[.dic [(tR,.obj N),(tP,.obj (N+2)),(tO,.obj (N+4))]] } (.obj σ.obs.length)) s:=by
 (refine rC.el (R.obj e x) λ τ a ea Qb _ _=>?_;obtain⟨vs,k,cl,y⟩:=Qb);obtain rfl:=M5 ea;(revert y;refine λ P3=>ao P3 λ w1 vs PZ y1 y=>?_;clear P3;obtain rfl:=PZ);(revert y;refine λ P3=>ao P3 λ w2 vs PZ y2 y=>?_;clear P3;obtain rfl:=PZ);(refine ao y λ w3 vs PZ y3 QS=>?_;clear y;obtain rfl:=PZ;obtain rfl:=QS);refine ag (qg R e1 y1) λ u1 z1 T1=>ag (qg R e2 y2) λ u2 z2 T2=>ag (qg R e3 y3) λ u3 z3 T3=>ah (km (ps:=[(tR,u1),(tP,u2),(tO,u3)]) rfl cl.g rfl (show 3<=100 by decide) (λ j p hp=>?_) λ h' tk D g=>?_)
 ·match j,hp with
  | 0,hp=>exact sI hp▸⟨w1,rfl,T1⟩
  | 1,hp=>exact sI hp▸⟨w2,rfl,T2⟩
  | 2,hp=>exact sI hp▸⟨w3,rfl,T3⟩
 ·refine ag (MY.mp D) λ ob gd hd=>⟨ρ.psh s.heap.objs.size,RR.Le.psh,au.push C R (one s.heap.objs.size) g (λ b j e=>?_) λ τ h=>(aq ob _ ⟨⟨gd,h _ 0 (if_pos rfl)⟩,hd,(ay.k ⟨rfl,z1.mono RR.Le.psh⟩ (ay.k ⟨rfl,z2.mono RR.Le.psh⟩ (ay.k ⟨rfl,z3.mono RR.Le.psh⟩ rfl)))⟩),⟨_,rfl,?_⟩⟩
  ·(refine aD (gL e) λ Qc P2=>?_;obtain rfl:=Qc;clear P2);exact⟨Mm _,by refine ac gd ?_;rfl⟩
  ·refine bP R.size ?_;exact cD
end
theorem zD:yo:=λ sh M p q v ok c ρ s C hm R=>by
 refine aA (oB sh) λ xx hX=>?_;have hm:((cf c.cs .globalImplicit 202&&L7)&&(cv c.cs Gn&&L7))=L7:=hm;refine af hm λ m1 m2=>af m1 λ m1 zz=>af m2 λ m2 zz=>ac vM (ac (bn rfl _ _ _) ?_);refine aj (aK ((bp bc 1).ev 40 (gZ 202 608 34 38) (sA L9 (.obj 11) (cR sh) v M p q (b6 sh)) (.val (.type "dict"),sA L9 (.obj 11) (cR sh) v M p q (b6 sh)) c ρ s (by kernel_rfl) C m1 R) λ fv s₁ z=>?_);(refine PE.el z λ PY P1 R₁ P7=>?_;clear z);obtain rfl:fv=.type "dict":=P7;have run:=am (LL 0 xx M p q (cR sh) v) (b6 sh) hX;refine c8 rfl rfl (aK (dy (P:=λ us s'=>∃ρ' u,us=[u]/\PY.Le ρ'/\au c ρ' (EF (cR sh) v M p q (b6 sh)) s'/\Is ρ' (.obj (11+(b6 sh).length+6)) u) rfl ?_) λ a s' z=>?_)
 ·refine ac (j6 _ _ _)<|bd ((bp bc 20).ev 40 Gn _ _ c PY s₁ run C m2 R₁) λ u s' z=>cr ?_;(refine PE.el z λ P5 P8 P4 Qi=>?_;clear z);exact(aq P5 u ⟨rfl,P8,P4,Qi⟩)
 ·(refine ug z λ ek P5 u eu P8 P4 Qi=>?_;clear z);refine ac ek (ac eu ?_);(refine ag Qi λ l P2 hl=>?_;clear Qi;obtain rfl:=P2);have hn:(bu (lC L9 (.obj 11) (cR sh)) M p q (b6 sh)).length=11+(b6 sh).length:=by
   refine(?_:(_++b6 sh).length=_);refine ac Mf ?_;rfl
  have at_:∀{i:Nat} {o:AO},((r8 (11+(b6 sh).length) M).take 7)[i]?=L6 o->(EF (cR sh) v M p q (b6 sh)).obs[11+(b6 sh).length+i]?=L6 o:=λ{i o} h=>by
   show(bu (lC L9 (.obj 11) (cR sh)) M p q (b6 sh)++_)[_]?=_;refine bP hn (ac (MG (Mt _ _)) (ac (MF _ _) (ac hn ?_)));exact h
  have z:=W.from (P1.trans P8) (yO (N:=11+(b6 sh).length) C P4 (at_ rfl) ⟨l,rfl,hl⟩ (at_ rfl) (at_ rfl) (at_ rfl));have q1:(EF (cR sh) v M p q (b6 sh)).obs.length=11+(b6 sh).length+7:=by
   refine(?_:(bu (lC L9 (.obj 11) (cR sh)) M p q (b6 sh)++_).length=_);refine ac Mf (ac hn ?_);rfl
  have q2:({EF (cR sh) v M p q (b6 sh) with obs:=(EF (cR sh) v M p q (b6 sh)).obs++[.dic [(tR,.obj (11+(b6 sh).length)),(tP,.obj (11+(b6 sh).length+2)),(tO,.obj (11+(b6 sh).length+4))]] }:St)=EG L9 (.obj 11) (cR sh) v M p q (b6 sh):=by
   refine(?_:(⟨_,bu (lC L9 (.obj 11) (cR sh)) M p q (b6 sh)++_++[_],_⟩:St)=_);refine ac (Mk _ _ _) ?_;rfl
  rw[q1,q2] at z;exact z
section
set_option tactic.hygienic true
section
variable{prog:Nb}{w:MO}{A₀ A:Nj}{s:Mc}{base h₀:M4}{outer:List Env}{L:Addr}{m:Str->Option Value}{env:Env}{K:Ny}{p:Nb}{loose:List Str}{mean:O8->Option Value}{mg mb:Str->Option Value}
 {R:Nt->Mc->Prop} {name qual:Str} {params:Arguments} {body:List Stmt} {scope:Scope} {dV kV doc pm Qr ct oc:Value} {an od:Option Addr} {QP:Array (Option Value)} {f:Addr} {args:Args}
theorem w5(Qk:K.In s.heap)(T:Top p loose mean mg mb s.heap)
  (ho:K.lookup f=L6 ⟨oc,od,.func (fnOf name qual params body scope dV kV doc pm an Qr ct),QP⟩) (hcd:codeIn K Qr qual=L7) (QA:A.depth<NB)
  (binds:List (Str×Value)) (QH:PN s (fnOf name qual params body scope dV kV doc pm an Qr ct) args binds) (hkind:(binds.all λ y=>scope.names.lookup y.1==L6 .local||scope.names.lookup y.1==L6 .cell)=L7)
  (Sc:((NR 0 scope.names []).map (·.1)).Nodup)
  (h:∀L' h₁ tk cells,Fr s.heap L' h₁ (bindL (OY qual scope L' f Qr).kindOf binds λ _=>L9)->Pj s.heap L' h₁ cells->
   CellsAre (bindC (OY qual scope L' f Qr).kindOf binds λ _=>L9) (NR (L'+1) scope.names []) cells->
   aB (Mh prog w) (A.deeper (OY qual scope L' f Qr)) (Na body (OY qual scope L' f Qr))
    (λ fl s'=>R (.ok (.ret (match fl with|.ret v=>v|_=>.none))) s')
    (λ e s'=>MJ (Mh prog w) (A.deeper (OY qual scope L' f Qr)) (leaving (OY qual scope L' f Qr) e) (λ _ s''=>R (.error e) s'') (λ e' s''=>R (.error e') s'') s')
    {s with heap:=h₁,toks:=tk})
  (hco:scope.isCoroutine=L8) (QO:scope.isGenerator=L8) (hk:scope.kind=.function):aL (Mh prog w) A (.call (.ref f) args) R s:=by
 refine b5 QA (Qk _ _ ho) rfl hco QO rfl (codeRec_of Qk hcd) (QH _ _ _ _ ?_);refine wpAny_newFunctionEnv_cells hk (kindsX hkind _) λ env' he s' x=>?_;subst he;refine⟨T.nolimit.keeps x.toInCall.keep,ki ?_⟩;(refine aZ x.done λ h₁ tk PZ _=>?_;obtain rfl:=PZ);have hk₁:=x.toInCall.keep;refine ag (Cl.news (h₀:=s.heap) (Mm _) λ n c hm=>⟨x.cell n c (lookup_of_mem_nodup (cellsFrom_names scope.names 0 (s.heap.objs.size+1) [] [] rfl▸Sc) hm),x.above n c hm⟩) λ cells NC Y=>h s.heap.objs.size h₁ tk cells ⟨x.toInCall.ns,hk₁,Mm _⟩ NC Y
end
end
noncomputable abbrev qG:List (Addr×Addr):=[(837,835)]
noncomputable def u8(w:MO)(loose:List Str)(mean:O8->Option Value)(mg mb:Str->Option Value)(qual:Str)(scope:Scope)(L' f:Addr)(Qr:Value)(s:Mc)(RT:Nt->Mc->Prop):Cx:=
 {w:=w,prg:=topProg,loose:=loose++(recsOf hd.view_39).map (·.name)++(litsOf hd.view_39).map (·.1)++(clssOf hd.view_39 loose).map (·.name),mean:=mean,mg:=mg,mb:=mb,dp:=NQ.depth+1,un:=NQ.units+3,gd:=L6 [],cn:=qual,fs:=scope,fL:=L',cs:=scope,L:=L',a:=f,ccd:=Qr,cl:=NR (L'+1) scope.names [],vq:=qual++".<locals>.",vf:=L6 f,vc:=NR (L'+1) scope.names [],outer:=[],
  A₀:=NQ,base:=PH s.heap qG,h₀:=PH s.heap qG,s:=s,fx:=λ zz zz zz=>False,
  E:=λ e s'=>MJ (Mh Mo.prog w) (NQ.deeper (OY qual scope L' f Qr)) (leaving (OY qual scope L' f Qr) e) (λ zz s''=>RT (.error e) s'') (λ e' s''=>RT (.error e') s'') s'}
structure rA(c:Cx)(Qj:Mc)(fd:FD):Prop where
 s:c.s=Qj
 h:c.h₀=PH Qj.heap qG
 b:c.base=c.h₀
 o:c.outer=[]
 l:c.fL=c.L
 e:c.env=c.fenv
 a₀:c.A₀.frames=L6 c.outer
 nP:∀o k,¬c.fx 835 o k
 cd:c.ccd=.ref 837
 lc:∀i∈fd.ps,c.cs.names.lookup (nm i)=L6 .local\/i∈fd.cel
 ce:∀i∈fd.cel,c.cs.names.lookup (nm i)=L6 .cell
noncomputable def z0:Fz:=⟨λ zz zz=>False,λ zz=>L9⟩
noncomputable def RW:RR:=⟨[],z0⟩
noncomputable def So(b:Addr):bo:=if b=835 then(1,3) else(0,0)
theorem Q5(q:(So b).1≠0):b=835:=OI λ z=>q (congrArg Mn (if_neg z))
theorem Gq(hp:h.get? 835=L6 (MK #[]))(own:rB c.h₀ c.L h 835)(hf:∀a o k,c.fx a o k->a=835/\o=MK #[]/\k=2):aR c h So RW [] L8 where
 N:=λ b q=>by refine ac (Q5 q) ?_;exact own
 Y:=λ b k j q=>by
  have e:=Q5 (b:=b) (by refine ac q ?_;exact ND _);rw[e,show So 835=(1,3) from if_pos rfl] at q;exact nq (NF (congrArg Mn q)) rfl
 sz:=rfl
 O:=λ zz zz e=>dC e
 Z:=λ zz zz z=>False.elim z
 X:=λ a o k z=>by
  (refine cg (hf a o k z) λ Qc P2 PZ=>?_;obtain rfl:=Qc;obtain rfl:=P2;obtain rfl:=PZ);exact⟨hp,if_pos rfl⟩
 B:=λ zz zz z=>dC z
@[elab_as_elim] theorem Js {P:Addr×Obj->Prop} (hP:h.get? 835=L6 (MK #[])) (k:P (835,MK #[])) (p:Addr×Obj) (hp:p∈own h So):P p:=by
 refine aD (bj.mp hp) λ q e=>?_;obtain⟨b,ob⟩:=p;obtain rfl:b=835:=Q5 q;obtain rfl:=sI (hP.symm.trans e);exact k
theorem EZ{loose:List Str}(hF:pO f n fd)(Qk:(hd.heap_39 w.params).In s.heap)(T:Top hd.view_39 loose mean mg mb s.heap)(hz:@LT.lt Nat _ 64 s.heap.objs.size)(hP:s.heap.get? 835=L6 (MK #[]))
  (hcd:∀oc od QP (g:FuncData),(hd.heap_39 w.params).lookup f=L6 ⟨oc,od,.func (uE g (ba fd.body)),QP⟩->g.code=.ref 837)
  (hd:NQ.depth+1+d'<NB) (hu:NQ.units+3+(10*d'+100)<cLine) (x:IsL RW avs us) (hn:avs.length=n)
  (body:∀(c':Cx) PY s',aQ c' d'->rA c' s fd->c'.w=w->bz c'.cs fd.body=L7->au (c'.hold 835 (MK #[]) 2) PY ⟨lg fd (avs++fd.dfl) 0,iu fd (avs++fd.dfl),L8⟩ s'->W c' (Na (ba fd.body) c'.env) (λ fl s''=>RT (.ok (.ret (GT fl))) s'') s') :
  aL (Mh Mo.prog w) NQ (.call (.ref f) ⟨us,[]⟩) RT s:=by
 refine ET.el (hF w) λ oc od QP g e1 e2 e3 k co ge cn lc nd nc ln ce b=>?_;refine ag (b s us Qk (x.len.trans hn)) λ ds h1 h2=>?_;refine w5 (A:=NQ) Qk T e1 e2 (by decide +kernel) _ h2 ?_ (by refine ac cn ?_;exact gE nc) (λ L' h₁ tk cells F' N' Y=>?_) co ge k
 ·exact we lc ce
 ·have hT:TabsAt qG s.heap:=λ q hq=>by
   refine ac (Ma.mp hq) ?_;exact⟨codeHd_of_K Qk (by kernel_rfl),hP⟩
  have B':Below NQ (PH s.heap qG) [] (PH s.heap qG):=ghost_below hT;have hL:@LE.le Nat _ s.heap.objs.size L':=F'.above;have N':=ghost_news hT F' N';have F':=ghost_fr hT F';have QJ:(NR (L'+1) g.scope.names []).map (·.1)=fd.cel.map nm:=by refine bP cn ?_;exact cellsFrom_names _ _ _ _ _ rfl
  refine aD (gW g.scope.names (L'+1) [] (L'+1) (λ zz h=>ni h) (Mm _) .nil) λ ad1 ad2=>?_;have xs:IsL RW (avs++fd.dfl) (us++ds):=x.app (h1 RW);have hlen:fd.ps.length=(avs++fd.dfl).length:=by refine ac Mf (ac hn ?_);exact ln
  have kN:((NR (L'+1) g.scope.names []).map (·.1)).Nodup:=by refine ac QJ ?_;exact gE nc
  have h8:@LT.lt Nat _ 835 L':=M7 (Mv hP) hL;have K₁:=pj (c:=(u8 w loose mean mg mb g.qualname g.scope L' f g.code s RT).hold 835 (MK #[]) 2) (c':=(u8 w loose mean mg mb g.qualname g.scope L' f g.code s RT).hold 835 (MK #[]) 2) (os':=iu fd (avs++fd.dfl)) hz rfl rfl (Gq hP ⟨by refine ac hP ?_;rfl,Mi h8,OQ _ (.head _)⟩ λ a o k z=>z.elim False.elim id) (λ p hp=>(No.mp hp).elim (λ hp=>N' p (MS _ hp)) λ hp=>Js hP (N' _ (Ml _ (.head _))) p hp) (xw λ p hp=>ME hL (Nat.le_of_succ_le (ad1 p hp))) ad2 (BI Y) (xq QJ) λ j o e=>sW (λ zz=>rfl) QJ ad2 ce nd hlen xs Y (λ p hp=>(N' _ (MS _ hp)).1) e;exact body (u8 w loose mean mg mb g.qualname g.scope L' f g.code s RT) ⟨([]:List Addr)++(NR (L'+1) g.scope.names []).map (·.2),z0⟩ {s with heap:=h₁,toks:=tk} ⟨B'.stays,λ h m F=>(Below.ff B' rfl k).1 h m F,λ h nw N=>(Below.ff B' rfl k).2 h nw N,ghost_K hT Qk (by kernel_rfl),ghost_top hT T,k,hd,hu,Ol,xp QJ ce,xr kN⟩ ⟨rfl,rfl,rfl,rfl,rfl,rfl,B'.stack,λ zz zz z=>z,hcd _ _ _ _ e1,lc,ce⟩ rfl e3 ⟨_,_,F',λ i a e=>sU (ρ:=RW) (λ zz=>rfl) QJ kN lc nd hlen xs rfl e,K₁,⟨rfl,rfl,rfl⟩⟩
section
set_option tactic.hygienic true
theorem Du:∀w:MO,nsIn (hd.heap_39 w.params) O1 (nm 48)=L6 (L6 (.ref 838)):=λ w=>by kernel_rfl
noncomputable def iK:FD:=⟨[139],[],bh,[141,129,195,194,132]⟩
theorem LA (H:∀(w:MO) (s₁:Mc) (loose:List Str) (mean:O8->Option Value) (mg mb:Str->Option Value) (l:Addr) (vs:List Value) (ns:List Int),(hd.heap_39 w.params).In s₁.heap->Top hd.view_39 loose mean mg mb s₁.heap->s₁.heap.IsList l vs.toArray->PM vs ns->ns.length<=63->s₁.heap.get? 835=L6 (MK #[])->
  ∀R:Nt->Mc->Prop,(∀s',s'.gens=s₁.gens->s'.drawn=s₁.drawn->s'.os=s₁.os->OldK s₁.heap s'.heap->R (.ok (.ret (.bool L7))) s')->aL (Mh Mo.prog w) NQ (.call (.ref 838) ⟨[.ref l],[]⟩) R s₁):Mo.Holds:=by
 refine hd ?_;intro w Qj s₁ mg mb G hY a o pm cd doc dV kV hget hdat hcode hdfl hdef hgens args vals as hpre hlay hrd hwl hlo;have Qk:(hd.heap_39 w.params).In s₁.heap:=hY.1;have T:=G.T;have ea:a=838:=M5 (sI (hdef.symm.trans (mg_of Qk (topRead_of T).g (Du w))));clear hdat hdef hdfl hget hcode;subst ea;wrow_args hpre hlay hrd hwl hlo
 rename_i ns _ _ _ _ _ _ _ l vs _ hL _ _ _ hI _ hc _;refine bB (H w s₁ _ _ mg mb l vs ns Qk T hL hI (by omega) (km_tabs_of hY 835 (by simp)) _ λ s' g d o k=>?_);exact⟨.inl (aI (.bool L7) (.bool L7) ([]) ⟨rfl,λ zz=>rfl,.bool L7,(by wrow_post),λ zz=>⟨.nil,λ zz h=>(by cases h)⟩⟩),k,o,.of_eq (by refine ac g ?_;exact hgens)⟩
end
noncomputable def DR:X:=.bin .Mod (.call (gZ 204 601 15 18) [lZ 136 601 19 25] (pZ 601 15 26)) (.int 1000000007 0 (pZ 601 29 39)) (pZ 601 15 39)
noncomputable def JJ:X:=.sl (lZ 139 601 54 60) L9 (L6 (.int 6 0 (pZ 601 62 63))) (pZ 601 61 63) (pZ 601 54 64)
noncomputable def Gh:List (Nat×NameKind):=[(136,.local),(204,.globalImplicit)]
noncomputable def JG:X:=.lc DR (.one 136 (pZ 601 44 50)) JJ L9 Gh [] (pZ 601 14 65)
theorem LD:iT (sN bh 0)=.Assign [.Name (nm 140) (pZ 601 4 11)] (a8 JG) (pZ 601 4 65):=by kernel_rfl
noncomputable def mN(k:Int):AV:=.int (k%1000000007)
theorem Bx:∀(ks:List Int) (σ:St),∃loc',sx aM (.one 136 (pZ 601 44 50)) [] (kN (aC aM 5) d L9) ((aC aM 5).ev d DR) (ks.map .int) σ=L6 (ks.map mN,{σ with loc:=loc'})
 | [],σ=>⟨σ.loc,rfl⟩
 | k::ks,σ=>by
  refine aA (Bx (d:=d) ks ⟨[(136,.int k)],σ.obs,σ.ph⟩) λ l h=>⟨l,?_⟩
  refine(?_:(sx aM (.one 136 (pZ 601 44 50)) [] (kN (aC aM 5) d L9) ((aC aM 5).ev d DR) (ks.map .int) ⟨[(136,.int k)],σ.obs,σ.ph⟩).map (λ r=>(mN k::r.1,r.2))=_);refine ac h ?_;rfl
theorem z8(h:PM vs ns):IsL ρ (ns.map .int) vs:=by
 induction h with
 | nil=>rfl
 | cons n t _ ih=>exact(ay.k ⟨t,rfl⟩ ih)
section
variable{c:Cx}{d:Nat}{ρ:RR}{σ:St}{s:Mc}{l:Addr}{vs:List Value}{ns:List Int}
theorem GD(C:aQ c d)(R:au c ρ σ s)(hl:σ.loc.lookup 139=L6 (.val (.ref l)))(hm:cv c.cs (lZ 139 601 54 60)=L7)(hL:c.h₀.IsList l vs.toArray)(hI:PM vs ns)(hn:ns.length<=63):W c (MN (a8 JJ) c.env) (PE c ρ σ (.pv (.seq L7 ((ns.take 6).map .int)))) s:=by
 refine dZ ((bp bc 1).ev d (lZ 139 601 54 60) σ (.val (.ref l),σ) c ρ s (by refine(?_:(σ.loc.lookup 139).map _=_);refine ac hl ?_;rfl) C hm R) λ v s₁ z=>?_;(refine PE.el z λ PY P1 R₁ P7=>?_;clear z);obtain rfl:v=.ref l:=P7;refine oj (rH (x:=L9) (bp bc 1).ev C rfl rfl R₁) λ w' P0 z=>?_;(refine PO.el z λ P5 P8 P4 Qi=>?_;clear z);refine aK (rH (x:=L6 (.int 6 0 (pZ 601 62 63))) (bp bc 1).ev C rfl rfl P4) λ z s₃ w=>?_;(refine PO.el w λ Qf Qh Qe QG=>?_;clear w);obtain rfl:w'=.none:=Qi;obtain⟨t,rfl⟩:∃t,z=.int 6 t:=QG;have Sd:s₃.heap.IsList l vs.toArray:=by
  refine ag hL λ o g r=>⟨o,Qe.keep g,r⟩
 refine lA.el Qe.led λ m nw F N k k'=>?_;have hz:vs.toArray.size<=sizeLine:=by refine ac Nw (ac hI.length ?_);exact bY (ME hn (by decide))
 refine ah (kmk_slice_lit F N Sd IsPart.none (IsPart.int 6 t) rfl (λ D h' F' N' lt=>⟨_,(P1.trans (P8.trans Qh)).trans RR.Le.ice,k' h' s₃.toks D _ F' N' lt,?_⟩) rfl (λ zz=>rfl) hz);refine aA (bA.all (IsL.plain (z8 (ρ:=Qf.ice λ a o=>a=D/\o=listOf (slicePick vs.toArray L9 (L6 6) L9).toList.toArray 0) (kmk_upto hI (by decide:(0:Int)<=6))) (eT (f:=PV.int)))) λ j w=>⟨j+1,D,0,_,rfl,.inr ⟨rfl,rfl⟩,w⟩
end
noncomputable def nK(k:Int):Nat:=(k%1000000007).toNat
noncomputable def fK(k:Int):AV:=cU (nK k/1%8) (nK k/8%8) (nK k/64%3) (nK k/192%3) (nK k/576%2) (nK k/1152%2)
theorem DK(k:Int):pM (fK k):=⟨_,_,_,_,_,_,Oa _ (by decide),Oa _ (by decide),Oa _ (by decide),Oa _ (by decide),Oa _ (by decide),Oa _ (by decide),rfl⟩
theorem G3(x:Is ρ (mN k) v):Is ρ (fK k) v:=by
 (refine aA x λ t P2=>?_;clear x;obtain rfl:=P2);refine(aq (nK k) t ⟨by rw[Nat.div_one,nK,Int.toNat_of_nonneg (Int.emod_nonneg _ (by decide))],λ x hx=>?_⟩);have:∀y∈([((1,8),nK k/1%8),((8,8),nK k/8%8),((64,3),nK k/64%3),((192,3),nK k/192%3),((576,2),nK k/576%2),((1152,2),nK k/1152%2)]:List ((Nat×Nat)×Nat)),nK k/y.1.1%y.1.2=y.2:=by
  simp only[Mj,NU,or_false,forall_eq_or_imp,forall_eq,and_self]
 exact this x hx
theorem wS:∀(ks:List Int) {vs:List Value},IsL ρ (ks.map mN) vs->IsL ρ (ks.map fK) vs
 | [],_,h=>h
 | k::ks,_,h=>by
  (revert h;refine λ P3=>ao P3 λ v vs PZ x h=>?_;clear P3;obtain rfl:=PZ);exact(aq v vs ⟨rfl,G3 x,wS ks h⟩)
theorem G1(ks:List Int):Wk (.lst (ks.map mN)) (.lst (ks.map fK)):=λ w fx h τ ρ k a x=>by
 refine aZ x λ vs n cl x=>(aq vs n ⟨cl,wS ks x⟩)
section
variable{c:Cx}{ρ:RR}{s:Mc}{l:Addr}{vs:List Value}{ns:List Int}
noncomputable def zl(l:Addr):St:=⟨lg iK [.val (.ref l)] 0,iu iK [.val (.ref l)],L8⟩
theorem CK(C:aQ c 40)(hm:cf c.cs .local 140=L7)(hm':cv c.cs (lZ 139 601 54 60)=L7)(hL:c.h₀.IsList l vs.toArray)(hI:PM vs ns)(hn:ns.length<=63)(R:au c ρ (zl l) s) :
  W c (Ov (iT (sN bh 0)) c.env) (λ fl s'=>fl=.next/\∃ρ' QF,(∀v∈QF,pM v)/\au c ρ' ⟨Dp (.ref l),Dg QF,L8⟩ s') s:=by
 refine ac LD ?_;have sw:Py (a8 JG) (L6 (.Name (nm 140) (pZ 601 4 11))) 601 c.env=Nx L7:=by
  refine(?_:(Nx ((if c.cs.kind.isAnnotationScope then O3 else c.cs.kind)==.function&&c.cs.names.lookup (nm 140)==L6 .local&&L7&&!_):Sem Bool)=_);refine ac C.hk (ac ((cB hm).1) ?_);kernel_rfl
 refine ac (exec_Assign_Name_used _ _ _ _ sw)<|aw (aj ?_);refine(?_:aB c.M c.A (OF (a8 JG) (lH Gh) c.env (pZ 601 54 64) (PF []) L8 (MN (a8 JJ) c.env) (L6 (assign (.Name (nm 140) (pZ 601 4 11)) c.env)) >>= λ zz=>Nx ()) _ _ s);refine aA (Bx (d:=40) (ns.take 6) (zl l)) λ loc' h3=>aj (A7 (p:=(.pv (.seq L7 ((ns.take 6).map .int)),zl l)) (q:=((ns.take 6).map .int,(zl l).obs)) bc (bp bc 5).ev (bp bc 5).ts C (GD C R rfl hm' hL hI hn) (by
  refine(?_:L6 (((ns.take 6).map PV.int).map ofP,_)=_);refine ac MH ?_;rfl) (by refine ac (Md _) (ac NV ?_);lia) h3 rfl rfl rfl rfl λ D C' s' m' f hns z=>?_)
 (refine Ig.el z λ ρ' ys e R' g x n sm=>?_;clear z);refine bw hns λ oC es ep hC hr=>?_;have nf:∀p k,¬c.fx C' p k:=λ p k w=>by
  (refine aX.el R' λ m τ F L K r t=>?_;clear R');exact absurd (congrArg Mn (K.X C' p k w).t) (by refine ac ((t C' (.inr rfl)).1) ?_;exact λ z=>(nq z rfl))
 have R2:=(R'.hold (.inr rfl) 2 hC).psh (o:=.lst ((ns.take 6).map mN)) ⟨.inl rfl,n⟩ sm g λ τ cl=>(aq ys _ ⟨cl,x.imp λ zz zz z=>z.mono RR.Le.psh⟩)
 refine Me (Nf λ Γ p Qp=>?_);refine ac (Sem.wp_bindName _ _ _ _ _ _ _ _ _)<|(n9 (c:=c.hold C' oC 2) (i:=140) C.hold R2 hm (a:=.obj 5) ⟨D,rfl,by refine ac (show 5=ρ'.ad.length from R'.rel.size.symm) ?_;exact cD⟩ λ s'' R3=>?_) Γ p Qp;refine aD (R3.toN.drop nf (by decide)) λ R4 g4=>⟨m',(aI oC es ep ⟨g4,hr⟩),λ h' hs=>al (al ⟨rfl,(aq (ρ'.psh D) ((ns.take 6).map fK) ⟨λ v hv=>?_,?_⟩)⟩)⟩
 ·(refine ag (Mu.mp hv) λ k zz PZ=>?_;obtain rfl:=PZ);exact DK k
 ·exact(R4.but (h':=h') (k:=s''.toks) (.inr rfl) λ b o hb e=>(hs.2 b λ z=>hb (Ma.mpr z)).trans e).rel.wk (os₁:=Dg ((ns.take 6).map fK)) (ay.k Wk.refl (ay.k Wk.refl (ay.k Wk.refl (ay.k Wk.refl (ay.k Wk.refl (ay.k (G1 _) rfl))))))
end
section
variable{prog:Nb}{w:MO}{A:Nj}{E:Value->Mc->Prop}{h:M4}{g:Array GenState}{d:Drawn}{t:Nat}{os:OsState}{K:Ny}{C C2 e:Addr}{cd:ClassData}{name:Str}{v:Value}{vs:Array Value}
theorem t9(X:K.In h)(hcls:clsIn K C=L6 cd)(hmro:cd.mro=[.ref C,.ref C2,.type "Exception",.type "BaseException",.type "object"])(hhd:cd.hasDict=L7)
    (hs:Ou K (.ref C) "__setattr__"=L6 (L6 (.builtin "object.__setattr__"))) (hn:Ou K (.ref C) name=L6 L9) (hx:h.get? e=L6 {cls:=.ref C,data:=.fields vs})
    (hq:∀h' tk',h'.get? e=L6 {cls:=.ref C,dict:=L6 h.objs.size,data:=.fields vs}->(∀b o,b≠e->h.get? b=L6 o->h'.get? b=L6 o)->Q () ⟨h',g,d,tk',os⟩) :
    MJ (Mh prog w) A (setAttr (.ref e) name v) Q E ⟨h,g,d,t,os⟩:=by
  have I:InstAt h e {cls:=.ref C,data:=.fields vs} C L9:=⟨hx,rfl,rfl,trivial⟩
  refine set_plain (s:=⟨h,g,d,t,os⟩) X I hs ?_;have SF:=PySem.F.store_Exception;have hm:OT (Mh prog w) h (mroOf (.ref C)) cd.mro:=(looks_clsIn X hcls).andThen .now;have sub:OT (Mh prog w) h (isInstance (.ref e) (.type "object")) L7:=I.type.andThen (looks_mroIn X (by unfold mroIn;rw[hcls,Option.bind_some,hmro];rfl));refine codeAny_call_builtin SF.slot.plain SF.entry (@check_slot (Mh prog w) _ _ ⟨h,g,d,t+1,os⟩ "object.__setattr__" "object" "__setattr__" (.ref e) [.str name t,v] [] _ SF.kind SF.split sub (SF.args (.ref e) (.str name t) v) ?_);rw[osa_eq,refuse_eq];refine Me (Me (I.type.here (Me (hm.here ?_))));rw[hmro,refuseLoop_ref,refuseLoop_ref,SF.passes];refine Mp (Me (I.type.here (Me ((OP X hn).here (Me (Mp ?_))))));refine Me (Mp (Me (Me (wpAny_loadPart hx (Me ((looks_clsIn X hcls).here ?_))))));rw[hhd];dsimp only;have Rv:(h.push {cls:=.type "dict",data:=.dict #[] }).get? e=L6 {cls:=.ref C,data:=.fields vs}:=Mb _ hx;have hxs:e≠h.objs.size:=Mi (Mv hx);have up:∀b o,h.get? b=L6 o->(h.push {cls:=.type "dict",data:=.dict #[] }).get? b=L6 o:=λ b o e=>Mb _ e;refine Me (wpAny_alloc' ?_);refine Me (wpAny_update' Rv ?_);refine Mp ?_;have hgd:((h.push {cls:=.type "dict",data:=.dict #[] }).update e λ o=>{cls:=o.cls,dict:=L6 h.objs.size,data:=o.data,slots:=o.slots}).get? h.objs.size
      = L6 {cls:=.type "dict",data:=.dict #[] }:=
    (Px _ _ _ _ hxs.symm).trans (M4.get?_push_at rfl rfl)
  have Sc:((h.push {cls:=.type "dict",data:=.dict #[] }).update e λ o=>{cls:=o.cls,dict:=L6 h.objs.size,data:=o.data,slots:=o.slots}).Ns h.objs.size (λ zz=>L9):=
    (aI _ (#[]) _ ⟨hgd,rfl,λ e he=>absurd he (by simp),λ zz=>rfl⟩)
  refine(?_:MJ _ _ (NY h.objs.size (.str name _) name v) _ _ _);unfold NY PX;refine Me (Mp (Me (wpAny_nsSet1 (M4.Ns1.of_empty Sc) λ h' hn' hs=>?_)));refine aP (hn'.count (Within.cons name v Within.nil)) λ oD esD epD hoD hdD hcD=>Me (wpAny_lookBehind hoD (by rw[hdD];exact pastItsLine_dict (ME hcD (by rw[MR,OO,sizeLine_eq];lia))) ?_);refine Mp (hq h' _ ?_ λ b o hb hh=>?_)
  · exact(hs.2 e hxs).trans (Heap.get?_update_self _ Rv rfl)
  · exact(hs.2 b (Mi (Mv hh))).trans ((Px _ _ _ _ hb).trans (Mb _ hh))
end
section
variable{prog:Nb}{w:MO}{A:Nj}{R:Nt->Mc->Prop}{h:M4}{g:Array GenState}{d:Drawn}{t:Nat}{os:OsState}
variable{nm q:Str}{C N:Addr}{bs bm bmB:List Value}{hdct:Bool}{sn:List Str}{sub:List Value}{ab:Bool}{col:Option Bool}{dd:Option Addr}{k0 k1 k2 k3 k5:Option Value}{B Qz initId:String}
abbrev yE(rest:List Value):Obj:={cls:=.type "tuple",data:=.seq rest.toArray}
abbrev gS(C t:Addr):Obj:={cls:=.ref C,data:=.fields #[.ref t,.none,.none,.none,.bool L8,.none] }
noncomputable abbrev FI(B:String):Manifest.Signature:=⟨.any,B,B,.cls,[⟨"args",.varPos,L8⟩,⟨"kwargs",.varKw,L8⟩]⟩
theorem uw(hs:(B != "*")=L7):Bind.checkArgs Qz (FI B) ⟨.ref C::rest,[]⟩=Nx ():=by
  refine(?_:(O9 B L7 (FI B) (L6 (.ref C)) >>= λ a=>O9 B L8 (FI B) (L6 (.ref C)) >>= λ b=>(Bind.check (FI B) a b _ []).onRaise _)=_);have e:∀wh,O9 B wh (FI B) (L6 (.ref C))=Nx B:=λ wh=>if_pos hs;rw[e,e];rfl
theorem ua(F:Om B Qz initId bmB)(rest:List Value):∃(d1 d2:Sem Unit) (K:Value->Option String->Sem Unit),NL Qz ⟨.ref C::rest,[]⟩=(isType (.ref C) >>= λ b=>if(!b)=L7 then d1 else(isSubtype (.ref C) (.type B) >>= λ b=>if(!b)=L7 then d2 else(Bind.staticBase (.ref C) >>= λ v=>Bind.madeBy v >>= K v)))/\
   ∀v,K v (L6 Qz)=Nx ():=by
  unfold NL;rw[F.newKind,F.newSplit,F.newRow];exact⟨_,_,_,rfl,λ v=>(if_neg (λ h=>ff ((bne_self_eq_false _).symm.trans h))).trans (uw F.noStar)⟩
theorem ub(F:Om B Qz initId bmB)(hb:bm.contains (.type B)=L7)(hC:h.get? C=L6 (N8 nm q C N bs bm hdct sn sub ab col dd k0 k1 k2 k3 k5 Qz))
    (hq:Q () ⟨h,g,d,t,os⟩):MJ M A (NL Qz ⟨.ref C::rest,[]⟩) Q E ⟨h,g,d,t,os⟩:=by
  have hcont:(Nq C::bm).contains (.type B)=L7:=by rw[NO,hb,Bool.or_true]
  refine bw (ua (C:=C) F rest) λ d1 d2 K e1 e2=>ac e1 (Me ?_);unfold isType;refine Me (M1 hC (Mp ?_));refine wpAny_ite_false rfl (Me (NP hC ?_));refine ac hcont (wpAny_ite_false rfl (Me (wpAny_staticBase_exc hC (Me (wpAny_madeBy_exc hC ?_)))));exact ac (e2 _) (Mp hq)
theorem Ag(F:Om B Qz initId bmB)(hb:bm.contains (.type B)=L7)(ha:bm.contains (.type "AttributeError")=L8)(hn:bm.contains (.type "NameError")=L8)(hC:h.get? C=L6 (N8 nm q C N bs bm hdct sn sub ab col dd k0 k1 k2 k3 k5 Qz))
    (hq:R (.ok (.ret (.ref (h.objs.size+1)))) ⟨(h.push (yE rest)).push (gS C h.objs.size),g,d,t,os⟩) (hrest:rest.length<=sizeLine) :
    codeAny (Mh prog w) A (.builtin Qz ⟨.ref C::rest,[]⟩) R ⟨h,g,d,t,os⟩:=by
  replace hq:=Ends.mk hq;have hends:=F.ends;have hcB:(Nq C::bm).contains (.type B)=L7:=by rw[NO,hb,Bool.or_true]
  have hcA:(Nq C::bm).contains (.type "AttributeError")=L8:=by rw[NO,ha];rfl
  have hcN:(Nq C::bm).contains (.type "NameError")=L8:=by rw[NO,hn];rfl
  refine codeAny_builtinAt F.entry ?_;unfold Builtin.«BaseException.__new__»;refine PP<|(?_:PySem.wpAt _ _ _ (stack >>= _) _ _ _)
  refine PP (PySem.wpAt_stack λ p below=>Pn ?_);wp_walk
  refine Pn ?_;rw[F.owner];repeat (first|with_reducible refine wpAny_madeHere_exc F.canon hC ?_|with_reducible refine M1 hC ?_|(with_reducible refine NP hC ?_;first|rw[hcB]|rw[hcA]|rw[hcN])|wp_step)
  refine(?_:R _ _);rw[Oi];exact hq.out
theorem wV(F:Om B Qz initId bmB)(hb:bm.contains (.type B)=L7)(ha:bm.contains (.type "AttributeError")=L8)(hn:bm.contains (.type "NameError")=L8)
    (hC:h.get? C=L6 (N8 nm q C N bs bm hdct sn sub ab col dd k0 k1 k2 k3 k5 Qz)) (hi:OT (Mh prog w) h (Pd (.ref C) "__init__") (L6 (.ref f))) (hbi:∀self,OT (Mh prog w) h (bindSpecial (.ref f) self) (.ref f,[self])) (hrest:rest.length<=sizeLine)
    (hq:codeAny (Mh prog w) (A.under (.builtin "type.__call__" ⟨.ref C::rest,[]⟩)) (.call (.ref f) ⟨.ref (h.objs.size+1)::rest,[]⟩) (InitBack (h.objs.size+1) (λ r s'=>match r with|.ok (.ret v)=>Q v s'|.ok _=>False|.error e=>E e s')) ⟨(h.push (yE rest)).push (gS C h.objs.size),g,d,t,os⟩) :
    MJ (Mh prog w) A (call (.ref C) rest) Q E ⟨h,g,d,t,os⟩:=by
  replace hq:=Ends.mk hq;replace hi:=Ends.mk hi;replace hbi:=Ends.mk hbi;have hT:(⟨h,g,d,t,os⟩:Mc).TypeIs (.ref C) "type":=⟨_,hC,rfl⟩
  refine wpAny_call (codeAny_of_tree ?_);refine cJ (pC C rest) λ M N N2 q1 q2 q3 q4=>(?_:MJ _ _ (O6 (.ref C) _) _ _ _)
  refine ac q1 (Me (Pc hC ?_));refine ac (show M (N8 _ _ _ _ _ _ _ _ _ _ _ _ _ _ _ _ _ _)=_ from q2 _ _ _ _) (Me (wpAny_specialOf hT tc_lookup ?_));refine ac q3 (ac (tc_bind _) (Me (Mp (ac q4 (Mp ?_)))));refine⟨rfl,?_⟩;refine codeAny_call_builtin_at (Os _ (by decide +kernel)) entry_typeCall (wpAny_check_type_call_sub hC ?_);refine dj (oq C rest) λ d1 d2 K L e5 e6 e7 e8=>ac e5 ?_;repeat (first|with_reducible refine M1 hC ?_|with_reducible refine wpAny_madeBy_exc hC ?_|wp_step)
  refine ac (e6 _) ?_;repeat (first|with_reducible refine M1 hC ?_|wp_step)
  refine codeAny_call_builtin_code (Os _ F.quiet) (ub F hb hC ?_);refine Ag F hb ha hn hC ?_ hrest;refine(?_:MJ _ _ _ _ _ _);have k:∀b o,h.get? b=L6 o->((h.push (yE rest)).push (gS C h.objs.size)).get? b=L6 o:=λ b o e=>Mb _ (Mb _ e);have hC₁:=k _ _ hC;have hget:((h.push (yE rest)).push (gS C h.objs.size)).get? (h.objs.size+1)=L6 (gS C h.objs.size):=by heap_get
  have hcC:(Nq C::bm).contains (.ref C)=L7:=by simp
  have i1:=hi.out.keeps k;have b1:=(hbi.out (.ref (h.objs.size+1))).keeps k;have t1:OT (Mh prog w) ((h.push (yE rest)).push (gS C h.objs.size)) (typeOf (.ref (h.objs.size+1))) (.ref C):=(Pl hget).andThen .now;unfold isInstance callSpecial? specialOf;repeat (first|with_reducible refine M1 hget ?_|(with_reducible refine NP hC₁ ?_;rw[hcC])|(rw[hcC];simp only[Bool.not_true,PD,if_false])|((fail_if_success (with_reducible show MJ _ _ (Pd _ _) _ _ _));lk))
  refine OT.at i1 ?_;repeat ((fail_if_success (with_reducible show MJ _ _ (bindSpecial _ _) _ _ _));lk)
  refine OT.at b1 ?_;repeat (first|with_reducible refine wpAny_call ?_|lk)
  refine codeAny_mono hq.out λ r s' z=>?_;rcases r with e|(v|_|_|_)<;>first|exact z|exact z.elim|skip
  (revert z;refine λ P3=>aD P3 λ Qc z=>?_;clear P3;obtain rfl:=Qc);exact Mp (ac (e8 _) (Mp z))
end
structure yp(h h':M4)(e t:Addr)(cls:Value)(args:List Value):Prop where
 keeps:∀b o,h.get? b=L6 o->h'.get? b=L6 o
 new:h.get? e=L9
 there:∃dx,h'.get? e=L6 {cls:=cls,dict:=dx,data:=.fields #[.ref t,.none,.none,.none,.bool L8,.none] }
 tup:h.get? t=L9/\h'.get? t=L6 {cls:=.type "tuple",data:=.seq args.toArray}
section
variable{M:Model}{A:Nj}{E:Value->Mc->Prop}{s':Mc}{base g h:M4}{outer:List Env}{L a e t:Addr}{m:Str->Option Value}{name:Str}{scope:Scope}{cd:Value}{Q:Unit->Mc->Prop}{cls:Value}{vs:List Value}
theorem wv(hfr:A.frames=L6 (env::outer))(hf:env.frame=L6 L)(hkb:base.StaysIn h)(hl:h.FunFrames base (env::outer))(hx:yp h s'.heap e t cls vs)
  (hQ:∀h',M4.FlyingW base outer e cls (.ref t) h'->h'.TupAt t vs->base.get? t=L9->s'.heap.UpToSlots h'->Q () {s' with heap:=h'}):MJ M A (leaving env (.ref e)) Q E s':=by
 refine aA hx.there λ dx he=>aD hx.tup λ htn ht=>?_;have fresh:∀b,h.get? b=L9->base.get? b=L9:=λ b hb=>by
  cases hq:base.get? b with
  | none=>rfl
  | some o'=>have:=hkb b o' hq;rw[hb] at this;exact dC this
 refine wpAny_leaving_firstW (a0:=.ref t) hfr (hl.of_keeps λ b o hb zz=>⟨o,hx.keeps b o hb,rfl⟩) hf he (λ b o hb=>hx.keeps b o (hkb b o hb)) (fresh e hx.new) rfl rfl rfl λ h' hL=>?_;(refine DS hL λ k1J9 P2 k3 k4=>?_;clear hL;(refine cg P2 λ _ _ k2=>?_;clear P2));exact hQ h' ⟨k1J9,fresh e hx.new,k2,k3⟩ (M4.TupAt.of_slots (aq _ _ ⟨ht,rfl,rfl⟩) k4) (fresh t htn) k4
end
section
variable{prog:Nb}{w:MO}{A₀ A:Nj}{s:Mc}{base h₀:M4}{outer:List Env}{L:Addr}{m:Str->Option Value}{env:Env}{K:Ny}{p:Nb}{loose:List Str}{mean:O8->Option Value}{mg mb:Str->Option Value}
 {Q E:Value->Mc->Prop} {name qual:Str} {params:Arguments} {body:List Stmt} {scope:Scope} {dV kV doc pm Qr ct oc:Value} {an od:Option Addr} {QP:Array (Option Value)} {f C:Addr} {args:List Value}
 {B Qz initId:String} {bmB:List Value}
theorem DQ(FB:Om B Qz initId bmB)(BL:Below A₀ base outer h₀)(F:Fr h₀ L s.heap m)(Qk:K.In h₀)(T:Top p loose mean mg mb h₀)(hA:A.frames=L6 (env::outer))(hf:env.frame=L6 L)(hke:env.scope.kind=.function)
  {sn:List Str} {sub:List Value}
  (hC:K.lookup C=L6 (N8 nmJ9 q C N bs bm hdct sn sub ab col dd k0 k1J9 k2 k3 k5 Qz)) (hb:bm.contains (.type B)=L7) (ha:bm.contains (.type "AttributeError")=L8) (hn:bm.contains (.type "NameError")=L8)
  (hi:Ou K (.ref C) "__init__"=L6 (L6 (.ref f))) (hfn:isFn K (.ref f)=L7) (hrest:args.length<=sizeLine)
  (ho:K.lookup f=L6 ⟨oc,od,.func (fnOf name qual params body scope dV kV doc pm an Qr ct),QP⟩) (hcd:codeIn K Qr qual=L7) (QA:(A.under (.builtin "type.__call__" ⟨.ref C::args,[]⟩)).depth<NB)
  (binds:Addr->List (Str×Value)) (QH:∀h x,K.In h->PN {s with heap:=h} (fnOf name qual params body scope dV kV doc pm an Qr ct) ⟨.ref x::args,[]⟩ (binds x)) (QN:∀x,∀y∈binds x,scope.names.lookup y.1=L6 .local)
  (h:∀g e t L' h₁,lB s.heap g->s.heap.get? e=L9->s.heap.get? t=L9->g.get? t=L6 (yE args)->Fr g L' h₁ (λ y=>(binds e).reverse.lookup y)->Pj g L' h₁ [(e,gS C t)]->Below (A.under (.builtin "type.__call__" ⟨.ref C::args,[]⟩)) base (env::outer) g->K.In g->Top p loose mean mg mb g->
   MJ (Mh prog w) ((A.under (.builtin "type.__call__" ⟨.ref C::args,[]⟩)).deeper (envOf qual scope L' f Qr)) (Na body (envOf qual scope L' f Qr))
    (λ fl s'=>(match fl with|.ret v=>v|_=>Value.none)=Value.none/\Q (.ref e) s')
    (λ e s'=>MJ (Mh prog w) ((A.under (.builtin "type.__call__" ⟨.ref C::args,[]⟩)).deeper (envOf qual scope L' f Qr)) (leaving (envOf qual scope L' f Qr) e) (λ zz s''=>E e s'') (λ e' s''=>E e' s'') s')
    {s with heap:=h₁,toks:=s.toks+(binds e).length})
  (hco:scope.isCoroutine=L8) (QO:scope.isGenerator=L8) (hk:scope.kind=.function)
  (hcell:∀x∈scope.names,x.2≠.cell):MJ (Mh prog w) A (call (.ref C) args) Q E s:=by
 obtain⟨hh,g0,d,t,os⟩:=s;have X:K.In hh:=Qk.keeps F.keep;refine wV FB hb ha hn (X _ _ hC) (OP X hi) (λ self=>bind_fn X self (beq_iff_eq.mp hfn)) hrest ?_;have up:lB hh ((hh.push (yE args)).push (gS C hh.objs.size)):=λ b o e=>Mb _ (Mb _ e);have F1:Fr h₀ L ((hh.push (yE args)).push (gS C hh.objs.size)) m:=F.keeps up;have N1:=((Pj.nil (h₀:=h₀) (L:=L) (h:=hh)).push F (yE args)).push (F.push _) (gS C hh.objs.size);rw[Oi] at N1;have N2:Pj h₀ L ((hh.push (yE args)).push (gS C hh.objs.size)) [(hh.objs.size+1,gS C hh.objs.size)]:=λ p hp=>N1 p (by refine ac (Ma.mp hp) ?_;exact .head _);refine DP [(hh.objs.size+1,gS C hh.objs.size)] BL F1 N2 Qk T hA hf hke ho hcd QA (binds (hh.objs.size+1)) (QH _ _ (X.keeps up)) (QN _) (λ g L' h₁ hg F' N' B' X' T'=>?_) hco QO hk hcell;have ne:∀b,@LE.le Nat _ b hh.objs.size->b∉[(hh.objs.size+1,gS C hh.objs.size)].map (·.1):=λ b hb q=>by
  have q':b=hh.objs.size+1:=by simpa using q
  rw[q'] at hb;exact absurd hb (Nat.not_le.mpr (MV _))
 refine h g (hh.objs.size+1) hh.objs.size L' h₁ (λ b o e=>?_) (Oj (M6 _)) (Oj (Mm _)) ?_ F' N' ⟨B'.stack,B'.stays,B'.frames⟩ X' T'
 ·(clear F' N' B' X' T';subst hg);exact M9 _ (up b o e) (ne b (Nat.le_of_lt (Mv e)))
 ·(clear F' N' B' X' T';subst hg);exact M9 _ (Mb _ (Nh _ rfl)) (ne _ (Mm _))
end
inductive iY(c:Cx)(ρ:RR)(os:List AO)(ph:Bool)(news:List (Addr×Obj)):Prop
 | mk (QR:Cx) (h:M4) (τ:Addr->bo) (ρ':RR) (os':List AO) (w:QR.w=c.w) (fx:QR.fx=c.fx) (le:ρ.Le ρ') (e:os'.take os.length=os) (K:aR QR h τ ρ' os' ph) (n:news=own h τ)
theorem iY.el{os:List AO}{P':Prop}(hh:iY c ρ os ph news)(kk:∀(QR:Cx) (h:M4) (τ:Addr->bo) (ρ':RR) (os':List AO) (w:QR.w=c.w) (fx:QR.fx=c.fx) (le:ρ.Le ρ') (e:os'.take os.length=os) (K:aR QR h τ ρ' os' ph) (n:news=own h τ),P'):P':=by
 obtain⟨QR,h,τ,ρ',os',w,fx,le,e,K,n⟩:=hh;exact kk QR h τ ρ' os' w fx le e K n
inductive pT(c:Cx)(ρ:RR)(os:List AO)(ph:Bool)(e:Addr)(s:Mc):Prop
 | mk (g:M4) (m:Str->Option Value) (t:Addr) (vs:List Value) (news:List (Addr×Obj)) (G:iY c ρ os ph news) (R:RaisedS c.base g (c.fenv::c.outer) e (.ref 64) t vs news s.heap) (u:g.UpToSlots s.heap) (F:Fr c.h₀ c.L g m) (r:lu c.s s)
section
theorem pT.el{os:List AO}{P':Prop}(hh:pT c ρ os ph e s)(kk:∀(g:M4) (m:Str->Option Value) (t:Addr) (vs:List Value) (news:List (Addr×Obj)) (G:iY c ρ os ph news) (R:RaisedS c.base g (c.fenv::c.outer) e (.ref 64) t vs news s.heap) (u:g.UpToSlots s.heap) (F:Fr c.h₀ c.L g m) (r:lu c.s s),P'):P':=by
 obtain⟨g,m,t,vs,news,G,R,u,F,r⟩:=hh;exact kk g m t vs news G R u F r
variable{c c':Cx}{d:Nat}{ρ ρ':RR}{σ σ':St}{s s':Mc}{os os':List AO}{ph:Bool}{e t:Addr}{h':M4}{vs:List Value}{fd:FD}{RT:Nt->Mc->Prop}{news:List (Addr×Obj)}{f:Addr}{Qw:RR}{Qg:St}{Qj:Mc}{tk:Nat}
theorem iY.less(G:iY c ρ' os' ph news)(le:ρ.Le ρ')(e:os'.take os.length=os):iY c ρ os ph news:=by
 (refine iY.el G λ QR h τ Qy QW w fx le' e' K n=>?_;clear G);refine⟨QR,h,τ,Qy,QW,w,fx,le.trans le',?_,K,n⟩;have l:=congrArg ON e;rw[NV] at l;have:os'.take os.length=QW.take os.length:=by exact bP e' (ac List.take_take (ac (Nat.min_eq_left (by lia)) rfl))
 exact this.symm.trans e
theorem iZ.fr(E:iZ c c' ρ σ s):∃m,Fr c.h₀ c.L c'.h₀ m:=by
 (refine iZ.el E λ m τ F L N h hs w fx=>?_;clear E);refine bw (id F.ns) λ oL es ep hL zz=>?_;have nl:c.L∉(own s.heap τ).map (·.1):=λ z=>(N _ (d7.mp z).1).l rfl;refine⟨m,⟨F.ns.at' λ o e=>?_,λ b o e=>?_,F.above⟩⟩
 ·refine ac h ?_;exact M9 _ e nl
 ·refine ac h ?_;exact M9 _ (F.keep b o e) λ z=>by
   have n:=(N _ (d7.mp z).1).n;rw[e] at n;exact sn n
theorem mU{outer:List Env}(hf:env.frame=L6 L)(hm:b∈(env::outer).filterMap (·.frame)):b=L\/b∈outer.filterMap (·.frame):=by
 refine ag (NN.mp hm) λ e he q=>?_;rcases Mj.mp he with rfl|he
 ·exact .inl (sI (q.symm.trans hf))
 ·exact .inr (NN.mpr ⟨e,he,q⟩)
theorem yd(C:aQ c' d)(X:EnY c c' RT)(E:iZ c c' Qw Qg Qj)(R:au c' ρ σ s)(M:yp s.heap h' e t (.ref 64) vs)(k:∀s'',pT c ρ σ.obs σ.ph e s''->RT (.error (.ref e)) s''):c'.E (.ref e) {s with heap:=h',toks:=tk}:=by
 refine aA E.fr λ m₁ QZ=>?_;(refine iZ.el E λ _ _ _ _ _ _ hs w fx=>?_;clear E);(refine au.el R λ m τ F L K r=>?_;clear R);have N:=dM K.N;have FF:=C.FF _ _ F;have hf:c'.fenv.frame=L6 c'.L:=congrArg L6 X.l;refine ac X.E ?_;have mem:=λ b hb=>mU (env:=c'.fenv) (outer:=c'.outer) (L:=c'.L) (b:=b) hf hb;have st:c'.base.StaysIn (Oz s.heap ((c'.fenv::c'.outer).filterMap (·.frame))):=λ b o q=>M9 _ (F.keep _ _ (C.B b o q)) λ hm=>by
  rw[(FF.mem hm).1] at q;exact dC q
 have sg:∀b o,c'.h₀.get? b=L6 o->b∉c'.outer.filterMap (·.frame)->(Oz s.heap ((c'.fenv::c'.outer).filterMap (·.frame))).get? b=L6 o:=λ b o q nm=>M9 _ (F.keep b o q) λ hm=>by
  rcases mem b hm with z|z
  ·rw[z,kts_self F] at q;exact dC q
  ·exact nm z
 have fresh:∀b,c'.h₀.get? b=L9->c'.base.get? b=L9:=λ b hb=>by
  cases q:c'.base.get? b with
  | none=>rfl
  | some o=>rw[C.B b o q] at hb;exact sn hb
 have hl:∀q∈own s.heap τ,(Oz s.heap ((c'.fenv::c'.outer).filterMap (·.frame))).get? q.1=L6 q.2/\c'.h₀.get? q.1=L9/\c'.base.get? q.1=L9:=λ q hq=>by
  refine⟨M9 _ (N q hq).1 λ hm=>?_,(N q hq).2.2,fresh _ (N q hq).2.2⟩;refine ag (NN.mp hm) λ env he hb=>C.off _ _ N env he _ hb (Mw hq)
 have hin:∀env∈(c'.fenv::c'.outer),∀b,env.frame=L6 b->b∈(c'.fenv::c'.outer).filterMap (·.frame):=λ env he b hb=>NN.mpr ⟨env,he,hb⟩;refine wv (s':={s with heap:=h',toks:=tk}) rfl hf (λ b o q=>OL _ q) (funFrames_hide FF hin) M λ h'' x1 x2 x3 x4=>k _<|⟨c'.h₀,m₁,t,vs,_,⟨c',s.heap,τ,ρ,σ.obs,w,fx,RR.Le.refl,Nz,K,rfl⟩,X.b▸X.o▸⟨⟨_,st,sg,hl,x1,x3⟩,x2⟩,((NJ F.keep).trans (NJ M.keeps)).trans x4,QZ,lu.trans hs r⟩
theorem rz(X:EnY c c' RT)(E:iZ c c' Qw Qg Qj)(A:pT c' ρ os ph e s)(k:∀s'',pT c ρ os ph e s''->RT (.error (.ref e)) s''):c'.E (.ref e) s:=by
 refine aA E.fr λ m₁ QZ=>?_;(refine iZ.el E λ _ _ _ _ _ _ hs Sv Sf=>?_;clear E);(refine pT.el A λ g m t vs news G Re u F r=>?_;clear A;obtain⟨⟨B,hB,hBG,hl,hfl,hnew⟩,htup⟩:=Re);have hf:c'.fenv.frame=L6 c'.L:=congrArg L6 X.l;refine ac X.E<|wpAny_leaves_onW (env:=c'.fenv) (outer:=c'.outer) rfl hf hfl λ h' x1 x2=>k _ ?_;(refine iY.el G λ QR h τ Qy QW w fx le e' K n=>?_;clear G);exact⟨c'.h₀,m₁,t,vs,news,⟨QR,h,τ,Qy,QW,w.trans Sv,fx.trans Sf,le,e',K,n⟩,X.b▸X.o▸⟨⟨B,hB,λ b o q nm=>hBG b o (F.keep b o q) λ hm=>(by
   rcases mU hf hm with z|z
   ·rw[z,kts_self F] at q;exact dC q
   ·exact nm z),λ q hq=>⟨(hl q hq).1,kts_none F.keep (hl q hq).2.1,(hl q hq).2.2⟩,x1,hnew⟩,htup.of_slots x2⟩,(NJ F.keep).trans (u.trans x2),QZ,lu.trans hs r⟩
end
noncomputable def DJ:FD:=⟨[143,74],[],[.aat (lZ 143 8 8 12) 74 (pZ 8 8 17) (lZ 74 8 20 24) (pZ 8 8 24)],[]⟩
noncomputable def Jq:Stmt:=.Pass (pZ 0 0 0)
noncomputable def Kh(x:Str):Stmt->Bool
 | .FunctionDef n _ _ _ _ _ _ _ _ _=>n==x
 | _=>L8
noncomputable def Ki:List Stmt:=((Mo.prog.main.body.find? (Kh (nm 41))).map EE).getD []
noncomputable def sP:FD:=⟨[131],[],[.raw (Ki.getD 0 Jq),.ret (.boo L8 0 (pZ 552 11 16)) (pZ 552 4 16)],[]⟩
noncomputable def BG:FD:=⟨[143,100,121,98,179,180],[.boo L8,.byt []],BO,[]⟩
theorem DI(h:([((36,2),DJ),((797,1),sP),((689,4),BG)]:AY).lookup (a,n)=L6 fd):pO a n fd:=wN (λ w=>by kernel_rfl) (λ w=>by kernel_rfl) (λ w S a b c d e f g=>by kernel_rfl) a n fd h
section
variable{c c':Cx}{d Rq:Nat}{ρ ρ' Qw:RR}{σ σ' Qg:St}{s s' Qj:Mc}{fd:FD}{RT:Nt->Mc->Prop}{f:Addr}
theorem EU.below(X:EU c c' f fd RT)(E:iZ c c' Qw Qg Qj)(QX:aQ c Rq)(C:aQ c' d):Below c'.A₀ c'.base c'.outer c'.h₀:=by
 refine aA E.fr λ m F=>⟨X.a₀,C.B,by refine ac X.o (ac X.b ?_);exact QX.FF _ _ F⟩
noncomputable abbrev Jw:Obj:=N8 (nm 3) (nm 3) 64 63 [.ref 39] [.ref 39,.type "Exception",.type "BaseException",.type "object"] L7 [] [] L8 L9 L9 (L6 (.ref 55)) L9 (L6 (.str (nm 3) 241)) (L6 (.str (nm 3) 249)) (L6 (.bool L7)) "Exception.__new__"
theorem D4:([.ref 64,.ref 39,.type "Exception",.type "BaseException",.type "object"]:List Value).contains (.type "BaseException")=L7:=by decide
theorem BK:∀w:MO,(hd.heap_39 w.params).lookup 64=L6 Jw:=λ w=>by kernel_rfl
theorem Fp{tb:Tok}(X:EU c c' f fd RT)(EN:iZ c c' Qw Qg Qj)(QX:aQ c Rq)(C:aQ c' (d+3))(R:au c' ρ σ s)(hk:c'.fenv.scope.kind=.function)
  (hret:∀e t h' tk',yp s.heap h' e t (.ref 64) [.bytes b tb]->Q (.ref e) {s with heap:=h',toks:=tk'}):MJ c'.M c'.A (call (.ref 64) [.bytes b tb]) Q E s:=by
 refine ET.el (DI (a:=36) (n:=2) (fd:=DJ) (by kernel_rfl) c'.w) λ oc od QP g e1 e2 e3 k co ge cn lc nd nc ln ce bb=>?_;(refine au.el R λ m τ F L K r=>?_;clear R);have hb2:∀x h,c'.K.In h->PN {s with heap:=h} (uE g (ba DJ.body)) ⟨[.ref x,.bytes b tb],[]⟩ [(nm 143,.ref x),(nm 74,.bytes b tb)]:=λ x h hX=>by
  refine ag (bb {s with heap:=h} [.ref x,.bytes b tb] hX rfl) λ ds h1 h2=>?_;obtain rfl:ds=[]:=h1 ρ;exact h2
 have l1:g.scope.names.lookup (nm 143)=L6 .local:=(lc 143 (.head _)).resolve_right λ z=>ni z;have l2:g.scope.names.lookup (nm 74)=L6 .local:=(lc 74 (.tail _ (.head _))).resolve_right λ z=>ni z;refine DQ PySem.F.excBase_Exception (X.below EN QX C) F C.X C.T (env:=c'.fenv) rfl (congrArg L6 X.l) hk (BK c'.w) (by decide) (by decide) (by decide) (by kernel_rfl) (by kernel_rfl) (by refine(?_:1<=sizeLine);decide) e1 e2 (by have:=C.hd;refine(?_:c'.dp+1<_);lia)
  (λ x=>[(nm 143,.ref x),(nm 74,.bytes b tb)]) (λ h x hX=>hb2 x h hX) (λ x y hy=>by
   rcases Mj.mp hy with rfl|hy
   ·exact l1
   ·refine ac (Ma.mp hy) ?_;exact l2) (λ g' e t L' h₁ Gg ne nt gt F' N' B' X' T'=>?_) co ge k (λ x hx q=>?_)
 ·refine(?_:MJ _ _ (Na [.Assign [.Attribute (.Name (nm 143) (pZ 8 8 12)) (nm 74) (pZ 8 8 17)] (.Name (nm 74) (pZ 8 20 24)) (pZ 8 8 24)] _) _ _ _);refine wpAny_execs_cons<|ac (plainObj_exec_Assign_Attribute _ _ _ _ _ rfl)<|wpAny_bind (Nf (Me (ld F' (v:=.bytes b tb) (by kernel_rfl) ?_ k l2 (by kernel_rfl))));refine ac (assign_Attribute _ _ _ _)<|wpAny_bind (Me (M3 (ld F' (v:=.ref e) (by kernel_rfl) ?_ k l1 (by kernel_rfl))));refine Me (Nf (Me (M3 (t9 (K:=c'.K) (C:=64) (C2:=39) (cd:={name:=nm 3,bases:=[.ref 39],mro:=[.ref 64,.ref 39,.type "Exception",.type "BaseException",.type "object"],ns:=63,qualname:=nm 3}) (X'.keeps F'.keep) (by kernel_rfl) rfl rfl (by kernel_rfl) (by kernel_rfl) (Pj.get N' (.head _)) λ h9 tk9 he hk9=>?_))));have up:∀b o,s.heap.get? b=L6 o->h9.get? b=L6 o:=λ b o eb=>hk9 b o (λ q=>by rw[q,ne] at eb;exact dC eb) (F'.keep b o (Gg b o eb));refine wpAny_release (Mp (On ⟨rfl,hret e t h9 tk9 ⟨up,ne,⟨_,he⟩,nt,hk9 t _ (λ q=>?_) (F'.keep _ _ gt)⟩⟩));have:=(Pj.get N' (.head _):h₁.get? e=_)
  have g2:=F'.keep _ _ gt;rw[q,this] at g2;exact nomatch congrArg Obj.cls (sI g2)
 ·have z:=fW (y:=x.1) g.scope.names 0 [] (.inl (q▸hx));rw[cn] at z;exact ni z
end
noncomputable def Et(d:Nat)(f:Addr)(vs:List AV):Prop:=∀(c:Cx) (ρ:RR) (σ:St) (s:Mc) (us:List Value),aQ c d->au c ρ σ s->IsL ρ vs us->(∀e s',pT c ρ σ.obs σ.ph e s'->c.E (.ref e) s')->W c (call (.ref f) us) (λ zz zz=>False) s
section
variable{T:bq}{c c':Cx}{d n:Nat}{ρ ρ' Qw:RR}{σ σ' Qg:St}{s s' Qj:Mc}{fd:FD}{RT:Nt->Mc->Prop}{f:Addr}{vs:List AV}{os os':List AO}{ph:Bool}{e:Addr}
theorem pT.less(A:pT c ρ' os' ph e s)(le:ρ.Le ρ')(h:os'.take os.length=os):pT c ρ os ph e s:=by
 (refine pT.el A λ g m t vs news G R u F r=>?_;clear A);exact⟨g,m,t,vs,news,G.less le h,R,u,F,r⟩
theorem qv(hF:pO f n fd)(hn:vs.length=n) (body:∀(c c':Cx) RT Qw Qg Qj ρ s,EU c c' f fd RT->iZ c c' Qw Qg Qj->aQ c (d+1)->aQ c' d->bz c'.cs fd.body=L7->au c' ρ ⟨lg fd (vs++fd.dfl) Qg.obs.length,Qg.obs++iu fd (vs++fd.dfl),Qg.ph⟩ s->
  (∀e s',pT c ρ (Qg.obs++iu fd (vs++fd.dfl)) Qg.ph e s'->RT (.error (.ref e)) s')->W c' (Na (ba fd.body) c'.env) (λ zz zz=>False) s):Et (d+1) f vs:=λ c ρ σ s us C R x hx=>
 bB (tA (A':=c.A) (d':=d) rfl hF C (by have:=C.hd;refine(?_:c.dp+1+d<_);lia) (by have:=C.hu;refine(?_:c.un+3+(10*d+100)<_);lia) R x hn λ c' PY s' X EN C' hm le R'=>
  aK (body c c' _ ρ σ s PY s' X EN C C' hm R' λ e s'' A=>hx e s'' (A.less le (NH rfl))) λ zz zz z=>z.elim)
theorem s7:∀{l l':List S},bz sc (l++l')=L7->bz sc l'=L7
 | [],_,h=>h
 | _::l,_,h=>af h λ zz h=>s7 (l:=l) h
noncomputable def J1:Fl->Bool
 | .nxt=>L7
 | _=>L8
theorem p8(hT:be T)(C:aQ c d)(k:∀ρ s,Qw.Le ρ->au c ρ σ' s->W c (Na (ba ss') c.env) Q s):∀(n:Nat) {ss:List S} {σ:St} {ρ:RR} {s:Mc},Qw.Le ρ->au c ρ σ s->(aC T n).exs d ss σ=L6 (.nxt,σ')->bz c.cs (ss++ss')=L7->W c (Na (ba (ss++ss')) c.env) Q s
 | 0,_,_,_,_,_,_,h,_=>dC h
 | n+1,[],_,ρ,s,le,R,h,_=>k ρ s le ((MD (sI h)).2▸R)
 | n+1,st::ss,σ,ρ,s,le,R,h,m=>by
  refine af m λ m0 m1=>?_;(refine ag (b4 (m:=bv T (aC T n) d st σ) h) λ Qc h1 h2=>?_;obtain⟨f,σ₁⟩:=Qc);refine bg (aK (mB hT (bp hT n).ev (λ m zz=>(bp hT m).ts) (λ m zz=>(bp hT m).ex) C R h1 m0) λ fl s₁ z=>?_);(revert z;refine λ P3=>FE.el P3 λ PY P1 R₁ z=>?_;clear P3);cases f with
  | nxt=>
   obtain rfl:fl=.next:=z;exact p8 hT C k n (le.trans P1) R₁ h2 m1
  | _=>exact ff (congrArg J1 (MD (sI h2)).1)
theorem mr(C:aQ c d)(R:au c ρ σ s)(hm:cv c.cs (.call (.glo i p) [.loc j p'] pos)=L7)(hg:ml i (.val (.ref f)))(hk:OX c.K (.ref f)=L7)(hl:σ.loc.lookup j=L6 a)
  (k:∀ρ' s' u,ρ.Le ρ'->au c ρ' σ s'->Is ρ' a u->W c (call (.ref f) [u]) Q s'):W c (MN (a8 (.call (.glo i p) [.loc j p'] pos)) c.env) Q s:=by
 refine af hm λ m1 m=>af m λ m2 m3=>af m2 λ m4 m5=>fj (og C R m1 hg) (λ u s₁ z=>?_) (bn m3 _ _ _);(refine PE.el z λ PY P1 R₁ P7=>?_;clear z);refine ac (show u=.ref f from P7)<|cq (K:=c.K) (P:=λ us s'=>∃u,us=[u]/\PE c PY σ a u s') hk (cu (env:=c.env) (pos:=pos) [.loc j p']).1 (bd (P:=PE c PY σ a) (A6 C R₁ m4 hl) λ v P0 z=>cr ⟨v,rfl,z⟩) λ us s' z=>?_;obtain⟨u,e,P5,P8,P4,Qi⟩:=z;refine ac e<|⟨P4.X C,k P5 s' u (P1.trans P8) P4 Qi⟩
end
noncomputable def s5:S:=sN bh 5
theorem ir(c:Cx)(a b:Addr)(o p:Obj)(i j:Nat):(c.hold a o i).hold b p j=(c.hold b p j).hold a o i:=congrArg (λ f=>({c with fx:=f}:Cx)) (funext λ zz=>funext λ zz=>funext λ zz=>propext or_right_comm)
noncomputable def yA:Prop:=∀(c:Cx) (Qj:Mc) (sh:pK) (M:aS) (p q:Option (List UInt8)) (ρ:RR) (s:Mc),aQ c 40->rA c Qj iK->kl c.cs s5=L7->c7 M->au (c.hold 835 (MK #[]) 2) ρ (gX L9 sh M p q bL) s->
 W c (Ov (iT s5) c.env) (λ fl s'=>fl=.next/\∃(ps:Array Value) (ρ':RR) (wr:Option (List UInt8)),au (c.hold 835 (MK ps) 2) ρ' (gX (wr.map .byt) sh M p q bL) s') s
theorem wy(bar:yA)(r1:yo)(r3:AP)(w:MO)(s₁:Mc)(loose:List Str)(mean:O8->Option Value)(mg mb:Str->Option Value)(l:Addr)(vs:List Value)(ns:List Int)(Qk:(hd.heap_39 w.params).In s₁.heap)(T:Top hd.view_39 loose mean mg mb s₁.heap)(hL:s₁.heap.IsList l vs.toArray)(hI:PM vs ns)(hn:ns.length<=63)(hP:s₁.heap.get? 835=L6 (MK #[]))
  (R:Nt->Mc->Prop) (k:∀s',s'.gens=s₁.gens->s'.drawn=s₁.drawn->s'.os=s₁.os->OldK s₁.heap s'.heap->R (.ok (.ret (.bool L7))) s'):aL (Mh Mo.prog w) NQ (.call (.ref 838) ⟨[.ref l],[]⟩) R s₁:=by
 have hz:@LT.lt Nat _ 64 s₁.heap.objs.size:=by
  have h64:((hd.heap_39 w.params).lookup 64).isSome=L7:=by kernel_rfl
  refine aA (MZ.mp h64) λ o e=>Mv (Qk 64 o e)
 have hc:CodeHd s₁.heap 837 835:=codeHd_of_K Qk (by kernel_rfl);have hT:TabsAt qG s₁.heap:=λ q hq=>by refine ac (Ma.mp hq) ?_;exact⟨hc,hP⟩
 refine EZ (d':=40) (fd:=iK) (avs:=[.val (.ref l)]) (us:=[.ref l]) (n:=1) (gR 838 1 iK (by kernel_rfl)) Qk T hz hP (λ oc od QP g e=>?_) (by decide) (by decide) (ay.k rfl rfl) rfl λ c PY s' C X ew hm R₁=>?_
 ·have h:((hd.heap_39 w.params).lookup 838).map (λ o=>match o.data with|.func g=>g.code|zz=>.none)=L6 (.ref 837):=by kernel_rfl
  rw[e] at h;exact sI h
 ·have hm':bz c.cs (sN bh 0::sN bh 1::sN bh 2::sN bh 3::sN bh 4::s5::rO)=L7:=hm;refine af hm' λ m0 m=>af m λ m1 m'=>af m' λ m2 m'=>af m' λ m3 m'=>af m' λ m4 m5=>af m5 λ m5 m6=>?_;have CT:aQ (c.hold 835 (MK #[]) 2) 40:=C.hold;have h140:cf c.cs .local 140=L7:=af m4 λ zz m=>af m λ m zz=>m;have h139:cf c.cs .local 139=L7:=by
   have e:=(X.lc 139 (.head _)).resolve_right (by decide);exact(NZ _ _).mpr ⟨decide_eq_true e,by kernel_rfl⟩
  refine(?_:W c (Na (ba (sN bh 0::([sN bh 1,sN bh 2,sN bh 3]++(sN bh 4::s5::rO)))) c.env) _ s');refine bg (aK (CK (c:=c.hold 835 (MK #[]) 2) CT h140 h139 (by refine(?_:c.h₀.IsList l vs.toArray);refine ac X.h ?_;exact ghost_list hT hL) hI hn R₁) λ fl P0 z=>?_);(refine An z λ Qc P5 QF hnum P4=>?_;clear z;obtain rfl:=Qc);refine p8 (c:=c.hold 835 (MK #[]) 2) bc CT (λ Qf s₃ zz Qe=>?_) 80 RR.Le.refl P4 (LX (.ref l) QF) m;refine bg (aK (zX (c:=c.hold 835 (MK #[]) 2) r1 CT Qe (i:=5) rfl rfl m4 hnum AG) λ fl Ql z=>?_);(refine nz z λ Qc xa ob Qt sh M p q fi QB=>?_;clear z;obtain rfl:=Qc);rw[ir] at QB;have na:xa≠835:=λ e=>by
   (refine au.el QB λ m τ F L K r=>?_;clear QB);have h1:=(K.X xa ob 8 (.inl (.inr ⟨rfl,rfl,rfl⟩))).t;have h2:=(K.X 835 (MK #[]) 2 (.inr ⟨rfl,rfl,rfl⟩)).t;rw[e,h2] at h1;exact nq (congrArg NE h1) rfl
  have SJ:rA (c.hold xa ob 8) s₁ iK:=⟨X.s,X.h,X.b,X.o,X.l,X.e,X.a₀,λ o k z=>z.elim (X.nP o k) λ z=>na z.1.symm,X.cd,X.lc,X.ce⟩
  refine bg (aK (bar (c.hold xa ob 8) s₁ sh M p q Qt Ql C.hold SJ m5 fi.ok QB) λ fl s₅ z=>?_)
  ·(refine Am z λ Qc ps Qy wr Q2=>?_;clear z;obtain rfl:=Qc);refine aK (Fg r3 (c:=(c.hold xa ob 8).hold 835 (MK ps) 2) C.hold.hold fi Q2 m6) λ fl s₆ z=>?_;obtain⟨rfl,RV,σ,m,τ,F,L,K,r⟩:=z;have hp:=(K.X 835 (MK ps) 2 (.inr ⟨rfl,rfl,rfl⟩)).g;have kp:∀b o,b≠835->s₁.heap.get? b=L6 o->s₆.heap.get? b=L6 o:=λ b o n e=>F.keep b o (by refine(?_:c.h₀.get? b=L6 o);refine ac X.h ?_;exact ghost_ne e λ z=>n (Ma.mp z));have r:lu c.s s₆:=r;rw[X.s] at r;refine k s₆ r.1 r.2.1 r.2.2 ⟨λ b o e=>?_,λ b o e=>?_⟩
   ·by_cases n:b=835
    ·subst n;obtain rfl:=sI (hP.symm.trans e);exact .inr (.inl ⟨(hc.tab hP).isCodeTable,rfl,(aq (#[]) ps ⟨rfl,by refine ac Array.empty_append ?_;exact hp⟩)⟩)
    ·exact .inl (kp b o n e)
   ·by_cases n:b=835
    ·subst n;exact⟨_,hp⟩
    ·exact⟨o,kp b o n e⟩
theorem yN(bar:yA)(r1:yo)(r3:AP):Mo.Holds:=LA λ w s₁ loose mean mg mb l vs ns Qk T hL hI hn hP R k=>wy bar r1 r3 w s₁ loose mean mg mb l vs ns Qk T hL hI hn hP R k
noncomputable def rn:List (List UInt8):=[[],[67,45],[110,111,107,101,121]]
noncomputable def JB(w:List UInt8):List UInt8:=w.map λ b=>if b=67 then 99 else b
noncomputable def zE:List ((Addr×List UInt8)×AV):=rn.flatMap λ w=>[((314,w),.pv (.seq L8 [.int 0,.byt w])),((307,w),.non),((288,w),.byt (JB w)),((300,w),.non)]
theorem vQ(loc:List (Nat×AV))(ph:Bool):zE.map (λ x=>(aC I8 300).cal 8 (.val (.ref x.1.1)) [.byt x.1.2] ⟨loc,[],ph⟩)=mp (λ x=>L6 (x.2,⟨loc,[],ph⟩)) zE:=by kernel_rfl
noncomputable def KE:List AV->Option AV
 | [a]=>L6 a
 | _=>L9
theorem Co:∀{vs:List AV} {a:AV},KE vs=L6 a->vs=[a]
 | [_],_,h=>congrArg (λ x=>[x]) (sI h)
 | [],_,h=>dC h
 | _::_::_,_,h=>dC h
noncomputable def pR(f:Addr)(vs:List AV):Option (AV ⊕ AO):=(KE vs).bind λ a=>(fY a).bind λ w=>(zE.lookup (f,w)).map .inl
theorem F7(f:Addr)(vs:List AV)(r:AV ⊕ AO)(h:pR f vs=L6 r):hG f vs r:=by
 refine lp h λ a h1 h2=>lp h2 λ w h3 h4=>ac (Co h1) (ac (a7 h3) ?_);refine bK h4 λ v ha=>?_;have hm:=aN ha;have k:=λ loc ph=>am (vQ loc ph) _ hm;have ok:zE.all (λ x=>ik (λ zz=>L8) x.2)=L7:=by kernel_rfl
 exact qw (n:=300) vg rfl (Mq.mp ok _ hm) k
noncomputable def I7:bq:=tb pR (λ zz zz zz=>L9) (λ zz=>L8) (λ zz zz zz zz=>L9) λ zz zz zz=>L9
theorem ic:be I7:=ot F7 (λ zz zz zz zz e=>nn e) (λ zz e=>(ff e)) (λ zz zz zz zz zz e=>nn e) λ zz zz zz zz e=>nn e
noncomputable def sR:FD:=⟨[99],[],iP,[]⟩
noncomputable def JC(w:List UInt8):List (Nat×AV):=[(99,.byt w),(116,.int 0),(59,.byt w),(113,.non),(115,.non)]
theorem CO(os:List AO)(ph:Bool)(N:Nat):rn.map (λ w=>(aC I7 12).exs 20 (iP.take 5) ⟨lg sR ([.byt w]++[]) N,os,ph⟩)=mp (λ w=>L6 (.nxt,⟨JC w,os,ph⟩)) rn:=by kernel_rfl
section
variable{c c':Cx}{d n:Nat}{ρ Qw:RR}{σ Qg:St}{s Qj:Mc}{fd:FD}{RT:Nt->Mc->Prop}{f:Addr}{w:List UInt8}
theorem vD(x:Expr)(pos:Pos)(env:Env):∃(D:Value->Value->Sem Flow),Ov (.Raise (L6 x) L9 pos) env=(Nv pos >>= λ zz=>(MN x env >>= λ v=>Nv pos >>= λ zz=>Nx v) >>= λ xv=>Oy [] (excFromValue xv "exceptions must derive from BaseException") >>= λ e=>isType xv >>= λ b=>if b=L7 then D xv e else(raisedInstance e >>= λ e=>OW e L9 >>= λ zz=>raiseNew e)):=⟨_,rfl⟩
theorem vN{M:Model}{A:Nj}{E:Value->Mc->Prop}{Q:Flow->Mc->Prop}{D:Value->Value->Sem Flow}{e:Addr}{dx:Option Addr}{vs:Array Value}{h:M4}{g:Array GenState}{d:Drawn}{t:Nat}{os:OsState}(hh:A.handled=L9)(hC:h.get? 64=L6 Jw)
  (he:h.get? e=L6 {cls:=.ref 64,dict:=dx,data:=.fields vs}) (h1:vs[1]?=L6 .none) (hE:E (.ref e) ⟨h,g,d,t,os⟩) :
  MJ M A (Oy [] (excFromValue (.ref e) "exceptions must derive from BaseException") >>= λ e'=>isType (.ref e) >>= λ b=>if b=L7 then D (.ref e) e' else(raisedInstance e' >>= λ e=>OW e L9 >>= λ zz=>raiseNew e)) Q E ⟨h,g,d,t,os⟩:=by
 replace hE:=Ends.mk hE;repeat (first|with_reducible refine M1 he ?_|with_reducible refine M1 hC ?_|(with_reducible refine NP hC ?_;rw[D4])|wp_step)
 refine ac h1 ?_;refine Mp ?_;refine ac (if_neg (by decide)) ?_;refine Mp ?_;exact wpAny_raiseNew_none hh hE.out
theorem uT{M:Model}{A:Nj}{E:Value->Mc->Prop}{s:Mc}{env:Env}{x:Expr}{pos:Pos}{Q:Flow->Mc->Prop}(hh:A.handled=L9)
  (h:aB M A (MN x env) (λ v s₁=>∃e dx vs,v=.ref e/\s₁.heap.get? 64=L6 Jw/\s₁.heap.get? e=L6 {cls:=.ref 64,dict:=dx,data:=.fields vs}/\vs[1]?=L6 .none/\E (.ref e) s₁) E s):aB M A (Ov (.Raise (L6 x) L9 pos) env) Q E s:=by
 refine aA (vD x pos env) λ D e0=>?_;refine ac e0 (aw (aj (aj (ax h (λ v s₁ h₁=>ah (Me (Nf (Mp ?_)))) λ zz zz x=>x))));refine j3 h₁ λ e dx vs hv hC he h1 hE=>?_;subst hv;exact ah (vN hh hC he h1 hE)
theorem Ab:ml 3 (.val (.ref 64)):=j0 (l:=[(3,.val (.ref 64))]) (λ w=>by kernel_rfl) 3 _ (by kernel_rfl)
theorem GC:∀w:MO,([64,321,328,622]:List Addr).all (λ a=>OX (hd.heap_39 w.params) (.ref a))=L7:=λ w=>by kernel_rfl
theorem sE{a:Addr}(h:a∈([64,321,328,622]:List Addr)):OX c.K (.ref a)=L7:=Mq.mp (GC c.w) a h
theorem CR(hw:w∈rn):Et 21 321 [.byt w]:=qv (gR 321 1 sR (by kernel_rfl)) rfl λ c c' RT Qw Qg Qj ρ s X EN QX C hm R hx=>by
 have h:=am (CO (Qg.obs++iu sR ([.byt w]++[])) Qg.ph Qg.obs.length) w hw;rw[show sR.body=iP.take 5++iP.drop 5 from(List.take_append_drop 5 iP).symm] at hm ⊢;refine p8 ic C (λ PY s₁ le R₁=>?_) 12 RR.Le.refl R h hm;refine(?_:W c' (Na (ba (.iff (.cmp .Is (lZ 115 167 7 11) (.non 0 (pZ 167 15 19)) (pZ 167 7 19)) [.rai (.call (gZ 3 168 14 20) [lZ 99 168 21 27] (pZ 168 14 28)) (pZ 168 8 28)] [] ⟨167,4,168,28⟩::iP.drop 6)) c'.env) _ s₁);have m:bz c'.cs (.iff (.cmp .Is (lZ 115 167 7 11) (.non 0 (pZ 167 15 19)) (pZ 167 7 19)) [.rai (.call (gZ 3 168 14 20) [lZ 99 168 21 27] (pZ 168 14 28)) (pZ 168 8 28)] [] ⟨167,4,168,28⟩::iP.drop 6)=L7:=s7 hm;refine af m λ m zz=>af m λ m1 m=>af m λ m2 zz=>af m2 λ m2 zz=>?_;refine bg (uV ((bp ic 3).ts 20 _ _ (L7,_) c' PY s₁ rfl C m1 R₁) λ b P0 z=>?_);(refine TE.el z λ P5 P8 P4 Qb=>?_;clear z;obtain rfl:=Qb);refine ac (if_pos rfl) ?_;refine bg (uT rfl (mr C P4 m2 Ab (sE (.head _)) rfl λ Qf s₃ u Qh Qe x=>?_));(refine aA x λ t P2=>?_;clear x;obtain rfl:=P2);refine ah (Fp X EN QX (C.less (by decide):aQ c' (0+3)) Qe (by refine(?_:c'.fs.kind=_);refine ac X.fs ?_;exact C.hk) λ e t h' tk' M=>?_);refine aA M.there λ dx he=>?_;exact aI e dx _ ⟨rfl,M.keeps _ _ (Qe.X C _ _ (BK c'.w)),he,rfl,yd C X.toEnY EN Qe M λ s'' A=>hx e s'' (A.less (le.trans (P8.trans Qh)) Nz)⟩
noncomputable def sQ:FD:=⟨[99],[],BQ,[]⟩
noncomputable def u5:X:=.cmp .Eq (lZ 99 445 22 28) (gZ 96 445 32 39) (pZ 445 22 39)
theorem Cy(os:List AO)(ph:Bool)(N:Nat):rn.map (λ w=>(aC I7 3).tst 21 u5 ⟨lg sQ ([.byt w]++[]) N,os,ph⟩)=mp (λ w=>L6 (L8,⟨lg sQ ([.byt w]++[]) N,os,ph⟩)) rn:=by kernel_rfl
theorem Dm(hw:w∈rn):Et 22 622 [.byt w]:=qv (gR 622 1 sQ (by kernel_rfl)) rfl λ c c' RT Qw Qg Qj ρ s X EN QX C hm R hx=>by
 have h:=am (Cy (Qg.obs++iu sQ ([.byt w]++[])) Qg.ph Qg.obs.length) w hw;refine(?_:W c' (Na (ba [.ret (.ife u5 (gZ 96 445 11 18) (.call (gZ 18 445 45 53) [.call (gZ 17 445 54 62) [lZ 99 445 63 69] (pZ 445 54 70)] (pZ 445 45 71)) (pZ 445 11 71)) (pZ 445 4 71)]) c'.env) _ s);have hm:bz c'.cs [.ret (.ife u5 (gZ 96 445 11 18) (.call (gZ 18 445 45 53) [.call (gZ 17 445 54 62) [lZ 99 445 63 69] (pZ 445 54 70)] (pZ 445 45 71)) (pZ 445 11 71)) (pZ 445 4 71)]=L7:=hm;refine af hm λ m zz=>af m λ m1 m=>af m λ zz m=>af m λ m2 m=>af m λ m3 m4=>af m3 λ m3 zz=>?_;refine bg (lG (P:=λ zz zz=>False) (on ((bp ic 3).ts 21 _ _ _ c' ρ s h C m1 R) λ b P0 z=>?_) λ zz zz z=>z.elim);(refine TE.el z λ P5 P8 P4 Qb=>?_;clear z;obtain rfl:=Qb);refine ac (if_neg MC) ?_;refine fj (og C P4 m2 (ic.glo 18 (.val (.ref 328)) (by kernel_rfl))) (λ u s₃ z=>?_) (bn m4 _ _ _);(refine PE.el z λ Qf Qh Qe QG=>?_;clear z);refine ac (show u=.ref 328 from QG) ?_;exact cq (K:=c'.K) (P:=λ zz zz=>False) (sE (.tail _ (.tail _ (.head _)))) (cu (env:=c'.env) (pos:=(pZ 445 45 71)) [.call (gZ 17 445 54 62) [lZ 99 445 63 69] (pZ 445 54 70)]).1 (bd (P:=λ zz zz=>False) (mr C Qe m3 (ic.glo 17 (.val (.ref 321)) (by kernel_rfl)) (sE (.tail _ (.head _))) rfl λ Qt Ql u QT QB x=>CR hw c' Qt _ Ql [u] (C.less (by decide)) QB (aq u ([]) ⟨rfl,x,rfl⟩) λ e s' A=>rz X.toEnY EN A λ s'' A=>hx e s'' (A.less (P8.trans (Qh.trans QT)) Nz)) λ zz zz z=>z.elim) λ zz zz z=>z.elim
theorem ti{vs:List AV}{p1 p2 p3 p4 q:Pos}{rest:List S}(hw:w∈rn)(hF:pO f n fd)(hn:vs.length=n)(hb:fd.body=.asg 80 q (.call (.glo 33 p1) [.loc 121 p2] p3) p4::rest)(hl:∀N,(lg fd (vs++fd.dfl) N).lookup 121=L6 (.byt w)):Et 23 f vs:=qv hF hn λ c c' RT Qw Qg Qj ρ s X EN QX C hm R hx=>by
 rw[hb] at hm ⊢;refine af hm λ m zz=>af m λ zz m=>af m λ m1 m2=>?_;exact bg (c9 (P:=λ zz zz=>False) (mr C R m1 (ic.glo 33 (.val (.ref 622)) (by kernel_rfl)) (sE (.tail _ (.tail _ (.tail _ (.head _))))) (hl _) λ Qt Ql u QT QB x=>Dm hw c' Qt _ Ql [u] C QB (aq u ([]) ⟨rfl,x,rfl⟩) λ e s' A=>rz X.toEnY EN A λ s'' A=>hx e s'' (A.less QT Nz)) (λ zz zz z=>z.elim) (dJ m2 _ _ _))
theorem xQ(hw:w∈rn)(j:Nat)(a b:AV):Et 23 689 [.obj j,a,.byt w,b]:=ti hw (DI (a:=689) (n:=4) (fd:=BG) (by kernel_rfl)) rfl rfl λ zz=>rfl
noncomputable def GZ:FD:=⟨[143,100,121],[],BN,[]⟩
theorem qf(hw:w∈rn)(j:Nat)(a:AV):Et 23 696 [.obj j,a,.byt w]:=ti hw (gR 696 3 GZ (by kernel_rfl)) rfl rfl λ zz=>rfl
end
noncomputable def B2(ρ:RR)(q:Str)(a:Addr):Prop:=∃oc vs t,ρ.z.cel a oc/\oc.data=.fields vs/\vs[1]?=L6 (.str q t)
noncomputable def qV(l:List (Pos×Addr)):List Value:=l.flatMap λ x=>[rawInt x.1.line,rawInt x.1.col,.ref x.2]
noncomputable def AM(ρ:RR)(q:Str)(ps:Array Value):Prop:=∃l:List (Pos×Addr),ps=(qV l).toArray/\∀x∈l,B2 ρ q x.2
theorem mV:∀l:List (Pos×Addr),TriplesOk (qV l)
 | []=>trivial
 | _::l=>mV l
theorem j1:∀l:List (Pos×Addr),PA p (qV l)=L9\/∃x∈l,PA p (qV l)=L6 (.ref x.2)
 | []=>.inl rfl
 | x::l=>by
  show(if((x.1.line:Int)==p.line&&(x.1.col:Int)==p.col)=L7 then L6 (.ref x.2) else PA p (qV l))=L9\/∃y∈x::l,(if((x.1.line:Int)==p.line&&(x.1.col:Int)==p.col)=L7 then L6 (.ref x.2) else PA p (qV l))=L6 (.ref y.2);by_cases h:((x.1.line:Int)==p.line&&(x.1.col:Int)==p.col)=L7
  ·refine ac (if_pos h) ?_;exact .inr ⟨x,.head _,rfl⟩
  ·refine ac (if_neg h)<|(j1 l).imp id λ zz=>by(refine ag zz λ y hy e=>?_;clear zz);exact⟨y,.tail _ hy,e⟩
theorem B2.mono(e:ρ.Le ρ')(h:B2 ρ q a):B2 ρ' q a:=by(refine bw h λ oc vs t h1 h2=>?_;clear h);exact(aI oc vs t ⟨e.z.c _ _ h1,h2⟩)
theorem AM.mono(e:ρ.Le ρ')(h:AM ρ q ps):AM ρ' q ps:=by
 (refine ag h λ l h1 h2=>?_;clear h);exact⟨l,h1,λ x hx=>(h2 x hx).mono e⟩
section
variable{c:Cx}{d:Nat}{ρ ρ':RR}{σ:St}{s Qj:Mc}{fd:FD}{ps:Array Value}
inductive Kv(c:Cx)(ρ:RR)(σ:St)(s:Mc)(ps:Array Value):Prop
 | mk (m:Str->Option Value) (rest:List (Addr×Obj)) (F:Fr c.h₀ c.L s.heap m) (L:c6 ρ σ.loc (dn c.vc m)) (N:Pj c.h₀ c.L s.heap ((835,MK ps)::rest)) (n:∀p∈rest,p.1≠835) (k:∀h' tk nw ps',Fr c.h₀ c.L h' m->Pj c.h₀ c.L h' (nw++(835,MK ps')::rest)->(∀p∈nw,∀q∈(835,MK ps)::rest,q.1<p.1)->
   aX c ρ σ {s with heap:=h',toks:=tk} λ x=>x=835\/x∈nw.map (·.1))
theorem au.lam(X:rA c Qj fd)(R:au (c.hold 835 (MK ps) 2) ρ σ s):Kv c ρ σ s ps:=by
 refine aD ((R.toN).drop X.nP (by decide)) λ R g=>?_;(refine aX.el R λ m τ F L K r t=>?_;clear R);refine cg (t 835 (.inr rfl)) λ t1 l n=>?_;have N:=dM K.N;have ne:∀p∈own s.heap τ,p.1≠835:=λ p hp e=>(bj.mp hp).1 (e▸t1);refine⟨m,own s.heap τ,F,L,λ p hp=>?_,ne,λ h' tk nw ps' F' N' lt=>⟨m,τ,F',L,K.imp (λ a o k j hk cl=>⟨(N' (a,o) (Ml _ (.tail _ (bj.mpr ⟨by refine ac cl.t ?_;exact hk,cl.g⟩)))).1,cl.t⟩) (λ a q=>?_) K.Y,r,λ x hx=>?_⟩⟩
 ·rcases Mj.mp hp with rfl|hp
  ·exact⟨g,l.symm,n⟩
  ·exact N p hp
 ·refine aA (MZ.mp (K.N a q).g) λ o e=>cg (N' (a,o) (Ml _ (.tail _ (bj.mpr ⟨q,e⟩)))) λ n1 n2 n3=>⟨by refine ac n1 ?_;rfl,n2,n3⟩
 ·rcases hx with rfl|hx
  ·exact⟨t1,l,n⟩
  ·(refine ag (Mu.mp hx) λ p hp PZ=>?_;obtain rfl:=PZ);refine cg (N' p (MS _ hp)) λ n1 n2 n3=>⟨OI λ q=>?_,n2.symm,n3⟩
   refine aA (MZ.mp (K.N p.1 q).g) λ o e=>absurd (lt p hp (p.1,o) (.tail _ (bj.mpr ⟨q,e⟩))) (NS _)
theorem E9(C:aQ c d)(X:rA c Qj fd)(hc:CodeHd c.h₀ 837 835)(Tb:AM ρ q ps)(R:au (c.hold 835 (MK ps) 2) ρ σ s)(hq:c.env.qual++"<lambda>"=q)(hd:defaultsOf params c.env=([],[]))(Qu:closureFor scope c.env=Nx clos)
  (k:∀f cc ps' pm ctv ρ' s',ρ.Le ρ'->AM ρ' q ps'->au (c.hold 835 (MK ps') 2) ρ' σ s'->ρ'.z.cel f (kla_obj "<lambda>" q params body scope clos pm cc ctv)->B2 ρ' q cc->Q (.ref f) s'):MJ c.M c.A (MN (.Lambda params body scope pos) c.env) Q c.E s:=by
 obtain⟨m,rest,F,L,N,n,kk⟩:=R.lam X;(refine ag Tb λ l P2 hl=>?_;clear Tb;obtain rfl:=P2);have env:c.env=envX c.cn c.fs c.L c.a c.ccd c.cl:=by refine ac X.e ?_;refine(?_:envX c.cn c.fs c.fL _ _ _=_);exact ac X.l rfl
 refine kla_eval hd<|ac hq ?_;rw[env] at Qu ⊢;rcases j1 (p:=pos) l with hn|⟨x,hx,hh⟩
 ·refine kla_nest F N C.T hc X.cd (.head n) (mV l) hn Qu λ f c' oc vs t ctv h' tk F' N' hd hv lt lt2=>?_;have l8:@LT.lt Nat _ 835 c':=lt _ (.head _);have R2:=((kk h' tk [(f,_),(c',oc)] _ F' N' λ p hp w hw=>by
   rcases Mj.mp hp with rfl|hp
   ·exact NM (lt w hw) lt2
   ·refine ac (Ma.mp hp) ?_;exact lt w hw).ice (I:=f) (.inr (.head _)) (N' _ (.head _)).1).ice (I:=c') ⟨.inr (.tail _ (.head _)),Mi lt2⟩ (N' _ (.tail _ (.head _))).1
  refine k f c' _ _ ctv _ _ (RR.Le.ice.trans RR.Le.ice) ⟨l++[(pos,c')],?_,λ x hx=>?_⟩ (R2.hold (I:=835) ⟨⟨.inl rfl,Mi (NM l8 lt2)⟩,Mi l8⟩ 2 (N' _ (.tail _ (.tail _ (.head _)))).1).rel (.inl (.inr ⟨rfl,rfl⟩)) (aI oc vs t ⟨.inr ⟨rfl,rfl⟩,hd,hv⟩)
  ·unfold qV;refine ac List.flatMap_append ?_;simp
  ·rcases No.mp hx with hx|hx
   ·exact(hl x hx).mono (RR.Le.ice.trans RR.Le.ice)
   ·refine ac (Ma.mp hx) ?_;exact(aI oc vs t ⟨.inr ⟨rfl,rfl⟩,hd,hv⟩)
 ·refine kla_hit F N C.T hc X.cd (.head _) (mV l) hh Qu λ f ctv h' tk F' N' lt=>?_;have R2:=(kk h' tk [(f,_)] _ F' N' λ p hp w hw=>by refine ac (Ma.mp hp) ?_;exact lt w hw).ice (I:=f) (.inr (.head _)) (N' _ (.head _)).1;exact k f x.2 _ _ ctv _ _ RR.Le.ice ⟨l,rfl,λ x hx=>(hl x hx).mono RR.Le.ice⟩ (R2.hold (I:=835) ⟨.inl rfl,Mi (lt _ (.head _))⟩ 2 (N' _ (.tail _ (.head _))).1).rel (.inr ⟨rfl,rfl⟩) ((hl x hx).mono RR.Le.ice)
end
section
variable{prog:Nb}{w:MO}{A:Nj}{R:Nt->Mc->Prop}{s:Mc}
theorem rh
  (h:aB (Mh prog w) (A.deeper env) (MN e env) (λ v s'=>R (.ok (.ret v)) s')
   (λ e' s'=>MJ (Mh prog w) (A.deeper env) (leaving env e') (λ zz s''=>R (.error e') s'') (λ e'' s''=>R (.error e'') s'') s') s) :
  aL (Mh prog w) A (.expr e env) R s:=by
 refine aV (λ zz zz=>rfl)<|(?_:aB _ (A.deeper env) (do point;ret (← (MN e env).onRaise (leaving env))) _ _ s)
 exact az (wpAny_point (aj (bR (ax h (λ v s' h'=>al h') λ zz zz h'=>h'))))
theorem kj(QA:A.depth<NB)(ho:s.heap.get? a=L6 o)
  (hd':o.data=.func fd) (hco:fd.scope.isCoroutine=L8) (QO:fd.scope.isGenerator=L8) (hbody:fd.body=.expr body) (hcd:s.heap.CodeRec fd.code fd.qualname)
  (h:MJ (Mh prog w) A.in1 (Ph fd args) (λ binds s₁=>
   MJ (Mh prog w) A.in1 (Pf fd.scope fd.globals fd.closure binds (fd.qualname++".<locals>.") (L6 a) fd.code L9 fd.builtins)
    (λ env P0=>P0.heap.NoLimit/\aL (Mh prog w) A (.expr body env) R P0) (λ e s'=>R (.error e) s') s₁) (λ e s'=>R (.error e) s') s) :
  aL (Mh prog w) A (.call (.ref a) args) R s:=by
 refine aV (λ zz zz=>rfl)<|(?_:aB _ A.in1 (O6 (.ref a) args) _ _ s)
 simp only[O6];refine az (Pc ho ?_);(refine dj hcd λ c oc vs tq hc hoc hdc hq=>?_;clear hcd);simp only[hd',callFunction,hco,QO,hbody,hc];rw[hc] at h;refine az (m:=field (.ref c) 1) (wpAny_field hoc hdc hq (az (Mp ?_)));exact az (NK h (λ binds s₁ h₁=>az (NK h₁ (λ env P0 Qa=>az (wpAny_enterFrame Qa.1 QA
  (al (N7 rfl Qa.2)))) λ zz zz h'=>h')) λ zz zz h'=>h')
end
noncomputable def qH:Arguments:={posonlyargs:=[],args:=[],vararg:=L9,kwonlyargs:=[],kw_defaults:=[],kwarg:=L9,defaults:=[] }
noncomputable def fJ:Scope:={kind:=.function,names:=[(nm 129,.free),(nm 141,.free)],isGenerator:=L8,isCoroutine:=L8}
theorem oT(h:fJ.names.lookup y=L6 k):k=.free:=by
 rcases Mj.mp (aN h) with e|e
 ·exact congrArg NE e
 ·exact congrArg NE (Ma.mp e)
noncomputable abbrev zY(q:Str)(L' f cc:Addr)(cl:List (Str×Addr)):Env:=envX q fJ L' f (.ref cc) cl
noncomputable def By(c:Cx)(q:Str)(L' f cc:Addr)(cl:List (Str×Addr))(g:M4)(s:Mc)(RT:Nt->Mc->Prop):Cx:=
 {w:=c.w,prg:=c.prg,loose:=c.loose,mean:=c.mean,mg:=c.mg,mb:=c.mb,dp:=c.dp+1,un:=c.un+3,gd:=c.gd,cn:=q,fs:=fJ,fL:=L',cs:=fJ,L:=L',a:=f,ccd:=.ref cc,cl:=cl,vq:=q++".<locals>.",vf:=L6 f,vc:=cl,outer:=c.fenv::c.outer,A₀:=c.A,base:=c.base,h₀:=g,s:=s,fx:=c.fx,
  E:=λ e s'=>MJ c.M (c.A.deeper (zY q L' f cc cl)) (leaving (zY q L' f cc cl) e) (λ zz s''=>RT (.error e) s'') (λ e' s''=>RT (.error e') s'') s'}
section
variable{c:Cx}{d:Nat}{ρ:RR}{σ:St}{s:Mc}{RT:Nt->Mc->Prop}{q:Str}{f cc:Addr}{body:Expr}{pm ctv:Value}{aT aW:Addr}
noncomputable def kZ:List (Nat×AV):=[(129,.obj 1),(141,.obj 0)]
theorem wA(C:aQ c (d+1))(R:au c ρ σ s)(hf:ρ.z.cel f (kla_obj "<lambda>" q qH body fJ [(nm 141,aW),(nm 129,aT)] pm cc ctv))(hcc:B2 ρ q cc)(h1:ρ.ad[1]?=L6 aT)(h0:ρ.ad[0]?=L6 aW)
  (body':∀Qm P0,EnY c Qm RT->iZ c Qm ρ σ s->aQ Qm d->Qm.cs=fJ->Qm.vc=[(nm 141,aW),(nm 129,aT)]->au Qm ρ ⟨kZ,σ.obs,σ.ph⟩ P0->W Qm (MN body Qm.env) (λ v s'=>RT (.ok (.ret v)) s') P0):aL c.M c.A (.call (.ref f) ⟨[],[]⟩) RT s:=by
 (refine au.el R λ m τ F L K r=>?_;clear R);refine aP hcc λ oc vs t hc hd hv=>?_;obtain⟨g₀,Rd⟩:∃g₀,g₀=Oz s.heap ((own s.heap τ).map (·.1)):=⟨_,rfl⟩
 have EN:∀L',iZ c (By c q L' f cc [(nm 141,aW),(nm 129,aT)] g₀ s RT) ρ σ s:=λ L'=>⟨m,τ,F,L,K.N,Rd,⟨r.1,r.2.1,r.2.2⟩,rfl,rfl⟩
 refine aA ((EN 0).fr) λ m₁ FG=>?_;have st:∀b o,c.h₀.get? b=L6 o->g₀.get? b=L6 o:=FG.keep;refine kj (fd:=kla_fn "<lambda>" q qH body fJ [(nm 141,aW),(nm 129,aT)] pm (.ref cc) ctv) (by have:=C.hd;refine(?_:c.dp<_);lia) (K.Z f _ hf).g rfl rfl rfl rfl (cK cc oc vs t ⟨rfl,(K.Z cc oc hc).g,hd,hv⟩) ?_;refine ac (show Ph (kla_fn "<lambda>" q qH body fJ [(nm 141,aW),(nm 129,aT)] pm (.ref cc) ctv) ⟨[],[]⟩=Nx [] from rfl)<|wpAny_pure (Ot (λ x hx=>(Mj.mp hx).elim (λ e=>by refine ac e ?_;exact λ z=>(by cases z)) λ hx=>by refine ac (Ma.mp hx) ?_;exact λ z=>(by cases z)) (λ y hy=>(ni hy)) (λ h₁ hns hsb=>⟨((C.T.nolimit).keeps F.keep).fresh _ hsb,?_⟩) rfl);refine(?_:aL _ _ (.expr body (zY q s.heap.objs.size f cc [(nm 141,aW),(nm 129,aT)])) _ _);have hk₁:∀b o,s.heap.get? b=L6 o->h₁.get? b=L6 o:=λ b o e=>hsb.extBut b o (Mi (Mv e)) (Mb _ e);have Q4:Below c.A c.base (c.fenv::c.outer) g₀:=⟨rfl,λ b o e=>st b o (C.B b o e),C.FF _ _ FG⟩
 have ff:=Below.ff (env:=zY q s.heap.objs.size f cc [(nm 141,aW),(nm 129,aT)]) (L:=s.heap.objs.size) Q4 rfl rfl;refine rh (body' (By c q s.heap.objs.size f cc [(nm 141,aW),(nm 129,aT)] g₀ s RT) {s with heap:=h₁,toks:=s.toks+([]:List (Str×Value)).length} ⟨rfl,rfl,rfl,rfl⟩ (EN _)
  ⟨Q4.stays,λ h m F=>ff.1 h m F,λ h nw N=>ff.2 h nw N,C.X.keeps st,C.T.keeps st,rfl,(by have:=C.hd;refine(?_:c.dp+1+d<_);lia),(by have:=C.hu;refine(?_:c.un+3+(10*d+100)<_);lia),Ol,λ y hy=>(by cases oT hy),λ y hy=>(by cases oT hy)⟩ rfl rfl
  ⟨_,τ,⟨hns,λ b o e=>hk₁ b o (OL _ (Rd▸e)),Ob (Rd▸PG _ _)⟩,λ i a e=>?_,⟨λ b q=>?_,K.Y,K.sz,(K.grow hk₁).O,(K.grow hk₁).Z,(K.grow hk₁).X,(K.grow hk₁).B⟩,rfl,rfl,rfl⟩)
 ·rcases Mj.mp (aN e) with e|e
  ·(refine aD (MD e) λ Qc P2=>?_;obtain rfl:=Qc;obtain rfl:=P2);exact⟨.ref aT,cP (by kernel_rfl),aT,rfl,h1⟩
  ·(refine aD (MD (Ma.mp e)) λ Qc P2=>?_;obtain rfl:=Qc;obtain rfl:=P2);exact⟨.ref aW,cP (by kernel_rfl),aW,rfl,h0⟩
 ·refine aA (MZ.mp (K.N b q).g) λ o e=>⟨by refine ac (hk₁ b o e) ?_;rfl,Mi (Mv e),Rd▸OQ _ (d7.mpr ⟨q,by refine ac e ?_;rfl⟩)⟩
theorem uR(C:aQ c d)(R:au c ρ σ s)(h2:c.cs.names.lookup (nm i)=L6 .free)(h3:(nm i==("__debug__":Str))=L8)(h4:(nm i==("__classdict__":Str))=L8)(hc:c.vc.lookup (nm i)=L6 ca)(hl:σ.loc.lookup i=L6 (.obj j))(ho:σ.obs[j]?=L6 (.cel (L6 a))):W c (MN (.Name (nm i) p) c.env) (PE c ρ σ a) s:=by
 have x:Is ρ (.obj j) (.ref ca):=by
  (refine au.el R λ m τ F L K r=>?_;clear R);refine ag (L i _ hl) λ u e1 x=>sI ((cP hc).symm.trans e1)▸x
 refine rC.el (R.obj ho x) λ τ xa e q _ _=>?_;(refine fB q λ ob cl u' hd y=>?_;clear q);exact ah (wpAny_Name (wpAny_loadName_free C.hk h2 hc ⟨ob,M5 e▸cl.g,hd⟩ (.here R y) h4) h3)
end
section
variable{c P6:Cx}{d Rq n:Nat}{ρ PY:RR}{σ:St}{s s' s'':Mc}{RT:Nt->Mc->Prop}{fd:FD}{f:Addr}{e aT aW:Addr}{os:List AO}{ph:Bool}{w:List UInt8}{as:List AV}{rest:List X}{m:Nat}{g:Addr}{p1 p2 p3 ap pos:Pos}
theorem sy(C:aQ c 23)(QJ:c.cs=fJ)(hvc:c.vc=[(nm 141,aW),(nm 129,aT)])(R:au c ρ ⟨kZ,os,ph⟩ s)(h1:os[1]?=L6 (.cel (L6 (.obj 10))))(h0:os[0]?=L6 (.cel (L6 (.byt w))))(hm:Gi aM os (.obj 10) m=L6 (.val (.ref g)))(hp:(ap.endLine==pos.line)=L7)(hn:rest.length<28)
  (hk:∀w:MO,OX (hd.heap_39 w.params) (.ref g)=L7) (hr:pg ((aC aM 1).ev 23) rest ⟨kZ,os,ph⟩=L6 (as,⟨kZ,os,ph⟩)) (hrc:gk c.cs rest=L7) (hrai:Et 23 g (.obj 10::.byt tR::.byt w::as)) (hx:∀e s',pT c ρ os ph e s'->c.E (.ref e) s') :
  W c (MN (a8 (.meth (.loc 129 p1) m ap (.byt tR 0 p2::.loc 141 p3::rest) pos)) c.env) (λ zz zz=>False) s:=by
 have l1:c.cs.names.lookup (nm 129)=L6 .free:=by refine ac QJ ?_;kernel_rfl
 have l0:c.cs.names.lookup (nm 141)=L6 .free:=by refine ac QJ ?_;kernel_rfl
 refine fR (uR (ca:=aT) C R l1 (by kernel_rfl) (by kernel_rfl) (by refine ac hvc ?_;kernel_rfl) rfl h1) (λ u s₁ z=>?_) (sp rfl (by refine(?_:rest.length+2<30);lia) hp);(refine PE.el z λ PY P1 R₁ P7=>?_;clear z);refine aK (A5 bc.met C R₁ P7 hm) λ fx P0 z=>?_;(refine MX.el z λ g' e PZ P4=>?_;clear z;obtain rfl:=PZ);obtain rfl:.ref g=g':=sI (congrArg H6 e);refine cq (K:=c.K) (P:=λ us s'=>∃ρ',PY.Le ρ'/\au c ρ' ⟨kZ,os,ph⟩ s'/\IsL ρ' (.byt tR::.byt w::as) us) (hk c.w) (cu (env:=c.env) (pos:=pos) (.byt tR 0 p2::.loc 141 p3::rest)).1 (bd (P:=PE c PY ⟨kZ,os,ph⟩ (.byt tR)) ?_ λ v s₃ z=>?_) λ us s' z=>?_
 ·exact(bp bc 1).ev 23 (.byt tR 0 p2) _ (.byt tR,⟨kZ,os,ph⟩) c PY P0 rfl C rfl P4
 ·(refine PE.el z λ Qf Qh Qe QG=>?_;clear z);refine bd (P:=PE c Qf ⟨kZ,os,ph⟩ (.byt w)) (uR (ca:=aW) C Qe l0 (by kernel_rfl) (by kernel_rfl) (by refine ac hvc ?_;kernel_rfl) rfl h0) λ v' Ql z=>?_;(refine PE.el z λ Qt QT QB RB=>?_;clear z);refine aK (js (bp bc 1).ev C hr hrc QB) λ us s₅ z=>?_;(refine PL.el z λ Qy QQ Q2 RA=>?_;clear z);exact⟨Qy,Qh.trans (QT.trans QQ),Q2,(aq _ _ ⟨rfl,QG.mono (QT.trans QQ),(aq _ _ ⟨rfl,RB.mono QQ,RA⟩)⟩)⟩
 ·refine cC z λ Qf Qh Qe QG=>⟨Qe.X C,hrai c Qf _ s' _ C Qe (ay.k (P7.mono Qh) QG) λ e s' A=>hx e s' (A.less (P1.trans Qh) Nz)⟩
theorem Go:∀w:MO,ktsIn (hd.heap_39 w.params) 64 "BaseException"=L7:=λ w=>by kernel_rfl
theorem Jy:∀w:MO,nsIn (hd.heap_39 w.params) O1 (nm 3)=L6 (L6 (.ref 64)):=λ w=>by kernel_rfl
theorem Ea(QX:aQ c Rq)(QC:aQ P6 d)(X:EU c P6 f fd RT)(EN:iZ c P6 ρ σ s)(ho:c.outer=[])(hl:c.fL=c.L)(hb:c.base=c.h₀)(cl:P6.cl=[])(hsc:P6.cs.names.lookup (nm 3)=L6 .globalImplicit)(A:pT P6 PY os ph e s'')
  (k:∀h' g' m news,iY P6 PY os ph news->KtsTurn (P6.outer.filterMap (·.frame)) P6.h₀ g'->Fr g' P6.L h' m->Pj g' P6.L h' news->lu P6.s s''->MJ P6.M (P6.A.mark (L6 (.ref e))) (Na (SH::suite) P6.env) Q P6.E {s'' with heap:=h'}) :
  MJ P6.M P6.A (Ox (.ref e) P6.env) (λ zz P0=>MJ P6.M P6.A (OW (.ref e) L9) (λ zz s₃=>MJ P6.M P6.A (handleBy (.ref e) P6.env (.ExceptHandler (L6 (.Name (nm 3) np)) L9 (SH::suite) pos::hs)) Q P6.E s₃) P6.E P0) P6.E s'':=by
 (refine pT.el A λ g m t vs news G RS u F r=>?_;clear A);have Bl:=X.below EN QX QC;refine aA EN.fr λ RH RM=>?_;have fe:P6.fenv=envOf P6.cn P6.fs P6.L P6.a P6.ccd:=by
  refine(?_:envX P6.cn P6.fs P6.fL P6.a P6.ccd P6.cl=_);refine ac X.l (ac cl ?_);rfl
 have hA:P6.A=P6.A₀.deeper (envOf P6.cn P6.fs P6.L P6.a P6.ccd):=X.a.trans (ac fe rfl);have hE:PassesOwnAt P6.M (P6.A.mark (L6 (.ref e))) P6.A P6.fenv P6.E:=by refine ac X.E ?_;exact PassesOwnAt.leaving
 rw[X.e,fe] at k ⊢;rw[hA] at k hE ⊢;rw[fe] at RS hE;have D:KtsDicts (P6.outer.filterMap (·.frame)) P6.h₀:=λ b hm=>by
  rw[X.o,ho] at hm;obtain rfl:b=c.L:=by
   rcases mU (env:=c.fenv) (congrArg L6 hl) hm with z|z
   ·exact z
   ·exact ni z
  refine aP RM.ns λ o es ep h1 h2 zz=>(aI o es ep ⟨h1,h2⟩)
 have hbb:P6.base=c.h₀:=X.b.trans hb;exact caught_SO0 RS F Bl u (by refine ac hbb ?_;(refine iZ.el EN λ _ _ _ _ _ _ _ hw _=>?_;clear EN);refine ac hw ?_;exact QX.X) (by refine ac hbb ?_;exact QX.T) D .refl (Jy P6.w) (Go P6.w) (λ h' g' Sr T F' zz zz Nl zz zz zz zz=>k h' g' m news G T F' Nl r) (by refine ac X.fs ?_;exact QC.hk) (by refine(?_:P6.fs.names.lookup (nm 3)=_);refine ac X.fs ?_;exact hsc) (by kernel_rfl) hE
end
section
variable{c P6:Cx}{d Rq n:Nat}{ρ PY:RR}{σ:St}{s s' s'':Mc}{RT:Nt->Mc->Prop}{h' g':M4}{m:Str->Option Value}{news:List (Addr×Obj)}
theorem qu(Y:EnY c P6 RT)(EN:iZ c P6 ρ σ s)(ho:c.outer=[])(hl:c.fL=c.L)(T:KtsTurn (P6.outer.filterMap (·.frame)) P6.h₀ g')(F':Fr g' P6.L h' m)(Nl:Pj g' P6.L h' news)(G:iY P6 PY σ.obs σ.ph news)(le:ρ.Le PY)(sz:ρ.ad.length=σ.obs.length)(low:σ.obs.all (eL σ.obs.length)=L7)(r:lu P6.s s''):∃ρ',ρ.Le ρ'/\au c ρ' σ {s'' with heap:=h'}:=by
 refine aA EN.fr λ m₁ QZ=>?_;(refine iZ.el EN λ RH τ₀ RM SO N₀ hh hs w fx=>?_;clear EN);(refine iY.el G λ QR h5 τ Qy QW Su Ry Ru QQ K hz10=>?_;clear G;obtain rfl:=hz10);have only:∀b,b∈P6.outer.filterMap (·.frame)->b=c.L:=λ b hm=>by
  rw[Y.o,ho] at hm;rcases mU (env:=c.fenv) (congrArg L6 hl) hm with z|z
  ·exact z
  ·exact ni z
 have up:P6.h₀.UpToSlots h':=λ b o e zz=>by
  refine aA (T.up e) λ sl hs=>⟨sl,F'.keep _ _ hs⟩
 have keep:∀b o,c.h₀.get? b=L6 o->g'.get? b=L6 o:=λ b o e=>T.other b o (QZ.keep _ _ e) λ hm=>by
  rw[only b hm,kts_self QZ] at e;exact dC e
 have Fe:Fr c.h₀ c.L h' m₁:=⟨up.ns QZ.ns,λ b o e=>F'.keep b o (keep b o e),QZ.above⟩
 have hm:RH=m₁:=se RM.ns (by
  refine bw QZ.ns λ o es ep h1 h2=>(aI o es ep ⟨OL _ (hh▸h1),h2⟩))
 have hin:∀a o,(τ a).1≠0->h5.get? a=L6 o->h'.get? a=L6 o/\g'.get? a=L9:=λ a o q e=>by
  refine cg (Nl (a,o) (bj.mpr ⟨q,e⟩)) λ n1 n2 n3=>⟨n1,n3⟩
 have hc:∀a o k j,k≠0->Cl h5 τ k j a o->Cl h' τ k j a o:=λ a o k j hk cl=>⟨(hin a o (by refine ac cl.t ?_;exact hk) cl.g).1,cl.t⟩
 have K₁:aR c h' τ Qy QW σ.ph:=⟨λ a q=>by
  refine aA (MZ.mp (K.N a q).g) λ o e=>aD (hin a o q e) λ n1 n2=>⟨by refine ac n1 ?_;rfl,λ z=>?_,?_⟩
  ·refine bw QZ.ns λ oL es ep h1 zz=>aA (T.up h1) λ sl hs=>?_;rw[← z,n2] at hs;exact dC hs
  ·cases q:c.h₀.get? a with
   | none=>rfl
   | some o=>rw[keep a o q] at n2;exact(sn n2),K.Y,K.sz,λ i o e=>by
  refine ag (K.O i o e) λ a e1 q=>⟨a,e1,(Su.trans w)▸(Ry.trans fx)▸q.imp (λ a o j=>hc a o _ j (ND _)) RR.Le.refl λ zz zz h=>h⟩,λ a o z=>hc a o 1 0 Od (K.Z a o z),λ a o k z=>hc a o 1 _ Od (K.X a o k (by refine ac Ry (ac fx ?_);exact z)),λ a r z=>(K.B a r z).imp (λ b o j=>hc b o 2 j (ND _)) Fz.Le.refl⟩
 have hk:σ.obs.length<=QW.length:=by
  have l:=congrArg ON QQ;rw[NV] at l;lia
 have K₂:=K₁.cut hk (by refine ac QQ ?_;exact low);rw[QQ,← sz] at K₂;exact⟨_,(le.trans Ru).cut,RH,τ,hm▸Fe,SO.mono (le.trans Ru).cut,K₂,lu.trans hs r⟩
end
section
variable{prog:Nb}{w:MO}{A:Nj}{E:Value->Mc->Prop}{s:Mc}{env:Env}
theorem qd
  (h:aB M A body (λ zz zz=>False) (λ e s₁=>MJ M A (Ox e env) (λ zz P0=>MJ M A (OW e L9) (λ zz s₃=>MJ M A (handleBy e env (h₀::hs)) Q E s₃) E P0) E s₁) s) :
  aB M A (tryStmt L8 body (h₀::hs) orelse [] env) Q E s:=by
 unfold tryStmt;simp only[List.isEmpty_nil,if_true,List.isEmpty_cons,Bool.false_and,PD,if_false];refine aj (iD (ax h (λ f s₁ h₁=>h₁.elim) λ e s₁ h₁=>?_));exact ah (Me (NK h₁ (λ zz zz Qa=>Me Qa) λ zz zz x=>x))
theorem Cj
  (h:aB (Mh prog w) A (Na body env) (λ zz zz=>False) (λ e s₁=>MJ (Mh prog w) A (Ox e env) (λ zz P0=>MJ (Mh prog w) A (OW e L9) (λ zz s₃=>MJ (Mh prog w) A (handleBy e env (h₀::hs)) Q E s₃) E P0) E s₁) s) :
  aB (Mh prog w) A (Ov (.Try body (h₀::hs) orelse [] pos) env) Q E s:=by
 refine ac (arm_exec_Try _ _ _ _ _ _)<|aw (qd h)
end
section
variable{c:Cx}{d:Nat}{ρ:RR}{σ:St}{s:Mc}{f cc aT aW:Addr}{q:Str}{body:Expr}{pm ctv:Value}
theorem xX(C:aQ c 40)(ho:c.outer=[])(hl:c.fL=c.L)(hb:c.base=c.h₀)(R:au c ρ σ s)(hf:ρ.z.cel f (kla_obj "<lambda>" q qH body fJ [(nm 141,aW),(nm 129,aT)] pm cc ctv))(hcc:B2 ρ q cc)(h1:ρ.ad[1]?=L6 aT)(h0:ρ.ad[0]?=L6 aW)(low:σ.obs.all (eL σ.obs.length)=L7)
  (hlam:∀Qm P5 P0,aQ Qm 23->Qm.cs=fJ->Qm.vc=[(nm 141,aW),(nm 129,aT)]->au Qm P5 ⟨kZ,σ.obs,σ.ph⟩ P0->(∀e s',pT Qm P5 σ.obs σ.ph e s'->Qm.E (.ref e) s')->W Qm (MN body Qm.env) (λ zz zz=>False) P0) :
  W c (call (.ref 797) [.ref f]) (λ v s'=>v=.bool L7/\∃ρ',ρ.Le ρ'/\au c ρ' σ s') s:=by
 refine bB (tA (A':=c.A) (d':=30) (avs:=[.val (.ref f)]) rfl (DI (a:=797) (n:=1) (fd:=sP) (by kernel_rfl)) C (by have:=C.hd;refine(?_:c.dp+1+30<_);lia) (by have:=C.hu;refine(?_:c.un+3+(10*30+100)<_);lia) R (ay.k rfl rfl) rfl λ P6 PY s₁ X EN QC hm le R₁=>?_);have R₁:au P6 PY ⟨[(131,.val (.ref f))],σ.obs,σ.ph⟩ s₁:=by
  have e:σ.obs++iu sP ([.val (.ref f)]++sP.dfl)=σ.obs:=Mg _;rw[e] at R₁;exact R₁
 have cl:P6.cl=[]:=Pv.mp X.cl;have sc:P6.cs.names=[(nm 131,.local),(nm 3,.globalImplicit)]:=by
  refine w6 X.sc λ oc od QP g eK es=>?_;have h:((hd.heap_39 c.w.params).lookup 797).map (λ o=>match o.data with|.func g=>g.scope.names|zz=>[])=L6 [(nm 131,.local),(nm 3,.globalImplicit)]:=by kernel_rfl
  have eK:(hd.heap_39 c.w.params).lookup 797=_:=eK;rw[eK] at h;refine bP es ?_;exact sI h
 refine(?_:W P6 (Na (.Try [.Expr (.Call (a8 (lZ 131 549 8 12)) [] [] (pZ 549 8 14)) (pZ 549 8 14)] [.ExceptHandler (L6 (.Name (nm 3) (pZ 550 11 17))) L9 [.Return (L6 (.Constant (.bool L7) 0 (pZ 551 15 19))) (pZ 551 8 19)] ⟨550,4,551,19⟩] [] [] ⟨548,4,551,19⟩::[.Return (L6 (.Constant (.bool L8) 0 (pZ 552 11 16))) (pZ 552 4 16)]) P6.env) _ s₁);refine bg (Cj (bg (rI (P:=λ zz zz=>False) (fj (P:=PE P6 PY ⟨[(131,.val (.ref f))],σ.obs,σ.ph⟩ (.val (.ref f))) ?_ (λ u P0 z=>?_) (bn rfl _ _ _)) (λ zz zz z=>z.elim) (di QC) rfl)))
 ·have⟨m,τ,F,L,K,r⟩:=R₁;refine ag (L 131 (.val (.ref f)) rfl) λ v e x=>?_;have h2:P6.cs.names.lookup (nm 131)=L6 .local:=by refine ac sc ?_;kernel_rfl
  exact ah (wpAny_Name (wpAny_loadName_local QC.hk h2 F.ns ((fa (QC.hc _ h2)).symm.trans e) (.here R₁ x)) (by kernel_rfl))
 ·obtain⟨P5,P8,P4,Qi⟩:=z;refine ac (show u=.ref f from Qi) ?_;have le₂:=le.trans P8;refine dY (P:=λ us s'=>us=[]/\au P6 P5 ⟨[(131,.val (.ref f))],σ.obs,σ.ph⟩ s') rfl (cr ⟨rfl,P4⟩) λ us s' z=>?_;obtain⟨rfl,P4⟩:=z;refine⟨⟨.frame,.inl rfl,?_⟩,bB (wA (d:=23) (QC.less (by decide)) P4 (le₂.z.c _ _ hf) (hcc.mono le₂) (le₂.a _ _ h1) (le₂.a _ _ h0) λ Qm s₃ SI Sn RO QJ hvc Qe=>aK (hlam Qm P5 s₃ RO QJ hvc Qe λ e s' A=>rz SI Sn A λ s'' A'=>?_) λ zz zz z=>z.elim)⟩
  ·obtain⟨m,τ,F,L,K,r⟩:=P4;exact(Pl (K.Z f _ (le₂.z.c _ _ hf)).g).andThen .now
  ·refine Ea C QC X EN ho hl hb cl (by refine ac sc ?_;kernel_rfl) A' λ h' g' m news G T F' Nl r=>?_;refine ag (qu X.toEnY EN ho hl T F' Nl G le₂ R.size low r) λ ρ' l' R'=>wpAny_execs_cons<|ac (exec_Return_some _ _ _)<|wpAny_bind (Nf (Me (wpAny_Constant_bool (Mp ⟨rfl,ρ',l',R'⟩))))
end
theorem zT:(bu (lC (L6 (.byt w)) (.obj 11) (cR sh)) M p q (b6 sh)).all (eL (bu (lC (L6 (.byt w)) (.obj 11) (cR sh)) M p q (b6 sh)).length)=L7:=by
 cases sh<;>cases p<;>cases q<;>rfl
noncomputable def KS:X:=.meth (lZ 129 618 38 44) 101 (pZ 618 38 49) [.byt tR 0 (pZ 618 50 57),lZ 141 618 59 66,.byt [110,101,119,45,119,105,110,100,111,119] 0 (pZ 618 68 81)] (pZ 618 38 82)
noncomputable def KR:X:=.meth (lZ 129 620 38 44) 102 (pZ 620 38 51) [.byt tR 0 (pZ 620 52 59),lZ 141 620 61 68] (pZ 620 38 69)
noncomputable def JO(l:Nat)(e:Nat)(b:X):Stmt:=.If (.UnaryOp .Not (.Call (a8 (.glo 41 ⟨l,15,l,29⟩)) [.Lambda qH (a8 b) fJ ⟨l,30,l,e⟩] [] ⟨l,15,l,e+1⟩) ⟨l,11,l,e+1⟩) [.Return (L6 (.Constant (.bool L8) 0 ⟨l+1,19,l+1,24⟩)) ⟨l+1,12,l+1,24⟩] [] ⟨l,8,l+1,24⟩
theorem FQ:iT s5=.For (ui (.cel 141 (pZ 617 8 15))) (a8 (.tup [.byt [] 0 (pZ 617 20 23),.byt [67,45] 0 (pZ 617 25 30),.byt [110,111,107,101,121] 0 (pZ 617 32 40)] 0 (pZ 617 19 41))) [JO 618 82 KS,JO 620 69 KR] [] ⟨617,4,621,24⟩:=by kernel_rfl
theorem wM:ml 41 (.val (.ref 797)):=j0 (l:=[(41,.val (.ref 797))]) (λ w=>by kernel_rfl) 41 _ (by kernel_rfl)
theorem wI:∀w:MO,([797,689,696]:List Addr).all (λ a=>OX (hd.heap_39 w.params) (.ref a))=L7:=λ w=>by kernel_rfl
section
variable{c:Cx}{ρ:RR}{s Qj:Mc}{sh:pK}{M:aS}{p q:Option (List UInt8)}{w:List UInt8}{qn:Str}{ps:Array Value}{b:X}
noncomputable abbrev uq(w:List UInt8)(sh:pK)(M:aS)(p q:Option (List UInt8)):St:=gX (L6 (.byt w)) sh M p q bL
noncomputable def A1(c:Cx)(ρ:RR)(qn:Str)(w:List UInt8)(sh:pK)(M:aS)(p q:Option (List UInt8))(s':Mc):Prop:=∃ps' ρ',ρ.Le ρ'/\AM ρ' qn ps'/\au (c.hold 835 (MK ps') 2) ρ' (uq w sh M p q) s'
noncomputable def Ih(c:Cx)(ρ:RR)(qn:Str)(b:X)(aW aT:Addr)(w:List UInt8)(sh:pK)(M:aS)(p q:Option (List UInt8))(v:Value)(s':Mc):Prop:=∃f cc ps' pm ctv ρ',v=.ref f/\ρ.Le ρ'/\AM ρ' qn ps'/\au (c.hold 835 (MK ps') 2) ρ' (uq w sh M p q) s'/\ρ'.z.cel f (kla_obj "<lambda>" qn qH (a8 b) fJ [(nm 141,aW),(nm 129,aT)] pm cc ctv)/\B2 ρ' qn cc
noncomputable def EB(b:X)(w:List UInt8):Prop:=∀(Qm:Cx) (P5:RR) (P0:Mc) (aT aW:Addr) (sh:pK) (M:aS) (p q:Option (List UInt8)),aQ Qm 23->Qm.cs=fJ->Qm.vc=[(nm 141,aW),(nm 129,aT)]->au Qm P5 ⟨kZ,(uq w sh M p q).obs,L8⟩ P0->(∀e s',pT Qm P5 (uq w sh M p q).obs L8 e s'->Qm.E (.ref e) s')->W Qm (MN (a8 b) Qm.env) (λ zz zz=>False) P0
theorem Hj(hw:w∈rn):EB KS w:=λ Qm P5 P0 aT aW sh M p q C QJ hvc R hx=>
 sy (g:=689) (as:=[.byt [110,101,119,45,119,105,110,100,111,119]]) C QJ hvc R rfl rfl rfl rfl (by decide) (λ w=>Mq.mp (wI w) 689 (.tail _ (.head _))) rfl rfl (xQ hw 10 _ _) hx
theorem Hi(hw:w∈rn):EB KR w:=λ Qm P5 P0 aT aW sh M p q C QJ hvc R hx=>
 sy (g:=696) (as:=[]) C QJ hvc R rfl rfl rfl rfl (by decide) (λ w=>Mq.mp (wI w) 696 (.tail _ (.tail _ (.head _)))) rfl rfl (qf hw 10 _) hx
theorem xW(C:aQ c 40)(X:rA c Qj iK)(hc:CodeHd c.h₀ 837 835)(h41:cf c.cs .globalImplicit 41=L7)(Tb:AM ρ qn ps)(hq:c.env.qual++"<lambda>"=qn)(R:au (c.hold 835 (MK ps) 2) ρ (uq w sh M p q) s)(hb:EB b w) :
  W c (Ov (JO l e b) c.env) (λ fl s'=>fl=.next/\A1 c ρ qn w sh M p q s') s:=by
 refine aA (C.hc2 _ (X.ce 129 (.tail _ (.head _)))) λ aT hT=>aA (C.hc2 _ (X.ce 141 (.head _))) λ aW hW=>?_;have Qu:closureFor fJ c.env=Nx [(nm 141,aW),(nm 129,aT)]:=by
  refine(?_:iN c.env [(nm 129,.free),(nm 141,.free)] []=_);refine ac (gj (a:=aT) (by unfold PI;rw[show c.env.cells.lookup (nm 129)=L6 aT from hT])) (ac (gj (a:=aW) (by unfold PI;rw[show c.env.cells.lookup (nm 141)=L6 aW from hW])) ?_);rfl
 have ad:∀{i j:Nat} {a:Addr},c.vc.lookup (nm i)=L6 a->bL.lookup i=L6 (.obj j)->ρ.ad[j]?=L6 a:=λ{i j a} hv hl=>by
  (refine au.el R λ m τ F L K r=>?_;clear R);refine fB (L i (.obj j) hl) λ v e1 x e2 e3=>?_;rw[e2] at e1;exact M5 (sI ((cP hv).symm.trans e1))▸e3
 refine uV (fP (P:=λ b s'=>b=L7/\A1 c ρ qn w sh M p q s') (Q:=λ b s'=>b=L8/\A1 c ρ qn w sh M p q s') (eE (P:=λ v s'=>v=.bool L7/\A1 c ρ qn w sh M p q s') ?_ (λ v s₁ z=>?_) rfl) λ b s' z=>⟨by refine ac z.1 ?_;rfl,z.2⟩) λ b s' z=>?_
 ·refine fj (og (c:=c.hold 835 (MK ps) 2) C.hold R h41 wM) (λ u P0 z=>?_) (bn rfl _ _ _);(refine PE.el z λ PY P1 R₁ P7=>?_;clear z);refine ac (show u=.ref 797 from P7)<|cq (K:=c.K) (P:=λ us s'=>∃v,us=[v]/\Ih c PY qn b aW aT w sh M p q v s') (Mq.mp (wI c.w) 797 (.head _)) rfl (bd (x:=MN (.Lambda qH (a8 b) fJ ⟨l,30,l,e⟩) c.env) (P:=λ v s'=>Ih c PY qn b aW aT w sh M p q v s') (ah (E9 C X hc (Tb.mono P1) R₁ hq rfl Qu λ f cc ps' pm ctv ρ' s' le T' R' hf hcc=>(dQ f cc ps' pm ctv ρ' ⟨rfl,le,T',R',hf,hcc⟩))) λ v s₃ z=>cr ?_) λ us s' z=>?_
  ·exact⟨v,rfl,z⟩
  ·obtain⟨_,rfl,f,cc,ps',pm,ctv,ρ',rfl,le,T',R',hf,hcc⟩:=z;refine⟨R'.X C.hold,?_⟩;refine aK (xX (c:=c.hold 835 (MK ps') 2) C.hold X.o X.l X.b R' hf hcc ((P1.trans le).a _ _ (ad hT rfl)) ((P1.trans le).a _ _ (ad hW rfl)) zT λ Qm P5 P0 RO QJ hvc P4 hx=>hb Qm P5 P0 aT aW sh M p q RO QJ hvc P4 hx) λ v s'' z=>?_;(refine nA z λ Qc ρ'' l'' R''=>?_;clear z;obtain rfl:=Qc);exact⟨rfl,(aq ps' ρ'' ⟨P1.trans (le.trans l''),T'.mono l'',R''⟩)⟩
 ·(revert z;refine λ P3=>aD P3 λ Qc z=>?_;clear P3;obtain rfl:=Qc);exact ah (MQ ⟨rfl,z⟩)
 ·(revert z;refine λ P3=>aD P3 λ Qc z=>?_;clear P3;obtain rfl:=Qc);refine ac (if_neg MC)<|ah (On ⟨rfl,z⟩)
theorem Ek:yA:=λ c Qj sh M p q ρ s C X hm ok R=>by
 refine ac FQ ?_;have hm:kl c.cs (.fr (.cel 141 (pZ 617 8 15)) (.tup [.byt [] 0 (pZ 617 20 23),.byt [67,45] 0 (pZ 617 25 30),.byt [110,111,107,101,121] 0 (pZ 617 32 40)] 0 (pZ 617 19 41)) (sB s5) ⟨617,4,621,24⟩)=L7:=hm;refine af hm λ m0 m=>af m λ m1 m2=>af m2 λ m2 zz=>af m2 λ m2 zz=>af m2 λ m2 zz=>af m2 λ h41 zz=>?_;obtain⟨qn,hq⟩:∃qn,c.env.qual++"<lambda>"=qn:=⟨_,rfl⟩
 have hc:CodeHd c.h₀ 837 835:=codeHd_of_K C.X (by kernel_rfl);refine mu ((bp bc 2).ev 40 _ _ (.pv (.seq L8 (rn.map .byt)),gX L9 sh M p q bL) (c.hold 835 (MK #[]) 2) ρ s rfl C.hold m1 R) (λ val s₁ z=>?_) (λ x=>jA _ _ _);obtain⟨PY,P1,R₁,j,P7⟩:=z;cases j with
 | zero=>exact P7.elim
 | succ j=>
 (refine aP P7 λ a k us Qb za t=>?_;clear P7;obtain rfl:=Qb);have y:IsL PY (rn.map .byt) us:=bA.ofs (l:=rn.map PV.byt) (t.imp λ zz zz h=>⟨j,h⟩);have g:s₁.heap.get? a=L6 (rQ L8 us k):=by
  (refine au.el R₁ λ m τ F L K r=>?_;clear R₁);exact(K.Z a _ za).g
 have nc:∀o k,¬c.fx s₁.heap.objs.size o k:=λ o k z=>R₁.fxno (Mm _) o k (.inl z);have n8:s₁.heap.objs.size≠835:=λ e=>R₁.fxno (Mm _) (MK #[]) 2 (.inr ⟨e,rfl,rfl⟩);have nI:∀ps o k,¬(c.hold 835 (MK ps) 2).fx s₁.heap.objs.size o k:=λ ps o k z=>z.elim (nc o k) λ z=>n8 z.1;refine DH (env:=c.env) (λ zz s'=>∃ps ρ' wr,PY.Le ρ'/\AM ρ' qn ps/\aX (c.hold 835 (MK ps) 2) ρ' (gX (wr.map .byt) sh M p q bL) s' λ x=>x=s₁.heap.objs.size) (d6 (c:=c) (b:=L8) g y) (λ o hf=>(aI (#[]) PY L9 ⟨RR.Le.refl,⟨[],rfl,λ zz h=>nomatch h⟩,(R₁.new (k:=s₁.toks) λ zz zz e=>Mb _ e).sub λ x hx=>hx▸Mm _⟩)) (λ i s' J b hb o ho=>?_) (λ i s' h' tk J hk=>?_) C.hE (λ i v s' oI hi J gI hP=>?_) λ s' J=>?_
 ·obtain⟨ps,ρ',wr,le,T,m,τ,F,L,K,r,_⟩:=J;rw[Ma.mp hb] at ho ⊢;obtain rfl:=sI (g.symm.trans ho);exact(K.Z a _ (le.z.c _ _ za)).g
 ·refine aP J λ ps ρ' wr le T R'=>(aI ps ρ' wr ⟨le,T,R'.but rfl hk⟩)
 ·refine aP J λ ps ρ' wr le T R'=>ag (f7 y i v hP) λ av ea xv=>?_;(refine ag (Mu.mp (NG ea)) λ w hw PZ=>?_;obtain rfl:=PZ);have C':aQ ((c.hold 835 (MK ps) 2).hold s₁.heap.objs.size oI 0) 40:=C.hold.hold;refine oa (c:=(c.hold 835 (MK ps) 2).hold s₁.heap.objs.size oI 0) (σ':=uq w sh M p q) bc.tup C' (R'.hold rfl 0 gI).rel m0 (xv.mono le) (by cases wr<;>rfl) λ P0 P4=>?_;rw[ir] at P4;have X':rA (c.hold s₁.heap.objs.size oI 0) Qj iK:=⟨X.s,X.h,X.b,X.o,X.l,X.e,X.a₀,λ o k z=>z.elim (X.nP o k) λ z=>n8 z.1.symm,X.cd,X.lc,X.ce⟩
  refine bg (aK (xW (c:=c.hold s₁.heap.objs.size oI 0) C.hold X' hc h41 T hq P4 (Hj hw)) λ fl s₃ z=>?_);(refine pk z λ Qc ps₃ Qf SD SL Qe=>?_;clear z;obtain rfl:=Qc);refine bg (aK (xW (c:=c.hold s₁.heap.objs.size oI 0) C.hold X' hc h41 SL hq Qe (Hi hw)) λ fl Ql z=>?_);(refine pk z λ Qc Rt Qt SC SK QB=>?_;clear z;obtain rfl:=Qc);rw[ir] at QB;refine aD (QB.toN.drop (nI Rt) (by decide)) λ RI g1=>ah (On ⟨(aI Rt Qt (L6 w) ⟨le.trans (SD.trans SC),SK,RI.sub λ x hx=>.inr hx⟩),g1⟩)
 ·refine aP J λ ps ρ' wr le T R'=>⟨rfl,(aI ps ρ' wr R'.rel)⟩
end
end Mine
end
section
open PySem PySem.W PyProof.Rows PySem.Spec PySem.Calls
namespace Mine
section
set_option tactic.hygienic true
theorem all_ok:PySem.Challenge.rw_og0284_01.Holds:=yN Ek zD zB
end
end Mine
end
theorem PySem.Challenge.cw_og0284_01_holds : PySem.Challenge.rw_og0284_01.Holds :=
  Mine.all_ok
