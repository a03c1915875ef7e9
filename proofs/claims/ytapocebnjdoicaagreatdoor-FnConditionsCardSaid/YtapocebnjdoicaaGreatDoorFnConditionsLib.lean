/-
  What the helpers do.
-/
import Derived.Test.YtapocebnjdoicaaGreatDoorFnConditionsFun
set_option maxHeartbeats 4000000
set_option linter.unusedVariables false
set_option linter.unusedSimpArgs false
set_option maxRecDepth 100000
namespace Go.Ln
open Go
mutual
def aj:Condition→Nat
 | ⟨_,_,_,a3⟩=>1+az a3
def az:List Condition→Nat
 | []=>0
 | x::xs=>aj x+az xs
end
theorem b6 (x:Condition):aj x=1+az x.Parts:=by cases x;simp only[aj]
theorem fD:∀a,az a=a.length+(a.map fun x=>az x.Parts).sum
 | []=>rfl
 | x::xs=>by simp only[az,b6,fD xs,List.length_cons,List.map_cons,List.sum_cons];omega
mutual
def bR:Condition→Prop
 | ⟨a0,a1,a2,a3⟩=>tn a0∧wM a1∧tn a2∧(a3.length≤1048576∧jT a3)∧az a3≤1048576
def jT:List Condition→Prop
 | []=>True
 | x::xs=>bR x∧jT xs
end
theorem oJ:∀xs,jT xs↔∀x∈xs,bR x
 | []=>by simp[jT]
 | x::xs=>by simp[jT,oJ xs]
theorem dQ (x:Condition):bR x↔tn x.Op∧wM x.Name∧tn x.Day∧Ca bR x.Parts∧az x.Parts≤1048576:=by cases x;simp only[bR,oJ,Ca]
theorem eN {P:Condition→Prop}(h:∀x,(∀y∈x.Parts,P y)→P x):∀x,P x:=by
 have key:∀(N:Nat) (x:Condition),SizeOf.sizeOf x<N→P x:=by
  intro N
  induction N with
  | zero=>intro x hx;omega
  | succ N ih=>
   intro x hx
   refine h x fun y hy=>ih y ?_
   cases x
   have:=List.sizeOf_lt_of_mem hy
   simp at this hx
   omega
 exact fun x=>key _ x (Nat.lt_succ_self _)
end Go.Ln
