/-
  What the helpers do.
-/
import Derived.Test.YtoghefkinobihaaDoorFnImplicationsFun
set_option maxHeartbeats 4000000
set_option linter.unusedVariables false
set_option linter.unusedSimpArgs false
set_option maxRecDepth 100000
namespace Go.Ln
open Go
mutual
def aw:Condition→Nat
 | ⟨_,_,_,a3⟩=>1+ar a3
def ar:List Condition→Nat
 | []=>0
 | x::xs=>aw x+ar xs
end
theorem dE (x:Condition):aw x=1+ar x.Parts:=by cases x;simp only[aw]
theorem eU:∀a,ar a=a.length+(a.map fun x=>ar x.Parts).sum
 | []=>rfl
 | x::xs=>by simp only[ar,dE,eU xs,List.length_cons,List.map_cons,List.sum_cons];omega
mutual
def ch:Condition→Prop
 | ⟨a0,a1,a2,a3⟩=>HE a0∧HG a1∧HE a2∧(a3.length≤1048576∧jK a3)∧ar a3≤1048576
def jK:List Condition→Prop
 | []=>True
 | x::xs=>ch x∧jK xs
end
theorem oH:∀xs,jK xs↔∀x∈xs,ch x
 | []=>by simp[jK]
 | x::xs=>by simp[jK,oH xs]
theorem iq (x:Condition):ch x↔HE x.Op∧HG x.Name∧HE x.Day∧HF ch x.Parts∧ar x.Parts≤1048576:=by cases x;simp only[ch,oH,HF]
theorem eM {P:Condition→Prop}(h:∀x,(∀y∈x.Parts,P y)→P x):∀x,P x:=by
 have key:∀(N:Nat) (x:Condition),SizeOf.sizeOf x<N→P x:=by
  intro N
  induction N with
  | zero=>intro x hx;omega
  | succ N ih=>
   intro x hx
   refine h x fun y hy=>ih y ?_
   cases x
   have:=List.sizeOf_lt_of_mem hy
   simp at this hx
   omega
 exact fun x=>key _ x (Nat.lt_succ_self _)
end Go.Ln
