/-
  What the helpers do.
-/
import Derived.Test.YtpbdjajabmdbcaaGreatDoorFnExactClashingClausesFun
set_option maxHeartbeats 4000000
set_option linter.unusedVariables false
set_option linter.unusedSimpArgs false
set_option maxRecDepth 100000
namespace Go.Ln
open Go
mutual
def aI:Condition→Nat
 | ⟨_,_,_,a3⟩=>1+aC a3
def aC:List Condition→Nat
 | []=>0
 | x::xs=>aI x+aC xs
end
theorem eg (x:Condition):aI x=1+aC x.Parts:=by cases x;simp only[aI]
theorem eY:∀a,aC a=a.length+(a.map fun x=>aC x.Parts).sum
 | []=>rfl
 | x::xs=>by simp only[aC,eg,eY xs,List.length_cons,List.map_cons,List.sum_cons];omega
mutual
def b6:Condition→Prop
 | ⟨a0,a1,a2,a3⟩=>pE a0∧qR a1∧pE a2∧(a3.length≤1048576∧kc a3)∧aC a3≤1048576
def kc:List Condition→Prop
 | []=>True
 | x::xs=>b6 x∧kc xs
end
theorem pF:∀xs,kc xs↔∀x∈xs,b6 x
 | []=>by simp[kc]
 | x::xs=>by simp[kc,pF xs]
theorem fH (x:Condition):b6 x↔pE x.Op∧qR x.Name∧pE x.Day∧oc b6 x.Parts∧aC x.Parts≤1048576:=by cases x;simp only[b6,pF,oc]
theorem et {P:Condition→Prop}(h:∀x,(∀y∈x.Parts,P y)→P x):∀x,P x:=by
 have key:∀(N:Nat) (x:Condition),SizeOf.sizeOf x<N→P x:=by
  intro N
  induction N with
  | zero=>intro x hx;omega
  | succ N ih=>
   intro x hx
   refine h x fun y hy=>ih y ?_
   cases x
   have:=List.sizeOf_lt_of_mem hy
   simp at this hx
   omega
 exact fun x=>key _ x (Nat.lt_succ_self _)
def gb (x:Clause):Prop:=qR x.Id∧pE x.Kind∧pE x.Party∧qR x.Action∧pE x.Other∧pE x.Amount∧b6 x.When∧pE x.Within∧qR x.Repair
def fS (x:Contract):Prop:=(oc qR) x.Parties∧(oc gb) x.Clauses
theorem NK (a:List ac)(ha:(Eo Gn) a){l:Int}(h0:0≤l)(h1:l≤1048576):∃r,zE a l=some r∧(r<0∨(0≤r∧r≤l∧(oc qR) a)):=by
 have hm:a.length≤9223372036854775807:=ha.1
 unfold zE
 rw[mY h0 (by omega) hm]
 by_cases k:l - (a.length:Int)<0
 ·rw[decide_eq_true k,cond_true]
  exact⟨_,rfl,.inl (by decide)⟩
 rw[decide_eq_false k,cond_false]
 have hs:∀x∈a,∀l:Int,0≤l→l≤1048576→∃r,(fun e l=>some (aj (l - len e))) x l=some r∧(r<0∨(0≤r∧r≤l∧qR x)):=by
  intro x hx l h0 h1
  have hx:=ha.2 x hx
  refine⟨_,rfl,?_⟩
  rw[mY h0 (by omega) hx]
  by_cases k:l - (x.length:Int)<0
  ·exact .inl k
  ·exact .inr ⟨by omega,by omega,by show x.length≤1048576;omega⟩
 obtain⟨y,hy,q⟩:=Q7 (L:=sC a l) (a:=a) (s:=fun e l=>some (aj (l - len e))) (ok:=qR) (M:=1048576) (by decide) hs (fun x=>by rw[Mp,mD]<;>rfl) (by omega) (l:=l - (a.length:Int)) (by omega) (by omega)
 rw[hy]
 rcases q with rfl | ⟨r,rfl,q1,q2,q3⟩
 ·exact⟨_,rfl,.inl (by decide)⟩
 ·exact⟨_,rfl,.inr ⟨q1,by omega,by omega,q3⟩⟩
theorem FF (a:List Condition)(ha:Eo od a)(ih:∀y∈a,od y→∀l:Int,0≤l→l≤1048576→∃r,vd y l=some r∧(r<0∨(0≤r∧r+((aC y.Parts:Nat):Int)≤l∧b6 y))){l:Int}(h0:0≤l)(h1:l≤1048576) :
  ∃r,vg (aA oW) a l=some r∧(r<0∨(0≤r∧r+((aC a:Nat):Int)≤l∧oc b6 a)):=by
 have hm:a.length≤9223372036854775807:=ha.1
 unfold vg
 rw[mY h0 (by omega) hm]
 by_cases k:l - (a.length:Int)<0
 ·rw[decide_eq_true k,cond_true]
  exact⟨_,rfl,.inl (by decide)⟩
 rw[decide_eq_false k,cond_false]
 obtain⟨y,hy,q⟩:=VF (L:=pY (aA oW) a l) (a:=a) (s:=fun e l=>vd e l) (w:=fun x=>aC x.Parts) (ok:=b6) (M:=1048576) (by decide) (fun x hx l h0 h1=>ih x hx (ha.2 x hx) l h0 h1) (fun x=>by rw[Mo,kE]<;>rfl) (by omega) (l:=l - (a.length:Int)) (by omega) (by omega)
 rw[hy]
 rcases q with rfl | ⟨r,rfl,q1,q2,q3⟩
 ·exact⟨_,rfl,.inl (by decide)⟩
 ·exact⟨_,rfl,.inr ⟨q1,by rw[eY];omega,by show a.length≤1048576;omega,q3⟩⟩
theorem GS (x:Condition):od x→∀l:Int,0≤l→l≤1048576→∃r,vd x l=some r∧(r<0∨(0≤r∧r+((aC x.Parts:Nat):Int)≤l∧b6 x)):=by
 refine et (P:=fun x=>od x→∀l:Int,0≤l→l≤1048576→∃r,vd x l=some r∧(r<0∨(0≤r∧r+((aC x.Parts:Nat):Int)≤l∧b6 x))) ?_ x
 intro x ih hx l h0 h1
 rw[Ig] at hx
 rw[Um]
 unfold sB
 have m1:x.Name.length≤9223372036854775807:=hx.2.1
 rw[mY (l:=l) (by omega) (by omega) m1]
 by_cases k1:l - (x.Name.length:Int)<0
 ·rw[decide_eq_true k1,cond_true]
  exact⟨_,rfl,.inl (by decide)⟩
 rw[decide_eq_false k1,cond_false]
 obtain⟨r3,e3,q3⟩:=FF x.Parts hx.2.2.2 ih (l:=(l - (x.Name.length:Int))) (by omega) (by omega)
 rw[e3,Option.bind_some]
 rcases q3 with q3 | ⟨q3,p3,s3⟩
 ·rw[decide_eq_true q3,cond_true]
  exact⟨_,rfl,.inl (by decide)⟩
 rw[decide_eq_false (by omega),cond_false]
 exact⟨_,rfl,.inr ⟨by omega,by omega,(fH x).2 ⟨(by simp[pE]),(by show x.Name.length≤1048576;omega),(by simp[pE]),s3,by omega⟩⟩⟩
theorem Kg (x:Condition)(hx:od x){l:Int}(h0:0≤l)(h1:l≤1048576):∃r,vd x l=some r∧(r<0∨(0≤r∧r≤l∧b6 x)):=by
 obtain⟨r,h,q⟩:=GS x hx l h0 h1
 exact⟨r,h,q.imp id fun⟨q1,q2,q3⟩=>⟨q1,by omega,q3⟩⟩
theorem Q8 (x:Clause)(hx:rp x){l:Int}(h0:0≤l)(h1:l≤1048576):∃r,tI x l=some r∧(r<0∨(0≤r∧r≤l∧gb x)):=by
 unfold tI
 have m0:x.Id.length≤9223372036854775807:=hx.1
 rw[mY (l:=l) (by omega) (by omega) m0]
 by_cases k0:l - (x.Id.length:Int)<0
 ·rw[decide_eq_true k0,cond_true]
  exact⟨_,rfl,.inl (by decide)⟩
 rw[decide_eq_false k0,cond_false]
 have m3:x.Action.length≤9223372036854775807:=hx.2.2.2.1
 rw[mY (l:=(l - (x.Id.length:Int))) (by omega) (by omega) m3]
 by_cases k3:(l - (x.Id.length:Int)) - (x.Action.length:Int)<0
 ·rw[decide_eq_true k3,cond_true]
  exact⟨_,rfl,.inl (by decide)⟩
 rw[decide_eq_false k3,cond_false]
 obtain⟨r6,e6,q6⟩:=Kg x.When hx.2.2.2.2.2.2.1 (l:=((l - (x.Id.length:Int)) - (x.Action.length:Int))) (by omega) (by omega)
 rw[e6,Option.bind_some]
 rcases q6 with q6 | ⟨q6,p6,s6⟩
 ·rw[decide_eq_true q6,cond_true]
  exact⟨_,rfl,.inl (by decide)⟩
 rw[decide_eq_false (by omega),cond_false]
 have m8:x.Repair.length≤9223372036854775807:=hx.2.2.2.2.2.2.2.2
 rw[mY (l:=r6) (by omega) (by omega) m8]
 by_cases k8:r6 - (x.Repair.length:Int)<0
 ·rw[decide_eq_true k8,cond_true]
  exact⟨_,rfl,.inl (by decide)⟩
 rw[decide_eq_false k8,cond_false]
 exact⟨_,rfl,.inr ⟨by omega,by omega,(by show x.Id.length≤1048576;omega),(by simp[pE]),(by simp[pE]),(by show x.Action.length≤1048576;omega),(by simp[pE]),(by simp[pE]),s6,(by simp[pE]),(by show x.Repair.length≤1048576;omega)⟩⟩
theorem NJ (a:List Clause)(ha:(Eo rp) a){l:Int}(h0:0≤l)(h1:l≤1048576):∃r,zx a l=some r∧(r<0∨(0≤r∧r≤l∧(oc gb) a)):=by
 have hm:a.length≤9223372036854775807:=ha.1
 unfold zx
 rw[mY h0 (by omega) hm]
 by_cases k:l - (a.length:Int)<0
 ·rw[decide_eq_true k,cond_true]
  exact⟨_,rfl,.inl (by decide)⟩
 rw[decide_eq_false k,cond_false]
 have hs:∀x∈a,∀l:Int,0≤l→l≤1048576→∃r,(fun e l=>tI e l) x l=some r∧(r<0∨(0≤r∧r≤l∧gb x)):=by
  intro x hx l h0 h1
  exact Q8 x (ha.2 x hx) h0 h1
 obtain⟨y,hy,q⟩:=Q7 (L:=sA a l) (a:=a) (s:=fun e l=>tI e l) (ok:=gb) (M:=1048576) (by decide) hs (fun x=>by rw[Mn,mC]<;>rfl) (by omega) (l:=l - (a.length:Int)) (by omega) (by omega)
 rw[hy]
 rcases q with rfl | ⟨r,rfl,q1,q2,q3⟩
 ·exact⟨_,rfl,.inl (by decide)⟩
 ·exact⟨_,rfl,.inr ⟨q1,by omega,by omega,q3⟩⟩
theorem Ll (x:Contract)(hx:RH x){l:Int}(h0:0≤l)(h1:l≤1048576):∃r,zC x l=some r∧(r<0∨(0≤r∧r≤l∧fS x)):=by
 unfold zC
 obtain⟨r0,e0,q0⟩:=NK x.Parties hx.1 (l:=l) (by omega) (by omega)
 rw[e0,Option.bind_some]
 rcases q0 with q0 | ⟨q0,p0,s0⟩
 ·rw[decide_eq_true q0,cond_true]
  exact⟨_,rfl,.inl (by decide)⟩
 rw[decide_eq_false (by omega),cond_false]
 obtain⟨r1,e1,q1⟩:=NJ x.Clauses hx.2 (l:=r0) (by omega) (by omega)
 rw[e1,Option.bind_some]
 rcases q1 with q1 | ⟨q1,p1,s1⟩
 ·rw[decide_eq_true q1,cond_true]
  exact⟨_,rfl,.inl (by decide)⟩
 rw[decide_eq_false (by omega),cond_false]
 exact⟨_,rfl,.inr ⟨by omega,by omega,s0,s1⟩⟩
theorem NP (a:List ac)(ha:(oc qR) a):zN a=some a:=by
 have hm:a.length≤1048576:=ha.1
 unfold zN
 rw[JN (by omega) (by omega),Option.bind_some,AI (L:=sF a) (g:=some) (h:=id) (fun _ _=>rfl) (fun x=>by rw[Ms,mF]<;>rfl) (by omega) (by simp)]
 simp
theorem FG (a:List Condition)(ha:oc b6 a)(ih:∀y∈a,b6 y→zJ y=some y):vk (aA oX) a=some a:=by
 have hm:a.length≤1048576:=ha.1
 unfold vk
 rw[JN (by omega) (by omega),Option.bind_some,AI (L:=pZ (aA oX) a) (g:=fun e=>zJ e) (h:=id) (fun x hx=>ih x hx (ha.2 x hx)) (fun x=>by rw[Mr,kF]<;>rfl) (by omega) (by simp)]
 simp
theorem Ki (x:Condition):b6 x→zJ x=some x:=by
 refine et (P:=fun x=>b6 x→zJ x=some x) ?_ x
 intro x ih hx
 rw[fH] at hx
 rw[Uo]
 unfold sE
 rw[FG x.Parts hx.2.2.2.1 ih]
 cases x;rfl
theorem Ra (x:Clause)(hx:gb x):vh x=some x:=by
 unfold vh
 simp only[Ki x.When hx.2.2.2.2.2.2.1,Option.bind_some]
theorem NO (a:List Clause)(ha:(oc gb) a):zH a=some a:=by
 have hm:a.length≤1048576:=ha.1
 unfold zH
 rw[JN (by omega) (by omega),Option.bind_some,AI (L:=sD a) (g:=(fun e=>vh e)) (h:=id) (fun x hx=>Ra x (ha.2 x hx)) (fun x=>by rw[Mq,mE]<;>rfl) (by omega) (by simp)]
 simp
theorem Lm (x:Contract)(hx:fS x):rB x=some x:=by
 unfold rB
 simp only[NP x.Parties hx.1,NO x.Clauses hx.2,Option.bind_some]
theorem Nf (a:List ac)(ha:(oc qR) a):zi a a=some true:=by
 have hm:a.length≤1048576:=ha.1
 unfold zi
 rw[bne_self_eq_false,cond_false,xj (a:=a) (L:=sj a a) (p:=(fun e f=>some (e==f))) (fun x _=>by rw[beq_self_eq_true]) (fun x=>by rw[Ml,mA]<;>rfl) (by omega)]
 rfl
theorem Fn (a:List Condition)(ha:oc b6 a)(ih:∀y∈a,b6 y→I3 y y=some true):F4 (aA rc) a a=some true:=by
 have hm:a.length≤1048576:=ha.1
 unfold F4
 rw[bne_self_eq_false,cond_false,xj (a:=a) (L:=tf (aA rc) a a) (p:=fun e f=>I3 e f) (fun x hx=>ih x hx (ha.2 x hx)) (fun x=>by rw[P0,mj]<;>rfl) (by omega)]
 rfl
theorem Jp (x:Condition):b6 x→I3 x x=some true:=by
 refine et (P:=fun x=>b6 x→I3 x x=some true) ?_ x
 intro x ih hx
 rw[fH] at hx
 rw[WS]
 unfold xf
 simp[Fn x.Parts hx.2.2.2.1 ih]
theorem Qi (x:Clause)(hx:gb x):F3 x x=some true:=by
 unfold F3
 simp[Jp x.When hx.2.2.2.2.2.2.1]
theorem Nd (a:List Clause)(ha:(oc gb) a):I2 a a=some true:=by
 have hm:a.length≤1048576:=ha.1
 unfold I2
 rw[bne_self_eq_false,cond_false,xj (a:=a) (L:=vZ a a) (p:=(fun e f=>F3 e f)) (fun x hx=>Qi x (ha.2 x hx)) (fun x=>by rw[PZ,ot]<;>rfl) (by omega)]
 rfl
theorem K4 (x:Contract)(hx:fS x):ze x x=some true:=by
 unfold ze
 simp[Nf x.Parties hx.1,Nd x.Clauses hx.2]
end Go.Ln
