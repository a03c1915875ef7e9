/-
  What the helpers of the laws do: sizes, copies, comparisons.
-/
import Derived.Test.YtobhcnmeflacnaaGreatDoorFnExactIsFulfilledFun
set_option maxHeartbeats 4000000
set_option linter.unusedVariables false
set_option linter.unusedSimpArgs false
set_option maxRecDepth 100000
namespace Go.Ln
open Go
mutual
def bg:Condition→Nat
 | ⟨_,_,_,a3⟩=>1+aF a3
def aF:List Condition→Nat
 | []=>0
 | x::xs=>bg x+aF xs
end
theorem eA (x:Condition):bg x=1+aF x.Parts:=by cases x;simp only[bg]
theorem fX:∀a,aF a=a.length+(a.map fun x=>aF x.Parts).sum
 | []=>rfl
 | x::xs=>by simp only[aF,eA,fX xs,List.length_cons,List.map_cons,List.sum_cons];omega
mutual
def bz:Condition→Prop
 | ⟨a0,a1,a2,a3⟩=>gE a0∧kJ a1∧gE a2∧(a3.length≤1048576∧iE a3)∧aF a3≤1048576
def iE:List Condition→Prop
 | []=>True
 | x::xs=>bz x∧iE xs
end
theorem nB:∀xs,iE xs↔∀x∈xs,bz x
 | []=>by simp[iE]
 | x::xs=>by simp[iE,nB xs]
theorem eX (x:Condition):bz x↔gE x.Op∧kJ x.Name∧gE x.Day∧ge bz x.Parts∧aF x.Parts≤1048576:=by cases x;simp only[bz,nB,ge]
theorem eK {P:Condition→Prop}(h:∀x,(∀y∈x.Parts,P y)→P x):∀x,P x:=by
 have key:∀(N:Nat) (x:Condition),SizeOf.sizeOf x<N→P x:=by
  intro N
  induction N with
  | zero=>intro x hx;omega
  | succ N ih=>
   intro x hx
   refine h x fun y hy=>ih y ?_
   cases x
   have:=List.sizeOf_lt_of_mem hy
   simp at this hx
   omega
 exact fun x=>key _ x (Nat.lt_succ_self _)
def fh (x:Clause):Prop:=kJ x.Id∧gE x.Kind∧gE x.Party∧kJ x.Action∧gE x.Other∧gE x.Amount∧bz x.When∧gE x.Within∧kJ x.Repair
def dX (x:Contract):Prop:=(ge kJ) x.Parties∧(ge fh) x.Clauses
def mB (x:Duty):Prop:=gE x.Clause∧gE x.Since∧gE x.Due∧gE x.Status
def kC (x:State):Prop:=gE x.Day∧(ge kJ) x.Facts∧(ge mB) x.Duties∧(ge gE) x.Balances∧X7 x.Over
theorem Bi (a:List ah)(ha:(pg zu) a){l:Int}(h0:0≤l)(h1:l≤1048576):∃r,tF a l=some r∧(r<0∨(0≤r∧r≤l∧(ge kJ) a)):=by
 have hm:a.length≤9223372036854775807:=ha.1
 unfold tF
 rw[iQ h0 (by omega) hm]
 by_cases k:l - (a.length:Int)<0
 ·rw[decide_eq_true k,cond_true]
  exact⟨_,rfl,.inl (by decide)⟩
 rw[decide_eq_false k,cond_false]
 have hs:∀x∈a,∀l:Int,0≤l→l≤1048576→∃r,(fun e l=>some (ar (l - len e))) x l=some r∧(r<0∨(0≤r∧r≤l∧kJ x)):=by
  intro x hx l h0 h1
  have hx:=ha.2 x hx
  refine⟨_,rfl,?_⟩
  rw[iQ h0 (by omega) hx]
  by_cases k:l - (x.length:Int)<0
  ·exact .inl k
  ·exact .inr ⟨by omega,by omega,by show x.length≤1048576;omega⟩
 obtain⟨y,hy,q⟩:=M6 (L:=qZ a l) (a:=a) (s:=fun e l=>some (ar (l - len e))) (ok:=kJ) (M:=1048576) (by decide) hs (fun x=>by rw[K8,ln]<;>rfl) (by omega) (l:=l - (a.length:Int)) (by omega) (by omega)
 rw[hy]
 rcases q with rfl | ⟨r,rfl,q1,q2,q3⟩
 ·exact⟨_,rfl,.inl (by decide)⟩
 ·exact⟨_,rfl,.inr ⟨q1,by omega,by omega,q3⟩⟩
theorem DL (a:List Condition)(ha:pg mu a)(ih:∀y∈a,mu y→∀l:Int,0≤l→l≤1048576→∃r,un y l=some r∧(r<0∨(0≤r∧r+((aF y.Parts:Nat):Int)≤l∧bz y))){l:Int}(h0:0≤l)(h1:l≤1048576) :
  ∃r,tB (aJ mY) a l=some r∧(r<0∨(0≤r∧r+((aF a:Nat):Int)≤l∧ge bz a)):=by
 have hm:a.length≤9223372036854775807:=ha.1
 unfold tB
 rw[iQ h0 (by omega) hm]
 by_cases k:l - (a.length:Int)<0
 ·rw[decide_eq_true k,cond_true]
  exact⟨_,rfl,.inl (by decide)⟩
 rw[decide_eq_false k,cond_false]
 obtain⟨y,hy,q⟩:=Tt (L:=nZ (aJ mY) a l) (a:=a) (s:=fun e l=>un e l) (w:=fun x=>aF x.Parts) (ok:=bz) (M:=1048576) (by decide) (fun x hx l h0 h1=>ih x hx (ha.2 x hx) l h0 h1) (fun x=>by rw[K0,jl]<;>rfl) (by omega) (l:=l - (a.length:Int)) (by omega) (by omega)
 rw[hy]
 rcases q with rfl | ⟨r,rfl,q1,q2,q3⟩
 ·exact⟨_,rfl,.inl (by decide)⟩
 ·exact⟨_,rfl,.inr ⟨q1,by rw[fX];omega,by show a.length≤1048576;omega,q3⟩⟩
theorem Fj (x:Condition):mu x→∀l:Int,0≤l→l≤1048576→∃r,un x l=some r∧(r<0∨(0≤r∧r+((aF x.Parts:Nat):Int)≤l∧bz x)):=by
 refine eK (P:=fun x=>mu x→∀l:Int,0≤l→l≤1048576→∃r,un x l=some r∧(r<0∨(0≤r∧r+((aF x.Parts:Nat):Int)≤l∧bz x))) ?_ x
 intro x ih hx l h0 h1
 rw[H5] at hx
 rw[UL]
 unfold qK
 have m1:x.Name.length≤9223372036854775807:=hx.2.1
 rw[iQ (l:=l) (by omega) (by omega) m1]
 by_cases k1:l - (x.Name.length:Int)<0
 ·rw[decide_eq_true k1,cond_true]
  exact⟨_,rfl,.inl (by decide)⟩
 rw[decide_eq_false k1,cond_false]
 obtain⟨r3,e3,q3⟩:=DL x.Parts hx.2.2.2 ih (l:=(l - (x.Name.length:Int))) (by omega) (by omega)
 rw[e3,Option.bind_some]
 rcases q3 with q3 | ⟨q3,p3,s3⟩
 ·rw[decide_eq_true q3,cond_true]
  exact⟨_,rfl,.inl (by decide)⟩
 rw[decide_eq_false (by omega),cond_false]
 exact⟨_,rfl,.inr ⟨by omega,by omega,(eX x).2 ⟨(by simp[gE]),(by show x.Name.length≤1048576;omega),(by simp[gE]),s3,by omega⟩⟩⟩
theorem Iq (x:Condition)(hx:mu x){l:Int}(h0:0≤l)(h1:l≤1048576):∃r,un x l=some r∧(r<0∨(0≤r∧r≤l∧bz x)):=by
 obtain⟨r,h,q⟩:=Fj x hx l h0 h1
 exact⟨r,h,q.imp id fun⟨q1,q2,q3⟩=>⟨q1,by omega,q3⟩⟩
theorem Pe (x:Clause)(hx:pf x){l:Int}(h0:0≤l)(h1:l≤1048576):∃r,ro x l=some r∧(r<0∨(0≤r∧r≤l∧fh x)):=by
 unfold ro
 have m0:x.Id.length≤9223372036854775807:=hx.1
 rw[iQ (l:=l) (by omega) (by omega) m0]
 by_cases k0:l - (x.Id.length:Int)<0
 ·rw[decide_eq_true k0,cond_true]
  exact⟨_,rfl,.inl (by decide)⟩
 rw[decide_eq_false k0,cond_false]
 have m3:x.Action.length≤9223372036854775807:=hx.2.2.2.1
 rw[iQ (l:=(l - (x.Id.length:Int))) (by omega) (by omega) m3]
 by_cases k3:(l - (x.Id.length:Int)) - (x.Action.length:Int)<0
 ·rw[decide_eq_true k3,cond_true]
  exact⟨_,rfl,.inl (by decide)⟩
 rw[decide_eq_false k3,cond_false]
 obtain⟨r6,e6,q6⟩:=Iq x.When hx.2.2.2.2.2.2.1 (l:=((l - (x.Id.length:Int)) - (x.Action.length:Int))) (by omega) (by omega)
 rw[e6,Option.bind_some]
 rcases q6 with q6 | ⟨q6,p6,s6⟩
 ·rw[decide_eq_true q6,cond_true]
  exact⟨_,rfl,.inl (by decide)⟩
 rw[decide_eq_false (by omega),cond_false]
 have m8:x.Repair.length≤9223372036854775807:=hx.2.2.2.2.2.2.2.2
 rw[iQ (l:=r6) (by omega) (by omega) m8]
 by_cases k8:r6 - (x.Repair.length:Int)<0
 ·rw[decide_eq_true k8,cond_true]
  exact⟨_,rfl,.inl (by decide)⟩
 rw[decide_eq_false k8,cond_false]
 exact⟨_,rfl,.inr ⟨by omega,by omega,(by show x.Id.length≤1048576;omega),(by simp[gE]),(by simp[gE]),(by show x.Action.length≤1048576;omega),(by simp[gE]),(by simp[gE]),s6,(by simp[gE]),(by show x.Repair.length≤1048576;omega)⟩⟩
theorem Lg (a:List Clause)(ha:(pg pf) a){l:Int}(h0:0≤l)(h1:l≤1048576):∃r,zg a l=some r∧(r<0∨(0≤r∧r≤l∧(ge fh) a)):=by
 have hm:a.length≤9223372036854775807:=ha.1
 unfold zg
 rw[iQ h0 (by omega) hm]
 by_cases k:l - (a.length:Int)<0
 ·rw[decide_eq_true k,cond_true]
  exact⟨_,rfl,.inl (by decide)⟩
 rw[decide_eq_false k,cond_false]
 have hs:∀x∈a,∀l:Int,0≤l→l≤1048576→∃r,(fun e l=>ro e l) x l=some r∧(r<0∨(0≤r∧r≤l∧fh x)):=by
  intro x hx l h0 h1
  exact Pe x (ha.2 x hx) h0 h1
 obtain⟨y,hy,q⟩:=M6 (L:=qo a l) (a:=a) (s:=fun e l=>ro e l) (ok:=fh) (M:=1048576) (by decide) hs (fun x=>by rw[KX,ls]<;>rfl) (by omega) (l:=l - (a.length:Int)) (by omega) (by omega)
 rw[hy]
 rcases q with rfl | ⟨r,rfl,q1,q2,q3⟩
 ·exact⟨_,rfl,.inl (by decide)⟩
 ·exact⟨_,rfl,.inr ⟨q1,by omega,by omega,q3⟩⟩
theorem Ju (x:Contract)(hx:Rx x){l:Int}(h0:0≤l)(h1:l≤1048576):∃r,yH x l=some r∧(r<0∨(0≤r∧r≤l∧dX x)):=by
 unfold yH
 obtain⟨r0,e0,q0⟩:=Bi x.Parties hx.1 (l:=l) (by omega) (by omega)
 rw[e0,Option.bind_some]
 rcases q0 with q0 | ⟨q0,p0,s0⟩
 ·rw[decide_eq_true q0,cond_true]
  exact⟨_,rfl,.inl (by decide)⟩
 rw[decide_eq_false (by omega),cond_false]
 obtain⟨r1,e1,q1⟩:=Lg x.Clauses hx.2 (l:=r0) (by omega) (by omega)
 rw[e1,Option.bind_some]
 rcases q1 with q1 | ⟨q1,p1,s1⟩
 ·rw[decide_eq_true q1,cond_true]
  exact⟨_,rfl,.inl (by decide)⟩
 rw[decide_eq_false (by omega),cond_false]
 exact⟨_,rfl,.inr ⟨by omega,by omega,s0,s1⟩⟩
theorem SC (a:List Duty)(ha:(pg Ej) a){l:Int}(h0:0≤l)(h1:l≤1048576):∃r,xJ a l=some r∧(r<0∨(0≤r∧r≤l∧(ge mB) a)):=by
 have hm:a.length≤9223372036854775807:=ha.1
 unfold xJ
 rw[iQ h0 (by omega) hm]
 by_cases k:l - (a.length:Int)<0
 ·rw[decide_eq_true k,cond_true]
  exact⟨_,rfl,.inl (by decide)⟩
 rw[decide_eq_false k,cond_false]
 exact⟨_,rfl,.inr ⟨by omega,by omega,by omega,fun x _=>by simp[mB,gE]⟩⟩
theorem TK (a:List Int)(ha:(pg mS) a){l:Int}(h0:0≤l)(h1:l≤1048576):∃r,ze a l=some r∧(r<0∨(0≤r∧r≤l∧(ge gE) a)):=by
 have hm:a.length≤9223372036854775807:=ha.1
 unfold ze
 rw[iQ h0 (by omega) hm]
 by_cases k:l - (a.length:Int)<0
 ·rw[decide_eq_true k,cond_true]
  exact⟨_,rfl,.inl (by decide)⟩
 rw[decide_eq_false k,cond_false]
 exact⟨_,rfl,.inr ⟨by omega,by omega,by omega,fun x _=>by simp[gE]⟩⟩
theorem QC (x:State)(hx:xL x){l:Int}(h0:0≤l)(h1:l≤1048576):∃r,wW x l=some r∧(r<0∨(0≤r∧r≤l∧kC x)):=by
 unfold wW
 obtain⟨r1,e1,q1⟩:=Bi x.Facts hx.2.1 (l:=l) (by omega) (by omega)
 rw[e1,Option.bind_some]
 rcases q1 with q1 | ⟨q1,p1,s1⟩
 ·rw[decide_eq_true q1,cond_true]
  exact⟨_,rfl,.inl (by decide)⟩
 rw[decide_eq_false (by omega),cond_false]
 obtain⟨r2,e2,q2⟩:=SC x.Duties hx.2.2.1 (l:=r1) (by omega) (by omega)
 rw[e2,Option.bind_some]
 rcases q2 with q2 | ⟨q2,p2,s2⟩
 ·rw[decide_eq_true q2,cond_true]
  exact⟨_,rfl,.inl (by decide)⟩
 rw[decide_eq_false (by omega),cond_false]
 obtain⟨r3,e3,q3⟩:=TK x.Balances hx.2.2.2.1 (l:=r2) (by omega) (by omega)
 rw[e3,Option.bind_some]
 rcases q3 with q3 | ⟨q3,p3,s3⟩
 ·rw[decide_eq_true q3,cond_true]
  exact⟨_,rfl,.inl (by decide)⟩
 rw[decide_eq_false (by omega),cond_false]
 exact⟨_,rfl,.inr ⟨by omega,by omega,(by simp[gE]),s1,s2,s3,(by simp[X7])⟩⟩
theorem Cl (a:List ah)(ha:(ge kJ) a):tZ a=some a:=by
 have hm:a.length≤1048576:=ha.1
 unfold tZ
 rw[ub (by omega) (by omega),Option.bind_some,oJ (L:=re a) (g:=some) (h:=id) (fun _ _=>rfl) (fun x=>by rw[KR,kW]<;>rfl) (by omega) (by simp)]
 simp
theorem D3 (a:List Condition)(ha:ge bz a)(ih:∀y∈a,bz y→yg y=some y):uC (aJ mR) a=some a:=by
 have hm:a.length≤1048576:=ha.1
 unfold uC
 rw[ub (by omega) (by omega),Option.bind_some,oJ (L:=nY (aJ mR) a) (g:=fun e=>yg e) (h:=id) (fun x hx=>ih x hx (ha.2 x hx)) (fun x=>by rw[KE,jp]<;>rfl) (by omega) (by simp)]
 simp
theorem Hh (x:Condition):bz x→yg x=some x:=by
 refine eK (P:=fun x=>bz x→yg x=some x) ?_ x
 intro x ih hx
 rw[eX] at hx
 rw[Tw]
 unfold qj
 rw[D3 x.Parts hx.2.2.2.1 ih]
 cases x;rfl
theorem Oz (x:Clause)(hx:fh x):tQ x=some x:=by
 unfold tQ
 simp only[Hh x.When hx.2.2.2.2.2.2.1,Option.bind_some]
theorem KD (a:List Clause)(ha:(ge fh) a):xe a=some a:=by
 have hm:a.length≤1048576:=ha.1
 unfold xe
 rw[ub (by omega) (by omega),Option.bind_some,oJ (L:=qD a) (g:=(fun e=>tQ e)) (h:=id) (fun x hx=>Oz x (ha.2 x hx)) (fun x=>by rw[LS,kN]<;>rfl) (by omega) (by simp)]
 simp
theorem IP (x:Contract)(hx:dX x):sk x=some x:=by
 unfold sk
 simp only[Cl x.Parties hx.1,KD x.Clauses hx.2,Option.bind_some]
theorem UE (x:Duty)(hx:mB x):uO x=some x:=by
 unfold uO
 rfl
theorem Qh (a:List Duty)(ha:(ge mB) a):yy a=some a:=by
 have hm:a.length≤1048576:=ha.1
 unfold yy
 rw[ub (by omega) (by omega),Option.bind_some,oJ (L:=pZ a) (g:=(fun e=>uO e)) (h:=id) (fun x hx=>UE x (ha.2 x hx)) (fun x=>by rw[KO,lh]<;>rfl) (by omega) (by simp)]
 simp
theorem Us (a:List Int)(ha:(ge gE) a):xV a=some a:=by
 have hm:a.length≤1048576:=ha.1
 unfold xV
 rw[ub (by omega) (by omega),Option.bind_some,oJ (L:=qa a) (g:=some) (h:=id) (fun _ _=>rfl) (fun x=>by rw[LL,lB]<;>rfl) (by omega) (by simp)]
 simp
theorem Qp (x:State)(hx:kC x):sf x=some x:=by
 unfold sf
 simp only[Cl x.Facts hx.2.1,Qh x.Duties hx.2.2.1,Us x.Balances hx.2.2.2.1,Option.bind_some]
theorem AE (a:List ah)(ha:(ge kJ) a):ug a a=some true:=by
 have hm:a.length≤1048576:=ha.1
 unfold ug
 rw[bne_self_eq_false,cond_false,qC (a:=a) (L:=qB a a) (p:=(fun e f=>some (e==f))) (fun x _=>by rw[beq_self_eq_true]) (fun x=>by rw[KY,lm]<;>rfl) (by omega)]
 rfl
theorem Em (a:List Condition)(ha:ge bz a)(ih:∀y∈a,bz y→xX y y=some true):tC (aJ nm) a a=some true:=by
 have hm:a.length≤1048576:=ha.1
 unfold tC
 rw[bne_self_eq_false,cond_false,qC (a:=a) (L:=ob (aJ nm) a a) (p:=fun e f=>xX e f) (fun x hx=>ih x hx (ha.2 x hx)) (fun x=>by rw[Lc,jE]<;>rfl) (by omega)]
 rfl
theorem GA (x:Condition):bz x→xX x x=some true:=by
 refine eK (P:=fun x=>bz x→xX x x=some true) ?_ x
 intro x ih hx
 rw[eX] at hx
 rw[UO]
 unfold qL
 simp[Em x.Parts hx.2.2.2.1 ih]
theorem NS (x:Clause)(hx:fh x):uK x x=some true:=by
 unfold uK
 simp[GA x.When hx.2.2.2.2.2.2.1]
theorem LW (a:List Clause)(ha:(ge fh) a):yV a a=some true:=by
 have hm:a.length≤1048576:=ha.1
 unfold yV
 rw[bne_self_eq_false,cond_false,qC (a:=a) (L:=qe a a) (p:=(fun e f=>uK e f)) (fun x hx=>NS x (ha.2 x hx)) (fun x=>by rw[K5,lw]<;>rfl) (by omega)]
 rfl
theorem IM (x:Contract)(hx:dX x):yD x x=some true:=by
 unfold yD
 simp[AE x.Parties hx.1,LW x.Clauses hx.2]
theorem Uk (x:Duty)(hx:mB x):tL x x=some true:=by
 unfold tL
 simp[]
theorem SJ (a:List Duty)(ha:(ge mB) a):yB a a=some true:=by
 have hm:a.length≤1048576:=ha.1
 unfold yB
 rw[bne_self_eq_false,cond_false,qC (a:=a) (L:=qV a a) (p:=(fun e f=>tL e f)) (fun x hx=>Uk x (ha.2 x hx)) (fun x=>by rw[LT,lj]<;>rfl) (by omega)]
 rfl
theorem TL (a:List Int)(ha:(ge gE) a):xj a a=some true:=by
 have hm:a.length≤1048576:=ha.1
 unfold xj
 rw[bne_self_eq_false,cond_false,qC (a:=a) (L:=rh a a) (p:=(fun e f=>some (e==f))) (fun x _=>by rw[beq_self_eq_true]) (fun x=>by rw[K9,kK]<;>rfl) (by omega)]
 rfl
theorem RH (x:State)(hx:kC x):xg x x=some true:=by
 unfold xg
 simp[AE x.Facts hx.2.1,SJ x.Duties hx.2.2.1,TL x.Balances hx.2.2.2.1]
end Go.Ln
