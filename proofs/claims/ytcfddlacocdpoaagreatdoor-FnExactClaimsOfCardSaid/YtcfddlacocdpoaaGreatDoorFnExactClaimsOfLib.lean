/-
  What the helpers do.
-/
import Derived.Test.YtcfddlacocdpoaaGreatDoorFnExactClaimsOfFun
set_option maxHeartbeats 4000000
set_option linter.unusedVariables false
set_option linter.unusedSimpArgs false
set_option maxRecDepth 100000
namespace Go.Ln
open Go
mutual
def bW:Condition→Nat
 | ⟨_,_,_,a3⟩=>1+aQ a3
def aQ:List Condition→Nat
 | []=>0
 | x::xs=>bW x+aQ xs
end
theorem fT (x:Condition):bW x=1+aQ x.Parts:=by cases x;simp only[bW]
theorem ij:∀a,aQ a=a.length+(a.map fun x=>aQ x.Parts).sum
 | []=>rfl
 | x::xs=>by simp only[aQ,fT,ij xs,List.length_cons,List.map_cons,List.sum_cons];omega
mutual
def cB:Condition→Prop
 | ⟨a0,a1,a2,a3⟩=>jH a0∧o8 a1∧jH a2∧(a3.length≤1048576∧li a3)∧aQ a3≤1048576
def li:List Condition→Prop
 | []=>True
 | x::xs=>cB x∧li xs
end
theorem rn:∀xs,li xs↔∀x∈xs,cB x
 | []=>by simp[li]
 | x::xs=>by simp[li,rn xs]
theorem gA (x:Condition):cB x↔jH x.Op∧o8 x.Name∧jH x.Day∧iM cB x.Parts∧aQ x.Parts≤1048576:=by cases x;simp only[cB,rn,iM]
theorem gq {P:Condition→Prop}(h:∀x,(∀y∈x.Parts,P y)→P x):∀x,P x:=by
 have key:∀(N:Nat) (x:Condition),SizeOf.sizeOf x<N→P x:=by
  intro N
  induction N with
  | zero=>intro x hx;omega
  | succ N ih=>
   intro x hx
   refine h x fun y hy=>ih y ?_
   cases x
   have:=List.sizeOf_lt_of_mem hy
   simp at this hx
   omega
 exact fun x=>key _ x (Nat.lt_succ_self _)
def gU (x:Clause):Prop:=o8 x.Id∧jH x.Kind∧jH x.Party∧o8 x.Action∧jH x.Other∧jH x.Amount∧cB x.When∧jH x.Within∧o8 x.Repair
def fx (x:Contract):Prop:=(iM o8) x.Parties∧(iM gU) x.Clauses
def ql (x:Duty):Prop:=jH x.Clause∧jH x.Since∧jH x.Due∧jH x.Status
def kW (x:State):Prop:=jH x.Day∧(iM o8) x.Facts∧(iM ql) x.Duties∧(iM jH) x.Balances∧smB x.Over
theorem Jk (a:List ae)(ha:(tD I3) a){l:Int}(h0:0≤l)(h1:l≤1048576):∃r,xQ a l=some r∧(r<0∨(0≤r∧r≤l∧(iM o8) a)):=by
 have hm:a.length≤9223372036854775807:=ha.1
 unfold xQ
 rw[fe h0 (by omega) hm]
 by_cases k:l - (a.length:Int)<0
 ·rw[decide_eq_true k,cond_true]
  exact⟨_,rfl,.inl (by decide)⟩
 rw[decide_eq_false k,cond_false]
 have hs:∀x∈a,∀l:Int,0≤l→l≤1048576→∃r,(fun e l=>some (ac (l - len e))) x l=some r∧(r<0∨(0≤r∧r≤l∧o8 x)):=by
  intro x hx l h0 h1
  have hx:=ha.2 x hx
  refine⟨_,rfl,?_⟩
  rw[fe h0 (by omega) hx]
  by_cases k:l - (x.length:Int)<0
  ·exact .inl k
  ·exact .inr ⟨by omega,by omega,by show x.length≤1048576;omega⟩
 obtain⟨y,hy,q⟩:=Ym (L:=uH a l) (a:=a) (s:=fun e l=>some (ac (l - len e))) (ok:=o8) (M:=1048576) (by decide) hs (fun x=>by rw[RM,oh]<;>rfl) (by omega) (l:=l - (a.length:Int)) (by omega) (by omega)
 rw[hy]
 rcases q with rfl | ⟨r,rfl,q1,q2,q3⟩
 ·exact⟨_,rfl,.inl (by decide)⟩
 ·exact⟨_,rfl,.inr ⟨q1,by omega,by omega,q3⟩⟩
theorem Ku (a:List Condition)(ha:tD pU a)(ih:∀y∈a,pU y→∀l:Int,0≤l→l≤1048576→∃r,xM y l=some r∧(r<0∨(0≤r∧r+((aQ y.Parts:Nat):Int)≤l∧cB y))){l:Int}(h0:0≤l)(h1:l≤1048576) :
  ∃r,xP (aL qH) a l=some r∧(r<0∨(0≤r∧r+((aQ a:Nat):Int)≤l∧iM cB a)):=by
 have hm:a.length≤9223372036854775807:=ha.1
 unfold xP
 rw[fe h0 (by omega) hm]
 by_cases k:l - (a.length:Int)<0
 ·rw[decide_eq_true k,cond_true]
  exact⟨_,rfl,.inl (by decide)⟩
 rw[decide_eq_false k,cond_false]
 obtain⟨y,hy,q⟩:=adE (L:=rN (aL qH) a l) (a:=a) (s:=fun e l=>xM e l) (w:=fun x=>aQ x.Parts) (ok:=cB) (M:=1048576) (by decide) (fun x hx l h0 h1=>ih x hx (ha.2 x hx) l h0 h1) (fun x=>by rw[RL,lW]<;>rfl) (by omega) (l:=l - (a.length:Int)) (by omega) (by omega)
 rw[hy]
 rcases q with rfl | ⟨r,rfl,q1,q2,q3⟩
 ·exact⟨_,rfl,.inl (by decide)⟩
 ·exact⟨_,rfl,.inr ⟨q1,by rw[ij];omega,by show a.length≤1048576;omega,q3⟩⟩
theorem LH (x:Condition):pU x→∀l:Int,0≤l→l≤1048576→∃r,xM x l=some r∧(r<0∨(0≤r∧r+((aQ x.Parts:Nat):Int)≤l∧cB x)):=by
 refine gq (P:=fun x=>pU x→∀l:Int,0≤l→l≤1048576→∃r,xM x l=some r∧(r<0∨(0≤r∧r+((aQ x.Parts:Nat):Int)≤l∧cB x))) ?_ x
 intro x ih hx l h0 h1
 rw[Nc] at hx
 rw[acm]
 unfold uG
 have m1:x.Name.length≤9223372036854775807:=hx.2.1
 rw[fe (l:=l) (by omega) (by omega) m1]
 by_cases k1:l - (x.Name.length:Int)<0
 ·rw[decide_eq_true k1,cond_true]
  exact⟨_,rfl,.inl (by decide)⟩
 rw[decide_eq_false k1,cond_false]
 obtain⟨r3,e3,q3⟩:=Ku x.Parts hx.2.2.2 ih (l:=(l - (x.Name.length:Int))) (by omega) (by omega)
 rw[e3,Option.bind_some]
 rcases q3 with q3 | ⟨q3,p3,s3⟩
 ·rw[decide_eq_true q3,cond_true]
  exact⟨_,rfl,.inl (by decide)⟩
 rw[decide_eq_false (by omega),cond_false]
 exact⟨_,rfl,.inr ⟨by omega,by omega,(gA x).2 ⟨(by simp[jH]),(by show x.Name.length≤1048576;omega),(by simp[jH]),s3,by omega⟩⟩⟩
theorem Pi (x:Condition)(hx:pU x){l:Int}(h0:0≤l)(h1:l≤1048576):∃r,xM x l=some r∧(r<0∨(0≤r∧r≤l∧cB x)):=by
 obtain⟨r,h,q⟩:=LH x hx l h0 h1
 exact⟨r,h,q.imp id fun⟨q1,q2,q3⟩=>⟨q1,by omega,q3⟩⟩
theorem Yn (x:Clause)(hx:tE x){l:Int}(h0:0≤l)(h1:l≤1048576):∃r,vY x l=some r∧(r<0∨(0≤r∧r≤l∧gU x)):=by
 unfold vY
 have m0:x.Id.length≤9223372036854775807:=hx.1
 rw[fe (l:=l) (by omega) (by omega) m0]
 by_cases k0:l - (x.Id.length:Int)<0
 ·rw[decide_eq_true k0,cond_true]
  exact⟨_,rfl,.inl (by decide)⟩
 rw[decide_eq_false k0,cond_false]
 have m3:x.Action.length≤9223372036854775807:=hx.2.2.2.1
 rw[fe (l:=(l - (x.Id.length:Int))) (by omega) (by omega) m3]
 by_cases k3:(l - (x.Id.length:Int)) - (x.Action.length:Int)<0
 ·rw[decide_eq_true k3,cond_true]
  exact⟨_,rfl,.inl (by decide)⟩
 rw[decide_eq_false k3,cond_false]
 obtain⟨r6,e6,q6⟩:=Pi x.When hx.2.2.2.2.2.2.1 (l:=((l - (x.Id.length:Int)) - (x.Action.length:Int))) (by omega) (by omega)
 rw[e6,Option.bind_some]
 rcases q6 with q6 | ⟨q6,p6,s6⟩
 ·rw[decide_eq_true q6,cond_true]
  exact⟨_,rfl,.inl (by decide)⟩
 rw[decide_eq_false (by omega),cond_false]
 have m8:x.Repair.length≤9223372036854775807:=hx.2.2.2.2.2.2.2.2
 rw[fe (l:=r6) (by omega) (by omega) m8]
 by_cases k8:r6 - (x.Repair.length:Int)<0
 ·rw[decide_eq_true k8,cond_true]
  exact⟨_,rfl,.inl (by decide)⟩
 rw[decide_eq_false k8,cond_false]
 exact⟨_,rfl,.inr ⟨by omega,by omega,(by show x.Id.length≤1048576;omega),(by simp[jH]),(by simp[jH]),(by show x.Action.length≤1048576;omega),(by simp[jH]),(by simp[jH]),s6,(by simp[jH]),(by show x.Repair.length≤1048576;omega)⟩⟩
theorem Tg (a:List Clause)(ha:(tD tE) a){l:Int}(h0:0≤l)(h1:l≤1048576):∃r,CD a l=some r∧(r<0∨(0≤r∧r≤l∧(iM gU) a)):=by
 have hm:a.length≤9223372036854775807:=ha.1
 unfold CD
 rw[fe h0 (by omega) hm]
 by_cases k:l - (a.length:Int)<0
 ·rw[decide_eq_true k,cond_true]
  exact⟨_,rfl,.inl (by decide)⟩
 rw[decide_eq_false k,cond_false]
 have hs:∀x∈a,∀l:Int,0≤l→l≤1048576→∃r,(fun e l=>vY e l) x l=some r∧(r<0∨(0≤r∧r≤l∧gU x)):=by
  intro x hx l h0 h1
  exact Yn x (ha.2 x hx) h0 h1
 obtain⟨y,hy,q⟩:=Ym (L:=uF a l) (a:=a) (s:=fun e l=>vY e l) (ok:=gU) (M:=1048576) (by decide) hs (fun x=>by rw[RK,oe]<;>rfl) (by omega) (l:=l - (a.length:Int)) (by omega) (by omega)
 rw[hy]
 rcases q with rfl | ⟨r,rfl,q1,q2,q3⟩
 ·exact⟨_,rfl,.inl (by decide)⟩
 ·exact⟨_,rfl,.inr ⟨q1,by omega,by omega,q3⟩⟩
theorem QH (x:Contract)(hx:Zl x){l:Int}(h0:0≤l)(h1:l≤1048576):∃r,CH x l=some r∧(r<0∨(0≤r∧r≤l∧fx x)):=by
 unfold CH
 obtain⟨r0,e0,q0⟩:=Jk x.Parties hx.1 (l:=l) (by omega) (by omega)
 rw[e0,Option.bind_some]
 rcases q0 with q0 | ⟨q0,p0,s0⟩
 ·rw[decide_eq_true q0,cond_true]
  exact⟨_,rfl,.inl (by decide)⟩
 rw[decide_eq_false (by omega),cond_false]
 obtain⟨r1,e1,q1⟩:=Tg x.Clauses hx.2 (l:=r0) (by omega) (by omega)
 rw[e1,Option.bind_some]
 rcases q1 with q1 | ⟨q1,p1,s1⟩
 ·rw[decide_eq_true q1,cond_true]
  exact⟨_,rfl,.inl (by decide)⟩
 rw[decide_eq_false (by omega),cond_false]
 exact⟨_,rfl,.inr ⟨by omega,by omega,s0,s1⟩⟩
theorem abo (a:List Duty)(ha:(tD Km) a){l:Int}(h0:0≤l)(h1:l≤1048576):∃r,CJ a l=some r∧(r<0∨(0≤r∧r≤l∧(iM ql) a)):=by
 have hm:a.length≤9223372036854775807:=ha.1
 unfold CJ
 rw[fe h0 (by omega) hm]
 by_cases k:l - (a.length:Int)<0
 ·rw[decide_eq_true k,cond_true]
  exact⟨_,rfl,.inl (by decide)⟩
 rw[decide_eq_false k,cond_false]
 exact⟨_,rfl,.inr ⟨by omega,by omega,by omega,fun x _=>by simp[ql,jH]⟩⟩
theorem adF (a:List Int)(ha:(tD pm) a){l:Int}(h0:0≤l)(h1:l≤1048576):∃r,CL a l=some r∧(r<0∨(0≤r∧r≤l∧(iM jH) a)):=by
 have hm:a.length≤9223372036854775807:=ha.1
 unfold CL
 rw[fe h0 (by omega) hm]
 by_cases k:l - (a.length:Int)<0
 ·rw[decide_eq_true k,cond_true]
  exact⟨_,rfl,.inl (by decide)⟩
 rw[decide_eq_false k,cond_false]
 exact⟨_,rfl,.inr ⟨by omega,by omega,by omega,fun x _=>by simp[jH]⟩⟩
theorem abp (x:State)(hx:Ej x){l:Int}(h0:0≤l)(h1:l≤1048576):∃r,CN x l=some r∧(r<0∨(0≤r∧r≤l∧kW x)):=by
 unfold CN
 obtain⟨r1,e1,q1⟩:=Jk x.Facts hx.2.1 (l:=l) (by omega) (by omega)
 rw[e1,Option.bind_some]
 rcases q1 with q1 | ⟨q1,p1,s1⟩
 ·rw[decide_eq_true q1,cond_true]
  exact⟨_,rfl,.inl (by decide)⟩
 rw[decide_eq_false (by omega),cond_false]
 obtain⟨r2,e2,q2⟩:=abo x.Duties hx.2.2.1 (l:=r1) (by omega) (by omega)
 rw[e2,Option.bind_some]
 rcases q2 with q2 | ⟨q2,p2,s2⟩
 ·rw[decide_eq_true q2,cond_true]
  exact⟨_,rfl,.inl (by decide)⟩
 rw[decide_eq_false (by omega),cond_false]
 obtain⟨r3,e3,q3⟩:=adF x.Balances hx.2.2.2.1 (l:=r2) (by omega) (by omega)
 rw[e3,Option.bind_some]
 rcases q3 with q3 | ⟨q3,p3,s3⟩
 ·rw[decide_eq_true q3,cond_true]
  exact⟨_,rfl,.inl (by decide)⟩
 rw[decide_eq_false (by omega),cond_false]
 exact⟨_,rfl,.inr ⟨by omega,by omega,(by simp[jH]),s1,s2,s3,(by simp[smB])⟩⟩
theorem Jn (a:List ae)(ha:(iM o8) a):xW a=some a:=by
 have hm:a.length≤1048576:=ha.1
 unfold xW
 rw[zh (by omega) (by omega),Option.bind_some,sF (L:=uM a) (g:=some) (h:=id) (fun _ _=>rfl) (fun x=>by rw[RR,ot]<;>rfl) (by omega) (by simp)]
 simp
theorem Kv (a:List Condition)(ha:iM cB a)(ih:∀y∈a,cB y→CS y=some y):xU (aL qI) a=some a:=by
 have hm:a.length≤1048576:=ha.1
 unfold xU
 rw[zh (by omega) (by omega),Option.bind_some,sF (L:=rO (aL qI) a) (g:=fun e=>CS e) (h:=id) (fun x hx=>ih x hx (ha.2 x hx)) (fun x=>by rw[RO,lX]<;>rfl) (by omega) (by simp)]
 simp
theorem Pk (x:Condition):cB x→CS x=some x:=by
 refine gq (P:=fun x=>cB x→CS x=some x) ?_ x
 intro x ih hx
 rw[gA] at hx
 rw[acn]
 unfold uJ
 rw[Kv x.Parts hx.2.2.2.1 ih]
 cases x;rfl
theorem Yp (x:Clause)(hx:gU x):xR x=some x:=by
 unfold xR
 simp only[Pk x.When hx.2.2.2.2.2.2.1,Option.bind_some]
theorem Tl (a:List Clause)(ha:(iM gU) a):CQ a=some a:=by
 have hm:a.length≤1048576:=ha.1
 unfold CQ
 rw[zh (by omega) (by omega),Option.bind_some,sF (L:=uI a) (g:=(fun e=>xR e)) (h:=id) (fun x hx=>Yp x (ha.2 x hx)) (fun x=>by rw[RN,ol]<;>rfl) (by omega) (by simp)]
 simp
theorem QI (x:Contract)(hx:fx x):tN x=some x:=by
 unfold tN
 simp only[Jn x.Parties hx.1,Tl x.Clauses hx.2,Option.bind_some]
theorem adG (x:Duty)(hx:ql x):xV x=some x:=by
 unfold xV
 rfl
theorem abq (a:List Duty)(ha:(iM ql) a):CX a=some a:=by
 have hm:a.length≤1048576:=ha.1
 unfold CX
 rw[zh (by omega) (by omega),Option.bind_some,sF (L:=uK a) (g:=(fun e=>xV e)) (h:=id) (fun x hx=>adG x (ha.2 x hx)) (fun x=>by rw[RP,om]<;>rfl) (by omega) (by simp)]
 simp
theorem adH (a:List Int)(ha:(iM jH) a):CZ a=some a:=by
 have hm:a.length≤1048576:=ha.1
 unfold CZ
 rw[zh (by omega) (by omega),Option.bind_some,sF (L:=uL a) (g:=some) (h:=id) (fun _ _=>rfl) (fun x=>by rw[RQ,oo]<;>rfl) (by omega) (by simp)]
 simp
theorem abr (x:State)(hx:kW x):tP x=some x:=by
 unfold tP
 simp only[Jn x.Facts hx.2.1,abq x.Duties hx.2.2.1,adH x.Balances hx.2.2.2.1,Option.bind_some]
theorem Q7 (a:List Int)(ha:(iM jH) a):tM a a=some true:=by
 have hm:a.length≤1048576:=ha.1
 unfold tM
 rw[bne_self_eq_false,cond_false,vy (a:=a) (L:=ut a a) (p:=(fun e f=>some (e==f))) (fun x _=>by rw[beq_self_eq_true]) (fun x=>by rw[RG,ob]<;>rfl) (by omega)]
 rfl
theorem II (a:List ae)(ha:(iM o8) a):xE a a=some true:=by
 have hm:a.length≤1048576:=ha.1
 unfold xE
 rw[bne_self_eq_false,cond_false,vy (a:=a) (L:=uu a a) (p:=(fun e f=>some (e==f))) (fun x _=>by rw[beq_self_eq_true]) (fun x=>by rw[RH,oc]<;>rfl) (by omega)]
 rfl
theorem Kg (a:List Condition)(ha:iM cB a)(ih:∀y∈a,cB y→Cf y y=some true):xC (aL qG) a a=some true:=by
 have hm:a.length≤1048576:=ha.1
 unfold xC
 rw[bne_self_eq_false,cond_false,vy (a:=a) (L:=rM (aL qG) a a) (p:=fun e f=>Cf e f) (fun x hx=>ih x hx (ha.2 x hx)) (fun x=>by rw[RE,lO]<;>rfl) (by omega)]
 rfl
theorem Oo (x:Condition):cB x→Cf x x=some true:=by
 refine gq (P:=fun x=>cB x→Cf x x=some true) ?_ x
 intro x ih hx
 rw[gA] at hx
 rw[acj]
 unfold uq
 simp[Kg x.Parts hx.2.2.2.1 ih]
theorem Xw (x:Clause)(hx:gU x):xz x x=some true:=by
 unfold xz
 simp[Oo x.When hx.2.2.2.2.2.2.1]
theorem SD (a:List Clause)(ha:(iM gU) a):Cd a a=some true:=by
 have hm:a.length≤1048576:=ha.1
 unfold Cd
 rw[bne_self_eq_false,cond_false,vy (a:=a) (L:=uo a a) (p:=(fun e f=>xz e f)) (fun x hx=>Xw x (ha.2 x hx)) (fun x=>by rw[RD,nZ]<;>rfl) (by omega)]
 rfl
theorem Qu (x:Contract)(hx:fx x):Cj x x=some true:=by
 unfold Cj
 simp[II x.Parties hx.1,SD x.Clauses hx.2]
theorem adc (x:Duty)(hx:ql x):xD x x=some true:=by
 unfold xD
 simp[]
theorem aaN (a:List Duty)(ha:(iM ql) a):Cm a a=some true:=by
 have hm:a.length≤1048576:=ha.1
 unfold Cm
 rw[bne_self_eq_false,cond_false,vy (a:=a) (L:=ur a a) (p:=(fun e f=>xD e f)) (fun x hx=>adc x (ha.2 x hx)) (fun x=>by rw[RF,oa]<;>rfl) (by omega)]
 rfl
theorem aaO (x:State)(hx:kW x):Co x x=some true:=by
 unfold Co
 simp[II x.Facts hx.2.1,aaN x.Duties hx.2.2.1,Q7 x.Balances hx.2.2.2.1]
end Go.Ln
