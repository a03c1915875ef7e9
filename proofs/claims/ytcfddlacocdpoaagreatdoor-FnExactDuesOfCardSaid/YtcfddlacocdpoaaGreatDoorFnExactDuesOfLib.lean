/-
  What the helpers do.
-/
import Derived.Test.YtcfddlacocdpoaaGreatDoorFnExactDuesOfFun
set_option maxHeartbeats 4000000
set_option linter.unusedVariables false
set_option linter.unusedSimpArgs false
set_option maxRecDepth 100000
namespace Go.Ln
open Go
mutual
def bW:Condition→Nat
 | ⟨_,_,_,a3⟩=>1+aQ a3
def aQ:List Condition→Nat
 | []=>0
 | x::xs=>bW x+aQ xs
end
theorem fQ (x:Condition):bW x=1+aQ x.Parts:=by cases x;simp only[bW]
theorem ii:∀a,aQ a=a.length+(a.map fun x=>aQ x.Parts).sum
 | []=>rfl
 | x::xs=>by simp only[aQ,fQ,ii xs,List.length_cons,List.map_cons,List.sum_cons];omega
mutual
def cB:Condition→Prop
 | ⟨a0,a1,a2,a3⟩=>jG a0∧o8 a1∧jG a2∧(a3.length≤1048576∧li a3)∧aQ a3≤1048576
def li:List Condition→Prop
 | []=>True
 | x::xs=>cB x∧li xs
end
theorem rn:∀xs,li xs↔∀x∈xs,cB x
 | []=>by simp[li]
 | x::xs=>by simp[li,rn xs]
theorem gy (x:Condition):cB x↔jG x.Op∧o8 x.Name∧jG x.Day∧iK cB x.Parts∧aQ x.Parts≤1048576:=by cases x;simp only[cB,rn,iK]
theorem gp {P:Condition→Prop}(h:∀x,(∀y∈x.Parts,P y)→P x):∀x,P x:=by
 have key:∀(N:Nat) (x:Condition),SizeOf.sizeOf x<N→P x:=by
  intro N
  induction N with
  | zero=>intro x hx;omega
  | succ N ih=>
   intro x hx
   refine h x fun y hy=>ih y ?_
   cases x
   have:=List.sizeOf_lt_of_mem hy
   simp at this hx
   omega
 exact fun x=>key _ x (Nat.lt_succ_self _)
def gU (x:Clause):Prop:=o8 x.Id∧jG x.Kind∧jG x.Party∧o8 x.Action∧jG x.Other∧jG x.Amount∧cB x.When∧jG x.Within∧o8 x.Repair
def fw (x:Contract):Prop:=(iK o8) x.Parties∧(iK gU) x.Clauses
def ql (x:Duty):Prop:=jG x.Clause∧jG x.Since∧jG x.Due∧jG x.Status
def kW (x:State):Prop:=jG x.Day∧(iK o8) x.Facts∧(iK ql) x.Duties∧(iK jG) x.Balances∧smB x.Over
theorem Jk (a:List ae)(ha:(tC I3) a){l:Int}(h0:0≤l)(h1:l≤1048576):∃r,xP a l=some r∧(r<0∨(0≤r∧r≤l∧(iK o8) a)):=by
 have hm:a.length≤9223372036854775807:=ha.1
 unfold xP
 rw[fb h0 (by omega) hm]
 by_cases k:l - (a.length:Int)<0
 ·rw[decide_eq_true k,cond_true]
  exact⟨_,rfl,.inl (by decide)⟩
 rw[decide_eq_false k,cond_false]
 have hs:∀x∈a,∀l:Int,0≤l→l≤1048576→∃r,(fun e l=>some (ac (l - len e))) x l=some r∧(r<0∨(0≤r∧r≤l∧o8 x)):=by
  intro x hx l h0 h1
  have hx:=ha.2 x hx
  refine⟨_,rfl,?_⟩
  rw[fb h0 (by omega) hx]
  by_cases k:l - (x.length:Int)<0
  ·exact .inl k
  ·exact .inr ⟨by omega,by omega,by show x.length≤1048576;omega⟩
 obtain⟨y,hy,q⟩:=Ym (L:=uF a l) (a:=a) (s:=fun e l=>some (ac (l - len e))) (ok:=o8) (M:=1048576) (by decide) hs (fun x=>by rw[RM,oe]<;>rfl) (by omega) (l:=l - (a.length:Int)) (by omega) (by omega)
 rw[hy]
 rcases q with rfl | ⟨r,rfl,q1,q2,q3⟩
 ·exact⟨_,rfl,.inl (by decide)⟩
 ·exact⟨_,rfl,.inr ⟨q1,by omega,by omega,q3⟩⟩
theorem Ku (a:List Condition)(ha:tC pU a)(ih:∀y∈a,pU y→∀l:Int,0≤l→l≤1048576→∃r,xL y l=some r∧(r<0∨(0≤r∧r+((aQ y.Parts:Nat):Int)≤l∧cB y))){l:Int}(h0:0≤l)(h1:l≤1048576) :
  ∃r,xO (aL qH) a l=some r∧(r<0∨(0≤r∧r+((aQ a:Nat):Int)≤l∧iK cB a)):=by
 have hm:a.length≤9223372036854775807:=ha.1
 unfold xO
 rw[fb h0 (by omega) hm]
 by_cases k:l - (a.length:Int)<0
 ·rw[decide_eq_true k,cond_true]
  exact⟨_,rfl,.inl (by decide)⟩
 rw[decide_eq_false k,cond_false]
 obtain⟨y,hy,q⟩:=adE (L:=rM (aL qH) a l) (a:=a) (s:=fun e l=>xL e l) (w:=fun x=>aQ x.Parts) (ok:=cB) (M:=1048576) (by decide) (fun x hx l h0 h1=>ih x hx (ha.2 x hx) l h0 h1) (fun x=>by rw[RL,lW]<;>rfl) (by omega) (l:=l - (a.length:Int)) (by omega) (by omega)
 rw[hy]
 rcases q with rfl | ⟨r,rfl,q1,q2,q3⟩
 ·exact⟨_,rfl,.inl (by decide)⟩
 ·exact⟨_,rfl,.inr ⟨q1,by rw[ii];omega,by show a.length≤1048576;omega,q3⟩⟩
theorem LH (x:Condition):pU x→∀l:Int,0≤l→l≤1048576→∃r,xL x l=some r∧(r<0∨(0≤r∧r+((aQ x.Parts:Nat):Int)≤l∧cB x)):=by
 refine gp (P:=fun x=>pU x→∀l:Int,0≤l→l≤1048576→∃r,xL x l=some r∧(r<0∨(0≤r∧r+((aQ x.Parts:Nat):Int)≤l∧cB x))) ?_ x
 intro x ih hx l h0 h1
 rw[Nc] at hx
 rw[acm]
 unfold uE
 have m1:x.Name.length≤9223372036854775807:=hx.2.1
 rw[fb (l:=l) (by omega) (by omega) m1]
 by_cases k1:l - (x.Name.length:Int)<0
 ·rw[decide_eq_true k1,cond_true]
  exact⟨_,rfl,.inl (by decide)⟩
 rw[decide_eq_false k1,cond_false]
 obtain⟨r3,e3,q3⟩:=Ku x.Parts hx.2.2.2 ih (l:=(l - (x.Name.length:Int))) (by omega) (by omega)
 rw[e3,Option.bind_some]
 rcases q3 with q3 | ⟨q3,p3,s3⟩
 ·rw[decide_eq_true q3,cond_true]
  exact⟨_,rfl,.inl (by decide)⟩
 rw[decide_eq_false (by omega),cond_false]
 exact⟨_,rfl,.inr ⟨by omega,by omega,(gy x).2 ⟨(by simp[jG]),(by show x.Name.length≤1048576;omega),(by simp[jG]),s3,by omega⟩⟩⟩
theorem Pi (x:Condition)(hx:pU x){l:Int}(h0:0≤l)(h1:l≤1048576):∃r,xL x l=some r∧(r<0∨(0≤r∧r≤l∧cB x)):=by
 obtain⟨r,h,q⟩:=LH x hx l h0 h1
 exact⟨r,h,q.imp id fun⟨q1,q2,q3⟩=>⟨q1,by omega,q3⟩⟩
theorem Yn (x:Clause)(hx:tD x){l:Int}(h0:0≤l)(h1:l≤1048576):∃r,vW x l=some r∧(r<0∨(0≤r∧r≤l∧gU x)):=by
 unfold vW
 have m0:x.Id.length≤9223372036854775807:=hx.1
 rw[fb (l:=l) (by omega) (by omega) m0]
 by_cases k0:l - (x.Id.length:Int)<0
 ·rw[decide_eq_true k0,cond_true]
  exact⟨_,rfl,.inl (by decide)⟩
 rw[decide_eq_false k0,cond_false]
 have m3:x.Action.length≤9223372036854775807:=hx.2.2.2.1
 rw[fb (l:=(l - (x.Id.length:Int))) (by omega) (by omega) m3]
 by_cases k3:(l - (x.Id.length:Int)) - (x.Action.length:Int)<0
 ·rw[decide_eq_true k3,cond_true]
  exact⟨_,rfl,.inl (by decide)⟩
 rw[decide_eq_false k3,cond_false]
 obtain⟨r6,e6,q6⟩:=Pi x.When hx.2.2.2.2.2.2.1 (l:=((l - (x.Id.length:Int)) - (x.Action.length:Int))) (by omega) (by omega)
 rw[e6,Option.bind_some]
 rcases q6 with q6 | ⟨q6,p6,s6⟩
 ·rw[decide_eq_true q6,cond_true]
  exact⟨_,rfl,.inl (by decide)⟩
 rw[decide_eq_false (by omega),cond_false]
 have m8:x.Repair.length≤9223372036854775807:=hx.2.2.2.2.2.2.2.2
 rw[fb (l:=r6) (by omega) (by omega) m8]
 by_cases k8:r6 - (x.Repair.length:Int)<0
 ·rw[decide_eq_true k8,cond_true]
  exact⟨_,rfl,.inl (by decide)⟩
 rw[decide_eq_false k8,cond_false]
 exact⟨_,rfl,.inr ⟨by omega,by omega,(by show x.Id.length≤1048576;omega),(by simp[jG]),(by simp[jG]),(by show x.Action.length≤1048576;omega),(by simp[jG]),(by simp[jG]),s6,(by simp[jG]),(by show x.Repair.length≤1048576;omega)⟩⟩
theorem Tg (a:List Clause)(ha:(tC tD) a){l:Int}(h0:0≤l)(h1:l≤1048576):∃r,CD a l=some r∧(r<0∨(0≤r∧r≤l∧(iK gU) a)):=by
 have hm:a.length≤9223372036854775807:=ha.1
 unfold CD
 rw[fb h0 (by omega) hm]
 by_cases k:l - (a.length:Int)<0
 ·rw[decide_eq_true k,cond_true]
  exact⟨_,rfl,.inl (by decide)⟩
 rw[decide_eq_false k,cond_false]
 have hs:∀x∈a,∀l:Int,0≤l→l≤1048576→∃r,(fun e l=>vW e l) x l=some r∧(r<0∨(0≤r∧r≤l∧gU x)):=by
  intro x hx l h0 h1
  exact Yn x (ha.2 x hx) h0 h1
 obtain⟨y,hy,q⟩:=Ym (L:=uD a l) (a:=a) (s:=fun e l=>vW e l) (ok:=gU) (M:=1048576) (by decide) hs (fun x=>by rw[RK,od]<;>rfl) (by omega) (l:=l - (a.length:Int)) (by omega) (by omega)
 rw[hy]
 rcases q with rfl | ⟨r,rfl,q1,q2,q3⟩
 ·exact⟨_,rfl,.inl (by decide)⟩
 ·exact⟨_,rfl,.inr ⟨q1,by omega,by omega,q3⟩⟩
theorem QH (x:Contract)(hx:Zl x){l:Int}(h0:0≤l)(h1:l≤1048576):∃r,CH x l=some r∧(r<0∨(0≤r∧r≤l∧fw x)):=by
 unfold CH
 obtain⟨r0,e0,q0⟩:=Jk x.Parties hx.1 (l:=l) (by omega) (by omega)
 rw[e0,Option.bind_some]
 rcases q0 with q0 | ⟨q0,p0,s0⟩
 ·rw[decide_eq_true q0,cond_true]
  exact⟨_,rfl,.inl (by decide)⟩
 rw[decide_eq_false (by omega),cond_false]
 obtain⟨r1,e1,q1⟩:=Tg x.Clauses hx.2 (l:=r0) (by omega) (by omega)
 rw[e1,Option.bind_some]
 rcases q1 with q1 | ⟨q1,p1,s1⟩
 ·rw[decide_eq_true q1,cond_true]
  exact⟨_,rfl,.inl (by decide)⟩
 rw[decide_eq_false (by omega),cond_false]
 exact⟨_,rfl,.inr ⟨by omega,by omega,s0,s1⟩⟩
theorem abo (a:List Duty)(ha:(tC Km) a){l:Int}(h0:0≤l)(h1:l≤1048576):∃r,CJ a l=some r∧(r<0∨(0≤r∧r≤l∧(iK ql) a)):=by
 have hm:a.length≤9223372036854775807:=ha.1
 unfold CJ
 rw[fb h0 (by omega) hm]
 by_cases k:l - (a.length:Int)<0
 ·rw[decide_eq_true k,cond_true]
  exact⟨_,rfl,.inl (by decide)⟩
 rw[decide_eq_false k,cond_false]
 exact⟨_,rfl,.inr ⟨by omega,by omega,by omega,fun x _=>by simp[ql,jG]⟩⟩
theorem adF (a:List Int)(ha:(tC pm) a){l:Int}(h0:0≤l)(h1:l≤1048576):∃r,CL a l=some r∧(r<0∨(0≤r∧r≤l∧(iK jG) a)):=by
 have hm:a.length≤9223372036854775807:=ha.1
 unfold CL
 rw[fb h0 (by omega) hm]
 by_cases k:l - (a.length:Int)<0
 ·rw[decide_eq_true k,cond_true]
  exact⟨_,rfl,.inl (by decide)⟩
 rw[decide_eq_false k,cond_false]
 exact⟨_,rfl,.inr ⟨by omega,by omega,by omega,fun x _=>by simp[jG]⟩⟩
theorem abp (x:State)(hx:Ej x){l:Int}(h0:0≤l)(h1:l≤1048576):∃r,CN x l=some r∧(r<0∨(0≤r∧r≤l∧kW x)):=by
 unfold CN
 obtain⟨r1,e1,q1⟩:=Jk x.Facts hx.2.1 (l:=l) (by omega) (by omega)
 rw[e1,Option.bind_some]
 rcases q1 with q1 | ⟨q1,p1,s1⟩
 ·rw[decide_eq_true q1,cond_true]
  exact⟨_,rfl,.inl (by decide)⟩
 rw[decide_eq_false (by omega),cond_false]
 obtain⟨r2,e2,q2⟩:=abo x.Duties hx.2.2.1 (l:=r1) (by omega) (by omega)
 rw[e2,Option.bind_some]
 rcases q2 with q2 | ⟨q2,p2,s2⟩
 ·rw[decide_eq_true q2,cond_true]
  exact⟨_,rfl,.inl (by decide)⟩
 rw[decide_eq_false (by omega),cond_false]
 obtain⟨r3,e3,q3⟩:=adF x.Balances hx.2.2.2.1 (l:=r2) (by omega) (by omega)
 rw[e3,Option.bind_some]
 rcases q3 with q3 | ⟨q3,p3,s3⟩
 ·rw[decide_eq_true q3,cond_true]
  exact⟨_,rfl,.inl (by decide)⟩
 rw[decide_eq_false (by omega),cond_false]
 exact⟨_,rfl,.inr ⟨by omega,by omega,(by simp[jG]),s1,s2,s3,(by simp[smB])⟩⟩
theorem Jn (a:List ae)(ha:(iK o8) a):xV a=some a:=by
 have hm:a.length≤1048576:=ha.1
 unfold xV
 rw[zg (by omega) (by omega),Option.bind_some,sE (L:=uK a) (g:=some) (h:=id) (fun _ _=>rfl) (fun x=>by rw[RR,oo]<;>rfl) (by omega) (by simp)]
 simp
theorem Kv (a:List Condition)(ha:iK cB a)(ih:∀y∈a,cB y→CS y=some y):xT (aL qI) a=some a:=by
 have hm:a.length≤1048576:=ha.1
 unfold xT
 rw[zg (by omega) (by omega),Option.bind_some,sE (L:=rN (aL qI) a) (g:=fun e=>CS e) (h:=id) (fun x hx=>ih x hx (ha.2 x hx)) (fun x=>by rw[RO,lX]<;>rfl) (by omega) (by simp)]
 simp
theorem Pk (x:Condition):cB x→CS x=some x:=by
 refine gp (P:=fun x=>cB x→CS x=some x) ?_ x
 intro x ih hx
 rw[gy] at hx
 rw[acn]
 unfold uH
 rw[Kv x.Parts hx.2.2.2.1 ih]
 cases x;rfl
theorem Yp (x:Clause)(hx:gU x):xQ x=some x:=by
 unfold xQ
 simp only[Pk x.When hx.2.2.2.2.2.2.1,Option.bind_some]
theorem Tl (a:List Clause)(ha:(iK gU) a):CQ a=some a:=by
 have hm:a.length≤1048576:=ha.1
 unfold CQ
 rw[zg (by omega) (by omega),Option.bind_some,sE (L:=uG a) (g:=(fun e=>xQ e)) (h:=id) (fun x hx=>Yp x (ha.2 x hx)) (fun x=>by rw[RN,oh]<;>rfl) (by omega) (by simp)]
 simp
theorem QI (x:Contract)(hx:fw x):tM x=some x:=by
 unfold tM
 simp only[Jn x.Parties hx.1,Tl x.Clauses hx.2,Option.bind_some]
theorem adG (x:Duty)(hx:ql x):xU x=some x:=by
 unfold xU
 rfl
theorem abq (a:List Duty)(ha:(iK ql) a):CX a=some a:=by
 have hm:a.length≤1048576:=ha.1
 unfold CX
 rw[zg (by omega) (by omega),Option.bind_some,sE (L:=uI a) (g:=(fun e=>xU e)) (h:=id) (fun x hx=>adG x (ha.2 x hx)) (fun x=>by rw[RP,ol]<;>rfl) (by omega) (by simp)]
 simp
theorem adH (a:List Int)(ha:(iK jG) a):CZ a=some a:=by
 have hm:a.length≤1048576:=ha.1
 unfold CZ
 rw[zg (by omega) (by omega),Option.bind_some,sE (L:=uJ a) (g:=some) (h:=id) (fun _ _=>rfl) (fun x=>by rw[RQ,om]<;>rfl) (by omega) (by simp)]
 simp
theorem abr (x:State)(hx:kW x):tN x=some x:=by
 unfold tN
 simp only[Jn x.Facts hx.2.1,abq x.Duties hx.2.2.1,adH x.Balances hx.2.2.2.1,Option.bind_some]
theorem Q7 (a:List Int)(ha:(iK jG) a):tL a a=some true:=by
 have hm:a.length≤1048576:=ha.1
 unfold tL
 rw[bne_self_eq_false,cond_false,vw (a:=a) (L:=uq a a) (p:=(fun e f=>some (e==f))) (fun x _=>by rw[beq_self_eq_true]) (fun x=>by rw[RG,oa]<;>rfl) (by omega)]
 rfl
theorem II (a:List ae)(ha:(iK o8) a):xD a a=some true:=by
 have hm:a.length≤1048576:=ha.1
 unfold xD
 rw[bne_self_eq_false,cond_false,vw (a:=a) (L:=ur a a) (p:=(fun e f=>some (e==f))) (fun x _=>by rw[beq_self_eq_true]) (fun x=>by rw[RH,ob]<;>rfl) (by omega)]
 rfl
theorem Kg (a:List Condition)(ha:iK cB a)(ih:∀y∈a,cB y→Cf y y=some true):xB (aL qG) a a=some true:=by
 have hm:a.length≤1048576:=ha.1
 unfold xB
 rw[bne_self_eq_false,cond_false,vw (a:=a) (L:=rL (aL qG) a a) (p:=fun e f=>Cf e f) (fun x hx=>ih x hx (ha.2 x hx)) (fun x=>by rw[RE,lO]<;>rfl) (by omega)]
 rfl
theorem Oo (x:Condition):cB x→Cf x x=some true:=by
 refine gp (P:=fun x=>cB x→Cf x x=some true) ?_ x
 intro x ih hx
 rw[gy] at hx
 rw[acj]
 unfold un
 simp[Kg x.Parts hx.2.2.2.1 ih]
theorem Xw (x:Clause)(hx:gU x):xy x x=some true:=by
 unfold xy
 simp[Oo x.When hx.2.2.2.2.2.2.1]
theorem SD (a:List Clause)(ha:(iK gU) a):Cd a a=some true:=by
 have hm:a.length≤1048576:=ha.1
 unfold Cd
 rw[bne_self_eq_false,cond_false,vw (a:=a) (L:=um a a) (p:=(fun e f=>xy e f)) (fun x hx=>Xw x (ha.2 x hx)) (fun x=>by rw[RD,nY]<;>rfl) (by omega)]
 rfl
theorem Qu (x:Contract)(hx:fw x):Cj x x=some true:=by
 unfold Cj
 simp[II x.Parties hx.1,SD x.Clauses hx.2]
theorem adc (x:Duty)(hx:ql x):xC x x=some true:=by
 unfold xC
 simp[]
theorem aaN (a:List Duty)(ha:(iK ql) a):Cm a a=some true:=by
 have hm:a.length≤1048576:=ha.1
 unfold Cm
 rw[bne_self_eq_false,cond_false,vw (a:=a) (L:=uo a a) (p:=(fun e f=>xC e f)) (fun x hx=>adc x (ha.2 x hx)) (fun x=>by rw[RF,nZ]<;>rfl) (by omega)]
 rfl
theorem aaO (x:State)(hx:kW x):Co x x=some true:=by
 unfold Co
 simp[II x.Facts hx.2.1,aaN x.Duties hx.2.2.1,Q7 x.Balances hx.2.2.2.1]
end Go.Ln
