/-
  What the helpers do.
-/
import Derived.Test.YtcfddlacocdpoaaGreatDoorFnExactOverdueByFun
set_option maxHeartbeats 4000000
set_option linter.unusedVariables false
set_option linter.unusedSimpArgs false
set_option maxRecDepth 100000
namespace Go.Ln
open Go
mutual
def bV:Condition→Nat
 | ⟨_,_,_,a3⟩=>1+aP a3
def aP:List Condition→Nat
 | []=>0
 | x::xs=>bV x+aP xs
end
theorem fQ (x:Condition):bV x=1+aP x.Parts:=by cases x;simp only[bV]
theorem ii:∀a,aP a=a.length+(a.map fun x=>aP x.Parts).sum
 | []=>rfl
 | x::xs=>by simp only[aP,fQ,ii xs,List.length_cons,List.map_cons,List.sum_cons];omega
mutual
def cy:Condition→Prop
 | ⟨a0,a1,a2,a3⟩=>jC a0∧o7 a1∧jC a2∧(a3.length≤1048576∧lg a3)∧aP a3≤1048576
def lg:List Condition→Prop
 | []=>True
 | x::xs=>cy x∧lg xs
end
theorem rq:∀xs,lg xs↔∀x∈xs,cy x
 | []=>by simp[lg]
 | x::xs=>by simp[lg,rq xs]
theorem gy (x:Condition):cy x↔jC x.Op∧o7 x.Name∧jC x.Day∧iK cy x.Parts∧aP x.Parts≤1048576:=by cases x;simp only[cy,rq,iK]
theorem gm {P:Condition→Prop}(h:∀x,(∀y∈x.Parts,P y)→P x):∀x,P x:=by
 have key:∀(N:Nat) (x:Condition),SizeOf.sizeOf x<N→P x:=by
  intro N
  induction N with
  | zero=>intro x hx;omega
  | succ N ih=>
   intro x hx
   refine h x fun y hy=>ih y ?_
   cases x
   have:=List.sizeOf_lt_of_mem hy
   simp at this hx
   omega
 exact fun x=>key _ x (Nat.lt_succ_self _)
def gR (x:Clause):Prop:=o7 x.Id∧jC x.Kind∧jC x.Party∧o7 x.Action∧jC x.Other∧jC x.Amount∧cy x.When∧jC x.Within∧o7 x.Repair
def fH (x:Contract):Prop:=(iK o7) x.Parties∧(iK gR) x.Clauses
def qm (x:Duty):Prop:=jC x.Clause∧jC x.Since∧jC x.Due∧jC x.Status
def mE (x:State):Prop:=jC x.Day∧(iK o7) x.Facts∧(iK qm) x.Duties∧(iK jC) x.Balances∧smB x.Over
theorem IY (a:List ae)(ha:(tI IE) a){l:Int}(h0:0≤l)(h1:l≤1048576):∃r,xQ a l=some r∧(r<0∨(0≤r∧r≤l∧(iK o7) a)):=by
 have hm:a.length≤9223372036854775807:=ha.1
 unfold xQ
 rw[eZ h0 (by omega) hm]
 by_cases k:l - (a.length:Int)<0
 ·rw[decide_eq_true k,cond_true]
  exact⟨_,rfl,.inl (by decide)⟩
 rw[decide_eq_false k,cond_false]
 have hs:∀x∈a,∀l:Int,0≤l→l≤1048576→∃r,(fun e l=>some (ac (l - len e))) x l=some r∧(r<0∨(0≤r∧r≤l∧o7 x)):=by
  intro x hx l h0 h1
  have hx:=ha.2 x hx
  refine⟨_,rfl,?_⟩
  rw[eZ h0 (by omega) hx]
  by_cases k:l - (x.length:Int)<0
  ·exact .inl k
  ·exact .inr ⟨by omega,by omega,by show x.length≤1048576;omega⟩
 obtain⟨y,hy,q⟩:=XI (L:=uK a l) (a:=a) (s:=fun e l=>some (ac (l - len e))) (ok:=o7) (M:=1048576) (by decide) hs (fun x=>by rw[Rk,oe]<;>rfl) (by omega) (l:=l - (a.length:Int)) (by omega) (by omega)
 rw[hy]
 rcases q with rfl | ⟨r,rfl,q1,q2,q3⟩
 ·exact⟨_,rfl,.inl (by decide)⟩
 ·exact⟨_,rfl,.inr ⟨q1,by omega,by omega,q3⟩⟩
theorem J7 (a:List Condition)(ha:tI pS a)(ih:∀y∈a,pS y→∀l:Int,0≤l→l≤1048576→∃r,xM y l=some r∧(r<0∨(0≤r∧r+((aP y.Parts:Nat):Int)≤l∧cy y))){l:Int}(h0:0≤l)(h1:l≤1048576) :
  ∃r,xP (aJ qI) a l=some r∧(r<0∨(0≤r∧r+((aP a:Nat):Int)≤l∧iK cy a)):=by
 have hm:a.length≤9223372036854775807:=ha.1
 unfold xP
 rw[eZ h0 (by omega) hm]
 by_cases k:l - (a.length:Int)<0
 ·rw[decide_eq_true k,cond_true]
  exact⟨_,rfl,.inl (by decide)⟩
 rw[decide_eq_false k,cond_false]
 obtain⟨y,hy,q⟩:=acS (L:=rR (aJ qI) a l) (a:=a) (s:=fun e l=>xM e l) (w:=fun x=>aP x.Parts) (ok:=cy) (M:=1048576) (by decide) (fun x hx l h0 h1=>ih x hx (ha.2 x hx) l h0 h1) (fun x=>by rw[Rj,lU]<;>rfl) (by omega) (l:=l - (a.length:Int)) (by omega) (by omega)
 rw[hy]
 rcases q with rfl | ⟨r,rfl,q1,q2,q3⟩
 ·exact⟨_,rfl,.inl (by decide)⟩
 ·exact⟨_,rfl,.inr ⟨q1,by rw[ii];omega,by show a.length≤1048576;omega,q3⟩⟩
theorem Lh (x:Condition):pS x→∀l:Int,0≤l→l≤1048576→∃r,xM x l=some r∧(r<0∨(0≤r∧r+((aP x.Parts:Nat):Int)≤l∧cy x)):=by
 refine gm (P:=fun x=>pS x→∀l:Int,0≤l→l≤1048576→∃r,xM x l=some r∧(r<0∨(0≤r∧r+((aP x.Parts:Nat):Int)≤l∧cy x))) ?_ x
 intro x ih hx l h0 h1
 rw[MQ] at hx
 rw[aby]
 unfold uJ
 have m1:x.Name.length≤9223372036854775807:=hx.2.1
 rw[eZ (l:=l) (by omega) (by omega) m1]
 by_cases k1:l - (x.Name.length:Int)<0
 ·rw[decide_eq_true k1,cond_true]
  exact⟨_,rfl,.inl (by decide)⟩
 rw[decide_eq_false k1,cond_false]
 obtain⟨r3,e3,q3⟩:=J7 x.Parts hx.2.2.2 ih (l:=(l - (x.Name.length:Int))) (by omega) (by omega)
 rw[e3,Option.bind_some]
 rcases q3 with q3 | ⟨q3,p3,s3⟩
 ·rw[decide_eq_true q3,cond_true]
  exact⟨_,rfl,.inl (by decide)⟩
 rw[decide_eq_false (by omega),cond_false]
 exact⟨_,rfl,.inr ⟨by omega,by omega,(gy x).2 ⟨(by simp[jC]),(by show x.Name.length≤1048576;omega),(by simp[jC]),s3,by omega⟩⟩⟩
theorem OT (x:Condition)(hx:pS x){l:Int}(h0:0≤l)(h1:l≤1048576):∃r,xM x l=some r∧(r<0∨(0≤r∧r≤l∧cy x)):=by
 obtain⟨r,h,q⟩:=Lh x hx l h0 h1
 exact⟨r,h,q.imp id fun⟨q1,q2,q3⟩=>⟨q1,by omega,q3⟩⟩
theorem XJ (x:Clause)(hx:tJ x){l:Int}(h0:0≤l)(h1:l≤1048576):∃r,vZ x l=some r∧(r<0∨(0≤r∧r≤l∧gR x)):=by
 unfold vZ
 have m0:x.Id.length≤9223372036854775807:=hx.1
 rw[eZ (l:=l) (by omega) (by omega) m0]
 by_cases k0:l - (x.Id.length:Int)<0
 ·rw[decide_eq_true k0,cond_true]
  exact⟨_,rfl,.inl (by decide)⟩
 rw[decide_eq_false k0,cond_false]
 have m3:x.Action.length≤9223372036854775807:=hx.2.2.2.1
 rw[eZ (l:=(l - (x.Id.length:Int))) (by omega) (by omega) m3]
 by_cases k3:(l - (x.Id.length:Int)) - (x.Action.length:Int)<0
 ·rw[decide_eq_true k3,cond_true]
  exact⟨_,rfl,.inl (by decide)⟩
 rw[decide_eq_false k3,cond_false]
 obtain⟨r6,e6,q6⟩:=OT x.When hx.2.2.2.2.2.2.1 (l:=((l - (x.Id.length:Int)) - (x.Action.length:Int))) (by omega) (by omega)
 rw[e6,Option.bind_some]
 rcases q6 with q6 | ⟨q6,p6,s6⟩
 ·rw[decide_eq_true q6,cond_true]
  exact⟨_,rfl,.inl (by decide)⟩
 rw[decide_eq_false (by omega),cond_false]
 have m8:x.Repair.length≤9223372036854775807:=hx.2.2.2.2.2.2.2.2
 rw[eZ (l:=r6) (by omega) (by omega) m8]
 by_cases k8:r6 - (x.Repair.length:Int)<0
 ·rw[decide_eq_true k8,cond_true]
  exact⟨_,rfl,.inl (by decide)⟩
 rw[decide_eq_false k8,cond_false]
 exact⟨_,rfl,.inr ⟨by omega,by omega,(by show x.Id.length≤1048576;omega),(by simp[jC]),(by simp[jC]),(by show x.Action.length≤1048576;omega),(by simp[jC]),(by simp[jC]),s6,(by simp[jC]),(by show x.Repair.length≤1048576;omega)⟩⟩
theorem SR (a:List Clause)(ha:(tI tJ) a){l:Int}(h0:0≤l)(h1:l≤1048576):∃r,Cy a l=some r∧(r<0∨(0≤r∧r≤l∧(iK gR) a)):=by
 have hm:a.length≤9223372036854775807:=ha.1
 unfold Cy
 rw[eZ h0 (by omega) hm]
 by_cases k:l - (a.length:Int)<0
 ·rw[decide_eq_true k,cond_true]
  exact⟨_,rfl,.inl (by decide)⟩
 rw[decide_eq_false k,cond_false]
 have hs:∀x∈a,∀l:Int,0≤l→l≤1048576→∃r,(fun e l=>vZ e l) x l=some r∧(r<0∨(0≤r∧r≤l∧gR x)):=by
  intro x hx l h0 h1
  exact XJ x (ha.2 x hx) h0 h1
 obtain⟨y,hy,q⟩:=XI (L:=uI a l) (a:=a) (s:=fun e l=>vZ e l) (ok:=gR) (M:=1048576) (by decide) hs (fun x=>by rw[Ri,od]<;>rfl) (by omega) (l:=l - (a.length:Int)) (by omega) (by omega)
 rw[hy]
 rcases q with rfl | ⟨r,rfl,q1,q2,q3⟩
 ·exact⟨_,rfl,.inl (by decide)⟩
 ·exact⟨_,rfl,.inr ⟨q1,by omega,by omega,q3⟩⟩
theorem Qh (x:Contract)(hx:YE x){l:Int}(h0:0≤l)(h1:l≤1048576):∃r,CC x l=some r∧(r<0∨(0≤r∧r≤l∧fH x)):=by
 unfold CC
 obtain⟨r0,e0,q0⟩:=IY x.Parties hx.1 (l:=l) (by omega) (by omega)
 rw[e0,Option.bind_some]
 rcases q0 with q0 | ⟨q0,p0,s0⟩
 ·rw[decide_eq_true q0,cond_true]
  exact⟨_,rfl,.inl (by decide)⟩
 rw[decide_eq_false (by omega),cond_false]
 obtain⟨r1,e1,q1⟩:=SR x.Clauses hx.2 (l:=r0) (by omega) (by omega)
 rw[e1,Option.bind_some]
 rcases q1 with q1 | ⟨q1,p1,s1⟩
 ·rw[decide_eq_true q1,cond_true]
  exact⟨_,rfl,.inl (by decide)⟩
 rw[decide_eq_false (by omega),cond_false]
 exact⟨_,rfl,.inr ⟨by omega,by omega,s0,s1⟩⟩
theorem aaE (a:List Duty)(ha:(tI JY) a){l:Int}(h0:0≤l)(h1:l≤1048576):∃r,CE a l=some r∧(r<0∨(0≤r∧r≤l∧(iK qm) a)):=by
 have hm:a.length≤9223372036854775807:=ha.1
 unfold CE
 rw[eZ h0 (by omega) hm]
 by_cases k:l - (a.length:Int)<0
 ·rw[decide_eq_true k,cond_true]
  exact⟨_,rfl,.inl (by decide)⟩
 rw[decide_eq_false k,cond_false]
 exact⟨_,rfl,.inr ⟨by omega,by omega,by omega,fun x _=>by simp[qm,jC]⟩⟩
theorem acT (a:List Int)(ha:(tI pk) a){l:Int}(h0:0≤l)(h1:l≤1048576):∃r,CG a l=some r∧(r<0∨(0≤r∧r≤l∧(iK jC) a)):=by
 have hm:a.length≤9223372036854775807:=ha.1
 unfold CG
 rw[eZ h0 (by omega) hm]
 by_cases k:l - (a.length:Int)<0
 ·rw[decide_eq_true k,cond_true]
  exact⟨_,rfl,.inl (by decide)⟩
 rw[decide_eq_false k,cond_false]
 exact⟨_,rfl,.inr ⟨by omega,by omega,by omega,fun x _=>by simp[jC]⟩⟩
theorem aaF (x:State)(hx:D9 x){l:Int}(h0:0≤l)(h1:l≤1048576):∃r,CI x l=some r∧(r<0∨(0≤r∧r≤l∧mE x)):=by
 unfold CI
 obtain⟨r1,e1,q1⟩:=IY x.Facts hx.2.1 (l:=l) (by omega) (by omega)
 rw[e1,Option.bind_some]
 rcases q1 with q1 | ⟨q1,p1,s1⟩
 ·rw[decide_eq_true q1,cond_true]
  exact⟨_,rfl,.inl (by decide)⟩
 rw[decide_eq_false (by omega),cond_false]
 obtain⟨r2,e2,q2⟩:=aaE x.Duties hx.2.2.1 (l:=r1) (by omega) (by omega)
 rw[e2,Option.bind_some]
 rcases q2 with q2 | ⟨q2,p2,s2⟩
 ·rw[decide_eq_true q2,cond_true]
  exact⟨_,rfl,.inl (by decide)⟩
 rw[decide_eq_false (by omega),cond_false]
 obtain⟨r3,e3,q3⟩:=acT x.Balances hx.2.2.2.1 (l:=r2) (by omega) (by omega)
 rw[e3,Option.bind_some]
 rcases q3 with q3 | ⟨q3,p3,s3⟩
 ·rw[decide_eq_true q3,cond_true]
  exact⟨_,rfl,.inl (by decide)⟩
 rw[decide_eq_false (by omega),cond_false]
 exact⟨_,rfl,.inr ⟨by omega,by omega,(by simp[jC]),s1,s2,s3,(by simp[smB])⟩⟩
theorem I1 (a:List ae)(ha:(iK o7) a):xW a=some a:=by
 have hm:a.length≤1048576:=ha.1
 unfold xW
 rw[zg (by omega) (by omega),Option.bind_some,sH (L:=uQ a) (g:=some) (h:=id) (fun _ _=>rfl) (fun x=>by rw[Rp,oo]<;>rfl) (by omega) (by simp)]
 simp
theorem J8 (a:List Condition)(ha:iK cy a)(ih:∀y∈a,cy y→CN y=some y):xU (aJ qJ) a=some a:=by
 have hm:a.length≤1048576:=ha.1
 unfold xU
 rw[zg (by omega) (by omega),Option.bind_some,sH (L:=rS (aJ qJ) a) (g:=fun e=>CN e) (h:=id) (fun x hx=>ih x hx (ha.2 x hx)) (fun x=>by rw[Rm,lV]<;>rfl) (by omega) (by simp)]
 simp
theorem OV (x:Condition):cy x→CN x=some x:=by
 refine gm (P:=fun x=>cy x→CN x=some x) ?_ x
 intro x ih hx
 rw[gy] at hx
 rw[abz]
 unfold uM
 rw[J8 x.Parts hx.2.2.2.1 ih]
 cases x;rfl
theorem XL (x:Clause)(hx:gR x):xR x=some x:=by
 unfold xR
 simp only[OV x.When hx.2.2.2.2.2.2.1,Option.bind_some]
theorem SW (a:List Clause)(ha:(iK gR) a):CL a=some a:=by
 have hm:a.length≤1048576:=ha.1
 unfold CL
 rw[zg (by omega) (by omega),Option.bind_some,sH (L:=uL a) (g:=(fun e=>xR e)) (h:=id) (fun x hx=>XL x (ha.2 x hx)) (fun x=>by rw[Rl,oh]<;>rfl) (by omega) (by simp)]
 simp
theorem Qi (x:Contract)(hx:fH x):tT x=some x:=by
 unfold tT
 simp only[I1 x.Parties hx.1,SW x.Clauses hx.2,Option.bind_some]
theorem acU (x:Duty)(hx:qm x):xV x=some x:=by
 unfold xV
 rfl
theorem aaG (a:List Duty)(ha:(iK qm) a):CS a=some a:=by
 have hm:a.length≤1048576:=ha.1
 unfold CS
 rw[zg (by omega) (by omega),Option.bind_some,sH (L:=uN a) (g:=(fun e=>xV e)) (h:=id) (fun x hx=>acU x (ha.2 x hx)) (fun x=>by rw[Rn,ol]<;>rfl) (by omega) (by simp)]
 simp
theorem acV (a:List Int)(ha:(iK jC) a):CU a=some a:=by
 have hm:a.length≤1048576:=ha.1
 unfold CU
 rw[zg (by omega) (by omega),Option.bind_some,sH (L:=uO a) (g:=some) (h:=id) (fun _ _=>rfl) (fun x=>by rw[Ro,om]<;>rfl) (by omega) (by simp)]
 simp
theorem aaH (x:State)(hx:mE x):tU x=some x:=by
 unfold tU
 simp only[I1 x.Facts hx.2.1,aaG x.Duties hx.2.2.1,acV x.Balances hx.2.2.2.1,Option.bind_some]
theorem QH (a:List Int)(ha:(iK jC) a):tS a a=some true:=by
 have hm:a.length≤1048576:=ha.1
 unfold tS
 rw[bne_self_eq_false,cond_false,vA (a:=a) (L:=uz a a) (p:=(fun e f=>some (e==f))) (fun x _=>by rw[beq_self_eq_true]) (fun x=>by rw[Rf,oa]<;>rfl) (by omega)]
 rfl
theorem Ii (a:List ae)(ha:(iK o7) a):xE a a=some true:=by
 have hm:a.length≤1048576:=ha.1
 unfold xE
 rw[bne_self_eq_false,cond_false,vA (a:=a) (L:=uA a a) (p:=(fun e f=>some (e==f))) (fun x _=>by rw[beq_self_eq_true]) (fun x=>by rw[Rg,ob]<;>rfl) (by omega)]
 rfl
theorem JS (a:List Condition)(ha:iK cy a)(ih:∀y∈a,cy y→Ca y y=some true):xC (aJ qH) a a=some true:=by
 have hm:a.length≤1048576:=ha.1
 unfold xC
 rw[bne_self_eq_false,cond_false,vA (a:=a) (L:=rQ (aJ qH) a a) (p:=fun e f=>Ca e f) (fun x hx=>ih x hx (ha.2 x hx)) (fun x=>by rw[Rc,lM]<;>rfl) (by omega)]
 rfl
theorem NY (x:Condition):cy x→Ca x x=some true:=by
 refine gm (P:=fun x=>cy x→Ca x x=some true) ?_ x
 intro x ih hx
 rw[gy] at hx
 rw[abv]
 unfold uu
 simp[JS x.Parts hx.2.2.2.1 ih]
theorem WR (x:Clause)(hx:gR x):xz x x=some true:=by
 unfold xz
 simp[NY x.When hx.2.2.2.2.2.2.1]
theorem Sc (a:List Clause)(ha:(iK gR) a):B8 a a=some true:=by
 have hm:a.length≤1048576:=ha.1
 unfold B8
 rw[bne_self_eq_false,cond_false,vA (a:=a) (L:=ut a a) (p:=(fun e f=>xz e f)) (fun x hx=>WR x (ha.2 x hx)) (fun x=>by rw[Rb,nY]<;>rfl) (by omega)]
 rfl
theorem P5 (x:Contract)(hx:fH x):Cd x x=some true:=by
 unfold Cd
 simp[Ii x.Parties hx.1,Sc x.Clauses hx.2]
theorem acp (x:Duty)(hx:qm x):xD x x=some true:=by
 unfold xD
 simp[]
theorem Z3 (a:List Duty)(ha:(iK qm) a):Cg a a=some true:=by
 have hm:a.length≤1048576:=ha.1
 unfold Cg
 rw[bne_self_eq_false,cond_false,vA (a:=a) (L:=uw a a) (p:=(fun e f=>xD e f)) (fun x hx=>acp x (ha.2 x hx)) (fun x=>by rw[Re,nZ]<;>rfl) (by omega)]
 rfl
theorem Z4 (x:State)(hx:mE x):Cj x x=some true:=by
 unfold Cj
 simp[Ii x.Facts hx.2.1,Z3 x.Duties hx.2.2.1,QH x.Balances hx.2.2.2.1]
end Go.Ln
