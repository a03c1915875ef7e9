/-
  What the helpers of the laws do: sizes, copies, comparisons.
-/
import Derived.Test.YtobhcnmeflacnaaGreatDoorFnExactHoldsNowFun
set_option maxHeartbeats 4000000
set_option linter.unusedVariables false
set_option linter.unusedSimpArgs false
set_option maxRecDepth 100000
namespace Go.Ln
open Go
mutual
def bn:Condition→Nat
 | ⟨_,_,_,a3⟩=>1+aJ a3
def aJ:List Condition→Nat
 | []=>0
 | x::xs=>bn x+aJ xs
end
theorem eR (x:Condition):bn x=1+aJ x.Parts:=by cases x;simp only[bn]
theorem gl:∀a,aJ a=a.length+(a.map fun x=>aJ x.Parts).sum
 | []=>rfl
 | x::xs=>by simp only[aJ,eR,gl xs,List.length_cons,List.map_cons,List.sum_cons];omega
mutual
def bF:Condition→Prop
 | ⟨a0,a1,a2,a3⟩=>gU a0∧lz a1∧gU a2∧(a3.length≤1048576∧iW a3)∧aJ a3≤1048576
def iW:List Condition→Prop
 | []=>True
 | x::xs=>bF x∧iW xs
end
theorem nT:∀xs,iW xs↔∀x∈xs,bF x
 | []=>by simp[iW]
 | x::xs=>by simp[iW,nT xs]
theorem fq (x:Condition):bF x↔gU x.Op∧lz x.Name∧gU x.Day∧gp bF x.Parts∧aJ x.Parts≤1048576:=by cases x;simp only[bF,nT,gp]
theorem eE {P:Condition→Prop}(h:∀x,(∀y∈x.Parts,P y)→P x):∀x,P x:=by
 have key:∀(N:Nat) (x:Condition),SizeOf.sizeOf x<N→P x:=by
  intro N
  induction N with
  | zero=>intro x hx;omega
  | succ N ih=>
   intro x hx
   refine h x fun y hy=>ih y ?_
   cases x
   have:=List.sizeOf_lt_of_mem hy
   simp at this hx
   omega
 exact fun x=>key _ x (Nat.lt_succ_self _)
def fE (x:Clause):Prop:=lz x.Id∧gU x.Kind∧gU x.Party∧lz x.Action∧gU x.Other∧gU x.Amount∧bF x.When∧gU x.Within∧lz x.Repair
def eg (x:Contract):Prop:=(gp lz) x.Parties∧(gp fE) x.Clauses
def mJ (x:Duty):Prop:=gU x.Clause∧gU x.Since∧gU x.Due∧gU x.Status
def gL (x:State):Prop:=gU x.Day∧(gp lz) x.Facts∧(gp mJ) x.Duties∧(gp gU) x.Balances∧ZA x.Over
theorem Bv (a:List ah)(ha:(pS Aq) a){l:Int}(h0:0≤l)(h1:l≤1048576):∃r,tN a l=some r∧(r<0∨(0≤r∧r≤l∧(gp lz) a)):=by
 have hm:a.length≤9223372036854775807:=ha.1
 unfold tN
 rw[je h0 (by omega) hm]
 by_cases k:l - (a.length:Int)<0
 ·rw[decide_eq_true k,cond_true]
  exact⟨_,rfl,.inl (by decide)⟩
 rw[decide_eq_false k,cond_false]
 have hs:∀x∈a,∀l:Int,0≤l→l≤1048576→∃r,(fun e l=>some (ar (l - len e))) x l=some r∧(r<0∨(0≤r∧r≤l∧lz x)):=by
  intro x hx l h0 h1
  have hx:=ha.2 x hx
  refine⟨_,rfl,?_⟩
  rw[je h0 (by omega) hx]
  by_cases k:l - (x.length:Int)<0
  ·exact .inl k
  ·exact .inr ⟨by omega,by omega,by show x.length≤1048576;omega⟩
 obtain⟨y,hy,q⟩:=PA (L:=rk a l) (a:=a) (s:=fun e l=>some (ar (l - len e))) (ok:=lz) (M:=1048576) (by decide) hs (fun x=>by rw[LU,lG]<;>rfl) (by omega) (l:=l - (a.length:Int)) (by omega) (by omega)
 rw[hy]
 rcases q with rfl | ⟨r,rfl,q1,q2,q3⟩
 ·exact⟨_,rfl,.inl (by decide)⟩
 ·exact⟨_,rfl,.inr ⟨q1,by omega,by omega,q3⟩⟩
theorem Fa (a:List Condition)(ha:pS mG a)(ih:∀y∈a,mG y→∀l:Int,0≤l→l≤1048576→∃r,uN y l=some r∧(r<0∨(0≤r∧r+((aJ y.Parts:Nat):Int)≤l∧bF y))){l:Int}(h0:0≤l)(h1:l≤1048576) :
  ∃r,tI (aE nD) a l=some r∧(r<0∨(0≤r∧r+((aJ a:Nat):Int)≤l∧gp bF a)):=by
 have hm:a.length≤9223372036854775807:=ha.1
 unfold tI
 rw[je h0 (by omega) hm]
 by_cases k:l - (a.length:Int)<0
 ·rw[decide_eq_true k,cond_true]
  exact⟨_,rfl,.inl (by decide)⟩
 rw[decide_eq_false k,cond_false]
 obtain⟨y,hy,q⟩:=VX (L:=oM (aE nD) a l) (a:=a) (s:=fun e l=>uN e l) (w:=fun x=>aJ x.Parts) (ok:=bF) (M:=1048576) (by decide) (fun x hx l h0 h1=>ih x hx (ha.2 x hx) l h0 h1) (fun x=>by rw[MD,jB]<;>rfl) (by omega) (l:=l - (a.length:Int)) (by omega) (by omega)
 rw[hy]
 rcases q with rfl | ⟨r,rfl,q1,q2,q3⟩
 ·exact⟨_,rfl,.inl (by decide)⟩
 ·exact⟨_,rfl,.inr ⟨q1,by rw[gl];omega,by show a.length≤1048576;omega,q3⟩⟩
theorem F6 (x:Condition):mG x→∀l:Int,0≤l→l≤1048576→∃r,uN x l=some r∧(r<0∨(0≤r∧r+((aJ x.Parts:Nat):Int)≤l∧bF x)):=by
 refine eE (P:=fun x=>mG x→∀l:Int,0≤l→l≤1048576→∃r,uN x l=some r∧(r<0∨(0≤r∧r+((aJ x.Parts:Nat):Int)≤l∧bF x))) ?_ x
 intro x ih hx l h0 h1
 rw[HE] at hx
 rw[VD]
 unfold qI
 have m1:x.Name.length≤9223372036854775807:=hx.2.1
 rw[je (l:=l) (by omega) (by omega) m1]
 by_cases k1:l - (x.Name.length:Int)<0
 ·rw[decide_eq_true k1,cond_true]
  exact⟨_,rfl,.inl (by decide)⟩
 rw[decide_eq_false k1,cond_false]
 obtain⟨r3,e3,q3⟩:=Fa x.Parts hx.2.2.2 ih (l:=(l - (x.Name.length:Int))) (by omega) (by omega)
 rw[e3,Option.bind_some]
 rcases q3 with q3 | ⟨q3,p3,s3⟩
 ·rw[decide_eq_true q3,cond_true]
  exact⟨_,rfl,.inl (by decide)⟩
 rw[decide_eq_false (by omega),cond_false]
 exact⟨_,rfl,.inr ⟨by omega,by omega,(fq x).2 ⟨(by simp[gU]),(by show x.Name.length≤1048576;omega),(by simp[gU]),s3,by omega⟩⟩⟩
theorem Jr (x:Condition)(hx:mG x){l:Int}(h0:0≤l)(h1:l≤1048576):∃r,uN x l=some r∧(r<0∨(0≤r∧r≤l∧bF x)):=by
 obtain⟨r,h,q⟩:=F6 x hx l h0 h1
 exact⟨r,h,q.imp id fun⟨q1,q2,q3⟩=>⟨q1,by omega,q3⟩⟩
theorem P2 (x:Clause)(hx:pZ x){l:Int}(h0:0≤l)(h1:l≤1048576):∃r,sU x l=some r∧(r<0∨(0≤r∧r≤l∧fE x)):=by
 unfold sU
 have m0:x.Id.length≤9223372036854775807:=hx.1
 rw[je (l:=l) (by omega) (by omega) m0]
 by_cases k0:l - (x.Id.length:Int)<0
 ·rw[decide_eq_true k0,cond_true]
  exact⟨_,rfl,.inl (by decide)⟩
 rw[decide_eq_false k0,cond_false]
 have m3:x.Action.length≤9223372036854775807:=hx.2.2.2.1
 rw[je (l:=(l - (x.Id.length:Int))) (by omega) (by omega) m3]
 by_cases k3:(l - (x.Id.length:Int)) - (x.Action.length:Int)<0
 ·rw[decide_eq_true k3,cond_true]
  exact⟨_,rfl,.inl (by decide)⟩
 rw[decide_eq_false k3,cond_false]
 obtain⟨r6,e6,q6⟩:=Jr x.When hx.2.2.2.2.2.2.1 (l:=((l - (x.Id.length:Int)) - (x.Action.length:Int))) (by omega) (by omega)
 rw[e6,Option.bind_some]
 rcases q6 with q6 | ⟨q6,p6,s6⟩
 ·rw[decide_eq_true q6,cond_true]
  exact⟨_,rfl,.inl (by decide)⟩
 rw[decide_eq_false (by omega),cond_false]
 have m8:x.Repair.length≤9223372036854775807:=hx.2.2.2.2.2.2.2.2
 rw[je (l:=r6) (by omega) (by omega) m8]
 by_cases k8:r6 - (x.Repair.length:Int)<0
 ·rw[decide_eq_true k8,cond_true]
  exact⟨_,rfl,.inl (by decide)⟩
 rw[decide_eq_false k8,cond_false]
 exact⟨_,rfl,.inr ⟨by omega,by omega,(by show x.Id.length≤1048576;omega),(by simp[gU]),(by simp[gU]),(by show x.Action.length≤1048576;omega),(by simp[gU]),(by simp[gU]),s6,(by simp[gU]),(by show x.Repair.length≤1048576;omega)⟩⟩
theorem Mp (a:List Clause)(ha:(pS pZ) a){l:Int}(h0:0≤l)(h1:l≤1048576):∃r,xY a l=some r∧(r<0∨(0≤r∧r≤l∧(gp fE) a)):=by
 have hm:a.length≤9223372036854775807:=ha.1
 unfold xY
 rw[je h0 (by omega) hm]
 by_cases k:l - (a.length:Int)<0
 ·rw[decide_eq_true k,cond_true]
  exact⟨_,rfl,.inl (by decide)⟩
 rw[decide_eq_false k,cond_false]
 have hs:∀x∈a,∀l:Int,0≤l→l≤1048576→∃r,(fun e l=>sU e l) x l=some r∧(r<0∨(0≤r∧r≤l∧fE x)):=by
  intro x hx l h0 h1
  exact P2 x (ha.2 x hx) h0 h1
 obtain⟨y,hy,q⟩:=PA (L:=qG a l) (a:=a) (s:=fun e l=>sU e l) (ok:=fE) (M:=1048576) (by decide) hs (fun x=>by rw[MO,lm]<;>rfl) (by omega) (l:=l - (a.length:Int)) (by omega) (by omega)
 rw[hy]
 rcases q with rfl | ⟨r,rfl,q1,q2,q3⟩
 ·exact⟨_,rfl,.inl (by decide)⟩
 ·exact⟨_,rfl,.inr ⟨q1,by omega,by omega,q3⟩⟩
theorem J5 (x:Contract)(hx:Rt x){l:Int}(h0:0≤l)(h1:l≤1048576):∃r,yy x l=some r∧(r<0∨(0≤r∧r≤l∧eg x)):=by
 unfold yy
 obtain⟨r0,e0,q0⟩:=Bv x.Parties hx.1 (l:=l) (by omega) (by omega)
 rw[e0,Option.bind_some]
 rcases q0 with q0 | ⟨q0,p0,s0⟩
 ·rw[decide_eq_true q0,cond_true]
  exact⟨_,rfl,.inl (by decide)⟩
 rw[decide_eq_false (by omega),cond_false]
 obtain⟨r1,e1,q1⟩:=Mp x.Clauses hx.2 (l:=r0) (by omega) (by omega)
 rw[e1,Option.bind_some]
 rcases q1 with q1 | ⟨q1,p1,s1⟩
 ·rw[decide_eq_true q1,cond_true]
  exact⟨_,rfl,.inl (by decide)⟩
 rw[decide_eq_false (by omega),cond_false]
 exact⟨_,rfl,.inr ⟨by omega,by omega,s0,s1⟩⟩
theorem TW (a:List Duty)(ha:(pS Fm) a){l:Int}(h0:0≤l)(h1:l≤1048576):∃r,xS a l=some r∧(r<0∨(0≤r∧r≤l∧(gp mJ) a)):=by
 have hm:a.length≤9223372036854775807:=ha.1
 unfold xS
 rw[je h0 (by omega) hm]
 by_cases k:l - (a.length:Int)<0
 ·rw[decide_eq_true k,cond_true]
  exact⟨_,rfl,.inl (by decide)⟩
 rw[decide_eq_false k,cond_false]
 exact⟨_,rfl,.inr ⟨by omega,by omega,by omega,fun x _=>by simp[mJ,gU]⟩⟩
theorem UY (a:List Int)(ha:(pS l4) a){l:Int}(h0:0≤l)(h1:l≤1048576):∃r,yA a l=some r∧(r<0∨(0≤r∧r≤l∧(gp gU) a)):=by
 have hm:a.length≤9223372036854775807:=ha.1
 unfold yA
 rw[je h0 (by omega) hm]
 by_cases k:l - (a.length:Int)<0
 ·rw[decide_eq_true k,cond_true]
  exact⟨_,rfl,.inl (by decide)⟩
 rw[decide_eq_false k,cond_false]
 exact⟨_,rfl,.inr ⟨by omega,by omega,by omega,fun x _=>by simp[gU]⟩⟩
theorem Sc (x:State)(hx:xI x){l:Int}(h0:0≤l)(h1:l≤1048576):∃r,zq x l=some r∧(r<0∨(0≤r∧r≤l∧gL x)):=by
 unfold zq
 obtain⟨r1,e1,q1⟩:=Bv x.Facts hx.2.1 (l:=l) (by omega) (by omega)
 rw[e1,Option.bind_some]
 rcases q1 with q1 | ⟨q1,p1,s1⟩
 ·rw[decide_eq_true q1,cond_true]
  exact⟨_,rfl,.inl (by decide)⟩
 rw[decide_eq_false (by omega),cond_false]
 obtain⟨r2,e2,q2⟩:=TW x.Duties hx.2.2.1 (l:=r1) (by omega) (by omega)
 rw[e2,Option.bind_some]
 rcases q2 with q2 | ⟨q2,p2,s2⟩
 ·rw[decide_eq_true q2,cond_true]
  exact⟨_,rfl,.inl (by decide)⟩
 rw[decide_eq_false (by omega),cond_false]
 obtain⟨r3,e3,q3⟩:=UY x.Balances hx.2.2.2.1 (l:=r2) (by omega) (by omega)
 rw[e3,Option.bind_some]
 rcases q3 with q3 | ⟨q3,p3,s3⟩
 ·rw[decide_eq_true q3,cond_true]
  exact⟨_,rfl,.inl (by decide)⟩
 rw[decide_eq_false (by omega),cond_false]
 exact⟨_,rfl,.inr ⟨by omega,by omega,(by simp[gU]),s1,s2,s3,(by simp[ZA])⟩⟩
theorem Ae (a:List ah)(ha:(gp lz) a):tY a=some a:=by
 have hm:a.length≤1048576:=ha.1
 unfold tY
 rw[vf (by omega) (by omega),Option.bind_some,pk (L:=rz a) (g:=some) (h:=id) (fun _ _=>rfl) (fun x=>by rw[Mv,lB]<;>rfl) (by omega) (by simp)]
 simp
theorem Fj (a:List Condition)(ha:gp bF a)(ih:∀y∈a,bF y→xQ y=some y):tT (aE nk) a=some a:=by
 have hm:a.length≤1048576:=ha.1
 unfold tT
 rw[vf (by omega) (by omega),Option.bind_some,pk (L:=oG (aE nk) a) (g:=fun e=>xQ e) (h:=id) (fun x hx=>ih x hx (ha.2 x hx)) (fun x=>by rw[Mj,jI]<;>rfl) (by omega) (by simp)]
 simp
theorem IH (x:Condition):bF x→xQ x=some x:=by
 refine eE (P:=fun x=>bF x→xQ x=some x) ?_ x
 intro x ih hx
 rw[fq] at hx
 rw[Vn]
 unfold rh
 rw[Fj x.Parts hx.2.2.2.1 ih]
 cases x;rfl
theorem OK (x:Clause)(hx:fE x):tP x=some x:=by
 unfold tP
 simp only[IH x.When hx.2.2.2.2.2.2.1,Option.bind_some]
theorem L7 (a:List Clause)(ha:(gp fE) a):zK a=some a:=by
 have hm:a.length≤1048576:=ha.1
 unfold zK
 rw[vf (by omega) (by omega),Option.bind_some,pk (L:=rH a) (g:=(fun e=>tP e)) (h:=id) (fun x hx=>OK x (ha.2 x hx)) (fun x=>by rw[Mh,lH]<;>rfl) (by omega) (by simp)]
 simp
theorem Kz (x:Contract)(hx:eg x):sk x=some x:=by
 unfold sk
 simp only[Ae x.Parties hx.1,L7 x.Clauses hx.2,Option.bind_some]
theorem VR (x:Duty)(hx:mJ x):vx x=some x:=by
 unfold vx
 rfl
theorem Tr (a:List Duty)(ha:(gp mJ) a):yM a=some a:=by
 have hm:a.length≤1048576:=ha.1
 unfold yM
 rw[vf (by omega) (by omega),Option.bind_some,pk (L:=qL a) (g:=(fun e=>vx e)) (h:=id) (fun x hx=>VR x (ha.2 x hx)) (fun x=>by rw[L9,lL]<;>rfl) (by omega) (by simp)]
 simp
theorem UZ (a:List Int)(ha:(gp gU) a):zj a=some a:=by
 have hm:a.length≤1048576:=ha.1
 unfold zj
 rw[vf (by omega) (by omega),Option.bind_some,pk (L:=qB a) (g:=some) (h:=id) (fun _ _=>rfl) (fun x=>by rw[Lw,lx]<;>rfl) (by omega) (by simp)]
 simp
theorem TL (x:State)(hx:gL x):sE x=some x:=by
 unfold sE
 simp only[Ae x.Facts hx.2.1,Tr x.Duties hx.2.2.1,UZ x.Balances hx.2.2.2.1,Option.bind_some]
theorem CG (a:List ah)(ha:(gp lz) a):uO a a=some true:=by
 have hm:a.length≤1048576:=ha.1
 unfold uO
 rw[bne_self_eq_false,cond_false,rE (a:=a) (L:=ro a a) (p:=(fun e f=>some (e==f))) (fun x _=>by rw[beq_self_eq_true]) (fun x=>by rw[LE,lh]<;>rfl) (by omega)]
 rfl
theorem EP (a:List Condition)(ha:gp bF a)(ih:∀y∈a,bF y→xN y y=some true):tF (aE no) a a=some true:=by
 have hm:a.length≤1048576:=ha.1
 unfold tF
 rw[bne_self_eq_false,cond_false,rE (a:=a) (L:=oJ (aE no) a a) (p:=fun e f=>xN e f) (fun x hx=>ih x hx (ha.2 x hx)) (fun x=>by rw[L5,jU]<;>rfl) (by omega)]
 rfl
theorem IB (x:Condition):bF x→xN x x=some true:=by
 refine eE (P:=fun x=>bF x→xN x x=some true) ?_ x
 intro x ih hx
 rw[fq] at hx
 rw[VI]
 unfold rl
 simp[EP x.Parts hx.2.2.2.1 ih]
theorem OP (x:Clause)(hx:fE x):vd x x=some true:=by
 unfold vd
 simp[IB x.When hx.2.2.2.2.2.2.1]
theorem LB (a:List Clause)(ha:(gp fE) a):zz a a=some true:=by
 have hm:a.length≤1048576:=ha.1
 unfold zz
 rw[bne_self_eq_false,cond_false,rE (a:=a) (L:=qw a a) (p:=(fun e f=>vd e f)) (fun x hx=>OP x (ha.2 x hx)) (fun x=>by rw[MB,lI]<;>rfl) (by omega)]
 rfl
theorem JS (x:Contract)(hx:eg x):zR x x=some true:=by
 unfold zR
 simp[CG x.Parties hx.1,LB x.Clauses hx.2]
theorem Wa (x:Duty)(hx:mJ x):vb x x=some true:=by
 unfold vb
 simp[]
theorem R7 (a:List Duty)(ha:(gp mJ) a):yp a a=some true:=by
 have hm:a.length≤1048576:=ha.1
 unfold yp
 rw[bne_self_eq_false,cond_false,rE (a:=a) (L:=qX a a) (p:=(fun e f=>vb e f)) (fun x hx=>Wa x (ha.2 x hx)) (fun x=>by rw[MA,lM]<;>rfl) (by omega)]
 rfl
theorem V4 (a:List Int)(ha:(gp gU) a):xu a a=some true:=by
 have hm:a.length≤1048576:=ha.1
 unfold xu
 rw[bne_self_eq_false,cond_false,rE (a:=a) (L:=qO a a) (p:=(fun e f=>some (e==f))) (fun x _=>by rw[beq_self_eq_true]) (fun x=>by rw[Mx,lw]<;>rfl) (by omega)]
 rfl
theorem TY (x:State)(hx:gL x):yU x x=some true:=by
 unfold yU
 simp[CG x.Facts hx.2.1,R7 x.Duties hx.2.2.1,V4 x.Balances hx.2.2.2.1]
end Go.Ln
