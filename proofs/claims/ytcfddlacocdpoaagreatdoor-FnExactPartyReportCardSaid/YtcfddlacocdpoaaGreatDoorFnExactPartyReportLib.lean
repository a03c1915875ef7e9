/-
  What the helpers do.
-/
import Derived.Test.YtcfddlacocdpoaaGreatDoorFnExactPartyReportFun
set_option maxHeartbeats 4000000
set_option linter.unusedVariables false
set_option linter.unusedSimpArgs false
set_option maxRecDepth 100000
namespace Go.Ln
open Go
mutual
def bU:Condition→Nat
 | ⟨_,_,_,a3⟩=>1+bh a3
def bh:List Condition→Nat
 | []=>0
 | x::xs=>bU x+bh xs
end
theorem gC (x:Condition):bU x=1+bh x.Parts:=by cases x;simp only[bU]
theorem jb:∀a,bh a=a.length+(a.map fun x=>bh x.Parts).sum
 | []=>rfl
 | x::xs=>by simp only[bh,gC,jb xs,List.length_cons,List.map_cons,List.sum_cons];omega
mutual
def ct:Condition→Prop
 | ⟨a0,a1,a2,a3⟩=>jT a0∧oD a1∧jT a2∧(a3.length≤1048576∧lc a3)∧bh a3≤1048576
def lc:List Condition→Prop
 | []=>True
 | x::xs=>ct x∧lc xs
end
theorem qT:∀xs,lc xs↔∀x∈xs,ct x
 | []=>by simp[lc]
 | x::xs=>by simp[lc,qT xs]
theorem ie (x:Condition):ct x↔jT x.Op∧oD x.Name∧jT x.Day∧jh ct x.Parts∧bh x.Parts≤1048576:=by cases x;simp only[ct,qT,jh]
theorem gK {P:Condition→Prop}(h:∀x,(∀y∈x.Parts,P y)→P x):∀x,P x:=by
 have key:∀(N:Nat) (x:Condition),SizeOf.sizeOf x<N→P x:=by
  intro N
  induction N with
  | zero=>intro x hx;omega
  | succ N ih=>
   intro x hx
   refine h x fun y hy=>ih y ?_
   cases x
   have:=List.sizeOf_lt_of_mem hy
   simp at this hx
   omega
 exact fun x=>key _ x (Nat.lt_succ_self _)
def ix (x:Clause):Prop:=oD x.Id∧jT x.Kind∧jT x.Party∧oD x.Action∧jT x.Other∧jT x.Amount∧ct x.When∧jT x.Within∧oD x.Repair
def fA (x:Contract):Prop:=(jh oD) x.Parties∧(jh ix) x.Clauses
def pR (x:Duty):Prop:=jT x.Clause∧jT x.Since∧jT x.Due∧jT x.Status
def mp (x:State):Prop:=jT x.Day∧(jh oD) x.Facts∧(jh pR) x.Duties∧(jh jT) x.Balances∧smB x.Over
theorem Jc (a:List ac)(ha:(tj IU) a){l:Int}(h0:0≤l)(h1:l≤1048576):∃r,xk a l=some r∧(r<0∨(0≤r∧r≤l∧(jh oD) a)):=by
 have hm:a.length≤9223372036854775807:=ha.1
 unfold xk
 rw[eR h0 (by omega) hm]
 by_cases k:l - (a.length:Int)<0
 ·rw[decide_eq_true k,cond_true]
  exact⟨_,rfl,.inl (by decide)⟩
 rw[decide_eq_false k,cond_false]
 have hs:∀x∈a,∀l:Int,0≤l→l≤1048576→∃r,(fun e l=>some (ai (l - len e))) x l=some r∧(r<0∨(0≤r∧r≤l∧oD x)):=by
  intro x hx l h0 h1
  have hx:=ha.2 x hx
  refine⟨_,rfl,?_⟩
  rw[eR h0 (by omega) hx]
  by_cases k:l - (x.length:Int)<0
  ·exact .inl k
  ·exact .inr ⟨by omega,by omega,by show x.length≤1048576;omega⟩
 obtain⟨y,hy,q⟩:=X1 (L:=ub a l) (a:=a) (s:=fun e l=>some (ai (l - len e))) (ok:=oD) (M:=1048576) (by decide) hs (fun x=>by rw[RB,nK]<;>rfl) (by omega) (l:=l - (a.length:Int)) (by omega) (by omega)
 rw[hy]
 rcases q with rfl | ⟨r,rfl,q1,q2,q3⟩
 ·exact⟨_,rfl,.inl (by decide)⟩
 ·exact⟨_,rfl,.inr ⟨q1,by omega,by omega,q3⟩⟩
theorem Km (a:List Condition)(ha:tj pt a)(ih:∀y∈a,pt y→∀l:Int,0≤l→l≤1048576→∃r,xg y l=some r∧(r<0∨(0≤r∧r+((bh y.Parts:Nat):Int)≤l∧ct y))){l:Int}(h0:0≤l)(h1:l≤1048576) :
  ∃r,xj (aN qn) a l=some r∧(r<0∨(0≤r∧r+((bh a:Nat):Int)≤l∧jh ct a)):=by
 have hm:a.length≤9223372036854775807:=ha.1
 unfold xj
 rw[eR h0 (by omega) hm]
 by_cases k:l - (a.length:Int)<0
 ·rw[decide_eq_true k,cond_true]
  exact⟨_,rfl,.inl (by decide)⟩
 rw[decide_eq_false k,cond_false]
 obtain⟨y,hy,q⟩:=adw (L:=rD (aN qn) a l) (a:=a) (s:=fun e l=>xg e l) (w:=fun x=>bh x.Parts) (ok:=ct) (M:=1048576) (by decide) (fun x hx l h0 h1=>ih x hx (ha.2 x hx) l h0 h1) (fun x=>by rw[RA,lN]<;>rfl) (by omega) (l:=l - (a.length:Int)) (by omega) (by omega)
 rw[hy]
 rcases q with rfl | ⟨r,rfl,q1,q2,q3⟩
 ·exact⟨_,rfl,.inl (by decide)⟩
 ·exact⟨_,rfl,.inr ⟨q1,by rw[jb];omega,by show a.length≤1048576;omega,q3⟩⟩
theorem Lx (x:Condition):pt x→∀l:Int,0≤l→l≤1048576→∃r,xg x l=some r∧(r<0∨(0≤r∧r+((bh x.Parts:Nat):Int)≤l∧ct x)):=by
 refine gK (P:=fun x=>pt x→∀l:Int,0≤l→l≤1048576→∃r,xg x l=some r∧(r<0∨(0≤r∧r+((bh x.Parts:Nat):Int)≤l∧ct x))) ?_ x
 intro x ih hx l h0 h1
 rw[MY] at hx
 rw[ab7]
 unfold ua
 have m1:x.Name.length≤9223372036854775807:=hx.2.1
 rw[eR (l:=l) (by omega) (by omega) m1]
 by_cases k1:l - (x.Name.length:Int)<0
 ·rw[decide_eq_true k1,cond_true]
  exact⟨_,rfl,.inl (by decide)⟩
 rw[decide_eq_false k1,cond_false]
 obtain⟨r3,e3,q3⟩:=Km x.Parts hx.2.2.2 ih (l:=(l - (x.Name.length:Int))) (by omega) (by omega)
 rw[e3,Option.bind_some]
 rcases q3 with q3 | ⟨q3,p3,s3⟩
 ·rw[decide_eq_true q3,cond_true]
  exact⟨_,rfl,.inl (by decide)⟩
 rw[decide_eq_false (by omega),cond_false]
 exact⟨_,rfl,.inr ⟨by omega,by omega,(ie x).2 ⟨(by simp[jT]),(by show x.Name.length≤1048576;omega),(by simp[jT]),s3,by omega⟩⟩⟩
theorem O5 (x:Condition)(hx:pt x){l:Int}(h0:0≤l)(h1:l≤1048576):∃r,xg x l=some r∧(r<0∨(0≤r∧r≤l∧ct x)):=by
 obtain⟨r,h,q⟩:=Lx x hx l h0 h1
 exact⟨r,h,q.imp id fun⟨q1,q2,q3⟩=>⟨q1,by omega,q3⟩⟩
theorem X2 (x:Clause)(hx:tk x){l:Int}(h0:0≤l)(h1:l≤1048576):∃r,vz x l=some r∧(r<0∨(0≤r∧r≤l∧ix x)):=by
 unfold vz
 have m0:x.Id.length≤9223372036854775807:=hx.1
 rw[eR (l:=l) (by omega) (by omega) m0]
 by_cases k0:l - (x.Id.length:Int)<0
 ·rw[decide_eq_true k0,cond_true]
  exact⟨_,rfl,.inl (by decide)⟩
 rw[decide_eq_false k0,cond_false]
 have m3:x.Action.length≤9223372036854775807:=hx.2.2.2.1
 rw[eR (l:=(l - (x.Id.length:Int))) (by omega) (by omega) m3]
 by_cases k3:(l - (x.Id.length:Int)) - (x.Action.length:Int)<0
 ·rw[decide_eq_true k3,cond_true]
  exact⟨_,rfl,.inl (by decide)⟩
 rw[decide_eq_false k3,cond_false]
 obtain⟨r6,e6,q6⟩:=O5 x.When hx.2.2.2.2.2.2.1 (l:=((l - (x.Id.length:Int)) - (x.Action.length:Int))) (by omega) (by omega)
 rw[e6,Option.bind_some]
 rcases q6 with q6 | ⟨q6,p6,s6⟩
 ·rw[decide_eq_true q6,cond_true]
  exact⟨_,rfl,.inl (by decide)⟩
 rw[decide_eq_false (by omega),cond_false]
 have m8:x.Repair.length≤9223372036854775807:=hx.2.2.2.2.2.2.2.2
 rw[eR (l:=r6) (by omega) (by omega) m8]
 by_cases k8:r6 - (x.Repair.length:Int)<0
 ·rw[decide_eq_true k8,cond_true]
  exact⟨_,rfl,.inl (by decide)⟩
 rw[decide_eq_false k8,cond_false]
 exact⟨_,rfl,.inr ⟨by omega,by omega,(by show x.Id.length≤1048576;omega),(by simp[jT]),(by simp[jT]),(by show x.Action.length≤1048576;omega),(by simp[jT]),(by simp[jT]),s6,(by simp[jT]),(by show x.Repair.length≤1048576;omega)⟩⟩
theorem S1 (a:List Clause)(ha:(tj tk) a){l:Int}(h0:0≤l)(h1:l≤1048576):∃r,Co a l=some r∧(r<0∨(0≤r∧r≤l∧(jh ix) a)):=by
 have hm:a.length≤9223372036854775807:=ha.1
 unfold Co
 rw[eR h0 (by omega) hm]
 by_cases k:l - (a.length:Int)<0
 ·rw[decide_eq_true k,cond_true]
  exact⟨_,rfl,.inl (by decide)⟩
 rw[decide_eq_false k,cond_false]
 have hs:∀x∈a,∀l:Int,0≤l→l≤1048576→∃r,(fun e l=>vz e l) x l=some r∧(r<0∨(0≤r∧r≤l∧ix x)):=by
  intro x hx l h0 h1
  exact X2 x (ha.2 x hx) h0 h1
 obtain⟨y,hy,q⟩:=X1 (L:=tZ a l) (a:=a) (s:=fun e l=>vz e l) (ok:=ix) (M:=1048576) (by decide) hs (fun x=>by rw[Rz,nJ]<;>rfl) (by omega) (l:=l - (a.length:Int)) (by omega) (by omega)
 rw[hy]
 rcases q with rfl | ⟨r,rfl,q1,q2,q3⟩
 ·exact⟨_,rfl,.inl (by decide)⟩
 ·exact⟨_,rfl,.inr ⟨q1,by omega,by omega,q3⟩⟩
theorem Qt (x:Contract)(hx:YY x){l:Int}(h0:0≤l)(h1:l≤1048576):∃r,Ct x l=some r∧(r<0∨(0≤r∧r≤l∧fA x)):=by
 unfold Ct
 obtain⟨r0,e0,q0⟩:=Jc x.Parties hx.1 (l:=l) (by omega) (by omega)
 rw[e0,Option.bind_some]
 rcases q0 with q0 | ⟨q0,p0,s0⟩
 ·rw[decide_eq_true q0,cond_true]
  exact⟨_,rfl,.inl (by decide)⟩
 rw[decide_eq_false (by omega),cond_false]
 obtain⟨r1,e1,q1⟩:=S1 x.Clauses hx.2 (l:=r0) (by omega) (by omega)
 rw[e1,Option.bind_some]
 rcases q1 with q1 | ⟨q1,p1,s1⟩
 ·rw[decide_eq_true q1,cond_true]
  exact⟨_,rfl,.inl (by decide)⟩
 rw[decide_eq_false (by omega),cond_false]
 exact⟨_,rfl,.inr ⟨by omega,by omega,s0,s1⟩⟩
theorem aa5 (a:List Duty)(ha:(tj Kf) a){l:Int}(h0:0≤l)(h1:l≤1048576):∃r,Cw a l=some r∧(r<0∨(0≤r∧r≤l∧(jh pR) a)):=by
 have hm:a.length≤9223372036854775807:=ha.1
 unfold Cw
 rw[eR h0 (by omega) hm]
 by_cases k:l - (a.length:Int)<0
 ·rw[decide_eq_true k,cond_true]
  exact⟨_,rfl,.inl (by decide)⟩
 rw[decide_eq_false k,cond_false]
 exact⟨_,rfl,.inr ⟨by omega,by omega,by omega,fun x _=>by simp[pR,jT]⟩⟩
theorem adx (a:List Int)(ha:(tj oP) a){l:Int}(h0:0≤l)(h1:l≤1048576):∃r,Cy a l=some r∧(r<0∨(0≤r∧r≤l∧(jh jT) a)):=by
 have hm:a.length≤9223372036854775807:=ha.1
 unfold Cy
 rw[eR h0 (by omega) hm]
 by_cases k:l - (a.length:Int)<0
 ·rw[decide_eq_true k,cond_true]
  exact⟨_,rfl,.inl (by decide)⟩
 rw[decide_eq_false k,cond_false]
 exact⟨_,rfl,.inr ⟨by omega,by omega,by omega,fun x _=>by simp[jT]⟩⟩
theorem aa6 (x:State)(hx:D4 x){l:Int}(h0:0≤l)(h1:l≤1048576):∃r,CA x l=some r∧(r<0∨(0≤r∧r≤l∧mp x)):=by
 unfold CA
 obtain⟨r1,e1,q1⟩:=Jc x.Facts hx.2.1 (l:=l) (by omega) (by omega)
 rw[e1,Option.bind_some]
 rcases q1 with q1 | ⟨q1,p1,s1⟩
 ·rw[decide_eq_true q1,cond_true]
  exact⟨_,rfl,.inl (by decide)⟩
 rw[decide_eq_false (by omega),cond_false]
 obtain⟨r2,e2,q2⟩:=aa5 x.Duties hx.2.2.1 (l:=r1) (by omega) (by omega)
 rw[e2,Option.bind_some]
 rcases q2 with q2 | ⟨q2,p2,s2⟩
 ·rw[decide_eq_true q2,cond_true]
  exact⟨_,rfl,.inl (by decide)⟩
 rw[decide_eq_false (by omega),cond_false]
 obtain⟨r3,e3,q3⟩:=adx x.Balances hx.2.2.2.1 (l:=r2) (by omega) (by omega)
 rw[e3,Option.bind_some]
 rcases q3 with q3 | ⟨q3,p3,s3⟩
 ·rw[decide_eq_true q3,cond_true]
  exact⟨_,rfl,.inl (by decide)⟩
 rw[decide_eq_false (by omega),cond_false]
 exact⟨_,rfl,.inr ⟨by omega,by omega,(by simp[jT]),s1,s2,s3,(by simp[smB])⟩⟩
theorem Jf (a:List ac)(ha:(jh oD) a):xt a=some a:=by
 have hm:a.length≤1048576:=ha.1
 unfold xt
 rw[yO (by omega) (by omega),Option.bind_some,ss (L:=ui a) (g:=some) (h:=id) (fun _ _=>rfl) (fun x=>by rw[RG,nO]<;>rfl) (by omega) (by simp)]
 simp
theorem Kn (a:List Condition)(ha:jh ct a)(ih:∀y∈a,ct y→CF y=some y):xo (aN qo) a=some a:=by
 have hm:a.length≤1048576:=ha.1
 unfold xo
 rw[yO (by omega) (by omega),Option.bind_some,ss (L:=rE (aN qo) a) (g:=fun e=>CF e) (h:=id) (fun x hx=>ih x hx (ha.2 x hx)) (fun x=>by rw[RD,lO]<;>rfl) (by omega) (by simp)]
 simp
theorem O7 (x:Condition):ct x→CF x=some x:=by
 refine gK (P:=fun x=>ct x→CF x=some x) ?_ x
 intro x ih hx
 rw[ie] at hx
 rw[ab8]
 unfold ue
 rw[Kn x.Parts hx.2.2.2.1 ih]
 cases x;rfl
theorem X4 (x:Clause)(hx:ix x):xl x=some x:=by
 unfold xl
 simp only[O7 x.When hx.2.2.2.2.2.2.1,Option.bind_some]
theorem S6 (a:List Clause)(ha:(jh ix) a):CD a=some a:=by
 have hm:a.length≤1048576:=ha.1
 unfold CD
 rw[yO (by omega) (by omega),Option.bind_some,ss (L:=uc a) (g:=(fun e=>xl e)) (h:=id) (fun x hx=>X4 x (ha.2 x hx)) (fun x=>by rw[RC,nL]<;>rfl) (by omega) (by simp)]
 simp
theorem Qu (x:Contract)(hx:fA x):vB x=some x:=by
 unfold vB
 simp only[Jf x.Parties hx.1,S6 x.Clauses hx.2,Option.bind_some]
theorem ady (x:Duty)(hx:pR x):xq x=some x:=by
 unfold xq
 rfl
theorem aa7 (a:List Duty)(ha:(jh pR) a):CK a=some a:=by
 have hm:a.length≤1048576:=ha.1
 unfold CK
 rw[yO (by omega) (by omega),Option.bind_some,ss (L:=ug a) (g:=(fun e=>xq e)) (h:=id) (fun x hx=>ady x (ha.2 x hx)) (fun x=>by rw[RE,nM]<;>rfl) (by omega) (by simp)]
 simp
theorem adz (a:List Int)(ha:(jh jT) a):CM a=some a:=by
 have hm:a.length≤1048576:=ha.1
 unfold CM
 rw[yO (by omega) (by omega),Option.bind_some,ss (L:=uh a) (g:=some) (h:=id) (fun _ _=>rfl) (fun x=>by rw[RF,nN]<;>rfl) (by omega) (by simp)]
 simp
theorem aa8 (x:State)(hx:mp x):vC x=some x:=by
 unfold vC
 simp only[Jf x.Facts hx.2.1,aa7 x.Duties hx.2.2.1,adz x.Balances hx.2.2.2.1,Option.bind_some]
theorem Ix (a:List ac)(ha:(jh oD) a):xf a a=some true:=by
 have hm:a.length≤1048576:=ha.1
 unfold xf
 rw[bne_self_eq_false,cond_false,vb (a:=a) (L:=tY a a) (p:=(fun e f=>some (e==f))) (fun x _=>by rw[beq_self_eq_true]) (fun x=>by rw[Ry,nI]<;>rfl) (by omega)]
 rfl
theorem J8 (a:List Condition)(ha:jh ct a)(ih:∀y∈a,ct y→Ca y y=some true):xd (aN qm) a a=some true:=by
 have hm:a.length≤1048576:=ha.1
 unfold xd
 rw[bne_self_eq_false,cond_false,vb (a:=a) (L:=rC (aN qm) a a) (p:=fun e f=>Ca e f) (fun x hx=>ih x hx (ha.2 x hx)) (fun x=>by rw[Ru,lM]<;>rfl) (by omega)]
 rfl
theorem N7 (x:Condition):ct x→Ca x x=some true:=by
 refine gK (P:=fun x=>ct x→Ca x x=some true) ?_ x
 intro x ih hx
 rw[ie] at hx
 rw[ab5]
 unfold tV
 simp[J8 x.Parts hx.2.2.2.1 ih]
theorem Xb (x:Clause)(hx:ix x):xa x x=some true:=by
 unfold xa
 simp[N7 x.When hx.2.2.2.2.2.2.1]
theorem Sr (a:List Clause)(ha:(jh ix) a):B8 a a=some true:=by
 have hm:a.length≤1048576:=ha.1
 unfold B8
 rw[bne_self_eq_false,cond_false,vb (a:=a) (L:=tU a a) (p:=(fun e f=>xa e f)) (fun x hx=>Xb x (ha.2 x hx)) (fun x=>by rw[Rt,nF]<;>rfl) (by omega)]
 rfl
theorem Qe (x:Contract)(hx:fA x):Cd x x=some true:=by
 unfold Cd
 simp[Ix x.Parties hx.1,Sr x.Clauses hx.2]
theorem ac0 (x:Duty)(hx:pR x):xe x x=some true:=by
 unfold xe
 simp[]
theorem aau (a:List Duty)(ha:(jh pR) a):Cg a a=some true:=by
 have hm:a.length≤1048576:=ha.1
 unfold Cg
 rw[bne_self_eq_false,cond_false,vb (a:=a) (L:=tW a a) (p:=(fun e f=>xe e f)) (fun x hx=>ac0 x (ha.2 x hx)) (fun x=>by rw[Rv,nG]<;>rfl) (by omega)]
 rfl
theorem ac1 (a:List Int)(ha:(jh jT) a):Cj a a=some true:=by
 have hm:a.length≤1048576:=ha.1
 unfold Cj
 rw[bne_self_eq_false,cond_false,vb (a:=a) (L:=tX a a) (p:=(fun e f=>some (e==f))) (fun x _=>by rw[beq_self_eq_true]) (fun x=>by rw[Rx,nH]<;>rfl) (by omega)]
 rfl
theorem aav (x:State)(hx:mp x):Cl x x=some true:=by
 unfold Cl
 simp[Ix x.Facts hx.2.1,aau x.Duties hx.2.2.1,ac1 x.Balances hx.2.2.2.1]
end Go.Ln
