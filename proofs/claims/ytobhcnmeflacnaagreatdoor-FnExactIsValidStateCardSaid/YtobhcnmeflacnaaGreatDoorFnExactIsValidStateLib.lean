/-
  What the helpers of the laws do: sizes, copies, comparisons.
-/
import Derived.Test.YtobhcnmeflacnaaGreatDoorFnExactIsValidStateFun
set_option maxHeartbeats 4000000
set_option linter.unusedVariables false
set_option linter.unusedSimpArgs false
set_option maxRecDepth 100000
namespace Go.Ln
open Go
mutual
def bf:Condition→Nat
 | ⟨_,_,_,a3⟩=>1+aE a3
def aE:List Condition→Nat
 | []=>0
 | x::xs=>bf x+aE xs
end
theorem eA (x:Condition):bf x=1+aE x.Parts:=by cases x;simp only[bf]
theorem fW:∀a,aE a=a.length+(a.map fun x=>aE x.Parts).sum
 | []=>rfl
 | x::xs=>by simp only[aE,eA,fW xs,List.length_cons,List.map_cons,List.sum_cons];omega
mutual
def bw:Condition→Prop
 | ⟨a0,a1,a2,a3⟩=>gB a0∧kJ a1∧gB a2∧(a3.length≤1048576∧iq a3)∧aE a3≤1048576
def iq:List Condition→Prop
 | []=>True
 | x::xs=>bw x∧iq xs
end
theorem nB:∀xs,iq xs↔∀x∈xs,bw x
 | []=>by simp[iq]
 | x::xs=>by simp[iq,nB xs]
theorem eY (x:Condition):bw x↔gB x.Op∧kJ x.Name∧gB x.Day∧gb bw x.Parts∧aE x.Parts≤1048576:=by cases x;simp only[bw,nB,gb]
theorem eJ {P:Condition→Prop}(h:∀x,(∀y∈x.Parts,P y)→P x):∀x,P x:=by
 have key:∀(N:Nat) (x:Condition),SizeOf.sizeOf x<N→P x:=by
  intro N
  induction N with
  | zero=>intro x hx;omega
  | succ N ih=>
   intro x hx
   refine h x fun y hy=>ih y ?_
   cases x
   have:=List.sizeOf_lt_of_mem hy
   simp at this hx
   omega
 exact fun x=>key _ x (Nat.lt_succ_self _)
def fu (x:Clause):Prop:=kJ x.Id∧gB x.Kind∧gB x.Party∧kJ x.Action∧gB x.Other∧gB x.Amount∧bw x.When∧gB x.Within∧kJ x.Repair
def ec (x:Contract):Prop:=(gb kJ) x.Parties∧(gb fu) x.Clauses
def mA (x:Duty):Prop:=gB x.Clause∧gB x.Since∧gB x.Due∧gB x.Status
def mC (x:State):Prop:=gB x.Day∧(gb kJ) x.Facts∧(gb mA) x.Duties∧(gb gB) x.Balances∧Xk x.Over
theorem CC (a:List ae)(ha:(pz CK) a){l:Int}(h0:0≤l)(h1:l≤1048576):∃r,tH a l=some r∧(r<0∨(0≤r∧r≤l∧(gb kJ) a)):=by
 have hm:a.length≤9223372036854775807:=ha.1
 unfold tH
 rw[iH h0 (by omega) hm]
 by_cases k:l - (a.length:Int)<0
 ·rw[decide_eq_true k,cond_true]
  exact⟨_,rfl,.inl (by decide)⟩
 rw[decide_eq_false k,cond_false]
 have hs:∀x∈a,∀l:Int,0≤l→l≤1048576→∃r,(fun e l=>some (ar (l - len e))) x l=some r∧(r<0∨(0≤r∧r≤l∧kJ x)):=by
  intro x hx l h0 h1
  have hx:=ha.2 x hx
  refine⟨_,rfl,?_⟩
  rw[iH h0 (by omega) hx]
  by_cases k:l - (x.length:Int)<0
  ·exact .inl k
  ·exact .inr ⟨by omega,by omega,by show x.length≤1048576;omega⟩
 obtain⟨y,hy,q⟩:=OG (L:=ql a l) (a:=a) (s:=fun e l=>some (ar (l - len e))) (ok:=kJ) (M:=1048576) (by decide) hs (fun x=>by rw[J5,kQ]<;>rfl) (by omega) (l:=l - (a.length:Int)) (by omega) (by omega)
 rw[hy]
 rcases q with rfl | ⟨r,rfl,q1,q2,q3⟩
 ·exact⟨_,rfl,.inl (by decide)⟩
 ·exact⟨_,rfl,.inr ⟨q1,by omega,by omega,q3⟩⟩
theorem DL (a:List Condition)(ha:pz mn a)(ih:∀y∈a,mn y→∀l:Int,0≤l→l≤1048576→∃r,tI y l=some r∧(r<0∨(0≤r∧r+((aE y.Parts:Nat):Int)≤l∧bw y))){l:Int}(h0:0≤l)(h1:l≤1048576) :
  ∃r,uk (aJ mO) a l=some r∧(r<0∨(0≤r∧r+((aE a:Nat):Int)≤l∧gb bw a)):=by
 have hm:a.length≤9223372036854775807:=ha.1
 unfold uk
 rw[iH h0 (by omega) hm]
 by_cases k:l - (a.length:Int)<0
 ·rw[decide_eq_true k,cond_true]
  exact⟨_,rfl,.inl (by decide)⟩
 rw[decide_eq_false k,cond_false]
 obtain⟨y,hy,q⟩:=TB (L:=nX (aJ mO) a l) (a:=a) (s:=fun e l=>tI e l) (w:=fun x=>aE x.Parts) (ok:=bw) (M:=1048576) (by decide) (fun x hx l h0 h1=>ih x hx (ha.2 x hx) l h0 h1) (fun x=>by rw[Ly,jB]<;>rfl) (by omega) (l:=l - (a.length:Int)) (by omega) (by omega)
 rw[hy]
 rcases q with rfl | ⟨r,rfl,q1,q2,q3⟩
 ·exact⟨_,rfl,.inl (by decide)⟩
 ·exact⟨_,rfl,.inr ⟨q1,by rw[fW];omega,by show a.length≤1048576;omega,q3⟩⟩
theorem EW (x:Condition):mn x→∀l:Int,0≤l→l≤1048576→∃r,tI x l=some r∧(r<0∨(0≤r∧r+((aE x.Parts:Nat):Int)≤l∧bw x)):=by
 refine eJ (P:=fun x=>mn x→∀l:Int,0≤l→l≤1048576→∃r,tI x l=some r∧(r<0∨(0≤r∧r+((aE x.Parts:Nat):Int)≤l∧bw x))) ?_ x
 intro x ih hx l h0 h1
 rw[HB] at hx
 rw[Tq]
 unfold qm
 have m1:x.Name.length≤9223372036854775807:=hx.2.1
 rw[iH (l:=l) (by omega) (by omega) m1]
 by_cases k1:l - (x.Name.length:Int)<0
 ·rw[decide_eq_true k1,cond_true]
  exact⟨_,rfl,.inl (by decide)⟩
 rw[decide_eq_false k1,cond_false]
 obtain⟨r3,e3,q3⟩:=DL x.Parts hx.2.2.2 ih (l:=(l - (x.Name.length:Int))) (by omega) (by omega)
 rw[e3,Option.bind_some]
 rcases q3 with q3 | ⟨q3,p3,s3⟩
 ·rw[decide_eq_true q3,cond_true]
  exact⟨_,rfl,.inl (by decide)⟩
 rw[decide_eq_false (by omega),cond_false]
 exact⟨_,rfl,.inr ⟨by omega,by omega,(eY x).2 ⟨(by simp[gB]),(by show x.Name.length≤1048576;omega),(by simp[gB]),s3,by omega⟩⟩⟩
theorem G5 (x:Condition)(hx:mn x){l:Int}(h0:0≤l)(h1:l≤1048576):∃r,tI x l=some r∧(r<0∨(0≤r∧r≤l∧bw x)):=by
 obtain⟨r,h,q⟩:=EW x hx l h0 h1
 exact⟨r,h,q.imp id fun⟨q1,q2,q3⟩=>⟨q1,by omega,q3⟩⟩
theorem NU (x:Clause)(hx:o7 x){l:Int}(h0:0≤l)(h1:l≤1048576):∃r,sb x l=some r∧(r<0∨(0≤r∧r≤l∧fu x)):=by
 unfold sb
 have m0:x.Id.length≤9223372036854775807:=hx.1
 rw[iH (l:=l) (by omega) (by omega) m0]
 by_cases k0:l - (x.Id.length:Int)<0
 ·rw[decide_eq_true k0,cond_true]
  exact⟨_,rfl,.inl (by decide)⟩
 rw[decide_eq_false k0,cond_false]
 have m3:x.Action.length≤9223372036854775807:=hx.2.2.2.1
 rw[iH (l:=(l - (x.Id.length:Int))) (by omega) (by omega) m3]
 by_cases k3:(l - (x.Id.length:Int)) - (x.Action.length:Int)<0
 ·rw[decide_eq_true k3,cond_true]
  exact⟨_,rfl,.inl (by decide)⟩
 rw[decide_eq_false k3,cond_false]
 obtain⟨r6,e6,q6⟩:=G5 x.When hx.2.2.2.2.2.2.1 (l:=((l - (x.Id.length:Int)) - (x.Action.length:Int))) (by omega) (by omega)
 rw[e6,Option.bind_some]
 rcases q6 with q6 | ⟨q6,p6,s6⟩
 ·rw[decide_eq_true q6,cond_true]
  exact⟨_,rfl,.inl (by decide)⟩
 rw[decide_eq_false (by omega),cond_false]
 have m8:x.Repair.length≤9223372036854775807:=hx.2.2.2.2.2.2.2.2
 rw[iH (l:=r6) (by omega) (by omega) m8]
 by_cases k8:r6 - (x.Repair.length:Int)<0
 ·rw[decide_eq_true k8,cond_true]
  exact⟨_,rfl,.inl (by decide)⟩
 rw[decide_eq_false k8,cond_false]
 exact⟨_,rfl,.inr ⟨by omega,by omega,(by show x.Id.length≤1048576;omega),(by simp[gB]),(by simp[gB]),(by show x.Action.length≤1048576;omega),(by simp[gB]),(by simp[gB]),s6,(by simp[gB]),(by show x.Repair.length≤1048576;omega)⟩⟩
theorem Lr (a:List Clause)(ha:(pz o7) a){l:Int}(h0:0≤l)(h1:l≤1048576):∃r,xP a l=some r∧(r<0∨(0≤r∧r≤l∧(gb fu) a)):=by
 have hm:a.length≤9223372036854775807:=ha.1
 unfold xP
 rw[iH h0 (by omega) hm]
 by_cases k:l - (a.length:Int)<0
 ·rw[decide_eq_true k,cond_true]
  exact⟨_,rfl,.inl (by decide)⟩
 rw[decide_eq_false k,cond_false]
 have hs:∀x∈a,∀l:Int,0≤l→l≤1048576→∃r,(fun e l=>sb e l) x l=some r∧(r<0∨(0≤r∧r≤l∧fu x)):=by
  intro x hx l h0 h1
  exact NU x (ha.2 x hx) h0 h1
 obtain⟨y,hy,q⟩:=OG (L:=qf a l) (a:=a) (s:=fun e l=>sb e l) (ok:=fu) (M:=1048576) (by decide) hs (fun x=>by rw[KA,kI]<;>rfl) (by omega) (l:=l - (a.length:Int)) (by omega) (by omega)
 rw[hy]
 rcases q with rfl | ⟨r,rfl,q1,q2,q3⟩
 ·exact⟨_,rfl,.inl (by decide)⟩
 ·exact⟨_,rfl,.inr ⟨q1,by omega,by omega,q3⟩⟩
theorem Ii (x:Contract)(hx:QK x){l:Int}(h0:0≤l)(h1:l≤1048576):∃r,yG x l=some r∧(r<0∨(0≤r∧r≤l∧ec x)):=by
 unfold yG
 obtain⟨r0,e0,q0⟩:=CC x.Parties hx.1 (l:=l) (by omega) (by omega)
 rw[e0,Option.bind_some]
 rcases q0 with q0 | ⟨q0,p0,s0⟩
 ·rw[decide_eq_true q0,cond_true]
  exact⟨_,rfl,.inl (by decide)⟩
 rw[decide_eq_false (by omega),cond_false]
 obtain⟨r1,e1,q1⟩:=Lr x.Clauses hx.2 (l:=r0) (by omega) (by omega)
 rw[e1,Option.bind_some]
 rcases q1 with q1 | ⟨q1,p1,s1⟩
 ·rw[decide_eq_true q1,cond_true]
  exact⟨_,rfl,.inl (by decide)⟩
 rw[decide_eq_false (by omega),cond_false]
 exact⟨_,rfl,.inr ⟨by omega,by omega,s0,s1⟩⟩
theorem P9 (a:List Duty)(ha:(pz DF) a){l:Int}(h0:0≤l)(h1:l≤1048576):∃r,xL a l=some r∧(r<0∨(0≤r∧r≤l∧(gb mA) a)):=by
 have hm:a.length≤9223372036854775807:=ha.1
 unfold xL
 rw[iH h0 (by omega) hm]
 by_cases k:l - (a.length:Int)<0
 ·rw[decide_eq_true k,cond_true]
  exact⟨_,rfl,.inl (by decide)⟩
 rw[decide_eq_false k,cond_false]
 exact⟨_,rfl,.inr ⟨by omega,by omega,by omega,fun x _=>by simp[mA,gB]⟩⟩
theorem SG (a:List Int)(ha:(pz nm) a){l:Int}(h0:0≤l)(h1:l≤1048576):∃r,wQ a l=some r∧(r<0∨(0≤r∧r≤l∧(gb gB) a)):=by
 have hm:a.length≤9223372036854775807:=ha.1
 unfold wQ
 rw[iH h0 (by omega) hm]
 by_cases k:l - (a.length:Int)<0
 ·rw[decide_eq_true k,cond_true]
  exact⟨_,rfl,.inl (by decide)⟩
 rw[decide_eq_false k,cond_false]
 exact⟨_,rfl,.inr ⟨by omega,by omega,by omega,fun x _=>by simp[gB]⟩⟩
theorem Rj (x:State)(hx:wL x){l:Int}(h0:0≤l)(h1:l≤1048576):∃r,xy x l=some r∧(r<0∨(0≤r∧r≤l∧mC x)):=by
 unfold xy
 obtain⟨r1,e1,q1⟩:=CC x.Facts hx.2.1 (l:=l) (by omega) (by omega)
 rw[e1,Option.bind_some]
 rcases q1 with q1 | ⟨q1,p1,s1⟩
 ·rw[decide_eq_true q1,cond_true]
  exact⟨_,rfl,.inl (by decide)⟩
 rw[decide_eq_false (by omega),cond_false]
 obtain⟨r2,e2,q2⟩:=P9 x.Duties hx.2.2.1 (l:=r1) (by omega) (by omega)
 rw[e2,Option.bind_some]
 rcases q2 with q2 | ⟨q2,p2,s2⟩
 ·rw[decide_eq_true q2,cond_true]
  exact⟨_,rfl,.inl (by decide)⟩
 rw[decide_eq_false (by omega),cond_false]
 obtain⟨r3,e3,q3⟩:=SG x.Balances hx.2.2.2.1 (l:=r2) (by omega) (by omega)
 rw[e3,Option.bind_some]
 rcases q3 with q3 | ⟨q3,p3,s3⟩
 ·rw[decide_eq_true q3,cond_true]
  exact⟨_,rfl,.inl (by decide)⟩
 rw[decide_eq_false (by omega),cond_false]
 exact⟨_,rfl,.inr ⟨by omega,by omega,(by simp[gB]),s1,s2,s3,(by simp[Xk])⟩⟩
theorem AJ (a:List ae)(ha:(gb kJ) a):uh a=some a:=by
 have hm:a.length≤1048576:=ha.1
 unfold uh
 rw[ug (by omega) (by omega),Option.bind_some,oS (L:=qc a) (g:=some) (h:=id) (fun _ _=>rfl) (fun x=>by rw[KG,ly]<;>rfl) (by omega) (by simp)]
 simp
theorem Dt (a:List Condition)(ha:gb bw a)(ih:∀y∈a,bw y→wF y=some y):tu (aJ mP) a=some a:=by
 have hm:a.length≤1048576:=ha.1
 unfold tu
 rw[ug (by omega) (by omega),Option.bind_some,oS (L:=ob (aJ mP) a) (g:=fun e=>wF e) (h:=id) (fun x hx=>ih x hx (ha.2 x hx)) (fun x=>by rw[KW,jm]<;>rfl) (by omega) (by simp)]
 simp
theorem GQ (x:Condition):bw x→wF x=some x:=by
 refine eJ (P:=fun x=>bw x→wF x=some x) ?_ x
 intro x ih hx
 rw[eY] at hx
 rw[S8]
 unfold qT
 rw[Dt x.Parts hx.2.2.2.1 ih]
 cases x;rfl
theorem MK (x:Clause)(hx:fu x):tU x=some x:=by
 unfold tU
 simp only[GQ x.When hx.2.2.2.2.2.2.1,Option.bind_some]
theorem KT (a:List Clause)(ha:(gb fu) a):xO a=some a:=by
 have hm:a.length≤1048576:=ha.1
 unfold xO
 rw[ug (by omega) (by omega),Option.bind_some,oS (L:=qV a) (g:=(fun e=>tU e)) (h:=id) (fun x hx=>MK x (ha.2 x hx)) (fun x=>by rw[J2,la]<;>rfl) (by omega) (by simp)]
 simp
theorem IT (x:Contract)(hx:ec x):sd x=some x:=by
 unfold sd
 simp only[AJ x.Parties hx.1,KT x.Clauses hx.2,Option.bind_some]
theorem Tt (x:Duty)(hx:mA x):sW x=some x:=by
 unfold sW
 rfl
theorem RX (a:List Duty)(ha:(gb mA) a):xC a=some a:=by
 have hm:a.length≤1048576:=ha.1
 unfold xC
 rw[ug (by omega) (by omega),Option.bind_some,oS (L:=qX a) (g:=(fun e=>sW e)) (h:=id) (fun x hx=>Tt x (ha.2 x hx)) (fun x=>by rw[KI,lg]<;>rfl) (by omega) (by simp)]
 simp
theorem Tf (a:List Int)(ha:(gb gB) a):wM a=some a:=by
 have hm:a.length≤1048576:=ha.1
 unfold wM
 rw[ug (by omega) (by omega),Option.bind_some,oS (L:=qS a) (g:=some) (h:=id) (fun _ _=>rfl) (fun x=>by rw[K6,kX]<;>rfl) (by omega) (by simp)]
 simp
theorem QY (x:State)(hx:mC x):sr x=some x:=by
 unfold sr
 simp only[AJ x.Facts hx.2.1,RX x.Duties hx.2.2.1,Tf x.Balances hx.2.2.2.1,Option.bind_some]
theorem Ac (a:List ae)(ha:(gb kJ) a):uu a a=some true:=by
 have hm:a.length≤1048576:=ha.1
 unfold uu
 rw[bne_self_eq_false,cond_false,rd (a:=a) (L:=qK a a) (p:=(fun e f=>some (e==f))) (fun x _=>by rw[beq_self_eq_true]) (fun x=>by rw[Li,lx]<;>rfl) (by omega)]
 rfl
theorem DE (a:List Condition)(ha:gb bw a)(ih:∀y∈a,bw y→xo y y=some true):tq (aJ mR) a a=some true:=by
 have hm:a.length≤1048576:=ha.1
 unfold tq
 rw[bne_self_eq_false,cond_false,rd (a:=a) (L:=nV (aJ mR) a a) (p:=fun e f=>xo e f) (fun x hx=>ih x hx (ha.2 x hx)) (fun x=>by rw[KF,je]<;>rfl) (by omega)]
 rfl
theorem Gc (x:Condition):bw x→xo x x=some true:=by
 refine eJ (P:=fun x=>bw x→xo x x=some true) ?_ x
 intro x ih hx
 rw[eY] at hx
 rw[S9]
 unfold qy
 simp[DE x.Parts hx.2.2.2.1 ih]
theorem NS (x:Clause)(hx:fu x):tW x x=some true:=by
 unfold tW
 simp[Gc x.When hx.2.2.2.2.2.2.1]
theorem KD (a:List Clause)(ha:(gb fu) a):xw a a=some true:=by
 have hm:a.length≤1048576:=ha.1
 unfold xw
 rw[bne_self_eq_false,cond_false,rd (a:=a) (L:=qB a a) (p:=(fun e f=>tW e f)) (fun x hx=>NS x (ha.2 x hx)) (fun x=>by rw[JY,lq]<;>rfl) (by omega)]
 rfl
theorem II (x:Contract)(hx:ec x):xX x x=some true:=by
 unfold xX
 simp[Ac x.Parties hx.1,KD x.Clauses hx.2]
theorem SF (x:Duty)(hx:mA x):uM x x=some true:=by
 unfold uM
 simp[]
theorem Qb (a:List Duty)(ha:(gb mA) a):wV a a=some true:=by
 have hm:a.length≤1048576:=ha.1
 unfold wV
 rw[bne_self_eq_false,cond_false,rd (a:=a) (L:=qW a a) (p:=(fun e f=>uM e f)) (fun x hx=>SF x (ha.2 x hx)) (fun x=>by rw[Ko,kL]<;>rfl) (by omega)]
 rfl
theorem TN (a:List Int)(ha:(gb gB) a):yN a a=some true:=by
 have hm:a.length≤1048576:=ha.1
 unfold yN
 rw[bne_self_eq_false,cond_false,rd (a:=a) (L:=qZ a a) (p:=(fun e f=>some (e==f))) (fun x _=>by rw[beq_self_eq_true]) (fun x=>by rw[Kj,lr]<;>rfl) (by omega)]
 rfl
theorem QX (x:State)(hx:mC x):ye x x=some true:=by
 unfold ye
 simp[Ac x.Facts hx.2.1,Qb x.Duties hx.2.2.1,TN x.Balances hx.2.2.2.1]
end Go.Ln
