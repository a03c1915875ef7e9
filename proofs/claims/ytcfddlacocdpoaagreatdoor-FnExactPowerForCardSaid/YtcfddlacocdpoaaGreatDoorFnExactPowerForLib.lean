/-
  What the helpers do.
-/
import Derived.Test.YtcfddlacocdpoaaGreatDoorFnExactPowerForFun
set_option maxHeartbeats 4000000
set_option linter.unusedVariables false
set_option linter.unusedSimpArgs false
set_option maxRecDepth 100000
namespace Go.Ln
open Go
mutual
def bE:Condition→Nat
 | ⟨_,_,_,a3⟩=>1+aR a3
def aR:List Condition→Nat
 | []=>0
 | x::xs=>bE x+aR xs
end
theorem fQ (x:Condition):bE x=1+aR x.Parts:=by cases x;simp only[bE]
theorem hJ:∀a,aR a=a.length+(a.map fun x=>aR x.Parts).sum
 | []=>rfl
 | x::xs=>by simp only[aR,fQ,hJ xs,List.length_cons,List.map_cons,List.sum_cons];omega
mutual
def cb:Condition→Prop
 | ⟨a0,a1,a2,a3⟩=>iL a0∧mL a1∧iL a2∧(a3.length≤1048576∧jL a3)∧aR a3≤1048576
def jL:List Condition→Prop
 | []=>True
 | x::xs=>cb x∧jL xs
end
theorem pj:∀xs,jL xs↔∀x∈xs,cb x
 | []=>by simp[jL]
 | x::xs=>by simp[jL,pj xs]
theorem gl (x:Condition):cb x↔iL x.Op∧mL x.Name∧iL x.Day∧ib cb x.Parts∧aR x.Parts≤1048576:=by cases x;simp only[cb,pj,ib]
theorem fw {P:Condition→Prop}(h:∀x,(∀y∈x.Parts,P y)→P x):∀x,P x:=by
 have key:∀(N:Nat) (x:Condition),SizeOf.sizeOf x<N→P x:=by
  intro N
  induction N with
  | zero=>intro x hx;omega
  | succ N ih=>
   intro x hx
   refine h x fun y hy=>ih y ?_
   cases x
   have:=List.sizeOf_lt_of_mem hy
   simp at this hx
   omega
 exact fun x=>key _ x (Nat.lt_succ_self _)
def gF (x:Clause):Prop:=mL x.Id∧iL x.Kind∧iL x.Party∧mL x.Action∧iL x.Other∧iL x.Amount∧cb x.When∧iL x.Within∧mL x.Repair
def eL (x:Contract):Prop:=(ib mL) x.Parties∧(ib gF) x.Clauses
def oa (x:Duty):Prop:=iL x.Clause∧iL x.Since∧iL x.Due∧iL x.Status
def iI (x:State):Prop:=iL x.Day∧(ib mL) x.Facts∧(ib oa) x.Duties∧(ib iL) x.Balances∧smB x.Over
theorem FI (a:List aa)(ha:(qV wu) a){l:Int}(h0:0≤l)(h1:l≤1048576):∃r,vh a l=some r∧(r<0∨(0≤r∧r≤l∧(ib mL) a)):=by
 have hm:a.length≤9223372036854775807:=ha.1
 unfold vh
 rw[jZ h0 (by omega) hm]
 by_cases k:l - (a.length:Int)<0
 ·rw[decide_eq_true k,cond_true]
  exact⟨_,rfl,.inl (by decide)⟩
 rw[decide_eq_false k,cond_false]
 have hs:∀x∈a,∀l:Int,0≤l→l≤1048576→∃r,(fun e l=>some (az (l - len e))) x l=some r∧(r<0∨(0≤r∧r≤l∧mL x)):=by
  intro x hx l h0 h1
  have hx:=ha.2 x hx
  refine⟨_,rfl,?_⟩
  rw[jZ h0 (by omega) hx]
  by_cases k:l - (x.length:Int)<0
  ·exact .inl k
  ·exact .inr ⟨by omega,by omega,by show x.length≤1048576;omega⟩
 obtain⟨y,hy,q⟩:=Td (L:=rR a l) (a:=a) (s:=fun e l=>some (az (l - len e))) (ok:=mL) (M:=1048576) (by decide) hs (fun x=>by rw[Ni,ma]<;>rfl) (by omega) (l:=l - (a.length:Int)) (by omega) (by omega)
 rw[hy]
 rcases q with rfl | ⟨r,rfl,q1,q2,q3⟩
 ·exact⟨_,rfl,.inl (by decide)⟩
 ·exact⟨_,rfl,.inr ⟨q1,by omega,by omega,q3⟩⟩
theorem GO (a:List Condition)(ha:qV nO a)(ih:∀y∈a,nO y→∀l:Int,0≤l→l≤1048576→∃r,vc y l=some r∧(r<0∨(0≤r∧r+((aR y.Parts:Nat):Int)≤l∧cb y))){l:Int}(h0:0≤l)(h1:l≤1048576) :
  ∃r,vf (aM oG) a l=some r∧(r<0∨(0≤r∧r+((aR a:Nat):Int)≤l∧ib cb a)):=by
 have hm:a.length≤9223372036854775807:=ha.1
 unfold vf
 rw[jZ h0 (by omega) hm]
 by_cases k:l - (a.length:Int)<0
 ·rw[decide_eq_true k,cond_true]
  exact⟨_,rfl,.inl (by decide)⟩
 rw[decide_eq_false k,cond_false]
 obtain⟨y,hy,q⟩:=Ye (L:=pK (aM oG) a l) (a:=a) (s:=fun e l=>vc e l) (w:=fun x=>aR x.Parts) (ok:=cb) (M:=1048576) (by decide) (fun x hx l h0 h1=>ih x hx (ha.2 x hx) l h0 h1) (fun x=>by rw[Ng,kj]<;>rfl) (by omega) (l:=l - (a.length:Int)) (by omega) (by omega)
 rw[hy]
 rcases q with rfl | ⟨r,rfl,q1,q2,q3⟩
 ·exact⟨_,rfl,.inl (by decide)⟩
 ·exact⟨_,rfl,.inr ⟨q1,by rw[hJ];omega,by show a.length≤1048576;omega,q3⟩⟩
theorem HM (x:Condition):nO x→∀l:Int,0≤l→l≤1048576→∃r,vc x l=some r∧(r<0∨(0≤r∧r+((aR x.Parts:Nat):Int)≤l∧cb x)):=by
 refine fw (P:=fun x=>nO x→∀l:Int,0≤l→l≤1048576→∃r,vc x l=some r∧(r<0∨(0≤r∧r+((aR x.Parts:Nat):Int)≤l∧cb x))) ?_ x
 intro x ih hx l h0 h1
 rw[Jj] at hx
 rw[WU]
 unfold rO
 have m1:x.Name.length≤9223372036854775807:=hx.2.1
 rw[jZ (l:=l) (by omega) (by omega) m1]
 by_cases k1:l - (x.Name.length:Int)<0
 ·rw[decide_eq_true k1,cond_true]
  exact⟨_,rfl,.inl (by decide)⟩
 rw[decide_eq_false k1,cond_false]
 obtain⟨r3,e3,q3⟩:=GO x.Parts hx.2.2.2 ih (l:=(l - (x.Name.length:Int))) (by omega) (by omega)
 rw[e3,Option.bind_some]
 rcases q3 with q3 | ⟨q3,p3,s3⟩
 ·rw[decide_eq_true q3,cond_true]
  exact⟨_,rfl,.inl (by decide)⟩
 rw[decide_eq_false (by omega),cond_false]
 exact⟨_,rfl,.inr ⟨by omega,by omega,(gl x).2 ⟨(by simp[iL]),(by show x.Name.length≤1048576;omega),(by simp[iL]),s3,by omega⟩⟩⟩
theorem K9 (x:Condition)(hx:nO x){l:Int}(h0:0≤l)(h1:l≤1048576):∃r,vc x l=some r∧(r<0∨(0≤r∧r≤l∧cb x)):=by
 obtain⟨r,h,q⟩:=HM x hx l h0 h1
 exact⟨r,h,q.imp id fun⟨q1,q2,q3⟩=>⟨q1,by omega,q3⟩⟩
theorem Te (x:Clause)(hx:qX x){l:Int}(h0:0≤l)(h1:l≤1048576):∃r,tv x l=some r∧(r<0∨(0≤r∧r≤l∧gF x)):=by
 unfold tv
 have m0:x.Id.length≤9223372036854775807:=hx.1
 rw[jZ (l:=l) (by omega) (by omega) m0]
 by_cases k0:l - (x.Id.length:Int)<0
 ·rw[decide_eq_true k0,cond_true]
  exact⟨_,rfl,.inl (by decide)⟩
 rw[decide_eq_false k0,cond_false]
 have m3:x.Action.length≤9223372036854775807:=hx.2.2.2.1
 rw[jZ (l:=(l - (x.Id.length:Int))) (by omega) (by omega) m3]
 by_cases k3:(l - (x.Id.length:Int)) - (x.Action.length:Int)<0
 ·rw[decide_eq_true k3,cond_true]
  exact⟨_,rfl,.inl (by decide)⟩
 rw[decide_eq_false k3,cond_false]
 obtain⟨r6,e6,q6⟩:=K9 x.When hx.2.2.2.2.2.2.1 (l:=((l - (x.Id.length:Int)) - (x.Action.length:Int))) (by omega) (by omega)
 rw[e6,Option.bind_some]
 rcases q6 with q6 | ⟨q6,p6,s6⟩
 ·rw[decide_eq_true q6,cond_true]
  exact⟨_,rfl,.inl (by decide)⟩
 rw[decide_eq_false (by omega),cond_false]
 have m8:x.Repair.length≤9223372036854775807:=hx.2.2.2.2.2.2.2.2
 rw[jZ (l:=r6) (by omega) (by omega) m8]
 by_cases k8:r6 - (x.Repair.length:Int)<0
 ·rw[decide_eq_true k8,cond_true]
  exact⟨_,rfl,.inl (by decide)⟩
 rw[decide_eq_false k8,cond_false]
 exact⟨_,rfl,.inr ⟨by omega,by omega,(by show x.Id.length≤1048576;omega),(by simp[iL]),(by simp[iL]),(by show x.Action.length≤1048576;omega),(by simp[iL]),(by simp[iL]),s6,(by simp[iL]),(by show x.Repair.length≤1048576;omega)⟩⟩
theorem OD (a:List Clause)(ha:(qV qX) a){l:Int}(h0:0≤l)(h1:l≤1048576):∃r,zm a l=some r∧(r<0∨(0≤r∧r≤l∧(ib gF) a)):=by
 have hm:a.length≤9223372036854775807:=ha.1
 unfold zm
 rw[jZ h0 (by omega) hm]
 by_cases k:l - (a.length:Int)<0
 ·rw[decide_eq_true k,cond_true]
  exact⟨_,rfl,.inl (by decide)⟩
 rw[decide_eq_false k,cond_false]
 have hs:∀x∈a,∀l:Int,0≤l→l≤1048576→∃r,(fun e l=>tv e l) x l=some r∧(r<0∨(0≤r∧r≤l∧gF x)):=by
  intro x hx l h0 h1
  exact Te x (ha.2 x hx) h0 h1
 obtain⟨y,hy,q⟩:=Td (L:=rN a l) (a:=a) (s:=fun e l=>tv e l) (ok:=gF) (M:=1048576) (by decide) hs (fun x=>by rw[Nf,l9]<;>rfl) (by omega) (l:=l - (a.length:Int)) (by omega) (by omega)
 rw[hy]
 rcases q with rfl | ⟨r,rfl,q1,q2,q3⟩
 ·exact⟨_,rfl,.inl (by decide)⟩
 ·exact⟨_,rfl,.inr ⟨q1,by omega,by omega,q3⟩⟩
theorem Mh (x:Contract)(hx:T5 x){l:Int}(h0:0≤l)(h1:l≤1048576):∃r,zq x l=some r∧(r<0∨(0≤r∧r≤l∧eL x)):=by
 unfold zq
 obtain⟨r0,e0,q0⟩:=FI x.Parties hx.1 (l:=l) (by omega) (by omega)
 rw[e0,Option.bind_some]
 rcases q0 with q0 | ⟨q0,p0,s0⟩
 ·rw[decide_eq_true q0,cond_true]
  exact⟨_,rfl,.inl (by decide)⟩
 rw[decide_eq_false (by omega),cond_false]
 obtain⟨r1,e1,q1⟩:=OD x.Clauses hx.2 (l:=r0) (by omega) (by omega)
 rw[e1,Option.bind_some]
 rcases q1 with q1 | ⟨q1,p1,s1⟩
 ·rw[decide_eq_true q1,cond_true]
  exact⟨_,rfl,.inl (by decide)⟩
 rw[decide_eq_false (by omega),cond_false]
 exact⟨_,rfl,.inr ⟨by omega,by omega,s0,s1⟩⟩
theorem V5 (a:List Duty)(ha:(qV GH) a){l:Int}(h0:0≤l)(h1:l≤1048576):∃r,zt a l=some r∧(r<0∨(0≤r∧r≤l∧(ib oa) a)):=by
 have hm:a.length≤9223372036854775807:=ha.1
 unfold zt
 rw[jZ h0 (by omega) hm]
 by_cases k:l - (a.length:Int)<0
 ·rw[decide_eq_true k,cond_true]
  exact⟨_,rfl,.inl (by decide)⟩
 rw[decide_eq_false k,cond_false]
 exact⟨_,rfl,.inr ⟨by omega,by omega,by omega,fun x _=>by simp[oa,iL]⟩⟩
theorem Yf (a:List Int)(ha:(qV mW) a){l:Int}(h0:0≤l)(h1:l≤1048576):∃r,zw a l=some r∧(r<0∨(0≤r∧r≤l∧(ib iL) a)):=by
 have hm:a.length≤9223372036854775807:=ha.1
 unfold zw
 rw[jZ h0 (by omega) hm]
 by_cases k:l - (a.length:Int)<0
 ·rw[decide_eq_true k,cond_true]
  exact⟨_,rfl,.inl (by decide)⟩
 rw[decide_eq_false k,cond_false]
 exact⟨_,rfl,.inr ⟨by omega,by omega,by omega,fun x _=>by simp[iL]⟩⟩
theorem V6 (x:State)(hx:Bl x){l:Int}(h0:0≤l)(h1:l≤1048576):∃r,zy x l=some r∧(r<0∨(0≤r∧r≤l∧iI x)):=by
 unfold zy
 obtain⟨r1,e1,q1⟩:=FI x.Facts hx.2.1 (l:=l) (by omega) (by omega)
 rw[e1,Option.bind_some]
 rcases q1 with q1 | ⟨q1,p1,s1⟩
 ·rw[decide_eq_true q1,cond_true]
  exact⟨_,rfl,.inl (by decide)⟩
 rw[decide_eq_false (by omega),cond_false]
 obtain⟨r2,e2,q2⟩:=V5 x.Duties hx.2.2.1 (l:=r1) (by omega) (by omega)
 rw[e2,Option.bind_some]
 rcases q2 with q2 | ⟨q2,p2,s2⟩
 ·rw[decide_eq_true q2,cond_true]
  exact⟨_,rfl,.inl (by decide)⟩
 rw[decide_eq_false (by omega),cond_false]
 obtain⟨r3,e3,q3⟩:=Yf x.Balances hx.2.2.2.1 (l:=r2) (by omega) (by omega)
 rw[e3,Option.bind_some]
 rcases q3 with q3 | ⟨q3,p3,s3⟩
 ·rw[decide_eq_true q3,cond_true]
  exact⟨_,rfl,.inl (by decide)⟩
 rw[decide_eq_false (by omega),cond_false]
 exact⟨_,rfl,.inr ⟨by omega,by omega,(by simp[iL]),s1,s2,s3,(by simp[smB])⟩⟩
theorem FL (a:List aa)(ha:(ib mL) a):vp a=some a:=by
 have hm:a.length≤1048576:=ha.1
 unfold vp
 rw[wn (by omega) (by omega),Option.bind_some,qj (L:=rX a) (g:=some) (h:=id) (fun _ _=>rfl) (fun x=>by rw[Nn,me]<;>rfl) (by omega) (by simp)]
 simp
theorem GQ (a:List Condition)(ha:ib cb a)(ih:∀y∈a,cb y→zD y=some y):vl (aM oH) a=some a:=by
 have hm:a.length≤1048576:=ha.1
 unfold vl
 rw[wn (by omega) (by omega),Option.bind_some,qj (L:=pL (aM oH) a) (g:=fun e=>zD e) (h:=id) (fun x hx=>ih x hx (ha.2 x hx)) (fun x=>by rw[Nk,km]<;>rfl) (by omega) (by simp)]
 simp
theorem Lb (x:Condition):cb x→zD x=some x:=by
 refine fw (P:=fun x=>cb x→zD x=some x) ?_ x
 intro x ih hx
 rw[gl] at hx
 rw[WW]
 unfold rT
 rw[GQ x.Parts hx.2.2.2.1 ih]
 cases x;rfl
theorem Tg (x:Clause)(hx:gF x):vi x=some x:=by
 unfold vi
 simp only[Lb x.When hx.2.2.2.2.2.2.1,Option.bind_some]
theorem OI (a:List Clause)(ha:(ib gF) a):zB a=some a:=by
 have hm:a.length≤1048576:=ha.1
 unfold zB
 rw[wn (by omega) (by omega),Option.bind_some,qj (L:=rS a) (g:=(fun e=>vi e)) (h:=id) (fun x hx=>Tg x (ha.2 x hx)) (fun x=>by rw[Nj,mb]<;>rfl) (by omega) (by simp)]
 simp
theorem Mi (x:Contract)(hx:eL x):tx x=some x:=by
 unfold tx
 simp only[FL x.Parties hx.1,OI x.Clauses hx.2,Option.bind_some]
theorem Yg (x:Duty)(hx:oa x):vn x=some x:=by
 unfold vn
 rfl
theorem V7 (a:List Duty)(ha:(ib oa) a):zI a=some a:=by
 have hm:a.length≤1048576:=ha.1
 unfold zI
 rw[wn (by omega) (by omega),Option.bind_some,qj (L:=rU a) (g:=(fun e=>vn e)) (h:=id) (fun x hx=>Yg x (ha.2 x hx)) (fun x=>by rw[Nl,mc]<;>rfl) (by omega) (by simp)]
 simp
theorem Yh (a:List Int)(ha:(ib iL) a):zK a=some a:=by
 have hm:a.length≤1048576:=ha.1
 unfold zK
 rw[wn (by omega) (by omega),Option.bind_some,qj (L:=rV a) (g:=some) (h:=id) (fun _ _=>rfl) (fun x=>by rw[Nm,md]<;>rfl) (by omega) (by simp)]
 simp
theorem V8 (x:State)(hx:iI x):tz x=some x:=by
 unfold tz
 simp only[FL x.Facts hx.2.1,V7 x.Duties hx.2.2.1,Yh x.Balances hx.2.2.2.1,Option.bind_some]
theorem E8 (a:List aa)(ha:(ib mL) a):vb a a=some true:=by
 have hm:a.length≤1048576:=ha.1
 unfold vb
 rw[bne_self_eq_false,cond_false,sV (a:=a) (L:=rM a a) (p:=(fun e f=>some (e==f))) (fun x _=>by rw[beq_self_eq_true]) (fun x=>by rw[Nd,l8]<;>rfl) (by omega)]
 rfl
theorem GC (a:List Condition)(ha:ib cb a)(ih:∀y∈a,cb y→yZ y y=some true):uZ (aM oE) a a=some true:=by
 have hm:a.length≤1048576:=ha.1
 unfold uZ
 rw[bne_self_eq_false,cond_false,sV (a:=a) (L:=pJ (aM oE) a a) (p:=fun e f=>yZ e f) (fun x hx=>ih x hx (ha.2 x hx)) (fun x=>by rw[Na,ki]<;>rfl) (by omega)]
 rfl
theorem Kl (x:Condition):cb x→yZ x x=some true:=by
 refine fw (P:=fun x=>cb x→yZ x x=some true) ?_ x
 intro x ih hx
 rw[gl] at hx
 rw[WT]
 unfold rJ
 simp[GC x.Parts hx.2.2.2.1 ih]
theorem So (x:Clause)(hx:gF x):uW x x=some true:=by
 unfold uW
 simp[Kl x.When hx.2.2.2.2.2.2.1]
theorem NY (a:List Clause)(ha:(ib gF) a):yX a a=some true:=by
 have hm:a.length≤1048576:=ha.1
 unfold yX
 rw[bne_self_eq_false,cond_false,sV (a:=a) (L:=rH a a) (p:=(fun e f=>uW e f)) (fun x hx=>So x (ha.2 x hx)) (fun x=>by rw[M9,l5]<;>rfl) (by omega)]
 rfl
theorem L5 (x:Contract)(hx:eL x):zc x x=some true:=by
 unfold zc
 simp[E8 x.Parties hx.1,NY x.Clauses hx.2]
theorem XL (x:Duty)(hx:oa x):va x x=some true:=by
 unfold va
 simp[]
theorem Vv (a:List Duty)(ha:(ib oa) a):zf a a=some true:=by
 have hm:a.length≤1048576:=ha.1
 unfold zf
 rw[bne_self_eq_false,cond_false,sV (a:=a) (L:=rK a a) (p:=(fun e f=>va e f)) (fun x hx=>XL x (ha.2 x hx)) (fun x=>by rw[Nb,l6]<;>rfl) (by omega)]
 rfl
theorem XM (a:List Int)(ha:(ib iL) a):zh a a=some true:=by
 have hm:a.length≤1048576:=ha.1
 unfold zh
 rw[bne_self_eq_false,cond_false,sV (a:=a) (L:=rL a a) (p:=(fun e f=>some (e==f))) (fun x _=>by rw[beq_self_eq_true]) (fun x=>by rw[Nc,l7]<;>rfl) (by omega)]
 rfl
theorem Vw (x:State)(hx:iI x):zj x x=some true:=by
 unfold zj
 simp[E8 x.Facts hx.2.1,Vv x.Duties hx.2.2.1,XM x.Balances hx.2.2.2.1]
end Go.Ln
