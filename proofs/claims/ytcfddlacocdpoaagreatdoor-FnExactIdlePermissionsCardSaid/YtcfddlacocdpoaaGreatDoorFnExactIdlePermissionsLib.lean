/-
  What the helpers do.
-/
import Derived.Test.YtcfddlacocdpoaaGreatDoorFnExactIdlePermissionsFun
set_option maxHeartbeats 4000000
set_option linter.unusedVariables false
set_option linter.unusedSimpArgs false
set_option maxRecDepth 100000
namespace Go.Ln
open Go
mutual
def aH:Condition→Nat
 | ⟨_,_,_,a3⟩=>1+aB a3
def aB:List Condition→Nat
 | []=>0
 | x::xs=>aH x+aB xs
end
theorem ed (x:Condition):aH x=1+aB x.Parts:=by cases x;simp only[aH]
theorem eW:∀a,aB a=a.length+(a.map fun x=>aB x.Parts).sum
 | []=>rfl
 | x::xs=>by simp only[aB,ed,eW xs,List.length_cons,List.map_cons,List.sum_cons];omega
mutual
def bW:Condition→Prop
 | ⟨a0,a1,a2,a3⟩=>nQ a0∧qB a1∧nQ a2∧(a3.length≤1048576∧jM a3)∧aB a3≤1048576
def jM:List Condition→Prop
 | []=>True
 | x::xs=>bW x∧jM xs
end
theorem pn:∀xs,jM xs↔∀x∈xs,bW x
 | []=>by simp[jM]
 | x::xs=>by simp[jM,pn xs]
theorem fF (x:Condition):bW x↔nQ x.Op∧qB x.Name∧nQ x.Day∧lD bW x.Parts∧aB x.Parts≤1048576:=by cases x;simp only[bW,pn,lD]
theorem ep {P:Condition→Prop}(h:∀x,(∀y∈x.Parts,P y)→P x):∀x,P x:=by
 have key:∀(N:Nat) (x:Condition),SizeOf.sizeOf x<N→P x:=by
  intro N
  induction N with
  | zero=>intro x hx;omega
  | succ N ih=>
   intro x hx
   refine h x fun y hy=>ih y ?_
   cases x
   have:=List.sizeOf_lt_of_mem hy
   simp at this hx
   omega
 exact fun x=>key _ x (Nat.lt_succ_self _)
def fZ (x:Clause):Prop:=qB x.Id∧nQ x.Kind∧nQ x.Party∧qB x.Action∧nQ x.Other∧nQ x.Amount∧bW x.When∧nQ x.Within∧qB x.Repair
def fN (x:Contract):Prop:=(lD qB) x.Parties∧(lD fZ) x.Clauses
theorem M7 (a:List ac)(ha:(D3 FW) a){l:Int}(h0:0≤l)(h1:l≤1048576):∃r,zc a l=some r∧(r<0∨(0≤r∧r≤l∧(lD qB) a)):=by
 have hm:a.length≤9223372036854775807:=ha.1
 unfold zc
 rw[mM h0 (by omega) hm]
 by_cases k:l - (a.length:Int)<0
 ·rw[decide_eq_true k,cond_true]
  exact⟨_,rfl,.inl (by decide)⟩
 rw[decide_eq_false k,cond_false]
 have hs:∀x∈a,∀l:Int,0≤l→l≤1048576→∃r,(fun e l=>some (aj (l - len e))) x l=some r∧(r<0∨(0≤r∧r≤l∧qB x)):=by
  intro x hx l h0 h1
  have hx:=ha.2 x hx
  refine⟨_,rfl,?_⟩
  rw[mM h0 (by omega) hx]
  by_cases k:l - (x.length:Int)<0
  ·exact .inl k
  ·exact .inr ⟨by omega,by omega,by show x.length≤1048576;omega⟩
 obtain⟨y,hy,q⟩:=QA (L:=sa a l) (a:=a) (s:=fun e l=>some (aj (l - len e))) (ok:=qB) (M:=1048576) (by decide) hs (fun x=>by rw[LN,mm]<;>rfl) (by omega) (l:=l - (a.length:Int)) (by omega) (by omega)
 rw[hy]
 rcases q with rfl | ⟨r,rfl,q1,q2,q3⟩
 ·exact⟨_,rfl,.inl (by decide)⟩
 ·exact⟨_,rfl,.inr ⟨q1,by omega,by omega,q3⟩⟩
theorem Ff (a:List Condition)(ha:D3 nR a)(ih:∀y∈a,nR y→∀l:Int,0≤l→l≤1048576→∃r,uF y l=some r∧(r<0∨(0≤r∧r+((aB y.Parts:Nat):Int)≤l∧bW y))){l:Int}(h0:0≤l)(h1:l≤1048576) :
  ∃r,uI (aA oK) a l=some r∧(r<0∨(0≤r∧r+((aB a:Nat):Int)≤l∧lD bW a)):=by
 have hm:a.length≤9223372036854775807:=ha.1
 unfold uI
 rw[mM h0 (by omega) hm]
 by_cases k:l - (a.length:Int)<0
 ·rw[decide_eq_true k,cond_true]
  exact⟨_,rfl,.inl (by decide)⟩
 rw[decide_eq_false k,cond_false]
 obtain⟨y,hy,q⟩:=Vd (L:=pK (aA oK) a l) (a:=a) (s:=fun e l=>uF e l) (w:=fun x=>aB x.Parts) (ok:=bW) (M:=1048576) (by decide) (fun x hx l h0 h1=>ih x hx (ha.2 x hx) l h0 h1) (fun x=>by rw[LM,ku]<;>rfl) (by omega) (l:=l - (a.length:Int)) (by omega) (by omega)
 rw[hy]
 rcases q with rfl | ⟨r,rfl,q1,q2,q3⟩
 ·exact⟨_,rfl,.inl (by decide)⟩
 ·exact⟨_,rfl,.inr ⟨q1,by rw[eW];omega,by show a.length≤1048576;omega,q3⟩⟩
theorem Gp (x:Condition):nR x→∀l:Int,0≤l→l≤1048576→∃r,uF x l=some r∧(r<0∨(0≤r∧r+((aB x.Parts:Nat):Int)≤l∧bW x)):=by
 refine ep (P:=fun x=>nR x→∀l:Int,0≤l→l≤1048576→∃r,uF x l=some r∧(r<0∨(0≤r∧r+((aB x.Parts:Nat):Int)≤l∧bW x))) ?_ x
 intro x ih hx l h0 h1
 rw[HK] at hx
 rw[TQ]
 unfold rZ
 have m1:x.Name.length≤9223372036854775807:=hx.2.1
 rw[mM (l:=l) (by omega) (by omega) m1]
 by_cases k1:l - (x.Name.length:Int)<0
 ·rw[decide_eq_true k1,cond_true]
  exact⟨_,rfl,.inl (by decide)⟩
 rw[decide_eq_false k1,cond_false]
 obtain⟨r3,e3,q3⟩:=Ff x.Parts hx.2.2.2 ih (l:=(l - (x.Name.length:Int))) (by omega) (by omega)
 rw[e3,Option.bind_some]
 rcases q3 with q3 | ⟨q3,p3,s3⟩
 ·rw[decide_eq_true q3,cond_true]
  exact⟨_,rfl,.inl (by decide)⟩
 rw[decide_eq_false (by omega),cond_false]
 exact⟨_,rfl,.inr ⟨by omega,by omega,(fF x).2 ⟨(by simp[nQ]),(by show x.Name.length≤1048576;omega),(by simp[nQ]),s3,by omega⟩⟩⟩
theorem JN (x:Condition)(hx:nR x){l:Int}(h0:0≤l)(h1:l≤1048576):∃r,uF x l=some r∧(r<0∨(0≤r∧r≤l∧bW x)):=by
 obtain⟨r,h,q⟩:=Gp x hx l h0 h1
 exact⟨r,h,q.imp id fun⟨q1,q2,q3⟩=>⟨q1,by omega,q3⟩⟩
theorem QB (x:Clause)(hx:qW x){l:Int}(h0:0≤l)(h1:l≤1048576):∃r,tc x l=some r∧(r<0∨(0≤r∧r≤l∧fZ x)):=by
 unfold tc
 have m0:x.Id.length≤9223372036854775807:=hx.1
 rw[mM (l:=l) (by omega) (by omega) m0]
 by_cases k0:l - (x.Id.length:Int)<0
 ·rw[decide_eq_true k0,cond_true]
  exact⟨_,rfl,.inl (by decide)⟩
 rw[decide_eq_false k0,cond_false]
 have m3:x.Action.length≤9223372036854775807:=hx.2.2.2.1
 rw[mM (l:=(l - (x.Id.length:Int))) (by omega) (by omega) m3]
 by_cases k3:(l - (x.Id.length:Int)) - (x.Action.length:Int)<0
 ·rw[decide_eq_true k3,cond_true]
  exact⟨_,rfl,.inl (by decide)⟩
 rw[decide_eq_false k3,cond_false]
 obtain⟨r6,e6,q6⟩:=JN x.When hx.2.2.2.2.2.2.1 (l:=((l - (x.Id.length:Int)) - (x.Action.length:Int))) (by omega) (by omega)
 rw[e6,Option.bind_some]
 rcases q6 with q6 | ⟨q6,p6,s6⟩
 ·rw[decide_eq_true q6,cond_true]
  exact⟨_,rfl,.inl (by decide)⟩
 rw[decide_eq_false (by omega),cond_false]
 have m8:x.Repair.length≤9223372036854775807:=hx.2.2.2.2.2.2.2.2
 rw[mM (l:=r6) (by omega) (by omega) m8]
 by_cases k8:r6 - (x.Repair.length:Int)<0
 ·rw[decide_eq_true k8,cond_true]
  exact⟨_,rfl,.inl (by decide)⟩
 rw[decide_eq_false k8,cond_false]
 exact⟨_,rfl,.inr ⟨by omega,by omega,(by show x.Id.length≤1048576;omega),(by simp[nQ]),(by simp[nQ]),(by show x.Action.length≤1048576;omega),(by simp[nQ]),(by simp[nQ]),s6,(by simp[nQ]),(by show x.Repair.length≤1048576;omega)⟩⟩
theorem M6 (a:List Clause)(ha:(D3 qW) a){l:Int}(h0:0≤l)(h1:l≤1048576):∃r,yW a l=some r∧(r<0∨(0≤r∧r≤l∧(lD fZ) a)):=by
 have hm:a.length≤9223372036854775807:=ha.1
 unfold yW
 rw[mM h0 (by omega) hm]
 by_cases k:l - (a.length:Int)<0
 ·rw[decide_eq_true k,cond_true]
  exact⟨_,rfl,.inl (by decide)⟩
 rw[decide_eq_false k,cond_false]
 have hs:∀x∈a,∀l:Int,0≤l→l≤1048576→∃r,(fun e l=>tc e l) x l=some r∧(r<0∨(0≤r∧r≤l∧fZ x)):=by
  intro x hx l h0 h1
  exact QB x (ha.2 x hx) h0 h1
 obtain⟨y,hy,q⟩:=QA (L:=rY a l) (a:=a) (s:=fun e l=>tc e l) (ok:=fZ) (M:=1048576) (by decide) hs (fun x=>by rw[LL,ml]<;>rfl) (by omega) (l:=l - (a.length:Int)) (by omega) (by omega)
 rw[hy]
 rcases q with rfl | ⟨r,rfl,q1,q2,q3⟩
 ·exact⟨_,rfl,.inl (by decide)⟩
 ·exact⟨_,rfl,.inr ⟨q1,by omega,by omega,q3⟩⟩
theorem KL (x:Contract)(hx:Q9 x){l:Int}(h0:0≤l)(h1:l≤1048576):∃r,za x l=some r∧(r<0∨(0≤r∧r≤l∧fN x)):=by
 unfold za
 obtain⟨r0,e0,q0⟩:=M7 x.Parties hx.1 (l:=l) (by omega) (by omega)
 rw[e0,Option.bind_some]
 rcases q0 with q0 | ⟨q0,p0,s0⟩
 ·rw[decide_eq_true q0,cond_true]
  exact⟨_,rfl,.inl (by decide)⟩
 rw[decide_eq_false (by omega),cond_false]
 obtain⟨r1,e1,q1⟩:=M6 x.Clauses hx.2 (l:=r0) (by omega) (by omega)
 rw[e1,Option.bind_some]
 rcases q1 with q1 | ⟨q1,p1,s1⟩
 ·rw[decide_eq_true q1,cond_true]
  exact⟨_,rfl,.inl (by decide)⟩
 rw[decide_eq_false (by omega),cond_false]
 exact⟨_,rfl,.inr ⟨by omega,by omega,s0,s1⟩⟩
theorem Nc (a:List ac)(ha:(lD qB) a):zl a=some a:=by
 have hm:a.length≤1048576:=ha.1
 unfold zl
 rw[Jk (by omega) (by omega),Option.bind_some,Ah (L:=se a) (g:=some) (h:=id) (fun _ _=>rfl) (fun x=>by rw[LQ,mp]<;>rfl) (by omega) (by simp)]
 simp
theorem Fg (a:List Condition)(ha:lD bW a)(ih:∀y∈a,bW y→zh y=some y):uM (aA oL) a=some a:=by
 have hm:a.length≤1048576:=ha.1
 unfold uM
 rw[Jk (by omega) (by omega),Option.bind_some,Ah (L:=pL (aA oL) a) (g:=fun e=>zh e) (h:=id) (fun x hx=>ih x hx (ha.2 x hx)) (fun x=>by rw[LP,kv]<;>rfl) (by omega) (by simp)]
 simp
theorem JP (x:Condition):bW x→zh x=some x:=by
 refine ep (P:=fun x=>bW x→zh x=some x) ?_ x
 intro x ih hx
 rw[fF] at hx
 rw[TR]
 unfold sd
 rw[Fg x.Parts hx.2.2.2.1 ih]
 cases x;rfl
theorem QD (x:Clause)(hx:fZ x):uJ x=some x:=by
 unfold uJ
 simp only[JP x.When hx.2.2.2.2.2.2.1,Option.bind_some]
theorem Nb (a:List Clause)(ha:(lD fZ) a):zf a=some a:=by
 have hm:a.length≤1048576:=ha.1
 unfold zf
 rw[Jk (by omega) (by omega),Option.bind_some,Ah (L:=sb a) (g:=(fun e=>uJ e)) (h:=id) (fun x hx=>QD x (ha.2 x hx)) (fun x=>by rw[LO,mo]<;>rfl) (by omega) (by simp)]
 simp
theorem KM (x:Contract)(hx:fN x):rh x=some x:=by
 unfold rh
 simp only[Nc x.Parties hx.1,Nb x.Clauses hx.2,Option.bind_some]
theorem UJ (a:List Int)(ha:(lD nQ) a):ta a a=some true:=by
 have hm:a.length≤1048576:=ha.1
 unfold ta
 rw[bne_self_eq_false,cond_false,wL (a:=a) (L:=rO a a) (p:=(fun e f=>some (e==f))) (fun x _=>by rw[beq_self_eq_true]) (fun x=>by rw[LI,mh]<;>rfl) (by omega)]
 rfl
theorem MC (a:List ac)(ha:(lD qB) a):yJ a a=some true:=by
 have hm:a.length≤1048576:=ha.1
 unfold yJ
 rw[bne_self_eq_false,cond_false,wL (a:=a) (L:=rQ a a) (p:=(fun e f=>some (e==f))) (fun x _=>by rw[beq_self_eq_true]) (fun x=>by rw[LJ,mi]<;>rfl) (by omega)]
 rfl
theorem EZ (a:List Condition)(ha:lD bW a)(ih:∀y∈a,bW y→Iz y y=some true):uz (aA qK) a a=some true:=by
 have hm:a.length≤1048576:=ha.1
 unfold uz
 rw[bne_self_eq_false,cond_false,wL (a:=a) (L:=pJ (aA qK) a a) (p:=fun e f=>Iz e f) (fun x hx=>ih x hx (ha.2 x hx)) (fun x=>by rw[LH,kj]<;>rfl) (by omega)]
 rfl
theorem IW (x:Condition):bW x→Iz x x=some true:=by
 refine ep (P:=fun x=>bW x→Iz x x=some true) ?_ x
 intro x ih hx
 rw[fF] at hx
 rw[Wr]
 unfold wG
 simp[EZ x.Parts hx.2.2.2.1 ih]
theorem PL (x:Clause)(hx:fZ x):FD x x=some true:=by
 unfold FD
 simp[IW x.When hx.2.2.2.2.2.2.1]
theorem MB (a:List Clause)(ha:(lD fZ) a):Iy a a=some true:=by
 have hm:a.length≤1048576:=ha.1
 unfold Iy
 rw[bne_self_eq_false,cond_false,wL (a:=a) (L:=vD a a) (p:=(fun e f=>FD e f)) (fun x hx=>PL x (ha.2 x hx)) (fun x=>by rw[Pu,nX]<;>rfl) (by omega)]
 rfl
theorem Kz (x:Contract)(hx:fN x):yG x x=some true:=by
 unfold yG
 simp[MC x.Parties hx.1,MB x.Clauses hx.2]
end Go.Ln
