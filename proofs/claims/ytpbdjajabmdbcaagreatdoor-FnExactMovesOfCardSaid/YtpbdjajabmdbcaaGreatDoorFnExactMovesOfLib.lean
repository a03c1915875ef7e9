/-
  What the helpers do.
-/
import Derived.Test.YtpbdjajabmdbcaaGreatDoorFnExactMovesOfFun
set_option maxHeartbeats 4000000
set_option linter.unusedVariables false
set_option linter.unusedSimpArgs false
set_option maxRecDepth 100000
namespace Go.Ln
open Go
mutual
def bM:Condition→Nat
 | ⟨_,_,_,a3⟩=>1+aO a3
def aO:List Condition→Nat
 | []=>0
 | x::xs=>bM x+aO xs
end
theorem fC (x:Condition):bM x=1+aO x.Parts:=by cases x;simp only[bM]
theorem hC:∀a,aO a=a.length+(a.map fun x=>aO x.Parts).sum
 | []=>rfl
 | x::xs=>by simp only[aO,fC,hC xs,List.length_cons,List.map_cons,List.sum_cons];omega
mutual
def ci:Condition→Prop
 | ⟨a0,a1,a2,a3⟩=>ov a0∧pU a1∧ov a2∧(a3.length≤1048576∧kv a3)∧aO a3≤1048576
def kv:List Condition→Prop
 | []=>True
 | x::xs=>ci x∧kv xs
end
theorem pV:∀xs,kv xs↔∀x∈xs,ci x
 | []=>by simp[kv]
 | x::xs=>by simp[kv,pV xs]
theorem gl (x:Condition):ci x↔ov x.Op∧pU x.Name∧ov x.Day∧lQ ci x.Parts∧aO x.Parts≤1048576:=by cases x;simp only[ci,pV,lQ]
theorem gc {P:Condition→Prop}(h:∀x,(∀y∈x.Parts,P y)→P x):∀x,P x:=by
 have key:∀(N:Nat) (x:Condition),SizeOf.sizeOf x<N→P x:=by
  intro N
  induction N with
  | zero=>intro x hx;omega
  | succ N ih=>
   intro x hx
   refine h x fun y hy=>ih y ?_
   cases x
   have:=List.sizeOf_lt_of_mem hy
   simp at this hx
   omega
 exact fun x=>key _ x (Nat.lt_succ_self _)
def gM (x:Clause):Prop:=pU x.Id∧ov x.Kind∧ov x.Party∧pU x.Action∧ov x.Other∧ov x.Amount∧ci x.When∧ov x.Within∧pU x.Repair
def ga (x:Contract):Prop:=(lQ pU) x.Parties∧(lQ gM) x.Clauses
def rm (x:Event):Prop:=ov x.Day∧ov x.Party∧pU x.Action∧ov x.Amount
theorem Py (a:List ae)(ha:(Fz Hp) a){l:Int}(h0:0≤l)(h1:l≤1048576):∃r,Am a l=some r∧(r<0∨(0≤r∧r≤l∧(lQ pU) a)):=by
 have hm:a.length≤9223372036854775807:=ha.1
 unfold Am
 rw[nD h0 (by omega) hm]
 by_cases k:l - (a.length:Int)<0
 ·rw[decide_eq_true k,cond_true]
  exact⟨_,rfl,.inl (by decide)⟩
 rw[decide_eq_false k,cond_false]
 have hs:∀x∈a,∀l:Int,0≤l→l≤1048576→∃r,(fun e l=>some (ac (l - len e))) x l=some r∧(r<0∨(0≤r∧r≤l∧pU x)):=by
  intro x hx l h0 h1
  have hx:=ha.2 x hx
  refine⟨_,rfl,?_⟩
  rw[nD h0 (by omega) hx]
  by_cases k:l - (x.length:Int)<0
  ·exact .inl k
  ·exact .inr ⟨by omega,by omega,by show x.length≤1048576;omega⟩
 obtain⟨y,hy,q⟩:=Tx (L:=tp a l) (a:=a) (s:=fun e l=>some (ac (l - len e))) (ok:=pU) (M:=1048576) (by decide) hs (fun x=>by rw[Oc,na]<;>rfl) (by omega) (l:=l - (a.length:Int)) (by omega) (by omega)
 rw[hy]
 rcases q with rfl | ⟨r,rfl,q1,q2,q3⟩
 ·exact⟨_,rfl,.inl (by decide)⟩
 ·exact⟨_,rfl,.inr ⟨q1,by omega,by omega,q3⟩⟩
theorem GP (a:List Condition)(ha:Fz oJ a)(ih:∀y∈a,oJ y→∀l:Int,0≤l→l≤1048576→∃r,vG y l=some r∧(r<0∨(0≤r∧r+((aO y.Parts:Nat):Int)≤l∧ci y))){l:Int}(h0:0≤l)(h1:l≤1048576) :
  ∃r,vJ (aP pt) a l=some r∧(r<0∨(0≤r∧r+((aO a:Nat):Int)≤l∧lQ ci a)):=by
 have hm:a.length≤9223372036854775807:=ha.1
 unfold vJ
 rw[nD h0 (by omega) hm]
 by_cases k:l - (a.length:Int)<0
 ·rw[decide_eq_true k,cond_true]
  exact⟨_,rfl,.inl (by decide)⟩
 rw[decide_eq_false k,cond_false]
 obtain⟨y,hy,q⟩:=Yv (L:=qm (aP pt) a l) (a:=a) (s:=fun e l=>vG e l) (w:=fun x=>aO x.Parts) (ok:=ci) (M:=1048576) (by decide) (fun x hx l h0 h1=>ih x hx (ha.2 x hx) l h0 h1) (fun x=>by rw[Ob,kV]<;>rfl) (by omega) (l:=l - (a.length:Int)) (by omega) (by omega)
 rw[hy]
 rcases q with rfl | ⟨r,rfl,q1,q2,q3⟩
 ·exact⟨_,rfl,.inl (by decide)⟩
 ·exact⟨_,rfl,.inr ⟨q1,by rw[hC];omega,by show a.length≤1048576;omega,q3⟩⟩
theorem HR (x:Condition):oJ x→∀l:Int,0≤l→l≤1048576→∃r,vG x l=some r∧(r<0∨(0≤r∧r+((aO x.Parts:Nat):Int)≤l∧ci x)):=by
 refine gc (P:=fun x=>oJ x→∀l:Int,0≤l→l≤1048576→∃r,vG x l=some r∧(r<0∨(0≤r∧r+((aO x.Parts:Nat):Int)≤l∧ci x))) ?_ x
 intro x ih hx l h0 h1
 rw[Jf] at hx
 rw[Xi]
 unfold tn
 have m1:x.Name.length≤9223372036854775807:=hx.2.1
 rw[nD (l:=l) (by omega) (by omega) m1]
 by_cases k1:l - (x.Name.length:Int)<0
 ·rw[decide_eq_true k1,cond_true]
  exact⟨_,rfl,.inl (by decide)⟩
 rw[decide_eq_false k1,cond_false]
 obtain⟨r3,e3,q3⟩:=GP x.Parts hx.2.2.2 ih (l:=(l - (x.Name.length:Int))) (by omega) (by omega)
 rw[e3,Option.bind_some]
 rcases q3 with q3 | ⟨q3,p3,s3⟩
 ·rw[decide_eq_true q3,cond_true]
  exact⟨_,rfl,.inl (by decide)⟩
 rw[decide_eq_false (by omega),cond_false]
 exact⟨_,rfl,.inr ⟨by omega,by omega,(gl x).2 ⟨(by simp[ov]),(by show x.Name.length≤1048576;omega),(by simp[ov]),s3,by omega⟩⟩⟩
theorem Lo (x:Condition)(hx:oJ x){l:Int}(h0:0≤l)(h1:l≤1048576):∃r,vG x l=some r∧(r<0∨(0≤r∧r≤l∧ci x)):=by
 obtain⟨r,h,q⟩:=HR x hx l h0 h1
 exact⟨r,h,q.imp id fun⟨q1,q2,q3⟩=>⟨q1,by omega,q3⟩⟩
theorem Ty (x:Clause)(hx:si x){l:Int}(h0:0≤l)(h1:l≤1048576):∃r,ut x l=some r∧(r<0∨(0≤r∧r≤l∧gM x)):=by
 unfold ut
 have m0:x.Id.length≤9223372036854775807:=hx.1
 rw[nD (l:=l) (by omega) (by omega) m0]
 by_cases k0:l - (x.Id.length:Int)<0
 ·rw[decide_eq_true k0,cond_true]
  exact⟨_,rfl,.inl (by decide)⟩
 rw[decide_eq_false k0,cond_false]
 have m3:x.Action.length≤9223372036854775807:=hx.2.2.2.1
 rw[nD (l:=(l - (x.Id.length:Int))) (by omega) (by omega) m3]
 by_cases k3:(l - (x.Id.length:Int)) - (x.Action.length:Int)<0
 ·rw[decide_eq_true k3,cond_true]
  exact⟨_,rfl,.inl (by decide)⟩
 rw[decide_eq_false k3,cond_false]
 obtain⟨r6,e6,q6⟩:=Lo x.When hx.2.2.2.2.2.2.1 (l:=((l - (x.Id.length:Int)) - (x.Action.length:Int))) (by omega) (by omega)
 rw[e6,Option.bind_some]
 rcases q6 with q6 | ⟨q6,p6,s6⟩
 ·rw[decide_eq_true q6,cond_true]
  exact⟨_,rfl,.inl (by decide)⟩
 rw[decide_eq_false (by omega),cond_false]
 have m8:x.Repair.length≤9223372036854775807:=hx.2.2.2.2.2.2.2.2
 rw[nD (l:=r6) (by omega) (by omega) m8]
 by_cases k8:r6 - (x.Repair.length:Int)<0
 ·rw[decide_eq_true k8,cond_true]
  exact⟨_,rfl,.inl (by decide)⟩
 rw[decide_eq_false k8,cond_false]
 exact⟨_,rfl,.inr ⟨by omega,by omega,(by show x.Id.length≤1048576;omega),(by simp[ov]),(by simp[ov]),(by show x.Action.length≤1048576;omega),(by simp[ov]),(by simp[ov]),s6,(by simp[ov]),(by show x.Repair.length≤1048576;omega)⟩⟩
theorem Px (a:List Clause)(ha:(Fz si) a){l:Int}(h0:0≤l)(h1:l≤1048576):∃r,Af a l=some r∧(r<0∨(0≤r∧r≤l∧(lQ gM) a)):=by
 have hm:a.length≤9223372036854775807:=ha.1
 unfold Af
 rw[nD h0 (by omega) hm]
 by_cases k:l - (a.length:Int)<0
 ·rw[decide_eq_true k,cond_true]
  exact⟨_,rfl,.inl (by decide)⟩
 rw[decide_eq_false k,cond_false]
 have hs:∀x∈a,∀l:Int,0≤l→l≤1048576→∃r,(fun e l=>ut e l) x l=some r∧(r<0∨(0≤r∧r≤l∧gM x)):=by
  intro x hx l h0 h1
  exact Ty x (ha.2 x hx) h0 h1
 obtain⟨y,hy,q⟩:=Tx (L:=tk a l) (a:=a) (s:=fun e l=>ut e l) (ok:=gM) (M:=1048576) (by decide) hs (fun x=>by rw[Oa,mZ]<;>rfl) (by omega) (l:=l - (a.length:Int)) (by omega) (by omega)
 rw[hy]
 rcases q with rfl | ⟨r,rfl,q1,q2,q3⟩
 ·exact⟨_,rfl,.inl (by decide)⟩
 ·exact⟨_,rfl,.inr ⟨q1,by omega,by omega,q3⟩⟩
theorem M0 (x:Contract)(hx:Ud x){l:Int}(h0:0≤l)(h1:l≤1048576):∃r,Ak x l=some r∧(r<0∨(0≤r∧r≤l∧ga x)):=by
 unfold Ak
 obtain⟨r0,e0,q0⟩:=Py x.Parties hx.1 (l:=l) (by omega) (by omega)
 rw[e0,Option.bind_some]
 rcases q0 with q0 | ⟨q0,p0,s0⟩
 ·rw[decide_eq_true q0,cond_true]
  exact⟨_,rfl,.inl (by decide)⟩
 rw[decide_eq_false (by omega),cond_false]
 obtain⟨r1,e1,q1⟩:=Px x.Clauses hx.2 (l:=r0) (by omega) (by omega)
 rw[e1,Option.bind_some]
 rcases q1 with q1 | ⟨q1,p1,s1⟩
 ·rw[decide_eq_true q1,cond_true]
  exact⟨_,rfl,.inl (by decide)⟩
 rw[decide_eq_false (by omega),cond_false]
 exact⟨_,rfl,.inr ⟨by omega,by omega,s0,s1⟩⟩
theorem PE (a:List ae)(ha:(lQ pU) a):Ay a=some a:=by
 have hm:a.length≤1048576:=ha.1
 unfold Ay
 rw[KP (by omega) (by omega),Option.bind_some,BG (L:=tu a) (g:=some) (h:=id) (fun _ _=>rfl) (fun x=>by rw[Og,ne]<;>rfl) (by omega) (by simp)]
 simp
theorem GQ (a:List Condition)(ha:lQ ci a)(ih:∀y∈a,ci y→Ar y=some y):vN (aP pw) a=some a:=by
 have hm:a.length≤1048576:=ha.1
 unfold vN
 rw[KP (by omega) (by omega),Option.bind_some,BG (L:=qn (aP pw) a) (g:=fun e=>Ar e) (h:=id) (fun x hx=>ih x hx (ha.2 x hx)) (fun x=>by rw[Oe,kW]<;>rfl) (by omega) (by simp)]
 simp
theorem Lp (x:Condition):ci x→Ar x=some x:=by
 refine gc (P:=fun x=>ci x→Ar x=some x) ?_ x
 intro x ih hx
 rw[gl] at hx
 rw[Xj]
 unfold tt
 rw[GQ x.Parts hx.2.2.2.1 ih]
 cases x;rfl
theorem TA (x:Clause)(hx:gM x):vK x=some x:=by
 unfold vK
 simp only[Lp x.When hx.2.2.2.2.2.2.1,Option.bind_some]
theorem PD (a:List Clause)(ha:(lQ gM) a):Ap a=some a:=by
 have hm:a.length≤1048576:=ha.1
 unfold Ap
 rw[KP (by omega) (by omega),Option.bind_some,BG (L:=tq a) (g:=(fun e=>vK e)) (h:=id) (fun x hx=>TA x (ha.2 x hx)) (fun x=>by rw[Od,nc]<;>rfl) (by omega) (by simp)]
 simp
theorem M1 (x:Contract)(hx:ga x):sw x=some x:=by
 unfold sw
 simp only[PE x.Parties hx.1,PD x.Clauses hx.2,Option.bind_some]
theorem VA (x:Event)(hx:rm x):vB x x=some true:=by
 unfold vB
 simp[]
theorem SF (a:List Event)(ha:(lQ rm) a):ur a a=some true:=by
 have hm:a.length≤1048576:=ha.1
 unfold ur
 rw[bne_self_eq_false,cond_false,xU (a:=a) (L:=ta a a) (p:=(fun e f=>vB e f)) (fun x hx=>VA x (ha.2 x hx)) (fun x=>by rw[N7,mW]<;>rfl) (by omega)]
 rfl
theorem O1 (a:List ae)(ha:(lQ pU) a):zR a a=some true:=by
 have hm:a.length≤1048576:=ha.1
 unfold zR
 rw[bne_self_eq_false,cond_false,xU (a:=a) (L:=tc a a) (p:=(fun e f=>some (e==f))) (fun x _=>by rw[beq_self_eq_true]) (fun x=>by rw[N8,mX]<;>rfl) (by omega)]
 rfl
theorem GA (a:List Condition)(ha:lQ ci a)(ih:∀y∈a,ci y→J9 y y=some true):vA (aP rV) a a=some true:=by
 have hm:a.length≤1048576:=ha.1
 unfold vA
 rw[bne_self_eq_false,cond_false,xU (a:=a) (L:=ql (aP rV) a a) (p:=fun e f=>J9 e f) (fun x hx=>ih x hx (ha.2 x hx)) (fun x=>by rw[N6,kO]<;>rfl) (by omega)]
 rfl
theorem Ks (x:Condition):ci x→J9 x x=some true:=by
 refine gc (P:=fun x=>ci x→J9 x x=some true) ?_ x
 intro x ih hx
 rw[gl] at hx
 rw[Z5]
 unfold xR
 simp[GA x.Parts hx.2.2.2.1 ih]
theorem SE (x:Clause)(hx:gM x):G9 x x=some true:=by
 unfold G9
 simp[Ks x.When hx.2.2.2.2.2.2.1]
theorem O0 (a:List Clause)(ha:(lQ gM) a):J8 a a=some true:=by
 have hm:a.length≤1048576:=ha.1
 unfold J8
 rw[bne_self_eq_false,cond_false,xU (a:=a) (L:=wG a a) (p:=(fun e f=>G9 e f)) (fun x hx=>SE x (ha.2 x hx)) (fun x=>by rw[Sk,oO]<;>rfl) (by omega)]
 rfl
theorem ML (x:Contract)(hx:ga x):zN x x=some true:=by
 unfold zN
 simp[O1 x.Parties hx.1,O0 x.Clauses hx.2]
end Go.Ln
