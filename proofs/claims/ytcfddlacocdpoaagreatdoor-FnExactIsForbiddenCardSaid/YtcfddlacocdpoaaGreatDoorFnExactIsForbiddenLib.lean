/-
  What the helpers do.
-/
import Derived.Test.YtcfddlacocdpoaaGreatDoorFnExactIsForbiddenFun
set_option maxHeartbeats 4000000
set_option linter.unusedVariables false
set_option linter.unusedSimpArgs false
set_option maxRecDepth 100000
namespace Go.Ln
open Go
mutual
def bE:Condition→Nat
 | ⟨_,_,_,a3⟩=>1+aR a3
def aR:List Condition→Nat
 | []=>0
 | x::xs=>bE x+aR xs
end
theorem fX (x:Condition):bE x=1+aR x.Parts:=by cases x;simp only[bE]
theorem ia:∀a,aR a=a.length+(a.map fun x=>aR x.Parts).sum
 | []=>rfl
 | x::xs=>by simp only[aR,fX,ia xs,List.length_cons,List.map_cons,List.sum_cons];omega
mutual
def cb:Condition→Prop
 | ⟨a0,a1,a2,a3⟩=>iP a0∧mN a1∧iP a2∧(a3.length≤1048576∧jN a3)∧aR a3≤1048576
def jN:List Condition→Prop
 | []=>True
 | x::xs=>cb x∧jN xs
end
theorem pq:∀xs,jN xs↔∀x∈xs,cb x
 | []=>by simp[jN]
 | x::xs=>by simp[jN,pq xs]
theorem gt (x:Condition):cb x↔iP x.Op∧mN x.Name∧iP x.Day∧ii cb x.Parts∧aR x.Parts≤1048576:=by cases x;simp only[cb,pq,ii]
theorem fz {P:Condition→Prop}(h:∀x,(∀y∈x.Parts,P y)→P x):∀x,P x:=by
 have key:∀(N:Nat) (x:Condition),SizeOf.sizeOf x<N→P x:=by
  intro N
  induction N with
  | zero=>intro x hx;omega
  | succ N ih=>
   intro x hx
   refine h x fun y hy=>ih y ?_
   cases x
   have:=List.sizeOf_lt_of_mem hy
   simp at this hx
   omega
 exact fun x=>key _ x (Nat.lt_succ_self _)
def gJ (x:Clause):Prop:=mN x.Id∧iP x.Kind∧iP x.Party∧mN x.Action∧iP x.Other∧iP x.Amount∧cb x.When∧iP x.Within∧mN x.Repair
def eO (x:Contract):Prop:=(ii mN) x.Parties∧(ii gJ) x.Clauses
def oe (x:Duty):Prop:=iP x.Clause∧iP x.Since∧iP x.Due∧iP x.Status
def iL (x:State):Prop:=iP x.Day∧(ii mN) x.Facts∧(ii oe) x.Duties∧(ii iP) x.Balances∧smB x.Over
theorem FQ (a:List aa)(ha:(rc wx) a){l:Int}(h0:0≤l)(h1:l≤1048576):∃r,vi a l=some r∧(r<0∨(0≤r∧r≤l∧(ii mN) a)):=by
 have hm:a.length≤9223372036854775807:=ha.1
 unfold vi
 rw[kb h0 (by omega) hm]
 by_cases k:l - (a.length:Int)<0
 ·rw[decide_eq_true k,cond_true]
  exact⟨_,rfl,.inl (by decide)⟩
 rw[decide_eq_false k,cond_false]
 have hs:∀x∈a,∀l:Int,0≤l→l≤1048576→∃r,(fun e l=>some (az (l - len e))) x l=some r∧(r<0∨(0≤r∧r≤l∧mN x)):=by
  intro x hx l h0 h1
  have hx:=ha.2 x hx
  refine⟨_,rfl,?_⟩
  rw[kb h0 (by omega) hx]
  by_cases k:l - (x.length:Int)<0
  ·exact .inl k
  ·exact .inr ⟨by omega,by omega,by show x.length≤1048576;omega⟩
 obtain⟨y,hy,q⟩:=Ts (L:=rU a l) (a:=a) (s:=fun e l=>some (az (l - len e))) (ok:=mN) (M:=1048576) (by decide) hs (fun x=>by rw[Ns,mc]<;>rfl) (by omega) (l:=l - (a.length:Int)) (by omega) (by omega)
 rw[hy]
 rcases q with rfl | ⟨r,rfl,q1,q2,q3⟩
 ·exact⟨_,rfl,.inl (by decide)⟩
 ·exact⟨_,rfl,.inr ⟨q1,by omega,by omega,q3⟩⟩
theorem GY (a:List Condition)(ha:rc nO a)(ih:∀y∈a,nO y→∀l:Int,0≤l→l≤1048576→∃r,ve y l=some r∧(r<0∨(0≤r∧r+((aR y.Parts:Nat):Int)≤l∧cb y))){l:Int}(h0:0≤l)(h1:l≤1048576) :
  ∃r,vh (aN oK) a l=some r∧(r<0∨(0≤r∧r+((aR a:Nat):Int)≤l∧ii cb a)):=by
 have hm:a.length≤9223372036854775807:=ha.1
 unfold vh
 rw[kb h0 (by omega) hm]
 by_cases k:l - (a.length:Int)<0
 ·rw[decide_eq_true k,cond_true]
  exact⟨_,rfl,.inl (by decide)⟩
 rw[decide_eq_false k,cond_false]
 obtain⟨y,hy,q⟩:=Yw (L:=pQ (aN oK) a l) (a:=a) (s:=fun e l=>ve e l) (w:=fun x=>aR x.Parts) (ok:=cb) (M:=1048576) (by decide) (fun x hx l h0 h1=>ih x hx (ha.2 x hx) l h0 h1) (fun x=>by rw[Nq,ko]<;>rfl) (by omega) (l:=l - (a.length:Int)) (by omega) (by omega)
 rw[hy]
 rcases q with rfl | ⟨r,rfl,q1,q2,q3⟩
 ·exact⟨_,rfl,.inl (by decide)⟩
 ·exact⟨_,rfl,.inr ⟨q1,by rw[ia];omega,by show a.length≤1048576;omega,q3⟩⟩
theorem HY (x:Condition):nO x→∀l:Int,0≤l→l≤1048576→∃r,ve x l=some r∧(r<0∨(0≤r∧r+((aR x.Parts:Nat):Int)≤l∧cb x)):=by
 refine fz (P:=fun x=>nO x→∀l:Int,0≤l→l≤1048576→∃r,ve x l=some r∧(r<0∨(0≤r∧r+((aR x.Parts:Nat):Int)≤l∧cb x))) ?_ x
 intro x ih hx l h0 h1
 rw[Jw] at hx
 rw[Xd]
 unfold rT
 have m1:x.Name.length≤9223372036854775807:=hx.2.1
 rw[kb (l:=l) (by omega) (by omega) m1]
 by_cases k1:l - (x.Name.length:Int)<0
 ·rw[decide_eq_true k1,cond_true]
  exact⟨_,rfl,.inl (by decide)⟩
 rw[decide_eq_false k1,cond_false]
 obtain⟨r3,e3,q3⟩:=GY x.Parts hx.2.2.2 ih (l:=(l - (x.Name.length:Int))) (by omega) (by omega)
 rw[e3,Option.bind_some]
 rcases q3 with q3 | ⟨q3,p3,s3⟩
 ·rw[decide_eq_true q3,cond_true]
  exact⟨_,rfl,.inl (by decide)⟩
 rw[decide_eq_false (by omega),cond_false]
 exact⟨_,rfl,.inr ⟨by omega,by omega,(gt x).2 ⟨(by simp[iP]),(by show x.Name.length≤1048576;omega),(by simp[iP]),s3,by omega⟩⟩⟩
theorem Lo (x:Condition)(hx:nO x){l:Int}(h0:0≤l)(h1:l≤1048576):∃r,ve x l=some r∧(r<0∨(0≤r∧r≤l∧cb x)):=by
 obtain⟨r,h,q⟩:=HY x hx l h0 h1
 exact⟨r,h,q.imp id fun⟨q1,q2,q3⟩=>⟨q1,by omega,q3⟩⟩
theorem Tt (x:Clause)(hx:re x){l:Int}(h0:0≤l)(h1:l≤1048576):∃r,tz x l=some r∧(r<0∨(0≤r∧r≤l∧gJ x)):=by
 unfold tz
 have m0:x.Id.length≤9223372036854775807:=hx.1
 rw[kb (l:=l) (by omega) (by omega) m0]
 by_cases k0:l - (x.Id.length:Int)<0
 ·rw[decide_eq_true k0,cond_true]
  exact⟨_,rfl,.inl (by decide)⟩
 rw[decide_eq_false k0,cond_false]
 have m3:x.Action.length≤9223372036854775807:=hx.2.2.2.1
 rw[kb (l:=(l - (x.Id.length:Int))) (by omega) (by omega) m3]
 by_cases k3:(l - (x.Id.length:Int)) - (x.Action.length:Int)<0
 ·rw[decide_eq_true k3,cond_true]
  exact⟨_,rfl,.inl (by decide)⟩
 rw[decide_eq_false k3,cond_false]
 obtain⟨r6,e6,q6⟩:=Lo x.When hx.2.2.2.2.2.2.1 (l:=((l - (x.Id.length:Int)) - (x.Action.length:Int))) (by omega) (by omega)
 rw[e6,Option.bind_some]
 rcases q6 with q6 | ⟨q6,p6,s6⟩
 ·rw[decide_eq_true q6,cond_true]
  exact⟨_,rfl,.inl (by decide)⟩
 rw[decide_eq_false (by omega),cond_false]
 have m8:x.Repair.length≤9223372036854775807:=hx.2.2.2.2.2.2.2.2
 rw[kb (l:=r6) (by omega) (by omega) m8]
 by_cases k8:r6 - (x.Repair.length:Int)<0
 ·rw[decide_eq_true k8,cond_true]
  exact⟨_,rfl,.inl (by decide)⟩
 rw[decide_eq_false k8,cond_false]
 exact⟨_,rfl,.inr ⟨by omega,by omega,(by show x.Id.length≤1048576;omega),(by simp[iP]),(by simp[iP]),(by show x.Action.length≤1048576;omega),(by simp[iP]),(by simp[iP]),s6,(by simp[iP]),(by show x.Repair.length≤1048576;omega)⟩⟩
theorem OP (a:List Clause)(ha:(rc re) a){l:Int}(h0:0≤l)(h1:l≤1048576):∃r,zq a l=some r∧(r<0∨(0≤r∧r≤l∧(ii gJ) a)):=by
 have hm:a.length≤9223372036854775807:=ha.1
 unfold zq
 rw[kb h0 (by omega) hm]
 by_cases k:l - (a.length:Int)<0
 ·rw[decide_eq_true k,cond_true]
  exact⟨_,rfl,.inl (by decide)⟩
 rw[decide_eq_false k,cond_false]
 have hs:∀x∈a,∀l:Int,0≤l→l≤1048576→∃r,(fun e l=>tz e l) x l=some r∧(r<0∨(0≤r∧r≤l∧gJ x)):=by
  intro x hx l h0 h1
  exact Tt x (ha.2 x hx) h0 h1
 obtain⟨y,hy,q⟩:=Ts (L:=rS a l) (a:=a) (s:=fun e l=>tz e l) (ok:=gJ) (M:=1048576) (by decide) hs (fun x=>by rw[Np,mb]<;>rfl) (by omega) (l:=l - (a.length:Int)) (by omega) (by omega)
 rw[hy]
 rcases q with rfl | ⟨r,rfl,q1,q2,q3⟩
 ·exact⟨_,rfl,.inl (by decide)⟩
 ·exact⟨_,rfl,.inr ⟨q1,by omega,by omega,q3⟩⟩
theorem Mt (x:Contract)(hx:Ul x){l:Int}(h0:0≤l)(h1:l≤1048576):∃r,zw x l=some r∧(r<0∨(0≤r∧r≤l∧eO x)):=by
 unfold zw
 obtain⟨r0,e0,q0⟩:=FQ x.Parties hx.1 (l:=l) (by omega) (by omega)
 rw[e0,Option.bind_some]
 rcases q0 with q0 | ⟨q0,p0,s0⟩
 ·rw[decide_eq_true q0,cond_true]
  exact⟨_,rfl,.inl (by decide)⟩
 rw[decide_eq_false (by omega),cond_false]
 obtain⟨r1,e1,q1⟩:=OP x.Clauses hx.2 (l:=r0) (by omega) (by omega)
 rw[e1,Option.bind_some]
 rcases q1 with q1 | ⟨q1,p1,s1⟩
 ·rw[decide_eq_true q1,cond_true]
  exact⟨_,rfl,.inl (by decide)⟩
 rw[decide_eq_false (by omega),cond_false]
 exact⟨_,rfl,.inr ⟨by omega,by omega,s0,s1⟩⟩
theorem Wo (a:List Duty)(ha:(rc GR) a){l:Int}(h0:0≤l)(h1:l≤1048576):∃r,zy a l=some r∧(r<0∨(0≤r∧r≤l∧(ii oe) a)):=by
 have hm:a.length≤9223372036854775807:=ha.1
 unfold zy
 rw[kb h0 (by omega) hm]
 by_cases k:l - (a.length:Int)<0
 ·rw[decide_eq_true k,cond_true]
  exact⟨_,rfl,.inl (by decide)⟩
 rw[decide_eq_false k,cond_false]
 exact⟨_,rfl,.inr ⟨by omega,by omega,by omega,fun x _=>by simp[oe,iP]⟩⟩
theorem Yx (a:List Int)(ha:(rc mY) a){l:Int}(h0:0≤l)(h1:l≤1048576):∃r,zA a l=some r∧(r<0∨(0≤r∧r≤l∧(ii iP) a)):=by
 have hm:a.length≤9223372036854775807:=ha.1
 unfold zA
 rw[kb h0 (by omega) hm]
 by_cases k:l - (a.length:Int)<0
 ·rw[decide_eq_true k,cond_true]
  exact⟨_,rfl,.inl (by decide)⟩
 rw[decide_eq_false k,cond_false]
 exact⟨_,rfl,.inr ⟨by omega,by omega,by omega,fun x _=>by simp[iP]⟩⟩
theorem Wp (x:State)(hx:Bp x){l:Int}(h0:0≤l)(h1:l≤1048576):∃r,zC x l=some r∧(r<0∨(0≤r∧r≤l∧iL x)):=by
 unfold zC
 obtain⟨r1,e1,q1⟩:=FQ x.Facts hx.2.1 (l:=l) (by omega) (by omega)
 rw[e1,Option.bind_some]
 rcases q1 with q1 | ⟨q1,p1,s1⟩
 ·rw[decide_eq_true q1,cond_true]
  exact⟨_,rfl,.inl (by decide)⟩
 rw[decide_eq_false (by omega),cond_false]
 obtain⟨r2,e2,q2⟩:=Wo x.Duties hx.2.2.1 (l:=r1) (by omega) (by omega)
 rw[e2,Option.bind_some]
 rcases q2 with q2 | ⟨q2,p2,s2⟩
 ·rw[decide_eq_true q2,cond_true]
  exact⟨_,rfl,.inl (by decide)⟩
 rw[decide_eq_false (by omega),cond_false]
 obtain⟨r3,e3,q3⟩:=Yx x.Balances hx.2.2.2.1 (l:=r2) (by omega) (by omega)
 rw[e3,Option.bind_some]
 rcases q3 with q3 | ⟨q3,p3,s3⟩
 ·rw[decide_eq_true q3,cond_true]
  exact⟨_,rfl,.inl (by decide)⟩
 rw[decide_eq_false (by omega),cond_false]
 exact⟨_,rfl,.inr ⟨by omega,by omega,(by simp[iP]),s1,s2,s3,(by simp[smB])⟩⟩
theorem FT (a:List aa)(ha:(ii mN) a):vq a=some a:=by
 have hm:a.length≤1048576:=ha.1
 unfold vq
 rw[wr (by omega) (by omega),Option.bind_some,qq (L:=sa a) (g:=some) (h:=id) (fun _ _=>rfl) (fun x=>by rw[Nx,mg]<;>rfl) (by omega) (by simp)]
 simp
theorem G1 (a:List Condition)(ha:ii cb a)(ih:∀y∈a,cb y→zH y=some y):vm (aN oL) a=some a:=by
 have hm:a.length≤1048576:=ha.1
 unfold vm
 rw[wr (by omega) (by omega),Option.bind_some,qq (L:=pR (aN oL) a) (g:=fun e=>zH e) (h:=id) (fun x hx=>ih x hx (ha.2 x hx)) (fun x=>by rw[Nu,kq]<;>rfl) (by omega) (by simp)]
 simp
theorem Lq (x:Condition):cb x→zH x=some x:=by
 refine fz (P:=fun x=>cb x→zH x=some x) ?_ x
 intro x ih hx
 rw[gt] at hx
 rw[Xf]
 unfold rX
 rw[G1 x.Parts hx.2.2.2.1 ih]
 cases x;rfl
theorem Tv (x:Clause)(hx:gJ x):vj x=some x:=by
 unfold vj
 simp only[Lq x.When hx.2.2.2.2.2.2.1,Option.bind_some]
theorem OU (a:List Clause)(ha:(ii gJ) a):zF a=some a:=by
 have hm:a.length≤1048576:=ha.1
 unfold zF
 rw[wr (by omega) (by omega),Option.bind_some,qq (L:=rV a) (g:=(fun e=>vj e)) (h:=id) (fun x hx=>Tv x (ha.2 x hx)) (fun x=>by rw[Nt,md]<;>rfl) (by omega) (by simp)]
 simp
theorem Mu (x:Contract)(hx:eO x):tB x=some x:=by
 unfold tB
 simp only[FT x.Parties hx.1,OU x.Clauses hx.2,Option.bind_some]
theorem Yy (x:Duty)(hx:oe x):vo x=some x:=by
 unfold vo
 rfl
theorem Wq (a:List Duty)(ha:(ii oe) a):zM a=some a:=by
 have hm:a.length≤1048576:=ha.1
 unfold zM
 rw[wr (by omega) (by omega),Option.bind_some,qq (L:=rY a) (g:=(fun e=>vo e)) (h:=id) (fun x hx=>Yy x (ha.2 x hx)) (fun x=>by rw[Nv,me]<;>rfl) (by omega) (by simp)]
 simp
theorem Yz (a:List Int)(ha:(ii iP) a):zO a=some a:=by
 have hm:a.length≤1048576:=ha.1
 unfold zO
 rw[wr (by omega) (by omega),Option.bind_some,qq (L:=rZ a) (g:=some) (h:=id) (fun _ _=>rfl) (fun x=>by rw[Nw,mf]<;>rfl) (by omega) (by simp)]
 simp
theorem Wr (x:State)(hx:iL x):tC x=some x:=by
 unfold tC
 simp only[FT x.Facts hx.2.1,Wq x.Duties hx.2.2.1,Yz x.Balances hx.2.2.2.1,Option.bind_some]
theorem Fg (a:List aa)(ha:(ii mN) a):vd a a=some true:=by
 have hm:a.length≤1048576:=ha.1
 unfold vd
 rw[bne_self_eq_false,cond_false,sY (a:=a) (L:=rR a a) (p:=(fun e f=>some (e==f))) (fun x _=>by rw[beq_self_eq_true]) (fun x=>by rw[No,ma]<;>rfl) (by omega)]
 rfl
theorem GM (a:List Condition)(ha:ii cb a)(ih:∀y∈a,cb y→zd y y=some true):vb (aN oJ) a a=some true:=by
 have hm:a.length≤1048576:=ha.1
 unfold vb
 rw[bne_self_eq_false,cond_false,sY (a:=a) (L:=pP (aN oJ) a a) (p:=fun e f=>zd e f) (fun x hx=>ih x hx (ha.2 x hx)) (fun x=>by rw[Nl,kn]<;>rfl) (by omega)]
 rfl
theorem Kw (x:Condition):cb x→zd x x=some true:=by
 refine fz (P:=fun x=>cb x→zd x x=some true) ?_ x
 intro x ih hx
 rw[gt] at hx
 rw[Xc]
 unfold rN
 simp[GM x.Parts hx.2.2.2.1 ih]
theorem SE (x:Clause)(hx:gJ x):uY x x=some true:=by
 unfold uY
 simp[Kw x.When hx.2.2.2.2.2.2.1]
theorem N9 (a:List Clause)(ha:(ii gJ) a):zb a a=some true:=by
 have hm:a.length≤1048576:=ha.1
 unfold zb
 rw[bne_self_eq_false,cond_false,sY (a:=a) (L:=rM a a) (p:=(fun e f=>uY e f)) (fun x hx=>SE x (ha.2 x hx)) (fun x=>by rw[Nk,l7]<;>rfl) (by omega)]
 rfl
theorem Mh (x:Contract)(hx:eO x):zg x x=some true:=by
 unfold zg
 simp[Fg x.Parties hx.1,N9 x.Clauses hx.2]
theorem X3 (x:Duty)(hx:oe x):vc x x=some true:=by
 unfold vc
 simp[]
theorem VL (a:List Duty)(ha:(ii oe) a):zj a a=some true:=by
 have hm:a.length≤1048576:=ha.1
 unfold zj
 rw[bne_self_eq_false,cond_false,sY (a:=a) (L:=rO a a) (p:=(fun e f=>vc e f)) (fun x hx=>X3 x (ha.2 x hx)) (fun x=>by rw[Nm,l8]<;>rfl) (by omega)]
 rfl
theorem X4 (a:List Int)(ha:(ii iP) a):zl a a=some true:=by
 have hm:a.length≤1048576:=ha.1
 unfold zl
 rw[bne_self_eq_false,cond_false,sY (a:=a) (L:=rQ a a) (p:=(fun e f=>some (e==f))) (fun x _=>by rw[beq_self_eq_true]) (fun x=>by rw[Nn,l9]<;>rfl) (by omega)]
 rfl
theorem VM (x:State)(hx:iL x):zn x x=some true:=by
 unfold zn
 simp[Fg x.Facts hx.2.1,VL x.Duties hx.2.2.1,X4 x.Balances hx.2.2.2.1]
end Go.Ln
