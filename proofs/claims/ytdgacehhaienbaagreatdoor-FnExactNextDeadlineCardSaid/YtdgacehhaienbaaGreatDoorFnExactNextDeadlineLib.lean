/-
  What the helpers do.
-/
import Derived.Test.YtdgacehhaienbaaGreatDoorFnExactNextDeadlineFun
set_option maxHeartbeats 4000000
set_option linter.unusedVariables false
set_option linter.unusedSimpArgs false
set_option maxRecDepth 100000
namespace Go.Ln
open Go
mutual
def bM:Condition→Nat
 | ⟨_,_,_,a3⟩=>1+bb a3
def bb:List Condition→Nat
 | []=>0
 | x::xs=>bM x+bb xs
end
theorem gh (x:Condition):bM x=1+bb x.Parts:=by cases x;simp only[bM]
theorem iH:∀a,bb a=a.length+(a.map fun x=>bb x.Parts).sum
 | []=>rfl
 | x::xs=>by simp only[bb,gh,iH xs,List.length_cons,List.map_cons,List.sum_cons];omega
mutual
def ch:Condition→Prop
 | ⟨a0,a1,a2,a3⟩=>js a0∧nI a1∧js a2∧(a3.length≤1048576∧kE a3)∧bb a3≤1048576
def kE:List Condition→Prop
 | []=>True
 | x::xs=>ch x∧kE xs
end
theorem qj:∀xs,kE xs↔∀x∈xs,ch x
 | []=>by simp[kE]
 | x::xs=>by simp[kE,qj xs]
theorem gN (x:Condition):ch x↔js x.Op∧nI x.Name∧js x.Day∧iM ch x.Parts∧bb x.Parts≤1048576:=by cases x;simp only[ch,qj,iM]
theorem gn {P:Condition→Prop}(h:∀x,(∀y∈x.Parts,P y)→P x):∀x,P x:=by
 have key:∀(N:Nat) (x:Condition),SizeOf.sizeOf x<N→P x:=by
  intro N
  induction N with
  | zero=>intro x hx;omega
  | succ N ih=>
   intro x hx
   refine h x fun y hy=>ih y ?_
   cases x
   have:=List.sizeOf_lt_of_mem hy
   simp at this hx
   omega
 exact fun x=>key _ x (Nat.lt_succ_self _)
def hI (x:Clause):Prop:=nI x.Id∧js x.Kind∧js x.Party∧nI x.Action∧js x.Other∧js x.Amount∧ch x.When∧js x.Within∧nI x.Repair
def fz (x:Contract):Prop:=(iM nI) x.Parties∧(iM hI) x.Clauses
def pg (x:Duty):Prop:=js x.Clause∧js x.Since∧js x.Due∧js x.Status
def mJ (x:State):Prop:=js x.Day∧(iM nI) x.Facts∧(iM pg) x.Duties∧(iM js) x.Balances∧smB x.Over
theorem GT (a:List ac)(ha:(sh GA) a){l:Int}(h0:0≤l)(h1:l≤1048576):∃r,wi a l=some r∧(r<0∨(0≤r∧r≤l∧(iM nI) a)):=by
 have hm:a.length≤9223372036854775807:=ha.1
 unfold wi
 rw[eH h0 (by omega) hm]
 by_cases k:l - (a.length:Int)<0
 ·rw[decide_eq_true k,cond_true]
  exact⟨_,rfl,.inl (by decide)⟩
 rw[decide_eq_false k,cond_false]
 have hs:∀x∈a,∀l:Int,0≤l→l≤1048576→∃r,(fun e l=>some (ai (l - len e))) x l=some r∧(r<0∨(0≤r∧r≤l∧nI x)):=by
  intro x hx l h0 h1
  have hx:=ha.2 x hx
  refine⟨_,rfl,?_⟩
  rw[eH h0 (by omega) hx]
  by_cases k:l - (x.length:Int)<0
  ·exact .inl k
  ·exact .inr ⟨by omega,by omega,by show x.length≤1048576;omega⟩
 obtain⟨y,hy,q⟩:=UF (L:=sZ a l) (a:=a) (s:=fun e l=>some (ai (l - len e))) (ok:=nI) (M:=1048576) (by decide) hs (fun x=>by rw[OS,mS]<;>rfl) (by omega) (l:=l - (a.length:Int)) (by omega) (by omega)
 rw[hy]
 rcases q with rfl | ⟨r,rfl,q1,q2,q3⟩
 ·exact⟨_,rfl,.inl (by decide)⟩
 ·exact⟨_,rfl,.inr ⟨q1,by omega,by omega,q3⟩⟩
theorem HZ (a:List Condition)(ha:sh oO a)(ih:∀y∈a,oO y→∀l:Int,0≤l→l≤1048576→∃r,wd y l=some r∧(r<0∨(0≤r∧r+((bb y.Parts:Nat):Int)≤l∧ch y))){l:Int}(h0:0≤l)(h1:l≤1048576) :
  ∃r,wh (aK pF) a l=some r∧(r<0∨(0≤r∧r+((bb a:Nat):Int)≤l∧iM ch a)):=by
 have hm:a.length≤9223372036854775807:=ha.1
 unfold wh
 rw[eH h0 (by omega) hm]
 by_cases k:l - (a.length:Int)<0
 ·rw[decide_eq_true k,cond_true]
  exact⟨_,rfl,.inl (by decide)⟩
 rw[decide_eq_false k,cond_false]
 obtain⟨y,hy,q⟩:=ZC (L:=qH (aK pF) a l) (a:=a) (s:=fun e l=>wd e l) (w:=fun x=>bb x.Parts) (ok:=ch) (M:=1048576) (by decide) (fun x hx l h0 h1=>ih x hx (ha.2 x hx) l h0 h1) (fun x=>by rw[OQ,lb]<;>rfl) (by omega) (l:=l - (a.length:Int)) (by omega) (by omega)
 rw[hy]
 rcases q with rfl | ⟨r,rfl,q1,q2,q3⟩
 ·exact⟨_,rfl,.inl (by decide)⟩
 ·exact⟨_,rfl,.inr ⟨q1,by rw[iH];omega,by show a.length≤1048576;omega,q3⟩⟩
theorem I8 (x:Condition):oO x→∀l:Int,0≤l→l≤1048576→∃r,wd x l=some r∧(r<0∨(0≤r∧r+((bb x.Parts:Nat):Int)≤l∧ch x)):=by
 refine gn (P:=fun x=>oO x→∀l:Int,0≤l→l≤1048576→∃r,wd x l=some r∧(r<0∨(0≤r∧r+((bb x.Parts:Nat):Int)≤l∧ch x))) ?_ x
 intro x ih hx l h0 h1
 rw[Kw] at hx
 rw[Yj]
 unfold sY
 have m1:x.Name.length≤9223372036854775807:=hx.2.1
 rw[eH (l:=l) (by omega) (by omega) m1]
 by_cases k1:l - (x.Name.length:Int)<0
 ·rw[decide_eq_true k1,cond_true]
  exact⟨_,rfl,.inl (by decide)⟩
 rw[decide_eq_false k1,cond_false]
 obtain⟨r3,e3,q3⟩:=HZ x.Parts hx.2.2.2 ih (l:=(l - (x.Name.length:Int))) (by omega) (by omega)
 rw[e3,Option.bind_some]
 rcases q3 with q3 | ⟨q3,p3,s3⟩
 ·rw[decide_eq_true q3,cond_true]
  exact⟨_,rfl,.inl (by decide)⟩
 rw[decide_eq_false (by omega),cond_false]
 exact⟨_,rfl,.inr ⟨by omega,by omega,(gN x).2 ⟨(by simp[js]),(by show x.Name.length≤1048576;omega),(by simp[js]),s3,by omega⟩⟩⟩
theorem My (x:Condition)(hx:oO x){l:Int}(h0:0≤l)(h1:l≤1048576):∃r,wd x l=some r∧(r<0∨(0≤r∧r≤l∧ch x)):=by
 obtain⟨r,h,q⟩:=I8 x hx l h0 h1
 exact⟨r,h,q.imp id fun⟨q1,q2,q3⟩=>⟨q1,by omega,q3⟩⟩
theorem UG (x:Clause)(hx:si x){l:Int}(h0:0≤l)(h1:l≤1048576):∃r,uE x l=some r∧(r<0∨(0≤r∧r≤l∧hI x)):=by
 unfold uE
 have m0:x.Id.length≤9223372036854775807:=hx.1
 rw[eH (l:=l) (by omega) (by omega) m0]
 by_cases k0:l - (x.Id.length:Int)<0
 ·rw[decide_eq_true k0,cond_true]
  exact⟨_,rfl,.inl (by decide)⟩
 rw[decide_eq_false k0,cond_false]
 have m3:x.Action.length≤9223372036854775807:=hx.2.2.2.1
 rw[eH (l:=(l - (x.Id.length:Int))) (by omega) (by omega) m3]
 by_cases k3:(l - (x.Id.length:Int)) - (x.Action.length:Int)<0
 ·rw[decide_eq_true k3,cond_true]
  exact⟨_,rfl,.inl (by decide)⟩
 rw[decide_eq_false k3,cond_false]
 obtain⟨r6,e6,q6⟩:=My x.When hx.2.2.2.2.2.2.1 (l:=((l - (x.Id.length:Int)) - (x.Action.length:Int))) (by omega) (by omega)
 rw[e6,Option.bind_some]
 rcases q6 with q6 | ⟨q6,p6,s6⟩
 ·rw[decide_eq_true q6,cond_true]
  exact⟨_,rfl,.inl (by decide)⟩
 rw[decide_eq_false (by omega),cond_false]
 have m8:x.Repair.length≤9223372036854775807:=hx.2.2.2.2.2.2.2.2
 rw[eH (l:=r6) (by omega) (by omega) m8]
 by_cases k8:r6 - (x.Repair.length:Int)<0
 ·rw[decide_eq_true k8,cond_true]
  exact⟨_,rfl,.inl (by decide)⟩
 rw[decide_eq_false k8,cond_false]
 exact⟨_,rfl,.inr ⟨by omega,by omega,(by show x.Id.length≤1048576;omega),(by simp[js]),(by simp[js]),(by show x.Action.length≤1048576;omega),(by simp[js]),(by simp[js]),s6,(by simp[js]),(by show x.Repair.length≤1048576;omega)⟩⟩
theorem Qa (a:List Clause)(ha:(sh si) a){l:Int}(h0:0≤l)(h1:l≤1048576):∃r,AM a l=some r∧(r<0∨(0≤r∧r≤l∧(iM hI) a)):=by
 have hm:a.length≤9223372036854775807:=ha.1
 unfold AM
 rw[eH h0 (by omega) hm]
 by_cases k:l - (a.length:Int)<0
 ·rw[decide_eq_true k,cond_true]
  exact⟨_,rfl,.inl (by decide)⟩
 rw[decide_eq_false k,cond_false]
 have hs:∀x∈a,∀l:Int,0≤l→l≤1048576→∃r,(fun e l=>uE e l) x l=some r∧(r<0∨(0≤r∧r≤l∧hI x)):=by
  intro x hx l h0 h1
  exact UG x (ha.2 x hx) h0 h1
 obtain⟨y,hy,q⟩:=UF (L:=sX a l) (a:=a) (s:=fun e l=>uE e l) (ok:=hI) (M:=1048576) (by decide) hs (fun x=>by rw[OP,mR]<;>rfl) (by omega) (l:=l - (a.length:Int)) (by omega) (by omega)
 rw[hy]
 rcases q with rfl | ⟨r,rfl,q1,q2,q3⟩
 ·exact⟨_,rfl,.inl (by decide)⟩
 ·exact⟨_,rfl,.inr ⟨q1,by omega,by omega,q3⟩⟩
theorem NO (x:Contract)(hx:Vs x){l:Int}(h0:0≤l)(h1:l≤1048576):∃r,AQ x l=some r∧(r<0∨(0≤r∧r≤l∧fz x)):=by
 unfold AQ
 obtain⟨r0,e0,q0⟩:=GT x.Parties hx.1 (l:=l) (by omega) (by omega)
 rw[e0,Option.bind_some]
 rcases q0 with q0 | ⟨q0,p0,s0⟩
 ·rw[decide_eq_true q0,cond_true]
  exact⟨_,rfl,.inl (by decide)⟩
 rw[decide_eq_false (by omega),cond_false]
 obtain⟨r1,e1,q1⟩:=Qa x.Clauses hx.2 (l:=r0) (by omega) (by omega)
 rw[e1,Option.bind_some]
 rcases q1 with q1 | ⟨q1,p1,s1⟩
 ·rw[decide_eq_true q1,cond_true]
  exact⟨_,rfl,.inl (by decide)⟩
 rw[decide_eq_false (by omega),cond_false]
 exact⟨_,rfl,.inr ⟨by omega,by omega,s0,s1⟩⟩
theorem Xu (a:List Duty)(ha:(sh HT) a){l:Int}(h0:0≤l)(h1:l≤1048576):∃r,AU a l=some r∧(r<0∨(0≤r∧r≤l∧(iM pg) a)):=by
 have hm:a.length≤9223372036854775807:=ha.1
 unfold AU
 rw[eH h0 (by omega) hm]
 by_cases k:l - (a.length:Int)<0
 ·rw[decide_eq_true k,cond_true]
  exact⟨_,rfl,.inl (by decide)⟩
 rw[decide_eq_false k,cond_false]
 exact⟨_,rfl,.inr ⟨by omega,by omega,by omega,fun x _=>by simp[pg,js]⟩⟩
theorem ZD (a:List Int)(ha:(sh pM) a){l:Int}(h0:0≤l)(h1:l≤1048576):∃r,AW a l=some r∧(r<0∨(0≤r∧r≤l∧(iM js) a)):=by
 have hm:a.length≤9223372036854775807:=ha.1
 unfold AW
 rw[eH h0 (by omega) hm]
 by_cases k:l - (a.length:Int)<0
 ·rw[decide_eq_true k,cond_true]
  exact⟨_,rfl,.inl (by decide)⟩
 rw[decide_eq_false k,cond_false]
 exact⟨_,rfl,.inr ⟨by omega,by omega,by omega,fun x _=>by simp[js]⟩⟩
theorem Xv (x:State)(hx:Cw x){l:Int}(h0:0≤l)(h1:l≤1048576):∃r,AY x l=some r∧(r<0∨(0≤r∧r≤l∧mJ x)):=by
 unfold AY
 obtain⟨r1,e1,q1⟩:=GT x.Facts hx.2.1 (l:=l) (by omega) (by omega)
 rw[e1,Option.bind_some]
 rcases q1 with q1 | ⟨q1,p1,s1⟩
 ·rw[decide_eq_true q1,cond_true]
  exact⟨_,rfl,.inl (by decide)⟩
 rw[decide_eq_false (by omega),cond_false]
 obtain⟨r2,e2,q2⟩:=Xu x.Duties hx.2.2.1 (l:=r1) (by omega) (by omega)
 rw[e2,Option.bind_some]
 rcases q2 with q2 | ⟨q2,p2,s2⟩
 ·rw[decide_eq_true q2,cond_true]
  exact⟨_,rfl,.inl (by decide)⟩
 rw[decide_eq_false (by omega),cond_false]
 obtain⟨r3,e3,q3⟩:=ZD x.Balances hx.2.2.2.1 (l:=r2) (by omega) (by omega)
 rw[e3,Option.bind_some]
 rcases q3 with q3 | ⟨q3,p3,s3⟩
 ·rw[decide_eq_true q3,cond_true]
  exact⟨_,rfl,.inl (by decide)⟩
 rw[decide_eq_false (by omega),cond_false]
 exact⟨_,rfl,.inr ⟨by omega,by omega,(by simp[js]),s1,s2,s3,(by simp[smB])⟩⟩
theorem GW (a:List ac)(ha:(iM nI) a):wt a=some a:=by
 have hm:a.length≤1048576:=ha.1
 unfold wt
 rw[xA (by omega) (by omega),Option.bind_some,rl (L:=tg a) (g:=some) (h:=id) (fun _ _=>rfl) (fun x=>by rw[OX,mW]<;>rfl) (by omega) (by simp)]
 simp
theorem H0 (a:List Condition)(ha:iM ch a)(ih:∀y∈a,ch y→A8 y=some y):wn (aK pG) a=some a:=by
 have hm:a.length≤1048576:=ha.1
 unfold wn
 rw[xA (by omega) (by omega),Option.bind_some,rl (L:=qI (aK pG) a) (g:=fun e=>A8 e) (h:=id) (fun x hx=>ih x hx (ha.2 x hx)) (fun x=>by rw[OU,lc]<;>rfl) (by omega) (by simp)]
 simp
theorem MA (x:Condition):ch x→A8 x=some x:=by
 refine gn (P:=fun x=>ch x→A8 x=some x) ?_ x
 intro x ih hx
 rw[gN] at hx
 rw[Yl]
 unfold tc
 rw[H0 x.Parts hx.2.2.2.1 ih]
 cases x;rfl
theorem UI (x:Clause)(hx:hI x):wj x=some x:=by
 unfold wj
 simp only[MA x.When hx.2.2.2.2.2.2.1,Option.bind_some]
theorem Qf (a:List Clause)(ha:(iM hI) a):A6 a=some a:=by
 have hm:a.length≤1048576:=ha.1
 unfold A6
 rw[xA (by omega) (by omega),Option.bind_some,rl (L:=ta a) (g:=(fun e=>wj e)) (h:=id) (fun x hx=>UI x (ha.2 x hx)) (fun x=>by rw[OT,mT]<;>rfl) (by omega) (by simp)]
 simp
theorem NP (x:Contract)(hx:fz x):uG x=some x:=by
 unfold uG
 simp only[GW x.Parties hx.1,Qf x.Clauses hx.2,Option.bind_some]
theorem ZE (x:Duty)(hx:pg x):wq x=some x:=by
 unfold wq
 rfl
theorem Xw (a:List Duty)(ha:(iM pg) a):Bd a=some a:=by
 have hm:a.length≤1048576:=ha.1
 unfold Bd
 rw[xA (by omega) (by omega),Option.bind_some,rl (L:=te a) (g:=(fun e=>wq e)) (h:=id) (fun x hx=>ZE x (ha.2 x hx)) (fun x=>by rw[OV,mU]<;>rfl) (by omega) (by simp)]
 simp
theorem ZF (a:List Int)(ha:(iM js) a):Bf a=some a:=by
 have hm:a.length≤1048576:=ha.1
 unfold Bf
 rw[xA (by omega) (by omega),Option.bind_some,rl (L:=tf a) (g:=some) (h:=id) (fun _ _=>rfl) (fun x=>by rw[OW,mV]<;>rfl) (by omega) (by simp)]
 simp
theorem Xx (x:State)(hx:mJ x):uH x=some x:=by
 unfold uH
 simp only[GW x.Facts hx.2.1,Xw x.Duties hx.2.2.1,ZF x.Balances hx.2.2.2.1,Option.bind_some]
theorem Gf (a:List ac)(ha:(iM nI) a):wc a a=some true:=by
 have hm:a.length≤1048576:=ha.1
 unfold wc
 rw[bne_self_eq_false,cond_false,tY (a:=a) (L:=sW a a) (p:=(fun e f=>some (e==f))) (fun x _=>by rw[beq_self_eq_true]) (fun x=>by rw[OO,mQ]<;>rfl) (by omega)]
 rfl
theorem HM (a:List Condition)(ha:iM ch a)(ih:∀y∈a,ch y→Ay y y=some true):wa (aK pE) a a=some true:=by
 have hm:a.length≤1048576:=ha.1
 unfold wa
 rw[bne_self_eq_false,cond_false,tY (a:=a) (L:=qG (aK pE) a a) (p:=fun e f=>Ay e f) (fun x hx=>ih x hx (ha.2 x hx)) (fun x=>by rw[OK,la]<;>rfl) (by omega)]
 rfl
theorem LK (x:Condition):ch x→Ay x x=some true:=by
 refine gn (P:=fun x=>ch x→Ay x x=some true) ?_ x
 intro x ih hx
 rw[gN] at hx
 rw[Yi]
 unfold sS
 simp[HM x.Parts hx.2.2.2.1 ih]
theorem TM (x:Clause)(hx:hI x):v6 x x=some true:=by
 unfold v6
 simp[LK x.When hx.2.2.2.2.2.2.1]
theorem PC (a:List Clause)(ha:(iM hI) a):Av a a=some true:=by
 have hm:a.length≤1048576:=ha.1
 unfold Av
 rw[bne_self_eq_false,cond_false,tY (a:=a) (L:=sR a a) (p:=(fun e f=>v6 e f)) (fun x hx=>TM x (ha.2 x hx)) (fun x=>by rw[OJ,mN]<;>rfl) (by omega)]
 rfl
theorem NC (x:Contract)(hx:fz x):AC x x=some true:=by
 unfold AC
 simp[Gf x.Parties hx.1,PC x.Clauses hx.2]
theorem Y8 (x:Duty)(hx:pg x):wb x x=some true:=by
 unfold wb
 simp[]
theorem WR (a:List Duty)(ha:(iM pg) a):AF a a=some true:=by
 have hm:a.length≤1048576:=ha.1
 unfold AF
 rw[bne_self_eq_false,cond_false,tY (a:=a) (L:=sU a a) (p:=(fun e f=>wb e f)) (fun x hx=>Y8 x (ha.2 x hx)) (fun x=>by rw[OL,mO]<;>rfl) (by omega)]
 rfl
theorem Y9 (a:List Int)(ha:(iM js) a):AH a a=some true:=by
 have hm:a.length≤1048576:=ha.1
 unfold AH
 rw[bne_self_eq_false,cond_false,tY (a:=a) (L:=sV a a) (p:=(fun e f=>some (e==f))) (fun x _=>by rw[beq_self_eq_true]) (fun x=>by rw[OM,mP]<;>rfl) (by omega)]
 rfl
theorem WS (x:State)(hx:mJ x):AJ x x=some true:=by
 unfold AJ
 simp[Gf x.Facts hx.2.1,WR x.Duties hx.2.2.1,Y9 x.Balances hx.2.2.2.1]
end Go.Ln
