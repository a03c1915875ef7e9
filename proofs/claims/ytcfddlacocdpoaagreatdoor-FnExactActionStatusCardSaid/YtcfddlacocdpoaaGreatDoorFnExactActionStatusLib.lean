/-
  What the helpers do.
-/
import Derived.Test.YtcfddlacocdpoaaGreatDoorFnExactActionStatusFun
set_option maxHeartbeats 4000000
set_option linter.unusedVariables false
set_option linter.unusedSimpArgs false
set_option maxRecDepth 100000
namespace Go.Ln
open Go
mutual
def b8:Condition→Nat
 | ⟨_,_,_,a3⟩=>1+bn a3
def bn:List Condition→Nat
 | []=>0
 | x::xs=>b8 x+bn xs
end
theorem gR (x:Condition):b8 x=1+bn x.Parts:=by cases x;simp only[b8]
theorem jj:∀a,bn a=a.length+(a.map fun x=>bn x.Parts).sum
 | []=>rfl
 | x::xs=>by simp only[bn,gR,jj xs,List.length_cons,List.map_cons,List.sum_cons];omega
mutual
def cB:Condition→Prop
 | ⟨a0,a1,a2,a3⟩=>jZ a0∧oS a1∧jZ a2∧(a3.length≤1048576∧ln a3)∧bn a3≤1048576
def ln:List Condition→Prop
 | []=>True
 | x::xs=>cB x∧ln xs
end
theorem rn:∀xs,ln xs↔∀x∈xs,cB x
 | []=>by simp[ln]
 | x::xs=>by simp[ln,rn xs]
theorem iw (x:Condition):cB x↔jZ x.Op∧oS x.Name∧jZ x.Day∧jp cB x.Parts∧bn x.Parts≤1048576:=by cases x;simp only[cB,rn,jp]
theorem gt {P:Condition→Prop}(h:∀x,(∀y∈x.Parts,P y)→P x):∀x,P x:=by
 have key:∀(N:Nat) (x:Condition),SizeOf.sizeOf x<N→P x:=by
  intro N
  induction N with
  | zero=>intro x hx;omega
  | succ N ih=>
   intro x hx
   refine h x fun y hy=>ih y ?_
   cases x
   have:=List.sizeOf_lt_of_mem hy
   simp at this hx
   omega
 exact fun x=>key _ x (Nat.lt_succ_self _)
def iH (x:Clause):Prop:=oS x.Id∧jZ x.Kind∧jZ x.Party∧oS x.Action∧jZ x.Other∧jZ x.Amount∧cB x.When∧jZ x.Within∧oS x.Repair
def fN (x:Contract):Prop:=(jp oS) x.Parties∧(jp iH) x.Clauses
def qg (x:Duty):Prop:=jZ x.Clause∧jZ x.Since∧jZ x.Due∧jZ x.Status
def jW (x:State):Prop:=jZ x.Day∧(jp oS) x.Facts∧(jp qg) x.Duties∧(jp jZ) x.Balances∧smB x.Over
theorem JF (a:List ac)(ha:(tB zg) a){l:Int}(h0:0≤l)(h1:l≤1048576):∃r,xD a l=some r∧(r<0∨(0≤r∧r≤l∧(jp oS) a)):=by
 have hm:a.length≤9223372036854775807:=ha.1
 unfold xD
 rw[fh h0 (by omega) hm]
 by_cases k:l - (a.length:Int)<0
 ·rw[decide_eq_true k,cond_true]
  exact⟨_,rfl,.inl (by decide)⟩
 rw[decide_eq_false k,cond_false]
 have hs:∀x∈a,∀l:Int,0≤l→l≤1048576→∃r,(fun e l=>some (aj (l - len e))) x l=some r∧(r<0∨(0≤r∧r≤l∧oS x)):=by
  intro x hx l h0 h1
  have hx:=ha.2 x hx
  refine⟨_,rfl,?_⟩
  rw[fh h0 (by omega) hx]
  by_cases k:l - (x.length:Int)<0
  ·exact .inl k
  ·exact .inr ⟨by omega,by omega,by show x.length≤1048576;omega⟩
 obtain⟨y,hy,q⟩:=Yz (L:=ur a l) (a:=a) (s:=fun e l=>some (aj (l - len e))) (ok:=oS) (M:=1048576) (by decide) hs (fun x=>by rw[RX,nV]<;>rfl) (by omega) (l:=l - (a.length:Int)) (by omega) (by omega)
 rw[hy]
 rcases q with rfl | ⟨r,rfl,q1,q2,q3⟩
 ·exact⟨_,rfl,.inl (by decide)⟩
 ·exact⟨_,rfl,.inr ⟨q1,by omega,by omega,q3⟩⟩
theorem KU (a:List Condition)(ha:tB pM a)(ih:∀y∈a,pM y→∀l:Int,0≤l→l≤1048576→∃r,xz y l=some r∧(r<0∨(0≤r∧r+((bn y.Parts:Nat):Int)≤l∧cB y))){l:Int}(h0:0≤l)(h1:l≤1048576) :
  ∃r,xC (aN qC) a l=some r∧(r<0∨(0≤r∧r+((bn a:Nat):Int)≤l∧jp cB a)):=by
 have hm:a.length≤9223372036854775807:=ha.1
 unfold xC
 rw[fh h0 (by omega) hm]
 by_cases k:l - (a.length:Int)<0
 ·rw[decide_eq_true k,cond_true]
  exact⟨_,rfl,.inl (by decide)⟩
 rw[decide_eq_false k,cond_false]
 obtain⟨y,hy,q⟩:=ad3 (L:=rS (aN qC) a l) (a:=a) (s:=fun e l=>xz e l) (w:=fun x=>bn x.Parts) (ok:=cB) (M:=1048576) (by decide) (fun x hx l h0 h1=>ih x hx (ha.2 x hx) l h0 h1) (fun x=>by rw[RV,lS]<;>rfl) (by omega) (l:=l - (a.length:Int)) (by omega) (by omega)
 rw[hy]
 rcases q with rfl | ⟨r,rfl,q1,q2,q3⟩
 ·exact⟨_,rfl,.inl (by decide)⟩
 ·exact⟨_,rfl,.inr ⟨q1,by rw[jj];omega,by show a.length≤1048576;omega,q3⟩⟩
theorem L1 (x:Condition):pM x→∀l:Int,0≤l→l≤1048576→∃r,xz x l=some r∧(r<0∨(0≤r∧r+((bn x.Parts:Nat):Int)≤l∧cB x)):=by
 refine gt (P:=fun x=>pM x→∀l:Int,0≤l→l≤1048576→∃r,xz x l=some r∧(r<0∨(0≤r∧r+((bn x.Parts:Nat):Int)≤l∧cB x))) ?_ x
 intro x ih hx l h0 h1
 rw[Nt] at hx
 rw[acD]
 unfold uq
 have m1:x.Name.length≤9223372036854775807:=hx.2.1
 rw[fh (l:=l) (by omega) (by omega) m1]
 by_cases k1:l - (x.Name.length:Int)<0
 ·rw[decide_eq_true k1,cond_true]
  exact⟨_,rfl,.inl (by decide)⟩
 rw[decide_eq_false k1,cond_false]
 obtain⟨r3,e3,q3⟩:=KU x.Parts hx.2.2.2 ih (l:=(l - (x.Name.length:Int))) (by omega) (by omega)
 rw[e3,Option.bind_some]
 rcases q3 with q3 | ⟨q3,p3,s3⟩
 ·rw[decide_eq_true q3,cond_true]
  exact⟨_,rfl,.inl (by decide)⟩
 rw[decide_eq_false (by omega),cond_false]
 exact⟨_,rfl,.inr ⟨by omega,by omega,(iw x).2 ⟨(by simp[jZ]),(by show x.Name.length≤1048576;omega),(by simp[jZ]),s3,by omega⟩⟩⟩
theorem Py (x:Condition)(hx:pM x){l:Int}(h0:0≤l)(h1:l≤1048576):∃r,xz x l=some r∧(r<0∨(0≤r∧r≤l∧cB x)):=by
 obtain⟨r,h,q⟩:=L1 x hx l h0 h1
 exact⟨r,h,q.imp id fun⟨q1,q2,q3⟩=>⟨q1,by omega,q3⟩⟩
theorem YA (x:Clause)(hx:tD x){l:Int}(h0:0≤l)(h1:l≤1048576):∃r,vR x l=some r∧(r<0∨(0≤r∧r≤l∧iH x)):=by
 unfold vR
 have m0:x.Id.length≤9223372036854775807:=hx.1
 rw[fh (l:=l) (by omega) (by omega) m0]
 by_cases k0:l - (x.Id.length:Int)<0
 ·rw[decide_eq_true k0,cond_true]
  exact⟨_,rfl,.inl (by decide)⟩
 rw[decide_eq_false k0,cond_false]
 have m3:x.Action.length≤9223372036854775807:=hx.2.2.2.1
 rw[fh (l:=(l - (x.Id.length:Int))) (by omega) (by omega) m3]
 by_cases k3:(l - (x.Id.length:Int)) - (x.Action.length:Int)<0
 ·rw[decide_eq_true k3,cond_true]
  exact⟨_,rfl,.inl (by decide)⟩
 rw[decide_eq_false k3,cond_false]
 obtain⟨r6,e6,q6⟩:=Py x.When hx.2.2.2.2.2.2.1 (l:=((l - (x.Id.length:Int)) - (x.Action.length:Int))) (by omega) (by omega)
 rw[e6,Option.bind_some]
 rcases q6 with q6 | ⟨q6,p6,s6⟩
 ·rw[decide_eq_true q6,cond_true]
  exact⟨_,rfl,.inl (by decide)⟩
 rw[decide_eq_false (by omega),cond_false]
 have m8:x.Repair.length≤9223372036854775807:=hx.2.2.2.2.2.2.2.2
 rw[fh (l:=r6) (by omega) (by omega) m8]
 by_cases k8:r6 - (x.Repair.length:Int)<0
 ·rw[decide_eq_true k8,cond_true]
  exact⟨_,rfl,.inl (by decide)⟩
 rw[decide_eq_false k8,cond_false]
 exact⟨_,rfl,.inr ⟨by omega,by omega,(by show x.Id.length≤1048576;omega),(by simp[jZ]),(by simp[jZ]),(by show x.Action.length≤1048576;omega),(by simp[jZ]),(by simp[jZ]),s6,(by simp[jZ]),(by show x.Repair.length≤1048576;omega)⟩⟩
theorem Tp (a:List Clause)(ha:(tB tD) a){l:Int}(h0:0≤l)(h1:l≤1048576):∃r,Cw a l=some r∧(r<0∨(0≤r∧r≤l∧(jp iH) a)):=by
 have hm:a.length≤9223372036854775807:=ha.1
 unfold Cw
 rw[fh h0 (by omega) hm]
 by_cases k:l - (a.length:Int)<0
 ·rw[decide_eq_true k,cond_true]
  exact⟨_,rfl,.inl (by decide)⟩
 rw[decide_eq_false k,cond_false]
 have hs:∀x∈a,∀l:Int,0≤l→l≤1048576→∃r,(fun e l=>vR e l) x l=some r∧(r<0∨(0≤r∧r≤l∧iH x)):=by
  intro x hx l h0 h1
  exact YA x (ha.2 x hx) h0 h1
 obtain⟨y,hy,q⟩:=Yz (L:=uo a l) (a:=a) (s:=fun e l=>vR e l) (ok:=iH) (M:=1048576) (by decide) hs (fun x=>by rw[RU,nU]<;>rfl) (by omega) (l:=l - (a.length:Int)) (by omega) (by omega)
 rw[hy]
 rcases q with rfl | ⟨r,rfl,q1,q2,q3⟩
 ·exact⟨_,rfl,.inl (by decide)⟩
 ·exact⟨_,rfl,.inr ⟨q1,by omega,by omega,q3⟩⟩
theorem QS (x:Contract)(hx:Zu x){l:Int}(h0:0≤l)(h1:l≤1048576):∃r,CA x l=some r∧(r<0∨(0≤r∧r≤l∧fN x)):=by
 unfold CA
 obtain⟨r0,e0,q0⟩:=JF x.Parties hx.1 (l:=l) (by omega) (by omega)
 rw[e0,Option.bind_some]
 rcases q0 with q0 | ⟨q0,p0,s0⟩
 ·rw[decide_eq_true q0,cond_true]
  exact⟨_,rfl,.inl (by decide)⟩
 rw[decide_eq_false (by omega),cond_false]
 obtain⟨r1,e1,q1⟩:=Tp x.Clauses hx.2 (l:=r0) (by omega) (by omega)
 rw[e1,Option.bind_some]
 rcases q1 with q1 | ⟨q1,p1,s1⟩
 ·rw[decide_eq_true q1,cond_true]
  exact⟨_,rfl,.inl (by decide)⟩
 rw[decide_eq_false (by omega),cond_false]
 exact⟨_,rfl,.inr ⟨by omega,by omega,s0,s1⟩⟩
theorem abI (a:List Duty)(ha:(tB KN) a){l:Int}(h0:0≤l)(h1:l≤1048576):∃r,CC a l=some r∧(r<0∨(0≤r∧r≤l∧(jp qg) a)):=by
 have hm:a.length≤9223372036854775807:=ha.1
 unfold CC
 rw[fh h0 (by omega) hm]
 by_cases k:l - (a.length:Int)<0
 ·rw[decide_eq_true k,cond_true]
  exact⟨_,rfl,.inl (by decide)⟩
 rw[decide_eq_false k,cond_false]
 exact⟨_,rfl,.inr ⟨by omega,by omega,by omega,fun x _=>by simp[qg,jZ]⟩⟩
theorem ad4 (a:List Int)(ha:(tB pc) a){l:Int}(h0:0≤l)(h1:l≤1048576):∃r,CE a l=some r∧(r<0∨(0≤r∧r≤l∧(jp jZ) a)):=by
 have hm:a.length≤9223372036854775807:=ha.1
 unfold CE
 rw[fh h0 (by omega) hm]
 by_cases k:l - (a.length:Int)<0
 ·rw[decide_eq_true k,cond_true]
  exact⟨_,rfl,.inl (by decide)⟩
 rw[decide_eq_false k,cond_false]
 exact⟨_,rfl,.inr ⟨by omega,by omega,by omega,fun x _=>by simp[jZ]⟩⟩
theorem abJ (x:State)(hx:En x){l:Int}(h0:0≤l)(h1:l≤1048576):∃r,CG x l=some r∧(r<0∨(0≤r∧r≤l∧jW x)):=by
 unfold CG
 obtain⟨r1,e1,q1⟩:=JF x.Facts hx.2.1 (l:=l) (by omega) (by omega)
 rw[e1,Option.bind_some]
 rcases q1 with q1 | ⟨q1,p1,s1⟩
 ·rw[decide_eq_true q1,cond_true]
  exact⟨_,rfl,.inl (by decide)⟩
 rw[decide_eq_false (by omega),cond_false]
 obtain⟨r2,e2,q2⟩:=abI x.Duties hx.2.2.1 (l:=r1) (by omega) (by omega)
 rw[e2,Option.bind_some]
 rcases q2 with q2 | ⟨q2,p2,s2⟩
 ·rw[decide_eq_true q2,cond_true]
  exact⟨_,rfl,.inl (by decide)⟩
 rw[decide_eq_false (by omega),cond_false]
 obtain⟨r3,e3,q3⟩:=ad4 x.Balances hx.2.2.2.1 (l:=r2) (by omega) (by omega)
 rw[e3,Option.bind_some]
 rcases q3 with q3 | ⟨q3,p3,s3⟩
 ·rw[decide_eq_true q3,cond_true]
  exact⟨_,rfl,.inl (by decide)⟩
 rw[decide_eq_false (by omega),cond_false]
 exact⟨_,rfl,.inr ⟨by omega,by omega,(by simp[jZ]),s1,s2,s3,(by simp[smB])⟩⟩
theorem JI (a:List ac)(ha:(jp oS) a):xL a=some a:=by
 have hm:a.length≤1048576:=ha.1
 unfold xL
 rw[zb (by omega) (by omega),Option.bind_some,sE (L:=uA a) (g:=some) (h:=id) (fun _ _=>rfl) (fun x=>by rw[R4,nZ]<;>rfl) (by omega) (by simp)]
 simp
theorem KV (a:List Condition)(ha:jp cB a)(ih:∀y∈a,cB y→CL y=some y):xH (aN qD) a=some a:=by
 have hm:a.length≤1048576:=ha.1
 unfold xH
 rw[zb (by omega) (by omega),Option.bind_some,sE (L:=rT (aN qD) a) (g:=fun e=>CL e) (h:=id) (fun x hx=>ih x hx (ha.2 x hx)) (fun x=>by rw[RZ,lT]<;>rfl) (by omega) (by simp)]
 simp
theorem PA (x:Condition):cB x→CL x=some x:=by
 refine gt (P:=fun x=>cB x→CL x=some x) ?_ x
 intro x ih hx
 rw[iw] at hx
 rw[acE]
 unfold uu
 rw[KV x.Parts hx.2.2.2.1 ih]
 cases x;rfl
theorem YC (x:Clause)(hx:iH x):xE x=some x:=by
 unfold xE
 simp only[PA x.When hx.2.2.2.2.2.2.1,Option.bind_some]
theorem Tt (a:List Clause)(ha:(jp iH) a):CJ a=some a:=by
 have hm:a.length≤1048576:=ha.1
 unfold CJ
 rw[zb (by omega) (by omega),Option.bind_some,sE (L:=ut a) (g:=(fun e=>xE e)) (h:=id) (fun x hx=>YC x (ha.2 x hx)) (fun x=>by rw[RY,nW]<;>rfl) (by omega) (by simp)]
 simp
theorem QT (x:Contract)(hx:fN x):vT x=some x:=by
 unfold vT
 simp only[JI x.Parties hx.1,Tt x.Clauses hx.2,Option.bind_some]
theorem ad5 (x:Duty)(hx:qg x):xJ x=some x:=by
 unfold xJ
 rfl
theorem abK (a:List Duty)(ha:(jp qg) a):CQ a=some a:=by
 have hm:a.length≤1048576:=ha.1
 unfold CQ
 rw[zb (by omega) (by omega),Option.bind_some,sE (L:=uw a) (g:=(fun e=>xJ e)) (h:=id) (fun x hx=>ad5 x (ha.2 x hx)) (fun x=>by rw[R1,nX]<;>rfl) (by omega) (by simp)]
 simp
theorem ad6 (a:List Int)(ha:(jp jZ) a):CS a=some a:=by
 have hm:a.length≤1048576:=ha.1
 unfold CS
 rw[zb (by omega) (by omega),Option.bind_some,sE (L:=uz a) (g:=some) (h:=id) (fun _ _=>rfl) (fun x=>by rw[R3,nY]<;>rfl) (by omega) (by simp)]
 simp
theorem abL (x:State)(hx:jW x):vU x=some x:=by
 unfold vU
 simp only[JI x.Facts hx.2.1,abK x.Duties hx.2.2.1,ad6 x.Balances hx.2.2.2.1,Option.bind_some]
theorem I4 (a:List ac)(ha:(jp oS) a):xy a a=some true:=by
 have hm:a.length≤1048576:=ha.1
 unfold xy
 rw[bne_self_eq_false,cond_false,vw (a:=a) (L:=un a a) (p:=(fun e f=>some (e==f))) (fun x _=>by rw[beq_self_eq_true]) (fun x=>by rw[RR,nT]<;>rfl) (by omega)]
 rfl
theorem KG (a:List Condition)(ha:jp cB a)(ih:∀y∈a,cB y→Cg y y=some true):xu (aN qB) a a=some true:=by
 have hm:a.length≤1048576:=ha.1
 unfold xu
 rw[bne_self_eq_false,cond_false,vw (a:=a) (L:=rR (aN qB) a a) (p:=fun e f=>Cg e f) (fun x hx=>ih x hx (ha.2 x hx)) (fun x=>by rw[RO,lR]<;>rfl) (by omega)]
 rfl
theorem OJ (x:Condition):cB x→Cg x x=some true:=by
 refine gt (P:=fun x=>cB x→Cg x x=some true) ?_ x
 intro x ih hx
 rw[iw] at hx
 rw[acB]
 unfold uk
 simp[KG x.Parts hx.2.2.2.1 ih]
theorem XI (x:Clause)(hx:iH x):xq x x=some true:=by
 unfold xq
 simp[OJ x.When hx.2.2.2.2.2.2.1]
theorem SO (a:List Clause)(ha:(jp iH) a):Ce a a=some true:=by
 have hm:a.length≤1048576:=ha.1
 unfold Ce
 rw[bne_self_eq_false,cond_false,vw (a:=a) (L:=uj a a) (p:=(fun e f=>xq e f)) (fun x hx=>XI x (ha.2 x hx)) (fun x=>by rw[RN,nQ]<;>rfl) (by omega)]
 rfl
theorem QG (x:Contract)(hx:fN x):Ck x x=some true:=by
 unfold Ck
 simp[I4 x.Parties hx.1,SO x.Clauses hx.2]
theorem ady (x:Duty)(hx:qg x):xw x x=some true:=by
 unfold xw
 simp[]
theorem aa3 (a:List Duty)(ha:(jp qg) a):Cn a a=some true:=by
 have hm:a.length≤1048576:=ha.1
 unfold Cn
 rw[bne_self_eq_false,cond_false,vw (a:=a) (L:=ul a a) (p:=(fun e f=>xw e f)) (fun x hx=>ady x (ha.2 x hx)) (fun x=>by rw[RP,nR]<;>rfl) (by omega)]
 rfl
theorem adz (a:List Int)(ha:(jp jZ) a):Cp a a=some true:=by
 have hm:a.length≤1048576:=ha.1
 unfold Cp
 rw[bne_self_eq_false,cond_false,vw (a:=a) (L:=um a a) (p:=(fun e f=>some (e==f))) (fun x _=>by rw[beq_self_eq_true]) (fun x=>by rw[RQ,nS]<;>rfl) (by omega)]
 rfl
theorem aa4 (x:State)(hx:jW x):Cr x x=some true:=by
 unfold Cr
 simp[I4 x.Facts hx.2.1,aa3 x.Duties hx.2.2.1,adz x.Balances hx.2.2.2.1]
end Go.Ln
