/-
  What the helpers do.
-/
import Derived.Test.YtobhcnmeflacnaaGreatDoorFnExactNextMomentFun
set_option maxHeartbeats 4000000
set_option linter.unusedVariables false
set_option linter.unusedSimpArgs false
set_option maxRecDepth 100000
namespace Go.Ln
open Go
mutual
def aW:Condition→Nat
 | ⟨_,_,_,a3⟩=>1+aJ a3
def aJ:List Condition→Nat
 | []=>0
 | x::xs=>aW x+aJ xs
end
theorem eA (x:Condition):aW x=1+aJ x.Parts:=by cases x;simp only[aW]
theorem eY:∀a,aJ a=a.length+(a.map fun x=>aJ x.Parts).sum
 | []=>rfl
 | x::xs=>by simp only[aJ,eA,eY xs,List.length_cons,List.map_cons,List.sum_cons];omega
mutual
def bQ:Condition→Prop
 | ⟨a0,a1,a2,a3⟩=>iA a0∧mK a1∧iA a2∧(a3.length≤1048576∧jA a3)∧aJ a3≤1048576
def jA:List Condition→Prop
 | []=>True
 | x::xs=>bQ x∧jA xs
end
theorem pq:∀xs,jA xs↔∀x∈xs,bQ x
 | []=>by simp[jA]
 | x::xs=>by simp[jA,pq xs]
theorem f6 (x:Condition):bQ x↔iA x.Op∧mK x.Name∧iA x.Day∧hC bQ x.Parts∧aJ x.Parts≤1048576:=by cases x;simp only[bQ,pq,hC]
theorem eG {P:Condition→Prop}(h:∀x,(∀y∈x.Parts,P y)→P x):∀x,P x:=by
 have key:∀(N:Nat) (x:Condition),SizeOf.sizeOf x<N→P x:=by
  intro N
  induction N with
  | zero=>intro x hx;omega
  | succ N ih=>
   intro x hx
   refine h x fun y hy=>ih y ?_
   cases x
   have:=List.sizeOf_lt_of_mem hy
   simp at this hx
   omega
 exact fun x=>key _ x (Nat.lt_succ_self _)
def gm (x:Clause):Prop:=mK x.Id∧iA x.Kind∧iA x.Party∧mK x.Action∧iA x.Other∧iA x.Amount∧bQ x.When∧iA x.Within∧mK x.Repair
def eH (x:Contract):Prop:=(hC mK) x.Parties∧(hC gm) x.Clauses
def oe (x:Duty):Prop:=iA x.Clause∧iA x.Since∧iA x.Due∧iA x.Status
def lX (x:State):Prop:=iA x.Day∧(hC mK) x.Facts∧(hC oe) x.Duties∧(hC iA) x.Balances∧smB x.Over
theorem E8 (a:List ac)(ha:(rc EP) a){l:Int}(h0:0≤l)(h1:l≤1048576):∃r,vi a l=some r∧(r<0∨(0≤r∧r≤l∧(hC mK) a)):=by
 have hm:a.length≤9223372036854775807:=ha.1
 unfold vi
 rw[jO h0 (by omega) hm]
 by_cases k:l - (a.length:Int)<0
 ·rw[decide_eq_true k,cond_true]
  exact⟨_,rfl,.inl (by decide)⟩
 rw[decide_eq_false k,cond_false]
 have hs:∀x∈a,∀l:Int,0≤l→l≤1048576→∃r,(fun e l=>some (au (l - len e))) x l=some r∧(r<0∨(0≤r∧r≤l∧mK x)):=by
  intro x hx l h0 h1
  have hx:=ha.2 x hx
  refine⟨_,rfl,?_⟩
  rw[jO h0 (by omega) hx]
  by_cases k:l - (x.length:Int)<0
  ·exact .inl k
  ·exact .inr ⟨by omega,by omega,by show x.length≤1048576;omega⟩
 obtain⟨y,hy,q⟩:=Sh (L:=rS a l) (a:=a) (s:=fun e l=>some (au (l - len e))) (ok:=mK) (M:=1048576) (by decide) hs (fun x=>by rw[MG,l8]<;>rfl) (by omega) (l:=l - (a.length:Int)) (by omega) (by omega)
 rw[hy]
 rcases q with rfl | ⟨r,rfl,q1,q2,q3⟩
 ·exact⟨_,rfl,.inl (by decide)⟩
 ·exact⟨_,rfl,.inr ⟨q1,by omega,by omega,q3⟩⟩
theorem F9 (a:List Condition)(ha:rc nO a)(ih:∀y∈a,nO y→∀l:Int,0≤l→l≤1048576→∃r,ve y l=some r∧(r<0∨(0≤r∧r+((aJ y.Parts:Nat):Int)≤l∧bQ y))){l:Int}(h0:0≤l)(h1:l≤1048576) :
  ∃r,vh (aF oK) a l=some r∧(r<0∨(0≤r∧r+((aJ a:Nat):Int)≤l∧hC bQ a)):=by
 have hm:a.length≤9223372036854775807:=ha.1
 unfold vh
 rw[jO h0 (by omega) hm]
 by_cases k:l - (a.length:Int)<0
 ·rw[decide_eq_true k,cond_true]
  exact⟨_,rfl,.inl (by decide)⟩
 rw[decide_eq_false k,cond_false]
 obtain⟨y,hy,q⟩:=WZ (L:=pK (aF oK) a l) (a:=a) (s:=fun e l=>ve e l) (w:=fun x=>aJ x.Parts) (ok:=bQ) (M:=1048576) (by decide) (fun x hx l h0 h1=>ih x hx (ha.2 x hx) l h0 h1) (fun x=>by rw[MF,jY]<;>rfl) (by omega) (l:=l - (a.length:Int)) (by omega) (by omega)
 rw[hy]
 rcases q with rfl | ⟨r,rfl,q1,q2,q3⟩
 ·exact⟨_,rfl,.inl (by decide)⟩
 ·exact⟨_,rfl,.inr ⟨q1,by rw[eY];omega,by show a.length≤1048576;omega,q3⟩⟩
theorem Hd (x:Condition):nO x→∀l:Int,0≤l→l≤1048576→∃r,ve x l=some r∧(r<0∨(0≤r∧r+((aJ x.Parts:Nat):Int)≤l∧bQ x)):=by
 refine eG (P:=fun x=>nO x→∀l:Int,0≤l→l≤1048576→∃r,ve x l=some r∧(r<0∨(0≤r∧r+((aJ x.Parts:Nat):Int)≤l∧bQ x))) ?_ x
 intro x ih hx l h0 h1
 rw[IE] at hx
 rw[VH]
 unfold rR
 have m1:x.Name.length≤9223372036854775807:=hx.2.1
 rw[jO (l:=l) (by omega) (by omega) m1]
 by_cases k1:l - (x.Name.length:Int)<0
 ·rw[decide_eq_true k1,cond_true]
  exact⟨_,rfl,.inl (by decide)⟩
 rw[decide_eq_false k1,cond_false]
 obtain⟨r3,e3,q3⟩:=F9 x.Parts hx.2.2.2 ih (l:=(l - (x.Name.length:Int))) (by omega) (by omega)
 rw[e3,Option.bind_some]
 rcases q3 with q3 | ⟨q3,p3,s3⟩
 ·rw[decide_eq_true q3,cond_true]
  exact⟨_,rfl,.inl (by decide)⟩
 rw[decide_eq_false (by omega),cond_false]
 exact⟨_,rfl,.inr ⟨by omega,by omega,(f6 x).2 ⟨(by simp[iA]),(by show x.Name.length≤1048576;omega),(by simp[iA]),s3,by omega⟩⟩⟩
theorem Kz (x:Condition)(hx:nO x){l:Int}(h0:0≤l)(h1:l≤1048576):∃r,ve x l=some r∧(r<0∨(0≤r∧r≤l∧bQ x)):=by
 obtain⟨r,h,q⟩:=Hd x hx l h0 h1
 exact⟨r,h,q.imp id fun⟨q1,q2,q3⟩=>⟨q1,by omega,q3⟩⟩
theorem Si (x:Clause)(hx:rd x){l:Int}(h0:0≤l)(h1:l≤1048576):∃r,tv x l=some r∧(r<0∨(0≤r∧r≤l∧gm x)):=by
 unfold tv
 have m0:x.Id.length≤9223372036854775807:=hx.1
 rw[jO (l:=l) (by omega) (by omega) m0]
 by_cases k0:l - (x.Id.length:Int)<0
 ·rw[decide_eq_true k0,cond_true]
  exact⟨_,rfl,.inl (by decide)⟩
 rw[decide_eq_false k0,cond_false]
 have m3:x.Action.length≤9223372036854775807:=hx.2.2.2.1
 rw[jO (l:=(l - (x.Id.length:Int))) (by omega) (by omega) m3]
 by_cases k3:(l - (x.Id.length:Int)) - (x.Action.length:Int)<0
 ·rw[decide_eq_true k3,cond_true]
  exact⟨_,rfl,.inl (by decide)⟩
 rw[decide_eq_false k3,cond_false]
 obtain⟨r6,e6,q6⟩:=Kz x.When hx.2.2.2.2.2.2.1 (l:=((l - (x.Id.length:Int)) - (x.Action.length:Int))) (by omega) (by omega)
 rw[e6,Option.bind_some]
 rcases q6 with q6 | ⟨q6,p6,s6⟩
 ·rw[decide_eq_true q6,cond_true]
  exact⟨_,rfl,.inl (by decide)⟩
 rw[decide_eq_false (by omega),cond_false]
 have m8:x.Repair.length≤9223372036854775807:=hx.2.2.2.2.2.2.2.2
 rw[jO (l:=r6) (by omega) (by omega) m8]
 by_cases k8:r6 - (x.Repair.length:Int)<0
 ·rw[decide_eq_true k8,cond_true]
  exact⟨_,rfl,.inl (by decide)⟩
 rw[decide_eq_false k8,cond_false]
 exact⟨_,rfl,.inr ⟨by omega,by omega,(by show x.Id.length≤1048576;omega),(by simp[iA]),(by simp[iA]),(by show x.Action.length≤1048576;omega),(by simp[iA]),(by simp[iA]),s6,(by simp[iA]),(by show x.Repair.length≤1048576;omega)⟩⟩
theorem N4 (a:List Clause)(ha:(rc rd) a){l:Int}(h0:0≤l)(h1:l≤1048576):∃r,zh a l=some r∧(r<0∨(0≤r∧r≤l∧(hC gm) a)):=by
 have hm:a.length≤9223372036854775807:=ha.1
 unfold zh
 rw[jO h0 (by omega) hm]
 by_cases k:l - (a.length:Int)<0
 ·rw[decide_eq_true k,cond_true]
  exact⟨_,rfl,.inl (by decide)⟩
 rw[decide_eq_false k,cond_false]
 have hs:∀x∈a,∀l:Int,0≤l→l≤1048576→∃r,(fun e l=>tv e l) x l=some r∧(r<0∨(0≤r∧r≤l∧gm x)):=by
  intro x hx l h0 h1
  exact Si x (ha.2 x hx) h0 h1
 obtain⟨y,hy,q⟩:=Sh (L:=rQ a l) (a:=a) (s:=fun e l=>tv e l) (ok:=gm) (M:=1048576) (by decide) hs (fun x=>by rw[ME,l7]<;>rfl) (by omega) (l:=l - (a.length:Int)) (by omega) (by omega)
 rw[hy]
 rcases q with rfl | ⟨r,rfl,q1,q2,q3⟩
 ·exact⟨_,rfl,.inl (by decide)⟩
 ·exact⟨_,rfl,.inr ⟨q1,by omega,by omega,q3⟩⟩
theorem LJ (x:Contract)(hx:SZ x){l:Int}(h0:0≤l)(h1:l≤1048576):∃r,zl x l=some r∧(r<0∨(0≤r∧r≤l∧eH x)):=by
 unfold zl
 obtain⟨r0,e0,q0⟩:=E8 x.Parties hx.1 (l:=l) (by omega) (by omega)
 rw[e0,Option.bind_some]
 rcases q0 with q0 | ⟨q0,p0,s0⟩
 ·rw[decide_eq_true q0,cond_true]
  exact⟨_,rfl,.inl (by decide)⟩
 rw[decide_eq_false (by omega),cond_false]
 obtain⟨r1,e1,q1⟩:=N4 x.Clauses hx.2 (l:=r0) (by omega) (by omega)
 rw[e1,Option.bind_some]
 rcases q1 with q1 | ⟨q1,p1,s1⟩
 ·rw[decide_eq_true q1,cond_true]
  exact⟨_,rfl,.inl (by decide)⟩
 rw[decide_eq_false (by omega),cond_false]
 exact⟨_,rfl,.inr ⟨by omega,by omega,s0,s1⟩⟩
theorem UW (a:List Duty)(ha:(rc F3) a){l:Int}(h0:0≤l)(h1:l≤1048576):∃r,zn a l=some r∧(r<0∨(0≤r∧r≤l∧(hC oe) a)):=by
 have hm:a.length≤9223372036854775807:=ha.1
 unfold zn
 rw[jO h0 (by omega) hm]
 by_cases k:l - (a.length:Int)<0
 ·rw[decide_eq_true k,cond_true]
  exact⟨_,rfl,.inl (by decide)⟩
 rw[decide_eq_false k,cond_false]
 exact⟨_,rfl,.inr ⟨by omega,by omega,by omega,fun x _=>by simp[oe,iA]⟩⟩
theorem W1 (a:List Int)(ha:(rc oT) a){l:Int}(h0:0≤l)(h1:l≤1048576):∃r,zp a l=some r∧(r<0∨(0≤r∧r≤l∧(hC iA) a)):=by
 have hm:a.length≤9223372036854775807:=ha.1
 unfold zp
 rw[jO h0 (by omega) hm]
 by_cases k:l - (a.length:Int)<0
 ·rw[decide_eq_true k,cond_true]
  exact⟨_,rfl,.inl (by decide)⟩
 rw[decide_eq_false k,cond_false]
 exact⟨_,rfl,.inr ⟨by omega,by omega,by omega,fun x _=>by simp[iA]⟩⟩
theorem UX (x:State)(hx:AY x){l:Int}(h0:0≤l)(h1:l≤1048576):∃r,zr x l=some r∧(r<0∨(0≤r∧r≤l∧lX x)):=by
 unfold zr
 obtain⟨r1,e1,q1⟩:=E8 x.Facts hx.2.1 (l:=l) (by omega) (by omega)
 rw[e1,Option.bind_some]
 rcases q1 with q1 | ⟨q1,p1,s1⟩
 ·rw[decide_eq_true q1,cond_true]
  exact⟨_,rfl,.inl (by decide)⟩
 rw[decide_eq_false (by omega),cond_false]
 obtain⟨r2,e2,q2⟩:=UW x.Duties hx.2.2.1 (l:=r1) (by omega) (by omega)
 rw[e2,Option.bind_some]
 rcases q2 with q2 | ⟨q2,p2,s2⟩
 ·rw[decide_eq_true q2,cond_true]
  exact⟨_,rfl,.inl (by decide)⟩
 rw[decide_eq_false (by omega),cond_false]
 obtain⟨r3,e3,q3⟩:=W1 x.Balances hx.2.2.2.1 (l:=r2) (by omega) (by omega)
 rw[e3,Option.bind_some]
 rcases q3 with q3 | ⟨q3,p3,s3⟩
 ·rw[decide_eq_true q3,cond_true]
  exact⟨_,rfl,.inl (by decide)⟩
 rw[decide_eq_false (by omega),cond_false]
 exact⟨_,rfl,.inr ⟨by omega,by omega,(by simp[iA]),s1,s2,s3,(by simp[smB])⟩⟩
theorem Fb (a:List ac)(ha:(hC mK) a):vr a=some a:=by
 have hm:a.length≤1048576:=ha.1
 unfold vr
 rw[wn (by omega) (by omega),Option.bind_some,qn (L:=rY a) (g:=some) (h:=id) (fun _ _=>rfl) (fun x=>by rw[MM,mc]<;>rfl) (by omega) (by simp)]
 simp
theorem Ga (a:List Condition)(ha:hC bQ a)(ih:∀y∈a,bQ y→zy y=some y):vm (aF oL) a=some a:=by
 have hm:a.length≤1048576:=ha.1
 unfold vm
 rw[wn (by omega) (by omega),Option.bind_some,qn (L:=pL (aF oL) a) (g:=fun e=>zy e) (h:=id) (fun x hx=>ih x hx (ha.2 x hx)) (fun x=>by rw[MI,jZ]<;>rfl) (by omega) (by simp)]
 simp
theorem KA (x:Condition):bQ x→zy x=some x:=by
 refine eG (P:=fun x=>bQ x→zy x=some x) ?_ x
 intro x ih hx
 rw[f6] at hx
 rw[VI]
 unfold rU
 rw[Ga x.Parts hx.2.2.2.1 ih]
 cases x;rfl
theorem Sk (x:Clause)(hx:gm x):vj x=some x:=by
 unfold vj
 simp only[KA x.When hx.2.2.2.2.2.2.1,Option.bind_some]
theorem N9 (a:List Clause)(ha:(hC gm) a):zw a=some a:=by
 have hm:a.length≤1048576:=ha.1
 unfold zw
 rw[wn (by omega) (by omega),Option.bind_some,qn (L:=rT a) (g:=(fun e=>vj e)) (h:=id) (fun x hx=>Sk x (ha.2 x hx)) (fun x=>by rw[MH,l9]<;>rfl) (by omega) (by simp)]
 simp
theorem LK (x:Contract)(hx:eH x):tz x=some x:=by
 unfold tz
 simp only[Fb x.Parties hx.1,N9 x.Clauses hx.2,Option.bind_some]
theorem W2 (x:Duty)(hx:oe x):vp x=some x:=by
 unfold vp
 rfl
theorem UY (a:List Duty)(ha:(hC oe) a):zD a=some a:=by
 have hm:a.length≤1048576:=ha.1
 unfold zD
 rw[wn (by omega) (by omega),Option.bind_some,qn (L:=rV a) (g:=(fun e=>vp e)) (h:=id) (fun x hx=>W2 x (ha.2 x hx)) (fun x=>by rw[MK,ma]<;>rfl) (by omega) (by simp)]
 simp
theorem W3 (a:List Int)(ha:(hC iA) a):zF a=some a:=by
 have hm:a.length≤1048576:=ha.1
 unfold zF
 rw[wn (by omega) (by omega),Option.bind_some,qn (L:=rX a) (g:=some) (h:=id) (fun _ _=>rfl) (fun x=>by rw[ML,mb]<;>rfl) (by omega) (by simp)]
 simp
theorem UZ (x:State)(hx:lX x):tA x=some x:=by
 unfold tA
 simp only[Fb x.Facts hx.2.1,UY x.Duties hx.2.2.1,W3 x.Balances hx.2.2.2.1,Option.bind_some]
theorem Ev (a:List ac)(ha:(hC mK) a):vd a a=some true:=by
 have hm:a.length≤1048576:=ha.1
 unfold vd
 rw[bne_self_eq_false,cond_false,sQ (a:=a) (L:=rO a a) (p:=(fun e f=>some (e==f))) (fun x _=>by rw[beq_self_eq_true]) (fun x=>by rw[MD,l6]<;>rfl) (by omega)]
 rfl
theorem FY (a:List Condition)(ha:hC bQ a)(ih:∀y∈a,bQ y→yU y y=some true):vb (aF oJ) a a=some true:=by
 have hm:a.length≤1048576:=ha.1
 unfold vb
 rw[bne_self_eq_false,cond_false,sQ (a:=a) (L:=pJ (aF oJ) a a) (p:=fun e f=>yU e f) (fun x hx=>ih x hx (ha.2 x hx)) (fun x=>by rw[MA,jX]<;>rfl) (by omega)]
 rfl
theorem JK (x:Condition):bQ x→yU x x=some true:=by
 refine eG (P:=fun x=>bQ x→yU x x=some true) ?_ x
 intro x ih hx
 rw[f6] at hx
 rw[VG]
 unfold rL
 simp[FY x.Parts hx.2.2.2.1 ih]
theorem Rr (x:Clause)(hx:gm x):uY x x=some true:=by
 unfold uY
 simp[JK x.When hx.2.2.2.2.2.2.1]
theorem Nv (a:List Clause)(ha:(hC gm) a):yS a a=some true:=by
 have hm:a.length≤1048576:=ha.1
 unfold yS
 rw[bne_self_eq_false,cond_false,sQ (a:=a) (L:=rK a a) (p:=(fun e f=>uY e f)) (fun x hx=>Rr x (ha.2 x hx)) (fun x=>by rw[Mz,l3]<;>rfl) (by omega)]
 rfl
theorem Lv (x:Contract)(hx:eH x):yX x x=some true:=by
 unfold yX
 simp[Ev x.Parties hx.1,Nv x.Clauses hx.2]
theorem Ww (x:Duty)(hx:oe x):vc x x=some true:=by
 unfold vc
 simp[]
theorem Ul (a:List Duty)(ha:(hC oe) a):za a a=some true:=by
 have hm:a.length≤1048576:=ha.1
 unfold za
 rw[bne_self_eq_false,cond_false,sQ (a:=a) (L:=rM a a) (p:=(fun e f=>vc e f)) (fun x hx=>Ww x (ha.2 x hx)) (fun x=>by rw[MB,l4]<;>rfl) (by omega)]
 rfl
theorem Wx (a:List Int)(ha:(hC iA) a):zc a a=some true:=by
 have hm:a.length≤1048576:=ha.1
 unfold zc
 rw[bne_self_eq_false,cond_false,sQ (a:=a) (L:=rN a a) (p:=(fun e f=>some (e==f))) (fun x _=>by rw[beq_self_eq_true]) (fun x=>by rw[MC,l5]<;>rfl) (by omega)]
 rfl
theorem Um (x:State)(hx:lX x):ze x x=some true:=by
 unfold ze
 simp[Ev x.Facts hx.2.1,Ul x.Duties hx.2.2.1,Wx x.Balances hx.2.2.2.1]
end Go.Ln
