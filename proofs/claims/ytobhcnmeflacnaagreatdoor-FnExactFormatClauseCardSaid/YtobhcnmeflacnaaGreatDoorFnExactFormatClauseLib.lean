/-
  What the helpers of the laws do: sizes, copies, comparisons.
-/
import Derived.Test.YtobhcnmeflacnaaGreatDoorFnExactFormatClauseFun
set_option maxHeartbeats 4000000
set_option linter.unusedVariables false
set_option linter.unusedSimpArgs false
set_option maxRecDepth 100000
namespace Go.Ln
open Go
mutual
def aR:Condition→Nat
 | ⟨_,_,_,a3⟩=>1+az a3
def az:List Condition→Nat
 | []=>0
 | x::xs=>aR x+az xs
end
theorem dW (x:Condition):aR x=1+az x.Parts:=by cases x;simp only[aR]
theorem fA:∀a,az a=a.length+(a.map fun x=>az x.Parts).sum
 | []=>rfl
 | x::xs=>by simp only[az,dW,fA xs,List.length_cons,List.map_cons,List.sum_cons];omega
mutual
def bb:Condition→Prop
 | ⟨a0,a1,a2,a3⟩=>mF a0∧nm a1∧mF a2∧(a3.length≤1048576∧ig a3)∧az a3≤1048576
def ig:List Condition→Prop
 | []=>True
 | x::xs=>bb x∧ig xs
end
theorem mG:∀xs,ig xs↔∀x∈xs,bb x
 | []=>by simp[ig]
 | x::xs=>by simp[ig,mG xs]
theorem d6 (x:Condition):bb x↔mF x.Op∧nm x.Name∧mF x.Day∧mb bb x.Parts∧az x.Parts≤1048576:=by cases x;simp only[bb,mG,mb]
theorem dX {P:Condition→Prop}(h:∀x,(∀y∈x.Parts,P y)→P x):∀x,P x:=by
 have key:∀(N:Nat) (x:Condition),SizeOf.sizeOf x<N→P x:=by
  intro N
  induction N with
  | zero=>intro x hx;omega
  | succ N ih=>
   intro x hx
   refine h x fun y hy=>ih y ?_
   cases x
   have:=List.sizeOf_lt_of_mem hy
   simp at this hx
   omega
 exact fun x=>key _ x (Nat.lt_succ_self _)
def eN (x:Clause):Prop:=nm x.Id∧mF x.Kind∧mF x.Party∧nm x.Action∧mF x.Other∧mF x.Amount∧bb x.When∧mF x.Within∧nm x.Repair
def ed (x:Contract):Prop:=(mb nm) x.Parties∧(mb eN) x.Clauses
theorem I4 (a:List ac)(ha:(zY Co) a){l:Int}(h0:0≤l)(h1:l≤1048576):∃r,wZ a l=some r∧(r<0∨(0≤r∧r≤l∧(mb nm) a)):=by
 have hm:a.length≤9223372036854775807:=ha.1
 unfold wZ
 rw[kv h0 (by omega) hm]
 by_cases k:l - (a.length:Int)<0
 ·rw[decide_eq_true k,cond_true]
  exact⟨_,rfl,.inl (by decide)⟩
 rw[decide_eq_false k,cond_false]
 have hs:∀x∈a,∀l:Int,0≤l→l≤1048576→∃r,(fun e l=>some (an (l - len e))) x l=some r∧(r<0∨(0≤r∧r≤l∧nm x)):=by
  intro x hx l h0 h1
  have hx:=ha.2 x hx
  refine⟨_,rfl,?_⟩
  rw[kv h0 (by omega) hx]
  by_cases k:l - (x.length:Int)<0
  ·exact .inl k
  ·exact .inr ⟨by omega,by omega,by show x.length≤1048576;omega⟩
 obtain⟨y,hy,q⟩:=JP (L:=pC a l) (a:=a) (s:=fun e l=>some (an (l - len e))) (ok:=nm) (M:=1048576) (by decide) hs (fun x=>by rw[Jn,kf]<;>rfl) (by omega) (l:=l - (a.length:Int)) (by omega) (by omega)
 rw[hy]
 rcases q with rfl | ⟨r,rfl,q1,q2,q3⟩
 ·exact⟨_,rfl,.inl (by decide)⟩
 ·exact⟨_,rfl,.inr ⟨q1,by omega,by omega,q3⟩⟩
theorem BZ (a:List Condition)(ha:zY lD a)(ih:∀y∈a,lD y→∀l:Int,0≤l→l≤1048576→∃r,tg y l=some r∧(r<0∨(0≤r∧r+((az y.Parts:Nat):Int)≤l∧bb y))){l:Int}(h0:0≤l)(h1:l≤1048576) :
  ∃r,sn (ay md) a l=some r∧(r<0∨(0≤r∧r+((az a:Nat):Int)≤l∧mb bb a)):=by
 have hm:a.length≤9223372036854775807:=ha.1
 unfold sn
 rw[kv h0 (by omega) hm]
 by_cases k:l - (a.length:Int)<0
 ·rw[decide_eq_true k,cond_true]
  exact⟨_,rfl,.inl (by decide)⟩
 rw[decide_eq_false k,cond_false]
 obtain⟨y,hy,q⟩:=P0 (L:=ni (ay md) a l) (a:=a) (s:=fun e l=>tg e l) (w:=fun x=>az x.Parts) (ok:=bb) (M:=1048576) (by decide) (fun x hx l h0 h1=>ih x hx (ha.2 x hx) l h0 h1) (fun x=>by rw[Jt,jd]<;>rfl) (by omega) (l:=l - (a.length:Int)) (by omega) (by omega)
 rw[hy]
 rcases q with rfl | ⟨r,rfl,q1,q2,q3⟩
 ·exact⟨_,rfl,.inl (by decide)⟩
 ·exact⟨_,rfl,.inr ⟨q1,by rw[fA];omega,by show a.length≤1048576;omega,q3⟩⟩
theorem Di (x:Condition):lD x→∀l:Int,0≤l→l≤1048576→∃r,tg x l=some r∧(r<0∨(0≤r∧r+((az x.Parts:Nat):Int)≤l∧bb x)):=by
 refine dX (P:=fun x=>lD x→∀l:Int,0≤l→l≤1048576→∃r,tg x l=some r∧(r<0∨(0≤r∧r+((az x.Parts:Nat):Int)≤l∧bb x))) ?_ x
 intro x ih hx l h0 h1
 rw[FG] at hx
 rw[PF]
 unfold pG
 have m1:x.Name.length≤9223372036854775807:=hx.2.1
 rw[kv (l:=l) (by omega) (by omega) m1]
 by_cases k1:l - (x.Name.length:Int)<0
 ·rw[decide_eq_true k1,cond_true]
  exact⟨_,rfl,.inl (by decide)⟩
 rw[decide_eq_false k1,cond_false]
 obtain⟨r3,e3,q3⟩:=BZ x.Parts hx.2.2.2 ih (l:=(l - (x.Name.length:Int))) (by omega) (by omega)
 rw[e3,Option.bind_some]
 rcases q3 with q3 | ⟨q3,p3,s3⟩
 ·rw[decide_eq_true q3,cond_true]
  exact⟨_,rfl,.inl (by decide)⟩
 rw[decide_eq_false (by omega),cond_false]
 exact⟨_,rfl,.inr ⟨by omega,by omega,(d6 x).2 ⟨(by simp[mF]),(by show x.Name.length≤1048576;omega),(by simp[mF]),s3,by omega⟩⟩⟩
theorem F1 (x:Condition)(hx:lD x){l:Int}(h0:0≤l)(h1:l≤1048576):∃r,tg x l=some r∧(r<0∨(0≤r∧r≤l∧bb x)):=by
 obtain⟨r,h,q⟩:=Di x hx l h0 h1
 exact⟨r,h,q.imp id fun⟨q1,q2,q3⟩=>⟨q1,by omega,q3⟩⟩
theorem KX (x:Clause)(hx:ow x){l:Int}(h0:0≤l)(h1:l≤1048576):∃r,qH x l=some r∧(r<0∨(0≤r∧r≤l∧eN x)):=by
 unfold qH
 have m0:x.Id.length≤9223372036854775807:=hx.1
 rw[kv (l:=l) (by omega) (by omega) m0]
 by_cases k0:l - (x.Id.length:Int)<0
 ·rw[decide_eq_true k0,cond_true]
  exact⟨_,rfl,.inl (by decide)⟩
 rw[decide_eq_false k0,cond_false]
 have m3:x.Action.length≤9223372036854775807:=hx.2.2.2.1
 rw[kv (l:=(l - (x.Id.length:Int))) (by omega) (by omega) m3]
 by_cases k3:(l - (x.Id.length:Int)) - (x.Action.length:Int)<0
 ·rw[decide_eq_true k3,cond_true]
  exact⟨_,rfl,.inl (by decide)⟩
 rw[decide_eq_false k3,cond_false]
 obtain⟨r6,e6,q6⟩:=F1 x.When hx.2.2.2.2.2.2.1 (l:=((l - (x.Id.length:Int)) - (x.Action.length:Int))) (by omega) (by omega)
 rw[e6,Option.bind_some]
 rcases q6 with q6 | ⟨q6,p6,s6⟩
 ·rw[decide_eq_true q6,cond_true]
  exact⟨_,rfl,.inl (by decide)⟩
 rw[decide_eq_false (by omega),cond_false]
 have m8:x.Repair.length≤9223372036854775807:=hx.2.2.2.2.2.2.2.2
 rw[kv (l:=r6) (by omega) (by omega) m8]
 by_cases k8:r6 - (x.Repair.length:Int)<0
 ·rw[decide_eq_true k8,cond_true]
  exact⟨_,rfl,.inl (by decide)⟩
 rw[decide_eq_false k8,cond_false]
 exact⟨_,rfl,.inr ⟨by omega,by omega,(by show x.Id.length≤1048576;omega),(by simp[mF]),(by simp[mF]),(by show x.Action.length≤1048576;omega),(by simp[mF]),(by simp[mF]),s6,(by simp[mF]),(by show x.Repair.length≤1048576;omega)⟩⟩
theorem Ir (a:List Clause)(ha:(zY ow) a){l:Int}(h0:0≤l)(h1:l≤1048576):∃r,vT a l=some r∧(r<0∨(0≤r∧r≤l∧(mb eN) a)):=by
 have hm:a.length≤9223372036854775807:=ha.1
 unfold vT
 rw[kv h0 (by omega) hm]
 by_cases k:l - (a.length:Int)<0
 ·rw[decide_eq_true k,cond_true]
  exact⟨_,rfl,.inl (by decide)⟩
 rw[decide_eq_false k,cond_false]
 have hs:∀x∈a,∀l:Int,0≤l→l≤1048576→∃r,(fun e l=>qH e l) x l=some r∧(r<0∨(0≤r∧r≤l∧eN x)):=by
  intro x hx l h0 h1
  exact KX x (ha.2 x hx) h0 h1
 obtain⟨y,hy,q⟩:=JP (L:=ph a l) (a:=a) (s:=fun e l=>qH e l) (ok:=eN) (M:=1048576) (by decide) hs (fun x=>by rw[Iy,ki]<;>rfl) (by omega) (l:=l - (a.length:Int)) (by omega) (by omega)
 rw[hy]
 rcases q with rfl | ⟨r,rfl,q1,q2,q3⟩
 ·exact⟨_,rfl,.inl (by decide)⟩
 ·exact⟨_,rfl,.inr ⟨q1,by omega,by omega,q3⟩⟩
theorem G2 (x:Contract)(hx:NG x){l:Int}(h0:0≤l)(h1:l≤1048576):∃r,xi x l=some r∧(r<0∨(0≤r∧r≤l∧ed x)):=by
 unfold xi
 obtain⟨r0,e0,q0⟩:=I4 x.Parties hx.1 (l:=l) (by omega) (by omega)
 rw[e0,Option.bind_some]
 rcases q0 with q0 | ⟨q0,p0,s0⟩
 ·rw[decide_eq_true q0,cond_true]
  exact⟨_,rfl,.inl (by decide)⟩
 rw[decide_eq_false (by omega),cond_false]
 obtain⟨r1,e1,q1⟩:=Ir x.Clauses hx.2 (l:=r0) (by omega) (by omega)
 rw[e1,Option.bind_some]
 rcases q1 with q1 | ⟨q1,p1,s1⟩
 ·rw[decide_eq_true q1,cond_true]
  exact⟨_,rfl,.inl (by decide)⟩
 rw[decide_eq_false (by omega),cond_false]
 exact⟨_,rfl,.inr ⟨by omega,by omega,s0,s1⟩⟩
theorem Ju (a:List ac)(ha:(mb nm) a):vO a=some a:=by
 have hm:a.length≤1048576:=ha.1
 unfold vO
 rw[E0 (by omega) (by omega),Option.bind_some,xn (L:=pY a) (g:=some) (h:=id) (fun _ _=>rfl) (fun x=>by rw[I9,kw]<;>rfl) (by omega) (by simp)]
 simp
theorem BK (a:List Condition)(ha:mb bb a)(ih:∀y∈a,bb y→xt y=some y):sF (ay mp) a=some a:=by
 have hm:a.length≤1048576:=ha.1
 unfold sF
 rw[E0 (by omega) (by omega),Option.bind_some,xn (L:=nc (ay mp) a) (g:=fun e=>xt e) (h:=id) (fun x hx=>ih x hx (ha.2 x hx)) (fun x=>by rw[Jx,iR]<;>rfl) (by omega) (by simp)]
 simp
theorem EO (x:Condition):bb x→xt x=some x:=by
 refine dX (P:=fun x=>bb x→xt x=some x) ?_ x
 intro x ih hx
 rw[d6] at hx
 rw[Qq]
 unfold pX
 rw[BK x.Parts hx.2.2.2.1 ih]
 cases x;rfl
theorem KG (x:Clause)(hx:eN x):ta x=some x:=by
 unfold ta
 simp only[EO x.When hx.2.2.2.2.2.2.1,Option.bind_some]
theorem Ij (a:List Clause)(ha:(mb eN) a):v6 a=some a:=by
 have hm:a.length≤1048576:=ha.1
 unfold v6
 rw[E0 (by omega) (by omega),Option.bind_some,xn (L:=pZ a) (g:=(fun e=>ta e)) (h:=id) (fun x hx=>KG x (ha.2 x hx)) (fun x=>by rw[Jj,kz]<;>rfl) (by omega) (by simp)]
 simp
theorem GG (x:Contract)(hx:ed x):rh x=some x:=by
 unfold rh
 simp only[Ju x.Parties hx.1,Ij x.Clauses hx.2,Option.bind_some]
theorem Jl (a:List ac)(ha:(mb nm) a):xm a a=some true:=by
 have hm:a.length≤1048576:=ha.1
 unfold xm
 rw[bne_self_eq_false,cond_false,BR (a:=a) (L:=qa a a) (p:=(fun e f=>some (e==f))) (fun x _=>by rw[beq_self_eq_true]) (fun x=>by rw[I0,kq]<;>rfl) (by omega)]
 rfl
theorem BE (a:List Condition)(ha:mb bb a)(ih:∀y∈a,bb y→xf y y=some true):rE (ay mn) a a=some true:=by
 have hm:a.length≤1048576:=ha.1
 unfold rE
 rw[bne_self_eq_false,cond_false,BR (a:=a) (L:=ne (ay mn) a a) (p:=fun e f=>xf e f) (fun x hx=>ih x hx (ha.2 x hx)) (fun x=>by rw[IA,iK]<;>rfl) (by omega)]
 rfl
theorem FX (x:Condition):bb x→xf x x=some true:=by
 refine dX (P:=fun x=>bb x→xf x x=some true) ?_ x
 intro x ih hx
 rw[d6] at hx
 rw[QE]
 unfold pH
 simp[BE x.Parts hx.2.2.2.1 ih]
theorem Ki (x:Clause)(hx:eN x):CS x x=some true:=by
 unfold CS
 simp[FX x.When hx.2.2.2.2.2.2.1]
theorem Im (a:List Clause)(ha:(mb eN) a):vZ a a=some true:=by
 have hm:a.length≤1048576:=ha.1
 unfold vZ
 rw[bne_self_eq_false,cond_false,BR (a:=a) (L:=pD a a) (p:=(fun e f=>CS e f)) (fun x hx=>Ki x (ha.2 x hx)) (fun x=>by rw[H8,kA]<;>rfl) (by omega)]
 rfl
theorem GY (x:Contract)(hx:ed x):wj x x=some true:=by
 unfold wj
 simp[Jl x.Parties hx.1,Im x.Clauses hx.2]
end Go.Ln
