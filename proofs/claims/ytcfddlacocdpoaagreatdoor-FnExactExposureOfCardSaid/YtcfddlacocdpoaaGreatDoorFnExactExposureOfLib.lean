/-
  What the helpers do.
-/
import Derived.Test.YtcfddlacocdpoaaGreatDoorFnExactExposureOfFun
set_option maxHeartbeats 4000000
set_option linter.unusedVariables false
set_option linter.unusedSimpArgs false
set_option maxRecDepth 100000
namespace Go.Ln
open Go
mutual
def bO:Condition→Nat
 | ⟨_,_,_,a3⟩=>1+bc a3
def bc:List Condition→Nat
 | []=>0
 | x::xs=>bO x+bc xs
end
theorem gt (x:Condition):bO x=1+bc x.Parts:=by cases x;simp only[bO]
theorem iX:∀a,bc a=a.length+(a.map fun x=>bc x.Parts).sum
 | []=>rfl
 | x::xs=>by simp only[bc,gt,iX xs,List.length_cons,List.map_cons,List.sum_cons];omega
mutual
def cn:Condition→Prop
 | ⟨a0,a1,a2,a3⟩=>jF a0∧oe a1∧jF a2∧(a3.length≤1048576∧kO a3)∧bc a3≤1048576
def kO:List Condition→Prop
 | []=>True
 | x::xs=>cn x∧kO xs
end
theorem qy:∀xs,kO xs↔∀x∈xs,cn x
 | []=>by simp[kO]
 | x::xs=>by simp[kO,qy xs]
theorem gX (x:Condition):cn x↔jF x.Op∧oe x.Name∧jF x.Day∧i8 cn x.Parts∧bc x.Parts≤1048576:=by cases x;simp only[cn,qy,i8]
theorem gB {P:Condition→Prop}(h:∀x,(∀y∈x.Parts,P y)→P x):∀x,P x:=by
 have key:∀(N:Nat) (x:Condition),SizeOf.sizeOf x<N→P x:=by
  intro N
  induction N with
  | zero=>intro x hx;omega
  | succ N ih=>
   intro x hx
   refine h x fun y hy=>ih y ?_
   cases x
   have:=List.sizeOf_lt_of_mem hy
   simp at this hx
   omega
 exact fun x=>key _ x (Nat.lt_succ_self _)
def ig (x:Clause):Prop:=oe x.Id∧jF x.Kind∧jF x.Party∧oe x.Action∧jF x.Other∧jF x.Amount∧cn x.When∧jF x.Within∧oe x.Repair
def fu (x:Contract):Prop:=(i8 oe) x.Parties∧(i8 ig) x.Clauses
def pB (x:Duty):Prop:=jF x.Clause∧jF x.Since∧jF x.Due∧jF x.Status
def l8 (x:State):Prop:=jF x.Day∧(i8 oe) x.Facts∧(i8 pB) x.Duties∧(i8 jF) x.Balances∧smB x.Over
theorem HI (a:List ac)(ha:(sE Hp) a){l:Int}(h0:0≤l)(h1:l≤1048576):∃r,wG a l=some r∧(r<0∨(0≤r∧r≤l∧(i8 oe) a)):=by
 have hm:a.length≤9223372036854775807:=ha.1
 unfold wG
 rw[eO h0 (by omega) hm]
 by_cases k:l - (a.length:Int)<0
 ·rw[decide_eq_true k,cond_true]
  exact⟨_,rfl,.inl (by decide)⟩
 rw[decide_eq_false k,cond_false]
 have hs:∀x∈a,∀l:Int,0≤l→l≤1048576→∃r,(fun e l=>some (ai (l - len e))) x l=some r∧(r<0∨(0≤r∧r≤l∧oe x)):=by
  intro x hx l h0 h1
  have hx:=ha.2 x hx
  refine⟨_,rfl,?_⟩
  rw[eO h0 (by omega) hx]
  by_cases k:l - (x.length:Int)<0
  ·exact .inl k
  ·exact .inr ⟨by omega,by omega,by show x.length≤1048576;omega⟩
 obtain⟨y,hy,q⟩:=V7 (L:=tz a l) (a:=a) (s:=fun e l=>some (ai (l - len e))) (ok:=oe) (M:=1048576) (by decide) hs (fun x=>by rw[PW,nt]<;>rfl) (by omega) (l:=l - (a.length:Int)) (by omega) (by omega)
 rw[hy]
 rcases q with rfl | ⟨r,rfl,q1,q2,q3⟩
 ·exact⟨_,rfl,.inl (by decide)⟩
 ·exact⟨_,rfl,.inr ⟨q1,by omega,by omega,q3⟩⟩
theorem IX (a:List Condition)(ha:sE pe a)(ih:∀y∈a,pe y→∀l:Int,0≤l→l≤1048576→∃r,wC y l=some r∧(r<0∨(0≤r∧r+((bc y.Parts:Nat):Int)≤l∧cn y))){l:Int}(h0:0≤l)(h1:l≤1048576) :
  ∃r,wF (aL pV) a l=some r∧(r<0∨(0≤r∧r+((bc a:Nat):Int)≤l∧i8 cn a)):=by
 have hm:a.length≤9223372036854775807:=ha.1
 unfold wF
 rw[eO h0 (by omega) hm]
 by_cases k:l - (a.length:Int)<0
 ·rw[decide_eq_true k,cond_true]
  exact⟨_,rfl,.inl (by decide)⟩
 rw[decide_eq_false k,cond_false]
 obtain⟨y,hy,q⟩:=abf (L:=qU (aL pV) a l) (a:=a) (s:=fun e l=>wC e l) (w:=fun x=>bc x.Parts) (ok:=cn) (M:=1048576) (by decide) (fun x hx l h0 h1=>ih x hx (ha.2 x hx) l h0 h1) (fun x=>by rw[PV,ls]<;>rfl) (by omega) (l:=l - (a.length:Int)) (by omega) (by omega)
 rw[hy]
 rcases q with rfl | ⟨r,rfl,q1,q2,q3⟩
 ·exact⟨_,rfl,.inl (by decide)⟩
 ·exact⟨_,rfl,.inr ⟨q1,by rw[iX];omega,by show a.length≤1048576;omega,q3⟩⟩
theorem J0 (x:Condition):pe x→∀l:Int,0≤l→l≤1048576→∃r,wC x l=some r∧(r<0∨(0≤r∧r+((bc x.Parts:Nat):Int)≤l∧cn x)):=by
 refine gB (P:=fun x=>pe x→∀l:Int,0≤l→l≤1048576→∃r,wC x l=some r∧(r<0∨(0≤r∧r+((bc x.Parts:Nat):Int)≤l∧cn x))) ?_ x
 intro x ih hx l h0 h1
 rw[Lu] at hx
 rw[ZX]
 unfold tx
 have m1:x.Name.length≤9223372036854775807:=hx.2.1
 rw[eO (l:=l) (by omega) (by omega) m1]
 by_cases k1:l - (x.Name.length:Int)<0
 ·rw[decide_eq_true k1,cond_true]
  exact⟨_,rfl,.inl (by decide)⟩
 rw[decide_eq_false k1,cond_false]
 obtain⟨r3,e3,q3⟩:=IX x.Parts hx.2.2.2 ih (l:=(l - (x.Name.length:Int))) (by omega) (by omega)
 rw[e3,Option.bind_some]
 rcases q3 with q3 | ⟨q3,p3,s3⟩
 ·rw[decide_eq_true q3,cond_true]
  exact⟨_,rfl,.inl (by decide)⟩
 rw[decide_eq_false (by omega),cond_false]
 exact⟨_,rfl,.inr ⟨by omega,by omega,(gX x).2 ⟨(by simp[jF]),(by show x.Name.length≤1048576;omega),(by simp[jF]),s3,by omega⟩⟩⟩
theorem Ny (x:Condition)(hx:pe x){l:Int}(h0:0≤l)(h1:l≤1048576):∃r,wC x l=some r∧(r<0∨(0≤r∧r≤l∧cn x)):=by
 obtain⟨r,h,q⟩:=J0 x hx l h0 h1
 exact⟨r,h,q.imp id fun⟨q1,q2,q3⟩=>⟨q1,by omega,q3⟩⟩
theorem V8 (x:Clause)(hx:sF x){l:Int}(h0:0≤l)(h1:l≤1048576):∃r,uY x l=some r∧(r<0∨(0≤r∧r≤l∧ig x)):=by
 unfold uY
 have m0:x.Id.length≤9223372036854775807:=hx.1
 rw[eO (l:=l) (by omega) (by omega) m0]
 by_cases k0:l - (x.Id.length:Int)<0
 ·rw[decide_eq_true k0,cond_true]
  exact⟨_,rfl,.inl (by decide)⟩
 rw[decide_eq_false k0,cond_false]
 have m3:x.Action.length≤9223372036854775807:=hx.2.2.2.1
 rw[eO (l:=(l - (x.Id.length:Int))) (by omega) (by omega) m3]
 by_cases k3:(l - (x.Id.length:Int)) - (x.Action.length:Int)<0
 ·rw[decide_eq_true k3,cond_true]
  exact⟨_,rfl,.inl (by decide)⟩
 rw[decide_eq_false k3,cond_false]
 obtain⟨r6,e6,q6⟩:=Ny x.When hx.2.2.2.2.2.2.1 (l:=((l - (x.Id.length:Int)) - (x.Action.length:Int))) (by omega) (by omega)
 rw[e6,Option.bind_some]
 rcases q6 with q6 | ⟨q6,p6,s6⟩
 ·rw[decide_eq_true q6,cond_true]
  exact⟨_,rfl,.inl (by decide)⟩
 rw[decide_eq_false (by omega),cond_false]
 have m8:x.Repair.length≤9223372036854775807:=hx.2.2.2.2.2.2.2.2
 rw[eO (l:=r6) (by omega) (by omega) m8]
 by_cases k8:r6 - (x.Repair.length:Int)<0
 ·rw[decide_eq_true k8,cond_true]
  exact⟨_,rfl,.inl (by decide)⟩
 rw[decide_eq_false k8,cond_false]
 exact⟨_,rfl,.inr ⟨by omega,by omega,(by show x.Id.length≤1048576;omega),(by simp[jF]),(by simp[jF]),(by show x.Action.length≤1048576;omega),(by simp[jF]),(by simp[jF]),s6,(by simp[jF]),(by show x.Repair.length≤1048576;omega)⟩⟩
theorem Rl (a:List Clause)(ha:(sE sF) a){l:Int}(h0:0≤l)(h1:l≤1048576):∃r,Bl a l=some r∧(r<0∨(0≤r∧r≤l∧(i8 ig) a)):=by
 have hm:a.length≤9223372036854775807:=ha.1
 unfold Bl
 rw[eO h0 (by omega) hm]
 by_cases k:l - (a.length:Int)<0
 ·rw[decide_eq_true k,cond_true]
  exact⟨_,rfl,.inl (by decide)⟩
 rw[decide_eq_false k,cond_false]
 have hs:∀x∈a,∀l:Int,0≤l→l≤1048576→∃r,(fun e l=>uY e l) x l=some r∧(r<0∨(0≤r∧r≤l∧ig x)):=by
  intro x hx l h0 h1
  exact V8 x (ha.2 x hx) h0 h1
 obtain⟨y,hy,q⟩:=V7 (L:=tw a l) (a:=a) (s:=fun e l=>uY e l) (ok:=ig) (M:=1048576) (by decide) hs (fun x=>by rw[PU,nr]<;>rfl) (by omega) (l:=l - (a.length:Int)) (by omega) (by omega)
 rw[hy]
 rcases q with rfl | ⟨r,rfl,q1,q2,q3⟩
 ·exact⟨_,rfl,.inl (by decide)⟩
 ·exact⟨_,rfl,.inr ⟨q1,by omega,by omega,q3⟩⟩
theorem OX (x:Contract)(hx:WY x){l:Int}(h0:0≤l)(h1:l≤1048576):∃r,Bp x l=some r∧(r<0∨(0≤r∧r≤l∧fu x)):=by
 unfold Bp
 obtain⟨r0,e0,q0⟩:=HI x.Parties hx.1 (l:=l) (by omega) (by omega)
 rw[e0,Option.bind_some]
 rcases q0 with q0 | ⟨q0,p0,s0⟩
 ·rw[decide_eq_true q0,cond_true]
  exact⟨_,rfl,.inl (by decide)⟩
 rw[decide_eq_false (by omega),cond_false]
 obtain⟨r1,e1,q1⟩:=Rl x.Clauses hx.2 (l:=r0) (by omega) (by omega)
 rw[e1,Option.bind_some]
 rcases q1 with q1 | ⟨q1,p1,s1⟩
 ·rw[decide_eq_true q1,cond_true]
  exact⟨_,rfl,.inl (by decide)⟩
 rw[decide_eq_false (by omega),cond_false]
 exact⟨_,rfl,.inr ⟨by omega,by omega,s0,s1⟩⟩
theorem Y3 (a:List Duty)(ha:(sE IQ) a){l:Int}(h0:0≤l)(h1:l≤1048576):∃r,Br a l=some r∧(r<0∨(0≤r∧r≤l∧(i8 pB) a)):=by
 have hm:a.length≤9223372036854775807:=ha.1
 unfold Br
 rw[eO h0 (by omega) hm]
 by_cases k:l - (a.length:Int)<0
 ·rw[decide_eq_true k,cond_true]
  exact⟨_,rfl,.inl (by decide)⟩
 rw[decide_eq_false k,cond_false]
 exact⟨_,rfl,.inr ⟨by omega,by omega,by omega,fun x _=>by simp[pB,jF]⟩⟩
theorem abg (a:List Int)(ha:(sE nU) a){l:Int}(h0:0≤l)(h1:l≤1048576):∃r,Bt a l=some r∧(r<0∨(0≤r∧r≤l∧(i8 jF) a)):=by
 have hm:a.length≤9223372036854775807:=ha.1
 unfold Bt
 rw[eO h0 (by omega) hm]
 by_cases k:l - (a.length:Int)<0
 ·rw[decide_eq_true k,cond_true]
  exact⟨_,rfl,.inl (by decide)⟩
 rw[decide_eq_false k,cond_false]
 exact⟨_,rfl,.inr ⟨by omega,by omega,by omega,fun x _=>by simp[jF]⟩⟩
theorem Y4 (x:State)(hx:C2 x){l:Int}(h0:0≤l)(h1:l≤1048576):∃r,Bv x l=some r∧(r<0∨(0≤r∧r≤l∧l8 x)):=by
 unfold Bv
 obtain⟨r1,e1,q1⟩:=HI x.Facts hx.2.1 (l:=l) (by omega) (by omega)
 rw[e1,Option.bind_some]
 rcases q1 with q1 | ⟨q1,p1,s1⟩
 ·rw[decide_eq_true q1,cond_true]
  exact⟨_,rfl,.inl (by decide)⟩
 rw[decide_eq_false (by omega),cond_false]
 obtain⟨r2,e2,q2⟩:=Y3 x.Duties hx.2.2.1 (l:=r1) (by omega) (by omega)
 rw[e2,Option.bind_some]
 rcases q2 with q2 | ⟨q2,p2,s2⟩
 ·rw[decide_eq_true q2,cond_true]
  exact⟨_,rfl,.inl (by decide)⟩
 rw[decide_eq_false (by omega),cond_false]
 obtain⟨r3,e3,q3⟩:=abg x.Balances hx.2.2.2.1 (l:=r2) (by omega) (by omega)
 rw[e3,Option.bind_some]
 rcases q3 with q3 | ⟨q3,p3,s3⟩
 ·rw[decide_eq_true q3,cond_true]
  exact⟨_,rfl,.inl (by decide)⟩
 rw[decide_eq_false (by omega),cond_false]
 exact⟨_,rfl,.inr ⟨by omega,by omega,(by simp[jF]),s1,s2,s3,(by simp[smB])⟩⟩
theorem HL (a:List ac)(ha:(i8 oe) a):wP a=some a:=by
 have hm:a.length≤1048576:=ha.1
 unfold wP
 rw[xX (by omega) (by omega),Option.bind_some,rE (L:=tE a) (g:=some) (h:=id) (fun _ _=>rfl) (fun x=>by rw[P1,nA]<;>rfl) (by omega) (by simp)]
 simp
theorem IY (a:List Condition)(ha:i8 cn a)(ih:∀y∈a,cn y→BB y=some y):wL (aL pW) a=some a:=by
 have hm:a.length≤1048576:=ha.1
 unfold wL
 rw[xX (by omega) (by omega),Option.bind_some,rE (L:=qV (aL pW) a) (g:=fun e=>BB e) (h:=id) (fun x hx=>ih x hx (ha.2 x hx)) (fun x=>by rw[PY,lu]<;>rfl) (by omega) (by simp)]
 simp
theorem NA (x:Condition):cn x→BB x=some x:=by
 refine gB (P:=fun x=>cn x→BB x=some x) ?_ x
 intro x ih hx
 rw[gX] at hx
 rw[ZZ]
 unfold tB
 rw[IY x.Parts hx.2.2.2.1 ih]
 cases x;rfl
theorem Wa (x:Clause)(hx:ig x):wI x=some x:=by
 unfold wI
 simp only[NA x.When hx.2.2.2.2.2.2.1,Option.bind_some]
theorem Rq (a:List Clause)(ha:(i8 ig) a):Bz a=some a:=by
 have hm:a.length≤1048576:=ha.1
 unfold Bz
 rw[xX (by omega) (by omega),Option.bind_some,rE (L:=tA a) (g:=(fun e=>wI e)) (h:=id) (fun x hx=>Wa x (ha.2 x hx)) (fun x=>by rw[PX,nu]<;>rfl) (by omega) (by simp)]
 simp
theorem OY (x:Contract)(hx:fu x):va x=some x:=by
 unfold va
 simp only[HL x.Parties hx.1,Rq x.Clauses hx.2,Option.bind_some]
theorem abh (x:Duty)(hx:pB x):wN x=some x:=by
 unfold wN
 rfl
theorem Y5 (a:List Duty)(ha:(i8 pB) a):BG a=some a:=by
 have hm:a.length≤1048576:=ha.1
 unfold BG
 rw[xX (by omega) (by omega),Option.bind_some,rE (L:=tC a) (g:=(fun e=>wN e)) (h:=id) (fun x hx=>abh x (ha.2 x hx)) (fun x=>by rw[PZ,ny]<;>rfl) (by omega) (by simp)]
 simp
theorem abi (a:List Int)(ha:(i8 jF) a):BI a=some a:=by
 have hm:a.length≤1048576:=ha.1
 unfold BI
 rw[xX (by omega) (by omega),Option.bind_some,rE (L:=tD a) (g:=some) (h:=id) (fun _ _=>rfl) (fun x=>by rw[P0,nz]<;>rfl) (by omega) (by simp)]
 simp
theorem Y6 (x:State)(hx:l8 x):vb x=some x:=by
 unfold vb
 simp only[HL x.Facts hx.2.1,Y5 x.Duties hx.2.2.1,abi x.Balances hx.2.2.2.1,Option.bind_some]
theorem G5 (a:List ac)(ha:(i8 oe) a):wB a a=some true:=by
 have hm:a.length≤1048576:=ha.1
 unfold wB
 rw[bne_self_eq_false,cond_false,uu (a:=a) (L:=tv a a) (p:=(fun e f=>some (e==f))) (fun x _=>by rw[beq_self_eq_true]) (fun x=>by rw[PT,nq]<;>rfl) (by omega)]
 rfl
theorem II (a:List Condition)(ha:i8 cn a)(ih:∀y∈a,cn y→A8 y y=some true):wz (aL pU) a a=some true:=by
 have hm:a.length≤1048576:=ha.1
 unfold wz
 rw[bne_self_eq_false,cond_false,uu (a:=a) (L:=qT (aL pU) a a) (p:=fun e f=>A8 e f) (fun x hx=>ih x hx (ha.2 x hx)) (fun x=>by rw[PQ,lr]<;>rfl) (by omega)]
 rfl
theorem MK (x:Condition):cn x→A8 x x=some true:=by
 refine gB (P:=fun x=>cn x→A8 x x=some true) ?_ x
 intro x ih hx
 rw[gX] at hx
 rw[ZW]
 unfold tq
 simp[II x.Parts hx.2.2.2.1 ih]
theorem Vi (x:Clause)(hx:ig x):ww x x=some true:=by
 unfold ww
 simp[MK x.When hx.2.2.2.2.2.2.1]
theorem QM (a:List Clause)(ha:(i8 ig) a):A6 a a=some true:=by
 have hm:a.length≤1048576:=ha.1
 unfold A6
 rw[bne_self_eq_false,cond_false,uu (a:=a) (L:=tp a a) (p:=(fun e f=>ww e f)) (fun x hx=>Vi x (ha.2 x hx)) (fun x=>by rw[PP,nm]<;>rfl) (by omega)]
 rfl
theorem OJ (x:Contract)(hx:fu x):Bb x x=some true:=by
 unfold Bb
 simp[G5 x.Parties hx.1,QM x.Clauses hx.2]
theorem aaM (x:Duty)(hx:pB x):wA x x=some true:=by
 unfold wA
 simp[]
theorem Yr (a:List Duty)(ha:(i8 pB) a):Be a a=some true:=by
 have hm:a.length≤1048576:=ha.1
 unfold Be
 rw[bne_self_eq_false,cond_false,uu (a:=a) (L:=tt a a) (p:=(fun e f=>wA e f)) (fun x hx=>aaM x (ha.2 x hx)) (fun x=>by rw[PR,no]<;>rfl) (by omega)]
 rfl
theorem aaN (a:List Int)(ha:(i8 jF) a):Bg a a=some true:=by
 have hm:a.length≤1048576:=ha.1
 unfold Bg
 rw[bne_self_eq_false,cond_false,uu (a:=a) (L:=tu a a) (p:=(fun e f=>some (e==f))) (fun x _=>by rw[beq_self_eq_true]) (fun x=>by rw[PS,np]<;>rfl) (by omega)]
 rfl
theorem Ys (x:State)(hx:l8 x):Bi x x=some true:=by
 unfold Bi
 simp[G5 x.Facts hx.2.1,Yr x.Duties hx.2.2.1,aaN x.Balances hx.2.2.2.1]
end Go.Ln
