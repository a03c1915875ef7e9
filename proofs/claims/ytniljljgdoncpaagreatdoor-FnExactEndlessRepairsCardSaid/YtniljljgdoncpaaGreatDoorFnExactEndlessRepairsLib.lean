/-
  What the helpers of the laws do: sizes, copies, comparisons.
-/
import Derived.Test.YtniljljgdoncpaaGreatDoorFnExactEndlessRepairsFun
set_option maxHeartbeats 4000000
set_option linter.unusedVariables false
set_option linter.unusedSimpArgs false
set_option maxRecDepth 100000
namespace Go.Ln
open Go
mutual
def nc_Condition:Condition→Nat
 | ⟨_,_,_,a3⟩=>1+nc_Conditions a3
def nc_Conditions:List Condition→Nat
 | []=>0
 | x::xs=>nc_Condition x+nc_Conditions xs
end
theorem nc_Condition_eq (x:Condition):nc_Condition x=1+nc_Conditions x.Parts:=by cases x;simp only[nc_Condition]
theorem nc_Conditions_eq:∀a,nc_Conditions a=a.length+(a.map fun x=>nc_Conditions x.Parts).sum
 | []=>rfl
 | x::xs=>by simp only[nc_Conditions,nc_Condition_eq,nc_Conditions_eq xs,List.length_cons,List.map_cons,List.sum_cons];omega
mutual
def sm_Condition:Condition→Prop
 | ⟨a0,a1,a2,a3⟩=>smI a0∧smS a1∧smI a2∧(a3.length≤1048576∧sm_Conditions a3)∧nc_Conditions a3≤1048576
def sm_Conditions:List Condition→Prop
 | []=>True
 | x::xs=>sm_Condition x∧sm_Conditions xs
end
theorem sm_Conditions_iff:∀xs,sm_Conditions xs↔∀x∈xs,sm_Condition x
 | []=>by simp[sm_Conditions]
 | x::xs=>by simp[sm_Conditions,sm_Conditions_iff xs]
theorem sm_Condition_iff (x:Condition):sm_Condition x↔smI x.Op∧smS x.Name∧smI x.Day∧smL sm_Condition x.Parts∧nc_Conditions x.Parts≤1048576:=by cases x;simp only[sm_Condition,sm_Conditions_iff,smL]
theorem rec_Condition {P:Condition→Prop}(h:∀x,(∀y∈x.Parts,P y)→P x):∀x,P x:=by
 have key:∀(N:Nat) (x:Condition),SizeOf.sizeOf x<N→P x:=by
  intro N
  induction N with
  | zero=>intro x hx;omega
  | succ N ih=>
   intro x hx
   refine h x fun y hy=>ih y ?_
   cases x
   have:=List.sizeOf_lt_of_mem hy
   simp at this hx
   omega
 exact fun x=>key _ x (Nat.lt_succ_self _)
def sm_Clause (x:Clause):Prop:=smS x.Id∧smI x.Kind∧smI x.Party∧smS x.Action∧smI x.Other∧smI x.Amount∧sm_Condition x.When∧smI x.Within∧smS x.Repair
def sm_Contract (x:Contract):Prop:=(smL smS) x.Parties∧(smL sm_Clause) x.Clauses
theorem sz_StringS (a:List Str)(ha:(okL okS) a){l:Int}(h0:0≤l)(h1:l≤1048576):∃r,Ffbo a l=some r∧(r<0∨(0≤r∧r≤l∧(smL smS) a)):=by
 have hm:a.length≤9223372036854775807:=ha.1
 unfold Ffbo
 rw[w64_sub h0 (by omega) hm]
 by_cases k:l - (a.length:Int)<0
 ·rw[decide_eq_true k,cond_true]
  exact⟨_,rfl,.inl (by decide)⟩
 rw[decide_eq_false k,cond_false]
 have hs:∀x∈a,∀l:Int,0≤l→l≤1048576→∃r,(fun e l=>some (w64 (l - len e))) x l=some r∧(r<0∨(0≤r∧r≤l∧smS x)):=by
  intro x hx l h0 h1
  have hx:=ha.2 x hx
  refine⟨_,rfl,?_⟩
  rw[w64_sub h0 (by omega) hx]
  by_cases k:l - (x.length:Int)<0
  ·exact .inl k
  ·exact .inr ⟨by omega,by omega,by show x.length≤1048576;omega⟩
 obtain⟨y,hy,q⟩:=szLoop (L:=Ffbo_la a l) (a:=a) (s:=fun e l=>some (w64 (l - len e))) (ok:=smS) (M:=1048576) (by decide) hs (fun x=>by rw[Ffbo_la_eq,Ffbo_la_F]<;>rfl) (by omega) (l:=l - (a.length:Int)) (by omega) (by omega)
 rw[hy]
 rcases q with rfl | ⟨r,rfl,q1,q2,q3⟩
 ·exact⟨_,rfl,.inl (by decide)⟩
 ·exact⟨_,rfl,.inr ⟨q1,by omega,by omega,q3⟩⟩
theorem sz_ConditionSw (a:List Condition)(ha:okL Ffbw a)(ih:∀y∈a,Ffbw y→∀l:Int,0≤l→l≤1048576→∃r,Ffbk y l=some r∧(r<0∨(0≤r∧r+((nc_Conditions y.Parts:Nat):Int)≤l∧sm_Condition y))){l:Int}(h0:0≤l)(h1:l≤1048576) :
  ∃r,Ffbm (fixO Ffbk_G) a l=some r∧(r<0∨(0≤r∧r+((nc_Conditions a:Nat):Int)≤l∧smL sm_Condition a)):=by
 have hm:a.length≤9223372036854775807:=ha.1
 unfold Ffbm
 rw[w64_sub h0 (by omega) hm]
 by_cases k:l - (a.length:Int)<0
 ·rw[decide_eq_true k,cond_true]
  exact⟨_,rfl,.inl (by decide)⟩
 rw[decide_eq_false k,cond_false]
 obtain⟨y,hy,q⟩:=szLoopW (L:=Ffbm_la (fixO Ffbk_G) a l) (a:=a) (s:=fun e l=>Ffbk e l) (w:=fun x=>nc_Conditions x.Parts) (ok:=sm_Condition) (M:=1048576) (by decide) (fun x hx l h0 h1=>ih x hx (ha.2 x hx) l h0 h1) (fun x=>by rw[Ffbm_la_eq,Ffbm_la_F]<;>rfl) (by omega) (l:=l - (a.length:Int)) (by omega) (by omega)
 rw[hy]
 rcases q with rfl | ⟨r,rfl,q1,q2,q3⟩
 ·exact⟨_,rfl,.inl (by decide)⟩
 ·exact⟨_,rfl,.inr ⟨q1,by rw[nc_Conditions_eq];omega,by show a.length≤1048576;omega,q3⟩⟩
theorem sz_Conditionw (x:Condition):Ffbw x→∀l:Int,0≤l→l≤1048576→∃r,Ffbk x l=some r∧(r<0∨(0≤r∧r+((nc_Conditions x.Parts:Nat):Int)≤l∧sm_Condition x)):=by
 refine rec_Condition (P:=fun x=>Ffbw x→∀l:Int,0≤l→l≤1048576→∃r,Ffbk x l=some r∧(r<0∨(0≤r∧r+((nc_Conditions x.Parts:Nat):Int)≤l∧sm_Condition x))) ?_ x
 intro x ih hx l h0 h1
 rw[Ffbw_iff] at hx
 rw[Ffbk_eq]
 unfold Ffbk_B
 have m1:x.Name.length≤9223372036854775807:=hx.2.1
 rw[w64_sub (l:=l) (by omega) (by omega) m1]
 by_cases k1:l - (x.Name.length:Int)<0
 ·rw[decide_eq_true k1,cond_true]
  exact⟨_,rfl,.inl (by decide)⟩
 rw[decide_eq_false k1,cond_false]
 obtain⟨r3,e3,q3⟩:=sz_ConditionSw x.Parts hx.2.2.2 ih (l:=(l - (x.Name.length:Int))) (by omega) (by omega)
 rw[e3,Option.bind_some]
 rcases q3 with q3 | ⟨q3,p3,s3⟩
 ·rw[decide_eq_true q3,cond_true]
  exact⟨_,rfl,.inl (by decide)⟩
 rw[decide_eq_false (by omega),cond_false]
 exact⟨_,rfl,.inr ⟨by omega,by omega,(sm_Condition_iff x).2 ⟨(by simp[smI]),(by show x.Name.length≤1048576;omega),(by simp[smI]),s3,by omega⟩⟩⟩
theorem sz_Condition (x:Condition)(hx:Ffbw x){l:Int}(h0:0≤l)(h1:l≤1048576):∃r,Ffbk x l=some r∧(r<0∨(0≤r∧r≤l∧sm_Condition x)):=by
 obtain⟨r,h,q⟩:=sz_Conditionw x hx l h0 h1
 exact⟨r,h,q.imp id fun⟨q1,q2,q3⟩=>⟨q1,by omega,q3⟩⟩
theorem sz_ConditionS (a:List Condition)(ha:okL Ffbw a){l:Int}(h0:0≤l)(h1:l≤1048576):∃r,Ffbl a l=some r∧(r<0∨(0≤r∧r≤l∧smL sm_Condition a)):=by
 obtain⟨r,h,q⟩:=sz_ConditionSw a ha (fun y _ hy l h0 h1=>sz_Conditionw y hy l h0 h1) h0 h1
 exact⟨r,h,q.imp id fun⟨q1,q2,q3⟩=>⟨q1,by omega,q3⟩⟩
theorem sz_Clause (x:Clause)(hx:ok_Clause x){l:Int}(h0:0≤l)(h1:l≤1048576):∃r,Ffbi x l=some r∧(r<0∨(0≤r∧r≤l∧sm_Clause x)):=by
 unfold Ffbi
 have m0:x.Id.length≤9223372036854775807:=hx.1
 rw[w64_sub (l:=l) (by omega) (by omega) m0]
 by_cases k0:l - (x.Id.length:Int)<0
 ·rw[decide_eq_true k0,cond_true]
  exact⟨_,rfl,.inl (by decide)⟩
 rw[decide_eq_false k0,cond_false]
 have m3:x.Action.length≤9223372036854775807:=hx.2.2.2.1
 rw[w64_sub (l:=(l - (x.Id.length:Int))) (by omega) (by omega) m3]
 by_cases k3:(l - (x.Id.length:Int)) - (x.Action.length:Int)<0
 ·rw[decide_eq_true k3,cond_true]
  exact⟨_,rfl,.inl (by decide)⟩
 rw[decide_eq_false k3,cond_false]
 obtain⟨r6,e6,q6⟩:=sz_Condition x.When hx.2.2.2.2.2.2.1 (l:=((l - (x.Id.length:Int)) - (x.Action.length:Int))) (by omega) (by omega)
 rw[e6,Option.bind_some]
 rcases q6 with q6 | ⟨q6,p6,s6⟩
 ·rw[decide_eq_true q6,cond_true]
  exact⟨_,rfl,.inl (by decide)⟩
 rw[decide_eq_false (by omega),cond_false]
 have m8:x.Repair.length≤9223372036854775807:=hx.2.2.2.2.2.2.2.2
 rw[w64_sub (l:=r6) (by omega) (by omega) m8]
 by_cases k8:r6 - (x.Repair.length:Int)<0
 ·rw[decide_eq_true k8,cond_true]
  exact⟨_,rfl,.inl (by decide)⟩
 rw[decide_eq_false k8,cond_false]
 exact⟨_,rfl,.inr ⟨by omega,by omega,(by show x.Id.length≤1048576;omega),(by simp[smI]),(by simp[smI]),(by show x.Action.length≤1048576;omega),(by simp[smI]),(by simp[smI]),s6,(by simp[smI]),(by show x.Repair.length≤1048576;omega)⟩⟩
theorem sz_ClauseS (a:List Clause)(ha:(okL ok_Clause) a){l:Int}(h0:0≤l)(h1:l≤1048576):∃r,Ffbj a l=some r∧(r<0∨(0≤r∧r≤l∧(smL sm_Clause) a)):=by
 have hm:a.length≤9223372036854775807:=ha.1
 unfold Ffbj
 rw[w64_sub h0 (by omega) hm]
 by_cases k:l - (a.length:Int)<0
 ·rw[decide_eq_true k,cond_true]
  exact⟨_,rfl,.inl (by decide)⟩
 rw[decide_eq_false k,cond_false]
 have hs:∀x∈a,∀l:Int,0≤l→l≤1048576→∃r,(fun e l=>Ffbi e l) x l=some r∧(r<0∨(0≤r∧r≤l∧sm_Clause x)):=by
  intro x hx l h0 h1
  exact sz_Clause x (ha.2 x hx) h0 h1
 obtain⟨y,hy,q⟩:=szLoop (L:=Ffbj_la a l) (a:=a) (s:=fun e l=>Ffbi e l) (ok:=sm_Clause) (M:=1048576) (by decide) hs (fun x=>by rw[Ffbj_la_eq,Ffbj_la_F]<;>rfl) (by omega) (l:=l - (a.length:Int)) (by omega) (by omega)
 rw[hy]
 rcases q with rfl | ⟨r,rfl,q1,q2,q3⟩
 ·exact⟨_,rfl,.inl (by decide)⟩
 ·exact⟨_,rfl,.inr ⟨q1,by omega,by omega,q3⟩⟩
theorem sz_Contract (x:Contract)(hx:Ffby x){l:Int}(h0:0≤l)(h1:l≤1048576):∃r,Ffbn x l=some r∧(r<0∨(0≤r∧r≤l∧sm_Contract x)):=by
 unfold Ffbn
 obtain⟨r0,e0,q0⟩:=sz_StringS x.Parties hx.1 (l:=l) (by omega) (by omega)
 rw[e0,Option.bind_some]
 rcases q0 with q0 | ⟨q0,p0,s0⟩
 ·rw[decide_eq_true q0,cond_true]
  exact⟨_,rfl,.inl (by decide)⟩
 rw[decide_eq_false (by omega),cond_false]
 obtain⟨r1,e1,q1⟩:=sz_ClauseS x.Clauses hx.2 (l:=r0) (by omega) (by omega)
 rw[e1,Option.bind_some]
 rcases q1 with q1 | ⟨q1,p1,s1⟩
 ·rw[decide_eq_true q1,cond_true]
  exact⟨_,rfl,.inl (by decide)⟩
 rw[decide_eq_false (by omega),cond_false]
 exact⟨_,rfl,.inr ⟨by omega,by omega,s0,s1⟩⟩
theorem to_StringS (a:List Str)(ha:(smL smS) a):Ffbv a=some a:=by
 have hm:a.length≤1048576:=ha.1
 unfold Ffbv
 rw[mkI_ok (by omega) (by omega),Option.bind_some,copyLoop (L:=Ffbv_la a) (g:=some) (h:=id) (fun _ _=>rfl) (fun x=>by rw[Ffbv_la_eq,Ffbv_la_F]<;>rfl) (by omega) (by simp)]
 simp
theorem to_ConditionSw (a:List Condition)(ha:smL sm_Condition a)(ih:∀y∈a,sm_Condition y→Ffbr y=some y):Ffbt (fixO Ffbr_G) a=some a:=by
 have hm:a.length≤1048576:=ha.1
 unfold Ffbt
 rw[mkI_ok (by omega) (by omega),Option.bind_some,copyLoop (L:=Ffbt_la (fixO Ffbr_G) a) (g:=fun e=>Ffbr e) (h:=id) (fun x hx=>ih x hx (ha.2 x hx)) (fun x=>by rw[Ffbt_la_eq,Ffbt_la_F]<;>rfl) (by omega) (by simp)]
 simp
theorem to_Condition (x:Condition):sm_Condition x→Ffbr x=some x:=by
 refine rec_Condition (P:=fun x=>sm_Condition x→Ffbr x=some x) ?_ x
 intro x ih hx
 rw[sm_Condition_iff] at hx
 rw[Ffbr_eq]
 unfold Ffbr_B
 rw[to_ConditionSw x.Parts hx.2.2.2.1 ih]
 cases x;rfl
theorem to_ConditionS (a:List Condition)(ha:smL sm_Condition a):Ffbs a=some a:=to_ConditionSw a ha fun y _ hy=>to_Condition y hy
theorem to_Clause (x:Clause)(hx:sm_Clause x):Ffbp x=some x:=by
 unfold Ffbp
 simp only[to_Condition x.When hx.2.2.2.2.2.2.1,Option.bind_some]
theorem to_ClauseS (a:List Clause)(ha:(smL sm_Clause) a):Ffbq a=some a:=by
 have hm:a.length≤1048576:=ha.1
 unfold Ffbq
 rw[mkI_ok (by omega) (by omega),Option.bind_some,copyLoop (L:=Ffbq_la a) (g:=(fun e=>Ffbp e)) (h:=id) (fun x hx=>to_Clause x (ha.2 x hx)) (fun x=>by rw[Ffbq_la_eq,Ffbq_la_F]<;>rfl) (by omega) (by simp)]
 simp
theorem to_Contract (x:Contract)(hx:sm_Contract x):Ffbu x=some x:=by
 unfold Ffbu
 simp only[to_StringS x.Parties hx.1,to_ClauseS x.Clauses hx.2,Option.bind_some]
theorem eq_IntS (a:List Int)(ha:(smL smI) a):Ffz a a=some true:=by
 have hm:a.length≤1048576:=ha.1
 unfold Ffz
 rw[bne_self_eq_false,cond_false,eqLoopR (a:=a) (L:=Ffz_la a a) (p:=(fun e f=>some (e==f))) (fun x _=>by rw[beq_self_eq_true]) (fun x=>by rw[Ffz_la_eq,Ffz_la_F]<;>rfl) (by omega)]
 rfl
theorem eq_StringS (a:List Str)(ha:(smL smS) a):Ffba a a=some true:=by
 have hm:a.length≤1048576:=ha.1
 unfold Ffba
 rw[bne_self_eq_false,cond_false,eqLoopR (a:=a) (L:=Ffba_la a a) (p:=(fun e f=>some (e==f))) (fun x _=>by rw[beq_self_eq_true]) (fun x=>by rw[Ffba_la_eq,Ffba_la_F]<;>rfl) (by omega)]
 rfl
theorem eq_ConditionSw (a:List Condition)(ha:smL sm_Condition a)(ih:∀y∈a,sm_Condition y→Ffv y y=some true):Ffx (fixO Ffv_G) a a=some true:=by
 have hm:a.length≤1048576:=ha.1
 unfold Ffx
 rw[bne_self_eq_false,cond_false,eqLoopR (a:=a) (L:=Ffx_la (fixO Ffv_G) a a) (p:=fun e f=>Ffv e f) (fun x hx=>ih x hx (ha.2 x hx)) (fun x=>by rw[Ffx_la_eq,Ffx_la_F]<;>rfl) (by omega)]
 rfl
theorem eq_Condition (x:Condition):sm_Condition x→Ffv x x=some true:=by
 refine rec_Condition (P:=fun x=>sm_Condition x→Ffv x x=some true) ?_ x
 intro x ih hx
 rw[sm_Condition_iff] at hx
 rw[Ffv_eq]
 unfold Ffv_B
 simp[eq_ConditionSw x.Parts hx.2.2.2.1 ih]
theorem eq_ConditionS (a:List Condition)(ha:smL sm_Condition a):Ffw a a=some true:=eq_ConditionSw a ha fun y _ hy=>eq_Condition y hy
theorem eq_Clause (x:Clause)(hx:sm_Clause x):Fft x x=some true:=by
 unfold Fft
 simp[eq_Condition x.When hx.2.2.2.2.2.2.1]
theorem eq_ClauseS (a:List Clause)(ha:(smL sm_Clause) a):Ffu a a=some true:=by
 have hm:a.length≤1048576:=ha.1
 unfold Ffu
 rw[bne_self_eq_false,cond_false,eqLoopR (a:=a) (L:=Ffu_la a a) (p:=(fun e f=>Fft e f)) (fun x hx=>eq_Clause x (ha.2 x hx)) (fun x=>by rw[Ffu_la_eq,Ffu_la_F]<;>rfl) (by omega)]
 rfl
theorem eq_Contract (x:Contract)(hx:sm_Contract x):Ffy x x=some true:=by
 unfold Ffy
 simp[eq_StringS x.Parties hx.1,eq_ClauseS x.Clauses hx.2]
end Go.Ln
