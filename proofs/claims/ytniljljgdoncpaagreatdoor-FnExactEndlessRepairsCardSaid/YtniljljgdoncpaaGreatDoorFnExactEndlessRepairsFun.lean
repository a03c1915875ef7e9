/-
  What each function of the law computes, as a plain function.
-/
import Derived.Test.YtniljljgdoncpaaGreatDoorLnC
set_option maxHeartbeats 4000000
set_option linter.unusedVariables false
set_option linter.unusedSimpArgs false
set_option maxRecDepth 100000
namespace Go.Ln
open Go
structure Condition where
 Op:Int
 Name:Str
 Day:Int
 Parts:List Condition
mutual
def encI_Condition:Condition→V
 | ⟨a0,a1,a2,a3⟩=>.agg [I a0,str a1,I a2,.isl false (encI_Conditions a3)]
def encI_Conditions:List Condition→List V
 | []=>[]
 | x::xs=>encI_Condition x::encI_Conditions xs
end
theorem encI_Conditions_map:∀xs,encI_Conditions xs=xs.map encI_Condition
 | []=>by simp[encI_Conditions]
 | x::xs=>by simp[encI_Conditions,encI_Conditions_map xs]
def encI_Condition1 (x:Condition):V:=.agg [I x.Op,str x.Name,I x.Day,.isl false (x.Parts.map encI_Condition)]
theorem encI_Condition_eq (x:Condition):encI_Condition x=encI_Condition1 x:=by cases x;simp only[encI_Condition,encI_Condition1,encI_Conditions_map]
theorem encI_Condition_cells (x:Condition):(cells (encI_Condition x)).length=4∧(cells (encI_Condition x)).all cellV=true:=by rw[encI_Condition_eq];exact⟨rfl,rfl⟩
mutual
theorem encI_Condition_inj:∀(a b:Condition),encI_Condition a=encI_Condition b→a=b
 | ⟨a0,a1,a2,a3⟩,⟨b0,b1,b2,b3⟩,h=>by
  simp only[encI_Condition] at h
  have k0:=V.agg.inj h
  obtain⟨h0,k1⟩:=List.cons.inj k0
  obtain rfl:=I_inj a0 b0 h0
  obtain⟨h1,k2⟩:=List.cons.inj k1
  obtain rfl:=str_inj a1 b1 h1
  obtain⟨h2,k3⟩:=List.cons.inj k2
  obtain rfl:=I_inj a2 b2 h2
  obtain⟨h3,k4⟩:=List.cons.inj k3
  have e3:encI_Conditions a3=encI_Conditions b3:=by simpa using h3
  obtain rfl:=encI_Conditions_inj a3 b3 e3
  rfl
theorem encI_Conditions_inj:∀(a b:List Condition),encI_Conditions a=encI_Conditions b→a=b
 | [],[],_=>rfl
 | [],_::_,h=>by simp[encI_Conditions] at h
 | _::_,[],h=>by simp[encI_Conditions] at h
 | x::xs,y::ys,h=>by
  simp only[encI_Conditions,List.cons.injEq] at h
  rw[encI_Condition_inj x y h.1,encI_Conditions_inj xs ys h.2]
end
theorem encI_Condition1_inj (a b:Condition)(h:encI_Condition1 a=encI_Condition1 b):a=b:=encI_Condition_inj a b (by rw[encI_Condition_eq,encI_Condition_eq,h])
mutual
def encO_Condition:Condition→V
 | ⟨a0,a1,a2,a3⟩=>.agg [I a0,str a1,I a2,.usl 4 (encO_Conditions a3)]
def encO_Conditions:List Condition→List V
 | []=>[]
 | x::xs=>encO_Condition x::encO_Conditions xs
end
theorem encO_Conditions_map:∀xs,encO_Conditions xs=xs.map encO_Condition
 | []=>by simp[encO_Conditions]
 | x::xs=>by simp[encO_Conditions,encO_Conditions_map xs]
def encO_Condition1 (x:Condition):V:=.agg [I x.Op,str x.Name,I x.Day,.usl 4 (x.Parts.map encO_Condition)]
theorem encO_Condition_eq (x:Condition):encO_Condition x=encO_Condition1 x:=by cases x;simp only[encO_Condition,encO_Condition1,encO_Conditions_map]
theorem encO_Condition_cells (x:Condition):(cells (encO_Condition x)).length=4∧(cells (encO_Condition x)).all cellV=true:=by rw[encO_Condition_eq];exact⟨rfl,rfl⟩
mutual
theorem encO_Condition_inj:∀(a b:Condition),encO_Condition a=encO_Condition b→a=b
 | ⟨a0,a1,a2,a3⟩,⟨b0,b1,b2,b3⟩,h=>by
  simp only[encO_Condition] at h
  have k0:=V.agg.inj h
  obtain⟨h0,k1⟩:=List.cons.inj k0
  obtain rfl:=I_inj a0 b0 h0
  obtain⟨h1,k2⟩:=List.cons.inj k1
  obtain rfl:=str_inj a1 b1 h1
  obtain⟨h2,k3⟩:=List.cons.inj k2
  obtain rfl:=I_inj a2 b2 h2
  obtain⟨h3,k4⟩:=List.cons.inj k3
  have e3:encO_Conditions a3=encO_Conditions b3:=by simpa using h3
  obtain rfl:=encO_Conditions_inj a3 b3 e3
  rfl
theorem encO_Conditions_inj:∀(a b:List Condition),encO_Conditions a=encO_Conditions b→a=b
 | [],[],_=>rfl
 | [],_::_,h=>by simp[encO_Conditions] at h
 | _::_,[],h=>by simp[encO_Conditions] at h
 | x::xs,y::ys,h=>by
  simp only[encO_Conditions,List.cons.injEq] at h
  rw[encO_Condition_inj x y h.1,encO_Conditions_inj xs ys h.2]
end
theorem encO_Condition1_inj (a b:Condition)(h:encO_Condition1 a=encO_Condition1 b):a=b:=encO_Condition_inj a b (by rw[encO_Condition_eq,encO_Condition_eq,h])
theorem encI_Condition_imm (x:Condition):imm (encI_Condition x)=encI_Condition x:=by rw[encI_Condition_eq];rfl
mutual
theorem encO_Condition_imm:∀x:Condition,imm (encO_Condition x)=encI_Condition x
 | ⟨a0,a1,a2,a3⟩=>by simp[encO_Condition,encI_Condition,imm,imms,str,encO_Conditions_imm]
theorem encO_Conditions_imm:∀xs:List Condition,imms (encO_Conditions xs)=encI_Conditions xs
 | []=>by simp[encO_Conditions,encI_Conditions,imms]
 | x::xs=>by simp[encO_Conditions,encI_Conditions,imms,encO_Condition_imm x,encO_Conditions_imm xs]
end
mutual
theorem encO_Condition_himm:∀x:Condition,hasImm (encO_Condition x)=false
 | ⟨a0,a1,a2,a3⟩=>by simp[encO_Condition,hasImm,hasImms,str,encO_Conditions_himm]
theorem encO_Conditions_himm:∀xs:List Condition,hasImms (encO_Conditions xs)=false
 | []=>by simp[encO_Conditions,hasImms]
 | x::xs=>by simp[encO_Conditions,hasImms,encO_Condition_himm x,encO_Conditions_himm xs]
end
structure Clause where
 Id:Str
 Kind:Int
 Party:Int
 Action:Str
 Other:Int
 Amount:Int
 When:Condition
 Within:Int
 Repair:Str
def encI_Clause (x:Clause):V:=.agg [str x.Id,I x.Kind,I x.Party,str x.Action,I x.Other,I x.Amount,I x.When.Op,str x.When.Name,I x.When.Day,.isl false (x.When.Parts.map encI_Condition),I x.Within,str x.Repair]
theorem encI_Clause_cells (x:Clause):(cells (encI_Clause x)).length=12∧(cells (encI_Clause x)).all cellV=true:=⟨rfl,rfl⟩
theorem encI_Clause_imm (x:Clause):imm (encI_Clause x)=encI_Clause x:=rfl
theorem encI_Clause_inj (a b:Clause)(h:encI_Clause a=encI_Clause b):a=b:=by
 obtain⟨p0,p1,p2,p3,p4,p5,⟨p6,p7,p8,p9⟩,p10,p11⟩:=a
 obtain⟨q0,q1,q2,q3,q4,q5,⟨q6,q7,q8,q9⟩,q10,q11⟩:=b
 replace h:=V.agg.inj h
 obtain⟨h0,h⟩:=List.cons.inj h
 obtain rfl:=str_inj p0 q0 h0
 obtain⟨h1,h⟩:=List.cons.inj h
 obtain rfl:=I_inj p1 q1 h1
 obtain⟨h2,h⟩:=List.cons.inj h
 obtain rfl:=I_inj p2 q2 h2
 obtain⟨h3,h⟩:=List.cons.inj h
 obtain rfl:=str_inj p3 q3 h3
 obtain⟨h4,h⟩:=List.cons.inj h
 obtain rfl:=I_inj p4 q4 h4
 obtain⟨h5,h⟩:=List.cons.inj h
 obtain rfl:=I_inj p5 q5 h5
 obtain⟨h6,h⟩:=List.cons.inj h
 obtain rfl:=I_inj p6 q6 h6
 obtain⟨h7,h⟩:=List.cons.inj h
 obtain rfl:=str_inj p7 q7 h7
 obtain⟨h8,h⟩:=List.cons.inj h
 obtain rfl:=I_inj p8 q8 h8
 obtain⟨h9,h⟩:=List.cons.inj h
 obtain rfl:=(isl_inj encI_Condition_inj) p9 q9 h9
 obtain⟨h10,h⟩:=List.cons.inj h
 obtain rfl:=I_inj p10 q10 h10
 obtain⟨h11,h⟩:=List.cons.inj h
 obtain rfl:=str_inj p11 q11 h11
 rfl
def encO_Clause (x:Clause):V:=.agg [str x.Id,I x.Kind,I x.Party,str x.Action,I x.Other,I x.Amount,I x.When.Op,str x.When.Name,I x.When.Day,.usl 4 (x.When.Parts.map encO_Condition),I x.Within,str x.Repair]
theorem encO_Clause_cells (x:Clause):(cells (encO_Clause x)).length=12∧(cells (encO_Clause x)).all cellV=true:=⟨rfl,rfl⟩
theorem encO_Clause_imm (x:Clause):imm (encO_Clause x)=encI_Clause x:=imm_a (imms_c rfl (imms_c rfl (imms_c rfl (imms_c rfl (imms_c rfl (imms_c rfl (imms_c rfl (imms_c rfl (imms_c rfl (imms_c (imm_u (imms_of encO_Condition_imm)) (imms_c rfl (imms_c rfl rfl))))))))))))
theorem encO_Clause_himm (x:Clause):hasImm (encO_Clause x)=false:=by simp[encO_Clause,hasImm,hasImms,str,himm_map (f:=encO_Condition) encO_Condition_himm]
theorem encO_Clause_inj (a b:Clause)(h:encO_Clause a=encO_Clause b):a=b:=by
 obtain⟨p0,p1,p2,p3,p4,p5,⟨p6,p7,p8,p9⟩,p10,p11⟩:=a
 obtain⟨q0,q1,q2,q3,q4,q5,⟨q6,q7,q8,q9⟩,q10,q11⟩:=b
 replace h:=V.agg.inj h
 obtain⟨h0,h⟩:=List.cons.inj h
 obtain rfl:=str_inj p0 q0 h0
 obtain⟨h1,h⟩:=List.cons.inj h
 obtain rfl:=I_inj p1 q1 h1
 obtain⟨h2,h⟩:=List.cons.inj h
 obtain rfl:=I_inj p2 q2 h2
 obtain⟨h3,h⟩:=List.cons.inj h
 obtain rfl:=str_inj p3 q3 h3
 obtain⟨h4,h⟩:=List.cons.inj h
 obtain rfl:=I_inj p4 q4 h4
 obtain⟨h5,h⟩:=List.cons.inj h
 obtain rfl:=I_inj p5 q5 h5
 obtain⟨h6,h⟩:=List.cons.inj h
 obtain rfl:=I_inj p6 q6 h6
 obtain⟨h7,h⟩:=List.cons.inj h
 obtain rfl:=str_inj p7 q7 h7
 obtain⟨h8,h⟩:=List.cons.inj h
 obtain rfl:=I_inj p8 q8 h8
 obtain⟨h9,h⟩:=List.cons.inj h
 obtain rfl:=(usl_inj encO_Condition_inj) p9 q9 h9
 obtain⟨h10,h⟩:=List.cons.inj h
 obtain rfl:=I_inj p10 q10 h10
 obtain⟨h11,h⟩:=List.cons.inj h
 obtain rfl:=str_inj p11 q11 h11
 rfl
structure Contract where
 Parties:List Str
 Clauses:List Clause
def encI_Contract (x:Contract):V:=.agg [.isl false (x.Parties.map str),.isl false (x.Clauses.map encI_Clause)]
theorem encI_Contract_cells (x:Contract):(cells (encI_Contract x)).length=2∧(cells (encI_Contract x)).all cellV=true:=⟨rfl,rfl⟩
theorem encI_Contract_imm (x:Contract):imm (encI_Contract x)=encI_Contract x:=rfl
theorem encI_Contract_inj (a b:Contract)(h:encI_Contract a=encI_Contract b):a=b:=by
 obtain⟨p0,p1⟩:=a
 obtain⟨q0,q1⟩:=b
 replace h:=V.agg.inj h
 obtain⟨h0,h⟩:=List.cons.inj h
 obtain rfl:=(isl_inj str_inj) p0 q0 h0
 obtain⟨h1,h⟩:=List.cons.inj h
 obtain rfl:=(isl_inj encI_Clause_inj) p1 q1 h1
 rfl
def encO_Contract (x:Contract):V:=.agg [.usl 1 (x.Parties.map str),.usl 12 (x.Clauses.map encO_Clause)]
theorem encO_Contract_cells (x:Contract):(cells (encO_Contract x)).length=2∧(cells (encO_Contract x)).all cellV=true:=⟨rfl,rfl⟩
theorem encO_Contract_imm (x:Contract):imm (encO_Contract x)=encI_Contract x:=imm_a (imms_c (imm_u (imms_of str_imm)) (imms_c (imm_u (imms_of encO_Clause_imm)) rfl))
theorem encO_Contract_himm (x:Contract):hasImm (encO_Contract x)=false:=by simp[encO_Contract,hasImm,hasImms,str,himm_map (f:=str) str_himm,himm_map (f:=encO_Clause) encO_Clause_himm]
theorem encO_Contract_inj (a b:Contract)(h:encO_Contract a=encO_Contract b):a=b:=by
 obtain⟨p0,p1⟩:=a
 obtain⟨q0,q1⟩:=b
 replace h:=V.agg.inj h
 obtain⟨h0,h⟩:=List.cons.inj h
 obtain rfl:=(usl_inj str_inj) p0 q0 h0
 obtain⟨h1,h⟩:=List.cons.inj h
 obtain rfl:=(usl_inj encO_Clause_inj) p1 q1 h1
 rfl
mutual
def Ffbw:Condition→Prop
 | ⟨a0,a1,a2,a3⟩=>I64 a0∧okS a1∧I64 a2∧(a3.length≤maxLen∧Ffbx a3)
def Ffbx:List Condition→Prop
 | []=>True
 | x::xs=>Ffbw x∧Ffbx xs
end
theorem Ffbx_iff:∀xs,Ffbx xs↔∀x∈xs,Ffbw x
 | []=>by simp[Ffbx]
 | x::xs=>by simp[Ffbx,Ffbx_iff xs]
theorem Ffbw_iff (x:Condition):Ffbw x↔I64 x.Op∧okS x.Name∧I64 x.Day∧okL Ffbw x.Parts:=by cases x;simp only[Ffbw,Ffbx_iff,okL]
def ok_Clause (x:Clause):Prop:=okS x.Id∧I64 x.Kind∧I64 x.Party∧okS x.Action∧I64 x.Other∧I64 x.Amount∧Ffbw x.When∧I64 x.Within∧okS x.Repair
def Ffby (x:Contract):Prop:=(okL okS) x.Parties∧(okL ok_Clause) x.Clauses
noncomputable def Ffbo_la_F (a_1:List Str)(left_2:Int)(self:(Int×Int)→Option (Int⊕Int))(x3:Int×Int):Option (Int⊕Int):=
 bif (decide (x3.2<(len a_1))) then ((getI a_1 x3.2).bind fun e4=>bif (decide ((w64 (x3.1 - (len e4)))<0)) then (some (.inl (-1))) else (self ((w64 (x3.1 - (len e4))),(w64 (x3.2+1))))) else (some (.inr x3.1))
noncomputable def Ffbo_la (a_1:List Str)(left_2:Int): (Int×Int)→Option (Int⊕Int):=fixO (Ffbo_la_F a_1 left_2)
theorem Ffbo_la_fin (a_1:List Str)(left_2:Int): ∀a,Fin1 fun f=>Ffbo_la_F a_1 left_2 f a:=by
 intro a
 unfold Ffbo_la_F
 repeat first|exact f_const|exact f_self|refine f_cond ?_ ?_|refine f_bindJ ?_ (fun _=>?_)|refine f_bindL ?_ (fun _=>?_)|refine f_bind ?_ (fun _=>?_)|refine f_letJ (fun _=>?_)
theorem Ffbo_la_eq (a_1:List Str)(left_2:Int)(x:Int×Int):Ffbo_la a_1 left_2 x=Ffbo_la_F a_1 left_2 (Ffbo_la a_1 left_2) x:=fix_eq (Ffbo_la_fin a_1 left_2) x
noncomputable def Ffbo (a_1:List Str)(left_2:Int):Option Int:=
 bif (decide ((w64 (left_2 - (len a_1)))<0)) then (some (-1)) else (bindJ (ρ:=Int) (Ffbo_la a_1 left_2 ((w64 (left_2 - (len a_1))),0)) fun u5:Int=>some u5)
noncomputable def Ffbm_la_F (slf_Ffbk:(Condition×Int)→Option Int)(a_1:List Condition)(left_2:Int)(self:(Int×Int)→Option (Int⊕Int))(x3:Int×Int):Option (Int⊕Int):=
 bif (decide (x3.2<(len a_1))) then ((getI a_1 x3.2).bind fun e4=>(slf_Ffbk (e4,x3.1)).bind fun r5=>bif (decide (r5<0)) then (some (.inl (-1))) else (self (r5,(w64 (x3.2+1))))) else (some (.inr x3.1))
noncomputable def Ffbm_la (slf_Ffbk:(Condition×Int)→Option Int)(a_1:List Condition)(left_2:Int): (Int×Int)→Option (Int⊕Int):=fixO (Ffbm_la_F slf_Ffbk a_1 left_2)
theorem Ffbm_la_fin (slf_Ffbk:(Condition×Int)→Option Int)(a_1:List Condition)(left_2:Int): ∀a,Fin1 fun f=>Ffbm_la_F slf_Ffbk a_1 left_2 f a:=by
 intro a
 unfold Ffbm_la_F
 repeat first|exact f_const|exact f_self|refine f_cond ?_ ?_|refine f_bindJ ?_ (fun _=>?_)|refine f_bindL ?_ (fun _=>?_)|refine f_bind ?_ (fun _=>?_)|refine f_letJ (fun _=>?_)
theorem Ffbm_la_eq (slf_Ffbk:(Condition×Int)→Option Int)(a_1:List Condition)(left_2:Int)(x:Int×Int):Ffbm_la slf_Ffbk a_1 left_2 x=Ffbm_la_F slf_Ffbk a_1 left_2 (Ffbm_la slf_Ffbk a_1 left_2) x:=fix_eq (Ffbm_la_fin slf_Ffbk a_1 left_2) x
noncomputable def Ffbm (slf_Ffbk:(Condition×Int)→Option Int)(a_1:List Condition)(left_2:Int):Option Int:=
 bif (decide ((w64 (left_2 - (len a_1)))<0)) then (some (-1)) else (bindJ (ρ:=Int) (Ffbm_la slf_Ffbk a_1 left_2 ((w64 (left_2 - (len a_1))),0)) fun u6:Int=>some u6)
noncomputable def Ffbk_B (slf_Ffbk:(Condition×Int)→Option Int)(a_1:Condition)(left_2:Int):Option Int:=
 bif (decide ((w64 (left_2 - (len a_1.Name)))<0)) then (some (-1)) else ((Ffbm slf_Ffbk a_1.Parts (w64 (left_2 - (len a_1.Name)))).bind fun r3=>bif (decide (r3<0)) then (some (-1)) else (some r3))
noncomputable def Ffbk_G (slf_Ffbk:(Condition×Int)→Option Int)(x:Condition×Int):Option Int:=Ffbk_B slf_Ffbk x.1 x.2
noncomputable def Ffbk (a_1:Condition)(left_2:Int):Option Int:=fixO Ffbk_G (a_1,left_2)
theorem Ffbk_fin:∀x,Fin1 fun slf_Ffbk=>Ffbk_G slf_Ffbk x:=by
 intro x
 unfold Ffbk_G Ffbk_B
 repeat first|exact f_const|exact f_self|exact f_selfL|exact f_selfR|exact f_selfLL|exact f_selfRL|exact f_selfLLL|exact f_selfRLL|refine f_cond ?_ ?_|refine f_bindJ ?_ (fun _=>?_)|refine f_bindL ?_ (fun _=>?_)|refine f_bind ?_ (fun _=>?_)|refine f_letJ (fun _=>?_)|refine f_fix (fun _=>?_) | unfold Ffbm | unfold Ffbm_la | unfold Ffbm_la_F
theorem Ffbk_eq (a_1:Condition)(left_2:Int):Ffbk a_1 left_2=Ffbk_B (fixO Ffbk_G) a_1 left_2:=fix_eq Ffbk_fin (a_1,left_2)
noncomputable def Ffbl (a_1:List Condition)(left_2:Int):Option Int:=Ffbm (fixO Ffbk_G) a_1 left_2
noncomputable def Ffbi (a_1:Clause)(left_2:Int):Option Int:=
 bif (decide ((w64 (left_2 - (len a_1.Id)))<0)) then (some (-1)) else (bif (decide ((w64 ((w64 (left_2 - (len a_1.Id))) - (len a_1.Action)))<0)) then (some (-1)) else ((Ffbk a_1.When (w64 ((w64 (left_2 - (len a_1.Id))) - (len a_1.Action)))).bind fun r3=>bif (decide (r3<0)) then (some (-1)) else (bif (decide ((w64 (r3 - (len a_1.Repair)))<0)) then (some (-1)) else (some (w64 (r3 - (len a_1.Repair)))))))
noncomputable def Ffbj_la_F (a_1:List Clause)(left_2:Int)(self:(Int×Int)→Option (Int⊕Int))(x3:Int×Int):Option (Int⊕Int):=
 bif (decide (x3.2<(len a_1))) then ((getI a_1 x3.2).bind fun e4=>(Ffbi e4 x3.1).bind fun r5=>bif (decide (r5<0)) then (some (.inl (-1))) else (self (r5,(w64 (x3.2+1))))) else (some (.inr x3.1))
noncomputable def Ffbj_la (a_1:List Clause)(left_2:Int): (Int×Int)→Option (Int⊕Int):=fixO (Ffbj_la_F a_1 left_2)
theorem Ffbj_la_fin (a_1:List Clause)(left_2:Int): ∀a,Fin1 fun f=>Ffbj_la_F a_1 left_2 f a:=by
 intro a
 unfold Ffbj_la_F
 repeat first|exact f_const|exact f_self|refine f_cond ?_ ?_|refine f_bindJ ?_ (fun _=>?_)|refine f_bindL ?_ (fun _=>?_)|refine f_bind ?_ (fun _=>?_)|refine f_letJ (fun _=>?_)
theorem Ffbj_la_eq (a_1:List Clause)(left_2:Int)(x:Int×Int):Ffbj_la a_1 left_2 x=Ffbj_la_F a_1 left_2 (Ffbj_la a_1 left_2) x:=fix_eq (Ffbj_la_fin a_1 left_2) x
noncomputable def Ffbj (a_1:List Clause)(left_2:Int):Option Int:=
 bif (decide ((w64 (left_2 - (len a_1)))<0)) then (some (-1)) else (bindJ (ρ:=Int) (Ffbj_la a_1 left_2 ((w64 (left_2 - (len a_1))),0)) fun u6:Int=>some u6)
noncomputable def Ffbn (a_1:Contract)(left_2:Int):Option Int:=
 (Ffbo a_1.Parties left_2).bind fun r3=>bif (decide (r3<0)) then (some (-1)) else ((Ffbj a_1.Clauses r3).bind fun r4=>bif (decide (r4<0)) then (some (-1)) else (some r4))
noncomputable def Ffbv_la_F (a_1:List Str)(self:(Int×(List Str))→Option ((List Str)⊕(List Str)))(x3:Int×(List Str)):Option ((List Str)⊕(List Str)):=
 bif (decide (x3.1<(len a_1))) then ((getI a_1 x3.1).bind fun e4=>(getI x3.2 x3.1).bind fun e5=>self ((w64 (x3.1+1)),(setI x3.2 x3.1 e4))) else (some (.inr x3.2))
noncomputable def Ffbv_la (a_1:List Str): (Int×(List Str))→Option ((List Str)⊕(List Str)):=fixO (Ffbv_la_F a_1)
theorem Ffbv_la_fin (a_1:List Str): ∀a,Fin1 fun f=>Ffbv_la_F a_1 f a:=by
 intro a
 unfold Ffbv_la_F
 repeat first|exact f_const|exact f_self|refine f_cond ?_ ?_|refine f_bindJ ?_ (fun _=>?_)|refine f_bindL ?_ (fun _=>?_)|refine f_bind ?_ (fun _=>?_)|refine f_letJ (fun _=>?_)
theorem Ffbv_la_eq (a_1:List Str)(x:Int×(List Str)):Ffbv_la a_1 x=Ffbv_la_F a_1 (Ffbv_la a_1) x:=fix_eq (Ffbv_la_fin a_1) x
noncomputable def Ffbv (a_1:List Str):Option (List Str):=
 (mkI 16 [] (len a_1)).bind fun m2=>bindJ (ρ:=(List Str)) (Ffbv_la a_1 (0,m2)) fun u6:(List Str)=>some u6
noncomputable def Ffbt_la_F (slf_Ffbr:Condition→Option Condition)(a_1:List Condition)(self:(Int×(List Condition))→Option ((List Condition)⊕(List Condition)))(x3:Int×(List Condition)):Option ((List Condition)⊕(List Condition)):=
 bif (decide (x3.1<(len a_1))) then ((getI a_1 x3.1).bind fun e4=>(slf_Ffbr e4).bind fun r5=>(getI x3.2 x3.1).bind fun e6=>self ((w64 (x3.1+1)),(setI x3.2 x3.1 r5))) else (some (.inr x3.2))
noncomputable def Ffbt_la (slf_Ffbr:Condition→Option Condition)(a_1:List Condition): (Int×(List Condition))→Option ((List Condition)⊕(List Condition)):=fixO (Ffbt_la_F slf_Ffbr a_1)
theorem Ffbt_la_fin (slf_Ffbr:Condition→Option Condition)(a_1:List Condition): ∀a,Fin1 fun f=>Ffbt_la_F slf_Ffbr a_1 f a:=by
 intro a
 unfold Ffbt_la_F
 repeat first|exact f_const|exact f_self|refine f_cond ?_ ?_|refine f_bindJ ?_ (fun _=>?_)|refine f_bindL ?_ (fun _=>?_)|refine f_bind ?_ (fun _=>?_)|refine f_letJ (fun _=>?_)
theorem Ffbt_la_eq (slf_Ffbr:Condition→Option Condition)(a_1:List Condition)(x:Int×(List Condition)):Ffbt_la slf_Ffbr a_1 x=Ffbt_la_F slf_Ffbr a_1 (Ffbt_la slf_Ffbr a_1) x:=fix_eq (Ffbt_la_fin slf_Ffbr a_1) x
noncomputable def Ffbt (slf_Ffbr:Condition→Option Condition)(a_1:List Condition):Option (List Condition):=
 (mkI 56 (Condition.mk 0 [] 0 []) (len a_1)).bind fun m2=>bindJ (ρ:=(List Condition)) (Ffbt_la slf_Ffbr a_1 (0,m2)) fun u7:(List Condition)=>some u7
noncomputable def Ffbr_B (slf_Ffbr:Condition→Option Condition)(a_1:Condition):Option Condition:=
 (Ffbt slf_Ffbr a_1.Parts).bind fun r2=>some (Condition.mk a_1.Op a_1.Name a_1.Day r2)
noncomputable def Ffbr_G (slf_Ffbr:Condition→Option Condition)(x:Condition):Option Condition:=Ffbr_B slf_Ffbr x
noncomputable def Ffbr (a_1:Condition):Option Condition:=fixO Ffbr_G a_1
theorem Ffbr_fin:∀x,Fin1 fun slf_Ffbr=>Ffbr_G slf_Ffbr x:=by
 intro x
 unfold Ffbr_G Ffbr_B
 repeat first|exact f_const|exact f_self|exact f_selfL|exact f_selfR|exact f_selfLL|exact f_selfRL|exact f_selfLLL|exact f_selfRLL|refine f_cond ?_ ?_|refine f_bindJ ?_ (fun _=>?_)|refine f_bindL ?_ (fun _=>?_)|refine f_bind ?_ (fun _=>?_)|refine f_letJ (fun _=>?_)|refine f_fix (fun _=>?_) | unfold Ffbt | unfold Ffbt_la | unfold Ffbt_la_F
theorem Ffbr_eq (a_1:Condition):Ffbr a_1=Ffbr_B (fixO Ffbr_G) a_1:=fix_eq Ffbr_fin a_1
noncomputable def Ffbs (a_1:List Condition):Option (List Condition):=Ffbt (fixO Ffbr_G) a_1
noncomputable def Ffbp (a_1:Clause):Option Clause:=
 (Ffbr a_1.When).bind fun r2=>some (Clause.mk a_1.Id a_1.Kind a_1.Party a_1.Action a_1.Other a_1.Amount r2 a_1.Within a_1.Repair)
noncomputable def Ffbq_la_F (a_1:List Clause)(self:(Int×(List Clause))→Option ((List Clause)⊕(List Clause)))(x3:Int×(List Clause)):Option ((List Clause)⊕(List Clause)):=
 bif (decide (x3.1<(len a_1))) then ((getI a_1 x3.1).bind fun e4=>(Ffbp e4).bind fun r5=>(getI x3.2 x3.1).bind fun e6=>self ((w64 (x3.1+1)),(setI x3.2 x3.1 r5))) else (some (.inr x3.2))
noncomputable def Ffbq_la (a_1:List Clause): (Int×(List Clause))→Option ((List Clause)⊕(List Clause)):=fixO (Ffbq_la_F a_1)
theorem Ffbq_la_fin (a_1:List Clause): ∀a,Fin1 fun f=>Ffbq_la_F a_1 f a:=by
 intro a
 unfold Ffbq_la_F
 repeat first|exact f_const|exact f_self|refine f_cond ?_ ?_|refine f_bindJ ?_ (fun _=>?_)|refine f_bindL ?_ (fun _=>?_)|refine f_bind ?_ (fun _=>?_)|refine f_letJ (fun _=>?_)
theorem Ffbq_la_eq (a_1:List Clause)(x:Int×(List Clause)):Ffbq_la a_1 x=Ffbq_la_F a_1 (Ffbq_la a_1) x:=fix_eq (Ffbq_la_fin a_1) x
noncomputable def Ffbq (a_1:List Clause):Option (List Clause):=
 (mkI 144 (Clause.mk [] 0 0 [] 0 0 (Condition.mk 0 [] 0 []) 0 []) (len a_1)).bind fun m2=>bindJ (ρ:=(List Clause)) (Ffbq_la a_1 (0,m2)) fun u7:(List Clause)=>some u7
noncomputable def Ffbu (a_1:Contract):Option Contract:=
 (Ffbv a_1.Parties).bind fun r2=>(Ffbq a_1.Clauses).bind fun r3=>some (Contract.mk r2 r3)
noncomputable def spec_l1In (x_1:Int)(a_2:Int)(b_3:Int):Option Bool:=
 letJ (bif (decide (x_1≥a_2)) then (decide (x_1≤b_3)) else false) fun u4:Bool=>some u4
noncomputable def Ffcp (b_1:Int):Option Bool:=
 letJ (bif (decide (b_1≥97)) then (letJ (bif (decide (b_1≤122)) then true else (letJ (bif (decide (b_1≥48)) then (decide (b_1≤57)) else false) fun u4:Bool=>u4)) fun u3:Bool=>u3) else (letJ (bif (decide (b_1≥48)) then (decide (b_1≤57)) else false) fun u5:Bool=>u5)) fun u2:Bool=>some u2
noncomputable def Ffcm_la_F (s_1:Str)(self:Int→Option (Bool⊕Unit))(x4:Int):Option (Bool⊕Unit):=
 bif (decide (x4<(len s_1))) then ((getI s_1 x4).bind fun c5=>(Ffcp (c5.toNat:Int)).bind fun r6=>bif (!r6) then (some (.inl false)) else (self (w64 (x4+1)))) else (some (.inr ()))
noncomputable def Ffcm_la (s_1:Str): Int→Option (Bool⊕Unit):=fixO (Ffcm_la_F s_1)
theorem Ffcm_la_fin (s_1:Str): ∀a,Fin1 fun f=>Ffcm_la_F s_1 f a:=by
 intro a
 unfold Ffcm_la_F
 repeat first|exact f_const|exact f_self|refine f_cond ?_ ?_|refine f_bindJ ?_ (fun _=>?_)|refine f_bindL ?_ (fun _=>?_)|refine f_bind ?_ (fun _=>?_)|refine f_letJ (fun _=>?_)
theorem Ffcm_la_eq (s_1:Str)(x:Int):Ffcm_la s_1 x=Ffcm_la_F s_1 (Ffcm_la s_1) x:=fix_eq (Ffcm_la_fin s_1) x
noncomputable def Ffcm (s_1:Str):Option Bool:=
 (spec_l1In (len s_1) 1 8).bind fun r2=>bindJ (ρ:=Bool) (bif (!r2) then (some (.inr true)) else ((getI s_1 0).bind fun c16=>bindL (ρ:=Bool) (bif (decide ((c16.toNat:Int)<97)) then (some (.inr true)) else ((getI s_1 0).bind fun c18=>some (.inr (decide ((c18.toNat:Int)>122))))) fun u17:Bool=>some (.inr u17))) fun u3:Bool=>bif u3 then (some false) else (bindJ (ρ:=Bool) (Ffcm_la s_1 0) fun u7:Unit=>letJ (bif (s_1==([116,114,117,101]:Str)) then (s_1==([116,114,117,101]:Str)) else (letJ (bif (s_1==([102,114,111,109]:Str)) then (s_1==([102,114,111,109]:Str)) else (letJ (bif (s_1==([110,111,116]:Str)) then (s_1==([110,111,116]:Str)) else (letJ (bif (s_1==([97,110,100]:Str)) then (s_1==([97,110,100]:Str)) else (letJ (bif (s_1==([111,114]:Str)) then (s_1==([111,114]:Str)) else (letJ (bif (s_1==([98,111,116,104]:Str)) then (s_1==([98,111,116,104]:Str)) else (letJ (bif (s_1==([101,105,116,104,101,114]:Str)) then (s_1==([101,105,116,104,101,114]:Str)) else (letJ (bif (s_1==([105,116]:Str)) then (s_1==([105,116]:Str)) else (s_1==([105,110]:Str))) fun u15:Bool=>u15)) fun u14:Bool=>u14)) fun u13:Bool=>u13)) fun u12:Bool=>u12)) fun u11:Bool=>u11)) fun u10:Bool=>u10)) fun u9:Bool=>u9)) fun u8:Bool=>bif u8 then (some false) else (some true))
noncomputable def Ffcl_la_F (list_1:List Str)(name_2:Str)(self:Int→Option (Bool⊕Unit))(x3:Int):Option (Bool⊕Unit):=
 bif (decide (x3<(len list_1))) then ((getI list_1 x3).bind fun e4=>bif (e4==name_2) then (some (.inl true)) else (self (w64 (x3+1)))) else (some (.inr ()))
noncomputable def Ffcl_la (list_1:List Str)(name_2:Str): Int→Option (Bool⊕Unit):=fixO (Ffcl_la_F list_1 name_2)
theorem Ffcl_la_fin (list_1:List Str)(name_2:Str): ∀a,Fin1 fun f=>Ffcl_la_F list_1 name_2 f a:=by
 intro a
 unfold Ffcl_la_F
 repeat first|exact f_const|exact f_self|refine f_cond ?_ ?_|refine f_bindJ ?_ (fun _=>?_)|refine f_bindL ?_ (fun _=>?_)|refine f_bind ?_ (fun _=>?_)|refine f_letJ (fun _=>?_)
theorem Ffcl_la_eq (list_1:List Str)(name_2:Str)(x:Int):Ffcl_la list_1 name_2 x=Ffcl_la_F list_1 name_2 (Ffcl_la list_1 name_2) x:=fix_eq (Ffcl_la_fin list_1 name_2) x
noncomputable def Ffcl (list_1:List Str)(name_2:Str):Option Bool:=
 bindJ (ρ:=Bool) (Ffcl_la list_1 name_2 0) fun u5:Unit=>some false
noncomputable def Ffcw_la_F (c_1:Contract)(self:Int→Option (Bool⊕Unit))(x2:Int):Option (Bool⊕Unit):=
 bif (decide (x2<(len c_1.Parties))) then ((getI c_1.Parties x2).bind fun e3=>(Ffcm e3).bind fun r4=>bindL (ρ:=Bool) (bif (!r4) then (some (.inr true)) else ((subI c_1.Parties 0 x2).bind fun s6=>(getI c_1.Parties x2).bind fun e7=>(Ffcl s6 e7).bind fun r8=>some (.inr r8))) fun u5:Bool=>bif u5 then (some (.inl false)) else (self (w64 (x2+1)))) else (some (.inr ()))
noncomputable def Ffcw_la (c_1:Contract): Int→Option (Bool⊕Unit):=fixO (Ffcw_la_F c_1)
theorem Ffcw_la_fin (c_1:Contract): ∀a,Fin1 fun f=>Ffcw_la_F c_1 f a:=by
 intro a
 unfold Ffcw_la_F
 repeat first|exact f_const|exact f_self|refine f_cond ?_ ?_|refine f_bindJ ?_ (fun _=>?_)|refine f_bindL ?_ (fun _=>?_)|refine f_bind ?_ (fun _=>?_)|refine f_letJ (fun _=>?_)
theorem Ffcw_la_eq (c_1:Contract)(x:Int):Ffcw_la c_1 x=Ffcw_la_F c_1 (Ffcw_la c_1) x:=fix_eq (Ffcw_la_fin c_1) x
noncomputable def Ffcw (c_1:Contract):Option Bool:=
 bindJ (ρ:=Bool) (Ffcw_la c_1 0) fun u9:Unit=>(spec_l1In (len c_1.Parties) 2 4).bind fun r10=>some r10
noncomputable def Ffct_la_F (c_1:Contract)(id_2:Str)(self:Int→Option (Int⊕Unit))(x3:Int):Option (Int⊕Unit):=
 bif (decide (x3<(len c_1.Clauses))) then ((getI c_1.Clauses x3).bind fun e4=>bif (e4.Id==id_2) then (some (.inl x3)) else (self (w64 (x3+1)))) else (some (.inr ()))
noncomputable def Ffct_la (c_1:Contract)(id_2:Str): Int→Option (Int⊕Unit):=fixO (Ffct_la_F c_1 id_2)
theorem Ffct_la_fin (c_1:Contract)(id_2:Str): ∀a,Fin1 fun f=>Ffct_la_F c_1 id_2 f a:=by
 intro a
 unfold Ffct_la_F
 repeat first|exact f_const|exact f_self|refine f_cond ?_ ?_|refine f_bindJ ?_ (fun _=>?_)|refine f_bindL ?_ (fun _=>?_)|refine f_bind ?_ (fun _=>?_)|refine f_letJ (fun _=>?_)
theorem Ffct_la_eq (c_1:Contract)(id_2:Str)(x:Int):Ffct_la c_1 id_2 x=Ffct_la_F c_1 id_2 (Ffct_la c_1 id_2) x:=fix_eq (Ffct_la_fin c_1 id_2) x
noncomputable def Ffct (c_1:Contract)(id_2:Str):Option Int:=
 bindJ (ρ:=Int) (Ffct_la c_1 id_2 0) fun u5:Unit=>some (-1)
noncomputable def Ffch (day_1:Int):Option Bool:=
 (spec_l1In day_1 0 36524).bind fun r2=>some r2
noncomputable def Ffci (c_1:Condition):Option Bool:=
 bif (c_1.Op==1) then (letJ (bif ((len c_1.Parts)==0) then (letJ (bif (c_1.Name==([]:Str)) then (c_1.Day==0) else false) fun u3:Bool=>u3) else false) fun u2:Bool=>some u2) else (bif (c_1.Op==2) then (bindJ (ρ:=Bool) (bif ((len c_1.Parts)==0) then ((Ffcm c_1.Name).bind fun r5=>letJ (bif r5 then (c_1.Day==0) else false) fun u6:Bool=>some (.inr u6)) else (some (.inr false))) fun u4:Bool=>some u4) else (bif (c_1.Op==3) then (bindJ (ρ:=Bool) (bif ((len c_1.Parts)==0) then (bindL (ρ:=Bool) (bif (c_1.Name==([]:Str)) then ((Ffch c_1.Day).bind fun r9=>some (.inr r9)) else (some (.inr false))) fun u8:Bool=>some (.inr u8)) else (some (.inr false))) fun u7:Bool=>some u7) else (bif (c_1.Op==4) then (letJ (bif ((len c_1.Parts)==1) then (letJ (bif (c_1.Name==([]:Str)) then (c_1.Day==0) else false) fun u11:Bool=>u11) else false) fun u10:Bool=>some u10) else (letJ (bif (c_1.Op==5) then (c_1.Op==5) else (c_1.Op==6)) fun u12:Bool=>bif u12 then (letJ (bif ((len c_1.Parts)==2) then (letJ (bif (c_1.Name==([]:Str)) then (c_1.Day==0) else false) fun u14:Bool=>u14) else false) fun u13:Bool=>some u13) else (some false)))))
noncomputable def Ffcj_la_F (slf_Ffcj:Condition→Option Bool)(c_1:Condition)(self:Int→Option (Bool⊕Unit))(x3:Int):Option (Bool⊕Unit):=
 bif (decide (x3<(len c_1.Parts))) then ((getI c_1.Parts x3).bind fun e4=>(slf_Ffcj e4).bind fun r5=>bif (!r5) then (some (.inl false)) else (self (w64 (x3+1)))) else (some (.inr ()))
noncomputable def Ffcj_la (slf_Ffcj:Condition→Option Bool)(c_1:Condition): Int→Option (Bool⊕Unit):=fixO (Ffcj_la_F slf_Ffcj c_1)
theorem Ffcj_la_fin (slf_Ffcj:Condition→Option Bool)(c_1:Condition): ∀a,Fin1 fun f=>Ffcj_la_F slf_Ffcj c_1 f a:=by
 intro a
 unfold Ffcj_la_F
 repeat first|exact f_const|exact f_self|refine f_cond ?_ ?_|refine f_bindJ ?_ (fun _=>?_)|refine f_bindL ?_ (fun _=>?_)|refine f_bind ?_ (fun _=>?_)|refine f_letJ (fun _=>?_)
theorem Ffcj_la_eq (slf_Ffcj:Condition→Option Bool)(c_1:Condition)(x:Int):Ffcj_la slf_Ffcj c_1 x=Ffcj_la_F slf_Ffcj c_1 (Ffcj_la slf_Ffcj c_1) x:=fix_eq (Ffcj_la_fin slf_Ffcj c_1) x
noncomputable def Ffcj_B (slf_Ffcj:Condition→Option Bool)(c_1:Condition):Option Bool:=
 (Ffci c_1).bind fun r2=>bif (!r2) then (some false) else (bindJ (ρ:=Bool) (Ffcj_la slf_Ffcj c_1 0) fun u6:Unit=>some true)
noncomputable def Ffcj_G (slf_Ffcj:Condition→Option Bool)(x:Condition):Option Bool:=Ffcj_B slf_Ffcj x
noncomputable def Ffcj (c_1:Condition):Option Bool:=fixO Ffcj_G c_1
theorem Ffcj_fin:∀x,Fin1 fun slf_Ffcj=>Ffcj_G slf_Ffcj x:=by
 intro x
 unfold Ffcj_G Ffcj_B
 repeat first|exact f_const|exact f_self|exact f_selfL|exact f_selfR|exact f_selfLL|exact f_selfRL|exact f_selfLLL|exact f_selfRLL|refine f_cond ?_ ?_|refine f_bindJ ?_ (fun _=>?_)|refine f_bindL ?_ (fun _=>?_)|refine f_bind ?_ (fun _=>?_)|refine f_letJ (fun _=>?_)|refine f_fix (fun _=>?_) | unfold Ffcj_la | unfold Ffcj_la_F
theorem Ffcj_eq (c_1:Condition):Ffcj c_1=Ffcj_B (fixO Ffcj_G) c_1:=fix_eq Ffcj_fin c_1
noncomputable def Ffcq_la_F (slf_Ffcq:Condition→Option Int)(c_1:Condition)(self:(Int×Int)→Option (Int⊕Int))(x2:Int×Int):Option (Int⊕Int):=
 bif (decide (x2.2<(len c_1.Parts))) then ((getI c_1.Parts x2.2).bind fun e3=>(slf_Ffcq e3).bind fun r4=>self ((w64 (x2.1+r4)),(w64 (x2.2+1)))) else (some (.inr x2.1))
noncomputable def Ffcq_la (slf_Ffcq:Condition→Option Int)(c_1:Condition): (Int×Int)→Option (Int⊕Int):=fixO (Ffcq_la_F slf_Ffcq c_1)
theorem Ffcq_la_fin (slf_Ffcq:Condition→Option Int)(c_1:Condition): ∀a,Fin1 fun f=>Ffcq_la_F slf_Ffcq c_1 f a:=by
 intro a
 unfold Ffcq_la_F
 repeat first|exact f_const|exact f_self|refine f_cond ?_ ?_|refine f_bindJ ?_ (fun _=>?_)|refine f_bindL ?_ (fun _=>?_)|refine f_bind ?_ (fun _=>?_)|refine f_letJ (fun _=>?_)
theorem Ffcq_la_eq (slf_Ffcq:Condition→Option Int)(c_1:Condition)(x:Int×Int):Ffcq_la slf_Ffcq c_1 x=Ffcq_la_F slf_Ffcq c_1 (Ffcq_la slf_Ffcq c_1) x:=fix_eq (Ffcq_la_fin slf_Ffcq c_1) x
noncomputable def Ffcq_B (slf_Ffcq:Condition→Option Int)(c_1:Condition):Option Int:=
 bindJ (ρ:=Int) (Ffcq_la slf_Ffcq c_1 (1,0)) fun u5:Int=>some u5
noncomputable def Ffcq_G (slf_Ffcq:Condition→Option Int)(x:Condition):Option Int:=Ffcq_B slf_Ffcq x
noncomputable def Ffcq (c_1:Condition):Option Int:=fixO Ffcq_G c_1
theorem Ffcq_fin:∀x,Fin1 fun slf_Ffcq=>Ffcq_G slf_Ffcq x:=by
 intro x
 unfold Ffcq_G Ffcq_B
 repeat first|exact f_const|exact f_self|exact f_selfL|exact f_selfR|exact f_selfLL|exact f_selfRL|exact f_selfLLL|exact f_selfRLL|refine f_cond ?_ ?_|refine f_bindJ ?_ (fun _=>?_)|refine f_bindL ?_ (fun _=>?_)|refine f_bind ?_ (fun _=>?_)|refine f_letJ (fun _=>?_)|refine f_fix (fun _=>?_) | unfold Ffcq_la | unfold Ffcq_la_F
theorem Ffcq_eq (c_1:Condition):Ffcq c_1=Ffcq_B (fixO Ffcq_G) c_1:=fix_eq Ffcq_fin c_1
noncomputable def Ffck (c_1:Condition):Option Bool:=
 (Ffcj c_1).bind fun r2=>bindJ (ρ:=Bool) (bif r2 then ((Ffcq c_1).bind fun r4=>some (.inr (decide (r4≤15)))) else (some (.inr false))) fun u3:Bool=>some u3
noncomputable def Ffcs (c_1:Contract)(i_2:Int):Option Bool:=
 (getI c_1.Clauses i_2).bind fun e3=>(Ffcm e3.Id).bind fun r4=>bindJ (ρ:=Bool) (bif (!r4) then (some (.inr true)) else ((Ffcm e3.Action).bind fun r17=>bindL (ρ:=Bool) (bif (!r17) then (some (.inr true)) else ((spec_l1In e3.Kind 1 4).bind fun r19=>bindL (ρ:=Bool) (bif (!r19) then (some (.inr true)) else ((spec_l1In e3.Party 0 (w64 ((len c_1.Parties) - 1))).bind fun r21=>bindL (ρ:=Bool) (bif (!r21) then (some (.inr true)) else ((spec_l1In e3.Other 0 (w64 ((len c_1.Parties) - 1))).bind fun r23=>bindL (ρ:=Bool) (bif (!r23) then (some (.inr true)) else (bindL (ρ:=Bool) (bif (e3.Party==e3.Other) then (some (.inr true)) else ((Ffck e3.When).bind fun r26=>some (.inr (!r26)))) fun u25:Bool=>some (.inr u25))) fun u24:Bool=>some (.inr u24))) fun u22:Bool=>some (.inr u22))) fun u20:Bool=>some (.inr u20))) fun u18:Bool=>some (.inr u18))) fun u5:Bool=>bif u5 then (some false) else ((spec_l1In e3.Amount 0 1000000).bind fun r6=>bindJ (ρ:=Bool) (bif (!r6) then (some (.inr true)) else ((spec_l1In e3.Within 0 400).bind fun r13=>letJ (bif (!r13) then true else (letJ (bif (e3.Kind != 1) then (letJ (bif (e3.Amount != 0) then true else (e3.Within != 0)) fun u16:Bool=>u16) else false) fun u15:Bool=>u15)) fun u14:Bool=>some (.inr u14))) fun u7:Bool=>bif u7 then (some false) else (bif (e3.Repair==([]:Str)) then (some true) else ((Ffct c_1 e3.Repair).bind fun r8=>bindJ (ρ:=Bool) (bif (decide (r8≥0)) then (bindL (ρ:=Bool) (bif (r8 != i_2) then ((getI c_1.Clauses r8).bind fun e11=>letJ (bif (e11.Kind==1) then (e3.Kind != 3) else false) fun u12:Bool=>some (.inr u12)) else (some (.inr false))) fun u10:Bool=>some (.inr u10)) else (some (.inr false))) fun u9:Bool=>some u9)))
noncomputable def Ffco_la_F (l_8:List Str)(s_9:Str)(self:Int→Option ((List Str)⊕(Str×Int×(List Str))))(x3:Int):Option ((List Str)⊕(Str×Int×(List Str))):=
 bindL (ρ:=(List Str)) (bif (decide (x3<(len l_8))) then ((getI l_8 x3).bind fun e5=>some (.inr (Op.bytesLess e5 s_9))) else (some (.inr false))) fun u4:Bool=>bif u4 then (self (w64 (x3+1))) else (some (.inr (s_9,x3,l_8)))
noncomputable def Ffco_la (l_8:List Str)(s_9:Str): Int→Option ((List Str)⊕(Str×Int×(List Str))):=fixO (Ffco_la_F l_8 s_9)
theorem Ffco_la_fin (l_8:List Str)(s_9:Str): ∀a,Fin1 fun f=>Ffco_la_F l_8 s_9 f a:=by
 intro a
 unfold Ffco_la_F
 repeat first|exact f_const|exact f_self|refine f_cond ?_ ?_|refine f_bindJ ?_ (fun _=>?_)|refine f_bindL ?_ (fun _=>?_)|refine f_bind ?_ (fun _=>?_)|refine f_letJ (fun _=>?_)
theorem Ffco_la_eq (l_8:List Str)(s_9:Str)(x:Int):Ffco_la l_8 s_9 x=Ffco_la_F l_8 s_9 (Ffco_la l_8 s_9) x:=fix_eq (Ffco_la_fin l_8 s_9) x
noncomputable def Ffco (l_8:List Str)(s_9:Str):Option (List Str):=
 bindJ (ρ:=(List Str)) (Ffco_la l_8 s_9 0) fun u6:Str×Int×(List Str)=>bindJ (ρ:=(List Str)) (bif (decide (u6.2.1<(len u6.2.2))) then ((getI u6.2.2 u6.2.1).bind fun e15=>some (.inr (e15==u6.1))) else (some (.inr false))) fun u7:Bool=>bif u7 then (some u6.2.2) else ((subP u6.2.2.length 0 u6.2.1).bind fun s8=>(partP u6.2.2 (0+Int.toNat (0)) (Int.toNat u6.2.1 - Int.toNat (0))).bind fun p9=>(appI 16 ([]:List Str) p9).bind fun a10=>(appI 16 a10 [u6.1]).bind fun a11=>(subP u6.2.2.length u6.2.1 (len u6.2.2)).bind fun s12=>(partP u6.2.2 (0+Int.toNat u6.2.1) (Int.toNat (len u6.2.2) - Int.toNat u6.2.1)).bind fun p13=>(appI 16 a11 p13).bind fun a14=>some a14)
noncomputable def Ffcn_la_F (slf_Ffcn:((List Str)×Condition)→Option (List Str))(l_4:List Str)(c_5:Condition)(self:(Int×(List Str))→Option ((List Str)⊕(List Str)))(x4:Int×(List Str)):Option ((List Str)⊕(List Str)):=
 bif (decide (x4.1<(len c_5.Parts))) then ((getI c_5.Parts x4.1).bind fun e5=>(slf_Ffcn (x4.2,e5)).bind fun r6=>self ((w64 (x4.1+1)),r6)) else (some (.inr x4.2))
noncomputable def Ffcn_la (slf_Ffcn:((List Str)×Condition)→Option (List Str))(l_4:List Str)(c_5:Condition): (Int×(List Str))→Option ((List Str)⊕(List Str)):=fixO (Ffcn_la_F slf_Ffcn l_4 c_5)
theorem Ffcn_la_fin (slf_Ffcn:((List Str)×Condition)→Option (List Str))(l_4:List Str)(c_5:Condition): ∀a,Fin1 fun f=>Ffcn_la_F slf_Ffcn l_4 c_5 f a:=by
 intro a
 unfold Ffcn_la_F
 repeat first|exact f_const|exact f_self|refine f_cond ?_ ?_|refine f_bindJ ?_ (fun _=>?_)|refine f_bindL ?_ (fun _=>?_)|refine f_bind ?_ (fun _=>?_)|refine f_letJ (fun _=>?_)
theorem Ffcn_la_eq (slf_Ffcn:((List Str)×Condition)→Option (List Str))(l_4:List Str)(c_5:Condition)(x:Int×(List Str)):Ffcn_la slf_Ffcn l_4 c_5 x=Ffcn_la_F slf_Ffcn l_4 c_5 (Ffcn_la slf_Ffcn l_4 c_5) x:=fix_eq (Ffcn_la_fin slf_Ffcn l_4 c_5) x
noncomputable def Ffcn_B (slf_Ffcn:((List Str)×Condition)→Option (List Str))(l_4:List Str)(c_5:Condition):Option (List Str):=
 bif (c_5.Op==2) then ((Ffco l_4 c_5.Name).bind fun r3=>some r3) else (bindJ (ρ:=(List Str)) (Ffcn_la slf_Ffcn l_4 c_5 (0,l_4)) fun u7:(List Str)=>some u7)
noncomputable def Ffcn_G (slf_Ffcn:((List Str)×Condition)→Option (List Str))(x:(List Str)×Condition):Option (List Str):=Ffcn_B slf_Ffcn x.1 x.2
noncomputable def Ffcn (l_4:List Str)(c_5:Condition):Option (List Str):=fixO Ffcn_G (l_4,c_5)
theorem Ffcn_fin:∀x,Fin1 fun slf_Ffcn=>Ffcn_G slf_Ffcn x:=by
 intro x
 unfold Ffcn_G Ffcn_B
 repeat first|exact f_const|exact f_self|exact f_selfL|exact f_selfR|exact f_selfLL|exact f_selfRL|exact f_selfLLL|exact f_selfRLL|refine f_cond ?_ ?_|refine f_bindJ ?_ (fun _=>?_)|refine f_bindL ?_ (fun _=>?_)|refine f_bind ?_ (fun _=>?_)|refine f_letJ (fun _=>?_)|refine f_fix (fun _=>?_) | unfold Ffcn_la | unfold Ffcn_la_F
theorem Ffcn_eq (l_4:List Str)(c_5:Condition):Ffcn l_4 c_5=Ffcn_B (fixO Ffcn_G) l_4 c_5:=fix_eq Ffcn_fin (l_4,c_5)
noncomputable def Ffcv_la_F (c_1:Contract)(self:(Int×(List Str))→Option ((List Str)⊕(List Str)))(x2:Int×(List Str)):Option ((List Str)⊕(List Str)):=
 bif (decide (x2.1<(len c_1.Clauses))) then ((getI c_1.Clauses x2.1).bind fun e3=>(Ffco x2.2 e3.Action).bind fun r4=>(getI c_1.Clauses x2.1).bind fun e5=>(Ffcn r4 e5.When).bind fun r6=>self ((w64 (x2.1+1)),r6)) else (some (.inr x2.2))
noncomputable def Ffcv_la (c_1:Contract): (Int×(List Str))→Option ((List Str)⊕(List Str)):=fixO (Ffcv_la_F c_1)
theorem Ffcv_la_fin (c_1:Contract): ∀a,Fin1 fun f=>Ffcv_la_F c_1 f a:=by
 intro a
 unfold Ffcv_la_F
 repeat first|exact f_const|exact f_self|refine f_cond ?_ ?_|refine f_bindJ ?_ (fun _=>?_)|refine f_bindL ?_ (fun _=>?_)|refine f_bind ?_ (fun _=>?_)|refine f_letJ (fun _=>?_)
theorem Ffcv_la_eq (c_1:Contract)(x:Int×(List Str)):Ffcv_la c_1 x=Ffcv_la_F c_1 (Ffcv_la c_1) x:=fix_eq (Ffcv_la_fin c_1) x
noncomputable def Ffcv (c_1:Contract):Option (List Str):=
 bindJ (ρ:=(List Str)) (Ffcv_la c_1 (0,[])) fun u7:(List Str)=>some u7
noncomputable def Ffcu_la_F (c_1:Contract)(self:Int→Option (Bool⊕Unit))(x4:Int):Option (Bool⊕Unit):=
 bif (decide (x4<(len c_1.Clauses))) then ((getI c_1.Clauses x4).bind fun e5=>(Ffct c_1 e5.Id).bind fun r6=>bindL (ρ:=Bool) (bif (r6 != x4) then (some (.inr true)) else ((Ffcs c_1 x4).bind fun r8=>some (.inr (!r8)))) fun u7:Bool=>bif u7 then (some (.inl false)) else (self (w64 (x4+1)))) else (some (.inr ()))
noncomputable def Ffcu_la (c_1:Contract): Int→Option (Bool⊕Unit):=fixO (Ffcu_la_F c_1)
theorem Ffcu_la_fin (c_1:Contract): ∀a,Fin1 fun f=>Ffcu_la_F c_1 f a:=by
 intro a
 unfold Ffcu_la_F
 repeat first|exact f_const|exact f_self|refine f_cond ?_ ?_|refine f_bindJ ?_ (fun _=>?_)|refine f_bindL ?_ (fun _=>?_)|refine f_bind ?_ (fun _=>?_)|refine f_letJ (fun _=>?_)
theorem Ffcu_la_eq (c_1:Contract)(x:Int):Ffcu_la c_1 x=Ffcu_la_F c_1 (Ffcu_la c_1) x:=fix_eq (Ffcu_la_fin c_1) x
noncomputable def Ffcu (c_1:Contract):Option Bool:=
 (spec_l1In (len c_1.Clauses) 1 12).bind fun r2=>bindJ (ρ:=Bool) (bif (!r2) then (some (.inr true)) else ((Ffcw c_1).bind fun r11=>some (.inr (!r11)))) fun u3:Bool=>bif u3 then (some false) else (bindJ (ρ:=Bool) (Ffcu_la c_1 0) fun u9:Unit=>(Ffcv c_1).bind fun r10=>some (decide ((len r10)≤16)))
noncomputable def Ffcg_la_F (l_1:List Int)(n_2:Int)(self:Int→Option (Bool⊕Unit))(x3:Int):Option (Bool⊕Unit):=
 bif (decide (x3<(len l_1))) then ((getI l_1 x3).bind fun e4=>bif (e4==n_2) then (some (.inl true)) else (self (w64 (x3+1)))) else (some (.inr ()))
noncomputable def Ffcg_la (l_1:List Int)(n_2:Int): Int→Option (Bool⊕Unit):=fixO (Ffcg_la_F l_1 n_2)
theorem Ffcg_la_fin (l_1:List Int)(n_2:Int): ∀a,Fin1 fun f=>Ffcg_la_F l_1 n_2 f a:=by
 intro a
 unfold Ffcg_la_F
 repeat first|exact f_const|exact f_self|refine f_cond ?_ ?_|refine f_bindJ ?_ (fun _=>?_)|refine f_bindL ?_ (fun _=>?_)|refine f_bind ?_ (fun _=>?_)|refine f_letJ (fun _=>?_)
theorem Ffcg_la_eq (l_1:List Int)(n_2:Int)(x:Int):Ffcg_la l_1 n_2 x=Ffcg_la_F l_1 n_2 (Ffcg_la l_1 n_2) x:=fix_eq (Ffcg_la_fin l_1 n_2) x
noncomputable def Ffcg (l_1:List Int)(n_2:Int):Option Bool:=
 bindJ (ρ:=Bool) (Ffcg_la l_1 n_2 0) fun u5:Unit=>some false
noncomputable def Ffcr_la_F (c_1:Contract)(i_2:Int)(self:(Int×(List Int))→Option (((List Int)×Bool)⊕(List Int)))(x3:Int×(List Int)):Option (((List Int)×Bool)⊕(List Int)):=
 (getI c_1.Clauses x3.1).bind fun e4=>bif (!(e4.Repair==([]:Str))) then ((getI c_1.Clauses x3.1).bind fun e5=>(Ffct c_1 e5.Repair).bind fun r6=>(Ffcg x3.2 r6).bind fun r7=>bif r7 then (some (.inl (x3.2,true))) else ((appI 8 x3.2 [r6]).bind fun a8=>self (r6,a8))) else (some (.inr x3.2))
noncomputable def Ffcr_la (c_1:Contract)(i_2:Int): (Int×(List Int))→Option (((List Int)×Bool)⊕(List Int)):=fixO (Ffcr_la_F c_1 i_2)
theorem Ffcr_la_fin (c_1:Contract)(i_2:Int): ∀a,Fin1 fun f=>Ffcr_la_F c_1 i_2 f a:=by
 intro a
 unfold Ffcr_la_F
 repeat first|exact f_const|exact f_self|refine f_cond ?_ ?_|refine f_bindJ ?_ (fun _=>?_)|refine f_bindL ?_ (fun _=>?_)|refine f_bind ?_ (fun _=>?_)|refine f_letJ (fun _=>?_)
theorem Ffcr_la_eq (c_1:Contract)(i_2:Int)(x:Int×(List Int)):Ffcr_la c_1 i_2 x=Ffcr_la_F c_1 i_2 (Ffcr_la c_1 i_2) x:=fix_eq (Ffcr_la_fin c_1 i_2) x
noncomputable def Ffcr (c_1:Contract)(i_2:Int):Option ((List Int)×Bool):=
 bindJ (ρ:=(List Int)×Bool) (Ffcr_la c_1 i_2 (i_2,[i_2])) fun u9:(List Int)=>some (u9,false)
noncomputable def Ffcf_la_F (c_1:Contract)(self:(Int×(List Int))→Option (((List Int)×Bool)⊕(List Int)))(x3:Int×(List Int)):Option (((List Int)×Bool)⊕(List Int)):=
 bif (decide (x3.1<(len c_1.Clauses))) then ((Ffcr c_1 x3.1).bind fun r4=>bindL (ρ:=(List Int)×Bool) (bif r4.2 then ((appI 8 x3.2 [x3.1]).bind fun a6=>some (.inr a6)) else (some (.inr x3.2))) fun u5:(List Int)=>self ((w64 (x3.1+1)),u5)) else (some (.inr x3.2))
noncomputable def Ffcf_la (c_1:Contract): (Int×(List Int))→Option (((List Int)×Bool)⊕(List Int)):=fixO (Ffcf_la_F c_1)
theorem Ffcf_la_fin (c_1:Contract): ∀a,Fin1 fun f=>Ffcf_la_F c_1 f a:=by
 intro a
 unfold Ffcf_la_F
 repeat first|exact f_const|exact f_self|refine f_cond ?_ ?_|refine f_bindJ ?_ (fun _=>?_)|refine f_bindL ?_ (fun _=>?_)|refine f_bind ?_ (fun _=>?_)|refine f_letJ (fun _=>?_)
theorem Ffcf_la_eq (c_1:Contract)(x:Int×(List Int)):Ffcf_la c_1 x=Ffcf_la_F c_1 (Ffcf_la c_1) x:=fix_eq (Ffcf_la_fin c_1) x
noncomputable def Ffcf (c_1:Contract):Option ((List Int)×Bool):=
 (Ffcu c_1).bind fun r2=>bif (!r2) then (some ([],false)) else (bindJ (ρ:=(List Int)×Bool) (Ffcf_la c_1 (0,[])) fun u7:(List Int)=>some (u7,true))
noncomputable def Ffq (n_1:Int)(low_2:Int)(high_3:Int):Option Bool:=
 letJ (bif (decide (n_1≥low_2)) then (decide (n_1≤high_3)) else false) fun u4:Bool=>some u4
noncomputable def Ffs (s_1:Str)(c_2:Int):Option Int:=
 (xIndexByteString s_1 c_2).bind fun r3=>some r3
noncomputable def Ffr (s_1:Str)(substr_2:Str):Option Int:=
 letJ (bif ((len substr_2)==0) then true else (substr_2==s_1)) fun u3:Bool=>bif u3 then (some 0) else (bif ((len substr_2)==1) then ((getI substr_2 0).bind fun c4=>(Ffs s_1 (c4.toNat:Int)).bind fun r5=>some r5) else (bif (decide ((len substr_2)≥(len s_1))) then (some (-1)) else none))
noncomputable def Ffcy (s_1:Str)(substr_2:Str):Option Int:=
 (Ffr s_1 substr_2).bind fun r3=>some r3
noncomputable def Ffcx_la_F (s_1:Str)(substr_2:Str)(self:(Str×Int)→Option (Int⊕Unit))(x5:Str×Int):Option (Int⊕Unit):=
 (Ffcy x5.1 substr_2).bind fun r6=>bif (r6==(-1)) then (some (.inl x5.2)) else ((subI x5.1 (w64 (r6+(len substr_2))) (len x5.1)).bind fun s7=>self (s7,(w64 (x5.2+1))))
noncomputable def Ffcx_la (s_1:Str)(substr_2:Str): (Str×Int)→Option (Int⊕Unit):=fixO (Ffcx_la_F s_1 substr_2)
theorem Ffcx_la_fin (s_1:Str)(substr_2:Str): ∀a,Fin1 fun f=>Ffcx_la_F s_1 substr_2 f a:=by
 intro a
 unfold Ffcx_la_F
 repeat first|exact f_const|exact f_self|refine f_cond ?_ ?_|refine f_bindJ ?_ (fun _=>?_)|refine f_bindL ?_ (fun _=>?_)|refine f_bind ?_ (fun _=>?_)|refine f_letJ (fun _=>?_)
theorem Ffcx_la_eq (s_1:Str)(substr_2:Str)(x:Str×Int):Ffcx_la s_1 substr_2 x=Ffcx_la_F s_1 substr_2 (Ffcx_la s_1 substr_2) x:=fix_eq (Ffcx_la_fin s_1 substr_2) x
noncomputable def Ffcx (s_1:Str)(substr_2:Str):Option Int:=
 bif ((len substr_2)==0) then none else (bif ((len substr_2)==1) then ((getI substr_2 0).bind fun c3=>(xCountString s_1 (c3.toNat:Int)).bind fun r4=>some r4) else (bindJ (ρ:=Int) (Ffcx_la s_1 substr_2 (s_1,0)) fun u8:Unit=>none))
noncomputable def Ffda_la_F (s_1:Str)(sep_2:Str)(sepSave_3:Int)(n_4:Int)(u5:Int)(self:(Str×Int×(List Str))→Option ((List Str)⊕(Str×Int×(List Str))))(x7:Str×Int×(List Str)):Option ((List Str)⊕(Str×Int×(List Str))):=
 bif (decide (x7.2.1<(w64 ((if (w64 ((len s_1)+1))<u5 then (w64 ((len s_1)+1)) else u5) - 1)))) then ((Ffcy x7.1 sep_2).bind fun r8=>bif (decide (r8<0)) then (some (.inr (x7.1,x7.2.1,x7.2.2))) else ((subI x7.1 0 (w64 (r8+sepSave_3))).bind fun s9=>(getI x7.2.2 x7.2.1).bind fun e10=>(subI x7.1 (w64 (r8+(len sep_2))) (len x7.1)).bind fun s11=>self (s11,(w64 (x7.2.1+1)),(setI x7.2.2 x7.2.1 s9)))) else (some (.inr (x7.1,x7.2.1,x7.2.2)))
noncomputable def Ffda_la (s_1:Str)(sep_2:Str)(sepSave_3:Int)(n_4:Int)(u5:Int):(Str×Int×(List Str))→Option ((List Str)⊕(Str×Int×(List Str))):=fixO (Ffda_la_F s_1 sep_2 sepSave_3 n_4 u5)
theorem Ffda_la_fin (s_1:Str)(sep_2:Str)(sepSave_3:Int)(n_4:Int)(u5:Int):∀a,Fin1 fun f=>Ffda_la_F s_1 sep_2 sepSave_3 n_4 u5 f a:=by
 intro a
 unfold Ffda_la_F
 repeat first|exact f_const|exact f_self|refine f_cond ?_ ?_|refine f_bindJ ?_ (fun _=>?_)|refine f_bindL ?_ (fun _=>?_)|refine f_bind ?_ (fun _=>?_)|refine f_letJ (fun _=>?_)
theorem Ffda_la_eq (s_1:Str)(sep_2:Str)(sepSave_3:Int)(n_4:Int)(u5:Int)(x:Str×Int×(List Str)):Ffda_la s_1 sep_2 sepSave_3 n_4 u5 x=Ffda_la_F s_1 sep_2 sepSave_3 n_4 u5 (Ffda_la s_1 sep_2 sepSave_3 n_4 u5) x:=fix_eq (Ffda_la_fin s_1 sep_2 sepSave_3 n_4 u5) x
noncomputable def Ffda (s_1:Str)(sep_2:Str)(sepSave_3:Int)(n_4:Int):Option (List Str):=
 bif (n_4==0) then (some []) else (bif (sep_2==([]:Str)) then none else (bindJ (ρ:=(List Str)) (bif (decide (n_4<0)) then ((Ffcx s_1 sep_2).bind fun r16=>some (.inr (w64 (r16+1)))) else (some (.inr n_4))) fun u5:Int=>(mkI 16 [] (if (w64 ((len s_1)+1))<u5 then (w64 ((len s_1)+1)) else u5)).bind fun m6=>bindJ (ρ:=(List Str)) (Ffda_la s_1 sep_2 sepSave_3 n_4 u5 (s_1,0,m6)) fun u12:Str×Int×(List Str)=>(getI u12.2.2 u12.2.1).bind fun e13=>(subP (setI u12.2.2 u12.2.1 u12.1).length 0 (w64 (u12.2.1+1))).bind fun s14=>(partP (setI u12.2.2 u12.2.1 u12.1) (0+Int.toNat (0)) (Int.toNat (w64 (u12.2.1+1)) - Int.toNat (0))).bind fun p15=>some p15))
noncomputable def Ffcz (s_1:Str)(sep_2:Str):Option (List Str):=
 (Ffda s_1 sep_2 0 (-1)).bind fun r3=>some r3
noncomputable def Ffce_la_F (s_1:List Str)(v_2:Str)(self:Int→Option (Int⊕Unit))(x3:Int):Option (Int⊕Unit):=
 bif (decide (x3<(len s_1))) then ((getI s_1 x3).bind fun e4=>bif (v_2==e4) then (some (.inl x3)) else (self (w64 (x3+1)))) else (some (.inr ()))
noncomputable def Ffce_la (s_1:List Str)(v_2:Str): Int→Option (Int⊕Unit):=fixO (Ffce_la_F s_1 v_2)
theorem Ffce_la_fin (s_1:List Str)(v_2:Str): ∀a,Fin1 fun f=>Ffce_la_F s_1 v_2 f a:=by
 intro a
 unfold Ffce_la_F
 repeat first|exact f_const|exact f_self|refine f_cond ?_ ?_|refine f_bindJ ?_ (fun _=>?_)|refine f_bindL ?_ (fun _=>?_)|refine f_bind ?_ (fun _=>?_)|refine f_letJ (fun _=>?_)
theorem Ffce_la_eq (s_1:List Str)(v_2:Str)(x:Int):Ffce_la s_1 v_2 x=Ffce_la_F s_1 v_2 (Ffce_la s_1 v_2) x:=fix_eq (Ffce_la_fin s_1 v_2) x
noncomputable def Ffce (s_1:List Str)(v_2:Str):Option Int:=
 bindJ (ρ:=Int) (Ffce_la s_1 v_2 0) fun u5:Unit=>some (-1)
noncomputable def Ffcb (s_1:List Str)(v_2:Str):Option Bool:=
 (Ffce s_1 v_2).bind fun r3=>some (decide (r3≥0))
noncomputable def Ffe_la_F (s_1:Str)(self:Int→Option (Bool⊕Unit))(x4:Int):Option (Bool⊕Unit):=
 bif (decide (x4<(len s_1))) then ((getI s_1 x4).bind fun c5=>letJ (bif (decide ((c5.toNat:Int)<97)) then (letJ (bif (decide ((c5.toNat:Int)<48)) then true else (decide ((c5.toNat:Int)>57))) fun u7:Bool=>u7) else (letJ (bif (decide ((c5.toNat:Int)>122)) then (letJ (bif (decide ((c5.toNat:Int)<48)) then true else (decide ((c5.toNat:Int)>57))) fun u9:Bool=>u9) else false) fun u8:Bool=>u8)) fun u6:Bool=>bif u6 then (some (.inl false)) else (self (w64 (x4+1)))) else (some (.inr ()))
noncomputable def Ffe_la (s_1:Str): Int→Option (Bool⊕Unit):=fixO (Ffe_la_F s_1)
theorem Ffe_la_fin (s_1:Str): ∀a,Fin1 fun f=>Ffe_la_F s_1 f a:=by
 intro a
 unfold Ffe_la_F
 repeat first|exact f_const|exact f_self|refine f_cond ?_ ?_|refine f_bindJ ?_ (fun _=>?_)|refine f_bindL ?_ (fun _=>?_)|refine f_bind ?_ (fun _=>?_)|refine f_letJ (fun _=>?_)
theorem Ffe_la_eq (s_1:Str)(x:Int):Ffe_la s_1 x=Ffe_la_F s_1 (Ffe_la s_1) x:=fix_eq (Ffe_la_fin s_1) x
noncomputable def Ffe (s_1:Str):Option Bool:=
 (Ffq (len s_1) 1 8).bind fun r2=>bindJ (ρ:=Bool) (bif (!r2) then (some (.inr true)) else ((getI s_1 0).bind fun c13=>bindL (ρ:=Bool) (bif (decide ((c13.toNat:Int)<97)) then (some (.inr true)) else ((getI s_1 0).bind fun c15=>some (.inr (decide ((c15.toNat:Int)>122))))) fun u14:Bool=>some (.inr u14))) fun u3:Bool=>bif u3 then (some false) else (bindJ (ρ:=Bool) (Ffe_la s_1 0) fun u10:Unit=>(Ffcz ([116,114,117,101,32,102,114,111,109,32,110,111,116,32,97,110,100,32,111,114,32,98,111,116,104,32,101,105,116,104,101,114,32,105,116,32,105,110]:Str) ([32]:Str)).bind fun r11=>(Ffcb r11 s_1).bind fun r12=>some (!r12))
noncomputable def Ffh_la_F (list_1:List Str)(self:Int→Option (Bool⊕Unit))(x2:Int):Option (Bool⊕Unit):=
 bif (decide (x2<(len list_1))) then ((getI list_1 x2).bind fun e3=>(Ffe e3).bind fun r4=>bindL (ρ:=Bool) (bif (!r4) then (some (.inr true)) else ((subI list_1 0 x2).bind fun s6=>(Ffcb s6 e3).bind fun r7=>some (.inr r7))) fun u5:Bool=>bif u5 then (some (.inl false)) else (self (w64 (x2+1)))) else (some (.inr ()))
noncomputable def Ffh_la (list_1:List Str): Int→Option (Bool⊕Unit):=fixO (Ffh_la_F list_1)
theorem Ffh_la_fin (list_1:List Str): ∀a,Fin1 fun f=>Ffh_la_F list_1 f a:=by
 intro a
 unfold Ffh_la_F
 repeat first|exact f_const|exact f_self|refine f_cond ?_ ?_|refine f_bindJ ?_ (fun _=>?_)|refine f_bindL ?_ (fun _=>?_)|refine f_bind ?_ (fun _=>?_)|refine f_letJ (fun _=>?_)
theorem Ffh_la_eq (list_1:List Str)(x:Int):Ffh_la list_1 x=Ffh_la_F list_1 (Ffh_la list_1) x:=fix_eq (Ffh_la_fin list_1) x
noncomputable def Ffh (list_1:List Str):Option Bool:=
 bindJ (ρ:=Bool) (Ffh_la list_1 0) fun u8:Unit=>(Ffq (len list_1) 2 4).bind fun r9=>some r9
noncomputable def Ffj (x_1:Clause)(a_2:Str):Option Bool:=
 some (x_1.Id==a_2)
noncomputable def Ffcc_la_F (s_1:List Clause)(f_2:Str)(self:Int→Option (Int⊕Unit))(x3:Int):Option (Int⊕Unit):=
 bif (decide (x3<(len s_1))) then ((getI s_1 x3).bind fun e4=>(Ffj e4 f_2).bind fun r5=>bif r5 then (some (.inl x3)) else (self (w64 (x3+1)))) else (some (.inr ()))
noncomputable def Ffcc_la (s_1:List Clause)(f_2:Str): Int→Option (Int⊕Unit):=fixO (Ffcc_la_F s_1 f_2)
theorem Ffcc_la_fin (s_1:List Clause)(f_2:Str): ∀a,Fin1 fun f=>Ffcc_la_F s_1 f_2 f a:=by
 intro a
 unfold Ffcc_la_F
 repeat first|exact f_const|exact f_self|refine f_cond ?_ ?_|refine f_bindJ ?_ (fun _=>?_)|refine f_bindL ?_ (fun _=>?_)|refine f_bind ?_ (fun _=>?_)|refine f_letJ (fun _=>?_)
theorem Ffcc_la_eq (s_1:List Clause)(f_2:Str)(x:Int):Ffcc_la s_1 f_2 x=Ffcc_la_F s_1 f_2 (Ffcc_la s_1 f_2) x:=fix_eq (Ffcc_la_fin s_1 f_2) x
noncomputable def Ffcc (s_1:List Clause)(f_2:Str):Option Int:=
 bindJ (ρ:=Int) (Ffcc_la s_1 f_2 0) fun u6:Unit=>some (-1)
noncomputable def Ffi (c_1:Contract)(id_2:Str):Option Int:=
 (Ffcc c_1.Clauses id_2).bind fun r3=>some r3
noncomputable def Ffo (day_1:Int):Option Bool:=
 (Ffq day_1 0 36524).bind fun r2=>some r2
noncomputable def Ffl_la_F (slf_Ffl:(Condition×Int)→Option Int)(c_1:Condition)(so_2:Int)(self:(Int×Int)→Option (Int⊕Int))(x5:Int×Int):Option (Int⊕Int):=
 bif (decide (x5.2<(len c_1.Parts))) then ((getI c_1.Parts x5.2).bind fun e6=>(slf_Ffl (e6,x5.1)).bind fun r7=>bif (decide (r7<0)) then (some (.inl (-1))) else (self (r7,(w64 (x5.2+1))))) else (some (.inr x5.1))
noncomputable def Ffl_la (slf_Ffl:(Condition×Int)→Option Int)(c_1:Condition)(so_2:Int): (Int×Int)→Option (Int⊕Int):=fixO (Ffl_la_F slf_Ffl c_1 so_2)
theorem Ffl_la_fin (slf_Ffl:(Condition×Int)→Option Int)(c_1:Condition)(so_2:Int): ∀a,Fin1 fun f=>Ffl_la_F slf_Ffl c_1 so_2 f a:=by
 intro a
 unfold Ffl_la_F
 repeat first|exact f_const|exact f_self|refine f_cond ?_ ?_|refine f_bindJ ?_ (fun _=>?_)|refine f_bindL ?_ (fun _=>?_)|refine f_bind ?_ (fun _=>?_)|refine f_letJ (fun _=>?_)
theorem Ffl_la_eq (slf_Ffl:(Condition×Int)→Option Int)(c_1:Condition)(so_2:Int)(x:Int×Int):Ffl_la slf_Ffl c_1 so_2 x=Ffl_la_F slf_Ffl c_1 so_2 (Ffl_la slf_Ffl c_1 so_2) x:=fix_eq (Ffl_la_fin slf_Ffl c_1 so_2) x
noncomputable def Ffl_B (slf_Ffl:(Condition×Int)→Option Int)(c_1:Condition)(so_2:Int):Option Int:=
 bindJ (ρ:=Int) (bif (decide ((w64 (so_2+1))>15)) then (some (.inr true)) else ((Ffq c_1.Op 1 6).bind fun r20=>bindL (ρ:=Int) (bif (!r20) then (some (.inr true)) else ((getI [(-1),0,0,0,1,2,2] c_1.Op).bind fun e22=>some (.inr ((len c_1.Parts) != e22)))) fun u21:Bool=>some (.inr u21))) fun u3:Bool=>bif u3 then (some (-1)) else (bindJ (ρ:=Int) (bif (!((c_1.Op==2)==(!(c_1.Name==([]:Str))))) then (some (.inr true)) else (bindL (ρ:=Int) (bif (c_1.Op==2) then ((Ffe c_1.Name).bind fun r10=>bindL (ρ:=Int) (bif (!r10) then (some (.inr true)) else (bindL (ρ:=Int) (bif (c_1.Op != 3) then (bindL (ρ:=Int) (bif (c_1.Day != 0) then (some (.inr true)) else ((Ffo c_1.Day).bind fun r14=>some (.inr (!r14)))) fun u13:Bool=>some (.inr u13)) else ((Ffo c_1.Day).bind fun r15=>some (.inr (!r15)))) fun u12:Bool=>some (.inr u12))) fun u11:Bool=>some (.inr u11)) else (bindL (ρ:=Int) (bif (c_1.Op != 3) then (bindL (ρ:=Int) (bif (c_1.Day != 0) then (some (.inr true)) else ((Ffo c_1.Day).bind fun r18=>some (.inr (!r18)))) fun u17:Bool=>some (.inr u17)) else ((Ffo c_1.Day).bind fun r19=>some (.inr (!r19)))) fun u16:Bool=>some (.inr u16))) fun u9:Bool=>some (.inr u9))) fun u4:Bool=>bif u4 then (some (-1)) else (bindJ (ρ:=Int) (Ffl_la slf_Ffl c_1 so_2 ((w64 (so_2+1)),0)) fun u8:Int=>some u8))
noncomputable def Ffl_G (slf_Ffl:(Condition×Int)→Option Int)(x:Condition×Int):Option Int:=Ffl_B slf_Ffl x.1 x.2
noncomputable def Ffl (c_1:Condition)(so_2:Int):Option Int:=fixO Ffl_G (c_1,so_2)
theorem Ffl_fin:∀x,Fin1 fun slf_Ffl=>Ffl_G slf_Ffl x:=by
 intro x
 unfold Ffl_G Ffl_B
 repeat first|exact f_const|exact f_self|exact f_selfL|exact f_selfR|exact f_selfLL|exact f_selfRL|exact f_selfLLL|exact f_selfRLL|refine f_cond ?_ ?_|refine f_bindJ ?_ (fun _=>?_)|refine f_bindL ?_ (fun _=>?_)|refine f_bind ?_ (fun _=>?_)|refine f_letJ (fun _=>?_)|refine f_fix (fun _=>?_) | unfold Ffl_la | unfold Ffl_la_F
theorem Ffl_eq (c_1:Condition)(so_2:Int):Ffl c_1 so_2=Ffl_B (fixO Ffl_G) c_1 so_2:=fix_eq Ffl_fin (c_1,so_2)
noncomputable def Ffc (c_1:Condition):Option Bool:=
 (Ffl c_1 0).bind fun r2=>some (decide (r2>0))
noncomputable def Ffn (c_1:Contract)(i_2:Int):Option Bool:=
 (getI c_1.Clauses i_2).bind fun e3=>(Ffe e3.Id).bind fun r4=>bindJ (ρ:=Bool) (bif (!r4) then (some (.inr true)) else ((Ffi c_1 e3.Id).bind fun r23=>bindL (ρ:=Bool) (bif (r23 != i_2) then (some (.inr true)) else ((Ffe e3.Action).bind fun r25=>bindL (ρ:=Bool) (bif (!r25) then (some (.inr true)) else ((Ffq e3.Kind 1 4).bind fun r27=>some (.inr (!r27)))) fun u26:Bool=>some (.inr u26))) fun u24:Bool=>some (.inr u24))) fun u5:Bool=>bif u5 then (some false) else ((Ffq e3.Party 0 (w64 ((len c_1.Parties) - 1))).bind fun r6=>bindJ (ρ:=Bool) (bif (!r6) then (some (.inr true)) else ((Ffq e3.Other 0 (w64 ((len c_1.Parties) - 1))).bind fun r19=>bindL (ρ:=Bool) (bif (!r19) then (some (.inr true)) else (bindL (ρ:=Bool) (bif (e3.Party==e3.Other) then (some (.inr true)) else ((Ffc e3.When).bind fun r22=>some (.inr (!r22)))) fun u21:Bool=>some (.inr u21))) fun u20:Bool=>some (.inr u20))) fun u7:Bool=>bif u7 then (some false) else ((Ffq e3.Amount 0 1000000).bind fun r8=>bindJ (ρ:=Bool) (bif (!r8) then (some (.inr true)) else ((Ffq e3.Within 0 400).bind fun r15=>letJ (bif (!r15) then true else (letJ (bif (e3.Kind != 1) then (letJ (bif (e3.Amount != 0) then true else (e3.Within != 0)) fun u18:Bool=>u18) else false) fun u17:Bool=>u17)) fun u16:Bool=>some (.inr u16))) fun u9:Bool=>bif u9 then (some false) else (bif (e3.Repair==([]:Str)) then (some true) else ((Ffi c_1 e3.Repair).bind fun r10=>bindJ (ρ:=Bool) (bif (e3.Kind != 3) then (bindL (ρ:=Bool) (bif (decide (r10≥0)) then (bindL (ρ:=Bool) (bif (r10 != i_2) then ((getI c_1.Clauses r10).bind fun e14=>some (.inr (e14.Kind==1))) else (some (.inr false))) fun u13:Bool=>some (.inr u13)) else (some (.inr false))) fun u12:Bool=>some (.inr u12)) else (some (.inr false))) fun u11:Bool=>some u11))))
noncomputable def Ffg_la_F (slf_Ffg:(Condition×(List Str))→Option (List Str))(c_3:Condition)(list_4:List Str)(self:(Int×(List Str))→Option ((List Str)⊕(List Str)))(x4:Int×(List Str)):Option ((List Str)⊕(List Str)):=
 bif (decide (x4.1<(len c_3.Parts))) then ((getI c_3.Parts x4.1).bind fun e5=>(slf_Ffg (e5,x4.2)).bind fun r6=>self ((w64 (x4.1+1)),r6)) else (some (.inr x4.2))
noncomputable def Ffg_la (slf_Ffg:(Condition×(List Str))→Option (List Str))(c_3:Condition)(list_4:List Str): (Int×(List Str))→Option ((List Str)⊕(List Str)):=fixO (Ffg_la_F slf_Ffg c_3 list_4)
theorem Ffg_la_fin (slf_Ffg:(Condition×(List Str))→Option (List Str))(c_3:Condition)(list_4:List Str): ∀a,Fin1 fun f=>Ffg_la_F slf_Ffg c_3 list_4 f a:=by
 intro a
 unfold Ffg_la_F
 repeat first|exact f_const|exact f_self|refine f_cond ?_ ?_|refine f_bindJ ?_ (fun _=>?_)|refine f_bindL ?_ (fun _=>?_)|refine f_bind ?_ (fun _=>?_)|refine f_letJ (fun _=>?_)
theorem Ffg_la_eq (slf_Ffg:(Condition×(List Str))→Option (List Str))(c_3:Condition)(list_4:List Str)(x:Int×(List Str)):Ffg_la slf_Ffg c_3 list_4 x=Ffg_la_F slf_Ffg c_3 list_4 (Ffg_la slf_Ffg c_3 list_4) x:=fix_eq (Ffg_la_fin slf_Ffg c_3 list_4) x
noncomputable def Ffg_B (slf_Ffg:(Condition×(List Str))→Option (List Str))(c_3:Condition)(list_4:List Str):Option (List Str):=
 bindJ (ρ:=(List Str)) (bif (c_3.Op==2) then ((appI 16 list_4 [c_3.Name]).bind fun a8=>some (.inr a8)) else (some (.inr list_4))) fun u3:(List Str)=>bindJ (ρ:=(List Str)) (Ffg_la slf_Ffg c_3 list_4 (0,u3)) fun u7:(List Str)=>some u7
noncomputable def Ffg_G (slf_Ffg:(Condition×(List Str))→Option (List Str))(x:Condition×(List Str)):Option (List Str):=Ffg_B slf_Ffg x.1 x.2
noncomputable def Ffg (c_3:Condition)(list_4:List Str):Option (List Str):=fixO Ffg_G (c_3,list_4)
theorem Ffg_fin:∀x,Fin1 fun slf_Ffg=>Ffg_G slf_Ffg x:=by
 intro x
 unfold Ffg_G Ffg_B
 repeat first|exact f_const|exact f_self|exact f_selfL|exact f_selfR|exact f_selfLL|exact f_selfRL|exact f_selfLLL|exact f_selfRLL|refine f_cond ?_ ?_|refine f_bindJ ?_ (fun _=>?_)|refine f_bindL ?_ (fun _=>?_)|refine f_bind ?_ (fun _=>?_)|refine f_letJ (fun _=>?_)|refine f_fix (fun _=>?_) | unfold Ffg_la | unfold Ffg_la_F
theorem Ffg_eq (c_3:Condition)(list_4:List Str):Ffg c_3 list_4=Ffg_B (fixO Ffg_G) c_3 list_4:=fix_eq Ffg_fin (c_3,list_4)
noncomputable def Ffbz_lb_F (s_2:List Str)(x2:Int)(self:(Int×Int×(List Str))→Option ((List Str)⊕(Int×(List Str))))(x6:Int×Int×(List Str)):Option ((List Str)⊕(Int×(List Str))):=
 bif (decide (x6.2.1<(((Int.toNat (len s_2) - Int.toNat x2):Nat):Int))) then ((getP x6.2.2 (0+Int.toNat x2) (Int.toNat (len s_2) - Int.toNat x2) x6.2.1).bind fun e7=>(getP x6.2.2 (0+Int.toNat x2) (Int.toNat (len s_2) - Int.toNat x2) (w64 (x6.2.1 - 1))).bind fun e8=>bindL (ρ:=(List Str)) (bif (!(e7==e8)) then ((getP x6.2.2 (0+Int.toNat x2) (Int.toNat (len s_2) - Int.toNat x2) x6.2.1).bind fun e10=>(getI x6.2.2 x6.1).bind fun e11=>some (.inr ((w64 (x6.1+1)),(setI x6.2.2 x6.1 e10)))) else (some (.inr (x6.1,x6.2.2)))) fun u9:Int×(List Str)=>self (u9.1,(w64 (x6.2.1+1)),u9.2)) else (some (.inr (x6.1,x6.2.2)))
noncomputable def Ffbz_lb (s_2:List Str)(x2:Int):(Int×Int×(List Str))→Option ((List Str)⊕(Int×(List Str))):=fixO (Ffbz_lb_F s_2 x2)
theorem Ffbz_lb_fin (s_2:List Str)(x2:Int):∀a,Fin1 fun f=>Ffbz_lb_F s_2 x2 f a:=by
 intro a
 unfold Ffbz_lb_F
 repeat first|exact f_const|exact f_self|refine f_cond ?_ ?_|refine f_bindJ ?_ (fun _=>?_)|refine f_bindL ?_ (fun _=>?_)|refine f_bind ?_ (fun _=>?_)|refine f_letJ (fun _=>?_)
theorem Ffbz_lb_eq (s_2:List Str)(x2:Int)(x:Int×Int×(List Str)):Ffbz_lb s_2 x2 x=Ffbz_lb_F s_2 x2 (Ffbz_lb s_2 x2) x:=fix_eq (Ffbz_lb_fin s_2 x2) x
noncomputable def Ffbz_la_F (s_2:List Str)(self:Int→Option ((List Str)⊕(List Str)))(x2:Int):Option ((List Str)⊕(List Str)):=
 bif (decide (x2<(len s_2))) then ((getI s_2 x2).bind fun e3=>(getI s_2 (w64 (x2 - 1))).bind fun e4=>bif (e3==e4) then ((subP s_2.length x2 (len s_2)).bind fun s5=>bindL (ρ:=(List Str)) (Ffbz_lb s_2 x2 (x2,1,s_2)) fun u15:Int×(List Str)=>(subP u15.2.length u15.1 (len u15.2)).bind fun s16=>(clrP u15.2 (0+Int.toNat u15.1) (Int.toNat (len u15.2) - Int.toNat u15.1) []).bind fun k17=>(subP k17.length 0 u15.1).bind fun s18=>(partP k17 (0+Int.toNat (0)) (Int.toNat u15.1 - Int.toNat (0))).bind fun p19=>some (.inl p19)) else (self (w64 (x2+1)))) else (some (.inr s_2))
noncomputable def Ffbz_la (s_2:List Str): Int→Option ((List Str)⊕(List Str)):=fixO (Ffbz_la_F s_2)
theorem Ffbz_la_fin (s_2:List Str): ∀a,Fin1 fun f=>Ffbz_la_F s_2 f a:=by
 intro a
 unfold Ffbz_la_F
 repeat first|exact f_const|exact f_self|refine f_cond ?_ ?_|refine f_bindJ ?_ (fun _=>?_)|refine f_bindL ?_ (fun _=>?_)|refine f_bind ?_ (fun _=>?_)|refine f_letJ (fun _=>?_)
theorem Ffbz_la_eq (s_2:List Str)(x:Int):Ffbz_la s_2 x=Ffbz_la_F s_2 (Ffbz_la s_2) x:=fix_eq (Ffbz_la_fin s_2) x
noncomputable def Ffbz (s_2:List Str):Option (List Str):=
 bif (decide ((len s_2)<2)) then (some s_2) else (bindJ (ρ:=(List Str)) (Ffbz_la s_2 1) fun u20:(List Str)=>some u20)
noncomputable def Ffp (list_5:List Str):Option (List Str):=
 (xSortS list_5).bind fun r2=>bif Nat.beq r2.length list_5.length then ((Ffbz r2).bind fun r4=>some r4) else none
noncomputable def Ffm_la_F (c_1:Contract)(self:(Int×(List Str))→Option ((List Str)⊕(List Str)))(x2:Int×(List Str)):Option ((List Str)⊕(List Str)):=
 bif (decide (x2.1<(len c_1.Clauses))) then ((getI c_1.Clauses x2.1).bind fun e3=>(appI 16 x2.2 [e3.Action]).bind fun a4=>(Ffg e3.When a4).bind fun r5=>self ((w64 (x2.1+1)),r5)) else (some (.inr x2.2))
noncomputable def Ffm_la (c_1:Contract): (Int×(List Str))→Option ((List Str)⊕(List Str)):=fixO (Ffm_la_F c_1)
theorem Ffm_la_fin (c_1:Contract): ∀a,Fin1 fun f=>Ffm_la_F c_1 f a:=by
 intro a
 unfold Ffm_la_F
 repeat first|exact f_const|exact f_self|refine f_cond ?_ ?_|refine f_bindJ ?_ (fun _=>?_)|refine f_bindL ?_ (fun _=>?_)|refine f_bind ?_ (fun _=>?_)|refine f_letJ (fun _=>?_)
theorem Ffm_la_eq (c_1:Contract)(x:Int×(List Str)):Ffm_la c_1 x=Ffm_la_F c_1 (Ffm_la c_1) x:=fix_eq (Ffm_la_fin c_1) x
noncomputable def Ffm (c_1:Contract):Option (List Str):=
 bindJ (ρ:=(List Str)) (Ffm_la c_1 (0,[])) fun u6:(List Str)=>(Ffp u6).bind fun r7=>some r7
noncomputable def Ffd_la_F (c_1:Contract)(self:Int→Option (Bool⊕Unit))(x4:Int):Option (Bool⊕Unit):=
 bif (decide (x4<(len c_1.Clauses))) then ((Ffn c_1 x4).bind fun r5=>bif (!r5) then (some (.inl false)) else (self (w64 (x4+1)))) else (some (.inr ()))
noncomputable def Ffd_la (c_1:Contract): Int→Option (Bool⊕Unit):=fixO (Ffd_la_F c_1)
theorem Ffd_la_fin (c_1:Contract): ∀a,Fin1 fun f=>Ffd_la_F c_1 f a:=by
 intro a
 unfold Ffd_la_F
 repeat first|exact f_const|exact f_self|refine f_cond ?_ ?_|refine f_bindJ ?_ (fun _=>?_)|refine f_bindL ?_ (fun _=>?_)|refine f_bind ?_ (fun _=>?_)|refine f_letJ (fun _=>?_)
theorem Ffd_la_eq (c_1:Contract)(x:Int):Ffd_la c_1 x=Ffd_la_F c_1 (Ffd_la c_1) x:=fix_eq (Ffd_la_fin c_1) x
noncomputable def Ffd (c_1:Contract):Option Bool:=
 (Ffh c_1.Parties).bind fun r2=>bindJ (ρ:=Bool) (bif (!r2) then (some (.inr true)) else ((Ffq (len c_1.Clauses) 1 12).bind fun r8=>some (.inr (!r8)))) fun u3:Bool=>bif u3 then (some false) else (bindJ (ρ:=Bool) (Ffd_la c_1 0) fun u6:Unit=>(Ffm c_1).bind fun r7=>some (decide ((len r7)≤16)))
noncomputable def Ffcd_la_F (s_1:List Int)(v_2:Int)(self:Int→Option (Int⊕Unit))(x3:Int):Option (Int⊕Unit):=
 bif (decide (x3<(len s_1))) then ((getI s_1 x3).bind fun e4=>bif (v_2==e4) then (some (.inl x3)) else (self (w64 (x3+1)))) else (some (.inr ()))
noncomputable def Ffcd_la (s_1:List Int)(v_2:Int): Int→Option (Int⊕Unit):=fixO (Ffcd_la_F s_1 v_2)
theorem Ffcd_la_fin (s_1:List Int)(v_2:Int): ∀a,Fin1 fun f=>Ffcd_la_F s_1 v_2 f a:=by
 intro a
 unfold Ffcd_la_F
 repeat first|exact f_const|exact f_self|refine f_cond ?_ ?_|refine f_bindJ ?_ (fun _=>?_)|refine f_bindL ?_ (fun _=>?_)|refine f_bind ?_ (fun _=>?_)|refine f_letJ (fun _=>?_)
theorem Ffcd_la_eq (s_1:List Int)(v_2:Int)(x:Int):Ffcd_la s_1 v_2 x=Ffcd_la_F s_1 v_2 (Ffcd_la s_1 v_2) x:=fix_eq (Ffcd_la_fin s_1 v_2) x
noncomputable def Ffcd (s_1:List Int)(v_2:Int):Option Int:=
 bindJ (ρ:=Int) (Ffcd_la s_1 v_2 0) fun u5:Unit=>some (-1)
noncomputable def Ffca (s_1:List Int)(v_2:Int):Option Bool:=
 (Ffcd s_1 v_2).bind fun r3=>some (decide (r3≥0))
noncomputable def Fff_la_F (c_1:Contract)(i_2:Int)(self:(Int×(List Int))→Option (((List Int)×Bool×Bool)⊕(List Int)))(x5:Int×(List Int)):Option (((List Int)×Bool×Bool)⊕(List Int)):=
 (getI c_1.Clauses x5.1).bind fun e6=>bif (!(e6.Repair==([]:Str))) then ((getI c_1.Clauses x5.1).bind fun e7=>(Ffi c_1 e7.Repair).bind fun r8=>(Ffca x5.2 r8).bind fun r9=>bif r9 then (some (.inl (x5.2,true,true))) else ((appI 8 x5.2 [r8]).bind fun a10=>self (r8,a10))) else (some (.inr x5.2))
noncomputable def Fff_la (c_1:Contract)(i_2:Int): (Int×(List Int))→Option (((List Int)×Bool×Bool)⊕(List Int)):=fixO (Fff_la_F c_1 i_2)
theorem Fff_la_fin (c_1:Contract)(i_2:Int): ∀a,Fin1 fun f=>Fff_la_F c_1 i_2 f a:=by
 intro a
 unfold Fff_la_F
 repeat first|exact f_const|exact f_self|refine f_cond ?_ ?_|refine f_bindJ ?_ (fun _=>?_)|refine f_bindL ?_ (fun _=>?_)|refine f_bind ?_ (fun _=>?_)|refine f_letJ (fun _=>?_)
theorem Fff_la_eq (c_1:Contract)(i_2:Int)(x:Int×(List Int)):Fff_la c_1 i_2 x=Fff_la_F c_1 i_2 (Fff_la c_1 i_2) x:=fix_eq (Fff_la_fin c_1 i_2) x
noncomputable def Fff (c_1:Contract)(i_2:Int):Option ((List Int)×Bool×Bool):=
 (Ffd c_1).bind fun r3=>bindJ (ρ:=(List Int)×Bool×Bool) (bif (!r3) then (some (.inr true)) else ((Ffq i_2 0 (w64 ((len c_1.Clauses) - 1))).bind fun r12=>some (.inr (!r12)))) fun u4:Bool=>bif u4 then (some ([],false,false)) else (bindJ (ρ:=(List Int)×Bool×Bool) (Fff_la c_1 i_2 (i_2,[i_2])) fun u11:(List Int)=>some (u11,false,true))
noncomputable def Ffb (i_1:Int)(a_2:Contract):Option Bool:=
 (Fff a_2 i_1).bind fun r3=>some r3.2.1
noncomputable def Ffk_la_F (c_1:Contract)(holds_2:Contract)(self:(Int×(List Int))→Option ((List Int)⊕(List Int)))(x3:Int×(List Int)):Option ((List Int)⊕(List Int)):=
 bif (decide (x3.1<(len c_1.Clauses))) then ((Ffb x3.1 holds_2).bind fun r4=>bindL (ρ:=(List Int)) (bif r4 then ((appI 8 x3.2 [x3.1]).bind fun a6=>some (.inr a6)) else (some (.inr x3.2))) fun u5:(List Int)=>self ((w64 (x3.1+1)),u5)) else (some (.inr x3.2))
noncomputable def Ffk_la (c_1:Contract)(holds_2:Contract): (Int×(List Int))→Option ((List Int)⊕(List Int)):=fixO (Ffk_la_F c_1 holds_2)
theorem Ffk_la_fin (c_1:Contract)(holds_2:Contract): ∀a,Fin1 fun f=>Ffk_la_F c_1 holds_2 f a:=by
 intro a
 unfold Ffk_la_F
 repeat first|exact f_const|exact f_self|refine f_cond ?_ ?_|refine f_bindJ ?_ (fun _=>?_)|refine f_bindL ?_ (fun _=>?_)|refine f_bind ?_ (fun _=>?_)|refine f_letJ (fun _=>?_)
theorem Ffk_la_eq (c_1:Contract)(holds_2:Contract)(x:Int×(List Int)):Ffk_la c_1 holds_2 x=Ffk_la_F c_1 holds_2 (Ffk_la c_1 holds_2) x:=fix_eq (Ffk_la_fin c_1 holds_2) x
noncomputable def Ffk (c_1:Contract)(holds_2:Contract):Option (List Int):=
 bindJ (ρ:=(List Int)) (Ffk_la c_1 holds_2 (0,[])) fun u7:(List Int)=>some u7
noncomputable def Ffa (c_1:Contract):Option ((List Int)×Bool):=
 (Ffd c_1).bind fun r2=>bif (!r2) then (some ([],false)) else ((Ffk c_1 c_1).bind fun r3=>some (r3,true))
noncomputable def Ffz_la_F (a_1:List Int)(b_2:List Int)(self:Int→Option (Bool⊕Unit))(x3:Int):Option (Bool⊕Unit):=
 bif (decide (x3<(len a_1))) then ((getI a_1 x3).bind fun e4=>(getI b_2 x3).bind fun e5=>bif (e4 != e5) then (some (.inl false)) else (self (w64 (x3+1)))) else (some (.inr ()))
noncomputable def Ffz_la (a_1:List Int)(b_2:List Int): Int→Option (Bool⊕Unit):=fixO (Ffz_la_F a_1 b_2)
theorem Ffz_la_fin (a_1:List Int)(b_2:List Int): ∀a,Fin1 fun f=>Ffz_la_F a_1 b_2 f a:=by
 intro a
 unfold Ffz_la_F
 repeat first|exact f_const|exact f_self|refine f_cond ?_ ?_|refine f_bindJ ?_ (fun _=>?_)|refine f_bindL ?_ (fun _=>?_)|refine f_bind ?_ (fun _=>?_)|refine f_letJ (fun _=>?_)
theorem Ffz_la_eq (a_1:List Int)(b_2:List Int)(x:Int):Ffz_la a_1 b_2 x=Ffz_la_F a_1 b_2 (Ffz_la a_1 b_2) x:=fix_eq (Ffz_la_fin a_1 b_2) x
noncomputable def Ffz (a_1:List Int)(b_2:List Int):Option Bool:=
 bif ((len a_1) != (len b_2)) then (some false) else (bindJ (ρ:=Bool) (Ffz_la a_1 b_2 0) fun u6:Unit=>some true)
noncomputable def Ffba_la_F (a_1:List Str)(b_2:List Str)(self:Int→Option (Bool⊕Unit))(x3:Int):Option (Bool⊕Unit):=
 bif (decide (x3<(len a_1))) then ((getI a_1 x3).bind fun e4=>(getI b_2 x3).bind fun e5=>bif (!(e4==e5)) then (some (.inl false)) else (self (w64 (x3+1)))) else (some (.inr ()))
noncomputable def Ffba_la (a_1:List Str)(b_2:List Str): Int→Option (Bool⊕Unit):=fixO (Ffba_la_F a_1 b_2)
theorem Ffba_la_fin (a_1:List Str)(b_2:List Str): ∀a,Fin1 fun f=>Ffba_la_F a_1 b_2 f a:=by
 intro a
 unfold Ffba_la_F
 repeat first|exact f_const|exact f_self|refine f_cond ?_ ?_|refine f_bindJ ?_ (fun _=>?_)|refine f_bindL ?_ (fun _=>?_)|refine f_bind ?_ (fun _=>?_)|refine f_letJ (fun _=>?_)
theorem Ffba_la_eq (a_1:List Str)(b_2:List Str)(x:Int):Ffba_la a_1 b_2 x=Ffba_la_F a_1 b_2 (Ffba_la a_1 b_2) x:=fix_eq (Ffba_la_fin a_1 b_2) x
noncomputable def Ffba (a_1:List Str)(b_2:List Str):Option Bool:=
 bif ((len a_1) != (len b_2)) then (some false) else (bindJ (ρ:=Bool) (Ffba_la a_1 b_2 0) fun u6:Unit=>some true)
noncomputable def Ffx_la_F (slf_Ffv:(Condition×Condition)→Option Bool)(a_1:List Condition)(b_2:List Condition)(self:Int→Option (Bool⊕Unit))(x3:Int):Option (Bool⊕Unit):=
 bif (decide (x3<(len a_1))) then ((getI a_1 x3).bind fun e4=>(getI b_2 x3).bind fun e5=>(slf_Ffv (e4,e5)).bind fun r6=>bif (!r6) then (some (.inl false)) else (self (w64 (x3+1)))) else (some (.inr ()))
noncomputable def Ffx_la (slf_Ffv:(Condition×Condition)→Option Bool)(a_1:List Condition)(b_2:List Condition): Int→Option (Bool⊕Unit):=fixO (Ffx_la_F slf_Ffv a_1 b_2)
theorem Ffx_la_fin (slf_Ffv:(Condition×Condition)→Option Bool)(a_1:List Condition)(b_2:List Condition): ∀a,Fin1 fun f=>Ffx_la_F slf_Ffv a_1 b_2 f a:=by
 intro a
 unfold Ffx_la_F
 repeat first|exact f_const|exact f_self|refine f_cond ?_ ?_|refine f_bindJ ?_ (fun _=>?_)|refine f_bindL ?_ (fun _=>?_)|refine f_bind ?_ (fun _=>?_)|refine f_letJ (fun _=>?_)
theorem Ffx_la_eq (slf_Ffv:(Condition×Condition)→Option Bool)(a_1:List Condition)(b_2:List Condition)(x:Int):Ffx_la slf_Ffv a_1 b_2 x=Ffx_la_F slf_Ffv a_1 b_2 (Ffx_la slf_Ffv a_1 b_2) x:=fix_eq (Ffx_la_fin slf_Ffv a_1 b_2) x
noncomputable def Ffx (slf_Ffv:(Condition×Condition)→Option Bool)(a_1:List Condition)(b_2:List Condition):Option Bool:=
 bif ((len a_1) != (len b_2)) then (some false) else (bindJ (ρ:=Bool) (Ffx_la slf_Ffv a_1 b_2 0) fun u7:Unit=>some true)
noncomputable def Ffv_B (slf_Ffv:(Condition×Condition)→Option Bool)(a_1:Condition)(b_2:Condition):Option Bool:=
 bif (a_1.Op != b_2.Op) then (some false) else (bif (!(a_1.Name==b_2.Name)) then (some false) else (bif (a_1.Day != b_2.Day) then (some false) else ((Ffx slf_Ffv a_1.Parts b_2.Parts).bind fun r3=>bif (!r3) then (some false) else (some true))))
noncomputable def Ffv_G (slf_Ffv:(Condition×Condition)→Option Bool)(x:Condition×Condition):Option Bool:=Ffv_B slf_Ffv x.1 x.2
noncomputable def Ffv (a_1:Condition)(b_2:Condition):Option Bool:=fixO Ffv_G (a_1,b_2)
theorem Ffv_fin:∀x,Fin1 fun slf_Ffv=>Ffv_G slf_Ffv x:=by
 intro x
 unfold Ffv_G Ffv_B
 repeat first|exact f_const|exact f_self|exact f_selfL|exact f_selfR|exact f_selfLL|exact f_selfRL|exact f_selfLLL|exact f_selfRLL|refine f_cond ?_ ?_|refine f_bindJ ?_ (fun _=>?_)|refine f_bindL ?_ (fun _=>?_)|refine f_bind ?_ (fun _=>?_)|refine f_letJ (fun _=>?_)|refine f_fix (fun _=>?_) | unfold Ffx | unfold Ffx_la | unfold Ffx_la_F
theorem Ffv_eq (a_1:Condition)(b_2:Condition):Ffv a_1 b_2=Ffv_B (fixO Ffv_G) a_1 b_2:=fix_eq Ffv_fin (a_1,b_2)
noncomputable def Ffw (a_1:List Condition)(b_2:List Condition):Option Bool:=Ffx (fixO Ffv_G) a_1 b_2
noncomputable def Fft (a_1:Clause)(b_2:Clause):Option Bool:=
 bif (!(a_1.Id==b_2.Id)) then (some false) else (bif (a_1.Kind != b_2.Kind) then (some false) else (bif (a_1.Party != b_2.Party) then (some false) else (bif (!(a_1.Action==b_2.Action)) then (some false) else (bif (a_1.Other != b_2.Other) then (some false) else (bif (a_1.Amount != b_2.Amount) then (some false) else ((Ffv a_1.When b_2.When).bind fun r3=>bif (!r3) then (some false) else (bif (a_1.Within != b_2.Within) then (some false) else (bif (!(a_1.Repair==b_2.Repair)) then (some false) else (some true)))))))))
noncomputable def Ffu_la_F (a_1:List Clause)(b_2:List Clause)(self:Int→Option (Bool⊕Unit))(x3:Int):Option (Bool⊕Unit):=
 bif (decide (x3<(len a_1))) then ((getI a_1 x3).bind fun e4=>(getI b_2 x3).bind fun e5=>(Fft e4 e5).bind fun r6=>bif (!r6) then (some (.inl false)) else (self (w64 (x3+1)))) else (some (.inr ()))
noncomputable def Ffu_la (a_1:List Clause)(b_2:List Clause): Int→Option (Bool⊕Unit):=fixO (Ffu_la_F a_1 b_2)
theorem Ffu_la_fin (a_1:List Clause)(b_2:List Clause): ∀a,Fin1 fun f=>Ffu_la_F a_1 b_2 f a:=by
 intro a
 unfold Ffu_la_F
 repeat first|exact f_const|exact f_self|refine f_cond ?_ ?_|refine f_bindJ ?_ (fun _=>?_)|refine f_bindL ?_ (fun _=>?_)|refine f_bind ?_ (fun _=>?_)|refine f_letJ (fun _=>?_)
theorem Ffu_la_eq (a_1:List Clause)(b_2:List Clause)(x:Int):Ffu_la a_1 b_2 x=Ffu_la_F a_1 b_2 (Ffu_la a_1 b_2) x:=fix_eq (Ffu_la_fin a_1 b_2) x
noncomputable def Ffu (a_1:List Clause)(b_2:List Clause):Option Bool:=
 bif ((len a_1) != (len b_2)) then (some false) else (bindJ (ρ:=Bool) (Ffu_la a_1 b_2 0) fun u7:Unit=>some true)
noncomputable def Ffy (a_1:Contract)(b_2:Contract):Option Bool:=
 (Ffba a_1.Parties b_2.Parties).bind fun r3=>bif (!r3) then (some false) else ((Ffu a_1.Clauses b_2.Clauses).bind fun r4=>bif (!r4) then (some false) else (some true))
noncomputable def Ffbh_la_F (k_1:Int)(self:(Int×Str)→Option (Str⊕Str))(x2:Int×Str):Option (Str⊕Str):=
 bif (decide (x2.1>0)) then ((catS ([(IntKind.u8.wrap (w64 (48+(x2.1.tmod 10))))].map fun n=>UInt8.ofNat n.toNat) x2.2).bind fun s3=>self ((w64 (x2.1.tdiv 10)),s3)) else (some (.inr x2.2))
noncomputable def Ffbh_la (k_1:Int): (Int×Str)→Option (Str⊕Str):=fixO (Ffbh_la_F k_1)
theorem Ffbh_la_fin (k_1:Int): ∀a,Fin1 fun f=>Ffbh_la_F k_1 f a:=by
 intro a
 unfold Ffbh_la_F
 repeat first|exact f_const|exact f_self|refine f_cond ?_ ?_|refine f_bindJ ?_ (fun _=>?_)|refine f_bindL ?_ (fun _=>?_)|refine f_bind ?_ (fun _=>?_)|refine f_letJ (fun _=>?_)
theorem Ffbh_la_eq (k_1:Int)(x:Int×Str):Ffbh_la k_1 x=Ffbh_la_F k_1 (Ffbh_la k_1) x:=fix_eq (Ffbh_la_fin k_1) x
noncomputable def Ffbh (k_1:Int):Option Str:=
 bif (decide (k_1≤0)) then (some ([109,48]:Str)) else (bindJ (ρ:=Str) (Ffbh_la k_1 (k_1,([]:Str))) fun u4:Str=>(catS ([109]:Str) u4).bind fun s5=>some s5)
noncomputable def Ffbg_la_F (a_7:List Str)(k_8:Int)(self:(Int×Int×(List Str))→Option ((Int×(List Str))⊕(Int×(List Str))))(x3:Int×Int×(List Str)):Option ((Int×(List Str))⊕(Int×(List Str))):=
 bif (decide (x3.2.1<(len x3.2.2))) then ((Ffbh x3.1).bind fun r4=>(getI x3.2.2 x3.2.1).bind fun e5=>self ((w64 (x3.1+1)),(w64 (x3.2.1+1)),(setI x3.2.2 x3.2.1 r4))) else (some (.inr (x3.1,x3.2.2)))
noncomputable def Ffbg_la (a_7:List Str)(k_8:Int): (Int×Int×(List Str))→Option ((Int×(List Str))⊕(Int×(List Str))):=fixO (Ffbg_la_F a_7 k_8)
theorem Ffbg_la_fin (a_7:List Str)(k_8:Int): ∀a,Fin1 fun f=>Ffbg_la_F a_7 k_8 f a:=by
 intro a
 unfold Ffbg_la_F
 repeat first|exact f_const|exact f_self|refine f_cond ?_ ?_|refine f_bindJ ?_ (fun _=>?_)|refine f_bindL ?_ (fun _=>?_)|refine f_bind ?_ (fun _=>?_)|refine f_letJ (fun _=>?_)
theorem Ffbg_la_eq (a_7:List Str)(k_8:Int)(x:Int×Int×(List Str)):Ffbg_la a_7 k_8 x=Ffbg_la_F a_7 k_8 (Ffbg_la a_7 k_8) x:=fix_eq (Ffbg_la_fin a_7 k_8) x
noncomputable def Ffbg (a_7:List Str)(k_8:Int):Option (Int×(List Str)):=
 bindJ (ρ:=Int×(List Str)) (Ffbg_la a_7 k_8 (k_8,0,a_7)) fun u6:Int×(List Str)=>bif Nat.beq u6.2.length a_7.length then (some (u6.1,u6.2)) else none
noncomputable def Ffbd_la_F (slf_Ffbd:((List Condition)×Int)→Option (Int×(List Condition)))(a_6:List Condition)(k_7:Int)(self:(Int×Int×(List Condition))→Option ((Int×(List Condition))⊕(Int×(List Condition))))(x3:Int×Int×(List Condition)):Option ((Int×(List Condition))⊕(Int×(List Condition))):=
 bif (decide (x3.2.1<(len x3.2.2))) then ((getI x3.2.2 x3.2.1).bind fun e4=>(Ffbh (w64 (x3.1+1))).bind fun r5=>(getI (setI x3.2.2 x3.2.1 (Condition.mk x3.1 e4.Name e4.Day e4.Parts)) x3.2.1).bind fun e6=>letJ (setI (setI x3.2.2 x3.2.1 (Condition.mk x3.1 e4.Name e4.Day e4.Parts)) x3.2.1 (Condition.mk e6.Op r5 e6.Day e6.Parts)) fun rw7:List Condition=>(getI rw7 x3.2.1).bind fun e9=>letJ (setI rw7 x3.2.1 (Condition.mk e9.Op e9.Name (w64 ((w64 (x3.1+1))+1)) e9.Parts)) fun rw10:List Condition=>(getI rw10 x3.2.1).bind fun e13=>(slf_Ffbd (e13.Parts,(w64 ((w64 ((w64 (x3.1+1))+1))+1)))).bind fun r14=>bif Nat.beq r14.2.length e13.Parts.length then (letJ (setI rw10 x3.2.1 (Condition.mk e13.Op e13.Name e13.Day r14.2)) fun rw16:List Condition=>self (r14.1,(w64 (x3.2.1+1)),rw16)) else none) else (some (.inr (x3.1,x3.2.2)))
noncomputable def Ffbd_la (slf_Ffbd:((List Condition)×Int)→Option (Int×(List Condition)))(a_6:List Condition)(k_7:Int): (Int×Int×(List Condition))→Option ((Int×(List Condition))⊕(Int×(List Condition))):=fixO (Ffbd_la_F slf_Ffbd a_6 k_7)
theorem Ffbd_la_fin (slf_Ffbd:((List Condition)×Int)→Option (Int×(List Condition)))(a_6:List Condition)(k_7:Int): ∀a,Fin1 fun f=>Ffbd_la_F slf_Ffbd a_6 k_7 f a:=by
 intro a
 unfold Ffbd_la_F
 repeat first|exact f_const|exact f_self|refine f_cond ?_ ?_|refine f_bindJ ?_ (fun _=>?_)|refine f_bindL ?_ (fun _=>?_)|refine f_bind ?_ (fun _=>?_)|refine f_letJ (fun _=>?_)
theorem Ffbd_la_eq (slf_Ffbd:((List Condition)×Int)→Option (Int×(List Condition)))(a_6:List Condition)(k_7:Int)(x:Int×Int×(List Condition)):Ffbd_la slf_Ffbd a_6 k_7 x=Ffbd_la_F slf_Ffbd a_6 k_7 (Ffbd_la slf_Ffbd a_6 k_7) x:=fix_eq (Ffbd_la_fin slf_Ffbd a_6 k_7) x
noncomputable def Ffbd_B (slf_Ffbd:((List Condition)×Int)→Option (Int×(List Condition)))(a_6:List Condition)(k_7:Int):Option (Int×(List Condition)):=
 bindJ (ρ:=Int×(List Condition)) (Ffbd_la slf_Ffbd a_6 k_7 (k_7,0,a_6)) fun u20:Int×(List Condition)=>bif Nat.beq u20.2.length a_6.length then (some (u20.1,u20.2)) else none
noncomputable def Ffbd_G (slf_Ffbd:((List Condition)×Int)→Option (Int×(List Condition)))(x:(List Condition)×Int):Option (Int×(List Condition)):=Ffbd_B slf_Ffbd x.1 x.2
noncomputable def Ffbd (a_6:List Condition)(k_7:Int):Option (Int×(List Condition)):=fixO Ffbd_G (a_6,k_7)
theorem Ffbd_fin:∀x,Fin1 fun slf_Ffbd=>Ffbd_G slf_Ffbd x:=by
 intro x
 unfold Ffbd_G Ffbd_B
 repeat first|exact f_const|exact f_self|exact f_selfL|exact f_selfR|exact f_selfLL|exact f_selfRL|exact f_selfLLL|exact f_selfRLL|refine f_cond ?_ ?_|refine f_bindJ ?_ (fun _=>?_)|refine f_bindL ?_ (fun _=>?_)|refine f_bind ?_ (fun _=>?_)|refine f_letJ (fun _=>?_)|refine f_fix (fun _=>?_) | unfold Ffbd_la | unfold Ffbd_la_F
theorem Ffbd_eq (a_6:List Condition)(k_7:Int):Ffbd a_6 k_7=Ffbd_B (fixO Ffbd_G) a_6 k_7:=fix_eq Ffbd_fin (a_6,k_7)
noncomputable def Ffbc_la_F (a_7:List Clause)(k_8:Int)(self:(Int×Int×(List Clause))→Option ((Int×(List Clause))⊕(Int×(List Clause))))(x3:Int×Int×(List Clause)):Option ((Int×(List Clause))⊕(Int×(List Clause))):=
 bif (decide (x3.2.1<(len x3.2.2))) then ((Ffbh x3.1).bind fun r4=>(getI x3.2.2 x3.2.1).bind fun e5=>(getI (setI x3.2.2 x3.2.1 (Clause.mk r4 e5.Kind e5.Party e5.Action e5.Other e5.Amount e5.When e5.Within e5.Repair)) x3.2.1).bind fun e6=>letJ (setI (setI x3.2.2 x3.2.1 (Clause.mk r4 e5.Kind e5.Party e5.Action e5.Other e5.Amount e5.When e5.Within e5.Repair)) x3.2.1 (Clause.mk e6.Id (w64 (x3.1+1)) e6.Party e6.Action e6.Other e6.Amount e6.When e6.Within e6.Repair)) fun rw7:List Clause=>(getI rw7 x3.2.1).bind fun e9=>letJ (setI rw7 x3.2.1 (Clause.mk e9.Id e9.Kind (w64 ((w64 (x3.1+1))+1)) e9.Action e9.Other e9.Amount e9.When e9.Within e9.Repair)) fun rw10:List Clause=>(Ffbh (w64 ((w64 ((w64 (x3.1+1))+1))+1))).bind fun r13=>(getI rw10 x3.2.1).bind fun e14=>letJ (setI rw10 x3.2.1 (Clause.mk e14.Id e14.Kind e14.Party r13 e14.Other e14.Amount e14.When e14.Within e14.Repair)) fun rw15:List Clause=>(getI rw15 x3.2.1).bind fun e19=>letJ (setI rw15 x3.2.1 (Clause.mk e19.Id e19.Kind e19.Party e19.Action (w64 ((w64 ((w64 ((w64 (x3.1+1))+1))+1))+1)) e19.Amount e19.When e19.Within e19.Repair)) fun rw20:List Clause=>(getI rw20 x3.2.1).bind fun e25=>letJ (setI rw20 x3.2.1 (Clause.mk e25.Id e25.Kind e25.Party e25.Action e25.Other (w64 ((w64 ((w64 ((w64 ((w64 (x3.1+1))+1))+1))+1))+1)) e25.When e25.Within e25.Repair)) fun rw26:List Clause=>(getI rw26 x3.2.1).bind fun e32=>letJ (setI rw26 x3.2.1 (Clause.mk e32.Id e32.Kind e32.Party e32.Action e32.Other e32.Amount (Condition.mk (w64 ((w64 ((w64 ((w64 ((w64 ((w64 (x3.1+1))+1))+1))+1))+1))+1)) e32.When.Name e32.When.Day e32.When.Parts) e32.Within e32.Repair)) fun rw33:List Clause=>(Ffbh (w64 ((w64 ((w64 ((w64 ((w64 ((w64 ((w64 (x3.1+1))+1))+1))+1))+1))+1))+1))).bind fun r40=>(getI rw33 x3.2.1).bind fun e41=>letJ (setI rw33 x3.2.1 (Clause.mk e41.Id e41.Kind e41.Party e41.Action e41.Other e41.Amount (Condition.mk e41.When.Op r40 e41.When.Day e41.When.Parts) e41.Within e41.Repair)) fun rw42:List Clause=>(getI rw42 x3.2.1).bind fun e50=>letJ (setI rw42 x3.2.1 (Clause.mk e50.Id e50.Kind e50.Party e50.Action e50.Other e50.Amount (Condition.mk e50.When.Op e50.When.Name (w64 ((w64 ((w64 ((w64 ((w64 ((w64 ((w64 ((w64 (x3.1+1))+1))+1))+1))+1))+1))+1))+1)) e50.When.Parts) e50.Within e50.Repair)) fun rw51:List Clause=>(getI rw51 x3.2.1).bind fun e60=>(Ffbd e60.When.Parts (w64 ((w64 ((w64 ((w64 ((w64 ((w64 ((w64 ((w64 ((w64 (x3.1+1))+1))+1))+1))+1))+1))+1))+1))+1))).bind fun r61=>bif Nat.beq r61.2.length e60.When.Parts.length then (letJ (setI rw51 x3.2.1 (Clause.mk e60.Id e60.Kind e60.Party e60.Action e60.Other e60.Amount (Condition.mk e60.When.Op e60.When.Name e60.When.Day r61.2) e60.Within e60.Repair)) fun rw63:List Clause=>(getI rw63 x3.2.1).bind fun e73=>letJ (setI rw63 x3.2.1 (Clause.mk e73.Id e73.Kind e73.Party e73.Action e73.Other e73.Amount e73.When r61.1 e73.Repair)) fun rw74:List Clause=>(Ffbh (w64 (r61.1+1))).bind fun r85=>(getI rw74 x3.2.1).bind fun e86=>letJ (setI rw74 x3.2.1 (Clause.mk e86.Id e86.Kind e86.Party e86.Action e86.Other e86.Amount e86.When e86.Within r85)) fun rw87:List Clause=>self ((w64 ((w64 (r61.1+1))+1)),(w64 (x3.2.1+1)),rw87)) else none) else (some (.inr (x3.1,x3.2.2)))
noncomputable def Ffbc_la (a_7:List Clause)(k_8:Int): (Int×Int×(List Clause))→Option ((Int×(List Clause))⊕(Int×(List Clause))):=fixO (Ffbc_la_F a_7 k_8)
theorem Ffbc_la_fin (a_7:List Clause)(k_8:Int): ∀a,Fin1 fun f=>Ffbc_la_F a_7 k_8 f a:=by
 intro a
 unfold Ffbc_la_F
 repeat first|exact f_const|exact f_self|refine f_cond ?_ ?_|refine f_bindJ ?_ (fun _=>?_)|refine f_bindL ?_ (fun _=>?_)|refine f_bind ?_ (fun _=>?_)|refine f_letJ (fun _=>?_)
theorem Ffbc_la_eq (a_7:List Clause)(k_8:Int)(x:Int×Int×(List Clause)):Ffbc_la a_7 k_8 x=Ffbc_la_F a_7 k_8 (Ffbc_la a_7 k_8) x:=fix_eq (Ffbc_la_fin a_7 k_8) x
noncomputable def Ffbc (a_7:List Clause)(k_8:Int):Option (Int×(List Clause)):=
 bindJ (ρ:=Int×(List Clause)) (Ffbc_la a_7 k_8 (k_8,0,a_7)) fun u99:Int×(List Clause)=>bif Nat.beq u99.2.length a_7.length then (some (u99.1,u99.2)) else none
noncomputable def Ffbe (a_7:Contract)(k_8:Int):Option Int:=
 (Ffbg a_7.Parties k_8).bind fun r3=>bif Nat.beq r3.2.length a_7.Parties.length then ((Ffbc a_7.Clauses r3.1).bind fun r5=>bif Nat.beq r5.2.length a_7.Clauses.length then (some r5.1) else none) else none
noncomputable def Ffbf_la_F (a_6:List Int)(k_7:Int)(self:(Int×Int×(List Int))→Option ((Int×(List Int))⊕(Int×(List Int))))(x3:Int×Int×(List Int)):Option ((Int×(List Int))⊕(Int×(List Int))):=
 bif (decide (x3.2.1<(len x3.2.2))) then ((getI x3.2.2 x3.2.1).bind fun e4=>self ((w64 (x3.1+1)),(w64 (x3.2.1+1)),(setI x3.2.2 x3.2.1 x3.1))) else (some (.inr (x3.1,x3.2.2)))
noncomputable def Ffbf_la (a_6:List Int)(k_7:Int): (Int×Int×(List Int))→Option ((Int×(List Int))⊕(Int×(List Int))):=fixO (Ffbf_la_F a_6 k_7)
theorem Ffbf_la_fin (a_6:List Int)(k_7:Int): ∀a,Fin1 fun f=>Ffbf_la_F a_6 k_7 f a:=by
 intro a
 unfold Ffbf_la_F
 repeat first|exact f_const|exact f_self|refine f_cond ?_ ?_|refine f_bindJ ?_ (fun _=>?_)|refine f_bindL ?_ (fun _=>?_)|refine f_bind ?_ (fun _=>?_)|refine f_letJ (fun _=>?_)
theorem Ffbf_la_eq (a_6:List Int)(k_7:Int)(x:Int×Int×(List Int)):Ffbf_la a_6 k_7 x=Ffbf_la_F a_6 k_7 (Ffbf_la a_6 k_7) x:=fix_eq (Ffbf_la_fin a_6 k_7) x
noncomputable def Ffbf (a_6:List Int)(k_7:Int):Option (Int×(List Int)):=
 bindJ (ρ:=Int×(List Int)) (Ffbf_la a_6 k_7 (k_7,0,a_6)) fun u5:Int×(List Int)=>bif Nat.beq u5.2.length a_6.length then (some (u5.1,u5.2)) else none
noncomputable def Ffbb_la_F (a_1:List Int)(k_2:Int)(self:(Int×Int)→Option (Int⊕Int))(x3:Int×Int):Option (Int⊕Int):=
 bif (decide (x3.2<(len a_1))) then ((getI a_1 x3.2).bind fun e4=>bif (e4 != x3.1) then (some (.inl (-1))) else (self ((w64 (x3.1+1)),(w64 (x3.2+1))))) else (some (.inr x3.1))
noncomputable def Ffbb_la (a_1:List Int)(k_2:Int): (Int×Int)→Option (Int⊕Int):=fixO (Ffbb_la_F a_1 k_2)
theorem Ffbb_la_fin (a_1:List Int)(k_2:Int): ∀a,Fin1 fun f=>Ffbb_la_F a_1 k_2 f a:=by
 intro a
 unfold Ffbb_la_F
 repeat first|exact f_const|exact f_self|refine f_cond ?_ ?_|refine f_bindJ ?_ (fun _=>?_)|refine f_bindL ?_ (fun _=>?_)|refine f_bind ?_ (fun _=>?_)|refine f_letJ (fun _=>?_)
theorem Ffbb_la_eq (a_1:List Int)(k_2:Int)(x:Int×Int):Ffbb_la a_1 k_2 x=Ffbb_la_F a_1 k_2 (Ffbb_la a_1 k_2) x:=fix_eq (Ffbb_la_fin a_1 k_2) x
noncomputable def Ffbb (a_1:List Int)(k_2:Int):Option Int:=
 bindJ (ρ:=Int) (Ffbb_la a_1 k_2 (k_2,0)) fun u5:Int=>some u5
noncomputable def laws_FnExactEndlessRepairs (aC_1:Contract):Option Bool:=
 (Ffbn aC_1 1048576).bind fun r2=>bif (decide (r2<0)) then (some true) else ((Ffbu aC_1).bind fun r3=>(Ffcf r3).bind fun r4=>(Ffbu aC_1).bind fun r5=>(Ffa r5).bind fun r6=>(Ffz r6.1 r4.1).bind fun r7=>letJ (bif (!r7) then true else (!(r6.2==r4.2))) fun u8:Bool=>bif u8 then (some false) else ((Ffbu aC_1).bind fun r9=>(Ffy r5 r9).bind fun r10=>bif (!r10) then (some false) else ((Ffbe r5 1).bind fun r11=>bindJ (ρ:=Bool) (bif (decide (r11<0)) then (some (.inr true)) else ((Ffz r6.1 r4.1).bind fun r21=>letJ (bif (!r21) then true else (!(r6.2==r4.2))) fun u22:Bool=>some (.inr u22))) fun u12:Bool=>bif u12 then (some false) else ((Ffbf r6.1 1).bind fun r13=>bif Nat.beq r13.2.length r6.1.length then ((Ffbb r13.2 1).bind fun r15=>bif (decide (r15<0)) then (some false) else (bif (r15 != r13.1) then (some false) else ((Ffbu aC_1).bind fun r16=>(Ffa r16).bind fun r17=>(Ffz r17.1 r4.1).bind fun r18=>letJ (bif (!r18) then true else (!(r17.2==r4.2))) fun u19:Bool=>bif u19 then (some false) else ((Ffbb r13.2 1).bind fun r20=>bif (decide (r20<0)) then (some false) else (bif (r20 != r13.1) then (some false) else (some true)))))) else none))))
end Go.Ln
