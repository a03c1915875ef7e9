/-
  What each function of the law computes, as a plain function.
-/
import Derived.Test.YtniljljgdoncpaaGreatDoorLnC
set_option maxHeartbeats 4000000
set_option linter.unusedVariables false
set_option linter.unusedSimpArgs false
set_option maxRecDepth 100000
namespace Go.Ln
open Go
structure Condition where
 Op:Int
 Name:Str
 Day:Int
 Parts:List Condition
mutual
def encI_Condition:Condition→V
 | ⟨a0,a1,a2,a3⟩=>.agg [I a0,str a1,I a2,.isl false (encI_Conditions a3)]
def encI_Conditions:List Condition→List V
 | []=>[]
 | x::xs=>encI_Condition x::encI_Conditions xs
end
theorem encI_Conditions_map:∀xs,encI_Conditions xs=xs.map encI_Condition
 | []=>by simp[encI_Conditions]
 | x::xs=>by simp[encI_Conditions,encI_Conditions_map xs]
def encI_Condition1 (x:Condition):V:=.agg [I x.Op,str x.Name,I x.Day,.isl false (x.Parts.map encI_Condition)]
theorem encI_Condition_eq (x:Condition):encI_Condition x=encI_Condition1 x:=by cases x;simp only[encI_Condition,encI_Condition1,encI_Conditions_map]
theorem encI_Condition_cells (x:Condition):(cells (encI_Condition x)).length=4∧(cells (encI_Condition x)).all cellV=true:=by rw[encI_Condition_eq];exact⟨rfl,rfl⟩
mutual
theorem encI_Condition_inj:∀(a b:Condition),encI_Condition a=encI_Condition b→a=b
 | ⟨a0,a1,a2,a3⟩,⟨b0,b1,b2,b3⟩,h=>by
  simp only[encI_Condition] at h
  have k0:=V.agg.inj h
  obtain⟨h0,k1⟩:=List.cons.inj k0
  obtain rfl:=I_inj a0 b0 h0
  obtain⟨h1,k2⟩:=List.cons.inj k1
  obtain rfl:=str_inj a1 b1 h1
  obtain⟨h2,k3⟩:=List.cons.inj k2
  obtain rfl:=I_inj a2 b2 h2
  obtain⟨h3,k4⟩:=List.cons.inj k3
  have e3:encI_Conditions a3=encI_Conditions b3:=by simpa using h3
  obtain rfl:=encI_Conditions_inj a3 b3 e3
  rfl
theorem encI_Conditions_inj:∀(a b:List Condition),encI_Conditions a=encI_Conditions b→a=b
 | [],[],_=>rfl
 | [],_::_,h=>by simp[encI_Conditions] at h
 | _::_,[],h=>by simp[encI_Conditions] at h
 | x::xs,y::ys,h=>by
  simp only[encI_Conditions,List.cons.injEq] at h
  rw[encI_Condition_inj x y h.1,encI_Conditions_inj xs ys h.2]
end
theorem encI_Condition1_inj (a b:Condition)(h:encI_Condition1 a=encI_Condition1 b):a=b:=encI_Condition_inj a b (by rw[encI_Condition_eq,encI_Condition_eq,h])
mutual
def encO_Condition:Condition→V
 | ⟨a0,a1,a2,a3⟩=>.agg [I a0,str a1,I a2,.usl 4 (encO_Conditions a3)]
def encO_Conditions:List Condition→List V
 | []=>[]
 | x::xs=>encO_Condition x::encO_Conditions xs
end
theorem encO_Conditions_map:∀xs,encO_Conditions xs=xs.map encO_Condition
 | []=>by simp[encO_Conditions]
 | x::xs=>by simp[encO_Conditions,encO_Conditions_map xs]
def encO_Condition1 (x:Condition):V:=.agg [I x.Op,str x.Name,I x.Day,.usl 4 (x.Parts.map encO_Condition)]
theorem encO_Condition_eq (x:Condition):encO_Condition x=encO_Condition1 x:=by cases x;simp only[encO_Condition,encO_Condition1,encO_Conditions_map]
theorem encO_Condition_cells (x:Condition):(cells (encO_Condition x)).length=4∧(cells (encO_Condition x)).all cellV=true:=by rw[encO_Condition_eq];exact⟨rfl,rfl⟩
mutual
theorem encO_Condition_inj:∀(a b:Condition),encO_Condition a=encO_Condition b→a=b
 | ⟨a0,a1,a2,a3⟩,⟨b0,b1,b2,b3⟩,h=>by
  simp only[encO_Condition] at h
  have k0:=V.agg.inj h
  obtain⟨h0,k1⟩:=List.cons.inj k0
  obtain rfl:=I_inj a0 b0 h0
  obtain⟨h1,k2⟩:=List.cons.inj k1
  obtain rfl:=str_inj a1 b1 h1
  obtain⟨h2,k3⟩:=List.cons.inj k2
  obtain rfl:=I_inj a2 b2 h2
  obtain⟨h3,k4⟩:=List.cons.inj k3
  have e3:encO_Conditions a3=encO_Conditions b3:=by simpa using h3
  obtain rfl:=encO_Conditions_inj a3 b3 e3
  rfl
theorem encO_Conditions_inj:∀(a b:List Condition),encO_Conditions a=encO_Conditions b→a=b
 | [],[],_=>rfl
 | [],_::_,h=>by simp[encO_Conditions] at h
 | _::_,[],h=>by simp[encO_Conditions] at h
 | x::xs,y::ys,h=>by
  simp only[encO_Conditions,List.cons.injEq] at h
  rw[encO_Condition_inj x y h.1,encO_Conditions_inj xs ys h.2]
end
theorem encO_Condition1_inj (a b:Condition)(h:encO_Condition1 a=encO_Condition1 b):a=b:=encO_Condition_inj a b (by rw[encO_Condition_eq,encO_Condition_eq,h])
theorem encI_Condition_imm (x:Condition):imm (encI_Condition x)=encI_Condition x:=by rw[encI_Condition_eq];rfl
mutual
theorem encO_Condition_imm:∀x:Condition,imm (encO_Condition x)=encI_Condition x
 | ⟨a0,a1,a2,a3⟩=>by simp[encO_Condition,encI_Condition,imm,imms,str,encO_Conditions_imm]
theorem encO_Conditions_imm:∀xs:List Condition,imms (encO_Conditions xs)=encI_Conditions xs
 | []=>by simp[encO_Conditions,encI_Conditions,imms]
 | x::xs=>by simp[encO_Conditions,encI_Conditions,imms,encO_Condition_imm x,encO_Conditions_imm xs]
end
mutual
theorem encO_Condition_himm:∀x:Condition,hasImm (encO_Condition x)=false
 | ⟨a0,a1,a2,a3⟩=>by simp[encO_Condition,hasImm,hasImms,str,encO_Conditions_himm]
theorem encO_Conditions_himm:∀xs:List Condition,hasImms (encO_Conditions xs)=false
 | []=>by simp[encO_Conditions,hasImms]
 | x::xs=>by simp[encO_Conditions,hasImms,encO_Condition_himm x,encO_Conditions_himm xs]
end
structure Clause where
 Id:Str
 Kind:Int
 Party:Int
 Action:Str
 Other:Int
 Amount:Int
 When:Condition
 Within:Int
 Repair:Str
def encI_Clause (x:Clause):V:=.agg [str x.Id,I x.Kind,I x.Party,str x.Action,I x.Other,I x.Amount,I x.When.Op,str x.When.Name,I x.When.Day,.isl false (x.When.Parts.map encI_Condition),I x.Within,str x.Repair]
theorem encI_Clause_cells (x:Clause):(cells (encI_Clause x)).length=12∧(cells (encI_Clause x)).all cellV=true:=⟨rfl,rfl⟩
theorem encI_Clause_imm (x:Clause):imm (encI_Clause x)=encI_Clause x:=rfl
theorem encI_Clause_inj (a b:Clause)(h:encI_Clause a=encI_Clause b):a=b:=by
 obtain⟨p0,p1,p2,p3,p4,p5,⟨p6,p7,p8,p9⟩,p10,p11⟩:=a
 obtain⟨q0,q1,q2,q3,q4,q5,⟨q6,q7,q8,q9⟩,q10,q11⟩:=b
 replace h:=V.agg.inj h
 obtain⟨h0,h⟩:=List.cons.inj h
 obtain rfl:=str_inj p0 q0 h0
 obtain⟨h1,h⟩:=List.cons.inj h
 obtain rfl:=I_inj p1 q1 h1
 obtain⟨h2,h⟩:=List.cons.inj h
 obtain rfl:=I_inj p2 q2 h2
 obtain⟨h3,h⟩:=List.cons.inj h
 obtain rfl:=str_inj p3 q3 h3
 obtain⟨h4,h⟩:=List.cons.inj h
 obtain rfl:=I_inj p4 q4 h4
 obtain⟨h5,h⟩:=List.cons.inj h
 obtain rfl:=I_inj p5 q5 h5
 obtain⟨h6,h⟩:=List.cons.inj h
 obtain rfl:=I_inj p6 q6 h6
 obtain⟨h7,h⟩:=List.cons.inj h
 obtain rfl:=str_inj p7 q7 h7
 obtain⟨h8,h⟩:=List.cons.inj h
 obtain rfl:=I_inj p8 q8 h8
 obtain⟨h9,h⟩:=List.cons.inj h
 obtain rfl:=(isl_inj encI_Condition_inj) p9 q9 h9
 obtain⟨h10,h⟩:=List.cons.inj h
 obtain rfl:=I_inj p10 q10 h10
 obtain⟨h11,h⟩:=List.cons.inj h
 obtain rfl:=str_inj p11 q11 h11
 rfl
def encO_Clause (x:Clause):V:=.agg [str x.Id,I x.Kind,I x.Party,str x.Action,I x.Other,I x.Amount,I x.When.Op,str x.When.Name,I x.When.Day,.usl 4 (x.When.Parts.map encO_Condition),I x.Within,str x.Repair]
theorem encO_Clause_cells (x:Clause):(cells (encO_Clause x)).length=12∧(cells (encO_Clause x)).all cellV=true:=⟨rfl,rfl⟩
theorem encO_Clause_imm (x:Clause):imm (encO_Clause x)=encI_Clause x:=imm_a (imms_c rfl (imms_c rfl (imms_c rfl (imms_c rfl (imms_c rfl (imms_c rfl (imms_c rfl (imms_c rfl (imms_c rfl (imms_c (imm_u (imms_of encO_Condition_imm)) (imms_c rfl (imms_c rfl rfl))))))))))))
theorem encO_Clause_himm (x:Clause):hasImm (encO_Clause x)=false:=by simp[encO_Clause,hasImm,hasImms,str,himm_map (f:=encO_Condition) encO_Condition_himm]
theorem encO_Clause_inj (a b:Clause)(h:encO_Clause a=encO_Clause b):a=b:=by
 obtain⟨p0,p1,p2,p3,p4,p5,⟨p6,p7,p8,p9⟩,p10,p11⟩:=a
 obtain⟨q0,q1,q2,q3,q4,q5,⟨q6,q7,q8,q9⟩,q10,q11⟩:=b
 replace h:=V.agg.inj h
 obtain⟨h0,h⟩:=List.cons.inj h
 obtain rfl:=str_inj p0 q0 h0
 obtain⟨h1,h⟩:=List.cons.inj h
 obtain rfl:=I_inj p1 q1 h1
 obtain⟨h2,h⟩:=List.cons.inj h
 obtain rfl:=I_inj p2 q2 h2
 obtain⟨h3,h⟩:=List.cons.inj h
 obtain rfl:=str_inj p3 q3 h3
 obtain⟨h4,h⟩:=List.cons.inj h
 obtain rfl:=I_inj p4 q4 h4
 obtain⟨h5,h⟩:=List.cons.inj h
 obtain rfl:=I_inj p5 q5 h5
 obtain⟨h6,h⟩:=List.cons.inj h
 obtain rfl:=I_inj p6 q6 h6
 obtain⟨h7,h⟩:=List.cons.inj h
 obtain rfl:=str_inj p7 q7 h7
 obtain⟨h8,h⟩:=List.cons.inj h
 obtain rfl:=I_inj p8 q8 h8
 obtain⟨h9,h⟩:=List.cons.inj h
 obtain rfl:=(usl_inj encO_Condition_inj) p9 q9 h9
 obtain⟨h10,h⟩:=List.cons.inj h
 obtain rfl:=I_inj p10 q10 h10
 obtain⟨h11,h⟩:=List.cons.inj h
 obtain rfl:=str_inj p11 q11 h11
 rfl
structure Contract where
 Parties:List Str
 Clauses:List Clause
def encI_Contract (x:Contract):V:=.agg [.isl false (x.Parties.map str),.isl false (x.Clauses.map encI_Clause)]
theorem encI_Contract_cells (x:Contract):(cells (encI_Contract x)).length=2∧(cells (encI_Contract x)).all cellV=true:=⟨rfl,rfl⟩
theorem encI_Contract_imm (x:Contract):imm (encI_Contract x)=encI_Contract x:=rfl
theorem encI_Contract_inj (a b:Contract)(h:encI_Contract a=encI_Contract b):a=b:=by
 obtain⟨p0,p1⟩:=a
 obtain⟨q0,q1⟩:=b
 replace h:=V.agg.inj h
 obtain⟨h0,h⟩:=List.cons.inj h
 obtain rfl:=(isl_inj str_inj) p0 q0 h0
 obtain⟨h1,h⟩:=List.cons.inj h
 obtain rfl:=(isl_inj encI_Clause_inj) p1 q1 h1
 rfl
def encO_Contract (x:Contract):V:=.agg [.usl 1 (x.Parties.map str),.usl 12 (x.Clauses.map encO_Clause)]
theorem encO_Contract_cells (x:Contract):(cells (encO_Contract x)).length=2∧(cells (encO_Contract x)).all cellV=true:=⟨rfl,rfl⟩
theorem encO_Contract_imm (x:Contract):imm (encO_Contract x)=encI_Contract x:=imm_a (imms_c (imm_u (imms_of str_imm)) (imms_c (imm_u (imms_of encO_Clause_imm)) rfl))
theorem encO_Contract_himm (x:Contract):hasImm (encO_Contract x)=false:=by simp[encO_Contract,hasImm,hasImms,str,himm_map (f:=str) str_himm,himm_map (f:=encO_Clause) encO_Clause_himm]
theorem encO_Contract_inj (a b:Contract)(h:encO_Contract a=encO_Contract b):a=b:=by
 obtain⟨p0,p1⟩:=a
 obtain⟨q0,q1⟩:=b
 replace h:=V.agg.inj h
 obtain⟨h0,h⟩:=List.cons.inj h
 obtain rfl:=(usl_inj str_inj) p0 q0 h0
 obtain⟨h1,h⟩:=List.cons.inj h
 obtain rfl:=(usl_inj encO_Clause_inj) p1 q1 h1
 rfl
mutual
def Ffbv:Condition→Prop
 | ⟨a0,a1,a2,a3⟩=>I64 a0∧okS a1∧I64 a2∧(a3.length≤maxLen∧Ffbw a3)
def Ffbw:List Condition→Prop
 | []=>True
 | x::xs=>Ffbv x∧Ffbw xs
end
theorem Ffbw_iff:∀xs,Ffbw xs↔∀x∈xs,Ffbv x
 | []=>by simp[Ffbw]
 | x::xs=>by simp[Ffbw,Ffbw_iff xs]
theorem Ffbv_iff (x:Condition):Ffbv x↔I64 x.Op∧okS x.Name∧I64 x.Day∧okL Ffbv x.Parts:=by cases x;simp only[Ffbv,Ffbw_iff,okL]
def ok_Clause (x:Clause):Prop:=okS x.Id∧I64 x.Kind∧I64 x.Party∧okS x.Action∧I64 x.Other∧I64 x.Amount∧Ffbv x.When∧I64 x.Within∧okS x.Repair
def Ffbx (x:Contract):Prop:=(okL okS) x.Parties∧(okL ok_Clause) x.Clauses
noncomputable def Ffbn_la_F (a_1:List Str)(left_2:Int)(self:(Int×Int)→Option (Int⊕Int))(x3:Int×Int):Option (Int⊕Int):=
 bif (decide (x3.2<(len a_1))) then ((getI a_1 x3.2).bind fun e4=>bif (decide ((w64 (x3.1 - (len e4)))<0)) then (some (.inl (-1))) else (self ((w64 (x3.1 - (len e4))),(w64 (x3.2+1))))) else (some (.inr x3.1))
noncomputable def Ffbn_la (a_1:List Str)(left_2:Int): (Int×Int)→Option (Int⊕Int):=fixO (Ffbn_la_F a_1 left_2)
theorem Ffbn_la_fin (a_1:List Str)(left_2:Int): ∀a,Fin1 fun f=>Ffbn_la_F a_1 left_2 f a:=by
 intro a
 unfold Ffbn_la_F
 repeat first|exact f_const|exact f_self|refine f_cond ?_ ?_|refine f_bindJ ?_ (fun _=>?_)|refine f_bindL ?_ (fun _=>?_)|refine f_bind ?_ (fun _=>?_)|refine f_letJ (fun _=>?_)
theorem Ffbn_la_eq (a_1:List Str)(left_2:Int)(x:Int×Int):Ffbn_la a_1 left_2 x=Ffbn_la_F a_1 left_2 (Ffbn_la a_1 left_2) x:=fix_eq (Ffbn_la_fin a_1 left_2) x
noncomputable def Ffbn (a_1:List Str)(left_2:Int):Option Int:=
 bif (decide ((w64 (left_2 - (len a_1)))<0)) then (some (-1)) else (bindJ (ρ:=Int) (Ffbn_la a_1 left_2 ((w64 (left_2 - (len a_1))),0)) fun u5:Int=>some u5)
noncomputable def Ffbl_la_F (slf_Ffbj:(Condition×Int)→Option Int)(a_1:List Condition)(left_2:Int)(self:(Int×Int)→Option (Int⊕Int))(x3:Int×Int):Option (Int⊕Int):=
 bif (decide (x3.2<(len a_1))) then ((getI a_1 x3.2).bind fun e4=>(slf_Ffbj (e4,x3.1)).bind fun r5=>bif (decide (r5<0)) then (some (.inl (-1))) else (self (r5,(w64 (x3.2+1))))) else (some (.inr x3.1))
noncomputable def Ffbl_la (slf_Ffbj:(Condition×Int)→Option Int)(a_1:List Condition)(left_2:Int): (Int×Int)→Option (Int⊕Int):=fixO (Ffbl_la_F slf_Ffbj a_1 left_2)
theorem Ffbl_la_fin (slf_Ffbj:(Condition×Int)→Option Int)(a_1:List Condition)(left_2:Int): ∀a,Fin1 fun f=>Ffbl_la_F slf_Ffbj a_1 left_2 f a:=by
 intro a
 unfold Ffbl_la_F
 repeat first|exact f_const|exact f_self|refine f_cond ?_ ?_|refine f_bindJ ?_ (fun _=>?_)|refine f_bindL ?_ (fun _=>?_)|refine f_bind ?_ (fun _=>?_)|refine f_letJ (fun _=>?_)
theorem Ffbl_la_eq (slf_Ffbj:(Condition×Int)→Option Int)(a_1:List Condition)(left_2:Int)(x:Int×Int):Ffbl_la slf_Ffbj a_1 left_2 x=Ffbl_la_F slf_Ffbj a_1 left_2 (Ffbl_la slf_Ffbj a_1 left_2) x:=fix_eq (Ffbl_la_fin slf_Ffbj a_1 left_2) x
noncomputable def Ffbl (slf_Ffbj:(Condition×Int)→Option Int)(a_1:List Condition)(left_2:Int):Option Int:=
 bif (decide ((w64 (left_2 - (len a_1)))<0)) then (some (-1)) else (bindJ (ρ:=Int) (Ffbl_la slf_Ffbj a_1 left_2 ((w64 (left_2 - (len a_1))),0)) fun u6:Int=>some u6)
noncomputable def Ffbj_B (slf_Ffbj:(Condition×Int)→Option Int)(a_1:Condition)(left_2:Int):Option Int:=
 bif (decide ((w64 (left_2 - (len a_1.Name)))<0)) then (some (-1)) else ((Ffbl slf_Ffbj a_1.Parts (w64 (left_2 - (len a_1.Name)))).bind fun r3=>bif (decide (r3<0)) then (some (-1)) else (some r3))
noncomputable def Ffbj_G (slf_Ffbj:(Condition×Int)→Option Int)(x:Condition×Int):Option Int:=Ffbj_B slf_Ffbj x.1 x.2
noncomputable def Ffbj (a_1:Condition)(left_2:Int):Option Int:=fixO Ffbj_G (a_1,left_2)
theorem Ffbj_fin:∀x,Fin1 fun slf_Ffbj=>Ffbj_G slf_Ffbj x:=by
 intro x
 unfold Ffbj_G Ffbj_B
 repeat first|exact f_const|exact f_self|exact f_selfL|exact f_selfR|exact f_selfLL|exact f_selfRL|exact f_selfLLL|exact f_selfRLL|refine f_cond ?_ ?_|refine f_bindJ ?_ (fun _=>?_)|refine f_bindL ?_ (fun _=>?_)|refine f_bind ?_ (fun _=>?_)|refine f_letJ (fun _=>?_)|refine f_fix (fun _=>?_) | unfold Ffbl | unfold Ffbl_la | unfold Ffbl_la_F
theorem Ffbj_eq (a_1:Condition)(left_2:Int):Ffbj a_1 left_2=Ffbj_B (fixO Ffbj_G) a_1 left_2:=fix_eq Ffbj_fin (a_1,left_2)
noncomputable def Ffbk (a_1:List Condition)(left_2:Int):Option Int:=Ffbl (fixO Ffbj_G) a_1 left_2
noncomputable def Ffbh (a_1:Clause)(left_2:Int):Option Int:=
 bif (decide ((w64 (left_2 - (len a_1.Id)))<0)) then (some (-1)) else (bif (decide ((w64 ((w64 (left_2 - (len a_1.Id))) - (len a_1.Action)))<0)) then (some (-1)) else ((Ffbj a_1.When (w64 ((w64 (left_2 - (len a_1.Id))) - (len a_1.Action)))).bind fun r3=>bif (decide (r3<0)) then (some (-1)) else (bif (decide ((w64 (r3 - (len a_1.Repair)))<0)) then (some (-1)) else (some (w64 (r3 - (len a_1.Repair)))))))
noncomputable def Ffbi_la_F (a_1:List Clause)(left_2:Int)(self:(Int×Int)→Option (Int⊕Int))(x3:Int×Int):Option (Int⊕Int):=
 bif (decide (x3.2<(len a_1))) then ((getI a_1 x3.2).bind fun e4=>(Ffbh e4 x3.1).bind fun r5=>bif (decide (r5<0)) then (some (.inl (-1))) else (self (r5,(w64 (x3.2+1))))) else (some (.inr x3.1))
noncomputable def Ffbi_la (a_1:List Clause)(left_2:Int): (Int×Int)→Option (Int⊕Int):=fixO (Ffbi_la_F a_1 left_2)
theorem Ffbi_la_fin (a_1:List Clause)(left_2:Int): ∀a,Fin1 fun f=>Ffbi_la_F a_1 left_2 f a:=by
 intro a
 unfold Ffbi_la_F
 repeat first|exact f_const|exact f_self|refine f_cond ?_ ?_|refine f_bindJ ?_ (fun _=>?_)|refine f_bindL ?_ (fun _=>?_)|refine f_bind ?_ (fun _=>?_)|refine f_letJ (fun _=>?_)
theorem Ffbi_la_eq (a_1:List Clause)(left_2:Int)(x:Int×Int):Ffbi_la a_1 left_2 x=Ffbi_la_F a_1 left_2 (Ffbi_la a_1 left_2) x:=fix_eq (Ffbi_la_fin a_1 left_2) x
noncomputable def Ffbi (a_1:List Clause)(left_2:Int):Option Int:=
 bif (decide ((w64 (left_2 - (len a_1)))<0)) then (some (-1)) else (bindJ (ρ:=Int) (Ffbi_la a_1 left_2 ((w64 (left_2 - (len a_1))),0)) fun u6:Int=>some u6)
noncomputable def Ffbm (a_1:Contract)(left_2:Int):Option Int:=
 (Ffbn a_1.Parties left_2).bind fun r3=>bif (decide (r3<0)) then (some (-1)) else ((Ffbi a_1.Clauses r3).bind fun r4=>bif (decide (r4<0)) then (some (-1)) else (some r4))
noncomputable def Ffbu_la_F (a_1:List Str)(self:(Int×(List Str))→Option ((List Str)⊕(List Str)))(x3:Int×(List Str)):Option ((List Str)⊕(List Str)):=
 bif (decide (x3.1<(len a_1))) then ((getI a_1 x3.1).bind fun e4=>(getI x3.2 x3.1).bind fun e5=>self ((w64 (x3.1+1)),(setI x3.2 x3.1 e4))) else (some (.inr x3.2))
noncomputable def Ffbu_la (a_1:List Str): (Int×(List Str))→Option ((List Str)⊕(List Str)):=fixO (Ffbu_la_F a_1)
theorem Ffbu_la_fin (a_1:List Str): ∀a,Fin1 fun f=>Ffbu_la_F a_1 f a:=by
 intro a
 unfold Ffbu_la_F
 repeat first|exact f_const|exact f_self|refine f_cond ?_ ?_|refine f_bindJ ?_ (fun _=>?_)|refine f_bindL ?_ (fun _=>?_)|refine f_bind ?_ (fun _=>?_)|refine f_letJ (fun _=>?_)
theorem Ffbu_la_eq (a_1:List Str)(x:Int×(List Str)):Ffbu_la a_1 x=Ffbu_la_F a_1 (Ffbu_la a_1) x:=fix_eq (Ffbu_la_fin a_1) x
noncomputable def Ffbu (a_1:List Str):Option (List Str):=
 (mkI 16 [] (len a_1)).bind fun m2=>bindJ (ρ:=(List Str)) (Ffbu_la a_1 (0,m2)) fun u6:(List Str)=>some u6
noncomputable def Ffbs_la_F (slf_Ffbq:Condition→Option Condition)(a_1:List Condition)(self:(Int×(List Condition))→Option ((List Condition)⊕(List Condition)))(x3:Int×(List Condition)):Option ((List Condition)⊕(List Condition)):=
 bif (decide (x3.1<(len a_1))) then ((getI a_1 x3.1).bind fun e4=>(slf_Ffbq e4).bind fun r5=>(getI x3.2 x3.1).bind fun e6=>self ((w64 (x3.1+1)),(setI x3.2 x3.1 r5))) else (some (.inr x3.2))
noncomputable def Ffbs_la (slf_Ffbq:Condition→Option Condition)(a_1:List Condition): (Int×(List Condition))→Option ((List Condition)⊕(List Condition)):=fixO (Ffbs_la_F slf_Ffbq a_1)
theorem Ffbs_la_fin (slf_Ffbq:Condition→Option Condition)(a_1:List Condition): ∀a,Fin1 fun f=>Ffbs_la_F slf_Ffbq a_1 f a:=by
 intro a
 unfold Ffbs_la_F
 repeat first|exact f_const|exact f_self|refine f_cond ?_ ?_|refine f_bindJ ?_ (fun _=>?_)|refine f_bindL ?_ (fun _=>?_)|refine f_bind ?_ (fun _=>?_)|refine f_letJ (fun _=>?_)
theorem Ffbs_la_eq (slf_Ffbq:Condition→Option Condition)(a_1:List Condition)(x:Int×(List Condition)):Ffbs_la slf_Ffbq a_1 x=Ffbs_la_F slf_Ffbq a_1 (Ffbs_la slf_Ffbq a_1) x:=fix_eq (Ffbs_la_fin slf_Ffbq a_1) x
noncomputable def Ffbs (slf_Ffbq:Condition→Option Condition)(a_1:List Condition):Option (List Condition):=
 (mkI 56 (Condition.mk 0 [] 0 []) (len a_1)).bind fun m2=>bindJ (ρ:=(List Condition)) (Ffbs_la slf_Ffbq a_1 (0,m2)) fun u7:(List Condition)=>some u7
noncomputable def Ffbq_B (slf_Ffbq:Condition→Option Condition)(a_1:Condition):Option Condition:=
 (Ffbs slf_Ffbq a_1.Parts).bind fun r2=>some (Condition.mk a_1.Op a_1.Name a_1.Day r2)
noncomputable def Ffbq_G (slf_Ffbq:Condition→Option Condition)(x:Condition):Option Condition:=Ffbq_B slf_Ffbq x
noncomputable def Ffbq (a_1:Condition):Option Condition:=fixO Ffbq_G a_1
theorem Ffbq_fin:∀x,Fin1 fun slf_Ffbq=>Ffbq_G slf_Ffbq x:=by
 intro x
 unfold Ffbq_G Ffbq_B
 repeat first|exact f_const|exact f_self|exact f_selfL|exact f_selfR|exact f_selfLL|exact f_selfRL|exact f_selfLLL|exact f_selfRLL|refine f_cond ?_ ?_|refine f_bindJ ?_ (fun _=>?_)|refine f_bindL ?_ (fun _=>?_)|refine f_bind ?_ (fun _=>?_)|refine f_letJ (fun _=>?_)|refine f_fix (fun _=>?_) | unfold Ffbs | unfold Ffbs_la | unfold Ffbs_la_F
theorem Ffbq_eq (a_1:Condition):Ffbq a_1=Ffbq_B (fixO Ffbq_G) a_1:=fix_eq Ffbq_fin a_1
noncomputable def Ffbr (a_1:List Condition):Option (List Condition):=Ffbs (fixO Ffbq_G) a_1
noncomputable def Ffbo (a_1:Clause):Option Clause:=
 (Ffbq a_1.When).bind fun r2=>some (Clause.mk a_1.Id a_1.Kind a_1.Party a_1.Action a_1.Other a_1.Amount r2 a_1.Within a_1.Repair)
noncomputable def Ffbp_la_F (a_1:List Clause)(self:(Int×(List Clause))→Option ((List Clause)⊕(List Clause)))(x3:Int×(List Clause)):Option ((List Clause)⊕(List Clause)):=
 bif (decide (x3.1<(len a_1))) then ((getI a_1 x3.1).bind fun e4=>(Ffbo e4).bind fun r5=>(getI x3.2 x3.1).bind fun e6=>self ((w64 (x3.1+1)),(setI x3.2 x3.1 r5))) else (some (.inr x3.2))
noncomputable def Ffbp_la (a_1:List Clause): (Int×(List Clause))→Option ((List Clause)⊕(List Clause)):=fixO (Ffbp_la_F a_1)
theorem Ffbp_la_fin (a_1:List Clause): ∀a,Fin1 fun f=>Ffbp_la_F a_1 f a:=by
 intro a
 unfold Ffbp_la_F
 repeat first|exact f_const|exact f_self|refine f_cond ?_ ?_|refine f_bindJ ?_ (fun _=>?_)|refine f_bindL ?_ (fun _=>?_)|refine f_bind ?_ (fun _=>?_)|refine f_letJ (fun _=>?_)
theorem Ffbp_la_eq (a_1:List Clause)(x:Int×(List Clause)):Ffbp_la a_1 x=Ffbp_la_F a_1 (Ffbp_la a_1) x:=fix_eq (Ffbp_la_fin a_1) x
noncomputable def Ffbp (a_1:List Clause):Option (List Clause):=
 (mkI 144 (Clause.mk [] 0 0 [] 0 0 (Condition.mk 0 [] 0 []) 0 []) (len a_1)).bind fun m2=>bindJ (ρ:=(List Clause)) (Ffbp_la a_1 (0,m2)) fun u7:(List Clause)=>some u7
noncomputable def Ffbt (a_1:Contract):Option Contract:=
 (Ffbu a_1.Parties).bind fun r2=>(Ffbp a_1.Clauses).bind fun r3=>some (Contract.mk r2 r3)
noncomputable def spec_l1In (x_1:Int)(a_2:Int)(b_3:Int):Option Bool:=
 letJ (bif (decide (x_1≥a_2)) then (decide (x_1≤b_3)) else false) fun u4:Bool=>some u4
noncomputable def Ffcl (b_1:Int):Option Bool:=
 letJ (bif (decide (b_1≥97)) then (letJ (bif (decide (b_1≤122)) then true else (letJ (bif (decide (b_1≥48)) then (decide (b_1≤57)) else false) fun u4:Bool=>u4)) fun u3:Bool=>u3) else (letJ (bif (decide (b_1≥48)) then (decide (b_1≤57)) else false) fun u5:Bool=>u5)) fun u2:Bool=>some u2
noncomputable def Ffci_la_F (s_1:Str)(self:Int→Option (Bool⊕Unit))(x4:Int):Option (Bool⊕Unit):=
 bif (decide (x4<(len s_1))) then ((getI s_1 x4).bind fun c5=>(Ffcl (c5.toNat:Int)).bind fun r6=>bif (!r6) then (some (.inl false)) else (self (w64 (x4+1)))) else (some (.inr ()))
noncomputable def Ffci_la (s_1:Str): Int→Option (Bool⊕Unit):=fixO (Ffci_la_F s_1)
theorem Ffci_la_fin (s_1:Str): ∀a,Fin1 fun f=>Ffci_la_F s_1 f a:=by
 intro a
 unfold Ffci_la_F
 repeat first|exact f_const|exact f_self|refine f_cond ?_ ?_|refine f_bindJ ?_ (fun _=>?_)|refine f_bindL ?_ (fun _=>?_)|refine f_bind ?_ (fun _=>?_)|refine f_letJ (fun _=>?_)
theorem Ffci_la_eq (s_1:Str)(x:Int):Ffci_la s_1 x=Ffci_la_F s_1 (Ffci_la s_1) x:=fix_eq (Ffci_la_fin s_1) x
noncomputable def Ffci (s_1:Str):Option Bool:=
 (spec_l1In (len s_1) 1 8).bind fun r2=>bindJ (ρ:=Bool) (bif (!r2) then (some (.inr true)) else ((getI s_1 0).bind fun c16=>bindL (ρ:=Bool) (bif (decide ((c16.toNat:Int)<97)) then (some (.inr true)) else ((getI s_1 0).bind fun c18=>some (.inr (decide ((c18.toNat:Int)>122))))) fun u17:Bool=>some (.inr u17))) fun u3:Bool=>bif u3 then (some false) else (bindJ (ρ:=Bool) (Ffci_la s_1 0) fun u7:Unit=>letJ (bif (s_1==([116,114,117,101]:Str)) then (s_1==([116,114,117,101]:Str)) else (letJ (bif (s_1==([102,114,111,109]:Str)) then (s_1==([102,114,111,109]:Str)) else (letJ (bif (s_1==([110,111,116]:Str)) then (s_1==([110,111,116]:Str)) else (letJ (bif (s_1==([97,110,100]:Str)) then (s_1==([97,110,100]:Str)) else (letJ (bif (s_1==([111,114]:Str)) then (s_1==([111,114]:Str)) else (letJ (bif (s_1==([98,111,116,104]:Str)) then (s_1==([98,111,116,104]:Str)) else (letJ (bif (s_1==([101,105,116,104,101,114]:Str)) then (s_1==([101,105,116,104,101,114]:Str)) else (letJ (bif (s_1==([105,116]:Str)) then (s_1==([105,116]:Str)) else (s_1==([105,110]:Str))) fun u15:Bool=>u15)) fun u14:Bool=>u14)) fun u13:Bool=>u13)) fun u12:Bool=>u12)) fun u11:Bool=>u11)) fun u10:Bool=>u10)) fun u9:Bool=>u9)) fun u8:Bool=>bif u8 then (some false) else (some true))
noncomputable def Ffch_la_F (list_1:List Str)(name_2:Str)(self:Int→Option (Bool⊕Unit))(x3:Int):Option (Bool⊕Unit):=
 bif (decide (x3<(len list_1))) then ((getI list_1 x3).bind fun e4=>bif (e4==name_2) then (some (.inl true)) else (self (w64 (x3+1)))) else (some (.inr ()))
noncomputable def Ffch_la (list_1:List Str)(name_2:Str): Int→Option (Bool⊕Unit):=fixO (Ffch_la_F list_1 name_2)
theorem Ffch_la_fin (list_1:List Str)(name_2:Str): ∀a,Fin1 fun f=>Ffch_la_F list_1 name_2 f a:=by
 intro a
 unfold Ffch_la_F
 repeat first|exact f_const|exact f_self|refine f_cond ?_ ?_|refine f_bindJ ?_ (fun _=>?_)|refine f_bindL ?_ (fun _=>?_)|refine f_bind ?_ (fun _=>?_)|refine f_letJ (fun _=>?_)
theorem Ffch_la_eq (list_1:List Str)(name_2:Str)(x:Int):Ffch_la list_1 name_2 x=Ffch_la_F list_1 name_2 (Ffch_la list_1 name_2) x:=fix_eq (Ffch_la_fin list_1 name_2) x
noncomputable def Ffch (list_1:List Str)(name_2:Str):Option Bool:=
 bindJ (ρ:=Bool) (Ffch_la list_1 name_2 0) fun u5:Unit=>some false
noncomputable def Ffcr_la_F (c_1:Contract)(self:Int→Option (Bool⊕Unit))(x2:Int):Option (Bool⊕Unit):=
 bif (decide (x2<(len c_1.Parties))) then ((getI c_1.Parties x2).bind fun e3=>(Ffci e3).bind fun r4=>bindL (ρ:=Bool) (bif (!r4) then (some (.inr true)) else ((subI c_1.Parties 0 x2).bind fun s6=>(getI c_1.Parties x2).bind fun e7=>(Ffch s6 e7).bind fun r8=>some (.inr r8))) fun u5:Bool=>bif u5 then (some (.inl false)) else (self (w64 (x2+1)))) else (some (.inr ()))
noncomputable def Ffcr_la (c_1:Contract): Int→Option (Bool⊕Unit):=fixO (Ffcr_la_F c_1)
theorem Ffcr_la_fin (c_1:Contract): ∀a,Fin1 fun f=>Ffcr_la_F c_1 f a:=by
 intro a
 unfold Ffcr_la_F
 repeat first|exact f_const|exact f_self|refine f_cond ?_ ?_|refine f_bindJ ?_ (fun _=>?_)|refine f_bindL ?_ (fun _=>?_)|refine f_bind ?_ (fun _=>?_)|refine f_letJ (fun _=>?_)
theorem Ffcr_la_eq (c_1:Contract)(x:Int):Ffcr_la c_1 x=Ffcr_la_F c_1 (Ffcr_la c_1) x:=fix_eq (Ffcr_la_fin c_1) x
noncomputable def Ffcr (c_1:Contract):Option Bool:=
 bindJ (ρ:=Bool) (Ffcr_la c_1 0) fun u9:Unit=>(spec_l1In (len c_1.Parties) 2 4).bind fun r10=>some r10
noncomputable def Ffco_la_F (c_1:Contract)(id_2:Str)(self:Int→Option (Int⊕Unit))(x3:Int):Option (Int⊕Unit):=
 bif (decide (x3<(len c_1.Clauses))) then ((getI c_1.Clauses x3).bind fun e4=>bif (e4.Id==id_2) then (some (.inl x3)) else (self (w64 (x3+1)))) else (some (.inr ()))
noncomputable def Ffco_la (c_1:Contract)(id_2:Str): Int→Option (Int⊕Unit):=fixO (Ffco_la_F c_1 id_2)
theorem Ffco_la_fin (c_1:Contract)(id_2:Str): ∀a,Fin1 fun f=>Ffco_la_F c_1 id_2 f a:=by
 intro a
 unfold Ffco_la_F
 repeat first|exact f_const|exact f_self|refine f_cond ?_ ?_|refine f_bindJ ?_ (fun _=>?_)|refine f_bindL ?_ (fun _=>?_)|refine f_bind ?_ (fun _=>?_)|refine f_letJ (fun _=>?_)
theorem Ffco_la_eq (c_1:Contract)(id_2:Str)(x:Int):Ffco_la c_1 id_2 x=Ffco_la_F c_1 id_2 (Ffco_la c_1 id_2) x:=fix_eq (Ffco_la_fin c_1 id_2) x
noncomputable def Ffco (c_1:Contract)(id_2:Str):Option Int:=
 bindJ (ρ:=Int) (Ffco_la c_1 id_2 0) fun u5:Unit=>some (-1)
noncomputable def Ffcd (day_1:Int):Option Bool:=
 (spec_l1In day_1 0 36524).bind fun r2=>some r2
noncomputable def Ffce (c_1:Condition):Option Bool:=
 bif (c_1.Op==1) then (letJ (bif ((len c_1.Parts)==0) then (letJ (bif (c_1.Name==([]:Str)) then (c_1.Day==0) else false) fun u3:Bool=>u3) else false) fun u2:Bool=>some u2) else (bif (c_1.Op==2) then (bindJ (ρ:=Bool) (bif ((len c_1.Parts)==0) then ((Ffci c_1.Name).bind fun r5=>letJ (bif r5 then (c_1.Day==0) else false) fun u6:Bool=>some (.inr u6)) else (some (.inr false))) fun u4:Bool=>some u4) else (bif (c_1.Op==3) then (bindJ (ρ:=Bool) (bif ((len c_1.Parts)==0) then (bindL (ρ:=Bool) (bif (c_1.Name==([]:Str)) then ((Ffcd c_1.Day).bind fun r9=>some (.inr r9)) else (some (.inr false))) fun u8:Bool=>some (.inr u8)) else (some (.inr false))) fun u7:Bool=>some u7) else (bif (c_1.Op==4) then (letJ (bif ((len c_1.Parts)==1) then (letJ (bif (c_1.Name==([]:Str)) then (c_1.Day==0) else false) fun u11:Bool=>u11) else false) fun u10:Bool=>some u10) else (letJ (bif (c_1.Op==5) then (c_1.Op==5) else (c_1.Op==6)) fun u12:Bool=>bif u12 then (letJ (bif ((len c_1.Parts)==2) then (letJ (bif (c_1.Name==([]:Str)) then (c_1.Day==0) else false) fun u14:Bool=>u14) else false) fun u13:Bool=>some u13) else (some false)))))
noncomputable def Ffcf_la_F (slf_Ffcf:Condition→Option Bool)(c_1:Condition)(self:Int→Option (Bool⊕Unit))(x3:Int):Option (Bool⊕Unit):=
 bif (decide (x3<(len c_1.Parts))) then ((getI c_1.Parts x3).bind fun e4=>(slf_Ffcf e4).bind fun r5=>bif (!r5) then (some (.inl false)) else (self (w64 (x3+1)))) else (some (.inr ()))
noncomputable def Ffcf_la (slf_Ffcf:Condition→Option Bool)(c_1:Condition): Int→Option (Bool⊕Unit):=fixO (Ffcf_la_F slf_Ffcf c_1)
theorem Ffcf_la_fin (slf_Ffcf:Condition→Option Bool)(c_1:Condition): ∀a,Fin1 fun f=>Ffcf_la_F slf_Ffcf c_1 f a:=by
 intro a
 unfold Ffcf_la_F
 repeat first|exact f_const|exact f_self|refine f_cond ?_ ?_|refine f_bindJ ?_ (fun _=>?_)|refine f_bindL ?_ (fun _=>?_)|refine f_bind ?_ (fun _=>?_)|refine f_letJ (fun _=>?_)
theorem Ffcf_la_eq (slf_Ffcf:Condition→Option Bool)(c_1:Condition)(x:Int):Ffcf_la slf_Ffcf c_1 x=Ffcf_la_F slf_Ffcf c_1 (Ffcf_la slf_Ffcf c_1) x:=fix_eq (Ffcf_la_fin slf_Ffcf c_1) x
noncomputable def Ffcf_B (slf_Ffcf:Condition→Option Bool)(c_1:Condition):Option Bool:=
 (Ffce c_1).bind fun r2=>bif (!r2) then (some false) else (bindJ (ρ:=Bool) (Ffcf_la slf_Ffcf c_1 0) fun u6:Unit=>some true)
noncomputable def Ffcf_G (slf_Ffcf:Condition→Option Bool)(x:Condition):Option Bool:=Ffcf_B slf_Ffcf x
noncomputable def Ffcf (c_1:Condition):Option Bool:=fixO Ffcf_G c_1
theorem Ffcf_fin:∀x,Fin1 fun slf_Ffcf=>Ffcf_G slf_Ffcf x:=by
 intro x
 unfold Ffcf_G Ffcf_B
 repeat first|exact f_const|exact f_self|exact f_selfL|exact f_selfR|exact f_selfLL|exact f_selfRL|exact f_selfLLL|exact f_selfRLL|refine f_cond ?_ ?_|refine f_bindJ ?_ (fun _=>?_)|refine f_bindL ?_ (fun _=>?_)|refine f_bind ?_ (fun _=>?_)|refine f_letJ (fun _=>?_)|refine f_fix (fun _=>?_) | unfold Ffcf_la | unfold Ffcf_la_F
theorem Ffcf_eq (c_1:Condition):Ffcf c_1=Ffcf_B (fixO Ffcf_G) c_1:=fix_eq Ffcf_fin c_1
noncomputable def Ffcm_la_F (slf_Ffcm:Condition→Option Int)(c_1:Condition)(self:(Int×Int)→Option (Int⊕Int))(x2:Int×Int):Option (Int⊕Int):=
 bif (decide (x2.2<(len c_1.Parts))) then ((getI c_1.Parts x2.2).bind fun e3=>(slf_Ffcm e3).bind fun r4=>self ((w64 (x2.1+r4)),(w64 (x2.2+1)))) else (some (.inr x2.1))
noncomputable def Ffcm_la (slf_Ffcm:Condition→Option Int)(c_1:Condition): (Int×Int)→Option (Int⊕Int):=fixO (Ffcm_la_F slf_Ffcm c_1)
theorem Ffcm_la_fin (slf_Ffcm:Condition→Option Int)(c_1:Condition): ∀a,Fin1 fun f=>Ffcm_la_F slf_Ffcm c_1 f a:=by
 intro a
 unfold Ffcm_la_F
 repeat first|exact f_const|exact f_self|refine f_cond ?_ ?_|refine f_bindJ ?_ (fun _=>?_)|refine f_bindL ?_ (fun _=>?_)|refine f_bind ?_ (fun _=>?_)|refine f_letJ (fun _=>?_)
theorem Ffcm_la_eq (slf_Ffcm:Condition→Option Int)(c_1:Condition)(x:Int×Int):Ffcm_la slf_Ffcm c_1 x=Ffcm_la_F slf_Ffcm c_1 (Ffcm_la slf_Ffcm c_1) x:=fix_eq (Ffcm_la_fin slf_Ffcm c_1) x
noncomputable def Ffcm_B (slf_Ffcm:Condition→Option Int)(c_1:Condition):Option Int:=
 bindJ (ρ:=Int) (Ffcm_la slf_Ffcm c_1 (1,0)) fun u5:Int=>some u5
noncomputable def Ffcm_G (slf_Ffcm:Condition→Option Int)(x:Condition):Option Int:=Ffcm_B slf_Ffcm x
noncomputable def Ffcm (c_1:Condition):Option Int:=fixO Ffcm_G c_1
theorem Ffcm_fin:∀x,Fin1 fun slf_Ffcm=>Ffcm_G slf_Ffcm x:=by
 intro x
 unfold Ffcm_G Ffcm_B
 repeat first|exact f_const|exact f_self|exact f_selfL|exact f_selfR|exact f_selfLL|exact f_selfRL|exact f_selfLLL|exact f_selfRLL|refine f_cond ?_ ?_|refine f_bindJ ?_ (fun _=>?_)|refine f_bindL ?_ (fun _=>?_)|refine f_bind ?_ (fun _=>?_)|refine f_letJ (fun _=>?_)|refine f_fix (fun _=>?_) | unfold Ffcm_la | unfold Ffcm_la_F
theorem Ffcm_eq (c_1:Condition):Ffcm c_1=Ffcm_B (fixO Ffcm_G) c_1:=fix_eq Ffcm_fin c_1
noncomputable def Ffcg (c_1:Condition):Option Bool:=
 (Ffcf c_1).bind fun r2=>bindJ (ρ:=Bool) (bif r2 then ((Ffcm c_1).bind fun r4=>some (.inr (decide (r4≤15)))) else (some (.inr false))) fun u3:Bool=>some u3
noncomputable def Ffcn (c_1:Contract)(i_2:Int):Option Bool:=
 (getI c_1.Clauses i_2).bind fun e3=>(Ffci e3.Id).bind fun r4=>bindJ (ρ:=Bool) (bif (!r4) then (some (.inr true)) else ((Ffci e3.Action).bind fun r17=>bindL (ρ:=Bool) (bif (!r17) then (some (.inr true)) else ((spec_l1In e3.Kind 1 4).bind fun r19=>bindL (ρ:=Bool) (bif (!r19) then (some (.inr true)) else ((spec_l1In e3.Party 0 (w64 ((len c_1.Parties) - 1))).bind fun r21=>bindL (ρ:=Bool) (bif (!r21) then (some (.inr true)) else ((spec_l1In e3.Other 0 (w64 ((len c_1.Parties) - 1))).bind fun r23=>bindL (ρ:=Bool) (bif (!r23) then (some (.inr true)) else (bindL (ρ:=Bool) (bif (e3.Party==e3.Other) then (some (.inr true)) else ((Ffcg e3.When).bind fun r26=>some (.inr (!r26)))) fun u25:Bool=>some (.inr u25))) fun u24:Bool=>some (.inr u24))) fun u22:Bool=>some (.inr u22))) fun u20:Bool=>some (.inr u20))) fun u18:Bool=>some (.inr u18))) fun u5:Bool=>bif u5 then (some false) else ((spec_l1In e3.Amount 0 1000000).bind fun r6=>bindJ (ρ:=Bool) (bif (!r6) then (some (.inr true)) else ((spec_l1In e3.Within 0 400).bind fun r13=>letJ (bif (!r13) then true else (letJ (bif (e3.Kind != 1) then (letJ (bif (e3.Amount != 0) then true else (e3.Within != 0)) fun u16:Bool=>u16) else false) fun u15:Bool=>u15)) fun u14:Bool=>some (.inr u14))) fun u7:Bool=>bif u7 then (some false) else (bif (e3.Repair==([]:Str)) then (some true) else ((Ffco c_1 e3.Repair).bind fun r8=>bindJ (ρ:=Bool) (bif (decide (r8≥0)) then (bindL (ρ:=Bool) (bif (r8 != i_2) then ((getI c_1.Clauses r8).bind fun e11=>letJ (bif (e11.Kind==1) then (e3.Kind != 3) else false) fun u12:Bool=>some (.inr u12)) else (some (.inr false))) fun u10:Bool=>some (.inr u10)) else (some (.inr false))) fun u9:Bool=>some u9)))
noncomputable def Ffck_la_F (l_8:List Str)(s_9:Str)(self:Int→Option ((List Str)⊕(Str×Int×(List Str))))(x3:Int):Option ((List Str)⊕(Str×Int×(List Str))):=
 bindL (ρ:=(List Str)) (bif (decide (x3<(len l_8))) then ((getI l_8 x3).bind fun e5=>some (.inr (Op.bytesLess e5 s_9))) else (some (.inr false))) fun u4:Bool=>bif u4 then (self (w64 (x3+1))) else (some (.inr (s_9,x3,l_8)))
noncomputable def Ffck_la (l_8:List Str)(s_9:Str): Int→Option ((List Str)⊕(Str×Int×(List Str))):=fixO (Ffck_la_F l_8 s_9)
theorem Ffck_la_fin (l_8:List Str)(s_9:Str): ∀a,Fin1 fun f=>Ffck_la_F l_8 s_9 f a:=by
 intro a
 unfold Ffck_la_F
 repeat first|exact f_const|exact f_self|refine f_cond ?_ ?_|refine f_bindJ ?_ (fun _=>?_)|refine f_bindL ?_ (fun _=>?_)|refine f_bind ?_ (fun _=>?_)|refine f_letJ (fun _=>?_)
theorem Ffck_la_eq (l_8:List Str)(s_9:Str)(x:Int):Ffck_la l_8 s_9 x=Ffck_la_F l_8 s_9 (Ffck_la l_8 s_9) x:=fix_eq (Ffck_la_fin l_8 s_9) x
noncomputable def Ffck (l_8:List Str)(s_9:Str):Option (List Str):=
 bindJ (ρ:=(List Str)) (Ffck_la l_8 s_9 0) fun u6:Str×Int×(List Str)=>bindJ (ρ:=(List Str)) (bif (decide (u6.2.1<(len u6.2.2))) then ((getI u6.2.2 u6.2.1).bind fun e15=>some (.inr (e15==u6.1))) else (some (.inr false))) fun u7:Bool=>bif u7 then (some u6.2.2) else ((subP u6.2.2.length 0 u6.2.1).bind fun s8=>(partP u6.2.2 (0+Int.toNat (0)) (Int.toNat u6.2.1 - Int.toNat (0))).bind fun p9=>(appI 16 ([]:List Str) p9).bind fun a10=>(appI 16 a10 [u6.1]).bind fun a11=>(subP u6.2.2.length u6.2.1 (len u6.2.2)).bind fun s12=>(partP u6.2.2 (0+Int.toNat u6.2.1) (Int.toNat (len u6.2.2) - Int.toNat u6.2.1)).bind fun p13=>(appI 16 a11 p13).bind fun a14=>some a14)
noncomputable def Ffcj_la_F (slf_Ffcj:((List Str)×Condition)→Option (List Str))(l_4:List Str)(c_5:Condition)(self:(Int×(List Str))→Option ((List Str)⊕(List Str)))(x4:Int×(List Str)):Option ((List Str)⊕(List Str)):=
 bif (decide (x4.1<(len c_5.Parts))) then ((getI c_5.Parts x4.1).bind fun e5=>(slf_Ffcj (x4.2,e5)).bind fun r6=>self ((w64 (x4.1+1)),r6)) else (some (.inr x4.2))
noncomputable def Ffcj_la (slf_Ffcj:((List Str)×Condition)→Option (List Str))(l_4:List Str)(c_5:Condition): (Int×(List Str))→Option ((List Str)⊕(List Str)):=fixO (Ffcj_la_F slf_Ffcj l_4 c_5)
theorem Ffcj_la_fin (slf_Ffcj:((List Str)×Condition)→Option (List Str))(l_4:List Str)(c_5:Condition): ∀a,Fin1 fun f=>Ffcj_la_F slf_Ffcj l_4 c_5 f a:=by
 intro a
 unfold Ffcj_la_F
 repeat first|exact f_const|exact f_self|refine f_cond ?_ ?_|refine f_bindJ ?_ (fun _=>?_)|refine f_bindL ?_ (fun _=>?_)|refine f_bind ?_ (fun _=>?_)|refine f_letJ (fun _=>?_)
theorem Ffcj_la_eq (slf_Ffcj:((List Str)×Condition)→Option (List Str))(l_4:List Str)(c_5:Condition)(x:Int×(List Str)):Ffcj_la slf_Ffcj l_4 c_5 x=Ffcj_la_F slf_Ffcj l_4 c_5 (Ffcj_la slf_Ffcj l_4 c_5) x:=fix_eq (Ffcj_la_fin slf_Ffcj l_4 c_5) x
noncomputable def Ffcj_B (slf_Ffcj:((List Str)×Condition)→Option (List Str))(l_4:List Str)(c_5:Condition):Option (List Str):=
 bif (c_5.Op==2) then ((Ffck l_4 c_5.Name).bind fun r3=>some r3) else (bindJ (ρ:=(List Str)) (Ffcj_la slf_Ffcj l_4 c_5 (0,l_4)) fun u7:(List Str)=>some u7)
noncomputable def Ffcj_G (slf_Ffcj:((List Str)×Condition)→Option (List Str))(x:(List Str)×Condition):Option (List Str):=Ffcj_B slf_Ffcj x.1 x.2
noncomputable def Ffcj (l_4:List Str)(c_5:Condition):Option (List Str):=fixO Ffcj_G (l_4,c_5)
theorem Ffcj_fin:∀x,Fin1 fun slf_Ffcj=>Ffcj_G slf_Ffcj x:=by
 intro x
 unfold Ffcj_G Ffcj_B
 repeat first|exact f_const|exact f_self|exact f_selfL|exact f_selfR|exact f_selfLL|exact f_selfRL|exact f_selfLLL|exact f_selfRLL|refine f_cond ?_ ?_|refine f_bindJ ?_ (fun _=>?_)|refine f_bindL ?_ (fun _=>?_)|refine f_bind ?_ (fun _=>?_)|refine f_letJ (fun _=>?_)|refine f_fix (fun _=>?_) | unfold Ffcj_la | unfold Ffcj_la_F
theorem Ffcj_eq (l_4:List Str)(c_5:Condition):Ffcj l_4 c_5=Ffcj_B (fixO Ffcj_G) l_4 c_5:=fix_eq Ffcj_fin (l_4,c_5)
noncomputable def Ffcq_la_F (c_1:Contract)(self:(Int×(List Str))→Option ((List Str)⊕(List Str)))(x2:Int×(List Str)):Option ((List Str)⊕(List Str)):=
 bif (decide (x2.1<(len c_1.Clauses))) then ((getI c_1.Clauses x2.1).bind fun e3=>(Ffck x2.2 e3.Action).bind fun r4=>(getI c_1.Clauses x2.1).bind fun e5=>(Ffcj r4 e5.When).bind fun r6=>self ((w64 (x2.1+1)),r6)) else (some (.inr x2.2))
noncomputable def Ffcq_la (c_1:Contract): (Int×(List Str))→Option ((List Str)⊕(List Str)):=fixO (Ffcq_la_F c_1)
theorem Ffcq_la_fin (c_1:Contract): ∀a,Fin1 fun f=>Ffcq_la_F c_1 f a:=by
 intro a
 unfold Ffcq_la_F
 repeat first|exact f_const|exact f_self|refine f_cond ?_ ?_|refine f_bindJ ?_ (fun _=>?_)|refine f_bindL ?_ (fun _=>?_)|refine f_bind ?_ (fun _=>?_)|refine f_letJ (fun _=>?_)
theorem Ffcq_la_eq (c_1:Contract)(x:Int×(List Str)):Ffcq_la c_1 x=Ffcq_la_F c_1 (Ffcq_la c_1) x:=fix_eq (Ffcq_la_fin c_1) x
noncomputable def Ffcq (c_1:Contract):Option (List Str):=
 bindJ (ρ:=(List Str)) (Ffcq_la c_1 (0,[])) fun u7:(List Str)=>some u7
noncomputable def Ffcp_la_F (c_1:Contract)(self:Int→Option (Bool⊕Unit))(x4:Int):Option (Bool⊕Unit):=
 bif (decide (x4<(len c_1.Clauses))) then ((getI c_1.Clauses x4).bind fun e5=>(Ffco c_1 e5.Id).bind fun r6=>bindL (ρ:=Bool) (bif (r6 != x4) then (some (.inr true)) else ((Ffcn c_1 x4).bind fun r8=>some (.inr (!r8)))) fun u7:Bool=>bif u7 then (some (.inl false)) else (self (w64 (x4+1)))) else (some (.inr ()))
noncomputable def Ffcp_la (c_1:Contract): Int→Option (Bool⊕Unit):=fixO (Ffcp_la_F c_1)
theorem Ffcp_la_fin (c_1:Contract): ∀a,Fin1 fun f=>Ffcp_la_F c_1 f a:=by
 intro a
 unfold Ffcp_la_F
 repeat first|exact f_const|exact f_self|refine f_cond ?_ ?_|refine f_bindJ ?_ (fun _=>?_)|refine f_bindL ?_ (fun _=>?_)|refine f_bind ?_ (fun _=>?_)|refine f_letJ (fun _=>?_)
theorem Ffcp_la_eq (c_1:Contract)(x:Int):Ffcp_la c_1 x=Ffcp_la_F c_1 (Ffcp_la c_1) x:=fix_eq (Ffcp_la_fin c_1) x
noncomputable def Ffcp (c_1:Contract):Option Bool:=
 (spec_l1In (len c_1.Clauses) 1 12).bind fun r2=>bindJ (ρ:=Bool) (bif (!r2) then (some (.inr true)) else ((Ffcr c_1).bind fun r11=>some (.inr (!r11)))) fun u3:Bool=>bif u3 then (some false) else (bindJ (ρ:=Bool) (Ffcp_la c_1 0) fun u9:Unit=>(Ffcq c_1).bind fun r10=>some (decide ((len r10)≤16)))
noncomputable def Ffcc_la_F (c_1:Contract)(self:(Int×(List Int))→Option (((List Int)×Bool)⊕(List Int)))(x3:Int×(List Int)):Option (((List Int)×Bool)⊕(List Int)):=
 bif (decide (x3.1<(len c_1.Clauses))) then ((getI c_1.Clauses x3.1).bind fun e4=>bindL (ρ:=(List Int)×Bool) (bif (decide (e4.Kind≤2)) then ((getI c_1.Clauses x3.1).bind fun e8=>some (.inr (e8.Repair==([]:Str)))) else (some (.inr false))) fun u5:Bool=>bindL (ρ:=(List Int)×Bool) (bif u5 then ((appI 8 x3.2 [x3.1]).bind fun a7=>some (.inr a7)) else (some (.inr x3.2))) fun u6:(List Int)=>self ((w64 (x3.1+1)),u6)) else (some (.inr x3.2))
noncomputable def Ffcc_la (c_1:Contract): (Int×(List Int))→Option (((List Int)×Bool)⊕(List Int)):=fixO (Ffcc_la_F c_1)
theorem Ffcc_la_fin (c_1:Contract): ∀a,Fin1 fun f=>Ffcc_la_F c_1 f a:=by
 intro a
 unfold Ffcc_la_F
 repeat first|exact f_const|exact f_self|refine f_cond ?_ ?_|refine f_bindJ ?_ (fun _=>?_)|refine f_bindL ?_ (fun _=>?_)|refine f_bind ?_ (fun _=>?_)|refine f_letJ (fun _=>?_)
theorem Ffcc_la_eq (c_1:Contract)(x:Int×(List Int)):Ffcc_la c_1 x=Ffcc_la_F c_1 (Ffcc_la c_1) x:=fix_eq (Ffcc_la_fin c_1) x
noncomputable def Ffcc (c_1:Contract):Option ((List Int)×Bool):=
 (Ffcp c_1).bind fun r2=>bif (!r2) then (some ([],false)) else (bindJ (ρ:=(List Int)×Bool) (Ffcc_la c_1 (0,[])) fun u9:(List Int)=>some (u9,true))
noncomputable def Ffp (n_1:Int)(low_2:Int)(high_3:Int):Option Bool:=
 letJ (bif (decide (n_1≥low_2)) then (decide (n_1≤high_3)) else false) fun u4:Bool=>some u4
noncomputable def Ffr (s_1:Str)(c_2:Int):Option Int:=
 (xIndexByteString s_1 c_2).bind fun r3=>some r3
noncomputable def Ffq (s_1:Str)(substr_2:Str):Option Int:=
 letJ (bif ((len substr_2)==0) then true else (substr_2==s_1)) fun u3:Bool=>bif u3 then (some 0) else (bif ((len substr_2)==1) then ((getI substr_2 0).bind fun c4=>(Ffr s_1 (c4.toNat:Int)).bind fun r5=>some r5) else (bif (decide ((len substr_2)≥(len s_1))) then (some (-1)) else none))
noncomputable def Ffct (s_1:Str)(substr_2:Str):Option Int:=
 (Ffq s_1 substr_2).bind fun r3=>some r3
noncomputable def Ffcs_la_F (s_1:Str)(substr_2:Str)(self:(Str×Int)→Option (Int⊕Unit))(x5:Str×Int):Option (Int⊕Unit):=
 (Ffct x5.1 substr_2).bind fun r6=>bif (r6==(-1)) then (some (.inl x5.2)) else ((subI x5.1 (w64 (r6+(len substr_2))) (len x5.1)).bind fun s7=>self (s7,(w64 (x5.2+1))))
noncomputable def Ffcs_la (s_1:Str)(substr_2:Str): (Str×Int)→Option (Int⊕Unit):=fixO (Ffcs_la_F s_1 substr_2)
theorem Ffcs_la_fin (s_1:Str)(substr_2:Str): ∀a,Fin1 fun f=>Ffcs_la_F s_1 substr_2 f a:=by
 intro a
 unfold Ffcs_la_F
 repeat first|exact f_const|exact f_self|refine f_cond ?_ ?_|refine f_bindJ ?_ (fun _=>?_)|refine f_bindL ?_ (fun _=>?_)|refine f_bind ?_ (fun _=>?_)|refine f_letJ (fun _=>?_)
theorem Ffcs_la_eq (s_1:Str)(substr_2:Str)(x:Str×Int):Ffcs_la s_1 substr_2 x=Ffcs_la_F s_1 substr_2 (Ffcs_la s_1 substr_2) x:=fix_eq (Ffcs_la_fin s_1 substr_2) x
noncomputable def Ffcs (s_1:Str)(substr_2:Str):Option Int:=
 bif ((len substr_2)==0) then none else (bif ((len substr_2)==1) then ((getI substr_2 0).bind fun c3=>(xCountString s_1 (c3.toNat:Int)).bind fun r4=>some r4) else (bindJ (ρ:=Int) (Ffcs_la s_1 substr_2 (s_1,0)) fun u8:Unit=>none))
noncomputable def Ffcv_la_F (s_1:Str)(sep_2:Str)(sepSave_3:Int)(n_4:Int)(u5:Int)(self:(Str×Int×(List Str))→Option ((List Str)⊕(Str×Int×(List Str))))(x7:Str×Int×(List Str)):Option ((List Str)⊕(Str×Int×(List Str))):=
 bif (decide (x7.2.1<(w64 ((if (w64 ((len s_1)+1))<u5 then (w64 ((len s_1)+1)) else u5) - 1)))) then ((Ffct x7.1 sep_2).bind fun r8=>bif (decide (r8<0)) then (some (.inr (x7.1,x7.2.1,x7.2.2))) else ((subI x7.1 0 (w64 (r8+sepSave_3))).bind fun s9=>(getI x7.2.2 x7.2.1).bind fun e10=>(subI x7.1 (w64 (r8+(len sep_2))) (len x7.1)).bind fun s11=>self (s11,(w64 (x7.2.1+1)),(setI x7.2.2 x7.2.1 s9)))) else (some (.inr (x7.1,x7.2.1,x7.2.2)))
noncomputable def Ffcv_la (s_1:Str)(sep_2:Str)(sepSave_3:Int)(n_4:Int)(u5:Int):(Str×Int×(List Str))→Option ((List Str)⊕(Str×Int×(List Str))):=fixO (Ffcv_la_F s_1 sep_2 sepSave_3 n_4 u5)
theorem Ffcv_la_fin (s_1:Str)(sep_2:Str)(sepSave_3:Int)(n_4:Int)(u5:Int):∀a,Fin1 fun f=>Ffcv_la_F s_1 sep_2 sepSave_3 n_4 u5 f a:=by
 intro a
 unfold Ffcv_la_F
 repeat first|exact f_const|exact f_self|refine f_cond ?_ ?_|refine f_bindJ ?_ (fun _=>?_)|refine f_bindL ?_ (fun _=>?_)|refine f_bind ?_ (fun _=>?_)|refine f_letJ (fun _=>?_)
theorem Ffcv_la_eq (s_1:Str)(sep_2:Str)(sepSave_3:Int)(n_4:Int)(u5:Int)(x:Str×Int×(List Str)):Ffcv_la s_1 sep_2 sepSave_3 n_4 u5 x=Ffcv_la_F s_1 sep_2 sepSave_3 n_4 u5 (Ffcv_la s_1 sep_2 sepSave_3 n_4 u5) x:=fix_eq (Ffcv_la_fin s_1 sep_2 sepSave_3 n_4 u5) x
noncomputable def Ffcv (s_1:Str)(sep_2:Str)(sepSave_3:Int)(n_4:Int):Option (List Str):=
 bif (n_4==0) then (some []) else (bif (sep_2==([]:Str)) then none else (bindJ (ρ:=(List Str)) (bif (decide (n_4<0)) then ((Ffcs s_1 sep_2).bind fun r16=>some (.inr (w64 (r16+1)))) else (some (.inr n_4))) fun u5:Int=>(mkI 16 [] (if (w64 ((len s_1)+1))<u5 then (w64 ((len s_1)+1)) else u5)).bind fun m6=>bindJ (ρ:=(List Str)) (Ffcv_la s_1 sep_2 sepSave_3 n_4 u5 (s_1,0,m6)) fun u12:Str×Int×(List Str)=>(getI u12.2.2 u12.2.1).bind fun e13=>(subP (setI u12.2.2 u12.2.1 u12.1).length 0 (w64 (u12.2.1+1))).bind fun s14=>(partP (setI u12.2.2 u12.2.1 u12.1) (0+Int.toNat (0)) (Int.toNat (w64 (u12.2.1+1)) - Int.toNat (0))).bind fun p15=>some p15))
noncomputable def Ffcu (s_1:Str)(sep_2:Str):Option (List Str):=
 (Ffcv s_1 sep_2 0 (-1)).bind fun r3=>some r3
noncomputable def Ffcb_la_F (s_1:List Str)(v_2:Str)(self:Int→Option (Int⊕Unit))(x3:Int):Option (Int⊕Unit):=
 bif (decide (x3<(len s_1))) then ((getI s_1 x3).bind fun e4=>bif (v_2==e4) then (some (.inl x3)) else (self (w64 (x3+1)))) else (some (.inr ()))
noncomputable def Ffcb_la (s_1:List Str)(v_2:Str): Int→Option (Int⊕Unit):=fixO (Ffcb_la_F s_1 v_2)
theorem Ffcb_la_fin (s_1:List Str)(v_2:Str): ∀a,Fin1 fun f=>Ffcb_la_F s_1 v_2 f a:=by
 intro a
 unfold Ffcb_la_F
 repeat first|exact f_const|exact f_self|refine f_cond ?_ ?_|refine f_bindJ ?_ (fun _=>?_)|refine f_bindL ?_ (fun _=>?_)|refine f_bind ?_ (fun _=>?_)|refine f_letJ (fun _=>?_)
theorem Ffcb_la_eq (s_1:List Str)(v_2:Str)(x:Int):Ffcb_la s_1 v_2 x=Ffcb_la_F s_1 v_2 (Ffcb_la s_1 v_2) x:=fix_eq (Ffcb_la_fin s_1 v_2) x
noncomputable def Ffcb (s_1:List Str)(v_2:Str):Option Int:=
 bindJ (ρ:=Int) (Ffcb_la s_1 v_2 0) fun u5:Unit=>some (-1)
noncomputable def Ffbz (s_1:List Str)(v_2:Str):Option Bool:=
 (Ffcb s_1 v_2).bind fun r3=>some (decide (r3≥0))
noncomputable def Ffc_la_F (s_1:Str)(self:Int→Option (Bool⊕Unit))(x4:Int):Option (Bool⊕Unit):=
 bif (decide (x4<(len s_1))) then ((getI s_1 x4).bind fun c5=>letJ (bif (decide ((c5.toNat:Int)<97)) then (letJ (bif (decide ((c5.toNat:Int)<48)) then true else (decide ((c5.toNat:Int)>57))) fun u7:Bool=>u7) else (letJ (bif (decide ((c5.toNat:Int)>122)) then (letJ (bif (decide ((c5.toNat:Int)<48)) then true else (decide ((c5.toNat:Int)>57))) fun u9:Bool=>u9) else false) fun u8:Bool=>u8)) fun u6:Bool=>bif u6 then (some (.inl false)) else (self (w64 (x4+1)))) else (some (.inr ()))
noncomputable def Ffc_la (s_1:Str): Int→Option (Bool⊕Unit):=fixO (Ffc_la_F s_1)
theorem Ffc_la_fin (s_1:Str): ∀a,Fin1 fun f=>Ffc_la_F s_1 f a:=by
 intro a
 unfold Ffc_la_F
 repeat first|exact f_const|exact f_self|refine f_cond ?_ ?_|refine f_bindJ ?_ (fun _=>?_)|refine f_bindL ?_ (fun _=>?_)|refine f_bind ?_ (fun _=>?_)|refine f_letJ (fun _=>?_)
theorem Ffc_la_eq (s_1:Str)(x:Int):Ffc_la s_1 x=Ffc_la_F s_1 (Ffc_la s_1) x:=fix_eq (Ffc_la_fin s_1) x
noncomputable def Ffc (s_1:Str):Option Bool:=
 (Ffp (len s_1) 1 8).bind fun r2=>bindJ (ρ:=Bool) (bif (!r2) then (some (.inr true)) else ((getI s_1 0).bind fun c13=>bindL (ρ:=Bool) (bif (decide ((c13.toNat:Int)<97)) then (some (.inr true)) else ((getI s_1 0).bind fun c15=>some (.inr (decide ((c15.toNat:Int)>122))))) fun u14:Bool=>some (.inr u14))) fun u3:Bool=>bif u3 then (some false) else (bindJ (ρ:=Bool) (Ffc_la s_1 0) fun u10:Unit=>(Ffcu ([116,114,117,101,32,102,114,111,109,32,110,111,116,32,97,110,100,32,111,114,32,98,111,116,104,32,101,105,116,104,101,114,32,105,116,32,105,110]:Str) ([32]:Str)).bind fun r11=>(Ffbz r11 s_1).bind fun r12=>some (!r12))
noncomputable def Ffg_la_F (list_1:List Str)(self:Int→Option (Bool⊕Unit))(x2:Int):Option (Bool⊕Unit):=
 bif (decide (x2<(len list_1))) then ((getI list_1 x2).bind fun e3=>(Ffc e3).bind fun r4=>bindL (ρ:=Bool) (bif (!r4) then (some (.inr true)) else ((subI list_1 0 x2).bind fun s6=>(Ffbz s6 e3).bind fun r7=>some (.inr r7))) fun u5:Bool=>bif u5 then (some (.inl false)) else (self (w64 (x2+1)))) else (some (.inr ()))
noncomputable def Ffg_la (list_1:List Str): Int→Option (Bool⊕Unit):=fixO (Ffg_la_F list_1)
theorem Ffg_la_fin (list_1:List Str): ∀a,Fin1 fun f=>Ffg_la_F list_1 f a:=by
 intro a
 unfold Ffg_la_F
 repeat first|exact f_const|exact f_self|refine f_cond ?_ ?_|refine f_bindJ ?_ (fun _=>?_)|refine f_bindL ?_ (fun _=>?_)|refine f_bind ?_ (fun _=>?_)|refine f_letJ (fun _=>?_)
theorem Ffg_la_eq (list_1:List Str)(x:Int):Ffg_la list_1 x=Ffg_la_F list_1 (Ffg_la list_1) x:=fix_eq (Ffg_la_fin list_1) x
noncomputable def Ffg (list_1:List Str):Option Bool:=
 bindJ (ρ:=Bool) (Ffg_la list_1 0) fun u8:Unit=>(Ffp (len list_1) 2 4).bind fun r9=>some r9
noncomputable def Ffi (x_1:Clause)(a_2:Str):Option Bool:=
 some (x_1.Id==a_2)
noncomputable def Ffca_la_F (s_1:List Clause)(f_2:Str)(self:Int→Option (Int⊕Unit))(x3:Int):Option (Int⊕Unit):=
 bif (decide (x3<(len s_1))) then ((getI s_1 x3).bind fun e4=>(Ffi e4 f_2).bind fun r5=>bif r5 then (some (.inl x3)) else (self (w64 (x3+1)))) else (some (.inr ()))
noncomputable def Ffca_la (s_1:List Clause)(f_2:Str): Int→Option (Int⊕Unit):=fixO (Ffca_la_F s_1 f_2)
theorem Ffca_la_fin (s_1:List Clause)(f_2:Str): ∀a,Fin1 fun f=>Ffca_la_F s_1 f_2 f a:=by
 intro a
 unfold Ffca_la_F
 repeat first|exact f_const|exact f_self|refine f_cond ?_ ?_|refine f_bindJ ?_ (fun _=>?_)|refine f_bindL ?_ (fun _=>?_)|refine f_bind ?_ (fun _=>?_)|refine f_letJ (fun _=>?_)
theorem Ffca_la_eq (s_1:List Clause)(f_2:Str)(x:Int):Ffca_la s_1 f_2 x=Ffca_la_F s_1 f_2 (Ffca_la s_1 f_2) x:=fix_eq (Ffca_la_fin s_1 f_2) x
noncomputable def Ffca (s_1:List Clause)(f_2:Str):Option Int:=
 bindJ (ρ:=Int) (Ffca_la s_1 f_2 0) fun u6:Unit=>some (-1)
noncomputable def Ffh (c_1:Contract)(id_2:Str):Option Int:=
 (Ffca c_1.Clauses id_2).bind fun r3=>some r3
noncomputable def Ffn (day_1:Int):Option Bool:=
 (Ffp day_1 0 36524).bind fun r2=>some r2
noncomputable def Ffk_la_F (slf_Ffk:(Condition×Int)→Option Int)(c_1:Condition)(so_2:Int)(self:(Int×Int)→Option (Int⊕Int))(x5:Int×Int):Option (Int⊕Int):=
 bif (decide (x5.2<(len c_1.Parts))) then ((getI c_1.Parts x5.2).bind fun e6=>(slf_Ffk (e6,x5.1)).bind fun r7=>bif (decide (r7<0)) then (some (.inl (-1))) else (self (r7,(w64 (x5.2+1))))) else (some (.inr x5.1))
noncomputable def Ffk_la (slf_Ffk:(Condition×Int)→Option Int)(c_1:Condition)(so_2:Int): (Int×Int)→Option (Int⊕Int):=fixO (Ffk_la_F slf_Ffk c_1 so_2)
theorem Ffk_la_fin (slf_Ffk:(Condition×Int)→Option Int)(c_1:Condition)(so_2:Int): ∀a,Fin1 fun f=>Ffk_la_F slf_Ffk c_1 so_2 f a:=by
 intro a
 unfold Ffk_la_F
 repeat first|exact f_const|exact f_self|refine f_cond ?_ ?_|refine f_bindJ ?_ (fun _=>?_)|refine f_bindL ?_ (fun _=>?_)|refine f_bind ?_ (fun _=>?_)|refine f_letJ (fun _=>?_)
theorem Ffk_la_eq (slf_Ffk:(Condition×Int)→Option Int)(c_1:Condition)(so_2:Int)(x:Int×Int):Ffk_la slf_Ffk c_1 so_2 x=Ffk_la_F slf_Ffk c_1 so_2 (Ffk_la slf_Ffk c_1 so_2) x:=fix_eq (Ffk_la_fin slf_Ffk c_1 so_2) x
noncomputable def Ffk_B (slf_Ffk:(Condition×Int)→Option Int)(c_1:Condition)(so_2:Int):Option Int:=
 bindJ (ρ:=Int) (bif (decide ((w64 (so_2+1))>15)) then (some (.inr true)) else ((Ffp c_1.Op 1 6).bind fun r20=>bindL (ρ:=Int) (bif (!r20) then (some (.inr true)) else ((getI [(-1),0,0,0,1,2,2] c_1.Op).bind fun e22=>some (.inr ((len c_1.Parts) != e22)))) fun u21:Bool=>some (.inr u21))) fun u3:Bool=>bif u3 then (some (-1)) else (bindJ (ρ:=Int) (bif (!((c_1.Op==2)==(!(c_1.Name==([]:Str))))) then (some (.inr true)) else (bindL (ρ:=Int) (bif (c_1.Op==2) then ((Ffc c_1.Name).bind fun r10=>bindL (ρ:=Int) (bif (!r10) then (some (.inr true)) else (bindL (ρ:=Int) (bif (c_1.Op != 3) then (bindL (ρ:=Int) (bif (c_1.Day != 0) then (some (.inr true)) else ((Ffn c_1.Day).bind fun r14=>some (.inr (!r14)))) fun u13:Bool=>some (.inr u13)) else ((Ffn c_1.Day).bind fun r15=>some (.inr (!r15)))) fun u12:Bool=>some (.inr u12))) fun u11:Bool=>some (.inr u11)) else (bindL (ρ:=Int) (bif (c_1.Op != 3) then (bindL (ρ:=Int) (bif (c_1.Day != 0) then (some (.inr true)) else ((Ffn c_1.Day).bind fun r18=>some (.inr (!r18)))) fun u17:Bool=>some (.inr u17)) else ((Ffn c_1.Day).bind fun r19=>some (.inr (!r19)))) fun u16:Bool=>some (.inr u16))) fun u9:Bool=>some (.inr u9))) fun u4:Bool=>bif u4 then (some (-1)) else (bindJ (ρ:=Int) (Ffk_la slf_Ffk c_1 so_2 ((w64 (so_2+1)),0)) fun u8:Int=>some u8))
noncomputable def Ffk_G (slf_Ffk:(Condition×Int)→Option Int)(x:Condition×Int):Option Int:=Ffk_B slf_Ffk x.1 x.2
noncomputable def Ffk (c_1:Condition)(so_2:Int):Option Int:=fixO Ffk_G (c_1,so_2)
theorem Ffk_fin:∀x,Fin1 fun slf_Ffk=>Ffk_G slf_Ffk x:=by
 intro x
 unfold Ffk_G Ffk_B
 repeat first|exact f_const|exact f_self|exact f_selfL|exact f_selfR|exact f_selfLL|exact f_selfRL|exact f_selfLLL|exact f_selfRLL|refine f_cond ?_ ?_|refine f_bindJ ?_ (fun _=>?_)|refine f_bindL ?_ (fun _=>?_)|refine f_bind ?_ (fun _=>?_)|refine f_letJ (fun _=>?_)|refine f_fix (fun _=>?_) | unfold Ffk_la | unfold Ffk_la_F
theorem Ffk_eq (c_1:Condition)(so_2:Int):Ffk c_1 so_2=Ffk_B (fixO Ffk_G) c_1 so_2:=fix_eq Ffk_fin (c_1,so_2)
noncomputable def Ffa (c_1:Condition):Option Bool:=
 (Ffk c_1 0).bind fun r2=>some (decide (r2>0))
noncomputable def Ffm (c_1:Contract)(i_2:Int):Option Bool:=
 (getI c_1.Clauses i_2).bind fun e3=>(Ffc e3.Id).bind fun r4=>bindJ (ρ:=Bool) (bif (!r4) then (some (.inr true)) else ((Ffh c_1 e3.Id).bind fun r23=>bindL (ρ:=Bool) (bif (r23 != i_2) then (some (.inr true)) else ((Ffc e3.Action).bind fun r25=>bindL (ρ:=Bool) (bif (!r25) then (some (.inr true)) else ((Ffp e3.Kind 1 4).bind fun r27=>some (.inr (!r27)))) fun u26:Bool=>some (.inr u26))) fun u24:Bool=>some (.inr u24))) fun u5:Bool=>bif u5 then (some false) else ((Ffp e3.Party 0 (w64 ((len c_1.Parties) - 1))).bind fun r6=>bindJ (ρ:=Bool) (bif (!r6) then (some (.inr true)) else ((Ffp e3.Other 0 (w64 ((len c_1.Parties) - 1))).bind fun r19=>bindL (ρ:=Bool) (bif (!r19) then (some (.inr true)) else (bindL (ρ:=Bool) (bif (e3.Party==e3.Other) then (some (.inr true)) else ((Ffa e3.When).bind fun r22=>some (.inr (!r22)))) fun u21:Bool=>some (.inr u21))) fun u20:Bool=>some (.inr u20))) fun u7:Bool=>bif u7 then (some false) else ((Ffp e3.Amount 0 1000000).bind fun r8=>bindJ (ρ:=Bool) (bif (!r8) then (some (.inr true)) else ((Ffp e3.Within 0 400).bind fun r15=>letJ (bif (!r15) then true else (letJ (bif (e3.Kind != 1) then (letJ (bif (e3.Amount != 0) then true else (e3.Within != 0)) fun u18:Bool=>u18) else false) fun u17:Bool=>u17)) fun u16:Bool=>some (.inr u16))) fun u9:Bool=>bif u9 then (some false) else (bif (e3.Repair==([]:Str)) then (some true) else ((Ffh c_1 e3.Repair).bind fun r10=>bindJ (ρ:=Bool) (bif (e3.Kind != 3) then (bindL (ρ:=Bool) (bif (decide (r10≥0)) then (bindL (ρ:=Bool) (bif (r10 != i_2) then ((getI c_1.Clauses r10).bind fun e14=>some (.inr (e14.Kind==1))) else (some (.inr false))) fun u13:Bool=>some (.inr u13)) else (some (.inr false))) fun u12:Bool=>some (.inr u12)) else (some (.inr false))) fun u11:Bool=>some u11))))
noncomputable def Fff_la_F (slf_Fff:(Condition×(List Str))→Option (List Str))(c_3:Condition)(list_4:List Str)(self:(Int×(List Str))→Option ((List Str)⊕(List Str)))(x4:Int×(List Str)):Option ((List Str)⊕(List Str)):=
 bif (decide (x4.1<(len c_3.Parts))) then ((getI c_3.Parts x4.1).bind fun e5=>(slf_Fff (e5,x4.2)).bind fun r6=>self ((w64 (x4.1+1)),r6)) else (some (.inr x4.2))
noncomputable def Fff_la (slf_Fff:(Condition×(List Str))→Option (List Str))(c_3:Condition)(list_4:List Str): (Int×(List Str))→Option ((List Str)⊕(List Str)):=fixO (Fff_la_F slf_Fff c_3 list_4)
theorem Fff_la_fin (slf_Fff:(Condition×(List Str))→Option (List Str))(c_3:Condition)(list_4:List Str): ∀a,Fin1 fun f=>Fff_la_F slf_Fff c_3 list_4 f a:=by
 intro a
 unfold Fff_la_F
 repeat first|exact f_const|exact f_self|refine f_cond ?_ ?_|refine f_bindJ ?_ (fun _=>?_)|refine f_bindL ?_ (fun _=>?_)|refine f_bind ?_ (fun _=>?_)|refine f_letJ (fun _=>?_)
theorem Fff_la_eq (slf_Fff:(Condition×(List Str))→Option (List Str))(c_3:Condition)(list_4:List Str)(x:Int×(List Str)):Fff_la slf_Fff c_3 list_4 x=Fff_la_F slf_Fff c_3 list_4 (Fff_la slf_Fff c_3 list_4) x:=fix_eq (Fff_la_fin slf_Fff c_3 list_4) x
noncomputable def Fff_B (slf_Fff:(Condition×(List Str))→Option (List Str))(c_3:Condition)(list_4:List Str):Option (List Str):=
 bindJ (ρ:=(List Str)) (bif (c_3.Op==2) then ((appI 16 list_4 [c_3.Name]).bind fun a8=>some (.inr a8)) else (some (.inr list_4))) fun u3:(List Str)=>bindJ (ρ:=(List Str)) (Fff_la slf_Fff c_3 list_4 (0,u3)) fun u7:(List Str)=>some u7
noncomputable def Fff_G (slf_Fff:(Condition×(List Str))→Option (List Str))(x:Condition×(List Str)):Option (List Str):=Fff_B slf_Fff x.1 x.2
noncomputable def Fff (c_3:Condition)(list_4:List Str):Option (List Str):=fixO Fff_G (c_3,list_4)
theorem Fff_fin:∀x,Fin1 fun slf_Fff=>Fff_G slf_Fff x:=by
 intro x
 unfold Fff_G Fff_B
 repeat first|exact f_const|exact f_self|exact f_selfL|exact f_selfR|exact f_selfLL|exact f_selfRL|exact f_selfLLL|exact f_selfRLL|refine f_cond ?_ ?_|refine f_bindJ ?_ (fun _=>?_)|refine f_bindL ?_ (fun _=>?_)|refine f_bind ?_ (fun _=>?_)|refine f_letJ (fun _=>?_)|refine f_fix (fun _=>?_) | unfold Fff_la | unfold Fff_la_F
theorem Fff_eq (c_3:Condition)(list_4:List Str):Fff c_3 list_4=Fff_B (fixO Fff_G) c_3 list_4:=fix_eq Fff_fin (c_3,list_4)
noncomputable def Ffby_lb_F (s_2:List Str)(x2:Int)(self:(Int×Int×(List Str))→Option ((List Str)⊕(Int×(List Str))))(x6:Int×Int×(List Str)):Option ((List Str)⊕(Int×(List Str))):=
 bif (decide (x6.2.1<(((Int.toNat (len s_2) - Int.toNat x2):Nat):Int))) then ((getP x6.2.2 (0+Int.toNat x2) (Int.toNat (len s_2) - Int.toNat x2) x6.2.1).bind fun e7=>(getP x6.2.2 (0+Int.toNat x2) (Int.toNat (len s_2) - Int.toNat x2) (w64 (x6.2.1 - 1))).bind fun e8=>bindL (ρ:=(List Str)) (bif (!(e7==e8)) then ((getP x6.2.2 (0+Int.toNat x2) (Int.toNat (len s_2) - Int.toNat x2) x6.2.1).bind fun e10=>(getI x6.2.2 x6.1).bind fun e11=>some (.inr ((w64 (x6.1+1)),(setI x6.2.2 x6.1 e10)))) else (some (.inr (x6.1,x6.2.2)))) fun u9:Int×(List Str)=>self (u9.1,(w64 (x6.2.1+1)),u9.2)) else (some (.inr (x6.1,x6.2.2)))
noncomputable def Ffby_lb (s_2:List Str)(x2:Int):(Int×Int×(List Str))→Option ((List Str)⊕(Int×(List Str))):=fixO (Ffby_lb_F s_2 x2)
theorem Ffby_lb_fin (s_2:List Str)(x2:Int):∀a,Fin1 fun f=>Ffby_lb_F s_2 x2 f a:=by
 intro a
 unfold Ffby_lb_F
 repeat first|exact f_const|exact f_self|refine f_cond ?_ ?_|refine f_bindJ ?_ (fun _=>?_)|refine f_bindL ?_ (fun _=>?_)|refine f_bind ?_ (fun _=>?_)|refine f_letJ (fun _=>?_)
theorem Ffby_lb_eq (s_2:List Str)(x2:Int)(x:Int×Int×(List Str)):Ffby_lb s_2 x2 x=Ffby_lb_F s_2 x2 (Ffby_lb s_2 x2) x:=fix_eq (Ffby_lb_fin s_2 x2) x
noncomputable def Ffby_la_F (s_2:List Str)(self:Int→Option ((List Str)⊕(List Str)))(x2:Int):Option ((List Str)⊕(List Str)):=
 bif (decide (x2<(len s_2))) then ((getI s_2 x2).bind fun e3=>(getI s_2 (w64 (x2 - 1))).bind fun e4=>bif (e3==e4) then ((subP s_2.length x2 (len s_2)).bind fun s5=>bindL (ρ:=(List Str)) (Ffby_lb s_2 x2 (x2,1,s_2)) fun u15:Int×(List Str)=>(subP u15.2.length u15.1 (len u15.2)).bind fun s16=>(clrP u15.2 (0+Int.toNat u15.1) (Int.toNat (len u15.2) - Int.toNat u15.1) []).bind fun k17=>(subP k17.length 0 u15.1).bind fun s18=>(partP k17 (0+Int.toNat (0)) (Int.toNat u15.1 - Int.toNat (0))).bind fun p19=>some (.inl p19)) else (self (w64 (x2+1)))) else (some (.inr s_2))
noncomputable def Ffby_la (s_2:List Str): Int→Option ((List Str)⊕(List Str)):=fixO (Ffby_la_F s_2)
theorem Ffby_la_fin (s_2:List Str): ∀a,Fin1 fun f=>Ffby_la_F s_2 f a:=by
 intro a
 unfold Ffby_la_F
 repeat first|exact f_const|exact f_self|refine f_cond ?_ ?_|refine f_bindJ ?_ (fun _=>?_)|refine f_bindL ?_ (fun _=>?_)|refine f_bind ?_ (fun _=>?_)|refine f_letJ (fun _=>?_)
theorem Ffby_la_eq (s_2:List Str)(x:Int):Ffby_la s_2 x=Ffby_la_F s_2 (Ffby_la s_2) x:=fix_eq (Ffby_la_fin s_2) x
noncomputable def Ffby (s_2:List Str):Option (List Str):=
 bif (decide ((len s_2)<2)) then (some s_2) else (bindJ (ρ:=(List Str)) (Ffby_la s_2 1) fun u20:(List Str)=>some u20)
noncomputable def Ffo (list_5:List Str):Option (List Str):=
 (xSortS list_5).bind fun r2=>bif Nat.beq r2.length list_5.length then ((Ffby r2).bind fun r4=>some r4) else none
noncomputable def Ffl_la_F (c_1:Contract)(self:(Int×(List Str))→Option ((List Str)⊕(List Str)))(x2:Int×(List Str)):Option ((List Str)⊕(List Str)):=
 bif (decide (x2.1<(len c_1.Clauses))) then ((getI c_1.Clauses x2.1).bind fun e3=>(appI 16 x2.2 [e3.Action]).bind fun a4=>(Fff e3.When a4).bind fun r5=>self ((w64 (x2.1+1)),r5)) else (some (.inr x2.2))
noncomputable def Ffl_la (c_1:Contract): (Int×(List Str))→Option ((List Str)⊕(List Str)):=fixO (Ffl_la_F c_1)
theorem Ffl_la_fin (c_1:Contract): ∀a,Fin1 fun f=>Ffl_la_F c_1 f a:=by
 intro a
 unfold Ffl_la_F
 repeat first|exact f_const|exact f_self|refine f_cond ?_ ?_|refine f_bindJ ?_ (fun _=>?_)|refine f_bindL ?_ (fun _=>?_)|refine f_bind ?_ (fun _=>?_)|refine f_letJ (fun _=>?_)
theorem Ffl_la_eq (c_1:Contract)(x:Int×(List Str)):Ffl_la c_1 x=Ffl_la_F c_1 (Ffl_la c_1) x:=fix_eq (Ffl_la_fin c_1) x
noncomputable def Ffl (c_1:Contract):Option (List Str):=
 bindJ (ρ:=(List Str)) (Ffl_la c_1 (0,[])) fun u6:(List Str)=>(Ffo u6).bind fun r7=>some r7
noncomputable def Ffb_la_F (c_1:Contract)(self:Int→Option (Bool⊕Unit))(x4:Int):Option (Bool⊕Unit):=
 bif (decide (x4<(len c_1.Clauses))) then ((Ffm c_1 x4).bind fun r5=>bif (!r5) then (some (.inl false)) else (self (w64 (x4+1)))) else (some (.inr ()))
noncomputable def Ffb_la (c_1:Contract): Int→Option (Bool⊕Unit):=fixO (Ffb_la_F c_1)
theorem Ffb_la_fin (c_1:Contract): ∀a,Fin1 fun f=>Ffb_la_F c_1 f a:=by
 intro a
 unfold Ffb_la_F
 repeat first|exact f_const|exact f_self|refine f_cond ?_ ?_|refine f_bindJ ?_ (fun _=>?_)|refine f_bindL ?_ (fun _=>?_)|refine f_bind ?_ (fun _=>?_)|refine f_letJ (fun _=>?_)
theorem Ffb_la_eq (c_1:Contract)(x:Int):Ffb_la c_1 x=Ffb_la_F c_1 (Ffb_la c_1) x:=fix_eq (Ffb_la_fin c_1) x
noncomputable def Ffb (c_1:Contract):Option Bool:=
 (Ffg c_1.Parties).bind fun r2=>bindJ (ρ:=Bool) (bif (!r2) then (some (.inr true)) else ((Ffp (len c_1.Clauses) 1 12).bind fun r8=>some (.inr (!r8)))) fun u3:Bool=>bif u3 then (some false) else (bindJ (ρ:=Bool) (Ffb_la c_1 0) fun u6:Unit=>(Ffl c_1).bind fun r7=>some (decide ((len r7)≤16)))
noncomputable def Ffe (i_1:Int)(a_2:Contract):Option Bool:=
 (getI a_2.Clauses i_1).bind fun e3=>letJ (bif (e3.Repair==([]:Str)) then (letJ (bif (e3.Kind==1) then true else (e3.Kind==2)) fun u5:Bool=>u5) else false) fun u4:Bool=>some u4
noncomputable def Ffj_la_F (c_1:Contract)(holds_2:Contract)(self:(Int×(List Int))→Option ((List Int)⊕(List Int)))(x3:Int×(List Int)):Option ((List Int)⊕(List Int)):=
 bif (decide (x3.1<(len c_1.Clauses))) then ((Ffe x3.1 holds_2).bind fun r4=>bindL (ρ:=(List Int)) (bif r4 then ((appI 8 x3.2 [x3.1]).bind fun a6=>some (.inr a6)) else (some (.inr x3.2))) fun u5:(List Int)=>self ((w64 (x3.1+1)),u5)) else (some (.inr x3.2))
noncomputable def Ffj_la (c_1:Contract)(holds_2:Contract): (Int×(List Int))→Option ((List Int)⊕(List Int)):=fixO (Ffj_la_F c_1 holds_2)
theorem Ffj_la_fin (c_1:Contract)(holds_2:Contract): ∀a,Fin1 fun f=>Ffj_la_F c_1 holds_2 f a:=by
 intro a
 unfold Ffj_la_F
 repeat first|exact f_const|exact f_self|refine f_cond ?_ ?_|refine f_bindJ ?_ (fun _=>?_)|refine f_bindL ?_ (fun _=>?_)|refine f_bind ?_ (fun _=>?_)|refine f_letJ (fun _=>?_)
theorem Ffj_la_eq (c_1:Contract)(holds_2:Contract)(x:Int×(List Int)):Ffj_la c_1 holds_2 x=Ffj_la_F c_1 holds_2 (Ffj_la c_1 holds_2) x:=fix_eq (Ffj_la_fin c_1 holds_2) x
noncomputable def Ffj (c_1:Contract)(holds_2:Contract):Option (List Int):=
 bindJ (ρ:=(List Int)) (Ffj_la c_1 holds_2 (0,[])) fun u7:(List Int)=>some u7
noncomputable def Ffd (c_1:Contract):Option ((List Int)×Bool):=
 (Ffb c_1).bind fun r2=>bif (!r2) then (some ([],false)) else ((Ffj c_1 c_1).bind fun r3=>some (r3,true))
noncomputable def Ffy_la_F (a_1:List Int)(b_2:List Int)(self:Int→Option (Bool⊕Unit))(x3:Int):Option (Bool⊕Unit):=
 bif (decide (x3<(len a_1))) then ((getI a_1 x3).bind fun e4=>(getI b_2 x3).bind fun e5=>bif (e4 != e5) then (some (.inl false)) else (self (w64 (x3+1)))) else (some (.inr ()))
noncomputable def Ffy_la (a_1:List Int)(b_2:List Int): Int→Option (Bool⊕Unit):=fixO (Ffy_la_F a_1 b_2)
theorem Ffy_la_fin (a_1:List Int)(b_2:List Int): ∀a,Fin1 fun f=>Ffy_la_F a_1 b_2 f a:=by
 intro a
 unfold Ffy_la_F
 repeat first|exact f_const|exact f_self|refine f_cond ?_ ?_|refine f_bindJ ?_ (fun _=>?_)|refine f_bindL ?_ (fun _=>?_)|refine f_bind ?_ (fun _=>?_)|refine f_letJ (fun _=>?_)
theorem Ffy_la_eq (a_1:List Int)(b_2:List Int)(x:Int):Ffy_la a_1 b_2 x=Ffy_la_F a_1 b_2 (Ffy_la a_1 b_2) x:=fix_eq (Ffy_la_fin a_1 b_2) x
noncomputable def Ffy (a_1:List Int)(b_2:List Int):Option Bool:=
 bif ((len a_1) != (len b_2)) then (some false) else (bindJ (ρ:=Bool) (Ffy_la a_1 b_2 0) fun u6:Unit=>some true)
noncomputable def Ffz_la_F (a_1:List Str)(b_2:List Str)(self:Int→Option (Bool⊕Unit))(x3:Int):Option (Bool⊕Unit):=
 bif (decide (x3<(len a_1))) then ((getI a_1 x3).bind fun e4=>(getI b_2 x3).bind fun e5=>bif (!(e4==e5)) then (some (.inl false)) else (self (w64 (x3+1)))) else (some (.inr ()))
noncomputable def Ffz_la (a_1:List Str)(b_2:List Str): Int→Option (Bool⊕Unit):=fixO (Ffz_la_F a_1 b_2)
theorem Ffz_la_fin (a_1:List Str)(b_2:List Str): ∀a,Fin1 fun f=>Ffz_la_F a_1 b_2 f a:=by
 intro a
 unfold Ffz_la_F
 repeat first|exact f_const|exact f_self|refine f_cond ?_ ?_|refine f_bindJ ?_ (fun _=>?_)|refine f_bindL ?_ (fun _=>?_)|refine f_bind ?_ (fun _=>?_)|refine f_letJ (fun _=>?_)
theorem Ffz_la_eq (a_1:List Str)(b_2:List Str)(x:Int):Ffz_la a_1 b_2 x=Ffz_la_F a_1 b_2 (Ffz_la a_1 b_2) x:=fix_eq (Ffz_la_fin a_1 b_2) x
noncomputable def Ffz (a_1:List Str)(b_2:List Str):Option Bool:=
 bif ((len a_1) != (len b_2)) then (some false) else (bindJ (ρ:=Bool) (Ffz_la a_1 b_2 0) fun u6:Unit=>some true)
noncomputable def Ffw_la_F (slf_Ffu:(Condition×Condition)→Option Bool)(a_1:List Condition)(b_2:List Condition)(self:Int→Option (Bool⊕Unit))(x3:Int):Option (Bool⊕Unit):=
 bif (decide (x3<(len a_1))) then ((getI a_1 x3).bind fun e4=>(getI b_2 x3).bind fun e5=>(slf_Ffu (e4,e5)).bind fun r6=>bif (!r6) then (some (.inl false)) else (self (w64 (x3+1)))) else (some (.inr ()))
noncomputable def Ffw_la (slf_Ffu:(Condition×Condition)→Option Bool)(a_1:List Condition)(b_2:List Condition): Int→Option (Bool⊕Unit):=fixO (Ffw_la_F slf_Ffu a_1 b_2)
theorem Ffw_la_fin (slf_Ffu:(Condition×Condition)→Option Bool)(a_1:List Condition)(b_2:List Condition): ∀a,Fin1 fun f=>Ffw_la_F slf_Ffu a_1 b_2 f a:=by
 intro a
 unfold Ffw_la_F
 repeat first|exact f_const|exact f_self|refine f_cond ?_ ?_|refine f_bindJ ?_ (fun _=>?_)|refine f_bindL ?_ (fun _=>?_)|refine f_bind ?_ (fun _=>?_)|refine f_letJ (fun _=>?_)
theorem Ffw_la_eq (slf_Ffu:(Condition×Condition)→Option Bool)(a_1:List Condition)(b_2:List Condition)(x:Int):Ffw_la slf_Ffu a_1 b_2 x=Ffw_la_F slf_Ffu a_1 b_2 (Ffw_la slf_Ffu a_1 b_2) x:=fix_eq (Ffw_la_fin slf_Ffu a_1 b_2) x
noncomputable def Ffw (slf_Ffu:(Condition×Condition)→Option Bool)(a_1:List Condition)(b_2:List Condition):Option Bool:=
 bif ((len a_1) != (len b_2)) then (some false) else (bindJ (ρ:=Bool) (Ffw_la slf_Ffu a_1 b_2 0) fun u7:Unit=>some true)
noncomputable def Ffu_B (slf_Ffu:(Condition×Condition)→Option Bool)(a_1:Condition)(b_2:Condition):Option Bool:=
 bif (a_1.Op != b_2.Op) then (some false) else (bif (!(a_1.Name==b_2.Name)) then (some false) else (bif (a_1.Day != b_2.Day) then (some false) else ((Ffw slf_Ffu a_1.Parts b_2.Parts).bind fun r3=>bif (!r3) then (some false) else (some true))))
noncomputable def Ffu_G (slf_Ffu:(Condition×Condition)→Option Bool)(x:Condition×Condition):Option Bool:=Ffu_B slf_Ffu x.1 x.2
noncomputable def Ffu (a_1:Condition)(b_2:Condition):Option Bool:=fixO Ffu_G (a_1,b_2)
theorem Ffu_fin:∀x,Fin1 fun slf_Ffu=>Ffu_G slf_Ffu x:=by
 intro x
 unfold Ffu_G Ffu_B
 repeat first|exact f_const|exact f_self|exact f_selfL|exact f_selfR|exact f_selfLL|exact f_selfRL|exact f_selfLLL|exact f_selfRLL|refine f_cond ?_ ?_|refine f_bindJ ?_ (fun _=>?_)|refine f_bindL ?_ (fun _=>?_)|refine f_bind ?_ (fun _=>?_)|refine f_letJ (fun _=>?_)|refine f_fix (fun _=>?_) | unfold Ffw | unfold Ffw_la | unfold Ffw_la_F
theorem Ffu_eq (a_1:Condition)(b_2:Condition):Ffu a_1 b_2=Ffu_B (fixO Ffu_G) a_1 b_2:=fix_eq Ffu_fin (a_1,b_2)
noncomputable def Ffv (a_1:List Condition)(b_2:List Condition):Option Bool:=Ffw (fixO Ffu_G) a_1 b_2
noncomputable def Ffs (a_1:Clause)(b_2:Clause):Option Bool:=
 bif (!(a_1.Id==b_2.Id)) then (some false) else (bif (a_1.Kind != b_2.Kind) then (some false) else (bif (a_1.Party != b_2.Party) then (some false) else (bif (!(a_1.Action==b_2.Action)) then (some false) else (bif (a_1.Other != b_2.Other) then (some false) else (bif (a_1.Amount != b_2.Amount) then (some false) else ((Ffu a_1.When b_2.When).bind fun r3=>bif (!r3) then (some false) else (bif (a_1.Within != b_2.Within) then (some false) else (bif (!(a_1.Repair==b_2.Repair)) then (some false) else (some true)))))))))
noncomputable def Fft_la_F (a_1:List Clause)(b_2:List Clause)(self:Int→Option (Bool⊕Unit))(x3:Int):Option (Bool⊕Unit):=
 bif (decide (x3<(len a_1))) then ((getI a_1 x3).bind fun e4=>(getI b_2 x3).bind fun e5=>(Ffs e4 e5).bind fun r6=>bif (!r6) then (some (.inl false)) else (self (w64 (x3+1)))) else (some (.inr ()))
noncomputable def Fft_la (a_1:List Clause)(b_2:List Clause): Int→Option (Bool⊕Unit):=fixO (Fft_la_F a_1 b_2)
theorem Fft_la_fin (a_1:List Clause)(b_2:List Clause): ∀a,Fin1 fun f=>Fft_la_F a_1 b_2 f a:=by
 intro a
 unfold Fft_la_F
 repeat first|exact f_const|exact f_self|refine f_cond ?_ ?_|refine f_bindJ ?_ (fun _=>?_)|refine f_bindL ?_ (fun _=>?_)|refine f_bind ?_ (fun _=>?_)|refine f_letJ (fun _=>?_)
theorem Fft_la_eq (a_1:List Clause)(b_2:List Clause)(x:Int):Fft_la a_1 b_2 x=Fft_la_F a_1 b_2 (Fft_la a_1 b_2) x:=fix_eq (Fft_la_fin a_1 b_2) x
noncomputable def Fft (a_1:List Clause)(b_2:List Clause):Option Bool:=
 bif ((len a_1) != (len b_2)) then (some false) else (bindJ (ρ:=Bool) (Fft_la a_1 b_2 0) fun u7:Unit=>some true)
noncomputable def Ffx (a_1:Contract)(b_2:Contract):Option Bool:=
 (Ffz a_1.Parties b_2.Parties).bind fun r3=>bif (!r3) then (some false) else ((Fft a_1.Clauses b_2.Clauses).bind fun r4=>bif (!r4) then (some false) else (some true))
noncomputable def Ffbg_la_F (k_1:Int)(self:(Int×Str)→Option (Str⊕Str))(x2:Int×Str):Option (Str⊕Str):=
 bif (decide (x2.1>0)) then ((catS ([(IntKind.u8.wrap (w64 (48+(x2.1.tmod 10))))].map fun n=>UInt8.ofNat n.toNat) x2.2).bind fun s3=>self ((w64 (x2.1.tdiv 10)),s3)) else (some (.inr x2.2))
noncomputable def Ffbg_la (k_1:Int): (Int×Str)→Option (Str⊕Str):=fixO (Ffbg_la_F k_1)
theorem Ffbg_la_fin (k_1:Int): ∀a,Fin1 fun f=>Ffbg_la_F k_1 f a:=by
 intro a
 unfold Ffbg_la_F
 repeat first|exact f_const|exact f_self|refine f_cond ?_ ?_|refine f_bindJ ?_ (fun _=>?_)|refine f_bindL ?_ (fun _=>?_)|refine f_bind ?_ (fun _=>?_)|refine f_letJ (fun _=>?_)
theorem Ffbg_la_eq (k_1:Int)(x:Int×Str):Ffbg_la k_1 x=Ffbg_la_F k_1 (Ffbg_la k_1) x:=fix_eq (Ffbg_la_fin k_1) x
noncomputable def Ffbg (k_1:Int):Option Str:=
 bif (decide (k_1≤0)) then (some ([109,48]:Str)) else (bindJ (ρ:=Str) (Ffbg_la k_1 (k_1,([]:Str))) fun u4:Str=>(catS ([109]:Str) u4).bind fun s5=>some s5)
noncomputable def Ffbf_la_F (a_7:List Str)(k_8:Int)(self:(Int×Int×(List Str))→Option ((Int×(List Str))⊕(Int×(List Str))))(x3:Int×Int×(List Str)):Option ((Int×(List Str))⊕(Int×(List Str))):=
 bif (decide (x3.2.1<(len x3.2.2))) then ((Ffbg x3.1).bind fun r4=>(getI x3.2.2 x3.2.1).bind fun e5=>self ((w64 (x3.1+1)),(w64 (x3.2.1+1)),(setI x3.2.2 x3.2.1 r4))) else (some (.inr (x3.1,x3.2.2)))
noncomputable def Ffbf_la (a_7:List Str)(k_8:Int): (Int×Int×(List Str))→Option ((Int×(List Str))⊕(Int×(List Str))):=fixO (Ffbf_la_F a_7 k_8)
theorem Ffbf_la_fin (a_7:List Str)(k_8:Int): ∀a,Fin1 fun f=>Ffbf_la_F a_7 k_8 f a:=by
 intro a
 unfold Ffbf_la_F
 repeat first|exact f_const|exact f_self|refine f_cond ?_ ?_|refine f_bindJ ?_ (fun _=>?_)|refine f_bindL ?_ (fun _=>?_)|refine f_bind ?_ (fun _=>?_)|refine f_letJ (fun _=>?_)
theorem Ffbf_la_eq (a_7:List Str)(k_8:Int)(x:Int×Int×(List Str)):Ffbf_la a_7 k_8 x=Ffbf_la_F a_7 k_8 (Ffbf_la a_7 k_8) x:=fix_eq (Ffbf_la_fin a_7 k_8) x
noncomputable def Ffbf (a_7:List Str)(k_8:Int):Option (Int×(List Str)):=
 bindJ (ρ:=Int×(List Str)) (Ffbf_la a_7 k_8 (k_8,0,a_7)) fun u6:Int×(List Str)=>bif Nat.beq u6.2.length a_7.length then (some (u6.1,u6.2)) else none
noncomputable def Ffbc_la_F (slf_Ffbc:((List Condition)×Int)→Option (Int×(List Condition)))(a_6:List Condition)(k_7:Int)(self:(Int×Int×(List Condition))→Option ((Int×(List Condition))⊕(Int×(List Condition))))(x3:Int×Int×(List Condition)):Option ((Int×(List Condition))⊕(Int×(List Condition))):=
 bif (decide (x3.2.1<(len x3.2.2))) then ((getI x3.2.2 x3.2.1).bind fun e4=>(Ffbg (w64 (x3.1+1))).bind fun r5=>(getI (setI x3.2.2 x3.2.1 (Condition.mk x3.1 e4.Name e4.Day e4.Parts)) x3.2.1).bind fun e6=>letJ (setI (setI x3.2.2 x3.2.1 (Condition.mk x3.1 e4.Name e4.Day e4.Parts)) x3.2.1 (Condition.mk e6.Op r5 e6.Day e6.Parts)) fun rw7:List Condition=>(getI rw7 x3.2.1).bind fun e9=>letJ (setI rw7 x3.2.1 (Condition.mk e9.Op e9.Name (w64 ((w64 (x3.1+1))+1)) e9.Parts)) fun rw10:List Condition=>(getI rw10 x3.2.1).bind fun e13=>(slf_Ffbc (e13.Parts,(w64 ((w64 ((w64 (x3.1+1))+1))+1)))).bind fun r14=>bif Nat.beq r14.2.length e13.Parts.length then (letJ (setI rw10 x3.2.1 (Condition.mk e13.Op e13.Name e13.Day r14.2)) fun rw16:List Condition=>self (r14.1,(w64 (x3.2.1+1)),rw16)) else none) else (some (.inr (x3.1,x3.2.2)))
noncomputable def Ffbc_la (slf_Ffbc:((List Condition)×Int)→Option (Int×(List Condition)))(a_6:List Condition)(k_7:Int): (Int×Int×(List Condition))→Option ((Int×(List Condition))⊕(Int×(List Condition))):=fixO (Ffbc_la_F slf_Ffbc a_6 k_7)
theorem Ffbc_la_fin (slf_Ffbc:((List Condition)×Int)→Option (Int×(List Condition)))(a_6:List Condition)(k_7:Int): ∀a,Fin1 fun f=>Ffbc_la_F slf_Ffbc a_6 k_7 f a:=by
 intro a
 unfold Ffbc_la_F
 repeat first|exact f_const|exact f_self|refine f_cond ?_ ?_|refine f_bindJ ?_ (fun _=>?_)|refine f_bindL ?_ (fun _=>?_)|refine f_bind ?_ (fun _=>?_)|refine f_letJ (fun _=>?_)
theorem Ffbc_la_eq (slf_Ffbc:((List Condition)×Int)→Option (Int×(List Condition)))(a_6:List Condition)(k_7:Int)(x:Int×Int×(List Condition)):Ffbc_la slf_Ffbc a_6 k_7 x=Ffbc_la_F slf_Ffbc a_6 k_7 (Ffbc_la slf_Ffbc a_6 k_7) x:=fix_eq (Ffbc_la_fin slf_Ffbc a_6 k_7) x
noncomputable def Ffbc_B (slf_Ffbc:((List Condition)×Int)→Option (Int×(List Condition)))(a_6:List Condition)(k_7:Int):Option (Int×(List Condition)):=
 bindJ (ρ:=Int×(List Condition)) (Ffbc_la slf_Ffbc a_6 k_7 (k_7,0,a_6)) fun u20:Int×(List Condition)=>bif Nat.beq u20.2.length a_6.length then (some (u20.1,u20.2)) else none
noncomputable def Ffbc_G (slf_Ffbc:((List Condition)×Int)→Option (Int×(List Condition)))(x:(List Condition)×Int):Option (Int×(List Condition)):=Ffbc_B slf_Ffbc x.1 x.2
noncomputable def Ffbc (a_6:List Condition)(k_7:Int):Option (Int×(List Condition)):=fixO Ffbc_G (a_6,k_7)
theorem Ffbc_fin:∀x,Fin1 fun slf_Ffbc=>Ffbc_G slf_Ffbc x:=by
 intro x
 unfold Ffbc_G Ffbc_B
 repeat first|exact f_const|exact f_self|exact f_selfL|exact f_selfR|exact f_selfLL|exact f_selfRL|exact f_selfLLL|exact f_selfRLL|refine f_cond ?_ ?_|refine f_bindJ ?_ (fun _=>?_)|refine f_bindL ?_ (fun _=>?_)|refine f_bind ?_ (fun _=>?_)|refine f_letJ (fun _=>?_)|refine f_fix (fun _=>?_) | unfold Ffbc_la | unfold Ffbc_la_F
theorem Ffbc_eq (a_6:List Condition)(k_7:Int):Ffbc a_6 k_7=Ffbc_B (fixO Ffbc_G) a_6 k_7:=fix_eq Ffbc_fin (a_6,k_7)
noncomputable def Ffbb_la_F (a_7:List Clause)(k_8:Int)(self:(Int×Int×(List Clause))→Option ((Int×(List Clause))⊕(Int×(List Clause))))(x3:Int×Int×(List Clause)):Option ((Int×(List Clause))⊕(Int×(List Clause))):=
 bif (decide (x3.2.1<(len x3.2.2))) then ((Ffbg x3.1).bind fun r4=>(getI x3.2.2 x3.2.1).bind fun e5=>(getI (setI x3.2.2 x3.2.1 (Clause.mk r4 e5.Kind e5.Party e5.Action e5.Other e5.Amount e5.When e5.Within e5.Repair)) x3.2.1).bind fun e6=>letJ (setI (setI x3.2.2 x3.2.1 (Clause.mk r4 e5.Kind e5.Party e5.Action e5.Other e5.Amount e5.When e5.Within e5.Repair)) x3.2.1 (Clause.mk e6.Id (w64 (x3.1+1)) e6.Party e6.Action e6.Other e6.Amount e6.When e6.Within e6.Repair)) fun rw7:List Clause=>(getI rw7 x3.2.1).bind fun e9=>letJ (setI rw7 x3.2.1 (Clause.mk e9.Id e9.Kind (w64 ((w64 (x3.1+1))+1)) e9.Action e9.Other e9.Amount e9.When e9.Within e9.Repair)) fun rw10:List Clause=>(Ffbg (w64 ((w64 ((w64 (x3.1+1))+1))+1))).bind fun r13=>(getI rw10 x3.2.1).bind fun e14=>letJ (setI rw10 x3.2.1 (Clause.mk e14.Id e14.Kind e14.Party r13 e14.Other e14.Amount e14.When e14.Within e14.Repair)) fun rw15:List Clause=>(getI rw15 x3.2.1).bind fun e19=>letJ (setI rw15 x3.2.1 (Clause.mk e19.Id e19.Kind e19.Party e19.Action (w64 ((w64 ((w64 ((w64 (x3.1+1))+1))+1))+1)) e19.Amount e19.When e19.Within e19.Repair)) fun rw20:List Clause=>(getI rw20 x3.2.1).bind fun e25=>letJ (setI rw20 x3.2.1 (Clause.mk e25.Id e25.Kind e25.Party e25.Action e25.Other (w64 ((w64 ((w64 ((w64 ((w64 (x3.1+1))+1))+1))+1))+1)) e25.When e25.Within e25.Repair)) fun rw26:List Clause=>(getI rw26 x3.2.1).bind fun e32=>letJ (setI rw26 x3.2.1 (Clause.mk e32.Id e32.Kind e32.Party e32.Action e32.Other e32.Amount (Condition.mk (w64 ((w64 ((w64 ((w64 ((w64 ((w64 (x3.1+1))+1))+1))+1))+1))+1)) e32.When.Name e32.When.Day e32.When.Parts) e32.Within e32.Repair)) fun rw33:List Clause=>(Ffbg (w64 ((w64 ((w64 ((w64 ((w64 ((w64 ((w64 (x3.1+1))+1))+1))+1))+1))+1))+1))).bind fun r40=>(getI rw33 x3.2.1).bind fun e41=>letJ (setI rw33 x3.2.1 (Clause.mk e41.Id e41.Kind e41.Party e41.Action e41.Other e41.Amount (Condition.mk e41.When.Op r40 e41.When.Day e41.When.Parts) e41.Within e41.Repair)) fun rw42:List Clause=>(getI rw42 x3.2.1).bind fun e50=>letJ (setI rw42 x3.2.1 (Clause.mk e50.Id e50.Kind e50.Party e50.Action e50.Other e50.Amount (Condition.mk e50.When.Op e50.When.Name (w64 ((w64 ((w64 ((w64 ((w64 ((w64 ((w64 ((w64 (x3.1+1))+1))+1))+1))+1))+1))+1))+1)) e50.When.Parts) e50.Within e50.Repair)) fun rw51:List Clause=>(getI rw51 x3.2.1).bind fun e60=>(Ffbc e60.When.Parts (w64 ((w64 ((w64 ((w64 ((w64 ((w64 ((w64 ((w64 ((w64 (x3.1+1))+1))+1))+1))+1))+1))+1))+1))+1))).bind fun r61=>bif Nat.beq r61.2.length e60.When.Parts.length then (letJ (setI rw51 x3.2.1 (Clause.mk e60.Id e60.Kind e60.Party e60.Action e60.Other e60.Amount (Condition.mk e60.When.Op e60.When.Name e60.When.Day r61.2) e60.Within e60.Repair)) fun rw63:List Clause=>(getI rw63 x3.2.1).bind fun e73=>letJ (setI rw63 x3.2.1 (Clause.mk e73.Id e73.Kind e73.Party e73.Action e73.Other e73.Amount e73.When r61.1 e73.Repair)) fun rw74:List Clause=>(Ffbg (w64 (r61.1+1))).bind fun r85=>(getI rw74 x3.2.1).bind fun e86=>letJ (setI rw74 x3.2.1 (Clause.mk e86.Id e86.Kind e86.Party e86.Action e86.Other e86.Amount e86.When e86.Within r85)) fun rw87:List Clause=>self ((w64 ((w64 (r61.1+1))+1)),(w64 (x3.2.1+1)),rw87)) else none) else (some (.inr (x3.1,x3.2.2)))
noncomputable def Ffbb_la (a_7:List Clause)(k_8:Int): (Int×Int×(List Clause))→Option ((Int×(List Clause))⊕(Int×(List Clause))):=fixO (Ffbb_la_F a_7 k_8)
theorem Ffbb_la_fin (a_7:List Clause)(k_8:Int): ∀a,Fin1 fun f=>Ffbb_la_F a_7 k_8 f a:=by
 intro a
 unfold Ffbb_la_F
 repeat first|exact f_const|exact f_self|refine f_cond ?_ ?_|refine f_bindJ ?_ (fun _=>?_)|refine f_bindL ?_ (fun _=>?_)|refine f_bind ?_ (fun _=>?_)|refine f_letJ (fun _=>?_)
theorem Ffbb_la_eq (a_7:List Clause)(k_8:Int)(x:Int×Int×(List Clause)):Ffbb_la a_7 k_8 x=Ffbb_la_F a_7 k_8 (Ffbb_la a_7 k_8) x:=fix_eq (Ffbb_la_fin a_7 k_8) x
noncomputable def Ffbb (a_7:List Clause)(k_8:Int):Option (Int×(List Clause)):=
 bindJ (ρ:=Int×(List Clause)) (Ffbb_la a_7 k_8 (k_8,0,a_7)) fun u99:Int×(List Clause)=>bif Nat.beq u99.2.length a_7.length then (some (u99.1,u99.2)) else none
noncomputable def Ffbd (a_7:Contract)(k_8:Int):Option Int:=
 (Ffbf a_7.Parties k_8).bind fun r3=>bif Nat.beq r3.2.length a_7.Parties.length then ((Ffbb a_7.Clauses r3.1).bind fun r5=>bif Nat.beq r5.2.length a_7.Clauses.length then (some r5.1) else none) else none
noncomputable def Ffbe_la_F (a_6:List Int)(k_7:Int)(self:(Int×Int×(List Int))→Option ((Int×(List Int))⊕(Int×(List Int))))(x3:Int×Int×(List Int)):Option ((Int×(List Int))⊕(Int×(List Int))):=
 bif (decide (x3.2.1<(len x3.2.2))) then ((getI x3.2.2 x3.2.1).bind fun e4=>self ((w64 (x3.1+1)),(w64 (x3.2.1+1)),(setI x3.2.2 x3.2.1 x3.1))) else (some (.inr (x3.1,x3.2.2)))
noncomputable def Ffbe_la (a_6:List Int)(k_7:Int): (Int×Int×(List Int))→Option ((Int×(List Int))⊕(Int×(List Int))):=fixO (Ffbe_la_F a_6 k_7)
theorem Ffbe_la_fin (a_6:List Int)(k_7:Int): ∀a,Fin1 fun f=>Ffbe_la_F a_6 k_7 f a:=by
 intro a
 unfold Ffbe_la_F
 repeat first|exact f_const|exact f_self|refine f_cond ?_ ?_|refine f_bindJ ?_ (fun _=>?_)|refine f_bindL ?_ (fun _=>?_)|refine f_bind ?_ (fun _=>?_)|refine f_letJ (fun _=>?_)
theorem Ffbe_la_eq (a_6:List Int)(k_7:Int)(x:Int×Int×(List Int)):Ffbe_la a_6 k_7 x=Ffbe_la_F a_6 k_7 (Ffbe_la a_6 k_7) x:=fix_eq (Ffbe_la_fin a_6 k_7) x
noncomputable def Ffbe (a_6:List Int)(k_7:Int):Option (Int×(List Int)):=
 bindJ (ρ:=Int×(List Int)) (Ffbe_la a_6 k_7 (k_7,0,a_6)) fun u5:Int×(List Int)=>bif Nat.beq u5.2.length a_6.length then (some (u5.1,u5.2)) else none
noncomputable def Ffba_la_F (a_1:List Int)(k_2:Int)(self:(Int×Int)→Option (Int⊕Int))(x3:Int×Int):Option (Int⊕Int):=
 bif (decide (x3.2<(len a_1))) then ((getI a_1 x3.2).bind fun e4=>bif (e4 != x3.1) then (some (.inl (-1))) else (self ((w64 (x3.1+1)),(w64 (x3.2+1))))) else (some (.inr x3.1))
noncomputable def Ffba_la (a_1:List Int)(k_2:Int): (Int×Int)→Option (Int⊕Int):=fixO (Ffba_la_F a_1 k_2)
theorem Ffba_la_fin (a_1:List Int)(k_2:Int): ∀a,Fin1 fun f=>Ffba_la_F a_1 k_2 f a:=by
 intro a
 unfold Ffba_la_F
 repeat first|exact f_const|exact f_self|refine f_cond ?_ ?_|refine f_bindJ ?_ (fun _=>?_)|refine f_bindL ?_ (fun _=>?_)|refine f_bind ?_ (fun _=>?_)|refine f_letJ (fun _=>?_)
theorem Ffba_la_eq (a_1:List Int)(k_2:Int)(x:Int×Int):Ffba_la a_1 k_2 x=Ffba_la_F a_1 k_2 (Ffba_la a_1 k_2) x:=fix_eq (Ffba_la_fin a_1 k_2) x
noncomputable def Ffba (a_1:List Int)(k_2:Int):Option Int:=
 bindJ (ρ:=Int) (Ffba_la a_1 k_2 (k_2,0)) fun u5:Int=>some u5
noncomputable def laws_FnExactMissingRemedies (aC_1:Contract):Option Bool:=
 (Ffbm aC_1 1048576).bind fun r2=>bif (decide (r2<0)) then (some true) else ((Ffbt aC_1).bind fun r3=>(Ffcc r3).bind fun r4=>(Ffbt aC_1).bind fun r5=>(Ffd r5).bind fun r6=>(Ffy r6.1 r4.1).bind fun r7=>letJ (bif (!r7) then true else (!(r6.2==r4.2))) fun u8:Bool=>bif u8 then (some false) else ((Ffbt aC_1).bind fun r9=>(Ffx r5 r9).bind fun r10=>bif (!r10) then (some false) else ((Ffbd r5 1).bind fun r11=>bindJ (ρ:=Bool) (bif (decide (r11<0)) then (some (.inr true)) else ((Ffy r6.1 r4.1).bind fun r21=>letJ (bif (!r21) then true else (!(r6.2==r4.2))) fun u22:Bool=>some (.inr u22))) fun u12:Bool=>bif u12 then (some false) else ((Ffbe r6.1 1).bind fun r13=>bif Nat.beq r13.2.length r6.1.length then ((Ffba r13.2 1).bind fun r15=>bif (decide (r15<0)) then (some false) else (bif (r15 != r13.1) then (some false) else ((Ffbt aC_1).bind fun r16=>(Ffd r16).bind fun r17=>(Ffy r17.1 r4.1).bind fun r18=>letJ (bif (!r18) then true else (!(r17.2==r4.2))) fun u19:Bool=>bif u19 then (some false) else ((Ffba r13.2 1).bind fun r20=>bif (decide (r20<0)) then (some false) else (bif (r20 != r13.1) then (some false) else (some true)))))) else none))))
end Go.Ln
