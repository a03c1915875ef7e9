/-
  What each function of the law computes, as a plain function.
-/
import Derived.Test.YtniljljgdoncpaaGreatDoorLnC
set_option maxHeartbeats 4000000
set_option linter.unusedVariables false
set_option linter.unusedSimpArgs false
set_option maxRecDepth 100000
namespace Go.Ln
open Go
structure Condition where
 Op:Int
 Name:Str
 Day:Int
 Parts:List Condition
mutual
def encI_Condition:Condition→V
 | ⟨a0,a1,a2,a3⟩=>.agg [I a0,str a1,I a2,.isl false (encI_Conditions a3)]
def encI_Conditions:List Condition→List V
 | []=>[]
 | x::xs=>encI_Condition x::encI_Conditions xs
end
theorem encI_Conditions_map:∀xs,encI_Conditions xs=xs.map encI_Condition
 | []=>by simp[encI_Conditions]
 | x::xs=>by simp[encI_Conditions,encI_Conditions_map xs]
def encI_Condition1 (x:Condition):V:=.agg [I x.Op,str x.Name,I x.Day,.isl false (x.Parts.map encI_Condition)]
theorem encI_Condition_eq (x:Condition):encI_Condition x=encI_Condition1 x:=by cases x;simp only[encI_Condition,encI_Condition1,encI_Conditions_map]
theorem encI_Condition_cells (x:Condition):(cells (encI_Condition x)).length=4∧(cells (encI_Condition x)).all cellV=true:=by rw[encI_Condition_eq];exact⟨rfl,rfl⟩
mutual
theorem encI_Condition_inj:∀(a b:Condition),encI_Condition a=encI_Condition b→a=b
 | ⟨a0,a1,a2,a3⟩,⟨b0,b1,b2,b3⟩,h=>by
  simp only[encI_Condition] at h
  have k0:=V.agg.inj h
  obtain⟨h0,k1⟩:=List.cons.inj k0
  obtain rfl:=I_inj a0 b0 h0
  obtain⟨h1,k2⟩:=List.cons.inj k1
  obtain rfl:=str_inj a1 b1 h1
  obtain⟨h2,k3⟩:=List.cons.inj k2
  obtain rfl:=I_inj a2 b2 h2
  obtain⟨h3,k4⟩:=List.cons.inj k3
  have e3:encI_Conditions a3=encI_Conditions b3:=by simpa using h3
  obtain rfl:=encI_Conditions_inj a3 b3 e3
  rfl
theorem encI_Conditions_inj:∀(a b:List Condition),encI_Conditions a=encI_Conditions b→a=b
 | [],[],_=>rfl
 | [],_::_,h=>by simp[encI_Conditions] at h
 | _::_,[],h=>by simp[encI_Conditions] at h
 | x::xs,y::ys,h=>by
  simp only[encI_Conditions,List.cons.injEq] at h
  rw[encI_Condition_inj x y h.1,encI_Conditions_inj xs ys h.2]
end
theorem encI_Condition1_inj (a b:Condition)(h:encI_Condition1 a=encI_Condition1 b):a=b:=encI_Condition_inj a b (by rw[encI_Condition_eq,encI_Condition_eq,h])
mutual
def encO_Condition:Condition→V
 | ⟨a0,a1,a2,a3⟩=>.agg [I a0,str a1,I a2,.usl 4 (encO_Conditions a3)]
def encO_Conditions:List Condition→List V
 | []=>[]
 | x::xs=>encO_Condition x::encO_Conditions xs
end
theorem encO_Conditions_map:∀xs,encO_Conditions xs=xs.map encO_Condition
 | []=>by simp[encO_Conditions]
 | x::xs=>by simp[encO_Conditions,encO_Conditions_map xs]
def encO_Condition1 (x:Condition):V:=.agg [I x.Op,str x.Name,I x.Day,.usl 4 (x.Parts.map encO_Condition)]
theorem encO_Condition_eq (x:Condition):encO_Condition x=encO_Condition1 x:=by cases x;simp only[encO_Condition,encO_Condition1,encO_Conditions_map]
theorem encO_Condition_cells (x:Condition):(cells (encO_Condition x)).length=4∧(cells (encO_Condition x)).all cellV=true:=by rw[encO_Condition_eq];exact⟨rfl,rfl⟩
mutual
theorem encO_Condition_inj:∀(a b:Condition),encO_Condition a=encO_Condition b→a=b
 | ⟨a0,a1,a2,a3⟩,⟨b0,b1,b2,b3⟩,h=>by
  simp only[encO_Condition] at h
  have k0:=V.agg.inj h
  obtain⟨h0,k1⟩:=List.cons.inj k0
  obtain rfl:=I_inj a0 b0 h0
  obtain⟨h1,k2⟩:=List.cons.inj k1
  obtain rfl:=str_inj a1 b1 h1
  obtain⟨h2,k3⟩:=List.cons.inj k2
  obtain rfl:=I_inj a2 b2 h2
  obtain⟨h3,k4⟩:=List.cons.inj k3
  have e3:encO_Conditions a3=encO_Conditions b3:=by simpa using h3
  obtain rfl:=encO_Conditions_inj a3 b3 e3
  rfl
theorem encO_Conditions_inj:∀(a b:List Condition),encO_Conditions a=encO_Conditions b→a=b
 | [],[],_=>rfl
 | [],_::_,h=>by simp[encO_Conditions] at h
 | _::_,[],h=>by simp[encO_Conditions] at h
 | x::xs,y::ys,h=>by
  simp only[encO_Conditions,List.cons.injEq] at h
  rw[encO_Condition_inj x y h.1,encO_Conditions_inj xs ys h.2]
end
theorem encO_Condition1_inj (a b:Condition)(h:encO_Condition1 a=encO_Condition1 b):a=b:=encO_Condition_inj a b (by rw[encO_Condition_eq,encO_Condition_eq,h])
theorem encI_Condition_imm (x:Condition):imm (encI_Condition x)=encI_Condition x:=by rw[encI_Condition_eq];rfl
mutual
theorem encO_Condition_imm:∀x:Condition,imm (encO_Condition x)=encI_Condition x
 | ⟨a0,a1,a2,a3⟩=>by simp[encO_Condition,encI_Condition,imm,imms,str,encO_Conditions_imm]
theorem encO_Conditions_imm:∀xs:List Condition,imms (encO_Conditions xs)=encI_Conditions xs
 | []=>by simp[encO_Conditions,encI_Conditions,imms]
 | x::xs=>by simp[encO_Conditions,encI_Conditions,imms,encO_Condition_imm x,encO_Conditions_imm xs]
end
mutual
theorem encO_Condition_himm:∀x:Condition,hasImm (encO_Condition x)=false
 | ⟨a0,a1,a2,a3⟩=>by simp[encO_Condition,hasImm,hasImms,str,encO_Conditions_himm]
theorem encO_Conditions_himm:∀xs:List Condition,hasImms (encO_Conditions xs)=false
 | []=>by simp[encO_Conditions,hasImms]
 | x::xs=>by simp[encO_Conditions,hasImms,encO_Condition_himm x,encO_Conditions_himm xs]
end
structure Clause where
 Id:Str
 Kind:Int
 Party:Int
 Action:Str
 Other:Int
 Amount:Int
 When:Condition
 Within:Int
 Repair:Str
def encI_Clause (x:Clause):V:=.agg [str x.Id,I x.Kind,I x.Party,str x.Action,I x.Other,I x.Amount,I x.When.Op,str x.When.Name,I x.When.Day,.isl false (x.When.Parts.map encI_Condition),I x.Within,str x.Repair]
theorem encI_Clause_cells (x:Clause):(cells (encI_Clause x)).length=12∧(cells (encI_Clause x)).all cellV=true:=⟨rfl,rfl⟩
theorem encI_Clause_imm (x:Clause):imm (encI_Clause x)=encI_Clause x:=rfl
theorem encI_Clause_inj (a b:Clause)(h:encI_Clause a=encI_Clause b):a=b:=by
 obtain⟨p0,p1,p2,p3,p4,p5,⟨p6,p7,p8,p9⟩,p10,p11⟩:=a
 obtain⟨q0,q1,q2,q3,q4,q5,⟨q6,q7,q8,q9⟩,q10,q11⟩:=b
 replace h:=V.agg.inj h
 obtain⟨h0,h⟩:=List.cons.inj h
 obtain rfl:=str_inj p0 q0 h0
 obtain⟨h1,h⟩:=List.cons.inj h
 obtain rfl:=I_inj p1 q1 h1
 obtain⟨h2,h⟩:=List.cons.inj h
 obtain rfl:=I_inj p2 q2 h2
 obtain⟨h3,h⟩:=List.cons.inj h
 obtain rfl:=str_inj p3 q3 h3
 obtain⟨h4,h⟩:=List.cons.inj h
 obtain rfl:=I_inj p4 q4 h4
 obtain⟨h5,h⟩:=List.cons.inj h
 obtain rfl:=I_inj p5 q5 h5
 obtain⟨h6,h⟩:=List.cons.inj h
 obtain rfl:=I_inj p6 q6 h6
 obtain⟨h7,h⟩:=List.cons.inj h
 obtain rfl:=str_inj p7 q7 h7
 obtain⟨h8,h⟩:=List.cons.inj h
 obtain rfl:=I_inj p8 q8 h8
 obtain⟨h9,h⟩:=List.cons.inj h
 obtain rfl:=(isl_inj encI_Condition_inj) p9 q9 h9
 obtain⟨h10,h⟩:=List.cons.inj h
 obtain rfl:=I_inj p10 q10 h10
 obtain⟨h11,h⟩:=List.cons.inj h
 obtain rfl:=str_inj p11 q11 h11
 rfl
def encO_Clause (x:Clause):V:=.agg [str x.Id,I x.Kind,I x.Party,str x.Action,I x.Other,I x.Amount,I x.When.Op,str x.When.Name,I x.When.Day,.usl 4 (x.When.Parts.map encO_Condition),I x.Within,str x.Repair]
theorem encO_Clause_cells (x:Clause):(cells (encO_Clause x)).length=12∧(cells (encO_Clause x)).all cellV=true:=⟨rfl,rfl⟩
theorem encO_Clause_imm (x:Clause):imm (encO_Clause x)=encI_Clause x:=imm_a (imms_c rfl (imms_c rfl (imms_c rfl (imms_c rfl (imms_c rfl (imms_c rfl (imms_c rfl (imms_c rfl (imms_c rfl (imms_c (imm_u (imms_of encO_Condition_imm)) (imms_c rfl (imms_c rfl rfl))))))))))))
theorem encO_Clause_himm (x:Clause):hasImm (encO_Clause x)=false:=by simp[encO_Clause,hasImm,hasImms,str,himm_map (f:=encO_Condition) encO_Condition_himm]
theorem encO_Clause_inj (a b:Clause)(h:encO_Clause a=encO_Clause b):a=b:=by
 obtain⟨p0,p1,p2,p3,p4,p5,⟨p6,p7,p8,p9⟩,p10,p11⟩:=a
 obtain⟨q0,q1,q2,q3,q4,q5,⟨q6,q7,q8,q9⟩,q10,q11⟩:=b
 replace h:=V.agg.inj h
 obtain⟨h0,h⟩:=List.cons.inj h
 obtain rfl:=str_inj p0 q0 h0
 obtain⟨h1,h⟩:=List.cons.inj h
 obtain rfl:=I_inj p1 q1 h1
 obtain⟨h2,h⟩:=List.cons.inj h
 obtain rfl:=I_inj p2 q2 h2
 obtain⟨h3,h⟩:=List.cons.inj h
 obtain rfl:=str_inj p3 q3 h3
 obtain⟨h4,h⟩:=List.cons.inj h
 obtain rfl:=I_inj p4 q4 h4
 obtain⟨h5,h⟩:=List.cons.inj h
 obtain rfl:=I_inj p5 q5 h5
 obtain⟨h6,h⟩:=List.cons.inj h
 obtain rfl:=I_inj p6 q6 h6
 obtain⟨h7,h⟩:=List.cons.inj h
 obtain rfl:=str_inj p7 q7 h7
 obtain⟨h8,h⟩:=List.cons.inj h
 obtain rfl:=I_inj p8 q8 h8
 obtain⟨h9,h⟩:=List.cons.inj h
 obtain rfl:=(usl_inj encO_Condition_inj) p9 q9 h9
 obtain⟨h10,h⟩:=List.cons.inj h
 obtain rfl:=I_inj p10 q10 h10
 obtain⟨h11,h⟩:=List.cons.inj h
 obtain rfl:=str_inj p11 q11 h11
 rfl
structure Contract where
 Parties:List Str
 Clauses:List Clause
def encI_Contract (x:Contract):V:=.agg [.isl false (x.Parties.map str),.isl false (x.Clauses.map encI_Clause)]
theorem encI_Contract_cells (x:Contract):(cells (encI_Contract x)).length=2∧(cells (encI_Contract x)).all cellV=true:=⟨rfl,rfl⟩
theorem encI_Contract_imm (x:Contract):imm (encI_Contract x)=encI_Contract x:=rfl
theorem encI_Contract_inj (a b:Contract)(h:encI_Contract a=encI_Contract b):a=b:=by
 obtain⟨p0,p1⟩:=a
 obtain⟨q0,q1⟩:=b
 replace h:=V.agg.inj h
 obtain⟨h0,h⟩:=List.cons.inj h
 obtain rfl:=(isl_inj str_inj) p0 q0 h0
 obtain⟨h1,h⟩:=List.cons.inj h
 obtain rfl:=(isl_inj encI_Clause_inj) p1 q1 h1
 rfl
def encO_Contract (x:Contract):V:=.agg [.usl 1 (x.Parties.map str),.usl 12 (x.Clauses.map encO_Clause)]
theorem encO_Contract_cells (x:Contract):(cells (encO_Contract x)).length=2∧(cells (encO_Contract x)).all cellV=true:=⟨rfl,rfl⟩
theorem encO_Contract_imm (x:Contract):imm (encO_Contract x)=encI_Contract x:=imm_a (imms_c (imm_u (imms_of str_imm)) (imms_c (imm_u (imms_of encO_Clause_imm)) rfl))
theorem encO_Contract_himm (x:Contract):hasImm (encO_Contract x)=false:=by simp[encO_Contract,hasImm,hasImms,str,himm_map (f:=str) str_himm,himm_map (f:=encO_Clause) encO_Clause_himm]
theorem encO_Contract_inj (a b:Contract)(h:encO_Contract a=encO_Contract b):a=b:=by
 obtain⟨p0,p1⟩:=a
 obtain⟨q0,q1⟩:=b
 replace h:=V.agg.inj h
 obtain⟨h0,h⟩:=List.cons.inj h
 obtain rfl:=(usl_inj str_inj) p0 q0 h0
 obtain⟨h1,h⟩:=List.cons.inj h
 obtain rfl:=(usl_inj encO_Clause_inj) p1 q1 h1
 rfl
structure Entry where
 Day:Int
 Kind:Int
 Clause:Int
 Party:Int
def enc_Entry (x:Entry):V:=.agg [I x.Day,I x.Kind,I x.Clause,I x.Party]
theorem enc_Entry_cells (x:Entry):(cells (enc_Entry x)).length=4∧(cells (enc_Entry x)).all cellV=true:=⟨rfl,rfl⟩
theorem enc_Entry_imm (x:Entry):imm (enc_Entry x)=enc_Entry x:=rfl
theorem enc_Entry_himm (x:Entry):hasImm (enc_Entry x)=false:=rfl
theorem enc_Entry_flat (x:Entry):flatE (enc_Entry x)=true:=rfl
theorem enc_Entry_inj (a b:Entry)(h:enc_Entry a=enc_Entry b):a=b:=by
 obtain⟨p0,p1,p2,p3⟩:=a
 obtain⟨q0,q1,q2,q3⟩:=b
 replace h:=V.agg.inj h
 obtain⟨h0,h⟩:=List.cons.inj h
 obtain rfl:=I_inj p0 q0 h0
 obtain⟨h1,h⟩:=List.cons.inj h
 obtain rfl:=I_inj p1 q1 h1
 obtain⟨h2,h⟩:=List.cons.inj h
 obtain rfl:=I_inj p2 q2 h2
 obtain⟨h3,h⟩:=List.cons.inj h
 obtain rfl:=I_inj p3 q3 h3
 rfl
mutual
def Ffca:Condition→Prop
 | ⟨a0,a1,a2,a3⟩=>I64 a0∧okS a1∧I64 a2∧(a3.length≤maxLen∧Ffcb a3)
def Ffcb:List Condition→Prop
 | []=>True
 | x::xs=>Ffca x∧Ffcb xs
end
theorem Ffcb_iff:∀xs,Ffcb xs↔∀x∈xs,Ffca x
 | []=>by simp[Ffcb]
 | x::xs=>by simp[Ffcb,Ffcb_iff xs]
theorem Ffca_iff (x:Condition):Ffca x↔I64 x.Op∧okS x.Name∧I64 x.Day∧okL Ffca x.Parts:=by cases x;simp only[Ffca,Ffcb_iff,okL]
def ok_Clause (x:Clause):Prop:=okS x.Id∧I64 x.Kind∧I64 x.Party∧okS x.Action∧I64 x.Other∧I64 x.Amount∧Ffca x.When∧I64 x.Within∧okS x.Repair
def Ffcc (x:Contract):Prop:=(okL okS) x.Parties∧(okL ok_Clause) x.Clauses
def ok_Entry (x:Entry):Prop:=I64 x.Day∧I64 x.Kind∧I64 x.Clause∧I64 x.Party
noncomputable def Ffbq_la_F (a_1:List Str)(left_2:Int)(self:(Int×Int)→Option (Int⊕Int))(x3:Int×Int):Option (Int⊕Int):=
 bif (decide (x3.2<(len a_1))) then ((getI a_1 x3.2).bind fun e4=>bif (decide ((w64 (x3.1 - (len e4)))<0)) then (some (.inl (-1))) else (self ((w64 (x3.1 - (len e4))),(w64 (x3.2+1))))) else (some (.inr x3.1))
noncomputable def Ffbq_la (a_1:List Str)(left_2:Int): (Int×Int)→Option (Int⊕Int):=fixO (Ffbq_la_F a_1 left_2)
theorem Ffbq_la_fin (a_1:List Str)(left_2:Int): ∀a,Fin1 fun f=>Ffbq_la_F a_1 left_2 f a:=by
 intro a
 unfold Ffbq_la_F
 repeat first|exact f_const|exact f_self|refine f_cond ?_ ?_|refine f_bindJ ?_ (fun _=>?_)|refine f_bindL ?_ (fun _=>?_)|refine f_bind ?_ (fun _=>?_)|refine f_letJ (fun _=>?_)
theorem Ffbq_la_eq (a_1:List Str)(left_2:Int)(x:Int×Int):Ffbq_la a_1 left_2 x=Ffbq_la_F a_1 left_2 (Ffbq_la a_1 left_2) x:=fix_eq (Ffbq_la_fin a_1 left_2) x
noncomputable def Ffbq (a_1:List Str)(left_2:Int):Option Int:=
 bif (decide ((w64 (left_2 - (len a_1)))<0)) then (some (-1)) else (bindJ (ρ:=Int) (Ffbq_la a_1 left_2 ((w64 (left_2 - (len a_1))),0)) fun u5:Int=>some u5)
noncomputable def Ffbn_la_F (slf_Ffbl:(Condition×Int)→Option Int)(a_1:List Condition)(left_2:Int)(self:(Int×Int)→Option (Int⊕Int))(x3:Int×Int):Option (Int⊕Int):=
 bif (decide (x3.2<(len a_1))) then ((getI a_1 x3.2).bind fun e4=>(slf_Ffbl (e4,x3.1)).bind fun r5=>bif (decide (r5<0)) then (some (.inl (-1))) else (self (r5,(w64 (x3.2+1))))) else (some (.inr x3.1))
noncomputable def Ffbn_la (slf_Ffbl:(Condition×Int)→Option Int)(a_1:List Condition)(left_2:Int): (Int×Int)→Option (Int⊕Int):=fixO (Ffbn_la_F slf_Ffbl a_1 left_2)
theorem Ffbn_la_fin (slf_Ffbl:(Condition×Int)→Option Int)(a_1:List Condition)(left_2:Int): ∀a,Fin1 fun f=>Ffbn_la_F slf_Ffbl a_1 left_2 f a:=by
 intro a
 unfold Ffbn_la_F
 repeat first|exact f_const|exact f_self|refine f_cond ?_ ?_|refine f_bindJ ?_ (fun _=>?_)|refine f_bindL ?_ (fun _=>?_)|refine f_bind ?_ (fun _=>?_)|refine f_letJ (fun _=>?_)
theorem Ffbn_la_eq (slf_Ffbl:(Condition×Int)→Option Int)(a_1:List Condition)(left_2:Int)(x:Int×Int):Ffbn_la slf_Ffbl a_1 left_2 x=Ffbn_la_F slf_Ffbl a_1 left_2 (Ffbn_la slf_Ffbl a_1 left_2) x:=fix_eq (Ffbn_la_fin slf_Ffbl a_1 left_2) x
noncomputable def Ffbn (slf_Ffbl:(Condition×Int)→Option Int)(a_1:List Condition)(left_2:Int):Option Int:=
 bif (decide ((w64 (left_2 - (len a_1)))<0)) then (some (-1)) else (bindJ (ρ:=Int) (Ffbn_la slf_Ffbl a_1 left_2 ((w64 (left_2 - (len a_1))),0)) fun u6:Int=>some u6)
noncomputable def Ffbl_B (slf_Ffbl:(Condition×Int)→Option Int)(a_1:Condition)(left_2:Int):Option Int:=
 bif (decide ((w64 (left_2 - (len a_1.Name)))<0)) then (some (-1)) else ((Ffbn slf_Ffbl a_1.Parts (w64 (left_2 - (len a_1.Name)))).bind fun r3=>bif (decide (r3<0)) then (some (-1)) else (some r3))
noncomputable def Ffbl_G (slf_Ffbl:(Condition×Int)→Option Int)(x:Condition×Int):Option Int:=Ffbl_B slf_Ffbl x.1 x.2
noncomputable def Ffbl (a_1:Condition)(left_2:Int):Option Int:=fixO Ffbl_G (a_1,left_2)
theorem Ffbl_fin:∀x,Fin1 fun slf_Ffbl=>Ffbl_G slf_Ffbl x:=by
 intro x
 unfold Ffbl_G Ffbl_B
 repeat first|exact f_const|exact f_self|exact f_selfL|exact f_selfR|exact f_selfLL|exact f_selfRL|exact f_selfLLL|exact f_selfRLL|refine f_cond ?_ ?_|refine f_bindJ ?_ (fun _=>?_)|refine f_bindL ?_ (fun _=>?_)|refine f_bind ?_ (fun _=>?_)|refine f_letJ (fun _=>?_)|refine f_fix (fun _=>?_) | unfold Ffbn | unfold Ffbn_la | unfold Ffbn_la_F
theorem Ffbl_eq (a_1:Condition)(left_2:Int):Ffbl a_1 left_2=Ffbl_B (fixO Ffbl_G) a_1 left_2:=fix_eq Ffbl_fin (a_1,left_2)
noncomputable def Ffbm (a_1:List Condition)(left_2:Int):Option Int:=Ffbn (fixO Ffbl_G) a_1 left_2
noncomputable def Ffbj (a_1:Clause)(left_2:Int):Option Int:=
 bif (decide ((w64 (left_2 - (len a_1.Id)))<0)) then (some (-1)) else (bif (decide ((w64 ((w64 (left_2 - (len a_1.Id))) - (len a_1.Action)))<0)) then (some (-1)) else ((Ffbl a_1.When (w64 ((w64 (left_2 - (len a_1.Id))) - (len a_1.Action)))).bind fun r3=>bif (decide (r3<0)) then (some (-1)) else (bif (decide ((w64 (r3 - (len a_1.Repair)))<0)) then (some (-1)) else (some (w64 (r3 - (len a_1.Repair)))))))
noncomputable def Ffbk_la_F (a_1:List Clause)(left_2:Int)(self:(Int×Int)→Option (Int⊕Int))(x3:Int×Int):Option (Int⊕Int):=
 bif (decide (x3.2<(len a_1))) then ((getI a_1 x3.2).bind fun e4=>(Ffbj e4 x3.1).bind fun r5=>bif (decide (r5<0)) then (some (.inl (-1))) else (self (r5,(w64 (x3.2+1))))) else (some (.inr x3.1))
noncomputable def Ffbk_la (a_1:List Clause)(left_2:Int): (Int×Int)→Option (Int⊕Int):=fixO (Ffbk_la_F a_1 left_2)
theorem Ffbk_la_fin (a_1:List Clause)(left_2:Int): ∀a,Fin1 fun f=>Ffbk_la_F a_1 left_2 f a:=by
 intro a
 unfold Ffbk_la_F
 repeat first|exact f_const|exact f_self|refine f_cond ?_ ?_|refine f_bindJ ?_ (fun _=>?_)|refine f_bindL ?_ (fun _=>?_)|refine f_bind ?_ (fun _=>?_)|refine f_letJ (fun _=>?_)
theorem Ffbk_la_eq (a_1:List Clause)(left_2:Int)(x:Int×Int):Ffbk_la a_1 left_2 x=Ffbk_la_F a_1 left_2 (Ffbk_la a_1 left_2) x:=fix_eq (Ffbk_la_fin a_1 left_2) x
noncomputable def Ffbk (a_1:List Clause)(left_2:Int):Option Int:=
 bif (decide ((w64 (left_2 - (len a_1)))<0)) then (some (-1)) else (bindJ (ρ:=Int) (Ffbk_la a_1 left_2 ((w64 (left_2 - (len a_1))),0)) fun u6:Int=>some u6)
noncomputable def Ffbo (a_1:Contract)(left_2:Int):Option Int:=
 (Ffbq a_1.Parties left_2).bind fun r3=>bif (decide (r3<0)) then (some (-1)) else ((Ffbk a_1.Clauses r3).bind fun r4=>bif (decide (r4<0)) then (some (-1)) else (some r4))
noncomputable def Ffbp (a_1:List Entry)(left_2:Int):Option Int:=
 bif (decide ((w64 (left_2 - (len a_1)))<0)) then (some (-1)) else (some (w64 (left_2 - (len a_1))))
noncomputable def Ffbz_la_F (a_1:List Str)(self:(Int×(List Str))→Option ((List Str)⊕(List Str)))(x3:Int×(List Str)):Option ((List Str)⊕(List Str)):=
 bif (decide (x3.1<(len a_1))) then ((getI a_1 x3.1).bind fun e4=>(getI x3.2 x3.1).bind fun e5=>self ((w64 (x3.1+1)),(setI x3.2 x3.1 e4))) else (some (.inr x3.2))
noncomputable def Ffbz_la (a_1:List Str): (Int×(List Str))→Option ((List Str)⊕(List Str)):=fixO (Ffbz_la_F a_1)
theorem Ffbz_la_fin (a_1:List Str): ∀a,Fin1 fun f=>Ffbz_la_F a_1 f a:=by
 intro a
 unfold Ffbz_la_F
 repeat first|exact f_const|exact f_self|refine f_cond ?_ ?_|refine f_bindJ ?_ (fun _=>?_)|refine f_bindL ?_ (fun _=>?_)|refine f_bind ?_ (fun _=>?_)|refine f_letJ (fun _=>?_)
theorem Ffbz_la_eq (a_1:List Str)(x:Int×(List Str)):Ffbz_la a_1 x=Ffbz_la_F a_1 (Ffbz_la a_1) x:=fix_eq (Ffbz_la_fin a_1) x
noncomputable def Ffbz (a_1:List Str):Option (List Str):=
 (mkI 16 [] (len a_1)).bind fun m2=>bindJ (ρ:=(List Str)) (Ffbz_la a_1 (0,m2)) fun u6:(List Str)=>some u6
noncomputable def Ffbv_la_F (slf_Ffbt:Condition→Option Condition)(a_1:List Condition)(self:(Int×(List Condition))→Option ((List Condition)⊕(List Condition)))(x3:Int×(List Condition)):Option ((List Condition)⊕(List Condition)):=
 bif (decide (x3.1<(len a_1))) then ((getI a_1 x3.1).bind fun e4=>(slf_Ffbt e4).bind fun r5=>(getI x3.2 x3.1).bind fun e6=>self ((w64 (x3.1+1)),(setI x3.2 x3.1 r5))) else (some (.inr x3.2))
noncomputable def Ffbv_la (slf_Ffbt:Condition→Option Condition)(a_1:List Condition): (Int×(List Condition))→Option ((List Condition)⊕(List Condition)):=fixO (Ffbv_la_F slf_Ffbt a_1)
theorem Ffbv_la_fin (slf_Ffbt:Condition→Option Condition)(a_1:List Condition): ∀a,Fin1 fun f=>Ffbv_la_F slf_Ffbt a_1 f a:=by
 intro a
 unfold Ffbv_la_F
 repeat first|exact f_const|exact f_self|refine f_cond ?_ ?_|refine f_bindJ ?_ (fun _=>?_)|refine f_bindL ?_ (fun _=>?_)|refine f_bind ?_ (fun _=>?_)|refine f_letJ (fun _=>?_)
theorem Ffbv_la_eq (slf_Ffbt:Condition→Option Condition)(a_1:List Condition)(x:Int×(List Condition)):Ffbv_la slf_Ffbt a_1 x=Ffbv_la_F slf_Ffbt a_1 (Ffbv_la slf_Ffbt a_1) x:=fix_eq (Ffbv_la_fin slf_Ffbt a_1) x
noncomputable def Ffbv (slf_Ffbt:Condition→Option Condition)(a_1:List Condition):Option (List Condition):=
 (mkI 56 (Condition.mk 0 [] 0 []) (len a_1)).bind fun m2=>bindJ (ρ:=(List Condition)) (Ffbv_la slf_Ffbt a_1 (0,m2)) fun u7:(List Condition)=>some u7
noncomputable def Ffbt_B (slf_Ffbt:Condition→Option Condition)(a_1:Condition):Option Condition:=
 (Ffbv slf_Ffbt a_1.Parts).bind fun r2=>some (Condition.mk a_1.Op a_1.Name a_1.Day r2)
noncomputable def Ffbt_G (slf_Ffbt:Condition→Option Condition)(x:Condition):Option Condition:=Ffbt_B slf_Ffbt x
noncomputable def Ffbt (a_1:Condition):Option Condition:=fixO Ffbt_G a_1
theorem Ffbt_fin:∀x,Fin1 fun slf_Ffbt=>Ffbt_G slf_Ffbt x:=by
 intro x
 unfold Ffbt_G Ffbt_B
 repeat first|exact f_const|exact f_self|exact f_selfL|exact f_selfR|exact f_selfLL|exact f_selfRL|exact f_selfLLL|exact f_selfRLL|refine f_cond ?_ ?_|refine f_bindJ ?_ (fun _=>?_)|refine f_bindL ?_ (fun _=>?_)|refine f_bind ?_ (fun _=>?_)|refine f_letJ (fun _=>?_)|refine f_fix (fun _=>?_) | unfold Ffbv | unfold Ffbv_la | unfold Ffbv_la_F
theorem Ffbt_eq (a_1:Condition):Ffbt a_1=Ffbt_B (fixO Ffbt_G) a_1:=fix_eq Ffbt_fin a_1
noncomputable def Ffbu (a_1:List Condition):Option (List Condition):=Ffbv (fixO Ffbt_G) a_1
noncomputable def Ffbr (a_1:Clause):Option Clause:=
 (Ffbt a_1.When).bind fun r2=>some (Clause.mk a_1.Id a_1.Kind a_1.Party a_1.Action a_1.Other a_1.Amount r2 a_1.Within a_1.Repair)
noncomputable def Ffbs_la_F (a_1:List Clause)(self:(Int×(List Clause))→Option ((List Clause)⊕(List Clause)))(x3:Int×(List Clause)):Option ((List Clause)⊕(List Clause)):=
 bif (decide (x3.1<(len a_1))) then ((getI a_1 x3.1).bind fun e4=>(Ffbr e4).bind fun r5=>(getI x3.2 x3.1).bind fun e6=>self ((w64 (x3.1+1)),(setI x3.2 x3.1 r5))) else (some (.inr x3.2))
noncomputable def Ffbs_la (a_1:List Clause): (Int×(List Clause))→Option ((List Clause)⊕(List Clause)):=fixO (Ffbs_la_F a_1)
theorem Ffbs_la_fin (a_1:List Clause): ∀a,Fin1 fun f=>Ffbs_la_F a_1 f a:=by
 intro a
 unfold Ffbs_la_F
 repeat first|exact f_const|exact f_self|refine f_cond ?_ ?_|refine f_bindJ ?_ (fun _=>?_)|refine f_bindL ?_ (fun _=>?_)|refine f_bind ?_ (fun _=>?_)|refine f_letJ (fun _=>?_)
theorem Ffbs_la_eq (a_1:List Clause)(x:Int×(List Clause)):Ffbs_la a_1 x=Ffbs_la_F a_1 (Ffbs_la a_1) x:=fix_eq (Ffbs_la_fin a_1) x
noncomputable def Ffbs (a_1:List Clause):Option (List Clause):=
 (mkI 144 (Clause.mk [] 0 0 [] 0 0 (Condition.mk 0 [] 0 []) 0 []) (len a_1)).bind fun m2=>bindJ (ρ:=(List Clause)) (Ffbs_la a_1 (0,m2)) fun u7:(List Clause)=>some u7
noncomputable def Ffbw (a_1:Contract):Option Contract:=
 (Ffbz a_1.Parties).bind fun r2=>(Ffbs a_1.Clauses).bind fun r3=>some (Contract.mk r2 r3)
noncomputable def Ffbx (a_1:Entry):Option Entry:=
 some a_1
noncomputable def Ffby_la_F (a_1:List Entry)(self:(Int×(List Entry))→Option ((List Entry)⊕(List Entry)))(x3:Int×(List Entry)):Option ((List Entry)⊕(List Entry)):=
 bif (decide (x3.1<(len a_1))) then ((getI a_1 x3.1).bind fun e4=>(Ffbx e4).bind fun r5=>(getI x3.2 x3.1).bind fun e6=>self ((w64 (x3.1+1)),(setI x3.2 x3.1 r5))) else (some (.inr x3.2))
noncomputable def Ffby_la (a_1:List Entry): (Int×(List Entry))→Option ((List Entry)⊕(List Entry)):=fixO (Ffby_la_F a_1)
theorem Ffby_la_fin (a_1:List Entry): ∀a,Fin1 fun f=>Ffby_la_F a_1 f a:=by
 intro a
 unfold Ffby_la_F
 repeat first|exact f_const|exact f_self|refine f_cond ?_ ?_|refine f_bindJ ?_ (fun _=>?_)|refine f_bindL ?_ (fun _=>?_)|refine f_bind ?_ (fun _=>?_)|refine f_letJ (fun _=>?_)
theorem Ffby_la_eq (a_1:List Entry)(x:Int×(List Entry)):Ffby_la a_1 x=Ffby_la_F a_1 (Ffby_la a_1) x:=fix_eq (Ffby_la_fin a_1) x
noncomputable def Ffby (a_1:List Entry):Option (List Entry):=
 (mkI 32 (Entry.mk 0 0 0 0) (len a_1)).bind fun m2=>bindJ (ρ:=(List Entry)) (Ffby_la a_1 (0,m2)) fun u7:(List Entry)=>some u7
noncomputable def spec_l1In (x_1:Int)(a_2:Int)(b_3:Int):Option Bool:=
 letJ (bif (decide (x_1≥a_2)) then (decide (x_1≤b_3)) else false) fun u4:Bool=>some u4
noncomputable def Ffcv (b_1:Int):Option Bool:=
 letJ (bif (decide (b_1≥97)) then (letJ (bif (decide (b_1≤122)) then true else (letJ (bif (decide (b_1≥48)) then (decide (b_1≤57)) else false) fun u4:Bool=>u4)) fun u3:Bool=>u3) else (letJ (bif (decide (b_1≥48)) then (decide (b_1≤57)) else false) fun u5:Bool=>u5)) fun u2:Bool=>some u2
noncomputable def Ffcs_la_F (s_1:Str)(self:Int→Option (Bool⊕Unit))(x4:Int):Option (Bool⊕Unit):=
 bif (decide (x4<(len s_1))) then ((getI s_1 x4).bind fun c5=>(Ffcv (c5.toNat:Int)).bind fun r6=>bif (!r6) then (some (.inl false)) else (self (w64 (x4+1)))) else (some (.inr ()))
noncomputable def Ffcs_la (s_1:Str): Int→Option (Bool⊕Unit):=fixO (Ffcs_la_F s_1)
theorem Ffcs_la_fin (s_1:Str): ∀a,Fin1 fun f=>Ffcs_la_F s_1 f a:=by
 intro a
 unfold Ffcs_la_F
 repeat first|exact f_const|exact f_self|refine f_cond ?_ ?_|refine f_bindJ ?_ (fun _=>?_)|refine f_bindL ?_ (fun _=>?_)|refine f_bind ?_ (fun _=>?_)|refine f_letJ (fun _=>?_)
theorem Ffcs_la_eq (s_1:Str)(x:Int):Ffcs_la s_1 x=Ffcs_la_F s_1 (Ffcs_la s_1) x:=fix_eq (Ffcs_la_fin s_1) x
noncomputable def Ffcs (s_1:Str):Option Bool:=
 (spec_l1In (len s_1) 1 8).bind fun r2=>bindJ (ρ:=Bool) (bif (!r2) then (some (.inr true)) else ((getI s_1 0).bind fun c16=>bindL (ρ:=Bool) (bif (decide ((c16.toNat:Int)<97)) then (some (.inr true)) else ((getI s_1 0).bind fun c18=>some (.inr (decide ((c18.toNat:Int)>122))))) fun u17:Bool=>some (.inr u17))) fun u3:Bool=>bif u3 then (some false) else (bindJ (ρ:=Bool) (Ffcs_la s_1 0) fun u7:Unit=>letJ (bif (s_1==([116,114,117,101]:Str)) then (s_1==([116,114,117,101]:Str)) else (letJ (bif (s_1==([102,114,111,109]:Str)) then (s_1==([102,114,111,109]:Str)) else (letJ (bif (s_1==([110,111,116]:Str)) then (s_1==([110,111,116]:Str)) else (letJ (bif (s_1==([97,110,100]:Str)) then (s_1==([97,110,100]:Str)) else (letJ (bif (s_1==([111,114]:Str)) then (s_1==([111,114]:Str)) else (letJ (bif (s_1==([98,111,116,104]:Str)) then (s_1==([98,111,116,104]:Str)) else (letJ (bif (s_1==([101,105,116,104,101,114]:Str)) then (s_1==([101,105,116,104,101,114]:Str)) else (letJ (bif (s_1==([105,116]:Str)) then (s_1==([105,116]:Str)) else (s_1==([105,110]:Str))) fun u15:Bool=>u15)) fun u14:Bool=>u14)) fun u13:Bool=>u13)) fun u12:Bool=>u12)) fun u11:Bool=>u11)) fun u10:Bool=>u10)) fun u9:Bool=>u9)) fun u8:Bool=>bif u8 then (some false) else (some true))
noncomputable def Ffcr_la_F (list_1:List Str)(name_2:Str)(self:Int→Option (Bool⊕Unit))(x3:Int):Option (Bool⊕Unit):=
 bif (decide (x3<(len list_1))) then ((getI list_1 x3).bind fun e4=>bif (e4==name_2) then (some (.inl true)) else (self (w64 (x3+1)))) else (some (.inr ()))
noncomputable def Ffcr_la (list_1:List Str)(name_2:Str): Int→Option (Bool⊕Unit):=fixO (Ffcr_la_F list_1 name_2)
theorem Ffcr_la_fin (list_1:List Str)(name_2:Str): ∀a,Fin1 fun f=>Ffcr_la_F list_1 name_2 f a:=by
 intro a
 unfold Ffcr_la_F
 repeat first|exact f_const|exact f_self|refine f_cond ?_ ?_|refine f_bindJ ?_ (fun _=>?_)|refine f_bindL ?_ (fun _=>?_)|refine f_bind ?_ (fun _=>?_)|refine f_letJ (fun _=>?_)
theorem Ffcr_la_eq (list_1:List Str)(name_2:Str)(x:Int):Ffcr_la list_1 name_2 x=Ffcr_la_F list_1 name_2 (Ffcr_la list_1 name_2) x:=fix_eq (Ffcr_la_fin list_1 name_2) x
noncomputable def Ffcr (list_1:List Str)(name_2:Str):Option Bool:=
 bindJ (ρ:=Bool) (Ffcr_la list_1 name_2 0) fun u5:Unit=>some false
noncomputable def Ffdb_la_F (c_1:Contract)(self:Int→Option (Bool⊕Unit))(x2:Int):Option (Bool⊕Unit):=
 bif (decide (x2<(len c_1.Parties))) then ((getI c_1.Parties x2).bind fun e3=>(Ffcs e3).bind fun r4=>bindL (ρ:=Bool) (bif (!r4) then (some (.inr true)) else ((subI c_1.Parties 0 x2).bind fun s6=>(getI c_1.Parties x2).bind fun e7=>(Ffcr s6 e7).bind fun r8=>some (.inr r8))) fun u5:Bool=>bif u5 then (some (.inl false)) else (self (w64 (x2+1)))) else (some (.inr ()))
noncomputable def Ffdb_la (c_1:Contract): Int→Option (Bool⊕Unit):=fixO (Ffdb_la_F c_1)
theorem Ffdb_la_fin (c_1:Contract): ∀a,Fin1 fun f=>Ffdb_la_F c_1 f a:=by
 intro a
 unfold Ffdb_la_F
 repeat first|exact f_const|exact f_self|refine f_cond ?_ ?_|refine f_bindJ ?_ (fun _=>?_)|refine f_bindL ?_ (fun _=>?_)|refine f_bind ?_ (fun _=>?_)|refine f_letJ (fun _=>?_)
theorem Ffdb_la_eq (c_1:Contract)(x:Int):Ffdb_la c_1 x=Ffdb_la_F c_1 (Ffdb_la c_1) x:=fix_eq (Ffdb_la_fin c_1) x
noncomputable def Ffdb (c_1:Contract):Option Bool:=
 bindJ (ρ:=Bool) (Ffdb_la c_1 0) fun u9:Unit=>(spec_l1In (len c_1.Parties) 2 4).bind fun r10=>some r10
noncomputable def Ffcy_la_F (c_1:Contract)(id_2:Str)(self:Int→Option (Int⊕Unit))(x3:Int):Option (Int⊕Unit):=
 bif (decide (x3<(len c_1.Clauses))) then ((getI c_1.Clauses x3).bind fun e4=>bif (e4.Id==id_2) then (some (.inl x3)) else (self (w64 (x3+1)))) else (some (.inr ()))
noncomputable def Ffcy_la (c_1:Contract)(id_2:Str): Int→Option (Int⊕Unit):=fixO (Ffcy_la_F c_1 id_2)
theorem Ffcy_la_fin (c_1:Contract)(id_2:Str): ∀a,Fin1 fun f=>Ffcy_la_F c_1 id_2 f a:=by
 intro a
 unfold Ffcy_la_F
 repeat first|exact f_const|exact f_self|refine f_cond ?_ ?_|refine f_bindJ ?_ (fun _=>?_)|refine f_bindL ?_ (fun _=>?_)|refine f_bind ?_ (fun _=>?_)|refine f_letJ (fun _=>?_)
theorem Ffcy_la_eq (c_1:Contract)(id_2:Str)(x:Int):Ffcy_la c_1 id_2 x=Ffcy_la_F c_1 id_2 (Ffcy_la c_1 id_2) x:=fix_eq (Ffcy_la_fin c_1 id_2) x
noncomputable def Ffcy (c_1:Contract)(id_2:Str):Option Int:=
 bindJ (ρ:=Int) (Ffcy_la c_1 id_2 0) fun u5:Unit=>some (-1)
noncomputable def Ffcn (day_1:Int):Option Bool:=
 (spec_l1In day_1 0 36524).bind fun r2=>some r2
noncomputable def Ffco (c_1:Condition):Option Bool:=
 bif (c_1.Op==1) then (letJ (bif ((len c_1.Parts)==0) then (letJ (bif (c_1.Name==([]:Str)) then (c_1.Day==0) else false) fun u3:Bool=>u3) else false) fun u2:Bool=>some u2) else (bif (c_1.Op==2) then (bindJ (ρ:=Bool) (bif ((len c_1.Parts)==0) then ((Ffcs c_1.Name).bind fun r5=>letJ (bif r5 then (c_1.Day==0) else false) fun u6:Bool=>some (.inr u6)) else (some (.inr false))) fun u4:Bool=>some u4) else (bif (c_1.Op==3) then (bindJ (ρ:=Bool) (bif ((len c_1.Parts)==0) then (bindL (ρ:=Bool) (bif (c_1.Name==([]:Str)) then ((Ffcn c_1.Day).bind fun r9=>some (.inr r9)) else (some (.inr false))) fun u8:Bool=>some (.inr u8)) else (some (.inr false))) fun u7:Bool=>some u7) else (bif (c_1.Op==4) then (letJ (bif ((len c_1.Parts)==1) then (letJ (bif (c_1.Name==([]:Str)) then (c_1.Day==0) else false) fun u11:Bool=>u11) else false) fun u10:Bool=>some u10) else (letJ (bif (c_1.Op==5) then (c_1.Op==5) else (c_1.Op==6)) fun u12:Bool=>bif u12 then (letJ (bif ((len c_1.Parts)==2) then (letJ (bif (c_1.Name==([]:Str)) then (c_1.Day==0) else false) fun u14:Bool=>u14) else false) fun u13:Bool=>some u13) else (some false)))))
noncomputable def Ffcp_la_F (slf_Ffcp:Condition→Option Bool)(c_1:Condition)(self:Int→Option (Bool⊕Unit))(x3:Int):Option (Bool⊕Unit):=
 bif (decide (x3<(len c_1.Parts))) then ((getI c_1.Parts x3).bind fun e4=>(slf_Ffcp e4).bind fun r5=>bif (!r5) then (some (.inl false)) else (self (w64 (x3+1)))) else (some (.inr ()))
noncomputable def Ffcp_la (slf_Ffcp:Condition→Option Bool)(c_1:Condition): Int→Option (Bool⊕Unit):=fixO (Ffcp_la_F slf_Ffcp c_1)
theorem Ffcp_la_fin (slf_Ffcp:Condition→Option Bool)(c_1:Condition): ∀a,Fin1 fun f=>Ffcp_la_F slf_Ffcp c_1 f a:=by
 intro a
 unfold Ffcp_la_F
 repeat first|exact f_const|exact f_self|refine f_cond ?_ ?_|refine f_bindJ ?_ (fun _=>?_)|refine f_bindL ?_ (fun _=>?_)|refine f_bind ?_ (fun _=>?_)|refine f_letJ (fun _=>?_)
theorem Ffcp_la_eq (slf_Ffcp:Condition→Option Bool)(c_1:Condition)(x:Int):Ffcp_la slf_Ffcp c_1 x=Ffcp_la_F slf_Ffcp c_1 (Ffcp_la slf_Ffcp c_1) x:=fix_eq (Ffcp_la_fin slf_Ffcp c_1) x
noncomputable def Ffcp_B (slf_Ffcp:Condition→Option Bool)(c_1:Condition):Option Bool:=
 (Ffco c_1).bind fun r2=>bif (!r2) then (some false) else (bindJ (ρ:=Bool) (Ffcp_la slf_Ffcp c_1 0) fun u6:Unit=>some true)
noncomputable def Ffcp_G (slf_Ffcp:Condition→Option Bool)(x:Condition):Option Bool:=Ffcp_B slf_Ffcp x
noncomputable def Ffcp (c_1:Condition):Option Bool:=fixO Ffcp_G c_1
theorem Ffcp_fin:∀x,Fin1 fun slf_Ffcp=>Ffcp_G slf_Ffcp x:=by
 intro x
 unfold Ffcp_G Ffcp_B
 repeat first|exact f_const|exact f_self|exact f_selfL|exact f_selfR|exact f_selfLL|exact f_selfRL|exact f_selfLLL|exact f_selfRLL|refine f_cond ?_ ?_|refine f_bindJ ?_ (fun _=>?_)|refine f_bindL ?_ (fun _=>?_)|refine f_bind ?_ (fun _=>?_)|refine f_letJ (fun _=>?_)|refine f_fix (fun _=>?_) | unfold Ffcp_la | unfold Ffcp_la_F
theorem Ffcp_eq (c_1:Condition):Ffcp c_1=Ffcp_B (fixO Ffcp_G) c_1:=fix_eq Ffcp_fin c_1
noncomputable def Ffcw_la_F (slf_Ffcw:Condition→Option Int)(c_1:Condition)(self:(Int×Int)→Option (Int⊕Int))(x2:Int×Int):Option (Int⊕Int):=
 bif (decide (x2.2<(len c_1.Parts))) then ((getI c_1.Parts x2.2).bind fun e3=>(slf_Ffcw e3).bind fun r4=>self ((w64 (x2.1+r4)),(w64 (x2.2+1)))) else (some (.inr x2.1))
noncomputable def Ffcw_la (slf_Ffcw:Condition→Option Int)(c_1:Condition): (Int×Int)→Option (Int⊕Int):=fixO (Ffcw_la_F slf_Ffcw c_1)
theorem Ffcw_la_fin (slf_Ffcw:Condition→Option Int)(c_1:Condition): ∀a,Fin1 fun f=>Ffcw_la_F slf_Ffcw c_1 f a:=by
 intro a
 unfold Ffcw_la_F
 repeat first|exact f_const|exact f_self|refine f_cond ?_ ?_|refine f_bindJ ?_ (fun _=>?_)|refine f_bindL ?_ (fun _=>?_)|refine f_bind ?_ (fun _=>?_)|refine f_letJ (fun _=>?_)
theorem Ffcw_la_eq (slf_Ffcw:Condition→Option Int)(c_1:Condition)(x:Int×Int):Ffcw_la slf_Ffcw c_1 x=Ffcw_la_F slf_Ffcw c_1 (Ffcw_la slf_Ffcw c_1) x:=fix_eq (Ffcw_la_fin slf_Ffcw c_1) x
noncomputable def Ffcw_B (slf_Ffcw:Condition→Option Int)(c_1:Condition):Option Int:=
 bindJ (ρ:=Int) (Ffcw_la slf_Ffcw c_1 (1,0)) fun u5:Int=>some u5
noncomputable def Ffcw_G (slf_Ffcw:Condition→Option Int)(x:Condition):Option Int:=Ffcw_B slf_Ffcw x
noncomputable def Ffcw (c_1:Condition):Option Int:=fixO Ffcw_G c_1
theorem Ffcw_fin:∀x,Fin1 fun slf_Ffcw=>Ffcw_G slf_Ffcw x:=by
 intro x
 unfold Ffcw_G Ffcw_B
 repeat first|exact f_const|exact f_self|exact f_selfL|exact f_selfR|exact f_selfLL|exact f_selfRL|exact f_selfLLL|exact f_selfRLL|refine f_cond ?_ ?_|refine f_bindJ ?_ (fun _=>?_)|refine f_bindL ?_ (fun _=>?_)|refine f_bind ?_ (fun _=>?_)|refine f_letJ (fun _=>?_)|refine f_fix (fun _=>?_) | unfold Ffcw_la | unfold Ffcw_la_F
theorem Ffcw_eq (c_1:Condition):Ffcw c_1=Ffcw_B (fixO Ffcw_G) c_1:=fix_eq Ffcw_fin c_1
noncomputable def Ffcq (c_1:Condition):Option Bool:=
 (Ffcp c_1).bind fun r2=>bindJ (ρ:=Bool) (bif r2 then ((Ffcw c_1).bind fun r4=>some (.inr (decide (r4≤15)))) else (some (.inr false))) fun u3:Bool=>some u3
noncomputable def Ffcx (c_1:Contract)(i_2:Int):Option Bool:=
 (getI c_1.Clauses i_2).bind fun e3=>(Ffcs e3.Id).bind fun r4=>bindJ (ρ:=Bool) (bif (!r4) then (some (.inr true)) else ((Ffcs e3.Action).bind fun r17=>bindL (ρ:=Bool) (bif (!r17) then (some (.inr true)) else ((spec_l1In e3.Kind 1 4).bind fun r19=>bindL (ρ:=Bool) (bif (!r19) then (some (.inr true)) else ((spec_l1In e3.Party 0 (w64 ((len c_1.Parties) - 1))).bind fun r21=>bindL (ρ:=Bool) (bif (!r21) then (some (.inr true)) else ((spec_l1In e3.Other 0 (w64 ((len c_1.Parties) - 1))).bind fun r23=>bindL (ρ:=Bool) (bif (!r23) then (some (.inr true)) else (bindL (ρ:=Bool) (bif (e3.Party==e3.Other) then (some (.inr true)) else ((Ffcq e3.When).bind fun r26=>some (.inr (!r26)))) fun u25:Bool=>some (.inr u25))) fun u24:Bool=>some (.inr u24))) fun u22:Bool=>some (.inr u22))) fun u20:Bool=>some (.inr u20))) fun u18:Bool=>some (.inr u18))) fun u5:Bool=>bif u5 then (some false) else ((spec_l1In e3.Amount 0 1000000).bind fun r6=>bindJ (ρ:=Bool) (bif (!r6) then (some (.inr true)) else ((spec_l1In e3.Within 0 400).bind fun r13=>letJ (bif (!r13) then true else (letJ (bif (e3.Kind != 1) then (letJ (bif (e3.Amount != 0) then true else (e3.Within != 0)) fun u16:Bool=>u16) else false) fun u15:Bool=>u15)) fun u14:Bool=>some (.inr u14))) fun u7:Bool=>bif u7 then (some false) else (bif (e3.Repair==([]:Str)) then (some true) else ((Ffcy c_1 e3.Repair).bind fun r8=>bindJ (ρ:=Bool) (bif (decide (r8≥0)) then (bindL (ρ:=Bool) (bif (r8 != i_2) then ((getI c_1.Clauses r8).bind fun e11=>letJ (bif (e11.Kind==1) then (e3.Kind != 3) else false) fun u12:Bool=>some (.inr u12)) else (some (.inr false))) fun u10:Bool=>some (.inr u10)) else (some (.inr false))) fun u9:Bool=>some u9)))
noncomputable def Ffcu_la_F (l_8:List Str)(s_9:Str)(self:Int→Option ((List Str)⊕(Str×Int×(List Str))))(x3:Int):Option ((List Str)⊕(Str×Int×(List Str))):=
 bindL (ρ:=(List Str)) (bif (decide (x3<(len l_8))) then ((getI l_8 x3).bind fun e5=>some (.inr (Op.bytesLess e5 s_9))) else (some (.inr false))) fun u4:Bool=>bif u4 then (self (w64 (x3+1))) else (some (.inr (s_9,x3,l_8)))
noncomputable def Ffcu_la (l_8:List Str)(s_9:Str): Int→Option ((List Str)⊕(Str×Int×(List Str))):=fixO (Ffcu_la_F l_8 s_9)
theorem Ffcu_la_fin (l_8:List Str)(s_9:Str): ∀a,Fin1 fun f=>Ffcu_la_F l_8 s_9 f a:=by
 intro a
 unfold Ffcu_la_F
 repeat first|exact f_const|exact f_self|refine f_cond ?_ ?_|refine f_bindJ ?_ (fun _=>?_)|refine f_bindL ?_ (fun _=>?_)|refine f_bind ?_ (fun _=>?_)|refine f_letJ (fun _=>?_)
theorem Ffcu_la_eq (l_8:List Str)(s_9:Str)(x:Int):Ffcu_la l_8 s_9 x=Ffcu_la_F l_8 s_9 (Ffcu_la l_8 s_9) x:=fix_eq (Ffcu_la_fin l_8 s_9) x
noncomputable def Ffcu (l_8:List Str)(s_9:Str):Option (List Str):=
 bindJ (ρ:=(List Str)) (Ffcu_la l_8 s_9 0) fun u6:Str×Int×(List Str)=>bindJ (ρ:=(List Str)) (bif (decide (u6.2.1<(len u6.2.2))) then ((getI u6.2.2 u6.2.1).bind fun e15=>some (.inr (e15==u6.1))) else (some (.inr false))) fun u7:Bool=>bif u7 then (some u6.2.2) else ((subP u6.2.2.length 0 u6.2.1).bind fun s8=>(partP u6.2.2 (0+Int.toNat (0)) (Int.toNat u6.2.1 - Int.toNat (0))).bind fun p9=>(appI 16 ([]:List Str) p9).bind fun a10=>(appI 16 a10 [u6.1]).bind fun a11=>(subP u6.2.2.length u6.2.1 (len u6.2.2)).bind fun s12=>(partP u6.2.2 (0+Int.toNat u6.2.1) (Int.toNat (len u6.2.2) - Int.toNat u6.2.1)).bind fun p13=>(appI 16 a11 p13).bind fun a14=>some a14)
noncomputable def Ffct_la_F (slf_Ffct:((List Str)×Condition)→Option (List Str))(l_4:List Str)(c_5:Condition)(self:(Int×(List Str))→Option ((List Str)⊕(List Str)))(x4:Int×(List Str)):Option ((List Str)⊕(List Str)):=
 bif (decide (x4.1<(len c_5.Parts))) then ((getI c_5.Parts x4.1).bind fun e5=>(slf_Ffct (x4.2,e5)).bind fun r6=>self ((w64 (x4.1+1)),r6)) else (some (.inr x4.2))
noncomputable def Ffct_la (slf_Ffct:((List Str)×Condition)→Option (List Str))(l_4:List Str)(c_5:Condition): (Int×(List Str))→Option ((List Str)⊕(List Str)):=fixO (Ffct_la_F slf_Ffct l_4 c_5)
theorem Ffct_la_fin (slf_Ffct:((List Str)×Condition)→Option (List Str))(l_4:List Str)(c_5:Condition): ∀a,Fin1 fun f=>Ffct_la_F slf_Ffct l_4 c_5 f a:=by
 intro a
 unfold Ffct_la_F
 repeat first|exact f_const|exact f_self|refine f_cond ?_ ?_|refine f_bindJ ?_ (fun _=>?_)|refine f_bindL ?_ (fun _=>?_)|refine f_bind ?_ (fun _=>?_)|refine f_letJ (fun _=>?_)
theorem Ffct_la_eq (slf_Ffct:((List Str)×Condition)→Option (List Str))(l_4:List Str)(c_5:Condition)(x:Int×(List Str)):Ffct_la slf_Ffct l_4 c_5 x=Ffct_la_F slf_Ffct l_4 c_5 (Ffct_la slf_Ffct l_4 c_5) x:=fix_eq (Ffct_la_fin slf_Ffct l_4 c_5) x
noncomputable def Ffct_B (slf_Ffct:((List Str)×Condition)→Option (List Str))(l_4:List Str)(c_5:Condition):Option (List Str):=
 bif (c_5.Op==2) then ((Ffcu l_4 c_5.Name).bind fun r3=>some r3) else (bindJ (ρ:=(List Str)) (Ffct_la slf_Ffct l_4 c_5 (0,l_4)) fun u7:(List Str)=>some u7)
noncomputable def Ffct_G (slf_Ffct:((List Str)×Condition)→Option (List Str))(x:(List Str)×Condition):Option (List Str):=Ffct_B slf_Ffct x.1 x.2
noncomputable def Ffct (l_4:List Str)(c_5:Condition):Option (List Str):=fixO Ffct_G (l_4,c_5)
theorem Ffct_fin:∀x,Fin1 fun slf_Ffct=>Ffct_G slf_Ffct x:=by
 intro x
 unfold Ffct_G Ffct_B
 repeat first|exact f_const|exact f_self|exact f_selfL|exact f_selfR|exact f_selfLL|exact f_selfRL|exact f_selfLLL|exact f_selfRLL|refine f_cond ?_ ?_|refine f_bindJ ?_ (fun _=>?_)|refine f_bindL ?_ (fun _=>?_)|refine f_bind ?_ (fun _=>?_)|refine f_letJ (fun _=>?_)|refine f_fix (fun _=>?_) | unfold Ffct_la | unfold Ffct_la_F
theorem Ffct_eq (l_4:List Str)(c_5:Condition):Ffct l_4 c_5=Ffct_B (fixO Ffct_G) l_4 c_5:=fix_eq Ffct_fin (l_4,c_5)
noncomputable def Ffda_la_F (c_1:Contract)(self:(Int×(List Str))→Option ((List Str)⊕(List Str)))(x2:Int×(List Str)):Option ((List Str)⊕(List Str)):=
 bif (decide (x2.1<(len c_1.Clauses))) then ((getI c_1.Clauses x2.1).bind fun e3=>(Ffcu x2.2 e3.Action).bind fun r4=>(getI c_1.Clauses x2.1).bind fun e5=>(Ffct r4 e5.When).bind fun r6=>self ((w64 (x2.1+1)),r6)) else (some (.inr x2.2))
noncomputable def Ffda_la (c_1:Contract): (Int×(List Str))→Option ((List Str)⊕(List Str)):=fixO (Ffda_la_F c_1)
theorem Ffda_la_fin (c_1:Contract): ∀a,Fin1 fun f=>Ffda_la_F c_1 f a:=by
 intro a
 unfold Ffda_la_F
 repeat first|exact f_const|exact f_self|refine f_cond ?_ ?_|refine f_bindJ ?_ (fun _=>?_)|refine f_bindL ?_ (fun _=>?_)|refine f_bind ?_ (fun _=>?_)|refine f_letJ (fun _=>?_)
theorem Ffda_la_eq (c_1:Contract)(x:Int×(List Str)):Ffda_la c_1 x=Ffda_la_F c_1 (Ffda_la c_1) x:=fix_eq (Ffda_la_fin c_1) x
noncomputable def Ffda (c_1:Contract):Option (List Str):=
 bindJ (ρ:=(List Str)) (Ffda_la c_1 (0,[])) fun u7:(List Str)=>some u7
noncomputable def Ffcz_la_F (c_1:Contract)(self:Int→Option (Bool⊕Unit))(x4:Int):Option (Bool⊕Unit):=
 bif (decide (x4<(len c_1.Clauses))) then ((getI c_1.Clauses x4).bind fun e5=>(Ffcy c_1 e5.Id).bind fun r6=>bindL (ρ:=Bool) (bif (r6 != x4) then (some (.inr true)) else ((Ffcx c_1 x4).bind fun r8=>some (.inr (!r8)))) fun u7:Bool=>bif u7 then (some (.inl false)) else (self (w64 (x4+1)))) else (some (.inr ()))
noncomputable def Ffcz_la (c_1:Contract): Int→Option (Bool⊕Unit):=fixO (Ffcz_la_F c_1)
theorem Ffcz_la_fin (c_1:Contract): ∀a,Fin1 fun f=>Ffcz_la_F c_1 f a:=by
 intro a
 unfold Ffcz_la_F
 repeat first|exact f_const|exact f_self|refine f_cond ?_ ?_|refine f_bindJ ?_ (fun _=>?_)|refine f_bindL ?_ (fun _=>?_)|refine f_bind ?_ (fun _=>?_)|refine f_letJ (fun _=>?_)
theorem Ffcz_la_eq (c_1:Contract)(x:Int):Ffcz_la c_1 x=Ffcz_la_F c_1 (Ffcz_la c_1) x:=fix_eq (Ffcz_la_fin c_1) x
noncomputable def Ffcz (c_1:Contract):Option Bool:=
 (spec_l1In (len c_1.Clauses) 1 12).bind fun r2=>bindJ (ρ:=Bool) (bif (!r2) then (some (.inr true)) else ((Ffdb c_1).bind fun r11=>some (.inr (!r11)))) fun u3:Bool=>bif u3 then (some false) else (bindJ (ρ:=Bool) (Ffcz_la c_1 0) fun u9:Unit=>(Ffda c_1).bind fun r10=>some (decide ((len r10)≤16)))
noncomputable def Ffcm_la_F (c_1:Contract)(trace_2:List Entry)(self:Int→Option (Bool⊕Unit))(x5:Int):Option (Bool⊕Unit):=
 bif (decide (x5<(len trace_2))) then ((getI trace_2 x5).bind fun e6=>(Ffcn e6.Day).bind fun r7=>bindL (ρ:=Bool) (bif (!r7) then (some (.inr true)) else (bindL (ρ:=Bool) (bif (decide (x5>0)) then ((getI trace_2 (w64 (x5 - 1))).bind fun e17=>bindL (ρ:=Bool) (bif (decide (e17.Day>e6.Day)) then (some (.inr true)) else ((spec_l1In e6.Kind 1 7).bind fun r19=>bindL (ρ:=Bool) (bif (!r19) then (some (.inr true)) else ((spec_l1In e6.Party 0 (w64 ((len c_1.Parties) - 1))).bind fun r21=>some (.inr (!r21)))) fun u20:Bool=>some (.inr u20))) fun u18:Bool=>some (.inr u18)) else ((spec_l1In e6.Kind 1 7).bind fun r22=>bindL (ρ:=Bool) (bif (!r22) then (some (.inr true)) else ((spec_l1In e6.Party 0 (w64 ((len c_1.Parties) - 1))).bind fun r24=>some (.inr (!r24)))) fun u23:Bool=>some (.inr u23))) fun u16:Bool=>some (.inr u16))) fun u8:Bool=>bif u8 then (some (.inl false)) else (letJ (bif (e6.Kind==6) then true else (e6.Kind==7)) fun u9:Bool=>bindL (ρ:=Bool) (bif u9 then (bindL (ρ:=Bool) (bif (e6.Clause != (-1)) then (some (.inr true)) else (bindL (ρ:=Bool) (bif (!u9) then ((spec_l1In e6.Clause 0 (w64 ((len c_1.Clauses) - 1))).bind fun r13=>some (.inr (!r13))) else (some (.inr false))) fun u12:Bool=>some (.inr u12))) fun u11:Bool=>some (.inr u11)) else (bindL (ρ:=Bool) (bif (!u9) then ((spec_l1In e6.Clause 0 (w64 ((len c_1.Clauses) - 1))).bind fun r15=>some (.inr (!r15))) else (some (.inr false))) fun u14:Bool=>some (.inr u14))) fun u10:Bool=>bif u10 then (some (.inl false)) else (self (w64 (x5+1))))) else (some (.inr ()))
noncomputable def Ffcm_la (c_1:Contract)(trace_2:List Entry): Int→Option (Bool⊕Unit):=fixO (Ffcm_la_F c_1 trace_2)
theorem Ffcm_la_fin (c_1:Contract)(trace_2:List Entry): ∀a,Fin1 fun f=>Ffcm_la_F c_1 trace_2 f a:=by
 intro a
 unfold Ffcm_la_F
 repeat first|exact f_const|exact f_self|refine f_cond ?_ ?_|refine f_bindJ ?_ (fun _=>?_)|refine f_bindL ?_ (fun _=>?_)|refine f_bind ?_ (fun _=>?_)|refine f_letJ (fun _=>?_)
theorem Ffcm_la_eq (c_1:Contract)(trace_2:List Entry)(x:Int):Ffcm_la c_1 trace_2 x=Ffcm_la_F c_1 trace_2 (Ffcm_la c_1 trace_2) x:=fix_eq (Ffcm_la_fin c_1 trace_2) x
noncomputable def Ffcm (c_1:Contract)(trace_2:List Entry):Option Bool:=
 (Ffcz c_1).bind fun r3=>letJ (bif (!r3) then true else (decide ((len trace_2)>200))) fun u4:Bool=>bif u4 then (some false) else (bindJ (ρ:=Bool) (Ffcm_la c_1 trace_2 0) fun u25:Unit=>some true)
noncomputable def Ffcl (e_1:Entry):Option Bool:=
 letJ (bif (e_1.Kind==2) then true else (e_1.Kind==4)) fun u2:Bool=>some u2
noncomputable def Ffck_la_F (c_1:Contract)(trace_2:List Entry)(party_3:Int)(self:(Int×(List Entry))→Option (((List Entry)×Bool)⊕(List Entry)))(x6:Int×(List Entry)):Option (((List Entry)×Bool)⊕(List Entry)):=
 bif (decide (x6.1<(len trace_2))) then ((getI trace_2 x6.1).bind fun e7=>(Ffcl e7).bind fun r8=>bindL (ρ:=(List Entry)×Bool) (bif r8 then ((getI trace_2 x6.1).bind fun e13=>some (.inr (e13.Party==party_3))) else (some (.inr false))) fun u9:Bool=>bindL (ρ:=(List Entry)×Bool) (bif u9 then ((getI trace_2 x6.1).bind fun e11=>(appI 32 x6.2 [e11]).bind fun a12=>some (.inr a12)) else (some (.inr x6.2))) fun u10:(List Entry)=>self ((w64 (x6.1+1)),u10)) else (some (.inr x6.2))
noncomputable def Ffck_la (c_1:Contract)(trace_2:List Entry)(party_3:Int): (Int×(List Entry))→Option (((List Entry)×Bool)⊕(List Entry)):=fixO (Ffck_la_F c_1 trace_2 party_3)
theorem Ffck_la_fin (c_1:Contract)(trace_2:List Entry)(party_3:Int): ∀a,Fin1 fun f=>Ffck_la_F c_1 trace_2 party_3 f a:=by
 intro a
 unfold Ffck_la_F
 repeat first|exact f_const|exact f_self|refine f_cond ?_ ?_|refine f_bindJ ?_ (fun _=>?_)|refine f_bindL ?_ (fun _=>?_)|refine f_bind ?_ (fun _=>?_)|refine f_letJ (fun _=>?_)
theorem Ffck_la_eq (c_1:Contract)(trace_2:List Entry)(party_3:Int)(x:Int×(List Entry)):Ffck_la c_1 trace_2 party_3 x=Ffck_la_F c_1 trace_2 party_3 (Ffck_la c_1 trace_2 party_3) x:=fix_eq (Ffck_la_fin c_1 trace_2 party_3) x
noncomputable def Ffck (c_1:Contract)(trace_2:List Entry)(party_3:Int):Option ((List Entry)×Bool):=
 (Ffcm c_1 trace_2).bind fun r4=>bindJ (ρ:=(List Entry)×Bool) (bif (!r4) then (some (.inr true)) else ((spec_l1In party_3 0 (w64 ((len c_1.Parties) - 1))).bind fun r15=>some (.inr (!r15)))) fun u5:Bool=>bif u5 then (some ([],false)) else (bindJ (ρ:=(List Entry)×Bool) (Ffck_la c_1 trace_2 party_3 (0,[])) fun u14:(List Entry)=>some (u14,true))
noncomputable def Ffq (n_1:Int)(low_2:Int)(high_3:Int):Option Bool:=
 letJ (bif (decide (n_1≥low_2)) then (decide (n_1≤high_3)) else false) fun u4:Bool=>some u4
noncomputable def Ffs (s_1:Str)(c_2:Int):Option Int:=
 (xIndexByteString s_1 c_2).bind fun r3=>some r3
noncomputable def Ffr (s_1:Str)(substr_2:Str):Option Int:=
 letJ (bif ((len substr_2)==0) then true else (substr_2==s_1)) fun u3:Bool=>bif u3 then (some 0) else (bif ((len substr_2)==1) then ((getI substr_2 0).bind fun c4=>(Ffs s_1 (c4.toNat:Int)).bind fun r5=>some r5) else (bif (decide ((len substr_2)≥(len s_1))) then (some (-1)) else none))
noncomputable def Ffdd (s_1:Str)(substr_2:Str):Option Int:=
 (Ffr s_1 substr_2).bind fun r3=>some r3
noncomputable def Ffdc_la_F (s_1:Str)(substr_2:Str)(self:(Str×Int)→Option (Int⊕Unit))(x5:Str×Int):Option (Int⊕Unit):=
 (Ffdd x5.1 substr_2).bind fun r6=>bif (r6==(-1)) then (some (.inl x5.2)) else ((subI x5.1 (w64 (r6+(len substr_2))) (len x5.1)).bind fun s7=>self (s7,(w64 (x5.2+1))))
noncomputable def Ffdc_la (s_1:Str)(substr_2:Str): (Str×Int)→Option (Int⊕Unit):=fixO (Ffdc_la_F s_1 substr_2)
theorem Ffdc_la_fin (s_1:Str)(substr_2:Str): ∀a,Fin1 fun f=>Ffdc_la_F s_1 substr_2 f a:=by
 intro a
 unfold Ffdc_la_F
 repeat first|exact f_const|exact f_self|refine f_cond ?_ ?_|refine f_bindJ ?_ (fun _=>?_)|refine f_bindL ?_ (fun _=>?_)|refine f_bind ?_ (fun _=>?_)|refine f_letJ (fun _=>?_)
theorem Ffdc_la_eq (s_1:Str)(substr_2:Str)(x:Str×Int):Ffdc_la s_1 substr_2 x=Ffdc_la_F s_1 substr_2 (Ffdc_la s_1 substr_2) x:=fix_eq (Ffdc_la_fin s_1 substr_2) x
noncomputable def Ffdc (s_1:Str)(substr_2:Str):Option Int:=
 bif ((len substr_2)==0) then none else (bif ((len substr_2)==1) then ((getI substr_2 0).bind fun c3=>(xCountString s_1 (c3.toNat:Int)).bind fun r4=>some r4) else (bindJ (ρ:=Int) (Ffdc_la s_1 substr_2 (s_1,0)) fun u8:Unit=>none))
noncomputable def Ffdf_la_F (s_1:Str)(sep_2:Str)(sepSave_3:Int)(n_4:Int)(u5:Int)(self:(Str×Int×(List Str))→Option ((List Str)⊕(Str×Int×(List Str))))(x7:Str×Int×(List Str)):Option ((List Str)⊕(Str×Int×(List Str))):=
 bif (decide (x7.2.1<(w64 ((if (w64 ((len s_1)+1))<u5 then (w64 ((len s_1)+1)) else u5) - 1)))) then ((Ffdd x7.1 sep_2).bind fun r8=>bif (decide (r8<0)) then (some (.inr (x7.1,x7.2.1,x7.2.2))) else ((subI x7.1 0 (w64 (r8+sepSave_3))).bind fun s9=>(getI x7.2.2 x7.2.1).bind fun e10=>(subI x7.1 (w64 (r8+(len sep_2))) (len x7.1)).bind fun s11=>self (s11,(w64 (x7.2.1+1)),(setI x7.2.2 x7.2.1 s9)))) else (some (.inr (x7.1,x7.2.1,x7.2.2)))
noncomputable def Ffdf_la (s_1:Str)(sep_2:Str)(sepSave_3:Int)(n_4:Int)(u5:Int):(Str×Int×(List Str))→Option ((List Str)⊕(Str×Int×(List Str))):=fixO (Ffdf_la_F s_1 sep_2 sepSave_3 n_4 u5)
theorem Ffdf_la_fin (s_1:Str)(sep_2:Str)(sepSave_3:Int)(n_4:Int)(u5:Int):∀a,Fin1 fun f=>Ffdf_la_F s_1 sep_2 sepSave_3 n_4 u5 f a:=by
 intro a
 unfold Ffdf_la_F
 repeat first|exact f_const|exact f_self|refine f_cond ?_ ?_|refine f_bindJ ?_ (fun _=>?_)|refine f_bindL ?_ (fun _=>?_)|refine f_bind ?_ (fun _=>?_)|refine f_letJ (fun _=>?_)
theorem Ffdf_la_eq (s_1:Str)(sep_2:Str)(sepSave_3:Int)(n_4:Int)(u5:Int)(x:Str×Int×(List Str)):Ffdf_la s_1 sep_2 sepSave_3 n_4 u5 x=Ffdf_la_F s_1 sep_2 sepSave_3 n_4 u5 (Ffdf_la s_1 sep_2 sepSave_3 n_4 u5) x:=fix_eq (Ffdf_la_fin s_1 sep_2 sepSave_3 n_4 u5) x
noncomputable def Ffdf (s_1:Str)(sep_2:Str)(sepSave_3:Int)(n_4:Int):Option (List Str):=
 bif (n_4==0) then (some []) else (bif (sep_2==([]:Str)) then none else (bindJ (ρ:=(List Str)) (bif (decide (n_4<0)) then ((Ffdc s_1 sep_2).bind fun r16=>some (.inr (w64 (r16+1)))) else (some (.inr n_4))) fun u5:Int=>(mkI 16 [] (if (w64 ((len s_1)+1))<u5 then (w64 ((len s_1)+1)) else u5)).bind fun m6=>bindJ (ρ:=(List Str)) (Ffdf_la s_1 sep_2 sepSave_3 n_4 u5 (s_1,0,m6)) fun u12:Str×Int×(List Str)=>(getI u12.2.2 u12.2.1).bind fun e13=>(subP (setI u12.2.2 u12.2.1 u12.1).length 0 (w64 (u12.2.1+1))).bind fun s14=>(partP (setI u12.2.2 u12.2.1 u12.1) (0+Int.toNat (0)) (Int.toNat (w64 (u12.2.1+1)) - Int.toNat (0))).bind fun p15=>some p15))
noncomputable def Ffde (s_1:Str)(sep_2:Str):Option (List Str):=
 (Ffdf s_1 sep_2 0 (-1)).bind fun r3=>some r3
noncomputable def Ffcj_la_F (s_1:List Str)(v_2:Str)(self:Int→Option (Int⊕Unit))(x3:Int):Option (Int⊕Unit):=
 bif (decide (x3<(len s_1))) then ((getI s_1 x3).bind fun e4=>bif (v_2==e4) then (some (.inl x3)) else (self (w64 (x3+1)))) else (some (.inr ()))
noncomputable def Ffcj_la (s_1:List Str)(v_2:Str): Int→Option (Int⊕Unit):=fixO (Ffcj_la_F s_1 v_2)
theorem Ffcj_la_fin (s_1:List Str)(v_2:Str): ∀a,Fin1 fun f=>Ffcj_la_F s_1 v_2 f a:=by
 intro a
 unfold Ffcj_la_F
 repeat first|exact f_const|exact f_self|refine f_cond ?_ ?_|refine f_bindJ ?_ (fun _=>?_)|refine f_bindL ?_ (fun _=>?_)|refine f_bind ?_ (fun _=>?_)|refine f_letJ (fun _=>?_)
theorem Ffcj_la_eq (s_1:List Str)(v_2:Str)(x:Int):Ffcj_la s_1 v_2 x=Ffcj_la_F s_1 v_2 (Ffcj_la s_1 v_2) x:=fix_eq (Ffcj_la_fin s_1 v_2) x
noncomputable def Ffcj (s_1:List Str)(v_2:Str):Option Int:=
 bindJ (ρ:=Int) (Ffcj_la s_1 v_2 0) fun u5:Unit=>some (-1)
noncomputable def Ffcf (s_1:List Str)(v_2:Str):Option Bool:=
 (Ffcj s_1 v_2).bind fun r3=>some (decide (r3≥0))
noncomputable def Ffe_la_F (s_1:Str)(self:Int→Option (Bool⊕Unit))(x4:Int):Option (Bool⊕Unit):=
 bif (decide (x4<(len s_1))) then ((getI s_1 x4).bind fun c5=>letJ (bif (decide ((c5.toNat:Int)<97)) then (letJ (bif (decide ((c5.toNat:Int)<48)) then true else (decide ((c5.toNat:Int)>57))) fun u7:Bool=>u7) else (letJ (bif (decide ((c5.toNat:Int)>122)) then (letJ (bif (decide ((c5.toNat:Int)<48)) then true else (decide ((c5.toNat:Int)>57))) fun u9:Bool=>u9) else false) fun u8:Bool=>u8)) fun u6:Bool=>bif u6 then (some (.inl false)) else (self (w64 (x4+1)))) else (some (.inr ()))
noncomputable def Ffe_la (s_1:Str): Int→Option (Bool⊕Unit):=fixO (Ffe_la_F s_1)
theorem Ffe_la_fin (s_1:Str): ∀a,Fin1 fun f=>Ffe_la_F s_1 f a:=by
 intro a
 unfold Ffe_la_F
 repeat first|exact f_const|exact f_self|refine f_cond ?_ ?_|refine f_bindJ ?_ (fun _=>?_)|refine f_bindL ?_ (fun _=>?_)|refine f_bind ?_ (fun _=>?_)|refine f_letJ (fun _=>?_)
theorem Ffe_la_eq (s_1:Str)(x:Int):Ffe_la s_1 x=Ffe_la_F s_1 (Ffe_la s_1) x:=fix_eq (Ffe_la_fin s_1) x
noncomputable def Ffe (s_1:Str):Option Bool:=
 (Ffq (len s_1) 1 8).bind fun r2=>bindJ (ρ:=Bool) (bif (!r2) then (some (.inr true)) else ((getI s_1 0).bind fun c13=>bindL (ρ:=Bool) (bif (decide ((c13.toNat:Int)<97)) then (some (.inr true)) else ((getI s_1 0).bind fun c15=>some (.inr (decide ((c15.toNat:Int)>122))))) fun u14:Bool=>some (.inr u14))) fun u3:Bool=>bif u3 then (some false) else (bindJ (ρ:=Bool) (Ffe_la s_1 0) fun u10:Unit=>(Ffde ([116,114,117,101,32,102,114,111,109,32,110,111,116,32,97,110,100,32,111,114,32,98,111,116,104,32,101,105,116,104,101,114,32,105,116,32,105,110]:Str) ([32]:Str)).bind fun r11=>(Ffcf r11 s_1).bind fun r12=>some (!r12))
noncomputable def Ffg_la_F (list_1:List Str)(self:Int→Option (Bool⊕Unit))(x2:Int):Option (Bool⊕Unit):=
 bif (decide (x2<(len list_1))) then ((getI list_1 x2).bind fun e3=>(Ffe e3).bind fun r4=>bindL (ρ:=Bool) (bif (!r4) then (some (.inr true)) else ((subI list_1 0 x2).bind fun s6=>(Ffcf s6 e3).bind fun r7=>some (.inr r7))) fun u5:Bool=>bif u5 then (some (.inl false)) else (self (w64 (x2+1)))) else (some (.inr ()))
noncomputable def Ffg_la (list_1:List Str): Int→Option (Bool⊕Unit):=fixO (Ffg_la_F list_1)
theorem Ffg_la_fin (list_1:List Str): ∀a,Fin1 fun f=>Ffg_la_F list_1 f a:=by
 intro a
 unfold Ffg_la_F
 repeat first|exact f_const|exact f_self|refine f_cond ?_ ?_|refine f_bindJ ?_ (fun _=>?_)|refine f_bindL ?_ (fun _=>?_)|refine f_bind ?_ (fun _=>?_)|refine f_letJ (fun _=>?_)
theorem Ffg_la_eq (list_1:List Str)(x:Int):Ffg_la list_1 x=Ffg_la_F list_1 (Ffg_la list_1) x:=fix_eq (Ffg_la_fin list_1) x
noncomputable def Ffg (list_1:List Str):Option Bool:=
 bindJ (ρ:=Bool) (Ffg_la list_1 0) fun u8:Unit=>(Ffq (len list_1) 2 4).bind fun r9=>some r9
noncomputable def Ffi (x_1:Clause)(a_2:Str):Option Bool:=
 some (x_1.Id==a_2)
noncomputable def Ffch_la_F (s_1:List Clause)(f_2:Str)(self:Int→Option (Int⊕Unit))(x3:Int):Option (Int⊕Unit):=
 bif (decide (x3<(len s_1))) then ((getI s_1 x3).bind fun e4=>(Ffi e4 f_2).bind fun r5=>bif r5 then (some (.inl x3)) else (self (w64 (x3+1)))) else (some (.inr ()))
noncomputable def Ffch_la (s_1:List Clause)(f_2:Str): Int→Option (Int⊕Unit):=fixO (Ffch_la_F s_1 f_2)
theorem Ffch_la_fin (s_1:List Clause)(f_2:Str): ∀a,Fin1 fun f=>Ffch_la_F s_1 f_2 f a:=by
 intro a
 unfold Ffch_la_F
 repeat first|exact f_const|exact f_self|refine f_cond ?_ ?_|refine f_bindJ ?_ (fun _=>?_)|refine f_bindL ?_ (fun _=>?_)|refine f_bind ?_ (fun _=>?_)|refine f_letJ (fun _=>?_)
theorem Ffch_la_eq (s_1:List Clause)(f_2:Str)(x:Int):Ffch_la s_1 f_2 x=Ffch_la_F s_1 f_2 (Ffch_la s_1 f_2) x:=fix_eq (Ffch_la_fin s_1 f_2) x
noncomputable def Ffch (s_1:List Clause)(f_2:Str):Option Int:=
 bindJ (ρ:=Int) (Ffch_la s_1 f_2 0) fun u6:Unit=>some (-1)
noncomputable def Ffh (c_1:Contract)(id_2:Str):Option Int:=
 (Ffch c_1.Clauses id_2).bind fun r3=>some r3
noncomputable def Ffn (day_1:Int):Option Bool:=
 (Ffq day_1 0 36524).bind fun r2=>some r2
noncomputable def Ffj_la_F (slf_Ffj:(Condition×Int)→Option Int)(c_1:Condition)(so_2:Int)(self:(Int×Int)→Option (Int⊕Int))(x5:Int×Int):Option (Int⊕Int):=
 bif (decide (x5.2<(len c_1.Parts))) then ((getI c_1.Parts x5.2).bind fun e6=>(slf_Ffj (e6,x5.1)).bind fun r7=>bif (decide (r7<0)) then (some (.inl (-1))) else (self (r7,(w64 (x5.2+1))))) else (some (.inr x5.1))
noncomputable def Ffj_la (slf_Ffj:(Condition×Int)→Option Int)(c_1:Condition)(so_2:Int): (Int×Int)→Option (Int⊕Int):=fixO (Ffj_la_F slf_Ffj c_1 so_2)
theorem Ffj_la_fin (slf_Ffj:(Condition×Int)→Option Int)(c_1:Condition)(so_2:Int): ∀a,Fin1 fun f=>Ffj_la_F slf_Ffj c_1 so_2 f a:=by
 intro a
 unfold Ffj_la_F
 repeat first|exact f_const|exact f_self|refine f_cond ?_ ?_|refine f_bindJ ?_ (fun _=>?_)|refine f_bindL ?_ (fun _=>?_)|refine f_bind ?_ (fun _=>?_)|refine f_letJ (fun _=>?_)
theorem Ffj_la_eq (slf_Ffj:(Condition×Int)→Option Int)(c_1:Condition)(so_2:Int)(x:Int×Int):Ffj_la slf_Ffj c_1 so_2 x=Ffj_la_F slf_Ffj c_1 so_2 (Ffj_la slf_Ffj c_1 so_2) x:=fix_eq (Ffj_la_fin slf_Ffj c_1 so_2) x
noncomputable def Ffj_B (slf_Ffj:(Condition×Int)→Option Int)(c_1:Condition)(so_2:Int):Option Int:=
 bindJ (ρ:=Int) (bif (decide ((w64 (so_2+1))>15)) then (some (.inr true)) else ((Ffq c_1.Op 1 6).bind fun r20=>bindL (ρ:=Int) (bif (!r20) then (some (.inr true)) else ((getI [(-1),0,0,0,1,2,2] c_1.Op).bind fun e22=>some (.inr ((len c_1.Parts) != e22)))) fun u21:Bool=>some (.inr u21))) fun u3:Bool=>bif u3 then (some (-1)) else (bindJ (ρ:=Int) (bif (!((c_1.Op==2)==(!(c_1.Name==([]:Str))))) then (some (.inr true)) else (bindL (ρ:=Int) (bif (c_1.Op==2) then ((Ffe c_1.Name).bind fun r10=>bindL (ρ:=Int) (bif (!r10) then (some (.inr true)) else (bindL (ρ:=Int) (bif (c_1.Op != 3) then (bindL (ρ:=Int) (bif (c_1.Day != 0) then (some (.inr true)) else ((Ffn c_1.Day).bind fun r14=>some (.inr (!r14)))) fun u13:Bool=>some (.inr u13)) else ((Ffn c_1.Day).bind fun r15=>some (.inr (!r15)))) fun u12:Bool=>some (.inr u12))) fun u11:Bool=>some (.inr u11)) else (bindL (ρ:=Int) (bif (c_1.Op != 3) then (bindL (ρ:=Int) (bif (c_1.Day != 0) then (some (.inr true)) else ((Ffn c_1.Day).bind fun r18=>some (.inr (!r18)))) fun u17:Bool=>some (.inr u17)) else ((Ffn c_1.Day).bind fun r19=>some (.inr (!r19)))) fun u16:Bool=>some (.inr u16))) fun u9:Bool=>some (.inr u9))) fun u4:Bool=>bif u4 then (some (-1)) else (bindJ (ρ:=Int) (Ffj_la slf_Ffj c_1 so_2 ((w64 (so_2+1)),0)) fun u8:Int=>some u8))
noncomputable def Ffj_G (slf_Ffj:(Condition×Int)→Option Int)(x:Condition×Int):Option Int:=Ffj_B slf_Ffj x.1 x.2
noncomputable def Ffj (c_1:Condition)(so_2:Int):Option Int:=fixO Ffj_G (c_1,so_2)
theorem Ffj_fin:∀x,Fin1 fun slf_Ffj=>Ffj_G slf_Ffj x:=by
 intro x
 unfold Ffj_G Ffj_B
 repeat first|exact f_const|exact f_self|exact f_selfL|exact f_selfR|exact f_selfLL|exact f_selfRL|exact f_selfLLL|exact f_selfRLL|refine f_cond ?_ ?_|refine f_bindJ ?_ (fun _=>?_)|refine f_bindL ?_ (fun _=>?_)|refine f_bind ?_ (fun _=>?_)|refine f_letJ (fun _=>?_)|refine f_fix (fun _=>?_) | unfold Ffj_la | unfold Ffj_la_F
theorem Ffj_eq (c_1:Condition)(so_2:Int):Ffj c_1 so_2=Ffj_B (fixO Ffj_G) c_1 so_2:=fix_eq Ffj_fin (c_1,so_2)
noncomputable def Ffc (c_1:Condition):Option Bool:=
 (Ffj c_1 0).bind fun r2=>some (decide (r2>0))
noncomputable def Ffm (c_1:Contract)(i_2:Int):Option Bool:=
 (getI c_1.Clauses i_2).bind fun e3=>(Ffe e3.Id).bind fun r4=>bindJ (ρ:=Bool) (bif (!r4) then (some (.inr true)) else ((Ffh c_1 e3.Id).bind fun r23=>bindL (ρ:=Bool) (bif (r23 != i_2) then (some (.inr true)) else ((Ffe e3.Action).bind fun r25=>bindL (ρ:=Bool) (bif (!r25) then (some (.inr true)) else ((Ffq e3.Kind 1 4).bind fun r27=>some (.inr (!r27)))) fun u26:Bool=>some (.inr u26))) fun u24:Bool=>some (.inr u24))) fun u5:Bool=>bif u5 then (some false) else ((Ffq e3.Party 0 (w64 ((len c_1.Parties) - 1))).bind fun r6=>bindJ (ρ:=Bool) (bif (!r6) then (some (.inr true)) else ((Ffq e3.Other 0 (w64 ((len c_1.Parties) - 1))).bind fun r19=>bindL (ρ:=Bool) (bif (!r19) then (some (.inr true)) else (bindL (ρ:=Bool) (bif (e3.Party==e3.Other) then (some (.inr true)) else ((Ffc e3.When).bind fun r22=>some (.inr (!r22)))) fun u21:Bool=>some (.inr u21))) fun u20:Bool=>some (.inr u20))) fun u7:Bool=>bif u7 then (some false) else ((Ffq e3.Amount 0 1000000).bind fun r8=>bindJ (ρ:=Bool) (bif (!r8) then (some (.inr true)) else ((Ffq e3.Within 0 400).bind fun r15=>letJ (bif (!r15) then true else (letJ (bif (e3.Kind != 1) then (letJ (bif (e3.Amount != 0) then true else (e3.Within != 0)) fun u18:Bool=>u18) else false) fun u17:Bool=>u17)) fun u16:Bool=>some (.inr u16))) fun u9:Bool=>bif u9 then (some false) else (bif (e3.Repair==([]:Str)) then (some true) else ((Ffh c_1 e3.Repair).bind fun r10=>bindJ (ρ:=Bool) (bif (e3.Kind != 3) then (bindL (ρ:=Bool) (bif (decide (r10≥0)) then (bindL (ρ:=Bool) (bif (r10 != i_2) then ((getI c_1.Clauses r10).bind fun e14=>some (.inr (e14.Kind==1))) else (some (.inr false))) fun u13:Bool=>some (.inr u13)) else (some (.inr false))) fun u12:Bool=>some (.inr u12)) else (some (.inr false))) fun u11:Bool=>some u11))))
noncomputable def Fff_la_F (slf_Fff:(Condition×(List Str))→Option (List Str))(c_3:Condition)(list_4:List Str)(self:(Int×(List Str))→Option ((List Str)⊕(List Str)))(x4:Int×(List Str)):Option ((List Str)⊕(List Str)):=
 bif (decide (x4.1<(len c_3.Parts))) then ((getI c_3.Parts x4.1).bind fun e5=>(slf_Fff (e5,x4.2)).bind fun r6=>self ((w64 (x4.1+1)),r6)) else (some (.inr x4.2))
noncomputable def Fff_la (slf_Fff:(Condition×(List Str))→Option (List Str))(c_3:Condition)(list_4:List Str): (Int×(List Str))→Option ((List Str)⊕(List Str)):=fixO (Fff_la_F slf_Fff c_3 list_4)
theorem Fff_la_fin (slf_Fff:(Condition×(List Str))→Option (List Str))(c_3:Condition)(list_4:List Str): ∀a,Fin1 fun f=>Fff_la_F slf_Fff c_3 list_4 f a:=by
 intro a
 unfold Fff_la_F
 repeat first|exact f_const|exact f_self|refine f_cond ?_ ?_|refine f_bindJ ?_ (fun _=>?_)|refine f_bindL ?_ (fun _=>?_)|refine f_bind ?_ (fun _=>?_)|refine f_letJ (fun _=>?_)
theorem Fff_la_eq (slf_Fff:(Condition×(List Str))→Option (List Str))(c_3:Condition)(list_4:List Str)(x:Int×(List Str)):Fff_la slf_Fff c_3 list_4 x=Fff_la_F slf_Fff c_3 list_4 (Fff_la slf_Fff c_3 list_4) x:=fix_eq (Fff_la_fin slf_Fff c_3 list_4) x
noncomputable def Fff_B (slf_Fff:(Condition×(List Str))→Option (List Str))(c_3:Condition)(list_4:List Str):Option (List Str):=
 bindJ (ρ:=(List Str)) (bif (c_3.Op==2) then ((appI 16 list_4 [c_3.Name]).bind fun a8=>some (.inr a8)) else (some (.inr list_4))) fun u3:(List Str)=>bindJ (ρ:=(List Str)) (Fff_la slf_Fff c_3 list_4 (0,u3)) fun u7:(List Str)=>some u7
noncomputable def Fff_G (slf_Fff:(Condition×(List Str))→Option (List Str))(x:Condition×(List Str)):Option (List Str):=Fff_B slf_Fff x.1 x.2
noncomputable def Fff (c_3:Condition)(list_4:List Str):Option (List Str):=fixO Fff_G (c_3,list_4)
theorem Fff_fin:∀x,Fin1 fun slf_Fff=>Fff_G slf_Fff x:=by
 intro x
 unfold Fff_G Fff_B
 repeat first|exact f_const|exact f_self|exact f_selfL|exact f_selfR|exact f_selfLL|exact f_selfRL|exact f_selfLLL|exact f_selfRLL|refine f_cond ?_ ?_|refine f_bindJ ?_ (fun _=>?_)|refine f_bindL ?_ (fun _=>?_)|refine f_bind ?_ (fun _=>?_)|refine f_letJ (fun _=>?_)|refine f_fix (fun _=>?_) | unfold Fff_la | unfold Fff_la_F
theorem Fff_eq (c_3:Condition)(list_4:List Str):Fff c_3 list_4=Fff_B (fixO Fff_G) c_3 list_4:=fix_eq Fff_fin (c_3,list_4)
noncomputable def Ffce_lb_F (s_2:List Str)(x2:Int)(self:(Int×Int×(List Str))→Option ((List Str)⊕(Int×(List Str))))(x6:Int×Int×(List Str)):Option ((List Str)⊕(Int×(List Str))):=
 bif (decide (x6.2.1<(((Int.toNat (len s_2) - Int.toNat x2):Nat):Int))) then ((getP x6.2.2 (0+Int.toNat x2) (Int.toNat (len s_2) - Int.toNat x2) x6.2.1).bind fun e7=>(getP x6.2.2 (0+Int.toNat x2) (Int.toNat (len s_2) - Int.toNat x2) (w64 (x6.2.1 - 1))).bind fun e8=>bindL (ρ:=(List Str)) (bif (!(e7==e8)) then ((getP x6.2.2 (0+Int.toNat x2) (Int.toNat (len s_2) - Int.toNat x2) x6.2.1).bind fun e10=>(getI x6.2.2 x6.1).bind fun e11=>some (.inr ((w64 (x6.1+1)),(setI x6.2.2 x6.1 e10)))) else (some (.inr (x6.1,x6.2.2)))) fun u9:Int×(List Str)=>self (u9.1,(w64 (x6.2.1+1)),u9.2)) else (some (.inr (x6.1,x6.2.2)))
noncomputable def Ffce_lb (s_2:List Str)(x2:Int):(Int×Int×(List Str))→Option ((List Str)⊕(Int×(List Str))):=fixO (Ffce_lb_F s_2 x2)
theorem Ffce_lb_fin (s_2:List Str)(x2:Int):∀a,Fin1 fun f=>Ffce_lb_F s_2 x2 f a:=by
 intro a
 unfold Ffce_lb_F
 repeat first|exact f_const|exact f_self|refine f_cond ?_ ?_|refine f_bindJ ?_ (fun _=>?_)|refine f_bindL ?_ (fun _=>?_)|refine f_bind ?_ (fun _=>?_)|refine f_letJ (fun _=>?_)
theorem Ffce_lb_eq (s_2:List Str)(x2:Int)(x:Int×Int×(List Str)):Ffce_lb s_2 x2 x=Ffce_lb_F s_2 x2 (Ffce_lb s_2 x2) x:=fix_eq (Ffce_lb_fin s_2 x2) x
noncomputable def Ffce_la_F (s_2:List Str)(self:Int→Option ((List Str)⊕(List Str)))(x2:Int):Option ((List Str)⊕(List Str)):=
 bif (decide (x2<(len s_2))) then ((getI s_2 x2).bind fun e3=>(getI s_2 (w64 (x2 - 1))).bind fun e4=>bif (e3==e4) then ((subP s_2.length x2 (len s_2)).bind fun s5=>bindL (ρ:=(List Str)) (Ffce_lb s_2 x2 (x2,1,s_2)) fun u15:Int×(List Str)=>(subP u15.2.length u15.1 (len u15.2)).bind fun s16=>(clrP u15.2 (0+Int.toNat u15.1) (Int.toNat (len u15.2) - Int.toNat u15.1) []).bind fun k17=>(subP k17.length 0 u15.1).bind fun s18=>(partP k17 (0+Int.toNat (0)) (Int.toNat u15.1 - Int.toNat (0))).bind fun p19=>some (.inl p19)) else (self (w64 (x2+1)))) else (some (.inr s_2))
noncomputable def Ffce_la (s_2:List Str): Int→Option ((List Str)⊕(List Str)):=fixO (Ffce_la_F s_2)
theorem Ffce_la_fin (s_2:List Str): ∀a,Fin1 fun f=>Ffce_la_F s_2 f a:=by
 intro a
 unfold Ffce_la_F
 repeat first|exact f_const|exact f_self|refine f_cond ?_ ?_|refine f_bindJ ?_ (fun _=>?_)|refine f_bindL ?_ (fun _=>?_)|refine f_bind ?_ (fun _=>?_)|refine f_letJ (fun _=>?_)
theorem Ffce_la_eq (s_2:List Str)(x:Int):Ffce_la s_2 x=Ffce_la_F s_2 (Ffce_la s_2) x:=fix_eq (Ffce_la_fin s_2) x
noncomputable def Ffce (s_2:List Str):Option (List Str):=
 bif (decide ((len s_2)<2)) then (some s_2) else (bindJ (ρ:=(List Str)) (Ffce_la s_2 1) fun u20:(List Str)=>some u20)
noncomputable def Ffp (list_5:List Str):Option (List Str):=
 (xSortS list_5).bind fun r2=>bif Nat.beq r2.length list_5.length then ((Ffce r2).bind fun r4=>some r4) else none
noncomputable def Ffk_la_F (c_1:Contract)(self:(Int×(List Str))→Option ((List Str)⊕(List Str)))(x2:Int×(List Str)):Option ((List Str)⊕(List Str)):=
 bif (decide (x2.1<(len c_1.Clauses))) then ((getI c_1.Clauses x2.1).bind fun e3=>(appI 16 x2.2 [e3.Action]).bind fun a4=>(Fff e3.When a4).bind fun r5=>self ((w64 (x2.1+1)),r5)) else (some (.inr x2.2))
noncomputable def Ffk_la (c_1:Contract): (Int×(List Str))→Option ((List Str)⊕(List Str)):=fixO (Ffk_la_F c_1)
theorem Ffk_la_fin (c_1:Contract): ∀a,Fin1 fun f=>Ffk_la_F c_1 f a:=by
 intro a
 unfold Ffk_la_F
 repeat first|exact f_const|exact f_self|refine f_cond ?_ ?_|refine f_bindJ ?_ (fun _=>?_)|refine f_bindL ?_ (fun _=>?_)|refine f_bind ?_ (fun _=>?_)|refine f_letJ (fun _=>?_)
theorem Ffk_la_eq (c_1:Contract)(x:Int×(List Str)):Ffk_la c_1 x=Ffk_la_F c_1 (Ffk_la c_1) x:=fix_eq (Ffk_la_fin c_1) x
noncomputable def Ffk (c_1:Contract):Option (List Str):=
 bindJ (ρ:=(List Str)) (Ffk_la c_1 (0,[])) fun u6:(List Str)=>(Ffp u6).bind fun r7=>some r7
noncomputable def Ffd_la_F (c_1:Contract)(self:Int→Option (Bool⊕Unit))(x4:Int):Option (Bool⊕Unit):=
 bif (decide (x4<(len c_1.Clauses))) then ((Ffm c_1 x4).bind fun r5=>bif (!r5) then (some (.inl false)) else (self (w64 (x4+1)))) else (some (.inr ()))
noncomputable def Ffd_la (c_1:Contract): Int→Option (Bool⊕Unit):=fixO (Ffd_la_F c_1)
theorem Ffd_la_fin (c_1:Contract): ∀a,Fin1 fun f=>Ffd_la_F c_1 f a:=by
 intro a
 unfold Ffd_la_F
 repeat first|exact f_const|exact f_self|refine f_cond ?_ ?_|refine f_bindJ ?_ (fun _=>?_)|refine f_bindL ?_ (fun _=>?_)|refine f_bind ?_ (fun _=>?_)|refine f_letJ (fun _=>?_)
theorem Ffd_la_eq (c_1:Contract)(x:Int):Ffd_la c_1 x=Ffd_la_F c_1 (Ffd_la c_1) x:=fix_eq (Ffd_la_fin c_1) x
noncomputable def Ffd (c_1:Contract):Option Bool:=
 (Ffg c_1.Parties).bind fun r2=>bindJ (ρ:=Bool) (bif (!r2) then (some (.inr true)) else ((Ffq (len c_1.Clauses) 1 12).bind fun r8=>some (.inr (!r8)))) fun u3:Bool=>bif u3 then (some false) else (bindJ (ρ:=Bool) (Ffd_la c_1 0) fun u6:Unit=>(Ffk c_1).bind fun r7=>some (decide ((len r7)≤16)))
noncomputable def Ffo_la_F (c_1:Contract)(trace_2:List Entry)(self:Int→Option (Bool⊕Unit))(x5:Int):Option (Bool⊕Unit):=
 bif (decide (x5<(len trace_2))) then ((getI trace_2 x5).bind fun e6=>(Ffn e6.Day).bind fun r7=>bindL (ρ:=Bool) (bif (!r7) then (some (.inr true)) else (bindL (ρ:=Bool) (bif (decide (x5>0)) then ((getI trace_2 (w64 (x5 - 1))).bind fun e12=>bindL (ρ:=Bool) (bif (decide (e6.Day<e12.Day)) then (some (.inr true)) else ((Ffq e6.Kind 1 7).bind fun r14=>bindL (ρ:=Bool) (bif (!r14) then (some (.inr true)) else ((Ffq e6.Party 0 (w64 ((len c_1.Parties) - 1))).bind fun r16=>some (.inr (!r16)))) fun u15:Bool=>some (.inr u15))) fun u13:Bool=>some (.inr u13)) else ((Ffq e6.Kind 1 7).bind fun r17=>bindL (ρ:=Bool) (bif (!r17) then (some (.inr true)) else ((Ffq e6.Party 0 (w64 ((len c_1.Parties) - 1))).bind fun r19=>some (.inr (!r19)))) fun u18:Bool=>some (.inr u18))) fun u11:Bool=>some (.inr u11))) fun u8:Bool=>bif u8 then (some (.inl false)) else (bindL (ρ:=Bool) (bif (decide (e6.Kind≥6)) then (bif (e6.Clause != (-1)) then (some (.inl false)) else (some (.inr ()))) else ((Ffq e6.Clause 0 (w64 ((len c_1.Clauses) - 1))).bind fun r10=>bif (!r10) then (some (.inl false)) else (some (.inr ())))) fun u9:Unit=>self (w64 (x5+1)))) else (some (.inr ()))
noncomputable def Ffo_la (c_1:Contract)(trace_2:List Entry): Int→Option (Bool⊕Unit):=fixO (Ffo_la_F c_1 trace_2)
theorem Ffo_la_fin (c_1:Contract)(trace_2:List Entry): ∀a,Fin1 fun f=>Ffo_la_F c_1 trace_2 f a:=by
 intro a
 unfold Ffo_la_F
 repeat first|exact f_const|exact f_self|refine f_cond ?_ ?_|refine f_bindJ ?_ (fun _=>?_)|refine f_bindL ?_ (fun _=>?_)|refine f_bind ?_ (fun _=>?_)|refine f_letJ (fun _=>?_)
theorem Ffo_la_eq (c_1:Contract)(trace_2:List Entry)(x:Int):Ffo_la c_1 trace_2 x=Ffo_la_F c_1 trace_2 (Ffo_la c_1 trace_2) x:=fix_eq (Ffo_la_fin c_1 trace_2) x
noncomputable def Ffo (c_1:Contract)(trace_2:List Entry):Option Bool:=
 (Ffd c_1).bind fun r3=>letJ (bif (!r3) then true else (decide ((len trace_2)>200))) fun u4:Bool=>bif u4 then (some false) else (bindJ (ρ:=Bool) (Ffo_la c_1 trace_2 0) fun u20:Unit=>some true)
noncomputable def Ffcd (s_1:List Entry):Option (List Entry):=
 nilO s_1 (some []) ((appI 32 ([]:List Entry) s_1).bind fun a2=>some a2)
noncomputable def Ffl (x_1:Entry):Option Bool:=
 letJ (bif (x_1.Kind==2) then true else (x_1.Kind==4)) fun u2:Bool=>some u2
noncomputable def Ffb (x_1:Entry)(a_2:Int):Option Bool:=
 (Ffl x_1).bind fun r3=>letJ (bif (!r3) then true else (x_1.Party != a_2)) fun u4:Bool=>some u4
noncomputable def Ffci_la_F (s_1:List Entry)(f_2:Int)(self:Int→Option (Int⊕Unit))(x3:Int):Option (Int⊕Unit):=
 bif (decide (x3<(len s_1))) then ((getI s_1 x3).bind fun e4=>(Ffb e4 f_2).bind fun r5=>bif r5 then (some (.inl x3)) else (self (w64 (x3+1)))) else (some (.inr ()))
noncomputable def Ffci_la (s_1:List Entry)(f_2:Int): Int→Option (Int⊕Unit):=fixO (Ffci_la_F s_1 f_2)
theorem Ffci_la_fin (s_1:List Entry)(f_2:Int): ∀a,Fin1 fun f=>Ffci_la_F s_1 f_2 f a:=by
 intro a
 unfold Ffci_la_F
 repeat first|exact f_const|exact f_self|refine f_cond ?_ ?_|refine f_bindJ ?_ (fun _=>?_)|refine f_bindL ?_ (fun _=>?_)|refine f_bind ?_ (fun _=>?_)|refine f_letJ (fun _=>?_)
theorem Ffci_la_eq (s_1:List Entry)(f_2:Int)(x:Int):Ffci_la s_1 f_2 x=Ffci_la_F s_1 f_2 (Ffci_la s_1 f_2) x:=fix_eq (Ffci_la_fin s_1 f_2) x
noncomputable def Ffci (s_1:List Entry)(f_2:Int):Option Int:=
 bindJ (ρ:=Int) (Ffci_la s_1 f_2 0) fun u6:Unit=>some (-1)
noncomputable def Ffcg_la_F (s_4:List Entry)(del_5:Int)(self:(Int×Int×(List Entry))→Option ((List Entry)⊕(Int×(List Entry))))(x4:Int×Int×(List Entry)):Option ((List Entry)⊕(Int×(List Entry))):=
 bif (decide (x4.2.1<(len x4.2.2))) then ((getI x4.2.2 x4.2.1).bind fun e5=>(Ffb e5 del_5).bind fun r6=>bindL (ρ:=(List Entry)) (bif (!r6) then ((getI x4.2.2 x4.1).bind fun e8=>some (.inr ((w64 (x4.1+1)),(setI x4.2.2 x4.1 e5)))) else (some (.inr (x4.1,x4.2.2)))) fun u7:Int×(List Entry)=>self (u7.1,(w64 (x4.2.1+1)),u7.2)) else (some (.inr (x4.1,x4.2.2)))
noncomputable def Ffcg_la (s_4:List Entry)(del_5:Int): (Int×Int×(List Entry))→Option ((List Entry)⊕(Int×(List Entry))):=fixO (Ffcg_la_F s_4 del_5)
theorem Ffcg_la_fin (s_4:List Entry)(del_5:Int): ∀a,Fin1 fun f=>Ffcg_la_F s_4 del_5 f a:=by
 intro a
 unfold Ffcg_la_F
 repeat first|exact f_const|exact f_self|refine f_cond ?_ ?_|refine f_bindJ ?_ (fun _=>?_)|refine f_bindL ?_ (fun _=>?_)|refine f_bind ?_ (fun _=>?_)|refine f_letJ (fun _=>?_)
theorem Ffcg_la_eq (s_4:List Entry)(del_5:Int)(x:Int×Int×(List Entry)):Ffcg_la s_4 del_5 x=Ffcg_la_F s_4 del_5 (Ffcg_la s_4 del_5) x:=fix_eq (Ffcg_la_fin s_4 del_5) x
noncomputable def Ffcg (s_4:List Entry)(del_5:Int):Option (List Entry):=
 (Ffci s_4 del_5).bind fun r3=>bif (r3==(-1)) then (some s_4) else (bindJ (ρ:=(List Entry)) (Ffcg_la s_4 del_5 (r3,(w64 (r3+1)),s_4)) fun u10:Int×(List Entry)=>(subP u10.2.length u10.1 (len u10.2)).bind fun s11=>(clrP u10.2 (0+Int.toNat u10.1) (Int.toNat (len u10.2) - Int.toNat u10.1) (Entry.mk 0 0 0 0)).bind fun k12=>(subP k12.length 0 u10.1).bind fun s13=>(partP k12 (0+Int.toNat (0)) (Int.toNat u10.1 - Int.toNat (0))).bind fun p14=>some p14)
noncomputable def Ffa (c_1:Contract)(trace_2:List Entry)(party_3:Int):Option ((List Entry)×Bool):=
 (Ffo c_1 trace_2).bind fun r4=>bindJ (ρ:=(List Entry)×Bool) (bif (!r4) then (some (.inr true)) else ((Ffq party_3 0 (w64 ((len c_1.Parties) - 1))).bind fun r8=>some (.inr (!r8)))) fun u5:Bool=>bif u5 then (some ([],false)) else ((Ffcd trace_2).bind fun r6=>(Ffcg r6 party_3).bind fun r7=>some (r7,true))
noncomputable def Ffz (a_1:Entry)(b_2:Entry):Option Bool:=
 bif (a_1.Day != b_2.Day) then (some false) else (bif (a_1.Kind != b_2.Kind) then (some false) else (bif (a_1.Clause != b_2.Clause) then (some false) else (bif (a_1.Party != b_2.Party) then (some false) else (some true))))
noncomputable def Ffba_la_F (a_1:List Entry)(b_2:List Entry)(self:Int→Option (Bool⊕Unit))(x3:Int):Option (Bool⊕Unit):=
 bif (decide (x3<(len a_1))) then ((getI a_1 x3).bind fun e4=>(getI b_2 x3).bind fun e5=>(Ffz e4 e5).bind fun r6=>bif (!r6) then (some (.inl false)) else (self (w64 (x3+1)))) else (some (.inr ()))
noncomputable def Ffba_la (a_1:List Entry)(b_2:List Entry): Int→Option (Bool⊕Unit):=fixO (Ffba_la_F a_1 b_2)
theorem Ffba_la_fin (a_1:List Entry)(b_2:List Entry): ∀a,Fin1 fun f=>Ffba_la_F a_1 b_2 f a:=by
 intro a
 unfold Ffba_la_F
 repeat first|exact f_const|exact f_self|refine f_cond ?_ ?_|refine f_bindJ ?_ (fun _=>?_)|refine f_bindL ?_ (fun _=>?_)|refine f_bind ?_ (fun _=>?_)|refine f_letJ (fun _=>?_)
theorem Ffba_la_eq (a_1:List Entry)(b_2:List Entry)(x:Int):Ffba_la a_1 b_2 x=Ffba_la_F a_1 b_2 (Ffba_la a_1 b_2) x:=fix_eq (Ffba_la_fin a_1 b_2) x
noncomputable def Ffba (a_1:List Entry)(b_2:List Entry):Option Bool:=
 bif ((len a_1) != (len b_2)) then (some false) else (bindJ (ρ:=Bool) (Ffba_la a_1 b_2 0) fun u7:Unit=>some true)
noncomputable def Ffbb_la_F (a_1:List Str)(b_2:List Str)(self:Int→Option (Bool⊕Unit))(x3:Int):Option (Bool⊕Unit):=
 bif (decide (x3<(len a_1))) then ((getI a_1 x3).bind fun e4=>(getI b_2 x3).bind fun e5=>bif (!(e4==e5)) then (some (.inl false)) else (self (w64 (x3+1)))) else (some (.inr ()))
noncomputable def Ffbb_la (a_1:List Str)(b_2:List Str): Int→Option (Bool⊕Unit):=fixO (Ffbb_la_F a_1 b_2)
theorem Ffbb_la_fin (a_1:List Str)(b_2:List Str): ∀a,Fin1 fun f=>Ffbb_la_F a_1 b_2 f a:=by
 intro a
 unfold Ffbb_la_F
 repeat first|exact f_const|exact f_self|refine f_cond ?_ ?_|refine f_bindJ ?_ (fun _=>?_)|refine f_bindL ?_ (fun _=>?_)|refine f_bind ?_ (fun _=>?_)|refine f_letJ (fun _=>?_)
theorem Ffbb_la_eq (a_1:List Str)(b_2:List Str)(x:Int):Ffbb_la a_1 b_2 x=Ffbb_la_F a_1 b_2 (Ffbb_la a_1 b_2) x:=fix_eq (Ffbb_la_fin a_1 b_2) x
noncomputable def Ffbb (a_1:List Str)(b_2:List Str):Option Bool:=
 bif ((len a_1) != (len b_2)) then (some false) else (bindJ (ρ:=Bool) (Ffbb_la a_1 b_2 0) fun u6:Unit=>some true)
noncomputable def Ffx_la_F (slf_Ffv:(Condition×Condition)→Option Bool)(a_1:List Condition)(b_2:List Condition)(self:Int→Option (Bool⊕Unit))(x3:Int):Option (Bool⊕Unit):=
 bif (decide (x3<(len a_1))) then ((getI a_1 x3).bind fun e4=>(getI b_2 x3).bind fun e5=>(slf_Ffv (e4,e5)).bind fun r6=>bif (!r6) then (some (.inl false)) else (self (w64 (x3+1)))) else (some (.inr ()))
noncomputable def Ffx_la (slf_Ffv:(Condition×Condition)→Option Bool)(a_1:List Condition)(b_2:List Condition): Int→Option (Bool⊕Unit):=fixO (Ffx_la_F slf_Ffv a_1 b_2)
theorem Ffx_la_fin (slf_Ffv:(Condition×Condition)→Option Bool)(a_1:List Condition)(b_2:List Condition): ∀a,Fin1 fun f=>Ffx_la_F slf_Ffv a_1 b_2 f a:=by
 intro a
 unfold Ffx_la_F
 repeat first|exact f_const|exact f_self|refine f_cond ?_ ?_|refine f_bindJ ?_ (fun _=>?_)|refine f_bindL ?_ (fun _=>?_)|refine f_bind ?_ (fun _=>?_)|refine f_letJ (fun _=>?_)
theorem Ffx_la_eq (slf_Ffv:(Condition×Condition)→Option Bool)(a_1:List Condition)(b_2:List Condition)(x:Int):Ffx_la slf_Ffv a_1 b_2 x=Ffx_la_F slf_Ffv a_1 b_2 (Ffx_la slf_Ffv a_1 b_2) x:=fix_eq (Ffx_la_fin slf_Ffv a_1 b_2) x
noncomputable def Ffx (slf_Ffv:(Condition×Condition)→Option Bool)(a_1:List Condition)(b_2:List Condition):Option Bool:=
 bif ((len a_1) != (len b_2)) then (some false) else (bindJ (ρ:=Bool) (Ffx_la slf_Ffv a_1 b_2 0) fun u7:Unit=>some true)
noncomputable def Ffv_B (slf_Ffv:(Condition×Condition)→Option Bool)(a_1:Condition)(b_2:Condition):Option Bool:=
 bif (a_1.Op != b_2.Op) then (some false) else (bif (!(a_1.Name==b_2.Name)) then (some false) else (bif (a_1.Day != b_2.Day) then (some false) else ((Ffx slf_Ffv a_1.Parts b_2.Parts).bind fun r3=>bif (!r3) then (some false) else (some true))))
noncomputable def Ffv_G (slf_Ffv:(Condition×Condition)→Option Bool)(x:Condition×Condition):Option Bool:=Ffv_B slf_Ffv x.1 x.2
noncomputable def Ffv (a_1:Condition)(b_2:Condition):Option Bool:=fixO Ffv_G (a_1,b_2)
theorem Ffv_fin:∀x,Fin1 fun slf_Ffv=>Ffv_G slf_Ffv x:=by
 intro x
 unfold Ffv_G Ffv_B
 repeat first|exact f_const|exact f_self|exact f_selfL|exact f_selfR|exact f_selfLL|exact f_selfRL|exact f_selfLLL|exact f_selfRLL|refine f_cond ?_ ?_|refine f_bindJ ?_ (fun _=>?_)|refine f_bindL ?_ (fun _=>?_)|refine f_bind ?_ (fun _=>?_)|refine f_letJ (fun _=>?_)|refine f_fix (fun _=>?_) | unfold Ffx | unfold Ffx_la | unfold Ffx_la_F
theorem Ffv_eq (a_1:Condition)(b_2:Condition):Ffv a_1 b_2=Ffv_B (fixO Ffv_G) a_1 b_2:=fix_eq Ffv_fin (a_1,b_2)
noncomputable def Ffw (a_1:List Condition)(b_2:List Condition):Option Bool:=Ffx (fixO Ffv_G) a_1 b_2
noncomputable def Fft (a_1:Clause)(b_2:Clause):Option Bool:=
 bif (!(a_1.Id==b_2.Id)) then (some false) else (bif (a_1.Kind != b_2.Kind) then (some false) else (bif (a_1.Party != b_2.Party) then (some false) else (bif (!(a_1.Action==b_2.Action)) then (some false) else (bif (a_1.Other != b_2.Other) then (some false) else (bif (a_1.Amount != b_2.Amount) then (some false) else ((Ffv a_1.When b_2.When).bind fun r3=>bif (!r3) then (some false) else (bif (a_1.Within != b_2.Within) then (some false) else (bif (!(a_1.Repair==b_2.Repair)) then (some false) else (some true)))))))))
noncomputable def Ffu_la_F (a_1:List Clause)(b_2:List Clause)(self:Int→Option (Bool⊕Unit))(x3:Int):Option (Bool⊕Unit):=
 bif (decide (x3<(len a_1))) then ((getI a_1 x3).bind fun e4=>(getI b_2 x3).bind fun e5=>(Fft e4 e5).bind fun r6=>bif (!r6) then (some (.inl false)) else (self (w64 (x3+1)))) else (some (.inr ()))
noncomputable def Ffu_la (a_1:List Clause)(b_2:List Clause): Int→Option (Bool⊕Unit):=fixO (Ffu_la_F a_1 b_2)
theorem Ffu_la_fin (a_1:List Clause)(b_2:List Clause): ∀a,Fin1 fun f=>Ffu_la_F a_1 b_2 f a:=by
 intro a
 unfold Ffu_la_F
 repeat first|exact f_const|exact f_self|refine f_cond ?_ ?_|refine f_bindJ ?_ (fun _=>?_)|refine f_bindL ?_ (fun _=>?_)|refine f_bind ?_ (fun _=>?_)|refine f_letJ (fun _=>?_)
theorem Ffu_la_eq (a_1:List Clause)(b_2:List Clause)(x:Int):Ffu_la a_1 b_2 x=Ffu_la_F a_1 b_2 (Ffu_la a_1 b_2) x:=fix_eq (Ffu_la_fin a_1 b_2) x
noncomputable def Ffu (a_1:List Clause)(b_2:List Clause):Option Bool:=
 bif ((len a_1) != (len b_2)) then (some false) else (bindJ (ρ:=Bool) (Ffu_la a_1 b_2 0) fun u7:Unit=>some true)
noncomputable def Ffy (a_1:Contract)(b_2:Contract):Option Bool:=
 (Ffbb a_1.Parties b_2.Parties).bind fun r3=>bif (!r3) then (some false) else ((Ffu a_1.Clauses b_2.Clauses).bind fun r4=>bif (!r4) then (some false) else (some true))
noncomputable def Ffbi_la_F (k_1:Int)(self:(Int×Str)→Option (Str⊕Str))(x2:Int×Str):Option (Str⊕Str):=
 bif (decide (x2.1>0)) then ((catS ([(IntKind.u8.wrap (w64 (48+(x2.1.tmod 10))))].map fun n=>UInt8.ofNat n.toNat) x2.2).bind fun s3=>self ((w64 (x2.1.tdiv 10)),s3)) else (some (.inr x2.2))
noncomputable def Ffbi_la (k_1:Int): (Int×Str)→Option (Str⊕Str):=fixO (Ffbi_la_F k_1)
theorem Ffbi_la_fin (k_1:Int): ∀a,Fin1 fun f=>Ffbi_la_F k_1 f a:=by
 intro a
 unfold Ffbi_la_F
 repeat first|exact f_const|exact f_self|refine f_cond ?_ ?_|refine f_bindJ ?_ (fun _=>?_)|refine f_bindL ?_ (fun _=>?_)|refine f_bind ?_ (fun _=>?_)|refine f_letJ (fun _=>?_)
theorem Ffbi_la_eq (k_1:Int)(x:Int×Str):Ffbi_la k_1 x=Ffbi_la_F k_1 (Ffbi_la k_1) x:=fix_eq (Ffbi_la_fin k_1) x
noncomputable def Ffbi (k_1:Int):Option Str:=
 bif (decide (k_1≤0)) then (some ([109,48]:Str)) else (bindJ (ρ:=Str) (Ffbi_la k_1 (k_1,([]:Str))) fun u4:Str=>(catS ([109]:Str) u4).bind fun s5=>some s5)
noncomputable def Ffbh_la_F (a_7:List Str)(k_8:Int)(self:(Int×Int×(List Str))→Option ((Int×(List Str))⊕(Int×(List Str))))(x3:Int×Int×(List Str)):Option ((Int×(List Str))⊕(Int×(List Str))):=
 bif (decide (x3.2.1<(len x3.2.2))) then ((Ffbi x3.1).bind fun r4=>(getI x3.2.2 x3.2.1).bind fun e5=>self ((w64 (x3.1+1)),(w64 (x3.2.1+1)),(setI x3.2.2 x3.2.1 r4))) else (some (.inr (x3.1,x3.2.2)))
noncomputable def Ffbh_la (a_7:List Str)(k_8:Int): (Int×Int×(List Str))→Option ((Int×(List Str))⊕(Int×(List Str))):=fixO (Ffbh_la_F a_7 k_8)
theorem Ffbh_la_fin (a_7:List Str)(k_8:Int): ∀a,Fin1 fun f=>Ffbh_la_F a_7 k_8 f a:=by
 intro a
 unfold Ffbh_la_F
 repeat first|exact f_const|exact f_self|refine f_cond ?_ ?_|refine f_bindJ ?_ (fun _=>?_)|refine f_bindL ?_ (fun _=>?_)|refine f_bind ?_ (fun _=>?_)|refine f_letJ (fun _=>?_)
theorem Ffbh_la_eq (a_7:List Str)(k_8:Int)(x:Int×Int×(List Str)):Ffbh_la a_7 k_8 x=Ffbh_la_F a_7 k_8 (Ffbh_la a_7 k_8) x:=fix_eq (Ffbh_la_fin a_7 k_8) x
noncomputable def Ffbh (a_7:List Str)(k_8:Int):Option (Int×(List Str)):=
 bindJ (ρ:=Int×(List Str)) (Ffbh_la a_7 k_8 (k_8,0,a_7)) fun u6:Int×(List Str)=>bif Nat.beq u6.2.length a_7.length then (some (u6.1,u6.2)) else none
noncomputable def Ffbe_la_F (slf_Ffbe:((List Condition)×Int)→Option (Int×(List Condition)))(a_6:List Condition)(k_7:Int)(self:(Int×Int×(List Condition))→Option ((Int×(List Condition))⊕(Int×(List Condition))))(x3:Int×Int×(List Condition)):Option ((Int×(List Condition))⊕(Int×(List Condition))):=
 bif (decide (x3.2.1<(len x3.2.2))) then ((getI x3.2.2 x3.2.1).bind fun e4=>(Ffbi (w64 (x3.1+1))).bind fun r5=>(getI (setI x3.2.2 x3.2.1 (Condition.mk x3.1 e4.Name e4.Day e4.Parts)) x3.2.1).bind fun e6=>letJ (setI (setI x3.2.2 x3.2.1 (Condition.mk x3.1 e4.Name e4.Day e4.Parts)) x3.2.1 (Condition.mk e6.Op r5 e6.Day e6.Parts)) fun rw7:List Condition=>(getI rw7 x3.2.1).bind fun e9=>letJ (setI rw7 x3.2.1 (Condition.mk e9.Op e9.Name (w64 ((w64 (x3.1+1))+1)) e9.Parts)) fun rw10:List Condition=>(getI rw10 x3.2.1).bind fun e13=>(slf_Ffbe (e13.Parts,(w64 ((w64 ((w64 (x3.1+1))+1))+1)))).bind fun r14=>bif Nat.beq r14.2.length e13.Parts.length then (letJ (setI rw10 x3.2.1 (Condition.mk e13.Op e13.Name e13.Day r14.2)) fun rw16:List Condition=>self (r14.1,(w64 (x3.2.1+1)),rw16)) else none) else (some (.inr (x3.1,x3.2.2)))
noncomputable def Ffbe_la (slf_Ffbe:((List Condition)×Int)→Option (Int×(List Condition)))(a_6:List Condition)(k_7:Int): (Int×Int×(List Condition))→Option ((Int×(List Condition))⊕(Int×(List Condition))):=fixO (Ffbe_la_F slf_Ffbe a_6 k_7)
theorem Ffbe_la_fin (slf_Ffbe:((List Condition)×Int)→Option (Int×(List Condition)))(a_6:List Condition)(k_7:Int): ∀a,Fin1 fun f=>Ffbe_la_F slf_Ffbe a_6 k_7 f a:=by
 intro a
 unfold Ffbe_la_F
 repeat first|exact f_const|exact f_self|refine f_cond ?_ ?_|refine f_bindJ ?_ (fun _=>?_)|refine f_bindL ?_ (fun _=>?_)|refine f_bind ?_ (fun _=>?_)|refine f_letJ (fun _=>?_)
theorem Ffbe_la_eq (slf_Ffbe:((List Condition)×Int)→Option (Int×(List Condition)))(a_6:List Condition)(k_7:Int)(x:Int×Int×(List Condition)):Ffbe_la slf_Ffbe a_6 k_7 x=Ffbe_la_F slf_Ffbe a_6 k_7 (Ffbe_la slf_Ffbe a_6 k_7) x:=fix_eq (Ffbe_la_fin slf_Ffbe a_6 k_7) x
noncomputable def Ffbe_B (slf_Ffbe:((List Condition)×Int)→Option (Int×(List Condition)))(a_6:List Condition)(k_7:Int):Option (Int×(List Condition)):=
 bindJ (ρ:=Int×(List Condition)) (Ffbe_la slf_Ffbe a_6 k_7 (k_7,0,a_6)) fun u20:Int×(List Condition)=>bif Nat.beq u20.2.length a_6.length then (some (u20.1,u20.2)) else none
noncomputable def Ffbe_G (slf_Ffbe:((List Condition)×Int)→Option (Int×(List Condition)))(x:(List Condition)×Int):Option (Int×(List Condition)):=Ffbe_B slf_Ffbe x.1 x.2
noncomputable def Ffbe (a_6:List Condition)(k_7:Int):Option (Int×(List Condition)):=fixO Ffbe_G (a_6,k_7)
theorem Ffbe_fin:∀x,Fin1 fun slf_Ffbe=>Ffbe_G slf_Ffbe x:=by
 intro x
 unfold Ffbe_G Ffbe_B
 repeat first|exact f_const|exact f_self|exact f_selfL|exact f_selfR|exact f_selfLL|exact f_selfRL|exact f_selfLLL|exact f_selfRLL|refine f_cond ?_ ?_|refine f_bindJ ?_ (fun _=>?_)|refine f_bindL ?_ (fun _=>?_)|refine f_bind ?_ (fun _=>?_)|refine f_letJ (fun _=>?_)|refine f_fix (fun _=>?_) | unfold Ffbe_la | unfold Ffbe_la_F
theorem Ffbe_eq (a_6:List Condition)(k_7:Int):Ffbe a_6 k_7=Ffbe_B (fixO Ffbe_G) a_6 k_7:=fix_eq Ffbe_fin (a_6,k_7)
noncomputable def Ffbd_la_F (a_7:List Clause)(k_8:Int)(self:(Int×Int×(List Clause))→Option ((Int×(List Clause))⊕(Int×(List Clause))))(x3:Int×Int×(List Clause)):Option ((Int×(List Clause))⊕(Int×(List Clause))):=
 bif (decide (x3.2.1<(len x3.2.2))) then ((Ffbi x3.1).bind fun r4=>(getI x3.2.2 x3.2.1).bind fun e5=>(getI (setI x3.2.2 x3.2.1 (Clause.mk r4 e5.Kind e5.Party e5.Action e5.Other e5.Amount e5.When e5.Within e5.Repair)) x3.2.1).bind fun e6=>letJ (setI (setI x3.2.2 x3.2.1 (Clause.mk r4 e5.Kind e5.Party e5.Action e5.Other e5.Amount e5.When e5.Within e5.Repair)) x3.2.1 (Clause.mk e6.Id (w64 (x3.1+1)) e6.Party e6.Action e6.Other e6.Amount e6.When e6.Within e6.Repair)) fun rw7:List Clause=>(getI rw7 x3.2.1).bind fun e9=>letJ (setI rw7 x3.2.1 (Clause.mk e9.Id e9.Kind (w64 ((w64 (x3.1+1))+1)) e9.Action e9.Other e9.Amount e9.When e9.Within e9.Repair)) fun rw10:List Clause=>(Ffbi (w64 ((w64 ((w64 (x3.1+1))+1))+1))).bind fun r13=>(getI rw10 x3.2.1).bind fun e14=>letJ (setI rw10 x3.2.1 (Clause.mk e14.Id e14.Kind e14.Party r13 e14.Other e14.Amount e14.When e14.Within e14.Repair)) fun rw15:List Clause=>(getI rw15 x3.2.1).bind fun e19=>letJ (setI rw15 x3.2.1 (Clause.mk e19.Id e19.Kind e19.Party e19.Action (w64 ((w64 ((w64 ((w64 (x3.1+1))+1))+1))+1)) e19.Amount e19.When e19.Within e19.Repair)) fun rw20:List Clause=>(getI rw20 x3.2.1).bind fun e25=>letJ (setI rw20 x3.2.1 (Clause.mk e25.Id e25.Kind e25.Party e25.Action e25.Other (w64 ((w64 ((w64 ((w64 ((w64 (x3.1+1))+1))+1))+1))+1)) e25.When e25.Within e25.Repair)) fun rw26:List Clause=>(getI rw26 x3.2.1).bind fun e32=>letJ (setI rw26 x3.2.1 (Clause.mk e32.Id e32.Kind e32.Party e32.Action e32.Other e32.Amount (Condition.mk (w64 ((w64 ((w64 ((w64 ((w64 ((w64 (x3.1+1))+1))+1))+1))+1))+1)) e32.When.Name e32.When.Day e32.When.Parts) e32.Within e32.Repair)) fun rw33:List Clause=>(Ffbi (w64 ((w64 ((w64 ((w64 ((w64 ((w64 ((w64 (x3.1+1))+1))+1))+1))+1))+1))+1))).bind fun r40=>(getI rw33 x3.2.1).bind fun e41=>letJ (setI rw33 x3.2.1 (Clause.mk e41.Id e41.Kind e41.Party e41.Action e41.Other e41.Amount (Condition.mk e41.When.Op r40 e41.When.Day e41.When.Parts) e41.Within e41.Repair)) fun rw42:List Clause=>(getI rw42 x3.2.1).bind fun e50=>letJ (setI rw42 x3.2.1 (Clause.mk e50.Id e50.Kind e50.Party e50.Action e50.Other e50.Amount (Condition.mk e50.When.Op e50.When.Name (w64 ((w64 ((w64 ((w64 ((w64 ((w64 ((w64 ((w64 (x3.1+1))+1))+1))+1))+1))+1))+1))+1)) e50.When.Parts) e50.Within e50.Repair)) fun rw51:List Clause=>(getI rw51 x3.2.1).bind fun e60=>(Ffbe e60.When.Parts (w64 ((w64 ((w64 ((w64 ((w64 ((w64 ((w64 ((w64 ((w64 (x3.1+1))+1))+1))+1))+1))+1))+1))+1))+1))).bind fun r61=>bif Nat.beq r61.2.length e60.When.Parts.length then (letJ (setI rw51 x3.2.1 (Clause.mk e60.Id e60.Kind e60.Party e60.Action e60.Other e60.Amount (Condition.mk e60.When.Op e60.When.Name e60.When.Day r61.2) e60.Within e60.Repair)) fun rw63:List Clause=>(getI rw63 x3.2.1).bind fun e73=>letJ (setI rw63 x3.2.1 (Clause.mk e73.Id e73.Kind e73.Party e73.Action e73.Other e73.Amount e73.When r61.1 e73.Repair)) fun rw74:List Clause=>(Ffbi (w64 (r61.1+1))).bind fun r85=>(getI rw74 x3.2.1).bind fun e86=>letJ (setI rw74 x3.2.1 (Clause.mk e86.Id e86.Kind e86.Party e86.Action e86.Other e86.Amount e86.When e86.Within r85)) fun rw87:List Clause=>self ((w64 ((w64 (r61.1+1))+1)),(w64 (x3.2.1+1)),rw87)) else none) else (some (.inr (x3.1,x3.2.2)))
noncomputable def Ffbd_la (a_7:List Clause)(k_8:Int): (Int×Int×(List Clause))→Option ((Int×(List Clause))⊕(Int×(List Clause))):=fixO (Ffbd_la_F a_7 k_8)
theorem Ffbd_la_fin (a_7:List Clause)(k_8:Int): ∀a,Fin1 fun f=>Ffbd_la_F a_7 k_8 f a:=by
 intro a
 unfold Ffbd_la_F
 repeat first|exact f_const|exact f_self|refine f_cond ?_ ?_|refine f_bindJ ?_ (fun _=>?_)|refine f_bindL ?_ (fun _=>?_)|refine f_bind ?_ (fun _=>?_)|refine f_letJ (fun _=>?_)
theorem Ffbd_la_eq (a_7:List Clause)(k_8:Int)(x:Int×Int×(List Clause)):Ffbd_la a_7 k_8 x=Ffbd_la_F a_7 k_8 (Ffbd_la a_7 k_8) x:=fix_eq (Ffbd_la_fin a_7 k_8) x
noncomputable def Ffbd (a_7:List Clause)(k_8:Int):Option (Int×(List Clause)):=
 bindJ (ρ:=Int×(List Clause)) (Ffbd_la a_7 k_8 (k_8,0,a_7)) fun u99:Int×(List Clause)=>bif Nat.beq u99.2.length a_7.length then (some (u99.1,u99.2)) else none
noncomputable def Ffbf (a_7:Contract)(k_8:Int):Option Int:=
 (Ffbh a_7.Parties k_8).bind fun r3=>bif Nat.beq r3.2.length a_7.Parties.length then ((Ffbd a_7.Clauses r3.1).bind fun r5=>bif Nat.beq r5.2.length a_7.Clauses.length then (some r5.1) else none) else none
noncomputable def Ffbg_la_F (a_6:List Entry)(k_7:Int)(self:(Int×Int×(List Entry))→Option ((Int×(List Entry))⊕(Int×(List Entry))))(x3:Int×Int×(List Entry)):Option ((Int×(List Entry))⊕(Int×(List Entry))):=
 bif (decide (x3.2.1<(len x3.2.2))) then ((getI x3.2.2 x3.2.1).bind fun e4=>(getI (setI x3.2.2 x3.2.1 (Entry.mk x3.1 e4.Kind e4.Clause e4.Party)) x3.2.1).bind fun e5=>letJ (setI (setI x3.2.2 x3.2.1 (Entry.mk x3.1 e4.Kind e4.Clause e4.Party)) x3.2.1 (Entry.mk e5.Day (w64 (x3.1+1)) e5.Clause e5.Party)) fun rw6:List Entry=>(getI rw6 x3.2.1).bind fun e8=>letJ (setI rw6 x3.2.1 (Entry.mk e8.Day e8.Kind (w64 ((w64 (x3.1+1))+1)) e8.Party)) fun rw9:List Entry=>(getI rw9 x3.2.1).bind fun e12=>letJ (setI rw9 x3.2.1 (Entry.mk e12.Day e12.Kind e12.Clause (w64 ((w64 ((w64 (x3.1+1))+1))+1)))) fun rw13:List Entry=>self ((w64 ((w64 ((w64 ((w64 (x3.1+1))+1))+1))+1)),(w64 (x3.2.1+1)),rw13)) else (some (.inr (x3.1,x3.2.2)))
noncomputable def Ffbg_la (a_6:List Entry)(k_7:Int): (Int×Int×(List Entry))→Option ((Int×(List Entry))⊕(Int×(List Entry))):=fixO (Ffbg_la_F a_6 k_7)
theorem Ffbg_la_fin (a_6:List Entry)(k_7:Int): ∀a,Fin1 fun f=>Ffbg_la_F a_6 k_7 f a:=by
 intro a
 unfold Ffbg_la_F
 repeat first|exact f_const|exact f_self|refine f_cond ?_ ?_|refine f_bindJ ?_ (fun _=>?_)|refine f_bindL ?_ (fun _=>?_)|refine f_bind ?_ (fun _=>?_)|refine f_letJ (fun _=>?_)
theorem Ffbg_la_eq (a_6:List Entry)(k_7:Int)(x:Int×Int×(List Entry)):Ffbg_la a_6 k_7 x=Ffbg_la_F a_6 k_7 (Ffbg_la a_6 k_7) x:=fix_eq (Ffbg_la_fin a_6 k_7) x
noncomputable def Ffbg (a_6:List Entry)(k_7:Int):Option (Int×(List Entry)):=
 bindJ (ρ:=Int×(List Entry)) (Ffbg_la a_6 k_7 (k_7,0,a_6)) fun u17:Int×(List Entry)=>bif Nat.beq u17.2.length a_6.length then (some (u17.1,u17.2)) else none
noncomputable def Ffbc_la_F (a_1:List Entry)(k_2:Int)(self:(Int×Int)→Option (Int⊕Int))(x3:Int×Int):Option (Int⊕Int):=
 bif (decide (x3.2<(len a_1))) then ((getI a_1 x3.2).bind fun e4=>bif (e4.Day != x3.1) then (some (.inl (-1))) else ((getI a_1 x3.2).bind fun e5=>bif (e5.Kind != (w64 (x3.1+1))) then (some (.inl (-1))) else ((getI a_1 x3.2).bind fun e6=>bif (e6.Clause != (w64 ((w64 (x3.1+1))+1))) then (some (.inl (-1))) else ((getI a_1 x3.2).bind fun e7=>bif (e7.Party != (w64 ((w64 ((w64 (x3.1+1))+1))+1))) then (some (.inl (-1))) else (self ((w64 ((w64 ((w64 ((w64 (x3.1+1))+1))+1))+1)),(w64 (x3.2+1)))))))) else (some (.inr x3.1))
noncomputable def Ffbc_la (a_1:List Entry)(k_2:Int): (Int×Int)→Option (Int⊕Int):=fixO (Ffbc_la_F a_1 k_2)
theorem Ffbc_la_fin (a_1:List Entry)(k_2:Int): ∀a,Fin1 fun f=>Ffbc_la_F a_1 k_2 f a:=by
 intro a
 unfold Ffbc_la_F
 repeat first|exact f_const|exact f_self|refine f_cond ?_ ?_|refine f_bindJ ?_ (fun _=>?_)|refine f_bindL ?_ (fun _=>?_)|refine f_bind ?_ (fun _=>?_)|refine f_letJ (fun _=>?_)
theorem Ffbc_la_eq (a_1:List Entry)(k_2:Int)(x:Int×Int):Ffbc_la a_1 k_2 x=Ffbc_la_F a_1 k_2 (Ffbc_la a_1 k_2) x:=fix_eq (Ffbc_la_fin a_1 k_2) x
noncomputable def Ffbc (a_1:List Entry)(k_2:Int):Option Int:=
 bindJ (ρ:=Int) (Ffbc_la a_1 k_2 (k_2,0)) fun u8:Int=>some u8
noncomputable def laws_FnExactBreachesBy (aC_1:Contract)(aTrace_2:List Entry)(aParty_3:Int):Option Bool:=
 (Ffbo aC_1 1048576).bind fun r4=>bif (decide (r4<0)) then (some true) else ((Ffbp aTrace_2 r4).bind fun r5=>bif (decide (r5<0)) then (some true) else ((Ffbw aC_1).bind fun r6=>(Ffby aTrace_2).bind fun r7=>(Ffck r6 r7 aParty_3).bind fun r8=>(Ffbw aC_1).bind fun r9=>(Ffby aTrace_2).bind fun r10=>(Ffa r9 r10 aParty_3).bind fun r11=>(Ffba r11.1 r8.1).bind fun r12=>letJ (bif (!r12) then true else (!(r11.2==r8.2))) fun u13:Bool=>bif u13 then (some false) else ((Ffbw aC_1).bind fun r14=>(Ffy r9 r14).bind fun r15=>bif (!r15) then (some false) else ((Ffby aTrace_2).bind fun r16=>(Ffba r10 r16).bind fun r17=>bif (!r17) then (some false) else ((Ffbf r9 1).bind fun r18=>(Ffbg r10 r18).bind fun r19=>bif Nat.beq r19.2.length r10.length then (bindJ (ρ:=Bool) (bif (decide (r19.1<0)) then (some (.inr true)) else ((Ffba r11.1 r8.1).bind fun r31=>letJ (bif (!r31) then true else (!(r11.2==r8.2))) fun u32:Bool=>some (.inr u32))) fun u21:Bool=>bif u21 then (some false) else ((Ffbg r11.1 1).bind fun r22=>bif Nat.beq r22.2.length r11.1.length then ((Ffbc r22.2 1).bind fun r24=>bif (decide (r24<0)) then (some false) else (bif (r24 != r22.1) then (some false) else ((Ffbw aC_1).bind fun r25=>(Ffby aTrace_2).bind fun r26=>(Ffa r25 r26 aParty_3).bind fun r27=>(Ffba r27.1 r8.1).bind fun r28=>letJ (bif (!r28) then true else (!(r27.2==r8.2))) fun u29:Bool=>bif u29 then (some false) else ((Ffbc r22.2 1).bind fun r30=>bif (decide (r30<0)) then (some false) else (bif (r30 != r22.1) then (some false) else (some true)))))) else none)) else none)))))
end Go.Ln
