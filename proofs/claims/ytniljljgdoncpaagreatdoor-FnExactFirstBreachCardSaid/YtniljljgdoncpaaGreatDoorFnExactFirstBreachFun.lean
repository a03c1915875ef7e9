/-
  What each function of the law computes, as a plain function.
-/
import Derived.Test.YtniljljgdoncpaaGreatDoorLnD
set_option maxHeartbeats 4000000
set_option linter.unusedVariables false
set_option linter.unusedSimpArgs false
set_option maxRecDepth 100000
namespace Go.Ln
open Go
structure Condition where
  Op : Int
  Name : Str
  Day : Int
  Parts : List Condition
mutual
def encI_Condition : Condition→V
  | ⟨a0,a1,a2,a3⟩=>.agg [I (a0),str (a1),I (a2),.isl false (encI_Conditions a3)]
def encI_Conditions : List Condition→List V
  | []=>[]
  | x :: xs=>encI_Condition x :: encI_Conditions xs
end
theorem encI_Conditions_map : ∀ xs,encI_Conditions xs=xs.map encI_Condition
  | []=>by simp [encI_Conditions]
  | x :: xs=>by simp [encI_Conditions,encI_Conditions_map xs]
def encI_Condition1 (x : Condition) : V:=.agg [I (x.Op),str (x.Name),I (x.Day),.isl false ((x.Parts).map encI_Condition)]
theorem encI_Condition_eq (x : Condition) : encI_Condition x=encI_Condition1 x:=by cases x; simp only [encI_Condition,encI_Condition1,encI_Conditions_map]
theorem encI_Condition_cells (x : Condition) : (cells (encI_Condition x)).length=4 ∧ (cells (encI_Condition x)).all cellV=true:=by rw [encI_Condition_eq]; exact ⟨rfl,rfl⟩
mutual
theorem encI_Condition_inj : ∀ (a b : Condition),encI_Condition a=encI_Condition b→a=b
  | ⟨a0,a1,a2,a3⟩,⟨b0,b1,b2,b3⟩,h=>by
    simp only [encI_Condition] at h
    have k0:=V.agg.inj h
    obtain ⟨h0,k1⟩:=List.cons.inj k0
    obtain rfl:=I_inj a0 b0 h0
    obtain ⟨h1,k2⟩:=List.cons.inj k1
    obtain rfl:=str_inj a1 b1 h1
    obtain ⟨h2,k3⟩:=List.cons.inj k2
    obtain rfl:=I_inj a2 b2 h2
    obtain ⟨h3,k4⟩:=List.cons.inj k3
    have e3 : encI_Conditions a3=encI_Conditions b3:=by simpa using h3
    obtain rfl:=encI_Conditions_inj a3 b3 e3
    rfl
theorem encI_Conditions_inj : ∀ (a b : List Condition),encI_Conditions a=encI_Conditions b→a=b
  | [],[],_=>rfl
  | [],_ :: _,h=>by simp [encI_Conditions] at h
  | _ :: _,[],h=>by simp [encI_Conditions] at h
  | x :: xs,y :: ys,h=>by
    simp only [encI_Conditions,List.cons.injEq] at h
    rw [encI_Condition_inj x y h.1,encI_Conditions_inj xs ys h.2]
end
theorem encI_Condition1_inj (a b : Condition) (h : encI_Condition1 a=encI_Condition1 b) : a=b:=encI_Condition_inj a b (by rw [encI_Condition_eq,encI_Condition_eq,h])
mutual
def encO_Condition : Condition→V
  | ⟨a0,a1,a2,a3⟩=>.agg [I (a0),str (a1),I (a2),.usl 4 (encO_Conditions a3)]
def encO_Conditions : List Condition→List V
  | []=>[]
  | x :: xs=>encO_Condition x :: encO_Conditions xs
end
theorem encO_Conditions_map : ∀ xs,encO_Conditions xs=xs.map encO_Condition
  | []=>by simp [encO_Conditions]
  | x :: xs=>by simp [encO_Conditions,encO_Conditions_map xs]
def encO_Condition1 (x : Condition) : V:=.agg [I (x.Op),str (x.Name),I (x.Day),.usl 4 ((x.Parts).map encO_Condition)]
theorem encO_Condition_eq (x : Condition) : encO_Condition x=encO_Condition1 x:=by cases x; simp only [encO_Condition,encO_Condition1,encO_Conditions_map]
theorem encO_Condition_cells (x : Condition) : (cells (encO_Condition x)).length=4 ∧ (cells (encO_Condition x)).all cellV=true:=by rw [encO_Condition_eq]; exact ⟨rfl,rfl⟩
mutual
theorem encO_Condition_inj : ∀ (a b : Condition),encO_Condition a=encO_Condition b→a=b
  | ⟨a0,a1,a2,a3⟩,⟨b0,b1,b2,b3⟩,h=>by
    simp only [encO_Condition] at h
    have k0:=V.agg.inj h
    obtain ⟨h0,k1⟩:=List.cons.inj k0
    obtain rfl:=I_inj a0 b0 h0
    obtain ⟨h1,k2⟩:=List.cons.inj k1
    obtain rfl:=str_inj a1 b1 h1
    obtain ⟨h2,k3⟩:=List.cons.inj k2
    obtain rfl:=I_inj a2 b2 h2
    obtain ⟨h3,k4⟩:=List.cons.inj k3
    have e3 : encO_Conditions a3=encO_Conditions b3:=by simpa using h3
    obtain rfl:=encO_Conditions_inj a3 b3 e3
    rfl
theorem encO_Conditions_inj : ∀ (a b : List Condition),encO_Conditions a=encO_Conditions b→a=b
  | [],[],_=>rfl
  | [],_ :: _,h=>by simp [encO_Conditions] at h
  | _ :: _,[],h=>by simp [encO_Conditions] at h
  | x :: xs,y :: ys,h=>by
    simp only [encO_Conditions,List.cons.injEq] at h
    rw [encO_Condition_inj x y h.1,encO_Conditions_inj xs ys h.2]
end
theorem encO_Condition1_inj (a b : Condition) (h : encO_Condition1 a=encO_Condition1 b) : a=b:=encO_Condition_inj a b (by rw [encO_Condition_eq,encO_Condition_eq,h])
theorem encI_Condition_imm (x : Condition) : imm (encI_Condition x)=encI_Condition x:=by rw [encI_Condition_eq]; rfl
mutual
theorem encO_Condition_imm : ∀ x : Condition,imm (encO_Condition x)=encI_Condition x
  | ⟨a0,a1,a2,a3⟩=>by simp [encO_Condition,encI_Condition,imm,imms,str,encO_Conditions_imm]
theorem encO_Conditions_imm : ∀ xs : List Condition,imms (encO_Conditions xs)=encI_Conditions xs
  | []=>by simp [encO_Conditions,encI_Conditions,imms]
  | x :: xs=>by simp [encO_Conditions,encI_Conditions,imms,encO_Condition_imm x,encO_Conditions_imm xs]
end
mutual
theorem encO_Condition_himm : ∀ x : Condition,hasImm (encO_Condition x)=false
  | ⟨a0,a1,a2,a3⟩=>by simp [encO_Condition,hasImm,hasImms,str,encO_Conditions_himm]
theorem encO_Conditions_himm : ∀ xs : List Condition,hasImms (encO_Conditions xs)=false
  | []=>by simp [encO_Conditions,hasImms]
  | x :: xs=>by simp [encO_Conditions,hasImms,encO_Condition_himm x,encO_Conditions_himm xs]
end
structure Clause where
  Id : Str
  Kind : Int
  Party : Int
  Action : Str
  Other : Int
  Amount : Int
  When : Condition
  Within : Int
  Repair : Str
def encI_Clause (x : Clause) : V:=.agg [str (x.Id),I (x.Kind),I (x.Party),str (x.Action),I (x.Other),I (x.Amount),I (x.When.Op),str (x.When.Name),I (x.When.Day),.isl false ((x.When.Parts).map encI_Condition),I (x.Within),str (x.Repair)]
theorem encI_Clause_cells (x : Clause) : (cells (encI_Clause x)).length=12 ∧ (cells (encI_Clause x)).all cellV=true:=⟨rfl,rfl⟩
theorem encI_Clause_imm (x : Clause) : imm (encI_Clause x)=encI_Clause x:=rfl
theorem encI_Clause_inj (a b : Clause) (h : encI_Clause a=encI_Clause b) : a=b:=by
  obtain ⟨p0,p1,p2,p3,p4,p5,⟨p6,p7,p8,p9⟩,p10,p11⟩:=a
  obtain ⟨q0,q1,q2,q3,q4,q5,⟨q6,q7,q8,q9⟩,q10,q11⟩:=b
  replace h:=V.agg.inj h
  obtain ⟨h0,h⟩:=List.cons.inj h
  obtain rfl:=str_inj p0 q0 h0
  obtain ⟨h1,h⟩:=List.cons.inj h
  obtain rfl:=I_inj p1 q1 h1
  obtain ⟨h2,h⟩:=List.cons.inj h
  obtain rfl:=I_inj p2 q2 h2
  obtain ⟨h3,h⟩:=List.cons.inj h
  obtain rfl:=str_inj p3 q3 h3
  obtain ⟨h4,h⟩:=List.cons.inj h
  obtain rfl:=I_inj p4 q4 h4
  obtain ⟨h5,h⟩:=List.cons.inj h
  obtain rfl:=I_inj p5 q5 h5
  obtain ⟨h6,h⟩:=List.cons.inj h
  obtain rfl:=I_inj p6 q6 h6
  obtain ⟨h7,h⟩:=List.cons.inj h
  obtain rfl:=str_inj p7 q7 h7
  obtain ⟨h8,h⟩:=List.cons.inj h
  obtain rfl:=I_inj p8 q8 h8
  obtain ⟨h9,h⟩:=List.cons.inj h
  obtain rfl:=(isl_inj encI_Condition_inj) p9 q9 h9
  obtain ⟨h10,h⟩:=List.cons.inj h
  obtain rfl:=I_inj p10 q10 h10
  obtain ⟨h11,h⟩:=List.cons.inj h
  obtain rfl:=str_inj p11 q11 h11
  rfl
def encO_Clause (x : Clause) : V:=.agg [str (x.Id),I (x.Kind),I (x.Party),str (x.Action),I (x.Other),I (x.Amount),I (x.When.Op),str (x.When.Name),I (x.When.Day),.usl 4 ((x.When.Parts).map encO_Condition),I (x.Within),str (x.Repair)]
theorem encO_Clause_cells (x : Clause) : (cells (encO_Clause x)).length=12 ∧ (cells (encO_Clause x)).all cellV=true:=⟨rfl,rfl⟩
theorem encO_Clause_imm (x : Clause) : imm (encO_Clause x)=encI_Clause x:=imm_a (imms_c (rfl) (imms_c (rfl) (imms_c (rfl) (imms_c (rfl) (imms_c (rfl) (imms_c (rfl) (imms_c (rfl) (imms_c (rfl) (imms_c (rfl) (imms_c (imm_u (imms_of encO_Condition_imm)) (imms_c (rfl) (imms_c (rfl) (rfl)))))))))))))
theorem encO_Clause_himm (x : Clause) : hasImm (encO_Clause x)=false:=by simp [encO_Clause,hasImm,hasImms,str,himm_map (f:=encO_Condition) encO_Condition_himm]
theorem encO_Clause_inj (a b : Clause) (h : encO_Clause a=encO_Clause b) : a=b:=by
  obtain ⟨p0,p1,p2,p3,p4,p5,⟨p6,p7,p8,p9⟩,p10,p11⟩:=a
  obtain ⟨q0,q1,q2,q3,q4,q5,⟨q6,q7,q8,q9⟩,q10,q11⟩:=b
  replace h:=V.agg.inj h
  obtain ⟨h0,h⟩:=List.cons.inj h
  obtain rfl:=str_inj p0 q0 h0
  obtain ⟨h1,h⟩:=List.cons.inj h
  obtain rfl:=I_inj p1 q1 h1
  obtain ⟨h2,h⟩:=List.cons.inj h
  obtain rfl:=I_inj p2 q2 h2
  obtain ⟨h3,h⟩:=List.cons.inj h
  obtain rfl:=str_inj p3 q3 h3
  obtain ⟨h4,h⟩:=List.cons.inj h
  obtain rfl:=I_inj p4 q4 h4
  obtain ⟨h5,h⟩:=List.cons.inj h
  obtain rfl:=I_inj p5 q5 h5
  obtain ⟨h6,h⟩:=List.cons.inj h
  obtain rfl:=I_inj p6 q6 h6
  obtain ⟨h7,h⟩:=List.cons.inj h
  obtain rfl:=str_inj p7 q7 h7
  obtain ⟨h8,h⟩:=List.cons.inj h
  obtain rfl:=I_inj p8 q8 h8
  obtain ⟨h9,h⟩:=List.cons.inj h
  obtain rfl:=(usl_inj encO_Condition_inj) p9 q9 h9
  obtain ⟨h10,h⟩:=List.cons.inj h
  obtain rfl:=I_inj p10 q10 h10
  obtain ⟨h11,h⟩:=List.cons.inj h
  obtain rfl:=str_inj p11 q11 h11
  rfl
structure Contract where
  Parties : List Str
  Clauses : List Clause
def encI_Contract (x : Contract) : V:=.agg [.isl false ((x.Parties).map str),.isl false ((x.Clauses).map encI_Clause)]
theorem encI_Contract_cells (x : Contract) : (cells (encI_Contract x)).length=2 ∧ (cells (encI_Contract x)).all cellV=true:=⟨rfl,rfl⟩
theorem encI_Contract_imm (x : Contract) : imm (encI_Contract x)=encI_Contract x:=rfl
theorem encI_Contract_inj (a b : Contract) (h : encI_Contract a=encI_Contract b) : a=b:=by
  obtain ⟨p0,p1⟩:=a
  obtain ⟨q0,q1⟩:=b
  replace h:=V.agg.inj h
  obtain ⟨h0,h⟩:=List.cons.inj h
  obtain rfl:=(isl_inj str_inj) p0 q0 h0
  obtain ⟨h1,h⟩:=List.cons.inj h
  obtain rfl:=(isl_inj encI_Clause_inj) p1 q1 h1
  rfl
def encO_Contract (x : Contract) : V:=.agg [.usl 1 ((x.Parties).map str),.usl 12 ((x.Clauses).map encO_Clause)]
theorem encO_Contract_cells (x : Contract) : (cells (encO_Contract x)).length=2 ∧ (cells (encO_Contract x)).all cellV=true:=⟨rfl,rfl⟩
theorem encO_Contract_imm (x : Contract) : imm (encO_Contract x)=encI_Contract x:=imm_a (imms_c (imm_u (imms_of str_imm)) (imms_c (imm_u (imms_of encO_Clause_imm)) (rfl)))
theorem encO_Contract_himm (x : Contract) : hasImm (encO_Contract x)=false:=by simp [encO_Contract,hasImm,hasImms,str,himm_map (f:=str) str_himm,himm_map (f:=encO_Clause) encO_Clause_himm]
theorem encO_Contract_inj (a b : Contract) (h : encO_Contract a=encO_Contract b) : a=b:=by
  obtain ⟨p0,p1⟩:=a
  obtain ⟨q0,q1⟩:=b
  replace h:=V.agg.inj h
  obtain ⟨h0,h⟩:=List.cons.inj h
  obtain rfl:=(usl_inj str_inj) p0 q0 h0
  obtain ⟨h1,h⟩:=List.cons.inj h
  obtain rfl:=(usl_inj encO_Clause_inj) p1 q1 h1
  rfl
structure Entry where
  Day : Int
  Kind : Int
  Clause : Int
  Party : Int
def enc_Entry (x : Entry) : V:=.agg [I (x.Day),I (x.Kind),I (x.Clause),I (x.Party)]
theorem enc_Entry_cells (x : Entry) : (cells (enc_Entry x)).length=4 ∧ (cells (enc_Entry x)).all cellV=true:=⟨rfl,rfl⟩
theorem enc_Entry_imm (x : Entry) : imm (enc_Entry x)=enc_Entry x:=rfl
theorem enc_Entry_himm (x : Entry) : hasImm (enc_Entry x)=false:=rfl
theorem enc_Entry_flat (x : Entry) : flatE (enc_Entry x)=true:=rfl
theorem enc_Entry_inj (a b : Entry) (h : enc_Entry a=enc_Entry b) : a=b:=by
  obtain ⟨p0,p1,p2,p3⟩:=a
  obtain ⟨q0,q1,q2,q3⟩:=b
  replace h:=V.agg.inj h
  obtain ⟨h0,h⟩:=List.cons.inj h
  obtain rfl:=I_inj p0 q0 h0
  obtain ⟨h1,h⟩:=List.cons.inj h
  obtain rfl:=I_inj p1 q1 h1
  obtain ⟨h2,h⟩:=List.cons.inj h
  obtain rfl:=I_inj p2 q2 h2
  obtain ⟨h3,h⟩:=List.cons.inj h
  obtain rfl:=I_inj p3 q3 h3
  rfl
mutual
def Ffbs : Condition→Prop
  | ⟨a0,a1,a2,a3⟩=>I64 a0 ∧ okS a1 ∧ I64 a2 ∧ (a3.length ≤ maxLen ∧ Ffbt a3)
def Ffbt : List Condition→Prop
  | []=>True
  | x :: xs=>Ffbs x ∧ Ffbt xs
end
theorem Ffbt_iff : ∀ xs,Ffbt xs ↔ ∀ x ∈ xs,Ffbs x
  | []=>by simp [Ffbt]
  | x :: xs=>by simp [Ffbt,Ffbt_iff xs]
theorem Ffbs_iff (x : Condition) : Ffbs x ↔ I64 x.Op ∧ okS x.Name ∧ I64 x.Day ∧ okL Ffbs x.Parts:=by cases x; simp only [Ffbs,Ffbt_iff,okL]
def ok_Clause (x : Clause) : Prop:=okS x.Id ∧ I64 x.Kind ∧ I64 x.Party ∧ okS x.Action ∧ I64 x.Other ∧ I64 x.Amount ∧ Ffbs x.When ∧ I64 x.Within ∧ okS x.Repair
def Ffbu (x : Contract) : Prop:=(okL okS) x.Parties ∧ (okL ok_Clause) x.Clauses
def ok_Entry (x : Entry) : Prop:=I64 x.Day ∧ I64 x.Kind ∧ I64 x.Clause ∧ I64 x.Party
noncomputable def Ffbi_la_F (a_1 : List Str) (left_2 : Int)  (self : (Int × Int)→Option (Int ⊕ Int)) (x3 : Int × Int) : Option (Int ⊕ Int) :=
  bif (decide (x3.2 < (len a_1))) then ((getI a_1 x3.2).bind fun e4=>bif (decide ((w64 (x3.1 - (len e4))) < 0)) then (some (.inl (-1))) else (self ((w64 (x3.1 - (len e4))),(w64 (x3.2 + 1))))) else (some (.inr x3.1))
noncomputable def Ffbi_la (a_1 : List Str) (left_2 : Int)  : (Int × Int)→Option (Int ⊕ Int):=fixO (Ffbi_la_F a_1 left_2)
theorem Ffbi_la_fin (a_1 : List Str) (left_2 : Int)  : ∀ a,Fin1 fun f=>Ffbi_la_F a_1 left_2 f a:=by
  intro a
  unfold Ffbi_la_F
  repeat first|exact f_const|exact f_self|refine f_cond ?_ ?_|refine f_bindJ ?_ (fun _=>?_)|refine f_bindL ?_ (fun _=>?_)|refine f_bind ?_ (fun _=>?_)|refine f_letJ (fun _=>?_)
theorem Ffbi_la_eq (a_1 : List Str) (left_2 : Int)  (x : Int × Int) : Ffbi_la a_1 left_2 x=Ffbi_la_F a_1 left_2 (Ffbi_la a_1 left_2) x:=fix_eq (Ffbi_la_fin a_1 left_2) x
noncomputable def Ffbi (a_1 : List Str) (left_2 : Int) : Option Int :=
  bif (decide ((w64 (left_2 - (len a_1))) < 0)) then (some (-1)) else (bindJ (ρ:=Int) (Ffbi_la a_1 left_2 ((w64 (left_2 - (len a_1))),0)) fun u5 : Int=>some u5)
noncomputable def Ffbf_la_F (slf_Ffbd : (Condition × Int)→Option Int) (a_1 : List Condition) (left_2 : Int)  (self : (Int × Int)→Option (Int ⊕ Int)) (x3 : Int × Int) : Option (Int ⊕ Int) :=
  bif (decide (x3.2 < (len a_1))) then ((getI a_1 x3.2).bind fun e4=>(slf_Ffbd (e4,x3.1)).bind fun r5=>bif (decide (r5 < 0)) then (some (.inl (-1))) else (self (r5,(w64 (x3.2 + 1))))) else (some (.inr x3.1))
noncomputable def Ffbf_la (slf_Ffbd : (Condition × Int)→Option Int) (a_1 : List Condition) (left_2 : Int)  : (Int × Int)→Option (Int ⊕ Int):=fixO (Ffbf_la_F slf_Ffbd a_1 left_2)
theorem Ffbf_la_fin (slf_Ffbd : (Condition × Int)→Option Int) (a_1 : List Condition) (left_2 : Int)  : ∀ a,Fin1 fun f=>Ffbf_la_F slf_Ffbd a_1 left_2 f a:=by
  intro a
  unfold Ffbf_la_F
  repeat first|exact f_const|exact f_self|refine f_cond ?_ ?_|refine f_bindJ ?_ (fun _=>?_)|refine f_bindL ?_ (fun _=>?_)|refine f_bind ?_ (fun _=>?_)|refine f_letJ (fun _=>?_)
theorem Ffbf_la_eq (slf_Ffbd : (Condition × Int)→Option Int) (a_1 : List Condition) (left_2 : Int)  (x : Int × Int) : Ffbf_la slf_Ffbd a_1 left_2 x=Ffbf_la_F slf_Ffbd a_1 left_2 (Ffbf_la slf_Ffbd a_1 left_2) x:=fix_eq (Ffbf_la_fin slf_Ffbd a_1 left_2) x
noncomputable def Ffbf (slf_Ffbd : (Condition × Int)→Option Int) (a_1 : List Condition) (left_2 : Int) : Option Int :=
  bif (decide ((w64 (left_2 - (len a_1))) < 0)) then (some (-1)) else (bindJ (ρ:=Int) (Ffbf_la slf_Ffbd a_1 left_2 ((w64 (left_2 - (len a_1))),0)) fun u6 : Int=>some u6)
noncomputable def Ffbd_B (slf_Ffbd : (Condition × Int)→Option Int) (a_1 : Condition) (left_2 : Int) : Option Int :=
  bif (decide ((w64 (left_2 - (len a_1.Name))) < 0)) then (some (-1)) else ((Ffbf slf_Ffbd a_1.Parts (w64 (left_2 - (len a_1.Name)))).bind fun r3=>bif (decide (r3 < 0)) then (some (-1)) else (some r3))
noncomputable def Ffbd_G (slf_Ffbd : (Condition × Int)→Option Int) (x : Condition × Int) : Option Int:=Ffbd_B slf_Ffbd x.1 x.2
noncomputable def Ffbd (a_1 : Condition) (left_2 : Int) : Option Int:=fixO Ffbd_G (a_1,left_2)
theorem Ffbd_fin : ∀ x,Fin1 fun slf_Ffbd=>Ffbd_G slf_Ffbd x:=by
  intro x
  unfold Ffbd_G Ffbd_B
  repeat first|exact f_const|exact f_self|exact f_selfL|exact f_selfR|exact f_selfLL|exact f_selfRL|exact f_selfLLL|exact f_selfRLL|refine f_cond ?_ ?_|refine f_bindJ ?_ (fun _=>?_)|refine f_bindL ?_ (fun _=>?_)|refine f_bind ?_ (fun _=>?_)|refine f_letJ (fun _=>?_)|refine f_fix (fun _=>?_) | unfold Ffbf | unfold Ffbf_la | unfold Ffbf_la_F
theorem Ffbd_eq (a_1 : Condition) (left_2 : Int) : Ffbd a_1 left_2=Ffbd_B (fixO Ffbd_G) a_1 left_2:=fix_eq Ffbd_fin (a_1,left_2)
noncomputable def Ffbe (a_1 : List Condition) (left_2 : Int) : Option Int:=Ffbf (fixO Ffbd_G) a_1 left_2
noncomputable def Ffbb (a_1 : Clause) (left_2 : Int) : Option Int :=
  bif (decide ((w64 (left_2 - (len a_1.Id))) < 0)) then (some (-1)) else (bif (decide ((w64 ((w64 (left_2 - (len a_1.Id))) - (len a_1.Action))) < 0)) then (some (-1)) else ((Ffbd a_1.When (w64 ((w64 (left_2 - (len a_1.Id))) - (len a_1.Action)))).bind fun r3=>bif (decide (r3 < 0)) then (some (-1)) else (bif (decide ((w64 (r3 - (len a_1.Repair))) < 0)) then (some (-1)) else (some (w64 (r3 - (len a_1.Repair)))))))
noncomputable def Ffbc_la_F (a_1 : List Clause) (left_2 : Int)  (self : (Int × Int)→Option (Int ⊕ Int)) (x3 : Int × Int) : Option (Int ⊕ Int) :=
  bif (decide (x3.2 < (len a_1))) then ((getI a_1 x3.2).bind fun e4=>(Ffbb e4 x3.1).bind fun r5=>bif (decide (r5 < 0)) then (some (.inl (-1))) else (self (r5,(w64 (x3.2 + 1))))) else (some (.inr x3.1))
noncomputable def Ffbc_la (a_1 : List Clause) (left_2 : Int)  : (Int × Int)→Option (Int ⊕ Int):=fixO (Ffbc_la_F a_1 left_2)
theorem Ffbc_la_fin (a_1 : List Clause) (left_2 : Int)  : ∀ a,Fin1 fun f=>Ffbc_la_F a_1 left_2 f a:=by
  intro a
  unfold Ffbc_la_F
  repeat first|exact f_const|exact f_self|refine f_cond ?_ ?_|refine f_bindJ ?_ (fun _=>?_)|refine f_bindL ?_ (fun _=>?_)|refine f_bind ?_ (fun _=>?_)|refine f_letJ (fun _=>?_)
theorem Ffbc_la_eq (a_1 : List Clause) (left_2 : Int)  (x : Int × Int) : Ffbc_la a_1 left_2 x=Ffbc_la_F a_1 left_2 (Ffbc_la a_1 left_2) x:=fix_eq (Ffbc_la_fin a_1 left_2) x
noncomputable def Ffbc (a_1 : List Clause) (left_2 : Int) : Option Int :=
  bif (decide ((w64 (left_2 - (len a_1))) < 0)) then (some (-1)) else (bindJ (ρ:=Int) (Ffbc_la a_1 left_2 ((w64 (left_2 - (len a_1))),0)) fun u6 : Int=>some u6)
noncomputable def Ffbg (a_1 : Contract) (left_2 : Int) : Option Int :=
  (Ffbi a_1.Parties left_2).bind fun r3=>bif (decide (r3 < 0)) then (some (-1)) else ((Ffbc a_1.Clauses r3).bind fun r4=>bif (decide (r4 < 0)) then (some (-1)) else (some r4))
noncomputable def Ffbh (a_1 : List Entry) (left_2 : Int) : Option Int :=
  bif (decide ((w64 (left_2 - (len a_1))) < 0)) then (some (-1)) else (some (w64 (left_2 - (len a_1))))
noncomputable def Ffbr_la_F (a_1 : List Str)  (self : (Int × (List Str))→Option (((List Str)) ⊕ ((List Str)))) (x3 : Int × (List Str)) : Option (((List Str)) ⊕ ((List Str))) :=
  bif (decide (x3.1 < (len a_1))) then ((getI a_1 x3.1).bind fun e4=>(getI x3.2 x3.1).bind fun e5=>self ((w64 (x3.1 + 1)),(setI x3.2 x3.1 e4))) else (some (.inr x3.2))
noncomputable def Ffbr_la (a_1 : List Str)  : (Int × (List Str))→Option (((List Str)) ⊕ ((List Str))):=fixO (Ffbr_la_F a_1)
theorem Ffbr_la_fin (a_1 : List Str)  : ∀ a,Fin1 fun f=>Ffbr_la_F a_1 f a:=by
  intro a
  unfold Ffbr_la_F
  repeat first|exact f_const|exact f_self|refine f_cond ?_ ?_|refine f_bindJ ?_ (fun _=>?_)|refine f_bindL ?_ (fun _=>?_)|refine f_bind ?_ (fun _=>?_)|refine f_letJ (fun _=>?_)
theorem Ffbr_la_eq (a_1 : List Str)  (x : Int × (List Str)) : Ffbr_la a_1 x=Ffbr_la_F a_1 (Ffbr_la a_1) x:=fix_eq (Ffbr_la_fin a_1) x
noncomputable def Ffbr (a_1 : List Str) : Option ((List Str)) :=
  (mkI 16 [] (len a_1)).bind fun m2=>bindJ (ρ:=(List Str)) (Ffbr_la a_1 (0,m2)) fun u6 : (List Str)=>some u6
noncomputable def Ffbn_la_F (slf_Ffbl : Condition→Option Condition) (a_1 : List Condition)  (self : (Int × (List Condition))→Option (((List Condition)) ⊕ ((List Condition)))) (x3 : Int × (List Condition)) : Option (((List Condition)) ⊕ ((List Condition))) :=
  bif (decide (x3.1 < (len a_1))) then ((getI a_1 x3.1).bind fun e4=>(slf_Ffbl e4).bind fun r5=>(getI x3.2 x3.1).bind fun e6=>self ((w64 (x3.1 + 1)),(setI x3.2 x3.1 r5))) else (some (.inr x3.2))
noncomputable def Ffbn_la (slf_Ffbl : Condition→Option Condition) (a_1 : List Condition)  : (Int × (List Condition))→Option (((List Condition)) ⊕ ((List Condition))):=fixO (Ffbn_la_F slf_Ffbl a_1)
theorem Ffbn_la_fin (slf_Ffbl : Condition→Option Condition) (a_1 : List Condition)  : ∀ a,Fin1 fun f=>Ffbn_la_F slf_Ffbl a_1 f a:=by
  intro a
  unfold Ffbn_la_F
  repeat first|exact f_const|exact f_self|refine f_cond ?_ ?_|refine f_bindJ ?_ (fun _=>?_)|refine f_bindL ?_ (fun _=>?_)|refine f_bind ?_ (fun _=>?_)|refine f_letJ (fun _=>?_)
theorem Ffbn_la_eq (slf_Ffbl : Condition→Option Condition) (a_1 : List Condition)  (x : Int × (List Condition)) : Ffbn_la slf_Ffbl a_1 x=Ffbn_la_F slf_Ffbl a_1 (Ffbn_la slf_Ffbl a_1) x:=fix_eq (Ffbn_la_fin slf_Ffbl a_1) x
noncomputable def Ffbn (slf_Ffbl : Condition→Option Condition) (a_1 : List Condition) : Option ((List Condition)) :=
  (mkI 56 (Condition.mk 0 [] 0 []) (len a_1)).bind fun m2=>bindJ (ρ:=(List Condition)) (Ffbn_la slf_Ffbl a_1 (0,m2)) fun u7 : (List Condition)=>some u7
noncomputable def Ffbl_B (slf_Ffbl : Condition→Option Condition) (a_1 : Condition) : Option Condition :=
  (Ffbn slf_Ffbl a_1.Parts).bind fun r2=>some (Condition.mk a_1.Op a_1.Name a_1.Day r2)
noncomputable def Ffbl_G (slf_Ffbl : Condition→Option Condition) (x : Condition) : Option Condition:=Ffbl_B slf_Ffbl x
noncomputable def Ffbl (a_1 : Condition) : Option Condition:=fixO Ffbl_G a_1
theorem Ffbl_fin : ∀ x,Fin1 fun slf_Ffbl=>Ffbl_G slf_Ffbl x:=by
  intro x
  unfold Ffbl_G Ffbl_B
  repeat first|exact f_const|exact f_self|exact f_selfL|exact f_selfR|exact f_selfLL|exact f_selfRL|exact f_selfLLL|exact f_selfRLL|refine f_cond ?_ ?_|refine f_bindJ ?_ (fun _=>?_)|refine f_bindL ?_ (fun _=>?_)|refine f_bind ?_ (fun _=>?_)|refine f_letJ (fun _=>?_)|refine f_fix (fun _=>?_) | unfold Ffbn | unfold Ffbn_la | unfold Ffbn_la_F
theorem Ffbl_eq (a_1 : Condition) : Ffbl a_1=Ffbl_B (fixO Ffbl_G) a_1:=fix_eq Ffbl_fin a_1
noncomputable def Ffbm (a_1 : List Condition) : Option ((List Condition)):=Ffbn (fixO Ffbl_G) a_1
noncomputable def Ffbj (a_1 : Clause) : Option Clause :=
  (Ffbl a_1.When).bind fun r2=>some (Clause.mk a_1.Id a_1.Kind a_1.Party a_1.Action a_1.Other a_1.Amount r2 a_1.Within a_1.Repair)
noncomputable def Ffbk_la_F (a_1 : List Clause)  (self : (Int × (List Clause))→Option (((List Clause)) ⊕ ((List Clause)))) (x3 : Int × (List Clause)) : Option (((List Clause)) ⊕ ((List Clause))) :=
  bif (decide (x3.1 < (len a_1))) then ((getI a_1 x3.1).bind fun e4=>(Ffbj e4).bind fun r5=>(getI x3.2 x3.1).bind fun e6=>self ((w64 (x3.1 + 1)),(setI x3.2 x3.1 r5))) else (some (.inr x3.2))
noncomputable def Ffbk_la (a_1 : List Clause)  : (Int × (List Clause))→Option (((List Clause)) ⊕ ((List Clause))):=fixO (Ffbk_la_F a_1)
theorem Ffbk_la_fin (a_1 : List Clause)  : ∀ a,Fin1 fun f=>Ffbk_la_F a_1 f a:=by
  intro a
  unfold Ffbk_la_F
  repeat first|exact f_const|exact f_self|refine f_cond ?_ ?_|refine f_bindJ ?_ (fun _=>?_)|refine f_bindL ?_ (fun _=>?_)|refine f_bind ?_ (fun _=>?_)|refine f_letJ (fun _=>?_)
theorem Ffbk_la_eq (a_1 : List Clause)  (x : Int × (List Clause)) : Ffbk_la a_1 x=Ffbk_la_F a_1 (Ffbk_la a_1) x:=fix_eq (Ffbk_la_fin a_1) x
noncomputable def Ffbk (a_1 : List Clause) : Option ((List Clause)) :=
  (mkI 144 (Clause.mk [] 0 0 [] 0 0 (Condition.mk 0 [] 0 []) 0 []) (len a_1)).bind fun m2=>bindJ (ρ:=(List Clause)) (Ffbk_la a_1 (0,m2)) fun u7 : (List Clause)=>some u7
noncomputable def Ffbo (a_1 : Contract) : Option Contract :=
  (Ffbr a_1.Parties).bind fun r2=>(Ffbk a_1.Clauses).bind fun r3=>some (Contract.mk r2 r3)
noncomputable def Ffbp (a_1 : Entry) : Option Entry :=
  some a_1
noncomputable def Ffbq_la_F (a_1 : List Entry)  (self : (Int × (List Entry))→Option (((List Entry)) ⊕ ((List Entry)))) (x3 : Int × (List Entry)) : Option (((List Entry)) ⊕ ((List Entry))) :=
  bif (decide (x3.1 < (len a_1))) then ((getI a_1 x3.1).bind fun e4=>(Ffbp e4).bind fun r5=>(getI x3.2 x3.1).bind fun e6=>self ((w64 (x3.1 + 1)),(setI x3.2 x3.1 r5))) else (some (.inr x3.2))
noncomputable def Ffbq_la (a_1 : List Entry)  : (Int × (List Entry))→Option (((List Entry)) ⊕ ((List Entry))):=fixO (Ffbq_la_F a_1)
theorem Ffbq_la_fin (a_1 : List Entry)  : ∀ a,Fin1 fun f=>Ffbq_la_F a_1 f a:=by
  intro a
  unfold Ffbq_la_F
  repeat first|exact f_const|exact f_self|refine f_cond ?_ ?_|refine f_bindJ ?_ (fun _=>?_)|refine f_bindL ?_ (fun _=>?_)|refine f_bind ?_ (fun _=>?_)|refine f_letJ (fun _=>?_)
theorem Ffbq_la_eq (a_1 : List Entry)  (x : Int × (List Entry)) : Ffbq_la a_1 x=Ffbq_la_F a_1 (Ffbq_la a_1) x:=fix_eq (Ffbq_la_fin a_1) x
noncomputable def Ffbq (a_1 : List Entry) : Option ((List Entry)) :=
  (mkI 32 (Entry.mk 0 0 0 0) (len a_1)).bind fun m2=>bindJ (ρ:=(List Entry)) (Ffbq_la a_1 (0,m2)) fun u7 : (List Entry)=>some u7
noncomputable def spec_l1In (x_1 : Int) (a_2 : Int) (b_3 : Int) : Option Bool :=
  letJ (bif (decide (x_1 ≥ a_2)) then ((decide (x_1 ≤ b_3))) else (false)) fun u4 : Bool=>some u4
noncomputable def Ffcl (b_1 : Int) : Option Bool :=
  letJ (bif (decide (b_1 ≥ 97)) then (letJ (bif (decide (b_1 ≤ 122)) then (true) else (letJ (bif (decide (b_1 ≥ 48)) then ((decide (b_1 ≤ 57))) else (false)) fun u4 : Bool=>u4)) fun u3 : Bool=>u3) else (letJ (bif (decide (b_1 ≥ 48)) then ((decide (b_1 ≤ 57))) else (false)) fun u5 : Bool=>u5)) fun u2 : Bool=>some u2
noncomputable def Ffci_la_F (s_1 : Str)  (self : Int→Option (Bool ⊕ Unit)) (x4 : Int) : Option (Bool ⊕ Unit) :=
  bif (decide (x4 < (len s_1))) then ((getI s_1 x4).bind fun c5=>(Ffcl (c5.toNat : Int)).bind fun r6=>bif (!r6) then (some (.inl false)) else (self (w64 (x4 + 1)))) else (some (.inr ()))
noncomputable def Ffci_la (s_1 : Str)  : Int→Option (Bool ⊕ Unit):=fixO (Ffci_la_F s_1)
theorem Ffci_la_fin (s_1 : Str)  : ∀ a,Fin1 fun f=>Ffci_la_F s_1 f a:=by
  intro a
  unfold Ffci_la_F
  repeat first|exact f_const|exact f_self|refine f_cond ?_ ?_|refine f_bindJ ?_ (fun _=>?_)|refine f_bindL ?_ (fun _=>?_)|refine f_bind ?_ (fun _=>?_)|refine f_letJ (fun _=>?_)
theorem Ffci_la_eq (s_1 : Str)  (x : Int) : Ffci_la s_1 x=Ffci_la_F s_1 (Ffci_la s_1) x:=fix_eq (Ffci_la_fin s_1) x
noncomputable def Ffci (s_1 : Str) : Option Bool :=
  (spec_l1In (len s_1) 1 8).bind fun r2=>bindJ (ρ:=Bool) (bif (!r2) then (some (.inr true)) else ((getI s_1 0).bind fun c16=>bindL (ρ:=Bool) (bif (decide ((c16.toNat : Int) < 97)) then (some (.inr true)) else ((getI s_1 0).bind fun c18=>some (.inr (decide ((c18.toNat : Int) > 122))))) fun u17 : Bool=>some (.inr u17))) fun u3 : Bool=>bif u3 then (some false) else (bindJ (ρ:=Bool) (Ffci_la s_1 0) fun u7 : Unit=>letJ (bif (s_1 == ([116,114,117,101] : Str)) then ((s_1 == ([116,114,117,101] : Str))) else (letJ (bif (s_1 == ([102,114,111,109] : Str)) then ((s_1 == ([102,114,111,109] : Str))) else (letJ (bif (s_1 == ([110,111,116] : Str)) then ((s_1 == ([110,111,116] : Str))) else (letJ (bif (s_1 == ([97,110,100] : Str)) then ((s_1 == ([97,110,100] : Str))) else (letJ (bif (s_1 == ([111,114] : Str)) then ((s_1 == ([111,114] : Str))) else (letJ (bif (s_1 == ([98,111,116,104] : Str)) then ((s_1 == ([98,111,116,104] : Str))) else (letJ (bif (s_1 == ([101,105,116,104,101,114] : Str)) then ((s_1 == ([101,105,116,104,101,114] : Str))) else (letJ (bif (s_1 == ([105,116] : Str)) then ((s_1 == ([105,116] : Str))) else ((s_1 == ([105,110] : Str)))) fun u15 : Bool=>u15)) fun u14 : Bool=>u14)) fun u13 : Bool=>u13)) fun u12 : Bool=>u12)) fun u11 : Bool=>u11)) fun u10 : Bool=>u10)) fun u9 : Bool=>u9)) fun u8 : Bool=>bif u8 then (some false) else (some true))
noncomputable def Ffch_la_F (list_1 : List Str) (name_2 : Str)  (self : Int→Option (Bool ⊕ Unit)) (x3 : Int) : Option (Bool ⊕ Unit) :=
  bif (decide (x3 < (len list_1))) then ((getI list_1 x3).bind fun e4=>bif (e4 == name_2) then (some (.inl true)) else (self (w64 (x3 + 1)))) else (some (.inr ()))
noncomputable def Ffch_la (list_1 : List Str) (name_2 : Str)  : Int→Option (Bool ⊕ Unit):=fixO (Ffch_la_F list_1 name_2)
theorem Ffch_la_fin (list_1 : List Str) (name_2 : Str)  : ∀ a,Fin1 fun f=>Ffch_la_F list_1 name_2 f a:=by
  intro a
  unfold Ffch_la_F
  repeat first|exact f_const|exact f_self|refine f_cond ?_ ?_|refine f_bindJ ?_ (fun _=>?_)|refine f_bindL ?_ (fun _=>?_)|refine f_bind ?_ (fun _=>?_)|refine f_letJ (fun _=>?_)
theorem Ffch_la_eq (list_1 : List Str) (name_2 : Str)  (x : Int) : Ffch_la list_1 name_2 x=Ffch_la_F list_1 name_2 (Ffch_la list_1 name_2) x:=fix_eq (Ffch_la_fin list_1 name_2) x
noncomputable def Ffch (list_1 : List Str) (name_2 : Str) : Option Bool :=
  bindJ (ρ:=Bool) (Ffch_la list_1 name_2 0) fun u5 : Unit=>some false
noncomputable def Ffcr_la_F (c_1 : Contract)  (self : Int→Option (Bool ⊕ Unit)) (x2 : Int) : Option (Bool ⊕ Unit) :=
  bif (decide (x2 < (len c_1.Parties))) then ((getI c_1.Parties x2).bind fun e3=>(Ffci e3).bind fun r4=>bindL (ρ:=Bool) (bif (!r4) then (some (.inr true)) else ((subI c_1.Parties 0 x2).bind fun s6=>(getI c_1.Parties x2).bind fun e7=>(Ffch s6 e7).bind fun r8=>some (.inr r8))) fun u5 : Bool=>bif u5 then (some (.inl false)) else (self (w64 (x2 + 1)))) else (some (.inr ()))
noncomputable def Ffcr_la (c_1 : Contract)  : Int→Option (Bool ⊕ Unit):=fixO (Ffcr_la_F c_1)
theorem Ffcr_la_fin (c_1 : Contract)  : ∀ a,Fin1 fun f=>Ffcr_la_F c_1 f a:=by
  intro a
  unfold Ffcr_la_F
  repeat first|exact f_const|exact f_self|refine f_cond ?_ ?_|refine f_bindJ ?_ (fun _=>?_)|refine f_bindL ?_ (fun _=>?_)|refine f_bind ?_ (fun _=>?_)|refine f_letJ (fun _=>?_)
theorem Ffcr_la_eq (c_1 : Contract)  (x : Int) : Ffcr_la c_1 x=Ffcr_la_F c_1 (Ffcr_la c_1) x:=fix_eq (Ffcr_la_fin c_1) x
noncomputable def Ffcr (c_1 : Contract) : Option Bool :=
  bindJ (ρ:=Bool) (Ffcr_la c_1 0) fun u9 : Unit=>(spec_l1In (len c_1.Parties) 2 4).bind fun r10=>some r10
noncomputable def Ffco_la_F (c_1 : Contract) (id_2 : Str)  (self : Int→Option (Int ⊕ Unit)) (x3 : Int) : Option (Int ⊕ Unit) :=
  bif (decide (x3 < (len c_1.Clauses))) then ((getI c_1.Clauses x3).bind fun e4=>bif (e4.Id == id_2) then (some (.inl x3)) else (self (w64 (x3 + 1)))) else (some (.inr ()))
noncomputable def Ffco_la (c_1 : Contract) (id_2 : Str)  : Int→Option (Int ⊕ Unit):=fixO (Ffco_la_F c_1 id_2)
theorem Ffco_la_fin (c_1 : Contract) (id_2 : Str)  : ∀ a,Fin1 fun f=>Ffco_la_F c_1 id_2 f a:=by
  intro a
  unfold Ffco_la_F
  repeat first|exact f_const|exact f_self|refine f_cond ?_ ?_|refine f_bindJ ?_ (fun _=>?_)|refine f_bindL ?_ (fun _=>?_)|refine f_bind ?_ (fun _=>?_)|refine f_letJ (fun _=>?_)
theorem Ffco_la_eq (c_1 : Contract) (id_2 : Str)  (x : Int) : Ffco_la c_1 id_2 x=Ffco_la_F c_1 id_2 (Ffco_la c_1 id_2) x:=fix_eq (Ffco_la_fin c_1 id_2) x
noncomputable def Ffco (c_1 : Contract) (id_2 : Str) : Option Int :=
  bindJ (ρ:=Int) (Ffco_la c_1 id_2 0) fun u5 : Unit=>some (-1)
noncomputable def Ffcd (day_1 : Int) : Option Bool :=
  (spec_l1In day_1 0 36524).bind fun r2=>some r2
noncomputable def Ffce (c_1 : Condition) : Option Bool :=
  bif (c_1.Op == 1) then (letJ (bif ((len c_1.Parts) == 0) then (letJ (bif (c_1.Name == ([] : Str)) then ((c_1.Day == 0)) else (false)) fun u3 : Bool=>u3) else (false)) fun u2 : Bool=>some u2) else (bif (c_1.Op == 2) then (bindJ (ρ:=Bool) (bif ((len c_1.Parts) == 0) then ((Ffci c_1.Name).bind fun r5=>letJ (bif r5 then ((c_1.Day == 0)) else (false)) fun u6 : Bool=>some (.inr u6)) else (some (.inr false))) fun u4 : Bool=>some u4) else (bif (c_1.Op == 3) then (bindJ (ρ:=Bool) (bif ((len c_1.Parts) == 0) then (bindL (ρ:=Bool) (bif (c_1.Name == ([] : Str)) then ((Ffcd c_1.Day).bind fun r9=>some (.inr r9)) else (some (.inr false))) fun u8 : Bool=>some (.inr u8)) else (some (.inr false))) fun u7 : Bool=>some u7) else (bif (c_1.Op == 4) then (letJ (bif ((len c_1.Parts) == 1) then (letJ (bif (c_1.Name == ([] : Str)) then ((c_1.Day == 0)) else (false)) fun u11 : Bool=>u11) else (false)) fun u10 : Bool=>some u10) else (letJ (bif (c_1.Op == 5) then ((c_1.Op == 5)) else ((c_1.Op == 6))) fun u12 : Bool=>bif u12 then (letJ (bif ((len c_1.Parts) == 2) then (letJ (bif (c_1.Name == ([] : Str)) then ((c_1.Day == 0)) else (false)) fun u14 : Bool=>u14) else (false)) fun u13 : Bool=>some u13) else (some false)))))
noncomputable def Ffcf_la_F (slf_Ffcf : Condition→Option Bool) (c_1 : Condition)  (self : Int→Option (Bool ⊕ Unit)) (x3 : Int) : Option (Bool ⊕ Unit) :=
  bif (decide (x3 < (len c_1.Parts))) then ((getI c_1.Parts x3).bind fun e4=>(slf_Ffcf e4).bind fun r5=>bif (!r5) then (some (.inl false)) else (self (w64 (x3 + 1)))) else (some (.inr ()))
noncomputable def Ffcf_la (slf_Ffcf : Condition→Option Bool) (c_1 : Condition)  : Int→Option (Bool ⊕ Unit):=fixO (Ffcf_la_F slf_Ffcf c_1)
theorem Ffcf_la_fin (slf_Ffcf : Condition→Option Bool) (c_1 : Condition)  : ∀ a,Fin1 fun f=>Ffcf_la_F slf_Ffcf c_1 f a:=by
  intro a
  unfold Ffcf_la_F
  repeat first|exact f_const|exact f_self|refine f_cond ?_ ?_|refine f_bindJ ?_ (fun _=>?_)|refine f_bindL ?_ (fun _=>?_)|refine f_bind ?_ (fun _=>?_)|refine f_letJ (fun _=>?_)
theorem Ffcf_la_eq (slf_Ffcf : Condition→Option Bool) (c_1 : Condition)  (x : Int) : Ffcf_la slf_Ffcf c_1 x=Ffcf_la_F slf_Ffcf c_1 (Ffcf_la slf_Ffcf c_1) x:=fix_eq (Ffcf_la_fin slf_Ffcf c_1) x
noncomputable def Ffcf_B (slf_Ffcf : Condition→Option Bool) (c_1 : Condition) : Option Bool :=
  (Ffce c_1).bind fun r2=>bif (!r2) then (some false) else (bindJ (ρ:=Bool) (Ffcf_la slf_Ffcf c_1 0) fun u6 : Unit=>some true)
noncomputable def Ffcf_G (slf_Ffcf : Condition→Option Bool) (x : Condition) : Option Bool:=Ffcf_B slf_Ffcf x
noncomputable def Ffcf (c_1 : Condition) : Option Bool:=fixO Ffcf_G c_1
theorem Ffcf_fin : ∀ x,Fin1 fun slf_Ffcf=>Ffcf_G slf_Ffcf x:=by
  intro x
  unfold Ffcf_G Ffcf_B
  repeat first|exact f_const|exact f_self|exact f_selfL|exact f_selfR|exact f_selfLL|exact f_selfRL|exact f_selfLLL|exact f_selfRLL|refine f_cond ?_ ?_|refine f_bindJ ?_ (fun _=>?_)|refine f_bindL ?_ (fun _=>?_)|refine f_bind ?_ (fun _=>?_)|refine f_letJ (fun _=>?_)|refine f_fix (fun _=>?_) | unfold Ffcf_la | unfold Ffcf_la_F
theorem Ffcf_eq (c_1 : Condition) : Ffcf c_1=Ffcf_B (fixO Ffcf_G) c_1:=fix_eq Ffcf_fin c_1
noncomputable def Ffcm_la_F (slf_Ffcm : Condition→Option Int) (c_1 : Condition)  (self : (Int × Int)→Option (Int ⊕ Int)) (x2 : Int × Int) : Option (Int ⊕ Int) :=
  bif (decide (x2.2 < (len c_1.Parts))) then ((getI c_1.Parts x2.2).bind fun e3=>(slf_Ffcm e3).bind fun r4=>self ((w64 (x2.1 + r4)),(w64 (x2.2 + 1)))) else (some (.inr x2.1))
noncomputable def Ffcm_la (slf_Ffcm : Condition→Option Int) (c_1 : Condition)  : (Int × Int)→Option (Int ⊕ Int):=fixO (Ffcm_la_F slf_Ffcm c_1)
theorem Ffcm_la_fin (slf_Ffcm : Condition→Option Int) (c_1 : Condition)  : ∀ a,Fin1 fun f=>Ffcm_la_F slf_Ffcm c_1 f a:=by
  intro a
  unfold Ffcm_la_F
  repeat first|exact f_const|exact f_self|refine f_cond ?_ ?_|refine f_bindJ ?_ (fun _=>?_)|refine f_bindL ?_ (fun _=>?_)|refine f_bind ?_ (fun _=>?_)|refine f_letJ (fun _=>?_)
theorem Ffcm_la_eq (slf_Ffcm : Condition→Option Int) (c_1 : Condition)  (x : Int × Int) : Ffcm_la slf_Ffcm c_1 x=Ffcm_la_F slf_Ffcm c_1 (Ffcm_la slf_Ffcm c_1) x:=fix_eq (Ffcm_la_fin slf_Ffcm c_1) x
noncomputable def Ffcm_B (slf_Ffcm : Condition→Option Int) (c_1 : Condition) : Option Int :=
  bindJ (ρ:=Int) (Ffcm_la slf_Ffcm c_1 (1,0)) fun u5 : Int=>some u5
noncomputable def Ffcm_G (slf_Ffcm : Condition→Option Int) (x : Condition) : Option Int:=Ffcm_B slf_Ffcm x
noncomputable def Ffcm (c_1 : Condition) : Option Int:=fixO Ffcm_G c_1
theorem Ffcm_fin : ∀ x,Fin1 fun slf_Ffcm=>Ffcm_G slf_Ffcm x:=by
  intro x
  unfold Ffcm_G Ffcm_B
  repeat first|exact f_const|exact f_self|exact f_selfL|exact f_selfR|exact f_selfLL|exact f_selfRL|exact f_selfLLL|exact f_selfRLL|refine f_cond ?_ ?_|refine f_bindJ ?_ (fun _=>?_)|refine f_bindL ?_ (fun _=>?_)|refine f_bind ?_ (fun _=>?_)|refine f_letJ (fun _=>?_)|refine f_fix (fun _=>?_) | unfold Ffcm_la | unfold Ffcm_la_F
theorem Ffcm_eq (c_1 : Condition) : Ffcm c_1=Ffcm_B (fixO Ffcm_G) c_1:=fix_eq Ffcm_fin c_1
noncomputable def Ffcg (c_1 : Condition) : Option Bool :=
  (Ffcf c_1).bind fun r2=>bindJ (ρ:=Bool) (bif r2 then ((Ffcm c_1).bind fun r4=>some (.inr (decide (r4 ≤ 15)))) else (some (.inr false))) fun u3 : Bool=>some u3
noncomputable def Ffcn (c_1 : Contract) (i_2 : Int) : Option Bool :=
  (getI c_1.Clauses i_2).bind fun e3=>(Ffci e3.Id).bind fun r4=>bindJ (ρ:=Bool) (bif (!r4) then (some (.inr true)) else ((Ffci e3.Action).bind fun r17=>bindL (ρ:=Bool) (bif (!r17) then (some (.inr true)) else ((spec_l1In e3.Kind 1 4).bind fun r19=>bindL (ρ:=Bool) (bif (!r19) then (some (.inr true)) else ((spec_l1In e3.Party 0 (w64 ((len c_1.Parties) - 1))).bind fun r21=>bindL (ρ:=Bool) (bif (!r21) then (some (.inr true)) else ((spec_l1In e3.Other 0 (w64 ((len c_1.Parties) - 1))).bind fun r23=>bindL (ρ:=Bool) (bif (!r23) then (some (.inr true)) else (bindL (ρ:=Bool) (bif (e3.Party == e3.Other) then (some (.inr true)) else ((Ffcg e3.When).bind fun r26=>some (.inr (!r26)))) fun u25 : Bool=>some (.inr u25))) fun u24 : Bool=>some (.inr u24))) fun u22 : Bool=>some (.inr u22))) fun u20 : Bool=>some (.inr u20))) fun u18 : Bool=>some (.inr u18))) fun u5 : Bool=>bif u5 then (some false) else ((spec_l1In e3.Amount 0 1000000).bind fun r6=>bindJ (ρ:=Bool) (bif (!r6) then (some (.inr true)) else ((spec_l1In e3.Within 0 400).bind fun r13=>letJ (bif (!r13) then (true) else (letJ (bif (e3.Kind != 1) then (letJ (bif (e3.Amount != 0) then (true) else ((e3.Within != 0))) fun u16 : Bool=>u16) else (false)) fun u15 : Bool=>u15)) fun u14 : Bool=>some (.inr u14))) fun u7 : Bool=>bif u7 then (some false) else (bif (e3.Repair == ([] : Str)) then (some true) else ((Ffco c_1 e3.Repair).bind fun r8=>bindJ (ρ:=Bool) (bif (decide (r8 ≥ 0)) then (bindL (ρ:=Bool) (bif (r8 != i_2) then ((getI c_1.Clauses r8).bind fun e11=>letJ (bif (e11.Kind == 1) then ((e3.Kind != 3)) else (false)) fun u12 : Bool=>some (.inr u12)) else (some (.inr false))) fun u10 : Bool=>some (.inr u10)) else (some (.inr false))) fun u9 : Bool=>some u9)))
noncomputable def Ffck_la_F (l_8 : List Str) (s_9 : Str)  (self : Int→Option (((List Str)) ⊕ (Str × Int × (List Str)))) (x3 : Int) : Option (((List Str)) ⊕ (Str × Int × (List Str))) :=
  bindL (ρ:=(List Str)) (bif (decide (x3 < (len l_8))) then ((getI l_8 x3).bind fun e5=>some (.inr (Op.bytesLess e5 s_9))) else (some (.inr false))) fun u4 : Bool=>bif u4 then (self (w64 (x3 + 1))) else (some (.inr (s_9,x3,l_8)))
noncomputable def Ffck_la (l_8 : List Str) (s_9 : Str)  : Int→Option (((List Str)) ⊕ (Str × Int × (List Str))):=fixO (Ffck_la_F l_8 s_9)
theorem Ffck_la_fin (l_8 : List Str) (s_9 : Str)  : ∀ a,Fin1 fun f=>Ffck_la_F l_8 s_9 f a:=by
  intro a
  unfold Ffck_la_F
  repeat first|exact f_const|exact f_self|refine f_cond ?_ ?_|refine f_bindJ ?_ (fun _=>?_)|refine f_bindL ?_ (fun _=>?_)|refine f_bind ?_ (fun _=>?_)|refine f_letJ (fun _=>?_)
theorem Ffck_la_eq (l_8 : List Str) (s_9 : Str)  (x : Int) : Ffck_la l_8 s_9 x=Ffck_la_F l_8 s_9 (Ffck_la l_8 s_9) x:=fix_eq (Ffck_la_fin l_8 s_9) x
noncomputable def Ffck (l_8 : List Str) (s_9 : Str) : Option ((List Str)) :=
  bindJ (ρ:=(List Str)) (Ffck_la l_8 s_9 0) fun u6 : Str × Int × (List Str)=>bindJ (ρ:=(List Str)) (bif (decide (u6.2.1 < (len u6.2.2))) then ((getI u6.2.2 u6.2.1).bind fun e15=>some (.inr (e15 == u6.1))) else (some (.inr false))) fun u7 : Bool=>bif u7 then (some u6.2.2) else ((subP u6.2.2.length 0 u6.2.1).bind fun s8=>(partP u6.2.2 (0 + Int.toNat (0)) (Int.toNat (u6.2.1) - Int.toNat (0))).bind fun p9=>(appI 16 ([] : List Str) p9).bind fun a10=>(appI 16 a10 [u6.1]).bind fun a11=>(subP u6.2.2.length u6.2.1 (len u6.2.2)).bind fun s12=>(partP u6.2.2 (0 + Int.toNat (u6.2.1)) (Int.toNat (len u6.2.2) - Int.toNat (u6.2.1))).bind fun p13=>(appI 16 a11 p13).bind fun a14=>some a14)
noncomputable def Ffcj_la_F (slf_Ffcj : ((List Str) × Condition)→Option ((List Str))) (l_4 : List Str) (c_5 : Condition)  (self : (Int × (List Str))→Option (((List Str)) ⊕ ((List Str)))) (x4 : Int × (List Str)) : Option (((List Str)) ⊕ ((List Str))) :=
  bif (decide (x4.1 < (len c_5.Parts))) then ((getI c_5.Parts x4.1).bind fun e5=>(slf_Ffcj (x4.2,e5)).bind fun r6=>self ((w64 (x4.1 + 1)),r6)) else (some (.inr x4.2))
noncomputable def Ffcj_la (slf_Ffcj : ((List Str) × Condition)→Option ((List Str))) (l_4 : List Str) (c_5 : Condition)  : (Int × (List Str))→Option (((List Str)) ⊕ ((List Str))):=fixO (Ffcj_la_F slf_Ffcj l_4 c_5)
theorem Ffcj_la_fin (slf_Ffcj : ((List Str) × Condition)→Option ((List Str))) (l_4 : List Str) (c_5 : Condition)  : ∀ a,Fin1 fun f=>Ffcj_la_F slf_Ffcj l_4 c_5 f a:=by
  intro a
  unfold Ffcj_la_F
  repeat first|exact f_const|exact f_self|refine f_cond ?_ ?_|refine f_bindJ ?_ (fun _=>?_)|refine f_bindL ?_ (fun _=>?_)|refine f_bind ?_ (fun _=>?_)|refine f_letJ (fun _=>?_)
theorem Ffcj_la_eq (slf_Ffcj : ((List Str) × Condition)→Option ((List Str))) (l_4 : List Str) (c_5 : Condition)  (x : Int × (List Str)) : Ffcj_la slf_Ffcj l_4 c_5 x=Ffcj_la_F slf_Ffcj l_4 c_5 (Ffcj_la slf_Ffcj l_4 c_5) x:=fix_eq (Ffcj_la_fin slf_Ffcj l_4 c_5) x
noncomputable def Ffcj_B (slf_Ffcj : ((List Str) × Condition)→Option ((List Str))) (l_4 : List Str) (c_5 : Condition) : Option ((List Str)) :=
  bif (c_5.Op == 2) then ((Ffck l_4 c_5.Name).bind fun r3=>some r3) else (bindJ (ρ:=(List Str)) (Ffcj_la slf_Ffcj l_4 c_5 (0,l_4)) fun u7 : (List Str)=>some u7)
noncomputable def Ffcj_G (slf_Ffcj : ((List Str) × Condition)→Option ((List Str))) (x : (List Str) × Condition) : Option ((List Str)):=Ffcj_B slf_Ffcj x.1 x.2
noncomputable def Ffcj (l_4 : List Str) (c_5 : Condition) : Option ((List Str)):=fixO Ffcj_G (l_4,c_5)
theorem Ffcj_fin : ∀ x,Fin1 fun slf_Ffcj=>Ffcj_G slf_Ffcj x:=by
  intro x
  unfold Ffcj_G Ffcj_B
  repeat first|exact f_const|exact f_self|exact f_selfL|exact f_selfR|exact f_selfLL|exact f_selfRL|exact f_selfLLL|exact f_selfRLL|refine f_cond ?_ ?_|refine f_bindJ ?_ (fun _=>?_)|refine f_bindL ?_ (fun _=>?_)|refine f_bind ?_ (fun _=>?_)|refine f_letJ (fun _=>?_)|refine f_fix (fun _=>?_) | unfold Ffcj_la | unfold Ffcj_la_F
theorem Ffcj_eq (l_4 : List Str) (c_5 : Condition) : Ffcj l_4 c_5=Ffcj_B (fixO Ffcj_G) l_4 c_5:=fix_eq Ffcj_fin (l_4,c_5)
noncomputable def Ffcq_la_F (c_1 : Contract)  (self : (Int × (List Str))→Option (((List Str)) ⊕ ((List Str)))) (x2 : Int × (List Str)) : Option (((List Str)) ⊕ ((List Str))) :=
  bif (decide (x2.1 < (len c_1.Clauses))) then ((getI c_1.Clauses x2.1).bind fun e3=>(Ffck x2.2 e3.Action).bind fun r4=>(getI c_1.Clauses x2.1).bind fun e5=>(Ffcj r4 e5.When).bind fun r6=>self ((w64 (x2.1 + 1)),r6)) else (some (.inr x2.2))
noncomputable def Ffcq_la (c_1 : Contract)  : (Int × (List Str))→Option (((List Str)) ⊕ ((List Str))):=fixO (Ffcq_la_F c_1)
theorem Ffcq_la_fin (c_1 : Contract)  : ∀ a,Fin1 fun f=>Ffcq_la_F c_1 f a:=by
  intro a
  unfold Ffcq_la_F
  repeat first|exact f_const|exact f_self|refine f_cond ?_ ?_|refine f_bindJ ?_ (fun _=>?_)|refine f_bindL ?_ (fun _=>?_)|refine f_bind ?_ (fun _=>?_)|refine f_letJ (fun _=>?_)
theorem Ffcq_la_eq (c_1 : Contract)  (x : Int × (List Str)) : Ffcq_la c_1 x=Ffcq_la_F c_1 (Ffcq_la c_1) x:=fix_eq (Ffcq_la_fin c_1) x
noncomputable def Ffcq (c_1 : Contract) : Option ((List Str)) :=
  bindJ (ρ:=(List Str)) (Ffcq_la c_1 (0,[])) fun u7 : (List Str)=>some u7
noncomputable def Ffcp_la_F (c_1 : Contract)  (self : Int→Option (Bool ⊕ Unit)) (x4 : Int) : Option (Bool ⊕ Unit) :=
  bif (decide (x4 < (len c_1.Clauses))) then ((getI c_1.Clauses x4).bind fun e5=>(Ffco c_1 e5.Id).bind fun r6=>bindL (ρ:=Bool) (bif (r6 != x4) then (some (.inr true)) else ((Ffcn c_1 x4).bind fun r8=>some (.inr (!r8)))) fun u7 : Bool=>bif u7 then (some (.inl false)) else (self (w64 (x4 + 1)))) else (some (.inr ()))
noncomputable def Ffcp_la (c_1 : Contract)  : Int→Option (Bool ⊕ Unit):=fixO (Ffcp_la_F c_1)
theorem Ffcp_la_fin (c_1 : Contract)  : ∀ a,Fin1 fun f=>Ffcp_la_F c_1 f a:=by
  intro a
  unfold Ffcp_la_F
  repeat first|exact f_const|exact f_self|refine f_cond ?_ ?_|refine f_bindJ ?_ (fun _=>?_)|refine f_bindL ?_ (fun _=>?_)|refine f_bind ?_ (fun _=>?_)|refine f_letJ (fun _=>?_)
theorem Ffcp_la_eq (c_1 : Contract)  (x : Int) : Ffcp_la c_1 x=Ffcp_la_F c_1 (Ffcp_la c_1) x:=fix_eq (Ffcp_la_fin c_1) x
noncomputable def Ffcp (c_1 : Contract) : Option Bool :=
  (spec_l1In (len c_1.Clauses) 1 12).bind fun r2=>bindJ (ρ:=Bool) (bif (!r2) then (some (.inr true)) else ((Ffcr c_1).bind fun r11=>some (.inr (!r11)))) fun u3 : Bool=>bif u3 then (some false) else (bindJ (ρ:=Bool) (Ffcp_la c_1 0) fun u9 : Unit=>(Ffcq c_1).bind fun r10=>some (decide ((len r10) ≤ 16)))
noncomputable def Ffcc_la_F (c_1 : Contract) (trace_2 : List Entry)  (self : Int→Option (Bool ⊕ Unit)) (x5 : Int) : Option (Bool ⊕ Unit) :=
  bif (decide (x5 < (len trace_2))) then ((getI trace_2 x5).bind fun e6=>(Ffcd e6.Day).bind fun r7=>bindL (ρ:=Bool) (bif (!r7) then (some (.inr true)) else (bindL (ρ:=Bool) (bif (decide (x5 > 0)) then ((getI trace_2 (w64 (x5 - 1))).bind fun e17=>bindL (ρ:=Bool) (bif (decide (e17.Day > e6.Day)) then (some (.inr true)) else ((spec_l1In e6.Kind 1 7).bind fun r19=>bindL (ρ:=Bool) (bif (!r19) then (some (.inr true)) else ((spec_l1In e6.Party 0 (w64 ((len c_1.Parties) - 1))).bind fun r21=>some (.inr (!r21)))) fun u20 : Bool=>some (.inr u20))) fun u18 : Bool=>some (.inr u18)) else ((spec_l1In e6.Kind 1 7).bind fun r22=>bindL (ρ:=Bool) (bif (!r22) then (some (.inr true)) else ((spec_l1In e6.Party 0 (w64 ((len c_1.Parties) - 1))).bind fun r24=>some (.inr (!r24)))) fun u23 : Bool=>some (.inr u23))) fun u16 : Bool=>some (.inr u16))) fun u8 : Bool=>bif u8 then (some (.inl false)) else (letJ (bif (e6.Kind == 6) then (true) else ((e6.Kind == 7))) fun u9 : Bool=>bindL (ρ:=Bool) (bif u9 then (bindL (ρ:=Bool) (bif (e6.Clause != (-1)) then (some (.inr true)) else (bindL (ρ:=Bool) (bif (!u9) then ((spec_l1In e6.Clause 0 (w64 ((len c_1.Clauses) - 1))).bind fun r13=>some (.inr (!r13))) else (some (.inr false))) fun u12 : Bool=>some (.inr u12))) fun u11 : Bool=>some (.inr u11)) else (bindL (ρ:=Bool) (bif (!u9) then ((spec_l1In e6.Clause 0 (w64 ((len c_1.Clauses) - 1))).bind fun r15=>some (.inr (!r15))) else (some (.inr false))) fun u14 : Bool=>some (.inr u14))) fun u10 : Bool=>bif u10 then (some (.inl false)) else (self (w64 (x5 + 1))))) else (some (.inr ()))
noncomputable def Ffcc_la (c_1 : Contract) (trace_2 : List Entry)  : Int→Option (Bool ⊕ Unit):=fixO (Ffcc_la_F c_1 trace_2)
theorem Ffcc_la_fin (c_1 : Contract) (trace_2 : List Entry)  : ∀ a,Fin1 fun f=>Ffcc_la_F c_1 trace_2 f a:=by
  intro a
  unfold Ffcc_la_F
  repeat first|exact f_const|exact f_self|refine f_cond ?_ ?_|refine f_bindJ ?_ (fun _=>?_)|refine f_bindL ?_ (fun _=>?_)|refine f_bind ?_ (fun _=>?_)|refine f_letJ (fun _=>?_)
theorem Ffcc_la_eq (c_1 : Contract) (trace_2 : List Entry)  (x : Int) : Ffcc_la c_1 trace_2 x=Ffcc_la_F c_1 trace_2 (Ffcc_la c_1 trace_2) x:=fix_eq (Ffcc_la_fin c_1 trace_2) x
noncomputable def Ffcc (c_1 : Contract) (trace_2 : List Entry) : Option Bool :=
  (Ffcp c_1).bind fun r3=>letJ (bif (!r3) then (true) else ((decide ((len trace_2) > 200)))) fun u4 : Bool=>bif u4 then (some false) else (bindJ (ρ:=Bool) (Ffcc_la c_1 trace_2 0) fun u25 : Unit=>some true)
noncomputable def Ffcb (e_1 : Entry) : Option Bool :=
  letJ (bif (e_1.Kind == 2) then (true) else ((e_1.Kind == 4))) fun u2 : Bool=>some u2
noncomputable def Ffca_la_F (c_1 : Contract) (trace_2 : List Entry)  (self : Int→Option ((Int × Bool) ⊕ Unit)) (x4 : Int) : Option ((Int × Bool) ⊕ Unit) :=
  bif (decide (x4 < (len trace_2))) then ((getI trace_2 x4).bind fun e5=>(Ffcb e5).bind fun r6=>bif r6 then (some (.inl (x4,true))) else (self (w64 (x4 + 1)))) else (some (.inr ()))
noncomputable def Ffca_la (c_1 : Contract) (trace_2 : List Entry)  : Int→Option ((Int × Bool) ⊕ Unit):=fixO (Ffca_la_F c_1 trace_2)
theorem Ffca_la_fin (c_1 : Contract) (trace_2 : List Entry)  : ∀ a,Fin1 fun f=>Ffca_la_F c_1 trace_2 f a:=by
  intro a
  unfold Ffca_la_F
  repeat first|exact f_const|exact f_self|refine f_cond ?_ ?_|refine f_bindJ ?_ (fun _=>?_)|refine f_bindL ?_ (fun _=>?_)|refine f_bind ?_ (fun _=>?_)|refine f_letJ (fun _=>?_)
theorem Ffca_la_eq (c_1 : Contract) (trace_2 : List Entry)  (x : Int) : Ffca_la c_1 trace_2 x=Ffca_la_F c_1 trace_2 (Ffca_la c_1 trace_2) x:=fix_eq (Ffca_la_fin c_1 trace_2) x
noncomputable def Ffca (c_1 : Contract) (trace_2 : List Entry) : Option (Int × Bool) :=
  (Ffcc c_1 trace_2).bind fun r3=>bif (!r3) then (some (0,false)) else (bindJ (ρ:=Int × Bool) (Ffca_la c_1 trace_2 0) fun u7 : Unit=>some ((-1),true))
noncomputable def Ffp (n_1 : Int) (low_2 : Int) (high_3 : Int) : Option Bool :=
  letJ (bif (decide (n_1 ≥ low_2)) then ((decide (n_1 ≤ high_3))) else (false)) fun u4 : Bool=>some u4
noncomputable def Ffr (s_1 : Str) (c_2 : Int) : Option Int :=
  (xIndexByteString s_1 c_2).bind fun r3=>some r3
noncomputable def Ffq (s_1 : Str) (substr_2 : Str) : Option Int :=
  letJ (bif ((len substr_2) == 0) then (true) else ((substr_2 == s_1))) fun u3 : Bool=>bif u3 then (some 0) else (bif ((len substr_2) == 1) then ((getI substr_2 0).bind fun c4=>(Ffr s_1 (c4.toNat : Int)).bind fun r5=>some r5) else (bif (decide ((len substr_2) ≥ (len s_1))) then (some (-1)) else (none)))
noncomputable def Ffct (s_1 : Str) (substr_2 : Str) : Option Int :=
  (Ffq s_1 substr_2).bind fun r3=>some r3
noncomputable def Ffcs_la_F (s_1 : Str) (substr_2 : Str)  (self : (Str × Int)→Option (Int ⊕ Unit)) (x5 : Str × Int) : Option (Int ⊕ Unit) :=
  (Ffct x5.1 substr_2).bind fun r6=>bif (r6 == (-1)) then (some (.inl x5.2)) else ((subI x5.1 (w64 (r6 + (len substr_2))) (len x5.1)).bind fun s7=>self (s7,(w64 (x5.2 + 1))))
noncomputable def Ffcs_la (s_1 : Str) (substr_2 : Str)  : (Str × Int)→Option (Int ⊕ Unit):=fixO (Ffcs_la_F s_1 substr_2)
theorem Ffcs_la_fin (s_1 : Str) (substr_2 : Str)  : ∀ a,Fin1 fun f=>Ffcs_la_F s_1 substr_2 f a:=by
  intro a
  unfold Ffcs_la_F
  repeat first|exact f_const|exact f_self|refine f_cond ?_ ?_|refine f_bindJ ?_ (fun _=>?_)|refine f_bindL ?_ (fun _=>?_)|refine f_bind ?_ (fun _=>?_)|refine f_letJ (fun _=>?_)
theorem Ffcs_la_eq (s_1 : Str) (substr_2 : Str)  (x : Str × Int) : Ffcs_la s_1 substr_2 x=Ffcs_la_F s_1 substr_2 (Ffcs_la s_1 substr_2) x:=fix_eq (Ffcs_la_fin s_1 substr_2) x
noncomputable def Ffcs (s_1 : Str) (substr_2 : Str) : Option Int :=
  bif ((len substr_2) == 0) then (none) else (bif ((len substr_2) == 1) then ((getI substr_2 0).bind fun c3=>(xCountString s_1 (c3.toNat : Int)).bind fun r4=>some r4) else (bindJ (ρ:=Int) (Ffcs_la s_1 substr_2 (s_1,0)) fun u8 : Unit=>none))
noncomputable def Ffcv_la_F (s_1 : Str) (sep_2 : Str) (sepSave_3 : Int) (n_4 : Int) (u5 : Int) (self : (Str × Int × (List Str))→Option (((List Str)) ⊕ (Str × Int × (List Str)))) (x7 : Str × Int × (List Str)) : Option (((List Str)) ⊕ (Str × Int × (List Str))) :=
  bif (decide (x7.2.1 < (w64 ((if (w64 ((len s_1) + 1)) < u5 then (w64 ((len s_1) + 1)) else u5) - 1)))) then ((Ffct x7.1 sep_2).bind fun r8=>bif (decide (r8 < 0)) then (some (.inr (x7.1,x7.2.1,x7.2.2))) else ((subI x7.1 0 (w64 (r8 + sepSave_3))).bind fun s9=>(getI x7.2.2 x7.2.1).bind fun e10=>(subI x7.1 (w64 (r8 + (len sep_2))) (len x7.1)).bind fun s11=>self (s11,(w64 (x7.2.1 + 1)),(setI x7.2.2 x7.2.1 s9)))) else (some (.inr (x7.1,x7.2.1,x7.2.2)))
noncomputable def Ffcv_la (s_1 : Str) (sep_2 : Str) (sepSave_3 : Int) (n_4 : Int) (u5 : Int) : (Str × Int × (List Str))→Option (((List Str)) ⊕ (Str × Int × (List Str))):=fixO (Ffcv_la_F s_1 sep_2 sepSave_3 n_4 u5)
theorem Ffcv_la_fin (s_1 : Str) (sep_2 : Str) (sepSave_3 : Int) (n_4 : Int) (u5 : Int) : ∀ a,Fin1 fun f=>Ffcv_la_F s_1 sep_2 sepSave_3 n_4 u5 f a:=by
  intro a
  unfold Ffcv_la_F
  repeat first|exact f_const|exact f_self|refine f_cond ?_ ?_|refine f_bindJ ?_ (fun _=>?_)|refine f_bindL ?_ (fun _=>?_)|refine f_bind ?_ (fun _=>?_)|refine f_letJ (fun _=>?_)
theorem Ffcv_la_eq (s_1 : Str) (sep_2 : Str) (sepSave_3 : Int) (n_4 : Int) (u5 : Int) (x : Str × Int × (List Str)) : Ffcv_la s_1 sep_2 sepSave_3 n_4 u5 x=Ffcv_la_F s_1 sep_2 sepSave_3 n_4 u5 (Ffcv_la s_1 sep_2 sepSave_3 n_4 u5) x:=fix_eq (Ffcv_la_fin s_1 sep_2 sepSave_3 n_4 u5) x
noncomputable def Ffcv (s_1 : Str) (sep_2 : Str) (sepSave_3 : Int) (n_4 : Int) : Option ((List Str)) :=
  bif (n_4 == 0) then (some []) else (bif (sep_2 == ([] : Str)) then (none) else (bindJ (ρ:=(List Str)) (bif (decide (n_4 < 0)) then ((Ffcs s_1 sep_2).bind fun r16=>some (.inr (w64 (r16 + 1)))) else (some (.inr n_4))) fun u5 : Int=>(mkI 16 [] (if (w64 ((len s_1) + 1)) < u5 then (w64 ((len s_1) + 1)) else u5)).bind fun m6=>bindJ (ρ:=(List Str)) (Ffcv_la s_1 sep_2 sepSave_3 n_4 u5 (s_1,0,m6)) fun u12 : Str × Int × (List Str)=>(getI u12.2.2 u12.2.1).bind fun e13=>(subP (setI u12.2.2 u12.2.1 u12.1).length 0 (w64 (u12.2.1 + 1))).bind fun s14=>(partP (setI u12.2.2 u12.2.1 u12.1) (0 + Int.toNat (0)) (Int.toNat ((w64 (u12.2.1 + 1))) - Int.toNat (0))).bind fun p15=>some p15))
noncomputable def Ffcu (s_1 : Str) (sep_2 : Str) : Option ((List Str)) :=
  (Ffcv s_1 sep_2 0 (-1)).bind fun r3=>some r3
noncomputable def Ffbz_la_F (s_1 : List Str) (v_2 : Str)  (self : Int→Option (Int ⊕ Unit)) (x3 : Int) : Option (Int ⊕ Unit) :=
  bif (decide (x3 < (len s_1))) then ((getI s_1 x3).bind fun e4=>bif (v_2 == e4) then (some (.inl x3)) else (self (w64 (x3 + 1)))) else (some (.inr ()))
noncomputable def Ffbz_la (s_1 : List Str) (v_2 : Str)  : Int→Option (Int ⊕ Unit):=fixO (Ffbz_la_F s_1 v_2)
theorem Ffbz_la_fin (s_1 : List Str) (v_2 : Str)  : ∀ a,Fin1 fun f=>Ffbz_la_F s_1 v_2 f a:=by
  intro a
  unfold Ffbz_la_F
  repeat first|exact f_const|exact f_self|refine f_cond ?_ ?_|refine f_bindJ ?_ (fun _=>?_)|refine f_bindL ?_ (fun _=>?_)|refine f_bind ?_ (fun _=>?_)|refine f_letJ (fun _=>?_)
theorem Ffbz_la_eq (s_1 : List Str) (v_2 : Str)  (x : Int) : Ffbz_la s_1 v_2 x=Ffbz_la_F s_1 v_2 (Ffbz_la s_1 v_2) x:=fix_eq (Ffbz_la_fin s_1 v_2) x
noncomputable def Ffbz (s_1 : List Str) (v_2 : Str) : Option Int :=
  bindJ (ρ:=Int) (Ffbz_la s_1 v_2 0) fun u5 : Unit=>some (-1)
noncomputable def Ffbw (s_1 : List Str) (v_2 : Str) : Option Bool :=
  (Ffbz s_1 v_2).bind fun r3=>some (decide (r3 ≥ 0))
noncomputable def Ffd_la_F (s_1 : Str)  (self : Int→Option (Bool ⊕ Unit)) (x4 : Int) : Option (Bool ⊕ Unit) :=
  bif (decide (x4 < (len s_1))) then ((getI s_1 x4).bind fun c5=>letJ (bif (decide ((c5.toNat : Int) < 97)) then (letJ (bif (decide ((c5.toNat : Int) < 48)) then (true) else ((decide ((c5.toNat : Int) > 57)))) fun u7 : Bool=>u7) else (letJ (bif (decide ((c5.toNat : Int) > 122)) then (letJ (bif (decide ((c5.toNat : Int) < 48)) then (true) else ((decide ((c5.toNat : Int) > 57)))) fun u9 : Bool=>u9) else (false)) fun u8 : Bool=>u8)) fun u6 : Bool=>bif u6 then (some (.inl false)) else (self (w64 (x4 + 1)))) else (some (.inr ()))
noncomputable def Ffd_la (s_1 : Str)  : Int→Option (Bool ⊕ Unit):=fixO (Ffd_la_F s_1)
theorem Ffd_la_fin (s_1 : Str)  : ∀ a,Fin1 fun f=>Ffd_la_F s_1 f a:=by
  intro a
  unfold Ffd_la_F
  repeat first|exact f_const|exact f_self|refine f_cond ?_ ?_|refine f_bindJ ?_ (fun _=>?_)|refine f_bindL ?_ (fun _=>?_)|refine f_bind ?_ (fun _=>?_)|refine f_letJ (fun _=>?_)
theorem Ffd_la_eq (s_1 : Str)  (x : Int) : Ffd_la s_1 x=Ffd_la_F s_1 (Ffd_la s_1) x:=fix_eq (Ffd_la_fin s_1) x
noncomputable def Ffd (s_1 : Str) : Option Bool :=
  (Ffp (len s_1) 1 8).bind fun r2=>bindJ (ρ:=Bool) (bif (!r2) then (some (.inr true)) else ((getI s_1 0).bind fun c13=>bindL (ρ:=Bool) (bif (decide ((c13.toNat : Int) < 97)) then (some (.inr true)) else ((getI s_1 0).bind fun c15=>some (.inr (decide ((c15.toNat : Int) > 122))))) fun u14 : Bool=>some (.inr u14))) fun u3 : Bool=>bif u3 then (some false) else (bindJ (ρ:=Bool) (Ffd_la s_1 0) fun u10 : Unit=>(Ffcu ([116,114,117,101,32,102,114,111,109,32,110,111,116,32,97,110,100,32,111,114,32,98,111,116,104,32,101,105,116,104,101,114,32,105,116,32,105,110] : Str) ([32] : Str)).bind fun r11=>(Ffbw r11 s_1).bind fun r12=>some (!r12))
noncomputable def Fff_la_F (list_1 : List Str)  (self : Int→Option (Bool ⊕ Unit)) (x2 : Int) : Option (Bool ⊕ Unit) :=
  bif (decide (x2 < (len list_1))) then ((getI list_1 x2).bind fun e3=>(Ffd e3).bind fun r4=>bindL (ρ:=Bool) (bif (!r4) then (some (.inr true)) else ((subI list_1 0 x2).bind fun s6=>(Ffbw s6 e3).bind fun r7=>some (.inr r7))) fun u5 : Bool=>bif u5 then (some (.inl false)) else (self (w64 (x2 + 1)))) else (some (.inr ()))
noncomputable def Fff_la (list_1 : List Str)  : Int→Option (Bool ⊕ Unit):=fixO (Fff_la_F list_1)
theorem Fff_la_fin (list_1 : List Str)  : ∀ a,Fin1 fun f=>Fff_la_F list_1 f a:=by
  intro a
  unfold Fff_la_F
  repeat first|exact f_const|exact f_self|refine f_cond ?_ ?_|refine f_bindJ ?_ (fun _=>?_)|refine f_bindL ?_ (fun _=>?_)|refine f_bind ?_ (fun _=>?_)|refine f_letJ (fun _=>?_)
theorem Fff_la_eq (list_1 : List Str)  (x : Int) : Fff_la list_1 x=Fff_la_F list_1 (Fff_la list_1) x:=fix_eq (Fff_la_fin list_1) x
noncomputable def Fff (list_1 : List Str) : Option Bool :=
  bindJ (ρ:=Bool) (Fff_la list_1 0) fun u8 : Unit=>(Ffp (len list_1) 2 4).bind fun r9=>some r9
noncomputable def Ffh (x_1 : Clause) (a_2 : Str) : Option Bool :=
  some (x_1.Id == a_2)
noncomputable def Ffbx_la_F (s_1 : List Clause) (f_2 : Str)  (self : Int→Option (Int ⊕ Unit)) (x3 : Int) : Option (Int ⊕ Unit) :=
  bif (decide (x3 < (len s_1))) then ((getI s_1 x3).bind fun e4=>(Ffh e4 f_2).bind fun r5=>bif r5 then (some (.inl x3)) else (self (w64 (x3 + 1)))) else (some (.inr ()))
noncomputable def Ffbx_la (s_1 : List Clause) (f_2 : Str)  : Int→Option (Int ⊕ Unit):=fixO (Ffbx_la_F s_1 f_2)
theorem Ffbx_la_fin (s_1 : List Clause) (f_2 : Str)  : ∀ a,Fin1 fun f=>Ffbx_la_F s_1 f_2 f a:=by
  intro a
  unfold Ffbx_la_F
  repeat first|exact f_const|exact f_self|refine f_cond ?_ ?_|refine f_bindJ ?_ (fun _=>?_)|refine f_bindL ?_ (fun _=>?_)|refine f_bind ?_ (fun _=>?_)|refine f_letJ (fun _=>?_)
theorem Ffbx_la_eq (s_1 : List Clause) (f_2 : Str)  (x : Int) : Ffbx_la s_1 f_2 x=Ffbx_la_F s_1 f_2 (Ffbx_la s_1 f_2) x:=fix_eq (Ffbx_la_fin s_1 f_2) x
noncomputable def Ffbx (s_1 : List Clause) (f_2 : Str) : Option Int :=
  bindJ (ρ:=Int) (Ffbx_la s_1 f_2 0) fun u6 : Unit=>some (-1)
noncomputable def Ffg (c_1 : Contract) (id_2 : Str) : Option Int :=
  (Ffbx c_1.Clauses id_2).bind fun r3=>some r3
noncomputable def Ffm (day_1 : Int) : Option Bool :=
  (Ffp day_1 0 36524).bind fun r2=>some r2
noncomputable def Ffi_la_F (slf_Ffi : (Condition × Int)→Option Int) (c_1 : Condition) (so_2 : Int)  (self : (Int × Int)→Option (Int ⊕ Int)) (x5 : Int × Int) : Option (Int ⊕ Int) :=
  bif (decide (x5.2 < (len c_1.Parts))) then ((getI c_1.Parts x5.2).bind fun e6=>(slf_Ffi (e6,x5.1)).bind fun r7=>bif (decide (r7 < 0)) then (some (.inl (-1))) else (self (r7,(w64 (x5.2 + 1))))) else (some (.inr x5.1))
noncomputable def Ffi_la (slf_Ffi : (Condition × Int)→Option Int) (c_1 : Condition) (so_2 : Int)  : (Int × Int)→Option (Int ⊕ Int):=fixO (Ffi_la_F slf_Ffi c_1 so_2)
theorem Ffi_la_fin (slf_Ffi : (Condition × Int)→Option Int) (c_1 : Condition) (so_2 : Int)  : ∀ a,Fin1 fun f=>Ffi_la_F slf_Ffi c_1 so_2 f a:=by
  intro a
  unfold Ffi_la_F
  repeat first|exact f_const|exact f_self|refine f_cond ?_ ?_|refine f_bindJ ?_ (fun _=>?_)|refine f_bindL ?_ (fun _=>?_)|refine f_bind ?_ (fun _=>?_)|refine f_letJ (fun _=>?_)
theorem Ffi_la_eq (slf_Ffi : (Condition × Int)→Option Int) (c_1 : Condition) (so_2 : Int)  (x : Int × Int) : Ffi_la slf_Ffi c_1 so_2 x=Ffi_la_F slf_Ffi c_1 so_2 (Ffi_la slf_Ffi c_1 so_2) x:=fix_eq (Ffi_la_fin slf_Ffi c_1 so_2) x
noncomputable def Ffi_B (slf_Ffi : (Condition × Int)→Option Int) (c_1 : Condition) (so_2 : Int) : Option Int :=
  bindJ (ρ:=Int) (bif (decide ((w64 (so_2 + 1)) > 15)) then (some (.inr true)) else ((Ffp c_1.Op 1 6).bind fun r20=>bindL (ρ:=Int) (bif (!r20) then (some (.inr true)) else ((getI [(-1),0,0,0,1,2,2] c_1.Op).bind fun e22=>some (.inr ((len c_1.Parts) != e22)))) fun u21 : Bool=>some (.inr u21))) fun u3 : Bool=>bif u3 then (some (-1)) else (bindJ (ρ:=Int) (bif (!((c_1.Op == 2) == (!(c_1.Name == ([] : Str))))) then (some (.inr true)) else (bindL (ρ:=Int) (bif (c_1.Op == 2) then ((Ffd c_1.Name).bind fun r10=>bindL (ρ:=Int) (bif (!r10) then (some (.inr true)) else (bindL (ρ:=Int) (bif (c_1.Op != 3) then (bindL (ρ:=Int) (bif (c_1.Day != 0) then (some (.inr true)) else ((Ffm c_1.Day).bind fun r14=>some (.inr (!r14)))) fun u13 : Bool=>some (.inr u13)) else ((Ffm c_1.Day).bind fun r15=>some (.inr (!r15)))) fun u12 : Bool=>some (.inr u12))) fun u11 : Bool=>some (.inr u11)) else (bindL (ρ:=Int) (bif (c_1.Op != 3) then (bindL (ρ:=Int) (bif (c_1.Day != 0) then (some (.inr true)) else ((Ffm c_1.Day).bind fun r18=>some (.inr (!r18)))) fun u17 : Bool=>some (.inr u17)) else ((Ffm c_1.Day).bind fun r19=>some (.inr (!r19)))) fun u16 : Bool=>some (.inr u16))) fun u9 : Bool=>some (.inr u9))) fun u4 : Bool=>bif u4 then (some (-1)) else (bindJ (ρ:=Int) (Ffi_la slf_Ffi c_1 so_2 ((w64 (so_2 + 1)),0)) fun u8 : Int=>some u8))
noncomputable def Ffi_G (slf_Ffi : (Condition × Int)→Option Int) (x : Condition × Int) : Option Int:=Ffi_B slf_Ffi x.1 x.2
noncomputable def Ffi (c_1 : Condition) (so_2 : Int) : Option Int:=fixO Ffi_G (c_1,so_2)
theorem Ffi_fin : ∀ x,Fin1 fun slf_Ffi=>Ffi_G slf_Ffi x:=by
  intro x
  unfold Ffi_G Ffi_B
  repeat first|exact f_const|exact f_self|exact f_selfL|exact f_selfR|exact f_selfLL|exact f_selfRL|exact f_selfLLL|exact f_selfRLL|refine f_cond ?_ ?_|refine f_bindJ ?_ (fun _=>?_)|refine f_bindL ?_ (fun _=>?_)|refine f_bind ?_ (fun _=>?_)|refine f_letJ (fun _=>?_)|refine f_fix (fun _=>?_) | unfold Ffi_la | unfold Ffi_la_F
theorem Ffi_eq (c_1 : Condition) (so_2 : Int) : Ffi c_1 so_2=Ffi_B (fixO Ffi_G) c_1 so_2:=fix_eq Ffi_fin (c_1,so_2)
noncomputable def Ffb (c_1 : Condition) : Option Bool :=
  (Ffi c_1 0).bind fun r2=>some (decide (r2 > 0))
noncomputable def Ffl (c_1 : Contract) (i_2 : Int) : Option Bool :=
  (getI c_1.Clauses i_2).bind fun e3=>(Ffd e3.Id).bind fun r4=>bindJ (ρ:=Bool) (bif (!r4) then (some (.inr true)) else ((Ffg c_1 e3.Id).bind fun r23=>bindL (ρ:=Bool) (bif (r23 != i_2) then (some (.inr true)) else ((Ffd e3.Action).bind fun r25=>bindL (ρ:=Bool) (bif (!r25) then (some (.inr true)) else ((Ffp e3.Kind 1 4).bind fun r27=>some (.inr (!r27)))) fun u26 : Bool=>some (.inr u26))) fun u24 : Bool=>some (.inr u24))) fun u5 : Bool=>bif u5 then (some false) else ((Ffp e3.Party 0 (w64 ((len c_1.Parties) - 1))).bind fun r6=>bindJ (ρ:=Bool) (bif (!r6) then (some (.inr true)) else ((Ffp e3.Other 0 (w64 ((len c_1.Parties) - 1))).bind fun r19=>bindL (ρ:=Bool) (bif (!r19) then (some (.inr true)) else (bindL (ρ:=Bool) (bif (e3.Party == e3.Other) then (some (.inr true)) else ((Ffb e3.When).bind fun r22=>some (.inr (!r22)))) fun u21 : Bool=>some (.inr u21))) fun u20 : Bool=>some (.inr u20))) fun u7 : Bool=>bif u7 then (some false) else ((Ffp e3.Amount 0 1000000).bind fun r8=>bindJ (ρ:=Bool) (bif (!r8) then (some (.inr true)) else ((Ffp e3.Within 0 400).bind fun r15=>letJ (bif (!r15) then (true) else (letJ (bif (e3.Kind != 1) then (letJ (bif (e3.Amount != 0) then (true) else ((e3.Within != 0))) fun u18 : Bool=>u18) else (false)) fun u17 : Bool=>u17)) fun u16 : Bool=>some (.inr u16))) fun u9 : Bool=>bif u9 then (some false) else (bif (e3.Repair == ([] : Str)) then (some true) else ((Ffg c_1 e3.Repair).bind fun r10=>bindJ (ρ:=Bool) (bif (e3.Kind != 3) then (bindL (ρ:=Bool) (bif (decide (r10 ≥ 0)) then (bindL (ρ:=Bool) (bif (r10 != i_2) then ((getI c_1.Clauses r10).bind fun e14=>some (.inr (e14.Kind == 1))) else (some (.inr false))) fun u13 : Bool=>some (.inr u13)) else (some (.inr false))) fun u12 : Bool=>some (.inr u12)) else (some (.inr false))) fun u11 : Bool=>some u11))))
noncomputable def Ffe_la_F (slf_Ffe : (Condition × (List Str))→Option ((List Str))) (c_3 : Condition) (list_4 : List Str)  (self : (Int × (List Str))→Option (((List Str)) ⊕ ((List Str)))) (x4 : Int × (List Str)) : Option (((List Str)) ⊕ ((List Str))) :=
  bif (decide (x4.1 < (len c_3.Parts))) then ((getI c_3.Parts x4.1).bind fun e5=>(slf_Ffe (e5,x4.2)).bind fun r6=>self ((w64 (x4.1 + 1)),r6)) else (some (.inr x4.2))
noncomputable def Ffe_la (slf_Ffe : (Condition × (List Str))→Option ((List Str))) (c_3 : Condition) (list_4 : List Str)  : (Int × (List Str))→Option (((List Str)) ⊕ ((List Str))):=fixO (Ffe_la_F slf_Ffe c_3 list_4)
theorem Ffe_la_fin (slf_Ffe : (Condition × (List Str))→Option ((List Str))) (c_3 : Condition) (list_4 : List Str)  : ∀ a,Fin1 fun f=>Ffe_la_F slf_Ffe c_3 list_4 f a:=by
  intro a
  unfold Ffe_la_F
  repeat first|exact f_const|exact f_self|refine f_cond ?_ ?_|refine f_bindJ ?_ (fun _=>?_)|refine f_bindL ?_ (fun _=>?_)|refine f_bind ?_ (fun _=>?_)|refine f_letJ (fun _=>?_)
theorem Ffe_la_eq (slf_Ffe : (Condition × (List Str))→Option ((List Str))) (c_3 : Condition) (list_4 : List Str)  (x : Int × (List Str)) : Ffe_la slf_Ffe c_3 list_4 x=Ffe_la_F slf_Ffe c_3 list_4 (Ffe_la slf_Ffe c_3 list_4) x:=fix_eq (Ffe_la_fin slf_Ffe c_3 list_4) x
noncomputable def Ffe_B (slf_Ffe : (Condition × (List Str))→Option ((List Str))) (c_3 : Condition) (list_4 : List Str) : Option ((List Str)) :=
  bindJ (ρ:=(List Str)) (bif (c_3.Op == 2) then ((appI 16 list_4 [c_3.Name]).bind fun a8=>some (.inr a8)) else (some (.inr list_4))) fun u3 : (List Str)=>bindJ (ρ:=(List Str)) (Ffe_la slf_Ffe c_3 list_4 (0,u3)) fun u7 : (List Str)=>some u7
noncomputable def Ffe_G (slf_Ffe : (Condition × (List Str))→Option ((List Str))) (x : Condition × (List Str)) : Option ((List Str)):=Ffe_B slf_Ffe x.1 x.2
noncomputable def Ffe (c_3 : Condition) (list_4 : List Str) : Option ((List Str)):=fixO Ffe_G (c_3,list_4)
theorem Ffe_fin : ∀ x,Fin1 fun slf_Ffe=>Ffe_G slf_Ffe x:=by
  intro x
  unfold Ffe_G Ffe_B
  repeat first|exact f_const|exact f_self|exact f_selfL|exact f_selfR|exact f_selfLL|exact f_selfRL|exact f_selfLLL|exact f_selfRLL|refine f_cond ?_ ?_|refine f_bindJ ?_ (fun _=>?_)|refine f_bindL ?_ (fun _=>?_)|refine f_bind ?_ (fun _=>?_)|refine f_letJ (fun _=>?_)|refine f_fix (fun _=>?_) | unfold Ffe_la | unfold Ffe_la_F
theorem Ffe_eq (c_3 : Condition) (list_4 : List Str) : Ffe c_3 list_4=Ffe_B (fixO Ffe_G) c_3 list_4:=fix_eq Ffe_fin (c_3,list_4)
noncomputable def Ffbv_lb_F (s_2 : List Str) (x2 : Int) (self : (Int × Int × (List Str))→Option (((List Str)) ⊕ (Int × (List Str)))) (x6 : Int × Int × (List Str)) : Option (((List Str)) ⊕ (Int × (List Str))) :=
  bif (decide (x6.2.1 < (((Int.toNat (len s_2) - Int.toNat (x2)) : Nat) : Int))) then ((getP x6.2.2 (0 + Int.toNat (x2)) (Int.toNat (len s_2) - Int.toNat (x2)) x6.2.1).bind fun e7=>(getP x6.2.2 (0 + Int.toNat (x2)) (Int.toNat (len s_2) - Int.toNat (x2)) (w64 (x6.2.1 - 1))).bind fun e8=>bindL (ρ:=(List Str)) (bif (!(e7 == e8)) then ((getP x6.2.2 (0 + Int.toNat (x2)) (Int.toNat (len s_2) - Int.toNat (x2)) x6.2.1).bind fun e10=>(getI x6.2.2 x6.1).bind fun e11=>some (.inr ((w64 (x6.1 + 1)),(setI x6.2.2 x6.1 e10)))) else (some (.inr (x6.1,x6.2.2)))) fun u9 : Int × (List Str)=>self (u9.1,(w64 (x6.2.1 + 1)),u9.2)) else (some (.inr (x6.1,x6.2.2)))
noncomputable def Ffbv_lb (s_2 : List Str) (x2 : Int) : (Int × Int × (List Str))→Option (((List Str)) ⊕ (Int × (List Str))):=fixO (Ffbv_lb_F s_2 x2)
theorem Ffbv_lb_fin (s_2 : List Str) (x2 : Int) : ∀ a,Fin1 fun f=>Ffbv_lb_F s_2 x2 f a:=by
  intro a
  unfold Ffbv_lb_F
  repeat first|exact f_const|exact f_self|refine f_cond ?_ ?_|refine f_bindJ ?_ (fun _=>?_)|refine f_bindL ?_ (fun _=>?_)|refine f_bind ?_ (fun _=>?_)|refine f_letJ (fun _=>?_)
theorem Ffbv_lb_eq (s_2 : List Str) (x2 : Int) (x : Int × Int × (List Str)) : Ffbv_lb s_2 x2 x=Ffbv_lb_F s_2 x2 (Ffbv_lb s_2 x2) x:=fix_eq (Ffbv_lb_fin s_2 x2) x
noncomputable def Ffbv_la_F (s_2 : List Str)  (self : Int→Option (((List Str)) ⊕ ((List Str)))) (x2 : Int) : Option (((List Str)) ⊕ ((List Str))) :=
  bif (decide (x2 < (len s_2))) then ((getI s_2 x2).bind fun e3=>(getI s_2 (w64 (x2 - 1))).bind fun e4=>bif (e3 == e4) then ((subP s_2.length x2 (len s_2)).bind fun s5=>bindL (ρ:=(List Str)) (Ffbv_lb s_2 x2 (x2,1,s_2)) fun u15 : Int × (List Str)=>(subP u15.2.length u15.1 (len u15.2)).bind fun s16=>(clrP u15.2 (0 + Int.toNat (u15.1)) (Int.toNat (len u15.2) - Int.toNat (u15.1)) []).bind fun k17=>(subP k17.length 0 u15.1).bind fun s18=>(partP k17 (0 + Int.toNat (0)) (Int.toNat (u15.1) - Int.toNat (0))).bind fun p19=>some (.inl p19)) else (self (w64 (x2 + 1)))) else (some (.inr s_2))
noncomputable def Ffbv_la (s_2 : List Str)  : Int→Option (((List Str)) ⊕ ((List Str))):=fixO (Ffbv_la_F s_2)
theorem Ffbv_la_fin (s_2 : List Str)  : ∀ a,Fin1 fun f=>Ffbv_la_F s_2 f a:=by
  intro a
  unfold Ffbv_la_F
  repeat first|exact f_const|exact f_self|refine f_cond ?_ ?_|refine f_bindJ ?_ (fun _=>?_)|refine f_bindL ?_ (fun _=>?_)|refine f_bind ?_ (fun _=>?_)|refine f_letJ (fun _=>?_)
theorem Ffbv_la_eq (s_2 : List Str)  (x : Int) : Ffbv_la s_2 x=Ffbv_la_F s_2 (Ffbv_la s_2) x:=fix_eq (Ffbv_la_fin s_2) x
noncomputable def Ffbv (s_2 : List Str) : Option ((List Str)) :=
  bif (decide ((len s_2) < 2)) then (some s_2) else (bindJ (ρ:=(List Str)) (Ffbv_la s_2 1) fun u20 : (List Str)=>some u20)
noncomputable def Ffo (list_5 : List Str) : Option ((List Str)) :=
  (xSortS list_5).bind fun r2=>bif Nat.beq r2.length list_5.length then ((Ffbv r2).bind fun r4=>some r4) else none
noncomputable def Ffj_la_F (c_1 : Contract)  (self : (Int × (List Str))→Option (((List Str)) ⊕ ((List Str)))) (x2 : Int × (List Str)) : Option (((List Str)) ⊕ ((List Str))) :=
  bif (decide (x2.1 < (len c_1.Clauses))) then ((getI c_1.Clauses x2.1).bind fun e3=>(appI 16 x2.2 [e3.Action]).bind fun a4=>(Ffe e3.When a4).bind fun r5=>self ((w64 (x2.1 + 1)),r5)) else (some (.inr x2.2))
noncomputable def Ffj_la (c_1 : Contract)  : (Int × (List Str))→Option (((List Str)) ⊕ ((List Str))):=fixO (Ffj_la_F c_1)
theorem Ffj_la_fin (c_1 : Contract)  : ∀ a,Fin1 fun f=>Ffj_la_F c_1 f a:=by
  intro a
  unfold Ffj_la_F
  repeat first|exact f_const|exact f_self|refine f_cond ?_ ?_|refine f_bindJ ?_ (fun _=>?_)|refine f_bindL ?_ (fun _=>?_)|refine f_bind ?_ (fun _=>?_)|refine f_letJ (fun _=>?_)
theorem Ffj_la_eq (c_1 : Contract)  (x : Int × (List Str)) : Ffj_la c_1 x=Ffj_la_F c_1 (Ffj_la c_1) x:=fix_eq (Ffj_la_fin c_1) x
noncomputable def Ffj (c_1 : Contract) : Option ((List Str)) :=
  bindJ (ρ:=(List Str)) (Ffj_la c_1 (0,[])) fun u6 : (List Str)=>(Ffo u6).bind fun r7=>some r7
noncomputable def Ffc_la_F (c_1 : Contract)  (self : Int→Option (Bool ⊕ Unit)) (x4 : Int) : Option (Bool ⊕ Unit) :=
  bif (decide (x4 < (len c_1.Clauses))) then ((Ffl c_1 x4).bind fun r5=>bif (!r5) then (some (.inl false)) else (self (w64 (x4 + 1)))) else (some (.inr ()))
noncomputable def Ffc_la (c_1 : Contract)  : Int→Option (Bool ⊕ Unit):=fixO (Ffc_la_F c_1)
theorem Ffc_la_fin (c_1 : Contract)  : ∀ a,Fin1 fun f=>Ffc_la_F c_1 f a:=by
  intro a
  unfold Ffc_la_F
  repeat first|exact f_const|exact f_self|refine f_cond ?_ ?_|refine f_bindJ ?_ (fun _=>?_)|refine f_bindL ?_ (fun _=>?_)|refine f_bind ?_ (fun _=>?_)|refine f_letJ (fun _=>?_)
theorem Ffc_la_eq (c_1 : Contract)  (x : Int) : Ffc_la c_1 x=Ffc_la_F c_1 (Ffc_la c_1) x:=fix_eq (Ffc_la_fin c_1) x
noncomputable def Ffc (c_1 : Contract) : Option Bool :=
  (Fff c_1.Parties).bind fun r2=>bindJ (ρ:=Bool) (bif (!r2) then (some (.inr true)) else ((Ffp (len c_1.Clauses) 1 12).bind fun r8=>some (.inr (!r8)))) fun u3 : Bool=>bif u3 then (some false) else (bindJ (ρ:=Bool) (Ffc_la c_1 0) fun u6 : Unit=>(Ffj c_1).bind fun r7=>some (decide ((len r7) ≤ 16)))
noncomputable def Ffn_la_F (c_1 : Contract) (trace_2 : List Entry)  (self : Int→Option (Bool ⊕ Unit)) (x5 : Int) : Option (Bool ⊕ Unit) :=
  bif (decide (x5 < (len trace_2))) then ((getI trace_2 x5).bind fun e6=>(Ffm e6.Day).bind fun r7=>bindL (ρ:=Bool) (bif (!r7) then (some (.inr true)) else (bindL (ρ:=Bool) (bif (decide (x5 > 0)) then ((getI trace_2 (w64 (x5 - 1))).bind fun e12=>bindL (ρ:=Bool) (bif (decide (e6.Day < e12.Day)) then (some (.inr true)) else ((Ffp e6.Kind 1 7).bind fun r14=>bindL (ρ:=Bool) (bif (!r14) then (some (.inr true)) else ((Ffp e6.Party 0 (w64 ((len c_1.Parties) - 1))).bind fun r16=>some (.inr (!r16)))) fun u15 : Bool=>some (.inr u15))) fun u13 : Bool=>some (.inr u13)) else ((Ffp e6.Kind 1 7).bind fun r17=>bindL (ρ:=Bool) (bif (!r17) then (some (.inr true)) else ((Ffp e6.Party 0 (w64 ((len c_1.Parties) - 1))).bind fun r19=>some (.inr (!r19)))) fun u18 : Bool=>some (.inr u18))) fun u11 : Bool=>some (.inr u11))) fun u8 : Bool=>bif u8 then (some (.inl false)) else (bindL (ρ:=Bool) (bif (decide (e6.Kind ≥ 6)) then (bif (e6.Clause != (-1)) then (some (.inl false)) else (some (.inr ()))) else ((Ffp e6.Clause 0 (w64 ((len c_1.Clauses) - 1))).bind fun r10=>bif (!r10) then (some (.inl false)) else (some (.inr ())))) fun u9 : Unit=>self (w64 (x5 + 1)))) else (some (.inr ()))
noncomputable def Ffn_la (c_1 : Contract) (trace_2 : List Entry)  : Int→Option (Bool ⊕ Unit):=fixO (Ffn_la_F c_1 trace_2)
theorem Ffn_la_fin (c_1 : Contract) (trace_2 : List Entry)  : ∀ a,Fin1 fun f=>Ffn_la_F c_1 trace_2 f a:=by
  intro a
  unfold Ffn_la_F
  repeat first|exact f_const|exact f_self|refine f_cond ?_ ?_|refine f_bindJ ?_ (fun _=>?_)|refine f_bindL ?_ (fun _=>?_)|refine f_bind ?_ (fun _=>?_)|refine f_letJ (fun _=>?_)
theorem Ffn_la_eq (c_1 : Contract) (trace_2 : List Entry)  (x : Int) : Ffn_la c_1 trace_2 x=Ffn_la_F c_1 trace_2 (Ffn_la c_1 trace_2) x:=fix_eq (Ffn_la_fin c_1 trace_2) x
noncomputable def Ffn (c_1 : Contract) (trace_2 : List Entry) : Option Bool :=
  (Ffc c_1).bind fun r3=>letJ (bif (!r3) then (true) else ((decide ((len trace_2) > 200)))) fun u4 : Bool=>bif u4 then (some false) else (bindJ (ρ:=Bool) (Ffn_la c_1 trace_2 0) fun u20 : Unit=>some true)
noncomputable def Ffk (x_1 : Entry) : Option Bool :=
  letJ (bif (x_1.Kind == 2) then (true) else ((x_1.Kind == 4))) fun u2 : Bool=>some u2
noncomputable def Ffby_la_F (s_1 : List Entry) (f_2 : Unit)  (self : Int→Option (Int ⊕ Unit)) (x3 : Int) : Option (Int ⊕ Unit) :=
  bif (decide (x3 < (len s_1))) then ((getI s_1 x3).bind fun e4=>(Ffk e4).bind fun r5=>bif r5 then (some (.inl x3)) else (self (w64 (x3 + 1)))) else (some (.inr ()))
noncomputable def Ffby_la (s_1 : List Entry) (f_2 : Unit)  : Int→Option (Int ⊕ Unit):=fixO (Ffby_la_F s_1 f_2)
theorem Ffby_la_fin (s_1 : List Entry) (f_2 : Unit)  : ∀ a,Fin1 fun f=>Ffby_la_F s_1 f_2 f a:=by
  intro a
  unfold Ffby_la_F
  repeat first|exact f_const|exact f_self|refine f_cond ?_ ?_|refine f_bindJ ?_ (fun _=>?_)|refine f_bindL ?_ (fun _=>?_)|refine f_bind ?_ (fun _=>?_)|refine f_letJ (fun _=>?_)
theorem Ffby_la_eq (s_1 : List Entry) (f_2 : Unit)  (x : Int) : Ffby_la s_1 f_2 x=Ffby_la_F s_1 f_2 (Ffby_la s_1 f_2) x:=fix_eq (Ffby_la_fin s_1 f_2) x
noncomputable def Ffby (s_1 : List Entry) (f_2 : Unit) : Option Int :=
  bindJ (ρ:=Int) (Ffby_la s_1 f_2 0) fun u6 : Unit=>some (-1)
noncomputable def Ffa (c_1 : Contract) (trace_2 : List Entry) : Option (Int × Bool) :=
  (Ffn c_1 trace_2).bind fun r3=>bif (!r3) then (some (0,false)) else ((Ffby trace_2 ()).bind fun r4=>some (r4,true))
noncomputable def Ffba_la_F (a_1 : List Str) (b_2 : List Str)  (self : Int→Option (Bool ⊕ Unit)) (x3 : Int) : Option (Bool ⊕ Unit) :=
  bif (decide (x3 < (len a_1))) then ((getI a_1 x3).bind fun e4=>(getI b_2 x3).bind fun e5=>bif (!(e4 == e5)) then (some (.inl false)) else (self (w64 (x3 + 1)))) else (some (.inr ()))
noncomputable def Ffba_la (a_1 : List Str) (b_2 : List Str)  : Int→Option (Bool ⊕ Unit):=fixO (Ffba_la_F a_1 b_2)
theorem Ffba_la_fin (a_1 : List Str) (b_2 : List Str)  : ∀ a,Fin1 fun f=>Ffba_la_F a_1 b_2 f a:=by
  intro a
  unfold Ffba_la_F
  repeat first|exact f_const|exact f_self|refine f_cond ?_ ?_|refine f_bindJ ?_ (fun _=>?_)|refine f_bindL ?_ (fun _=>?_)|refine f_bind ?_ (fun _=>?_)|refine f_letJ (fun _=>?_)
theorem Ffba_la_eq (a_1 : List Str) (b_2 : List Str)  (x : Int) : Ffba_la a_1 b_2 x=Ffba_la_F a_1 b_2 (Ffba_la a_1 b_2) x:=fix_eq (Ffba_la_fin a_1 b_2) x
noncomputable def Ffba (a_1 : List Str) (b_2 : List Str) : Option Bool :=
  bif ((len a_1) != (len b_2)) then (some false) else (bindJ (ρ:=Bool) (Ffba_la a_1 b_2 0) fun u6 : Unit=>some true)
noncomputable def Ffw_la_F (slf_Ffu : (Condition × Condition)→Option Bool) (a_1 : List Condition) (b_2 : List Condition)  (self : Int→Option (Bool ⊕ Unit)) (x3 : Int) : Option (Bool ⊕ Unit) :=
  bif (decide (x3 < (len a_1))) then ((getI a_1 x3).bind fun e4=>(getI b_2 x3).bind fun e5=>(slf_Ffu (e4,e5)).bind fun r6=>bif (!r6) then (some (.inl false)) else (self (w64 (x3 + 1)))) else (some (.inr ()))
noncomputable def Ffw_la (slf_Ffu : (Condition × Condition)→Option Bool) (a_1 : List Condition) (b_2 : List Condition)  : Int→Option (Bool ⊕ Unit):=fixO (Ffw_la_F slf_Ffu a_1 b_2)
theorem Ffw_la_fin (slf_Ffu : (Condition × Condition)→Option Bool) (a_1 : List Condition) (b_2 : List Condition)  : ∀ a,Fin1 fun f=>Ffw_la_F slf_Ffu a_1 b_2 f a:=by
  intro a
  unfold Ffw_la_F
  repeat first|exact f_const|exact f_self|refine f_cond ?_ ?_|refine f_bindJ ?_ (fun _=>?_)|refine f_bindL ?_ (fun _=>?_)|refine f_bind ?_ (fun _=>?_)|refine f_letJ (fun _=>?_)
theorem Ffw_la_eq (slf_Ffu : (Condition × Condition)→Option Bool) (a_1 : List Condition) (b_2 : List Condition)  (x : Int) : Ffw_la slf_Ffu a_1 b_2 x=Ffw_la_F slf_Ffu a_1 b_2 (Ffw_la slf_Ffu a_1 b_2) x:=fix_eq (Ffw_la_fin slf_Ffu a_1 b_2) x
noncomputable def Ffw (slf_Ffu : (Condition × Condition)→Option Bool) (a_1 : List Condition) (b_2 : List Condition) : Option Bool :=
  bif ((len a_1) != (len b_2)) then (some false) else (bindJ (ρ:=Bool) (Ffw_la slf_Ffu a_1 b_2 0) fun u7 : Unit=>some true)
noncomputable def Ffu_B (slf_Ffu : (Condition × Condition)→Option Bool) (a_1 : Condition) (b_2 : Condition) : Option Bool :=
  bif (a_1.Op != b_2.Op) then (some false) else (bif (!(a_1.Name == b_2.Name)) then (some false) else (bif (a_1.Day != b_2.Day) then (some false) else ((Ffw slf_Ffu a_1.Parts b_2.Parts).bind fun r3=>bif (!r3) then (some false) else (some true))))
noncomputable def Ffu_G (slf_Ffu : (Condition × Condition)→Option Bool) (x : Condition × Condition) : Option Bool:=Ffu_B slf_Ffu x.1 x.2
noncomputable def Ffu (a_1 : Condition) (b_2 : Condition) : Option Bool:=fixO Ffu_G (a_1,b_2)
theorem Ffu_fin : ∀ x,Fin1 fun slf_Ffu=>Ffu_G slf_Ffu x:=by
  intro x
  unfold Ffu_G Ffu_B
  repeat first|exact f_const|exact f_self|exact f_selfL|exact f_selfR|exact f_selfLL|exact f_selfRL|exact f_selfLLL|exact f_selfRLL|refine f_cond ?_ ?_|refine f_bindJ ?_ (fun _=>?_)|refine f_bindL ?_ (fun _=>?_)|refine f_bind ?_ (fun _=>?_)|refine f_letJ (fun _=>?_)|refine f_fix (fun _=>?_) | unfold Ffw | unfold Ffw_la | unfold Ffw_la_F
theorem Ffu_eq (a_1 : Condition) (b_2 : Condition) : Ffu a_1 b_2=Ffu_B (fixO Ffu_G) a_1 b_2:=fix_eq Ffu_fin (a_1,b_2)
noncomputable def Ffv (a_1 : List Condition) (b_2 : List Condition) : Option Bool:=Ffw (fixO Ffu_G) a_1 b_2
noncomputable def Ffs (a_1 : Clause) (b_2 : Clause) : Option Bool :=
  bif (!(a_1.Id == b_2.Id)) then (some false) else (bif (a_1.Kind != b_2.Kind) then (some false) else (bif (a_1.Party != b_2.Party) then (some false) else (bif (!(a_1.Action == b_2.Action)) then (some false) else (bif (a_1.Other != b_2.Other) then (some false) else (bif (a_1.Amount != b_2.Amount) then (some false) else ((Ffu a_1.When b_2.When).bind fun r3=>bif (!r3) then (some false) else (bif (a_1.Within != b_2.Within) then (some false) else (bif (!(a_1.Repair == b_2.Repair)) then (some false) else (some true)))))))))
noncomputable def Fft_la_F (a_1 : List Clause) (b_2 : List Clause)  (self : Int→Option (Bool ⊕ Unit)) (x3 : Int) : Option (Bool ⊕ Unit) :=
  bif (decide (x3 < (len a_1))) then ((getI a_1 x3).bind fun e4=>(getI b_2 x3).bind fun e5=>(Ffs e4 e5).bind fun r6=>bif (!r6) then (some (.inl false)) else (self (w64 (x3 + 1)))) else (some (.inr ()))
noncomputable def Fft_la (a_1 : List Clause) (b_2 : List Clause)  : Int→Option (Bool ⊕ Unit):=fixO (Fft_la_F a_1 b_2)
theorem Fft_la_fin (a_1 : List Clause) (b_2 : List Clause)  : ∀ a,Fin1 fun f=>Fft_la_F a_1 b_2 f a:=by
  intro a
  unfold Fft_la_F
  repeat first|exact f_const|exact f_self|refine f_cond ?_ ?_|refine f_bindJ ?_ (fun _=>?_)|refine f_bindL ?_ (fun _=>?_)|refine f_bind ?_ (fun _=>?_)|refine f_letJ (fun _=>?_)
theorem Fft_la_eq (a_1 : List Clause) (b_2 : List Clause)  (x : Int) : Fft_la a_1 b_2 x=Fft_la_F a_1 b_2 (Fft_la a_1 b_2) x:=fix_eq (Fft_la_fin a_1 b_2) x
noncomputable def Fft (a_1 : List Clause) (b_2 : List Clause) : Option Bool :=
  bif ((len a_1) != (len b_2)) then (some false) else (bindJ (ρ:=Bool) (Fft_la a_1 b_2 0) fun u7 : Unit=>some true)
noncomputable def Ffx (a_1 : Contract) (b_2 : Contract) : Option Bool :=
  (Ffba a_1.Parties b_2.Parties).bind fun r3=>bif (!r3) then (some false) else ((Fft a_1.Clauses b_2.Clauses).bind fun r4=>bif (!r4) then (some false) else (some true))
noncomputable def Ffy (a_1 : Entry) (b_2 : Entry) : Option Bool :=
  bif (a_1.Day != b_2.Day) then (some false) else (bif (a_1.Kind != b_2.Kind) then (some false) else (bif (a_1.Clause != b_2.Clause) then (some false) else (bif (a_1.Party != b_2.Party) then (some false) else (some true))))
noncomputable def Ffz_la_F (a_1 : List Entry) (b_2 : List Entry)  (self : Int→Option (Bool ⊕ Unit)) (x3 : Int) : Option (Bool ⊕ Unit) :=
  bif (decide (x3 < (len a_1))) then ((getI a_1 x3).bind fun e4=>(getI b_2 x3).bind fun e5=>(Ffy e4 e5).bind fun r6=>bif (!r6) then (some (.inl false)) else (self (w64 (x3 + 1)))) else (some (.inr ()))
noncomputable def Ffz_la (a_1 : List Entry) (b_2 : List Entry)  : Int→Option (Bool ⊕ Unit):=fixO (Ffz_la_F a_1 b_2)
theorem Ffz_la_fin (a_1 : List Entry) (b_2 : List Entry)  : ∀ a,Fin1 fun f=>Ffz_la_F a_1 b_2 f a:=by
  intro a
  unfold Ffz_la_F
  repeat first|exact f_const|exact f_self|refine f_cond ?_ ?_|refine f_bindJ ?_ (fun _=>?_)|refine f_bindL ?_ (fun _=>?_)|refine f_bind ?_ (fun _=>?_)|refine f_letJ (fun _=>?_)
theorem Ffz_la_eq (a_1 : List Entry) (b_2 : List Entry)  (x : Int) : Ffz_la a_1 b_2 x=Ffz_la_F a_1 b_2 (Ffz_la a_1 b_2) x:=fix_eq (Ffz_la_fin a_1 b_2) x
noncomputable def Ffz (a_1 : List Entry) (b_2 : List Entry) : Option Bool :=
  bif ((len a_1) != (len b_2)) then (some false) else (bindJ (ρ:=Bool) (Ffz_la a_1 b_2 0) fun u7 : Unit=>some true)
noncomputable def laws_FnExactFirstBreach (aC_1 : Contract) (aTrace_2 : List Entry) : Option Bool :=
  (Ffbg aC_1 1048576).bind fun r3=>bif (decide (r3 < 0)) then (some true) else ((Ffbh aTrace_2 r3).bind fun r4=>bif (decide (r4 < 0)) then (some true) else ((Ffbo aC_1).bind fun r5=>(Ffbq aTrace_2).bind fun r6=>(Ffca r5 r6).bind fun r7=>(Ffbo aC_1).bind fun r8=>(Ffbq aTrace_2).bind fun r9=>(Ffa r8 r9).bind fun r10=>letJ (bif (r10.1 != r7.1) then (true) else ((!(r10.2 == r7.2)))) fun u11 : Bool=>bif u11 then (some false) else ((Ffbo aC_1).bind fun r12=>(Ffx r8 r12).bind fun r13=>bif (!r13) then (some false) else ((Ffbq aTrace_2).bind fun r14=>(Ffz r9 r14).bind fun r15=>bif (!r15) then (some false) else (some true)))))
end Go.Ln
