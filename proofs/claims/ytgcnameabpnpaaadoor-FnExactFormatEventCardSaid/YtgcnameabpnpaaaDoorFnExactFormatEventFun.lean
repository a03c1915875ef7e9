/-
  What each function of the law computes, as a plain function.
-/
import Derived.Test.YtgcnameabpnpaaaDoorLnD
set_option maxHeartbeats 4000000
set_option linter.unusedVariables false
set_option linter.unusedSimpArgs false
set_option maxRecDepth 100000
namespace Go.Ln
open Go
structure Event where
  Day : Int
  Party : Int
  Action : Str
  Amount : Int
def enc_Event (x : Event) : V:=.agg [I (x.Day),I (x.Party),str (x.Action),I (x.Amount)]
theorem enc_Event_cells (x : Event) : (cells (enc_Event x)).length=4 ∧ (cells (enc_Event x)).all cellV=true:=⟨rfl,rfl⟩
theorem enc_Event_imm (x : Event) : imm (enc_Event x)=enc_Event x:=rfl
theorem enc_Event_himm (x : Event) : hasImm (enc_Event x)=false:=rfl
theorem enc_Event_flat (x : Event) : flatE (enc_Event x)=true:=rfl
theorem enc_Event_inj (a b : Event) (h : enc_Event a=enc_Event b) : a=b:=by
  obtain ⟨p0,p1,p2,p3⟩:=a
  obtain ⟨q0,q1,q2,q3⟩:=b
  replace h:=V.agg.inj h
  obtain ⟨h0,h⟩:=List.cons.inj h
  obtain rfl:=I_inj p0 q0 h0
  obtain ⟨h1,h⟩:=List.cons.inj h
  obtain rfl:=I_inj p1 q1 h1
  obtain ⟨h2,h⟩:=List.cons.inj h
  obtain rfl:=str_inj p2 q2 h2
  obtain ⟨h3,h⟩:=List.cons.inj h
  obtain rfl:=I_inj p3 q3 h3
  rfl
structure Condition where
  Op : Int
  Name : Str
  Day : Int
  Parts : List Condition
mutual
def encI_Condition : Condition→V
  | ⟨a0,a1,a2,a3⟩=>.agg [I (a0),str (a1),I (a2),.isl false (encI_Conditions a3)]
def encI_Conditions : List Condition→List V
  | []=>[]
  | x :: xs=>encI_Condition x :: encI_Conditions xs
end
theorem encI_Conditions_map : ∀ xs,encI_Conditions xs=xs.map encI_Condition
  | []=>by simp [encI_Conditions]
  | x :: xs=>by simp [encI_Conditions,encI_Conditions_map xs]
def encI_Condition1 (x : Condition) : V:=.agg [I (x.Op),str (x.Name),I (x.Day),.isl false ((x.Parts).map encI_Condition)]
theorem encI_Condition_eq (x : Condition) : encI_Condition x=encI_Condition1 x:=by cases x; simp only [encI_Condition,encI_Condition1,encI_Conditions_map]
theorem encI_Condition_cells (x : Condition) : (cells (encI_Condition x)).length=4 ∧ (cells (encI_Condition x)).all cellV=true:=by rw [encI_Condition_eq]; exact ⟨rfl,rfl⟩
mutual
theorem encI_Condition_inj : ∀ (a b : Condition),encI_Condition a=encI_Condition b→a=b
  | ⟨a0,a1,a2,a3⟩,⟨b0,b1,b2,b3⟩,h=>by
    simp only [encI_Condition] at h
    have k0:=V.agg.inj h
    obtain ⟨h0,k1⟩:=List.cons.inj k0
    obtain rfl:=I_inj a0 b0 h0
    obtain ⟨h1,k2⟩:=List.cons.inj k1
    obtain rfl:=str_inj a1 b1 h1
    obtain ⟨h2,k3⟩:=List.cons.inj k2
    obtain rfl:=I_inj a2 b2 h2
    obtain ⟨h3,k4⟩:=List.cons.inj k3
    have e3 : encI_Conditions a3=encI_Conditions b3:=by simpa using h3
    obtain rfl:=encI_Conditions_inj a3 b3 e3
    rfl
theorem encI_Conditions_inj : ∀ (a b : List Condition),encI_Conditions a=encI_Conditions b→a=b
  | [],[],_=>rfl
  | [],_ :: _,h=>by simp [encI_Conditions] at h
  | _ :: _,[],h=>by simp [encI_Conditions] at h
  | x :: xs,y :: ys,h=>by
    simp only [encI_Conditions,List.cons.injEq] at h
    rw [encI_Condition_inj x y h.1,encI_Conditions_inj xs ys h.2]
end
theorem encI_Condition1_inj (a b : Condition) (h : encI_Condition1 a=encI_Condition1 b) : a=b:=encI_Condition_inj a b (by rw [encI_Condition_eq,encI_Condition_eq,h])
mutual
def encO_Condition : Condition→V
  | ⟨a0,a1,a2,a3⟩=>.agg [I (a0),str (a1),I (a2),.usl 4 (encO_Conditions a3)]
def encO_Conditions : List Condition→List V
  | []=>[]
  | x :: xs=>encO_Condition x :: encO_Conditions xs
end
theorem encO_Conditions_map : ∀ xs,encO_Conditions xs=xs.map encO_Condition
  | []=>by simp [encO_Conditions]
  | x :: xs=>by simp [encO_Conditions,encO_Conditions_map xs]
def encO_Condition1 (x : Condition) : V:=.agg [I (x.Op),str (x.Name),I (x.Day),.usl 4 ((x.Parts).map encO_Condition)]
theorem encO_Condition_eq (x : Condition) : encO_Condition x=encO_Condition1 x:=by cases x; simp only [encO_Condition,encO_Condition1,encO_Conditions_map]
theorem encO_Condition_cells (x : Condition) : (cells (encO_Condition x)).length=4 ∧ (cells (encO_Condition x)).all cellV=true:=by rw [encO_Condition_eq]; exact ⟨rfl,rfl⟩
mutual
theorem encO_Condition_inj : ∀ (a b : Condition),encO_Condition a=encO_Condition b→a=b
  | ⟨a0,a1,a2,a3⟩,⟨b0,b1,b2,b3⟩,h=>by
    simp only [encO_Condition] at h
    have k0:=V.agg.inj h
    obtain ⟨h0,k1⟩:=List.cons.inj k0
    obtain rfl:=I_inj a0 b0 h0
    obtain ⟨h1,k2⟩:=List.cons.inj k1
    obtain rfl:=str_inj a1 b1 h1
    obtain ⟨h2,k3⟩:=List.cons.inj k2
    obtain rfl:=I_inj a2 b2 h2
    obtain ⟨h3,k4⟩:=List.cons.inj k3
    have e3 : encO_Conditions a3=encO_Conditions b3:=by simpa using h3
    obtain rfl:=encO_Conditions_inj a3 b3 e3
    rfl
theorem encO_Conditions_inj : ∀ (a b : List Condition),encO_Conditions a=encO_Conditions b→a=b
  | [],[],_=>rfl
  | [],_ :: _,h=>by simp [encO_Conditions] at h
  | _ :: _,[],h=>by simp [encO_Conditions] at h
  | x :: xs,y :: ys,h=>by
    simp only [encO_Conditions,List.cons.injEq] at h
    rw [encO_Condition_inj x y h.1,encO_Conditions_inj xs ys h.2]
end
theorem encO_Condition1_inj (a b : Condition) (h : encO_Condition1 a=encO_Condition1 b) : a=b:=encO_Condition_inj a b (by rw [encO_Condition_eq,encO_Condition_eq,h])
theorem encI_Condition_imm (x : Condition) : imm (encI_Condition x)=encI_Condition x:=by rw [encI_Condition_eq]; rfl
mutual
theorem encO_Condition_imm : ∀ x : Condition,imm (encO_Condition x)=encI_Condition x
  | ⟨a0,a1,a2,a3⟩=>by simp [encO_Condition,encI_Condition,imm,imms,str,encO_Conditions_imm]
theorem encO_Conditions_imm : ∀ xs : List Condition,imms (encO_Conditions xs)=encI_Conditions xs
  | []=>by simp [encO_Conditions,encI_Conditions,imms]
  | x :: xs=>by simp [encO_Conditions,encI_Conditions,imms,encO_Condition_imm x,encO_Conditions_imm xs]
end
mutual
theorem encO_Condition_himm : ∀ x : Condition,hasImm (encO_Condition x)=false
  | ⟨a0,a1,a2,a3⟩=>by simp [encO_Condition,hasImm,hasImms,str,encO_Conditions_himm]
theorem encO_Conditions_himm : ∀ xs : List Condition,hasImms (encO_Conditions xs)=false
  | []=>by simp [encO_Conditions,hasImms]
  | x :: xs=>by simp [encO_Conditions,hasImms,encO_Condition_himm x,encO_Conditions_himm xs]
end
structure Clause where
  Id : Str
  Kind : Int
  Party : Int
  Action : Str
  Other : Int
  Amount : Int
  When : Condition
  Within : Int
  Repair : Str
def encI_Clause (x : Clause) : V:=.agg [str (x.Id),I (x.Kind),I (x.Party),str (x.Action),I (x.Other),I (x.Amount),I (x.When.Op),str (x.When.Name),I (x.When.Day),.isl false ((x.When.Parts).map encI_Condition),I (x.Within),str (x.Repair)]
theorem encI_Clause_cells (x : Clause) : (cells (encI_Clause x)).length=12 ∧ (cells (encI_Clause x)).all cellV=true:=⟨rfl,rfl⟩
theorem encI_Clause_imm (x : Clause) : imm (encI_Clause x)=encI_Clause x:=rfl
theorem encI_Clause_inj (a b : Clause) (h : encI_Clause a=encI_Clause b) : a=b:=by
  obtain ⟨p0,p1,p2,p3,p4,p5,⟨p6,p7,p8,p9⟩,p10,p11⟩:=a
  obtain ⟨q0,q1,q2,q3,q4,q5,⟨q6,q7,q8,q9⟩,q10,q11⟩:=b
  replace h:=V.agg.inj h
  obtain ⟨h0,h⟩:=List.cons.inj h
  obtain rfl:=str_inj p0 q0 h0
  obtain ⟨h1,h⟩:=List.cons.inj h
  obtain rfl:=I_inj p1 q1 h1
  obtain ⟨h2,h⟩:=List.cons.inj h
  obtain rfl:=I_inj p2 q2 h2
  obtain ⟨h3,h⟩:=List.cons.inj h
  obtain rfl:=str_inj p3 q3 h3
  obtain ⟨h4,h⟩:=List.cons.inj h
  obtain rfl:=I_inj p4 q4 h4
  obtain ⟨h5,h⟩:=List.cons.inj h
  obtain rfl:=I_inj p5 q5 h5
  obtain ⟨h6,h⟩:=List.cons.inj h
  obtain rfl:=I_inj p6 q6 h6
  obtain ⟨h7,h⟩:=List.cons.inj h
  obtain rfl:=str_inj p7 q7 h7
  obtain ⟨h8,h⟩:=List.cons.inj h
  obtain rfl:=I_inj p8 q8 h8
  obtain ⟨h9,h⟩:=List.cons.inj h
  obtain rfl:=(isl_inj encI_Condition_inj) p9 q9 h9
  obtain ⟨h10,h⟩:=List.cons.inj h
  obtain rfl:=I_inj p10 q10 h10
  obtain ⟨h11,h⟩:=List.cons.inj h
  obtain rfl:=str_inj p11 q11 h11
  rfl
def encO_Clause (x : Clause) : V:=.agg [str (x.Id),I (x.Kind),I (x.Party),str (x.Action),I (x.Other),I (x.Amount),I (x.When.Op),str (x.When.Name),I (x.When.Day),.usl 4 ((x.When.Parts).map encO_Condition),I (x.Within),str (x.Repair)]
theorem encO_Clause_cells (x : Clause) : (cells (encO_Clause x)).length=12 ∧ (cells (encO_Clause x)).all cellV=true:=⟨rfl,rfl⟩
theorem encO_Clause_imm (x : Clause) : imm (encO_Clause x)=encI_Clause x:=imm_a (imms_c (rfl) (imms_c (rfl) (imms_c (rfl) (imms_c (rfl) (imms_c (rfl) (imms_c (rfl) (imms_c (rfl) (imms_c (rfl) (imms_c (rfl) (imms_c (imm_u (imms_of encO_Condition_imm)) (imms_c (rfl) (imms_c (rfl) (rfl)))))))))))))
theorem encO_Clause_himm (x : Clause) : hasImm (encO_Clause x)=false:=by simp [encO_Clause,hasImm,hasImms,str,himm_map (f:=encO_Condition) encO_Condition_himm]
theorem encO_Clause_inj (a b : Clause) (h : encO_Clause a=encO_Clause b) : a=b:=by
  obtain ⟨p0,p1,p2,p3,p4,p5,⟨p6,p7,p8,p9⟩,p10,p11⟩:=a
  obtain ⟨q0,q1,q2,q3,q4,q5,⟨q6,q7,q8,q9⟩,q10,q11⟩:=b
  replace h:=V.agg.inj h
  obtain ⟨h0,h⟩:=List.cons.inj h
  obtain rfl:=str_inj p0 q0 h0
  obtain ⟨h1,h⟩:=List.cons.inj h
  obtain rfl:=I_inj p1 q1 h1
  obtain ⟨h2,h⟩:=List.cons.inj h
  obtain rfl:=I_inj p2 q2 h2
  obtain ⟨h3,h⟩:=List.cons.inj h
  obtain rfl:=str_inj p3 q3 h3
  obtain ⟨h4,h⟩:=List.cons.inj h
  obtain rfl:=I_inj p4 q4 h4
  obtain ⟨h5,h⟩:=List.cons.inj h
  obtain rfl:=I_inj p5 q5 h5
  obtain ⟨h6,h⟩:=List.cons.inj h
  obtain rfl:=I_inj p6 q6 h6
  obtain ⟨h7,h⟩:=List.cons.inj h
  obtain rfl:=str_inj p7 q7 h7
  obtain ⟨h8,h⟩:=List.cons.inj h
  obtain rfl:=I_inj p8 q8 h8
  obtain ⟨h9,h⟩:=List.cons.inj h
  obtain rfl:=(usl_inj encO_Condition_inj) p9 q9 h9
  obtain ⟨h10,h⟩:=List.cons.inj h
  obtain rfl:=I_inj p10 q10 h10
  obtain ⟨h11,h⟩:=List.cons.inj h
  obtain rfl:=str_inj p11 q11 h11
  rfl
structure Contract where
  Parties : List Str
  Clauses : List Clause
def encI_Contract (x : Contract) : V:=.agg [.isl false ((x.Parties).map str),.isl false ((x.Clauses).map encI_Clause)]
theorem encI_Contract_cells (x : Contract) : (cells (encI_Contract x)).length=2 ∧ (cells (encI_Contract x)).all cellV=true:=⟨rfl,rfl⟩
theorem encI_Contract_imm (x : Contract) : imm (encI_Contract x)=encI_Contract x:=rfl
theorem encI_Contract_inj (a b : Contract) (h : encI_Contract a=encI_Contract b) : a=b:=by
  obtain ⟨p0,p1⟩:=a
  obtain ⟨q0,q1⟩:=b
  replace h:=V.agg.inj h
  obtain ⟨h0,h⟩:=List.cons.inj h
  obtain rfl:=(isl_inj str_inj) p0 q0 h0
  obtain ⟨h1,h⟩:=List.cons.inj h
  obtain rfl:=(isl_inj encI_Clause_inj) p1 q1 h1
  rfl
def encO_Contract (x : Contract) : V:=.agg [.usl 1 ((x.Parties).map str),.usl 12 ((x.Clauses).map encO_Clause)]
theorem encO_Contract_cells (x : Contract) : (cells (encO_Contract x)).length=2 ∧ (cells (encO_Contract x)).all cellV=true:=⟨rfl,rfl⟩
theorem encO_Contract_imm (x : Contract) : imm (encO_Contract x)=encI_Contract x:=imm_a (imms_c (imm_u (imms_of str_imm)) (imms_c (imm_u (imms_of encO_Clause_imm)) (rfl)))
theorem encO_Contract_himm (x : Contract) : hasImm (encO_Contract x)=false:=by simp [encO_Contract,hasImm,hasImms,str,himm_map (f:=str) str_himm,himm_map (f:=encO_Clause) encO_Clause_himm]
theorem encO_Contract_inj (a b : Contract) (h : encO_Contract a=encO_Contract b) : a=b:=by
  obtain ⟨p0,p1⟩:=a
  obtain ⟨q0,q1⟩:=b
  replace h:=V.agg.inj h
  obtain ⟨h0,h⟩:=List.cons.inj h
  obtain rfl:=(usl_inj str_inj) p0 q0 h0
  obtain ⟨h1,h⟩:=List.cons.inj h
  obtain rfl:=(usl_inj encO_Clause_inj) p1 q1 h1
  rfl
structure Date where
  Year : Int
  Month : Int
  Day : Int
def enc_Date (x : Date) : V:=.agg [I (x.Year),I (x.Month),I (x.Day)]
theorem enc_Date_cells (x : Date) : (cells (enc_Date x)).length=3 ∧ (cells (enc_Date x)).all cellV=true:=⟨rfl,rfl⟩
theorem enc_Date_imm (x : Date) : imm (enc_Date x)=enc_Date x:=rfl
theorem enc_Date_himm (x : Date) : hasImm (enc_Date x)=false:=rfl
theorem enc_Date_flat (x : Date) : flatE (enc_Date x)=true:=rfl
theorem enc_Date_inj (a b : Date) (h : enc_Date a=enc_Date b) : a=b:=by
  obtain ⟨p0,p1,p2⟩:=a
  obtain ⟨q0,q1,q2⟩:=b
  replace h:=V.agg.inj h
  obtain ⟨h0,h⟩:=List.cons.inj h
  obtain rfl:=I_inj p0 q0 h0
  obtain ⟨h1,h⟩:=List.cons.inj h
  obtain rfl:=I_inj p1 q1 h1
  obtain ⟨h2,h⟩:=List.cons.inj h
  obtain rfl:=I_inj p2 q2 h2
  rfl
def ok_Event (x : Event) : Prop:=I64 x.Day ∧ I64 x.Party ∧ okS x.Action ∧ I64 x.Amount
noncomputable def Ffq (a_1 : Event) (left_2 : Int) : Option Int :=
  bif (decide ((w64 (left_2 - (len a_1.Action))) < 0)) then (some (-1)) else (some (w64 (left_2 - (len a_1.Action))))
noncomputable def Ffr_la_F (a_1 : List Str) (left_2 : Int)  (self : (Int × Int)→Option (Int ⊕ Int)) (x3 : Int × Int) : Option (Int ⊕ Int) :=
  bif (decide (x3.2 < (len a_1))) then ((getI a_1 x3.2).bind fun e4=>bif (decide ((w64 (x3.1 - (len e4))) < 0)) then (some (.inl (-1))) else (self ((w64 (x3.1 - (len e4))),(w64 (x3.2 + 1))))) else (some (.inr x3.1))
noncomputable def Ffr_la (a_1 : List Str) (left_2 : Int)  : (Int × Int)→Option (Int ⊕ Int):=fixO (Ffr_la_F a_1 left_2)
theorem Ffr_la_fin (a_1 : List Str) (left_2 : Int)  : ∀ a,Fin1 fun f=>Ffr_la_F a_1 left_2 f a:=by
  intro a
  unfold Ffr_la_F
  repeat first|exact f_const|exact f_self|refine f_cond ?_ ?_|refine f_bindJ ?_ (fun _=>?_)|refine f_bindL ?_ (fun _=>?_)|refine f_bind ?_ (fun _=>?_)|refine f_letJ (fun _=>?_)
theorem Ffr_la_eq (a_1 : List Str) (left_2 : Int)  (x : Int × Int) : Ffr_la a_1 left_2 x=Ffr_la_F a_1 left_2 (Ffr_la a_1 left_2) x:=fix_eq (Ffr_la_fin a_1 left_2) x
noncomputable def Ffr (a_1 : List Str) (left_2 : Int) : Option Int :=
  bif (decide ((w64 (left_2 - (len a_1))) < 0)) then (some (-1)) else (bindJ (ρ:=Int) (Ffr_la a_1 left_2 ((w64 (left_2 - (len a_1))),0)) fun u5 : Int=>some u5)
noncomputable def Ffs (a_1 : Event) : Option Event :=
  some a_1
noncomputable def Fft_la_F (a_1 : List Str)  (self : (Int × (List Str))→Option (((List Str)) ⊕ ((List Str)))) (x3 : Int × (List Str)) : Option (((List Str)) ⊕ ((List Str))) :=
  bif (decide (x3.1 < (len a_1))) then ((getI a_1 x3.1).bind fun e4=>(getI x3.2 x3.1).bind fun e5=>self ((w64 (x3.1 + 1)),(setI x3.2 x3.1 e4))) else (some (.inr x3.2))
noncomputable def Fft_la (a_1 : List Str)  : (Int × (List Str))→Option (((List Str)) ⊕ ((List Str))):=fixO (Fft_la_F a_1)
theorem Fft_la_fin (a_1 : List Str)  : ∀ a,Fin1 fun f=>Fft_la_F a_1 f a:=by
  intro a
  unfold Fft_la_F
  repeat first|exact f_const|exact f_self|refine f_cond ?_ ?_|refine f_bindJ ?_ (fun _=>?_)|refine f_bindL ?_ (fun _=>?_)|refine f_bind ?_ (fun _=>?_)|refine f_letJ (fun _=>?_)
theorem Fft_la_eq (a_1 : List Str)  (x : Int × (List Str)) : Fft_la a_1 x=Fft_la_F a_1 (Fft_la a_1) x:=fix_eq (Fft_la_fin a_1) x
noncomputable def Fft (a_1 : List Str) : Option ((List Str)) :=
  (mkI 16 [] (len a_1)).bind fun m2=>bindJ (ρ:=(List Str)) (Fft_la a_1 (0,m2)) fun u6 : (List Str)=>some u6
noncomputable def spec_l1In (x_1 : Int) (a_2 : Int) (b_3 : Int) : Option Bool :=
  letJ (bif (decide (x_1 ≥ a_2)) then ((decide (x_1 ≤ b_3))) else (false)) fun u4 : Bool=>some u4
noncomputable def Ffbh (b_1 : Int) : Option Bool :=
  letJ (bif (decide (b_1 ≥ 97)) then (letJ (bif (decide (b_1 ≤ 122)) then (true) else (letJ (bif (decide (b_1 ≥ 48)) then ((decide (b_1 ≤ 57))) else (false)) fun u4 : Bool=>u4)) fun u3 : Bool=>u3) else (letJ (bif (decide (b_1 ≥ 48)) then ((decide (b_1 ≤ 57))) else (false)) fun u5 : Bool=>u5)) fun u2 : Bool=>some u2
noncomputable def Ffbg_la_F (s_1 : Str)  (self : Int→Option (Bool ⊕ Unit)) (x4 : Int) : Option (Bool ⊕ Unit) :=
  bif (decide (x4 < (len s_1))) then ((getI s_1 x4).bind fun c5=>(Ffbh (c5.toNat : Int)).bind fun r6=>bif (!r6) then (some (.inl false)) else (self (w64 (x4 + 1)))) else (some (.inr ()))
noncomputable def Ffbg_la (s_1 : Str)  : Int→Option (Bool ⊕ Unit):=fixO (Ffbg_la_F s_1)
theorem Ffbg_la_fin (s_1 : Str)  : ∀ a,Fin1 fun f=>Ffbg_la_F s_1 f a:=by
  intro a
  unfold Ffbg_la_F
  repeat first|exact f_const|exact f_self|refine f_cond ?_ ?_|refine f_bindJ ?_ (fun _=>?_)|refine f_bindL ?_ (fun _=>?_)|refine f_bind ?_ (fun _=>?_)|refine f_letJ (fun _=>?_)
theorem Ffbg_la_eq (s_1 : Str)  (x : Int) : Ffbg_la s_1 x=Ffbg_la_F s_1 (Ffbg_la s_1) x:=fix_eq (Ffbg_la_fin s_1) x
noncomputable def Ffbg (s_1 : Str) : Option Bool :=
  (spec_l1In (len s_1) 1 8).bind fun r2=>bindJ (ρ:=Bool) (bif (!r2) then (some (.inr true)) else ((getI s_1 0).bind fun c16=>bindL (ρ:=Bool) (bif (decide ((c16.toNat : Int) < 97)) then (some (.inr true)) else ((getI s_1 0).bind fun c18=>some (.inr (decide ((c18.toNat : Int) > 122))))) fun u17 : Bool=>some (.inr u17))) fun u3 : Bool=>bif u3 then (some false) else (bindJ (ρ:=Bool) (Ffbg_la s_1 0) fun u7 : Unit=>letJ (bif (s_1 == ([116,114,117,101] : Str)) then ((s_1 == ([116,114,117,101] : Str))) else (letJ (bif (s_1 == ([102,114,111,109] : Str)) then ((s_1 == ([102,114,111,109] : Str))) else (letJ (bif (s_1 == ([110,111,116] : Str)) then ((s_1 == ([110,111,116] : Str))) else (letJ (bif (s_1 == ([97,110,100] : Str)) then ((s_1 == ([97,110,100] : Str))) else (letJ (bif (s_1 == ([111,114] : Str)) then ((s_1 == ([111,114] : Str))) else (letJ (bif (s_1 == ([98,111,116,104] : Str)) then ((s_1 == ([98,111,116,104] : Str))) else (letJ (bif (s_1 == ([101,105,116,104,101,114] : Str)) then ((s_1 == ([101,105,116,104,101,114] : Str))) else (letJ (bif (s_1 == ([105,116] : Str)) then ((s_1 == ([105,116] : Str))) else ((s_1 == ([105,110] : Str)))) fun u15 : Bool=>u15)) fun u14 : Bool=>u14)) fun u13 : Bool=>u13)) fun u12 : Bool=>u12)) fun u11 : Bool=>u11)) fun u10 : Bool=>u10)) fun u9 : Bool=>u9)) fun u8 : Bool=>bif u8 then (some false) else (some true))
noncomputable def Ffbf_la_F (list_1 : List Str) (name_2 : Str)  (self : Int→Option (Bool ⊕ Unit)) (x3 : Int) : Option (Bool ⊕ Unit) :=
  bif (decide (x3 < (len list_1))) then ((getI list_1 x3).bind fun e4=>bif (e4 == name_2) then (some (.inl true)) else (self (w64 (x3 + 1)))) else (some (.inr ()))
noncomputable def Ffbf_la (list_1 : List Str) (name_2 : Str)  : Int→Option (Bool ⊕ Unit):=fixO (Ffbf_la_F list_1 name_2)
theorem Ffbf_la_fin (list_1 : List Str) (name_2 : Str)  : ∀ a,Fin1 fun f=>Ffbf_la_F list_1 name_2 f a:=by
  intro a
  unfold Ffbf_la_F
  repeat first|exact f_const|exact f_self|refine f_cond ?_ ?_|refine f_bindJ ?_ (fun _=>?_)|refine f_bindL ?_ (fun _=>?_)|refine f_bind ?_ (fun _=>?_)|refine f_letJ (fun _=>?_)
theorem Ffbf_la_eq (list_1 : List Str) (name_2 : Str)  (x : Int) : Ffbf_la list_1 name_2 x=Ffbf_la_F list_1 name_2 (Ffbf_la list_1 name_2) x:=fix_eq (Ffbf_la_fin list_1 name_2) x
noncomputable def Ffbf (list_1 : List Str) (name_2 : Str) : Option Bool :=
  bindJ (ρ:=Bool) (Ffbf_la list_1 name_2 0) fun u5 : Unit=>some false
noncomputable def Ffbi_la_F (c_1 : Contract)  (self : Int→Option (Bool ⊕ Unit)) (x2 : Int) : Option (Bool ⊕ Unit) :=
  bif (decide (x2 < (len c_1.Parties))) then ((getI c_1.Parties x2).bind fun e3=>(Ffbg e3).bind fun r4=>bindL (ρ:=Bool) (bif (!r4) then (some (.inr true)) else ((subI c_1.Parties 0 x2).bind fun s6=>(getI c_1.Parties x2).bind fun e7=>(Ffbf s6 e7).bind fun r8=>some (.inr r8))) fun u5 : Bool=>bif u5 then (some (.inl false)) else (self (w64 (x2 + 1)))) else (some (.inr ()))
noncomputable def Ffbi_la (c_1 : Contract)  : Int→Option (Bool ⊕ Unit):=fixO (Ffbi_la_F c_1)
theorem Ffbi_la_fin (c_1 : Contract)  : ∀ a,Fin1 fun f=>Ffbi_la_F c_1 f a:=by
  intro a
  unfold Ffbi_la_F
  repeat first|exact f_const|exact f_self|refine f_cond ?_ ?_|refine f_bindJ ?_ (fun _=>?_)|refine f_bindL ?_ (fun _=>?_)|refine f_bind ?_ (fun _=>?_)|refine f_letJ (fun _=>?_)
theorem Ffbi_la_eq (c_1 : Contract)  (x : Int) : Ffbi_la c_1 x=Ffbi_la_F c_1 (Ffbi_la c_1) x:=fix_eq (Ffbi_la_fin c_1) x
noncomputable def Ffbi (c_1 : Contract) : Option Bool :=
  bindJ (ρ:=Bool) (Ffbi_la c_1 0) fun u9 : Unit=>(spec_l1In (len c_1.Parties) 2 4).bind fun r10=>some r10
noncomputable def Ffbk (parties_1 : List Str) : Option Bool :=
  (Ffbi (Contract.mk parties_1 [])).bind fun r2=>some r2
noncomputable def Ffbb (day_1 : Int) : Option Bool :=
  (spec_l1In day_1 0 36524).bind fun r2=>some r2
noncomputable def Ffbl (e_1 : Event) (parties_2 : Int) : Option Bool :=
  (Ffbb e_1.Day).bind fun r3=>bindJ (ρ:=Bool) (bif r3 then ((spec_l1In e_1.Party 0 (w64 (parties_2 - 1))).bind fun r5=>bindL (ρ:=Bool) (bif r5 then ((Ffbg e_1.Action).bind fun r7=>bindL (ρ:=Bool) (bif r7 then ((spec_l1In e_1.Amount 0 1000000).bind fun r9=>some (.inr r9)) else (some (.inr false))) fun u8 : Bool=>some (.inr u8)) else (some (.inr false))) fun u6 : Bool=>some (.inr u6)) else (some (.inr false))) fun u4 : Bool=>some u4
noncomputable def Ffbc (year_1 : Int) (month_2 : Int) : Option Int :=
  letJ (bif (month_2 == 4) then ((month_2 == 4)) else (letJ (bif (month_2 == 6) then ((month_2 == 6)) else (letJ (bif (month_2 == 9) then ((month_2 == 9)) else ((month_2 == 11))) fun u5 : Bool=>u5)) fun u4 : Bool=>u4)) fun u3 : Bool=>bif u3 then (some 30) else (bif (month_2 == 2) then (bif ((year_1.tmod 4) == 0) then (some 29) else (some 28)) else (some 31))
noncomputable def Ffba_la_F (d_1 : Date)  (self : (Int × Int)→Option (Int ⊕ Int)) (x2 : Int × Int) : Option (Int ⊕ Int) :=
  bif (decide (x2.2 < d_1.Month)) then ((Ffbc d_1.Year x2.2).bind fun r3=>self ((w64 (x2.1 + r3)),(w64 (x2.2 + 1)))) else (some (.inr x2.1))
noncomputable def Ffba_la (d_1 : Date)  : (Int × Int)→Option (Int ⊕ Int):=fixO (Ffba_la_F d_1)
theorem Ffba_la_fin (d_1 : Date)  : ∀ a,Fin1 fun f=>Ffba_la_F d_1 f a:=by
  intro a
  unfold Ffba_la_F
  repeat first|exact f_const|exact f_self|refine f_cond ?_ ?_|refine f_bindJ ?_ (fun _=>?_)|refine f_bindL ?_ (fun _=>?_)|refine f_bind ?_ (fun _=>?_)|refine f_letJ (fun _=>?_)
theorem Ffba_la_eq (d_1 : Date)  (x : Int × Int) : Ffba_la d_1 x=Ffba_la_F d_1 (Ffba_la d_1) x:=fix_eq (Ffba_la_fin d_1) x
noncomputable def Ffba (d_1 : Date) : Option Int :=
  bindJ (ρ:=Int) (Ffba_la d_1 ((w64 ((w64 (365 * (w64 (d_1.Year - 2000)))) + (w64 ((w64 ((w64 (d_1.Year - 2000)) + 3)).tdiv 4)))),1)) fun u4 : Int=>some (w64 ((w64 (u4 + d_1.Day)) - 1))
noncomputable def Ffz_la_F (day_1 : Int)  (self : Int→Option (Date ⊕ Int)) (x2 : Int) : Option (Date ⊕ Int) :=
  bindL (ρ:=Date) (bif (decide (x2 < 2099)) then ((Ffba (Date.mk (w64 (x2 + 1)) 1 1)).bind fun r4=>some (.inr (decide (r4 ≤ day_1)))) else (some (.inr false))) fun u3 : Bool=>bif u3 then (self (w64 (x2 + 1))) else (some (.inr x2))
noncomputable def Ffz_la (day_1 : Int)  : Int→Option (Date ⊕ Int):=fixO (Ffz_la_F day_1)
theorem Ffz_la_fin (day_1 : Int)  : ∀ a,Fin1 fun f=>Ffz_la_F day_1 f a:=by
  intro a
  unfold Ffz_la_F
  repeat first|exact f_const|exact f_self|refine f_cond ?_ ?_|refine f_bindJ ?_ (fun _=>?_)|refine f_bindL ?_ (fun _=>?_)|refine f_bind ?_ (fun _=>?_)|refine f_letJ (fun _=>?_)
theorem Ffz_la_eq (day_1 : Int)  (x : Int) : Ffz_la day_1 x=Ffz_la_F day_1 (Ffz_la day_1) x:=fix_eq (Ffz_la_fin day_1) x
noncomputable def Ffz_lb_F (day_1 : Int) (u5 : Int) (self : Int→Option (Date ⊕ Int)) (x6 : Int) : Option (Date ⊕ Int) :=
  bindL (ρ:=Date) (bif (decide (x6 < 12)) then ((Ffba (Date.mk u5 (w64 (x6 + 1)) 1)).bind fun r8=>some (.inr (decide (r8 ≤ day_1)))) else (some (.inr false))) fun u7 : Bool=>bif u7 then (self (w64 (x6 + 1))) else (some (.inr x6))
noncomputable def Ffz_lb (day_1 : Int) (u5 : Int) : Int→Option (Date ⊕ Int):=fixO (Ffz_lb_F day_1 u5)
theorem Ffz_lb_fin (day_1 : Int) (u5 : Int) : ∀ a,Fin1 fun f=>Ffz_lb_F day_1 u5 f a:=by
  intro a
  unfold Ffz_lb_F
  repeat first|exact f_const|exact f_self|refine f_cond ?_ ?_|refine f_bindJ ?_ (fun _=>?_)|refine f_bindL ?_ (fun _=>?_)|refine f_bind ?_ (fun _=>?_)|refine f_letJ (fun _=>?_)
theorem Ffz_lb_eq (day_1 : Int) (u5 : Int) (x : Int) : Ffz_lb day_1 u5 x=Ffz_lb_F day_1 u5 (Ffz_lb day_1 u5) x:=fix_eq (Ffz_lb_fin day_1 u5) x
noncomputable def Ffz (day_1 : Int) : Option Date :=
  bindJ (ρ:=Date) (Ffz_la day_1 2000) fun u5 : Int=>bindJ (ρ:=Date) (Ffz_lb day_1 u5 1) fun u9 : Int=>(Ffba (Date.mk u5 u9 1)).bind fun r10=>some (Date.mk u5 u9 (w64 ((w64 (day_1 - r10)) + 1)))
noncomputable def Ffx_B (slf_Ffx : Int→Option Str) (n_1 : Int) : Option Str :=
  bif (decide (n_1 < 0)) then ((slf_Ffx (w64 (0 - n_1))).bind fun r2=>(catS ([45] : Str) r2).bind fun s3=>some s3) else (bif (decide (n_1 < 10)) then ((subI ([48,49,50,51,52,53,54,55,56,57] : Str) n_1 (w64 (n_1 + 1))).bind fun s4=>some s4) else ((slf_Ffx (w64 (n_1.tdiv 10))).bind fun r5=>(subI ([48,49,50,51,52,53,54,55,56,57] : Str) (n_1.tmod 10) (w64 ((n_1.tmod 10) + 1))).bind fun s6=>(catS r5 s6).bind fun s7=>some s7))
noncomputable def Ffx_G (slf_Ffx : Int→Option Str) (x : Int) : Option Str:=Ffx_B slf_Ffx x
noncomputable def Ffx (n_1 : Int) : Option Str:=fixO Ffx_G n_1
theorem Ffx_fin : ∀ x,Fin1 fun slf_Ffx=>Ffx_G slf_Ffx x:=by
  intro x
  unfold Ffx_G Ffx_B
  repeat first|exact f_const|exact f_self|refine f_cond ?_ ?_|refine f_bindJ ?_ (fun _=>?_)|refine f_bindL ?_ (fun _=>?_)|refine f_bind ?_ (fun _=>?_)|refine f_letJ (fun _=>?_)
theorem Ffx_eq (n_1 : Int) : Ffx n_1=Ffx_B (fixO Ffx_G) n_1:=fix_eq Ffx_fin n_1
noncomputable def Ffbe (n_1 : Int) : Option Str :=
  bif (decide (n_1 < 10)) then ((Ffx n_1).bind fun r2=>(catS ([48] : Str) r2).bind fun s3=>some s3) else ((Ffx n_1).bind fun r4=>some r4)
noncomputable def Ffbd (day_1 : Int) : Option Str :=
  (Ffz day_1).bind fun r2=>(Ffx r2.Year).bind fun r3=>(catS r3 ([45] : Str)).bind fun s4=>(Ffbe r2.Month).bind fun r5=>(catS s4 r5).bind fun s6=>(catS s6 ([45] : Str)).bind fun s7=>(Ffbe r2.Day).bind fun r8=>(catS s7 r8).bind fun s9=>some s9
noncomputable def Ffy (x_1 : Int) : Option Str :=
  letJ (bif (decide (x_1 < 0)) then (((w64 (0 - x_1)),([45] : Str))) else ((x_1,([] : Str)))) fun u2 : Int × Str=>(Ffx (w64 (u2.1.tdiv 100))).bind fun r3=>(catS u2.2 r3).bind fun s4=>(catS s4 ([46] : Str)).bind fun s5=>bindJ (ρ:=Str) (bif (decide ((u2.1.tmod 100) < 10)) then ((catS s5 ([48] : Str)).bind fun s9=>some (.inr s9)) else (some (.inr s5))) fun u6 : Str=>(Ffx (u2.1.tmod 100)).bind fun r7=>(catS u6 r7).bind fun s8=>some s8
noncomputable def Ffbj (e_1 : Event) (parties_2 : List Str) : Option Str :=
  (Ffbd e_1.Day).bind fun r3=>(catS r3 ([32] : Str)).bind fun s4=>(getI parties_2 e_1.Party).bind fun e5=>(catS s4 e5).bind fun s6=>(catS s6 ([32,100,111,101,115,32] : Str)).bind fun s7=>(catS s7 e_1.Action).bind fun s8=>bindJ (ρ:=Str) (bif (decide (e_1.Amount > 0)) then ((catS s8 ([32,112,97,121,105,110,103,32] : Str)).bind fun s10=>(Ffy e_1.Amount).bind fun r11=>(catS s10 r11).bind fun s12=>some (.inr s12)) else (some (.inr s8))) fun u9 : Str=>some u9
noncomputable def Ffw (e_1 : Event) (parties_2 : List Str) : Option (Str × Bool) :=
  (Ffbk parties_2).bind fun r3=>bindJ (ρ:=Str × Bool) (bif (!r3) then (some (.inr true)) else ((Ffbl e_1 (len parties_2)).bind fun r6=>some (.inr (!r6)))) fun u4 : Bool=>bif u4 then (some (([] : Str),false)) else ((Ffbj e_1 parties_2).bind fun r5=>some (r5,true))
noncomputable def Ffm (n_1 : Int) (low_2 : Int) (high_3 : Int) : Option Bool :=
  letJ (bif (decide (n_1 ≥ low_2)) then ((decide (n_1 ≤ high_3))) else (false)) fun u4 : Bool=>some u4
noncomputable def Ffo (s_1 : Str) (c_2 : Int) : Option Int :=
  (xIndexByteString s_1 c_2).bind fun r3=>some r3
noncomputable def Ffn (s_1 : Str) (substr_2 : Str) : Option Int :=
  letJ (bif ((len substr_2) == 0) then (true) else ((substr_2 == s_1))) fun u3 : Bool=>bif u3 then (some 0) else (bif ((len substr_2) == 1) then ((getI substr_2 0).bind fun c4=>(Ffo s_1 (c4.toNat : Int)).bind fun r5=>some r5) else (bif (decide ((len substr_2) ≥ (len s_1))) then (some (-1)) else (none)))
noncomputable def Ffbn (s_1 : Str) (substr_2 : Str) : Option Int :=
  (Ffn s_1 substr_2).bind fun r3=>some r3
noncomputable def Ffbm_la_F (s_1 : Str) (substr_2 : Str)  (self : (Str × Int)→Option (Int ⊕ Unit)) (x5 : Str × Int) : Option (Int ⊕ Unit) :=
  (Ffbn x5.1 substr_2).bind fun r6=>bif (r6 == (-1)) then (some (.inl x5.2)) else ((subI x5.1 (w64 (r6 + (len substr_2))) (len x5.1)).bind fun s7=>self (s7,(w64 (x5.2 + 1))))
noncomputable def Ffbm_la (s_1 : Str) (substr_2 : Str)  : (Str × Int)→Option (Int ⊕ Unit):=fixO (Ffbm_la_F s_1 substr_2)
theorem Ffbm_la_fin (s_1 : Str) (substr_2 : Str)  : ∀ a,Fin1 fun f=>Ffbm_la_F s_1 substr_2 f a:=by
  intro a
  unfold Ffbm_la_F
  repeat first|exact f_const|exact f_self|refine f_cond ?_ ?_|refine f_bindJ ?_ (fun _=>?_)|refine f_bindL ?_ (fun _=>?_)|refine f_bind ?_ (fun _=>?_)|refine f_letJ (fun _=>?_)
theorem Ffbm_la_eq (s_1 : Str) (substr_2 : Str)  (x : Str × Int) : Ffbm_la s_1 substr_2 x=Ffbm_la_F s_1 substr_2 (Ffbm_la s_1 substr_2) x:=fix_eq (Ffbm_la_fin s_1 substr_2) x
noncomputable def Ffbm (s_1 : Str) (substr_2 : Str) : Option Int :=
  bif ((len substr_2) == 0) then (none) else (bif ((len substr_2) == 1) then ((getI substr_2 0).bind fun c3=>(xCountString s_1 (c3.toNat : Int)).bind fun r4=>some r4) else (bindJ (ρ:=Int) (Ffbm_la s_1 substr_2 (s_1,0)) fun u8 : Unit=>none))
noncomputable def Ffbp_la_F (s_1 : Str) (sep_2 : Str) (sepSave_3 : Int) (n_4 : Int) (u5 : Int) (self : (Str × Int × (List Str))→Option (((List Str)) ⊕ (Str × Int × (List Str)))) (x7 : Str × Int × (List Str)) : Option (((List Str)) ⊕ (Str × Int × (List Str))) :=
  bif (decide (x7.2.1 < (w64 ((if (w64 ((len s_1) + 1)) < u5 then (w64 ((len s_1) + 1)) else u5) - 1)))) then ((Ffbn x7.1 sep_2).bind fun r8=>bif (decide (r8 < 0)) then (some (.inr (x7.1,x7.2.1,x7.2.2))) else ((subI x7.1 0 (w64 (r8 + sepSave_3))).bind fun s9=>(getI x7.2.2 x7.2.1).bind fun e10=>(subI x7.1 (w64 (r8 + (len sep_2))) (len x7.1)).bind fun s11=>self (s11,(w64 (x7.2.1 + 1)),(setI x7.2.2 x7.2.1 s9)))) else (some (.inr (x7.1,x7.2.1,x7.2.2)))
noncomputable def Ffbp_la (s_1 : Str) (sep_2 : Str) (sepSave_3 : Int) (n_4 : Int) (u5 : Int) : (Str × Int × (List Str))→Option (((List Str)) ⊕ (Str × Int × (List Str))):=fixO (Ffbp_la_F s_1 sep_2 sepSave_3 n_4 u5)
theorem Ffbp_la_fin (s_1 : Str) (sep_2 : Str) (sepSave_3 : Int) (n_4 : Int) (u5 : Int) : ∀ a,Fin1 fun f=>Ffbp_la_F s_1 sep_2 sepSave_3 n_4 u5 f a:=by
  intro a
  unfold Ffbp_la_F
  repeat first|exact f_const|exact f_self|refine f_cond ?_ ?_|refine f_bindJ ?_ (fun _=>?_)|refine f_bindL ?_ (fun _=>?_)|refine f_bind ?_ (fun _=>?_)|refine f_letJ (fun _=>?_)
theorem Ffbp_la_eq (s_1 : Str) (sep_2 : Str) (sepSave_3 : Int) (n_4 : Int) (u5 : Int) (x : Str × Int × (List Str)) : Ffbp_la s_1 sep_2 sepSave_3 n_4 u5 x=Ffbp_la_F s_1 sep_2 sepSave_3 n_4 u5 (Ffbp_la s_1 sep_2 sepSave_3 n_4 u5) x:=fix_eq (Ffbp_la_fin s_1 sep_2 sepSave_3 n_4 u5) x
noncomputable def Ffbp (s_1 : Str) (sep_2 : Str) (sepSave_3 : Int) (n_4 : Int) : Option ((List Str)) :=
  bif (n_4 == 0) then (some []) else (bif (sep_2 == ([] : Str)) then (none) else (bindJ (ρ:=(List Str)) (bif (decide (n_4 < 0)) then ((Ffbm s_1 sep_2).bind fun r16=>some (.inr (w64 (r16 + 1)))) else (some (.inr n_4))) fun u5 : Int=>(mkI 16 [] (if (w64 ((len s_1) + 1)) < u5 then (w64 ((len s_1) + 1)) else u5)).bind fun m6=>bindJ (ρ:=(List Str)) (Ffbp_la s_1 sep_2 sepSave_3 n_4 u5 (s_1,0,m6)) fun u12 : Str × Int × (List Str)=>(getI u12.2.2 u12.2.1).bind fun e13=>(subP (setI u12.2.2 u12.2.1 u12.1).length 0 (w64 (u12.2.1 + 1))).bind fun s14=>(partP (setI u12.2.2 u12.2.1 u12.1) (0 + Int.toNat (0)) (Int.toNat ((w64 (u12.2.1 + 1))) - Int.toNat (0))).bind fun p15=>some p15))
noncomputable def Ffbo (s_1 : Str) (sep_2 : Str) : Option ((List Str)) :=
  (Ffbp s_1 sep_2 0 (-1)).bind fun r3=>some r3
noncomputable def Ffv_la_F (s_1 : List Str) (v_2 : Str)  (self : Int→Option (Int ⊕ Unit)) (x3 : Int) : Option (Int ⊕ Unit) :=
  bif (decide (x3 < (len s_1))) then ((getI s_1 x3).bind fun e4=>bif (v_2 == e4) then (some (.inl x3)) else (self (w64 (x3 + 1)))) else (some (.inr ()))
noncomputable def Ffv_la (s_1 : List Str) (v_2 : Str)  : Int→Option (Int ⊕ Unit):=fixO (Ffv_la_F s_1 v_2)
theorem Ffv_la_fin (s_1 : List Str) (v_2 : Str)  : ∀ a,Fin1 fun f=>Ffv_la_F s_1 v_2 f a:=by
  intro a
  unfold Ffv_la_F
  repeat first|exact f_const|exact f_self|refine f_cond ?_ ?_|refine f_bindJ ?_ (fun _=>?_)|refine f_bindL ?_ (fun _=>?_)|refine f_bind ?_ (fun _=>?_)|refine f_letJ (fun _=>?_)
theorem Ffv_la_eq (s_1 : List Str) (v_2 : Str)  (x : Int) : Ffv_la s_1 v_2 x=Ffv_la_F s_1 v_2 (Ffv_la s_1 v_2) x:=fix_eq (Ffv_la_fin s_1 v_2) x
noncomputable def Ffv (s_1 : List Str) (v_2 : Str) : Option Int :=
  bindJ (ρ:=Int) (Ffv_la s_1 v_2 0) fun u5 : Unit=>some (-1)
noncomputable def Ffu (s_1 : List Str) (v_2 : Str) : Option Bool :=
  (Ffv s_1 v_2).bind fun r3=>some (decide (r3 ≥ 0))
noncomputable def Ffb_la_F (s_1 : Str)  (self : Int→Option (Bool ⊕ Unit)) (x4 : Int) : Option (Bool ⊕ Unit) :=
  bif (decide (x4 < (len s_1))) then ((getI s_1 x4).bind fun c5=>letJ (bif (decide ((c5.toNat : Int) < 97)) then (letJ (bif (decide ((c5.toNat : Int) < 48)) then (true) else ((decide ((c5.toNat : Int) > 57)))) fun u7 : Bool=>u7) else (letJ (bif (decide ((c5.toNat : Int) > 122)) then (letJ (bif (decide ((c5.toNat : Int) < 48)) then (true) else ((decide ((c5.toNat : Int) > 57)))) fun u9 : Bool=>u9) else (false)) fun u8 : Bool=>u8)) fun u6 : Bool=>bif u6 then (some (.inl false)) else (self (w64 (x4 + 1)))) else (some (.inr ()))
noncomputable def Ffb_la (s_1 : Str)  : Int→Option (Bool ⊕ Unit):=fixO (Ffb_la_F s_1)
theorem Ffb_la_fin (s_1 : Str)  : ∀ a,Fin1 fun f=>Ffb_la_F s_1 f a:=by
  intro a
  unfold Ffb_la_F
  repeat first|exact f_const|exact f_self|refine f_cond ?_ ?_|refine f_bindJ ?_ (fun _=>?_)|refine f_bindL ?_ (fun _=>?_)|refine f_bind ?_ (fun _=>?_)|refine f_letJ (fun _=>?_)
theorem Ffb_la_eq (s_1 : Str)  (x : Int) : Ffb_la s_1 x=Ffb_la_F s_1 (Ffb_la s_1) x:=fix_eq (Ffb_la_fin s_1) x
noncomputable def Ffb (s_1 : Str) : Option Bool :=
  (Ffm (len s_1) 1 8).bind fun r2=>bindJ (ρ:=Bool) (bif (!r2) then (some (.inr true)) else ((getI s_1 0).bind fun c13=>bindL (ρ:=Bool) (bif (decide ((c13.toNat : Int) < 97)) then (some (.inr true)) else ((getI s_1 0).bind fun c15=>some (.inr (decide ((c15.toNat : Int) > 122))))) fun u14 : Bool=>some (.inr u14))) fun u3 : Bool=>bif u3 then (some false) else (bindJ (ρ:=Bool) (Ffb_la s_1 0) fun u10 : Unit=>(Ffbo ([116,114,117,101,32,102,114,111,109,32,110,111,116,32,97,110,100,32,111,114,32,98,111,116,104,32,101,105,116,104,101,114,32,105,116,32,105,110] : Str) ([32] : Str)).bind fun r11=>(Ffu r11 s_1).bind fun r12=>some (!r12))
noncomputable def Ffd_la_F (list_1 : List Str)  (self : Int→Option (Bool ⊕ Unit)) (x2 : Int) : Option (Bool ⊕ Unit) :=
  bif (decide (x2 < (len list_1))) then ((getI list_1 x2).bind fun e3=>(Ffb e3).bind fun r4=>bindL (ρ:=Bool) (bif (!r4) then (some (.inr true)) else ((subI list_1 0 x2).bind fun s6=>(Ffu s6 e3).bind fun r7=>some (.inr r7))) fun u5 : Bool=>bif u5 then (some (.inl false)) else (self (w64 (x2 + 1)))) else (some (.inr ()))
noncomputable def Ffd_la (list_1 : List Str)  : Int→Option (Bool ⊕ Unit):=fixO (Ffd_la_F list_1)
theorem Ffd_la_fin (list_1 : List Str)  : ∀ a,Fin1 fun f=>Ffd_la_F list_1 f a:=by
  intro a
  unfold Ffd_la_F
  repeat first|exact f_const|exact f_self|refine f_cond ?_ ?_|refine f_bindJ ?_ (fun _=>?_)|refine f_bindL ?_ (fun _=>?_)|refine f_bind ?_ (fun _=>?_)|refine f_letJ (fun _=>?_)
theorem Ffd_la_eq (list_1 : List Str)  (x : Int) : Ffd_la list_1 x=Ffd_la_F list_1 (Ffd_la list_1) x:=fix_eq (Ffd_la_fin list_1) x
noncomputable def Ffd (list_1 : List Str) : Option Bool :=
  bindJ (ρ:=Bool) (Ffd_la list_1 0) fun u8 : Unit=>(Ffm (len list_1) 2 4).bind fun r9=>some r9
noncomputable def Ffj (day_1 : Int) : Option Bool :=
  (Ffm day_1 0 36524).bind fun r2=>some r2
noncomputable def Ffk (e_1 : Event) (parties_2 : Int) : Option Bool :=
  (Ffj e_1.Day).bind fun r3=>bindJ (ρ:=Bool) (bif r3 then ((Ffm e_1.Party 0 (w64 (parties_2 - 1))).bind fun r5=>bindL (ρ:=Bool) (bif r5 then ((Ffb e_1.Action).bind fun r7=>bindL (ρ:=Bool) (bif r7 then ((Ffm e_1.Amount 0 1000000).bind fun r9=>some (.inr r9)) else (some (.inr false))) fun u8 : Bool=>some (.inr u8)) else (some (.inr false))) fun u6 : Bool=>some (.inr u6)) else (some (.inr false))) fun u4 : Bool=>some u4
noncomputable def Ffg (year_1 : Int) (month_2 : Int) : Option Int :=
  bif (month_2 == 2) then (bif ((year_1.tmod 4) == 0) then (some 29) else (some 28)) else (letJ (bif (month_2 == 4) then ((month_2 == 4)) else (letJ (bif (month_2 == 6) then ((month_2 == 6)) else (letJ (bif (month_2 == 9) then ((month_2 == 9)) else ((month_2 == 11))) fun u5 : Bool=>u5)) fun u4 : Bool=>u4)) fun u3 : Bool=>bif u3 then (some 30) else (some 31))
noncomputable def Ffh (year_1 : Int) : Option Int :=
  (Ffg year_1 2).bind fun r2=>some (w64 (337 + r2))
noncomputable def Ffe_la_F (day_1 : Int)  (self : (Int × Int)→Option (Date ⊕ (Int × Int))) (x2 : Int × Int) : Option (Date ⊕ (Int × Int)) :=
  (Ffh x2.2).bind fun r3=>bif (decide (x2.1 ≥ r3)) then ((Ffh x2.2).bind fun r4=>self ((w64 (x2.1 - r4)),(w64 (x2.2 + 1)))) else (some (.inr (x2.1,x2.2)))
noncomputable def Ffe_la (day_1 : Int)  : (Int × Int)→Option (Date ⊕ (Int × Int)):=fixO (Ffe_la_F day_1)
theorem Ffe_la_fin (day_1 : Int)  : ∀ a,Fin1 fun f=>Ffe_la_F day_1 f a:=by
  intro a
  unfold Ffe_la_F
  repeat first|exact f_const|exact f_self|refine f_cond ?_ ?_|refine f_bindJ ?_ (fun _=>?_)|refine f_bindL ?_ (fun _=>?_)|refine f_bind ?_ (fun _=>?_)|refine f_letJ (fun _=>?_)
theorem Ffe_la_eq (day_1 : Int)  (x : Int × Int) : Ffe_la day_1 x=Ffe_la_F day_1 (Ffe_la day_1) x:=fix_eq (Ffe_la_fin day_1) x
noncomputable def Ffe_lb_F (day_1 : Int) (u5 : Int × Int) (self : (Int × Int)→Option (Date ⊕ (Int × Int))) (x6 : Int × Int) : Option (Date ⊕ (Int × Int)) :=
  (Ffg u5.2 x6.2).bind fun r7=>bif (decide (x6.1 ≥ r7)) then ((Ffg u5.2 x6.2).bind fun r8=>self ((w64 (x6.1 - r8)),(w64 (x6.2 + 1)))) else (some (.inr (x6.1,x6.2)))
noncomputable def Ffe_lb (day_1 : Int) (u5 : Int × Int) : (Int × Int)→Option (Date ⊕ (Int × Int)):=fixO (Ffe_lb_F day_1 u5)
theorem Ffe_lb_fin (day_1 : Int) (u5 : Int × Int) : ∀ a,Fin1 fun f=>Ffe_lb_F day_1 u5 f a:=by
  intro a
  unfold Ffe_lb_F
  repeat first|exact f_const|exact f_self|refine f_cond ?_ ?_|refine f_bindJ ?_ (fun _=>?_)|refine f_bindL ?_ (fun _=>?_)|refine f_bind ?_ (fun _=>?_)|refine f_letJ (fun _=>?_)
theorem Ffe_lb_eq (day_1 : Int) (u5 : Int × Int) (x : Int × Int) : Ffe_lb day_1 u5 x=Ffe_lb_F day_1 u5 (Ffe_lb day_1 u5) x:=fix_eq (Ffe_lb_fin day_1 u5) x
noncomputable def Ffe (day_1 : Int) : Option Date :=
  bindJ (ρ:=Date) (Ffe_la day_1 (day_1,2000)) fun u5 : Int × Int=>bindJ (ρ:=Date) (Ffe_lb day_1 u5 (u5.1,1)) fun u9 : Int × Int=>some (Date.mk u5.2 u9.2 (w64 (u9.1 + 1)))
noncomputable def Ffl_la_F (n_1 : Int) (digits_2 : Int)  (self : Str→Option (Str ⊕ Str)) (x4 : Str) : Option (Str ⊕ Str) :=
  bif (decide ((len x4) < digits_2)) then ((catS ([48] : Str) x4).bind fun s5=>self s5) else (some (.inr x4))
noncomputable def Ffl_la (n_1 : Int) (digits_2 : Int)  : Str→Option (Str ⊕ Str):=fixO (Ffl_la_F n_1 digits_2)
theorem Ffl_la_fin (n_1 : Int) (digits_2 : Int)  : ∀ a,Fin1 fun f=>Ffl_la_F n_1 digits_2 f a:=by
  intro a
  unfold Ffl_la_F
  repeat first|exact f_const|exact f_self|refine f_cond ?_ ?_|refine f_bindJ ?_ (fun _=>?_)|refine f_bindL ?_ (fun _=>?_)|refine f_bind ?_ (fun _=>?_)|refine f_letJ (fun _=>?_)
theorem Ffl_la_eq (n_1 : Int) (digits_2 : Int)  (x : Str) : Ffl_la n_1 digits_2 x=Ffl_la_F n_1 digits_2 (Ffl_la n_1 digits_2) x:=fix_eq (Ffl_la_fin n_1 digits_2) x
noncomputable def Ffl (n_1 : Int) (digits_2 : Int) : Option Str :=
  (xItoa n_1).bind fun r3=>bindJ (ρ:=Str) (Ffl_la n_1 digits_2 r3) fun u6 : Str=>some u6
noncomputable def Fff (day_1 : Int) : Option Str :=
  (Ffe day_1).bind fun r2=>(Ffl r2.Year 4).bind fun r3=>(catS r3 ([45] : Str)).bind fun s4=>(Ffl r2.Month 2).bind fun r5=>(catS s4 r5).bind fun s6=>(catS s6 ([45] : Str)).bind fun s7=>(Ffl r2.Day 2).bind fun r8=>(catS s7 r8).bind fun s9=>some s9
noncomputable def impl_size (n_1 : Int) : Option Int :=
  some (if (w64 (0 - n_1)) > n_1 then (w64 (0 - n_1)) else n_1)
noncomputable def Ffc (x_1 : Int) : Option Str :=
  letJ (bif (decide (x_1 < 0)) then (([45] : Str)) else (([] : Str))) fun u2 : Str=>(impl_size x_1).bind fun r3=>(xItoa (w64 (r3.tdiv 100))).bind fun r4=>(catS u2 r4).bind fun s5=>(catS s5 ([46] : Str)).bind fun s6=>(impl_size x_1).bind fun r7=>(Ffl (r7.tmod 100) 2).bind fun r8=>(catS s6 r8).bind fun s9=>some s9
noncomputable def Ffi (e_1 : Event) (parties_2 : List Str) : Option Str :=
  (Fff e_1.Day).bind fun r3=>(catS r3 ([32] : Str)).bind fun s4=>(getI parties_2 e_1.Party).bind fun e5=>(catS s4 e5).bind fun s6=>(catS s6 ([32,100,111,101,115,32] : Str)).bind fun s7=>(catS s7 e_1.Action).bind fun s8=>bindJ (ρ:=Str) (bif (decide (e_1.Amount > 0)) then ((Ffc e_1.Amount).bind fun r10=>(catS ([32,112,97,121,105,110,103,32] : Str) r10).bind fun s11=>(catS s8 s11).bind fun s12=>some (.inr s12)) else (some (.inr s8))) fun u9 : Str=>some u9
noncomputable def Ffa (e_1 : Event) (parties_2 : List Str) : Option (Str × Bool) :=
  (Ffd parties_2).bind fun r3=>bindJ (ρ:=Str × Bool) (bif (!r3) then (some (.inr true)) else ((Ffk e_1 (len parties_2)).bind fun r6=>some (.inr (!r6)))) fun u4 : Bool=>bif u4 then (some (([] : Str),false)) else ((Ffi e_1 parties_2).bind fun r5=>some (r5,true))
noncomputable def Ffp_la_F (a_1 : List Str) (b_2 : List Str)  (self : Int→Option (Bool ⊕ Unit)) (x3 : Int) : Option (Bool ⊕ Unit) :=
  bif (decide (x3 < (len a_1))) then ((getI a_1 x3).bind fun e4=>(getI b_2 x3).bind fun e5=>bif (!(e4 == e5)) then (some (.inl false)) else (self (w64 (x3 + 1)))) else (some (.inr ()))
noncomputable def Ffp_la (a_1 : List Str) (b_2 : List Str)  : Int→Option (Bool ⊕ Unit):=fixO (Ffp_la_F a_1 b_2)
theorem Ffp_la_fin (a_1 : List Str) (b_2 : List Str)  : ∀ a,Fin1 fun f=>Ffp_la_F a_1 b_2 f a:=by
  intro a
  unfold Ffp_la_F
  repeat first|exact f_const|exact f_self|refine f_cond ?_ ?_|refine f_bindJ ?_ (fun _=>?_)|refine f_bindL ?_ (fun _=>?_)|refine f_bind ?_ (fun _=>?_)|refine f_letJ (fun _=>?_)
theorem Ffp_la_eq (a_1 : List Str) (b_2 : List Str)  (x : Int) : Ffp_la a_1 b_2 x=Ffp_la_F a_1 b_2 (Ffp_la a_1 b_2) x:=fix_eq (Ffp_la_fin a_1 b_2) x
noncomputable def Ffp (a_1 : List Str) (b_2 : List Str) : Option Bool :=
  bif ((len a_1) != (len b_2)) then (some false) else (bindJ (ρ:=Bool) (Ffp_la a_1 b_2 0) fun u6 : Unit=>some true)
noncomputable def laws_FnExactFormatEvent (aE_1 : Event) (aParties_2 : List Str) : Option Bool :=
  (Ffq aE_1 1048576).bind fun r3=>bif (decide (r3 < 0)) then (some true) else ((Ffr aParties_2 r3).bind fun r4=>bif (decide (r4 < 0)) then (some true) else ((Ffs aE_1).bind fun r5=>(Fft aParties_2).bind fun r6=>(Ffw r5 r6).bind fun r7=>(Fft aParties_2).bind fun r8=>(Ffs aE_1).bind fun r9=>(Ffa r9 r8).bind fun r10=>letJ (bif (!(r10.1 == r7.1)) then (true) else ((!(r10.2 == r7.2)))) fun u11 : Bool=>bif u11 then (some false) else ((Fft aParties_2).bind fun r12=>(Ffp r8 r12).bind fun r13=>bif (!r13) then (some false) else (some true))))
end Go.Ln
