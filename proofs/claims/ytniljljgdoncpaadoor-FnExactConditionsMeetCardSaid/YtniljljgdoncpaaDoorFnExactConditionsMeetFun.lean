/-
  What each function of the law computes, as a plain function.
-/
import Derived.Test.YtniljljgdoncpaaDoorLnD
set_option maxHeartbeats 4000000
set_option linter.unusedVariables false
set_option linter.unusedSimpArgs false
set_option maxRecDepth 100000
namespace Go.Ln
open Go
structure Condition where
  Op : Int
  Name : Str
  Day : Int
  Parts : List Condition
mutual
def encI_Condition : Condition→V
  | ⟨a0,a1,a2,a3⟩=>.agg [I (a0),str (a1),I (a2),.isl false (encI_Conditions a3)]
def encI_Conditions : List Condition→List V
  | []=>[]
  | x :: xs=>encI_Condition x :: encI_Conditions xs
end
theorem encI_Conditions_map : ∀ xs,encI_Conditions xs=xs.map encI_Condition
  | []=>by simp [encI_Conditions]
  | x :: xs=>by simp [encI_Conditions,encI_Conditions_map xs]
def encI_Condition1 (x : Condition) : V:=.agg [I (x.Op),str (x.Name),I (x.Day),.isl false ((x.Parts).map encI_Condition)]
theorem encI_Condition_eq (x : Condition) : encI_Condition x=encI_Condition1 x:=by cases x; simp only [encI_Condition,encI_Condition1,encI_Conditions_map]
theorem encI_Condition_cells (x : Condition) : (cells (encI_Condition x)).length=4 ∧ (cells (encI_Condition x)).all cellV=true:=by rw [encI_Condition_eq]; exact ⟨rfl,rfl⟩
mutual
theorem encI_Condition_inj : ∀ (a b : Condition),encI_Condition a=encI_Condition b→a=b
  | ⟨a0,a1,a2,a3⟩,⟨b0,b1,b2,b3⟩,h=>by
    simp only [encI_Condition] at h
    have k0:=V.agg.inj h
    obtain ⟨h0,k1⟩:=List.cons.inj k0
    obtain rfl:=I_inj a0 b0 h0
    obtain ⟨h1,k2⟩:=List.cons.inj k1
    obtain rfl:=str_inj a1 b1 h1
    obtain ⟨h2,k3⟩:=List.cons.inj k2
    obtain rfl:=I_inj a2 b2 h2
    obtain ⟨h3,k4⟩:=List.cons.inj k3
    have e3 : encI_Conditions a3=encI_Conditions b3:=by simpa using h3
    obtain rfl:=encI_Conditions_inj a3 b3 e3
    rfl
theorem encI_Conditions_inj : ∀ (a b : List Condition),encI_Conditions a=encI_Conditions b→a=b
  | [],[],_=>rfl
  | [],_ :: _,h=>by simp [encI_Conditions] at h
  | _ :: _,[],h=>by simp [encI_Conditions] at h
  | x :: xs,y :: ys,h=>by
    simp only [encI_Conditions,List.cons.injEq] at h
    rw [encI_Condition_inj x y h.1,encI_Conditions_inj xs ys h.2]
end
theorem encI_Condition1_inj (a b : Condition) (h : encI_Condition1 a=encI_Condition1 b) : a=b:=encI_Condition_inj a b (by rw [encI_Condition_eq,encI_Condition_eq,h])
mutual
def encO_Condition : Condition→V
  | ⟨a0,a1,a2,a3⟩=>.agg [I (a0),str (a1),I (a2),.usl 4 (encO_Conditions a3)]
def encO_Conditions : List Condition→List V
  | []=>[]
  | x :: xs=>encO_Condition x :: encO_Conditions xs
end
theorem encO_Conditions_map : ∀ xs,encO_Conditions xs=xs.map encO_Condition
  | []=>by simp [encO_Conditions]
  | x :: xs=>by simp [encO_Conditions,encO_Conditions_map xs]
def encO_Condition1 (x : Condition) : V:=.agg [I (x.Op),str (x.Name),I (x.Day),.usl 4 ((x.Parts).map encO_Condition)]
theorem encO_Condition_eq (x : Condition) : encO_Condition x=encO_Condition1 x:=by cases x; simp only [encO_Condition,encO_Condition1,encO_Conditions_map]
theorem encO_Condition_cells (x : Condition) : (cells (encO_Condition x)).length=4 ∧ (cells (encO_Condition x)).all cellV=true:=by rw [encO_Condition_eq]; exact ⟨rfl,rfl⟩
mutual
theorem encO_Condition_inj : ∀ (a b : Condition),encO_Condition a=encO_Condition b→a=b
  | ⟨a0,a1,a2,a3⟩,⟨b0,b1,b2,b3⟩,h=>by
    simp only [encO_Condition] at h
    have k0:=V.agg.inj h
    obtain ⟨h0,k1⟩:=List.cons.inj k0
    obtain rfl:=I_inj a0 b0 h0
    obtain ⟨h1,k2⟩:=List.cons.inj k1
    obtain rfl:=str_inj a1 b1 h1
    obtain ⟨h2,k3⟩:=List.cons.inj k2
    obtain rfl:=I_inj a2 b2 h2
    obtain ⟨h3,k4⟩:=List.cons.inj k3
    have e3 : encO_Conditions a3=encO_Conditions b3:=by simpa using h3
    obtain rfl:=encO_Conditions_inj a3 b3 e3
    rfl
theorem encO_Conditions_inj : ∀ (a b : List Condition),encO_Conditions a=encO_Conditions b→a=b
  | [],[],_=>rfl
  | [],_ :: _,h=>by simp [encO_Conditions] at h
  | _ :: _,[],h=>by simp [encO_Conditions] at h
  | x :: xs,y :: ys,h=>by
    simp only [encO_Conditions,List.cons.injEq] at h
    rw [encO_Condition_inj x y h.1,encO_Conditions_inj xs ys h.2]
end
theorem encO_Condition1_inj (a b : Condition) (h : encO_Condition1 a=encO_Condition1 b) : a=b:=encO_Condition_inj a b (by rw [encO_Condition_eq,encO_Condition_eq,h])
theorem encI_Condition_imm (x : Condition) : imm (encI_Condition x)=encI_Condition x:=by rw [encI_Condition_eq]; rfl
mutual
theorem encO_Condition_imm : ∀ x : Condition,imm (encO_Condition x)=encI_Condition x
  | ⟨a0,a1,a2,a3⟩=>by simp [encO_Condition,encI_Condition,imm,imms,str,encO_Conditions_imm]
theorem encO_Conditions_imm : ∀ xs : List Condition,imms (encO_Conditions xs)=encI_Conditions xs
  | []=>by simp [encO_Conditions,encI_Conditions,imms]
  | x :: xs=>by simp [encO_Conditions,encI_Conditions,imms,encO_Condition_imm x,encO_Conditions_imm xs]
end
mutual
theorem encO_Condition_himm : ∀ x : Condition,hasImm (encO_Condition x)=false
  | ⟨a0,a1,a2,a3⟩=>by simp [encO_Condition,hasImm,hasImms,str,encO_Conditions_himm]
theorem encO_Conditions_himm : ∀ xs : List Condition,hasImms (encO_Conditions xs)=false
  | []=>by simp [encO_Conditions,hasImms]
  | x :: xs=>by simp [encO_Conditions,hasImms,encO_Condition_himm x,encO_Conditions_himm xs]
end
mutual
def Ffba : Condition→Prop
  | ⟨a0,a1,a2,a3⟩=>I64 a0 ∧ okS a1 ∧ I64 a2 ∧ (a3.length ≤ maxLen ∧ Ffbb a3)
def Ffbb : List Condition→Prop
  | []=>True
  | x :: xs=>Ffba x ∧ Ffbb xs
end
theorem Ffbb_iff : ∀ xs,Ffbb xs ↔ ∀ x ∈ xs,Ffba x
  | []=>by simp [Ffbb]
  | x :: xs=>by simp [Ffbb,Ffbb_iff xs]
theorem Ffba_iff (x : Condition) : Ffba x ↔ I64 x.Op ∧ okS x.Name ∧ I64 x.Day ∧ okL Ffba x.Parts:=by cases x; simp only [Ffba,Ffbb_iff,okL]
noncomputable def Ffu_la_F (slf_Ffs : (Condition × Int)→Option Int) (a_1 : List Condition) (left_2 : Int)  (self : (Int × Int)→Option (Int ⊕ Int)) (x3 : Int × Int) : Option (Int ⊕ Int) :=
  bif (decide (x3.2 < (len a_1))) then ((getI a_1 x3.2).bind fun e4=>(slf_Ffs (e4,x3.1)).bind fun r5=>bif (decide (r5 < 0)) then (some (.inl (-1))) else (self (r5,(w64 (x3.2 + 1))))) else (some (.inr x3.1))
noncomputable def Ffu_la (slf_Ffs : (Condition × Int)→Option Int) (a_1 : List Condition) (left_2 : Int)  : (Int × Int)→Option (Int ⊕ Int):=fixO (Ffu_la_F slf_Ffs a_1 left_2)
theorem Ffu_la_fin (slf_Ffs : (Condition × Int)→Option Int) (a_1 : List Condition) (left_2 : Int)  : ∀ a,Fin1 fun f=>Ffu_la_F slf_Ffs a_1 left_2 f a:=by
  intro a
  unfold Ffu_la_F
  repeat first|exact f_const|exact f_self|refine f_cond ?_ ?_|refine f_bindJ ?_ (fun _=>?_)|refine f_bindL ?_ (fun _=>?_)|refine f_bind ?_ (fun _=>?_)|refine f_letJ (fun _=>?_)
theorem Ffu_la_eq (slf_Ffs : (Condition × Int)→Option Int) (a_1 : List Condition) (left_2 : Int)  (x : Int × Int) : Ffu_la slf_Ffs a_1 left_2 x=Ffu_la_F slf_Ffs a_1 left_2 (Ffu_la slf_Ffs a_1 left_2) x:=fix_eq (Ffu_la_fin slf_Ffs a_1 left_2) x
noncomputable def Ffu (slf_Ffs : (Condition × Int)→Option Int) (a_1 : List Condition) (left_2 : Int) : Option Int :=
  bif (decide ((w64 (left_2 - (len a_1))) < 0)) then (some (-1)) else (bindJ (ρ:=Int) (Ffu_la slf_Ffs a_1 left_2 ((w64 (left_2 - (len a_1))),0)) fun u6 : Int=>some u6)
noncomputable def Ffs_B (slf_Ffs : (Condition × Int)→Option Int) (a_1 : Condition) (left_2 : Int) : Option Int :=
  bif (decide ((w64 (left_2 - (len a_1.Name))) < 0)) then (some (-1)) else ((Ffu slf_Ffs a_1.Parts (w64 (left_2 - (len a_1.Name)))).bind fun r3=>bif (decide (r3 < 0)) then (some (-1)) else (some r3))
noncomputable def Ffs_G (slf_Ffs : (Condition × Int)→Option Int) (x : Condition × Int) : Option Int:=Ffs_B slf_Ffs x.1 x.2
noncomputable def Ffs (a_1 : Condition) (left_2 : Int) : Option Int:=fixO Ffs_G (a_1,left_2)
theorem Ffs_fin : ∀ x,Fin1 fun slf_Ffs=>Ffs_G slf_Ffs x:=by
  intro x
  unfold Ffs_G Ffs_B
  repeat first|exact f_const|exact f_self|exact f_selfL|exact f_selfR|exact f_selfLL|exact f_selfRL|exact f_selfLLL|exact f_selfRLL|refine f_cond ?_ ?_|refine f_bindJ ?_ (fun _=>?_)|refine f_bindL ?_ (fun _=>?_)|refine f_bind ?_ (fun _=>?_)|refine f_letJ (fun _=>?_)|refine f_fix (fun _=>?_) | unfold Ffu | unfold Ffu_la | unfold Ffu_la_F
theorem Ffs_eq (a_1 : Condition) (left_2 : Int) : Ffs a_1 left_2=Ffs_B (fixO Ffs_G) a_1 left_2:=fix_eq Ffs_fin (a_1,left_2)
noncomputable def Fft (a_1 : List Condition) (left_2 : Int) : Option Int:=Ffu (fixO Ffs_G) a_1 left_2
noncomputable def Ffx_la_F (slf_Ffv : Condition→Option Condition) (a_1 : List Condition)  (self : (Int × (List Condition))→Option (((List Condition)) ⊕ ((List Condition)))) (x3 : Int × (List Condition)) : Option (((List Condition)) ⊕ ((List Condition))) :=
  bif (decide (x3.1 < (len a_1))) then ((getI a_1 x3.1).bind fun e4=>(slf_Ffv e4).bind fun r5=>(getI x3.2 x3.1).bind fun e6=>self ((w64 (x3.1 + 1)),(setI x3.2 x3.1 r5))) else (some (.inr x3.2))
noncomputable def Ffx_la (slf_Ffv : Condition→Option Condition) (a_1 : List Condition)  : (Int × (List Condition))→Option (((List Condition)) ⊕ ((List Condition))):=fixO (Ffx_la_F slf_Ffv a_1)
theorem Ffx_la_fin (slf_Ffv : Condition→Option Condition) (a_1 : List Condition)  : ∀ a,Fin1 fun f=>Ffx_la_F slf_Ffv a_1 f a:=by
  intro a
  unfold Ffx_la_F
  repeat first|exact f_const|exact f_self|refine f_cond ?_ ?_|refine f_bindJ ?_ (fun _=>?_)|refine f_bindL ?_ (fun _=>?_)|refine f_bind ?_ (fun _=>?_)|refine f_letJ (fun _=>?_)
theorem Ffx_la_eq (slf_Ffv : Condition→Option Condition) (a_1 : List Condition)  (x : Int × (List Condition)) : Ffx_la slf_Ffv a_1 x=Ffx_la_F slf_Ffv a_1 (Ffx_la slf_Ffv a_1) x:=fix_eq (Ffx_la_fin slf_Ffv a_1) x
noncomputable def Ffx (slf_Ffv : Condition→Option Condition) (a_1 : List Condition) : Option ((List Condition)) :=
  (mkI 56 (Condition.mk 0 [] 0 []) (len a_1)).bind fun m2=>bindJ (ρ:=(List Condition)) (Ffx_la slf_Ffv a_1 (0,m2)) fun u7 : (List Condition)=>some u7
noncomputable def Ffv_B (slf_Ffv : Condition→Option Condition) (a_1 : Condition) : Option Condition :=
  (Ffx slf_Ffv a_1.Parts).bind fun r2=>some (Condition.mk a_1.Op a_1.Name a_1.Day r2)
noncomputable def Ffv_G (slf_Ffv : Condition→Option Condition) (x : Condition) : Option Condition:=Ffv_B slf_Ffv x
noncomputable def Ffv (a_1 : Condition) : Option Condition:=fixO Ffv_G a_1
theorem Ffv_fin : ∀ x,Fin1 fun slf_Ffv=>Ffv_G slf_Ffv x:=by
  intro x
  unfold Ffv_G Ffv_B
  repeat first|exact f_const|exact f_self|exact f_selfL|exact f_selfR|exact f_selfLL|exact f_selfRL|exact f_selfLLL|exact f_selfRLL|refine f_cond ?_ ?_|refine f_bindJ ?_ (fun _=>?_)|refine f_bindL ?_ (fun _=>?_)|refine f_bind ?_ (fun _=>?_)|refine f_letJ (fun _=>?_)|refine f_fix (fun _=>?_) | unfold Ffx | unfold Ffx_la | unfold Ffx_la_F
theorem Ffv_eq (a_1 : Condition) : Ffv a_1=Ffv_B (fixO Ffv_G) a_1:=fix_eq Ffv_fin a_1
noncomputable def Ffw (a_1 : List Condition) : Option ((List Condition)):=Ffx (fixO Ffv_G) a_1
noncomputable def spec_l1In (x_1 : Int) (a_2 : Int) (b_3 : Int) : Option Bool :=
  letJ (bif (decide (x_1 ≥ a_2)) then ((decide (x_1 ≤ b_3))) else (false)) fun u4 : Bool=>some u4
noncomputable def Ffck (b_1 : Int) : Option Bool :=
  letJ (bif (decide (b_1 ≥ 97)) then (letJ (bif (decide (b_1 ≤ 122)) then (true) else (letJ (bif (decide (b_1 ≥ 48)) then ((decide (b_1 ≤ 57))) else (false)) fun u4 : Bool=>u4)) fun u3 : Bool=>u3) else (letJ (bif (decide (b_1 ≥ 48)) then ((decide (b_1 ≤ 57))) else (false)) fun u5 : Bool=>u5)) fun u2 : Bool=>some u2
noncomputable def Ffch_la_F (s_1 : Str)  (self : Int→Option (Bool ⊕ Unit)) (x4 : Int) : Option (Bool ⊕ Unit) :=
  bif (decide (x4 < (len s_1))) then ((getI s_1 x4).bind fun c5=>(Ffck (c5.toNat : Int)).bind fun r6=>bif (!r6) then (some (.inl false)) else (self (w64 (x4 + 1)))) else (some (.inr ()))
noncomputable def Ffch_la (s_1 : Str)  : Int→Option (Bool ⊕ Unit):=fixO (Ffch_la_F s_1)
theorem Ffch_la_fin (s_1 : Str)  : ∀ a,Fin1 fun f=>Ffch_la_F s_1 f a:=by
  intro a
  unfold Ffch_la_F
  repeat first|exact f_const|exact f_self|refine f_cond ?_ ?_|refine f_bindJ ?_ (fun _=>?_)|refine f_bindL ?_ (fun _=>?_)|refine f_bind ?_ (fun _=>?_)|refine f_letJ (fun _=>?_)
theorem Ffch_la_eq (s_1 : Str)  (x : Int) : Ffch_la s_1 x=Ffch_la_F s_1 (Ffch_la s_1) x:=fix_eq (Ffch_la_fin s_1) x
noncomputable def Ffch (s_1 : Str) : Option Bool :=
  (spec_l1In (len s_1) 1 8).bind fun r2=>bindJ (ρ:=Bool) (bif (!r2) then (some (.inr true)) else ((getI s_1 0).bind fun c16=>bindL (ρ:=Bool) (bif (decide ((c16.toNat : Int) < 97)) then (some (.inr true)) else ((getI s_1 0).bind fun c18=>some (.inr (decide ((c18.toNat : Int) > 122))))) fun u17 : Bool=>some (.inr u17))) fun u3 : Bool=>bif u3 then (some false) else (bindJ (ρ:=Bool) (Ffch_la s_1 0) fun u7 : Unit=>letJ (bif (s_1 == ([116,114,117,101] : Str)) then ((s_1 == ([116,114,117,101] : Str))) else (letJ (bif (s_1 == ([102,114,111,109] : Str)) then ((s_1 == ([102,114,111,109] : Str))) else (letJ (bif (s_1 == ([110,111,116] : Str)) then ((s_1 == ([110,111,116] : Str))) else (letJ (bif (s_1 == ([97,110,100] : Str)) then ((s_1 == ([97,110,100] : Str))) else (letJ (bif (s_1 == ([111,114] : Str)) then ((s_1 == ([111,114] : Str))) else (letJ (bif (s_1 == ([98,111,116,104] : Str)) then ((s_1 == ([98,111,116,104] : Str))) else (letJ (bif (s_1 == ([101,105,116,104,101,114] : Str)) then ((s_1 == ([101,105,116,104,101,114] : Str))) else (letJ (bif (s_1 == ([105,116] : Str)) then ((s_1 == ([105,116] : Str))) else ((s_1 == ([105,110] : Str)))) fun u15 : Bool=>u15)) fun u14 : Bool=>u14)) fun u13 : Bool=>u13)) fun u12 : Bool=>u12)) fun u11 : Bool=>u11)) fun u10 : Bool=>u10)) fun u9 : Bool=>u9)) fun u8 : Bool=>bif u8 then (some false) else (some true))
noncomputable def Ffbz (day_1 : Int) : Option Bool :=
  (spec_l1In day_1 0 36524).bind fun r2=>some r2
noncomputable def Ffcb (c_1 : Condition) : Option Bool :=
  bif (c_1.Op == 1) then (letJ (bif ((len c_1.Parts) == 0) then (letJ (bif (c_1.Name == ([] : Str)) then ((c_1.Day == 0)) else (false)) fun u3 : Bool=>u3) else (false)) fun u2 : Bool=>some u2) else (bif (c_1.Op == 2) then (bindJ (ρ:=Bool) (bif ((len c_1.Parts) == 0) then ((Ffch c_1.Name).bind fun r5=>letJ (bif r5 then ((c_1.Day == 0)) else (false)) fun u6 : Bool=>some (.inr u6)) else (some (.inr false))) fun u4 : Bool=>some u4) else (bif (c_1.Op == 3) then (bindJ (ρ:=Bool) (bif ((len c_1.Parts) == 0) then (bindL (ρ:=Bool) (bif (c_1.Name == ([] : Str)) then ((Ffbz c_1.Day).bind fun r9=>some (.inr r9)) else (some (.inr false))) fun u8 : Bool=>some (.inr u8)) else (some (.inr false))) fun u7 : Bool=>some u7) else (bif (c_1.Op == 4) then (letJ (bif ((len c_1.Parts) == 1) then (letJ (bif (c_1.Name == ([] : Str)) then ((c_1.Day == 0)) else (false)) fun u11 : Bool=>u11) else (false)) fun u10 : Bool=>some u10) else (letJ (bif (c_1.Op == 5) then ((c_1.Op == 5)) else ((c_1.Op == 6))) fun u12 : Bool=>bif u12 then (letJ (bif ((len c_1.Parts) == 2) then (letJ (bif (c_1.Name == ([] : Str)) then ((c_1.Day == 0)) else (false)) fun u14 : Bool=>u14) else (false)) fun u13 : Bool=>some u13) else (some false)))))
noncomputable def Ffcc_la_F (slf_Ffcc : Condition→Option Bool) (c_1 : Condition)  (self : Int→Option (Bool ⊕ Unit)) (x3 : Int) : Option (Bool ⊕ Unit) :=
  bif (decide (x3 < (len c_1.Parts))) then ((getI c_1.Parts x3).bind fun e4=>(slf_Ffcc e4).bind fun r5=>bif (!r5) then (some (.inl false)) else (self (w64 (x3 + 1)))) else (some (.inr ()))
noncomputable def Ffcc_la (slf_Ffcc : Condition→Option Bool) (c_1 : Condition)  : Int→Option (Bool ⊕ Unit):=fixO (Ffcc_la_F slf_Ffcc c_1)
theorem Ffcc_la_fin (slf_Ffcc : Condition→Option Bool) (c_1 : Condition)  : ∀ a,Fin1 fun f=>Ffcc_la_F slf_Ffcc c_1 f a:=by
  intro a
  unfold Ffcc_la_F
  repeat first|exact f_const|exact f_self|refine f_cond ?_ ?_|refine f_bindJ ?_ (fun _=>?_)|refine f_bindL ?_ (fun _=>?_)|refine f_bind ?_ (fun _=>?_)|refine f_letJ (fun _=>?_)
theorem Ffcc_la_eq (slf_Ffcc : Condition→Option Bool) (c_1 : Condition)  (x : Int) : Ffcc_la slf_Ffcc c_1 x=Ffcc_la_F slf_Ffcc c_1 (Ffcc_la slf_Ffcc c_1) x:=fix_eq (Ffcc_la_fin slf_Ffcc c_1) x
noncomputable def Ffcc_B (slf_Ffcc : Condition→Option Bool) (c_1 : Condition) : Option Bool :=
  (Ffcb c_1).bind fun r2=>bif (!r2) then (some false) else (bindJ (ρ:=Bool) (Ffcc_la slf_Ffcc c_1 0) fun u6 : Unit=>some true)
noncomputable def Ffcc_G (slf_Ffcc : Condition→Option Bool) (x : Condition) : Option Bool:=Ffcc_B slf_Ffcc x
noncomputable def Ffcc (c_1 : Condition) : Option Bool:=fixO Ffcc_G c_1
theorem Ffcc_fin : ∀ x,Fin1 fun slf_Ffcc=>Ffcc_G slf_Ffcc x:=by
  intro x
  unfold Ffcc_G Ffcc_B
  repeat first|exact f_const|exact f_self|exact f_selfL|exact f_selfR|exact f_selfLL|exact f_selfRL|exact f_selfLLL|exact f_selfRLL|refine f_cond ?_ ?_|refine f_bindJ ?_ (fun _=>?_)|refine f_bindL ?_ (fun _=>?_)|refine f_bind ?_ (fun _=>?_)|refine f_letJ (fun _=>?_)|refine f_fix (fun _=>?_) | unfold Ffcc_la | unfold Ffcc_la_F
theorem Ffcc_eq (c_1 : Condition) : Ffcc c_1=Ffcc_B (fixO Ffcc_G) c_1:=fix_eq Ffcc_fin c_1
noncomputable def Ffcl_la_F (slf_Ffcl : Condition→Option Int) (c_1 : Condition)  (self : (Int × Int)→Option (Int ⊕ Int)) (x2 : Int × Int) : Option (Int ⊕ Int) :=
  bif (decide (x2.2 < (len c_1.Parts))) then ((getI c_1.Parts x2.2).bind fun e3=>(slf_Ffcl e3).bind fun r4=>self ((w64 (x2.1 + r4)),(w64 (x2.2 + 1)))) else (some (.inr x2.1))
noncomputable def Ffcl_la (slf_Ffcl : Condition→Option Int) (c_1 : Condition)  : (Int × Int)→Option (Int ⊕ Int):=fixO (Ffcl_la_F slf_Ffcl c_1)
theorem Ffcl_la_fin (slf_Ffcl : Condition→Option Int) (c_1 : Condition)  : ∀ a,Fin1 fun f=>Ffcl_la_F slf_Ffcl c_1 f a:=by
  intro a
  unfold Ffcl_la_F
  repeat first|exact f_const|exact f_self|refine f_cond ?_ ?_|refine f_bindJ ?_ (fun _=>?_)|refine f_bindL ?_ (fun _=>?_)|refine f_bind ?_ (fun _=>?_)|refine f_letJ (fun _=>?_)
theorem Ffcl_la_eq (slf_Ffcl : Condition→Option Int) (c_1 : Condition)  (x : Int × Int) : Ffcl_la slf_Ffcl c_1 x=Ffcl_la_F slf_Ffcl c_1 (Ffcl_la slf_Ffcl c_1) x:=fix_eq (Ffcl_la_fin slf_Ffcl c_1) x
noncomputable def Ffcl_B (slf_Ffcl : Condition→Option Int) (c_1 : Condition) : Option Int :=
  bindJ (ρ:=Int) (Ffcl_la slf_Ffcl c_1 (1,0)) fun u5 : Int=>some u5
noncomputable def Ffcl_G (slf_Ffcl : Condition→Option Int) (x : Condition) : Option Int:=Ffcl_B slf_Ffcl x
noncomputable def Ffcl (c_1 : Condition) : Option Int:=fixO Ffcl_G c_1
theorem Ffcl_fin : ∀ x,Fin1 fun slf_Ffcl=>Ffcl_G slf_Ffcl x:=by
  intro x
  unfold Ffcl_G Ffcl_B
  repeat first|exact f_const|exact f_self|exact f_selfL|exact f_selfR|exact f_selfLL|exact f_selfRL|exact f_selfLLL|exact f_selfRLL|refine f_cond ?_ ?_|refine f_bindJ ?_ (fun _=>?_)|refine f_bindL ?_ (fun _=>?_)|refine f_bind ?_ (fun _=>?_)|refine f_letJ (fun _=>?_)|refine f_fix (fun _=>?_) | unfold Ffcl_la | unfold Ffcl_la_F
theorem Ffcl_eq (c_1 : Condition) : Ffcl c_1=Ffcl_B (fixO Ffcl_G) c_1:=fix_eq Ffcl_fin c_1
noncomputable def Ffcd (c_1 : Condition) : Option Bool :=
  (Ffcc c_1).bind fun r2=>bindJ (ρ:=Bool) (bif r2 then ((Ffcl c_1).bind fun r4=>some (.inr (decide (r4 ≤ 15)))) else (some (.inr false))) fun u3 : Bool=>some u3
noncomputable def Ffcj_la_F (l_8 : List Str) (s_9 : Str)  (self : Int→Option (((List Str)) ⊕ (Str × Int × (List Str)))) (x3 : Int) : Option (((List Str)) ⊕ (Str × Int × (List Str))) :=
  bindL (ρ:=(List Str)) (bif (decide (x3 < (len l_8))) then ((getI l_8 x3).bind fun e5=>some (.inr (Op.bytesLess e5 s_9))) else (some (.inr false))) fun u4 : Bool=>bif u4 then (self (w64 (x3 + 1))) else (some (.inr (s_9,x3,l_8)))
noncomputable def Ffcj_la (l_8 : List Str) (s_9 : Str)  : Int→Option (((List Str)) ⊕ (Str × Int × (List Str))):=fixO (Ffcj_la_F l_8 s_9)
theorem Ffcj_la_fin (l_8 : List Str) (s_9 : Str)  : ∀ a,Fin1 fun f=>Ffcj_la_F l_8 s_9 f a:=by
  intro a
  unfold Ffcj_la_F
  repeat first|exact f_const|exact f_self|refine f_cond ?_ ?_|refine f_bindJ ?_ (fun _=>?_)|refine f_bindL ?_ (fun _=>?_)|refine f_bind ?_ (fun _=>?_)|refine f_letJ (fun _=>?_)
theorem Ffcj_la_eq (l_8 : List Str) (s_9 : Str)  (x : Int) : Ffcj_la l_8 s_9 x=Ffcj_la_F l_8 s_9 (Ffcj_la l_8 s_9) x:=fix_eq (Ffcj_la_fin l_8 s_9) x
noncomputable def Ffcj (l_8 : List Str) (s_9 : Str) : Option ((List Str)) :=
  bindJ (ρ:=(List Str)) (Ffcj_la l_8 s_9 0) fun u6 : Str × Int × (List Str)=>bindJ (ρ:=(List Str)) (bif (decide (u6.2.1 < (len u6.2.2))) then ((getI u6.2.2 u6.2.1).bind fun e15=>some (.inr (e15 == u6.1))) else (some (.inr false))) fun u7 : Bool=>bif u7 then (some u6.2.2) else ((subP u6.2.2.length 0 u6.2.1).bind fun s8=>(partP u6.2.2 (0 + Int.toNat (0)) (Int.toNat (u6.2.1) - Int.toNat (0))).bind fun p9=>(appI 16 ([] : List Str) p9).bind fun a10=>(appI 16 a10 [u6.1]).bind fun a11=>(subP u6.2.2.length u6.2.1 (len u6.2.2)).bind fun s12=>(partP u6.2.2 (0 + Int.toNat (u6.2.1)) (Int.toNat (len u6.2.2) - Int.toNat (u6.2.1))).bind fun p13=>(appI 16 a11 p13).bind fun a14=>some a14)
noncomputable def Ffci_la_F (slf_Ffci : ((List Str) × Condition)→Option ((List Str))) (l_4 : List Str) (c_5 : Condition)  (self : (Int × (List Str))→Option (((List Str)) ⊕ ((List Str)))) (x4 : Int × (List Str)) : Option (((List Str)) ⊕ ((List Str))) :=
  bif (decide (x4.1 < (len c_5.Parts))) then ((getI c_5.Parts x4.1).bind fun e5=>(slf_Ffci (x4.2,e5)).bind fun r6=>self ((w64 (x4.1 + 1)),r6)) else (some (.inr x4.2))
noncomputable def Ffci_la (slf_Ffci : ((List Str) × Condition)→Option ((List Str))) (l_4 : List Str) (c_5 : Condition)  : (Int × (List Str))→Option (((List Str)) ⊕ ((List Str))):=fixO (Ffci_la_F slf_Ffci l_4 c_5)
theorem Ffci_la_fin (slf_Ffci : ((List Str) × Condition)→Option ((List Str))) (l_4 : List Str) (c_5 : Condition)  : ∀ a,Fin1 fun f=>Ffci_la_F slf_Ffci l_4 c_5 f a:=by
  intro a
  unfold Ffci_la_F
  repeat first|exact f_const|exact f_self|refine f_cond ?_ ?_|refine f_bindJ ?_ (fun _=>?_)|refine f_bindL ?_ (fun _=>?_)|refine f_bind ?_ (fun _=>?_)|refine f_letJ (fun _=>?_)
theorem Ffci_la_eq (slf_Ffci : ((List Str) × Condition)→Option ((List Str))) (l_4 : List Str) (c_5 : Condition)  (x : Int × (List Str)) : Ffci_la slf_Ffci l_4 c_5 x=Ffci_la_F slf_Ffci l_4 c_5 (Ffci_la slf_Ffci l_4 c_5) x:=fix_eq (Ffci_la_fin slf_Ffci l_4 c_5) x
noncomputable def Ffci_B (slf_Ffci : ((List Str) × Condition)→Option ((List Str))) (l_4 : List Str) (c_5 : Condition) : Option ((List Str)) :=
  bif (c_5.Op == 2) then ((Ffcj l_4 c_5.Name).bind fun r3=>some r3) else (bindJ (ρ:=(List Str)) (Ffci_la slf_Ffci l_4 c_5 (0,l_4)) fun u7 : (List Str)=>some u7)
noncomputable def Ffci_G (slf_Ffci : ((List Str) × Condition)→Option ((List Str))) (x : (List Str) × Condition) : Option ((List Str)):=Ffci_B slf_Ffci x.1 x.2
noncomputable def Ffci (l_4 : List Str) (c_5 : Condition) : Option ((List Str)):=fixO Ffci_G (l_4,c_5)
theorem Ffci_fin : ∀ x,Fin1 fun slf_Ffci=>Ffci_G slf_Ffci x:=by
  intro x
  unfold Ffci_G Ffci_B
  repeat first|exact f_const|exact f_self|exact f_selfL|exact f_selfR|exact f_selfLL|exact f_selfRL|exact f_selfLLL|exact f_selfRLL|refine f_cond ?_ ?_|refine f_bindJ ?_ (fun _=>?_)|refine f_bindL ?_ (fun _=>?_)|refine f_bind ?_ (fun _=>?_)|refine f_letJ (fun _=>?_)|refine f_fix (fun _=>?_) | unfold Ffci_la | unfold Ffci_la_F
theorem Ffci_eq (l_4 : List Str) (c_5 : Condition) : Ffci l_4 c_5=Ffci_B (fixO Ffci_G) l_4 c_5:=fix_eq Ffci_fin (l_4,c_5)
noncomputable def Ffbw (a_1 : Condition) (b_2 : Condition) : Option Bool :=
  (Ffci [] a_1).bind fun r3=>(Ffci r3 b_2).bind fun r4=>some (decide ((len r4) ≤ 10))
noncomputable def Ffby_la_F (l_8 : List Int) (n_9 : Int)  (self : Int→Option (((List Int)) ⊕ (Int × Int × (List Int)))) (x3 : Int) : Option (((List Int)) ⊕ (Int × Int × (List Int))) :=
  bindL (ρ:=(List Int)) (bif (decide (x3 < (len l_8))) then ((getI l_8 x3).bind fun e5=>some (.inr (decide (e5 < n_9)))) else (some (.inr false))) fun u4 : Bool=>bif u4 then (self (w64 (x3 + 1))) else (some (.inr (n_9,x3,l_8)))
noncomputable def Ffby_la (l_8 : List Int) (n_9 : Int)  : Int→Option (((List Int)) ⊕ (Int × Int × (List Int))):=fixO (Ffby_la_F l_8 n_9)
theorem Ffby_la_fin (l_8 : List Int) (n_9 : Int)  : ∀ a,Fin1 fun f=>Ffby_la_F l_8 n_9 f a:=by
  intro a
  unfold Ffby_la_F
  repeat first|exact f_const|exact f_self|refine f_cond ?_ ?_|refine f_bindJ ?_ (fun _=>?_)|refine f_bindL ?_ (fun _=>?_)|refine f_bind ?_ (fun _=>?_)|refine f_letJ (fun _=>?_)
theorem Ffby_la_eq (l_8 : List Int) (n_9 : Int)  (x : Int) : Ffby_la l_8 n_9 x=Ffby_la_F l_8 n_9 (Ffby_la l_8 n_9) x:=fix_eq (Ffby_la_fin l_8 n_9) x
noncomputable def Ffby (l_8 : List Int) (n_9 : Int) : Option ((List Int)) :=
  bindJ (ρ:=(List Int)) (Ffby_la l_8 n_9 0) fun u6 : Int × Int × (List Int)=>bindJ (ρ:=(List Int)) (bif (decide (u6.2.1 < (len u6.2.2))) then ((getI u6.2.2 u6.2.1).bind fun e15=>some (.inr (e15 == u6.1))) else (some (.inr false))) fun u7 : Bool=>bif u7 then (some u6.2.2) else ((subP u6.2.2.length 0 u6.2.1).bind fun s8=>(partP u6.2.2 (0 + Int.toNat (0)) (Int.toNat (u6.2.1) - Int.toNat (0))).bind fun p9=>(appI 8 ([] : List Int) p9).bind fun a10=>(appI 8 a10 [u6.1]).bind fun a11=>(subP u6.2.2.length u6.2.1 (len u6.2.2)).bind fun s12=>(partP u6.2.2 (0 + Int.toNat (u6.2.1)) (Int.toNat (len u6.2.2) - Int.toNat (u6.2.1))).bind fun p13=>(appI 8 a11 p13).bind fun a14=>some a14)
noncomputable def Ffca_la_F (slf_Ffca : ((List Int) × Condition)→Option ((List Int))) (l_4 : List Int) (c_5 : Condition)  (self : (Int × (List Int))→Option (((List Int)) ⊕ ((List Int)))) (x4 : Int × (List Int)) : Option (((List Int)) ⊕ ((List Int))) :=
  bif (decide (x4.1 < (len c_5.Parts))) then ((getI c_5.Parts x4.1).bind fun e5=>(slf_Ffca (x4.2,e5)).bind fun r6=>self ((w64 (x4.1 + 1)),r6)) else (some (.inr x4.2))
noncomputable def Ffca_la (slf_Ffca : ((List Int) × Condition)→Option ((List Int))) (l_4 : List Int) (c_5 : Condition)  : (Int × (List Int))→Option (((List Int)) ⊕ ((List Int))):=fixO (Ffca_la_F slf_Ffca l_4 c_5)
theorem Ffca_la_fin (slf_Ffca : ((List Int) × Condition)→Option ((List Int))) (l_4 : List Int) (c_5 : Condition)  : ∀ a,Fin1 fun f=>Ffca_la_F slf_Ffca l_4 c_5 f a:=by
  intro a
  unfold Ffca_la_F
  repeat first|exact f_const|exact f_self|refine f_cond ?_ ?_|refine f_bindJ ?_ (fun _=>?_)|refine f_bindL ?_ (fun _=>?_)|refine f_bind ?_ (fun _=>?_)|refine f_letJ (fun _=>?_)
theorem Ffca_la_eq (slf_Ffca : ((List Int) × Condition)→Option ((List Int))) (l_4 : List Int) (c_5 : Condition)  (x : Int × (List Int)) : Ffca_la slf_Ffca l_4 c_5 x=Ffca_la_F slf_Ffca l_4 c_5 (Ffca_la slf_Ffca l_4 c_5) x:=fix_eq (Ffca_la_fin slf_Ffca l_4 c_5) x
noncomputable def Ffca_B (slf_Ffca : ((List Int) × Condition)→Option ((List Int))) (l_4 : List Int) (c_5 : Condition) : Option ((List Int)) :=
  bif (c_5.Op == 3) then ((Ffby l_4 c_5.Day).bind fun r3=>some r3) else (bindJ (ρ:=(List Int)) (Ffca_la slf_Ffca l_4 c_5 (0,l_4)) fun u7 : (List Int)=>some u7)
noncomputable def Ffca_G (slf_Ffca : ((List Int) × Condition)→Option ((List Int))) (x : (List Int) × Condition) : Option ((List Int)):=Ffca_B slf_Ffca x.1 x.2
noncomputable def Ffca (l_4 : List Int) (c_5 : Condition) : Option ((List Int)):=fixO Ffca_G (l_4,c_5)
theorem Ffca_fin : ∀ x,Fin1 fun slf_Ffca=>Ffca_G slf_Ffca x:=by
  intro x
  unfold Ffca_G Ffca_B
  repeat first|exact f_const|exact f_self|exact f_selfL|exact f_selfR|exact f_selfLL|exact f_selfRL|exact f_selfLLL|exact f_selfRLL|refine f_cond ?_ ?_|refine f_bindJ ?_ (fun _=>?_)|refine f_bindL ?_ (fun _=>?_)|refine f_bind ?_ (fun _=>?_)|refine f_letJ (fun _=>?_)|refine f_fix (fun _=>?_) | unfold Ffca_la | unfold Ffca_la_F
theorem Ffca_eq (l_4 : List Int) (c_5 : Condition) : Ffca l_4 c_5=Ffca_B (fixO Ffca_G) l_4 c_5:=fix_eq Ffca_fin (l_4,c_5)
noncomputable def Ffcm_la_F (names_1 : List Str) (mask_2 : Int)  (self : (Int × (List Str))→Option (((List Str)) ⊕ ((List Str)))) (x3 : Int × (List Str)) : Option (((List Str)) ⊕ ((List Str))) :=
  bif (decide (x3.1 < (len names_1))) then ((shrO .i64 mask_2 (IntKind.u64.wrap x3.1)).bind fun q4=>bindL (ρ:=(List Str)) (bif ((andI .i64 q4 1) == 1) then ((getI names_1 x3.1).bind fun e6=>(appI 16 x3.2 [e6]).bind fun a7=>some (.inr a7)) else (some (.inr x3.2))) fun u5 : (List Str)=>self ((w64 (x3.1 + 1)),u5)) else (some (.inr x3.2))
noncomputable def Ffcm_la (names_1 : List Str) (mask_2 : Int)  : (Int × (List Str))→Option (((List Str)) ⊕ ((List Str))):=fixO (Ffcm_la_F names_1 mask_2)
theorem Ffcm_la_fin (names_1 : List Str) (mask_2 : Int)  : ∀ a,Fin1 fun f=>Ffcm_la_F names_1 mask_2 f a:=by
  intro a
  unfold Ffcm_la_F
  repeat first|exact f_const|exact f_self|refine f_cond ?_ ?_|refine f_bindJ ?_ (fun _=>?_)|refine f_bindL ?_ (fun _=>?_)|refine f_bind ?_ (fun _=>?_)|refine f_letJ (fun _=>?_)
theorem Ffcm_la_eq (names_1 : List Str) (mask_2 : Int)  (x : Int × (List Str)) : Ffcm_la names_1 mask_2 x=Ffcm_la_F names_1 mask_2 (Ffcm_la names_1 mask_2) x:=fix_eq (Ffcm_la_fin names_1 mask_2) x
noncomputable def Ffcm (names_1 : List Str) (mask_2 : Int) : Option ((List Str)) :=
  bindJ (ρ:=(List Str)) (Ffcm_la names_1 mask_2 (0,[])) fun u8 : (List Str)=>some u8
noncomputable def Ffce_la_F (list_1 : List Str) (name_2 : Str)  (self : Int→Option (Bool ⊕ Unit)) (x3 : Int) : Option (Bool ⊕ Unit) :=
  bif (decide (x3 < (len list_1))) then ((getI list_1 x3).bind fun e4=>bif (e4 == name_2) then (some (.inl true)) else (self (w64 (x3 + 1)))) else (some (.inr ()))
noncomputable def Ffce_la (list_1 : List Str) (name_2 : Str)  : Int→Option (Bool ⊕ Unit):=fixO (Ffce_la_F list_1 name_2)
theorem Ffce_la_fin (list_1 : List Str) (name_2 : Str)  : ∀ a,Fin1 fun f=>Ffce_la_F list_1 name_2 f a:=by
  intro a
  unfold Ffce_la_F
  repeat first|exact f_const|exact f_self|refine f_cond ?_ ?_|refine f_bindJ ?_ (fun _=>?_)|refine f_bindL ?_ (fun _=>?_)|refine f_bind ?_ (fun _=>?_)|refine f_letJ (fun _=>?_)
theorem Ffce_la_eq (list_1 : List Str) (name_2 : Str)  (x : Int) : Ffce_la list_1 name_2 x=Ffce_la_F list_1 name_2 (Ffce_la list_1 name_2) x:=fix_eq (Ffce_la_fin list_1 name_2) x
noncomputable def Ffce (list_1 : List Str) (name_2 : Str) : Option Bool :=
  bindJ (ρ:=Bool) (Ffce_la list_1 name_2 0) fun u5 : Unit=>some false
noncomputable def Ffcf_B (slf_Ffcf : (Condition × (List Str) × Int)→Option Bool) (c_1 : Condition) (facts_2 : List Str) (day_3 : Int) : Option Bool :=
  bif (c_1.Op == 1) then (some true) else (bif (c_1.Op == 2) then ((Ffce facts_2 c_1.Name).bind fun r4=>some r4) else (bif (c_1.Op == 3) then (some (decide (day_3 ≥ c_1.Day))) else (bif (c_1.Op == 4) then ((getI c_1.Parts 0).bind fun e5=>(slf_Ffcf (e5,facts_2,day_3)).bind fun r6=>some (!r6)) else (bif (c_1.Op == 5) then ((getI c_1.Parts 0).bind fun e7=>(slf_Ffcf (e7,facts_2,day_3)).bind fun r8=>bindJ (ρ:=Bool) (bif r8 then ((getI c_1.Parts 1).bind fun e10=>(slf_Ffcf (e10,facts_2,day_3)).bind fun r11=>some (.inr r11)) else (some (.inr false))) fun u9 : Bool=>some u9) else ((getI c_1.Parts 0).bind fun e12=>(slf_Ffcf (e12,facts_2,day_3)).bind fun r13=>bindJ (ρ:=Bool) (bif r13 then (some (.inr true)) else ((getI c_1.Parts 1).bind fun e15=>(slf_Ffcf (e15,facts_2,day_3)).bind fun r16=>some (.inr r16))) fun u14 : Bool=>some u14)))))
noncomputable def Ffcf_G (slf_Ffcf : (Condition × (List Str) × Int)→Option Bool) (x : Condition × (List Str) × Int) : Option Bool:=Ffcf_B slf_Ffcf x.1 x.2.1 x.2.2
noncomputable def Ffcf (c_1 : Condition) (facts_2 : List Str) (day_3 : Int) : Option Bool:=fixO Ffcf_G (c_1,facts_2,day_3)
theorem Ffcf_fin : ∀ x,Fin1 fun slf_Ffcf=>Ffcf_G slf_Ffcf x:=by
  intro x
  unfold Ffcf_G Ffcf_B
  repeat first|exact f_const|exact f_self|refine f_cond ?_ ?_|refine f_bindJ ?_ (fun _=>?_)|refine f_bindL ?_ (fun _=>?_)|refine f_bind ?_ (fun _=>?_)|refine f_letJ (fun _=>?_)
theorem Ffcf_eq (c_1 : Condition) (facts_2 : List Str) (day_3 : Int) : Ffcf c_1 facts_2 day_3=Ffcf_B (fixO Ffcf_G) c_1 facts_2 day_3:=fix_eq Ffcf_fin (c_1,facts_2,day_3)
noncomputable def Ffcg_lb_F (a_1 : Condition) (b_2 : Condition) (r7 : (List Int)) (r10 : (List Str)) (r4 : (List Str)) (x8 : Int) (self : Int→Option (Bool ⊕ Unit)) (x11 : Int) : Option (Bool ⊕ Unit) :=
  bif (decide (x11 < (len r7))) then ((getI r7 x11).bind fun e12=>(Ffcf a_1 r10 e12).bind fun r13=>bindL (ρ:=Bool) (bif r13 then ((getI r7 x11).bind fun e15=>(Ffcf b_2 r10 e15).bind fun r16=>some (.inr (!r16))) else (some (.inr false))) fun u14 : Bool=>bif u14 then (some (.inl false)) else (self (w64 (x11 + 1)))) else (some (.inr ()))
noncomputable def Ffcg_lb (a_1 : Condition) (b_2 : Condition) (r7 : (List Int)) (r10 : (List Str)) (r4 : (List Str)) (x8 : Int) : Int→Option (Bool ⊕ Unit):=fixO (Ffcg_lb_F a_1 b_2 r7 r10 r4 x8)
theorem Ffcg_lb_fin (a_1 : Condition) (b_2 : Condition) (r7 : (List Int)) (r10 : (List Str)) (r4 : (List Str)) (x8 : Int) : ∀ a,Fin1 fun f=>Ffcg_lb_F a_1 b_2 r7 r10 r4 x8 f a:=by
  intro a
  unfold Ffcg_lb_F
  repeat first|exact f_const|exact f_self|refine f_cond ?_ ?_|refine f_bindJ ?_ (fun _=>?_)|refine f_bindL ?_ (fun _=>?_)|refine f_bind ?_ (fun _=>?_)|refine f_letJ (fun _=>?_)
theorem Ffcg_lb_eq (a_1 : Condition) (b_2 : Condition) (r7 : (List Int)) (r10 : (List Str)) (r4 : (List Str)) (x8 : Int) (x : Int) : Ffcg_lb a_1 b_2 r7 r10 r4 x8 x=Ffcg_lb_F a_1 b_2 r7 r10 r4 x8 (Ffcg_lb a_1 b_2 r7 r10 r4 x8) x:=fix_eq (Ffcg_lb_fin a_1 b_2 r7 r10 r4 x8) x
noncomputable def Ffcg_la_F (a_1 : Condition) (b_2 : Condition) (r4 : (List Str)) (r7 : (List Int)) (self : Int→Option (Bool ⊕ Unit)) (x8 : Int) : Option (Bool ⊕ Unit) :=
  (shlO .i64 1 (IntKind.u64.wrap (len r4))).bind fun q9=>bif (decide (x8 < q9)) then ((Ffcm r4 x8).bind fun r10=>bindL (ρ:=Bool) (Ffcg_lb a_1 b_2 r7 r10 r4 x8 0) fun u17 : Unit=>self (w64 (x8 + 1))) else (some (.inr ()))
noncomputable def Ffcg_la (a_1 : Condition) (b_2 : Condition) (r4 : (List Str)) (r7 : (List Int)) : Int→Option (Bool ⊕ Unit):=fixO (Ffcg_la_F a_1 b_2 r4 r7)
theorem Ffcg_la_fin (a_1 : Condition) (b_2 : Condition) (r4 : (List Str)) (r7 : (List Int)) : ∀ a,Fin1 fun f=>Ffcg_la_F a_1 b_2 r4 r7 f a:=by
  intro a
  unfold Ffcg_la_F
  repeat first|exact f_const|exact f_self|refine f_cond ?_ ?_|refine f_bindJ ?_ (fun _=>?_)|refine f_bindL ?_ (fun _=>?_)|refine f_bind ?_ (fun _=>?_)|refine f_letJ (fun _=>?_)
theorem Ffcg_la_eq (a_1 : Condition) (b_2 : Condition) (r4 : (List Str)) (r7 : (List Int)) (x : Int) : Ffcg_la a_1 b_2 r4 r7 x=Ffcg_la_F a_1 b_2 r4 r7 (Ffcg_la a_1 b_2 r4 r7) x:=fix_eq (Ffcg_la_fin a_1 b_2 r4 r7) x
noncomputable def Ffcg (a_1 : Condition) (b_2 : Condition) : Option Bool :=
  (Ffci [] a_1).bind fun r3=>(Ffci r3 b_2).bind fun r4=>(Ffca [] a_1).bind fun r5=>(Ffca r5 b_2).bind fun r6=>(Ffby r6 0).bind fun r7=>bindJ (ρ:=Bool) (Ffcg_la a_1 b_2 r4 r7 0) fun u18 : Unit=>some true
noncomputable def Ffbx (a_1 : Condition) (b_2 : Condition) : Option Bool :=
  (Ffcg a_1 (Condition.mk 4 [] 0 [b_2])).bind fun r3=>some (!r3)
noncomputable def Ffbv (a_1 : Condition) (b_2 : Condition) : Option (Bool × Bool) :=
  (Ffcd a_1).bind fun r3=>bindJ (ρ:=Bool × Bool) (bif (!r3) then (some (.inr true)) else ((Ffcd b_2).bind fun r6=>bindL (ρ:=Bool × Bool) (bif (!r6) then (some (.inr true)) else ((Ffbw a_1 b_2).bind fun r8=>some (.inr (!r8)))) fun u7 : Bool=>some (.inr u7))) fun u4 : Bool=>bif u4 then (some (false,false)) else ((Ffbx a_1 b_2).bind fun r5=>some (r5,true))
noncomputable def Ffm (n_1 : Int) (low_2 : Int) (high_3 : Int) : Option Bool :=
  letJ (bif (decide (n_1 ≥ low_2)) then ((decide (n_1 ≤ high_3))) else (false)) fun u4 : Bool=>some u4
noncomputable def Ffo (s_1 : Str) (c_2 : Int) : Option Int :=
  (xIndexByteString s_1 c_2).bind fun r3=>some r3
noncomputable def Ffn (s_1 : Str) (substr_2 : Str) : Option Int :=
  letJ (bif ((len substr_2) == 0) then (true) else ((substr_2 == s_1))) fun u3 : Bool=>bif u3 then (some 0) else (bif ((len substr_2) == 1) then ((getI substr_2 0).bind fun c4=>(Ffo s_1 (c4.toNat : Int)).bind fun r5=>some r5) else (bif (decide ((len substr_2) ≥ (len s_1))) then (some (-1)) else (none)))
noncomputable def Ffco (s_1 : Str) (substr_2 : Str) : Option Int :=
  (Ffn s_1 substr_2).bind fun r3=>some r3
noncomputable def Ffcn_la_F (s_1 : Str) (substr_2 : Str)  (self : (Str × Int)→Option (Int ⊕ Unit)) (x5 : Str × Int) : Option (Int ⊕ Unit) :=
  (Ffco x5.1 substr_2).bind fun r6=>bif (r6 == (-1)) then (some (.inl x5.2)) else ((subI x5.1 (w64 (r6 + (len substr_2))) (len x5.1)).bind fun s7=>self (s7,(w64 (x5.2 + 1))))
noncomputable def Ffcn_la (s_1 : Str) (substr_2 : Str)  : (Str × Int)→Option (Int ⊕ Unit):=fixO (Ffcn_la_F s_1 substr_2)
theorem Ffcn_la_fin (s_1 : Str) (substr_2 : Str)  : ∀ a,Fin1 fun f=>Ffcn_la_F s_1 substr_2 f a:=by
  intro a
  unfold Ffcn_la_F
  repeat first|exact f_const|exact f_self|refine f_cond ?_ ?_|refine f_bindJ ?_ (fun _=>?_)|refine f_bindL ?_ (fun _=>?_)|refine f_bind ?_ (fun _=>?_)|refine f_letJ (fun _=>?_)
theorem Ffcn_la_eq (s_1 : Str) (substr_2 : Str)  (x : Str × Int) : Ffcn_la s_1 substr_2 x=Ffcn_la_F s_1 substr_2 (Ffcn_la s_1 substr_2) x:=fix_eq (Ffcn_la_fin s_1 substr_2) x
noncomputable def Ffcn (s_1 : Str) (substr_2 : Str) : Option Int :=
  bif ((len substr_2) == 0) then (none) else (bif ((len substr_2) == 1) then ((getI substr_2 0).bind fun c3=>(xCountString s_1 (c3.toNat : Int)).bind fun r4=>some r4) else (bindJ (ρ:=Int) (Ffcn_la s_1 substr_2 (s_1,0)) fun u8 : Unit=>none))
noncomputable def Ffcq_la_F (s_1 : Str) (sep_2 : Str) (sepSave_3 : Int) (n_4 : Int) (u5 : Int) (self : (Str × Int × (List Str))→Option (((List Str)) ⊕ (Str × Int × (List Str)))) (x7 : Str × Int × (List Str)) : Option (((List Str)) ⊕ (Str × Int × (List Str))) :=
  bif (decide (x7.2.1 < (w64 ((if (w64 ((len s_1) + 1)) < u5 then (w64 ((len s_1) + 1)) else u5) - 1)))) then ((Ffco x7.1 sep_2).bind fun r8=>bif (decide (r8 < 0)) then (some (.inr (x7.1,x7.2.1,x7.2.2))) else ((subI x7.1 0 (w64 (r8 + sepSave_3))).bind fun s9=>(getI x7.2.2 x7.2.1).bind fun e10=>(subI x7.1 (w64 (r8 + (len sep_2))) (len x7.1)).bind fun s11=>self (s11,(w64 (x7.2.1 + 1)),(setI x7.2.2 x7.2.1 s9)))) else (some (.inr (x7.1,x7.2.1,x7.2.2)))
noncomputable def Ffcq_la (s_1 : Str) (sep_2 : Str) (sepSave_3 : Int) (n_4 : Int) (u5 : Int) : (Str × Int × (List Str))→Option (((List Str)) ⊕ (Str × Int × (List Str))):=fixO (Ffcq_la_F s_1 sep_2 sepSave_3 n_4 u5)
theorem Ffcq_la_fin (s_1 : Str) (sep_2 : Str) (sepSave_3 : Int) (n_4 : Int) (u5 : Int) : ∀ a,Fin1 fun f=>Ffcq_la_F s_1 sep_2 sepSave_3 n_4 u5 f a:=by
  intro a
  unfold Ffcq_la_F
  repeat first|exact f_const|exact f_self|refine f_cond ?_ ?_|refine f_bindJ ?_ (fun _=>?_)|refine f_bindL ?_ (fun _=>?_)|refine f_bind ?_ (fun _=>?_)|refine f_letJ (fun _=>?_)
theorem Ffcq_la_eq (s_1 : Str) (sep_2 : Str) (sepSave_3 : Int) (n_4 : Int) (u5 : Int) (x : Str × Int × (List Str)) : Ffcq_la s_1 sep_2 sepSave_3 n_4 u5 x=Ffcq_la_F s_1 sep_2 sepSave_3 n_4 u5 (Ffcq_la s_1 sep_2 sepSave_3 n_4 u5) x:=fix_eq (Ffcq_la_fin s_1 sep_2 sepSave_3 n_4 u5) x
noncomputable def Ffcq (s_1 : Str) (sep_2 : Str) (sepSave_3 : Int) (n_4 : Int) : Option ((List Str)) :=
  bif (n_4 == 0) then (some []) else (bif (sep_2 == ([] : Str)) then (none) else (bindJ (ρ:=(List Str)) (bif (decide (n_4 < 0)) then ((Ffcn s_1 sep_2).bind fun r16=>some (.inr (w64 (r16 + 1)))) else (some (.inr n_4))) fun u5 : Int=>(mkI 16 [] (if (w64 ((len s_1) + 1)) < u5 then (w64 ((len s_1) + 1)) else u5)).bind fun m6=>bindJ (ρ:=(List Str)) (Ffcq_la s_1 sep_2 sepSave_3 n_4 u5 (s_1,0,m6)) fun u12 : Str × Int × (List Str)=>(getI u12.2.2 u12.2.1).bind fun e13=>(subP (setI u12.2.2 u12.2.1 u12.1).length 0 (w64 (u12.2.1 + 1))).bind fun s14=>(partP (setI u12.2.2 u12.2.1 u12.1) (0 + Int.toNat (0)) (Int.toNat ((w64 (u12.2.1 + 1))) - Int.toNat (0))).bind fun p15=>some p15))
noncomputable def Ffcp (s_1 : Str) (sep_2 : Str) : Option ((List Str)) :=
  (Ffcq s_1 sep_2 0 (-1)).bind fun r3=>some r3
noncomputable def Ffbe_la_F (s_1 : List Str) (v_2 : Str)  (self : Int→Option (Int ⊕ Unit)) (x3 : Int) : Option (Int ⊕ Unit) :=
  bif (decide (x3 < (len s_1))) then ((getI s_1 x3).bind fun e4=>bif (v_2 == e4) then (some (.inl x3)) else (self (w64 (x3 + 1)))) else (some (.inr ()))
noncomputable def Ffbe_la (s_1 : List Str) (v_2 : Str)  : Int→Option (Int ⊕ Unit):=fixO (Ffbe_la_F s_1 v_2)
theorem Ffbe_la_fin (s_1 : List Str) (v_2 : Str)  : ∀ a,Fin1 fun f=>Ffbe_la_F s_1 v_2 f a:=by
  intro a
  unfold Ffbe_la_F
  repeat first|exact f_const|exact f_self|refine f_cond ?_ ?_|refine f_bindJ ?_ (fun _=>?_)|refine f_bindL ?_ (fun _=>?_)|refine f_bind ?_ (fun _=>?_)|refine f_letJ (fun _=>?_)
theorem Ffbe_la_eq (s_1 : List Str) (v_2 : Str)  (x : Int) : Ffbe_la s_1 v_2 x=Ffbe_la_F s_1 v_2 (Ffbe_la s_1 v_2) x:=fix_eq (Ffbe_la_fin s_1 v_2) x
noncomputable def Ffbe (s_1 : List Str) (v_2 : Str) : Option Int :=
  bindJ (ρ:=Int) (Ffbe_la s_1 v_2 0) fun u5 : Unit=>some (-1)
noncomputable def Ffbd (s_1 : List Str) (v_2 : Str) : Option Bool :=
  (Ffbe s_1 v_2).bind fun r3=>some (decide (r3 ≥ 0))
noncomputable def Ffe_la_F (s_1 : Str)  (self : Int→Option (Bool ⊕ Unit)) (x4 : Int) : Option (Bool ⊕ Unit) :=
  bif (decide (x4 < (len s_1))) then ((getI s_1 x4).bind fun c5=>letJ (bif (decide ((c5.toNat : Int) < 97)) then (letJ (bif (decide ((c5.toNat : Int) < 48)) then (true) else ((decide ((c5.toNat : Int) > 57)))) fun u7 : Bool=>u7) else (letJ (bif (decide ((c5.toNat : Int) > 122)) then (letJ (bif (decide ((c5.toNat : Int) < 48)) then (true) else ((decide ((c5.toNat : Int) > 57)))) fun u9 : Bool=>u9) else (false)) fun u8 : Bool=>u8)) fun u6 : Bool=>bif u6 then (some (.inl false)) else (self (w64 (x4 + 1)))) else (some (.inr ()))
noncomputable def Ffe_la (s_1 : Str)  : Int→Option (Bool ⊕ Unit):=fixO (Ffe_la_F s_1)
theorem Ffe_la_fin (s_1 : Str)  : ∀ a,Fin1 fun f=>Ffe_la_F s_1 f a:=by
  intro a
  unfold Ffe_la_F
  repeat first|exact f_const|exact f_self|refine f_cond ?_ ?_|refine f_bindJ ?_ (fun _=>?_)|refine f_bindL ?_ (fun _=>?_)|refine f_bind ?_ (fun _=>?_)|refine f_letJ (fun _=>?_)
theorem Ffe_la_eq (s_1 : Str)  (x : Int) : Ffe_la s_1 x=Ffe_la_F s_1 (Ffe_la s_1) x:=fix_eq (Ffe_la_fin s_1) x
noncomputable def Ffe (s_1 : Str) : Option Bool :=
  (Ffm (len s_1) 1 8).bind fun r2=>bindJ (ρ:=Bool) (bif (!r2) then (some (.inr true)) else ((getI s_1 0).bind fun c13=>bindL (ρ:=Bool) (bif (decide ((c13.toNat : Int) < 97)) then (some (.inr true)) else ((getI s_1 0).bind fun c15=>some (.inr (decide ((c15.toNat : Int) > 122))))) fun u14 : Bool=>some (.inr u14))) fun u3 : Bool=>bif u3 then (some false) else (bindJ (ρ:=Bool) (Ffe_la s_1 0) fun u10 : Unit=>(Ffcp ([116,114,117,101,32,102,114,111,109,32,110,111,116,32,97,110,100,32,111,114,32,98,111,116,104,32,101,105,116,104,101,114,32,105,116,32,105,110] : Str) ([32] : Str)).bind fun r11=>(Ffbd r11 s_1).bind fun r12=>some (!r12))
noncomputable def Ffj (day_1 : Int) : Option Bool :=
  (Ffm day_1 0 36524).bind fun r2=>some r2
noncomputable def Ffh_la_F (slf_Ffh : (Condition × Int)→Option Int) (c_1 : Condition) (so_2 : Int)  (self : (Int × Int)→Option (Int ⊕ Int)) (x5 : Int × Int) : Option (Int ⊕ Int) :=
  bif (decide (x5.2 < (len c_1.Parts))) then ((getI c_1.Parts x5.2).bind fun e6=>(slf_Ffh (e6,x5.1)).bind fun r7=>bif (decide (r7 < 0)) then (some (.inl (-1))) else (self (r7,(w64 (x5.2 + 1))))) else (some (.inr x5.1))
noncomputable def Ffh_la (slf_Ffh : (Condition × Int)→Option Int) (c_1 : Condition) (so_2 : Int)  : (Int × Int)→Option (Int ⊕ Int):=fixO (Ffh_la_F slf_Ffh c_1 so_2)
theorem Ffh_la_fin (slf_Ffh : (Condition × Int)→Option Int) (c_1 : Condition) (so_2 : Int)  : ∀ a,Fin1 fun f=>Ffh_la_F slf_Ffh c_1 so_2 f a:=by
  intro a
  unfold Ffh_la_F
  repeat first|exact f_const|exact f_self|refine f_cond ?_ ?_|refine f_bindJ ?_ (fun _=>?_)|refine f_bindL ?_ (fun _=>?_)|refine f_bind ?_ (fun _=>?_)|refine f_letJ (fun _=>?_)
theorem Ffh_la_eq (slf_Ffh : (Condition × Int)→Option Int) (c_1 : Condition) (so_2 : Int)  (x : Int × Int) : Ffh_la slf_Ffh c_1 so_2 x=Ffh_la_F slf_Ffh c_1 so_2 (Ffh_la slf_Ffh c_1 so_2) x:=fix_eq (Ffh_la_fin slf_Ffh c_1 so_2) x
noncomputable def Ffh_B (slf_Ffh : (Condition × Int)→Option Int) (c_1 : Condition) (so_2 : Int) : Option Int :=
  bindJ (ρ:=Int) (bif (decide ((w64 (so_2 + 1)) > 15)) then (some (.inr true)) else ((Ffm c_1.Op 1 6).bind fun r20=>bindL (ρ:=Int) (bif (!r20) then (some (.inr true)) else ((getI [(-1),0,0,0,1,2,2] c_1.Op).bind fun e22=>some (.inr ((len c_1.Parts) != e22)))) fun u21 : Bool=>some (.inr u21))) fun u3 : Bool=>bif u3 then (some (-1)) else (bindJ (ρ:=Int) (bif (!((c_1.Op == 2) == (!(c_1.Name == ([] : Str))))) then (some (.inr true)) else (bindL (ρ:=Int) (bif (c_1.Op == 2) then ((Ffe c_1.Name).bind fun r10=>bindL (ρ:=Int) (bif (!r10) then (some (.inr true)) else (bindL (ρ:=Int) (bif (c_1.Op != 3) then (bindL (ρ:=Int) (bif (c_1.Day != 0) then (some (.inr true)) else ((Ffj c_1.Day).bind fun r14=>some (.inr (!r14)))) fun u13 : Bool=>some (.inr u13)) else ((Ffj c_1.Day).bind fun r15=>some (.inr (!r15)))) fun u12 : Bool=>some (.inr u12))) fun u11 : Bool=>some (.inr u11)) else (bindL (ρ:=Int) (bif (c_1.Op != 3) then (bindL (ρ:=Int) (bif (c_1.Day != 0) then (some (.inr true)) else ((Ffj c_1.Day).bind fun r18=>some (.inr (!r18)))) fun u17 : Bool=>some (.inr u17)) else ((Ffj c_1.Day).bind fun r19=>some (.inr (!r19)))) fun u16 : Bool=>some (.inr u16))) fun u9 : Bool=>some (.inr u9))) fun u4 : Bool=>bif u4 then (some (-1)) else (bindJ (ρ:=Int) (Ffh_la slf_Ffh c_1 so_2 ((w64 (so_2 + 1)),0)) fun u8 : Int=>some u8))
noncomputable def Ffh_G (slf_Ffh : (Condition × Int)→Option Int) (x : Condition × Int) : Option Int:=Ffh_B slf_Ffh x.1 x.2
noncomputable def Ffh (c_1 : Condition) (so_2 : Int) : Option Int:=fixO Ffh_G (c_1,so_2)
theorem Ffh_fin : ∀ x,Fin1 fun slf_Ffh=>Ffh_G slf_Ffh x:=by
  intro x
  unfold Ffh_G Ffh_B
  repeat first|exact f_const|exact f_self|exact f_selfL|exact f_selfR|exact f_selfLL|exact f_selfRL|exact f_selfLLL|exact f_selfRLL|refine f_cond ?_ ?_|refine f_bindJ ?_ (fun _=>?_)|refine f_bindL ?_ (fun _=>?_)|refine f_bind ?_ (fun _=>?_)|refine f_letJ (fun _=>?_)|refine f_fix (fun _=>?_) | unfold Ffh_la | unfold Ffh_la_F
theorem Ffh_eq (c_1 : Condition) (so_2 : Int) : Ffh c_1 so_2=Ffh_B (fixO Ffh_G) c_1 so_2:=fix_eq Ffh_fin (c_1,so_2)
noncomputable def Ffd (c_1 : Condition) : Option Bool :=
  (Ffh c_1 0).bind fun r2=>some (decide (r2 > 0))
noncomputable def Ffg_la_F (slf_Ffg : (Condition × (List Str))→Option ((List Str))) (c_3 : Condition) (list_4 : List Str)  (self : (Int × (List Str))→Option (((List Str)) ⊕ ((List Str)))) (x4 : Int × (List Str)) : Option (((List Str)) ⊕ ((List Str))) :=
  bif (decide (x4.1 < (len c_3.Parts))) then ((getI c_3.Parts x4.1).bind fun e5=>(slf_Ffg (e5,x4.2)).bind fun r6=>self ((w64 (x4.1 + 1)),r6)) else (some (.inr x4.2))
noncomputable def Ffg_la (slf_Ffg : (Condition × (List Str))→Option ((List Str))) (c_3 : Condition) (list_4 : List Str)  : (Int × (List Str))→Option (((List Str)) ⊕ ((List Str))):=fixO (Ffg_la_F slf_Ffg c_3 list_4)
theorem Ffg_la_fin (slf_Ffg : (Condition × (List Str))→Option ((List Str))) (c_3 : Condition) (list_4 : List Str)  : ∀ a,Fin1 fun f=>Ffg_la_F slf_Ffg c_3 list_4 f a:=by
  intro a
  unfold Ffg_la_F
  repeat first|exact f_const|exact f_self|refine f_cond ?_ ?_|refine f_bindJ ?_ (fun _=>?_)|refine f_bindL ?_ (fun _=>?_)|refine f_bind ?_ (fun _=>?_)|refine f_letJ (fun _=>?_)
theorem Ffg_la_eq (slf_Ffg : (Condition × (List Str))→Option ((List Str))) (c_3 : Condition) (list_4 : List Str)  (x : Int × (List Str)) : Ffg_la slf_Ffg c_3 list_4 x=Ffg_la_F slf_Ffg c_3 list_4 (Ffg_la slf_Ffg c_3 list_4) x:=fix_eq (Ffg_la_fin slf_Ffg c_3 list_4) x
noncomputable def Ffg_B (slf_Ffg : (Condition × (List Str))→Option ((List Str))) (c_3 : Condition) (list_4 : List Str) : Option ((List Str)) :=
  bindJ (ρ:=(List Str)) (bif (c_3.Op == 2) then ((appI 16 list_4 [c_3.Name]).bind fun a8=>some (.inr a8)) else (some (.inr list_4))) fun u3 : (List Str)=>bindJ (ρ:=(List Str)) (Ffg_la slf_Ffg c_3 list_4 (0,u3)) fun u7 : (List Str)=>some u7
noncomputable def Ffg_G (slf_Ffg : (Condition × (List Str))→Option ((List Str))) (x : Condition × (List Str)) : Option ((List Str)):=Ffg_B slf_Ffg x.1 x.2
noncomputable def Ffg (c_3 : Condition) (list_4 : List Str) : Option ((List Str)):=fixO Ffg_G (c_3,list_4)
theorem Ffg_fin : ∀ x,Fin1 fun slf_Ffg=>Ffg_G slf_Ffg x:=by
  intro x
  unfold Ffg_G Ffg_B
  repeat first|exact f_const|exact f_self|exact f_selfL|exact f_selfR|exact f_selfLL|exact f_selfRL|exact f_selfLLL|exact f_selfRLL|refine f_cond ?_ ?_|refine f_bindJ ?_ (fun _=>?_)|refine f_bindL ?_ (fun _=>?_)|refine f_bind ?_ (fun _=>?_)|refine f_letJ (fun _=>?_)|refine f_fix (fun _=>?_) | unfold Ffg_la | unfold Ffg_la_F
theorem Ffg_eq (c_3 : Condition) (list_4 : List Str) : Ffg c_3 list_4=Ffg_B (fixO Ffg_G) c_3 list_4:=fix_eq Ffg_fin (c_3,list_4)
noncomputable def Ffz (x_1 : Int) : Option Int :=
  letJ (bif (decide (x_1 ≥ 4294967296)) then (((shrI .u64 x_1 32),32)) else ((x_1,0))) fun u2 : Int × Int=>letJ (bif (decide (u2.1 ≥ 65536)) then (((shrI .u64 u2.1 16),(w64 (u2.2 + 16)))) else ((u2.1,u2.2))) fun u3 : Int × Int=>letJ (bif (decide (u3.1 ≥ 256)) then (((shrI .u64 u3.1 8),(w64 (u3.2 + 8)))) else ((u3.1,u3.2))) fun u4 : Int × Int=>(getI ([0,1,2,2,3,3,3,3,4,4,4,4,4,4,4,4,5,5,5,5,5,5,5,5,5,5,5,5,5,5,5,5,6,6,6,6,6,6,6,6,6,6,6,6,6,6,6,6,6,6,6,6,6,6,6,6,6,6,6,6,6,6,6,6,7,7,7,7,7,7,7,7,7,7,7,7,7,7,7,7,7,7,7,7,7,7,7,7,7,7,7,7,7,7,7,7,7,7,7,7,7,7,7,7,7,7,7,7,7,7,7,7,7,7,7,7,7,7,7,7,7,7,7,7,7,7,7,7,8,8,8,8,8,8,8,8,8,8,8,8,8,8,8,8,8,8,8,8,8,8,8,8,8,8,8,8,8,8,8,8,8,8,8,8,8,8,8,8,8,8,8,8,8,8,8,8,8,8,8,8,8,8,8,8,8,8,8,8,8,8,8,8,8,8,8,8,8,8,8,8,8,8,8,8,8,8,8,8,8,8,8,8,8,8,8,8,8,8,8,8,8,8,8,8,8,8,8,8,8,8,8,8,8,8,8,8,8,8,8,8,8,8,8,8,8,8,8,8,8,8,8,8,8,8,8,8] : Str) (IntKind.u8.wrap u4.1)).bind fun c5=>some (w64 (u4.2 + (IntKind.i64.wrap (c5.toNat : Int))))
noncomputable def Ffy (x_1 : Int) : Option Int :=
  (Ffz x_1).bind fun r2=>some r2
noncomputable def Ffb (x_1 : Str) : Option Bool :=
  some (!(x_1 == x_1))
noncomputable def Ffa (x_1 : Str) (y_2 : Str) : Option Bool :=
  (Ffb x_1).bind fun r3=>bindJ (ρ:=Bool) (bif r3 then ((Ffb y_2).bind fun r5=>letJ (bif (!r5) then (true) else ((Op.bytesLess x_1 y_2))) fun u6 : Bool=>some (.inr u6)) else (some (.inr (Op.bytesLess x_1 y_2)))) fun u4 : Bool=>some u4
noncomputable def Ffbj_lb_F (data_15 : List Str) (a_16 : Int) (b_17 : Int) (x4 : Int × Int × Int × (List Str)) (self : (Int × (List Str))→Option (((List Str)) ⊕ ((List Str)))) (x5 : Int × (List Str)) : Option (((List Str)) ⊕ ((List Str))) :=
  bindL (ρ:=(List Str)) (bif (decide (x5.1 > x4.1)) then ((getI x5.2 x5.1).bind fun e16=>(getI x5.2 (w64 (x5.1 - 1))).bind fun e17=>(Ffa e16 e17).bind fun r18=>some (.inr r18)) else (some (.inr false))) fun u6 : Bool=>bif u6 then ((getI x5.2 (w64 (x5.1 - 1))).bind fun e7=>(getI x5.2 x5.1).bind fun e8=>(getI x5.2 x5.1).bind fun e9=>(getI (setI x5.2 x5.1 e7) (w64 (x5.1 - 1))).bind fun e12=>self ((w64 (x5.1 - 1)),(setI (setI x5.2 x5.1 e7) (w64 (x5.1 - 1)) e8))) else (some (.inr x5.2))
noncomputable def Ffbj_lb (data_15 : List Str) (a_16 : Int) (b_17 : Int) (x4 : Int × Int × Int × (List Str)) : (Int × (List Str))→Option (((List Str)) ⊕ ((List Str))):=fixO (Ffbj_lb_F data_15 a_16 b_17 x4)
theorem Ffbj_lb_fin (data_15 : List Str) (a_16 : Int) (b_17 : Int) (x4 : Int × Int × Int × (List Str)) : ∀ a,Fin1 fun f=>Ffbj_lb_F data_15 a_16 b_17 x4 f a:=by
  intro a
  unfold Ffbj_lb_F
  repeat first|exact f_const|exact f_self|refine f_cond ?_ ?_|refine f_bindJ ?_ (fun _=>?_)|refine f_bindL ?_ (fun _=>?_)|refine f_bind ?_ (fun _=>?_)|refine f_letJ (fun _=>?_)
theorem Ffbj_lb_eq (data_15 : List Str) (a_16 : Int) (b_17 : Int) (x4 : Int × Int × Int × (List Str)) (x : Int × (List Str)) : Ffbj_lb data_15 a_16 b_17 x4 x=Ffbj_lb_F data_15 a_16 b_17 x4 (Ffbj_lb data_15 a_16 b_17 x4) x:=fix_eq (Ffbj_lb_fin data_15 a_16 b_17 x4) x
noncomputable def Ffbj_la_F (data_15 : List Str) (a_16 : Int) (b_17 : Int)  (self : (Int × Int × Int × (List Str))→Option (((List Str)) ⊕ ((List Str)))) (x4 : Int × Int × Int × (List Str)) : Option (((List Str)) ⊕ ((List Str))) :=
  bif (decide (x4.2.2.1 < x4.2.1)) then (bindL (ρ:=(List Str)) (Ffbj_lb data_15 a_16 b_17 x4 (x4.2.2.1,x4.2.2.2)) fun u19 : (List Str)=>self (x4.1,x4.2.1,(w64 (x4.2.2.1 + 1)),u19)) else (some (.inr x4.2.2.2))
noncomputable def Ffbj_la (data_15 : List Str) (a_16 : Int) (b_17 : Int)  : (Int × Int × Int × (List Str))→Option (((List Str)) ⊕ ((List Str))):=fixO (Ffbj_la_F data_15 a_16 b_17)
theorem Ffbj_la_fin (data_15 : List Str) (a_16 : Int) (b_17 : Int)  : ∀ a,Fin1 fun f=>Ffbj_la_F data_15 a_16 b_17 f a:=by
  intro a
  unfold Ffbj_la_F
  repeat first|exact f_const|exact f_self|refine f_cond ?_ ?_|refine f_bindJ ?_ (fun _=>?_)|refine f_bindL ?_ (fun _=>?_)|refine f_bind ?_ (fun _=>?_)|refine f_letJ (fun _=>?_)
theorem Ffbj_la_eq (data_15 : List Str) (a_16 : Int) (b_17 : Int)  (x : Int × Int × Int × (List Str)) : Ffbj_la data_15 a_16 b_17 x=Ffbj_la_F data_15 a_16 b_17 (Ffbj_la data_15 a_16 b_17) x:=fix_eq (Ffbj_la_fin data_15 a_16 b_17) x
noncomputable def Ffbj (data_15 : List Str) (a_16 : Int) (b_17 : Int) : Option ((List Str)) :=
  bindJ (ρ:=(List Str)) (Ffbj_la data_15 a_16 b_17 (a_16,b_17,(w64 (a_16 + 1)),data_15)) fun u20 : (List Str)=>bif Nat.beq u20.length data_15.length then (some u20) else none
noncomputable def Ffbt_la_F (data_18 : List Str) (lo_19 : Int) (hi_20 : Int) (first_21 : Int)  (self : (Int × (List Str))→Option (((List Str)) ⊕ ((List Str)))) (x5 : Int × (List Str)) : Option (((List Str)) ⊕ ((List Str))) :=
  bif (decide ((w64 ((w64 (2 * x5.1)) + 1)) ≥ hi_20)) then (some (.inr x5.2)) else (bindL (ρ:=(List Str)) (bif (decide ((w64 ((w64 ((w64 (2 * x5.1)) + 1)) + 1)) < hi_20)) then ((getI x5.2 (w64 (first_21 + (w64 ((w64 (2 * x5.1)) + 1))))).bind fun e25=>(getI x5.2 (w64 ((w64 (first_21 + (w64 ((w64 (2 * x5.1)) + 1)))) + 1))).bind fun e26=>(Ffa e25 e26).bind fun r27=>some (.inr r27)) else (some (.inr false))) fun u6 : Bool=>letJ (bif u6 then ((w64 ((w64 ((w64 (2 * x5.1)) + 1)) + 1))) else ((w64 ((w64 (2 * x5.1)) + 1)))) fun u7 : Int=>(getI x5.2 (w64 (first_21 + x5.1))).bind fun e8=>(getI x5.2 (w64 (first_21 + u7))).bind fun e9=>(Ffa e8 e9).bind fun r10=>bif (!r10) then (bif Nat.beq x5.2.length data_18.length then (some (.inl x5.2)) else none) else ((getI x5.2 (w64 (first_21 + u7))).bind fun e12=>(getI x5.2 (w64 (first_21 + x5.1))).bind fun e13=>(getI x5.2 (w64 (first_21 + x5.1))).bind fun e14=>(getI (setI x5.2 (w64 (first_21 + x5.1)) e12) (w64 (first_21 + u7))).bind fun e19=>self (u7,(setI (setI x5.2 (w64 (first_21 + x5.1)) e12) (w64 (first_21 + u7)) e13))))
noncomputable def Ffbt_la (data_18 : List Str) (lo_19 : Int) (hi_20 : Int) (first_21 : Int)  : (Int × (List Str))→Option (((List Str)) ⊕ ((List Str))):=fixO (Ffbt_la_F data_18 lo_19 hi_20 first_21)
theorem Ffbt_la_fin (data_18 : List Str) (lo_19 : Int) (hi_20 : Int) (first_21 : Int)  : ∀ a,Fin1 fun f=>Ffbt_la_F data_18 lo_19 hi_20 first_21 f a:=by
  intro a
  unfold Ffbt_la_F
  repeat first|exact f_const|exact f_self|refine f_cond ?_ ?_|refine f_bindJ ?_ (fun _=>?_)|refine f_bindL ?_ (fun _=>?_)|refine f_bind ?_ (fun _=>?_)|refine f_letJ (fun _=>?_)
theorem Ffbt_la_eq (data_18 : List Str) (lo_19 : Int) (hi_20 : Int) (first_21 : Int)  (x : Int × (List Str)) : Ffbt_la data_18 lo_19 hi_20 first_21 x=Ffbt_la_F data_18 lo_19 hi_20 first_21 (Ffbt_la data_18 lo_19 hi_20 first_21) x:=fix_eq (Ffbt_la_fin data_18 lo_19 hi_20 first_21) x
noncomputable def Ffbt (data_18 : List Str) (lo_19 : Int) (hi_20 : Int) (first_21 : Int) : Option ((List Str)) :=
  bindJ (ρ:=(List Str)) (Ffbt_la data_18 lo_19 hi_20 first_21 (lo_19,data_18)) fun u28 : (List Str)=>bif Nat.beq u28.length data_18.length then (some u28) else none
noncomputable def Ffbi_la_F (data_11 : List Str) (a_12 : Int) (b_13 : Int)  (self : (Int × (List Str))→Option (((List Str)) ⊕ (Int × Int × (List Str)))) (x4 : Int × (List Str)) : Option (((List Str)) ⊕ (Int × Int × (List Str))) :=
  bif (decide (x4.1 ≥ 0)) then ((Ffbt x4.2 x4.1 (w64 (b_13 - a_12)) a_12).bind fun r5=>bif Nat.beq r5.length x4.2.length then (self ((w64 (x4.1 - 1)),r5)) else none) else (some (.inr (a_12,(w64 (b_13 - a_12)),x4.2)))
noncomputable def Ffbi_la (data_11 : List Str) (a_12 : Int) (b_13 : Int)  : (Int × (List Str))→Option (((List Str)) ⊕ (Int × Int × (List Str))):=fixO (Ffbi_la_F data_11 a_12 b_13)
theorem Ffbi_la_fin (data_11 : List Str) (a_12 : Int) (b_13 : Int)  : ∀ a,Fin1 fun f=>Ffbi_la_F data_11 a_12 b_13 f a:=by
  intro a
  unfold Ffbi_la_F
  repeat first|exact f_const|exact f_self|refine f_cond ?_ ?_|refine f_bindJ ?_ (fun _=>?_)|refine f_bindL ?_ (fun _=>?_)|refine f_bind ?_ (fun _=>?_)|refine f_letJ (fun _=>?_)
theorem Ffbi_la_eq (data_11 : List Str) (a_12 : Int) (b_13 : Int)  (x : Int × (List Str)) : Ffbi_la data_11 a_12 b_13 x=Ffbi_la_F data_11 a_12 b_13 (Ffbi_la data_11 a_12 b_13) x:=fix_eq (Ffbi_la_fin data_11 a_12 b_13) x
noncomputable def Ffbi_lb_F (data_11 : List Str) (a_12 : Int) (b_13 : Int) (u7 : Int × Int × (List Str)) (self : (Int × (List Str))→Option (((List Str)) ⊕ ((List Str)))) (x8 : Int × (List Str)) : Option (((List Str)) ⊕ ((List Str))) :=
  bif (decide (x8.1 ≥ 0)) then ((getI x8.2 (w64 (u7.1 + x8.1))).bind fun e9=>(getI x8.2 u7.1).bind fun e10=>(getI x8.2 u7.1).bind fun e11=>(getI (setI x8.2 u7.1 e9) (w64 (u7.1 + x8.1))).bind fun e14=>(Ffbt (setI (setI x8.2 u7.1 e9) (w64 (u7.1 + x8.1)) e10) 0 x8.1 u7.1).bind fun r18=>bif Nat.beq r18.length (setI (setI x8.2 u7.1 e9) (w64 (u7.1 + x8.1)) e10).length then (self ((w64 (x8.1 - 1)),r18)) else none) else (some (.inr x8.2))
noncomputable def Ffbi_lb (data_11 : List Str) (a_12 : Int) (b_13 : Int) (u7 : Int × Int × (List Str)) : (Int × (List Str))→Option (((List Str)) ⊕ ((List Str))):=fixO (Ffbi_lb_F data_11 a_12 b_13 u7)
theorem Ffbi_lb_fin (data_11 : List Str) (a_12 : Int) (b_13 : Int) (u7 : Int × Int × (List Str)) : ∀ a,Fin1 fun f=>Ffbi_lb_F data_11 a_12 b_13 u7 f a:=by
  intro a
  unfold Ffbi_lb_F
  repeat first|exact f_const|exact f_self|refine f_cond ?_ ?_|refine f_bindJ ?_ (fun _=>?_)|refine f_bindL ?_ (fun _=>?_)|refine f_bind ?_ (fun _=>?_)|refine f_letJ (fun _=>?_)
theorem Ffbi_lb_eq (data_11 : List Str) (a_12 : Int) (b_13 : Int) (u7 : Int × Int × (List Str)) (x : Int × (List Str)) : Ffbi_lb data_11 a_12 b_13 u7 x=Ffbi_lb_F data_11 a_12 b_13 u7 (Ffbi_lb data_11 a_12 b_13 u7) x:=fix_eq (Ffbi_lb_fin data_11 a_12 b_13 u7) x
noncomputable def Ffbi (data_11 : List Str) (a_12 : Int) (b_13 : Int) : Option ((List Str)) :=
  bindJ (ρ:=(List Str)) (Ffbi_la data_11 a_12 b_13 ((w64 ((w64 ((w64 (b_13 - a_12)) - 1)).tdiv 2)),data_11)) fun u7 : Int × Int × (List Str)=>bindJ (ρ:=(List Str)) (Ffbi_lb data_11 a_12 b_13 u7 ((w64 (u7.2.1 - 1)),u7.2.2)) fun u20 : (List Str)=>bif Nat.beq u20.length data_11.length then (some u20) else none
noncomputable def Ffbm (length_1 : Int) : Option Int :=
  (Ffy (IntKind.u64.wrap length_1)).bind fun r2=>(shlO .u64 1 r2).bind fun q3=>some q3
noncomputable def Ffbu (r_2 : Int) : Option (Int × Int) :=
  some ((xorI .u64 (xorI .u64 (xorI .u64 r_2 (shlI .u64 r_2 13)) (shrI .u64 (xorI .u64 r_2 (shlI .u64 r_2 13)) 7)) (shlI .u64 (xorI .u64 (xorI .u64 r_2 (shlI .u64 r_2 13)) (shrI .u64 (xorI .u64 r_2 (shlI .u64 r_2 13)) 7)) 17)),(xorI .u64 (xorI .u64 (xorI .u64 r_2 (shlI .u64 r_2 13)) (shrI .u64 (xorI .u64 r_2 (shlI .u64 r_2 13)) 7)) (shlI .u64 (xorI .u64 (xorI .u64 r_2 (shlI .u64 r_2 13)) (shrI .u64 (xorI .u64 r_2 (shlI .u64 r_2 13)) 7)) 17)))
noncomputable def Ffbg_la_F (data_13 : List Str) (a_14 : Int) (b_15 : Int) (r6 : Int) (self : (Int × (List Str) × Int)→Option (((List Str)) ⊕ ((List Str)))) (x7 : Int × (List Str) × Int) : Option (((List Str)) ⊕ ((List Str))) :=
  bif (decide (x7.1 ≤ (w64 ((w64 (a_14 + (w64 ((w64 ((w64 (b_15 - a_14)).tdiv 4)) * 2)))) + 1)))) then ((Ffbu x7.2.2).bind fun r8=>letJ (bif (decide ((IntKind.i64.wrap (andI .u64 r8.1 (IntKind.u64.wrap (r6 - 1)))) ≥ (w64 (b_15 - a_14)))) then ((w64 ((IntKind.i64.wrap (andI .u64 r8.1 (IntKind.u64.wrap (r6 - 1)))) - (w64 (b_15 - a_14))))) else ((IntKind.i64.wrap (andI .u64 r8.1 (IntKind.u64.wrap (r6 - 1)))))) fun u9 : Int=>(getI x7.2.1 (w64 (a_14 + u9))).bind fun e10=>(getI x7.2.1 x7.1).bind fun e11=>(getI x7.2.1 x7.1).bind fun e12=>(getI (setI x7.2.1 x7.1 e10) (w64 (a_14 + u9))).bind fun e15=>self ((w64 (x7.1 + 1)),(setI (setI x7.2.1 x7.1 e10) (w64 (a_14 + u9)) e11),r8.2)) else (some (.inr x7.2.1))
noncomputable def Ffbg_la (data_13 : List Str) (a_14 : Int) (b_15 : Int) (r6 : Int) : (Int × (List Str) × Int)→Option (((List Str)) ⊕ ((List Str))):=fixO (Ffbg_la_F data_13 a_14 b_15 r6)
theorem Ffbg_la_fin (data_13 : List Str) (a_14 : Int) (b_15 : Int) (r6 : Int) : ∀ a,Fin1 fun f=>Ffbg_la_F data_13 a_14 b_15 r6 f a:=by
  intro a
  unfold Ffbg_la_F
  repeat first|exact f_const|exact f_self|refine f_cond ?_ ?_|refine f_bindJ ?_ (fun _=>?_)|refine f_bindL ?_ (fun _=>?_)|refine f_bind ?_ (fun _=>?_)|refine f_letJ (fun _=>?_)
theorem Ffbg_la_eq (data_13 : List Str) (a_14 : Int) (b_15 : Int) (r6 : Int) (x : Int × (List Str) × Int) : Ffbg_la data_13 a_14 b_15 r6 x=Ffbg_la_F data_13 a_14 b_15 r6 (Ffbg_la data_13 a_14 b_15 r6) x:=fix_eq (Ffbg_la_fin data_13 a_14 b_15 r6) x
noncomputable def Ffbg (data_13 : List Str) (a_14 : Int) (b_15 : Int) : Option ((List Str)) :=
  bindJ (ρ:=(List Str)) (bif (decide ((w64 (b_15 - a_14)) ≥ 8)) then ((Ffbm (w64 (b_15 - a_14))).bind fun r6=>bindL (ρ:=(List Str)) (Ffbg_la data_13 a_14 b_15 r6 ((w64 ((w64 (a_14 + (w64 ((w64 ((w64 (b_15 - a_14)).tdiv 4)) * 2)))) - 1)),data_13,(IntKind.u64.wrap (w64 (b_15 - a_14))))) fun u19 : (List Str)=>some (.inr u19)) else (some (.inr data_13))) fun u4 : (List Str)=>bif Nat.beq u4.length data_13.length then (some u4) else none
noncomputable def Ffbn (data_9 : List Str) (a_10 : Int) (b_11 : Int) (swaps_12 : Int) : Option (Int × Int × Int) :=
  (getI data_9 b_11).bind fun e5=>(getI data_9 a_10).bind fun e6=>(Ffa e5 e6).bind fun r7=>bif r7 then (some (b_11,a_10,(w64 (swaps_12 + 1)))) else (some (a_10,b_11,swaps_12))
noncomputable def Ffbl (data_6 : List Str) (a_7 : Int) (b_8 : Int) (c_9 : Int) (swaps_10 : Int) : Option (Int × Int) :=
  (Ffbn data_6 a_7 b_8 swaps_10).bind fun r6=>(Ffbn data_6 r6.2.1 c_9 r6.2.2).bind fun r7=>(Ffbn data_6 r6.1 r7.1 r7.2.2).bind fun r8=>some (r8.2.1,r8.2.2)
noncomputable def Ffbk (data_4 : List Str) (a_5 : Int) (swaps_6 : Int) : Option (Int × Int) :=
  (Ffbl data_4 (w64 (a_5 - 1)) a_5 (w64 (a_5 + 1)) swaps_6).bind fun r4=>some (r4.1,r4.2)
noncomputable def Ffbh (data_1 : List Str) (a_2 : Int) (b_3 : Int) : Option (Int × Int) :=
  bindJ (ρ:=Int × Int) (bif (decide ((w64 (b_3 - a_2)) ≥ 8)) then (bindL (ρ:=Int × Int) (bif (decide ((w64 (b_3 - a_2)) ≥ 50)) then ((Ffbk data_1 (w64 (a_2 + (w64 ((w64 ((w64 (b_3 - a_2)).tdiv 4)) * 1)))) 0).bind fun r7=>(Ffbk data_1 (w64 (a_2 + (w64 ((w64 ((w64 (b_3 - a_2)).tdiv 4)) * 2)))) r7.2).bind fun r8=>(Ffbk data_1 (w64 (a_2 + (w64 ((w64 ((w64 (b_3 - a_2)).tdiv 4)) * 3)))) r8.2).bind fun r9=>some (.inr (r7.1,r8.1,r9.1,r9.2))) else (some (.inr ((w64 (a_2 + (w64 ((w64 ((w64 (b_3 - a_2)).tdiv 4)) * 1)))),(w64 (a_2 + (w64 ((w64 ((w64 (b_3 - a_2)).tdiv 4)) * 2)))),(w64 (a_2 + (w64 ((w64 ((w64 (b_3 - a_2)).tdiv 4)) * 3)))),0)))) fun u5 : Int × Int × Int × Int=>(Ffbl data_1 u5.1 u5.2.1 u5.2.2.1 u5.2.2.2).bind fun r6=>some (.inr (r6.1,r6.2))) else (some (.inr ((w64 (a_2 + (w64 ((w64 ((w64 (b_3 - a_2)).tdiv 4)) * 2)))),0)))) fun u4 : Int × Int=>bif (u4.2 == 0) then (some (u4.1,1)) else (bif (u4.2 == 12) then (some (u4.1,2)) else (some (u4.1,0)))
noncomputable def Ffbs_la_F (data_9 : List Str) (a_10 : Int) (b_11 : Int)  (self : (Int × Int × (List Str))→Option (((List Str)) ⊕ ((List Str)))) (x4 : Int × Int × (List Str)) : Option (((List Str)) ⊕ ((List Str))) :=
  bif (decide (x4.1 < x4.2.1)) then ((getI x4.2.2 x4.2.1).bind fun e5=>(getI x4.2.2 x4.1).bind fun e6=>(getI x4.2.2 x4.1).bind fun e7=>(getI (setI x4.2.2 x4.1 e5) x4.2.1).bind fun e10=>self ((w64 (x4.1 + 1)),(w64 (x4.2.1 - 1)),(setI (setI x4.2.2 x4.1 e5) x4.2.1 e6))) else (some (.inr x4.2.2))
noncomputable def Ffbs_la (data_9 : List Str) (a_10 : Int) (b_11 : Int)  : (Int × Int × (List Str))→Option (((List Str)) ⊕ ((List Str))):=fixO (Ffbs_la_F data_9 a_10 b_11)
theorem Ffbs_la_fin (data_9 : List Str) (a_10 : Int) (b_11 : Int)  : ∀ a,Fin1 fun f=>Ffbs_la_F data_9 a_10 b_11 f a:=by
  intro a
  unfold Ffbs_la_F
  repeat first|exact f_const|exact f_self|refine f_cond ?_ ?_|refine f_bindJ ?_ (fun _=>?_)|refine f_bindL ?_ (fun _=>?_)|refine f_bind ?_ (fun _=>?_)|refine f_letJ (fun _=>?_)
theorem Ffbs_la_eq (data_9 : List Str) (a_10 : Int) (b_11 : Int)  (x : Int × Int × (List Str)) : Ffbs_la data_9 a_10 b_11 x=Ffbs_la_F data_9 a_10 b_11 (Ffbs_la data_9 a_10 b_11) x:=fix_eq (Ffbs_la_fin data_9 a_10 b_11) x
noncomputable def Ffbs (data_9 : List Str) (a_10 : Int) (b_11 : Int) : Option ((List Str)) :=
  bindJ (ρ:=(List Str)) (Ffbs_la data_9 a_10 b_11 (a_10,(w64 (b_11 - 1)),data_9)) fun u14 : (List Str)=>bif Nat.beq u14.length data_9.length then (some u14) else none
noncomputable def Ffbo_lb_F (data_15 : List Str) (a_16 : Int) (b_17 : Int) (x4 : Int × Int × Int × Int × (List Str)) (self : Int→Option ((Bool × (List Str)) ⊕ Int)) (x5 : Int) : Option ((Bool × (List Str)) ⊕ Int) :=
  bindL (ρ:=Bool × (List Str)) (bif (decide (x5 < x4.2.1)) then ((getI x4.2.2.2.2 x5).bind fun e7=>(getI x4.2.2.2.2 (w64 (x5 - 1))).bind fun e8=>(Ffa e7 e8).bind fun r9=>some (.inr (!r9))) else (some (.inr false))) fun u6 : Bool=>bif u6 then (self (w64 (x5 + 1))) else (some (.inr x5))
noncomputable def Ffbo_lb (data_15 : List Str) (a_16 : Int) (b_17 : Int) (x4 : Int × Int × Int × Int × (List Str)) : Int→Option ((Bool × (List Str)) ⊕ Int):=fixO (Ffbo_lb_F data_15 a_16 b_17 x4)
theorem Ffbo_lb_fin (data_15 : List Str) (a_16 : Int) (b_17 : Int) (x4 : Int × Int × Int × Int × (List Str)) : ∀ a,Fin1 fun f=>Ffbo_lb_F data_15 a_16 b_17 x4 f a:=by
  intro a
  unfold Ffbo_lb_F
  repeat first|exact f_const|exact f_self|refine f_cond ?_ ?_|refine f_bindJ ?_ (fun _=>?_)|refine f_bindL ?_ (fun _=>?_)|refine f_bind ?_ (fun _=>?_)|refine f_letJ (fun _=>?_)
theorem Ffbo_lb_eq (data_15 : List Str) (a_16 : Int) (b_17 : Int) (x4 : Int × Int × Int × Int × (List Str)) (x : Int) : Ffbo_lb data_15 a_16 b_17 x4 x=Ffbo_lb_F data_15 a_16 b_17 x4 (Ffbo_lb data_15 a_16 b_17 x4) x:=fix_eq (Ffbo_lb_fin data_15 a_16 b_17 x4) x
noncomputable def Ffbo_lc_F (data_15 : List Str) (a_16 : Int) (b_17 : Int) (x4 : Int × Int × Int × Int × (List Str)) (u10 : Int) (self : (Int × (List Str))→Option ((Bool × (List Str)) ⊕ ((List Str)))) (x24 : Int × (List Str)) : Option ((Bool × (List Str)) ⊕ ((List Str))) :=
  bif (decide (x24.1 < x4.2.1)) then ((getI x24.2 x24.1).bind fun e25=>(getI x24.2 (w64 (x24.1 - 1))).bind fun e26=>(Ffa e25 e26).bind fun r27=>bif (!r27) then (some (.inr x24.2)) else ((getI x24.2 (w64 (x24.1 - 1))).bind fun e28=>(getI x24.2 x24.1).bind fun e29=>(getI x24.2 x24.1).bind fun e30=>(getI (setI x24.2 x24.1 e28) (w64 (x24.1 - 1))).bind fun e35=>self ((w64 (x24.1 + 1)),(setI (setI x24.2 x24.1 e28) (w64 (x24.1 - 1)) e29)))) else (some (.inr x24.2))
noncomputable def Ffbo_lc (data_15 : List Str) (a_16 : Int) (b_17 : Int) (x4 : Int × Int × Int × Int × (List Str)) (u10 : Int) : (Int × (List Str))→Option ((Bool × (List Str)) ⊕ ((List Str))):=fixO (Ffbo_lc_F data_15 a_16 b_17 x4 u10)
theorem Ffbo_lc_fin (data_15 : List Str) (a_16 : Int) (b_17 : Int) (x4 : Int × Int × Int × Int × (List Str)) (u10 : Int) : ∀ a,Fin1 fun f=>Ffbo_lc_F data_15 a_16 b_17 x4 u10 f a:=by
  intro a
  unfold Ffbo_lc_F
  repeat first|exact f_const|exact f_self|refine f_cond ?_ ?_|refine f_bindJ ?_ (fun _=>?_)|refine f_bindL ?_ (fun _=>?_)|refine f_bind ?_ (fun _=>?_)|refine f_letJ (fun _=>?_)
theorem Ffbo_lc_eq (data_15 : List Str) (a_16 : Int) (b_17 : Int) (x4 : Int × Int × Int × Int × (List Str)) (u10 : Int) (x : Int × (List Str)) : Ffbo_lc data_15 a_16 b_17 x4 u10 x=Ffbo_lc_F data_15 a_16 b_17 x4 u10 (Ffbo_lc data_15 a_16 b_17 x4 u10) x:=fix_eq (Ffbo_lc_fin data_15 a_16 b_17 x4 u10) x
noncomputable def Ffbo_ld_F (data_15 : List Str) (a_16 : Int) (b_17 : Int) (x4 : Int × Int × Int × Int × (List Str)) (u10 : Int) (self : (Int × (List Str))→Option ((Bool × (List Str)) ⊕ ((List Str)))) (x42 : Int × (List Str)) : Option ((Bool × (List Str)) ⊕ ((List Str))) :=
  bif (decide (x42.1 ≥ 1)) then ((getI x42.2 x42.1).bind fun e43=>(getI x42.2 (w64 (x42.1 - 1))).bind fun e44=>(Ffa e43 e44).bind fun r45=>bif (!r45) then (some (.inr x42.2)) else ((getI x42.2 (w64 (x42.1 - 1))).bind fun e46=>(getI x42.2 x42.1).bind fun e47=>(getI x42.2 x42.1).bind fun e48=>(getI (setI x42.2 x42.1 e46) (w64 (x42.1 - 1))).bind fun e53=>self ((w64 (x42.1 - 1)),(setI (setI x42.2 x42.1 e46) (w64 (x42.1 - 1)) e47)))) else (some (.inr x42.2))
noncomputable def Ffbo_ld (data_15 : List Str) (a_16 : Int) (b_17 : Int) (x4 : Int × Int × Int × Int × (List Str)) (u10 : Int) : (Int × (List Str))→Option ((Bool × (List Str)) ⊕ ((List Str))):=fixO (Ffbo_ld_F data_15 a_16 b_17 x4 u10)
theorem Ffbo_ld_fin (data_15 : List Str) (a_16 : Int) (b_17 : Int) (x4 : Int × Int × Int × Int × (List Str)) (u10 : Int) : ∀ a,Fin1 fun f=>Ffbo_ld_F data_15 a_16 b_17 x4 u10 f a:=by
  intro a
  unfold Ffbo_ld_F
  repeat first|exact f_const|exact f_self|refine f_cond ?_ ?_|refine f_bindJ ?_ (fun _=>?_)|refine f_bindL ?_ (fun _=>?_)|refine f_bind ?_ (fun _=>?_)|refine f_letJ (fun _=>?_)
theorem Ffbo_ld_eq (data_15 : List Str) (a_16 : Int) (b_17 : Int) (x4 : Int × Int × Int × Int × (List Str)) (u10 : Int) (x : Int × (List Str)) : Ffbo_ld data_15 a_16 b_17 x4 u10 x=Ffbo_ld_F data_15 a_16 b_17 x4 u10 (Ffbo_ld data_15 a_16 b_17 x4 u10) x:=fix_eq (Ffbo_ld_fin data_15 a_16 b_17 x4 u10) x
noncomputable def Ffbo_la_F (data_15 : List Str) (a_16 : Int) (b_17 : Int)  (self : (Int × Int × Int × Int × (List Str))→Option ((Bool × (List Str)) ⊕ ((List Str)))) (x4 : Int × Int × Int × Int × (List Str)) : Option ((Bool × (List Str)) ⊕ ((List Str))) :=
  bif (decide (x4.2.2.2.1 < 5)) then (bindL (ρ:=Bool × (List Str)) (Ffbo_lb data_15 a_16 b_17 x4 x4.2.2.1) fun u10 : Int=>bif (u10 == x4.2.1) then (bif Nat.beq x4.2.2.2.2.length data_15.length then (some (.inl (true,x4.2.2.2.2))) else none) else (bif (decide ((w64 (x4.2.1 - x4.1)) < 50)) then (bif Nat.beq x4.2.2.2.2.length data_15.length then (some (.inl (false,x4.2.2.2.2))) else none) else ((getI x4.2.2.2.2 (w64 (u10 - 1))).bind fun e13=>(getI x4.2.2.2.2 u10).bind fun e14=>(getI x4.2.2.2.2 u10).bind fun e15=>(getI (setI x4.2.2.2.2 u10 e13) (w64 (u10 - 1))).bind fun e18=>bindL (ρ:=Bool × (List Str)) (bif (decide ((w64 (u10 - x4.1)) ≥ 2)) then (bindL (ρ:=Bool × (List Str)) (Ffbo_ld data_15 a_16 b_17 x4 u10 ((w64 (u10 - 1)),(setI (setI x4.2.2.2.2 u10 e13) (w64 (u10 - 1)) e14))) fun u59 : (List Str)=>some (.inr u59)) else (some (.inr (setI (setI x4.2.2.2.2 u10 e13) (w64 (u10 - 1)) e14)))) fun u22 : (List Str)=>bindL (ρ:=Bool × (List Str)) (bif (decide ((w64 (x4.2.1 - u10)) ≥ 2)) then (bindL (ρ:=Bool × (List Str)) (Ffbo_lc data_15 a_16 b_17 x4 u10 ((w64 (u10 + 1)),u22)) fun u41 : (List Str)=>some (.inr u41)) else (some (.inr u22))) fun u23 : (List Str)=>self (x4.1,x4.2.1,u10,(w64 (x4.2.2.2.1 + 1)),u23)))) else (some (.inr x4.2.2.2.2))
noncomputable def Ffbo_la (data_15 : List Str) (a_16 : Int) (b_17 : Int)  : (Int × Int × Int × Int × (List Str))→Option ((Bool × (List Str)) ⊕ ((List Str))):=fixO (Ffbo_la_F data_15 a_16 b_17)
theorem Ffbo_la_fin (data_15 : List Str) (a_16 : Int) (b_17 : Int)  : ∀ a,Fin1 fun f=>Ffbo_la_F data_15 a_16 b_17 f a:=by
  intro a
  unfold Ffbo_la_F
  repeat first|exact f_const|exact f_self|refine f_cond ?_ ?_|refine f_bindJ ?_ (fun _=>?_)|refine f_bindL ?_ (fun _=>?_)|refine f_bind ?_ (fun _=>?_)|refine f_letJ (fun _=>?_)
theorem Ffbo_la_eq (data_15 : List Str) (a_16 : Int) (b_17 : Int)  (x : Int × Int × Int × Int × (List Str)) : Ffbo_la data_15 a_16 b_17 x=Ffbo_la_F data_15 a_16 b_17 (Ffbo_la data_15 a_16 b_17) x:=fix_eq (Ffbo_la_fin data_15 a_16 b_17) x
noncomputable def Ffbo (data_15 : List Str) (a_16 : Int) (b_17 : Int) : Option (Bool × (List Str)) :=
  bindJ (ρ:=Bool × (List Str)) (Ffbo_la data_15 a_16 b_17 (a_16,b_17,(w64 (a_16 + 1)),0,data_15)) fun u60 : (List Str)=>bif Nat.beq u60.length data_15.length then (some (false,u60)) else none
noncomputable def Ffbp_lb_F (data_8 : List Str) (a_9 : Int) (b_10 : Int) (pivot_11 : Int) (x14 : Int × Int × (List Str)) (self : Int→Option ((Int × (List Str)) ⊕ Int)) (x15 : Int) : Option ((Int × (List Str)) ⊕ Int) :=
  bindL (ρ:=Int × (List Str)) (bif (decide (x15 ≤ x14.2.1)) then ((getI x14.2.2 a_9).bind fun e17=>(getI x14.2.2 x15).bind fun e18=>(Ffa e17 e18).bind fun r19=>some (.inr (!r19))) else (some (.inr false))) fun u16 : Bool=>bif u16 then (self (w64 (x15 + 1))) else (some (.inr x15))
noncomputable def Ffbp_lb (data_8 : List Str) (a_9 : Int) (b_10 : Int) (pivot_11 : Int) (x14 : Int × Int × (List Str)) : Int→Option ((Int × (List Str)) ⊕ Int):=fixO (Ffbp_lb_F data_8 a_9 b_10 pivot_11 x14)
theorem Ffbp_lb_fin (data_8 : List Str) (a_9 : Int) (b_10 : Int) (pivot_11 : Int) (x14 : Int × Int × (List Str)) : ∀ a,Fin1 fun f=>Ffbp_lb_F data_8 a_9 b_10 pivot_11 x14 f a:=by
  intro a
  unfold Ffbp_lb_F
  repeat first|exact f_const|exact f_self|refine f_cond ?_ ?_|refine f_bindJ ?_ (fun _=>?_)|refine f_bindL ?_ (fun _=>?_)|refine f_bind ?_ (fun _=>?_)|refine f_letJ (fun _=>?_)
theorem Ffbp_lb_eq (data_8 : List Str) (a_9 : Int) (b_10 : Int) (pivot_11 : Int) (x14 : Int × Int × (List Str)) (x : Int) : Ffbp_lb data_8 a_9 b_10 pivot_11 x14 x=Ffbp_lb_F data_8 a_9 b_10 pivot_11 x14 (Ffbp_lb data_8 a_9 b_10 pivot_11 x14) x:=fix_eq (Ffbp_lb_fin data_8 a_9 b_10 pivot_11 x14) x
noncomputable def Ffbp_lc_F (data_8 : List Str) (a_9 : Int) (b_10 : Int) (pivot_11 : Int) (u20 : Int) (x14 : Int × Int × (List Str)) (self : Int→Option ((Int × (List Str)) ⊕ Int)) (x21 : Int) : Option ((Int × (List Str)) ⊕ Int) :=
  bindL (ρ:=Int × (List Str)) (bif (decide (u20 ≤ x21)) then ((getI x14.2.2 a_9).bind fun e23=>(getI x14.2.2 x21).bind fun e24=>(Ffa e23 e24).bind fun r25=>some (.inr r25)) else (some (.inr false))) fun u22 : Bool=>bif u22 then (self (w64 (x21 - 1))) else (some (.inr x21))
noncomputable def Ffbp_lc (data_8 : List Str) (a_9 : Int) (b_10 : Int) (pivot_11 : Int) (u20 : Int) (x14 : Int × Int × (List Str)) : Int→Option ((Int × (List Str)) ⊕ Int):=fixO (Ffbp_lc_F data_8 a_9 b_10 pivot_11 u20 x14)
theorem Ffbp_lc_fin (data_8 : List Str) (a_9 : Int) (b_10 : Int) (pivot_11 : Int) (u20 : Int) (x14 : Int × Int × (List Str)) : ∀ a,Fin1 fun f=>Ffbp_lc_F data_8 a_9 b_10 pivot_11 u20 x14 f a:=by
  intro a
  unfold Ffbp_lc_F
  repeat first|exact f_const|exact f_self|refine f_cond ?_ ?_|refine f_bindJ ?_ (fun _=>?_)|refine f_bindL ?_ (fun _=>?_)|refine f_bind ?_ (fun _=>?_)|refine f_letJ (fun _=>?_)
theorem Ffbp_lc_eq (data_8 : List Str) (a_9 : Int) (b_10 : Int) (pivot_11 : Int) (u20 : Int) (x14 : Int × Int × (List Str)) (x : Int) : Ffbp_lc data_8 a_9 b_10 pivot_11 u20 x14 x=Ffbp_lc_F data_8 a_9 b_10 pivot_11 u20 x14 (Ffbp_lc data_8 a_9 b_10 pivot_11 u20 x14) x:=fix_eq (Ffbp_lc_fin data_8 a_9 b_10 pivot_11 u20 x14) x
noncomputable def Ffbp_la_F (data_8 : List Str) (a_9 : Int) (b_10 : Int) (pivot_11 : Int)  (self : (Int × Int × (List Str))→Option ((Int × (List Str)) ⊕ (Int × (List Str)))) (x14 : Int × Int × (List Str)) : Option ((Int × (List Str)) ⊕ (Int × (List Str))) :=
  bindL (ρ:=Int × (List Str)) (Ffbp_lb data_8 a_9 b_10 pivot_11 x14 x14.1) fun u20 : Int=>bindL (ρ:=Int × (List Str)) (Ffbp_lc data_8 a_9 b_10 pivot_11 u20 x14 x14.2.1) fun u26 : Int=>bif (decide (u20 > u26)) then (some (.inr (u20,x14.2.2))) else ((getI x14.2.2 u26).bind fun e27=>(getI x14.2.2 u20).bind fun e28=>(getI x14.2.2 u20).bind fun e29=>(getI (setI x14.2.2 u20 e27) u26).bind fun e32=>self ((w64 (u20 + 1)),(w64 (u26 - 1)),(setI (setI x14.2.2 u20 e27) u26 e28)))
noncomputable def Ffbp_la (data_8 : List Str) (a_9 : Int) (b_10 : Int) (pivot_11 : Int)  : (Int × Int × (List Str))→Option ((Int × (List Str)) ⊕ (Int × (List Str))):=fixO (Ffbp_la_F data_8 a_9 b_10 pivot_11)
theorem Ffbp_la_fin (data_8 : List Str) (a_9 : Int) (b_10 : Int) (pivot_11 : Int)  : ∀ a,Fin1 fun f=>Ffbp_la_F data_8 a_9 b_10 pivot_11 f a:=by
  intro a
  unfold Ffbp_la_F
  repeat first|exact f_const|exact f_self|refine f_cond ?_ ?_|refine f_bindJ ?_ (fun _=>?_)|refine f_bindL ?_ (fun _=>?_)|refine f_bind ?_ (fun _=>?_)|refine f_letJ (fun _=>?_)
theorem Ffbp_la_eq (data_8 : List Str) (a_9 : Int) (b_10 : Int) (pivot_11 : Int)  (x : Int × Int × (List Str)) : Ffbp_la data_8 a_9 b_10 pivot_11 x=Ffbp_la_F data_8 a_9 b_10 pivot_11 (Ffbp_la data_8 a_9 b_10 pivot_11) x:=fix_eq (Ffbp_la_fin data_8 a_9 b_10 pivot_11) x
noncomputable def Ffbp (data_8 : List Str) (a_9 : Int) (b_10 : Int) (pivot_11 : Int) : Option (Int × (List Str)) :=
  (getI data_8 pivot_11).bind fun e5=>(getI data_8 a_9).bind fun e6=>(getI data_8 a_9).bind fun e7=>(getI (setI data_8 a_9 e5) pivot_11).bind fun e10=>bindJ (ρ:=Int × (List Str)) (Ffbp_la data_8 a_9 b_10 pivot_11 ((w64 (a_9 + 1)),(w64 (b_10 - 1)),(setI (setI data_8 a_9 e5) pivot_11 e6))) fun u36 : Int × (List Str)=>bif Nat.beq u36.2.length data_8.length then (some (u36.1,u36.2)) else none
noncomputable def Ffbq_la_F (data_8 : List Str) (a_9 : Int) (b_10 : Int) (pivot_11 : Int) (e5 : Str) (e6 : Str) (self : Int→Option ((Int × Bool × (List Str)) ⊕ (Int × Int))) (x14 : Int) : Option ((Int × Bool × (List Str)) ⊕ (Int × Int)) :=
  bindL (ρ:=Int × Bool × (List Str)) (bif (decide (x14 ≤ (w64 (b_10 - 1)))) then ((getI (setI (setI data_8 a_9 e5) pivot_11 e6) x14).bind fun e16=>(getI (setI (setI data_8 a_9 e5) pivot_11 e6) a_9).bind fun e17=>(Ffa e16 e17).bind fun r18=>some (.inr r18)) else (some (.inr false))) fun u15 : Bool=>bif u15 then (self (w64 (x14 + 1))) else (some (.inr (x14,(w64 (b_10 - 1)))))
noncomputable def Ffbq_la (data_8 : List Str) (a_9 : Int) (b_10 : Int) (pivot_11 : Int) (e5 : Str) (e6 : Str) : Int→Option ((Int × Bool × (List Str)) ⊕ (Int × Int)):=fixO (Ffbq_la_F data_8 a_9 b_10 pivot_11 e5 e6)
theorem Ffbq_la_fin (data_8 : List Str) (a_9 : Int) (b_10 : Int) (pivot_11 : Int) (e5 : Str) (e6 : Str) : ∀ a,Fin1 fun f=>Ffbq_la_F data_8 a_9 b_10 pivot_11 e5 e6 f a:=by
  intro a
  unfold Ffbq_la_F
  repeat first|exact f_const|exact f_self|refine f_cond ?_ ?_|refine f_bindJ ?_ (fun _=>?_)|refine f_bindL ?_ (fun _=>?_)|refine f_bind ?_ (fun _=>?_)|refine f_letJ (fun _=>?_)
theorem Ffbq_la_eq (data_8 : List Str) (a_9 : Int) (b_10 : Int) (pivot_11 : Int) (e5 : Str) (e6 : Str) (x : Int) : Ffbq_la data_8 a_9 b_10 pivot_11 e5 e6 x=Ffbq_la_F data_8 a_9 b_10 pivot_11 e5 e6 (Ffbq_la data_8 a_9 b_10 pivot_11 e5 e6) x:=fix_eq (Ffbq_la_fin data_8 a_9 b_10 pivot_11 e5 e6) x
noncomputable def Ffbq_lb_F (data_8 : List Str) (a_9 : Int) (b_10 : Int) (pivot_11 : Int) (u19 : Int × Int) (e5 : Str) (e6 : Str) (self : Int→Option ((Int × Bool × (List Str)) ⊕ Int)) (x20 : Int) : Option ((Int × Bool × (List Str)) ⊕ Int) :=
  bindL (ρ:=Int × Bool × (List Str)) (bif (decide (u19.1 ≤ x20)) then ((getI (setI (setI data_8 a_9 e5) pivot_11 e6) x20).bind fun e22=>(getI (setI (setI data_8 a_9 e5) pivot_11 e6) a_9).bind fun e23=>(Ffa e22 e23).bind fun r24=>some (.inr (!r24))) else (some (.inr false))) fun u21 : Bool=>bif u21 then (self (w64 (x20 - 1))) else (some (.inr x20))
noncomputable def Ffbq_lb (data_8 : List Str) (a_9 : Int) (b_10 : Int) (pivot_11 : Int) (u19 : Int × Int) (e5 : Str) (e6 : Str) : Int→Option ((Int × Bool × (List Str)) ⊕ Int):=fixO (Ffbq_lb_F data_8 a_9 b_10 pivot_11 u19 e5 e6)
theorem Ffbq_lb_fin (data_8 : List Str) (a_9 : Int) (b_10 : Int) (pivot_11 : Int) (u19 : Int × Int) (e5 : Str) (e6 : Str) : ∀ a,Fin1 fun f=>Ffbq_lb_F data_8 a_9 b_10 pivot_11 u19 e5 e6 f a:=by
  intro a
  unfold Ffbq_lb_F
  repeat first|exact f_const|exact f_self|refine f_cond ?_ ?_|refine f_bindJ ?_ (fun _=>?_)|refine f_bindL ?_ (fun _=>?_)|refine f_bind ?_ (fun _=>?_)|refine f_letJ (fun _=>?_)
theorem Ffbq_lb_eq (data_8 : List Str) (a_9 : Int) (b_10 : Int) (pivot_11 : Int) (u19 : Int × Int) (e5 : Str) (e6 : Str) (x : Int) : Ffbq_lb data_8 a_9 b_10 pivot_11 u19 e5 e6 x=Ffbq_lb_F data_8 a_9 b_10 pivot_11 u19 e5 e6 (Ffbq_lb data_8 a_9 b_10 pivot_11 u19 e5 e6) x:=fix_eq (Ffbq_lb_fin data_8 a_9 b_10 pivot_11 u19 e5 e6) x
noncomputable def Ffbq_ld_F (data_8 : List Str) (a_9 : Int) (b_10 : Int) (pivot_11 : Int) (x45 : Int × Int × (List Str)) (self : Int→Option ((Int × Bool × (List Str)) ⊕ Int)) (x46 : Int) : Option ((Int × Bool × (List Str)) ⊕ Int) :=
  bindL (ρ:=Int × Bool × (List Str)) (bif (decide (x46 ≤ x45.2.1)) then ((getI x45.2.2 x46).bind fun e48=>(getI x45.2.2 a_9).bind fun e49=>(Ffa e48 e49).bind fun r50=>some (.inr r50)) else (some (.inr false))) fun u47 : Bool=>bif u47 then (self (w64 (x46 + 1))) else (some (.inr x46))
noncomputable def Ffbq_ld (data_8 : List Str) (a_9 : Int) (b_10 : Int) (pivot_11 : Int) (x45 : Int × Int × (List Str)) : Int→Option ((Int × Bool × (List Str)) ⊕ Int):=fixO (Ffbq_ld_F data_8 a_9 b_10 pivot_11 x45)
theorem Ffbq_ld_fin (data_8 : List Str) (a_9 : Int) (b_10 : Int) (pivot_11 : Int) (x45 : Int × Int × (List Str)) : ∀ a,Fin1 fun f=>Ffbq_ld_F data_8 a_9 b_10 pivot_11 x45 f a:=by
  intro a
  unfold Ffbq_ld_F
  repeat first|exact f_const|exact f_self|refine f_cond ?_ ?_|refine f_bindJ ?_ (fun _=>?_)|refine f_bindL ?_ (fun _=>?_)|refine f_bind ?_ (fun _=>?_)|refine f_letJ (fun _=>?_)
theorem Ffbq_ld_eq (data_8 : List Str) (a_9 : Int) (b_10 : Int) (pivot_11 : Int) (x45 : Int × Int × (List Str)) (x : Int) : Ffbq_ld data_8 a_9 b_10 pivot_11 x45 x=Ffbq_ld_F data_8 a_9 b_10 pivot_11 x45 (Ffbq_ld data_8 a_9 b_10 pivot_11 x45) x:=fix_eq (Ffbq_ld_fin data_8 a_9 b_10 pivot_11 x45) x
noncomputable def Ffbq_le_F (data_8 : List Str) (a_9 : Int) (b_10 : Int) (pivot_11 : Int) (u51 : Int) (x45 : Int × Int × (List Str)) (self : Int→Option ((Int × Bool × (List Str)) ⊕ Int)) (x52 : Int) : Option ((Int × Bool × (List Str)) ⊕ Int) :=
  bindL (ρ:=Int × Bool × (List Str)) (bif (decide (u51 ≤ x52)) then ((getI x45.2.2 x52).bind fun e54=>(getI x45.2.2 a_9).bind fun e55=>(Ffa e54 e55).bind fun r56=>some (.inr (!r56))) else (some (.inr false))) fun u53 : Bool=>bif u53 then (self (w64 (x52 - 1))) else (some (.inr x52))
noncomputable def Ffbq_le (data_8 : List Str) (a_9 : Int) (b_10 : Int) (pivot_11 : Int) (u51 : Int) (x45 : Int × Int × (List Str)) : Int→Option ((Int × Bool × (List Str)) ⊕ Int):=fixO (Ffbq_le_F data_8 a_9 b_10 pivot_11 u51 x45)
theorem Ffbq_le_fin (data_8 : List Str) (a_9 : Int) (b_10 : Int) (pivot_11 : Int) (u51 : Int) (x45 : Int × Int × (List Str)) : ∀ a,Fin1 fun f=>Ffbq_le_F data_8 a_9 b_10 pivot_11 u51 x45 f a:=by
  intro a
  unfold Ffbq_le_F
  repeat first|exact f_const|exact f_self|refine f_cond ?_ ?_|refine f_bindJ ?_ (fun _=>?_)|refine f_bindL ?_ (fun _=>?_)|refine f_bind ?_ (fun _=>?_)|refine f_letJ (fun _=>?_)
theorem Ffbq_le_eq (data_8 : List Str) (a_9 : Int) (b_10 : Int) (pivot_11 : Int) (u51 : Int) (x45 : Int × Int × (List Str)) (x : Int) : Ffbq_le data_8 a_9 b_10 pivot_11 u51 x45 x=Ffbq_le_F data_8 a_9 b_10 pivot_11 u51 x45 (Ffbq_le data_8 a_9 b_10 pivot_11 u51 x45) x:=fix_eq (Ffbq_le_fin data_8 a_9 b_10 pivot_11 u51 x45) x
noncomputable def Ffbq_lc_F (data_8 : List Str) (a_9 : Int) (b_10 : Int) (pivot_11 : Int)  (self : (Int × Int × (List Str))→Option ((Int × Bool × (List Str)) ⊕ (Int × (List Str)))) (x45 : Int × Int × (List Str)) : Option ((Int × Bool × (List Str)) ⊕ (Int × (List Str))) :=
  bindL (ρ:=Int × Bool × (List Str)) (Ffbq_ld data_8 a_9 b_10 pivot_11 x45 x45.1) fun u51 : Int=>bindL (ρ:=Int × Bool × (List Str)) (Ffbq_le data_8 a_9 b_10 pivot_11 u51 x45 x45.2.1) fun u57 : Int=>bif (decide (u51 > u57)) then (some (.inr (u57,x45.2.2))) else ((getI x45.2.2 u57).bind fun e58=>(getI x45.2.2 u51).bind fun e59=>(getI x45.2.2 u51).bind fun e60=>(getI (setI x45.2.2 u51 e58) u57).bind fun e63=>self ((w64 (u51 + 1)),(w64 (u57 - 1)),(setI (setI x45.2.2 u51 e58) u57 e59)))
noncomputable def Ffbq_lc (data_8 : List Str) (a_9 : Int) (b_10 : Int) (pivot_11 : Int)  : (Int × Int × (List Str))→Option ((Int × Bool × (List Str)) ⊕ (Int × (List Str))):=fixO (Ffbq_lc_F data_8 a_9 b_10 pivot_11)
theorem Ffbq_lc_fin (data_8 : List Str) (a_9 : Int) (b_10 : Int) (pivot_11 : Int)  : ∀ a,Fin1 fun f=>Ffbq_lc_F data_8 a_9 b_10 pivot_11 f a:=by
  intro a
  unfold Ffbq_lc_F
  repeat first|exact f_const|exact f_self|refine f_cond ?_ ?_|refine f_bindJ ?_ (fun _=>?_)|refine f_bindL ?_ (fun _=>?_)|refine f_bind ?_ (fun _=>?_)|refine f_letJ (fun _=>?_)
theorem Ffbq_lc_eq (data_8 : List Str) (a_9 : Int) (b_10 : Int) (pivot_11 : Int)  (x : Int × Int × (List Str)) : Ffbq_lc data_8 a_9 b_10 pivot_11 x=Ffbq_lc_F data_8 a_9 b_10 pivot_11 (Ffbq_lc data_8 a_9 b_10 pivot_11) x:=fix_eq (Ffbq_lc_fin data_8 a_9 b_10 pivot_11) x
noncomputable def Ffbq (data_8 : List Str) (a_9 : Int) (b_10 : Int) (pivot_11 : Int) : Option (Int × Bool × (List Str)) :=
  (getI data_8 pivot_11).bind fun e5=>(getI data_8 a_9).bind fun e6=>(getI data_8 a_9).bind fun e7=>(getI (setI data_8 a_9 e5) pivot_11).bind fun e10=>bindJ (ρ:=Int × Bool × (List Str)) (Ffbq_la data_8 a_9 b_10 pivot_11 e5 e6 (w64 (a_9 + 1))) fun u19 : Int × Int=>bindJ (ρ:=Int × Bool × (List Str)) (Ffbq_lb data_8 a_9 b_10 pivot_11 u19 e5 e6 u19.2) fun u25 : Int=>bif (decide (u19.1 > u25)) then ((getI (setI (setI data_8 a_9 e5) pivot_11 e6) a_9).bind fun e26=>(getI (setI (setI data_8 a_9 e5) pivot_11 e6) u25).bind fun e27=>(getI (setI (setI data_8 a_9 e5) pivot_11 e6) u25).bind fun e28=>(getI (setI (setI (setI data_8 a_9 e5) pivot_11 e6) u25 e26) a_9).bind fun e31=>bif Nat.beq (setI (setI (setI (setI data_8 a_9 e5) pivot_11 e6) u25 e26) a_9 e27).length data_8.length then (some (u25,true,(setI (setI (setI (setI data_8 a_9 e5) pivot_11 e6) u25 e26) a_9 e27))) else none) else ((getI (setI (setI data_8 a_9 e5) pivot_11 e6) u25).bind fun e36=>(getI (setI (setI data_8 a_9 e5) pivot_11 e6) u19.1).bind fun e37=>(getI (setI (setI data_8 a_9 e5) pivot_11 e6) u19.1).bind fun e38=>(getI (setI (setI (setI data_8 a_9 e5) pivot_11 e6) u19.1 e36) u25).bind fun e41=>bindJ (ρ:=Int × Bool × (List Str)) (Ffbq_lc data_8 a_9 b_10 pivot_11 ((w64 (u19.1 + 1)),(w64 (u25 - 1)),(setI (setI (setI (setI data_8 a_9 e5) pivot_11 e6) u19.1 e36) u25 e37))) fun u67 : Int × (List Str)=>(getI u67.2 a_9).bind fun e68=>(getI u67.2 u67.1).bind fun e69=>(getI u67.2 u67.1).bind fun e70=>(getI (setI u67.2 u67.1 e68) a_9).bind fun e73=>bif Nat.beq (setI (setI u67.2 u67.1 e68) a_9 e69).length data_8.length then (some (u67.1,false,(setI (setI u67.2 u67.1 e68) a_9 e69))) else none)
noncomputable def Ffbr_la_F (slf_Ffbr : ((List Str) × Int × Int × Int)→Option ((List Str))) (data_7 : List Str) (a_8 : Int) (b_9 : Int) (limit_10 : Int)  (self : (Int × Int × Int × Bool × Bool × (List Str))→Option (((List Str)) ⊕ Unit)) (x5 : Int × Int × Int × Bool × Bool × (List Str)) : Option (((List Str)) ⊕ Unit) :=
  bif (decide ((w64 (x5.2.1 - x5.1)) ≤ 12)) then ((Ffbj x5.2.2.2.2.2 x5.1 x5.2.1).bind fun r6=>bif Nat.beq r6.length x5.2.2.2.2.2.length then (bif Nat.beq r6.length data_7.length then (some (.inl r6)) else none) else none) else (bif (x5.2.2.1 == 0) then ((Ffbi x5.2.2.2.2.2 x5.1 x5.2.1).bind fun r9=>bif Nat.beq r9.length x5.2.2.2.2.2.length then (bif Nat.beq r9.length data_7.length then (some (.inl r9)) else none) else none) else (bindL (ρ:=(List Str)) (bif (!x5.2.2.2.1) then ((Ffbg x5.2.2.2.2.2 x5.1 x5.2.1).bind fun r36=>bif Nat.beq r36.length x5.2.2.2.2.2.length then (some (.inr ((w64 (x5.2.2.1 - 1)),r36))) else none) else (some (.inr (x5.2.2.1,x5.2.2.2.2.2)))) fun u12 : Int × (List Str)=>(Ffbh u12.2 x5.1 x5.2.1).bind fun r13=>bindL (ρ:=(List Str)) (bif (r13.2 == 2) then ((Ffbs u12.2 x5.1 x5.2.1).bind fun r34=>bif Nat.beq r34.length u12.2.length then (some (.inr ((w64 ((w64 (x5.2.1 - 1)) - (w64 (r13.1 - x5.1)))),1,r34))) else none) else (some (.inr (r13.1,r13.2,u12.2)))) fun u14 : Int × Int × (List Str)=>letJ (bif x5.2.2.2.1 then (letJ (bif x5.2.2.2.2.1 then ((u14.2.1 == 1)) else (false)) fun u33 : Bool=>u33) else (false)) fun u15 : Bool=>bindL (ρ:=(List Str)) (bif u15 then ((Ffbo u14.2.2 x5.1 x5.2.1).bind fun r30=>bif Nat.beq r30.2.length u14.2.2.length then (bif r30.1 then (bif Nat.beq r30.2.length data_7.length then (some (.inl r30.2)) else none) else (some (.inr r30.2))) else none) else (some (.inr u14.2.2))) fun u16 : (List Str)=>bindL (ρ:=(List Str)) (bif (decide (x5.1 > 0)) then ((getI u16 (w64 (x5.1 - 1))).bind fun e27=>(getI u16 u14.1).bind fun e28=>(Ffa e27 e28).bind fun r29=>some (.inr (!r29))) else (some (.inr false))) fun u17 : Bool=>bif u17 then ((Ffbp u16 x5.1 x5.2.1 u14.1).bind fun r18=>bif Nat.beq r18.2.length u16.length then (self (r18.1,x5.2.1,u12.1,x5.2.2.2.1,x5.2.2.2.2.1,r18.2)) else none) else ((Ffbq u16 x5.1 x5.2.1 u14.1).bind fun r20=>bif Nat.beq r20.2.2.length u16.length then (bindL (ρ:=(List Str)) (bif (decide ((w64 (r20.1 - x5.1)) < (w64 (x5.2.1 - r20.1)))) then ((slf_Ffbr (r20.2.2,x5.1,r20.1,u12.1)).bind fun r23=>bif Nat.beq r23.length r20.2.2.length then (some (.inr ((w64 (r20.1 + 1)),x5.2.1,(decide ((w64 (r20.1 - x5.1)) ≥ (w64 ((w64 (x5.2.1 - x5.1)).tdiv 8)))),r23))) else none) else ((slf_Ffbr (r20.2.2,(w64 (r20.1 + 1)),x5.2.1,u12.1)).bind fun r25=>bif Nat.beq r25.length r20.2.2.length then (some (.inr (x5.1,r20.1,(decide ((w64 (x5.2.1 - r20.1)) ≥ (w64 ((w64 (x5.2.1 - x5.1)).tdiv 8)))),r25))) else none)) fun u22 : Int × Int × Bool × (List Str)=>self (u22.1,u22.2.1,u12.1,u22.2.2.1,r20.2.1,u22.2.2.2)) else none)))
noncomputable def Ffbr_la (slf_Ffbr : ((List Str) × Int × Int × Int)→Option ((List Str))) (data_7 : List Str) (a_8 : Int) (b_9 : Int) (limit_10 : Int)  : (Int × Int × Int × Bool × Bool × (List Str))→Option (((List Str)) ⊕ Unit):=fixO (Ffbr_la_F slf_Ffbr data_7 a_8 b_9 limit_10)
theorem Ffbr_la_fin (slf_Ffbr : ((List Str) × Int × Int × Int)→Option ((List Str))) (data_7 : List Str) (a_8 : Int) (b_9 : Int) (limit_10 : Int)  : ∀ a,Fin1 fun f=>Ffbr_la_F slf_Ffbr data_7 a_8 b_9 limit_10 f a:=by
  intro a
  unfold Ffbr_la_F
  repeat first|exact f_const|exact f_self|refine f_cond ?_ ?_|refine f_bindJ ?_ (fun _=>?_)|refine f_bindL ?_ (fun _=>?_)|refine f_bind ?_ (fun _=>?_)|refine f_letJ (fun _=>?_)
theorem Ffbr_la_eq (slf_Ffbr : ((List Str) × Int × Int × Int)→Option ((List Str))) (data_7 : List Str) (a_8 : Int) (b_9 : Int) (limit_10 : Int)  (x : Int × Int × Int × Bool × Bool × (List Str)) : Ffbr_la slf_Ffbr data_7 a_8 b_9 limit_10 x=Ffbr_la_F slf_Ffbr data_7 a_8 b_9 limit_10 (Ffbr_la slf_Ffbr data_7 a_8 b_9 limit_10) x:=fix_eq (Ffbr_la_fin slf_Ffbr data_7 a_8 b_9 limit_10) x
noncomputable def Ffbr_B (slf_Ffbr : ((List Str) × Int × Int × Int)→Option ((List Str))) (data_7 : List Str) (a_8 : Int) (b_9 : Int) (limit_10 : Int) : Option ((List Str)) :=
  bindJ (ρ:=(List Str)) (Ffbr_la slf_Ffbr data_7 a_8 b_9 limit_10 (a_8,b_9,limit_10,true,true,data_7)) fun u38 : Unit=>none
noncomputable def Ffbr_G (slf_Ffbr : ((List Str) × Int × Int × Int)→Option ((List Str))) (x : (List Str) × Int × Int × Int) : Option ((List Str)):=Ffbr_B slf_Ffbr x.1 x.2.1 x.2.2.1 x.2.2.2
noncomputable def Ffbr (data_7 : List Str) (a_8 : Int) (b_9 : Int) (limit_10 : Int) : Option ((List Str)):=fixO Ffbr_G (data_7,a_8,b_9,limit_10)
theorem Ffbr_fin : ∀ x,Fin1 fun slf_Ffbr=>Ffbr_G slf_Ffbr x:=by
  intro x
  unfold Ffbr_G Ffbr_B
  repeat first|exact f_const|exact f_self|exact f_selfL|exact f_selfR|exact f_selfLL|exact f_selfRL|exact f_selfLLL|exact f_selfRLL|refine f_cond ?_ ?_|refine f_bindJ ?_ (fun _=>?_)|refine f_bindL ?_ (fun _=>?_)|refine f_bind ?_ (fun _=>?_)|refine f_letJ (fun _=>?_)|refine f_fix (fun _=>?_) | unfold Ffbr_la | unfold Ffbr_la_F
theorem Ffbr_eq (data_7 : List Str) (a_8 : Int) (b_9 : Int) (limit_10 : Int) : Ffbr data_7 a_8 b_9 limit_10=Ffbr_B (fixO Ffbr_G) data_7 a_8 b_9 limit_10:=fix_eq Ffbr_fin (data_7,a_8,b_9,limit_10)
noncomputable def Ffbf (x_3 : List Str) : Option ((List Str)) :=
  (Ffy (IntKind.u64.wrap (len x_3))).bind fun r2=>(Ffbr x_3 0 (len x_3) r2).bind fun r3=>bif Nat.beq r3.length x_3.length then (bif Nat.beq r3.length x_3.length then (some r3) else none) else none
noncomputable def Ffbc_lb_F (s_2 : List Str) (x2 : Int) (self : (Int × Int × (List Str))→Option (((List Str)) ⊕ (Int × (List Str)))) (x6 : Int × Int × (List Str)) : Option (((List Str)) ⊕ (Int × (List Str))) :=
  bif (decide (x6.2.1 < (((Int.toNat (len s_2) - Int.toNat (x2)) : Nat) : Int))) then ((getP x6.2.2 (0 + Int.toNat (x2)) (Int.toNat (len s_2) - Int.toNat (x2)) x6.2.1).bind fun e7=>(getP x6.2.2 (0 + Int.toNat (x2)) (Int.toNat (len s_2) - Int.toNat (x2)) (w64 (x6.2.1 - 1))).bind fun e8=>bindL (ρ:=(List Str)) (bif (!(e7 == e8)) then ((getP x6.2.2 (0 + Int.toNat (x2)) (Int.toNat (len s_2) - Int.toNat (x2)) x6.2.1).bind fun e10=>(getI x6.2.2 x6.1).bind fun e11=>some (.inr ((w64 (x6.1 + 1)),(setI x6.2.2 x6.1 e10)))) else (some (.inr (x6.1,x6.2.2)))) fun u9 : Int × (List Str)=>self (u9.1,(w64 (x6.2.1 + 1)),u9.2)) else (some (.inr (x6.1,x6.2.2)))
noncomputable def Ffbc_lb (s_2 : List Str) (x2 : Int) : (Int × Int × (List Str))→Option (((List Str)) ⊕ (Int × (List Str))):=fixO (Ffbc_lb_F s_2 x2)
theorem Ffbc_lb_fin (s_2 : List Str) (x2 : Int) : ∀ a,Fin1 fun f=>Ffbc_lb_F s_2 x2 f a:=by
  intro a
  unfold Ffbc_lb_F
  repeat first|exact f_const|exact f_self|refine f_cond ?_ ?_|refine f_bindJ ?_ (fun _=>?_)|refine f_bindL ?_ (fun _=>?_)|refine f_bind ?_ (fun _=>?_)|refine f_letJ (fun _=>?_)
theorem Ffbc_lb_eq (s_2 : List Str) (x2 : Int) (x : Int × Int × (List Str)) : Ffbc_lb s_2 x2 x=Ffbc_lb_F s_2 x2 (Ffbc_lb s_2 x2) x:=fix_eq (Ffbc_lb_fin s_2 x2) x
noncomputable def Ffbc_la_F (s_2 : List Str)  (self : Int→Option (((List Str)) ⊕ ((List Str)))) (x2 : Int) : Option (((List Str)) ⊕ ((List Str))) :=
  bif (decide (x2 < (len s_2))) then ((getI s_2 x2).bind fun e3=>(getI s_2 (w64 (x2 - 1))).bind fun e4=>bif (e3 == e4) then ((subP s_2.length x2 (len s_2)).bind fun s5=>bindL (ρ:=(List Str)) (Ffbc_lb s_2 x2 (x2,1,s_2)) fun u15 : Int × (List Str)=>(subP u15.2.length u15.1 (len u15.2)).bind fun s16=>(clrP u15.2 (0 + Int.toNat (u15.1)) (Int.toNat (len u15.2) - Int.toNat (u15.1)) []).bind fun k17=>(subP k17.length 0 u15.1).bind fun s18=>(partP k17 (0 + Int.toNat (0)) (Int.toNat (u15.1) - Int.toNat (0))).bind fun p19=>some (.inl p19)) else (self (w64 (x2 + 1)))) else (some (.inr s_2))
noncomputable def Ffbc_la (s_2 : List Str)  : Int→Option (((List Str)) ⊕ ((List Str))):=fixO (Ffbc_la_F s_2)
theorem Ffbc_la_fin (s_2 : List Str)  : ∀ a,Fin1 fun f=>Ffbc_la_F s_2 f a:=by
  intro a
  unfold Ffbc_la_F
  repeat first|exact f_const|exact f_self|refine f_cond ?_ ?_|refine f_bindJ ?_ (fun _=>?_)|refine f_bindL ?_ (fun _=>?_)|refine f_bind ?_ (fun _=>?_)|refine f_letJ (fun _=>?_)
theorem Ffbc_la_eq (s_2 : List Str)  (x : Int) : Ffbc_la s_2 x=Ffbc_la_F s_2 (Ffbc_la s_2) x:=fix_eq (Ffbc_la_fin s_2) x
noncomputable def Ffbc (s_2 : List Str) : Option ((List Str)) :=
  bif (decide ((len s_2) < 2)) then (some s_2) else (bindJ (ρ:=(List Str)) (Ffbc_la s_2 1) fun u20 : (List Str)=>some u20)
noncomputable def Ffk (list_5 : List Str) : Option ((List Str)) :=
  (Ffbf list_5).bind fun r2=>bif Nat.beq r2.length list_5.length then ((Ffbc r2).bind fun r4=>some r4) else none
noncomputable def Fff_la_F (slf_Fff : (Condition × (List Int))→Option ((List Int))) (c_3 : Condition) (list_4 : List Int)  (self : (Int × (List Int))→Option (((List Int)) ⊕ ((List Int)))) (x4 : Int × (List Int)) : Option (((List Int)) ⊕ ((List Int))) :=
  bif (decide (x4.1 < (len c_3.Parts))) then ((getI c_3.Parts x4.1).bind fun e5=>(slf_Fff (e5,x4.2)).bind fun r6=>self ((w64 (x4.1 + 1)),r6)) else (some (.inr x4.2))
noncomputable def Fff_la (slf_Fff : (Condition × (List Int))→Option ((List Int))) (c_3 : Condition) (list_4 : List Int)  : (Int × (List Int))→Option (((List Int)) ⊕ ((List Int))):=fixO (Fff_la_F slf_Fff c_3 list_4)
theorem Fff_la_fin (slf_Fff : (Condition × (List Int))→Option ((List Int))) (c_3 : Condition) (list_4 : List Int)  : ∀ a,Fin1 fun f=>Fff_la_F slf_Fff c_3 list_4 f a:=by
  intro a
  unfold Fff_la_F
  repeat first|exact f_const|exact f_self|refine f_cond ?_ ?_|refine f_bindJ ?_ (fun _=>?_)|refine f_bindL ?_ (fun _=>?_)|refine f_bind ?_ (fun _=>?_)|refine f_letJ (fun _=>?_)
theorem Fff_la_eq (slf_Fff : (Condition × (List Int))→Option ((List Int))) (c_3 : Condition) (list_4 : List Int)  (x : Int × (List Int)) : Fff_la slf_Fff c_3 list_4 x=Fff_la_F slf_Fff c_3 list_4 (Fff_la slf_Fff c_3 list_4) x:=fix_eq (Fff_la_fin slf_Fff c_3 list_4) x
noncomputable def Fff_B (slf_Fff : (Condition × (List Int))→Option ((List Int))) (c_3 : Condition) (list_4 : List Int) : Option ((List Int)) :=
  bindJ (ρ:=(List Int)) (bif (c_3.Op == 3) then ((appI 8 list_4 [c_3.Day]).bind fun a8=>some (.inr a8)) else (some (.inr list_4))) fun u3 : (List Int)=>bindJ (ρ:=(List Int)) (Fff_la slf_Fff c_3 list_4 (0,u3)) fun u7 : (List Int)=>some u7
noncomputable def Fff_G (slf_Fff : (Condition × (List Int))→Option ((List Int))) (x : Condition × (List Int)) : Option ((List Int)):=Fff_B slf_Fff x.1 x.2
noncomputable def Fff (c_3 : Condition) (list_4 : List Int) : Option ((List Int)):=fixO Fff_G (c_3,list_4)
theorem Fff_fin : ∀ x,Fin1 fun slf_Fff=>Fff_G slf_Fff x:=by
  intro x
  unfold Fff_G Fff_B
  repeat first|exact f_const|exact f_self|exact f_selfL|exact f_selfR|exact f_selfLL|exact f_selfRL|exact f_selfLLL|exact f_selfRLL|refine f_cond ?_ ?_|refine f_bindJ ?_ (fun _=>?_)|refine f_bindL ?_ (fun _=>?_)|refine f_bind ?_ (fun _=>?_)|refine f_letJ (fun _=>?_)|refine f_fix (fun _=>?_) | unfold Fff_la | unfold Fff_la_F
theorem Fff_eq (c_3 : Condition) (list_4 : List Int) : Fff c_3 list_4=Fff_B (fixO Fff_G) c_3 list_4:=fix_eq Fff_fin (c_3,list_4)
noncomputable def Ffi_B (slf_Ffi : (Condition × (List Str) × Int)→Option Bool) (c_1 : Condition) (facts_2 : List Str) (day_3 : Int) : Option Bool :=
  bif (c_1.Op == 2) then ((Ffbd facts_2 c_1.Name).bind fun r4=>some r4) else (bif (c_1.Op == 3) then (some (decide (day_3 ≥ c_1.Day))) else (bif (c_1.Op == 4) then ((getI c_1.Parts 0).bind fun e5=>(slf_Ffi (e5,facts_2,day_3)).bind fun r6=>some (!r6)) else (bif (c_1.Op == 5) then ((getI c_1.Parts 0).bind fun e7=>(slf_Ffi (e7,facts_2,day_3)).bind fun r8=>bindJ (ρ:=Bool) (bif r8 then ((getI c_1.Parts 1).bind fun e10=>(slf_Ffi (e10,facts_2,day_3)).bind fun r11=>some (.inr r11)) else (some (.inr false))) fun u9 : Bool=>some u9) else (bif (c_1.Op == 6) then ((getI c_1.Parts 0).bind fun e12=>(slf_Ffi (e12,facts_2,day_3)).bind fun r13=>bindJ (ρ:=Bool) (bif r13 then (some (.inr true)) else ((getI c_1.Parts 1).bind fun e15=>(slf_Ffi (e15,facts_2,day_3)).bind fun r16=>some (.inr r16))) fun u14 : Bool=>some u14) else (some true)))))
noncomputable def Ffi_G (slf_Ffi : (Condition × (List Str) × Int)→Option Bool) (x : Condition × (List Str) × Int) : Option Bool:=Ffi_B slf_Ffi x.1 x.2.1 x.2.2
noncomputable def Ffi (c_1 : Condition) (facts_2 : List Str) (day_3 : Int) : Option Bool:=fixO Ffi_G (c_1,facts_2,day_3)
theorem Ffi_fin : ∀ x,Fin1 fun slf_Ffi=>Ffi_G slf_Ffi x:=by
  intro x
  unfold Ffi_G Ffi_B
  repeat first|exact f_const|exact f_self|refine f_cond ?_ ?_|refine f_bindJ ?_ (fun _=>?_)|refine f_bindL ?_ (fun _=>?_)|refine f_bind ?_ (fun _=>?_)|refine f_letJ (fun _=>?_)
theorem Ffi_eq (c_1 : Condition) (facts_2 : List Str) (day_3 : Int) : Ffi c_1 facts_2 day_3=Ffi_B (fixO Ffi_G) c_1 facts_2 day_3:=fix_eq Ffi_fin (c_1,facts_2,day_3)
noncomputable def Ffl_lb_F (a_1 : Condition) (b_2 : Condition) (holds_3 : Bool) (r6 : (List Str)) (x10 : Int) (r8 : (List Int)) (q9 : Int) (self : (Int × (List Str))→Option ((Bool × Bool) ⊕ ((List Str)))) (x11 : Int × (List Str)) : Option ((Bool × Bool) ⊕ ((List Str))) :=
  bif (decide (x11.1 < (len r6))) then ((getI r6 x11.1).bind fun e12=>(shrO .i64 x10 x11.1).bind fun q13=>bindL (ρ:=Bool × Bool) (bif ((andI .i64 q13 1) == 1) then ((appI 16 x11.2 [e12]).bind fun a15=>some (.inr a15)) else (some (.inr x11.2))) fun u14 : (List Str)=>self ((w64 (x11.1 + 1)),u14)) else (some (.inr x11.2))
noncomputable def Ffl_lb (a_1 : Condition) (b_2 : Condition) (holds_3 : Bool) (r6 : (List Str)) (x10 : Int) (r8 : (List Int)) (q9 : Int) : (Int × (List Str))→Option ((Bool × Bool) ⊕ ((List Str))):=fixO (Ffl_lb_F a_1 b_2 holds_3 r6 x10 r8 q9)
theorem Ffl_lb_fin (a_1 : Condition) (b_2 : Condition) (holds_3 : Bool) (r6 : (List Str)) (x10 : Int) (r8 : (List Int)) (q9 : Int) : ∀ a,Fin1 fun f=>Ffl_lb_F a_1 b_2 holds_3 r6 x10 r8 q9 f a:=by
  intro a
  unfold Ffl_lb_F
  repeat first|exact f_const|exact f_self|refine f_cond ?_ ?_|refine f_bindJ ?_ (fun _=>?_)|refine f_bindL ?_ (fun _=>?_)|refine f_bind ?_ (fun _=>?_)|refine f_letJ (fun _=>?_)
theorem Ffl_lb_eq (a_1 : Condition) (b_2 : Condition) (holds_3 : Bool) (r6 : (List Str)) (x10 : Int) (r8 : (List Int)) (q9 : Int) (x : Int × (List Str)) : Ffl_lb a_1 b_2 holds_3 r6 x10 r8 q9 x=Ffl_lb_F a_1 b_2 holds_3 r6 x10 r8 q9 (Ffl_lb a_1 b_2 holds_3 r6 x10 r8 q9) x:=fix_eq (Ffl_lb_fin a_1 b_2 holds_3 r6 x10 r8 q9) x
noncomputable def Ffl_lc_F (a_1 : Condition) (b_2 : Condition) (holds_3 : Bool) (r8 : (List Int)) (u16 : (List Str)) (r6 : (List Str)) (q9 : Int) (x10 : Int) (self : Int→Option ((Bool × Bool) ⊕ Unit)) (x17 : Int) : Option ((Bool × Bool) ⊕ Unit) :=
  bif (decide (x17 < (len r8))) then ((getI r8 x17).bind fun e18=>(Ffi a_1 u16 e18).bind fun r19=>bindL (ρ:=Bool × Bool) (bif r19 then ((Ffi b_2 u16 e18).bind fun r21=>some (.inr (r21 == holds_3))) else (some (.inr false))) fun u20 : Bool=>bif u20 then (some (.inl (true,true))) else (self (w64 (x17 + 1)))) else (some (.inr ()))
noncomputable def Ffl_lc (a_1 : Condition) (b_2 : Condition) (holds_3 : Bool) (r8 : (List Int)) (u16 : (List Str)) (r6 : (List Str)) (q9 : Int) (x10 : Int) : Int→Option ((Bool × Bool) ⊕ Unit):=fixO (Ffl_lc_F a_1 b_2 holds_3 r8 u16 r6 q9 x10)
theorem Ffl_lc_fin (a_1 : Condition) (b_2 : Condition) (holds_3 : Bool) (r8 : (List Int)) (u16 : (List Str)) (r6 : (List Str)) (q9 : Int) (x10 : Int) : ∀ a,Fin1 fun f=>Ffl_lc_F a_1 b_2 holds_3 r8 u16 r6 q9 x10 f a:=by
  intro a
  unfold Ffl_lc_F
  repeat first|exact f_const|exact f_self|refine f_cond ?_ ?_|refine f_bindJ ?_ (fun _=>?_)|refine f_bindL ?_ (fun _=>?_)|refine f_bind ?_ (fun _=>?_)|refine f_letJ (fun _=>?_)
theorem Ffl_lc_eq (a_1 : Condition) (b_2 : Condition) (holds_3 : Bool) (r8 : (List Int)) (u16 : (List Str)) (r6 : (List Str)) (q9 : Int) (x10 : Int) (x : Int) : Ffl_lc a_1 b_2 holds_3 r8 u16 r6 q9 x10 x=Ffl_lc_F a_1 b_2 holds_3 r8 u16 r6 q9 x10 (Ffl_lc a_1 b_2 holds_3 r8 u16 r6 q9 x10) x:=fix_eq (Ffl_lc_fin a_1 b_2 holds_3 r8 u16 r6 q9 x10) x
noncomputable def Ffl_la_F (a_1 : Condition) (b_2 : Condition) (holds_3 : Bool) (q9 : Int) (r6 : (List Str)) (r8 : (List Int)) (self : Int→Option ((Bool × Bool) ⊕ Unit)) (x10 : Int) : Option ((Bool × Bool) ⊕ Unit) :=
  bif (decide (x10 < q9)) then (bindL (ρ:=Bool × Bool) (Ffl_lb a_1 b_2 holds_3 r6 x10 r8 q9 (0,[])) fun u16 : (List Str)=>bindL (ρ:=Bool × Bool) (Ffl_lc a_1 b_2 holds_3 r8 u16 r6 q9 x10 0) fun u22 : Unit=>self (w64 (x10 + 1))) else (some (.inr ()))
noncomputable def Ffl_la (a_1 : Condition) (b_2 : Condition) (holds_3 : Bool) (q9 : Int) (r6 : (List Str)) (r8 : (List Int)) : Int→Option ((Bool × Bool) ⊕ Unit):=fixO (Ffl_la_F a_1 b_2 holds_3 q9 r6 r8)
theorem Ffl_la_fin (a_1 : Condition) (b_2 : Condition) (holds_3 : Bool) (q9 : Int) (r6 : (List Str)) (r8 : (List Int)) : ∀ a,Fin1 fun f=>Ffl_la_F a_1 b_2 holds_3 q9 r6 r8 f a:=by
  intro a
  unfold Ffl_la_F
  repeat first|exact f_const|exact f_self|refine f_cond ?_ ?_|refine f_bindJ ?_ (fun _=>?_)|refine f_bindL ?_ (fun _=>?_)|refine f_bind ?_ (fun _=>?_)|refine f_letJ (fun _=>?_)
theorem Ffl_la_eq (a_1 : Condition) (b_2 : Condition) (holds_3 : Bool) (q9 : Int) (r6 : (List Str)) (r8 : (List Int)) (x : Int) : Ffl_la a_1 b_2 holds_3 q9 r6 r8 x=Ffl_la_F a_1 b_2 holds_3 q9 r6 r8 (Ffl_la a_1 b_2 holds_3 q9 r6 r8) x:=fix_eq (Ffl_la_fin a_1 b_2 holds_3 q9 r6 r8) x
noncomputable def Ffl (a_1 : Condition) (b_2 : Condition) (holds_3 : Bool) : Option (Bool × Bool) :=
  (Ffg a_1 []).bind fun r4=>(Ffg b_2 r4).bind fun r5=>(Ffk r5).bind fun r6=>bif (decide ((len r6) > 10)) then (some (false,false)) else ((Fff a_1 [0]).bind fun r7=>(Fff b_2 r7).bind fun r8=>(shlO .i64 1 (len r6)).bind fun q9=>bindJ (ρ:=Bool × Bool) (Ffl_la a_1 b_2 holds_3 q9 r6 r8 0) fun u23 : Unit=>some (false,true))
noncomputable def Ffc (a_1 : Condition) (b_2 : Condition) : Option (Bool × Bool) :=
  (Ffd a_1).bind fun r3=>bindJ (ρ:=Bool × Bool) (bif (!r3) then (some (.inr true)) else ((Ffd b_2).bind fun r6=>some (.inr (!r6)))) fun u4 : Bool=>bif u4 then (some (false,false)) else ((Ffl a_1 b_2 true).bind fun r5=>some (r5.1,r5.2))
noncomputable def Ffr_la_F (slf_Ffp : (Condition × Condition)→Option Bool) (a_1 : List Condition) (b_2 : List Condition)  (self : Int→Option (Bool ⊕ Unit)) (x3 : Int) : Option (Bool ⊕ Unit) :=
  bif (decide (x3 < (len a_1))) then ((getI a_1 x3).bind fun e4=>(getI b_2 x3).bind fun e5=>(slf_Ffp (e4,e5)).bind fun r6=>bif (!r6) then (some (.inl false)) else (self (w64 (x3 + 1)))) else (some (.inr ()))
noncomputable def Ffr_la (slf_Ffp : (Condition × Condition)→Option Bool) (a_1 : List Condition) (b_2 : List Condition)  : Int→Option (Bool ⊕ Unit):=fixO (Ffr_la_F slf_Ffp a_1 b_2)
theorem Ffr_la_fin (slf_Ffp : (Condition × Condition)→Option Bool) (a_1 : List Condition) (b_2 : List Condition)  : ∀ a,Fin1 fun f=>Ffr_la_F slf_Ffp a_1 b_2 f a:=by
  intro a
  unfold Ffr_la_F
  repeat first|exact f_const|exact f_self|refine f_cond ?_ ?_|refine f_bindJ ?_ (fun _=>?_)|refine f_bindL ?_ (fun _=>?_)|refine f_bind ?_ (fun _=>?_)|refine f_letJ (fun _=>?_)
theorem Ffr_la_eq (slf_Ffp : (Condition × Condition)→Option Bool) (a_1 : List Condition) (b_2 : List Condition)  (x : Int) : Ffr_la slf_Ffp a_1 b_2 x=Ffr_la_F slf_Ffp a_1 b_2 (Ffr_la slf_Ffp a_1 b_2) x:=fix_eq (Ffr_la_fin slf_Ffp a_1 b_2) x
noncomputable def Ffr (slf_Ffp : (Condition × Condition)→Option Bool) (a_1 : List Condition) (b_2 : List Condition) : Option Bool :=
  bif ((len a_1) != (len b_2)) then (some false) else (bindJ (ρ:=Bool) (Ffr_la slf_Ffp a_1 b_2 0) fun u7 : Unit=>some true)
noncomputable def Ffp_B (slf_Ffp : (Condition × Condition)→Option Bool) (a_1 : Condition) (b_2 : Condition) : Option Bool :=
  bif (a_1.Op != b_2.Op) then (some false) else (bif (!(a_1.Name == b_2.Name)) then (some false) else (bif (a_1.Day != b_2.Day) then (some false) else ((Ffr slf_Ffp a_1.Parts b_2.Parts).bind fun r3=>bif (!r3) then (some false) else (some true))))
noncomputable def Ffp_G (slf_Ffp : (Condition × Condition)→Option Bool) (x : Condition × Condition) : Option Bool:=Ffp_B slf_Ffp x.1 x.2
noncomputable def Ffp (a_1 : Condition) (b_2 : Condition) : Option Bool:=fixO Ffp_G (a_1,b_2)
theorem Ffp_fin : ∀ x,Fin1 fun slf_Ffp=>Ffp_G slf_Ffp x:=by
  intro x
  unfold Ffp_G Ffp_B
  repeat first|exact f_const|exact f_self|exact f_selfL|exact f_selfR|exact f_selfLL|exact f_selfRL|exact f_selfLLL|exact f_selfRLL|refine f_cond ?_ ?_|refine f_bindJ ?_ (fun _=>?_)|refine f_bindL ?_ (fun _=>?_)|refine f_bind ?_ (fun _=>?_)|refine f_letJ (fun _=>?_)|refine f_fix (fun _=>?_) | unfold Ffr | unfold Ffr_la | unfold Ffr_la_F
theorem Ffp_eq (a_1 : Condition) (b_2 : Condition) : Ffp a_1 b_2=Ffp_B (fixO Ffp_G) a_1 b_2:=fix_eq Ffp_fin (a_1,b_2)
noncomputable def Ffq (a_1 : List Condition) (b_2 : List Condition) : Option Bool:=Ffr (fixO Ffp_G) a_1 b_2
noncomputable def laws_FnExactConditionsMeet (aA_1 : Condition) (aB_2 : Condition) : Option Bool :=
  (Ffs aA_1 1048576).bind fun r3=>bif (decide (r3 < 0)) then (some true) else ((Ffs aB_2 r3).bind fun r4=>bif (decide (r4 < 0)) then (some true) else ((Ffv aA_1).bind fun r5=>(Ffv aB_2).bind fun r6=>(Ffbv r5 r6).bind fun r7=>(Ffv aA_1).bind fun r8=>(Ffv aB_2).bind fun r9=>(Ffc r8 r9).bind fun r10=>letJ (bif (!(r10.1 == r7.1)) then (true) else ((!(r10.2 == r7.2)))) fun u11 : Bool=>bif u11 then (some false) else ((Ffv aA_1).bind fun r12=>(Ffp r8 r12).bind fun r13=>bif (!r13) then (some false) else ((Ffv aB_2).bind fun r14=>(Ffp r9 r14).bind fun r15=>bif (!r15) then (some false) else (some true)))))
end Go.Ln
