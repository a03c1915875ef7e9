/-
  What each function of the law computes, as a plain function.
-/
import Derived.Test.YtlgahmmileaohaaLnD
set_option maxHeartbeats 4000000
set_option linter.unusedVariables false
set_option linter.unusedSimpArgs false
set_option maxRecDepth 100000
namespace Go.Ln
open Go
structure Calendar where
  Weekend : List Int
  Holidays : List Int
def encI_Calendar (x : Calendar) : V:=.agg [.isl false ((x.Weekend).map I),.isl false ((x.Holidays).map I)]
theorem encI_Calendar_cells (x : Calendar) : (cells (encI_Calendar x)).length=2 ∧ (cells (encI_Calendar x)).all cellV=true:=⟨rfl,rfl⟩
theorem encI_Calendar_imm (x : Calendar) : imm (encI_Calendar x)=encI_Calendar x:=rfl
theorem encI_Calendar_inj (a b : Calendar) (h : encI_Calendar a=encI_Calendar b) : a=b:=by
  obtain ⟨p0,p1⟩:=a
  obtain ⟨q0,q1⟩:=b
  replace h:=V.agg.inj h
  obtain ⟨h0,h⟩:=List.cons.inj h
  obtain rfl:=(isl_inj I_inj) p0 q0 h0
  obtain ⟨h1,h⟩:=List.cons.inj h
  obtain rfl:=(isl_inj I_inj) p1 q1 h1
  rfl
def encO_Calendar (x : Calendar) : V:=.agg [.usl 1 ((x.Weekend).map I),.usl 1 ((x.Holidays).map I)]
theorem encO_Calendar_cells (x : Calendar) : (cells (encO_Calendar x)).length=2 ∧ (cells (encO_Calendar x)).all cellV=true:=⟨rfl,rfl⟩
theorem encO_Calendar_imm (x : Calendar) : imm (encO_Calendar x)=encI_Calendar x:=imm_a (imms_c (imm_u (imms_of I_imm)) (imms_c (imm_u (imms_of I_imm)) (rfl)))
theorem encO_Calendar_himm (x : Calendar) : hasImm (encO_Calendar x)=false:=by simp [encO_Calendar,hasImm,hasImms,str,himm_map (f:=I) I_himm]
theorem encO_Calendar_inj (a b : Calendar) (h : encO_Calendar a=encO_Calendar b) : a=b:=by
  obtain ⟨p0,p1⟩:=a
  obtain ⟨q0,q1⟩:=b
  replace h:=V.agg.inj h
  obtain ⟨h0,h⟩:=List.cons.inj h
  obtain rfl:=(usl_inj I_inj) p0 q0 h0
  obtain ⟨h1,h⟩:=List.cons.inj h
  obtain rfl:=(usl_inj I_inj) p1 q1 h1
  rfl
structure l1Cur where
  f_code : List Int
  f_at : Int
  f_seed : Int
def encI_l1Cur (x : l1Cur) : V:=.agg [.isl false ((x.f_code).map (V.int .u8)),I (x.f_at),.int .u64 (x.f_seed)]
theorem encI_l1Cur_cells (x : l1Cur) : (cells (encI_l1Cur x)).length=3 ∧ (cells (encI_l1Cur x)).all cellV=true:=⟨rfl,rfl⟩
theorem encI_l1Cur_imm (x : l1Cur) : imm (encI_l1Cur x)=encI_l1Cur x:=rfl
theorem encI_l1Cur_inj (a b : l1Cur) (h : encI_l1Cur a=encI_l1Cur b) : a=b:=by
  obtain ⟨p0,p1,p2⟩:=a
  obtain ⟨q0,q1,q2⟩:=b
  replace h:=V.agg.inj h
  obtain ⟨h0,h⟩:=List.cons.inj h
  obtain rfl:=(isl_inj (vint_inj (k:=.u8))) p0 q0 h0
  obtain ⟨h1,h⟩:=List.cons.inj h
  obtain rfl:=I_inj p1 q1 h1
  obtain ⟨h2,h⟩:=List.cons.inj h
  obtain rfl:=(vint_inj (k:=.u64)) p2 q2 h2
  rfl
def encO_l1Cur (x : l1Cur) : V:=.agg [.isl false ((x.f_code).map (V.int .u8)),I (x.f_at),.int .u64 (x.f_seed)]
theorem encO_l1Cur_cells (x : l1Cur) : (cells (encO_l1Cur x)).length=3 ∧ (cells (encO_l1Cur x)).all cellV=true:=⟨rfl,rfl⟩
theorem encO_l1Cur_imm (x : l1Cur) : imm (encO_l1Cur x)=encI_l1Cur x:=rfl
theorem encO_l1Cur_inj (a b : l1Cur) (h : encO_l1Cur a=encO_l1Cur b) : a=b:=by
  obtain ⟨p0,p1,p2⟩:=a
  obtain ⟨q0,q1,q2⟩:=b
  replace h:=V.agg.inj h
  obtain ⟨h0,h⟩:=List.cons.inj h
  obtain rfl:=(isl_inj (vint_inj (k:=.u8))) p0 q0 h0
  obtain ⟨h1,h⟩:=List.cons.inj h
  obtain rfl:=I_inj p1 q1 h1
  obtain ⟨h2,h⟩:=List.cons.inj h
  obtain rfl:=(vint_inj (k:=.u64)) p2 q2 h2
  rfl
structure Date where
  Year : Int
  Month : Int
  Day : Int
def enc_Date (x : Date) : V:=.agg [I (x.Year),I (x.Month),I (x.Day)]
theorem enc_Date_cells (x : Date) : (cells (enc_Date x)).length=3 ∧ (cells (enc_Date x)).all cellV=true:=⟨rfl,rfl⟩
theorem enc_Date_imm (x : Date) : imm (enc_Date x)=enc_Date x:=rfl
theorem enc_Date_himm (x : Date) : hasImm (enc_Date x)=false:=rfl
theorem enc_Date_flat (x : Date) : flatE (enc_Date x)=true:=rfl
theorem enc_Date_inj (a b : Date) (h : enc_Date a=enc_Date b) : a=b:=by
  obtain ⟨p0,p1,p2⟩:=a
  obtain ⟨q0,q1,q2⟩:=b
  replace h:=V.agg.inj h
  obtain ⟨h0,h⟩:=List.cons.inj h
  obtain rfl:=I_inj p0 q0 h0
  obtain ⟨h1,h⟩:=List.cons.inj h
  obtain rfl:=I_inj p1 q1 h1
  obtain ⟨h2,h⟩:=List.cons.inj h
  obtain rfl:=I_inj p2 q2 h2
  rfl

noncomputable def laws_vBig (code_1 : List Int) : Option Bool :=
  some (decide ((len code_1) > 65536))
noncomputable def Ffbv (c_3 : l1Cur) : Option (Int × l1Cur) :=
  bindJ (ρ:=Int × l1Cur) (bif (decide (c_3.f_at < (len c_3.f_code))) then ((getI c_3.f_code c_3.f_at).bind fun e3=>some (.inr (IntKind.i64.wrap e3))) else (some (.inr 0))) fun u2 : Int=>bif (decide ((w64 (c_3.f_at + 1)) ≤ (len c_3.f_code))) then (some (u2,(l1Cur.mk c_3.f_code (w64 (c_3.f_at + 1)) (IntKind.u64.wrap ((IntKind.u64.wrap ((IntKind.u64.wrap (c_3.f_seed * 6364136223846793005)) + (IntKind.u64.wrap u2))) + 902902))))) else (some ((IntKind.i64.wrap (andI .u64 (shrI .u64 (IntKind.u64.wrap ((IntKind.u64.wrap ((IntKind.u64.wrap (c_3.f_seed * 6364136223846793005)) + (IntKind.u64.wrap u2))) + 902902)) 40) 255)),(l1Cur.mk c_3.f_code (w64 (c_3.f_at + 1)) (IntKind.u64.wrap ((IntKind.u64.wrap ((IntKind.u64.wrap (c_3.f_seed * 6364136223846793005)) + (IntKind.u64.wrap u2))) + 902902)))))
noncomputable def Ffbx (c_3 : l1Cur) (n_4 : Int) : Option (Int × l1Cur) :=
  bif (decide (n_4 ≤ 1)) then (some (0,c_3)) else ((Ffbv c_3).bind fun r3=>bindJ (ρ:=Int × l1Cur) (bif (decide (n_4 > 200)) then ((Ffbv r3.2).bind fun r6=>some (.inr ((w64 ((w64 (r3.1 * 256)) + r6.1)),r6.2.f_code,r6.2.f_at,r6.2.f_seed))) else (some (.inr (r3.1,r3.2.f_code,r3.2.f_at,r3.2.f_seed)))) fun u4 : Int × (List Int) × Int × Int=>(remI u4.1 n_4).bind fun q5=>some (q5,(l1Cur.mk u4.2.1 u4.2.2.1 u4.2.2.2)))
noncomputable def Ffbp (c_3 : l1Cur) (list_4 : List Int) : Option (Int × l1Cur) :=
  (Ffbx c_3 (len list_4)).bind fun r3=>(getI list_4 r3.1).bind fun e4=>some (e4,r3.2)
noncomputable def Ffbt (c_2 : l1Cur) : Option (Int × l1Cur) :=
  (Ffbx c_2 6).bind fun r2=>bif (r2.1 == 0) then ((Ffbp r2.2 [0,59,60,365,366,424,425,36524,36523,30,31]).bind fun r3=>some (r3.1,r3.2)) else (bif (r2.1 == 1) then ((Ffbx r2.2 36525).bind fun r4=>some (r4.1,r4.2)) else ((Ffbx r2.2 1500).bind fun r5=>some (r5.1,r5.2)))
noncomputable def Ffbw (c_3 : l1Cur) (n_4 : Int) : Option (Bool × l1Cur) :=
  (Ffbx c_3 n_4).bind fun r3=>some ((r3.1 == 0),r3.2)
noncomputable def Ffch (year_1 : Int) (month_2 : Int) : Option Int :=
  letJ (bif (month_2 == 4) then ((month_2 == 4)) else (letJ (bif (month_2 == 6) then ((month_2 == 6)) else (letJ (bif (month_2 == 9) then ((month_2 == 9)) else ((month_2 == 11))) fun u5 : Bool=>u5)) fun u4 : Bool=>u4)) fun u3 : Bool=>bif u3 then (some 30) else (bif (month_2 == 2) then (bif ((year_1.tmod 4) == 0) then (some 29) else (some 28)) else (some 31))
noncomputable def Ffcf_la_F (d_1 : Date)  (self : (Int × Int)→Option (Int ⊕ Int)) (x2 : Int × Int) : Option (Int ⊕ Int) :=
  bif (decide (x2.2 < d_1.Month)) then ((Ffch d_1.Year x2.2).bind fun r3=>self ((w64 (x2.1 + r3)),(w64 (x2.2 + 1)))) else (some (.inr x2.1))
noncomputable def Ffcf_la (d_1 : Date)  : (Int × Int)→Option (Int ⊕ Int):=fixO (Ffcf_la_F d_1)
theorem Ffcf_la_fin (d_1 : Date)  : ∀ a,Fin1 fun f=>Ffcf_la_F d_1 f a:=by
  intro a
  unfold Ffcf_la_F
  repeat first|exact f_const|exact f_self|refine f_cond ?_ ?_|refine f_bindJ ?_ (fun _=>?_)|refine f_bindL ?_ (fun _=>?_)|refine f_bind ?_ (fun _=>?_)|refine f_letJ (fun _=>?_)
theorem Ffcf_la_eq (d_1 : Date)  (x : Int × Int) : Ffcf_la d_1 x=Ffcf_la_F d_1 (Ffcf_la d_1) x:=fix_eq (Ffcf_la_fin d_1) x
noncomputable def Ffcf (d_1 : Date) : Option Int :=
  bindJ (ρ:=Int) (Ffcf_la d_1 ((w64 ((w64 (365 * (w64 (d_1.Year - 2000)))) + (w64 ((w64 ((w64 (d_1.Year - 2000)) + 3)).tdiv 4)))),1)) fun u4 : Int=>some (w64 ((w64 (u4 + d_1.Day)) - 1))
noncomputable def Ffce_la_F (day_1 : Int)  (self : Int→Option (Date ⊕ Int)) (x2 : Int) : Option (Date ⊕ Int) :=
  bindL (ρ:=Date) (bif (decide (x2 < 2099)) then ((Ffcf (Date.mk (w64 (x2 + 1)) 1 1)).bind fun r4=>some (.inr (decide (r4 ≤ day_1)))) else (some (.inr false))) fun u3 : Bool=>bif u3 then (self (w64 (x2 + 1))) else (some (.inr x2))
noncomputable def Ffce_la (day_1 : Int)  : Int→Option (Date ⊕ Int):=fixO (Ffce_la_F day_1)
theorem Ffce_la_fin (day_1 : Int)  : ∀ a,Fin1 fun f=>Ffce_la_F day_1 f a:=by
  intro a
  unfold Ffce_la_F
  repeat first|exact f_const|exact f_self|refine f_cond ?_ ?_|refine f_bindJ ?_ (fun _=>?_)|refine f_bindL ?_ (fun _=>?_)|refine f_bind ?_ (fun _=>?_)|refine f_letJ (fun _=>?_)
theorem Ffce_la_eq (day_1 : Int)  (x : Int) : Ffce_la day_1 x=Ffce_la_F day_1 (Ffce_la day_1) x:=fix_eq (Ffce_la_fin day_1) x
noncomputable def Ffce_lb_F (day_1 : Int) (u5 : Int) (self : Int→Option (Date ⊕ Int)) (x6 : Int) : Option (Date ⊕ Int) :=
  bindL (ρ:=Date) (bif (decide (x6 < 12)) then ((Ffcf (Date.mk u5 (w64 (x6 + 1)) 1)).bind fun r8=>some (.inr (decide (r8 ≤ day_1)))) else (some (.inr false))) fun u7 : Bool=>bif u7 then (self (w64 (x6 + 1))) else (some (.inr x6))
noncomputable def Ffce_lb (day_1 : Int) (u5 : Int) : Int→Option (Date ⊕ Int):=fixO (Ffce_lb_F day_1 u5)
theorem Ffce_lb_fin (day_1 : Int) (u5 : Int) : ∀ a,Fin1 fun f=>Ffce_lb_F day_1 u5 f a:=by
  intro a
  unfold Ffce_lb_F
  repeat first|exact f_const|exact f_self|refine f_cond ?_ ?_|refine f_bindJ ?_ (fun _=>?_)|refine f_bindL ?_ (fun _=>?_)|refine f_bind ?_ (fun _=>?_)|refine f_letJ (fun _=>?_)
theorem Ffce_lb_eq (day_1 : Int) (u5 : Int) (x : Int) : Ffce_lb day_1 u5 x=Ffce_lb_F day_1 u5 (Ffce_lb day_1 u5) x:=fix_eq (Ffce_lb_fin day_1 u5) x
noncomputable def Ffce (day_1 : Int) : Option Date :=
  bindJ (ρ:=Date) (Ffce_la day_1 2000) fun u5 : Int=>bindJ (ρ:=Date) (Ffce_lb day_1 u5 1) fun u9 : Int=>(Ffcf (Date.mk u5 u9 1)).bind fun r10=>some (Date.mk u5 u9 (w64 ((w64 (day_1 - r10)) + 1)))
noncomputable def Ffbu (c_2 : l1Cur) : Option (Int × l1Cur) :=
  (Ffbt c_2).bind fun r2=>(Ffbw r2.2 3).bind fun r3=>bindJ (ρ:=Int × l1Cur) (bif r3.1 then ((Ffce r2.1).bind fun r5=>(Ffch r5.Year r5.Month).bind fun r6=>(Ffbx r3.2 3).bind fun r7=>(Ffcf (Date.mk r5.Year r5.Month (w64 (r6 - r7.1)))).bind fun r8=>some (.inr (r8,r7.2.f_code,r7.2.f_at,r7.2.f_seed))) else (some (.inr (r2.1,r3.2.f_code,r3.2.f_at,r3.2.f_seed)))) fun u4 : Int × (List Int) × Int × Int=>some (u4.1,(l1Cur.mk u4.2.1 u4.2.2.1 u4.2.2.2))
noncomputable def Ffca (a_1 : Int) (b_2 : Int) : Option Int :=
  bif (decide (a_1 > b_2)) then (some a_1) else (some b_2)
noncomputable def Ffbs_la_F (c_3 : l1Cur) (near_4 : Int) (u4 : Int × (List Int) × Int × Int × (List Int)) (self : (Int × Int × (List Int) × Int × Int × (List Int))→Option ((Calendar × l1Cur) ⊕ ((List Int) × Int × Int × (List Int)))) (x7 : Int × Int × (List Int) × Int × Int × (List Int)) : Option ((Calendar × l1Cur) ⊕ ((List Int) × Int × Int × (List Int))) :=
  letJ (bif (decide (x7.2.1 > 0)) then ((decide (x7.1 ≤ 36524))) else (false)) fun u8 : Bool=>bif u8 then ((appI 8 x7.2.2.2.2.2 [x7.1]).bind fun a9=>(Ffbx (l1Cur.mk x7.2.2.1 x7.2.2.2.1 x7.2.2.2.2.1) 4).bind fun r10=>self ((w64 ((w64 (x7.1 + 1)) + r10.1)),(w64 (x7.2.1 - 1)),r10.2.f_code,r10.2.f_at,r10.2.f_seed,a9)) else (some (.inr (x7.2.2.1,x7.2.2.2.1,x7.2.2.2.2.1,x7.2.2.2.2.2)))
noncomputable def Ffbs_la (c_3 : l1Cur) (near_4 : Int) (u4 : Int × (List Int) × Int × Int × (List Int)) : (Int × Int × (List Int) × Int × Int × (List Int))→Option ((Calendar × l1Cur) ⊕ ((List Int) × Int × Int × (List Int))):=fixO (Ffbs_la_F c_3 near_4 u4)
theorem Ffbs_la_fin (c_3 : l1Cur) (near_4 : Int) (u4 : Int × (List Int) × Int × Int × (List Int)) : ∀ a,Fin1 fun f=>Ffbs_la_F c_3 near_4 u4 f a:=by
  intro a
  unfold Ffbs_la_F
  repeat first|exact f_const|exact f_self|refine f_cond ?_ ?_|refine f_bindJ ?_ (fun _=>?_)|refine f_bindL ?_ (fun _=>?_)|refine f_bind ?_ (fun _=>?_)|refine f_letJ (fun _=>?_)
theorem Ffbs_la_eq (c_3 : l1Cur) (near_4 : Int) (u4 : Int × (List Int) × Int × Int × (List Int)) (x : Int × Int × (List Int) × Int × Int × (List Int)) : Ffbs_la c_3 near_4 u4 x=Ffbs_la_F c_3 near_4 u4 (Ffbs_la c_3 near_4 u4) x:=fix_eq (Ffbs_la_fin c_3 near_4 u4) x
noncomputable def Ffbs_lb_F (c_3 : l1Cur) (near_4 : Int)  (self : (Int × (List Int) × Int × Int × (List Int))→Option ((Calendar × l1Cur) ⊕ ((List Int) × Int × Int × (List Int)))) (x13 : Int × (List Int) × Int × Int × (List Int)) : Option ((Calendar × l1Cur) ⊕ ((List Int) × Int × Int × (List Int))) :=
  bif (decide (x13.1 < 6)) then ((Ffbw (l1Cur.mk x13.2.1 x13.2.2.1 x13.2.2.2.1) 3).bind fun r14=>bindL (ρ:=Calendar × l1Cur) (bif r14.1 then ((appI 8 x13.2.2.2.2 [x13.1]).bind fun a16=>some (.inr a16)) else (some (.inr x13.2.2.2.2))) fun u15 : (List Int)=>self ((w64 (x13.1 + 1)),r14.2.f_code,r14.2.f_at,r14.2.f_seed,u15)) else (some (.inr (x13.2.1,x13.2.2.1,x13.2.2.2.1,x13.2.2.2.2)))
noncomputable def Ffbs_lb (c_3 : l1Cur) (near_4 : Int)  : (Int × (List Int) × Int × Int × (List Int))→Option ((Calendar × l1Cur) ⊕ ((List Int) × Int × Int × (List Int))):=fixO (Ffbs_lb_F c_3 near_4)
theorem Ffbs_lb_fin (c_3 : l1Cur) (near_4 : Int)  : ∀ a,Fin1 fun f=>Ffbs_lb_F c_3 near_4 f a:=by
  intro a
  unfold Ffbs_lb_F
  repeat first|exact f_const|exact f_self|refine f_cond ?_ ?_|refine f_bindJ ?_ (fun _=>?_)|refine f_bindL ?_ (fun _=>?_)|refine f_bind ?_ (fun _=>?_)|refine f_letJ (fun _=>?_)
theorem Ffbs_lb_eq (c_3 : l1Cur) (near_4 : Int)  (x : Int × (List Int) × Int × Int × (List Int)) : Ffbs_lb c_3 near_4 x=Ffbs_lb_F c_3 near_4 (Ffbs_lb c_3 near_4) x:=fix_eq (Ffbs_lb_fin c_3 near_4) x
noncomputable def Ffbs (c_3 : l1Cur) (near_4 : Int) : Option (Calendar × l1Cur) :=
  (Ffbx c_3 6).bind fun r3=>bindJ (ρ:=Calendar × l1Cur) (bif (r3.1 == 0) then (some (.inr (near_4,r3.2.f_code,r3.2.f_at,r3.2.f_seed,[4,5]))) else (bindL (ρ:=Calendar × l1Cur) (bif (r3.1 == 1) then (bindL (ρ:=Calendar × l1Cur) (Ffbs_lb c_3 near_4 (0,r3.2.f_code,r3.2.f_at,r3.2.f_seed,[])) fun u17 : (List Int) × Int × Int × (List Int)=>some (.inr (u17.1,u17.2.1,u17.2.2.1,u17.2.2.2))) else (some (.inr (r3.2.f_code,r3.2.f_at,r3.2.f_seed,[5,6])))) fun u12 : (List Int) × Int × Int × (List Int)=>some (.inr (near_4,u12.1,u12.2.1,u12.2.2.1,u12.2.2.2)))) fun u4 : Int × (List Int) × Int × Int × (List Int)=>(Ffca (w64 (u4.1 - 8)) 0).bind fun r5=>(Ffbx (l1Cur.mk u4.2.1 u4.2.2.1 u4.2.2.2.1) 7).bind fun r6=>bindJ (ρ:=Calendar × l1Cur) (Ffbs_la c_3 near_4 u4 (r5,r6.1,r6.2.f_code,r6.2.f_at,r6.2.f_seed,[])) fun u11 : (List Int) × Int × Int × (List Int)=>some ((Calendar.mk u4.2.2.2.2 u11.2.2.2),(l1Cur.mk u11.1 u11.2.1 u11.2.2.1))
noncomputable def Ffbz (a_1 : Int) (b_2 : Int) : Option Int :=
  bif (decide (a_1 < b_2)) then (some a_1) else (some b_2)
noncomputable def Ffbq_la_F (c_3 : l1Cur) (near_4 : Int) (r3 : Calendar × l1Cur) (self : (Int × (List Int) × Int × Int × (List Int))→Option ((Calendar × l1Cur) ⊕ ((List Int) × Int × Int × (List Int)))) (x13 : Int × (List Int) × Int × Int × (List Int)) : Option ((Calendar × l1Cur) ⊕ ((List Int) × Int × Int × (List Int))) :=
  (Ffbx (l1Cur.mk x13.2.1 x13.2.2.1 x13.2.2.2.1) 2).bind fun r14=>bif (decide (x13.1 < (w64 (40 + r14.1)))) then ((Ffca (w64 (near_4 - 20)) 0).bind fun r15=>(Ffbz r15 36464).bind fun r16=>(appI 8 x13.2.2.2.2 [(w64 (r16 + x13.1))]).bind fun a17=>self ((w64 (x13.1 + 1)),r14.2.f_code,r14.2.f_at,r14.2.f_seed,a17)) else (some (.inr (r14.2.f_code,r14.2.f_at,r14.2.f_seed,x13.2.2.2.2)))
noncomputable def Ffbq_la (c_3 : l1Cur) (near_4 : Int) (r3 : Calendar × l1Cur) : (Int × (List Int) × Int × Int × (List Int))→Option ((Calendar × l1Cur) ⊕ ((List Int) × Int × Int × (List Int))):=fixO (Ffbq_la_F c_3 near_4 r3)
theorem Ffbq_la_fin (c_3 : l1Cur) (near_4 : Int) (r3 : Calendar × l1Cur) : ∀ a,Fin1 fun f=>Ffbq_la_F c_3 near_4 r3 f a:=by
  intro a
  unfold Ffbq_la_F
  repeat first|exact f_const|exact f_self|refine f_cond ?_ ?_|refine f_bindJ ?_ (fun _=>?_)|refine f_bindL ?_ (fun _=>?_)|refine f_bind ?_ (fun _=>?_)|refine f_letJ (fun _=>?_)
theorem Ffbq_la_eq (c_3 : l1Cur) (near_4 : Int) (r3 : Calendar × l1Cur) (x : Int × (List Int) × Int × Int × (List Int)) : Ffbq_la c_3 near_4 r3 x=Ffbq_la_F c_3 near_4 r3 (Ffbq_la c_3 near_4 r3) x:=fix_eq (Ffbq_la_fin c_3 near_4 r3) x
noncomputable def Ffbq (c_3 : l1Cur) (near_4 : Int) : Option (Calendar × l1Cur) :=
  (Ffbs c_3 near_4).bind fun r3=>(Ffbx r3.2 30).bind fun r4=>bindJ (ρ:=Calendar × l1Cur) (bif (r4.1 == 0) then ((Ffbp r4.2 [6,7,(-1)]).bind fun r6=>(appI 8 r3.1.Weekend [r6.1]).bind fun a7=>some (.inr (r6.2.f_code,r6.2.f_at,r6.2.f_seed,a7,r3.1.Holidays))) else (bindL (ρ:=Calendar × l1Cur) (bif (r4.1 == 1) then ((Ffbp r4.2 [36524,36525,0]).bind fun r9=>(appI 8 r3.1.Holidays [r9.1]).bind fun a10=>some (.inr (r9.2.f_code,r9.2.f_at,r9.2.f_seed,r3.1.Weekend,a10))) else (bindL (ρ:=Calendar × l1Cur) (bif (r4.1 == 2) then (some (.inr (r4.2.f_code,r4.2.f_at,r4.2.f_seed,[0,1,2,3,4,5,6],r3.1.Holidays))) else (bindL (ρ:=Calendar × l1Cur) (bif (r4.1 == 3) then (bindL (ρ:=Calendar × l1Cur) (Ffbq_la c_3 near_4 r3 (0,r4.2.f_code,r4.2.f_at,r4.2.f_seed,[])) fun u18 : (List Int) × Int × Int × (List Int)=>some (.inr (u18.1,u18.2.1,u18.2.2.1,u18.2.2.2))) else (some (.inr (r4.2.f_code,r4.2.f_at,r4.2.f_seed,r3.1.Holidays)))) fun u12 : (List Int) × Int × Int × (List Int)=>some (.inr (u12.1,u12.2.1,u12.2.2.1,r3.1.Weekend,u12.2.2.2)))) fun u11 : (List Int) × Int × Int × (List Int) × (List Int)=>some (.inr (u11.1,u11.2.1,u11.2.2.1,u11.2.2.2.1,u11.2.2.2.2)))) fun u8 : (List Int) × Int × Int × (List Int) × (List Int)=>some (.inr (u8.1,u8.2.1,u8.2.2.1,u8.2.2.2.1,u8.2.2.2.2)))) fun u5 : (List Int) × Int × Int × (List Int) × (List Int)=>some ((Calendar.mk u5.2.2.2.1 u5.2.2.2.2),(l1Cur.mk u5.1 u5.2.1 u5.2.2.1))
noncomputable def Ffbr (c_2 : l1Cur) : Option (Int × l1Cur) :=
  (Ffbw c_2 16).bind fun r2=>bif r2.1 then ((Ffbp r2.2 [(-1),36524,36525,1099511627776]).bind fun r3=>some (r3.1,r3.2)) else ((Ffbt r2.2).bind fun r4=>some (r4.1,r4.2))
noncomputable def Ffbm (code_1 : List Int) : Option (Calendar × Int) :=
  (Ffbu (l1Cur.mk code_1 0 0)).bind fun r2=>(Ffbq r2.2 r2.1).bind fun r3=>(Ffbw r3.2 20).bind fun r4=>bindJ (ρ:=Calendar × Int) (bif r4.1 then ((Ffbr r4.2).bind fun r6=>some (.inr r6.1)) else (some (.inr r2.1))) fun u5 : Int=>some (r3.1,u5)
noncomputable def Ffbl (code_1 : List Int) : Option (Calendar × Int × Int) :=
  (Ffbm code_1).bind fun r2=>(Ffbx (l1Cur.mk code_1 0 0) 9).bind fun r3=>(subP [1,2,5,0,(-1),(-3),20,(-20),300,1001,(-1001)].length 0 (w64 (9 + (w64 (r3.1.tdiv 4))))).bind fun s4=>(partP [1,2,5,0,(-1),(-3),20,(-20),300,1001,(-1001)] (0 + Int.toNat (0)) (Int.toNat ((w64 (9 + (w64 (r3.1.tdiv 4))))) - Int.toNat (0))).bind fun p5=>(Ffbp r3.2 p5).bind fun r6=>some (r2.1,r2.2,r6.1)
noncomputable def Ffn (n_1 : Int) (low_2 : Int) (high_3 : Int) : Option Bool :=
  letJ (bif (decide (n_1 ≥ low_2)) then ((decide (n_1 ≤ high_3))) else (false)) fun u4 : Bool=>some u4
noncomputable def Ffj_la_F (list_1 : List Int) (low_2 : Int) (high_3 : Int) (most_4 : Int)  (self : Int→Option (Bool ⊕ Unit)) (x5 : Int) : Option (Bool ⊕ Unit) :=
  bif (decide (x5 < (len list_1))) then ((getI list_1 x5).bind fun e6=>(Ffn e6 low_2 high_3).bind fun r7=>bindL (ρ:=Bool) (bif (!r7) then (some (.inr true)) else (bindL (ρ:=Bool) (bif (decide (x5 > 0)) then ((getI list_1 (w64 (x5 - 1))).bind fun e10=>some (.inr (decide (e6 ≤ e10)))) else (some (.inr false))) fun u9 : Bool=>some (.inr u9))) fun u8 : Bool=>bif u8 then (some (.inl false)) else (self (w64 (x5 + 1)))) else (some (.inr ()))
noncomputable def Ffj_la (list_1 : List Int) (low_2 : Int) (high_3 : Int) (most_4 : Int)  : Int→Option (Bool ⊕ Unit):=fixO (Ffj_la_F list_1 low_2 high_3 most_4)
theorem Ffj_la_fin (list_1 : List Int) (low_2 : Int) (high_3 : Int) (most_4 : Int)  : ∀ a,Fin1 fun f=>Ffj_la_F list_1 low_2 high_3 most_4 f a:=by
  intro a
  unfold Ffj_la_F
  repeat first|exact f_const|exact f_self|refine f_cond ?_ ?_|refine f_bindJ ?_ (fun _=>?_)|refine f_bindL ?_ (fun _=>?_)|refine f_bind ?_ (fun _=>?_)|refine f_letJ (fun _=>?_)
theorem Ffj_la_eq (list_1 : List Int) (low_2 : Int) (high_3 : Int) (most_4 : Int)  (x : Int) : Ffj_la list_1 low_2 high_3 most_4 x=Ffj_la_F list_1 low_2 high_3 most_4 (Ffj_la list_1 low_2 high_3 most_4) x:=fix_eq (Ffj_la_fin list_1 low_2 high_3 most_4) x
noncomputable def Ffj (list_1 : List Int) (low_2 : Int) (high_3 : Int) (most_4 : Int) : Option Bool :=
  bindJ (ρ:=Bool) (Ffj_la list_1 low_2 high_3 most_4 0) fun u11 : Unit=>some (decide ((len list_1) ≤ most_4))
noncomputable def Fff (c_1 : Calendar) : Option Bool :=
  (Ffj c_1.Weekend 0 6 6).bind fun r2=>bindJ (ρ:=Bool) (bif r2 then ((Ffj c_1.Holidays 0 36524 40).bind fun r4=>some (.inr r4)) else (some (.inr false))) fun u3 : Bool=>some u3
noncomputable def Ffi (day_1 : Int) : Option Bool :=
  (Ffn day_1 0 36524).bind fun r2=>some r2
noncomputable def impl_size (n_1 : Int) : Option Int :=
  some (if (w64 (0 - n_1)) > n_1 then (w64 (0 - n_1)) else n_1)
noncomputable def Ffm (day_1 : Int) : Option Int :=
  some ((w64 (day_1 + 5)).tmod 7)
noncomputable def Fft_la_F (s_1 : List Int) (v_2 : Int)  (self : Int→Option (Int ⊕ Unit)) (x3 : Int) : Option (Int ⊕ Unit) :=
  bif (decide (x3 < (len s_1))) then ((getI s_1 x3).bind fun e4=>bif (v_2 == e4) then (some (.inl x3)) else (self (w64 (x3 + 1)))) else (some (.inr ()))
noncomputable def Fft_la (s_1 : List Int) (v_2 : Int)  : Int→Option (Int ⊕ Unit):=fixO (Fft_la_F s_1 v_2)
theorem Fft_la_fin (s_1 : List Int) (v_2 : Int)  : ∀ a,Fin1 fun f=>Fft_la_F s_1 v_2 f a:=by
  intro a
  unfold Fft_la_F
  repeat first|exact f_const|exact f_self|refine f_cond ?_ ?_|refine f_bindJ ?_ (fun _=>?_)|refine f_bindL ?_ (fun _=>?_)|refine f_bind ?_ (fun _=>?_)|refine f_letJ (fun _=>?_)
theorem Fft_la_eq (s_1 : List Int) (v_2 : Int)  (x : Int) : Fft_la s_1 v_2 x=Fft_la_F s_1 v_2 (Fft_la s_1 v_2) x:=fix_eq (Fft_la_fin s_1 v_2) x
noncomputable def Fft (s_1 : List Int) (v_2 : Int) : Option Int :=
  bindJ (ρ:=Int) (Fft_la s_1 v_2 0) fun u5 : Unit=>some (-1)
noncomputable def Ffs (s_1 : List Int) (v_2 : Int) : Option Bool :=
  (Fft s_1 v_2).bind fun r3=>some (decide (r3 ≥ 0))
noncomputable def Ffh (c_1 : Calendar) (day_2 : Int) : Option Bool :=
  (Ffm day_2).bind fun r3=>(Ffs c_1.Weekend r3).bind fun r4=>bindJ (ρ:=Bool) (bif (!r4) then ((Ffs c_1.Holidays day_2).bind fun r6=>some (.inr (!r6))) else (some (.inr false))) fun u5 : Bool=>some u5
noncomputable def Ffk_la_F (c_1 : Calendar) (day_2 : Int) (step_3 : Int)  (self : Int→Option (Int ⊕ Unit)) (x4 : Int) : Option (Int ⊕ Unit) :=
  (Ffi x4).bind fun r5=>bif r5 then ((Ffh c_1 x4).bind fun r6=>bif r6 then (some (.inl x4)) else (self (w64 (x4 + step_3)))) else (some (.inr ()))
noncomputable def Ffk_la (c_1 : Calendar) (day_2 : Int) (step_3 : Int)  : Int→Option (Int ⊕ Unit):=fixO (Ffk_la_F c_1 day_2 step_3)
theorem Ffk_la_fin (c_1 : Calendar) (day_2 : Int) (step_3 : Int)  : ∀ a,Fin1 fun f=>Ffk_la_F c_1 day_2 step_3 f a:=by
  intro a
  unfold Ffk_la_F
  repeat first|exact f_const|exact f_self|refine f_cond ?_ ?_|refine f_bindJ ?_ (fun _=>?_)|refine f_bindL ?_ (fun _=>?_)|refine f_bind ?_ (fun _=>?_)|refine f_letJ (fun _=>?_)
theorem Ffk_la_eq (c_1 : Calendar) (day_2 : Int) (step_3 : Int)  (x : Int) : Ffk_la c_1 day_2 step_3 x=Ffk_la_F c_1 day_2 step_3 (Ffk_la c_1 day_2 step_3) x:=fix_eq (Ffk_la_fin c_1 day_2 step_3) x
noncomputable def Ffk (c_1 : Calendar) (day_2 : Int) (step_3 : Int) : Option Int :=
  bindJ (ρ:=Int) (Ffk_la c_1 day_2 step_3 day_2) fun u7 : Unit=>some (-1)
noncomputable def Ffc_la_F (c_1 : Calendar) (day_2 : Int) (n_3 : Int) (r7 : Int) (u6 : Int) (self : (Int × Int)→Option ((Int × Bool) ⊕ Int)) (x8 : Int × Int) : Option ((Int × Bool) ⊕ Int) :=
  bif (decide (x8.2 < r7)) then ((Ffk c_1 (w64 (x8.1 + u6)) u6).bind fun r9=>bif (decide (r9 < 0)) then (some (.inl (0,false))) else (self (r9,(w64 (x8.2 + 1))))) else (some (.inr x8.1))
noncomputable def Ffc_la (c_1 : Calendar) (day_2 : Int) (n_3 : Int) (r7 : Int) (u6 : Int) : (Int × Int)→Option ((Int × Bool) ⊕ Int):=fixO (Ffc_la_F c_1 day_2 n_3 r7 u6)
theorem Ffc_la_fin (c_1 : Calendar) (day_2 : Int) (n_3 : Int) (r7 : Int) (u6 : Int) : ∀ a,Fin1 fun f=>Ffc_la_F c_1 day_2 n_3 r7 u6 f a:=by
  intro a
  unfold Ffc_la_F
  repeat first|exact f_const|exact f_self|refine f_cond ?_ ?_|refine f_bindJ ?_ (fun _=>?_)|refine f_bindL ?_ (fun _=>?_)|refine f_bind ?_ (fun _=>?_)|refine f_letJ (fun _=>?_)
theorem Ffc_la_eq (c_1 : Calendar) (day_2 : Int) (n_3 : Int) (r7 : Int) (u6 : Int) (x : Int × Int) : Ffc_la c_1 day_2 n_3 r7 u6 x=Ffc_la_F c_1 day_2 n_3 r7 u6 (Ffc_la c_1 day_2 n_3 r7 u6) x:=fix_eq (Ffc_la_fin c_1 day_2 n_3 r7 u6) x
noncomputable def Ffc (c_1 : Calendar) (day_2 : Int) (n_3 : Int) : Option (Int × Bool) :=
  (Fff c_1).bind fun r4=>bindJ (ρ:=Int × Bool) (bif (!r4) then (some (.inr true)) else ((Ffi day_2).bind fun r11=>bindL (ρ:=Int × Bool) (bif (!r11) then (some (.inr true)) else ((Ffn n_3 (-1000) 1000).bind fun r13=>some (.inr (!r13)))) fun u12 : Bool=>some (.inr u12))) fun u5 : Bool=>bif u5 then (some (0,false)) else (letJ (bif (decide (n_3 < 0)) then ((-1)) else (1)) fun u6 : Int=>(impl_size n_3).bind fun r7=>bindJ (ρ:=Int × Bool) (Ffc_la c_1 day_2 n_3 r7 u6 (day_2,0)) fun u10 : Int=>some (u10,true))
noncomputable def spec_l1In (x_1 : Int) (a_2 : Int) (b_3 : Int) : Option Bool :=
  letJ (bif (decide (x_1 ≥ a_2)) then ((decide (x_1 ≤ b_3))) else (false)) fun u4 : Bool=>some u4
noncomputable def Ffcd_la_F (l_1 : List Int) (lo_2 : Int) (hi_3 : Int)  (self : Int→Option (Bool ⊕ Unit)) (x4 : Int) : Option (Bool ⊕ Unit) :=
  bif (decide (x4 < (len l_1))) then ((getI l_1 x4).bind fun e5=>(spec_l1In e5 lo_2 hi_3).bind fun r6=>bindL (ρ:=Bool) (bif (!r6) then (some (.inr true)) else (bindL (ρ:=Bool) (bif (decide (x4 > 0)) then ((getI l_1 (w64 (x4 - 1))).bind fun e9=>(getI l_1 x4).bind fun e10=>some (.inr (decide (e9 ≥ e10)))) else (some (.inr false))) fun u8 : Bool=>some (.inr u8))) fun u7 : Bool=>bif u7 then (some (.inl false)) else (self (w64 (x4 + 1)))) else (some (.inr ()))
noncomputable def Ffcd_la (l_1 : List Int) (lo_2 : Int) (hi_3 : Int)  : Int→Option (Bool ⊕ Unit):=fixO (Ffcd_la_F l_1 lo_2 hi_3)
theorem Ffcd_la_fin (l_1 : List Int) (lo_2 : Int) (hi_3 : Int)  : ∀ a,Fin1 fun f=>Ffcd_la_F l_1 lo_2 hi_3 f a:=by
  intro a
  unfold Ffcd_la_F
  repeat first|exact f_const|exact f_self|refine f_cond ?_ ?_|refine f_bindJ ?_ (fun _=>?_)|refine f_bindL ?_ (fun _=>?_)|refine f_bind ?_ (fun _=>?_)|refine f_letJ (fun _=>?_)
theorem Ffcd_la_eq (l_1 : List Int) (lo_2 : Int) (hi_3 : Int)  (x : Int) : Ffcd_la l_1 lo_2 hi_3 x=Ffcd_la_F l_1 lo_2 hi_3 (Ffcd_la l_1 lo_2 hi_3) x:=fix_eq (Ffcd_la_fin l_1 lo_2 hi_3) x
noncomputable def Ffcd (l_1 : List Int) (lo_2 : Int) (hi_3 : Int) : Option Bool :=
  bindJ (ρ:=Bool) (Ffcd_la l_1 lo_2 hi_3 0) fun u11 : Unit=>some true
noncomputable def Ffcj (c_1 : Calendar) : Option Bool :=
  bindJ (ρ:=Bool) (bif (decide ((len c_1.Weekend) ≤ 6)) then ((Ffcd c_1.Weekend 0 6).bind fun r3=>bindL (ρ:=Bool) (bif r3 then (bindL (ρ:=Bool) (bif (decide ((len c_1.Holidays) ≤ 40)) then ((Ffcd c_1.Holidays 0 36524).bind fun r6=>some (.inr r6)) else (some (.inr false))) fun u5 : Bool=>some (.inr u5)) else (some (.inr false))) fun u4 : Bool=>some (.inr u4)) else (some (.inr false))) fun u2 : Bool=>some u2
noncomputable def Ffcg (day_1 : Int) : Option Bool :=
  (spec_l1In day_1 0 36524).bind fun r2=>some r2
noncomputable def Ffci (day_1 : Int) : Option Int :=
  some ((w64 (day_1 + 5)).tmod 7)
noncomputable def Ffby_la_F (l_1 : List Int) (n_2 : Int)  (self : Int→Option (Bool ⊕ Unit)) (x3 : Int) : Option (Bool ⊕ Unit) :=
  bif (decide (x3 < (len l_1))) then ((getI l_1 x3).bind fun e4=>bif (e4 == n_2) then (some (.inl true)) else (self (w64 (x3 + 1)))) else (some (.inr ()))
noncomputable def Ffby_la (l_1 : List Int) (n_2 : Int)  : Int→Option (Bool ⊕ Unit):=fixO (Ffby_la_F l_1 n_2)
theorem Ffby_la_fin (l_1 : List Int) (n_2 : Int)  : ∀ a,Fin1 fun f=>Ffby_la_F l_1 n_2 f a:=by
  intro a
  unfold Ffby_la_F
  repeat first|exact f_const|exact f_self|refine f_cond ?_ ?_|refine f_bindJ ?_ (fun _=>?_)|refine f_bindL ?_ (fun _=>?_)|refine f_bind ?_ (fun _=>?_)|refine f_letJ (fun _=>?_)
theorem Ffby_la_eq (l_1 : List Int) (n_2 : Int)  (x : Int) : Ffby_la l_1 n_2 x=Ffby_la_F l_1 n_2 (Ffby_la l_1 n_2) x:=fix_eq (Ffby_la_fin l_1 n_2) x
noncomputable def Ffby (l_1 : List Int) (n_2 : Int) : Option Bool :=
  bindJ (ρ:=Bool) (Ffby_la l_1 n_2 0) fun u5 : Unit=>some false
noncomputable def Ffck (c_1 : Calendar) (day_2 : Int) : Option Bool :=
  (Ffci day_2).bind fun r3=>(Ffby c_1.Weekend r3).bind fun r4=>bindJ (ρ:=Bool) (bif (!r4) then ((Ffby c_1.Holidays day_2).bind fun r6=>some (.inr (!r6))) else (some (.inr false))) fun u5 : Bool=>some u5
noncomputable def Ffcl_la_F (c_1 : Calendar) (day_2 : Int) (step_3 : Int)  (self : Int→Option (Int ⊕ Unit)) (x4 : Int) : Option (Int ⊕ Unit) :=
  (Ffcg x4).bind fun r5=>bif r5 then ((Ffck c_1 x4).bind fun r6=>bif r6 then (some (.inl x4)) else (self (w64 (x4 + step_3)))) else (some (.inr ()))
noncomputable def Ffcl_la (c_1 : Calendar) (day_2 : Int) (step_3 : Int)  : Int→Option (Int ⊕ Unit):=fixO (Ffcl_la_F c_1 day_2 step_3)
theorem Ffcl_la_fin (c_1 : Calendar) (day_2 : Int) (step_3 : Int)  : ∀ a,Fin1 fun f=>Ffcl_la_F c_1 day_2 step_3 f a:=by
  intro a
  unfold Ffcl_la_F
  repeat first|exact f_const|exact f_self|refine f_cond ?_ ?_|refine f_bindJ ?_ (fun _=>?_)|refine f_bindL ?_ (fun _=>?_)|refine f_bind ?_ (fun _=>?_)|refine f_letJ (fun _=>?_)
theorem Ffcl_la_eq (c_1 : Calendar) (day_2 : Int) (step_3 : Int)  (x : Int) : Ffcl_la c_1 day_2 step_3 x=Ffcl_la_F c_1 day_2 step_3 (Ffcl_la c_1 day_2 step_3) x:=fix_eq (Ffcl_la_fin c_1 day_2 step_3) x
noncomputable def Ffcl (c_1 : Calendar) (day_2 : Int) (step_3 : Int) : Option Int :=
  bindJ (ρ:=Int) (Ffcl_la c_1 day_2 step_3 day_2) fun u7 : Unit=>some (-1)
noncomputable def Ffbk_la_F (c_1 : Calendar) (day_2 : Int) (n_3 : Int) (u6 : Int × Int) (self : (Int × Int)→Option ((Int × Bool) ⊕ Int)) (x7 : Int × Int) : Option ((Int × Bool) ⊕ Int) :=
  bif (decide (x7.2 > 0)) then ((Ffcl c_1 (w64 (x7.1 + u6.2)) u6.2).bind fun r8=>bif (decide (r8 < 0)) then (some (.inl (0,false))) else (self (r8,(w64 (x7.2 - 1))))) else (some (.inr x7.1))
noncomputable def Ffbk_la (c_1 : Calendar) (day_2 : Int) (n_3 : Int) (u6 : Int × Int) : (Int × Int)→Option ((Int × Bool) ⊕ Int):=fixO (Ffbk_la_F c_1 day_2 n_3 u6)
theorem Ffbk_la_fin (c_1 : Calendar) (day_2 : Int) (n_3 : Int) (u6 : Int × Int) : ∀ a,Fin1 fun f=>Ffbk_la_F c_1 day_2 n_3 u6 f a:=by
  intro a
  unfold Ffbk_la_F
  repeat first|exact f_const|exact f_self|refine f_cond ?_ ?_|refine f_bindJ ?_ (fun _=>?_)|refine f_bindL ?_ (fun _=>?_)|refine f_bind ?_ (fun _=>?_)|refine f_letJ (fun _=>?_)
theorem Ffbk_la_eq (c_1 : Calendar) (day_2 : Int) (n_3 : Int) (u6 : Int × Int) (x : Int × Int) : Ffbk_la c_1 day_2 n_3 u6 x=Ffbk_la_F c_1 day_2 n_3 u6 (Ffbk_la c_1 day_2 n_3 u6) x:=fix_eq (Ffbk_la_fin c_1 day_2 n_3 u6) x
noncomputable def Ffbk (c_1 : Calendar) (day_2 : Int) (n_3 : Int) : Option (Int × Bool) :=
  (Ffcj c_1).bind fun r4=>bindJ (ρ:=Int × Bool) (bif (!r4) then (some (.inr true)) else ((Ffcg day_2).bind fun r10=>bindL (ρ:=Int × Bool) (bif (!r10) then (some (.inr true)) else ((spec_l1In n_3 (-1000) 1000).bind fun r12=>some (.inr (!r12)))) fun u11 : Bool=>some (.inr u11))) fun u5 : Bool=>bif u5 then (some (0,false)) else (letJ (bif (decide (n_3 < 0)) then (((w64 (0 - n_3)),(-1))) else ((n_3,1))) fun u6 : Int × Int=>bindJ (ρ:=Int × Bool) (Ffbk_la c_1 day_2 n_3 u6 (day_2,u6.1)) fun u9 : Int=>some (u9,true))
noncomputable def Ffd_la_F (c_1 : Calendar) (from_2 : Int) (to_3 : Int)  (self : (Int × Int)→Option ((Int × Bool) ⊕ Int)) (x6 : Int × Int) : Option ((Int × Bool) ⊕ Int) :=
  bif (decide (x6.2 < to_3)) then ((Ffh c_1 x6.2).bind fun r7=>letJ (bif r7 then ((w64 (x6.1 + 1))) else (x6.1)) fun u8 : Int=>self (u8,(w64 (x6.2 + 1)))) else (some (.inr x6.1))
noncomputable def Ffd_la (c_1 : Calendar) (from_2 : Int) (to_3 : Int)  : (Int × Int)→Option ((Int × Bool) ⊕ Int):=fixO (Ffd_la_F c_1 from_2 to_3)
theorem Ffd_la_fin (c_1 : Calendar) (from_2 : Int) (to_3 : Int)  : ∀ a,Fin1 fun f=>Ffd_la_F c_1 from_2 to_3 f a:=by
  intro a
  unfold Ffd_la_F
  repeat first|exact f_const|exact f_self|refine f_cond ?_ ?_|refine f_bindJ ?_ (fun _=>?_)|refine f_bindL ?_ (fun _=>?_)|refine f_bind ?_ (fun _=>?_)|refine f_letJ (fun _=>?_)
theorem Ffd_la_eq (c_1 : Calendar) (from_2 : Int) (to_3 : Int)  (x : Int × Int) : Ffd_la c_1 from_2 to_3 x=Ffd_la_F c_1 from_2 to_3 (Ffd_la c_1 from_2 to_3) x:=fix_eq (Ffd_la_fin c_1 from_2 to_3) x
noncomputable def Ffd (c_1 : Calendar) (from_2 : Int) (to_3 : Int) : Option (Int × Bool) :=
  (Fff c_1).bind fun r4=>letJ (bif (!r4) then (true) else (letJ (bif (decide (from_2 < 0)) then (true) else (letJ (bif (decide (from_2 > to_3)) then (true) else ((decide (to_3 > 36524)))) fun u11 : Bool=>u11)) fun u10 : Bool=>u10)) fun u5 : Bool=>bif u5 then (some (0,false)) else (bindJ (ρ:=Int × Bool) (Ffd_la c_1 from_2 to_3 (0,from_2)) fun u9 : Int=>some (u9,true))
noncomputable def Ffbn (code_1 : List Int) : Option (Calendar × Calendar) :=
  (Ffbu (l1Cur.mk code_1 0 0)).bind fun r2=>(Ffbq r2.2 r2.1).bind fun r3=>(Ffbq r3.2 r2.1).bind fun r4=>some (r3.1,r4.1)
noncomputable def Ffq (s_1 : List Int) : Option ((List Int)) :=
  nilO s_1 (some []) ((appI 8 ([] : List Int) s_1).bind fun a2=>some a2)
noncomputable def Ffp (x_1 : Int) : Option Int :=
  letJ (bif (decide (x_1 ≥ 4294967296)) then (((shrI .u64 x_1 32),32)) else ((x_1,0))) fun u2 : Int × Int=>letJ (bif (decide (u2.1 ≥ 65536)) then (((shrI .u64 u2.1 16),(w64 (u2.2 + 16)))) else ((u2.1,u2.2))) fun u3 : Int × Int=>letJ (bif (decide (u3.1 ≥ 256)) then (((shrI .u64 u3.1 8),(w64 (u3.2 + 8)))) else ((u3.1,u3.2))) fun u4 : Int × Int=>(getI ([0,1,2,2,3,3,3,3,4,4,4,4,4,4,4,4,5,5,5,5,5,5,5,5,5,5,5,5,5,5,5,5,6,6,6,6,6,6,6,6,6,6,6,6,6,6,6,6,6,6,6,6,6,6,6,6,6,6,6,6,6,6,6,6,7,7,7,7,7,7,7,7,7,7,7,7,7,7,7,7,7,7,7,7,7,7,7,7,7,7,7,7,7,7,7,7,7,7,7,7,7,7,7,7,7,7,7,7,7,7,7,7,7,7,7,7,7,7,7,7,7,7,7,7,7,7,7,7,8,8,8,8,8,8,8,8,8,8,8,8,8,8,8,8,8,8,8,8,8,8,8,8,8,8,8,8,8,8,8,8,8,8,8,8,8,8,8,8,8,8,8,8,8,8,8,8,8,8,8,8,8,8,8,8,8,8,8,8,8,8,8,8,8,8,8,8,8,8,8,8,8,8,8,8,8,8,8,8,8,8,8,8,8,8,8,8,8,8,8,8,8,8,8,8,8,8,8,8,8,8,8,8,8,8,8,8,8,8,8,8,8,8,8,8,8,8,8,8,8,8,8,8,8,8,8,8] : Str) (IntKind.u8.wrap u4.1)).bind fun c5=>some (w64 (u4.2 + (IntKind.i64.wrap (c5.toNat : Int))))
noncomputable def Ffo (x_1 : Int) : Option Int :=
  (Ffp x_1).bind fun r2=>some r2
noncomputable def Ffb (x_1 : Int) : Option Bool :=
  some (x_1 != x_1)
noncomputable def Ffa (x_1 : Int) (y_2 : Int) : Option Bool :=
  (Ffb x_1).bind fun r3=>bindJ (ρ:=Bool) (bif r3 then ((Ffb y_2).bind fun r5=>letJ (bif (!r5) then (true) else ((decide (x_1 < y_2)))) fun u6 : Bool=>some (.inr u6)) else (some (.inr (decide (x_1 < y_2))))) fun u4 : Bool=>some u4
noncomputable def Ffy_lb_F (data_15 : List Int) (a_16 : Int) (b_17 : Int) (x4 : Int × Int × Int × (List Int)) (self : (Int × (List Int))→Option (((List Int)) ⊕ ((List Int)))) (x5 : Int × (List Int)) : Option (((List Int)) ⊕ ((List Int))) :=
  bindL (ρ:=(List Int)) (bif (decide (x5.1 > x4.1)) then ((getI x5.2 x5.1).bind fun e16=>(getI x5.2 (w64 (x5.1 - 1))).bind fun e17=>(Ffa e16 e17).bind fun r18=>some (.inr r18)) else (some (.inr false))) fun u6 : Bool=>bif u6 then ((getI x5.2 (w64 (x5.1 - 1))).bind fun e7=>(getI x5.2 x5.1).bind fun e8=>(getI x5.2 x5.1).bind fun e9=>(getI (setI x5.2 x5.1 e7) (w64 (x5.1 - 1))).bind fun e12=>self ((w64 (x5.1 - 1)),(setI (setI x5.2 x5.1 e7) (w64 (x5.1 - 1)) e8))) else (some (.inr x5.2))
noncomputable def Ffy_lb (data_15 : List Int) (a_16 : Int) (b_17 : Int) (x4 : Int × Int × Int × (List Int)) : (Int × (List Int))→Option (((List Int)) ⊕ ((List Int))):=fixO (Ffy_lb_F data_15 a_16 b_17 x4)
theorem Ffy_lb_fin (data_15 : List Int) (a_16 : Int) (b_17 : Int) (x4 : Int × Int × Int × (List Int)) : ∀ a,Fin1 fun f=>Ffy_lb_F data_15 a_16 b_17 x4 f a:=by
  intro a
  unfold Ffy_lb_F
  repeat first|exact f_const|exact f_self|refine f_cond ?_ ?_|refine f_bindJ ?_ (fun _=>?_)|refine f_bindL ?_ (fun _=>?_)|refine f_bind ?_ (fun _=>?_)|refine f_letJ (fun _=>?_)
theorem Ffy_lb_eq (data_15 : List Int) (a_16 : Int) (b_17 : Int) (x4 : Int × Int × Int × (List Int)) (x : Int × (List Int)) : Ffy_lb data_15 a_16 b_17 x4 x=Ffy_lb_F data_15 a_16 b_17 x4 (Ffy_lb data_15 a_16 b_17 x4) x:=fix_eq (Ffy_lb_fin data_15 a_16 b_17 x4) x
noncomputable def Ffy_la_F (data_15 : List Int) (a_16 : Int) (b_17 : Int)  (self : (Int × Int × Int × (List Int))→Option (((List Int)) ⊕ ((List Int)))) (x4 : Int × Int × Int × (List Int)) : Option (((List Int)) ⊕ ((List Int))) :=
  bif (decide (x4.2.2.1 < x4.2.1)) then (bindL (ρ:=(List Int)) (Ffy_lb data_15 a_16 b_17 x4 (x4.2.2.1,x4.2.2.2)) fun u19 : (List Int)=>self (x4.1,x4.2.1,(w64 (x4.2.2.1 + 1)),u19)) else (some (.inr x4.2.2.2))
noncomputable def Ffy_la (data_15 : List Int) (a_16 : Int) (b_17 : Int)  : (Int × Int × Int × (List Int))→Option (((List Int)) ⊕ ((List Int))):=fixO (Ffy_la_F data_15 a_16 b_17)
theorem Ffy_la_fin (data_15 : List Int) (a_16 : Int) (b_17 : Int)  : ∀ a,Fin1 fun f=>Ffy_la_F data_15 a_16 b_17 f a:=by
  intro a
  unfold Ffy_la_F
  repeat first|exact f_const|exact f_self|refine f_cond ?_ ?_|refine f_bindJ ?_ (fun _=>?_)|refine f_bindL ?_ (fun _=>?_)|refine f_bind ?_ (fun _=>?_)|refine f_letJ (fun _=>?_)
theorem Ffy_la_eq (data_15 : List Int) (a_16 : Int) (b_17 : Int)  (x : Int × Int × Int × (List Int)) : Ffy_la data_15 a_16 b_17 x=Ffy_la_F data_15 a_16 b_17 (Ffy_la data_15 a_16 b_17) x:=fix_eq (Ffy_la_fin data_15 a_16 b_17) x
noncomputable def Ffy (data_15 : List Int) (a_16 : Int) (b_17 : Int) : Option ((List Int)) :=
  bindJ (ρ:=(List Int)) (Ffy_la data_15 a_16 b_17 (a_16,b_17,(w64 (a_16 + 1)),data_15)) fun u20 : (List Int)=>bif Nat.beq u20.length data_15.length then (some u20) else none
noncomputable def Ffbi_la_F (data_18 : List Int) (lo_19 : Int) (hi_20 : Int) (first_21 : Int)  (self : (Int × (List Int))→Option (((List Int)) ⊕ ((List Int)))) (x5 : Int × (List Int)) : Option (((List Int)) ⊕ ((List Int))) :=
  bif (decide ((w64 ((w64 (2 * x5.1)) + 1)) ≥ hi_20)) then (some (.inr x5.2)) else (bindL (ρ:=(List Int)) (bif (decide ((w64 ((w64 ((w64 (2 * x5.1)) + 1)) + 1)) < hi_20)) then ((getI x5.2 (w64 (first_21 + (w64 ((w64 (2 * x5.1)) + 1))))).bind fun e25=>(getI x5.2 (w64 ((w64 (first_21 + (w64 ((w64 (2 * x5.1)) + 1)))) + 1))).bind fun e26=>(Ffa e25 e26).bind fun r27=>some (.inr r27)) else (some (.inr false))) fun u6 : Bool=>letJ (bif u6 then ((w64 ((w64 ((w64 (2 * x5.1)) + 1)) + 1))) else ((w64 ((w64 (2 * x5.1)) + 1)))) fun u7 : Int=>(getI x5.2 (w64 (first_21 + x5.1))).bind fun e8=>(getI x5.2 (w64 (first_21 + u7))).bind fun e9=>(Ffa e8 e9).bind fun r10=>bif (!r10) then (bif Nat.beq x5.2.length data_18.length then (some (.inl x5.2)) else none) else ((getI x5.2 (w64 (first_21 + u7))).bind fun e12=>(getI x5.2 (w64 (first_21 + x5.1))).bind fun e13=>(getI x5.2 (w64 (first_21 + x5.1))).bind fun e14=>(getI (setI x5.2 (w64 (first_21 + x5.1)) e12) (w64 (first_21 + u7))).bind fun e19=>self (u7,(setI (setI x5.2 (w64 (first_21 + x5.1)) e12) (w64 (first_21 + u7)) e13))))
noncomputable def Ffbi_la (data_18 : List Int) (lo_19 : Int) (hi_20 : Int) (first_21 : Int)  : (Int × (List Int))→Option (((List Int)) ⊕ ((List Int))):=fixO (Ffbi_la_F data_18 lo_19 hi_20 first_21)
theorem Ffbi_la_fin (data_18 : List Int) (lo_19 : Int) (hi_20 : Int) (first_21 : Int)  : ∀ a,Fin1 fun f=>Ffbi_la_F data_18 lo_19 hi_20 first_21 f a:=by
  intro a
  unfold Ffbi_la_F
  repeat first|exact f_const|exact f_self|refine f_cond ?_ ?_|refine f_bindJ ?_ (fun _=>?_)|refine f_bindL ?_ (fun _=>?_)|refine f_bind ?_ (fun _=>?_)|refine f_letJ (fun _=>?_)
theorem Ffbi_la_eq (data_18 : List Int) (lo_19 : Int) (hi_20 : Int) (first_21 : Int)  (x : Int × (List Int)) : Ffbi_la data_18 lo_19 hi_20 first_21 x=Ffbi_la_F data_18 lo_19 hi_20 first_21 (Ffbi_la data_18 lo_19 hi_20 first_21) x:=fix_eq (Ffbi_la_fin data_18 lo_19 hi_20 first_21) x
noncomputable def Ffbi (data_18 : List Int) (lo_19 : Int) (hi_20 : Int) (first_21 : Int) : Option ((List Int)) :=
  bindJ (ρ:=(List Int)) (Ffbi_la data_18 lo_19 hi_20 first_21 (lo_19,data_18)) fun u28 : (List Int)=>bif Nat.beq u28.length data_18.length then (some u28) else none
noncomputable def Ffx_la_F (data_11 : List Int) (a_12 : Int) (b_13 : Int)  (self : (Int × (List Int))→Option (((List Int)) ⊕ (Int × Int × (List Int)))) (x4 : Int × (List Int)) : Option (((List Int)) ⊕ (Int × Int × (List Int))) :=
  bif (decide (x4.1 ≥ 0)) then ((Ffbi x4.2 x4.1 (w64 (b_13 - a_12)) a_12).bind fun r5=>bif Nat.beq r5.length x4.2.length then (self ((w64 (x4.1 - 1)),r5)) else none) else (some (.inr (a_12,(w64 (b_13 - a_12)),x4.2)))
noncomputable def Ffx_la (data_11 : List Int) (a_12 : Int) (b_13 : Int)  : (Int × (List Int))→Option (((List Int)) ⊕ (Int × Int × (List Int))):=fixO (Ffx_la_F data_11 a_12 b_13)
theorem Ffx_la_fin (data_11 : List Int) (a_12 : Int) (b_13 : Int)  : ∀ a,Fin1 fun f=>Ffx_la_F data_11 a_12 b_13 f a:=by
  intro a
  unfold Ffx_la_F
  repeat first|exact f_const|exact f_self|refine f_cond ?_ ?_|refine f_bindJ ?_ (fun _=>?_)|refine f_bindL ?_ (fun _=>?_)|refine f_bind ?_ (fun _=>?_)|refine f_letJ (fun _=>?_)
theorem Ffx_la_eq (data_11 : List Int) (a_12 : Int) (b_13 : Int)  (x : Int × (List Int)) : Ffx_la data_11 a_12 b_13 x=Ffx_la_F data_11 a_12 b_13 (Ffx_la data_11 a_12 b_13) x:=fix_eq (Ffx_la_fin data_11 a_12 b_13) x
noncomputable def Ffx_lb_F (data_11 : List Int) (a_12 : Int) (b_13 : Int) (u7 : Int × Int × (List Int)) (self : (Int × (List Int))→Option (((List Int)) ⊕ ((List Int)))) (x8 : Int × (List Int)) : Option (((List Int)) ⊕ ((List Int))) :=
  bif (decide (x8.1 ≥ 0)) then ((getI x8.2 (w64 (u7.1 + x8.1))).bind fun e9=>(getI x8.2 u7.1).bind fun e10=>(getI x8.2 u7.1).bind fun e11=>(getI (setI x8.2 u7.1 e9) (w64 (u7.1 + x8.1))).bind fun e14=>(Ffbi (setI (setI x8.2 u7.1 e9) (w64 (u7.1 + x8.1)) e10) 0 x8.1 u7.1).bind fun r18=>bif Nat.beq r18.length (setI (setI x8.2 u7.1 e9) (w64 (u7.1 + x8.1)) e10).length then (self ((w64 (x8.1 - 1)),r18)) else none) else (some (.inr x8.2))
noncomputable def Ffx_lb (data_11 : List Int) (a_12 : Int) (b_13 : Int) (u7 : Int × Int × (List Int)) : (Int × (List Int))→Option (((List Int)) ⊕ ((List Int))):=fixO (Ffx_lb_F data_11 a_12 b_13 u7)
theorem Ffx_lb_fin (data_11 : List Int) (a_12 : Int) (b_13 : Int) (u7 : Int × Int × (List Int)) : ∀ a,Fin1 fun f=>Ffx_lb_F data_11 a_12 b_13 u7 f a:=by
  intro a
  unfold Ffx_lb_F
  repeat first|exact f_const|exact f_self|refine f_cond ?_ ?_|refine f_bindJ ?_ (fun _=>?_)|refine f_bindL ?_ (fun _=>?_)|refine f_bind ?_ (fun _=>?_)|refine f_letJ (fun _=>?_)
theorem Ffx_lb_eq (data_11 : List Int) (a_12 : Int) (b_13 : Int) (u7 : Int × Int × (List Int)) (x : Int × (List Int)) : Ffx_lb data_11 a_12 b_13 u7 x=Ffx_lb_F data_11 a_12 b_13 u7 (Ffx_lb data_11 a_12 b_13 u7) x:=fix_eq (Ffx_lb_fin data_11 a_12 b_13 u7) x
noncomputable def Ffx (data_11 : List Int) (a_12 : Int) (b_13 : Int) : Option ((List Int)) :=
  bindJ (ρ:=(List Int)) (Ffx_la data_11 a_12 b_13 ((w64 ((w64 ((w64 (b_13 - a_12)) - 1)).tdiv 2)),data_11)) fun u7 : Int × Int × (List Int)=>bindJ (ρ:=(List Int)) (Ffx_lb data_11 a_12 b_13 u7 ((w64 (u7.2.1 - 1)),u7.2.2)) fun u20 : (List Int)=>bif Nat.beq u20.length data_11.length then (some u20) else none
noncomputable def Ffbb (length_1 : Int) : Option Int :=
  (Ffo (IntKind.u64.wrap length_1)).bind fun r2=>(shlO .u64 1 r2).bind fun q3=>some q3
noncomputable def Ffbj (r_2 : Int) : Option (Int × Int) :=
  some ((xorI .u64 (xorI .u64 (xorI .u64 r_2 (shlI .u64 r_2 13)) (shrI .u64 (xorI .u64 r_2 (shlI .u64 r_2 13)) 7)) (shlI .u64 (xorI .u64 (xorI .u64 r_2 (shlI .u64 r_2 13)) (shrI .u64 (xorI .u64 r_2 (shlI .u64 r_2 13)) 7)) 17)),(xorI .u64 (xorI .u64 (xorI .u64 r_2 (shlI .u64 r_2 13)) (shrI .u64 (xorI .u64 r_2 (shlI .u64 r_2 13)) 7)) (shlI .u64 (xorI .u64 (xorI .u64 r_2 (shlI .u64 r_2 13)) (shrI .u64 (xorI .u64 r_2 (shlI .u64 r_2 13)) 7)) 17)))
noncomputable def Ffv_la_F (data_13 : List Int) (a_14 : Int) (b_15 : Int) (r6 : Int) (self : (Int × (List Int) × Int)→Option (((List Int)) ⊕ ((List Int)))) (x7 : Int × (List Int) × Int) : Option (((List Int)) ⊕ ((List Int))) :=
  bif (decide (x7.1 ≤ (w64 ((w64 (a_14 + (w64 ((w64 ((w64 (b_15 - a_14)).tdiv 4)) * 2)))) + 1)))) then ((Ffbj x7.2.2).bind fun r8=>letJ (bif (decide ((IntKind.i64.wrap (andI .u64 r8.1 (IntKind.u64.wrap (r6 - 1)))) ≥ (w64 (b_15 - a_14)))) then ((w64 ((IntKind.i64.wrap (andI .u64 r8.1 (IntKind.u64.wrap (r6 - 1)))) - (w64 (b_15 - a_14))))) else ((IntKind.i64.wrap (andI .u64 r8.1 (IntKind.u64.wrap (r6 - 1)))))) fun u9 : Int=>(getI x7.2.1 (w64 (a_14 + u9))).bind fun e10=>(getI x7.2.1 x7.1).bind fun e11=>(getI x7.2.1 x7.1).bind fun e12=>(getI (setI x7.2.1 x7.1 e10) (w64 (a_14 + u9))).bind fun e15=>self ((w64 (x7.1 + 1)),(setI (setI x7.2.1 x7.1 e10) (w64 (a_14 + u9)) e11),r8.2)) else (some (.inr x7.2.1))
noncomputable def Ffv_la (data_13 : List Int) (a_14 : Int) (b_15 : Int) (r6 : Int) : (Int × (List Int) × Int)→Option (((List Int)) ⊕ ((List Int))):=fixO (Ffv_la_F data_13 a_14 b_15 r6)
theorem Ffv_la_fin (data_13 : List Int) (a_14 : Int) (b_15 : Int) (r6 : Int) : ∀ a,Fin1 fun f=>Ffv_la_F data_13 a_14 b_15 r6 f a:=by
  intro a
  unfold Ffv_la_F
  repeat first|exact f_const|exact f_self|refine f_cond ?_ ?_|refine f_bindJ ?_ (fun _=>?_)|refine f_bindL ?_ (fun _=>?_)|refine f_bind ?_ (fun _=>?_)|refine f_letJ (fun _=>?_)
theorem Ffv_la_eq (data_13 : List Int) (a_14 : Int) (b_15 : Int) (r6 : Int) (x : Int × (List Int) × Int) : Ffv_la data_13 a_14 b_15 r6 x=Ffv_la_F data_13 a_14 b_15 r6 (Ffv_la data_13 a_14 b_15 r6) x:=fix_eq (Ffv_la_fin data_13 a_14 b_15 r6) x
noncomputable def Ffv (data_13 : List Int) (a_14 : Int) (b_15 : Int) : Option ((List Int)) :=
  bindJ (ρ:=(List Int)) (bif (decide ((w64 (b_15 - a_14)) ≥ 8)) then ((Ffbb (w64 (b_15 - a_14))).bind fun r6=>bindL (ρ:=(List Int)) (Ffv_la data_13 a_14 b_15 r6 ((w64 ((w64 (a_14 + (w64 ((w64 ((w64 (b_15 - a_14)).tdiv 4)) * 2)))) - 1)),data_13,(IntKind.u64.wrap (w64 (b_15 - a_14))))) fun u19 : (List Int)=>some (.inr u19)) else (some (.inr data_13))) fun u4 : (List Int)=>bif Nat.beq u4.length data_13.length then (some u4) else none
noncomputable def Ffbc (data_9 : List Int) (a_10 : Int) (b_11 : Int) (swaps_12 : Int) : Option (Int × Int × Int) :=
  (getI data_9 b_11).bind fun e5=>(getI data_9 a_10).bind fun e6=>(Ffa e5 e6).bind fun r7=>bif r7 then (some (b_11,a_10,(w64 (swaps_12 + 1)))) else (some (a_10,b_11,swaps_12))
noncomputable def Ffba (data_6 : List Int) (a_7 : Int) (b_8 : Int) (c_9 : Int) (swaps_10 : Int) : Option (Int × Int) :=
  (Ffbc data_6 a_7 b_8 swaps_10).bind fun r6=>(Ffbc data_6 r6.2.1 c_9 r6.2.2).bind fun r7=>(Ffbc data_6 r6.1 r7.1 r7.2.2).bind fun r8=>some (r8.2.1,r8.2.2)
noncomputable def Ffz (data_4 : List Int) (a_5 : Int) (swaps_6 : Int) : Option (Int × Int) :=
  (Ffba data_4 (w64 (a_5 - 1)) a_5 (w64 (a_5 + 1)) swaps_6).bind fun r4=>some (r4.1,r4.2)
noncomputable def Ffw (data_1 : List Int) (a_2 : Int) (b_3 : Int) : Option (Int × Int) :=
  bindJ (ρ:=Int × Int) (bif (decide ((w64 (b_3 - a_2)) ≥ 8)) then (bindL (ρ:=Int × Int) (bif (decide ((w64 (b_3 - a_2)) ≥ 50)) then ((Ffz data_1 (w64 (a_2 + (w64 ((w64 ((w64 (b_3 - a_2)).tdiv 4)) * 1)))) 0).bind fun r7=>(Ffz data_1 (w64 (a_2 + (w64 ((w64 ((w64 (b_3 - a_2)).tdiv 4)) * 2)))) r7.2).bind fun r8=>(Ffz data_1 (w64 (a_2 + (w64 ((w64 ((w64 (b_3 - a_2)).tdiv 4)) * 3)))) r8.2).bind fun r9=>some (.inr (r7.1,r8.1,r9.1,r9.2))) else (some (.inr ((w64 (a_2 + (w64 ((w64 ((w64 (b_3 - a_2)).tdiv 4)) * 1)))),(w64 (a_2 + (w64 ((w64 ((w64 (b_3 - a_2)).tdiv 4)) * 2)))),(w64 (a_2 + (w64 ((w64 ((w64 (b_3 - a_2)).tdiv 4)) * 3)))),0)))) fun u5 : Int × Int × Int × Int=>(Ffba data_1 u5.1 u5.2.1 u5.2.2.1 u5.2.2.2).bind fun r6=>some (.inr (r6.1,r6.2))) else (some (.inr ((w64 (a_2 + (w64 ((w64 ((w64 (b_3 - a_2)).tdiv 4)) * 2)))),0)))) fun u4 : Int × Int=>bif (u4.2 == 0) then (some (u4.1,1)) else (bif (u4.2 == 12) then (some (u4.1,2)) else (some (u4.1,0)))
noncomputable def Ffbh_la_F (data_9 : List Int) (a_10 : Int) (b_11 : Int)  (self : (Int × Int × (List Int))→Option (((List Int)) ⊕ ((List Int)))) (x4 : Int × Int × (List Int)) : Option (((List Int)) ⊕ ((List Int))) :=
  bif (decide (x4.1 < x4.2.1)) then ((getI x4.2.2 x4.2.1).bind fun e5=>(getI x4.2.2 x4.1).bind fun e6=>(getI x4.2.2 x4.1).bind fun e7=>(getI (setI x4.2.2 x4.1 e5) x4.2.1).bind fun e10=>self ((w64 (x4.1 + 1)),(w64 (x4.2.1 - 1)),(setI (setI x4.2.2 x4.1 e5) x4.2.1 e6))) else (some (.inr x4.2.2))
noncomputable def Ffbh_la (data_9 : List Int) (a_10 : Int) (b_11 : Int)  : (Int × Int × (List Int))→Option (((List Int)) ⊕ ((List Int))):=fixO (Ffbh_la_F data_9 a_10 b_11)
theorem Ffbh_la_fin (data_9 : List Int) (a_10 : Int) (b_11 : Int)  : ∀ a,Fin1 fun f=>Ffbh_la_F data_9 a_10 b_11 f a:=by
  intro a
  unfold Ffbh_la_F
  repeat first|exact f_const|exact f_self|refine f_cond ?_ ?_|refine f_bindJ ?_ (fun _=>?_)|refine f_bindL ?_ (fun _=>?_)|refine f_bind ?_ (fun _=>?_)|refine f_letJ (fun _=>?_)
theorem Ffbh_la_eq (data_9 : List Int) (a_10 : Int) (b_11 : Int)  (x : Int × Int × (List Int)) : Ffbh_la data_9 a_10 b_11 x=Ffbh_la_F data_9 a_10 b_11 (Ffbh_la data_9 a_10 b_11) x:=fix_eq (Ffbh_la_fin data_9 a_10 b_11) x
noncomputable def Ffbh (data_9 : List Int) (a_10 : Int) (b_11 : Int) : Option ((List Int)) :=
  bindJ (ρ:=(List Int)) (Ffbh_la data_9 a_10 b_11 (a_10,(w64 (b_11 - 1)),data_9)) fun u14 : (List Int)=>bif Nat.beq u14.length data_9.length then (some u14) else none
noncomputable def Ffbd_lb_F (data_15 : List Int) (a_16 : Int) (b_17 : Int) (x4 : Int × Int × Int × Int × (List Int)) (self : Int→Option ((Bool × (List Int)) ⊕ Int)) (x5 : Int) : Option ((Bool × (List Int)) ⊕ Int) :=
  bindL (ρ:=Bool × (List Int)) (bif (decide (x5 < x4.2.1)) then ((getI x4.2.2.2.2 x5).bind fun e7=>(getI x4.2.2.2.2 (w64 (x5 - 1))).bind fun e8=>(Ffa e7 e8).bind fun r9=>some (.inr (!r9))) else (some (.inr false))) fun u6 : Bool=>bif u6 then (self (w64 (x5 + 1))) else (some (.inr x5))
noncomputable def Ffbd_lb (data_15 : List Int) (a_16 : Int) (b_17 : Int) (x4 : Int × Int × Int × Int × (List Int)) : Int→Option ((Bool × (List Int)) ⊕ Int):=fixO (Ffbd_lb_F data_15 a_16 b_17 x4)
theorem Ffbd_lb_fin (data_15 : List Int) (a_16 : Int) (b_17 : Int) (x4 : Int × Int × Int × Int × (List Int)) : ∀ a,Fin1 fun f=>Ffbd_lb_F data_15 a_16 b_17 x4 f a:=by
  intro a
  unfold Ffbd_lb_F
  repeat first|exact f_const|exact f_self|refine f_cond ?_ ?_|refine f_bindJ ?_ (fun _=>?_)|refine f_bindL ?_ (fun _=>?_)|refine f_bind ?_ (fun _=>?_)|refine f_letJ (fun _=>?_)
theorem Ffbd_lb_eq (data_15 : List Int) (a_16 : Int) (b_17 : Int) (x4 : Int × Int × Int × Int × (List Int)) (x : Int) : Ffbd_lb data_15 a_16 b_17 x4 x=Ffbd_lb_F data_15 a_16 b_17 x4 (Ffbd_lb data_15 a_16 b_17 x4) x:=fix_eq (Ffbd_lb_fin data_15 a_16 b_17 x4) x
noncomputable def Ffbd_lc_F (data_15 : List Int) (a_16 : Int) (b_17 : Int) (x4 : Int × Int × Int × Int × (List Int)) (u10 : Int) (self : (Int × (List Int))→Option ((Bool × (List Int)) ⊕ ((List Int)))) (x24 : Int × (List Int)) : Option ((Bool × (List Int)) ⊕ ((List Int))) :=
  bif (decide (x24.1 < x4.2.1)) then ((getI x24.2 x24.1).bind fun e25=>(getI x24.2 (w64 (x24.1 - 1))).bind fun e26=>(Ffa e25 e26).bind fun r27=>bif (!r27) then (some (.inr x24.2)) else ((getI x24.2 (w64 (x24.1 - 1))).bind fun e28=>(getI x24.2 x24.1).bind fun e29=>(getI x24.2 x24.1).bind fun e30=>(getI (setI x24.2 x24.1 e28) (w64 (x24.1 - 1))).bind fun e35=>self ((w64 (x24.1 + 1)),(setI (setI x24.2 x24.1 e28) (w64 (x24.1 - 1)) e29)))) else (some (.inr x24.2))
noncomputable def Ffbd_lc (data_15 : List Int) (a_16 : Int) (b_17 : Int) (x4 : Int × Int × Int × Int × (List Int)) (u10 : Int) : (Int × (List Int))→Option ((Bool × (List Int)) ⊕ ((List Int))):=fixO (Ffbd_lc_F data_15 a_16 b_17 x4 u10)
theorem Ffbd_lc_fin (data_15 : List Int) (a_16 : Int) (b_17 : Int) (x4 : Int × Int × Int × Int × (List Int)) (u10 : Int) : ∀ a,Fin1 fun f=>Ffbd_lc_F data_15 a_16 b_17 x4 u10 f a:=by
  intro a
  unfold Ffbd_lc_F
  repeat first|exact f_const|exact f_self|refine f_cond ?_ ?_|refine f_bindJ ?_ (fun _=>?_)|refine f_bindL ?_ (fun _=>?_)|refine f_bind ?_ (fun _=>?_)|refine f_letJ (fun _=>?_)
theorem Ffbd_lc_eq (data_15 : List Int) (a_16 : Int) (b_17 : Int) (x4 : Int × Int × Int × Int × (List Int)) (u10 : Int) (x : Int × (List Int)) : Ffbd_lc data_15 a_16 b_17 x4 u10 x=Ffbd_lc_F data_15 a_16 b_17 x4 u10 (Ffbd_lc data_15 a_16 b_17 x4 u10) x:=fix_eq (Ffbd_lc_fin data_15 a_16 b_17 x4 u10) x
noncomputable def Ffbd_ld_F (data_15 : List Int) (a_16 : Int) (b_17 : Int) (x4 : Int × Int × Int × Int × (List Int)) (u10 : Int) (self : (Int × (List Int))→Option ((Bool × (List Int)) ⊕ ((List Int)))) (x42 : Int × (List Int)) : Option ((Bool × (List Int)) ⊕ ((List Int))) :=
  bif (decide (x42.1 ≥ 1)) then ((getI x42.2 x42.1).bind fun e43=>(getI x42.2 (w64 (x42.1 - 1))).bind fun e44=>(Ffa e43 e44).bind fun r45=>bif (!r45) then (some (.inr x42.2)) else ((getI x42.2 (w64 (x42.1 - 1))).bind fun e46=>(getI x42.2 x42.1).bind fun e47=>(getI x42.2 x42.1).bind fun e48=>(getI (setI x42.2 x42.1 e46) (w64 (x42.1 - 1))).bind fun e53=>self ((w64 (x42.1 - 1)),(setI (setI x42.2 x42.1 e46) (w64 (x42.1 - 1)) e47)))) else (some (.inr x42.2))
noncomputable def Ffbd_ld (data_15 : List Int) (a_16 : Int) (b_17 : Int) (x4 : Int × Int × Int × Int × (List Int)) (u10 : Int) : (Int × (List Int))→Option ((Bool × (List Int)) ⊕ ((List Int))):=fixO (Ffbd_ld_F data_15 a_16 b_17 x4 u10)
theorem Ffbd_ld_fin (data_15 : List Int) (a_16 : Int) (b_17 : Int) (x4 : Int × Int × Int × Int × (List Int)) (u10 : Int) : ∀ a,Fin1 fun f=>Ffbd_ld_F data_15 a_16 b_17 x4 u10 f a:=by
  intro a
  unfold Ffbd_ld_F
  repeat first|exact f_const|exact f_self|refine f_cond ?_ ?_|refine f_bindJ ?_ (fun _=>?_)|refine f_bindL ?_ (fun _=>?_)|refine f_bind ?_ (fun _=>?_)|refine f_letJ (fun _=>?_)
theorem Ffbd_ld_eq (data_15 : List Int) (a_16 : Int) (b_17 : Int) (x4 : Int × Int × Int × Int × (List Int)) (u10 : Int) (x : Int × (List Int)) : Ffbd_ld data_15 a_16 b_17 x4 u10 x=Ffbd_ld_F data_15 a_16 b_17 x4 u10 (Ffbd_ld data_15 a_16 b_17 x4 u10) x:=fix_eq (Ffbd_ld_fin data_15 a_16 b_17 x4 u10) x
noncomputable def Ffbd_la_F (data_15 : List Int) (a_16 : Int) (b_17 : Int)  (self : (Int × Int × Int × Int × (List Int))→Option ((Bool × (List Int)) ⊕ ((List Int)))) (x4 : Int × Int × Int × Int × (List Int)) : Option ((Bool × (List Int)) ⊕ ((List Int))) :=
  bif (decide (x4.2.2.2.1 < 5)) then (bindL (ρ:=Bool × (List Int)) (Ffbd_lb data_15 a_16 b_17 x4 x4.2.2.1) fun u10 : Int=>bif (u10 == x4.2.1) then (bif Nat.beq x4.2.2.2.2.length data_15.length then (some (.inl (true,x4.2.2.2.2))) else none) else (bif (decide ((w64 (x4.2.1 - x4.1)) < 50)) then (bif Nat.beq x4.2.2.2.2.length data_15.length then (some (.inl (false,x4.2.2.2.2))) else none) else ((getI x4.2.2.2.2 (w64 (u10 - 1))).bind fun e13=>(getI x4.2.2.2.2 u10).bind fun e14=>(getI x4.2.2.2.2 u10).bind fun e15=>(getI (setI x4.2.2.2.2 u10 e13) (w64 (u10 - 1))).bind fun e18=>bindL (ρ:=Bool × (List Int)) (bif (decide ((w64 (u10 - x4.1)) ≥ 2)) then (bindL (ρ:=Bool × (List Int)) (Ffbd_ld data_15 a_16 b_17 x4 u10 ((w64 (u10 - 1)),(setI (setI x4.2.2.2.2 u10 e13) (w64 (u10 - 1)) e14))) fun u59 : (List Int)=>some (.inr u59)) else (some (.inr (setI (setI x4.2.2.2.2 u10 e13) (w64 (u10 - 1)) e14)))) fun u22 : (List Int)=>bindL (ρ:=Bool × (List Int)) (bif (decide ((w64 (x4.2.1 - u10)) ≥ 2)) then (bindL (ρ:=Bool × (List Int)) (Ffbd_lc data_15 a_16 b_17 x4 u10 ((w64 (u10 + 1)),u22)) fun u41 : (List Int)=>some (.inr u41)) else (some (.inr u22))) fun u23 : (List Int)=>self (x4.1,x4.2.1,u10,(w64 (x4.2.2.2.1 + 1)),u23)))) else (some (.inr x4.2.2.2.2))
noncomputable def Ffbd_la (data_15 : List Int) (a_16 : Int) (b_17 : Int)  : (Int × Int × Int × Int × (List Int))→Option ((Bool × (List Int)) ⊕ ((List Int))):=fixO (Ffbd_la_F data_15 a_16 b_17)
theorem Ffbd_la_fin (data_15 : List Int) (a_16 : Int) (b_17 : Int)  : ∀ a,Fin1 fun f=>Ffbd_la_F data_15 a_16 b_17 f a:=by
  intro a
  unfold Ffbd_la_F
  repeat first|exact f_const|exact f_self|refine f_cond ?_ ?_|refine f_bindJ ?_ (fun _=>?_)|refine f_bindL ?_ (fun _=>?_)|refine f_bind ?_ (fun _=>?_)|refine f_letJ (fun _=>?_)
theorem Ffbd_la_eq (data_15 : List Int) (a_16 : Int) (b_17 : Int)  (x : Int × Int × Int × Int × (List Int)) : Ffbd_la data_15 a_16 b_17 x=Ffbd_la_F data_15 a_16 b_17 (Ffbd_la data_15 a_16 b_17) x:=fix_eq (Ffbd_la_fin data_15 a_16 b_17) x
noncomputable def Ffbd (data_15 : List Int) (a_16 : Int) (b_17 : Int) : Option (Bool × (List Int)) :=
  bindJ (ρ:=Bool × (List Int)) (Ffbd_la data_15 a_16 b_17 (a_16,b_17,(w64 (a_16 + 1)),0,data_15)) fun u60 : (List Int)=>bif Nat.beq u60.length data_15.length then (some (false,u60)) else none
noncomputable def Ffbe_lb_F (data_8 : List Int) (a_9 : Int) (b_10 : Int) (pivot_11 : Int) (x14 : Int × Int × (List Int)) (self : Int→Option ((Int × (List Int)) ⊕ Int)) (x15 : Int) : Option ((Int × (List Int)) ⊕ Int) :=
  bindL (ρ:=Int × (List Int)) (bif (decide (x15 ≤ x14.2.1)) then ((getI x14.2.2 a_9).bind fun e17=>(getI x14.2.2 x15).bind fun e18=>(Ffa e17 e18).bind fun r19=>some (.inr (!r19))) else (some (.inr false))) fun u16 : Bool=>bif u16 then (self (w64 (x15 + 1))) else (some (.inr x15))
noncomputable def Ffbe_lb (data_8 : List Int) (a_9 : Int) (b_10 : Int) (pivot_11 : Int) (x14 : Int × Int × (List Int)) : Int→Option ((Int × (List Int)) ⊕ Int):=fixO (Ffbe_lb_F data_8 a_9 b_10 pivot_11 x14)
theorem Ffbe_lb_fin (data_8 : List Int) (a_9 : Int) (b_10 : Int) (pivot_11 : Int) (x14 : Int × Int × (List Int)) : ∀ a,Fin1 fun f=>Ffbe_lb_F data_8 a_9 b_10 pivot_11 x14 f a:=by
  intro a
  unfold Ffbe_lb_F
  repeat first|exact f_const|exact f_self|refine f_cond ?_ ?_|refine f_bindJ ?_ (fun _=>?_)|refine f_bindL ?_ (fun _=>?_)|refine f_bind ?_ (fun _=>?_)|refine f_letJ (fun _=>?_)
theorem Ffbe_lb_eq (data_8 : List Int) (a_9 : Int) (b_10 : Int) (pivot_11 : Int) (x14 : Int × Int × (List Int)) (x : Int) : Ffbe_lb data_8 a_9 b_10 pivot_11 x14 x=Ffbe_lb_F data_8 a_9 b_10 pivot_11 x14 (Ffbe_lb data_8 a_9 b_10 pivot_11 x14) x:=fix_eq (Ffbe_lb_fin data_8 a_9 b_10 pivot_11 x14) x
noncomputable def Ffbe_lc_F (data_8 : List Int) (a_9 : Int) (b_10 : Int) (pivot_11 : Int) (u20 : Int) (x14 : Int × Int × (List Int)) (self : Int→Option ((Int × (List Int)) ⊕ Int)) (x21 : Int) : Option ((Int × (List Int)) ⊕ Int) :=
  bindL (ρ:=Int × (List Int)) (bif (decide (u20 ≤ x21)) then ((getI x14.2.2 a_9).bind fun e23=>(getI x14.2.2 x21).bind fun e24=>(Ffa e23 e24).bind fun r25=>some (.inr r25)) else (some (.inr false))) fun u22 : Bool=>bif u22 then (self (w64 (x21 - 1))) else (some (.inr x21))
noncomputable def Ffbe_lc (data_8 : List Int) (a_9 : Int) (b_10 : Int) (pivot_11 : Int) (u20 : Int) (x14 : Int × Int × (List Int)) : Int→Option ((Int × (List Int)) ⊕ Int):=fixO (Ffbe_lc_F data_8 a_9 b_10 pivot_11 u20 x14)
theorem Ffbe_lc_fin (data_8 : List Int) (a_9 : Int) (b_10 : Int) (pivot_11 : Int) (u20 : Int) (x14 : Int × Int × (List Int)) : ∀ a,Fin1 fun f=>Ffbe_lc_F data_8 a_9 b_10 pivot_11 u20 x14 f a:=by
  intro a
  unfold Ffbe_lc_F
  repeat first|exact f_const|exact f_self|refine f_cond ?_ ?_|refine f_bindJ ?_ (fun _=>?_)|refine f_bindL ?_ (fun _=>?_)|refine f_bind ?_ (fun _=>?_)|refine f_letJ (fun _=>?_)
theorem Ffbe_lc_eq (data_8 : List Int) (a_9 : Int) (b_10 : Int) (pivot_11 : Int) (u20 : Int) (x14 : Int × Int × (List Int)) (x : Int) : Ffbe_lc data_8 a_9 b_10 pivot_11 u20 x14 x=Ffbe_lc_F data_8 a_9 b_10 pivot_11 u20 x14 (Ffbe_lc data_8 a_9 b_10 pivot_11 u20 x14) x:=fix_eq (Ffbe_lc_fin data_8 a_9 b_10 pivot_11 u20 x14) x
noncomputable def Ffbe_la_F (data_8 : List Int) (a_9 : Int) (b_10 : Int) (pivot_11 : Int)  (self : (Int × Int × (List Int))→Option ((Int × (List Int)) ⊕ (Int × (List Int)))) (x14 : Int × Int × (List Int)) : Option ((Int × (List Int)) ⊕ (Int × (List Int))) :=
  bindL (ρ:=Int × (List Int)) (Ffbe_lb data_8 a_9 b_10 pivot_11 x14 x14.1) fun u20 : Int=>bindL (ρ:=Int × (List Int)) (Ffbe_lc data_8 a_9 b_10 pivot_11 u20 x14 x14.2.1) fun u26 : Int=>bif (decide (u20 > u26)) then (some (.inr (u20,x14.2.2))) else ((getI x14.2.2 u26).bind fun e27=>(getI x14.2.2 u20).bind fun e28=>(getI x14.2.2 u20).bind fun e29=>(getI (setI x14.2.2 u20 e27) u26).bind fun e32=>self ((w64 (u20 + 1)),(w64 (u26 - 1)),(setI (setI x14.2.2 u20 e27) u26 e28)))
noncomputable def Ffbe_la (data_8 : List Int) (a_9 : Int) (b_10 : Int) (pivot_11 : Int)  : (Int × Int × (List Int))→Option ((Int × (List Int)) ⊕ (Int × (List Int))):=fixO (Ffbe_la_F data_8 a_9 b_10 pivot_11)
theorem Ffbe_la_fin (data_8 : List Int) (a_9 : Int) (b_10 : Int) (pivot_11 : Int)  : ∀ a,Fin1 fun f=>Ffbe_la_F data_8 a_9 b_10 pivot_11 f a:=by
  intro a
  unfold Ffbe_la_F
  repeat first|exact f_const|exact f_self|refine f_cond ?_ ?_|refine f_bindJ ?_ (fun _=>?_)|refine f_bindL ?_ (fun _=>?_)|refine f_bind ?_ (fun _=>?_)|refine f_letJ (fun _=>?_)
theorem Ffbe_la_eq (data_8 : List Int) (a_9 : Int) (b_10 : Int) (pivot_11 : Int)  (x : Int × Int × (List Int)) : Ffbe_la data_8 a_9 b_10 pivot_11 x=Ffbe_la_F data_8 a_9 b_10 pivot_11 (Ffbe_la data_8 a_9 b_10 pivot_11) x:=fix_eq (Ffbe_la_fin data_8 a_9 b_10 pivot_11) x
noncomputable def Ffbe (data_8 : List Int) (a_9 : Int) (b_10 : Int) (pivot_11 : Int) : Option (Int × (List Int)) :=
  (getI data_8 pivot_11).bind fun e5=>(getI data_8 a_9).bind fun e6=>(getI data_8 a_9).bind fun e7=>(getI (setI data_8 a_9 e5) pivot_11).bind fun e10=>bindJ (ρ:=Int × (List Int)) (Ffbe_la data_8 a_9 b_10 pivot_11 ((w64 (a_9 + 1)),(w64 (b_10 - 1)),(setI (setI data_8 a_9 e5) pivot_11 e6))) fun u36 : Int × (List Int)=>bif Nat.beq u36.2.length data_8.length then (some (u36.1,u36.2)) else none
noncomputable def Ffbf_la_F (data_8 : List Int) (a_9 : Int) (b_10 : Int) (pivot_11 : Int) (e5 : Int) (e6 : Int) (self : Int→Option ((Int × Bool × (List Int)) ⊕ (Int × Int))) (x14 : Int) : Option ((Int × Bool × (List Int)) ⊕ (Int × Int)) :=
  bindL (ρ:=Int × Bool × (List Int)) (bif (decide (x14 ≤ (w64 (b_10 - 1)))) then ((getI (setI (setI data_8 a_9 e5) pivot_11 e6) x14).bind fun e16=>(getI (setI (setI data_8 a_9 e5) pivot_11 e6) a_9).bind fun e17=>(Ffa e16 e17).bind fun r18=>some (.inr r18)) else (some (.inr false))) fun u15 : Bool=>bif u15 then (self (w64 (x14 + 1))) else (some (.inr (x14,(w64 (b_10 - 1)))))
noncomputable def Ffbf_la (data_8 : List Int) (a_9 : Int) (b_10 : Int) (pivot_11 : Int) (e5 : Int) (e6 : Int) : Int→Option ((Int × Bool × (List Int)) ⊕ (Int × Int)):=fixO (Ffbf_la_F data_8 a_9 b_10 pivot_11 e5 e6)
theorem Ffbf_la_fin (data_8 : List Int) (a_9 : Int) (b_10 : Int) (pivot_11 : Int) (e5 : Int) (e6 : Int) : ∀ a,Fin1 fun f=>Ffbf_la_F data_8 a_9 b_10 pivot_11 e5 e6 f a:=by
  intro a
  unfold Ffbf_la_F
  repeat first|exact f_const|exact f_self|refine f_cond ?_ ?_|refine f_bindJ ?_ (fun _=>?_)|refine f_bindL ?_ (fun _=>?_)|refine f_bind ?_ (fun _=>?_)|refine f_letJ (fun _=>?_)
theorem Ffbf_la_eq (data_8 : List Int) (a_9 : Int) (b_10 : Int) (pivot_11 : Int) (e5 : Int) (e6 : Int) (x : Int) : Ffbf_la data_8 a_9 b_10 pivot_11 e5 e6 x=Ffbf_la_F data_8 a_9 b_10 pivot_11 e5 e6 (Ffbf_la data_8 a_9 b_10 pivot_11 e5 e6) x:=fix_eq (Ffbf_la_fin data_8 a_9 b_10 pivot_11 e5 e6) x
noncomputable def Ffbf_lb_F (data_8 : List Int) (a_9 : Int) (b_10 : Int) (pivot_11 : Int) (u19 : Int × Int) (e5 : Int) (e6 : Int) (self : Int→Option ((Int × Bool × (List Int)) ⊕ Int)) (x20 : Int) : Option ((Int × Bool × (List Int)) ⊕ Int) :=
  bindL (ρ:=Int × Bool × (List Int)) (bif (decide (u19.1 ≤ x20)) then ((getI (setI (setI data_8 a_9 e5) pivot_11 e6) x20).bind fun e22=>(getI (setI (setI data_8 a_9 e5) pivot_11 e6) a_9).bind fun e23=>(Ffa e22 e23).bind fun r24=>some (.inr (!r24))) else (some (.inr false))) fun u21 : Bool=>bif u21 then (self (w64 (x20 - 1))) else (some (.inr x20))
noncomputable def Ffbf_lb (data_8 : List Int) (a_9 : Int) (b_10 : Int) (pivot_11 : Int) (u19 : Int × Int) (e5 : Int) (e6 : Int) : Int→Option ((Int × Bool × (List Int)) ⊕ Int):=fixO (Ffbf_lb_F data_8 a_9 b_10 pivot_11 u19 e5 e6)
theorem Ffbf_lb_fin (data_8 : List Int) (a_9 : Int) (b_10 : Int) (pivot_11 : Int) (u19 : Int × Int) (e5 : Int) (e6 : Int) : ∀ a,Fin1 fun f=>Ffbf_lb_F data_8 a_9 b_10 pivot_11 u19 e5 e6 f a:=by
  intro a
  unfold Ffbf_lb_F
  repeat first|exact f_const|exact f_self|refine f_cond ?_ ?_|refine f_bindJ ?_ (fun _=>?_)|refine f_bindL ?_ (fun _=>?_)|refine f_bind ?_ (fun _=>?_)|refine f_letJ (fun _=>?_)
theorem Ffbf_lb_eq (data_8 : List Int) (a_9 : Int) (b_10 : Int) (pivot_11 : Int) (u19 : Int × Int) (e5 : Int) (e6 : Int) (x : Int) : Ffbf_lb data_8 a_9 b_10 pivot_11 u19 e5 e6 x=Ffbf_lb_F data_8 a_9 b_10 pivot_11 u19 e5 e6 (Ffbf_lb data_8 a_9 b_10 pivot_11 u19 e5 e6) x:=fix_eq (Ffbf_lb_fin data_8 a_9 b_10 pivot_11 u19 e5 e6) x
noncomputable def Ffbf_ld_F (data_8 : List Int) (a_9 : Int) (b_10 : Int) (pivot_11 : Int) (x45 : Int × Int × (List Int)) (self : Int→Option ((Int × Bool × (List Int)) ⊕ Int)) (x46 : Int) : Option ((Int × Bool × (List Int)) ⊕ Int) :=
  bindL (ρ:=Int × Bool × (List Int)) (bif (decide (x46 ≤ x45.2.1)) then ((getI x45.2.2 x46).bind fun e48=>(getI x45.2.2 a_9).bind fun e49=>(Ffa e48 e49).bind fun r50=>some (.inr r50)) else (some (.inr false))) fun u47 : Bool=>bif u47 then (self (w64 (x46 + 1))) else (some (.inr x46))
noncomputable def Ffbf_ld (data_8 : List Int) (a_9 : Int) (b_10 : Int) (pivot_11 : Int) (x45 : Int × Int × (List Int)) : Int→Option ((Int × Bool × (List Int)) ⊕ Int):=fixO (Ffbf_ld_F data_8 a_9 b_10 pivot_11 x45)
theorem Ffbf_ld_fin (data_8 : List Int) (a_9 : Int) (b_10 : Int) (pivot_11 : Int) (x45 : Int × Int × (List Int)) : ∀ a,Fin1 fun f=>Ffbf_ld_F data_8 a_9 b_10 pivot_11 x45 f a:=by
  intro a
  unfold Ffbf_ld_F
  repeat first|exact f_const|exact f_self|refine f_cond ?_ ?_|refine f_bindJ ?_ (fun _=>?_)|refine f_bindL ?_ (fun _=>?_)|refine f_bind ?_ (fun _=>?_)|refine f_letJ (fun _=>?_)
theorem Ffbf_ld_eq (data_8 : List Int) (a_9 : Int) (b_10 : Int) (pivot_11 : Int) (x45 : Int × Int × (List Int)) (x : Int) : Ffbf_ld data_8 a_9 b_10 pivot_11 x45 x=Ffbf_ld_F data_8 a_9 b_10 pivot_11 x45 (Ffbf_ld data_8 a_9 b_10 pivot_11 x45) x:=fix_eq (Ffbf_ld_fin data_8 a_9 b_10 pivot_11 x45) x
noncomputable def Ffbf_le_F (data_8 : List Int) (a_9 : Int) (b_10 : Int) (pivot_11 : Int) (u51 : Int) (x45 : Int × Int × (List Int)) (self : Int→Option ((Int × Bool × (List Int)) ⊕ Int)) (x52 : Int) : Option ((Int × Bool × (List Int)) ⊕ Int) :=
  bindL (ρ:=Int × Bool × (List Int)) (bif (decide (u51 ≤ x52)) then ((getI x45.2.2 x52).bind fun e54=>(getI x45.2.2 a_9).bind fun e55=>(Ffa e54 e55).bind fun r56=>some (.inr (!r56))) else (some (.inr false))) fun u53 : Bool=>bif u53 then (self (w64 (x52 - 1))) else (some (.inr x52))
noncomputable def Ffbf_le (data_8 : List Int) (a_9 : Int) (b_10 : Int) (pivot_11 : Int) (u51 : Int) (x45 : Int × Int × (List Int)) : Int→Option ((Int × Bool × (List Int)) ⊕ Int):=fixO (Ffbf_le_F data_8 a_9 b_10 pivot_11 u51 x45)
theorem Ffbf_le_fin (data_8 : List Int) (a_9 : Int) (b_10 : Int) (pivot_11 : Int) (u51 : Int) (x45 : Int × Int × (List Int)) : ∀ a,Fin1 fun f=>Ffbf_le_F data_8 a_9 b_10 pivot_11 u51 x45 f a:=by
  intro a
  unfold Ffbf_le_F
  repeat first|exact f_const|exact f_self|refine f_cond ?_ ?_|refine f_bindJ ?_ (fun _=>?_)|refine f_bindL ?_ (fun _=>?_)|refine f_bind ?_ (fun _=>?_)|refine f_letJ (fun _=>?_)
theorem Ffbf_le_eq (data_8 : List Int) (a_9 : Int) (b_10 : Int) (pivot_11 : Int) (u51 : Int) (x45 : Int × Int × (List Int)) (x : Int) : Ffbf_le data_8 a_9 b_10 pivot_11 u51 x45 x=Ffbf_le_F data_8 a_9 b_10 pivot_11 u51 x45 (Ffbf_le data_8 a_9 b_10 pivot_11 u51 x45) x:=fix_eq (Ffbf_le_fin data_8 a_9 b_10 pivot_11 u51 x45) x
noncomputable def Ffbf_lc_F (data_8 : List Int) (a_9 : Int) (b_10 : Int) (pivot_11 : Int)  (self : (Int × Int × (List Int))→Option ((Int × Bool × (List Int)) ⊕ (Int × (List Int)))) (x45 : Int × Int × (List Int)) : Option ((Int × Bool × (List Int)) ⊕ (Int × (List Int))) :=
  bindL (ρ:=Int × Bool × (List Int)) (Ffbf_ld data_8 a_9 b_10 pivot_11 x45 x45.1) fun u51 : Int=>bindL (ρ:=Int × Bool × (List Int)) (Ffbf_le data_8 a_9 b_10 pivot_11 u51 x45 x45.2.1) fun u57 : Int=>bif (decide (u51 > u57)) then (some (.inr (u57,x45.2.2))) else ((getI x45.2.2 u57).bind fun e58=>(getI x45.2.2 u51).bind fun e59=>(getI x45.2.2 u51).bind fun e60=>(getI (setI x45.2.2 u51 e58) u57).bind fun e63=>self ((w64 (u51 + 1)),(w64 (u57 - 1)),(setI (setI x45.2.2 u51 e58) u57 e59)))
noncomputable def Ffbf_lc (data_8 : List Int) (a_9 : Int) (b_10 : Int) (pivot_11 : Int)  : (Int × Int × (List Int))→Option ((Int × Bool × (List Int)) ⊕ (Int × (List Int))):=fixO (Ffbf_lc_F data_8 a_9 b_10 pivot_11)
theorem Ffbf_lc_fin (data_8 : List Int) (a_9 : Int) (b_10 : Int) (pivot_11 : Int)  : ∀ a,Fin1 fun f=>Ffbf_lc_F data_8 a_9 b_10 pivot_11 f a:=by
  intro a
  unfold Ffbf_lc_F
  repeat first|exact f_const|exact f_self|refine f_cond ?_ ?_|refine f_bindJ ?_ (fun _=>?_)|refine f_bindL ?_ (fun _=>?_)|refine f_bind ?_ (fun _=>?_)|refine f_letJ (fun _=>?_)
theorem Ffbf_lc_eq (data_8 : List Int) (a_9 : Int) (b_10 : Int) (pivot_11 : Int)  (x : Int × Int × (List Int)) : Ffbf_lc data_8 a_9 b_10 pivot_11 x=Ffbf_lc_F data_8 a_9 b_10 pivot_11 (Ffbf_lc data_8 a_9 b_10 pivot_11) x:=fix_eq (Ffbf_lc_fin data_8 a_9 b_10 pivot_11) x
noncomputable def Ffbf (data_8 : List Int) (a_9 : Int) (b_10 : Int) (pivot_11 : Int) : Option (Int × Bool × (List Int)) :=
  (getI data_8 pivot_11).bind fun e5=>(getI data_8 a_9).bind fun e6=>(getI data_8 a_9).bind fun e7=>(getI (setI data_8 a_9 e5) pivot_11).bind fun e10=>bindJ (ρ:=Int × Bool × (List Int)) (Ffbf_la data_8 a_9 b_10 pivot_11 e5 e6 (w64 (a_9 + 1))) fun u19 : Int × Int=>bindJ (ρ:=Int × Bool × (List Int)) (Ffbf_lb data_8 a_9 b_10 pivot_11 u19 e5 e6 u19.2) fun u25 : Int=>bif (decide (u19.1 > u25)) then ((getI (setI (setI data_8 a_9 e5) pivot_11 e6) a_9).bind fun e26=>(getI (setI (setI data_8 a_9 e5) pivot_11 e6) u25).bind fun e27=>(getI (setI (setI data_8 a_9 e5) pivot_11 e6) u25).bind fun e28=>(getI (setI (setI (setI data_8 a_9 e5) pivot_11 e6) u25 e26) a_9).bind fun e31=>bif Nat.beq (setI (setI (setI (setI data_8 a_9 e5) pivot_11 e6) u25 e26) a_9 e27).length data_8.length then (some (u25,true,(setI (setI (setI (setI data_8 a_9 e5) pivot_11 e6) u25 e26) a_9 e27))) else none) else ((getI (setI (setI data_8 a_9 e5) pivot_11 e6) u25).bind fun e36=>(getI (setI (setI data_8 a_9 e5) pivot_11 e6) u19.1).bind fun e37=>(getI (setI (setI data_8 a_9 e5) pivot_11 e6) u19.1).bind fun e38=>(getI (setI (setI (setI data_8 a_9 e5) pivot_11 e6) u19.1 e36) u25).bind fun e41=>bindJ (ρ:=Int × Bool × (List Int)) (Ffbf_lc data_8 a_9 b_10 pivot_11 ((w64 (u19.1 + 1)),(w64 (u25 - 1)),(setI (setI (setI (setI data_8 a_9 e5) pivot_11 e6) u19.1 e36) u25 e37))) fun u67 : Int × (List Int)=>(getI u67.2 a_9).bind fun e68=>(getI u67.2 u67.1).bind fun e69=>(getI u67.2 u67.1).bind fun e70=>(getI (setI u67.2 u67.1 e68) a_9).bind fun e73=>bif Nat.beq (setI (setI u67.2 u67.1 e68) a_9 e69).length data_8.length then (some (u67.1,false,(setI (setI u67.2 u67.1 e68) a_9 e69))) else none)
noncomputable def Ffbg_la_F (slf_Ffbg : ((List Int) × Int × Int × Int)→Option ((List Int))) (data_7 : List Int) (a_8 : Int) (b_9 : Int) (limit_10 : Int)  (self : (Int × Int × Int × Bool × Bool × (List Int))→Option (((List Int)) ⊕ Unit)) (x5 : Int × Int × Int × Bool × Bool × (List Int)) : Option (((List Int)) ⊕ Unit) :=
  bif (decide ((w64 (x5.2.1 - x5.1)) ≤ 12)) then ((Ffy x5.2.2.2.2.2 x5.1 x5.2.1).bind fun r6=>bif Nat.beq r6.length x5.2.2.2.2.2.length then (bif Nat.beq r6.length data_7.length then (some (.inl r6)) else none) else none) else (bif (x5.2.2.1 == 0) then ((Ffx x5.2.2.2.2.2 x5.1 x5.2.1).bind fun r9=>bif Nat.beq r9.length x5.2.2.2.2.2.length then (bif Nat.beq r9.length data_7.length then (some (.inl r9)) else none) else none) else (bindL (ρ:=(List Int)) (bif (!x5.2.2.2.1) then ((Ffv x5.2.2.2.2.2 x5.1 x5.2.1).bind fun r36=>bif Nat.beq r36.length x5.2.2.2.2.2.length then (some (.inr ((w64 (x5.2.2.1 - 1)),r36))) else none) else (some (.inr (x5.2.2.1,x5.2.2.2.2.2)))) fun u12 : Int × (List Int)=>(Ffw u12.2 x5.1 x5.2.1).bind fun r13=>bindL (ρ:=(List Int)) (bif (r13.2 == 2) then ((Ffbh u12.2 x5.1 x5.2.1).bind fun r34=>bif Nat.beq r34.length u12.2.length then (some (.inr ((w64 ((w64 (x5.2.1 - 1)) - (w64 (r13.1 - x5.1)))),1,r34))) else none) else (some (.inr (r13.1,r13.2,u12.2)))) fun u14 : Int × Int × (List Int)=>letJ (bif x5.2.2.2.1 then (letJ (bif x5.2.2.2.2.1 then ((u14.2.1 == 1)) else (false)) fun u33 : Bool=>u33) else (false)) fun u15 : Bool=>bindL (ρ:=(List Int)) (bif u15 then ((Ffbd u14.2.2 x5.1 x5.2.1).bind fun r30=>bif Nat.beq r30.2.length u14.2.2.length then (bif r30.1 then (bif Nat.beq r30.2.length data_7.length then (some (.inl r30.2)) else none) else (some (.inr r30.2))) else none) else (some (.inr u14.2.2))) fun u16 : (List Int)=>bindL (ρ:=(List Int)) (bif (decide (x5.1 > 0)) then ((getI u16 (w64 (x5.1 - 1))).bind fun e27=>(getI u16 u14.1).bind fun e28=>(Ffa e27 e28).bind fun r29=>some (.inr (!r29))) else (some (.inr false))) fun u17 : Bool=>bif u17 then ((Ffbe u16 x5.1 x5.2.1 u14.1).bind fun r18=>bif Nat.beq r18.2.length u16.length then (self (r18.1,x5.2.1,u12.1,x5.2.2.2.1,x5.2.2.2.2.1,r18.2)) else none) else ((Ffbf u16 x5.1 x5.2.1 u14.1).bind fun r20=>bif Nat.beq r20.2.2.length u16.length then (bindL (ρ:=(List Int)) (bif (decide ((w64 (r20.1 - x5.1)) < (w64 (x5.2.1 - r20.1)))) then ((slf_Ffbg (r20.2.2,x5.1,r20.1,u12.1)).bind fun r23=>bif Nat.beq r23.length r20.2.2.length then (some (.inr ((w64 (r20.1 + 1)),x5.2.1,(decide ((w64 (r20.1 - x5.1)) ≥ (w64 ((w64 (x5.2.1 - x5.1)).tdiv 8)))),r23))) else none) else ((slf_Ffbg (r20.2.2,(w64 (r20.1 + 1)),x5.2.1,u12.1)).bind fun r25=>bif Nat.beq r25.length r20.2.2.length then (some (.inr (x5.1,r20.1,(decide ((w64 (x5.2.1 - r20.1)) ≥ (w64 ((w64 (x5.2.1 - x5.1)).tdiv 8)))),r25))) else none)) fun u22 : Int × Int × Bool × (List Int)=>self (u22.1,u22.2.1,u12.1,u22.2.2.1,r20.2.1,u22.2.2.2)) else none)))
noncomputable def Ffbg_la (slf_Ffbg : ((List Int) × Int × Int × Int)→Option ((List Int))) (data_7 : List Int) (a_8 : Int) (b_9 : Int) (limit_10 : Int)  : (Int × Int × Int × Bool × Bool × (List Int))→Option (((List Int)) ⊕ Unit):=fixO (Ffbg_la_F slf_Ffbg data_7 a_8 b_9 limit_10)
theorem Ffbg_la_fin (slf_Ffbg : ((List Int) × Int × Int × Int)→Option ((List Int))) (data_7 : List Int) (a_8 : Int) (b_9 : Int) (limit_10 : Int)  : ∀ a,Fin1 fun f=>Ffbg_la_F slf_Ffbg data_7 a_8 b_9 limit_10 f a:=by
  intro a
  unfold Ffbg_la_F
  repeat first|exact f_const|exact f_self|refine f_cond ?_ ?_|refine f_bindJ ?_ (fun _=>?_)|refine f_bindL ?_ (fun _=>?_)|refine f_bind ?_ (fun _=>?_)|refine f_letJ (fun _=>?_)
theorem Ffbg_la_eq (slf_Ffbg : ((List Int) × Int × Int × Int)→Option ((List Int))) (data_7 : List Int) (a_8 : Int) (b_9 : Int) (limit_10 : Int)  (x : Int × Int × Int × Bool × Bool × (List Int)) : Ffbg_la slf_Ffbg data_7 a_8 b_9 limit_10 x=Ffbg_la_F slf_Ffbg data_7 a_8 b_9 limit_10 (Ffbg_la slf_Ffbg data_7 a_8 b_9 limit_10) x:=fix_eq (Ffbg_la_fin slf_Ffbg data_7 a_8 b_9 limit_10) x
noncomputable def Ffbg_B (slf_Ffbg : ((List Int) × Int × Int × Int)→Option ((List Int))) (data_7 : List Int) (a_8 : Int) (b_9 : Int) (limit_10 : Int) : Option ((List Int)) :=
  bindJ (ρ:=(List Int)) (Ffbg_la slf_Ffbg data_7 a_8 b_9 limit_10 (a_8,b_9,limit_10,true,true,data_7)) fun u38 : Unit=>none
noncomputable def Ffbg_G (slf_Ffbg : ((List Int) × Int × Int × Int)→Option ((List Int))) (x : (List Int) × Int × Int × Int) : Option ((List Int)):=Ffbg_B slf_Ffbg x.1 x.2.1 x.2.2.1 x.2.2.2
noncomputable def Ffbg (data_7 : List Int) (a_8 : Int) (b_9 : Int) (limit_10 : Int) : Option ((List Int)):=fixO Ffbg_G (data_7,a_8,b_9,limit_10)
theorem Ffbg_fin : ∀ x,Fin1 fun slf_Ffbg=>Ffbg_G slf_Ffbg x:=by
  intro x
  unfold Ffbg_G Ffbg_B
  repeat first|exact f_const|exact f_self|exact f_selfL|exact f_selfR|exact f_selfLL|exact f_selfRL|exact f_selfLLL|exact f_selfRLL|refine f_cond ?_ ?_|refine f_bindJ ?_ (fun _=>?_)|refine f_bindL ?_ (fun _=>?_)|refine f_bind ?_ (fun _=>?_)|refine f_letJ (fun _=>?_)|refine f_fix (fun _=>?_) | unfold Ffbg_la | unfold Ffbg_la_F
theorem Ffbg_eq (data_7 : List Int) (a_8 : Int) (b_9 : Int) (limit_10 : Int) : Ffbg data_7 a_8 b_9 limit_10=Ffbg_B (fixO Ffbg_G) data_7 a_8 b_9 limit_10:=fix_eq Ffbg_fin (data_7,a_8,b_9,limit_10)
noncomputable def Ffu (x_3 : List Int) : Option ((List Int)) :=
  (Ffo (IntKind.u64.wrap (len x_3))).bind fun r2=>(Ffbg x_3 0 (len x_3) r2).bind fun r3=>bif Nat.beq r3.length x_3.length then (bif Nat.beq r3.length x_3.length then (some r3) else none) else none
noncomputable def Ffr_lb_F (s_2 : List Int) (x2 : Int) (self : (Int × Int × (List Int))→Option (((List Int)) ⊕ (Int × (List Int)))) (x6 : Int × Int × (List Int)) : Option (((List Int)) ⊕ (Int × (List Int))) :=
  bif (decide (x6.2.1 < (((Int.toNat (len s_2) - Int.toNat (x2)) : Nat) : Int))) then ((getP x6.2.2 (0 + Int.toNat (x2)) (Int.toNat (len s_2) - Int.toNat (x2)) x6.2.1).bind fun e7=>(getP x6.2.2 (0 + Int.toNat (x2)) (Int.toNat (len s_2) - Int.toNat (x2)) (w64 (x6.2.1 - 1))).bind fun e8=>bindL (ρ:=(List Int)) (bif (e7 != e8) then ((getP x6.2.2 (0 + Int.toNat (x2)) (Int.toNat (len s_2) - Int.toNat (x2)) x6.2.1).bind fun e10=>(getI x6.2.2 x6.1).bind fun e11=>some (.inr ((w64 (x6.1 + 1)),(setI x6.2.2 x6.1 e10)))) else (some (.inr (x6.1,x6.2.2)))) fun u9 : Int × (List Int)=>self (u9.1,(w64 (x6.2.1 + 1)),u9.2)) else (some (.inr (x6.1,x6.2.2)))
noncomputable def Ffr_lb (s_2 : List Int) (x2 : Int) : (Int × Int × (List Int))→Option (((List Int)) ⊕ (Int × (List Int))):=fixO (Ffr_lb_F s_2 x2)
theorem Ffr_lb_fin (s_2 : List Int) (x2 : Int) : ∀ a,Fin1 fun f=>Ffr_lb_F s_2 x2 f a:=by
  intro a
  unfold Ffr_lb_F
  repeat first|exact f_const|exact f_self|refine f_cond ?_ ?_|refine f_bindJ ?_ (fun _=>?_)|refine f_bindL ?_ (fun _=>?_)|refine f_bind ?_ (fun _=>?_)|refine f_letJ (fun _=>?_)
theorem Ffr_lb_eq (s_2 : List Int) (x2 : Int) (x : Int × Int × (List Int)) : Ffr_lb s_2 x2 x=Ffr_lb_F s_2 x2 (Ffr_lb s_2 x2) x:=fix_eq (Ffr_lb_fin s_2 x2) x
noncomputable def Ffr_la_F (s_2 : List Int)  (self : Int→Option (((List Int)) ⊕ ((List Int)))) (x2 : Int) : Option (((List Int)) ⊕ ((List Int))) :=
  bif (decide (x2 < (len s_2))) then ((getI s_2 x2).bind fun e3=>(getI s_2 (w64 (x2 - 1))).bind fun e4=>bif (e3 == e4) then ((subP s_2.length x2 (len s_2)).bind fun s5=>bindL (ρ:=(List Int)) (Ffr_lb s_2 x2 (x2,1,s_2)) fun u15 : Int × (List Int)=>(subP u15.2.length u15.1 (len u15.2)).bind fun s16=>(clrP u15.2 (0 + Int.toNat (u15.1)) (Int.toNat (len u15.2) - Int.toNat (u15.1)) 0).bind fun k17=>(subP k17.length 0 u15.1).bind fun s18=>(partP k17 (0 + Int.toNat (0)) (Int.toNat (u15.1) - Int.toNat (0))).bind fun p19=>some (.inl p19)) else (self (w64 (x2 + 1)))) else (some (.inr s_2))
noncomputable def Ffr_la (s_2 : List Int)  : Int→Option (((List Int)) ⊕ ((List Int))):=fixO (Ffr_la_F s_2)
theorem Ffr_la_fin (s_2 : List Int)  : ∀ a,Fin1 fun f=>Ffr_la_F s_2 f a:=by
  intro a
  unfold Ffr_la_F
  repeat first|exact f_const|exact f_self|refine f_cond ?_ ?_|refine f_bindJ ?_ (fun _=>?_)|refine f_bindL ?_ (fun _=>?_)|refine f_bind ?_ (fun _=>?_)|refine f_letJ (fun _=>?_)
theorem Ffr_la_eq (s_2 : List Int)  (x : Int) : Ffr_la s_2 x=Ffr_la_F s_2 (Ffr_la s_2) x:=fix_eq (Ffr_la_fin s_2) x
noncomputable def Ffr (s_2 : List Int) : Option ((List Int)) :=
  bif (decide ((len s_2) < 2)) then (some s_2) else (bindJ (ρ:=(List Int)) (Ffr_la s_2 1) fun u20 : (List Int)=>some u20)
noncomputable def Ffl (a_1 : List Int) (b_2 : List Int) : Option ((List Int)) :=
  (Ffq a_1).bind fun r3=>(appI 8 r3 b_2).bind fun a4=>(Ffu a4).bind fun r5=>bif Nat.beq r5.length a4.length then ((Ffr r5).bind fun r7=>some r7) else none
noncomputable def Ffg (a_1 : Calendar) (b_2 : Calendar) : Option (Calendar × Bool) :=
  (Ffl a_1.Weekend b_2.Weekend).bind fun r3=>(Ffl a_1.Holidays b_2.Holidays).bind fun r4=>(Fff a_1).bind fun r5=>bindJ (ρ:=Calendar × Bool) (bif (!r5) then (some (.inr true)) else ((Fff b_2).bind fun r7=>bindL (ρ:=Calendar × Bool) (bif (!r7) then (some (.inr true)) else ((Fff (Calendar.mk r3 r4)).bind fun r9=>some (.inr (!r9)))) fun u8 : Bool=>some (.inr u8))) fun u6 : Bool=>bif u6 then (some ((Calendar.mk [] []),false)) else (some ((Calendar.mk r3 r4),true))
noncomputable def Ffcb (l_1 : List Int) : Option ((List Int)) :=
  (appI 8 ([] : List Int) l_1).bind fun a2=>some a2
noncomputable def Ffcc_la_F (l_8 : List Int) (n_9 : Int)  (self : Int→Option (((List Int)) ⊕ (Int × Int × (List Int)))) (x3 : Int) : Option (((List Int)) ⊕ (Int × Int × (List Int))) :=
  bindL (ρ:=(List Int)) (bif (decide (x3 < (len l_8))) then ((getI l_8 x3).bind fun e5=>some (.inr (decide (e5 < n_9)))) else (some (.inr false))) fun u4 : Bool=>bif u4 then (self (w64 (x3 + 1))) else (some (.inr (n_9,x3,l_8)))
noncomputable def Ffcc_la (l_8 : List Int) (n_9 : Int)  : Int→Option (((List Int)) ⊕ (Int × Int × (List Int))):=fixO (Ffcc_la_F l_8 n_9)
theorem Ffcc_la_fin (l_8 : List Int) (n_9 : Int)  : ∀ a,Fin1 fun f=>Ffcc_la_F l_8 n_9 f a:=by
  intro a
  unfold Ffcc_la_F
  repeat first|exact f_const|exact f_self|refine f_cond ?_ ?_|refine f_bindJ ?_ (fun _=>?_)|refine f_bindL ?_ (fun _=>?_)|refine f_bind ?_ (fun _=>?_)|refine f_letJ (fun _=>?_)
theorem Ffcc_la_eq (l_8 : List Int) (n_9 : Int)  (x : Int) : Ffcc_la l_8 n_9 x=Ffcc_la_F l_8 n_9 (Ffcc_la l_8 n_9) x:=fix_eq (Ffcc_la_fin l_8 n_9) x
noncomputable def Ffcc (l_8 : List Int) (n_9 : Int) : Option ((List Int)) :=
  bindJ (ρ:=(List Int)) (Ffcc_la l_8 n_9 0) fun u6 : Int × Int × (List Int)=>bindJ (ρ:=(List Int)) (bif (decide (u6.2.1 < (len u6.2.2))) then ((getI u6.2.2 u6.2.1).bind fun e15=>some (.inr (e15 == u6.1))) else (some (.inr false))) fun u7 : Bool=>bif u7 then (some u6.2.2) else ((subP u6.2.2.length 0 u6.2.1).bind fun s8=>(partP u6.2.2 (0 + Int.toNat (0)) (Int.toNat (u6.2.1) - Int.toNat (0))).bind fun p9=>(appI 8 ([] : List Int) p9).bind fun a10=>(appI 8 a10 [u6.1]).bind fun a11=>(subP u6.2.2.length u6.2.1 (len u6.2.2)).bind fun s12=>(partP u6.2.2 (0 + Int.toNat (u6.2.1)) (Int.toNat (len u6.2.2) - Int.toNat (u6.2.1))).bind fun p13=>(appI 8 a11 p13).bind fun a14=>some a14)
noncomputable def Ffcm_la_F (a_1 : List Int) (b_2 : List Int)  (self : (Int × (List Int))→Option (((List Int)) ⊕ ((List Int)))) (x4 : Int × (List Int)) : Option (((List Int)) ⊕ ((List Int))) :=
  bif (decide (x4.1 < (len b_2))) then ((getI b_2 x4.1).bind fun e5=>(Ffcc x4.2 e5).bind fun r6=>self ((w64 (x4.1 + 1)),r6)) else (some (.inr x4.2))
noncomputable def Ffcm_la (a_1 : List Int) (b_2 : List Int)  : (Int × (List Int))→Option (((List Int)) ⊕ ((List Int))):=fixO (Ffcm_la_F a_1 b_2)
theorem Ffcm_la_fin (a_1 : List Int) (b_2 : List Int)  : ∀ a,Fin1 fun f=>Ffcm_la_F a_1 b_2 f a:=by
  intro a
  unfold Ffcm_la_F
  repeat first|exact f_const|exact f_self|refine f_cond ?_ ?_|refine f_bindJ ?_ (fun _=>?_)|refine f_bindL ?_ (fun _=>?_)|refine f_bind ?_ (fun _=>?_)|refine f_letJ (fun _=>?_)
theorem Ffcm_la_eq (a_1 : List Int) (b_2 : List Int)  (x : Int × (List Int)) : Ffcm_la a_1 b_2 x=Ffcm_la_F a_1 b_2 (Ffcm_la a_1 b_2) x:=fix_eq (Ffcm_la_fin a_1 b_2) x
noncomputable def Ffcm (a_1 : List Int) (b_2 : List Int) : Option ((List Int)) :=
  (Ffcb a_1).bind fun r3=>bindJ (ρ:=(List Int)) (Ffcm_la a_1 b_2 (0,r3)) fun u7 : (List Int)=>some u7
noncomputable def Ffbo (a_1 : Calendar) (b_2 : Calendar) : Option (Calendar × Bool) :=
  (Ffcj a_1).bind fun r3=>bindJ (ρ:=Calendar × Bool) (bif (!r3) then (some (.inr true)) else ((Ffcj b_2).bind fun r8=>some (.inr (!r8)))) fun u4 : Bool=>bif u4 then (some ((Calendar.mk [] []),false)) else ((Ffcm a_1.Weekend b_2.Weekend).bind fun r5=>(Ffcm a_1.Holidays b_2.Holidays).bind fun r6=>(Ffcj (Calendar.mk r5 r6)).bind fun r7=>bif (!r7) then (some ((Calendar.mk [] []),false)) else (some ((Calendar.mk r5 r6),true)))
noncomputable def Ffe (c_1 : Calendar) (day_2 : Int) : Option (Bool × Bool) :=
  (Fff c_1).bind fun r3=>bindJ (ρ:=Bool × Bool) (bif (!r3) then (some (.inr true)) else ((Ffi day_2).bind fun r6=>some (.inr (!r6)))) fun u4 : Bool=>bif u4 then (some (false,false)) else ((Ffh c_1 day_2).bind fun r5=>some (r5,true))
noncomputable def laws_FnBusinessDays_la_F (code_1 : List Int) (r3 : Calendar × Int × Int) (r9 : Calendar × Calendar) (r10 : Calendar × Bool) (self : Int→Option (Bool ⊕ Unit)) (x13 : Int) : Option (Bool ⊕ Unit) :=
  bif (decide (x13 < (w64 (r3.2.1 + 4)))) then ((Ffe r9.1 x13).bind fun r14=>(Ffe r9.2 x13).bind fun r15=>(Ffe r10.1 x13).bind fun r16=>letJ (bif (!(r14.2 == r16.2)) then (true) else (letJ (bif (!(r15.2 == r16.2)) then (true) else (letJ (bif r14.1 then ((!(r16.1 == r15.1))) else ((!(r16.1 == false)))) fun u19 : Bool=>u19)) fun u18 : Bool=>u18)) fun u17 : Bool=>bif u17 then (some (.inl false)) else (self (w64 (x13 + 1)))) else (some (.inr ()))
noncomputable def laws_FnBusinessDays_la (code_1 : List Int) (r3 : Calendar × Int × Int) (r9 : Calendar × Calendar) (r10 : Calendar × Bool) : Int→Option (Bool ⊕ Unit):=fixO (laws_FnBusinessDays_la_F code_1 r3 r9 r10)
theorem laws_FnBusinessDays_la_fin (code_1 : List Int) (r3 : Calendar × Int × Int) (r9 : Calendar × Calendar) (r10 : Calendar × Bool) : ∀ a,Fin1 fun f=>laws_FnBusinessDays_la_F code_1 r3 r9 r10 f a:=by
  intro a
  unfold laws_FnBusinessDays_la_F
  repeat first|exact f_const|exact f_self|refine f_cond ?_ ?_|refine f_bindJ ?_ (fun _=>?_)|refine f_bindL ?_ (fun _=>?_)|refine f_bind ?_ (fun _=>?_)|refine f_letJ (fun _=>?_)
theorem laws_FnBusinessDays_la_eq (code_1 : List Int) (r3 : Calendar × Int × Int) (r9 : Calendar × Calendar) (r10 : Calendar × Bool) (x : Int) : laws_FnBusinessDays_la code_1 r3 r9 r10 x=laws_FnBusinessDays_la_F code_1 r3 r9 r10 (laws_FnBusinessDays_la code_1 r3 r9 r10) x:=fix_eq (laws_FnBusinessDays_la_fin code_1 r3 r9 r10) x
noncomputable def laws_FnBusinessDays (code_1 : List Int) : Option Bool :=
  (laws_vBig code_1).bind fun r2=>bif r2 then (some true) else ((Ffbl code_1).bind fun r3=>(Ffc r3.1 r3.2.1 r3.2.2).bind fun r4=>(Ffbk r3.1 r3.2.1 r3.2.2).bind fun r5=>letJ (bif (r4.1 != r5.1) then (true) else ((!(r4.2 == r5.2)))) fun u6 : Bool=>bif u6 then (some false) else (letJ (bif r4.2 then (letJ (bif (decide (r3.2.2 > 0)) then ((decide (r4.1 < 36524))) else (false)) fun u23 : Bool=>u23) else (false)) fun u7 : Bool=>bindJ (ρ:=Bool) (bif u7 then ((Ffd r3.1 (w64 (r3.2.1 + 1)) (w64 (r4.1 + 1))).bind fun r21=>letJ (bif (!r21.2) then (true) else ((r21.1 != r3.2.2))) fun u22 : Bool=>bif u22 then (some (.inl false)) else (some (.inr ()))) else (some (.inr ()))) fun u8 : Unit=>(Ffbn code_1).bind fun r9=>(Ffg r9.1 r9.2).bind fun r10=>(Ffbo r9.1 r9.2).bind fun r11=>letJ (bif (!(r10.2 == r11.2)) then (true) else ((!r10.2))) fun u12 : Bool=>bif u12 then (some (r10.2 == r11.2)) else (bindJ (ρ:=Bool) (laws_FnBusinessDays_la code_1 r3 r9 r10 (w64 (r3.2.1 - 3))) fun u20 : Unit=>some true)))
end Go.Ln
