/-
  What each function of the law computes, as a plain function.
-/
import Derived.Test.YtlgahmmileaohaaLnD
set_option maxHeartbeats 4000000
set_option linter.unusedVariables false
set_option linter.unusedSimpArgs false
set_option maxRecDepth 100000
namespace Go.Ln
open Go
structure l1Cur where
  f_code : List Int
  f_at : Int
  f_seed : Int
def encI_l1Cur (x : l1Cur) : V:=.agg [.isl false ((x.f_code).map (V.int .u8)),I (x.f_at),.int .u64 (x.f_seed)]
theorem encI_l1Cur_cells (x : l1Cur) : (cells (encI_l1Cur x)).length=3 ∧ (cells (encI_l1Cur x)).all cellV=true:=⟨rfl,rfl⟩
theorem encI_l1Cur_imm (x : l1Cur) : imm (encI_l1Cur x)=encI_l1Cur x:=rfl
theorem encI_l1Cur_inj (a b : l1Cur) (h : encI_l1Cur a=encI_l1Cur b) : a=b:=by
  obtain ⟨p0,p1,p2⟩:=a
  obtain ⟨q0,q1,q2⟩:=b
  replace h:=V.agg.inj h
  obtain ⟨h0,h⟩:=List.cons.inj h
  obtain rfl:=(isl_inj (vint_inj (k:=.u8))) p0 q0 h0
  obtain ⟨h1,h⟩:=List.cons.inj h
  obtain rfl:=I_inj p1 q1 h1
  obtain ⟨h2,h⟩:=List.cons.inj h
  obtain rfl:=(vint_inj (k:=.u64)) p2 q2 h2
  rfl
def encO_l1Cur (x : l1Cur) : V:=.agg [.isl false ((x.f_code).map (V.int .u8)),I (x.f_at),.int .u64 (x.f_seed)]
theorem encO_l1Cur_cells (x : l1Cur) : (cells (encO_l1Cur x)).length=3 ∧ (cells (encO_l1Cur x)).all cellV=true:=⟨rfl,rfl⟩
theorem encO_l1Cur_imm (x : l1Cur) : imm (encO_l1Cur x)=encI_l1Cur x:=rfl
theorem encO_l1Cur_inj (a b : l1Cur) (h : encO_l1Cur a=encO_l1Cur b) : a=b:=by
  obtain ⟨p0,p1,p2⟩:=a
  obtain ⟨q0,q1,q2⟩:=b
  replace h:=V.agg.inj h
  obtain ⟨h0,h⟩:=List.cons.inj h
  obtain rfl:=(isl_inj (vint_inj (k:=.u8))) p0 q0 h0
  obtain ⟨h1,h⟩:=List.cons.inj h
  obtain rfl:=I_inj p1 q1 h1
  obtain ⟨h2,h⟩:=List.cons.inj h
  obtain rfl:=(vint_inj (k:=.u64)) p2 q2 h2
  rfl
structure Date where
  Year : Int
  Month : Int
  Day : Int
def enc_Date (x : Date) : V:=.agg [I (x.Year),I (x.Month),I (x.Day)]
theorem enc_Date_cells (x : Date) : (cells (enc_Date x)).length=3 ∧ (cells (enc_Date x)).all cellV=true:=⟨rfl,rfl⟩
theorem enc_Date_imm (x : Date) : imm (enc_Date x)=enc_Date x:=rfl
theorem enc_Date_himm (x : Date) : hasImm (enc_Date x)=false:=rfl
theorem enc_Date_flat (x : Date) : flatE (enc_Date x)=true:=rfl
theorem enc_Date_inj (a b : Date) (h : enc_Date a=enc_Date b) : a=b:=by
  obtain ⟨p0,p1,p2⟩:=a
  obtain ⟨q0,q1,q2⟩:=b
  replace h:=V.agg.inj h
  obtain ⟨h0,h⟩:=List.cons.inj h
  obtain rfl:=I_inj p0 q0 h0
  obtain ⟨h1,h⟩:=List.cons.inj h
  obtain rfl:=I_inj p1 q1 h1
  obtain ⟨h2,h⟩:=List.cons.inj h
  obtain rfl:=I_inj p2 q2 h2
  rfl
structure Fraction where
  Num : Int
  Den : Int
def enc_Fraction (x : Fraction) : V:=.agg [I (x.Num),I (x.Den)]
theorem enc_Fraction_cells (x : Fraction) : (cells (enc_Fraction x)).length=2 ∧ (cells (enc_Fraction x)).all cellV=true:=⟨rfl,rfl⟩
theorem enc_Fraction_imm (x : Fraction) : imm (enc_Fraction x)=enc_Fraction x:=rfl
theorem enc_Fraction_himm (x : Fraction) : hasImm (enc_Fraction x)=false:=rfl
theorem enc_Fraction_flat (x : Fraction) : flatE (enc_Fraction x)=true:=rfl
theorem enc_Fraction_inj (a b : Fraction) (h : enc_Fraction a=enc_Fraction b) : a=b:=by
  obtain ⟨p0,p1⟩:=a
  obtain ⟨q0,q1⟩:=b
  replace h:=V.agg.inj h
  obtain ⟨h0,h⟩:=List.cons.inj h
  obtain rfl:=I_inj p0 q0 h0
  obtain ⟨h1,h⟩:=List.cons.inj h
  obtain rfl:=I_inj p1 q1 h1
  rfl
structure Calendar where
  Weekend : List Int
  Holidays : List Int
def encI_Calendar (x : Calendar) : V:=.agg [.isl false ((x.Weekend).map I),.isl false ((x.Holidays).map I)]
theorem encI_Calendar_cells (x : Calendar) : (cells (encI_Calendar x)).length=2 ∧ (cells (encI_Calendar x)).all cellV=true:=⟨rfl,rfl⟩
theorem encI_Calendar_imm (x : Calendar) : imm (encI_Calendar x)=encI_Calendar x:=rfl
theorem encI_Calendar_inj (a b : Calendar) (h : encI_Calendar a=encI_Calendar b) : a=b:=by
  obtain ⟨p0,p1⟩:=a
  obtain ⟨q0,q1⟩:=b
  replace h:=V.agg.inj h
  obtain ⟨h0,h⟩:=List.cons.inj h
  obtain rfl:=(isl_inj I_inj) p0 q0 h0
  obtain ⟨h1,h⟩:=List.cons.inj h
  obtain rfl:=(isl_inj I_inj) p1 q1 h1
  rfl
def encO_Calendar (x : Calendar) : V:=.agg [.usl 1 ((x.Weekend).map I),.usl 1 ((x.Holidays).map I)]
theorem encO_Calendar_cells (x : Calendar) : (cells (encO_Calendar x)).length=2 ∧ (cells (encO_Calendar x)).all cellV=true:=⟨rfl,rfl⟩
theorem encO_Calendar_imm (x : Calendar) : imm (encO_Calendar x)=encI_Calendar x:=imm_a (imms_c (imm_u (imms_of I_imm)) (imms_c (imm_u (imms_of I_imm)) (rfl)))
theorem encO_Calendar_himm (x : Calendar) : hasImm (encO_Calendar x)=false:=by simp [encO_Calendar,hasImm,hasImms,str,himm_map (f:=I) I_himm]
theorem encO_Calendar_inj (a b : Calendar) (h : encO_Calendar a=encO_Calendar b) : a=b:=by
  obtain ⟨p0,p1⟩:=a
  obtain ⟨q0,q1⟩:=b
  replace h:=V.agg.inj h
  obtain ⟨h0,h⟩:=List.cons.inj h
  obtain rfl:=(usl_inj I_inj) p0 q0 h0
  obtain ⟨h1,h⟩:=List.cons.inj h
  obtain rfl:=(usl_inj I_inj) p1 q1 h1
  rfl

noncomputable def laws_vBig (code_1 : List Int) : Option Bool :=
  some (decide ((len code_1) > 65536))
noncomputable def Ffbk (c_3 : l1Cur) : Option (Int × l1Cur) :=
  bindJ (ρ:=Int × l1Cur) (bif (decide (c_3.f_at < (len c_3.f_code))) then ((getI c_3.f_code c_3.f_at).bind fun e3=>some (.inr (IntKind.i64.wrap e3))) else (some (.inr 0))) fun u2 : Int=>bif (decide ((w64 (c_3.f_at + 1)) ≤ (len c_3.f_code))) then (some (u2,(l1Cur.mk c_3.f_code (w64 (c_3.f_at + 1)) (IntKind.u64.wrap ((IntKind.u64.wrap ((IntKind.u64.wrap (c_3.f_seed * 6364136223846793005)) + (IntKind.u64.wrap u2))) + 902902))))) else (some ((IntKind.i64.wrap (andI .u64 (shrI .u64 (IntKind.u64.wrap ((IntKind.u64.wrap ((IntKind.u64.wrap (c_3.f_seed * 6364136223846793005)) + (IntKind.u64.wrap u2))) + 902902)) 40) 255)),(l1Cur.mk c_3.f_code (w64 (c_3.f_at + 1)) (IntKind.u64.wrap ((IntKind.u64.wrap ((IntKind.u64.wrap (c_3.f_seed * 6364136223846793005)) + (IntKind.u64.wrap u2))) + 902902)))))
noncomputable def Ffbm (c_3 : l1Cur) (n_4 : Int) : Option (Int × l1Cur) :=
  bif (decide (n_4 ≤ 1)) then (some (0,c_3)) else ((Ffbk c_3).bind fun r3=>bindJ (ρ:=Int × l1Cur) (bif (decide (n_4 > 200)) then ((Ffbk r3.2).bind fun r6=>some (.inr ((w64 ((w64 (r3.1 * 256)) + r6.1)),r6.2.f_code,r6.2.f_at,r6.2.f_seed))) else (some (.inr (r3.1,r3.2.f_code,r3.2.f_at,r3.2.f_seed)))) fun u4 : Int × (List Int) × Int × Int=>(remI u4.1 n_4).bind fun q5=>some (q5,(l1Cur.mk u4.2.1 u4.2.2.1 u4.2.2.2)))
noncomputable def Ffbe (c_3 : l1Cur) (list_4 : List Int) : Option (Int × l1Cur) :=
  (Ffbm c_3 (len list_4)).bind fun r3=>(getI list_4 r3.1).bind fun e4=>some (e4,r3.2)
noncomputable def Ffbi (c_2 : l1Cur) : Option (Int × l1Cur) :=
  (Ffbm c_2 6).bind fun r2=>bif (r2.1 == 0) then ((Ffbe r2.2 [0,59,60,365,366,424,425,36524,36523,30,31]).bind fun r3=>some (r3.1,r3.2)) else (bif (r2.1 == 1) then ((Ffbm r2.2 36525).bind fun r4=>some (r4.1,r4.2)) else ((Ffbm r2.2 1500).bind fun r5=>some (r5.1,r5.2)))
noncomputable def Ffbl (c_3 : l1Cur) (n_4 : Int) : Option (Bool × l1Cur) :=
  (Ffbm c_3 n_4).bind fun r3=>some ((r3.1 == 0),r3.2)
noncomputable def Ffbz (year_1 : Int) (month_2 : Int) : Option Int :=
  letJ (bif (month_2 == 4) then ((month_2 == 4)) else (letJ (bif (month_2 == 6) then ((month_2 == 6)) else (letJ (bif (month_2 == 9) then ((month_2 == 9)) else ((month_2 == 11))) fun u5 : Bool=>u5)) fun u4 : Bool=>u4)) fun u3 : Bool=>bif u3 then (some 30) else (bif (month_2 == 2) then (bif ((year_1.tmod 4) == 0) then (some 29) else (some 28)) else (some 31))
noncomputable def Ffbx_la_F (d_1 : Date)  (self : (Int × Int)→Option (Int ⊕ Int)) (x2 : Int × Int) : Option (Int ⊕ Int) :=
  bif (decide (x2.2 < d_1.Month)) then ((Ffbz d_1.Year x2.2).bind fun r3=>self ((w64 (x2.1 + r3)),(w64 (x2.2 + 1)))) else (some (.inr x2.1))
noncomputable def Ffbx_la (d_1 : Date)  : (Int × Int)→Option (Int ⊕ Int):=fixO (Ffbx_la_F d_1)
theorem Ffbx_la_fin (d_1 : Date)  : ∀ a,Fin1 fun f=>Ffbx_la_F d_1 f a:=by
  intro a
  unfold Ffbx_la_F
  repeat first|exact f_const|exact f_self|refine f_cond ?_ ?_|refine f_bindJ ?_ (fun _=>?_)|refine f_bindL ?_ (fun _=>?_)|refine f_bind ?_ (fun _=>?_)|refine f_letJ (fun _=>?_)
theorem Ffbx_la_eq (d_1 : Date)  (x : Int × Int) : Ffbx_la d_1 x=Ffbx_la_F d_1 (Ffbx_la d_1) x:=fix_eq (Ffbx_la_fin d_1) x
noncomputable def Ffbx (d_1 : Date) : Option Int :=
  bindJ (ρ:=Int) (Ffbx_la d_1 ((w64 ((w64 (365 * (w64 (d_1.Year - 2000)))) + (w64 ((w64 ((w64 (d_1.Year - 2000)) + 3)).tdiv 4)))),1)) fun u4 : Int=>some (w64 ((w64 (u4 + d_1.Day)) - 1))
noncomputable def Ffbw_la_F (day_1 : Int)  (self : Int→Option (Date ⊕ Int)) (x2 : Int) : Option (Date ⊕ Int) :=
  bindL (ρ:=Date) (bif (decide (x2 < 2099)) then ((Ffbx (Date.mk (w64 (x2 + 1)) 1 1)).bind fun r4=>some (.inr (decide (r4 ≤ day_1)))) else (some (.inr false))) fun u3 : Bool=>bif u3 then (self (w64 (x2 + 1))) else (some (.inr x2))
noncomputable def Ffbw_la (day_1 : Int)  : Int→Option (Date ⊕ Int):=fixO (Ffbw_la_F day_1)
theorem Ffbw_la_fin (day_1 : Int)  : ∀ a,Fin1 fun f=>Ffbw_la_F day_1 f a:=by
  intro a
  unfold Ffbw_la_F
  repeat first|exact f_const|exact f_self|refine f_cond ?_ ?_|refine f_bindJ ?_ (fun _=>?_)|refine f_bindL ?_ (fun _=>?_)|refine f_bind ?_ (fun _=>?_)|refine f_letJ (fun _=>?_)
theorem Ffbw_la_eq (day_1 : Int)  (x : Int) : Ffbw_la day_1 x=Ffbw_la_F day_1 (Ffbw_la day_1) x:=fix_eq (Ffbw_la_fin day_1) x
noncomputable def Ffbw_lb_F (day_1 : Int) (u5 : Int) (self : Int→Option (Date ⊕ Int)) (x6 : Int) : Option (Date ⊕ Int) :=
  bindL (ρ:=Date) (bif (decide (x6 < 12)) then ((Ffbx (Date.mk u5 (w64 (x6 + 1)) 1)).bind fun r8=>some (.inr (decide (r8 ≤ day_1)))) else (some (.inr false))) fun u7 : Bool=>bif u7 then (self (w64 (x6 + 1))) else (some (.inr x6))
noncomputable def Ffbw_lb (day_1 : Int) (u5 : Int) : Int→Option (Date ⊕ Int):=fixO (Ffbw_lb_F day_1 u5)
theorem Ffbw_lb_fin (day_1 : Int) (u5 : Int) : ∀ a,Fin1 fun f=>Ffbw_lb_F day_1 u5 f a:=by
  intro a
  unfold Ffbw_lb_F
  repeat first|exact f_const|exact f_self|refine f_cond ?_ ?_|refine f_bindJ ?_ (fun _=>?_)|refine f_bindL ?_ (fun _=>?_)|refine f_bind ?_ (fun _=>?_)|refine f_letJ (fun _=>?_)
theorem Ffbw_lb_eq (day_1 : Int) (u5 : Int) (x : Int) : Ffbw_lb day_1 u5 x=Ffbw_lb_F day_1 u5 (Ffbw_lb day_1 u5) x:=fix_eq (Ffbw_lb_fin day_1 u5) x
noncomputable def Ffbw (day_1 : Int) : Option Date :=
  bindJ (ρ:=Date) (Ffbw_la day_1 2000) fun u5 : Int=>bindJ (ρ:=Date) (Ffbw_lb day_1 u5 1) fun u9 : Int=>(Ffbx (Date.mk u5 u9 1)).bind fun r10=>some (Date.mk u5 u9 (w64 ((w64 (day_1 - r10)) + 1)))
noncomputable def Ffbj (c_2 : l1Cur) : Option (Int × l1Cur) :=
  (Ffbi c_2).bind fun r2=>(Ffbl r2.2 3).bind fun r3=>bindJ (ρ:=Int × l1Cur) (bif r3.1 then ((Ffbw r2.1).bind fun r5=>(Ffbz r5.Year r5.Month).bind fun r6=>(Ffbm r3.2 3).bind fun r7=>(Ffbx (Date.mk r5.Year r5.Month (w64 (r6 - r7.1)))).bind fun r8=>some (.inr (r8,r7.2.f_code,r7.2.f_at,r7.2.f_seed))) else (some (.inr (r2.1,r3.2.f_code,r3.2.f_at,r3.2.f_seed)))) fun u4 : Int × (List Int) × Int × Int=>some (u4.1,(l1Cur.mk u4.2.1 u4.2.2.1 u4.2.2.2))
noncomputable def Ffbg (c_2 : l1Cur) : Option (Int × l1Cur) :=
  (Ffbl c_2 16).bind fun r2=>bif r2.1 then ((Ffbe r2.2 [(-1),36524,36525,1099511627776]).bind fun r3=>some (r3.1,r3.2)) else ((Ffbi r2.2).bind fun r4=>some (r4.1,r4.2))
noncomputable def Ffz (code_1 : List Int) : Option (Int × Int × Int) :=
  (Ffbj (l1Cur.mk code_1 0 0)).bind fun r2=>(Ffbe r2.2 [0,1,28,30,31,59,90,181,365,366,900,(-1)]).bind fun r3=>(Ffbl r3.2 4).bind fun r4=>bindJ (ρ:=Int × Int × Int) (bif r4.1 then ((Ffbj r4.2).bind fun r10=>some (.inr (r10.1,r10.2.f_code,r10.2.f_at,r10.2.f_seed))) else (some (.inr ((w64 (r2.1 + r3.1)),r4.2.f_code,r4.2.f_at,r4.2.f_seed)))) fun u5 : Int × (List Int) × Int × Int=>(Ffbl (l1Cur.mk u5.2.1 u5.2.2.1 u5.2.2.2) 30).bind fun r6=>bindJ (ρ:=Int × Int × Int) (bif r6.1 then ((Ffbg r6.2).bind fun r9=>some (.inr (r9.1,r9.2.f_code,r9.2.f_at,r9.2.f_seed))) else (some (.inr (u5.1,r6.2.f_code,r6.2.f_at,r6.2.f_seed)))) fun u7 : Int × (List Int) × Int × Int=>(Ffbe (l1Cur.mk u7.2.1 u7.2.2.1 u7.2.2.2) [1,2,3,4,1,2,3,4,0,5]).bind fun r8=>some (r2.1,u7.1,r8.1)
noncomputable def Fft (n_1 : Int) (low_2 : Int) (high_3 : Int) : Option Bool :=
  letJ (bif (decide (n_1 ≥ low_2)) then ((decide (n_1 ≤ high_3))) else (false)) fun u4 : Bool=>some u4
noncomputable def Ffn (day_1 : Int) : Option Bool :=
  (Fft day_1 0 36524).bind fun r2=>some r2
noncomputable def impl_size (n_1 : Int) : Option Int :=
  some (if (w64 (0 - n_1)) > n_1 then (w64 (0 - n_1)) else n_1)
noncomputable def Ffj_la_F (a_1 : Int) (b_2 : Int)  (self : (Int × Int)→Option (Int ⊕ Int)) (x3 : Int × Int) : Option (Int ⊕ Int) :=
  bif (x3.2 != 0) then ((remI x3.1 x3.2).bind fun q4=>self (x3.2,q4)) else (some (.inr x3.1))
noncomputable def Ffj_la (a_1 : Int) (b_2 : Int)  : (Int × Int)→Option (Int ⊕ Int):=fixO (Ffj_la_F a_1 b_2)
theorem Ffj_la_fin (a_1 : Int) (b_2 : Int)  : ∀ a,Fin1 fun f=>Ffj_la_F a_1 b_2 f a:=by
  intro a
  unfold Ffj_la_F
  repeat first|exact f_const|exact f_self|refine f_cond ?_ ?_|refine f_bindJ ?_ (fun _=>?_)|refine f_bindL ?_ (fun _=>?_)|refine f_bind ?_ (fun _=>?_)|refine f_letJ (fun _=>?_)
theorem Ffj_la_eq (a_1 : Int) (b_2 : Int)  (x : Int × Int) : Ffj_la a_1 b_2 x=Ffj_la_F a_1 b_2 (Ffj_la a_1 b_2) x:=fix_eq (Ffj_la_fin a_1 b_2) x
noncomputable def Ffj (a_1 : Int) (b_2 : Int) : Option Int :=
  bindJ (ρ:=Int) (Ffj_la a_1 b_2 (a_1,b_2)) fun u5 : Int=>(impl_size u5).bind fun r6=>some r6
noncomputable def Ffl (x_1 : Int) : Option Bool :=
  (Fft x_1 (-1000000000) 1000000000).bind fun r2=>some r2
noncomputable def Ffo (f_1 : Fraction) : Option Bool :=
  (Fft f_1.Den 1 1000000000).bind fun r2=>bindJ (ρ:=Bool) (bif r2 then ((Ffl f_1.Num).bind fun r4=>bindL (ρ:=Bool) (bif r4 then ((Ffj f_1.Num f_1.Den).bind fun r6=>some (.inr (r6 == 1))) else (some (.inr false))) fun u5 : Bool=>some (.inr u5)) else (some (.inr false))) fun u3 : Bool=>some u3
noncomputable def Ffk (num_1 : Int) (den_2 : Int) : Option (Fraction × Bool) :=
  (Ffj num_1 den_2).bind fun r3=>letJ (bif (decide (den_2 < 0)) then ((w64 (0 - r3))) else (r3)) fun u4 : Int=>(quoI .i64 num_1 u4).bind fun q5=>(quoI .i64 den_2 u4).bind fun q6=>(Ffo (Fraction.mk q5 q6)).bind fun r7=>bif (!r7) then (some ((Fraction.mk 0 0),false)) else (some ((Fraction.mk q5 q6),true))
noncomputable def Ffh (year_1 : Int) (month_2 : Int) : Option Int :=
  bif (month_2 == 2) then (bif ((year_1.tmod 4) == 0) then (some 29) else (some 28)) else (letJ (bif (month_2 == 4) then ((month_2 == 4)) else (letJ (bif (month_2 == 6) then ((month_2 == 6)) else (letJ (bif (month_2 == 9) then ((month_2 == 9)) else ((month_2 == 11))) fun u5 : Bool=>u5)) fun u4 : Bool=>u4)) fun u3 : Bool=>bif u3 then (some 30) else (some 31))
noncomputable def Ffi (year_1 : Int) : Option Int :=
  (Ffh year_1 2).bind fun r2=>some (w64 (337 + r2))
noncomputable def Ffe_la_F (day_1 : Int)  (self : (Int × Int)→Option (Date ⊕ (Int × Int))) (x2 : Int × Int) : Option (Date ⊕ (Int × Int)) :=
  (Ffi x2.2).bind fun r3=>bif (decide (x2.1 ≥ r3)) then ((Ffi x2.2).bind fun r4=>self ((w64 (x2.1 - r4)),(w64 (x2.2 + 1)))) else (some (.inr (x2.1,x2.2)))
noncomputable def Ffe_la (day_1 : Int)  : (Int × Int)→Option (Date ⊕ (Int × Int)):=fixO (Ffe_la_F day_1)
theorem Ffe_la_fin (day_1 : Int)  : ∀ a,Fin1 fun f=>Ffe_la_F day_1 f a:=by
  intro a
  unfold Ffe_la_F
  repeat first|exact f_const|exact f_self|refine f_cond ?_ ?_|refine f_bindJ ?_ (fun _=>?_)|refine f_bindL ?_ (fun _=>?_)|refine f_bind ?_ (fun _=>?_)|refine f_letJ (fun _=>?_)
theorem Ffe_la_eq (day_1 : Int)  (x : Int × Int) : Ffe_la day_1 x=Ffe_la_F day_1 (Ffe_la day_1) x:=fix_eq (Ffe_la_fin day_1) x
noncomputable def Ffe_lb_F (day_1 : Int) (u5 : Int × Int) (self : (Int × Int)→Option (Date ⊕ (Int × Int))) (x6 : Int × Int) : Option (Date ⊕ (Int × Int)) :=
  (Ffh u5.2 x6.2).bind fun r7=>bif (decide (x6.1 ≥ r7)) then ((Ffh u5.2 x6.2).bind fun r8=>self ((w64 (x6.1 - r8)),(w64 (x6.2 + 1)))) else (some (.inr (x6.1,x6.2)))
noncomputable def Ffe_lb (day_1 : Int) (u5 : Int × Int) : (Int × Int)→Option (Date ⊕ (Int × Int)):=fixO (Ffe_lb_F day_1 u5)
theorem Ffe_lb_fin (day_1 : Int) (u5 : Int × Int) : ∀ a,Fin1 fun f=>Ffe_lb_F day_1 u5 f a:=by
  intro a
  unfold Ffe_lb_F
  repeat first|exact f_const|exact f_self|refine f_cond ?_ ?_|refine f_bindJ ?_ (fun _=>?_)|refine f_bindL ?_ (fun _=>?_)|refine f_bind ?_ (fun _=>?_)|refine f_letJ (fun _=>?_)
theorem Ffe_lb_eq (day_1 : Int) (u5 : Int × Int) (x : Int × Int) : Ffe_lb day_1 u5 x=Ffe_lb_F day_1 u5 (Ffe_lb day_1 u5) x:=fix_eq (Ffe_lb_fin day_1 u5) x
noncomputable def Ffe (day_1 : Int) : Option Date :=
  bindJ (ρ:=Date) (Ffe_la day_1 (day_1,2000)) fun u5 : Int × Int=>bindJ (ρ:=Date) (Ffe_lb day_1 u5 (u5.1,1)) fun u9 : Int × Int=>some (Date.mk u5.2 u9.2 (w64 (u9.1 + 1)))
noncomputable def Fff_la_F (from_1 : Int) (to_2 : Int) (convention_3 : Int)  (self : (Int × Int)→Option ((Fraction × Bool) ⊕ Int)) (x9 : Int × Int) : Option ((Fraction × Bool) ⊕ Int) :=
  bif (decide (x9.2 < to_2)) then ((Ffe x9.2).bind fun r10=>letJ (bif ((r10.Year.tmod 4) == 0) then ((w64 (x9.1 + 365))) else ((w64 (x9.1 + 366)))) fun u11 : Int=>self (u11,(w64 (x9.2 + 1)))) else (some (.inr x9.1))
noncomputable def Fff_la (from_1 : Int) (to_2 : Int) (convention_3 : Int)  : (Int × Int)→Option ((Fraction × Bool) ⊕ Int):=fixO (Fff_la_F from_1 to_2 convention_3)
theorem Fff_la_fin (from_1 : Int) (to_2 : Int) (convention_3 : Int)  : ∀ a,Fin1 fun f=>Fff_la_F from_1 to_2 convention_3 f a:=by
  intro a
  unfold Fff_la_F
  repeat first|exact f_const|exact f_self|refine f_cond ?_ ?_|refine f_bindJ ?_ (fun _=>?_)|refine f_bindL ?_ (fun _=>?_)|refine f_bind ?_ (fun _=>?_)|refine f_letJ (fun _=>?_)
theorem Fff_la_eq (from_1 : Int) (to_2 : Int) (convention_3 : Int)  (x : Int × Int) : Fff_la from_1 to_2 convention_3 x=Fff_la_F from_1 to_2 convention_3 (Fff_la from_1 to_2 convention_3) x:=fix_eq (Fff_la_fin from_1 to_2 convention_3) x
noncomputable def Fff (from_1 : Int) (to_2 : Int) (convention_3 : Int) : Option (Fraction × Bool) :=
  bif (convention_3 == 1) then ((Ffk (w64 (to_2 - from_1)) 360).bind fun r4=>some (r4.1,r4.2)) else (bif (convention_3 == 2) then ((Ffk (w64 (to_2 - from_1)) 365).bind fun r5=>some (r5.1,r5.2)) else (bif (convention_3 == 3) then ((Ffe from_1).bind fun r6=>(Ffe to_2).bind fun r7=>(Ffk (w64 ((w64 ((w64 ((w64 (360 * (w64 (r7.Year - r6.Year)))) + (w64 (30 * (w64 (r7.Month - r6.Month)))))) + (if 30 < r7.Day then 30 else r7.Day))) - (if 30 < r6.Day then 30 else r6.Day))) 360).bind fun r8=>some (r8.1,r8.2)) else (bindJ (ρ:=Fraction × Bool) (Fff_la from_1 to_2 convention_3 (0,from_1)) fun u12 : Int=>(Ffk u12 133590).bind fun r13=>some (r13.1,r13.2))))
noncomputable def Ffb (from_1 : Int) (to_2 : Int) (convention_3 : Int) : Option (Fraction × Bool) :=
  (Ffn from_1).bind fun r4=>bindJ (ρ:=Fraction × Bool) (bif (!r4) then (some (.inr true)) else ((Ffn to_2).bind fun r7=>bindL (ρ:=Fraction × Bool) (bif (!r7) then (some (.inr true)) else (bindL (ρ:=Fraction × Bool) (bif (decide (from_1 > to_2)) then (some (.inr true)) else ((Fft convention_3 1 4).bind fun r10=>some (.inr (!r10)))) fun u9 : Bool=>some (.inr u9))) fun u8 : Bool=>some (.inr u8))) fun u5 : Bool=>bif u5 then (some ((Fraction.mk 0 0),false)) else ((Fff from_1 to_2 convention_3).bind fun r6=>some (r6.1,r6.2))
noncomputable def spec_l1In (x_1 : Int) (a_2 : Int) (b_3 : Int) : Option Bool :=
  letJ (bif (decide (x_1 ≥ a_2)) then ((decide (x_1 ≤ b_3))) else (false)) fun u4 : Bool=>some u4
noncomputable def Ffby (day_1 : Int) : Option Bool :=
  (spec_l1In day_1 0 36524).bind fun r2=>some r2
noncomputable def Ffbr (x_1 : Int) : Option Int :=
  bif (decide (x_1 < 0)) then (some (w64 (0 - x_1))) else (some x_1)
noncomputable def Ffbu_la_F (a_1 : Int) (b_2 : Int)  (self : (Int × Int)→Option (Int ⊕ Int)) (x3 : Int × Int) : Option (Int ⊕ Int) :=
  bif (x3.2 != 0) then ((remI x3.1 x3.2).bind fun q4=>self (x3.2,q4)) else (some (.inr x3.1))
noncomputable def Ffbu_la (a_1 : Int) (b_2 : Int)  : (Int × Int)→Option (Int ⊕ Int):=fixO (Ffbu_la_F a_1 b_2)
theorem Ffbu_la_fin (a_1 : Int) (b_2 : Int)  : ∀ a,Fin1 fun f=>Ffbu_la_F a_1 b_2 f a:=by
  intro a
  unfold Ffbu_la_F
  repeat first|exact f_const|exact f_self|refine f_cond ?_ ?_|refine f_bindJ ?_ (fun _=>?_)|refine f_bindL ?_ (fun _=>?_)|refine f_bind ?_ (fun _=>?_)|refine f_letJ (fun _=>?_)
theorem Ffbu_la_eq (a_1 : Int) (b_2 : Int)  (x : Int × Int) : Ffbu_la a_1 b_2 x=Ffbu_la_F a_1 b_2 (Ffbu_la a_1 b_2) x:=fix_eq (Ffbu_la_fin a_1 b_2) x
noncomputable def Ffbu (a_1 : Int) (b_2 : Int) : Option Int :=
  bindJ (ρ:=Int) (Ffbu_la a_1 b_2 (a_1,b_2)) fun u5 : Int=>some u5
noncomputable def Ffbs (x_1 : Int) : Option Bool :=
  (spec_l1In x_1 (-1000000000) 1000000000).bind fun r2=>some r2
noncomputable def Ffbt (f_1 : Fraction) : Option Bool :=
  (spec_l1In f_1.Den 1 1000000000).bind fun r2=>bindJ (ρ:=Bool) (bif r2 then ((Ffbs f_1.Num).bind fun r4=>bindL (ρ:=Bool) (bif r4 then ((Ffbr f_1.Num).bind fun r6=>(Ffbu r6 f_1.Den).bind fun r7=>some (.inr (r7 == 1))) else (some (.inr false))) fun u5 : Bool=>some (.inr u5)) else (some (.inr false))) fun u3 : Bool=>some u3
noncomputable def Ffbv (num_1 : Int) (den_2 : Int) : Option (Fraction × Bool) :=
  letJ (bif (decide (den_2 < 0)) then (((w64 (0 - num_1)),(w64 (0 - den_2)))) else ((num_1,den_2))) fun u3 : Int × Int=>(Ffbr u3.1).bind fun r4=>(Ffbu r4 u3.2).bind fun r5=>(quoI .i64 u3.1 r5).bind fun q6=>(quoI .i64 u3.2 r5).bind fun q7=>(Ffbt (Fraction.mk q6 q7)).bind fun r8=>bif (!r8) then (some ((Fraction.mk 0 0),false)) else (some ((Fraction.mk q6 q7),true))
noncomputable def Ffbd (num_1 : Int) (den_2 : Int) : Option (Fraction × Bool) :=
  bindJ (ρ:=Fraction × Bool) (bif (den_2 == 0) then (some (.inr true)) else ((spec_l1In num_1 (-1000000000000000000) 1000000000000000000).bind fun r5=>bindL (ρ:=Fraction × Bool) (bif (!r5) then (some (.inr true)) else ((spec_l1In den_2 (-1000000000000000000) 1000000000000000000).bind fun r7=>some (.inr (!r7)))) fun u6 : Bool=>some (.inr u6))) fun u3 : Bool=>bif u3 then (some ((Fraction.mk 0 0),false)) else ((Ffbv num_1 den_2).bind fun r4=>some (r4.1,r4.2))
noncomputable def Ffbo (a_1 : Int) (b_2 : Int) : Option Int :=
  bif (decide (a_1 < b_2)) then (some a_1) else (some b_2)
noncomputable def Ffcg (from_1 : Int) (to_2 : Int) : Option Int :=
  (Ffbw from_1).bind fun r3=>(Ffbw to_2).bind fun r4=>(Ffbo r4.Day 30).bind fun r5=>(Ffbo r3.Day 30).bind fun r6=>some (w64 ((w64 ((w64 ((w64 (360 * (w64 (r4.Year - r3.Year)))) + (w64 (30 * (w64 (r4.Month - r3.Month)))))) + r5)) - r6))
noncomputable def Ffch_la_F (from_1 : Int) (to_2 : Int)  (self : (Int × Int × Int)→Option ((Int × Int) ⊕ (Int × Int))) (x3 : Int × Int × Int) : Option ((Int × Int) ⊕ (Int × Int)) :=
  bif (decide (x3.1 < to_2)) then ((Ffbw x3.1).bind fun r4=>(Ffbx (Date.mk r4.Year 12 31)).bind fun r5=>(Ffbo to_2 (w64 (r5 + 1))).bind fun r6=>letJ (bif ((r4.Year.tmod 4) == 0) then (((w64 ((w64 (x3.2.1 + r6)) - x3.1)),x3.2.2)) else ((x3.2.1,(w64 ((w64 (x3.2.2 + r6)) - x3.1))))) fun u7 : Int × Int=>self (r6,u7.1,u7.2)) else (some (.inr (x3.2.1,x3.2.2)))
noncomputable def Ffch_la (from_1 : Int) (to_2 : Int)  : (Int × Int × Int)→Option ((Int × Int) ⊕ (Int × Int)):=fixO (Ffch_la_F from_1 to_2)
theorem Ffch_la_fin (from_1 : Int) (to_2 : Int)  : ∀ a,Fin1 fun f=>Ffch_la_F from_1 to_2 f a:=by
  intro a
  unfold Ffch_la_F
  repeat first|exact f_const|exact f_self|refine f_cond ?_ ?_|refine f_bindJ ?_ (fun _=>?_)|refine f_bindL ?_ (fun _=>?_)|refine f_bind ?_ (fun _=>?_)|refine f_letJ (fun _=>?_)
theorem Ffch_la_eq (from_1 : Int) (to_2 : Int)  (x : Int × Int × Int) : Ffch_la from_1 to_2 x=Ffch_la_F from_1 to_2 (Ffch_la from_1 to_2) x:=fix_eq (Ffch_la_fin from_1 to_2) x
noncomputable def Ffch (from_1 : Int) (to_2 : Int) : Option (Int × Int) :=
  bindJ (ρ:=Int × Int) (Ffch_la from_1 to_2 (from_1,0,0)) fun u8 : Int × Int=>some (u8.1,u8.2)
noncomputable def Ffcb (from_1 : Int) (to_2 : Int) (convention_3 : Int) : Option (Fraction × Bool) :=
  bif (convention_3 == 1) then ((Ffbd (w64 (to_2 - from_1)) 360).bind fun r4=>some (r4.1,r4.2)) else (bif (convention_3 == 2) then ((Ffbd (w64 (to_2 - from_1)) 365).bind fun r5=>some (r5.1,r5.2)) else (bif (convention_3 == 3) then ((Ffcg from_1 to_2).bind fun r6=>(Ffbd r6 360).bind fun r7=>some (r7.1,r7.2)) else ((Ffch from_1 to_2).bind fun r8=>(Ffbd (w64 ((w64 (365 * r8.1)) + (w64 (366 * r8.2)))) 133590).bind fun r9=>some (r9.1,r9.2))))
noncomputable def Ffy (from_1 : Int) (to_2 : Int) (convention_3 : Int) : Option (Fraction × Bool) :=
  (Ffby from_1).bind fun r4=>bindJ (ρ:=Fraction × Bool) (bif (!r4) then (some (.inr true)) else ((Ffby to_2).bind fun r7=>bindL (ρ:=Fraction × Bool) (bif (!r7) then (some (.inr true)) else (bindL (ρ:=Fraction × Bool) (bif (decide (from_1 > to_2)) then (some (.inr true)) else ((spec_l1In convention_3 1 4).bind fun r10=>some (.inr (!r10)))) fun u9 : Bool=>some (.inr u9))) fun u8 : Bool=>some (.inr u8))) fun u5 : Bool=>bif u5 then (some ((Fraction.mk 0 0),false)) else ((Ffcb from_1 to_2 convention_3).bind fun r6=>some (r6.1,r6.2))
noncomputable def Ffw (a_1 : Fraction) (b_2 : Fraction) : Option (Fraction × Bool) :=
  (Ffbt a_1).bind fun r3=>bindJ (ρ:=Fraction × Bool) (bif (!r3) then (some (.inr true)) else ((Ffbt b_2).bind fun r6=>some (.inr (!r6)))) fun u4 : Bool=>bif u4 then (some ((Fraction.mk 0 0),false)) else ((Ffbv (w64 ((w64 (a_1.Num * b_2.Den)) + (w64 (b_2.Num * a_1.Den)))) (w64 (a_1.Den * b_2.Den))).bind fun r5=>some (r5.1,r5.2))
noncomputable def Ffbp (a_1 : Int) (b_2 : Int) : Option Int :=
  bif (decide (a_1 > b_2)) then (some a_1) else (some b_2)
noncomputable def Ffbh_la_F (c_3 : l1Cur) (near_4 : Int) (u4 : Int × (List Int) × Int × Int × (List Int)) (self : (Int × Int × (List Int) × Int × Int × (List Int))→Option ((Calendar × l1Cur) ⊕ ((List Int) × Int × Int × (List Int)))) (x7 : Int × Int × (List Int) × Int × Int × (List Int)) : Option ((Calendar × l1Cur) ⊕ ((List Int) × Int × Int × (List Int))) :=
  letJ (bif (decide (x7.2.1 > 0)) then ((decide (x7.1 ≤ 36524))) else (false)) fun u8 : Bool=>bif u8 then ((appI 8 x7.2.2.2.2.2 [x7.1]).bind fun a9=>(Ffbm (l1Cur.mk x7.2.2.1 x7.2.2.2.1 x7.2.2.2.2.1) 4).bind fun r10=>self ((w64 ((w64 (x7.1 + 1)) + r10.1)),(w64 (x7.2.1 - 1)),r10.2.f_code,r10.2.f_at,r10.2.f_seed,a9)) else (some (.inr (x7.2.2.1,x7.2.2.2.1,x7.2.2.2.2.1,x7.2.2.2.2.2)))
noncomputable def Ffbh_la (c_3 : l1Cur) (near_4 : Int) (u4 : Int × (List Int) × Int × Int × (List Int)) : (Int × Int × (List Int) × Int × Int × (List Int))→Option ((Calendar × l1Cur) ⊕ ((List Int) × Int × Int × (List Int))):=fixO (Ffbh_la_F c_3 near_4 u4)
theorem Ffbh_la_fin (c_3 : l1Cur) (near_4 : Int) (u4 : Int × (List Int) × Int × Int × (List Int)) : ∀ a,Fin1 fun f=>Ffbh_la_F c_3 near_4 u4 f a:=by
  intro a
  unfold Ffbh_la_F
  repeat first|exact f_const|exact f_self|refine f_cond ?_ ?_|refine f_bindJ ?_ (fun _=>?_)|refine f_bindL ?_ (fun _=>?_)|refine f_bind ?_ (fun _=>?_)|refine f_letJ (fun _=>?_)
theorem Ffbh_la_eq (c_3 : l1Cur) (near_4 : Int) (u4 : Int × (List Int) × Int × Int × (List Int)) (x : Int × Int × (List Int) × Int × Int × (List Int)) : Ffbh_la c_3 near_4 u4 x=Ffbh_la_F c_3 near_4 u4 (Ffbh_la c_3 near_4 u4) x:=fix_eq (Ffbh_la_fin c_3 near_4 u4) x
noncomputable def Ffbh_lb_F (c_3 : l1Cur) (near_4 : Int)  (self : (Int × (List Int) × Int × Int × (List Int))→Option ((Calendar × l1Cur) ⊕ ((List Int) × Int × Int × (List Int)))) (x13 : Int × (List Int) × Int × Int × (List Int)) : Option ((Calendar × l1Cur) ⊕ ((List Int) × Int × Int × (List Int))) :=
  bif (decide (x13.1 < 6)) then ((Ffbl (l1Cur.mk x13.2.1 x13.2.2.1 x13.2.2.2.1) 3).bind fun r14=>bindL (ρ:=Calendar × l1Cur) (bif r14.1 then ((appI 8 x13.2.2.2.2 [x13.1]).bind fun a16=>some (.inr a16)) else (some (.inr x13.2.2.2.2))) fun u15 : (List Int)=>self ((w64 (x13.1 + 1)),r14.2.f_code,r14.2.f_at,r14.2.f_seed,u15)) else (some (.inr (x13.2.1,x13.2.2.1,x13.2.2.2.1,x13.2.2.2.2)))
noncomputable def Ffbh_lb (c_3 : l1Cur) (near_4 : Int)  : (Int × (List Int) × Int × Int × (List Int))→Option ((Calendar × l1Cur) ⊕ ((List Int) × Int × Int × (List Int))):=fixO (Ffbh_lb_F c_3 near_4)
theorem Ffbh_lb_fin (c_3 : l1Cur) (near_4 : Int)  : ∀ a,Fin1 fun f=>Ffbh_lb_F c_3 near_4 f a:=by
  intro a
  unfold Ffbh_lb_F
  repeat first|exact f_const|exact f_self|refine f_cond ?_ ?_|refine f_bindJ ?_ (fun _=>?_)|refine f_bindL ?_ (fun _=>?_)|refine f_bind ?_ (fun _=>?_)|refine f_letJ (fun _=>?_)
theorem Ffbh_lb_eq (c_3 : l1Cur) (near_4 : Int)  (x : Int × (List Int) × Int × Int × (List Int)) : Ffbh_lb c_3 near_4 x=Ffbh_lb_F c_3 near_4 (Ffbh_lb c_3 near_4) x:=fix_eq (Ffbh_lb_fin c_3 near_4) x
noncomputable def Ffbh (c_3 : l1Cur) (near_4 : Int) : Option (Calendar × l1Cur) :=
  (Ffbm c_3 6).bind fun r3=>bindJ (ρ:=Calendar × l1Cur) (bif (r3.1 == 0) then (some (.inr (near_4,r3.2.f_code,r3.2.f_at,r3.2.f_seed,[4,5]))) else (bindL (ρ:=Calendar × l1Cur) (bif (r3.1 == 1) then (bindL (ρ:=Calendar × l1Cur) (Ffbh_lb c_3 near_4 (0,r3.2.f_code,r3.2.f_at,r3.2.f_seed,[])) fun u17 : (List Int) × Int × Int × (List Int)=>some (.inr (u17.1,u17.2.1,u17.2.2.1,u17.2.2.2))) else (some (.inr (r3.2.f_code,r3.2.f_at,r3.2.f_seed,[5,6])))) fun u12 : (List Int) × Int × Int × (List Int)=>some (.inr (near_4,u12.1,u12.2.1,u12.2.2.1,u12.2.2.2)))) fun u4 : Int × (List Int) × Int × Int × (List Int)=>(Ffbp (w64 (u4.1 - 8)) 0).bind fun r5=>(Ffbm (l1Cur.mk u4.2.1 u4.2.2.1 u4.2.2.2.1) 7).bind fun r6=>bindJ (ρ:=Calendar × l1Cur) (Ffbh_la c_3 near_4 u4 (r5,r6.1,r6.2.f_code,r6.2.f_at,r6.2.f_seed,[])) fun u11 : (List Int) × Int × Int × (List Int)=>some ((Calendar.mk u4.2.2.2.2 u11.2.2.2),(l1Cur.mk u11.1 u11.2.1 u11.2.2.1))
noncomputable def Ffbf_la_F (c_3 : l1Cur) (near_4 : Int) (r3 : Calendar × l1Cur) (self : (Int × (List Int) × Int × Int × (List Int))→Option ((Calendar × l1Cur) ⊕ ((List Int) × Int × Int × (List Int)))) (x13 : Int × (List Int) × Int × Int × (List Int)) : Option ((Calendar × l1Cur) ⊕ ((List Int) × Int × Int × (List Int))) :=
  (Ffbm (l1Cur.mk x13.2.1 x13.2.2.1 x13.2.2.2.1) 2).bind fun r14=>bif (decide (x13.1 < (w64 (40 + r14.1)))) then ((Ffbp (w64 (near_4 - 20)) 0).bind fun r15=>(Ffbo r15 36464).bind fun r16=>(appI 8 x13.2.2.2.2 [(w64 (r16 + x13.1))]).bind fun a17=>self ((w64 (x13.1 + 1)),r14.2.f_code,r14.2.f_at,r14.2.f_seed,a17)) else (some (.inr (r14.2.f_code,r14.2.f_at,r14.2.f_seed,x13.2.2.2.2)))
noncomputable def Ffbf_la (c_3 : l1Cur) (near_4 : Int) (r3 : Calendar × l1Cur) : (Int × (List Int) × Int × Int × (List Int))→Option ((Calendar × l1Cur) ⊕ ((List Int) × Int × Int × (List Int))):=fixO (Ffbf_la_F c_3 near_4 r3)
theorem Ffbf_la_fin (c_3 : l1Cur) (near_4 : Int) (r3 : Calendar × l1Cur) : ∀ a,Fin1 fun f=>Ffbf_la_F c_3 near_4 r3 f a:=by
  intro a
  unfold Ffbf_la_F
  repeat first|exact f_const|exact f_self|refine f_cond ?_ ?_|refine f_bindJ ?_ (fun _=>?_)|refine f_bindL ?_ (fun _=>?_)|refine f_bind ?_ (fun _=>?_)|refine f_letJ (fun _=>?_)
theorem Ffbf_la_eq (c_3 : l1Cur) (near_4 : Int) (r3 : Calendar × l1Cur) (x : Int × (List Int) × Int × Int × (List Int)) : Ffbf_la c_3 near_4 r3 x=Ffbf_la_F c_3 near_4 r3 (Ffbf_la c_3 near_4 r3) x:=fix_eq (Ffbf_la_fin c_3 near_4 r3) x
noncomputable def Ffbf (c_3 : l1Cur) (near_4 : Int) : Option (Calendar × l1Cur) :=
  (Ffbh c_3 near_4).bind fun r3=>(Ffbm r3.2 30).bind fun r4=>bindJ (ρ:=Calendar × l1Cur) (bif (r4.1 == 0) then ((Ffbe r4.2 [6,7,(-1)]).bind fun r6=>(appI 8 r3.1.Weekend [r6.1]).bind fun a7=>some (.inr (r6.2.f_code,r6.2.f_at,r6.2.f_seed,a7,r3.1.Holidays))) else (bindL (ρ:=Calendar × l1Cur) (bif (r4.1 == 1) then ((Ffbe r4.2 [36524,36525,0]).bind fun r9=>(appI 8 r3.1.Holidays [r9.1]).bind fun a10=>some (.inr (r9.2.f_code,r9.2.f_at,r9.2.f_seed,r3.1.Weekend,a10))) else (bindL (ρ:=Calendar × l1Cur) (bif (r4.1 == 2) then (some (.inr (r4.2.f_code,r4.2.f_at,r4.2.f_seed,[0,1,2,3,4,5,6],r3.1.Holidays))) else (bindL (ρ:=Calendar × l1Cur) (bif (r4.1 == 3) then (bindL (ρ:=Calendar × l1Cur) (Ffbf_la c_3 near_4 r3 (0,r4.2.f_code,r4.2.f_at,r4.2.f_seed,[])) fun u18 : (List Int) × Int × Int × (List Int)=>some (.inr (u18.1,u18.2.1,u18.2.2.1,u18.2.2.2))) else (some (.inr (r4.2.f_code,r4.2.f_at,r4.2.f_seed,r3.1.Holidays)))) fun u12 : (List Int) × Int × Int × (List Int)=>some (.inr (u12.1,u12.2.1,u12.2.2.1,r3.1.Weekend,u12.2.2.2)))) fun u11 : (List Int) × Int × Int × (List Int) × (List Int)=>some (.inr (u11.1,u11.2.1,u11.2.2.1,u11.2.2.2.1,u11.2.2.2.2)))) fun u8 : (List Int) × Int × Int × (List Int) × (List Int)=>some (.inr (u8.1,u8.2.1,u8.2.2.1,u8.2.2.2.1,u8.2.2.2.2)))) fun u5 : (List Int) × Int × Int × (List Int) × (List Int)=>some ((Calendar.mk u5.2.2.2.1 u5.2.2.2.2),(l1Cur.mk u5.1 u5.2.1 u5.2.2.1))
noncomputable def Ffba (code_1 : List Int) : Option (Calendar × Int) :=
  (Ffbj (l1Cur.mk code_1 0 0)).bind fun r2=>(Ffbf r2.2 r2.1).bind fun r3=>(Ffbl r3.2 20).bind fun r4=>bindJ (ρ:=Calendar × Int) (bif r4.1 then ((Ffbg r4.2).bind fun r6=>some (.inr r6.1)) else (some (.inr r2.1))) fun u5 : Int=>some (r3.1,u5)
noncomputable def Ffbb (code_1 : List Int) : Option (Calendar × Int) :=
  (Ffba code_1).bind fun r2=>some (r2.1,r2.2)
noncomputable def Ffp_la_F (list_1 : List Int) (low_2 : Int) (high_3 : Int) (most_4 : Int)  (self : Int→Option (Bool ⊕ Unit)) (x5 : Int) : Option (Bool ⊕ Unit) :=
  bif (decide (x5 < (len list_1))) then ((getI list_1 x5).bind fun e6=>(Fft e6 low_2 high_3).bind fun r7=>bindL (ρ:=Bool) (bif (!r7) then (some (.inr true)) else (bindL (ρ:=Bool) (bif (decide (x5 > 0)) then ((getI list_1 (w64 (x5 - 1))).bind fun e10=>some (.inr (decide (e6 ≤ e10)))) else (some (.inr false))) fun u9 : Bool=>some (.inr u9))) fun u8 : Bool=>bif u8 then (some (.inl false)) else (self (w64 (x5 + 1)))) else (some (.inr ()))
noncomputable def Ffp_la (list_1 : List Int) (low_2 : Int) (high_3 : Int) (most_4 : Int)  : Int→Option (Bool ⊕ Unit):=fixO (Ffp_la_F list_1 low_2 high_3 most_4)
theorem Ffp_la_fin (list_1 : List Int) (low_2 : Int) (high_3 : Int) (most_4 : Int)  : ∀ a,Fin1 fun f=>Ffp_la_F list_1 low_2 high_3 most_4 f a:=by
  intro a
  unfold Ffp_la_F
  repeat first|exact f_const|exact f_self|refine f_cond ?_ ?_|refine f_bindJ ?_ (fun _=>?_)|refine f_bindL ?_ (fun _=>?_)|refine f_bind ?_ (fun _=>?_)|refine f_letJ (fun _=>?_)
theorem Ffp_la_eq (list_1 : List Int) (low_2 : Int) (high_3 : Int) (most_4 : Int)  (x : Int) : Ffp_la list_1 low_2 high_3 most_4 x=Ffp_la_F list_1 low_2 high_3 most_4 (Ffp_la list_1 low_2 high_3 most_4) x:=fix_eq (Ffp_la_fin list_1 low_2 high_3 most_4) x
noncomputable def Ffp (list_1 : List Int) (low_2 : Int) (high_3 : Int) (most_4 : Int) : Option Bool :=
  bindJ (ρ:=Bool) (Ffp_la list_1 low_2 high_3 most_4 0) fun u11 : Unit=>some (decide ((len list_1) ≤ most_4))
noncomputable def Ffc (c_1 : Calendar) : Option Bool :=
  (Ffp c_1.Weekend 0 6 6).bind fun r2=>bindJ (ρ:=Bool) (bif r2 then ((Ffp c_1.Holidays 0 36524 40).bind fun r4=>some (.inr r4)) else (some (.inr false))) fun u3 : Bool=>some u3
noncomputable def Ffg_la_F (d_1 : Date)  (self : (Int × Int)→Option (Int ⊕ Int)) (x2 : Int × Int) : Option (Int ⊕ Int) :=
  bif (decide (x2.2 < d_1.Year)) then ((Ffi x2.2).bind fun r3=>self ((w64 (x2.1 + r3)),(w64 (x2.2 + 1)))) else (some (.inr x2.1))
noncomputable def Ffg_la (d_1 : Date)  : (Int × Int)→Option (Int ⊕ Int):=fixO (Ffg_la_F d_1)
theorem Ffg_la_fin (d_1 : Date)  : ∀ a,Fin1 fun f=>Ffg_la_F d_1 f a:=by
  intro a
  unfold Ffg_la_F
  repeat first|exact f_const|exact f_self|refine f_cond ?_ ?_|refine f_bindJ ?_ (fun _=>?_)|refine f_bindL ?_ (fun _=>?_)|refine f_bind ?_ (fun _=>?_)|refine f_letJ (fun _=>?_)
theorem Ffg_la_eq (d_1 : Date)  (x : Int × Int) : Ffg_la d_1 x=Ffg_la_F d_1 (Ffg_la d_1) x:=fix_eq (Ffg_la_fin d_1) x
noncomputable def Ffg_lb_F (d_1 : Date)  (self : (Int × Int)→Option (Int ⊕ Int)) (x5 : Int × Int) : Option (Int ⊕ Int) :=
  bif (decide (x5.2 < d_1.Month)) then ((Ffh d_1.Year x5.2).bind fun r6=>self ((w64 (x5.1 + r6)),(w64 (x5.2 + 1)))) else (some (.inr x5.1))
noncomputable def Ffg_lb (d_1 : Date)  : (Int × Int)→Option (Int ⊕ Int):=fixO (Ffg_lb_F d_1)
theorem Ffg_lb_fin (d_1 : Date)  : ∀ a,Fin1 fun f=>Ffg_lb_F d_1 f a:=by
  intro a
  unfold Ffg_lb_F
  repeat first|exact f_const|exact f_self|refine f_cond ?_ ?_|refine f_bindJ ?_ (fun _=>?_)|refine f_bindL ?_ (fun _=>?_)|refine f_bind ?_ (fun _=>?_)|refine f_letJ (fun _=>?_)
theorem Ffg_lb_eq (d_1 : Date)  (x : Int × Int) : Ffg_lb d_1 x=Ffg_lb_F d_1 (Ffg_lb d_1) x:=fix_eq (Ffg_lb_fin d_1) x
noncomputable def Ffg (d_1 : Date) : Option Int :=
  bindJ (ρ:=Int) (Ffg_la d_1 ((w64 (d_1.Day - 1)),2000)) fun u4 : Int=>bindJ (ρ:=Int) (Ffg_lb d_1 (u4,1)) fun u7 : Int=>some u7
noncomputable def Ffs (day_1 : Int) : Option Int :=
  some ((w64 (day_1 + 5)).tmod 7)
noncomputable def Ffv_la_F (s_1 : List Int) (v_2 : Int)  (self : Int→Option (Int ⊕ Unit)) (x3 : Int) : Option (Int ⊕ Unit) :=
  bif (decide (x3 < (len s_1))) then ((getI s_1 x3).bind fun e4=>bif (v_2 == e4) then (some (.inl x3)) else (self (w64 (x3 + 1)))) else (some (.inr ()))
noncomputable def Ffv_la (s_1 : List Int) (v_2 : Int)  : Int→Option (Int ⊕ Unit):=fixO (Ffv_la_F s_1 v_2)
theorem Ffv_la_fin (s_1 : List Int) (v_2 : Int)  : ∀ a,Fin1 fun f=>Ffv_la_F s_1 v_2 f a:=by
  intro a
  unfold Ffv_la_F
  repeat first|exact f_const|exact f_self|refine f_cond ?_ ?_|refine f_bindJ ?_ (fun _=>?_)|refine f_bindL ?_ (fun _=>?_)|refine f_bind ?_ (fun _=>?_)|refine f_letJ (fun _=>?_)
theorem Ffv_la_eq (s_1 : List Int) (v_2 : Int)  (x : Int) : Ffv_la s_1 v_2 x=Ffv_la_F s_1 v_2 (Ffv_la s_1 v_2) x:=fix_eq (Ffv_la_fin s_1 v_2) x
noncomputable def Ffv (s_1 : List Int) (v_2 : Int) : Option Int :=
  bindJ (ρ:=Int) (Ffv_la s_1 v_2 0) fun u5 : Unit=>some (-1)
noncomputable def Ffu (s_1 : List Int) (v_2 : Int) : Option Bool :=
  (Ffv s_1 v_2).bind fun r3=>some (decide (r3 ≥ 0))
noncomputable def Ffm (c_1 : Calendar) (day_2 : Int) : Option Bool :=
  (Ffs day_2).bind fun r3=>(Ffu c_1.Weekend r3).bind fun r4=>bindJ (ρ:=Bool) (bif (!r4) then ((Ffu c_1.Holidays day_2).bind fun r6=>some (.inr (!r6))) else (some (.inr false))) fun u5 : Bool=>some u5
noncomputable def Ffq_la_F (c_1 : Calendar) (day_2 : Int) (step_3 : Int)  (self : Int→Option (Int ⊕ Unit)) (x4 : Int) : Option (Int ⊕ Unit) :=
  (Ffn x4).bind fun r5=>bif r5 then ((Ffm c_1 x4).bind fun r6=>bif r6 then (some (.inl x4)) else (self (w64 (x4 + step_3)))) else (some (.inr ()))
noncomputable def Ffq_la (c_1 : Calendar) (day_2 : Int) (step_3 : Int)  : Int→Option (Int ⊕ Unit):=fixO (Ffq_la_F c_1 day_2 step_3)
theorem Ffq_la_fin (c_1 : Calendar) (day_2 : Int) (step_3 : Int)  : ∀ a,Fin1 fun f=>Ffq_la_F c_1 day_2 step_3 f a:=by
  intro a
  unfold Ffq_la_F
  repeat first|exact f_const|exact f_self|refine f_cond ?_ ?_|refine f_bindJ ?_ (fun _=>?_)|refine f_bindL ?_ (fun _=>?_)|refine f_bind ?_ (fun _=>?_)|refine f_letJ (fun _=>?_)
theorem Ffq_la_eq (c_1 : Calendar) (day_2 : Int) (step_3 : Int)  (x : Int) : Ffq_la c_1 day_2 step_3 x=Ffq_la_F c_1 day_2 step_3 (Ffq_la c_1 day_2 step_3) x:=fix_eq (Ffq_la_fin c_1 day_2 step_3) x
noncomputable def Ffq (c_1 : Calendar) (day_2 : Int) (step_3 : Int) : Option Int :=
  bindJ (ρ:=Int) (Ffq_la c_1 day_2 step_3 day_2) fun u7 : Unit=>some (-1)
noncomputable def Ffr (a_1 : Int) (b_2 : Int) : Option Bool :=
  (Ffe a_1).bind fun r3=>(Ffe b_2).bind fun r4=>letJ (bif (r3.Year == r4.Year) then ((r3.Month == r4.Month)) else (false)) fun u5 : Bool=>some u5
noncomputable def Ffd (c_1 : Calendar) (day_2 : Int) : Option (Int × Bool) :=
  (Ffc c_1).bind fun r3=>bindJ (ρ:=Int × Bool) (bif (!r3) then (some (.inr true)) else ((Ffn day_2).bind fun r11=>some (.inr (!r11)))) fun u4 : Bool=>bif u4 then (some (0,false)) else ((Ffe day_2).bind fun r5=>(Ffh r5.Year r5.Month).bind fun r6=>(Ffg (Date.mk r5.Year r5.Month r6)).bind fun r7=>(Ffq c_1 r7 (-1)).bind fun r8=>bindJ (ρ:=Int × Bool) (bif (decide (r8 < 0)) then (some (.inr true)) else ((Ffr r8 day_2).bind fun r10=>some (.inr (!r10)))) fun u9 : Bool=>bif u9 then (some (0,false)) else (some (r8,true)))
noncomputable def Ffbq_la_F (l_1 : List Int) (lo_2 : Int) (hi_3 : Int)  (self : Int→Option (Bool ⊕ Unit)) (x4 : Int) : Option (Bool ⊕ Unit) :=
  bif (decide (x4 < (len l_1))) then ((getI l_1 x4).bind fun e5=>(spec_l1In e5 lo_2 hi_3).bind fun r6=>bindL (ρ:=Bool) (bif (!r6) then (some (.inr true)) else (bindL (ρ:=Bool) (bif (decide (x4 > 0)) then ((getI l_1 (w64 (x4 - 1))).bind fun e9=>(getI l_1 x4).bind fun e10=>some (.inr (decide (e9 ≥ e10)))) else (some (.inr false))) fun u8 : Bool=>some (.inr u8))) fun u7 : Bool=>bif u7 then (some (.inl false)) else (self (w64 (x4 + 1)))) else (some (.inr ()))
noncomputable def Ffbq_la (l_1 : List Int) (lo_2 : Int) (hi_3 : Int)  : Int→Option (Bool ⊕ Unit):=fixO (Ffbq_la_F l_1 lo_2 hi_3)
theorem Ffbq_la_fin (l_1 : List Int) (lo_2 : Int) (hi_3 : Int)  : ∀ a,Fin1 fun f=>Ffbq_la_F l_1 lo_2 hi_3 f a:=by
  intro a
  unfold Ffbq_la_F
  repeat first|exact f_const|exact f_self|refine f_cond ?_ ?_|refine f_bindJ ?_ (fun _=>?_)|refine f_bindL ?_ (fun _=>?_)|refine f_bind ?_ (fun _=>?_)|refine f_letJ (fun _=>?_)
theorem Ffbq_la_eq (l_1 : List Int) (lo_2 : Int) (hi_3 : Int)  (x : Int) : Ffbq_la l_1 lo_2 hi_3 x=Ffbq_la_F l_1 lo_2 hi_3 (Ffbq_la l_1 lo_2 hi_3) x:=fix_eq (Ffbq_la_fin l_1 lo_2 hi_3) x
noncomputable def Ffbq (l_1 : List Int) (lo_2 : Int) (hi_3 : Int) : Option Bool :=
  bindJ (ρ:=Bool) (Ffbq_la l_1 lo_2 hi_3 0) fun u11 : Unit=>some true
noncomputable def Ffcc (c_1 : Calendar) : Option Bool :=
  bindJ (ρ:=Bool) (bif (decide ((len c_1.Weekend) ≤ 6)) then ((Ffbq c_1.Weekend 0 6).bind fun r3=>bindL (ρ:=Bool) (bif r3 then (bindL (ρ:=Bool) (bif (decide ((len c_1.Holidays) ≤ 40)) then ((Ffbq c_1.Holidays 0 36524).bind fun r6=>some (.inr r6)) else (some (.inr false))) fun u5 : Bool=>some (.inr u5)) else (some (.inr false))) fun u4 : Bool=>some (.inr u4)) else (some (.inr false))) fun u2 : Bool=>some u2
noncomputable def Ffca (day_1 : Int) : Option Int :=
  some ((w64 (day_1 + 5)).tmod 7)
noncomputable def Ffbn_la_F (l_1 : List Int) (n_2 : Int)  (self : Int→Option (Bool ⊕ Unit)) (x3 : Int) : Option (Bool ⊕ Unit) :=
  bif (decide (x3 < (len l_1))) then ((getI l_1 x3).bind fun e4=>bif (e4 == n_2) then (some (.inl true)) else (self (w64 (x3 + 1)))) else (some (.inr ()))
noncomputable def Ffbn_la (l_1 : List Int) (n_2 : Int)  : Int→Option (Bool ⊕ Unit):=fixO (Ffbn_la_F l_1 n_2)
theorem Ffbn_la_fin (l_1 : List Int) (n_2 : Int)  : ∀ a,Fin1 fun f=>Ffbn_la_F l_1 n_2 f a:=by
  intro a
  unfold Ffbn_la_F
  repeat first|exact f_const|exact f_self|refine f_cond ?_ ?_|refine f_bindJ ?_ (fun _=>?_)|refine f_bindL ?_ (fun _=>?_)|refine f_bind ?_ (fun _=>?_)|refine f_letJ (fun _=>?_)
theorem Ffbn_la_eq (l_1 : List Int) (n_2 : Int)  (x : Int) : Ffbn_la l_1 n_2 x=Ffbn_la_F l_1 n_2 (Ffbn_la l_1 n_2) x:=fix_eq (Ffbn_la_fin l_1 n_2) x
noncomputable def Ffbn (l_1 : List Int) (n_2 : Int) : Option Bool :=
  bindJ (ρ:=Bool) (Ffbn_la l_1 n_2 0) fun u5 : Unit=>some false
noncomputable def Ffcd (c_1 : Calendar) (day_2 : Int) : Option Bool :=
  (Ffca day_2).bind fun r3=>(Ffbn c_1.Weekend r3).bind fun r4=>bindJ (ρ:=Bool) (bif (!r4) then ((Ffbn c_1.Holidays day_2).bind fun r6=>some (.inr (!r6))) else (some (.inr false))) fun u5 : Bool=>some u5
noncomputable def Ffcf_la_F (c_1 : Calendar) (day_2 : Int) (step_3 : Int)  (self : Int→Option (Int ⊕ Unit)) (x4 : Int) : Option (Int ⊕ Unit) :=
  (Ffby x4).bind fun r5=>bif r5 then ((Ffcd c_1 x4).bind fun r6=>bif r6 then (some (.inl x4)) else (self (w64 (x4 + step_3)))) else (some (.inr ()))
noncomputable def Ffcf_la (c_1 : Calendar) (day_2 : Int) (step_3 : Int)  : Int→Option (Int ⊕ Unit):=fixO (Ffcf_la_F c_1 day_2 step_3)
theorem Ffcf_la_fin (c_1 : Calendar) (day_2 : Int) (step_3 : Int)  : ∀ a,Fin1 fun f=>Ffcf_la_F c_1 day_2 step_3 f a:=by
  intro a
  unfold Ffcf_la_F
  repeat first|exact f_const|exact f_self|refine f_cond ?_ ?_|refine f_bindJ ?_ (fun _=>?_)|refine f_bindL ?_ (fun _=>?_)|refine f_bind ?_ (fun _=>?_)|refine f_letJ (fun _=>?_)
theorem Ffcf_la_eq (c_1 : Calendar) (day_2 : Int) (step_3 : Int)  (x : Int) : Ffcf_la c_1 day_2 step_3 x=Ffcf_la_F c_1 day_2 step_3 (Ffcf_la c_1 day_2 step_3) x:=fix_eq (Ffcf_la_fin c_1 day_2 step_3) x
noncomputable def Ffcf (c_1 : Calendar) (day_2 : Int) (step_3 : Int) : Option Int :=
  bindJ (ρ:=Int) (Ffcf_la c_1 day_2 step_3 day_2) fun u7 : Unit=>some (-1)
noncomputable def Ffce (a_1 : Int) (b_2 : Int) : Option Bool :=
  (Ffbw a_1).bind fun r3=>(Ffbw b_2).bind fun r4=>letJ (bif (r3.Year == r4.Year) then ((r3.Month == r4.Month)) else (false)) fun u5 : Bool=>some u5
noncomputable def Ffbc (c_1 : Calendar) (day_2 : Int) : Option (Int × Bool) :=
  (Ffcc c_1).bind fun r3=>bindJ (ρ:=Int × Bool) (bif (!r3) then (some (.inr true)) else ((Ffby day_2).bind fun r11=>some (.inr (!r11)))) fun u4 : Bool=>bif u4 then (some (0,false)) else ((Ffbw day_2).bind fun r5=>(Ffbz r5.Year r5.Month).bind fun r6=>(Ffbx (Date.mk r5.Year r5.Month r6)).bind fun r7=>(Ffcf c_1 r7 (-1)).bind fun r8=>bindJ (ρ:=Int × Bool) (bif (decide (r8 < 0)) then (some (.inr true)) else ((Ffce r8 day_2).bind fun r10=>some (.inr (!r10)))) fun u9 : Bool=>bif u9 then (some (0,false)) else (some (r8,true)))
noncomputable def Ffa_la_F (c_1 : Calendar) (day_2 : Int) (n_3 : Int) (r7 : Int) (u6 : Int) (self : (Int × Int)→Option ((Int × Bool) ⊕ Int)) (x8 : Int × Int) : Option ((Int × Bool) ⊕ Int) :=
  bif (decide (x8.2 < r7)) then ((Ffq c_1 (w64 (x8.1 + u6)) u6).bind fun r9=>bif (decide (r9 < 0)) then (some (.inl (0,false))) else (self (r9,(w64 (x8.2 + 1))))) else (some (.inr x8.1))
noncomputable def Ffa_la (c_1 : Calendar) (day_2 : Int) (n_3 : Int) (r7 : Int) (u6 : Int) : (Int × Int)→Option ((Int × Bool) ⊕ Int):=fixO (Ffa_la_F c_1 day_2 n_3 r7 u6)
theorem Ffa_la_fin (c_1 : Calendar) (day_2 : Int) (n_3 : Int) (r7 : Int) (u6 : Int) : ∀ a,Fin1 fun f=>Ffa_la_F c_1 day_2 n_3 r7 u6 f a:=by
  intro a
  unfold Ffa_la_F
  repeat first|exact f_const|exact f_self|refine f_cond ?_ ?_|refine f_bindJ ?_ (fun _=>?_)|refine f_bindL ?_ (fun _=>?_)|refine f_bind ?_ (fun _=>?_)|refine f_letJ (fun _=>?_)
theorem Ffa_la_eq (c_1 : Calendar) (day_2 : Int) (n_3 : Int) (r7 : Int) (u6 : Int) (x : Int × Int) : Ffa_la c_1 day_2 n_3 r7 u6 x=Ffa_la_F c_1 day_2 n_3 r7 u6 (Ffa_la c_1 day_2 n_3 r7 u6) x:=fix_eq (Ffa_la_fin c_1 day_2 n_3 r7 u6) x
noncomputable def Ffa (c_1 : Calendar) (day_2 : Int) (n_3 : Int) : Option (Int × Bool) :=
  (Ffc c_1).bind fun r4=>bindJ (ρ:=Int × Bool) (bif (!r4) then (some (.inr true)) else ((Ffn day_2).bind fun r11=>bindL (ρ:=Int × Bool) (bif (!r11) then (some (.inr true)) else ((Fft n_3 (-1000) 1000).bind fun r13=>some (.inr (!r13)))) fun u12 : Bool=>some (.inr u12))) fun u5 : Bool=>bif u5 then (some (0,false)) else (letJ (bif (decide (n_3 < 0)) then ((-1)) else (1)) fun u6 : Int=>(impl_size n_3).bind fun r7=>bindJ (ρ:=Int × Bool) (Ffa_la c_1 day_2 n_3 r7 u6 (day_2,0)) fun u10 : Int=>some (u10,true))
noncomputable def Ffx (day_1 : Int) : Option (Date × Bool) :=
  (Ffby day_1).bind fun r2=>bif (!r2) then (some ((Date.mk 0 0 0),false)) else ((Ffbw day_1).bind fun r3=>some (r3,true))
noncomputable def laws_FnDayCounts (code_1 : List Int) : Option Bool :=
  (laws_vBig code_1).bind fun r2=>bif r2 then (some true) else ((Ffz code_1).bind fun r3=>(Ffb r3.1 r3.2.1 r3.2.2).bind fun r4=>(Ffy r3.1 r3.2.1 r3.2.2).bind fun r5=>letJ (bif (!(r4.1.Num == r5.1.Num && (r4.1.Den == r5.1.Den && true))) then (true) else ((!(r4.2 == r5.2)))) fun u6 : Bool=>bif u6 then (some false) else (letJ (bif r4.2 then ((r3.2.2 != 3)) else (false)) fun u7 : Bool=>bindJ (ρ:=Bool) (bif u7 then ((Ffb r3.1 (w64 (r3.1 + (w64 ((w64 (r3.2.1 - r3.1)).tdiv 2)))) r3.2.2).bind fun r20=>(Ffb (w64 (r3.1 + (w64 ((w64 (r3.2.1 - r3.1)).tdiv 2)))) r3.2.1 r3.2.2).bind fun r21=>(Ffw r20.1 r21.1).bind fun r22=>letJ (bif (!r20.2) then (true) else (letJ (bif (!r21.2) then (true) else (letJ (bif r22.2 then ((!(r22.1.Num == r4.1.Num && (r22.1.Den == r4.1.Den && true)))) else (false)) fun u25 : Bool=>u25)) fun u24 : Bool=>u24)) fun u23 : Bool=>bif u23 then (some (.inl false)) else (some (.inr ()))) else (some (.inr ()))) fun u8 : Unit=>(Ffbb code_1).bind fun r9=>(Ffd r9.1 r9.2).bind fun r10=>(Ffbc r9.1 r9.2).bind fun r11=>letJ (bif (r10.1 != r11.1) then (true) else (letJ (bif (!(r10.2 == r11.2)) then (true) else ((!r10.2))) fun u19 : Bool=>u19)) fun u12 : Bool=>bif u12 then (letJ (bif (r10.1 == r11.1) then ((r10.2 == r11.2)) else (false)) fun u13 : Bool=>some u13) else ((Ffa r9.1 r10.1 1).bind fun r14=>(Ffx r10.1).bind fun r15=>(Ffx r14.1).bind fun r16=>letJ (bif (!r14.2) then (true) else (letJ (bif (r15.1.Month != r16.1.Month) then (true) else ((r15.1.Year != r16.1.Year))) fun u18 : Bool=>u18)) fun u17 : Bool=>some u17)))
end Go.Ln
