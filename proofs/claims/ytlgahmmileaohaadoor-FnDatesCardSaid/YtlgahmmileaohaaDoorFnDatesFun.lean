/-
  What each function of the law computes, as a plain function.
-/
import Derived.Test.YtlgahmmileaohaaDoorLnD
set_option maxHeartbeats 4000000
set_option linter.unusedVariables false
set_option linter.unusedSimpArgs false
set_option maxRecDepth 100000
namespace Go.Ln
open Go
structure l1Cur where
  f_code : List Int
  f_at : Int
  f_seed : Int
def encI_l1Cur (x : l1Cur) : V:=.agg [.isl false ((x.f_code).map (V.int .u8)),I (x.f_at),.int .u64 (x.f_seed)]
theorem encI_l1Cur_cells (x : l1Cur) : (cells (encI_l1Cur x)).length=3 ∧ (cells (encI_l1Cur x)).all cellV=true:=⟨rfl,rfl⟩
theorem encI_l1Cur_imm (x : l1Cur) : imm (encI_l1Cur x)=encI_l1Cur x:=rfl
theorem encI_l1Cur_inj (a b : l1Cur) (h : encI_l1Cur a=encI_l1Cur b) : a=b:=by
  obtain ⟨p0,p1,p2⟩:=a
  obtain ⟨q0,q1,q2⟩:=b
  replace h:=V.agg.inj h
  obtain ⟨h0,h⟩:=List.cons.inj h
  obtain rfl:=(isl_inj (vint_inj (k:=.u8))) p0 q0 h0
  obtain ⟨h1,h⟩:=List.cons.inj h
  obtain rfl:=I_inj p1 q1 h1
  obtain ⟨h2,h⟩:=List.cons.inj h
  obtain rfl:=(vint_inj (k:=.u64)) p2 q2 h2
  rfl
def encO_l1Cur (x : l1Cur) : V:=.agg [.isl false ((x.f_code).map (V.int .u8)),I (x.f_at),.int .u64 (x.f_seed)]
theorem encO_l1Cur_cells (x : l1Cur) : (cells (encO_l1Cur x)).length=3 ∧ (cells (encO_l1Cur x)).all cellV=true:=⟨rfl,rfl⟩
theorem encO_l1Cur_imm (x : l1Cur) : imm (encO_l1Cur x)=encI_l1Cur x:=rfl
theorem encO_l1Cur_inj (a b : l1Cur) (h : encO_l1Cur a=encO_l1Cur b) : a=b:=by
  obtain ⟨p0,p1,p2⟩:=a
  obtain ⟨q0,q1,q2⟩:=b
  replace h:=V.agg.inj h
  obtain ⟨h0,h⟩:=List.cons.inj h
  obtain rfl:=(isl_inj (vint_inj (k:=.u8))) p0 q0 h0
  obtain ⟨h1,h⟩:=List.cons.inj h
  obtain rfl:=I_inj p1 q1 h1
  obtain ⟨h2,h⟩:=List.cons.inj h
  obtain rfl:=(vint_inj (k:=.u64)) p2 q2 h2
  rfl
structure Date where
  Year : Int
  Month : Int
  Day : Int
def enc_Date (x : Date) : V:=.agg [I (x.Year),I (x.Month),I (x.Day)]
theorem enc_Date_cells (x : Date) : (cells (enc_Date x)).length=3 ∧ (cells (enc_Date x)).all cellV=true:=⟨rfl,rfl⟩
theorem enc_Date_imm (x : Date) : imm (enc_Date x)=enc_Date x:=rfl
theorem enc_Date_himm (x : Date) : hasImm (enc_Date x)=false:=rfl
theorem enc_Date_flat (x : Date) : flatE (enc_Date x)=true:=rfl
theorem enc_Date_inj (a b : Date) (h : enc_Date a=enc_Date b) : a=b:=by
  obtain ⟨p0,p1,p2⟩:=a
  obtain ⟨q0,q1,q2⟩:=b
  replace h:=V.agg.inj h
  obtain ⟨h0,h⟩:=List.cons.inj h
  obtain rfl:=I_inj p0 q0 h0
  obtain ⟨h1,h⟩:=List.cons.inj h
  obtain rfl:=I_inj p1 q1 h1
  obtain ⟨h2,h⟩:=List.cons.inj h
  obtain rfl:=I_inj p2 q2 h2
  rfl

noncomputable def laws_vBig (code_1 : List Int) : Option Bool :=
  some (decide ((len code_1) > 65536))
noncomputable def Ffu (c_3 : l1Cur) : Option (Int × l1Cur) :=
  bindJ (ρ:=Int × l1Cur) (bif (decide (c_3.f_at < (len c_3.f_code))) then ((getI c_3.f_code c_3.f_at).bind fun e3=>some (.inr (IntKind.i64.wrap e3))) else (some (.inr 0))) fun u2 : Int=>bif (decide ((w64 (c_3.f_at + 1)) ≤ (len c_3.f_code))) then (some (u2,(l1Cur.mk c_3.f_code (w64 (c_3.f_at + 1)) (IntKind.u64.wrap ((IntKind.u64.wrap ((IntKind.u64.wrap (c_3.f_seed * 6364136223846793005)) + (IntKind.u64.wrap u2))) + 902902))))) else (some ((IntKind.i64.wrap (andI .u64 (shrI .u64 (IntKind.u64.wrap ((IntKind.u64.wrap ((IntKind.u64.wrap (c_3.f_seed * 6364136223846793005)) + (IntKind.u64.wrap u2))) + 902902)) 40) 255)),(l1Cur.mk c_3.f_code (w64 (c_3.f_at + 1)) (IntKind.u64.wrap ((IntKind.u64.wrap ((IntKind.u64.wrap (c_3.f_seed * 6364136223846793005)) + (IntKind.u64.wrap u2))) + 902902)))))
noncomputable def Ffw (c_3 : l1Cur) (n_4 : Int) : Option (Int × l1Cur) :=
  bif (decide (n_4 ≤ 1)) then (some (0,c_3)) else ((Ffu c_3).bind fun r3=>bindJ (ρ:=Int × l1Cur) (bif (decide (n_4 > 200)) then ((Ffu r3.2).bind fun r6=>some (.inr ((w64 ((w64 (r3.1 * 256)) + r6.1)),r6.2.f_code,r6.2.f_at,r6.2.f_seed))) else (some (.inr (r3.1,r3.2.f_code,r3.2.f_at,r3.2.f_seed)))) fun u4 : Int × (List Int) × Int × Int=>(remI u4.1 n_4).bind fun q5=>some (q5,(l1Cur.mk u4.2.1 u4.2.2.1 u4.2.2.2)))
noncomputable def Ffv (c_3 : l1Cur) (n_4 : Int) : Option (Bool × l1Cur) :=
  (Ffw c_3 n_4).bind fun r3=>some ((r3.1 == 0),r3.2)
noncomputable def Ffr (c_3 : l1Cur) (list_4 : List Int) : Option (Int × l1Cur) :=
  (Ffw c_3 (len list_4)).bind fun r3=>(getI list_4 r3.1).bind fun e4=>some (e4,r3.2)
noncomputable def Fft (c_2 : l1Cur) : Option (Int × l1Cur) :=
  (Ffw c_2 6).bind fun r2=>bif (r2.1 == 0) then ((Ffr r2.2 [0,59,60,365,366,424,425,36524,36523,30,31]).bind fun r3=>some (r3.1,r3.2)) else (bif (r2.1 == 1) then ((Ffw r2.2 36525).bind fun r4=>some (r4.1,r4.2)) else ((Ffw r2.2 1500).bind fun r5=>some (r5.1,r5.2)))
noncomputable def Ffs (c_2 : l1Cur) : Option (Int × l1Cur) :=
  (Ffv c_2 16).bind fun r2=>bif r2.1 then ((Ffr r2.2 [(-1),36524,36525,1099511627776]).bind fun r3=>some (r3.1,r3.2)) else ((Fft r2.2).bind fun r4=>some (r4.1,r4.2))
noncomputable def Ffq (code_1 : List Int) : Option Int :=
  (Ffs (l1Cur.mk code_1 0 0)).bind fun r2=>some r2.1
noncomputable def Ffp (n_1 : Int) (low_2 : Int) (high_3 : Int) : Option Bool :=
  letJ (bif (decide (n_1 ≥ low_2)) then ((decide (n_1 ≤ high_3))) else (false)) fun u4 : Bool=>some u4
noncomputable def Ffm (day_1 : Int) : Option Bool :=
  (Ffp day_1 0 36524).bind fun r2=>some r2
noncomputable def Ffk (year_1 : Int) (month_2 : Int) : Option Int :=
  bif (month_2 == 2) then (bif ((year_1.tmod 4) == 0) then (some 29) else (some 28)) else (letJ (bif (month_2 == 4) then ((month_2 == 4)) else (letJ (bif (month_2 == 6) then ((month_2 == 6)) else (letJ (bif (month_2 == 9) then ((month_2 == 9)) else ((month_2 == 11))) fun u5 : Bool=>u5)) fun u4 : Bool=>u4)) fun u3 : Bool=>bif u3 then (some 30) else (some 31))
noncomputable def Ffl (year_1 : Int) : Option Int :=
  (Ffk year_1 2).bind fun r2=>some (w64 (337 + r2))
noncomputable def Ffh_la_F (day_1 : Int)  (self : (Int × Int)→Option (Date ⊕ (Int × Int))) (x2 : Int × Int) : Option (Date ⊕ (Int × Int)) :=
  (Ffl x2.2).bind fun r3=>bif (decide (x2.1 ≥ r3)) then ((Ffl x2.2).bind fun r4=>self ((w64 (x2.1 - r4)),(w64 (x2.2 + 1)))) else (some (.inr (x2.1,x2.2)))
noncomputable def Ffh_la (day_1 : Int)  : (Int × Int)→Option (Date ⊕ (Int × Int)):=fixO (Ffh_la_F day_1)
theorem Ffh_la_fin (day_1 : Int)  : ∀ a,Fin1 fun f=>Ffh_la_F day_1 f a:=by
  intro a
  unfold Ffh_la_F
  repeat first|exact f_const|exact f_self|refine f_cond ?_ ?_|refine f_bindJ ?_ (fun _=>?_)|refine f_bindL ?_ (fun _=>?_)|refine f_bind ?_ (fun _=>?_)|refine f_letJ (fun _=>?_)
theorem Ffh_la_eq (day_1 : Int)  (x : Int × Int) : Ffh_la day_1 x=Ffh_la_F day_1 (Ffh_la day_1) x:=fix_eq (Ffh_la_fin day_1) x
noncomputable def Ffh_lb_F (day_1 : Int) (u5 : Int × Int) (self : (Int × Int)→Option (Date ⊕ (Int × Int))) (x6 : Int × Int) : Option (Date ⊕ (Int × Int)) :=
  (Ffk u5.2 x6.2).bind fun r7=>bif (decide (x6.1 ≥ r7)) then ((Ffk u5.2 x6.2).bind fun r8=>self ((w64 (x6.1 - r8)),(w64 (x6.2 + 1)))) else (some (.inr (x6.1,x6.2)))
noncomputable def Ffh_lb (day_1 : Int) (u5 : Int × Int) : (Int × Int)→Option (Date ⊕ (Int × Int)):=fixO (Ffh_lb_F day_1 u5)
theorem Ffh_lb_fin (day_1 : Int) (u5 : Int × Int) : ∀ a,Fin1 fun f=>Ffh_lb_F day_1 u5 f a:=by
  intro a
  unfold Ffh_lb_F
  repeat first|exact f_const|exact f_self|refine f_cond ?_ ?_|refine f_bindJ ?_ (fun _=>?_)|refine f_bindL ?_ (fun _=>?_)|refine f_bind ?_ (fun _=>?_)|refine f_letJ (fun _=>?_)
theorem Ffh_lb_eq (day_1 : Int) (u5 : Int × Int) (x : Int × Int) : Ffh_lb day_1 u5 x=Ffh_lb_F day_1 u5 (Ffh_lb day_1 u5) x:=fix_eq (Ffh_lb_fin day_1 u5) x
noncomputable def Ffh (day_1 : Int) : Option Date :=
  bindJ (ρ:=Date) (Ffh_la day_1 (day_1,2000)) fun u5 : Int × Int=>bindJ (ρ:=Date) (Ffh_lb day_1 u5 (u5.1,1)) fun u9 : Int × Int=>some (Date.mk u5.2 u9.2 (w64 (u9.1 + 1)))
noncomputable def Ffa (day_1 : Int) : Option (Date × Bool) :=
  (Ffm day_1).bind fun r2=>bif (!r2) then (some ((Date.mk 0 0 0),false)) else ((Ffh day_1).bind fun r3=>some (r3,true))
noncomputable def Ffe (d_1 : Date) : Option Bool :=
  (Ffp d_1.Year 2000 2099).bind fun r2=>bindJ (ρ:=Bool) (bif r2 then ((Ffp d_1.Month 1 12).bind fun r4=>bindL (ρ:=Bool) (bif r4 then ((Ffk d_1.Year d_1.Month).bind fun r6=>(Ffp d_1.Day 1 r6).bind fun r7=>some (.inr r7)) else (some (.inr false))) fun u5 : Bool=>some (.inr u5)) else (some (.inr false))) fun u3 : Bool=>some u3
noncomputable def Ffj_la_F (d_1 : Date)  (self : (Int × Int)→Option (Int ⊕ Int)) (x2 : Int × Int) : Option (Int ⊕ Int) :=
  bif (decide (x2.2 < d_1.Year)) then ((Ffl x2.2).bind fun r3=>self ((w64 (x2.1 + r3)),(w64 (x2.2 + 1)))) else (some (.inr x2.1))
noncomputable def Ffj_la (d_1 : Date)  : (Int × Int)→Option (Int ⊕ Int):=fixO (Ffj_la_F d_1)
theorem Ffj_la_fin (d_1 : Date)  : ∀ a,Fin1 fun f=>Ffj_la_F d_1 f a:=by
  intro a
  unfold Ffj_la_F
  repeat first|exact f_const|exact f_self|refine f_cond ?_ ?_|refine f_bindJ ?_ (fun _=>?_)|refine f_bindL ?_ (fun _=>?_)|refine f_bind ?_ (fun _=>?_)|refine f_letJ (fun _=>?_)
theorem Ffj_la_eq (d_1 : Date)  (x : Int × Int) : Ffj_la d_1 x=Ffj_la_F d_1 (Ffj_la d_1) x:=fix_eq (Ffj_la_fin d_1) x
noncomputable def Ffj_lb_F (d_1 : Date)  (self : (Int × Int)→Option (Int ⊕ Int)) (x5 : Int × Int) : Option (Int ⊕ Int) :=
  bif (decide (x5.2 < d_1.Month)) then ((Ffk d_1.Year x5.2).bind fun r6=>self ((w64 (x5.1 + r6)),(w64 (x5.2 + 1)))) else (some (.inr x5.1))
noncomputable def Ffj_lb (d_1 : Date)  : (Int × Int)→Option (Int ⊕ Int):=fixO (Ffj_lb_F d_1)
theorem Ffj_lb_fin (d_1 : Date)  : ∀ a,Fin1 fun f=>Ffj_lb_F d_1 f a:=by
  intro a
  unfold Ffj_lb_F
  repeat first|exact f_const|exact f_self|refine f_cond ?_ ?_|refine f_bindJ ?_ (fun _=>?_)|refine f_bindL ?_ (fun _=>?_)|refine f_bind ?_ (fun _=>?_)|refine f_letJ (fun _=>?_)
theorem Ffj_lb_eq (d_1 : Date)  (x : Int × Int) : Ffj_lb d_1 x=Ffj_lb_F d_1 (Ffj_lb d_1) x:=fix_eq (Ffj_lb_fin d_1) x
noncomputable def Ffj (d_1 : Date) : Option Int :=
  bindJ (ρ:=Int) (Ffj_la d_1 ((w64 (d_1.Day - 1)),2000)) fun u4 : Int=>bindJ (ρ:=Int) (Ffj_lb d_1 (u4,1)) fun u7 : Int=>some u7
noncomputable def Ffb (d_1 : Date) : Option (Int × Bool) :=
  (Ffe d_1).bind fun r2=>bif (!r2) then (some (0,false)) else ((Ffj d_1).bind fun r3=>some (r3,true))
noncomputable def Ffn_la_F (n_1 : Int) (digits_2 : Int)  (self : Str→Option (Str ⊕ Str)) (x4 : Str) : Option (Str ⊕ Str) :=
  bif (decide ((len x4) < digits_2)) then ((catS ([48] : Str) x4).bind fun s5=>self s5) else (some (.inr x4))
noncomputable def Ffn_la (n_1 : Int) (digits_2 : Int)  : Str→Option (Str ⊕ Str):=fixO (Ffn_la_F n_1 digits_2)
theorem Ffn_la_fin (n_1 : Int) (digits_2 : Int)  : ∀ a,Fin1 fun f=>Ffn_la_F n_1 digits_2 f a:=by
  intro a
  unfold Ffn_la_F
  repeat first|exact f_const|exact f_self|refine f_cond ?_ ?_|refine f_bindJ ?_ (fun _=>?_)|refine f_bindL ?_ (fun _=>?_)|refine f_bind ?_ (fun _=>?_)|refine f_letJ (fun _=>?_)
theorem Ffn_la_eq (n_1 : Int) (digits_2 : Int)  (x : Str) : Ffn_la n_1 digits_2 x=Ffn_la_F n_1 digits_2 (Ffn_la n_1 digits_2) x:=fix_eq (Ffn_la_fin n_1 digits_2) x
noncomputable def Ffn (n_1 : Int) (digits_2 : Int) : Option Str :=
  (xItoa n_1).bind fun r3=>bindJ (ρ:=Str) (Ffn_la n_1 digits_2 r3) fun u6 : Str=>some u6
noncomputable def Ffi (day_1 : Int) : Option Str :=
  (Ffh day_1).bind fun r2=>(Ffn r2.Year 4).bind fun r3=>(catS r3 ([45] : Str)).bind fun s4=>(Ffn r2.Month 2).bind fun r5=>(catS s4 r5).bind fun s6=>(catS s6 ([45] : Str)).bind fun s7=>(Ffn r2.Day 2).bind fun r8=>(catS s7 r8).bind fun s9=>some s9
noncomputable def Ffc (day_1 : Int) : Option (Str × Bool) :=
  (Ffm day_1).bind fun r2=>bif (!r2) then (some (([] : Str),false)) else ((Ffi day_1).bind fun r3=>some (r3,true))
noncomputable def Fff (s_1 : Str) : Option (Int × Bool) :=
  bif ((len s_1) != 10) then (some (0,false)) else ((subI s_1 0 4).bind fun s2=>(xAtoi s2).bind fun r3=>(subI s_1 5 7).bind fun s4=>(xAtoi s4).bind fun r5=>(subI s_1 8 (len s_1)).bind fun s6=>(xAtoi s6).bind fun r7=>(Ffe (Date.mk r3.1 r5.1 r7.1)).bind fun r8=>bindJ (ρ:=Int × Bool) (bif (!r8) then (some (.inr true)) else ((Ffj (Date.mk r3.1 r5.1 r7.1)).bind fun r11=>(Ffi r11).bind fun r12=>some (.inr (!(r12 == s_1))))) fun u9 : Bool=>bif u9 then (some (0,false)) else ((Ffj (Date.mk r3.1 r5.1 r7.1)).bind fun r10=>some (r10,true)))
noncomputable def Ffo (day_1 : Int) : Option Int :=
  some ((w64 (day_1 + 5)).tmod 7)
noncomputable def Ffg (day_1 : Int) : Option (Int × Bool) :=
  (Ffm day_1).bind fun r2=>bif (!r2) then (some (0,false)) else ((Ffo day_1).bind fun r3=>some (r3,true))
noncomputable def Ffd (day_1 : Int) : Option (Bool × Bool) :=
  (Ffm day_1).bind fun r2=>bif (!r2) then (some (false,false)) else ((Ffh day_1).bind fun r3=>(Ffk r3.Year r3.Month).bind fun r4=>some ((r3.Day == r4),true))
noncomputable def laws_FnDates (code_1 : List Int) : Option Bool :=
  (laws_vBig code_1).bind fun r2=>bif r2 then (some true) else ((Ffq code_1).bind fun r3=>(Ffa r3).bind fun r4=>(Ffb r4.1).bind fun r5=>bindJ (ρ:=Bool) (bif (decide (r3 ≥ 0)) then (bindL (ρ:=Bool) (bif (!(r4.2 == (decide (r3 ≤ 36524)))) then (some (.inr true)) else (bindL (ρ:=Bool) (bif r4.2 then (bindL (ρ:=Bool) (bif (!r5.2) then (some (.inr true)) else (bindL (ρ:=Bool) (bif (r5.1 != r3) then (some (.inr true)) else ((Ffe r4.1).bind fun r22=>some (.inr (!r22)))) fun u21 : Bool=>some (.inr u21))) fun u20 : Bool=>some (.inr u20)) else (some (.inr false))) fun u19 : Bool=>some (.inr u19))) fun u18 : Bool=>some (.inr u18)) else (bindL (ρ:=Bool) (bif (!(r4.2 == false)) then (some (.inr true)) else (bindL (ρ:=Bool) (bif r4.2 then (bindL (ρ:=Bool) (bif (!r5.2) then (some (.inr true)) else (bindL (ρ:=Bool) (bif (r5.1 != r3) then (some (.inr true)) else ((Ffe r4.1).bind fun r27=>some (.inr (!r27)))) fun u26 : Bool=>some (.inr u26))) fun u25 : Bool=>some (.inr u25)) else (some (.inr false))) fun u24 : Bool=>some (.inr u24))) fun u23 : Bool=>some (.inr u23))) fun u6 : Bool=>bif u6 then (some false) else (bif (!r4.2) then (some (r4.1.Year == 0 && (r4.1.Month == 0 && (r4.1.Day == 0 && true)))) else ((Ffc r3).bind fun r7=>(Fff r7.1).bind fun r8=>(Ffg r3).bind fun r9=>(Ffd r3).bind fun r10=>(Ffa (w64 (r3 + 1))).bind fun r11=>letJ (bif (!r8.2) then (true) else (letJ (bif (r8.1 != r3) then (true) else (letJ (bif (!r9.2) then (true) else (letJ (bif (!r10.2) then (true) else ((r9.1 != ((w64 (r3 + 5)).tmod 7)))) fun u17 : Bool=>u17)) fun u16 : Bool=>u16)) fun u15 : Bool=>u15)) fun u12 : Bool=>bif u12 then (some false) else (bif (!r11.2) then (letJ (bif (r3 == 36524) then (r10.1) else (false)) fun u13 : Bool=>some u13) else (bif r10.1 then (letJ (bif (r11.1.Day == 1) then ((r11.1.Month == (w64 ((r4.1.Month.tmod 12) + 1)))) else (false)) fun u14 : Bool=>some u14) else (some (r11.1.Year == r4.1.Year && (r11.1.Month == r4.1.Month && (r11.1.Day == (w64 (r4.1.Day + 1)) && true)))))))))
end Go.Ln
