/-
  What each function of the law computes, as a plain function.
-/
import Derived.Test.YtgcnameabpnpaaaDoorLnD
set_option maxHeartbeats 4000000
set_option linter.unusedVariables false
set_option linter.unusedSimpArgs false
set_option maxRecDepth 100000
namespace Go.Ln
open Go
structure Event where
  Day : Int
  Party : Int
  Action : Str
  Amount : Int
def enc_Event (x : Event) : V:=.agg [I (x.Day),I (x.Party),str (x.Action),I (x.Amount)]
theorem enc_Event_cells (x : Event) : (cells (enc_Event x)).length=4 ∧ (cells (enc_Event x)).all cellV=true:=⟨rfl,rfl⟩
theorem enc_Event_imm (x : Event) : imm (enc_Event x)=enc_Event x:=rfl
theorem enc_Event_himm (x : Event) : hasImm (enc_Event x)=false:=rfl
theorem enc_Event_flat (x : Event) : flatE (enc_Event x)=true:=rfl
theorem enc_Event_inj (a b : Event) (h : enc_Event a=enc_Event b) : a=b:=by
  obtain ⟨p0,p1,p2,p3⟩:=a
  obtain ⟨q0,q1,q2,q3⟩:=b
  replace h:=V.agg.inj h
  obtain ⟨h0,h⟩:=List.cons.inj h
  obtain rfl:=I_inj p0 q0 h0
  obtain ⟨h1,h⟩:=List.cons.inj h
  obtain rfl:=I_inj p1 q1 h1
  obtain ⟨h2,h⟩:=List.cons.inj h
  obtain rfl:=str_inj p2 q2 h2
  obtain ⟨h3,h⟩:=List.cons.inj h
  obtain rfl:=I_inj p3 q3 h3
  rfl
def ok_Event (x : Event) : Prop:=I64 x.Day ∧ I64 x.Party ∧ okS x.Action ∧ I64 x.Amount
noncomputable def Ffw (a_1 : Event) (left_2 : Int) : Option Int :=
  bif (decide ((w64 (left_2 - (len a_1.Action))) < 0)) then (some (-1)) else (some (w64 (left_2 - (len a_1.Action))))
noncomputable def Ffx_la_F (a_1 : List Event) (left_2 : Int)  (self : (Int × Int)→Option (Int ⊕ Int)) (x3 : Int × Int) : Option (Int ⊕ Int) :=
  bif (decide (x3.2 < (len a_1))) then ((getI a_1 x3.2).bind fun e4=>(Ffw e4 x3.1).bind fun r5=>bif (decide (r5 < 0)) then (some (.inl (-1))) else (self (r5,(w64 (x3.2 + 1))))) else (some (.inr x3.1))
noncomputable def Ffx_la (a_1 : List Event) (left_2 : Int)  : (Int × Int)→Option (Int ⊕ Int):=fixO (Ffx_la_F a_1 left_2)
theorem Ffx_la_fin (a_1 : List Event) (left_2 : Int)  : ∀ a,Fin1 fun f=>Ffx_la_F a_1 left_2 f a:=by
  intro a
  unfold Ffx_la_F
  repeat first|exact f_const|exact f_self|refine f_cond ?_ ?_|refine f_bindJ ?_ (fun _=>?_)|refine f_bindL ?_ (fun _=>?_)|refine f_bind ?_ (fun _=>?_)|refine f_letJ (fun _=>?_)
theorem Ffx_la_eq (a_1 : List Event) (left_2 : Int)  (x : Int × Int) : Ffx_la a_1 left_2 x=Ffx_la_F a_1 left_2 (Ffx_la a_1 left_2) x:=fix_eq (Ffx_la_fin a_1 left_2) x
noncomputable def Ffx (a_1 : List Event) (left_2 : Int) : Option Int :=
  bif (decide ((w64 (left_2 - (len a_1))) < 0)) then (some (-1)) else (bindJ (ρ:=Int) (Ffx_la a_1 left_2 ((w64 (left_2 - (len a_1))),0)) fun u6 : Int=>some u6)
noncomputable def Ffy (a_1 : Event) : Option Event :=
  some a_1
noncomputable def Ffz_la_F (a_1 : List Event)  (self : (Int × (List Event))→Option (((List Event)) ⊕ ((List Event)))) (x3 : Int × (List Event)) : Option (((List Event)) ⊕ ((List Event))) :=
  bif (decide (x3.1 < (len a_1))) then ((getI a_1 x3.1).bind fun e4=>(Ffy e4).bind fun r5=>(getI x3.2 x3.1).bind fun e6=>self ((w64 (x3.1 + 1)),(setI x3.2 x3.1 r5))) else (some (.inr x3.2))
noncomputable def Ffz_la (a_1 : List Event)  : (Int × (List Event))→Option (((List Event)) ⊕ ((List Event))):=fixO (Ffz_la_F a_1)
theorem Ffz_la_fin (a_1 : List Event)  : ∀ a,Fin1 fun f=>Ffz_la_F a_1 f a:=by
  intro a
  unfold Ffz_la_F
  repeat first|exact f_const|exact f_self|refine f_cond ?_ ?_|refine f_bindJ ?_ (fun _=>?_)|refine f_bindL ?_ (fun _=>?_)|refine f_bind ?_ (fun _=>?_)|refine f_letJ (fun _=>?_)
theorem Ffz_la_eq (a_1 : List Event)  (x : Int × (List Event)) : Ffz_la a_1 x=Ffz_la_F a_1 (Ffz_la a_1) x:=fix_eq (Ffz_la_fin a_1) x
noncomputable def Ffz (a_1 : List Event) : Option ((List Event)) :=
  (mkI 40 (Event.mk 0 0 [] 0) (len a_1)).bind fun m2=>bindJ (ρ:=(List Event)) (Ffz_la a_1 (0,m2)) fun u7 : (List Event)=>some u7
noncomputable def Ffcc (a_1 : Event) (b_2 : Event) : Option Int :=
  bindJ (ρ:=Int) (bif (a_1.Day != b_2.Day) then (some (.inr (a_1.Day,b_2.Day))) else (bindL (ρ:=Int) (bif (a_1.Party != b_2.Party) then (some (.inr (a_1.Party,b_2.Party))) else (bif (Op.bytesLess a_1.Action b_2.Action) then (some (.inl (-1))) else (bif (!(Op.bytesLess a_1.Action b_2.Action || a_1.Action == b_2.Action)) then (some (.inl 1)) else (some (.inr (a_1.Amount,b_2.Amount)))))) fun u4 : Int × Int=>some (.inr (u4.1,u4.2)))) fun u3 : Int × Int=>bif (decide (u3.1 < u3.2)) then (some (-1)) else (bif (decide (u3.1 > u3.2)) then (some 1) else (some 0))
noncomputable def spec_l1In (x_1 : Int) (a_2 : Int) (b_3 : Int) : Option Bool :=
  letJ (bif (decide (x_1 ≥ a_2)) then ((decide (x_1 ≤ b_3))) else (false)) fun u4 : Bool=>some u4
noncomputable def Ffbz (day_1 : Int) : Option Bool :=
  (spec_l1In day_1 0 36524).bind fun r2=>some r2
noncomputable def Ffcb (b_1 : Int) : Option Bool :=
  letJ (bif (decide (b_1 ≥ 97)) then (letJ (bif (decide (b_1 ≤ 122)) then (true) else (letJ (bif (decide (b_1 ≥ 48)) then ((decide (b_1 ≤ 57))) else (false)) fun u4 : Bool=>u4)) fun u3 : Bool=>u3) else (letJ (bif (decide (b_1 ≥ 48)) then ((decide (b_1 ≤ 57))) else (false)) fun u5 : Bool=>u5)) fun u2 : Bool=>some u2
noncomputable def Ffca_la_F (s_1 : Str)  (self : Int→Option (Bool ⊕ Unit)) (x4 : Int) : Option (Bool ⊕ Unit) :=
  bif (decide (x4 < (len s_1))) then ((getI s_1 x4).bind fun c5=>(Ffcb (c5.toNat : Int)).bind fun r6=>bif (!r6) then (some (.inl false)) else (self (w64 (x4 + 1)))) else (some (.inr ()))
noncomputable def Ffca_la (s_1 : Str)  : Int→Option (Bool ⊕ Unit):=fixO (Ffca_la_F s_1)
theorem Ffca_la_fin (s_1 : Str)  : ∀ a,Fin1 fun f=>Ffca_la_F s_1 f a:=by
  intro a
  unfold Ffca_la_F
  repeat first|exact f_const|exact f_self|refine f_cond ?_ ?_|refine f_bindJ ?_ (fun _=>?_)|refine f_bindL ?_ (fun _=>?_)|refine f_bind ?_ (fun _=>?_)|refine f_letJ (fun _=>?_)
theorem Ffca_la_eq (s_1 : Str)  (x : Int) : Ffca_la s_1 x=Ffca_la_F s_1 (Ffca_la s_1) x:=fix_eq (Ffca_la_fin s_1) x
noncomputable def Ffca (s_1 : Str) : Option Bool :=
  (spec_l1In (len s_1) 1 8).bind fun r2=>bindJ (ρ:=Bool) (bif (!r2) then (some (.inr true)) else ((getI s_1 0).bind fun c16=>bindL (ρ:=Bool) (bif (decide ((c16.toNat : Int) < 97)) then (some (.inr true)) else ((getI s_1 0).bind fun c18=>some (.inr (decide ((c18.toNat : Int) > 122))))) fun u17 : Bool=>some (.inr u17))) fun u3 : Bool=>bif u3 then (some false) else (bindJ (ρ:=Bool) (Ffca_la s_1 0) fun u7 : Unit=>letJ (bif (s_1 == ([116,114,117,101] : Str)) then ((s_1 == ([116,114,117,101] : Str))) else (letJ (bif (s_1 == ([102,114,111,109] : Str)) then ((s_1 == ([102,114,111,109] : Str))) else (letJ (bif (s_1 == ([110,111,116] : Str)) then ((s_1 == ([110,111,116] : Str))) else (letJ (bif (s_1 == ([97,110,100] : Str)) then ((s_1 == ([97,110,100] : Str))) else (letJ (bif (s_1 == ([111,114] : Str)) then ((s_1 == ([111,114] : Str))) else (letJ (bif (s_1 == ([98,111,116,104] : Str)) then ((s_1 == ([98,111,116,104] : Str))) else (letJ (bif (s_1 == ([101,105,116,104,101,114] : Str)) then ((s_1 == ([101,105,116,104,101,114] : Str))) else (letJ (bif (s_1 == ([105,116] : Str)) then ((s_1 == ([105,116] : Str))) else ((s_1 == ([105,110] : Str)))) fun u15 : Bool=>u15)) fun u14 : Bool=>u14)) fun u13 : Bool=>u13)) fun u12 : Bool=>u12)) fun u11 : Bool=>u11)) fun u10 : Bool=>u10)) fun u9 : Bool=>u9)) fun u8 : Bool=>bif u8 then (some false) else (some true))
noncomputable def Ffcd (e_1 : Event) (parties_2 : Int) : Option Bool :=
  (Ffbz e_1.Day).bind fun r3=>bindJ (ρ:=Bool) (bif r3 then ((spec_l1In e_1.Party 0 (w64 (parties_2 - 1))).bind fun r5=>bindL (ρ:=Bool) (bif r5 then ((Ffca e_1.Action).bind fun r7=>bindL (ρ:=Bool) (bif r7 then ((spec_l1In e_1.Amount 0 1000000).bind fun r9=>some (.inr r9)) else (some (.inr false))) fun u8 : Bool=>some (.inr u8)) else (some (.inr false))) fun u6 : Bool=>some (.inr u6)) else (some (.inr false))) fun u4 : Bool=>some u4
noncomputable def Ffcg_la_F (list_1 : List Event) (parties_2 : Int)  (self : Int→Option (Bool ⊕ Unit)) (x3 : Int) : Option (Bool ⊕ Unit) :=
  letJ (bif (decide (x3 < (len list_1))) then ((decide (x3 ≤ 40))) else (false)) fun u4 : Bool=>bif u4 then ((getI list_1 x3).bind fun e5=>(Ffcd e5 parties_2).bind fun r6=>bif (!r6) then (some (.inl false)) else (self (w64 (x3 + 1)))) else (some (.inr ()))
noncomputable def Ffcg_la (list_1 : List Event) (parties_2 : Int)  : Int→Option (Bool ⊕ Unit):=fixO (Ffcg_la_F list_1 parties_2)
theorem Ffcg_la_fin (list_1 : List Event) (parties_2 : Int)  : ∀ a,Fin1 fun f=>Ffcg_la_F list_1 parties_2 f a:=by
  intro a
  unfold Ffcg_la_F
  repeat first|exact f_const|exact f_self|refine f_cond ?_ ?_|refine f_bindJ ?_ (fun _=>?_)|refine f_bindL ?_ (fun _=>?_)|refine f_bind ?_ (fun _=>?_)|refine f_letJ (fun _=>?_)
theorem Ffcg_la_eq (list_1 : List Event) (parties_2 : Int)  (x : Int) : Ffcg_la list_1 parties_2 x=Ffcg_la_F list_1 parties_2 (Ffcg_la list_1 parties_2) x:=fix_eq (Ffcg_la_fin list_1 parties_2) x
noncomputable def Ffcg (list_1 : List Event) (parties_2 : Int) : Option Bool :=
  bindJ (ρ:=Bool) (Ffcg_la list_1 parties_2 0) fun u7 : Unit=>bindJ (ρ:=Bool) (bif (decide ((len list_1) ≤ 40)) then ((spec_l1In parties_2 2 4).bind fun r9=>some (.inr r9)) else (some (.inr false))) fun u8 : Bool=>some u8
noncomputable def Ffce_la_F (list_1 : List Event) (parties_2 : Int)  (self : Int→Option (Bool ⊕ Unit)) (x3 : Int) : Option (Bool ⊕ Unit) :=
  letJ (bif (decide (x3 < (len list_1))) then ((decide (x3 ≤ 40))) else (false)) fun u4 : Bool=>bif u4 then ((getI list_1 (w64 (x3 - 1))).bind fun e5=>(getI list_1 x3).bind fun e6=>(Ffcc e5 e6).bind fun r7=>bif (decide (r7 > 0)) then (some (.inl false)) else (self (w64 (x3 + 1)))) else (some (.inr ()))
noncomputable def Ffce_la (list_1 : List Event) (parties_2 : Int)  : Int→Option (Bool ⊕ Unit):=fixO (Ffce_la_F list_1 parties_2)
theorem Ffce_la_fin (list_1 : List Event) (parties_2 : Int)  : ∀ a,Fin1 fun f=>Ffce_la_F list_1 parties_2 f a:=by
  intro a
  unfold Ffce_la_F
  repeat first|exact f_const|exact f_self|refine f_cond ?_ ?_|refine f_bindJ ?_ (fun _=>?_)|refine f_bindL ?_ (fun _=>?_)|refine f_bind ?_ (fun _=>?_)|refine f_letJ (fun _=>?_)
theorem Ffce_la_eq (list_1 : List Event) (parties_2 : Int)  (x : Int) : Ffce_la list_1 parties_2 x=Ffce_la_F list_1 parties_2 (Ffce_la list_1 parties_2) x:=fix_eq (Ffce_la_fin list_1 parties_2) x
noncomputable def Ffce (list_1 : List Event) (parties_2 : Int) : Option Bool :=
  bindJ (ρ:=Bool) (Ffce_la list_1 parties_2 1) fun u8 : Unit=>(Ffcg list_1 parties_2).bind fun r9=>some r9
noncomputable def Ffcf_lb_F (list_1 : List Event) (x2 : Int × (List Event)) (self : Int→Option (((List Event)) ⊕ Int)) (x3 : Int) : Option (((List Event)) ⊕ Int) :=
  bindL (ρ:=(List Event)) (bif (decide (x3 > 0)) then ((getI list_1 x2.1).bind fun e5=>(getI x2.2 (w64 (x3 - 1))).bind fun e6=>(Ffcc e5 e6).bind fun r7=>some (.inr (decide (r7 < 0)))) else (some (.inr false))) fun u4 : Bool=>bif u4 then (self (w64 (x3 - 1))) else (some (.inr x3))
noncomputable def Ffcf_lb (list_1 : List Event) (x2 : Int × (List Event)) : Int→Option (((List Event)) ⊕ Int):=fixO (Ffcf_lb_F list_1 x2)
theorem Ffcf_lb_fin (list_1 : List Event) (x2 : Int × (List Event)) : ∀ a,Fin1 fun f=>Ffcf_lb_F list_1 x2 f a:=by
  intro a
  unfold Ffcf_lb_F
  repeat first|exact f_const|exact f_self|refine f_cond ?_ ?_|refine f_bindJ ?_ (fun _=>?_)|refine f_bindL ?_ (fun _=>?_)|refine f_bind ?_ (fun _=>?_)|refine f_letJ (fun _=>?_)
theorem Ffcf_lb_eq (list_1 : List Event) (x2 : Int × (List Event)) (x : Int) : Ffcf_lb list_1 x2 x=Ffcf_lb_F list_1 x2 (Ffcf_lb list_1 x2) x:=fix_eq (Ffcf_lb_fin list_1 x2) x
noncomputable def Ffcf_la_F (list_1 : List Event)  (self : (Int × (List Event))→Option (((List Event)) ⊕ ((List Event)))) (x2 : Int × (List Event)) : Option (((List Event)) ⊕ ((List Event))) :=
  bif (decide (x2.1 < (len list_1))) then (bindL (ρ:=(List Event)) (Ffcf_lb list_1 x2 (len x2.2)) fun u8 : Int=>(subP x2.2.length 0 u8).bind fun s9=>(partP x2.2 (0 + Int.toNat (0)) (Int.toNat (u8) - Int.toNat (0))).bind fun p10=>(appI 40 ([] : List Event) p10).bind fun a11=>(getI list_1 x2.1).bind fun e12=>(appI 40 a11 [e12]).bind fun a13=>(subP x2.2.length u8 (len x2.2)).bind fun s14=>(partP x2.2 (0 + Int.toNat (u8)) (Int.toNat (len x2.2) - Int.toNat (u8))).bind fun p15=>(appI 40 a13 p15).bind fun a16=>self ((w64 (x2.1 + 1)),a16)) else (some (.inr x2.2))
noncomputable def Ffcf_la (list_1 : List Event)  : (Int × (List Event))→Option (((List Event)) ⊕ ((List Event))):=fixO (Ffcf_la_F list_1)
theorem Ffcf_la_fin (list_1 : List Event)  : ∀ a,Fin1 fun f=>Ffcf_la_F list_1 f a:=by
  intro a
  unfold Ffcf_la_F
  repeat first|exact f_const|exact f_self|refine f_cond ?_ ?_|refine f_bindJ ?_ (fun _=>?_)|refine f_bindL ?_ (fun _=>?_)|refine f_bind ?_ (fun _=>?_)|refine f_letJ (fun _=>?_)
theorem Ffcf_la_eq (list_1 : List Event)  (x : Int × (List Event)) : Ffcf_la list_1 x=Ffcf_la_F list_1 (Ffcf_la list_1) x:=fix_eq (Ffcf_la_fin list_1) x
noncomputable def Ffcf (list_1 : List Event) : Option ((List Event)) :=
  bindJ (ρ:=(List Event)) (Ffcf_la list_1 (0,[])) fun u17 : (List Event)=>some u17
noncomputable def Ffby (a_1 : List Event) (b_2 : List Event) (parties_3 : Int) : Option ((List Event) × Bool) :=
  (Ffce a_1 parties_3).bind fun r4=>bindJ (ρ:=(List Event) × Bool) (bif (!r4) then (some (.inr true)) else ((Ffce b_2 parties_3).bind fun r9=>letJ (bif (!r9) then (true) else ((decide ((w64 ((len a_1) + (len b_2))) > 40)))) fun u10 : Bool=>some (.inr u10))) fun u5 : Bool=>bif u5 then (some ([],false)) else ((appI 40 ([] : List Event) a_1).bind fun a6=>(appI 40 a6 b_2).bind fun a7=>(Ffcf a7).bind fun r8=>some (r8,true))
noncomputable def Ffo (n_1 : Int) (low_2 : Int) (high_3 : Int) : Option Bool :=
  letJ (bif (decide (n_1 ≥ low_2)) then ((decide (n_1 ≤ high_3))) else (false)) fun u4 : Bool=>some u4
noncomputable def Ffm (day_1 : Int) : Option Bool :=
  (Ffo day_1 0 36524).bind fun r2=>some r2
noncomputable def Ffq (s_1 : Str) (c_2 : Int) : Option Int :=
  (xIndexByteString s_1 c_2).bind fun r3=>some r3
noncomputable def Ffp (s_1 : Str) (substr_2 : Str) : Option Int :=
  letJ (bif ((len substr_2) == 0) then (true) else ((substr_2 == s_1))) fun u3 : Bool=>bif u3 then (some 0) else (bif ((len substr_2) == 1) then ((getI substr_2 0).bind fun c4=>(Ffq s_1 (c4.toNat : Int)).bind fun r5=>some r5) else (bif (decide ((len substr_2) ≥ (len s_1))) then (some (-1)) else (none)))
noncomputable def Ffci (s_1 : Str) (substr_2 : Str) : Option Int :=
  (Ffp s_1 substr_2).bind fun r3=>some r3
noncomputable def Ffch_la_F (s_1 : Str) (substr_2 : Str)  (self : (Str × Int)→Option (Int ⊕ Unit)) (x5 : Str × Int) : Option (Int ⊕ Unit) :=
  (Ffci x5.1 substr_2).bind fun r6=>bif (r6 == (-1)) then (some (.inl x5.2)) else ((subI x5.1 (w64 (r6 + (len substr_2))) (len x5.1)).bind fun s7=>self (s7,(w64 (x5.2 + 1))))
noncomputable def Ffch_la (s_1 : Str) (substr_2 : Str)  : (Str × Int)→Option (Int ⊕ Unit):=fixO (Ffch_la_F s_1 substr_2)
theorem Ffch_la_fin (s_1 : Str) (substr_2 : Str)  : ∀ a,Fin1 fun f=>Ffch_la_F s_1 substr_2 f a:=by
  intro a
  unfold Ffch_la_F
  repeat first|exact f_const|exact f_self|refine f_cond ?_ ?_|refine f_bindJ ?_ (fun _=>?_)|refine f_bindL ?_ (fun _=>?_)|refine f_bind ?_ (fun _=>?_)|refine f_letJ (fun _=>?_)
theorem Ffch_la_eq (s_1 : Str) (substr_2 : Str)  (x : Str × Int) : Ffch_la s_1 substr_2 x=Ffch_la_F s_1 substr_2 (Ffch_la s_1 substr_2) x:=fix_eq (Ffch_la_fin s_1 substr_2) x
noncomputable def Ffch (s_1 : Str) (substr_2 : Str) : Option Int :=
  bif ((len substr_2) == 0) then (none) else (bif ((len substr_2) == 1) then ((getI substr_2 0).bind fun c3=>(xCountString s_1 (c3.toNat : Int)).bind fun r4=>some r4) else (bindJ (ρ:=Int) (Ffch_la s_1 substr_2 (s_1,0)) fun u8 : Unit=>none))
noncomputable def Ffck_la_F (s_1 : Str) (sep_2 : Str) (sepSave_3 : Int) (n_4 : Int) (u5 : Int) (self : (Str × Int × (List Str))→Option (((List Str)) ⊕ (Str × Int × (List Str)))) (x7 : Str × Int × (List Str)) : Option (((List Str)) ⊕ (Str × Int × (List Str))) :=
  bif (decide (x7.2.1 < (w64 ((if (w64 ((len s_1) + 1)) < u5 then (w64 ((len s_1) + 1)) else u5) - 1)))) then ((Ffci x7.1 sep_2).bind fun r8=>bif (decide (r8 < 0)) then (some (.inr (x7.1,x7.2.1,x7.2.2))) else ((subI x7.1 0 (w64 (r8 + sepSave_3))).bind fun s9=>(getI x7.2.2 x7.2.1).bind fun e10=>(subI x7.1 (w64 (r8 + (len sep_2))) (len x7.1)).bind fun s11=>self (s11,(w64 (x7.2.1 + 1)),(setI x7.2.2 x7.2.1 s9)))) else (some (.inr (x7.1,x7.2.1,x7.2.2)))
noncomputable def Ffck_la (s_1 : Str) (sep_2 : Str) (sepSave_3 : Int) (n_4 : Int) (u5 : Int) : (Str × Int × (List Str))→Option (((List Str)) ⊕ (Str × Int × (List Str))):=fixO (Ffck_la_F s_1 sep_2 sepSave_3 n_4 u5)
theorem Ffck_la_fin (s_1 : Str) (sep_2 : Str) (sepSave_3 : Int) (n_4 : Int) (u5 : Int) : ∀ a,Fin1 fun f=>Ffck_la_F s_1 sep_2 sepSave_3 n_4 u5 f a:=by
  intro a
  unfold Ffck_la_F
  repeat first|exact f_const|exact f_self|refine f_cond ?_ ?_|refine f_bindJ ?_ (fun _=>?_)|refine f_bindL ?_ (fun _=>?_)|refine f_bind ?_ (fun _=>?_)|refine f_letJ (fun _=>?_)
theorem Ffck_la_eq (s_1 : Str) (sep_2 : Str) (sepSave_3 : Int) (n_4 : Int) (u5 : Int) (x : Str × Int × (List Str)) : Ffck_la s_1 sep_2 sepSave_3 n_4 u5 x=Ffck_la_F s_1 sep_2 sepSave_3 n_4 u5 (Ffck_la s_1 sep_2 sepSave_3 n_4 u5) x:=fix_eq (Ffck_la_fin s_1 sep_2 sepSave_3 n_4 u5) x
noncomputable def Ffck (s_1 : Str) (sep_2 : Str) (sepSave_3 : Int) (n_4 : Int) : Option ((List Str)) :=
  bif (n_4 == 0) then (some []) else (bif (sep_2 == ([] : Str)) then (none) else (bindJ (ρ:=(List Str)) (bif (decide (n_4 < 0)) then ((Ffch s_1 sep_2).bind fun r16=>some (.inr (w64 (r16 + 1)))) else (some (.inr n_4))) fun u5 : Int=>(mkI 16 [] (if (w64 ((len s_1) + 1)) < u5 then (w64 ((len s_1) + 1)) else u5)).bind fun m6=>bindJ (ρ:=(List Str)) (Ffck_la s_1 sep_2 sepSave_3 n_4 u5 (s_1,0,m6)) fun u12 : Str × Int × (List Str)=>(getI u12.2.2 u12.2.1).bind fun e13=>(subP (setI u12.2.2 u12.2.1 u12.1).length 0 (w64 (u12.2.1 + 1))).bind fun s14=>(partP (setI u12.2.2 u12.2.1 u12.1) (0 + Int.toNat (0)) (Int.toNat ((w64 (u12.2.1 + 1))) - Int.toNat (0))).bind fun p15=>some p15))
noncomputable def Ffcj (s_1 : Str) (sep_2 : Str) : Option ((List Str)) :=
  (Ffck s_1 sep_2 0 (-1)).bind fun r3=>some r3
noncomputable def Ffbg_la_F (s_1 : List Str) (v_2 : Str)  (self : Int→Option (Int ⊕ Unit)) (x3 : Int) : Option (Int ⊕ Unit) :=
  bif (decide (x3 < (len s_1))) then ((getI s_1 x3).bind fun e4=>bif (v_2 == e4) then (some (.inl x3)) else (self (w64 (x3 + 1)))) else (some (.inr ()))
noncomputable def Ffbg_la (s_1 : List Str) (v_2 : Str)  : Int→Option (Int ⊕ Unit):=fixO (Ffbg_la_F s_1 v_2)
theorem Ffbg_la_fin (s_1 : List Str) (v_2 : Str)  : ∀ a,Fin1 fun f=>Ffbg_la_F s_1 v_2 f a:=by
  intro a
  unfold Ffbg_la_F
  repeat first|exact f_const|exact f_self|refine f_cond ?_ ?_|refine f_bindJ ?_ (fun _=>?_)|refine f_bindL ?_ (fun _=>?_)|refine f_bind ?_ (fun _=>?_)|refine f_letJ (fun _=>?_)
theorem Ffbg_la_eq (s_1 : List Str) (v_2 : Str)  (x : Int) : Ffbg_la s_1 v_2 x=Ffbg_la_F s_1 v_2 (Ffbg_la s_1 v_2) x:=fix_eq (Ffbg_la_fin s_1 v_2) x
noncomputable def Ffbg (s_1 : List Str) (v_2 : Str) : Option Int :=
  bindJ (ρ:=Int) (Ffbg_la s_1 v_2 0) fun u5 : Unit=>some (-1)
noncomputable def Ffbe (s_1 : List Str) (v_2 : Str) : Option Bool :=
  (Ffbg s_1 v_2).bind fun r3=>some (decide (r3 ≥ 0))
noncomputable def Ffh_la_F (s_1 : Str)  (self : Int→Option (Bool ⊕ Unit)) (x4 : Int) : Option (Bool ⊕ Unit) :=
  bif (decide (x4 < (len s_1))) then ((getI s_1 x4).bind fun c5=>letJ (bif (decide ((c5.toNat : Int) < 97)) then (letJ (bif (decide ((c5.toNat : Int) < 48)) then (true) else ((decide ((c5.toNat : Int) > 57)))) fun u7 : Bool=>u7) else (letJ (bif (decide ((c5.toNat : Int) > 122)) then (letJ (bif (decide ((c5.toNat : Int) < 48)) then (true) else ((decide ((c5.toNat : Int) > 57)))) fun u9 : Bool=>u9) else (false)) fun u8 : Bool=>u8)) fun u6 : Bool=>bif u6 then (some (.inl false)) else (self (w64 (x4 + 1)))) else (some (.inr ()))
noncomputable def Ffh_la (s_1 : Str)  : Int→Option (Bool ⊕ Unit):=fixO (Ffh_la_F s_1)
theorem Ffh_la_fin (s_1 : Str)  : ∀ a,Fin1 fun f=>Ffh_la_F s_1 f a:=by
  intro a
  unfold Ffh_la_F
  repeat first|exact f_const|exact f_self|refine f_cond ?_ ?_|refine f_bindJ ?_ (fun _=>?_)|refine f_bindL ?_ (fun _=>?_)|refine f_bind ?_ (fun _=>?_)|refine f_letJ (fun _=>?_)
theorem Ffh_la_eq (s_1 : Str)  (x : Int) : Ffh_la s_1 x=Ffh_la_F s_1 (Ffh_la s_1) x:=fix_eq (Ffh_la_fin s_1) x
noncomputable def Ffh (s_1 : Str) : Option Bool :=
  (Ffo (len s_1) 1 8).bind fun r2=>bindJ (ρ:=Bool) (bif (!r2) then (some (.inr true)) else ((getI s_1 0).bind fun c13=>bindL (ρ:=Bool) (bif (decide ((c13.toNat : Int) < 97)) then (some (.inr true)) else ((getI s_1 0).bind fun c15=>some (.inr (decide ((c15.toNat : Int) > 122))))) fun u14 : Bool=>some (.inr u14))) fun u3 : Bool=>bif u3 then (some false) else (bindJ (ρ:=Bool) (Ffh_la s_1 0) fun u10 : Unit=>(Ffcj ([116,114,117,101,32,102,114,111,109,32,110,111,116,32,97,110,100,32,111,114,32,98,111,116,104,32,101,105,116,104,101,114,32,105,116,32,105,110] : Str) ([32] : Str)).bind fun r11=>(Ffbe r11 s_1).bind fun r12=>some (!r12))
noncomputable def Ffn (e_1 : Event) (parties_2 : Int) : Option Bool :=
  (Ffm e_1.Day).bind fun r3=>bindJ (ρ:=Bool) (bif r3 then ((Ffo e_1.Party 0 (w64 (parties_2 - 1))).bind fun r5=>bindL (ρ:=Bool) (bif r5 then ((Ffh e_1.Action).bind fun r7=>bindL (ρ:=Bool) (bif r7 then ((Ffo e_1.Amount 0 1000000).bind fun r9=>some (.inr r9)) else (some (.inr false))) fun u8 : Bool=>some (.inr u8)) else (some (.inr false))) fun u6 : Bool=>some (.inr u6)) else (some (.inr false))) fun u4 : Bool=>some u4
noncomputable def Ffl (e_1 : Event) (a_2 : Int) : Option Bool :=
  (Ffn e_1 a_2).bind fun r3=>some (!r3)
noncomputable def Ffbf_la_F (s_1 : List Event) (f_2 : Int)  (self : Int→Option (Int ⊕ Unit)) (x3 : Int) : Option (Int ⊕ Unit) :=
  bif (decide (x3 < (len s_1))) then ((getI s_1 x3).bind fun e4=>(Ffl e4 f_2).bind fun r5=>bif r5 then (some (.inl x3)) else (self (w64 (x3 + 1)))) else (some (.inr ()))
noncomputable def Ffbf_la (s_1 : List Event) (f_2 : Int)  : Int→Option (Int ⊕ Unit):=fixO (Ffbf_la_F s_1 f_2)
theorem Ffbf_la_fin (s_1 : List Event) (f_2 : Int)  : ∀ a,Fin1 fun f=>Ffbf_la_F s_1 f_2 f a:=by
  intro a
  unfold Ffbf_la_F
  repeat first|exact f_const|exact f_self|refine f_cond ?_ ?_|refine f_bindJ ?_ (fun _=>?_)|refine f_bindL ?_ (fun _=>?_)|refine f_bind ?_ (fun _=>?_)|refine f_letJ (fun _=>?_)
theorem Ffbf_la_eq (s_1 : List Event) (f_2 : Int)  (x : Int) : Ffbf_la s_1 f_2 x=Ffbf_la_F s_1 f_2 (Ffbf_la s_1 f_2) x:=fix_eq (Ffbf_la_fin s_1 f_2) x
noncomputable def Ffbf (s_1 : List Event) (f_2 : Int) : Option Int :=
  bindJ (ρ:=Int) (Ffbf_la s_1 f_2 0) fun u6 : Unit=>some (-1)
noncomputable def Ffbd (s_1 : List Event) (f_2 : Int) : Option Bool :=
  (Ffbf s_1 f_2).bind fun r3=>some (decide (r3 ≥ 0))
noncomputable def Ffk (list_1 : List Event) (parties_2 : Int) : Option Bool :=
  (Ffo parties_2 2 4).bind fun r3=>bindJ (ρ:=Bool) (bif r3 then (bindL (ρ:=Bool) (bif (decide ((len list_1) ≤ 40)) then ((Ffbd list_1 parties_2).bind fun r6=>some (.inr (!r6))) else (some (.inr false))) fun u5 : Bool=>some (.inr u5)) else (some (.inr false))) fun u4 : Bool=>some u4
noncomputable def Ffd (x_1 : Int) : Option Bool :=
  some (x_1 != x_1)
noncomputable def Ffa (x_1 : Int) (y_2 : Int) : Option Int :=
  (Ffd x_1).bind fun r3=>(Ffd y_2).bind fun r4=>bif r3 then (bif r4 then (some 0) else (some (-1))) else (bif r4 then (some 1) else (bif (decide (x_1 < y_2)) then (some (-1)) else (bif (decide (x_1 > y_2)) then (some 1) else (some 0))))
noncomputable def Ffe (x_1 : Str) : Option Bool :=
  some (!(x_1 == x_1))
noncomputable def Ffb (x_1 : Str) (y_2 : Str) : Option Int :=
  (Ffe x_1).bind fun r3=>(Ffe y_2).bind fun r4=>bif r3 then (bif r4 then (some 0) else (some (-1))) else (bif r4 then (some 1) else (bif (Op.bytesLess x_1 y_2) then (some (-1)) else (bif (!(Op.bytesLess x_1 y_2 || x_1 == y_2)) then (some 1) else (some 0))))
noncomputable def Ffc_la_F (vals_1 : List Int)  (self : Int→Option (Int ⊕ Unit)) (x2 : Int) : Option (Int ⊕ Unit) :=
  bif (decide (x2 < (len vals_1))) then ((getI vals_1 x2).bind fun e3=>bif (e3 != 0) then (some (.inl e3)) else (self (w64 (x2 + 1)))) else (some (.inr ()))
noncomputable def Ffc_la (vals_1 : List Int)  : Int→Option (Int ⊕ Unit):=fixO (Ffc_la_F vals_1)
theorem Ffc_la_fin (vals_1 : List Int)  : ∀ a,Fin1 fun f=>Ffc_la_F vals_1 f a:=by
  intro a
  unfold Ffc_la_F
  repeat first|exact f_const|exact f_self|refine f_cond ?_ ?_|refine f_bindJ ?_ (fun _=>?_)|refine f_bindL ?_ (fun _=>?_)|refine f_bind ?_ (fun _=>?_)|refine f_letJ (fun _=>?_)
theorem Ffc_la_eq (vals_1 : List Int)  (x : Int) : Ffc_la vals_1 x=Ffc_la_F vals_1 (Ffc_la vals_1) x:=fix_eq (Ffc_la_fin vals_1) x
noncomputable def Ffc (vals_1 : List Int) : Option Int :=
  bindJ (ρ:=Int) (Ffc_la vals_1 0) fun u4 : Unit=>some 0
noncomputable def Fff (a_1 : Event) (b_2 : Event) : Option Int :=
  (Ffa a_1.Day b_2.Day).bind fun r3=>(Ffa a_1.Party b_2.Party).bind fun r4=>(Ffb a_1.Action b_2.Action).bind fun r5=>(Ffa a_1.Amount b_2.Amount).bind fun r6=>(Ffc [r3,r4,r5,r6]).bind fun r7=>some r7
noncomputable def Ffbh_la_F (x_1 : List Event) (cmp_2 : Unit)  (self : Int→Option (Bool ⊕ Unit)) (x3 : Int) : Option (Bool ⊕ Unit) :=
  bif (decide (x3 > 0)) then ((getI x_1 x3).bind fun e4=>(getI x_1 (w64 (x3 - 1))).bind fun e5=>(Fff e4 e5).bind fun r6=>bif (decide (r6 < 0)) then (some (.inl false)) else (self (w64 (x3 - 1)))) else (some (.inr ()))
noncomputable def Ffbh_la (x_1 : List Event) (cmp_2 : Unit)  : Int→Option (Bool ⊕ Unit):=fixO (Ffbh_la_F x_1 cmp_2)
theorem Ffbh_la_fin (x_1 : List Event) (cmp_2 : Unit)  : ∀ a,Fin1 fun f=>Ffbh_la_F x_1 cmp_2 f a:=by
  intro a
  unfold Ffbh_la_F
  repeat first|exact f_const|exact f_self|refine f_cond ?_ ?_|refine f_bindJ ?_ (fun _=>?_)|refine f_bindL ?_ (fun _=>?_)|refine f_bind ?_ (fun _=>?_)|refine f_letJ (fun _=>?_)
theorem Ffbh_la_eq (x_1 : List Event) (cmp_2 : Unit)  (x : Int) : Ffbh_la x_1 cmp_2 x=Ffbh_la_F x_1 cmp_2 (Ffbh_la x_1 cmp_2) x:=fix_eq (Ffbh_la_fin x_1 cmp_2) x
noncomputable def Ffbh (x_1 : List Event) (cmp_2 : Unit) : Option Bool :=
  bindJ (ρ:=Bool) (Ffbh_la x_1 cmp_2 (w64 ((len x_1) - 1))) fun u7 : Unit=>some true
noncomputable def Ffg (list_1 : List Event) (parties_2 : Int) : Option Bool :=
  (Ffk list_1 parties_2).bind fun r3=>bindJ (ρ:=Bool) (bif r3 then ((Ffbh list_1 ()).bind fun r5=>some (.inr r5)) else (some (.inr false))) fun u4 : Bool=>some u4
noncomputable def Ffbc (s_1 : List Event) : Option ((List Event)) :=
  nilO s_1 (some []) ((appI 40 ([] : List Event) s_1).bind fun a2=>some a2)
noncomputable def Ffbb (x_1 : Int) : Option Int :=
  letJ (bif (decide (x_1 ≥ 4294967296)) then (((shrI .u64 x_1 32),32)) else ((x_1,0))) fun u2 : Int × Int=>letJ (bif (decide (u2.1 ≥ 65536)) then (((shrI .u64 u2.1 16),(w64 (u2.2 + 16)))) else ((u2.1,u2.2))) fun u3 : Int × Int=>letJ (bif (decide (u3.1 ≥ 256)) then (((shrI .u64 u3.1 8),(w64 (u3.2 + 8)))) else ((u3.1,u3.2))) fun u4 : Int × Int=>(getI ([0,1,2,2,3,3,3,3,4,4,4,4,4,4,4,4,5,5,5,5,5,5,5,5,5,5,5,5,5,5,5,5,6,6,6,6,6,6,6,6,6,6,6,6,6,6,6,6,6,6,6,6,6,6,6,6,6,6,6,6,6,6,6,6,7,7,7,7,7,7,7,7,7,7,7,7,7,7,7,7,7,7,7,7,7,7,7,7,7,7,7,7,7,7,7,7,7,7,7,7,7,7,7,7,7,7,7,7,7,7,7,7,7,7,7,7,7,7,7,7,7,7,7,7,7,7,7,7,8,8,8,8,8,8,8,8,8,8,8,8,8,8,8,8,8,8,8,8,8,8,8,8,8,8,8,8,8,8,8,8,8,8,8,8,8,8,8,8,8,8,8,8,8,8,8,8,8,8,8,8,8,8,8,8,8,8,8,8,8,8,8,8,8,8,8,8,8,8,8,8,8,8,8,8,8,8,8,8,8,8,8,8,8,8,8,8,8,8,8,8,8,8,8,8,8,8,8,8,8,8,8,8,8,8,8,8,8,8,8,8,8,8,8,8,8,8,8,8,8,8,8,8,8,8,8,8] : Str) (IntKind.u8.wrap u4.1)).bind fun c5=>some (w64 (u4.2 + (IntKind.i64.wrap (c5.toNat : Int))))
noncomputable def Ffba (x_1 : Int) : Option Int :=
  (Ffbb x_1).bind fun r2=>some r2
noncomputable def Ffbm_lb_F (data_16 : List Event) (a_17 : Int) (b_18 : Int) (cmp_19 : Unit) (x5 : Int × Int × Int × (List Event)) (self : (Int × (List Event))→Option (((List Event)) ⊕ ((List Event)))) (x6 : Int × (List Event)) : Option (((List Event)) ⊕ ((List Event))) :=
  bindL (ρ:=(List Event)) (bif (decide (x6.1 > x5.1)) then ((getI x6.2 x6.1).bind fun e17=>(getI x6.2 (w64 (x6.1 - 1))).bind fun e18=>(Fff e17 e18).bind fun r19=>some (.inr (decide (r19 < 0)))) else (some (.inr false))) fun u7 : Bool=>bif u7 then ((getI x6.2 (w64 (x6.1 - 1))).bind fun e8=>(getI x6.2 x6.1).bind fun e9=>(getI x6.2 x6.1).bind fun e10=>(getI (setI x6.2 x6.1 e8) (w64 (x6.1 - 1))).bind fun e13=>self ((w64 (x6.1 - 1)),(setI (setI x6.2 x6.1 e8) (w64 (x6.1 - 1)) e9))) else (some (.inr x6.2))
noncomputable def Ffbm_lb (data_16 : List Event) (a_17 : Int) (b_18 : Int) (cmp_19 : Unit) (x5 : Int × Int × Int × (List Event)) : (Int × (List Event))→Option (((List Event)) ⊕ ((List Event))):=fixO (Ffbm_lb_F data_16 a_17 b_18 cmp_19 x5)
theorem Ffbm_lb_fin (data_16 : List Event) (a_17 : Int) (b_18 : Int) (cmp_19 : Unit) (x5 : Int × Int × Int × (List Event)) : ∀ a,Fin1 fun f=>Ffbm_lb_F data_16 a_17 b_18 cmp_19 x5 f a:=by
  intro a
  unfold Ffbm_lb_F
  repeat first|exact f_const|exact f_self|refine f_cond ?_ ?_|refine f_bindJ ?_ (fun _=>?_)|refine f_bindL ?_ (fun _=>?_)|refine f_bind ?_ (fun _=>?_)|refine f_letJ (fun _=>?_)
theorem Ffbm_lb_eq (data_16 : List Event) (a_17 : Int) (b_18 : Int) (cmp_19 : Unit) (x5 : Int × Int × Int × (List Event)) (x : Int × (List Event)) : Ffbm_lb data_16 a_17 b_18 cmp_19 x5 x=Ffbm_lb_F data_16 a_17 b_18 cmp_19 x5 (Ffbm_lb data_16 a_17 b_18 cmp_19 x5) x:=fix_eq (Ffbm_lb_fin data_16 a_17 b_18 cmp_19 x5) x
noncomputable def Ffbm_la_F (data_16 : List Event) (a_17 : Int) (b_18 : Int) (cmp_19 : Unit)  (self : (Int × Int × Int × (List Event))→Option (((List Event)) ⊕ ((List Event)))) (x5 : Int × Int × Int × (List Event)) : Option (((List Event)) ⊕ ((List Event))) :=
  bif (decide (x5.2.2.1 < x5.2.1)) then (bindL (ρ:=(List Event)) (Ffbm_lb data_16 a_17 b_18 cmp_19 x5 (x5.2.2.1,x5.2.2.2)) fun u20 : (List Event)=>self (x5.1,x5.2.1,(w64 (x5.2.2.1 + 1)),u20)) else (some (.inr x5.2.2.2))
noncomputable def Ffbm_la (data_16 : List Event) (a_17 : Int) (b_18 : Int) (cmp_19 : Unit)  : (Int × Int × Int × (List Event))→Option (((List Event)) ⊕ ((List Event))):=fixO (Ffbm_la_F data_16 a_17 b_18 cmp_19)
theorem Ffbm_la_fin (data_16 : List Event) (a_17 : Int) (b_18 : Int) (cmp_19 : Unit)  : ∀ a,Fin1 fun f=>Ffbm_la_F data_16 a_17 b_18 cmp_19 f a:=by
  intro a
  unfold Ffbm_la_F
  repeat first|exact f_const|exact f_self|refine f_cond ?_ ?_|refine f_bindJ ?_ (fun _=>?_)|refine f_bindL ?_ (fun _=>?_)|refine f_bind ?_ (fun _=>?_)|refine f_letJ (fun _=>?_)
theorem Ffbm_la_eq (data_16 : List Event) (a_17 : Int) (b_18 : Int) (cmp_19 : Unit)  (x : Int × Int × Int × (List Event)) : Ffbm_la data_16 a_17 b_18 cmp_19 x=Ffbm_la_F data_16 a_17 b_18 cmp_19 (Ffbm_la data_16 a_17 b_18 cmp_19) x:=fix_eq (Ffbm_la_fin data_16 a_17 b_18 cmp_19) x
noncomputable def Ffbm (data_16 : List Event) (a_17 : Int) (b_18 : Int) (cmp_19 : Unit) : Option ((List Event)) :=
  bindJ (ρ:=(List Event)) (Ffbm_la data_16 a_17 b_18 cmp_19 (a_17,b_18,(w64 (a_17 + 1)),data_16)) fun u21 : (List Event)=>bif Nat.beq u21.length data_16.length then (some u21) else none
noncomputable def Ffbw_la_F (data_19 : List Event) (lo_20 : Int) (hi_21 : Int) (first_22 : Int) (cmp_23 : Unit)  (self : (Int × (List Event))→Option (((List Event)) ⊕ ((List Event)))) (x6 : Int × (List Event)) : Option (((List Event)) ⊕ ((List Event))) :=
  bif (decide ((w64 ((w64 (2 * x6.1)) + 1)) ≥ hi_21)) then (some (.inr x6.2)) else (bindL (ρ:=(List Event)) (bif (decide ((w64 ((w64 ((w64 (2 * x6.1)) + 1)) + 1)) < hi_21)) then ((getI x6.2 (w64 (first_22 + (w64 ((w64 (2 * x6.1)) + 1))))).bind fun e26=>(getI x6.2 (w64 ((w64 (first_22 + (w64 ((w64 (2 * x6.1)) + 1)))) + 1))).bind fun e27=>(Fff e26 e27).bind fun r28=>some (.inr (decide (r28 < 0)))) else (some (.inr false))) fun u7 : Bool=>letJ (bif u7 then ((w64 ((w64 ((w64 (2 * x6.1)) + 1)) + 1))) else ((w64 ((w64 (2 * x6.1)) + 1)))) fun u8 : Int=>(getI x6.2 (w64 (first_22 + x6.1))).bind fun e9=>(getI x6.2 (w64 (first_22 + u8))).bind fun e10=>(Fff e9 e10).bind fun r11=>bif (!(decide (r11 < 0))) then (bif Nat.beq x6.2.length data_19.length then (some (.inl x6.2)) else none) else ((getI x6.2 (w64 (first_22 + u8))).bind fun e13=>(getI x6.2 (w64 (first_22 + x6.1))).bind fun e14=>(getI x6.2 (w64 (first_22 + x6.1))).bind fun e15=>(getI (setI x6.2 (w64 (first_22 + x6.1)) e13) (w64 (first_22 + u8))).bind fun e20=>self (u8,(setI (setI x6.2 (w64 (first_22 + x6.1)) e13) (w64 (first_22 + u8)) e14))))
noncomputable def Ffbw_la (data_19 : List Event) (lo_20 : Int) (hi_21 : Int) (first_22 : Int) (cmp_23 : Unit)  : (Int × (List Event))→Option (((List Event)) ⊕ ((List Event))):=fixO (Ffbw_la_F data_19 lo_20 hi_21 first_22 cmp_23)
theorem Ffbw_la_fin (data_19 : List Event) (lo_20 : Int) (hi_21 : Int) (first_22 : Int) (cmp_23 : Unit)  : ∀ a,Fin1 fun f=>Ffbw_la_F data_19 lo_20 hi_21 first_22 cmp_23 f a:=by
  intro a
  unfold Ffbw_la_F
  repeat first|exact f_const|exact f_self|refine f_cond ?_ ?_|refine f_bindJ ?_ (fun _=>?_)|refine f_bindL ?_ (fun _=>?_)|refine f_bind ?_ (fun _=>?_)|refine f_letJ (fun _=>?_)
theorem Ffbw_la_eq (data_19 : List Event) (lo_20 : Int) (hi_21 : Int) (first_22 : Int) (cmp_23 : Unit)  (x : Int × (List Event)) : Ffbw_la data_19 lo_20 hi_21 first_22 cmp_23 x=Ffbw_la_F data_19 lo_20 hi_21 first_22 cmp_23 (Ffbw_la data_19 lo_20 hi_21 first_22 cmp_23) x:=fix_eq (Ffbw_la_fin data_19 lo_20 hi_21 first_22 cmp_23) x
noncomputable def Ffbw (data_19 : List Event) (lo_20 : Int) (hi_21 : Int) (first_22 : Int) (cmp_23 : Unit) : Option ((List Event)) :=
  bindJ (ρ:=(List Event)) (Ffbw_la data_19 lo_20 hi_21 first_22 cmp_23 (lo_20,data_19)) fun u29 : (List Event)=>bif Nat.beq u29.length data_19.length then (some u29) else none
noncomputable def Ffbl_la_F (data_12 : List Event) (a_13 : Int) (b_14 : Int) (cmp_15 : Unit)  (self : (Int × (List Event))→Option (((List Event)) ⊕ (Int × Int × (List Event)))) (x5 : Int × (List Event)) : Option (((List Event)) ⊕ (Int × Int × (List Event))) :=
  bif (decide (x5.1 ≥ 0)) then ((Ffbw x5.2 x5.1 (w64 (b_14 - a_13)) a_13 ()).bind fun r6=>bif Nat.beq r6.length x5.2.length then (self ((w64 (x5.1 - 1)),r6)) else none) else (some (.inr (a_13,(w64 (b_14 - a_13)),x5.2)))
noncomputable def Ffbl_la (data_12 : List Event) (a_13 : Int) (b_14 : Int) (cmp_15 : Unit)  : (Int × (List Event))→Option (((List Event)) ⊕ (Int × Int × (List Event))):=fixO (Ffbl_la_F data_12 a_13 b_14 cmp_15)
theorem Ffbl_la_fin (data_12 : List Event) (a_13 : Int) (b_14 : Int) (cmp_15 : Unit)  : ∀ a,Fin1 fun f=>Ffbl_la_F data_12 a_13 b_14 cmp_15 f a:=by
  intro a
  unfold Ffbl_la_F
  repeat first|exact f_const|exact f_self|refine f_cond ?_ ?_|refine f_bindJ ?_ (fun _=>?_)|refine f_bindL ?_ (fun _=>?_)|refine f_bind ?_ (fun _=>?_)|refine f_letJ (fun _=>?_)
theorem Ffbl_la_eq (data_12 : List Event) (a_13 : Int) (b_14 : Int) (cmp_15 : Unit)  (x : Int × (List Event)) : Ffbl_la data_12 a_13 b_14 cmp_15 x=Ffbl_la_F data_12 a_13 b_14 cmp_15 (Ffbl_la data_12 a_13 b_14 cmp_15) x:=fix_eq (Ffbl_la_fin data_12 a_13 b_14 cmp_15) x
noncomputable def Ffbl_lb_F (data_12 : List Event) (a_13 : Int) (b_14 : Int) (cmp_15 : Unit) (u8 : Int × Int × (List Event)) (self : (Int × (List Event))→Option (((List Event)) ⊕ ((List Event)))) (x9 : Int × (List Event)) : Option (((List Event)) ⊕ ((List Event))) :=
  bif (decide (x9.1 ≥ 0)) then ((getI x9.2 (w64 (u8.1 + x9.1))).bind fun e10=>(getI x9.2 u8.1).bind fun e11=>(getI x9.2 u8.1).bind fun e12=>(getI (setI x9.2 u8.1 e10) (w64 (u8.1 + x9.1))).bind fun e15=>(Ffbw (setI (setI x9.2 u8.1 e10) (w64 (u8.1 + x9.1)) e11) 0 x9.1 u8.1 ()).bind fun r19=>bif Nat.beq r19.length (setI (setI x9.2 u8.1 e10) (w64 (u8.1 + x9.1)) e11).length then (self ((w64 (x9.1 - 1)),r19)) else none) else (some (.inr x9.2))
noncomputable def Ffbl_lb (data_12 : List Event) (a_13 : Int) (b_14 : Int) (cmp_15 : Unit) (u8 : Int × Int × (List Event)) : (Int × (List Event))→Option (((List Event)) ⊕ ((List Event))):=fixO (Ffbl_lb_F data_12 a_13 b_14 cmp_15 u8)
theorem Ffbl_lb_fin (data_12 : List Event) (a_13 : Int) (b_14 : Int) (cmp_15 : Unit) (u8 : Int × Int × (List Event)) : ∀ a,Fin1 fun f=>Ffbl_lb_F data_12 a_13 b_14 cmp_15 u8 f a:=by
  intro a
  unfold Ffbl_lb_F
  repeat first|exact f_const|exact f_self|refine f_cond ?_ ?_|refine f_bindJ ?_ (fun _=>?_)|refine f_bindL ?_ (fun _=>?_)|refine f_bind ?_ (fun _=>?_)|refine f_letJ (fun _=>?_)
theorem Ffbl_lb_eq (data_12 : List Event) (a_13 : Int) (b_14 : Int) (cmp_15 : Unit) (u8 : Int × Int × (List Event)) (x : Int × (List Event)) : Ffbl_lb data_12 a_13 b_14 cmp_15 u8 x=Ffbl_lb_F data_12 a_13 b_14 cmp_15 u8 (Ffbl_lb data_12 a_13 b_14 cmp_15 u8) x:=fix_eq (Ffbl_lb_fin data_12 a_13 b_14 cmp_15 u8) x
noncomputable def Ffbl (data_12 : List Event) (a_13 : Int) (b_14 : Int) (cmp_15 : Unit) : Option ((List Event)) :=
  bindJ (ρ:=(List Event)) (Ffbl_la data_12 a_13 b_14 cmp_15 ((w64 ((w64 ((w64 (b_14 - a_13)) - 1)).tdiv 2)),data_12)) fun u8 : Int × Int × (List Event)=>bindJ (ρ:=(List Event)) (Ffbl_lb data_12 a_13 b_14 cmp_15 u8 ((w64 (u8.2.1 - 1)),u8.2.2)) fun u21 : (List Event)=>bif Nat.beq u21.length data_12.length then (some u21) else none
noncomputable def Ffbp (length_1 : Int) : Option Int :=
  (Ffba (IntKind.u64.wrap length_1)).bind fun r2=>(shlO .u64 1 r2).bind fun q3=>some q3
noncomputable def Ffbx (r_2 : Int) : Option (Int × Int) :=
  some ((xorI .u64 (xorI .u64 (xorI .u64 r_2 (shlI .u64 r_2 13)) (shrI .u64 (xorI .u64 r_2 (shlI .u64 r_2 13)) 7)) (shlI .u64 (xorI .u64 (xorI .u64 r_2 (shlI .u64 r_2 13)) (shrI .u64 (xorI .u64 r_2 (shlI .u64 r_2 13)) 7)) 17)),(xorI .u64 (xorI .u64 (xorI .u64 r_2 (shlI .u64 r_2 13)) (shrI .u64 (xorI .u64 r_2 (shlI .u64 r_2 13)) 7)) (shlI .u64 (xorI .u64 (xorI .u64 r_2 (shlI .u64 r_2 13)) (shrI .u64 (xorI .u64 r_2 (shlI .u64 r_2 13)) 7)) 17)))
noncomputable def Ffbj_la_F (data_14 : List Event) (a_15 : Int) (b_16 : Int) (cmp_17 : Unit) (r7 : Int) (self : (Int × (List Event) × Int)→Option (((List Event)) ⊕ ((List Event)))) (x8 : Int × (List Event) × Int) : Option (((List Event)) ⊕ ((List Event))) :=
  bif (decide (x8.1 ≤ (w64 ((w64 (a_15 + (w64 ((w64 ((w64 (b_16 - a_15)).tdiv 4)) * 2)))) + 1)))) then ((Ffbx x8.2.2).bind fun r9=>letJ (bif (decide ((IntKind.i64.wrap (andI .u64 r9.1 (IntKind.u64.wrap (r7 - 1)))) ≥ (w64 (b_16 - a_15)))) then ((w64 ((IntKind.i64.wrap (andI .u64 r9.1 (IntKind.u64.wrap (r7 - 1)))) - (w64 (b_16 - a_15))))) else ((IntKind.i64.wrap (andI .u64 r9.1 (IntKind.u64.wrap (r7 - 1)))))) fun u10 : Int=>(getI x8.2.1 (w64 (a_15 + u10))).bind fun e11=>(getI x8.2.1 x8.1).bind fun e12=>(getI x8.2.1 x8.1).bind fun e13=>(getI (setI x8.2.1 x8.1 e11) (w64 (a_15 + u10))).bind fun e16=>self ((w64 (x8.1 + 1)),(setI (setI x8.2.1 x8.1 e11) (w64 (a_15 + u10)) e12),r9.2)) else (some (.inr x8.2.1))
noncomputable def Ffbj_la (data_14 : List Event) (a_15 : Int) (b_16 : Int) (cmp_17 : Unit) (r7 : Int) : (Int × (List Event) × Int)→Option (((List Event)) ⊕ ((List Event))):=fixO (Ffbj_la_F data_14 a_15 b_16 cmp_17 r7)
theorem Ffbj_la_fin (data_14 : List Event) (a_15 : Int) (b_16 : Int) (cmp_17 : Unit) (r7 : Int) : ∀ a,Fin1 fun f=>Ffbj_la_F data_14 a_15 b_16 cmp_17 r7 f a:=by
  intro a
  unfold Ffbj_la_F
  repeat first|exact f_const|exact f_self|refine f_cond ?_ ?_|refine f_bindJ ?_ (fun _=>?_)|refine f_bindL ?_ (fun _=>?_)|refine f_bind ?_ (fun _=>?_)|refine f_letJ (fun _=>?_)
theorem Ffbj_la_eq (data_14 : List Event) (a_15 : Int) (b_16 : Int) (cmp_17 : Unit) (r7 : Int) (x : Int × (List Event) × Int) : Ffbj_la data_14 a_15 b_16 cmp_17 r7 x=Ffbj_la_F data_14 a_15 b_16 cmp_17 r7 (Ffbj_la data_14 a_15 b_16 cmp_17 r7) x:=fix_eq (Ffbj_la_fin data_14 a_15 b_16 cmp_17 r7) x
noncomputable def Ffbj (data_14 : List Event) (a_15 : Int) (b_16 : Int) (cmp_17 : Unit) : Option ((List Event)) :=
  bindJ (ρ:=(List Event)) (bif (decide ((w64 (b_16 - a_15)) ≥ 8)) then ((Ffbp (w64 (b_16 - a_15))).bind fun r7=>bindL (ρ:=(List Event)) (Ffbj_la data_14 a_15 b_16 cmp_17 r7 ((w64 ((w64 (a_15 + (w64 ((w64 ((w64 (b_16 - a_15)).tdiv 4)) * 2)))) - 1)),data_14,(IntKind.u64.wrap (w64 (b_16 - a_15))))) fun u20 : (List Event)=>some (.inr u20)) else (some (.inr data_14))) fun u5 : (List Event)=>bif Nat.beq u5.length data_14.length then (some u5) else none
noncomputable def Ffbq (data_10 : List Event) (a_11 : Int) (b_12 : Int) (swaps_13 : Int) (cmp_14 : Unit) : Option (Int × Int × Int) :=
  (getI data_10 b_12).bind fun e6=>(getI data_10 a_11).bind fun e7=>(Fff e6 e7).bind fun r8=>bif (decide (r8 < 0)) then (some (b_12,a_11,(w64 (swaps_13 + 1)))) else (some (a_11,b_12,swaps_13))
noncomputable def Ffbo (data_7 : List Event) (a_8 : Int) (b_9 : Int) (c_10 : Int) (swaps_11 : Int) (cmp_12 : Unit) : Option (Int × Int) :=
  (Ffbq data_7 a_8 b_9 swaps_11 ()).bind fun r7=>(Ffbq data_7 r7.2.1 c_10 r7.2.2 ()).bind fun r8=>(Ffbq data_7 r7.1 r8.1 r8.2.2 ()).bind fun r9=>some (r9.2.1,r9.2.2)
noncomputable def Ffbn (data_5 : List Event) (a_6 : Int) (swaps_7 : Int) (cmp_8 : Unit) : Option (Int × Int) :=
  (Ffbo data_5 (w64 (a_6 - 1)) a_6 (w64 (a_6 + 1)) swaps_7 ()).bind fun r5=>some (r5.1,r5.2)
noncomputable def Ffbk (data_1 : List Event) (a_2 : Int) (b_3 : Int) (cmp_4 : Unit) : Option (Int × Int) :=
  bindJ (ρ:=Int × Int) (bif (decide ((w64 (b_3 - a_2)) ≥ 8)) then (bindL (ρ:=Int × Int) (bif (decide ((w64 (b_3 - a_2)) ≥ 50)) then ((Ffbn data_1 (w64 (a_2 + (w64 ((w64 ((w64 (b_3 - a_2)).tdiv 4)) * 1)))) 0 ()).bind fun r8=>(Ffbn data_1 (w64 (a_2 + (w64 ((w64 ((w64 (b_3 - a_2)).tdiv 4)) * 2)))) r8.2 ()).bind fun r9=>(Ffbn data_1 (w64 (a_2 + (w64 ((w64 ((w64 (b_3 - a_2)).tdiv 4)) * 3)))) r9.2 ()).bind fun r10=>some (.inr (r8.1,r9.1,r10.1,r10.2))) else (some (.inr ((w64 (a_2 + (w64 ((w64 ((w64 (b_3 - a_2)).tdiv 4)) * 1)))),(w64 (a_2 + (w64 ((w64 ((w64 (b_3 - a_2)).tdiv 4)) * 2)))),(w64 (a_2 + (w64 ((w64 ((w64 (b_3 - a_2)).tdiv 4)) * 3)))),0)))) fun u6 : Int × Int × Int × Int=>(Ffbo data_1 u6.1 u6.2.1 u6.2.2.1 u6.2.2.2 ()).bind fun r7=>some (.inr (r7.1,r7.2))) else (some (.inr ((w64 (a_2 + (w64 ((w64 ((w64 (b_3 - a_2)).tdiv 4)) * 2)))),0)))) fun u5 : Int × Int=>bif (u5.2 == 0) then (some (u5.1,1)) else (bif (u5.2 == 12) then (some (u5.1,2)) else (some (u5.1,0)))
noncomputable def Ffbv_la_F (data_10 : List Event) (a_11 : Int) (b_12 : Int) (cmp_13 : Unit)  (self : (Int × Int × (List Event))→Option (((List Event)) ⊕ ((List Event)))) (x5 : Int × Int × (List Event)) : Option (((List Event)) ⊕ ((List Event))) :=
  bif (decide (x5.1 < x5.2.1)) then ((getI x5.2.2 x5.2.1).bind fun e6=>(getI x5.2.2 x5.1).bind fun e7=>(getI x5.2.2 x5.1).bind fun e8=>(getI (setI x5.2.2 x5.1 e6) x5.2.1).bind fun e11=>self ((w64 (x5.1 + 1)),(w64 (x5.2.1 - 1)),(setI (setI x5.2.2 x5.1 e6) x5.2.1 e7))) else (some (.inr x5.2.2))
noncomputable def Ffbv_la (data_10 : List Event) (a_11 : Int) (b_12 : Int) (cmp_13 : Unit)  : (Int × Int × (List Event))→Option (((List Event)) ⊕ ((List Event))):=fixO (Ffbv_la_F data_10 a_11 b_12 cmp_13)
theorem Ffbv_la_fin (data_10 : List Event) (a_11 : Int) (b_12 : Int) (cmp_13 : Unit)  : ∀ a,Fin1 fun f=>Ffbv_la_F data_10 a_11 b_12 cmp_13 f a:=by
  intro a
  unfold Ffbv_la_F
  repeat first|exact f_const|exact f_self|refine f_cond ?_ ?_|refine f_bindJ ?_ (fun _=>?_)|refine f_bindL ?_ (fun _=>?_)|refine f_bind ?_ (fun _=>?_)|refine f_letJ (fun _=>?_)
theorem Ffbv_la_eq (data_10 : List Event) (a_11 : Int) (b_12 : Int) (cmp_13 : Unit)  (x : Int × Int × (List Event)) : Ffbv_la data_10 a_11 b_12 cmp_13 x=Ffbv_la_F data_10 a_11 b_12 cmp_13 (Ffbv_la data_10 a_11 b_12 cmp_13) x:=fix_eq (Ffbv_la_fin data_10 a_11 b_12 cmp_13) x
noncomputable def Ffbv (data_10 : List Event) (a_11 : Int) (b_12 : Int) (cmp_13 : Unit) : Option ((List Event)) :=
  bindJ (ρ:=(List Event)) (Ffbv_la data_10 a_11 b_12 cmp_13 (a_11,(w64 (b_12 - 1)),data_10)) fun u15 : (List Event)=>bif Nat.beq u15.length data_10.length then (some u15) else none
noncomputable def Ffbr_lb_F (data_16 : List Event) (a_17 : Int) (b_18 : Int) (cmp_19 : Unit) (x5 : Int × Int × Int × Int × (List Event)) (self : Int→Option ((Bool × (List Event)) ⊕ Int)) (x6 : Int) : Option ((Bool × (List Event)) ⊕ Int) :=
  bindL (ρ:=Bool × (List Event)) (bif (decide (x6 < x5.2.1)) then ((getI x5.2.2.2.2 x6).bind fun e8=>(getI x5.2.2.2.2 (w64 (x6 - 1))).bind fun e9=>(Fff e8 e9).bind fun r10=>some (.inr (!(decide (r10 < 0))))) else (some (.inr false))) fun u7 : Bool=>bif u7 then (self (w64 (x6 + 1))) else (some (.inr x6))
noncomputable def Ffbr_lb (data_16 : List Event) (a_17 : Int) (b_18 : Int) (cmp_19 : Unit) (x5 : Int × Int × Int × Int × (List Event)) : Int→Option ((Bool × (List Event)) ⊕ Int):=fixO (Ffbr_lb_F data_16 a_17 b_18 cmp_19 x5)
theorem Ffbr_lb_fin (data_16 : List Event) (a_17 : Int) (b_18 : Int) (cmp_19 : Unit) (x5 : Int × Int × Int × Int × (List Event)) : ∀ a,Fin1 fun f=>Ffbr_lb_F data_16 a_17 b_18 cmp_19 x5 f a:=by
  intro a
  unfold Ffbr_lb_F
  repeat first|exact f_const|exact f_self|refine f_cond ?_ ?_|refine f_bindJ ?_ (fun _=>?_)|refine f_bindL ?_ (fun _=>?_)|refine f_bind ?_ (fun _=>?_)|refine f_letJ (fun _=>?_)
theorem Ffbr_lb_eq (data_16 : List Event) (a_17 : Int) (b_18 : Int) (cmp_19 : Unit) (x5 : Int × Int × Int × Int × (List Event)) (x : Int) : Ffbr_lb data_16 a_17 b_18 cmp_19 x5 x=Ffbr_lb_F data_16 a_17 b_18 cmp_19 x5 (Ffbr_lb data_16 a_17 b_18 cmp_19 x5) x:=fix_eq (Ffbr_lb_fin data_16 a_17 b_18 cmp_19 x5) x
noncomputable def Ffbr_lc_F (data_16 : List Event) (a_17 : Int) (b_18 : Int) (cmp_19 : Unit) (x5 : Int × Int × Int × Int × (List Event)) (u11 : Int) (self : (Int × (List Event))→Option ((Bool × (List Event)) ⊕ ((List Event)))) (x25 : Int × (List Event)) : Option ((Bool × (List Event)) ⊕ ((List Event))) :=
  bif (decide (x25.1 < x5.2.1)) then ((getI x25.2 x25.1).bind fun e26=>(getI x25.2 (w64 (x25.1 - 1))).bind fun e27=>(Fff e26 e27).bind fun r28=>bif (!(decide (r28 < 0))) then (some (.inr x25.2)) else ((getI x25.2 (w64 (x25.1 - 1))).bind fun e29=>(getI x25.2 x25.1).bind fun e30=>(getI x25.2 x25.1).bind fun e31=>(getI (setI x25.2 x25.1 e29) (w64 (x25.1 - 1))).bind fun e36=>self ((w64 (x25.1 + 1)),(setI (setI x25.2 x25.1 e29) (w64 (x25.1 - 1)) e30)))) else (some (.inr x25.2))
noncomputable def Ffbr_lc (data_16 : List Event) (a_17 : Int) (b_18 : Int) (cmp_19 : Unit) (x5 : Int × Int × Int × Int × (List Event)) (u11 : Int) : (Int × (List Event))→Option ((Bool × (List Event)) ⊕ ((List Event))):=fixO (Ffbr_lc_F data_16 a_17 b_18 cmp_19 x5 u11)
theorem Ffbr_lc_fin (data_16 : List Event) (a_17 : Int) (b_18 : Int) (cmp_19 : Unit) (x5 : Int × Int × Int × Int × (List Event)) (u11 : Int) : ∀ a,Fin1 fun f=>Ffbr_lc_F data_16 a_17 b_18 cmp_19 x5 u11 f a:=by
  intro a
  unfold Ffbr_lc_F
  repeat first|exact f_const|exact f_self|refine f_cond ?_ ?_|refine f_bindJ ?_ (fun _=>?_)|refine f_bindL ?_ (fun _=>?_)|refine f_bind ?_ (fun _=>?_)|refine f_letJ (fun _=>?_)
theorem Ffbr_lc_eq (data_16 : List Event) (a_17 : Int) (b_18 : Int) (cmp_19 : Unit) (x5 : Int × Int × Int × Int × (List Event)) (u11 : Int) (x : Int × (List Event)) : Ffbr_lc data_16 a_17 b_18 cmp_19 x5 u11 x=Ffbr_lc_F data_16 a_17 b_18 cmp_19 x5 u11 (Ffbr_lc data_16 a_17 b_18 cmp_19 x5 u11) x:=fix_eq (Ffbr_lc_fin data_16 a_17 b_18 cmp_19 x5 u11) x
noncomputable def Ffbr_ld_F (data_16 : List Event) (a_17 : Int) (b_18 : Int) (cmp_19 : Unit) (x5 : Int × Int × Int × Int × (List Event)) (u11 : Int) (self : (Int × (List Event))→Option ((Bool × (List Event)) ⊕ ((List Event)))) (x43 : Int × (List Event)) : Option ((Bool × (List Event)) ⊕ ((List Event))) :=
  bif (decide (x43.1 ≥ 1)) then ((getI x43.2 x43.1).bind fun e44=>(getI x43.2 (w64 (x43.1 - 1))).bind fun e45=>(Fff e44 e45).bind fun r46=>bif (!(decide (r46 < 0))) then (some (.inr x43.2)) else ((getI x43.2 (w64 (x43.1 - 1))).bind fun e47=>(getI x43.2 x43.1).bind fun e48=>(getI x43.2 x43.1).bind fun e49=>(getI (setI x43.2 x43.1 e47) (w64 (x43.1 - 1))).bind fun e54=>self ((w64 (x43.1 - 1)),(setI (setI x43.2 x43.1 e47) (w64 (x43.1 - 1)) e48)))) else (some (.inr x43.2))
noncomputable def Ffbr_ld (data_16 : List Event) (a_17 : Int) (b_18 : Int) (cmp_19 : Unit) (x5 : Int × Int × Int × Int × (List Event)) (u11 : Int) : (Int × (List Event))→Option ((Bool × (List Event)) ⊕ ((List Event))):=fixO (Ffbr_ld_F data_16 a_17 b_18 cmp_19 x5 u11)
theorem Ffbr_ld_fin (data_16 : List Event) (a_17 : Int) (b_18 : Int) (cmp_19 : Unit) (x5 : Int × Int × Int × Int × (List Event)) (u11 : Int) : ∀ a,Fin1 fun f=>Ffbr_ld_F data_16 a_17 b_18 cmp_19 x5 u11 f a:=by
  intro a
  unfold Ffbr_ld_F
  repeat first|exact f_const|exact f_self|refine f_cond ?_ ?_|refine f_bindJ ?_ (fun _=>?_)|refine f_bindL ?_ (fun _=>?_)|refine f_bind ?_ (fun _=>?_)|refine f_letJ (fun _=>?_)
theorem Ffbr_ld_eq (data_16 : List Event) (a_17 : Int) (b_18 : Int) (cmp_19 : Unit) (x5 : Int × Int × Int × Int × (List Event)) (u11 : Int) (x : Int × (List Event)) : Ffbr_ld data_16 a_17 b_18 cmp_19 x5 u11 x=Ffbr_ld_F data_16 a_17 b_18 cmp_19 x5 u11 (Ffbr_ld data_16 a_17 b_18 cmp_19 x5 u11) x:=fix_eq (Ffbr_ld_fin data_16 a_17 b_18 cmp_19 x5 u11) x
noncomputable def Ffbr_la_F (data_16 : List Event) (a_17 : Int) (b_18 : Int) (cmp_19 : Unit)  (self : (Int × Int × Int × Int × (List Event))→Option ((Bool × (List Event)) ⊕ ((List Event)))) (x5 : Int × Int × Int × Int × (List Event)) : Option ((Bool × (List Event)) ⊕ ((List Event))) :=
  bif (decide (x5.2.2.2.1 < 5)) then (bindL (ρ:=Bool × (List Event)) (Ffbr_lb data_16 a_17 b_18 cmp_19 x5 x5.2.2.1) fun u11 : Int=>bif (u11 == x5.2.1) then (bif Nat.beq x5.2.2.2.2.length data_16.length then (some (.inl (true,x5.2.2.2.2))) else none) else (bif (decide ((w64 (x5.2.1 - x5.1)) < 50)) then (bif Nat.beq x5.2.2.2.2.length data_16.length then (some (.inl (false,x5.2.2.2.2))) else none) else ((getI x5.2.2.2.2 (w64 (u11 - 1))).bind fun e14=>(getI x5.2.2.2.2 u11).bind fun e15=>(getI x5.2.2.2.2 u11).bind fun e16=>(getI (setI x5.2.2.2.2 u11 e14) (w64 (u11 - 1))).bind fun e19=>bindL (ρ:=Bool × (List Event)) (bif (decide ((w64 (u11 - x5.1)) ≥ 2)) then (bindL (ρ:=Bool × (List Event)) (Ffbr_ld data_16 a_17 b_18 cmp_19 x5 u11 ((w64 (u11 - 1)),(setI (setI x5.2.2.2.2 u11 e14) (w64 (u11 - 1)) e15))) fun u60 : (List Event)=>some (.inr u60)) else (some (.inr (setI (setI x5.2.2.2.2 u11 e14) (w64 (u11 - 1)) e15)))) fun u23 : (List Event)=>bindL (ρ:=Bool × (List Event)) (bif (decide ((w64 (x5.2.1 - u11)) ≥ 2)) then (bindL (ρ:=Bool × (List Event)) (Ffbr_lc data_16 a_17 b_18 cmp_19 x5 u11 ((w64 (u11 + 1)),u23)) fun u42 : (List Event)=>some (.inr u42)) else (some (.inr u23))) fun u24 : (List Event)=>self (x5.1,x5.2.1,u11,(w64 (x5.2.2.2.1 + 1)),u24)))) else (some (.inr x5.2.2.2.2))
noncomputable def Ffbr_la (data_16 : List Event) (a_17 : Int) (b_18 : Int) (cmp_19 : Unit)  : (Int × Int × Int × Int × (List Event))→Option ((Bool × (List Event)) ⊕ ((List Event))):=fixO (Ffbr_la_F data_16 a_17 b_18 cmp_19)
theorem Ffbr_la_fin (data_16 : List Event) (a_17 : Int) (b_18 : Int) (cmp_19 : Unit)  : ∀ a,Fin1 fun f=>Ffbr_la_F data_16 a_17 b_18 cmp_19 f a:=by
  intro a
  unfold Ffbr_la_F
  repeat first|exact f_const|exact f_self|refine f_cond ?_ ?_|refine f_bindJ ?_ (fun _=>?_)|refine f_bindL ?_ (fun _=>?_)|refine f_bind ?_ (fun _=>?_)|refine f_letJ (fun _=>?_)
theorem Ffbr_la_eq (data_16 : List Event) (a_17 : Int) (b_18 : Int) (cmp_19 : Unit)  (x : Int × Int × Int × Int × (List Event)) : Ffbr_la data_16 a_17 b_18 cmp_19 x=Ffbr_la_F data_16 a_17 b_18 cmp_19 (Ffbr_la data_16 a_17 b_18 cmp_19) x:=fix_eq (Ffbr_la_fin data_16 a_17 b_18 cmp_19) x
noncomputable def Ffbr (data_16 : List Event) (a_17 : Int) (b_18 : Int) (cmp_19 : Unit) : Option (Bool × (List Event)) :=
  bindJ (ρ:=Bool × (List Event)) (Ffbr_la data_16 a_17 b_18 cmp_19 (a_17,b_18,(w64 (a_17 + 1)),0,data_16)) fun u61 : (List Event)=>bif Nat.beq u61.length data_16.length then (some (false,u61)) else none
noncomputable def Ffbt_lb_F (data_9 : List Event) (a_10 : Int) (b_11 : Int) (pivot_12 : Int) (cmp_13 : Unit) (x15 : Int × Int × (List Event)) (self : Int→Option ((Int × (List Event)) ⊕ Int)) (x16 : Int) : Option ((Int × (List Event)) ⊕ Int) :=
  bindL (ρ:=Int × (List Event)) (bif (decide (x16 ≤ x15.2.1)) then ((getI x15.2.2 a_10).bind fun e18=>(getI x15.2.2 x16).bind fun e19=>(Fff e18 e19).bind fun r20=>some (.inr (!(decide (r20 < 0))))) else (some (.inr false))) fun u17 : Bool=>bif u17 then (self (w64 (x16 + 1))) else (some (.inr x16))
noncomputable def Ffbt_lb (data_9 : List Event) (a_10 : Int) (b_11 : Int) (pivot_12 : Int) (cmp_13 : Unit) (x15 : Int × Int × (List Event)) : Int→Option ((Int × (List Event)) ⊕ Int):=fixO (Ffbt_lb_F data_9 a_10 b_11 pivot_12 cmp_13 x15)
theorem Ffbt_lb_fin (data_9 : List Event) (a_10 : Int) (b_11 : Int) (pivot_12 : Int) (cmp_13 : Unit) (x15 : Int × Int × (List Event)) : ∀ a,Fin1 fun f=>Ffbt_lb_F data_9 a_10 b_11 pivot_12 cmp_13 x15 f a:=by
  intro a
  unfold Ffbt_lb_F
  repeat first|exact f_const|exact f_self|refine f_cond ?_ ?_|refine f_bindJ ?_ (fun _=>?_)|refine f_bindL ?_ (fun _=>?_)|refine f_bind ?_ (fun _=>?_)|refine f_letJ (fun _=>?_)
theorem Ffbt_lb_eq (data_9 : List Event) (a_10 : Int) (b_11 : Int) (pivot_12 : Int) (cmp_13 : Unit) (x15 : Int × Int × (List Event)) (x : Int) : Ffbt_lb data_9 a_10 b_11 pivot_12 cmp_13 x15 x=Ffbt_lb_F data_9 a_10 b_11 pivot_12 cmp_13 x15 (Ffbt_lb data_9 a_10 b_11 pivot_12 cmp_13 x15) x:=fix_eq (Ffbt_lb_fin data_9 a_10 b_11 pivot_12 cmp_13 x15) x
noncomputable def Ffbt_lc_F (data_9 : List Event) (a_10 : Int) (b_11 : Int) (pivot_12 : Int) (cmp_13 : Unit) (u21 : Int) (x15 : Int × Int × (List Event)) (self : Int→Option ((Int × (List Event)) ⊕ Int)) (x22 : Int) : Option ((Int × (List Event)) ⊕ Int) :=
  bindL (ρ:=Int × (List Event)) (bif (decide (u21 ≤ x22)) then ((getI x15.2.2 a_10).bind fun e24=>(getI x15.2.2 x22).bind fun e25=>(Fff e24 e25).bind fun r26=>some (.inr (decide (r26 < 0)))) else (some (.inr false))) fun u23 : Bool=>bif u23 then (self (w64 (x22 - 1))) else (some (.inr x22))
noncomputable def Ffbt_lc (data_9 : List Event) (a_10 : Int) (b_11 : Int) (pivot_12 : Int) (cmp_13 : Unit) (u21 : Int) (x15 : Int × Int × (List Event)) : Int→Option ((Int × (List Event)) ⊕ Int):=fixO (Ffbt_lc_F data_9 a_10 b_11 pivot_12 cmp_13 u21 x15)
theorem Ffbt_lc_fin (data_9 : List Event) (a_10 : Int) (b_11 : Int) (pivot_12 : Int) (cmp_13 : Unit) (u21 : Int) (x15 : Int × Int × (List Event)) : ∀ a,Fin1 fun f=>Ffbt_lc_F data_9 a_10 b_11 pivot_12 cmp_13 u21 x15 f a:=by
  intro a
  unfold Ffbt_lc_F
  repeat first|exact f_const|exact f_self|refine f_cond ?_ ?_|refine f_bindJ ?_ (fun _=>?_)|refine f_bindL ?_ (fun _=>?_)|refine f_bind ?_ (fun _=>?_)|refine f_letJ (fun _=>?_)
theorem Ffbt_lc_eq (data_9 : List Event) (a_10 : Int) (b_11 : Int) (pivot_12 : Int) (cmp_13 : Unit) (u21 : Int) (x15 : Int × Int × (List Event)) (x : Int) : Ffbt_lc data_9 a_10 b_11 pivot_12 cmp_13 u21 x15 x=Ffbt_lc_F data_9 a_10 b_11 pivot_12 cmp_13 u21 x15 (Ffbt_lc data_9 a_10 b_11 pivot_12 cmp_13 u21 x15) x:=fix_eq (Ffbt_lc_fin data_9 a_10 b_11 pivot_12 cmp_13 u21 x15) x
noncomputable def Ffbt_la_F (data_9 : List Event) (a_10 : Int) (b_11 : Int) (pivot_12 : Int) (cmp_13 : Unit)  (self : (Int × Int × (List Event))→Option ((Int × (List Event)) ⊕ (Int × (List Event)))) (x15 : Int × Int × (List Event)) : Option ((Int × (List Event)) ⊕ (Int × (List Event))) :=
  bindL (ρ:=Int × (List Event)) (Ffbt_lb data_9 a_10 b_11 pivot_12 cmp_13 x15 x15.1) fun u21 : Int=>bindL (ρ:=Int × (List Event)) (Ffbt_lc data_9 a_10 b_11 pivot_12 cmp_13 u21 x15 x15.2.1) fun u27 : Int=>bif (decide (u21 > u27)) then (some (.inr (u21,x15.2.2))) else ((getI x15.2.2 u27).bind fun e28=>(getI x15.2.2 u21).bind fun e29=>(getI x15.2.2 u21).bind fun e30=>(getI (setI x15.2.2 u21 e28) u27).bind fun e33=>self ((w64 (u21 + 1)),(w64 (u27 - 1)),(setI (setI x15.2.2 u21 e28) u27 e29)))
noncomputable def Ffbt_la (data_9 : List Event) (a_10 : Int) (b_11 : Int) (pivot_12 : Int) (cmp_13 : Unit)  : (Int × Int × (List Event))→Option ((Int × (List Event)) ⊕ (Int × (List Event))):=fixO (Ffbt_la_F data_9 a_10 b_11 pivot_12 cmp_13)
theorem Ffbt_la_fin (data_9 : List Event) (a_10 : Int) (b_11 : Int) (pivot_12 : Int) (cmp_13 : Unit)  : ∀ a,Fin1 fun f=>Ffbt_la_F data_9 a_10 b_11 pivot_12 cmp_13 f a:=by
  intro a
  unfold Ffbt_la_F
  repeat first|exact f_const|exact f_self|refine f_cond ?_ ?_|refine f_bindJ ?_ (fun _=>?_)|refine f_bindL ?_ (fun _=>?_)|refine f_bind ?_ (fun _=>?_)|refine f_letJ (fun _=>?_)
theorem Ffbt_la_eq (data_9 : List Event) (a_10 : Int) (b_11 : Int) (pivot_12 : Int) (cmp_13 : Unit)  (x : Int × Int × (List Event)) : Ffbt_la data_9 a_10 b_11 pivot_12 cmp_13 x=Ffbt_la_F data_9 a_10 b_11 pivot_12 cmp_13 (Ffbt_la data_9 a_10 b_11 pivot_12 cmp_13) x:=fix_eq (Ffbt_la_fin data_9 a_10 b_11 pivot_12 cmp_13) x
noncomputable def Ffbt (data_9 : List Event) (a_10 : Int) (b_11 : Int) (pivot_12 : Int) (cmp_13 : Unit) : Option (Int × (List Event)) :=
  (getI data_9 pivot_12).bind fun e6=>(getI data_9 a_10).bind fun e7=>(getI data_9 a_10).bind fun e8=>(getI (setI data_9 a_10 e6) pivot_12).bind fun e11=>bindJ (ρ:=Int × (List Event)) (Ffbt_la data_9 a_10 b_11 pivot_12 cmp_13 ((w64 (a_10 + 1)),(w64 (b_11 - 1)),(setI (setI data_9 a_10 e6) pivot_12 e7))) fun u37 : Int × (List Event)=>bif Nat.beq u37.2.length data_9.length then (some (u37.1,u37.2)) else none
noncomputable def Ffbs_la_F (data_9 : List Event) (a_10 : Int) (b_11 : Int) (pivot_12 : Int) (cmp_13 : Unit) (e6 : Event) (e7 : Event) (self : Int→Option ((Int × Bool × (List Event)) ⊕ (Int × Int))) (x15 : Int) : Option ((Int × Bool × (List Event)) ⊕ (Int × Int)) :=
  bindL (ρ:=Int × Bool × (List Event)) (bif (decide (x15 ≤ (w64 (b_11 - 1)))) then ((getI (setI (setI data_9 a_10 e6) pivot_12 e7) x15).bind fun e17=>(getI (setI (setI data_9 a_10 e6) pivot_12 e7) a_10).bind fun e18=>(Fff e17 e18).bind fun r19=>some (.inr (decide (r19 < 0)))) else (some (.inr false))) fun u16 : Bool=>bif u16 then (self (w64 (x15 + 1))) else (some (.inr (x15,(w64 (b_11 - 1)))))
noncomputable def Ffbs_la (data_9 : List Event) (a_10 : Int) (b_11 : Int) (pivot_12 : Int) (cmp_13 : Unit) (e6 : Event) (e7 : Event) : Int→Option ((Int × Bool × (List Event)) ⊕ (Int × Int)):=fixO (Ffbs_la_F data_9 a_10 b_11 pivot_12 cmp_13 e6 e7)
theorem Ffbs_la_fin (data_9 : List Event) (a_10 : Int) (b_11 : Int) (pivot_12 : Int) (cmp_13 : Unit) (e6 : Event) (e7 : Event) : ∀ a,Fin1 fun f=>Ffbs_la_F data_9 a_10 b_11 pivot_12 cmp_13 e6 e7 f a:=by
  intro a
  unfold Ffbs_la_F
  repeat first|exact f_const|exact f_self|refine f_cond ?_ ?_|refine f_bindJ ?_ (fun _=>?_)|refine f_bindL ?_ (fun _=>?_)|refine f_bind ?_ (fun _=>?_)|refine f_letJ (fun _=>?_)
theorem Ffbs_la_eq (data_9 : List Event) (a_10 : Int) (b_11 : Int) (pivot_12 : Int) (cmp_13 : Unit) (e6 : Event) (e7 : Event) (x : Int) : Ffbs_la data_9 a_10 b_11 pivot_12 cmp_13 e6 e7 x=Ffbs_la_F data_9 a_10 b_11 pivot_12 cmp_13 e6 e7 (Ffbs_la data_9 a_10 b_11 pivot_12 cmp_13 e6 e7) x:=fix_eq (Ffbs_la_fin data_9 a_10 b_11 pivot_12 cmp_13 e6 e7) x
noncomputable def Ffbs_lb_F (data_9 : List Event) (a_10 : Int) (b_11 : Int) (pivot_12 : Int) (cmp_13 : Unit) (u20 : Int × Int) (e6 : Event) (e7 : Event) (self : Int→Option ((Int × Bool × (List Event)) ⊕ Int)) (x21 : Int) : Option ((Int × Bool × (List Event)) ⊕ Int) :=
  bindL (ρ:=Int × Bool × (List Event)) (bif (decide (u20.1 ≤ x21)) then ((getI (setI (setI data_9 a_10 e6) pivot_12 e7) x21).bind fun e23=>(getI (setI (setI data_9 a_10 e6) pivot_12 e7) a_10).bind fun e24=>(Fff e23 e24).bind fun r25=>some (.inr (!(decide (r25 < 0))))) else (some (.inr false))) fun u22 : Bool=>bif u22 then (self (w64 (x21 - 1))) else (some (.inr x21))
noncomputable def Ffbs_lb (data_9 : List Event) (a_10 : Int) (b_11 : Int) (pivot_12 : Int) (cmp_13 : Unit) (u20 : Int × Int) (e6 : Event) (e7 : Event) : Int→Option ((Int × Bool × (List Event)) ⊕ Int):=fixO (Ffbs_lb_F data_9 a_10 b_11 pivot_12 cmp_13 u20 e6 e7)
theorem Ffbs_lb_fin (data_9 : List Event) (a_10 : Int) (b_11 : Int) (pivot_12 : Int) (cmp_13 : Unit) (u20 : Int × Int) (e6 : Event) (e7 : Event) : ∀ a,Fin1 fun f=>Ffbs_lb_F data_9 a_10 b_11 pivot_12 cmp_13 u20 e6 e7 f a:=by
  intro a
  unfold Ffbs_lb_F
  repeat first|exact f_const|exact f_self|refine f_cond ?_ ?_|refine f_bindJ ?_ (fun _=>?_)|refine f_bindL ?_ (fun _=>?_)|refine f_bind ?_ (fun _=>?_)|refine f_letJ (fun _=>?_)
theorem Ffbs_lb_eq (data_9 : List Event) (a_10 : Int) (b_11 : Int) (pivot_12 : Int) (cmp_13 : Unit) (u20 : Int × Int) (e6 : Event) (e7 : Event) (x : Int) : Ffbs_lb data_9 a_10 b_11 pivot_12 cmp_13 u20 e6 e7 x=Ffbs_lb_F data_9 a_10 b_11 pivot_12 cmp_13 u20 e6 e7 (Ffbs_lb data_9 a_10 b_11 pivot_12 cmp_13 u20 e6 e7) x:=fix_eq (Ffbs_lb_fin data_9 a_10 b_11 pivot_12 cmp_13 u20 e6 e7) x
noncomputable def Ffbs_ld_F (data_9 : List Event) (a_10 : Int) (b_11 : Int) (pivot_12 : Int) (cmp_13 : Unit) (x46 : Int × Int × (List Event)) (self : Int→Option ((Int × Bool × (List Event)) ⊕ Int)) (x47 : Int) : Option ((Int × Bool × (List Event)) ⊕ Int) :=
  bindL (ρ:=Int × Bool × (List Event)) (bif (decide (x47 ≤ x46.2.1)) then ((getI x46.2.2 x47).bind fun e49=>(getI x46.2.2 a_10).bind fun e50=>(Fff e49 e50).bind fun r51=>some (.inr (decide (r51 < 0)))) else (some (.inr false))) fun u48 : Bool=>bif u48 then (self (w64 (x47 + 1))) else (some (.inr x47))
noncomputable def Ffbs_ld (data_9 : List Event) (a_10 : Int) (b_11 : Int) (pivot_12 : Int) (cmp_13 : Unit) (x46 : Int × Int × (List Event)) : Int→Option ((Int × Bool × (List Event)) ⊕ Int):=fixO (Ffbs_ld_F data_9 a_10 b_11 pivot_12 cmp_13 x46)
theorem Ffbs_ld_fin (data_9 : List Event) (a_10 : Int) (b_11 : Int) (pivot_12 : Int) (cmp_13 : Unit) (x46 : Int × Int × (List Event)) : ∀ a,Fin1 fun f=>Ffbs_ld_F data_9 a_10 b_11 pivot_12 cmp_13 x46 f a:=by
  intro a
  unfold Ffbs_ld_F
  repeat first|exact f_const|exact f_self|refine f_cond ?_ ?_|refine f_bindJ ?_ (fun _=>?_)|refine f_bindL ?_ (fun _=>?_)|refine f_bind ?_ (fun _=>?_)|refine f_letJ (fun _=>?_)
theorem Ffbs_ld_eq (data_9 : List Event) (a_10 : Int) (b_11 : Int) (pivot_12 : Int) (cmp_13 : Unit) (x46 : Int × Int × (List Event)) (x : Int) : Ffbs_ld data_9 a_10 b_11 pivot_12 cmp_13 x46 x=Ffbs_ld_F data_9 a_10 b_11 pivot_12 cmp_13 x46 (Ffbs_ld data_9 a_10 b_11 pivot_12 cmp_13 x46) x:=fix_eq (Ffbs_ld_fin data_9 a_10 b_11 pivot_12 cmp_13 x46) x
noncomputable def Ffbs_le_F (data_9 : List Event) (a_10 : Int) (b_11 : Int) (pivot_12 : Int) (cmp_13 : Unit) (u52 : Int) (x46 : Int × Int × (List Event)) (self : Int→Option ((Int × Bool × (List Event)) ⊕ Int)) (x53 : Int) : Option ((Int × Bool × (List Event)) ⊕ Int) :=
  bindL (ρ:=Int × Bool × (List Event)) (bif (decide (u52 ≤ x53)) then ((getI x46.2.2 x53).bind fun e55=>(getI x46.2.2 a_10).bind fun e56=>(Fff e55 e56).bind fun r57=>some (.inr (!(decide (r57 < 0))))) else (some (.inr false))) fun u54 : Bool=>bif u54 then (self (w64 (x53 - 1))) else (some (.inr x53))
noncomputable def Ffbs_le (data_9 : List Event) (a_10 : Int) (b_11 : Int) (pivot_12 : Int) (cmp_13 : Unit) (u52 : Int) (x46 : Int × Int × (List Event)) : Int→Option ((Int × Bool × (List Event)) ⊕ Int):=fixO (Ffbs_le_F data_9 a_10 b_11 pivot_12 cmp_13 u52 x46)
theorem Ffbs_le_fin (data_9 : List Event) (a_10 : Int) (b_11 : Int) (pivot_12 : Int) (cmp_13 : Unit) (u52 : Int) (x46 : Int × Int × (List Event)) : ∀ a,Fin1 fun f=>Ffbs_le_F data_9 a_10 b_11 pivot_12 cmp_13 u52 x46 f a:=by
  intro a
  unfold Ffbs_le_F
  repeat first|exact f_const|exact f_self|refine f_cond ?_ ?_|refine f_bindJ ?_ (fun _=>?_)|refine f_bindL ?_ (fun _=>?_)|refine f_bind ?_ (fun _=>?_)|refine f_letJ (fun _=>?_)
theorem Ffbs_le_eq (data_9 : List Event) (a_10 : Int) (b_11 : Int) (pivot_12 : Int) (cmp_13 : Unit) (u52 : Int) (x46 : Int × Int × (List Event)) (x : Int) : Ffbs_le data_9 a_10 b_11 pivot_12 cmp_13 u52 x46 x=Ffbs_le_F data_9 a_10 b_11 pivot_12 cmp_13 u52 x46 (Ffbs_le data_9 a_10 b_11 pivot_12 cmp_13 u52 x46) x:=fix_eq (Ffbs_le_fin data_9 a_10 b_11 pivot_12 cmp_13 u52 x46) x
noncomputable def Ffbs_lc_F (data_9 : List Event) (a_10 : Int) (b_11 : Int) (pivot_12 : Int) (cmp_13 : Unit)  (self : (Int × Int × (List Event))→Option ((Int × Bool × (List Event)) ⊕ (Int × (List Event)))) (x46 : Int × Int × (List Event)) : Option ((Int × Bool × (List Event)) ⊕ (Int × (List Event))) :=
  bindL (ρ:=Int × Bool × (List Event)) (Ffbs_ld data_9 a_10 b_11 pivot_12 cmp_13 x46 x46.1) fun u52 : Int=>bindL (ρ:=Int × Bool × (List Event)) (Ffbs_le data_9 a_10 b_11 pivot_12 cmp_13 u52 x46 x46.2.1) fun u58 : Int=>bif (decide (u52 > u58)) then (some (.inr (u58,x46.2.2))) else ((getI x46.2.2 u58).bind fun e59=>(getI x46.2.2 u52).bind fun e60=>(getI x46.2.2 u52).bind fun e61=>(getI (setI x46.2.2 u52 e59) u58).bind fun e64=>self ((w64 (u52 + 1)),(w64 (u58 - 1)),(setI (setI x46.2.2 u52 e59) u58 e60)))
noncomputable def Ffbs_lc (data_9 : List Event) (a_10 : Int) (b_11 : Int) (pivot_12 : Int) (cmp_13 : Unit)  : (Int × Int × (List Event))→Option ((Int × Bool × (List Event)) ⊕ (Int × (List Event))):=fixO (Ffbs_lc_F data_9 a_10 b_11 pivot_12 cmp_13)
theorem Ffbs_lc_fin (data_9 : List Event) (a_10 : Int) (b_11 : Int) (pivot_12 : Int) (cmp_13 : Unit)  : ∀ a,Fin1 fun f=>Ffbs_lc_F data_9 a_10 b_11 pivot_12 cmp_13 f a:=by
  intro a
  unfold Ffbs_lc_F
  repeat first|exact f_const|exact f_self|refine f_cond ?_ ?_|refine f_bindJ ?_ (fun _=>?_)|refine f_bindL ?_ (fun _=>?_)|refine f_bind ?_ (fun _=>?_)|refine f_letJ (fun _=>?_)
theorem Ffbs_lc_eq (data_9 : List Event) (a_10 : Int) (b_11 : Int) (pivot_12 : Int) (cmp_13 : Unit)  (x : Int × Int × (List Event)) : Ffbs_lc data_9 a_10 b_11 pivot_12 cmp_13 x=Ffbs_lc_F data_9 a_10 b_11 pivot_12 cmp_13 (Ffbs_lc data_9 a_10 b_11 pivot_12 cmp_13) x:=fix_eq (Ffbs_lc_fin data_9 a_10 b_11 pivot_12 cmp_13) x
noncomputable def Ffbs (data_9 : List Event) (a_10 : Int) (b_11 : Int) (pivot_12 : Int) (cmp_13 : Unit) : Option (Int × Bool × (List Event)) :=
  (getI data_9 pivot_12).bind fun e6=>(getI data_9 a_10).bind fun e7=>(getI data_9 a_10).bind fun e8=>(getI (setI data_9 a_10 e6) pivot_12).bind fun e11=>bindJ (ρ:=Int × Bool × (List Event)) (Ffbs_la data_9 a_10 b_11 pivot_12 cmp_13 e6 e7 (w64 (a_10 + 1))) fun u20 : Int × Int=>bindJ (ρ:=Int × Bool × (List Event)) (Ffbs_lb data_9 a_10 b_11 pivot_12 cmp_13 u20 e6 e7 u20.2) fun u26 : Int=>bif (decide (u20.1 > u26)) then ((getI (setI (setI data_9 a_10 e6) pivot_12 e7) a_10).bind fun e27=>(getI (setI (setI data_9 a_10 e6) pivot_12 e7) u26).bind fun e28=>(getI (setI (setI data_9 a_10 e6) pivot_12 e7) u26).bind fun e29=>(getI (setI (setI (setI data_9 a_10 e6) pivot_12 e7) u26 e27) a_10).bind fun e32=>bif Nat.beq (setI (setI (setI (setI data_9 a_10 e6) pivot_12 e7) u26 e27) a_10 e28).length data_9.length then (some (u26,true,(setI (setI (setI (setI data_9 a_10 e6) pivot_12 e7) u26 e27) a_10 e28))) else none) else ((getI (setI (setI data_9 a_10 e6) pivot_12 e7) u26).bind fun e37=>(getI (setI (setI data_9 a_10 e6) pivot_12 e7) u20.1).bind fun e38=>(getI (setI (setI data_9 a_10 e6) pivot_12 e7) u20.1).bind fun e39=>(getI (setI (setI (setI data_9 a_10 e6) pivot_12 e7) u20.1 e37) u26).bind fun e42=>bindJ (ρ:=Int × Bool × (List Event)) (Ffbs_lc data_9 a_10 b_11 pivot_12 cmp_13 ((w64 (u20.1 + 1)),(w64 (u26 - 1)),(setI (setI (setI (setI data_9 a_10 e6) pivot_12 e7) u20.1 e37) u26 e38))) fun u68 : Int × (List Event)=>(getI u68.2 a_10).bind fun e69=>(getI u68.2 u68.1).bind fun e70=>(getI u68.2 u68.1).bind fun e71=>(getI (setI u68.2 u68.1 e69) a_10).bind fun e74=>bif Nat.beq (setI (setI u68.2 u68.1 e69) a_10 e70).length data_9.length then (some (u68.1,false,(setI (setI u68.2 u68.1 e69) a_10 e70))) else none)
noncomputable def Ffbu_la_F (slf_Ffbu : ((List Event) × Int × Int × Int × Unit)→Option ((List Event))) (data_8 : List Event) (a_9 : Int) (b_10 : Int) (limit_11 : Int) (cmp_12 : Unit)  (self : (Int × Int × Int × Bool × Bool × (List Event))→Option (((List Event)) ⊕ Unit)) (x6 : Int × Int × Int × Bool × Bool × (List Event)) : Option (((List Event)) ⊕ Unit) :=
  bif (decide ((w64 (x6.2.1 - x6.1)) ≤ 12)) then ((Ffbm x6.2.2.2.2.2 x6.1 x6.2.1 ()).bind fun r7=>bif Nat.beq r7.length x6.2.2.2.2.2.length then (bif Nat.beq r7.length data_8.length then (some (.inl r7)) else none) else none) else (bif (x6.2.2.1 == 0) then ((Ffbl x6.2.2.2.2.2 x6.1 x6.2.1 ()).bind fun r10=>bif Nat.beq r10.length x6.2.2.2.2.2.length then (bif Nat.beq r10.length data_8.length then (some (.inl r10)) else none) else none) else (bindL (ρ:=(List Event)) (bif (!x6.2.2.2.1) then ((Ffbj x6.2.2.2.2.2 x6.1 x6.2.1 ()).bind fun r37=>bif Nat.beq r37.length x6.2.2.2.2.2.length then (some (.inr ((w64 (x6.2.2.1 - 1)),r37))) else none) else (some (.inr (x6.2.2.1,x6.2.2.2.2.2)))) fun u13 : Int × (List Event)=>(Ffbk u13.2 x6.1 x6.2.1 ()).bind fun r14=>bindL (ρ:=(List Event)) (bif (r14.2 == 2) then ((Ffbv u13.2 x6.1 x6.2.1 ()).bind fun r35=>bif Nat.beq r35.length u13.2.length then (some (.inr ((w64 ((w64 (x6.2.1 - 1)) - (w64 (r14.1 - x6.1)))),1,r35))) else none) else (some (.inr (r14.1,r14.2,u13.2)))) fun u15 : Int × Int × (List Event)=>letJ (bif x6.2.2.2.1 then (letJ (bif x6.2.2.2.2.1 then ((u15.2.1 == 1)) else (false)) fun u34 : Bool=>u34) else (false)) fun u16 : Bool=>bindL (ρ:=(List Event)) (bif u16 then ((Ffbr u15.2.2 x6.1 x6.2.1 ()).bind fun r31=>bif Nat.beq r31.2.length u15.2.2.length then (bif r31.1 then (bif Nat.beq r31.2.length data_8.length then (some (.inl r31.2)) else none) else (some (.inr r31.2))) else none) else (some (.inr u15.2.2))) fun u17 : (List Event)=>bindL (ρ:=(List Event)) (bif (decide (x6.1 > 0)) then ((getI u17 (w64 (x6.1 - 1))).bind fun e28=>(getI u17 u15.1).bind fun e29=>(Fff e28 e29).bind fun r30=>some (.inr (!(decide (r30 < 0))))) else (some (.inr false))) fun u18 : Bool=>bif u18 then ((Ffbt u17 x6.1 x6.2.1 u15.1 ()).bind fun r19=>bif Nat.beq r19.2.length u17.length then (self (r19.1,x6.2.1,u13.1,x6.2.2.2.1,x6.2.2.2.2.1,r19.2)) else none) else ((Ffbs u17 x6.1 x6.2.1 u15.1 ()).bind fun r21=>bif Nat.beq r21.2.2.length u17.length then (bindL (ρ:=(List Event)) (bif (decide ((w64 (r21.1 - x6.1)) < (w64 (x6.2.1 - r21.1)))) then ((slf_Ffbu (r21.2.2,x6.1,r21.1,u13.1,())).bind fun r24=>bif Nat.beq r24.length r21.2.2.length then (some (.inr ((w64 (r21.1 + 1)),x6.2.1,(decide ((w64 (r21.1 - x6.1)) ≥ (w64 ((w64 (x6.2.1 - x6.1)).tdiv 8)))),r24))) else none) else ((slf_Ffbu (r21.2.2,(w64 (r21.1 + 1)),x6.2.1,u13.1,())).bind fun r26=>bif Nat.beq r26.length r21.2.2.length then (some (.inr (x6.1,r21.1,(decide ((w64 (x6.2.1 - r21.1)) ≥ (w64 ((w64 (x6.2.1 - x6.1)).tdiv 8)))),r26))) else none)) fun u23 : Int × Int × Bool × (List Event)=>self (u23.1,u23.2.1,u13.1,u23.2.2.1,r21.2.1,u23.2.2.2)) else none)))
noncomputable def Ffbu_la (slf_Ffbu : ((List Event) × Int × Int × Int × Unit)→Option ((List Event))) (data_8 : List Event) (a_9 : Int) (b_10 : Int) (limit_11 : Int) (cmp_12 : Unit)  : (Int × Int × Int × Bool × Bool × (List Event))→Option (((List Event)) ⊕ Unit):=fixO (Ffbu_la_F slf_Ffbu data_8 a_9 b_10 limit_11 cmp_12)
theorem Ffbu_la_fin (slf_Ffbu : ((List Event) × Int × Int × Int × Unit)→Option ((List Event))) (data_8 : List Event) (a_9 : Int) (b_10 : Int) (limit_11 : Int) (cmp_12 : Unit)  : ∀ a,Fin1 fun f=>Ffbu_la_F slf_Ffbu data_8 a_9 b_10 limit_11 cmp_12 f a:=by
  intro a
  unfold Ffbu_la_F
  repeat first|exact f_const|exact f_self|refine f_cond ?_ ?_|refine f_bindJ ?_ (fun _=>?_)|refine f_bindL ?_ (fun _=>?_)|refine f_bind ?_ (fun _=>?_)|refine f_letJ (fun _=>?_)
theorem Ffbu_la_eq (slf_Ffbu : ((List Event) × Int × Int × Int × Unit)→Option ((List Event))) (data_8 : List Event) (a_9 : Int) (b_10 : Int) (limit_11 : Int) (cmp_12 : Unit)  (x : Int × Int × Int × Bool × Bool × (List Event)) : Ffbu_la slf_Ffbu data_8 a_9 b_10 limit_11 cmp_12 x=Ffbu_la_F slf_Ffbu data_8 a_9 b_10 limit_11 cmp_12 (Ffbu_la slf_Ffbu data_8 a_9 b_10 limit_11 cmp_12) x:=fix_eq (Ffbu_la_fin slf_Ffbu data_8 a_9 b_10 limit_11 cmp_12) x
noncomputable def Ffbu_B (slf_Ffbu : ((List Event) × Int × Int × Int × Unit)→Option ((List Event))) (data_8 : List Event) (a_9 : Int) (b_10 : Int) (limit_11 : Int) (cmp_12 : Unit) : Option ((List Event)) :=
  bindJ (ρ:=(List Event)) (Ffbu_la slf_Ffbu data_8 a_9 b_10 limit_11 cmp_12 (a_9,b_10,limit_11,true,true,data_8)) fun u39 : Unit=>none
noncomputable def Ffbu_G (slf_Ffbu : ((List Event) × Int × Int × Int × Unit)→Option ((List Event))) (x : (List Event) × Int × Int × Int × Unit) : Option ((List Event)):=Ffbu_B slf_Ffbu x.1 x.2.1 x.2.2.1 x.2.2.2.1 x.2.2.2.2
noncomputable def Ffbu (data_8 : List Event) (a_9 : Int) (b_10 : Int) (limit_11 : Int) (cmp_12 : Unit) : Option ((List Event)):=fixO Ffbu_G (data_8,a_9,b_10,limit_11,cmp_12)
theorem Ffbu_fin : ∀ x,Fin1 fun slf_Ffbu=>Ffbu_G slf_Ffbu x:=by
  intro x
  unfold Ffbu_G Ffbu_B
  repeat first|exact f_const|exact f_self|exact f_selfL|exact f_selfR|exact f_selfLL|exact f_selfRL|exact f_selfLLL|exact f_selfRLL|refine f_cond ?_ ?_|refine f_bindJ ?_ (fun _=>?_)|refine f_bindL ?_ (fun _=>?_)|refine f_bind ?_ (fun _=>?_)|refine f_letJ (fun _=>?_)|refine f_fix (fun _=>?_) | unfold Ffbu_la | unfold Ffbu_la_F
theorem Ffbu_eq (data_8 : List Event) (a_9 : Int) (b_10 : Int) (limit_11 : Int) (cmp_12 : Unit) : Ffbu data_8 a_9 b_10 limit_11 cmp_12=Ffbu_B (fixO Ffbu_G) data_8 a_9 b_10 limit_11 cmp_12:=fix_eq Ffbu_fin (data_8,a_9,b_10,limit_11,cmp_12)
noncomputable def Ffbi (x_4 : List Event) (cmp_5 : Unit) : Option ((List Event)) :=
  (Ffba (IntKind.u64.wrap (len x_4))).bind fun r3=>(Ffbu x_4 0 (len x_4) r3 ()).bind fun r4=>bif Nat.beq r4.length x_4.length then (bif Nat.beq r4.length x_4.length then (some r4) else none) else none
noncomputable def Ffj (list_1 : List Event) (parties_2 : Int) : Option ((List Event) × Bool) :=
  (Ffk list_1 parties_2).bind fun r3=>bif (!r3) then (some ([],false)) else ((Ffbc list_1).bind fun r4=>(Ffbi r4 ()).bind fun r5=>bif Nat.beq r5.length r4.length then (some (r5,true)) else none)
noncomputable def Ffi (a_1 : List Event) (b_2 : List Event) (parties_3 : Int) : Option ((List Event) × Bool) :=
  (Ffg a_1 parties_3).bind fun r4=>bindJ (ρ:=(List Event) × Bool) (bif (!r4) then (some (.inr true)) else ((Ffg b_2 parties_3).bind fun r9=>some (.inr (!r9)))) fun u5 : Bool=>bif u5 then (some ([],false)) else ((Ffbc a_1).bind fun r6=>(appI 40 r6 b_2).bind fun a7=>(Ffj a7 parties_3).bind fun r8=>some (r8.1,r8.2))
noncomputable def Ffr (a_1 : Event) (b_2 : Event) : Option Bool :=
  bif (a_1.Day != b_2.Day) then (some false) else (bif (a_1.Party != b_2.Party) then (some false) else (bif (!(a_1.Action == b_2.Action)) then (some false) else (bif (a_1.Amount != b_2.Amount) then (some false) else (some true))))
noncomputable def Ffs_la_F (a_1 : List Event) (b_2 : List Event)  (self : Int→Option (Bool ⊕ Unit)) (x3 : Int) : Option (Bool ⊕ Unit) :=
  bif (decide (x3 < (len a_1))) then ((getI a_1 x3).bind fun e4=>(getI b_2 x3).bind fun e5=>(Ffr e4 e5).bind fun r6=>bif (!r6) then (some (.inl false)) else (self (w64 (x3 + 1)))) else (some (.inr ()))
noncomputable def Ffs_la (a_1 : List Event) (b_2 : List Event)  : Int→Option (Bool ⊕ Unit):=fixO (Ffs_la_F a_1 b_2)
theorem Ffs_la_fin (a_1 : List Event) (b_2 : List Event)  : ∀ a,Fin1 fun f=>Ffs_la_F a_1 b_2 f a:=by
  intro a
  unfold Ffs_la_F
  repeat first|exact f_const|exact f_self|refine f_cond ?_ ?_|refine f_bindJ ?_ (fun _=>?_)|refine f_bindL ?_ (fun _=>?_)|refine f_bind ?_ (fun _=>?_)|refine f_letJ (fun _=>?_)
theorem Ffs_la_eq (a_1 : List Event) (b_2 : List Event)  (x : Int) : Ffs_la a_1 b_2 x=Ffs_la_F a_1 b_2 (Ffs_la a_1 b_2) x:=fix_eq (Ffs_la_fin a_1 b_2) x
noncomputable def Ffs (a_1 : List Event) (b_2 : List Event) : Option Bool :=
  bif ((len a_1) != (len b_2)) then (some false) else (bindJ (ρ:=Bool) (Ffs_la a_1 b_2 0) fun u7 : Unit=>some true)
noncomputable def Ffv_la_F (k_1 : Int)  (self : (Int × Str)→Option (Str ⊕ Str)) (x2 : Int × Str) : Option (Str ⊕ Str) :=
  bif (decide (x2.1 > 0)) then ((catS ([(IntKind.u8.wrap (w64 (48 + (x2.1.tmod 10))))].map fun n=>UInt8.ofNat n.toNat) x2.2).bind fun s3=>self ((w64 (x2.1.tdiv 10)),s3)) else (some (.inr x2.2))
noncomputable def Ffv_la (k_1 : Int)  : (Int × Str)→Option (Str ⊕ Str):=fixO (Ffv_la_F k_1)
theorem Ffv_la_fin (k_1 : Int)  : ∀ a,Fin1 fun f=>Ffv_la_F k_1 f a:=by
  intro a
  unfold Ffv_la_F
  repeat first|exact f_const|exact f_self|refine f_cond ?_ ?_|refine f_bindJ ?_ (fun _=>?_)|refine f_bindL ?_ (fun _=>?_)|refine f_bind ?_ (fun _=>?_)|refine f_letJ (fun _=>?_)
theorem Ffv_la_eq (k_1 : Int)  (x : Int × Str) : Ffv_la k_1 x=Ffv_la_F k_1 (Ffv_la k_1) x:=fix_eq (Ffv_la_fin k_1) x
noncomputable def Ffv (k_1 : Int) : Option Str :=
  bif (decide (k_1 ≤ 0)) then (some ([109,48] : Str)) else (bindJ (ρ:=Str) (Ffv_la k_1 (k_1,([] : Str))) fun u4 : Str=>(catS ([109] : Str) u4).bind fun s5=>some s5)
noncomputable def Ffu_la_F (a_6 : List Event) (k_7 : Int)  (self : (Int × Int × (List Event))→Option ((Int × (List Event)) ⊕ (Int × (List Event)))) (x3 : Int × Int × (List Event)) : Option ((Int × (List Event)) ⊕ (Int × (List Event))) :=
  bif (decide (x3.2.1 < (len x3.2.2))) then ((getI x3.2.2 x3.2.1).bind fun e4=>(getI (setI x3.2.2 x3.2.1 (Event.mk x3.1 e4.Party e4.Action e4.Amount)) x3.2.1).bind fun e5=>(Ffv (w64 ((w64 (x3.1 + 1)) + 1))).bind fun r7=>(getI (setI (setI x3.2.2 x3.2.1 (Event.mk x3.1 e4.Party e4.Action e4.Amount)) x3.2.1 (Event.mk e5.Day (w64 (x3.1 + 1)) e5.Action e5.Amount)) x3.2.1).bind fun e8=>(getI (setI (setI (setI x3.2.2 x3.2.1 (Event.mk x3.1 e4.Party e4.Action e4.Amount)) x3.2.1 (Event.mk e5.Day (w64 (x3.1 + 1)) e5.Action e5.Amount)) x3.2.1 (Event.mk e8.Day e8.Party r7 e8.Amount)) x3.2.1).bind fun e11=>self ((w64 ((w64 ((w64 ((w64 (x3.1 + 1)) + 1)) + 1)) + 1)),(w64 (x3.2.1 + 1)),(setI (setI (setI (setI x3.2.2 x3.2.1 (Event.mk x3.1 e4.Party e4.Action e4.Amount)) x3.2.1 (Event.mk e5.Day (w64 (x3.1 + 1)) e5.Action e5.Amount)) x3.2.1 (Event.mk e8.Day e8.Party r7 e8.Amount)) x3.2.1 (Event.mk e11.Day e11.Party e11.Action (w64 ((w64 ((w64 (x3.1 + 1)) + 1)) + 1)))))) else (some (.inr (x3.1,x3.2.2)))
noncomputable def Ffu_la (a_6 : List Event) (k_7 : Int)  : (Int × Int × (List Event))→Option ((Int × (List Event)) ⊕ (Int × (List Event))):=fixO (Ffu_la_F a_6 k_7)
theorem Ffu_la_fin (a_6 : List Event) (k_7 : Int)  : ∀ a,Fin1 fun f=>Ffu_la_F a_6 k_7 f a:=by
  intro a
  unfold Ffu_la_F
  repeat first|exact f_const|exact f_self|refine f_cond ?_ ?_|refine f_bindJ ?_ (fun _=>?_)|refine f_bindL ?_ (fun _=>?_)|refine f_bind ?_ (fun _=>?_)|refine f_letJ (fun _=>?_)
theorem Ffu_la_eq (a_6 : List Event) (k_7 : Int)  (x : Int × Int × (List Event)) : Ffu_la a_6 k_7 x=Ffu_la_F a_6 k_7 (Ffu_la a_6 k_7) x:=fix_eq (Ffu_la_fin a_6 k_7) x
noncomputable def Ffu (a_6 : List Event) (k_7 : Int) : Option (Int × (List Event)) :=
  bindJ (ρ:=Int × (List Event)) (Ffu_la a_6 k_7 (k_7,0,a_6)) fun u15 : Int × (List Event)=>bif Nat.beq u15.2.length a_6.length then (some (u15.1,u15.2)) else none
noncomputable def Fft_la_F (a_1 : List Event) (k_2 : Int)  (self : (Int × Int)→Option (Int ⊕ Int)) (x3 : Int × Int) : Option (Int ⊕ Int) :=
  bif (decide (x3.2 < (len a_1))) then ((getI a_1 x3.2).bind fun e4=>bif (e4.Day != x3.1) then (some (.inl (-1))) else ((getI a_1 x3.2).bind fun e5=>bif (e5.Party != (w64 (x3.1 + 1))) then (some (.inl (-1))) else ((getI a_1 x3.2).bind fun e6=>(Ffv (w64 ((w64 (x3.1 + 1)) + 1))).bind fun r7=>bif (!(e6.Action == r7)) then (some (.inl (-1))) else ((getI a_1 x3.2).bind fun e8=>bif (e8.Amount != (w64 ((w64 ((w64 (x3.1 + 1)) + 1)) + 1))) then (some (.inl (-1))) else (self ((w64 ((w64 ((w64 ((w64 (x3.1 + 1)) + 1)) + 1)) + 1)),(w64 (x3.2 + 1)))))))) else (some (.inr x3.1))
noncomputable def Fft_la (a_1 : List Event) (k_2 : Int)  : (Int × Int)→Option (Int ⊕ Int):=fixO (Fft_la_F a_1 k_2)
theorem Fft_la_fin (a_1 : List Event) (k_2 : Int)  : ∀ a,Fin1 fun f=>Fft_la_F a_1 k_2 f a:=by
  intro a
  unfold Fft_la_F
  repeat first|exact f_const|exact f_self|refine f_cond ?_ ?_|refine f_bindJ ?_ (fun _=>?_)|refine f_bindL ?_ (fun _=>?_)|refine f_bind ?_ (fun _=>?_)|refine f_letJ (fun _=>?_)
theorem Fft_la_eq (a_1 : List Event) (k_2 : Int)  (x : Int × Int) : Fft_la a_1 k_2 x=Fft_la_F a_1 k_2 (Fft_la a_1 k_2) x:=fix_eq (Fft_la_fin a_1 k_2) x
noncomputable def Fft (a_1 : List Event) (k_2 : Int) : Option Int :=
  bindJ (ρ:=Int) (Fft_la a_1 k_2 (k_2,0)) fun u9 : Int=>some u9
noncomputable def laws_FnExactMergeEvents (aA_1 : List Event) (aB_2 : List Event) (aParties_3 : Int) : Option Bool :=
  (Ffx aA_1 1048576).bind fun r4=>bif (decide (r4 < 0)) then (some true) else ((Ffx aB_2 r4).bind fun r5=>bif (decide (r5 < 0)) then (some true) else ((Ffz aA_1).bind fun r6=>(Ffz aB_2).bind fun r7=>(Ffby r6 r7 aParties_3).bind fun r8=>(Ffz aA_1).bind fun r9=>(Ffz aB_2).bind fun r10=>(Ffi r9 r10 aParties_3).bind fun r11=>(Ffs r11.1 r8.1).bind fun r12=>letJ (bif (!r12) then (true) else ((!(r11.2 == r8.2)))) fun u13 : Bool=>bif u13 then (some false) else ((Ffz aA_1).bind fun r14=>(Ffs r9 r14).bind fun r15=>bif (!r15) then (some false) else ((Ffz aB_2).bind fun r16=>(Ffs r10 r16).bind fun r17=>bif (!r17) then (some false) else ((Ffu r9 1).bind fun r18=>bif Nat.beq r18.2.length r9.length then ((Ffu r10 r18.1).bind fun r20=>bif Nat.beq r20.2.length r10.length then (bindJ (ρ:=Bool) (bif (decide (r20.1 < 0)) then (some (.inr true)) else ((Ffs r11.1 r8.1).bind fun r32=>letJ (bif (!r32) then (true) else ((!(r11.2 == r8.2)))) fun u33 : Bool=>some (.inr u33))) fun u22 : Bool=>bif u22 then (some false) else ((Ffu r11.1 1).bind fun r23=>bif Nat.beq r23.2.length r11.1.length then ((Fft r23.2 1).bind fun r25=>bif (decide (r25 < 0)) then (some false) else (bif (r25 != r23.1) then (some false) else ((Ffz aA_1).bind fun r26=>(Ffz aB_2).bind fun r27=>(Ffi r26 r27 aParties_3).bind fun r28=>(Ffs r28.1 r8.1).bind fun r29=>letJ (bif (!r29) then (true) else ((!(r28.2 == r8.2)))) fun u30 : Bool=>bif u30 then (some false) else ((Fft r23.2 1).bind fun r31=>bif (decide (r31 < 0)) then (some false) else (bif (r31 != r23.1) then (some false) else (some true)))))) else none)) else none) else none)))))
end Go.Ln
