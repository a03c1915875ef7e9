/-
  What each function of the law computes, as a plain function.
-/
import Derived.Test.YtgcnameabpnpaaaDoorLnD
set_option maxHeartbeats 4000000
set_option linter.unusedVariables false
set_option linter.unusedSimpArgs false
set_option maxRecDepth 100000
namespace Go.Ln
open Go
structure Event where
  Day : Int
  Party : Int
  Action : Str
  Amount : Int
def enc_Event (x : Event) : V:=.agg [I (x.Day),I (x.Party),str (x.Action),I (x.Amount)]
theorem enc_Event_cells (x : Event) : (cells (enc_Event x)).length=4 ∧ (cells (enc_Event x)).all cellV=true:=⟨rfl,rfl⟩
theorem enc_Event_imm (x : Event) : imm (enc_Event x)=enc_Event x:=rfl
theorem enc_Event_himm (x : Event) : hasImm (enc_Event x)=false:=rfl
theorem enc_Event_flat (x : Event) : flatE (enc_Event x)=true:=rfl
theorem enc_Event_inj (a b : Event) (h : enc_Event a=enc_Event b) : a=b:=by
  obtain ⟨p0,p1,p2,p3⟩:=a
  obtain ⟨q0,q1,q2,q3⟩:=b
  replace h:=V.agg.inj h
  obtain ⟨h0,h⟩:=List.cons.inj h
  obtain rfl:=I_inj p0 q0 h0
  obtain ⟨h1,h⟩:=List.cons.inj h
  obtain rfl:=I_inj p1 q1 h1
  obtain ⟨h2,h⟩:=List.cons.inj h
  obtain rfl:=str_inj p2 q2 h2
  obtain ⟨h3,h⟩:=List.cons.inj h
  obtain rfl:=I_inj p3 q3 h3
  rfl
structure l1Cur where
  f_code : List Int
  f_at : Int
  f_seed : Int
def encI_l1Cur (x : l1Cur) : V:=.agg [.isl false ((x.f_code).map (V.int .u8)),I (x.f_at),.int .u64 (x.f_seed)]
theorem encI_l1Cur_cells (x : l1Cur) : (cells (encI_l1Cur x)).length=3 ∧ (cells (encI_l1Cur x)).all cellV=true:=⟨rfl,rfl⟩
theorem encI_l1Cur_imm (x : l1Cur) : imm (encI_l1Cur x)=encI_l1Cur x:=rfl
theorem encI_l1Cur_inj (a b : l1Cur) (h : encI_l1Cur a=encI_l1Cur b) : a=b:=by
  obtain ⟨p0,p1,p2⟩:=a
  obtain ⟨q0,q1,q2⟩:=b
  replace h:=V.agg.inj h
  obtain ⟨h0,h⟩:=List.cons.inj h
  obtain rfl:=(isl_inj (vint_inj (k:=.u8))) p0 q0 h0
  obtain ⟨h1,h⟩:=List.cons.inj h
  obtain rfl:=I_inj p1 q1 h1
  obtain ⟨h2,h⟩:=List.cons.inj h
  obtain rfl:=(vint_inj (k:=.u64)) p2 q2 h2
  rfl
def encO_l1Cur (x : l1Cur) : V:=.agg [.isl false ((x.f_code).map (V.int .u8)),I (x.f_at),.int .u64 (x.f_seed)]
theorem encO_l1Cur_cells (x : l1Cur) : (cells (encO_l1Cur x)).length=3 ∧ (cells (encO_l1Cur x)).all cellV=true:=⟨rfl,rfl⟩
theorem encO_l1Cur_imm (x : l1Cur) : imm (encO_l1Cur x)=encI_l1Cur x:=rfl
theorem encO_l1Cur_inj (a b : l1Cur) (h : encO_l1Cur a=encO_l1Cur b) : a=b:=by
  obtain ⟨p0,p1,p2⟩:=a
  obtain ⟨q0,q1,q2⟩:=b
  replace h:=V.agg.inj h
  obtain ⟨h0,h⟩:=List.cons.inj h
  obtain rfl:=(isl_inj (vint_inj (k:=.u8))) p0 q0 h0
  obtain ⟨h1,h⟩:=List.cons.inj h
  obtain rfl:=I_inj p1 q1 h1
  obtain ⟨h2,h⟩:=List.cons.inj h
  obtain rfl:=(vint_inj (k:=.u64)) p2 q2 h2
  rfl
def ok_Event (x : Event) : Prop:=I64 x.Day ∧ I64 x.Party ∧ okS x.Action ∧ I64 x.Amount
def ok_l1Cur (x : l1Cur) : Prop:=(okL (okI .u8)) x.f_code ∧ I64 x.f_at ∧ (okI .u64) x.f_seed
noncomputable def laws_vBig (code_1 : List Int) : Option Bool :=
  some (decide ((len code_1) > 65536))
noncomputable def Ffce (c_3 : l1Cur) : Option (Int × l1Cur) :=
  bindJ (ρ:=Int × l1Cur) (bif (decide (c_3.f_at < (len c_3.f_code))) then ((getI c_3.f_code c_3.f_at).bind fun e3=>some (.inr (IntKind.i64.wrap e3))) else (some (.inr 0))) fun u2 : Int=>bif (decide ((w64 (c_3.f_at + 1)) ≤ (len c_3.f_code))) then (some (u2,(l1Cur.mk c_3.f_code (w64 (c_3.f_at + 1)) (IntKind.u64.wrap ((IntKind.u64.wrap ((IntKind.u64.wrap (c_3.f_seed * 6364136223846793005)) + (IntKind.u64.wrap u2))) + 902902))))) else (some ((IntKind.i64.wrap (andI .u64 (shrI .u64 (IntKind.u64.wrap ((IntKind.u64.wrap ((IntKind.u64.wrap (c_3.f_seed * 6364136223846793005)) + (IntKind.u64.wrap u2))) + 902902)) 40) 255)),(l1Cur.mk c_3.f_code (w64 (c_3.f_at + 1)) (IntKind.u64.wrap ((IntKind.u64.wrap ((IntKind.u64.wrap (c_3.f_seed * 6364136223846793005)) + (IntKind.u64.wrap u2))) + 902902)))))
noncomputable def Ffch (c_3 : l1Cur) (n_4 : Int) : Option (Int × l1Cur) :=
  bif (decide (n_4 ≤ 1)) then (some (0,c_3)) else ((Ffce c_3).bind fun r3=>bindJ (ρ:=Int × l1Cur) (bif (decide (n_4 > 200)) then ((Ffce r3.2).bind fun r6=>some (.inr ((w64 ((w64 (r3.1 * 256)) + r6.1)),r6.2.f_code,r6.2.f_at,r6.2.f_seed))) else (some (.inr (r3.1,r3.2.f_code,r3.2.f_at,r3.2.f_seed)))) fun u4 : Int × (List Int) × Int × Int=>(remI u4.1 n_4).bind fun q5=>some (q5,(l1Cur.mk u4.2.1 u4.2.2.1 u4.2.2.2)))
noncomputable def Ffby (c_3 : l1Cur) (list_4 : List Int) : Option (Int × l1Cur) :=
  (Ffch c_3 (len list_4)).bind fun r3=>(getI list_4 r3.1).bind fun e4=>some (e4,r3.2)
noncomputable def Ffcj  : Option ((List Str)) :=
  some [([112,97,105,100] : Str),([115,101,110,116] : Str),([108,97,116,101] : Str),([97] : Str),([98] : Str)]
noncomputable def Ffcf (c_3 : l1Cur) (list_4 : List Str) : Option (Str × l1Cur) :=
  (Ffch c_3 (len list_4)).bind fun r3=>(getI list_4 r3.1).bind fun e4=>some (e4,r3.2)
noncomputable def Ffcc (c_2 : l1Cur) : Option (Event × l1Cur) :=
  (Ffby c_2 [0,1,2,3,5,8,10,12,20,40]).bind fun r2=>(Ffch r2.2 2).bind fun r3=>(Ffcj).bind fun r4=>(Ffcf r3.2 r4).bind fun r5=>(Ffby r5.2 [0,0,50,100,250]).bind fun r6=>some ((Event.mk r2.1 r3.1 r5.1 r6.1),r6.2)
noncomputable def Ffcm (a_1 : Event) (b_2 : Event) : Option Int :=
  bindJ (ρ:=Int) (bif (a_1.Day != b_2.Day) then (some (.inr (a_1.Day,b_2.Day))) else (bindL (ρ:=Int) (bif (a_1.Party != b_2.Party) then (some (.inr (a_1.Party,b_2.Party))) else (bif (Op.bytesLess a_1.Action b_2.Action) then (some (.inl (-1))) else (bif (!(Op.bytesLess a_1.Action b_2.Action || a_1.Action == b_2.Action)) then (some (.inl 1)) else (some (.inr (a_1.Amount,b_2.Amount)))))) fun u4 : Int × Int=>some (.inr (u4.1,u4.2)))) fun u3 : Int × Int=>bif (decide (u3.1 < u3.2)) then (some (-1)) else (bif (decide (u3.1 > u3.2)) then (some 1) else (some 0))
noncomputable def Ffcp_lb_F (list_1 : List Event) (x2 : Int × (List Event)) (self : Int→Option (((List Event)) ⊕ Int)) (x3 : Int) : Option (((List Event)) ⊕ Int) :=
  bindL (ρ:=(List Event)) (bif (decide (x3 > 0)) then ((getI list_1 x2.1).bind fun e5=>(getI x2.2 (w64 (x3 - 1))).bind fun e6=>(Ffcm e5 e6).bind fun r7=>some (.inr (decide (r7 < 0)))) else (some (.inr false))) fun u4 : Bool=>bif u4 then (self (w64 (x3 - 1))) else (some (.inr x3))
noncomputable def Ffcp_lb (list_1 : List Event) (x2 : Int × (List Event)) : Int→Option (((List Event)) ⊕ Int):=fixO (Ffcp_lb_F list_1 x2)
theorem Ffcp_lb_fin (list_1 : List Event) (x2 : Int × (List Event)) : ∀ a,Fin1 fun f=>Ffcp_lb_F list_1 x2 f a:=by
  intro a
  unfold Ffcp_lb_F
  repeat first|exact f_const|exact f_self|refine f_cond ?_ ?_|refine f_bindJ ?_ (fun _=>?_)|refine f_bindL ?_ (fun _=>?_)|refine f_bind ?_ (fun _=>?_)|refine f_letJ (fun _=>?_)
theorem Ffcp_lb_eq (list_1 : List Event) (x2 : Int × (List Event)) (x : Int) : Ffcp_lb list_1 x2 x=Ffcp_lb_F list_1 x2 (Ffcp_lb list_1 x2) x:=fix_eq (Ffcp_lb_fin list_1 x2) x
noncomputable def Ffcp_la_F (list_1 : List Event)  (self : (Int × (List Event))→Option (((List Event)) ⊕ ((List Event)))) (x2 : Int × (List Event)) : Option (((List Event)) ⊕ ((List Event))) :=
  bif (decide (x2.1 < (len list_1))) then (bindL (ρ:=(List Event)) (Ffcp_lb list_1 x2 (len x2.2)) fun u8 : Int=>(subP x2.2.length 0 u8).bind fun s9=>(partP x2.2 (0 + Int.toNat (0)) (Int.toNat (u8) - Int.toNat (0))).bind fun p10=>(appI 40 ([] : List Event) p10).bind fun a11=>(getI list_1 x2.1).bind fun e12=>(appI 40 a11 [e12]).bind fun a13=>(subP x2.2.length u8 (len x2.2)).bind fun s14=>(partP x2.2 (0 + Int.toNat (u8)) (Int.toNat (len x2.2) - Int.toNat (u8))).bind fun p15=>(appI 40 a13 p15).bind fun a16=>self ((w64 (x2.1 + 1)),a16)) else (some (.inr x2.2))
noncomputable def Ffcp_la (list_1 : List Event)  : (Int × (List Event))→Option (((List Event)) ⊕ ((List Event))):=fixO (Ffcp_la_F list_1)
theorem Ffcp_la_fin (list_1 : List Event)  : ∀ a,Fin1 fun f=>Ffcp_la_F list_1 f a:=by
  intro a
  unfold Ffcp_la_F
  repeat first|exact f_const|exact f_self|refine f_cond ?_ ?_|refine f_bindJ ?_ (fun _=>?_)|refine f_bindL ?_ (fun _=>?_)|refine f_bind ?_ (fun _=>?_)|refine f_letJ (fun _=>?_)
theorem Ffcp_la_eq (list_1 : List Event)  (x : Int × (List Event)) : Ffcp_la list_1 x=Ffcp_la_F list_1 (Ffcp_la list_1) x:=fix_eq (Ffcp_la_fin list_1) x
noncomputable def Ffcp (list_1 : List Event) : Option ((List Event)) :=
  bindJ (ρ:=(List Event)) (Ffcp_la list_1 (0,[])) fun u17 : (List Event)=>some u17
noncomputable def Ffcd_la_F (c_3 : l1Cur) (n_4 : Int)  (self : (Int × (List Int) × Int × Int × (List Event))→Option (((List Event) × l1Cur) ⊕ ((List Int) × Int × Int × (List Event)))) (x4 : Int × (List Int) × Int × Int × (List Event)) : Option (((List Event) × l1Cur) ⊕ ((List Int) × Int × Int × (List Event))) :=
  bif (decide (x4.1 > 0)) then ((Ffcc (l1Cur.mk x4.2.1 x4.2.2.1 x4.2.2.2.1)).bind fun r5=>(appI 40 x4.2.2.2.2 [r5.1]).bind fun a6=>self ((w64 (x4.1 - 1)),r5.2.f_code,r5.2.f_at,r5.2.f_seed,a6)) else (some (.inr (x4.2.1,x4.2.2.1,x4.2.2.2.1,x4.2.2.2.2)))
noncomputable def Ffcd_la (c_3 : l1Cur) (n_4 : Int)  : (Int × (List Int) × Int × Int × (List Event))→Option (((List Event) × l1Cur) ⊕ ((List Int) × Int × Int × (List Event))):=fixO (Ffcd_la_F c_3 n_4)
theorem Ffcd_la_fin (c_3 : l1Cur) (n_4 : Int)  : ∀ a,Fin1 fun f=>Ffcd_la_F c_3 n_4 f a:=by
  intro a
  unfold Ffcd_la_F
  repeat first|exact f_const|exact f_self|refine f_cond ?_ ?_|refine f_bindJ ?_ (fun _=>?_)|refine f_bindL ?_ (fun _=>?_)|refine f_bind ?_ (fun _=>?_)|refine f_letJ (fun _=>?_)
theorem Ffcd_la_eq (c_3 : l1Cur) (n_4 : Int)  (x : Int × (List Int) × Int × Int × (List Event)) : Ffcd_la c_3 n_4 x=Ffcd_la_F c_3 n_4 (Ffcd_la c_3 n_4) x:=fix_eq (Ffcd_la_fin c_3 n_4) x
noncomputable def Ffcd (c_3 : l1Cur) (n_4 : Int) : Option ((List Event) × l1Cur) :=
  (Ffch c_3 (w64 (n_4 + 1))).bind fun r3=>bindJ (ρ:=(List Event) × l1Cur) (Ffcd_la c_3 n_4 (r3.1,r3.2.f_code,r3.2.f_at,r3.2.f_seed,[])) fun u7 : (List Int) × Int × Int × (List Event)=>(Ffcp u7.2.2.2).bind fun r8=>some (r8,(l1Cur.mk u7.1 u7.2.1 u7.2.2.1))
noncomputable def Ffcg (c_3 : l1Cur) (n_4 : Int) : Option (Bool × l1Cur) :=
  (Ffch c_3 n_4).bind fun r3=>some ((r3.1 == 0),r3.2)
noncomputable def Ffcb (c_2 : l1Cur) : Option (Int × l1Cur) :=
  (Ffch c_2 6).bind fun r2=>bif (r2.1 == 0) then ((Ffby r2.2 [0,59,60,365,366,424,425,36524,36523,30,31]).bind fun r3=>some (r3.1,r3.2)) else (bif (r2.1 == 1) then ((Ffch r2.2 36525).bind fun r4=>some (r4.1,r4.2)) else ((Ffch r2.2 1500).bind fun r5=>some (r5.1,r5.2)))
noncomputable def Ffbz (c_2 : l1Cur) : Option (Int × l1Cur) :=
  (Ffcg c_2 16).bind fun r2=>bif r2.1 then ((Ffby r2.2 [(-1),36524,36525,1099511627776]).bind fun r3=>some (r3.1,r3.2)) else ((Ffcb r2.2).bind fun r4=>some (r4.1,r4.2))
noncomputable def Ffca_la_F (c_2 : l1Cur)  (self : ((List Int) × Int × Int × (List Event))→Option (((List Event) × l1Cur) ⊕ ((List Int) × Int × Int × (List Event)))) (x14 : (List Int) × Int × Int × (List Event)) : Option (((List Event) × l1Cur) ⊕ ((List Int) × Int × Int × (List Event))) :=
  (Ffch (l1Cur.mk x14.1 x14.2.1 x14.2.2.1) 2).bind fun r15=>bif (decide ((len x14.2.2.2) < (w64 (40 + r15.1)))) then ((appI 40 x14.2.2.2 [(Event.mk 50 0 ([97] : Str) 0)]).bind fun a16=>self (r15.2.f_code,r15.2.f_at,r15.2.f_seed,a16)) else (some (.inr (r15.2.f_code,r15.2.f_at,r15.2.f_seed,x14.2.2.2)))
noncomputable def Ffca_la (c_2 : l1Cur)  : ((List Int) × Int × Int × (List Event))→Option (((List Event) × l1Cur) ⊕ ((List Int) × Int × Int × (List Event))):=fixO (Ffca_la_F c_2)
theorem Ffca_la_fin (c_2 : l1Cur)  : ∀ a,Fin1 fun f=>Ffca_la_F c_2 f a:=by
  intro a
  unfold Ffca_la_F
  repeat first|exact f_const|exact f_self|refine f_cond ?_ ?_|refine f_bindJ ?_ (fun _=>?_)|refine f_bindL ?_ (fun _=>?_)|refine f_bind ?_ (fun _=>?_)|refine f_letJ (fun _=>?_)
theorem Ffca_la_eq (c_2 : l1Cur)  (x : (List Int) × Int × Int × (List Event)) : Ffca_la c_2 x=Ffca_la_F c_2 (Ffca_la c_2) x:=fix_eq (Ffca_la_fin c_2) x
noncomputable def Ffca (c_2 : l1Cur) : Option ((List Event) × l1Cur) :=
  (Ffcd c_2 6).bind fun r2=>(Ffch r2.2 20).bind fun r3=>bindJ (ρ:=(List Event) × l1Cur) (bif (r3.1 == 0) then ((Ffcc r3.2).bind fun r5=>(appI 40 r2.1 [r5.1]).bind fun a6=>some (.inr (r5.2.f_code,r5.2.f_at,r5.2.f_seed,a6))) else (bindL (ρ:=(List Event) × l1Cur) (bif (r3.1 == 1) then ((Ffbz r3.2).bind fun r8=>(Ffch r8.2 5).bind fun r9=>(Ffcf r9.2 [([97] : Str),([] : Str),([111,114] : Str)]).bind fun r10=>(Ffby r10.2 [0,(-1),1000000,1000001]).bind fun r11=>(appI 40 r2.1 [(Event.mk r8.1 (w64 (r9.1 - 1)) r10.1 r11.1)]).bind fun a12=>some (.inr (r11.2.f_code,r11.2.f_at,r11.2.f_seed,a12))) else (bindL (ρ:=(List Event) × l1Cur) (bif (r3.1 == 2) then (bindL (ρ:=(List Event) × l1Cur) (Ffca_la c_2 (r3.2.f_code,r3.2.f_at,r3.2.f_seed,r2.1)) fun u17 : (List Int) × Int × Int × (List Event)=>some (.inr (u17.1,u17.2.1,u17.2.2.1,u17.2.2.2))) else (some (.inr (r3.2.f_code,r3.2.f_at,r3.2.f_seed,r2.1)))) fun u13 : (List Int) × Int × Int × (List Event)=>some (.inr (u13.1,u13.2.1,u13.2.2.1,u13.2.2.2)))) fun u7 : (List Int) × Int × Int × (List Event)=>some (.inr (u7.1,u7.2.1,u7.2.2.1,u7.2.2.2)))) fun u4 : (List Int) × Int × Int × (List Event)=>some (u4.2.2.2,(l1Cur.mk u4.1 u4.2.1 u4.2.2.1))
noncomputable def Ffbu (code_1 : List Int) : Option ((List Event) × Int) :=
  (Ffca (l1Cur.mk code_1 0 0)).bind fun r2=>bindJ (ρ:=(List Event) × Int) (bif (decide ((len r2.1) > 1)) then ((Ffch r2.2 (len r2.1)).bind fun r5=>(subP r2.1.length r5.1 (len r2.1)).bind fun s6=>(partP r2.1 (0 + Int.toNat (r5.1)) (Int.toNat (len r2.1) - Int.toNat (r5.1))).bind fun p7=>(appI 40 ([] : List Event) p7).bind fun a8=>(subP r2.1.length 0 r5.1).bind fun s9=>(partP r2.1 (0 + Int.toNat (0)) (Int.toNat (r5.1) - Int.toNat (0))).bind fun p10=>(appI 40 a8 p10).bind fun a11=>some (.inr (r5.2.f_code,r5.2.f_at,r5.2.f_seed,a11))) else (some (.inr (r2.2.f_code,r2.2.f_at,r2.2.f_seed,r2.1)))) fun u3 : (List Int) × Int × Int × (List Event)=>(Ffby (l1Cur.mk u3.1 u3.2.1 u3.2.2.1) [2,2,2,3,4,1,5]).bind fun r4=>some (u3.2.2.2,r4.1)
noncomputable def Ffq (n_1 : Int) (low_2 : Int) (high_3 : Int) : Option Bool :=
  letJ (bif (decide (n_1 ≥ low_2)) then ((decide (n_1 ≤ high_3))) else (false)) fun u4 : Bool=>some u4
noncomputable def Ffo (day_1 : Int) : Option Bool :=
  (Ffq day_1 0 36524).bind fun r2=>some r2
noncomputable def Ffs (s_1 : Str) (c_2 : Int) : Option Int :=
  (xIndexByteString s_1 c_2).bind fun r3=>some r3
noncomputable def Ffr (s_1 : Str) (substr_2 : Str) : Option Int :=
  letJ (bif ((len substr_2) == 0) then (true) else ((substr_2 == s_1))) fun u3 : Bool=>bif u3 then (some 0) else (bif ((len substr_2) == 1) then ((getI substr_2 0).bind fun c4=>(Ffs s_1 (c4.toNat : Int)).bind fun r5=>some r5) else (bif (decide ((len substr_2) ≥ (len s_1))) then (some (-1)) else (none)))
noncomputable def Ffcs (s_1 : Str) (substr_2 : Str) : Option Int :=
  (Ffr s_1 substr_2).bind fun r3=>some r3
noncomputable def Ffcr_la_F (s_1 : Str) (substr_2 : Str)  (self : (Str × Int)→Option (Int ⊕ Unit)) (x5 : Str × Int) : Option (Int ⊕ Unit) :=
  (Ffcs x5.1 substr_2).bind fun r6=>bif (r6 == (-1)) then (some (.inl x5.2)) else ((subI x5.1 (w64 (r6 + (len substr_2))) (len x5.1)).bind fun s7=>self (s7,(w64 (x5.2 + 1))))
noncomputable def Ffcr_la (s_1 : Str) (substr_2 : Str)  : (Str × Int)→Option (Int ⊕ Unit):=fixO (Ffcr_la_F s_1 substr_2)
theorem Ffcr_la_fin (s_1 : Str) (substr_2 : Str)  : ∀ a,Fin1 fun f=>Ffcr_la_F s_1 substr_2 f a:=by
  intro a
  unfold Ffcr_la_F
  repeat first|exact f_const|exact f_self|refine f_cond ?_ ?_|refine f_bindJ ?_ (fun _=>?_)|refine f_bindL ?_ (fun _=>?_)|refine f_bind ?_ (fun _=>?_)|refine f_letJ (fun _=>?_)
theorem Ffcr_la_eq (s_1 : Str) (substr_2 : Str)  (x : Str × Int) : Ffcr_la s_1 substr_2 x=Ffcr_la_F s_1 substr_2 (Ffcr_la s_1 substr_2) x:=fix_eq (Ffcr_la_fin s_1 substr_2) x
noncomputable def Ffcr (s_1 : Str) (substr_2 : Str) : Option Int :=
  bif ((len substr_2) == 0) then (none) else (bif ((len substr_2) == 1) then ((getI substr_2 0).bind fun c3=>(xCountString s_1 (c3.toNat : Int)).bind fun r4=>some r4) else (bindJ (ρ:=Int) (Ffcr_la s_1 substr_2 (s_1,0)) fun u8 : Unit=>none))
noncomputable def Ffcu_la_F (s_1 : Str) (sep_2 : Str) (sepSave_3 : Int) (n_4 : Int) (u5 : Int) (self : (Str × Int × (List Str))→Option (((List Str)) ⊕ (Str × Int × (List Str)))) (x7 : Str × Int × (List Str)) : Option (((List Str)) ⊕ (Str × Int × (List Str))) :=
  bif (decide (x7.2.1 < (w64 ((if (w64 ((len s_1) + 1)) < u5 then (w64 ((len s_1) + 1)) else u5) - 1)))) then ((Ffcs x7.1 sep_2).bind fun r8=>bif (decide (r8 < 0)) then (some (.inr (x7.1,x7.2.1,x7.2.2))) else ((subI x7.1 0 (w64 (r8 + sepSave_3))).bind fun s9=>(getI x7.2.2 x7.2.1).bind fun e10=>(subI x7.1 (w64 (r8 + (len sep_2))) (len x7.1)).bind fun s11=>self (s11,(w64 (x7.2.1 + 1)),(setI x7.2.2 x7.2.1 s9)))) else (some (.inr (x7.1,x7.2.1,x7.2.2)))
noncomputable def Ffcu_la (s_1 : Str) (sep_2 : Str) (sepSave_3 : Int) (n_4 : Int) (u5 : Int) : (Str × Int × (List Str))→Option (((List Str)) ⊕ (Str × Int × (List Str))):=fixO (Ffcu_la_F s_1 sep_2 sepSave_3 n_4 u5)
theorem Ffcu_la_fin (s_1 : Str) (sep_2 : Str) (sepSave_3 : Int) (n_4 : Int) (u5 : Int) : ∀ a,Fin1 fun f=>Ffcu_la_F s_1 sep_2 sepSave_3 n_4 u5 f a:=by
  intro a
  unfold Ffcu_la_F
  repeat first|exact f_const|exact f_self|refine f_cond ?_ ?_|refine f_bindJ ?_ (fun _=>?_)|refine f_bindL ?_ (fun _=>?_)|refine f_bind ?_ (fun _=>?_)|refine f_letJ (fun _=>?_)
theorem Ffcu_la_eq (s_1 : Str) (sep_2 : Str) (sepSave_3 : Int) (n_4 : Int) (u5 : Int) (x : Str × Int × (List Str)) : Ffcu_la s_1 sep_2 sepSave_3 n_4 u5 x=Ffcu_la_F s_1 sep_2 sepSave_3 n_4 u5 (Ffcu_la s_1 sep_2 sepSave_3 n_4 u5) x:=fix_eq (Ffcu_la_fin s_1 sep_2 sepSave_3 n_4 u5) x
noncomputable def Ffcu (s_1 : Str) (sep_2 : Str) (sepSave_3 : Int) (n_4 : Int) : Option ((List Str)) :=
  bif (n_4 == 0) then (some []) else (bif (sep_2 == ([] : Str)) then (none) else (bindJ (ρ:=(List Str)) (bif (decide (n_4 < 0)) then ((Ffcr s_1 sep_2).bind fun r16=>some (.inr (w64 (r16 + 1)))) else (some (.inr n_4))) fun u5 : Int=>(mkI 16 [] (if (w64 ((len s_1) + 1)) < u5 then (w64 ((len s_1) + 1)) else u5)).bind fun m6=>bindJ (ρ:=(List Str)) (Ffcu_la s_1 sep_2 sepSave_3 n_4 u5 (s_1,0,m6)) fun u12 : Str × Int × (List Str)=>(getI u12.2.2 u12.2.1).bind fun e13=>(subP (setI u12.2.2 u12.2.1 u12.1).length 0 (w64 (u12.2.1 + 1))).bind fun s14=>(partP (setI u12.2.2 u12.2.1 u12.1) (0 + Int.toNat (0)) (Int.toNat ((w64 (u12.2.1 + 1))) - Int.toNat (0))).bind fun p15=>some p15))
noncomputable def Ffct (s_1 : Str) (sep_2 : Str) : Option ((List Str)) :=
  (Ffcu s_1 sep_2 0 (-1)).bind fun r3=>some r3
noncomputable def Ffba_la_F (s_1 : List Str) (v_2 : Str)  (self : Int→Option (Int ⊕ Unit)) (x3 : Int) : Option (Int ⊕ Unit) :=
  bif (decide (x3 < (len s_1))) then ((getI s_1 x3).bind fun e4=>bif (v_2 == e4) then (some (.inl x3)) else (self (w64 (x3 + 1)))) else (some (.inr ()))
noncomputable def Ffba_la (s_1 : List Str) (v_2 : Str)  : Int→Option (Int ⊕ Unit):=fixO (Ffba_la_F s_1 v_2)
theorem Ffba_la_fin (s_1 : List Str) (v_2 : Str)  : ∀ a,Fin1 fun f=>Ffba_la_F s_1 v_2 f a:=by
  intro a
  unfold Ffba_la_F
  repeat first|exact f_const|exact f_self|refine f_cond ?_ ?_|refine f_bindJ ?_ (fun _=>?_)|refine f_bindL ?_ (fun _=>?_)|refine f_bind ?_ (fun _=>?_)|refine f_letJ (fun _=>?_)
theorem Ffba_la_eq (s_1 : List Str) (v_2 : Str)  (x : Int) : Ffba_la s_1 v_2 x=Ffba_la_F s_1 v_2 (Ffba_la s_1 v_2) x:=fix_eq (Ffba_la_fin s_1 v_2) x
noncomputable def Ffba (s_1 : List Str) (v_2 : Str) : Option Int :=
  bindJ (ρ:=Int) (Ffba_la s_1 v_2 0) fun u5 : Unit=>some (-1)
noncomputable def Ffy (s_1 : List Str) (v_2 : Str) : Option Bool :=
  (Ffba s_1 v_2).bind fun r3=>some (decide (r3 ≥ 0))
noncomputable def Ffi_la_F (s_1 : Str)  (self : Int→Option (Bool ⊕ Unit)) (x4 : Int) : Option (Bool ⊕ Unit) :=
  bif (decide (x4 < (len s_1))) then ((getI s_1 x4).bind fun c5=>letJ (bif (decide ((c5.toNat : Int) < 97)) then (letJ (bif (decide ((c5.toNat : Int) < 48)) then (true) else ((decide ((c5.toNat : Int) > 57)))) fun u7 : Bool=>u7) else (letJ (bif (decide ((c5.toNat : Int) > 122)) then (letJ (bif (decide ((c5.toNat : Int) < 48)) then (true) else ((decide ((c5.toNat : Int) > 57)))) fun u9 : Bool=>u9) else (false)) fun u8 : Bool=>u8)) fun u6 : Bool=>bif u6 then (some (.inl false)) else (self (w64 (x4 + 1)))) else (some (.inr ()))
noncomputable def Ffi_la (s_1 : Str)  : Int→Option (Bool ⊕ Unit):=fixO (Ffi_la_F s_1)
theorem Ffi_la_fin (s_1 : Str)  : ∀ a,Fin1 fun f=>Ffi_la_F s_1 f a:=by
  intro a
  unfold Ffi_la_F
  repeat first|exact f_const|exact f_self|refine f_cond ?_ ?_|refine f_bindJ ?_ (fun _=>?_)|refine f_bindL ?_ (fun _=>?_)|refine f_bind ?_ (fun _=>?_)|refine f_letJ (fun _=>?_)
theorem Ffi_la_eq (s_1 : Str)  (x : Int) : Ffi_la s_1 x=Ffi_la_F s_1 (Ffi_la s_1) x:=fix_eq (Ffi_la_fin s_1) x
noncomputable def Ffi (s_1 : Str) : Option Bool :=
  (Ffq (len s_1) 1 8).bind fun r2=>bindJ (ρ:=Bool) (bif (!r2) then (some (.inr true)) else ((getI s_1 0).bind fun c13=>bindL (ρ:=Bool) (bif (decide ((c13.toNat : Int) < 97)) then (some (.inr true)) else ((getI s_1 0).bind fun c15=>some (.inr (decide ((c15.toNat : Int) > 122))))) fun u14 : Bool=>some (.inr u14))) fun u3 : Bool=>bif u3 then (some false) else (bindJ (ρ:=Bool) (Ffi_la s_1 0) fun u10 : Unit=>(Ffct ([116,114,117,101,32,102,114,111,109,32,110,111,116,32,97,110,100,32,111,114,32,98,111,116,104,32,101,105,116,104,101,114,32,105,116,32,105,110] : Str) ([32] : Str)).bind fun r11=>(Ffy r11 s_1).bind fun r12=>some (!r12))
noncomputable def Ffp (e_1 : Event) (parties_2 : Int) : Option Bool :=
  (Ffo e_1.Day).bind fun r3=>bindJ (ρ:=Bool) (bif r3 then ((Ffq e_1.Party 0 (w64 (parties_2 - 1))).bind fun r5=>bindL (ρ:=Bool) (bif r5 then ((Ffi e_1.Action).bind fun r7=>bindL (ρ:=Bool) (bif r7 then ((Ffq e_1.Amount 0 1000000).bind fun r9=>some (.inr r9)) else (some (.inr false))) fun u8 : Bool=>some (.inr u8)) else (some (.inr false))) fun u6 : Bool=>some (.inr u6)) else (some (.inr false))) fun u4 : Bool=>some u4
noncomputable def Ffn (e_1 : Event) (a_2 : Int) : Option Bool :=
  (Ffp e_1 a_2).bind fun r3=>some (!r3)
noncomputable def Ffz_la_F (s_1 : List Event) (f_2 : Int)  (self : Int→Option (Int ⊕ Unit)) (x3 : Int) : Option (Int ⊕ Unit) :=
  bif (decide (x3 < (len s_1))) then ((getI s_1 x3).bind fun e4=>(Ffn e4 f_2).bind fun r5=>bif r5 then (some (.inl x3)) else (self (w64 (x3 + 1)))) else (some (.inr ()))
noncomputable def Ffz_la (s_1 : List Event) (f_2 : Int)  : Int→Option (Int ⊕ Unit):=fixO (Ffz_la_F s_1 f_2)
theorem Ffz_la_fin (s_1 : List Event) (f_2 : Int)  : ∀ a,Fin1 fun f=>Ffz_la_F s_1 f_2 f a:=by
  intro a
  unfold Ffz_la_F
  repeat first|exact f_const|exact f_self|refine f_cond ?_ ?_|refine f_bindJ ?_ (fun _=>?_)|refine f_bindL ?_ (fun _=>?_)|refine f_bind ?_ (fun _=>?_)|refine f_letJ (fun _=>?_)
theorem Ffz_la_eq (s_1 : List Event) (f_2 : Int)  (x : Int) : Ffz_la s_1 f_2 x=Ffz_la_F s_1 f_2 (Ffz_la s_1 f_2) x:=fix_eq (Ffz_la_fin s_1 f_2) x
noncomputable def Ffz (s_1 : List Event) (f_2 : Int) : Option Int :=
  bindJ (ρ:=Int) (Ffz_la s_1 f_2 0) fun u6 : Unit=>some (-1)
noncomputable def Ffx (s_1 : List Event) (f_2 : Int) : Option Bool :=
  (Ffz s_1 f_2).bind fun r3=>some (decide (r3 ≥ 0))
noncomputable def Ffm (list_1 : List Event) (parties_2 : Int) : Option Bool :=
  (Ffq parties_2 2 4).bind fun r3=>bindJ (ρ:=Bool) (bif r3 then (bindL (ρ:=Bool) (bif (decide ((len list_1) ≤ 40)) then ((Ffx list_1 parties_2).bind fun r6=>some (.inr (!r6))) else (some (.inr false))) fun u5 : Bool=>some (.inr u5)) else (some (.inr false))) fun u4 : Bool=>some u4
noncomputable def Ffw (s_1 : List Event) : Option ((List Event)) :=
  nilO s_1 (some []) ((appI 40 ([] : List Event) s_1).bind fun a2=>some a2)
noncomputable def Ffv (x_1 : Int) : Option Int :=
  letJ (bif (decide (x_1 ≥ 4294967296)) then (((shrI .u64 x_1 32),32)) else ((x_1,0))) fun u2 : Int × Int=>letJ (bif (decide (u2.1 ≥ 65536)) then (((shrI .u64 u2.1 16),(w64 (u2.2 + 16)))) else ((u2.1,u2.2))) fun u3 : Int × Int=>letJ (bif (decide (u3.1 ≥ 256)) then (((shrI .u64 u3.1 8),(w64 (u3.2 + 8)))) else ((u3.1,u3.2))) fun u4 : Int × Int=>(getI ([0,1,2,2,3,3,3,3,4,4,4,4,4,4,4,4,5,5,5,5,5,5,5,5,5,5,5,5,5,5,5,5,6,6,6,6,6,6,6,6,6,6,6,6,6,6,6,6,6,6,6,6,6,6,6,6,6,6,6,6,6,6,6,6,7,7,7,7,7,7,7,7,7,7,7,7,7,7,7,7,7,7,7,7,7,7,7,7,7,7,7,7,7,7,7,7,7,7,7,7,7,7,7,7,7,7,7,7,7,7,7,7,7,7,7,7,7,7,7,7,7,7,7,7,7,7,7,7,8,8,8,8,8,8,8,8,8,8,8,8,8,8,8,8,8,8,8,8,8,8,8,8,8,8,8,8,8,8,8,8,8,8,8,8,8,8,8,8,8,8,8,8,8,8,8,8,8,8,8,8,8,8,8,8,8,8,8,8,8,8,8,8,8,8,8,8,8,8,8,8,8,8,8,8,8,8,8,8,8,8,8,8,8,8,8,8,8,8,8,8,8,8,8,8,8,8,8,8,8,8,8,8,8,8,8,8,8,8,8,8,8,8,8,8,8,8,8,8,8,8,8,8,8,8,8,8] : Str) (IntKind.u8.wrap u4.1)).bind fun c5=>some (w64 (u4.2 + (IntKind.i64.wrap (c5.toNat : Int))))
noncomputable def Ffu (x_1 : Int) : Option Int :=
  (Ffv x_1).bind fun r2=>some r2
noncomputable def Ffd (x_1 : Int) : Option Bool :=
  some (x_1 != x_1)
noncomputable def Ffa (x_1 : Int) (y_2 : Int) : Option Int :=
  (Ffd x_1).bind fun r3=>(Ffd y_2).bind fun r4=>bif r3 then (bif r4 then (some 0) else (some (-1))) else (bif r4 then (some 1) else (bif (decide (x_1 < y_2)) then (some (-1)) else (bif (decide (x_1 > y_2)) then (some 1) else (some 0))))
noncomputable def Ffe (x_1 : Str) : Option Bool :=
  some (!(x_1 == x_1))
noncomputable def Ffb (x_1 : Str) (y_2 : Str) : Option Int :=
  (Ffe x_1).bind fun r3=>(Ffe y_2).bind fun r4=>bif r3 then (bif r4 then (some 0) else (some (-1))) else (bif r4 then (some 1) else (bif (Op.bytesLess x_1 y_2) then (some (-1)) else (bif (!(Op.bytesLess x_1 y_2 || x_1 == y_2)) then (some 1) else (some 0))))
noncomputable def Ffc_la_F (vals_1 : List Int)  (self : Int→Option (Int ⊕ Unit)) (x2 : Int) : Option (Int ⊕ Unit) :=
  bif (decide (x2 < (len vals_1))) then ((getI vals_1 x2).bind fun e3=>bif (e3 != 0) then (some (.inl e3)) else (self (w64 (x2 + 1)))) else (some (.inr ()))
noncomputable def Ffc_la (vals_1 : List Int)  : Int→Option (Int ⊕ Unit):=fixO (Ffc_la_F vals_1)
theorem Ffc_la_fin (vals_1 : List Int)  : ∀ a,Fin1 fun f=>Ffc_la_F vals_1 f a:=by
  intro a
  unfold Ffc_la_F
  repeat first|exact f_const|exact f_self|refine f_cond ?_ ?_|refine f_bindJ ?_ (fun _=>?_)|refine f_bindL ?_ (fun _=>?_)|refine f_bind ?_ (fun _=>?_)|refine f_letJ (fun _=>?_)
theorem Ffc_la_eq (vals_1 : List Int)  (x : Int) : Ffc_la vals_1 x=Ffc_la_F vals_1 (Ffc_la vals_1) x:=fix_eq (Ffc_la_fin vals_1) x
noncomputable def Ffc (vals_1 : List Int) : Option Int :=
  bindJ (ρ:=Int) (Ffc_la vals_1 0) fun u4 : Unit=>some 0
noncomputable def Fff (a_1 : Event) (b_2 : Event) : Option Int :=
  (Ffa a_1.Day b_2.Day).bind fun r3=>(Ffa a_1.Party b_2.Party).bind fun r4=>(Ffb a_1.Action b_2.Action).bind fun r5=>(Ffa a_1.Amount b_2.Amount).bind fun r6=>(Ffc [r3,r4,r5,r6]).bind fun r7=>some r7
noncomputable def Ffbg_lb_F (data_16 : List Event) (a_17 : Int) (b_18 : Int) (cmp_19 : Unit) (x5 : Int × Int × Int × (List Event)) (self : (Int × (List Event))→Option (((List Event)) ⊕ ((List Event)))) (x6 : Int × (List Event)) : Option (((List Event)) ⊕ ((List Event))) :=
  bindL (ρ:=(List Event)) (bif (decide (x6.1 > x5.1)) then ((getI x6.2 x6.1).bind fun e17=>(getI x6.2 (w64 (x6.1 - 1))).bind fun e18=>(Fff e17 e18).bind fun r19=>some (.inr (decide (r19 < 0)))) else (some (.inr false))) fun u7 : Bool=>bif u7 then ((getI x6.2 (w64 (x6.1 - 1))).bind fun e8=>(getI x6.2 x6.1).bind fun e9=>(getI x6.2 x6.1).bind fun e10=>(getI (setI x6.2 x6.1 e8) (w64 (x6.1 - 1))).bind fun e13=>self ((w64 (x6.1 - 1)),(setI (setI x6.2 x6.1 e8) (w64 (x6.1 - 1)) e9))) else (some (.inr x6.2))
noncomputable def Ffbg_lb (data_16 : List Event) (a_17 : Int) (b_18 : Int) (cmp_19 : Unit) (x5 : Int × Int × Int × (List Event)) : (Int × (List Event))→Option (((List Event)) ⊕ ((List Event))):=fixO (Ffbg_lb_F data_16 a_17 b_18 cmp_19 x5)
theorem Ffbg_lb_fin (data_16 : List Event) (a_17 : Int) (b_18 : Int) (cmp_19 : Unit) (x5 : Int × Int × Int × (List Event)) : ∀ a,Fin1 fun f=>Ffbg_lb_F data_16 a_17 b_18 cmp_19 x5 f a:=by
  intro a
  unfold Ffbg_lb_F
  repeat first|exact f_const|exact f_self|refine f_cond ?_ ?_|refine f_bindJ ?_ (fun _=>?_)|refine f_bindL ?_ (fun _=>?_)|refine f_bind ?_ (fun _=>?_)|refine f_letJ (fun _=>?_)
theorem Ffbg_lb_eq (data_16 : List Event) (a_17 : Int) (b_18 : Int) (cmp_19 : Unit) (x5 : Int × Int × Int × (List Event)) (x : Int × (List Event)) : Ffbg_lb data_16 a_17 b_18 cmp_19 x5 x=Ffbg_lb_F data_16 a_17 b_18 cmp_19 x5 (Ffbg_lb data_16 a_17 b_18 cmp_19 x5) x:=fix_eq (Ffbg_lb_fin data_16 a_17 b_18 cmp_19 x5) x
noncomputable def Ffbg_la_F (data_16 : List Event) (a_17 : Int) (b_18 : Int) (cmp_19 : Unit)  (self : (Int × Int × Int × (List Event))→Option (((List Event)) ⊕ ((List Event)))) (x5 : Int × Int × Int × (List Event)) : Option (((List Event)) ⊕ ((List Event))) :=
  bif (decide (x5.2.2.1 < x5.2.1)) then (bindL (ρ:=(List Event)) (Ffbg_lb data_16 a_17 b_18 cmp_19 x5 (x5.2.2.1,x5.2.2.2)) fun u20 : (List Event)=>self (x5.1,x5.2.1,(w64 (x5.2.2.1 + 1)),u20)) else (some (.inr x5.2.2.2))
noncomputable def Ffbg_la (data_16 : List Event) (a_17 : Int) (b_18 : Int) (cmp_19 : Unit)  : (Int × Int × Int × (List Event))→Option (((List Event)) ⊕ ((List Event))):=fixO (Ffbg_la_F data_16 a_17 b_18 cmp_19)
theorem Ffbg_la_fin (data_16 : List Event) (a_17 : Int) (b_18 : Int) (cmp_19 : Unit)  : ∀ a,Fin1 fun f=>Ffbg_la_F data_16 a_17 b_18 cmp_19 f a:=by
  intro a
  unfold Ffbg_la_F
  repeat first|exact f_const|exact f_self|refine f_cond ?_ ?_|refine f_bindJ ?_ (fun _=>?_)|refine f_bindL ?_ (fun _=>?_)|refine f_bind ?_ (fun _=>?_)|refine f_letJ (fun _=>?_)
theorem Ffbg_la_eq (data_16 : List Event) (a_17 : Int) (b_18 : Int) (cmp_19 : Unit)  (x : Int × Int × Int × (List Event)) : Ffbg_la data_16 a_17 b_18 cmp_19 x=Ffbg_la_F data_16 a_17 b_18 cmp_19 (Ffbg_la data_16 a_17 b_18 cmp_19) x:=fix_eq (Ffbg_la_fin data_16 a_17 b_18 cmp_19) x
noncomputable def Ffbg (data_16 : List Event) (a_17 : Int) (b_18 : Int) (cmp_19 : Unit) : Option ((List Event)) :=
  bindJ (ρ:=(List Event)) (Ffbg_la data_16 a_17 b_18 cmp_19 (a_17,b_18,(w64 (a_17 + 1)),data_16)) fun u21 : (List Event)=>bif Nat.beq u21.length data_16.length then (some u21) else none
noncomputable def Ffbq_la_F (data_19 : List Event) (lo_20 : Int) (hi_21 : Int) (first_22 : Int) (cmp_23 : Unit)  (self : (Int × (List Event))→Option (((List Event)) ⊕ ((List Event)))) (x6 : Int × (List Event)) : Option (((List Event)) ⊕ ((List Event))) :=
  bif (decide ((w64 ((w64 (2 * x6.1)) + 1)) ≥ hi_21)) then (some (.inr x6.2)) else (bindL (ρ:=(List Event)) (bif (decide ((w64 ((w64 ((w64 (2 * x6.1)) + 1)) + 1)) < hi_21)) then ((getI x6.2 (w64 (first_22 + (w64 ((w64 (2 * x6.1)) + 1))))).bind fun e26=>(getI x6.2 (w64 ((w64 (first_22 + (w64 ((w64 (2 * x6.1)) + 1)))) + 1))).bind fun e27=>(Fff e26 e27).bind fun r28=>some (.inr (decide (r28 < 0)))) else (some (.inr false))) fun u7 : Bool=>letJ (bif u7 then ((w64 ((w64 ((w64 (2 * x6.1)) + 1)) + 1))) else ((w64 ((w64 (2 * x6.1)) + 1)))) fun u8 : Int=>(getI x6.2 (w64 (first_22 + x6.1))).bind fun e9=>(getI x6.2 (w64 (first_22 + u8))).bind fun e10=>(Fff e9 e10).bind fun r11=>bif (!(decide (r11 < 0))) then (bif Nat.beq x6.2.length data_19.length then (some (.inl x6.2)) else none) else ((getI x6.2 (w64 (first_22 + u8))).bind fun e13=>(getI x6.2 (w64 (first_22 + x6.1))).bind fun e14=>(getI x6.2 (w64 (first_22 + x6.1))).bind fun e15=>(getI (setI x6.2 (w64 (first_22 + x6.1)) e13) (w64 (first_22 + u8))).bind fun e20=>self (u8,(setI (setI x6.2 (w64 (first_22 + x6.1)) e13) (w64 (first_22 + u8)) e14))))
noncomputable def Ffbq_la (data_19 : List Event) (lo_20 : Int) (hi_21 : Int) (first_22 : Int) (cmp_23 : Unit)  : (Int × (List Event))→Option (((List Event)) ⊕ ((List Event))):=fixO (Ffbq_la_F data_19 lo_20 hi_21 first_22 cmp_23)
theorem Ffbq_la_fin (data_19 : List Event) (lo_20 : Int) (hi_21 : Int) (first_22 : Int) (cmp_23 : Unit)  : ∀ a,Fin1 fun f=>Ffbq_la_F data_19 lo_20 hi_21 first_22 cmp_23 f a:=by
  intro a
  unfold Ffbq_la_F
  repeat first|exact f_const|exact f_self|refine f_cond ?_ ?_|refine f_bindJ ?_ (fun _=>?_)|refine f_bindL ?_ (fun _=>?_)|refine f_bind ?_ (fun _=>?_)|refine f_letJ (fun _=>?_)
theorem Ffbq_la_eq (data_19 : List Event) (lo_20 : Int) (hi_21 : Int) (first_22 : Int) (cmp_23 : Unit)  (x : Int × (List Event)) : Ffbq_la data_19 lo_20 hi_21 first_22 cmp_23 x=Ffbq_la_F data_19 lo_20 hi_21 first_22 cmp_23 (Ffbq_la data_19 lo_20 hi_21 first_22 cmp_23) x:=fix_eq (Ffbq_la_fin data_19 lo_20 hi_21 first_22 cmp_23) x
noncomputable def Ffbq (data_19 : List Event) (lo_20 : Int) (hi_21 : Int) (first_22 : Int) (cmp_23 : Unit) : Option ((List Event)) :=
  bindJ (ρ:=(List Event)) (Ffbq_la data_19 lo_20 hi_21 first_22 cmp_23 (lo_20,data_19)) fun u29 : (List Event)=>bif Nat.beq u29.length data_19.length then (some u29) else none
noncomputable def Ffbf_la_F (data_12 : List Event) (a_13 : Int) (b_14 : Int) (cmp_15 : Unit)  (self : (Int × (List Event))→Option (((List Event)) ⊕ (Int × Int × (List Event)))) (x5 : Int × (List Event)) : Option (((List Event)) ⊕ (Int × Int × (List Event))) :=
  bif (decide (x5.1 ≥ 0)) then ((Ffbq x5.2 x5.1 (w64 (b_14 - a_13)) a_13 ()).bind fun r6=>bif Nat.beq r6.length x5.2.length then (self ((w64 (x5.1 - 1)),r6)) else none) else (some (.inr (a_13,(w64 (b_14 - a_13)),x5.2)))
noncomputable def Ffbf_la (data_12 : List Event) (a_13 : Int) (b_14 : Int) (cmp_15 : Unit)  : (Int × (List Event))→Option (((List Event)) ⊕ (Int × Int × (List Event))):=fixO (Ffbf_la_F data_12 a_13 b_14 cmp_15)
theorem Ffbf_la_fin (data_12 : List Event) (a_13 : Int) (b_14 : Int) (cmp_15 : Unit)  : ∀ a,Fin1 fun f=>Ffbf_la_F data_12 a_13 b_14 cmp_15 f a:=by
  intro a
  unfold Ffbf_la_F
  repeat first|exact f_const|exact f_self|refine f_cond ?_ ?_|refine f_bindJ ?_ (fun _=>?_)|refine f_bindL ?_ (fun _=>?_)|refine f_bind ?_ (fun _=>?_)|refine f_letJ (fun _=>?_)
theorem Ffbf_la_eq (data_12 : List Event) (a_13 : Int) (b_14 : Int) (cmp_15 : Unit)  (x : Int × (List Event)) : Ffbf_la data_12 a_13 b_14 cmp_15 x=Ffbf_la_F data_12 a_13 b_14 cmp_15 (Ffbf_la data_12 a_13 b_14 cmp_15) x:=fix_eq (Ffbf_la_fin data_12 a_13 b_14 cmp_15) x
noncomputable def Ffbf_lb_F (data_12 : List Event) (a_13 : Int) (b_14 : Int) (cmp_15 : Unit) (u8 : Int × Int × (List Event)) (self : (Int × (List Event))→Option (((List Event)) ⊕ ((List Event)))) (x9 : Int × (List Event)) : Option (((List Event)) ⊕ ((List Event))) :=
  bif (decide (x9.1 ≥ 0)) then ((getI x9.2 (w64 (u8.1 + x9.1))).bind fun e10=>(getI x9.2 u8.1).bind fun e11=>(getI x9.2 u8.1).bind fun e12=>(getI (setI x9.2 u8.1 e10) (w64 (u8.1 + x9.1))).bind fun e15=>(Ffbq (setI (setI x9.2 u8.1 e10) (w64 (u8.1 + x9.1)) e11) 0 x9.1 u8.1 ()).bind fun r19=>bif Nat.beq r19.length (setI (setI x9.2 u8.1 e10) (w64 (u8.1 + x9.1)) e11).length then (self ((w64 (x9.1 - 1)),r19)) else none) else (some (.inr x9.2))
noncomputable def Ffbf_lb (data_12 : List Event) (a_13 : Int) (b_14 : Int) (cmp_15 : Unit) (u8 : Int × Int × (List Event)) : (Int × (List Event))→Option (((List Event)) ⊕ ((List Event))):=fixO (Ffbf_lb_F data_12 a_13 b_14 cmp_15 u8)
theorem Ffbf_lb_fin (data_12 : List Event) (a_13 : Int) (b_14 : Int) (cmp_15 : Unit) (u8 : Int × Int × (List Event)) : ∀ a,Fin1 fun f=>Ffbf_lb_F data_12 a_13 b_14 cmp_15 u8 f a:=by
  intro a
  unfold Ffbf_lb_F
  repeat first|exact f_const|exact f_self|refine f_cond ?_ ?_|refine f_bindJ ?_ (fun _=>?_)|refine f_bindL ?_ (fun _=>?_)|refine f_bind ?_ (fun _=>?_)|refine f_letJ (fun _=>?_)
theorem Ffbf_lb_eq (data_12 : List Event) (a_13 : Int) (b_14 : Int) (cmp_15 : Unit) (u8 : Int × Int × (List Event)) (x : Int × (List Event)) : Ffbf_lb data_12 a_13 b_14 cmp_15 u8 x=Ffbf_lb_F data_12 a_13 b_14 cmp_15 u8 (Ffbf_lb data_12 a_13 b_14 cmp_15 u8) x:=fix_eq (Ffbf_lb_fin data_12 a_13 b_14 cmp_15 u8) x
noncomputable def Ffbf (data_12 : List Event) (a_13 : Int) (b_14 : Int) (cmp_15 : Unit) : Option ((List Event)) :=
  bindJ (ρ:=(List Event)) (Ffbf_la data_12 a_13 b_14 cmp_15 ((w64 ((w64 ((w64 (b_14 - a_13)) - 1)).tdiv 2)),data_12)) fun u8 : Int × Int × (List Event)=>bindJ (ρ:=(List Event)) (Ffbf_lb data_12 a_13 b_14 cmp_15 u8 ((w64 (u8.2.1 - 1)),u8.2.2)) fun u21 : (List Event)=>bif Nat.beq u21.length data_12.length then (some u21) else none
noncomputable def Ffbj (length_1 : Int) : Option Int :=
  (Ffu (IntKind.u64.wrap length_1)).bind fun r2=>(shlO .u64 1 r2).bind fun q3=>some q3
noncomputable def Ffbr (r_2 : Int) : Option (Int × Int) :=
  some ((xorI .u64 (xorI .u64 (xorI .u64 r_2 (shlI .u64 r_2 13)) (shrI .u64 (xorI .u64 r_2 (shlI .u64 r_2 13)) 7)) (shlI .u64 (xorI .u64 (xorI .u64 r_2 (shlI .u64 r_2 13)) (shrI .u64 (xorI .u64 r_2 (shlI .u64 r_2 13)) 7)) 17)),(xorI .u64 (xorI .u64 (xorI .u64 r_2 (shlI .u64 r_2 13)) (shrI .u64 (xorI .u64 r_2 (shlI .u64 r_2 13)) 7)) (shlI .u64 (xorI .u64 (xorI .u64 r_2 (shlI .u64 r_2 13)) (shrI .u64 (xorI .u64 r_2 (shlI .u64 r_2 13)) 7)) 17)))
noncomputable def Ffbd_la_F (data_14 : List Event) (a_15 : Int) (b_16 : Int) (cmp_17 : Unit) (r7 : Int) (self : (Int × (List Event) × Int)→Option (((List Event)) ⊕ ((List Event)))) (x8 : Int × (List Event) × Int) : Option (((List Event)) ⊕ ((List Event))) :=
  bif (decide (x8.1 ≤ (w64 ((w64 (a_15 + (w64 ((w64 ((w64 (b_16 - a_15)).tdiv 4)) * 2)))) + 1)))) then ((Ffbr x8.2.2).bind fun r9=>letJ (bif (decide ((IntKind.i64.wrap (andI .u64 r9.1 (IntKind.u64.wrap (r7 - 1)))) ≥ (w64 (b_16 - a_15)))) then ((w64 ((IntKind.i64.wrap (andI .u64 r9.1 (IntKind.u64.wrap (r7 - 1)))) - (w64 (b_16 - a_15))))) else ((IntKind.i64.wrap (andI .u64 r9.1 (IntKind.u64.wrap (r7 - 1)))))) fun u10 : Int=>(getI x8.2.1 (w64 (a_15 + u10))).bind fun e11=>(getI x8.2.1 x8.1).bind fun e12=>(getI x8.2.1 x8.1).bind fun e13=>(getI (setI x8.2.1 x8.1 e11) (w64 (a_15 + u10))).bind fun e16=>self ((w64 (x8.1 + 1)),(setI (setI x8.2.1 x8.1 e11) (w64 (a_15 + u10)) e12),r9.2)) else (some (.inr x8.2.1))
noncomputable def Ffbd_la (data_14 : List Event) (a_15 : Int) (b_16 : Int) (cmp_17 : Unit) (r7 : Int) : (Int × (List Event) × Int)→Option (((List Event)) ⊕ ((List Event))):=fixO (Ffbd_la_F data_14 a_15 b_16 cmp_17 r7)
theorem Ffbd_la_fin (data_14 : List Event) (a_15 : Int) (b_16 : Int) (cmp_17 : Unit) (r7 : Int) : ∀ a,Fin1 fun f=>Ffbd_la_F data_14 a_15 b_16 cmp_17 r7 f a:=by
  intro a
  unfold Ffbd_la_F
  repeat first|exact f_const|exact f_self|refine f_cond ?_ ?_|refine f_bindJ ?_ (fun _=>?_)|refine f_bindL ?_ (fun _=>?_)|refine f_bind ?_ (fun _=>?_)|refine f_letJ (fun _=>?_)
theorem Ffbd_la_eq (data_14 : List Event) (a_15 : Int) (b_16 : Int) (cmp_17 : Unit) (r7 : Int) (x : Int × (List Event) × Int) : Ffbd_la data_14 a_15 b_16 cmp_17 r7 x=Ffbd_la_F data_14 a_15 b_16 cmp_17 r7 (Ffbd_la data_14 a_15 b_16 cmp_17 r7) x:=fix_eq (Ffbd_la_fin data_14 a_15 b_16 cmp_17 r7) x
noncomputable def Ffbd (data_14 : List Event) (a_15 : Int) (b_16 : Int) (cmp_17 : Unit) : Option ((List Event)) :=
  bindJ (ρ:=(List Event)) (bif (decide ((w64 (b_16 - a_15)) ≥ 8)) then ((Ffbj (w64 (b_16 - a_15))).bind fun r7=>bindL (ρ:=(List Event)) (Ffbd_la data_14 a_15 b_16 cmp_17 r7 ((w64 ((w64 (a_15 + (w64 ((w64 ((w64 (b_16 - a_15)).tdiv 4)) * 2)))) - 1)),data_14,(IntKind.u64.wrap (w64 (b_16 - a_15))))) fun u20 : (List Event)=>some (.inr u20)) else (some (.inr data_14))) fun u5 : (List Event)=>bif Nat.beq u5.length data_14.length then (some u5) else none
noncomputable def Ffbk (data_10 : List Event) (a_11 : Int) (b_12 : Int) (swaps_13 : Int) (cmp_14 : Unit) : Option (Int × Int × Int) :=
  (getI data_10 b_12).bind fun e6=>(getI data_10 a_11).bind fun e7=>(Fff e6 e7).bind fun r8=>bif (decide (r8 < 0)) then (some (b_12,a_11,(w64 (swaps_13 + 1)))) else (some (a_11,b_12,swaps_13))
noncomputable def Ffbi (data_7 : List Event) (a_8 : Int) (b_9 : Int) (c_10 : Int) (swaps_11 : Int) (cmp_12 : Unit) : Option (Int × Int) :=
  (Ffbk data_7 a_8 b_9 swaps_11 ()).bind fun r7=>(Ffbk data_7 r7.2.1 c_10 r7.2.2 ()).bind fun r8=>(Ffbk data_7 r7.1 r8.1 r8.2.2 ()).bind fun r9=>some (r9.2.1,r9.2.2)
noncomputable def Ffbh (data_5 : List Event) (a_6 : Int) (swaps_7 : Int) (cmp_8 : Unit) : Option (Int × Int) :=
  (Ffbi data_5 (w64 (a_6 - 1)) a_6 (w64 (a_6 + 1)) swaps_7 ()).bind fun r5=>some (r5.1,r5.2)
noncomputable def Ffbe (data_1 : List Event) (a_2 : Int) (b_3 : Int) (cmp_4 : Unit) : Option (Int × Int) :=
  bindJ (ρ:=Int × Int) (bif (decide ((w64 (b_3 - a_2)) ≥ 8)) then (bindL (ρ:=Int × Int) (bif (decide ((w64 (b_3 - a_2)) ≥ 50)) then ((Ffbh data_1 (w64 (a_2 + (w64 ((w64 ((w64 (b_3 - a_2)).tdiv 4)) * 1)))) 0 ()).bind fun r8=>(Ffbh data_1 (w64 (a_2 + (w64 ((w64 ((w64 (b_3 - a_2)).tdiv 4)) * 2)))) r8.2 ()).bind fun r9=>(Ffbh data_1 (w64 (a_2 + (w64 ((w64 ((w64 (b_3 - a_2)).tdiv 4)) * 3)))) r9.2 ()).bind fun r10=>some (.inr (r8.1,r9.1,r10.1,r10.2))) else (some (.inr ((w64 (a_2 + (w64 ((w64 ((w64 (b_3 - a_2)).tdiv 4)) * 1)))),(w64 (a_2 + (w64 ((w64 ((w64 (b_3 - a_2)).tdiv 4)) * 2)))),(w64 (a_2 + (w64 ((w64 ((w64 (b_3 - a_2)).tdiv 4)) * 3)))),0)))) fun u6 : Int × Int × Int × Int=>(Ffbi data_1 u6.1 u6.2.1 u6.2.2.1 u6.2.2.2 ()).bind fun r7=>some (.inr (r7.1,r7.2))) else (some (.inr ((w64 (a_2 + (w64 ((w64 ((w64 (b_3 - a_2)).tdiv 4)) * 2)))),0)))) fun u5 : Int × Int=>bif (u5.2 == 0) then (some (u5.1,1)) else (bif (u5.2 == 12) then (some (u5.1,2)) else (some (u5.1,0)))
noncomputable def Ffbp_la_F (data_10 : List Event) (a_11 : Int) (b_12 : Int) (cmp_13 : Unit)  (self : (Int × Int × (List Event))→Option (((List Event)) ⊕ ((List Event)))) (x5 : Int × Int × (List Event)) : Option (((List Event)) ⊕ ((List Event))) :=
  bif (decide (x5.1 < x5.2.1)) then ((getI x5.2.2 x5.2.1).bind fun e6=>(getI x5.2.2 x5.1).bind fun e7=>(getI x5.2.2 x5.1).bind fun e8=>(getI (setI x5.2.2 x5.1 e6) x5.2.1).bind fun e11=>self ((w64 (x5.1 + 1)),(w64 (x5.2.1 - 1)),(setI (setI x5.2.2 x5.1 e6) x5.2.1 e7))) else (some (.inr x5.2.2))
noncomputable def Ffbp_la (data_10 : List Event) (a_11 : Int) (b_12 : Int) (cmp_13 : Unit)  : (Int × Int × (List Event))→Option (((List Event)) ⊕ ((List Event))):=fixO (Ffbp_la_F data_10 a_11 b_12 cmp_13)
theorem Ffbp_la_fin (data_10 : List Event) (a_11 : Int) (b_12 : Int) (cmp_13 : Unit)  : ∀ a,Fin1 fun f=>Ffbp_la_F data_10 a_11 b_12 cmp_13 f a:=by
  intro a
  unfold Ffbp_la_F
  repeat first|exact f_const|exact f_self|refine f_cond ?_ ?_|refine f_bindJ ?_ (fun _=>?_)|refine f_bindL ?_ (fun _=>?_)|refine f_bind ?_ (fun _=>?_)|refine f_letJ (fun _=>?_)
theorem Ffbp_la_eq (data_10 : List Event) (a_11 : Int) (b_12 : Int) (cmp_13 : Unit)  (x : Int × Int × (List Event)) : Ffbp_la data_10 a_11 b_12 cmp_13 x=Ffbp_la_F data_10 a_11 b_12 cmp_13 (Ffbp_la data_10 a_11 b_12 cmp_13) x:=fix_eq (Ffbp_la_fin data_10 a_11 b_12 cmp_13) x
noncomputable def Ffbp (data_10 : List Event) (a_11 : Int) (b_12 : Int) (cmp_13 : Unit) : Option ((List Event)) :=
  bindJ (ρ:=(List Event)) (Ffbp_la data_10 a_11 b_12 cmp_13 (a_11,(w64 (b_12 - 1)),data_10)) fun u15 : (List Event)=>bif Nat.beq u15.length data_10.length then (some u15) else none
noncomputable def Ffbl_lb_F (data_16 : List Event) (a_17 : Int) (b_18 : Int) (cmp_19 : Unit) (x5 : Int × Int × Int × Int × (List Event)) (self : Int→Option ((Bool × (List Event)) ⊕ Int)) (x6 : Int) : Option ((Bool × (List Event)) ⊕ Int) :=
  bindL (ρ:=Bool × (List Event)) (bif (decide (x6 < x5.2.1)) then ((getI x5.2.2.2.2 x6).bind fun e8=>(getI x5.2.2.2.2 (w64 (x6 - 1))).bind fun e9=>(Fff e8 e9).bind fun r10=>some (.inr (!(decide (r10 < 0))))) else (some (.inr false))) fun u7 : Bool=>bif u7 then (self (w64 (x6 + 1))) else (some (.inr x6))
noncomputable def Ffbl_lb (data_16 : List Event) (a_17 : Int) (b_18 : Int) (cmp_19 : Unit) (x5 : Int × Int × Int × Int × (List Event)) : Int→Option ((Bool × (List Event)) ⊕ Int):=fixO (Ffbl_lb_F data_16 a_17 b_18 cmp_19 x5)
theorem Ffbl_lb_fin (data_16 : List Event) (a_17 : Int) (b_18 : Int) (cmp_19 : Unit) (x5 : Int × Int × Int × Int × (List Event)) : ∀ a,Fin1 fun f=>Ffbl_lb_F data_16 a_17 b_18 cmp_19 x5 f a:=by
  intro a
  unfold Ffbl_lb_F
  repeat first|exact f_const|exact f_self|refine f_cond ?_ ?_|refine f_bindJ ?_ (fun _=>?_)|refine f_bindL ?_ (fun _=>?_)|refine f_bind ?_ (fun _=>?_)|refine f_letJ (fun _=>?_)
theorem Ffbl_lb_eq (data_16 : List Event) (a_17 : Int) (b_18 : Int) (cmp_19 : Unit) (x5 : Int × Int × Int × Int × (List Event)) (x : Int) : Ffbl_lb data_16 a_17 b_18 cmp_19 x5 x=Ffbl_lb_F data_16 a_17 b_18 cmp_19 x5 (Ffbl_lb data_16 a_17 b_18 cmp_19 x5) x:=fix_eq (Ffbl_lb_fin data_16 a_17 b_18 cmp_19 x5) x
noncomputable def Ffbl_lc_F (data_16 : List Event) (a_17 : Int) (b_18 : Int) (cmp_19 : Unit) (x5 : Int × Int × Int × Int × (List Event)) (u11 : Int) (self : (Int × (List Event))→Option ((Bool × (List Event)) ⊕ ((List Event)))) (x25 : Int × (List Event)) : Option ((Bool × (List Event)) ⊕ ((List Event))) :=
  bif (decide (x25.1 < x5.2.1)) then ((getI x25.2 x25.1).bind fun e26=>(getI x25.2 (w64 (x25.1 - 1))).bind fun e27=>(Fff e26 e27).bind fun r28=>bif (!(decide (r28 < 0))) then (some (.inr x25.2)) else ((getI x25.2 (w64 (x25.1 - 1))).bind fun e29=>(getI x25.2 x25.1).bind fun e30=>(getI x25.2 x25.1).bind fun e31=>(getI (setI x25.2 x25.1 e29) (w64 (x25.1 - 1))).bind fun e36=>self ((w64 (x25.1 + 1)),(setI (setI x25.2 x25.1 e29) (w64 (x25.1 - 1)) e30)))) else (some (.inr x25.2))
noncomputable def Ffbl_lc (data_16 : List Event) (a_17 : Int) (b_18 : Int) (cmp_19 : Unit) (x5 : Int × Int × Int × Int × (List Event)) (u11 : Int) : (Int × (List Event))→Option ((Bool × (List Event)) ⊕ ((List Event))):=fixO (Ffbl_lc_F data_16 a_17 b_18 cmp_19 x5 u11)
theorem Ffbl_lc_fin (data_16 : List Event) (a_17 : Int) (b_18 : Int) (cmp_19 : Unit) (x5 : Int × Int × Int × Int × (List Event)) (u11 : Int) : ∀ a,Fin1 fun f=>Ffbl_lc_F data_16 a_17 b_18 cmp_19 x5 u11 f a:=by
  intro a
  unfold Ffbl_lc_F
  repeat first|exact f_const|exact f_self|refine f_cond ?_ ?_|refine f_bindJ ?_ (fun _=>?_)|refine f_bindL ?_ (fun _=>?_)|refine f_bind ?_ (fun _=>?_)|refine f_letJ (fun _=>?_)
theorem Ffbl_lc_eq (data_16 : List Event) (a_17 : Int) (b_18 : Int) (cmp_19 : Unit) (x5 : Int × Int × Int × Int × (List Event)) (u11 : Int) (x : Int × (List Event)) : Ffbl_lc data_16 a_17 b_18 cmp_19 x5 u11 x=Ffbl_lc_F data_16 a_17 b_18 cmp_19 x5 u11 (Ffbl_lc data_16 a_17 b_18 cmp_19 x5 u11) x:=fix_eq (Ffbl_lc_fin data_16 a_17 b_18 cmp_19 x5 u11) x
noncomputable def Ffbl_ld_F (data_16 : List Event) (a_17 : Int) (b_18 : Int) (cmp_19 : Unit) (x5 : Int × Int × Int × Int × (List Event)) (u11 : Int) (self : (Int × (List Event))→Option ((Bool × (List Event)) ⊕ ((List Event)))) (x43 : Int × (List Event)) : Option ((Bool × (List Event)) ⊕ ((List Event))) :=
  bif (decide (x43.1 ≥ 1)) then ((getI x43.2 x43.1).bind fun e44=>(getI x43.2 (w64 (x43.1 - 1))).bind fun e45=>(Fff e44 e45).bind fun r46=>bif (!(decide (r46 < 0))) then (some (.inr x43.2)) else ((getI x43.2 (w64 (x43.1 - 1))).bind fun e47=>(getI x43.2 x43.1).bind fun e48=>(getI x43.2 x43.1).bind fun e49=>(getI (setI x43.2 x43.1 e47) (w64 (x43.1 - 1))).bind fun e54=>self ((w64 (x43.1 - 1)),(setI (setI x43.2 x43.1 e47) (w64 (x43.1 - 1)) e48)))) else (some (.inr x43.2))
noncomputable def Ffbl_ld (data_16 : List Event) (a_17 : Int) (b_18 : Int) (cmp_19 : Unit) (x5 : Int × Int × Int × Int × (List Event)) (u11 : Int) : (Int × (List Event))→Option ((Bool × (List Event)) ⊕ ((List Event))):=fixO (Ffbl_ld_F data_16 a_17 b_18 cmp_19 x5 u11)
theorem Ffbl_ld_fin (data_16 : List Event) (a_17 : Int) (b_18 : Int) (cmp_19 : Unit) (x5 : Int × Int × Int × Int × (List Event)) (u11 : Int) : ∀ a,Fin1 fun f=>Ffbl_ld_F data_16 a_17 b_18 cmp_19 x5 u11 f a:=by
  intro a
  unfold Ffbl_ld_F
  repeat first|exact f_const|exact f_self|refine f_cond ?_ ?_|refine f_bindJ ?_ (fun _=>?_)|refine f_bindL ?_ (fun _=>?_)|refine f_bind ?_ (fun _=>?_)|refine f_letJ (fun _=>?_)
theorem Ffbl_ld_eq (data_16 : List Event) (a_17 : Int) (b_18 : Int) (cmp_19 : Unit) (x5 : Int × Int × Int × Int × (List Event)) (u11 : Int) (x : Int × (List Event)) : Ffbl_ld data_16 a_17 b_18 cmp_19 x5 u11 x=Ffbl_ld_F data_16 a_17 b_18 cmp_19 x5 u11 (Ffbl_ld data_16 a_17 b_18 cmp_19 x5 u11) x:=fix_eq (Ffbl_ld_fin data_16 a_17 b_18 cmp_19 x5 u11) x
noncomputable def Ffbl_la_F (data_16 : List Event) (a_17 : Int) (b_18 : Int) (cmp_19 : Unit)  (self : (Int × Int × Int × Int × (List Event))→Option ((Bool × (List Event)) ⊕ ((List Event)))) (x5 : Int × Int × Int × Int × (List Event)) : Option ((Bool × (List Event)) ⊕ ((List Event))) :=
  bif (decide (x5.2.2.2.1 < 5)) then (bindL (ρ:=Bool × (List Event)) (Ffbl_lb data_16 a_17 b_18 cmp_19 x5 x5.2.2.1) fun u11 : Int=>bif (u11 == x5.2.1) then (bif Nat.beq x5.2.2.2.2.length data_16.length then (some (.inl (true,x5.2.2.2.2))) else none) else (bif (decide ((w64 (x5.2.1 - x5.1)) < 50)) then (bif Nat.beq x5.2.2.2.2.length data_16.length then (some (.inl (false,x5.2.2.2.2))) else none) else ((getI x5.2.2.2.2 (w64 (u11 - 1))).bind fun e14=>(getI x5.2.2.2.2 u11).bind fun e15=>(getI x5.2.2.2.2 u11).bind fun e16=>(getI (setI x5.2.2.2.2 u11 e14) (w64 (u11 - 1))).bind fun e19=>bindL (ρ:=Bool × (List Event)) (bif (decide ((w64 (u11 - x5.1)) ≥ 2)) then (bindL (ρ:=Bool × (List Event)) (Ffbl_ld data_16 a_17 b_18 cmp_19 x5 u11 ((w64 (u11 - 1)),(setI (setI x5.2.2.2.2 u11 e14) (w64 (u11 - 1)) e15))) fun u60 : (List Event)=>some (.inr u60)) else (some (.inr (setI (setI x5.2.2.2.2 u11 e14) (w64 (u11 - 1)) e15)))) fun u23 : (List Event)=>bindL (ρ:=Bool × (List Event)) (bif (decide ((w64 (x5.2.1 - u11)) ≥ 2)) then (bindL (ρ:=Bool × (List Event)) (Ffbl_lc data_16 a_17 b_18 cmp_19 x5 u11 ((w64 (u11 + 1)),u23)) fun u42 : (List Event)=>some (.inr u42)) else (some (.inr u23))) fun u24 : (List Event)=>self (x5.1,x5.2.1,u11,(w64 (x5.2.2.2.1 + 1)),u24)))) else (some (.inr x5.2.2.2.2))
noncomputable def Ffbl_la (data_16 : List Event) (a_17 : Int) (b_18 : Int) (cmp_19 : Unit)  : (Int × Int × Int × Int × (List Event))→Option ((Bool × (List Event)) ⊕ ((List Event))):=fixO (Ffbl_la_F data_16 a_17 b_18 cmp_19)
theorem Ffbl_la_fin (data_16 : List Event) (a_17 : Int) (b_18 : Int) (cmp_19 : Unit)  : ∀ a,Fin1 fun f=>Ffbl_la_F data_16 a_17 b_18 cmp_19 f a:=by
  intro a
  unfold Ffbl_la_F
  repeat first|exact f_const|exact f_self|refine f_cond ?_ ?_|refine f_bindJ ?_ (fun _=>?_)|refine f_bindL ?_ (fun _=>?_)|refine f_bind ?_ (fun _=>?_)|refine f_letJ (fun _=>?_)
theorem Ffbl_la_eq (data_16 : List Event) (a_17 : Int) (b_18 : Int) (cmp_19 : Unit)  (x : Int × Int × Int × Int × (List Event)) : Ffbl_la data_16 a_17 b_18 cmp_19 x=Ffbl_la_F data_16 a_17 b_18 cmp_19 (Ffbl_la data_16 a_17 b_18 cmp_19) x:=fix_eq (Ffbl_la_fin data_16 a_17 b_18 cmp_19) x
noncomputable def Ffbl (data_16 : List Event) (a_17 : Int) (b_18 : Int) (cmp_19 : Unit) : Option (Bool × (List Event)) :=
  bindJ (ρ:=Bool × (List Event)) (Ffbl_la data_16 a_17 b_18 cmp_19 (a_17,b_18,(w64 (a_17 + 1)),0,data_16)) fun u61 : (List Event)=>bif Nat.beq u61.length data_16.length then (some (false,u61)) else none
noncomputable def Ffbn_lb_F (data_9 : List Event) (a_10 : Int) (b_11 : Int) (pivot_12 : Int) (cmp_13 : Unit) (x15 : Int × Int × (List Event)) (self : Int→Option ((Int × (List Event)) ⊕ Int)) (x16 : Int) : Option ((Int × (List Event)) ⊕ Int) :=
  bindL (ρ:=Int × (List Event)) (bif (decide (x16 ≤ x15.2.1)) then ((getI x15.2.2 a_10).bind fun e18=>(getI x15.2.2 x16).bind fun e19=>(Fff e18 e19).bind fun r20=>some (.inr (!(decide (r20 < 0))))) else (some (.inr false))) fun u17 : Bool=>bif u17 then (self (w64 (x16 + 1))) else (some (.inr x16))
noncomputable def Ffbn_lb (data_9 : List Event) (a_10 : Int) (b_11 : Int) (pivot_12 : Int) (cmp_13 : Unit) (x15 : Int × Int × (List Event)) : Int→Option ((Int × (List Event)) ⊕ Int):=fixO (Ffbn_lb_F data_9 a_10 b_11 pivot_12 cmp_13 x15)
theorem Ffbn_lb_fin (data_9 : List Event) (a_10 : Int) (b_11 : Int) (pivot_12 : Int) (cmp_13 : Unit) (x15 : Int × Int × (List Event)) : ∀ a,Fin1 fun f=>Ffbn_lb_F data_9 a_10 b_11 pivot_12 cmp_13 x15 f a:=by
  intro a
  unfold Ffbn_lb_F
  repeat first|exact f_const|exact f_self|refine f_cond ?_ ?_|refine f_bindJ ?_ (fun _=>?_)|refine f_bindL ?_ (fun _=>?_)|refine f_bind ?_ (fun _=>?_)|refine f_letJ (fun _=>?_)
theorem Ffbn_lb_eq (data_9 : List Event) (a_10 : Int) (b_11 : Int) (pivot_12 : Int) (cmp_13 : Unit) (x15 : Int × Int × (List Event)) (x : Int) : Ffbn_lb data_9 a_10 b_11 pivot_12 cmp_13 x15 x=Ffbn_lb_F data_9 a_10 b_11 pivot_12 cmp_13 x15 (Ffbn_lb data_9 a_10 b_11 pivot_12 cmp_13 x15) x:=fix_eq (Ffbn_lb_fin data_9 a_10 b_11 pivot_12 cmp_13 x15) x
noncomputable def Ffbn_lc_F (data_9 : List Event) (a_10 : Int) (b_11 : Int) (pivot_12 : Int) (cmp_13 : Unit) (u21 : Int) (x15 : Int × Int × (List Event)) (self : Int→Option ((Int × (List Event)) ⊕ Int)) (x22 : Int) : Option ((Int × (List Event)) ⊕ Int) :=
  bindL (ρ:=Int × (List Event)) (bif (decide (u21 ≤ x22)) then ((getI x15.2.2 a_10).bind fun e24=>(getI x15.2.2 x22).bind fun e25=>(Fff e24 e25).bind fun r26=>some (.inr (decide (r26 < 0)))) else (some (.inr false))) fun u23 : Bool=>bif u23 then (self (w64 (x22 - 1))) else (some (.inr x22))
noncomputable def Ffbn_lc (data_9 : List Event) (a_10 : Int) (b_11 : Int) (pivot_12 : Int) (cmp_13 : Unit) (u21 : Int) (x15 : Int × Int × (List Event)) : Int→Option ((Int × (List Event)) ⊕ Int):=fixO (Ffbn_lc_F data_9 a_10 b_11 pivot_12 cmp_13 u21 x15)
theorem Ffbn_lc_fin (data_9 : List Event) (a_10 : Int) (b_11 : Int) (pivot_12 : Int) (cmp_13 : Unit) (u21 : Int) (x15 : Int × Int × (List Event)) : ∀ a,Fin1 fun f=>Ffbn_lc_F data_9 a_10 b_11 pivot_12 cmp_13 u21 x15 f a:=by
  intro a
  unfold Ffbn_lc_F
  repeat first|exact f_const|exact f_self|refine f_cond ?_ ?_|refine f_bindJ ?_ (fun _=>?_)|refine f_bindL ?_ (fun _=>?_)|refine f_bind ?_ (fun _=>?_)|refine f_letJ (fun _=>?_)
theorem Ffbn_lc_eq (data_9 : List Event) (a_10 : Int) (b_11 : Int) (pivot_12 : Int) (cmp_13 : Unit) (u21 : Int) (x15 : Int × Int × (List Event)) (x : Int) : Ffbn_lc data_9 a_10 b_11 pivot_12 cmp_13 u21 x15 x=Ffbn_lc_F data_9 a_10 b_11 pivot_12 cmp_13 u21 x15 (Ffbn_lc data_9 a_10 b_11 pivot_12 cmp_13 u21 x15) x:=fix_eq (Ffbn_lc_fin data_9 a_10 b_11 pivot_12 cmp_13 u21 x15) x
noncomputable def Ffbn_la_F (data_9 : List Event) (a_10 : Int) (b_11 : Int) (pivot_12 : Int) (cmp_13 : Unit)  (self : (Int × Int × (List Event))→Option ((Int × (List Event)) ⊕ (Int × (List Event)))) (x15 : Int × Int × (List Event)) : Option ((Int × (List Event)) ⊕ (Int × (List Event))) :=
  bindL (ρ:=Int × (List Event)) (Ffbn_lb data_9 a_10 b_11 pivot_12 cmp_13 x15 x15.1) fun u21 : Int=>bindL (ρ:=Int × (List Event)) (Ffbn_lc data_9 a_10 b_11 pivot_12 cmp_13 u21 x15 x15.2.1) fun u27 : Int=>bif (decide (u21 > u27)) then (some (.inr (u21,x15.2.2))) else ((getI x15.2.2 u27).bind fun e28=>(getI x15.2.2 u21).bind fun e29=>(getI x15.2.2 u21).bind fun e30=>(getI (setI x15.2.2 u21 e28) u27).bind fun e33=>self ((w64 (u21 + 1)),(w64 (u27 - 1)),(setI (setI x15.2.2 u21 e28) u27 e29)))
noncomputable def Ffbn_la (data_9 : List Event) (a_10 : Int) (b_11 : Int) (pivot_12 : Int) (cmp_13 : Unit)  : (Int × Int × (List Event))→Option ((Int × (List Event)) ⊕ (Int × (List Event))):=fixO (Ffbn_la_F data_9 a_10 b_11 pivot_12 cmp_13)
theorem Ffbn_la_fin (data_9 : List Event) (a_10 : Int) (b_11 : Int) (pivot_12 : Int) (cmp_13 : Unit)  : ∀ a,Fin1 fun f=>Ffbn_la_F data_9 a_10 b_11 pivot_12 cmp_13 f a:=by
  intro a
  unfold Ffbn_la_F
  repeat first|exact f_const|exact f_self|refine f_cond ?_ ?_|refine f_bindJ ?_ (fun _=>?_)|refine f_bindL ?_ (fun _=>?_)|refine f_bind ?_ (fun _=>?_)|refine f_letJ (fun _=>?_)
theorem Ffbn_la_eq (data_9 : List Event) (a_10 : Int) (b_11 : Int) (pivot_12 : Int) (cmp_13 : Unit)  (x : Int × Int × (List Event)) : Ffbn_la data_9 a_10 b_11 pivot_12 cmp_13 x=Ffbn_la_F data_9 a_10 b_11 pivot_12 cmp_13 (Ffbn_la data_9 a_10 b_11 pivot_12 cmp_13) x:=fix_eq (Ffbn_la_fin data_9 a_10 b_11 pivot_12 cmp_13) x
noncomputable def Ffbn (data_9 : List Event) (a_10 : Int) (b_11 : Int) (pivot_12 : Int) (cmp_13 : Unit) : Option (Int × (List Event)) :=
  (getI data_9 pivot_12).bind fun e6=>(getI data_9 a_10).bind fun e7=>(getI data_9 a_10).bind fun e8=>(getI (setI data_9 a_10 e6) pivot_12).bind fun e11=>bindJ (ρ:=Int × (List Event)) (Ffbn_la data_9 a_10 b_11 pivot_12 cmp_13 ((w64 (a_10 + 1)),(w64 (b_11 - 1)),(setI (setI data_9 a_10 e6) pivot_12 e7))) fun u37 : Int × (List Event)=>bif Nat.beq u37.2.length data_9.length then (some (u37.1,u37.2)) else none
noncomputable def Ffbm_la_F (data_9 : List Event) (a_10 : Int) (b_11 : Int) (pivot_12 : Int) (cmp_13 : Unit) (e6 : Event) (e7 : Event) (self : Int→Option ((Int × Bool × (List Event)) ⊕ (Int × Int))) (x15 : Int) : Option ((Int × Bool × (List Event)) ⊕ (Int × Int)) :=
  bindL (ρ:=Int × Bool × (List Event)) (bif (decide (x15 ≤ (w64 (b_11 - 1)))) then ((getI (setI (setI data_9 a_10 e6) pivot_12 e7) x15).bind fun e17=>(getI (setI (setI data_9 a_10 e6) pivot_12 e7) a_10).bind fun e18=>(Fff e17 e18).bind fun r19=>some (.inr (decide (r19 < 0)))) else (some (.inr false))) fun u16 : Bool=>bif u16 then (self (w64 (x15 + 1))) else (some (.inr (x15,(w64 (b_11 - 1)))))
noncomputable def Ffbm_la (data_9 : List Event) (a_10 : Int) (b_11 : Int) (pivot_12 : Int) (cmp_13 : Unit) (e6 : Event) (e7 : Event) : Int→Option ((Int × Bool × (List Event)) ⊕ (Int × Int)):=fixO (Ffbm_la_F data_9 a_10 b_11 pivot_12 cmp_13 e6 e7)
theorem Ffbm_la_fin (data_9 : List Event) (a_10 : Int) (b_11 : Int) (pivot_12 : Int) (cmp_13 : Unit) (e6 : Event) (e7 : Event) : ∀ a,Fin1 fun f=>Ffbm_la_F data_9 a_10 b_11 pivot_12 cmp_13 e6 e7 f a:=by
  intro a
  unfold Ffbm_la_F
  repeat first|exact f_const|exact f_self|refine f_cond ?_ ?_|refine f_bindJ ?_ (fun _=>?_)|refine f_bindL ?_ (fun _=>?_)|refine f_bind ?_ (fun _=>?_)|refine f_letJ (fun _=>?_)
theorem Ffbm_la_eq (data_9 : List Event) (a_10 : Int) (b_11 : Int) (pivot_12 : Int) (cmp_13 : Unit) (e6 : Event) (e7 : Event) (x : Int) : Ffbm_la data_9 a_10 b_11 pivot_12 cmp_13 e6 e7 x=Ffbm_la_F data_9 a_10 b_11 pivot_12 cmp_13 e6 e7 (Ffbm_la data_9 a_10 b_11 pivot_12 cmp_13 e6 e7) x:=fix_eq (Ffbm_la_fin data_9 a_10 b_11 pivot_12 cmp_13 e6 e7) x
noncomputable def Ffbm_lb_F (data_9 : List Event) (a_10 : Int) (b_11 : Int) (pivot_12 : Int) (cmp_13 : Unit) (u20 : Int × Int) (e6 : Event) (e7 : Event) (self : Int→Option ((Int × Bool × (List Event)) ⊕ Int)) (x21 : Int) : Option ((Int × Bool × (List Event)) ⊕ Int) :=
  bindL (ρ:=Int × Bool × (List Event)) (bif (decide (u20.1 ≤ x21)) then ((getI (setI (setI data_9 a_10 e6) pivot_12 e7) x21).bind fun e23=>(getI (setI (setI data_9 a_10 e6) pivot_12 e7) a_10).bind fun e24=>(Fff e23 e24).bind fun r25=>some (.inr (!(decide (r25 < 0))))) else (some (.inr false))) fun u22 : Bool=>bif u22 then (self (w64 (x21 - 1))) else (some (.inr x21))
noncomputable def Ffbm_lb (data_9 : List Event) (a_10 : Int) (b_11 : Int) (pivot_12 : Int) (cmp_13 : Unit) (u20 : Int × Int) (e6 : Event) (e7 : Event) : Int→Option ((Int × Bool × (List Event)) ⊕ Int):=fixO (Ffbm_lb_F data_9 a_10 b_11 pivot_12 cmp_13 u20 e6 e7)
theorem Ffbm_lb_fin (data_9 : List Event) (a_10 : Int) (b_11 : Int) (pivot_12 : Int) (cmp_13 : Unit) (u20 : Int × Int) (e6 : Event) (e7 : Event) : ∀ a,Fin1 fun f=>Ffbm_lb_F data_9 a_10 b_11 pivot_12 cmp_13 u20 e6 e7 f a:=by
  intro a
  unfold Ffbm_lb_F
  repeat first|exact f_const|exact f_self|refine f_cond ?_ ?_|refine f_bindJ ?_ (fun _=>?_)|refine f_bindL ?_ (fun _=>?_)|refine f_bind ?_ (fun _=>?_)|refine f_letJ (fun _=>?_)
theorem Ffbm_lb_eq (data_9 : List Event) (a_10 : Int) (b_11 : Int) (pivot_12 : Int) (cmp_13 : Unit) (u20 : Int × Int) (e6 : Event) (e7 : Event) (x : Int) : Ffbm_lb data_9 a_10 b_11 pivot_12 cmp_13 u20 e6 e7 x=Ffbm_lb_F data_9 a_10 b_11 pivot_12 cmp_13 u20 e6 e7 (Ffbm_lb data_9 a_10 b_11 pivot_12 cmp_13 u20 e6 e7) x:=fix_eq (Ffbm_lb_fin data_9 a_10 b_11 pivot_12 cmp_13 u20 e6 e7) x
noncomputable def Ffbm_ld_F (data_9 : List Event) (a_10 : Int) (b_11 : Int) (pivot_12 : Int) (cmp_13 : Unit) (x46 : Int × Int × (List Event)) (self : Int→Option ((Int × Bool × (List Event)) ⊕ Int)) (x47 : Int) : Option ((Int × Bool × (List Event)) ⊕ Int) :=
  bindL (ρ:=Int × Bool × (List Event)) (bif (decide (x47 ≤ x46.2.1)) then ((getI x46.2.2 x47).bind fun e49=>(getI x46.2.2 a_10).bind fun e50=>(Fff e49 e50).bind fun r51=>some (.inr (decide (r51 < 0)))) else (some (.inr false))) fun u48 : Bool=>bif u48 then (self (w64 (x47 + 1))) else (some (.inr x47))
noncomputable def Ffbm_ld (data_9 : List Event) (a_10 : Int) (b_11 : Int) (pivot_12 : Int) (cmp_13 : Unit) (x46 : Int × Int × (List Event)) : Int→Option ((Int × Bool × (List Event)) ⊕ Int):=fixO (Ffbm_ld_F data_9 a_10 b_11 pivot_12 cmp_13 x46)
theorem Ffbm_ld_fin (data_9 : List Event) (a_10 : Int) (b_11 : Int) (pivot_12 : Int) (cmp_13 : Unit) (x46 : Int × Int × (List Event)) : ∀ a,Fin1 fun f=>Ffbm_ld_F data_9 a_10 b_11 pivot_12 cmp_13 x46 f a:=by
  intro a
  unfold Ffbm_ld_F
  repeat first|exact f_const|exact f_self|refine f_cond ?_ ?_|refine f_bindJ ?_ (fun _=>?_)|refine f_bindL ?_ (fun _=>?_)|refine f_bind ?_ (fun _=>?_)|refine f_letJ (fun _=>?_)
theorem Ffbm_ld_eq (data_9 : List Event) (a_10 : Int) (b_11 : Int) (pivot_12 : Int) (cmp_13 : Unit) (x46 : Int × Int × (List Event)) (x : Int) : Ffbm_ld data_9 a_10 b_11 pivot_12 cmp_13 x46 x=Ffbm_ld_F data_9 a_10 b_11 pivot_12 cmp_13 x46 (Ffbm_ld data_9 a_10 b_11 pivot_12 cmp_13 x46) x:=fix_eq (Ffbm_ld_fin data_9 a_10 b_11 pivot_12 cmp_13 x46) x
noncomputable def Ffbm_le_F (data_9 : List Event) (a_10 : Int) (b_11 : Int) (pivot_12 : Int) (cmp_13 : Unit) (u52 : Int) (x46 : Int × Int × (List Event)) (self : Int→Option ((Int × Bool × (List Event)) ⊕ Int)) (x53 : Int) : Option ((Int × Bool × (List Event)) ⊕ Int) :=
  bindL (ρ:=Int × Bool × (List Event)) (bif (decide (u52 ≤ x53)) then ((getI x46.2.2 x53).bind fun e55=>(getI x46.2.2 a_10).bind fun e56=>(Fff e55 e56).bind fun r57=>some (.inr (!(decide (r57 < 0))))) else (some (.inr false))) fun u54 : Bool=>bif u54 then (self (w64 (x53 - 1))) else (some (.inr x53))
noncomputable def Ffbm_le (data_9 : List Event) (a_10 : Int) (b_11 : Int) (pivot_12 : Int) (cmp_13 : Unit) (u52 : Int) (x46 : Int × Int × (List Event)) : Int→Option ((Int × Bool × (List Event)) ⊕ Int):=fixO (Ffbm_le_F data_9 a_10 b_11 pivot_12 cmp_13 u52 x46)
theorem Ffbm_le_fin (data_9 : List Event) (a_10 : Int) (b_11 : Int) (pivot_12 : Int) (cmp_13 : Unit) (u52 : Int) (x46 : Int × Int × (List Event)) : ∀ a,Fin1 fun f=>Ffbm_le_F data_9 a_10 b_11 pivot_12 cmp_13 u52 x46 f a:=by
  intro a
  unfold Ffbm_le_F
  repeat first|exact f_const|exact f_self|refine f_cond ?_ ?_|refine f_bindJ ?_ (fun _=>?_)|refine f_bindL ?_ (fun _=>?_)|refine f_bind ?_ (fun _=>?_)|refine f_letJ (fun _=>?_)
theorem Ffbm_le_eq (data_9 : List Event) (a_10 : Int) (b_11 : Int) (pivot_12 : Int) (cmp_13 : Unit) (u52 : Int) (x46 : Int × Int × (List Event)) (x : Int) : Ffbm_le data_9 a_10 b_11 pivot_12 cmp_13 u52 x46 x=Ffbm_le_F data_9 a_10 b_11 pivot_12 cmp_13 u52 x46 (Ffbm_le data_9 a_10 b_11 pivot_12 cmp_13 u52 x46) x:=fix_eq (Ffbm_le_fin data_9 a_10 b_11 pivot_12 cmp_13 u52 x46) x
noncomputable def Ffbm_lc_F (data_9 : List Event) (a_10 : Int) (b_11 : Int) (pivot_12 : Int) (cmp_13 : Unit)  (self : (Int × Int × (List Event))→Option ((Int × Bool × (List Event)) ⊕ (Int × (List Event)))) (x46 : Int × Int × (List Event)) : Option ((Int × Bool × (List Event)) ⊕ (Int × (List Event))) :=
  bindL (ρ:=Int × Bool × (List Event)) (Ffbm_ld data_9 a_10 b_11 pivot_12 cmp_13 x46 x46.1) fun u52 : Int=>bindL (ρ:=Int × Bool × (List Event)) (Ffbm_le data_9 a_10 b_11 pivot_12 cmp_13 u52 x46 x46.2.1) fun u58 : Int=>bif (decide (u52 > u58)) then (some (.inr (u58,x46.2.2))) else ((getI x46.2.2 u58).bind fun e59=>(getI x46.2.2 u52).bind fun e60=>(getI x46.2.2 u52).bind fun e61=>(getI (setI x46.2.2 u52 e59) u58).bind fun e64=>self ((w64 (u52 + 1)),(w64 (u58 - 1)),(setI (setI x46.2.2 u52 e59) u58 e60)))
noncomputable def Ffbm_lc (data_9 : List Event) (a_10 : Int) (b_11 : Int) (pivot_12 : Int) (cmp_13 : Unit)  : (Int × Int × (List Event))→Option ((Int × Bool × (List Event)) ⊕ (Int × (List Event))):=fixO (Ffbm_lc_F data_9 a_10 b_11 pivot_12 cmp_13)
theorem Ffbm_lc_fin (data_9 : List Event) (a_10 : Int) (b_11 : Int) (pivot_12 : Int) (cmp_13 : Unit)  : ∀ a,Fin1 fun f=>Ffbm_lc_F data_9 a_10 b_11 pivot_12 cmp_13 f a:=by
  intro a
  unfold Ffbm_lc_F
  repeat first|exact f_const|exact f_self|refine f_cond ?_ ?_|refine f_bindJ ?_ (fun _=>?_)|refine f_bindL ?_ (fun _=>?_)|refine f_bind ?_ (fun _=>?_)|refine f_letJ (fun _=>?_)
theorem Ffbm_lc_eq (data_9 : List Event) (a_10 : Int) (b_11 : Int) (pivot_12 : Int) (cmp_13 : Unit)  (x : Int × Int × (List Event)) : Ffbm_lc data_9 a_10 b_11 pivot_12 cmp_13 x=Ffbm_lc_F data_9 a_10 b_11 pivot_12 cmp_13 (Ffbm_lc data_9 a_10 b_11 pivot_12 cmp_13) x:=fix_eq (Ffbm_lc_fin data_9 a_10 b_11 pivot_12 cmp_13) x
noncomputable def Ffbm (data_9 : List Event) (a_10 : Int) (b_11 : Int) (pivot_12 : Int) (cmp_13 : Unit) : Option (Int × Bool × (List Event)) :=
  (getI data_9 pivot_12).bind fun e6=>(getI data_9 a_10).bind fun e7=>(getI data_9 a_10).bind fun e8=>(getI (setI data_9 a_10 e6) pivot_12).bind fun e11=>bindJ (ρ:=Int × Bool × (List Event)) (Ffbm_la data_9 a_10 b_11 pivot_12 cmp_13 e6 e7 (w64 (a_10 + 1))) fun u20 : Int × Int=>bindJ (ρ:=Int × Bool × (List Event)) (Ffbm_lb data_9 a_10 b_11 pivot_12 cmp_13 u20 e6 e7 u20.2) fun u26 : Int=>bif (decide (u20.1 > u26)) then ((getI (setI (setI data_9 a_10 e6) pivot_12 e7) a_10).bind fun e27=>(getI (setI (setI data_9 a_10 e6) pivot_12 e7) u26).bind fun e28=>(getI (setI (setI data_9 a_10 e6) pivot_12 e7) u26).bind fun e29=>(getI (setI (setI (setI data_9 a_10 e6) pivot_12 e7) u26 e27) a_10).bind fun e32=>bif Nat.beq (setI (setI (setI (setI data_9 a_10 e6) pivot_12 e7) u26 e27) a_10 e28).length data_9.length then (some (u26,true,(setI (setI (setI (setI data_9 a_10 e6) pivot_12 e7) u26 e27) a_10 e28))) else none) else ((getI (setI (setI data_9 a_10 e6) pivot_12 e7) u26).bind fun e37=>(getI (setI (setI data_9 a_10 e6) pivot_12 e7) u20.1).bind fun e38=>(getI (setI (setI data_9 a_10 e6) pivot_12 e7) u20.1).bind fun e39=>(getI (setI (setI (setI data_9 a_10 e6) pivot_12 e7) u20.1 e37) u26).bind fun e42=>bindJ (ρ:=Int × Bool × (List Event)) (Ffbm_lc data_9 a_10 b_11 pivot_12 cmp_13 ((w64 (u20.1 + 1)),(w64 (u26 - 1)),(setI (setI (setI (setI data_9 a_10 e6) pivot_12 e7) u20.1 e37) u26 e38))) fun u68 : Int × (List Event)=>(getI u68.2 a_10).bind fun e69=>(getI u68.2 u68.1).bind fun e70=>(getI u68.2 u68.1).bind fun e71=>(getI (setI u68.2 u68.1 e69) a_10).bind fun e74=>bif Nat.beq (setI (setI u68.2 u68.1 e69) a_10 e70).length data_9.length then (some (u68.1,false,(setI (setI u68.2 u68.1 e69) a_10 e70))) else none)
noncomputable def Ffbo_la_F (slf_Ffbo : ((List Event) × Int × Int × Int × Unit)→Option ((List Event))) (data_8 : List Event) (a_9 : Int) (b_10 : Int) (limit_11 : Int) (cmp_12 : Unit)  (self : (Int × Int × Int × Bool × Bool × (List Event))→Option (((List Event)) ⊕ Unit)) (x6 : Int × Int × Int × Bool × Bool × (List Event)) : Option (((List Event)) ⊕ Unit) :=
  bif (decide ((w64 (x6.2.1 - x6.1)) ≤ 12)) then ((Ffbg x6.2.2.2.2.2 x6.1 x6.2.1 ()).bind fun r7=>bif Nat.beq r7.length x6.2.2.2.2.2.length then (bif Nat.beq r7.length data_8.length then (some (.inl r7)) else none) else none) else (bif (x6.2.2.1 == 0) then ((Ffbf x6.2.2.2.2.2 x6.1 x6.2.1 ()).bind fun r10=>bif Nat.beq r10.length x6.2.2.2.2.2.length then (bif Nat.beq r10.length data_8.length then (some (.inl r10)) else none) else none) else (bindL (ρ:=(List Event)) (bif (!x6.2.2.2.1) then ((Ffbd x6.2.2.2.2.2 x6.1 x6.2.1 ()).bind fun r37=>bif Nat.beq r37.length x6.2.2.2.2.2.length then (some (.inr ((w64 (x6.2.2.1 - 1)),r37))) else none) else (some (.inr (x6.2.2.1,x6.2.2.2.2.2)))) fun u13 : Int × (List Event)=>(Ffbe u13.2 x6.1 x6.2.1 ()).bind fun r14=>bindL (ρ:=(List Event)) (bif (r14.2 == 2) then ((Ffbp u13.2 x6.1 x6.2.1 ()).bind fun r35=>bif Nat.beq r35.length u13.2.length then (some (.inr ((w64 ((w64 (x6.2.1 - 1)) - (w64 (r14.1 - x6.1)))),1,r35))) else none) else (some (.inr (r14.1,r14.2,u13.2)))) fun u15 : Int × Int × (List Event)=>letJ (bif x6.2.2.2.1 then (letJ (bif x6.2.2.2.2.1 then ((u15.2.1 == 1)) else (false)) fun u34 : Bool=>u34) else (false)) fun u16 : Bool=>bindL (ρ:=(List Event)) (bif u16 then ((Ffbl u15.2.2 x6.1 x6.2.1 ()).bind fun r31=>bif Nat.beq r31.2.length u15.2.2.length then (bif r31.1 then (bif Nat.beq r31.2.length data_8.length then (some (.inl r31.2)) else none) else (some (.inr r31.2))) else none) else (some (.inr u15.2.2))) fun u17 : (List Event)=>bindL (ρ:=(List Event)) (bif (decide (x6.1 > 0)) then ((getI u17 (w64 (x6.1 - 1))).bind fun e28=>(getI u17 u15.1).bind fun e29=>(Fff e28 e29).bind fun r30=>some (.inr (!(decide (r30 < 0))))) else (some (.inr false))) fun u18 : Bool=>bif u18 then ((Ffbn u17 x6.1 x6.2.1 u15.1 ()).bind fun r19=>bif Nat.beq r19.2.length u17.length then (self (r19.1,x6.2.1,u13.1,x6.2.2.2.1,x6.2.2.2.2.1,r19.2)) else none) else ((Ffbm u17 x6.1 x6.2.1 u15.1 ()).bind fun r21=>bif Nat.beq r21.2.2.length u17.length then (bindL (ρ:=(List Event)) (bif (decide ((w64 (r21.1 - x6.1)) < (w64 (x6.2.1 - r21.1)))) then ((slf_Ffbo (r21.2.2,x6.1,r21.1,u13.1,())).bind fun r24=>bif Nat.beq r24.length r21.2.2.length then (some (.inr ((w64 (r21.1 + 1)),x6.2.1,(decide ((w64 (r21.1 - x6.1)) ≥ (w64 ((w64 (x6.2.1 - x6.1)).tdiv 8)))),r24))) else none) else ((slf_Ffbo (r21.2.2,(w64 (r21.1 + 1)),x6.2.1,u13.1,())).bind fun r26=>bif Nat.beq r26.length r21.2.2.length then (some (.inr (x6.1,r21.1,(decide ((w64 (x6.2.1 - r21.1)) ≥ (w64 ((w64 (x6.2.1 - x6.1)).tdiv 8)))),r26))) else none)) fun u23 : Int × Int × Bool × (List Event)=>self (u23.1,u23.2.1,u13.1,u23.2.2.1,r21.2.1,u23.2.2.2)) else none)))
noncomputable def Ffbo_la (slf_Ffbo : ((List Event) × Int × Int × Int × Unit)→Option ((List Event))) (data_8 : List Event) (a_9 : Int) (b_10 : Int) (limit_11 : Int) (cmp_12 : Unit)  : (Int × Int × Int × Bool × Bool × (List Event))→Option (((List Event)) ⊕ Unit):=fixO (Ffbo_la_F slf_Ffbo data_8 a_9 b_10 limit_11 cmp_12)
theorem Ffbo_la_fin (slf_Ffbo : ((List Event) × Int × Int × Int × Unit)→Option ((List Event))) (data_8 : List Event) (a_9 : Int) (b_10 : Int) (limit_11 : Int) (cmp_12 : Unit)  : ∀ a,Fin1 fun f=>Ffbo_la_F slf_Ffbo data_8 a_9 b_10 limit_11 cmp_12 f a:=by
  intro a
  unfold Ffbo_la_F
  repeat first|exact f_const|exact f_self|refine f_cond ?_ ?_|refine f_bindJ ?_ (fun _=>?_)|refine f_bindL ?_ (fun _=>?_)|refine f_bind ?_ (fun _=>?_)|refine f_letJ (fun _=>?_)
theorem Ffbo_la_eq (slf_Ffbo : ((List Event) × Int × Int × Int × Unit)→Option ((List Event))) (data_8 : List Event) (a_9 : Int) (b_10 : Int) (limit_11 : Int) (cmp_12 : Unit)  (x : Int × Int × Int × Bool × Bool × (List Event)) : Ffbo_la slf_Ffbo data_8 a_9 b_10 limit_11 cmp_12 x=Ffbo_la_F slf_Ffbo data_8 a_9 b_10 limit_11 cmp_12 (Ffbo_la slf_Ffbo data_8 a_9 b_10 limit_11 cmp_12) x:=fix_eq (Ffbo_la_fin slf_Ffbo data_8 a_9 b_10 limit_11 cmp_12) x
noncomputable def Ffbo_B (slf_Ffbo : ((List Event) × Int × Int × Int × Unit)→Option ((List Event))) (data_8 : List Event) (a_9 : Int) (b_10 : Int) (limit_11 : Int) (cmp_12 : Unit) : Option ((List Event)) :=
  bindJ (ρ:=(List Event)) (Ffbo_la slf_Ffbo data_8 a_9 b_10 limit_11 cmp_12 (a_9,b_10,limit_11,true,true,data_8)) fun u39 : Unit=>none
noncomputable def Ffbo_G (slf_Ffbo : ((List Event) × Int × Int × Int × Unit)→Option ((List Event))) (x : (List Event) × Int × Int × Int × Unit) : Option ((List Event)):=Ffbo_B slf_Ffbo x.1 x.2.1 x.2.2.1 x.2.2.2.1 x.2.2.2.2
noncomputable def Ffbo (data_8 : List Event) (a_9 : Int) (b_10 : Int) (limit_11 : Int) (cmp_12 : Unit) : Option ((List Event)):=fixO Ffbo_G (data_8,a_9,b_10,limit_11,cmp_12)
theorem Ffbo_fin : ∀ x,Fin1 fun slf_Ffbo=>Ffbo_G slf_Ffbo x:=by
  intro x
  unfold Ffbo_G Ffbo_B
  repeat first|exact f_const|exact f_self|exact f_selfL|exact f_selfR|exact f_selfLL|exact f_selfRL|exact f_selfLLL|exact f_selfRLL|refine f_cond ?_ ?_|refine f_bindJ ?_ (fun _=>?_)|refine f_bindL ?_ (fun _=>?_)|refine f_bind ?_ (fun _=>?_)|refine f_letJ (fun _=>?_)|refine f_fix (fun _=>?_) | unfold Ffbo_la | unfold Ffbo_la_F
theorem Ffbo_eq (data_8 : List Event) (a_9 : Int) (b_10 : Int) (limit_11 : Int) (cmp_12 : Unit) : Ffbo data_8 a_9 b_10 limit_11 cmp_12=Ffbo_B (fixO Ffbo_G) data_8 a_9 b_10 limit_11 cmp_12:=fix_eq Ffbo_fin (data_8,a_9,b_10,limit_11,cmp_12)
noncomputable def Ffbc (x_4 : List Event) (cmp_5 : Unit) : Option ((List Event)) :=
  (Ffu (IntKind.u64.wrap (len x_4))).bind fun r3=>(Ffbo x_4 0 (len x_4) r3 ()).bind fun r4=>bif Nat.beq r4.length x_4.length then (bif Nat.beq r4.length x_4.length then (some r4) else none) else none
noncomputable def Ffl (list_1 : List Event) (parties_2 : Int) : Option ((List Event) × Bool) :=
  (Ffm list_1 parties_2).bind fun r3=>bif (!r3) then (some ([],false)) else ((Ffw list_1).bind fun r4=>(Ffbc r4 ()).bind fun r5=>bif Nat.beq r5.length r4.length then (some (r5,true)) else none)
noncomputable def spec_l1In (x_1 : Int) (a_2 : Int) (b_3 : Int) : Option Bool :=
  letJ (bif (decide (x_1 ≥ a_2)) then ((decide (x_1 ≤ b_3))) else (false)) fun u4 : Bool=>some u4
noncomputable def Ffci (day_1 : Int) : Option Bool :=
  (spec_l1In day_1 0 36524).bind fun r2=>some r2
noncomputable def Ffcl (b_1 : Int) : Option Bool :=
  letJ (bif (decide (b_1 ≥ 97)) then (letJ (bif (decide (b_1 ≤ 122)) then (true) else (letJ (bif (decide (b_1 ≥ 48)) then ((decide (b_1 ≤ 57))) else (false)) fun u4 : Bool=>u4)) fun u3 : Bool=>u3) else (letJ (bif (decide (b_1 ≥ 48)) then ((decide (b_1 ≤ 57))) else (false)) fun u5 : Bool=>u5)) fun u2 : Bool=>some u2
noncomputable def Ffck_la_F (s_1 : Str)  (self : Int→Option (Bool ⊕ Unit)) (x4 : Int) : Option (Bool ⊕ Unit) :=
  bif (decide (x4 < (len s_1))) then ((getI s_1 x4).bind fun c5=>(Ffcl (c5.toNat : Int)).bind fun r6=>bif (!r6) then (some (.inl false)) else (self (w64 (x4 + 1)))) else (some (.inr ()))
noncomputable def Ffck_la (s_1 : Str)  : Int→Option (Bool ⊕ Unit):=fixO (Ffck_la_F s_1)
theorem Ffck_la_fin (s_1 : Str)  : ∀ a,Fin1 fun f=>Ffck_la_F s_1 f a:=by
  intro a
  unfold Ffck_la_F
  repeat first|exact f_const|exact f_self|refine f_cond ?_ ?_|refine f_bindJ ?_ (fun _=>?_)|refine f_bindL ?_ (fun _=>?_)|refine f_bind ?_ (fun _=>?_)|refine f_letJ (fun _=>?_)
theorem Ffck_la_eq (s_1 : Str)  (x : Int) : Ffck_la s_1 x=Ffck_la_F s_1 (Ffck_la s_1) x:=fix_eq (Ffck_la_fin s_1) x
noncomputable def Ffck (s_1 : Str) : Option Bool :=
  (spec_l1In (len s_1) 1 8).bind fun r2=>bindJ (ρ:=Bool) (bif (!r2) then (some (.inr true)) else ((getI s_1 0).bind fun c16=>bindL (ρ:=Bool) (bif (decide ((c16.toNat : Int) < 97)) then (some (.inr true)) else ((getI s_1 0).bind fun c18=>some (.inr (decide ((c18.toNat : Int) > 122))))) fun u17 : Bool=>some (.inr u17))) fun u3 : Bool=>bif u3 then (some false) else (bindJ (ρ:=Bool) (Ffck_la s_1 0) fun u7 : Unit=>letJ (bif (s_1 == ([116,114,117,101] : Str)) then ((s_1 == ([116,114,117,101] : Str))) else (letJ (bif (s_1 == ([102,114,111,109] : Str)) then ((s_1 == ([102,114,111,109] : Str))) else (letJ (bif (s_1 == ([110,111,116] : Str)) then ((s_1 == ([110,111,116] : Str))) else (letJ (bif (s_1 == ([97,110,100] : Str)) then ((s_1 == ([97,110,100] : Str))) else (letJ (bif (s_1 == ([111,114] : Str)) then ((s_1 == ([111,114] : Str))) else (letJ (bif (s_1 == ([98,111,116,104] : Str)) then ((s_1 == ([98,111,116,104] : Str))) else (letJ (bif (s_1 == ([101,105,116,104,101,114] : Str)) then ((s_1 == ([101,105,116,104,101,114] : Str))) else (letJ (bif (s_1 == ([105,116] : Str)) then ((s_1 == ([105,116] : Str))) else ((s_1 == ([105,110] : Str)))) fun u15 : Bool=>u15)) fun u14 : Bool=>u14)) fun u13 : Bool=>u13)) fun u12 : Bool=>u12)) fun u11 : Bool=>u11)) fun u10 : Bool=>u10)) fun u9 : Bool=>u9)) fun u8 : Bool=>bif u8 then (some false) else (some true))
noncomputable def Ffcn (e_1 : Event) (parties_2 : Int) : Option Bool :=
  (Ffci e_1.Day).bind fun r3=>bindJ (ρ:=Bool) (bif r3 then ((spec_l1In e_1.Party 0 (w64 (parties_2 - 1))).bind fun r5=>bindL (ρ:=Bool) (bif r5 then ((Ffck e_1.Action).bind fun r7=>bindL (ρ:=Bool) (bif r7 then ((spec_l1In e_1.Amount 0 1000000).bind fun r9=>some (.inr r9)) else (some (.inr false))) fun u8 : Bool=>some (.inr u8)) else (some (.inr false))) fun u6 : Bool=>some (.inr u6)) else (some (.inr false))) fun u4 : Bool=>some u4
noncomputable def Ffcq_la_F (list_1 : List Event) (parties_2 : Int)  (self : Int→Option (Bool ⊕ Unit)) (x3 : Int) : Option (Bool ⊕ Unit) :=
  letJ (bif (decide (x3 < (len list_1))) then ((decide (x3 ≤ 40))) else (false)) fun u4 : Bool=>bif u4 then ((getI list_1 x3).bind fun e5=>(Ffcn e5 parties_2).bind fun r6=>bif (!r6) then (some (.inl false)) else (self (w64 (x3 + 1)))) else (some (.inr ()))
noncomputable def Ffcq_la (list_1 : List Event) (parties_2 : Int)  : Int→Option (Bool ⊕ Unit):=fixO (Ffcq_la_F list_1 parties_2)
theorem Ffcq_la_fin (list_1 : List Event) (parties_2 : Int)  : ∀ a,Fin1 fun f=>Ffcq_la_F list_1 parties_2 f a:=by
  intro a
  unfold Ffcq_la_F
  repeat first|exact f_const|exact f_self|refine f_cond ?_ ?_|refine f_bindJ ?_ (fun _=>?_)|refine f_bindL ?_ (fun _=>?_)|refine f_bind ?_ (fun _=>?_)|refine f_letJ (fun _=>?_)
theorem Ffcq_la_eq (list_1 : List Event) (parties_2 : Int)  (x : Int) : Ffcq_la list_1 parties_2 x=Ffcq_la_F list_1 parties_2 (Ffcq_la list_1 parties_2) x:=fix_eq (Ffcq_la_fin list_1 parties_2) x
noncomputable def Ffcq (list_1 : List Event) (parties_2 : Int) : Option Bool :=
  bindJ (ρ:=Bool) (Ffcq_la list_1 parties_2 0) fun u7 : Unit=>bindJ (ρ:=Bool) (bif (decide ((len list_1) ≤ 40)) then ((spec_l1In parties_2 2 4).bind fun r9=>some (.inr r9)) else (some (.inr false))) fun u8 : Bool=>some u8
noncomputable def Ffbx (list_1 : List Event) (parties_2 : Int) : Option ((List Event) × Bool) :=
  (Ffcq list_1 parties_2).bind fun r3=>bif (!r3) then (some ([],false)) else ((Ffcp list_1).bind fun r4=>some (r4,true))
noncomputable def Ffbb_la_F (x_1 : List Event) (cmp_2 : Unit)  (self : Int→Option (Bool ⊕ Unit)) (x3 : Int) : Option (Bool ⊕ Unit) :=
  bif (decide (x3 > 0)) then ((getI x_1 x3).bind fun e4=>(getI x_1 (w64 (x3 - 1))).bind fun e5=>(Fff e4 e5).bind fun r6=>bif (decide (r6 < 0)) then (some (.inl false)) else (self (w64 (x3 - 1)))) else (some (.inr ()))
noncomputable def Ffbb_la (x_1 : List Event) (cmp_2 : Unit)  : Int→Option (Bool ⊕ Unit):=fixO (Ffbb_la_F x_1 cmp_2)
theorem Ffbb_la_fin (x_1 : List Event) (cmp_2 : Unit)  : ∀ a,Fin1 fun f=>Ffbb_la_F x_1 cmp_2 f a:=by
  intro a
  unfold Ffbb_la_F
  repeat first|exact f_const|exact f_self|refine f_cond ?_ ?_|refine f_bindJ ?_ (fun _=>?_)|refine f_bindL ?_ (fun _=>?_)|refine f_bind ?_ (fun _=>?_)|refine f_letJ (fun _=>?_)
theorem Ffbb_la_eq (x_1 : List Event) (cmp_2 : Unit)  (x : Int) : Ffbb_la x_1 cmp_2 x=Ffbb_la_F x_1 cmp_2 (Ffbb_la x_1 cmp_2) x:=fix_eq (Ffbb_la_fin x_1 cmp_2) x
noncomputable def Ffbb (x_1 : List Event) (cmp_2 : Unit) : Option Bool :=
  bindJ (ρ:=Bool) (Ffbb_la x_1 cmp_2 (w64 ((len x_1) - 1))) fun u7 : Unit=>some true
noncomputable def Ffh (list_1 : List Event) (parties_2 : Int) : Option Bool :=
  (Ffm list_1 parties_2).bind fun r3=>bindJ (ρ:=Bool) (bif r3 then ((Ffbb list_1 ()).bind fun r5=>some (.inr r5)) else (some (.inr false))) fun u4 : Bool=>some u4
noncomputable def Ffbs (code_1 : List Int) : Option ((List Event) × (List Event) × Int) :=
  (Ffca (l1Cur.mk code_1 0 0)).bind fun r2=>(Ffca r2.2).bind fun r3=>(Ffby r3.2 [2,2,2,3,1]).bind fun r4=>some (r2.1,r3.1,r4.1)
noncomputable def Ffj (a_1 : List Event) (b_2 : List Event) (parties_3 : Int) : Option ((List Event) × Bool) :=
  (Ffh a_1 parties_3).bind fun r4=>bindJ (ρ:=(List Event) × Bool) (bif (!r4) then (some (.inr true)) else ((Ffh b_2 parties_3).bind fun r9=>some (.inr (!r9)))) fun u5 : Bool=>bif u5 then (some ([],false)) else ((Ffw a_1).bind fun r6=>(appI 40 r6 b_2).bind fun a7=>(Ffl a7 parties_3).bind fun r8=>some (r8.1,r8.2))
noncomputable def Ffco_la_F (list_1 : List Event) (parties_2 : Int)  (self : Int→Option (Bool ⊕ Unit)) (x3 : Int) : Option (Bool ⊕ Unit) :=
  letJ (bif (decide (x3 < (len list_1))) then ((decide (x3 ≤ 40))) else (false)) fun u4 : Bool=>bif u4 then ((getI list_1 (w64 (x3 - 1))).bind fun e5=>(getI list_1 x3).bind fun e6=>(Ffcm e5 e6).bind fun r7=>bif (decide (r7 > 0)) then (some (.inl false)) else (self (w64 (x3 + 1)))) else (some (.inr ()))
noncomputable def Ffco_la (list_1 : List Event) (parties_2 : Int)  : Int→Option (Bool ⊕ Unit):=fixO (Ffco_la_F list_1 parties_2)
theorem Ffco_la_fin (list_1 : List Event) (parties_2 : Int)  : ∀ a,Fin1 fun f=>Ffco_la_F list_1 parties_2 f a:=by
  intro a
  unfold Ffco_la_F
  repeat first|exact f_const|exact f_self|refine f_cond ?_ ?_|refine f_bindJ ?_ (fun _=>?_)|refine f_bindL ?_ (fun _=>?_)|refine f_bind ?_ (fun _=>?_)|refine f_letJ (fun _=>?_)
theorem Ffco_la_eq (list_1 : List Event) (parties_2 : Int)  (x : Int) : Ffco_la list_1 parties_2 x=Ffco_la_F list_1 parties_2 (Ffco_la list_1 parties_2) x:=fix_eq (Ffco_la_fin list_1 parties_2) x
noncomputable def Ffco (list_1 : List Event) (parties_2 : Int) : Option Bool :=
  bindJ (ρ:=Bool) (Ffco_la list_1 parties_2 1) fun u8 : Unit=>(Ffcq list_1 parties_2).bind fun r9=>some r9
noncomputable def Ffbv (a_1 : List Event) (b_2 : List Event) (parties_3 : Int) : Option ((List Event) × Bool) :=
  (Ffco a_1 parties_3).bind fun r4=>bindJ (ρ:=(List Event) × Bool) (bif (!r4) then (some (.inr true)) else ((Ffco b_2 parties_3).bind fun r9=>letJ (bif (!r9) then (true) else ((decide ((w64 ((len a_1) + (len b_2))) > 40)))) fun u10 : Bool=>some (.inr u10))) fun u5 : Bool=>bif u5 then (some ([],false)) else ((appI 40 ([] : List Event) a_1).bind fun a6=>(appI 40 a6 b_2).bind fun a7=>(Ffcp a7).bind fun r8=>some (r8,true))
noncomputable def Ffg_la_F (list_1 : List Event) (parties_2 : Int) (party_3 : Int) (action_4 : Str)  (self : (Int × Int × Int)→Option ((Int × Int × Bool) ⊕ (Int × Int))) (x6 : Int × Int × Int) : Option ((Int × Int × Bool) ⊕ (Int × Int)) :=
  bif (decide (x6.2.2 < (len list_1))) then ((getI list_1 x6.2.2).bind fun e7=>letJ (bif (e7.Party == party_3) then ((e7.Action == action_4)) else (false)) fun u8 : Bool=>letJ (bif u8 then (((w64 (x6.1 + 1)),(w64 (x6.2.1 + e7.Amount)))) else ((x6.1,x6.2.1))) fun u9 : Int × Int=>self (u9.1,u9.2,(w64 (x6.2.2 + 1)))) else (some (.inr (x6.1,x6.2.1)))
noncomputable def Ffg_la (list_1 : List Event) (parties_2 : Int) (party_3 : Int) (action_4 : Str)  : (Int × Int × Int)→Option ((Int × Int × Bool) ⊕ (Int × Int)):=fixO (Ffg_la_F list_1 parties_2 party_3 action_4)
theorem Ffg_la_fin (list_1 : List Event) (parties_2 : Int) (party_3 : Int) (action_4 : Str)  : ∀ a,Fin1 fun f=>Ffg_la_F list_1 parties_2 party_3 action_4 f a:=by
  intro a
  unfold Ffg_la_F
  repeat first|exact f_const|exact f_self|refine f_cond ?_ ?_|refine f_bindJ ?_ (fun _=>?_)|refine f_bindL ?_ (fun _=>?_)|refine f_bind ?_ (fun _=>?_)|refine f_letJ (fun _=>?_)
theorem Ffg_la_eq (list_1 : List Event) (parties_2 : Int) (party_3 : Int) (action_4 : Str)  (x : Int × Int × Int) : Ffg_la list_1 parties_2 party_3 action_4 x=Ffg_la_F list_1 parties_2 party_3 action_4 (Ffg_la list_1 parties_2 party_3 action_4) x:=fix_eq (Ffg_la_fin list_1 parties_2 party_3 action_4) x
noncomputable def Ffg (list_1 : List Event) (parties_2 : Int) (party_3 : Int) (action_4 : Str) : Option (Int × Int × Bool) :=
  (Ffh list_1 parties_2).bind fun r5=>bif (!r5) then (some (0,0,false)) else (bindJ (ρ:=Int × Int × Bool) (Ffg_la list_1 parties_2 party_3 action_4 (0,0,0)) fun u10 : Int × Int=>some (u10.1,u10.2,true))
noncomputable def Ffbt (code_1 : List Int) : Option ((List Event) × Int × Int) :=
  (Ffca (l1Cur.mk code_1 0 0)).bind fun r2=>(Ffby r2.2 [2,2,3,1]).bind fun r3=>(Ffby r3.2 [0,1,(-1),30,(-3),36524,36525,36500]).bind fun r4=>some (r2.1,r3.1,r4.1)
noncomputable def Ffk_la_F (list_1 : List Event) (parties_2 : Int) (days_3 : Int) (r6 : (List Event)) (self : (Int × (List Event))→Option (((List Event) × Bool) ⊕ ((List Event)))) (x7 : Int × (List Event)) : Option (((List Event) × Bool) ⊕ ((List Event))) :=
  bif (decide (x7.1 < (len r6))) then ((getI x7.2 x7.1).bind fun e8=>(getI x7.2 x7.1).bind fun e9=>self ((w64 (x7.1 + 1)),(setI x7.2 x7.1 (Event.mk (w64 (e8.Day + days_3)) e9.Party e9.Action e9.Amount)))) else (some (.inr x7.2))
noncomputable def Ffk_la (list_1 : List Event) (parties_2 : Int) (days_3 : Int) (r6 : (List Event)) : (Int × (List Event))→Option (((List Event) × Bool) ⊕ ((List Event))):=fixO (Ffk_la_F list_1 parties_2 days_3 r6)
theorem Ffk_la_fin (list_1 : List Event) (parties_2 : Int) (days_3 : Int) (r6 : (List Event)) : ∀ a,Fin1 fun f=>Ffk_la_F list_1 parties_2 days_3 r6 f a:=by
  intro a
  unfold Ffk_la_F
  repeat first|exact f_const|exact f_self|refine f_cond ?_ ?_|refine f_bindJ ?_ (fun _=>?_)|refine f_bindL ?_ (fun _=>?_)|refine f_bind ?_ (fun _=>?_)|refine f_letJ (fun _=>?_)
theorem Ffk_la_eq (list_1 : List Event) (parties_2 : Int) (days_3 : Int) (r6 : (List Event)) (x : Int × (List Event)) : Ffk_la list_1 parties_2 days_3 r6 x=Ffk_la_F list_1 parties_2 days_3 r6 (Ffk_la list_1 parties_2 days_3 r6) x:=fix_eq (Ffk_la_fin list_1 parties_2 days_3 r6) x
noncomputable def Ffk (list_1 : List Event) (parties_2 : Int) (days_3 : Int) : Option ((List Event) × Bool) :=
  (Ffh list_1 parties_2).bind fun r4=>bindJ (ρ:=(List Event) × Bool) (bif (!r4) then (some (.inr true)) else ((Ffq days_3 (-36524) 36524).bind fun r13=>some (.inr (!r13)))) fun u5 : Bool=>bif u5 then (some ([],false)) else ((Ffw list_1).bind fun r6=>bindJ (ρ:=(List Event) × Bool) (Ffk_la list_1 parties_2 days_3 r6 (0,r6)) fun u11 : (List Event)=>(Ffh u11 parties_2).bind fun r12=>bif (!r12) then (some ([],false)) else (some (u11,true)))
noncomputable def Ffbw_la_F (list_1 : List Event) (parties_2 : Int) (days_3 : Int)  (self : (Int × (List Event))→Option (((List Event) × Bool) ⊕ ((List Event)))) (x6 : Int × (List Event)) : Option (((List Event) × Bool) ⊕ ((List Event))) :=
  bif (decide (x6.1 < (len list_1))) then ((getI list_1 x6.1).bind fun e7=>(appI 40 x6.2 [(Event.mk (w64 (e7.Day + days_3)) e7.Party e7.Action e7.Amount)]).bind fun a8=>self ((w64 (x6.1 + 1)),a8)) else (some (.inr x6.2))
noncomputable def Ffbw_la (list_1 : List Event) (parties_2 : Int) (days_3 : Int)  : (Int × (List Event))→Option (((List Event) × Bool) ⊕ ((List Event))):=fixO (Ffbw_la_F list_1 parties_2 days_3)
theorem Ffbw_la_fin (list_1 : List Event) (parties_2 : Int) (days_3 : Int)  : ∀ a,Fin1 fun f=>Ffbw_la_F list_1 parties_2 days_3 f a:=by
  intro a
  unfold Ffbw_la_F
  repeat first|exact f_const|exact f_self|refine f_cond ?_ ?_|refine f_bindJ ?_ (fun _=>?_)|refine f_bindL ?_ (fun _=>?_)|refine f_bind ?_ (fun _=>?_)|refine f_letJ (fun _=>?_)
theorem Ffbw_la_eq (list_1 : List Event) (parties_2 : Int) (days_3 : Int)  (x : Int × (List Event)) : Ffbw_la list_1 parties_2 days_3 x=Ffbw_la_F list_1 parties_2 days_3 (Ffbw_la list_1 parties_2 days_3) x:=fix_eq (Ffbw_la_fin list_1 parties_2 days_3) x
noncomputable def Ffbw (list_1 : List Event) (parties_2 : Int) (days_3 : Int) : Option ((List Event) × Bool) :=
  (Ffco list_1 parties_2).bind fun r4=>bindJ (ρ:=(List Event) × Bool) (bif (!r4) then (some (.inr true)) else ((spec_l1In days_3 (-36524) 36524).bind fun r11=>some (.inr (!r11)))) fun u5 : Bool=>bif u5 then (some ([],false)) else (bindJ (ρ:=(List Event) × Bool) (Ffbw_la list_1 parties_2 days_3 (0,[])) fun u9 : (List Event)=>(Ffco u9 parties_2).bind fun r10=>bif (!r10) then (some ([],false)) else (some (u9,true)))
noncomputable def Fft_la_F (a_1 : List Event) (b_2 : List Event)  (self : Int→Option (Bool ⊕ Unit)) (x3 : Int) : Option (Bool ⊕ Unit) :=
  bif (decide (x3 < (len a_1))) then ((getI a_1 x3).bind fun e4=>(getI b_2 x3).bind fun e5=>bif (!(e4.Day == e5.Day && (e4.Party == e5.Party && (e4.Action == e5.Action && (e4.Amount == e5.Amount && true))))) then (some (.inl false)) else (self (w64 (x3 + 1)))) else (some (.inr ()))
noncomputable def Fft_la (a_1 : List Event) (b_2 : List Event)  : Int→Option (Bool ⊕ Unit):=fixO (Fft_la_F a_1 b_2)
theorem Fft_la_fin (a_1 : List Event) (b_2 : List Event)  : ∀ a,Fin1 fun f=>Fft_la_F a_1 b_2 f a:=by
  intro a
  unfold Fft_la_F
  repeat first|exact f_const|exact f_self|refine f_cond ?_ ?_|refine f_bindJ ?_ (fun _=>?_)|refine f_bindL ?_ (fun _=>?_)|refine f_bind ?_ (fun _=>?_)|refine f_letJ (fun _=>?_)
theorem Fft_la_eq (a_1 : List Event) (b_2 : List Event)  (x : Int) : Fft_la a_1 b_2 x=Fft_la_F a_1 b_2 (Fft_la a_1 b_2) x:=fix_eq (Fft_la_fin a_1 b_2) x
noncomputable def Fft (a_1 : List Event) (b_2 : List Event) : Option Bool :=
  bif ((len a_1) != (len b_2)) then (some false) else (bindJ (ρ:=Bool) (Fft_la a_1 b_2 0) fun u6 : Unit=>some true)
noncomputable def laws_FnEvents (code_1 : List Int) : Option Bool :=
  (laws_vBig code_1).bind fun r2=>bif r2 then (some true) else ((Ffbu code_1).bind fun r3=>(Ffl r3.1 r3.2).bind fun r4=>(Ffbx r3.1 r3.2).bind fun r5=>bindJ (ρ:=Bool) (bif (!(r4.2 == r5.2)) then (some (.inr true)) else (bindL (ρ:=Bool) (bif r4.2 then ((Ffh r4.1 r3.2).bind fun r25=>letJ (bif (!r25) then (true) else (((len r4.1) != (len r3.1)))) fun u26 : Bool=>some (.inr u26)) else (some (.inr false))) fun u24 : Bool=>some (.inr u24))) fun u6 : Bool=>bif u6 then (some false) else ((Ffbs code_1).bind fun r7=>(Ffj r7.1 r7.2.1 r7.2.2).bind fun r8=>(Ffbv r7.1 r7.2.1 r7.2.2).bind fun r9=>bif (!(r8.2 == r9.2)) then (some false) else (bindJ (ρ:=Bool) (bif r8.2 then ((Ffg r7.1 r7.2.2 0 ([112,97,105,100] : Str)).bind fun r18=>(Ffg r7.2.1 r7.2.2 0 ([112,97,105,100] : Str)).bind fun r19=>(Ffg r8.1 r7.2.2 0 ([112,97,105,100] : Str)).bind fun r20=>letJ (bif (!r20.2.2) then (true) else (letJ (bif ((w64 (r18.1 + r19.1)) != r20.1) then (true) else (letJ (bif ((w64 (r18.2.1 + r19.2.1)) != r20.2.1) then (true) else (((len r8.1) != (w64 ((len r7.1) + (len r7.2.1)))))) fun u23 : Bool=>u23)) fun u22 : Bool=>u22)) fun u21 : Bool=>bif u21 then (some (.inl false)) else (some (.inr ()))) else (some (.inr ()))) fun u10 : Unit=>(Ffbt code_1).bind fun r11=>(Ffk r11.1 r11.2.1 r11.2.2).bind fun r12=>(Ffbw r11.1 r11.2.1 r11.2.2).bind fun r13=>bif (!(r12.2 == r13.2)) then (some false) else ((Ffk r12.1 r11.2.1 (w64 (0 - r11.2.2))).bind fun r14=>bindJ (ρ:=Bool) (bif (!r12.2) then (some (.inr true)) else (bindL (ρ:=Bool) (bif r14.2 then ((Fft r11.1 r14.1).bind fun r17=>some (.inr r17)) else (some (.inr false))) fun u16 : Bool=>some (.inr u16))) fun u15 : Bool=>some u15))))
end Go.Ln
