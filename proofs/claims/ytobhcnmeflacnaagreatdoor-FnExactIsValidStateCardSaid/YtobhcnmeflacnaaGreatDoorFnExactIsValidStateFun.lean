/-
  What each function of the law computes, as a plain function.
-/
import Derived.Test.YtobhcnmeflacnaaGreatDoorFnExactIsValidStateLnC
set_option maxHeartbeats 4000000
set_option linter.unusedVariables false
set_option linter.unusedSimpArgs false
set_option maxRecDepth 100000
namespace Go.Ln
open Go
structure Condition where
 Op:Int
 Name:ae
 Day:Int
 Parts:List Condition
mutual
def ac:Condition→V
 | ⟨a0,a1,a2,a3⟩=>.agg [I a0,str a1,I a2,.isl false (ch a3)]
def ch:List Condition→List V
 | []=>[]
 | x::xs=>ac x::ch xs
end
theorem l7:∀xs,ch xs=xs.map ac
 | []=>by simp[ch]
 | x::xs=>by simp[ch,l7 xs]
def aP (x:Condition):V:=.agg [I x.Op,str x.Name,I x.Day,.isl false (x.Parts.map ac)]
theorem ce (x:Condition):ac x=aP x:=by cases x;simp only[ac,aP,l7]
mutual
theorem dW:∀(a b:Condition),ac a=ac b→a=b
 | ⟨a0,a1,a2,a3⟩,⟨b0,b1,b2,b3⟩,h=>by
  simp only[ac] at h
  have k0:=V.agg.inj h
  obtain⟨h0,k1⟩:=List.cons.inj k0
  obtain rfl:=bO a0 b0 h0
  obtain⟨h1,k2⟩:=List.cons.inj k1
  obtain rfl:=bm a1 b1 h1
  obtain⟨h2,k3⟩:=List.cons.inj k2
  obtain rfl:=bO a2 b2 h2
  obtain⟨h3,k4⟩:=List.cons.inj k3
  have e3:ch a3=ch b3:=by simpa using h3
  obtain rfl:=ma a3 b3 e3
  rfl
theorem ma:∀(a b:List Condition),ch a=ch b→a=b
 | [],[],_=>rfl
 | [],_::_,h=>by simp[ch] at h
 | _::_,[],h=>by simp[ch] at h
 | x::xs,y::ys,h=>by
  simp only[ch,List.cons.injEq] at h
  rw[dW x y h.1,ma xs ys h.2]
end
theorem cf (a b:Condition)(h:aP a=aP b):a=b:=dW a b (by rw[ce,ce,h])
mutual
def ao:Condition→V
 | ⟨a0,a1,a2,a3⟩=>.agg [I a0,str a1,I a2,.usl 4 (bV a3)]
def bV:List Condition→List V
 | []=>[]
 | x::xs=>ao x::bV xs
end
theorem l6:∀xs,bV xs=xs.map ao
 | []=>by simp[bV]
 | x::xs=>by simp[bV,l6 xs]
def pc (x:Condition):V:=.agg [I x.Op,str x.Name,I x.Day,.usl 4 (x.Parts.map ao)]
theorem jY (x:Condition):ao x=pc x:=by cases x;simp only[ao,pc,l6]
mutual
theorem ua:∀(a b:Condition),ao a=ao b→a=b
 | ⟨a0,a1,a2,a3⟩,⟨b0,b1,b2,b3⟩,h=>by
  simp only[ao] at h
  have k0:=V.agg.inj h
  obtain⟨h0,k1⟩:=List.cons.inj k0
  obtain rfl:=bO a0 b0 h0
  obtain⟨h1,k2⟩:=List.cons.inj k1
  obtain rfl:=bm a1 b1 h1
  obtain⟨h2,k3⟩:=List.cons.inj k2
  obtain rfl:=bO a2 b2 h2
  obtain⟨h3,k4⟩:=List.cons.inj k3
  have e3:bV a3=bV b3:=by simpa using h3
  obtain rfl:=mc a3 b3 e3
  rfl
theorem mc:∀(a b:List Condition),bV a=bV b→a=b
 | [],[],_=>rfl
 | [],_::_,h=>by simp[bV] at h
 | _::_,[],h=>by simp[bV] at h
 | x::xs,y::ys,h=>by
  simp only[bV,List.cons.injEq] at h
  rw[ua x y h.1,mc xs ys h.2]
end
mutual
theorem mN:∀x:Condition,cV (ao x)=ac x
 | ⟨a0,a1,a2,a3⟩=>by simp[ao,ac,cV,dX,str,l8]
theorem l8:∀xs:List Condition,dX (bV xs)=ch xs
 | []=>by simp[bV,ch,dX]
 | x::xs=>by simp[bV,ch,dX,mN x,l8 xs]
end
mutual
theorem sQ:∀x:Condition,ci (ao x)=false
 | ⟨a0,a1,a2,a3⟩=>by simp[ao,ci,cO,str,lF]
theorem lF:∀xs:List Condition,cO (bV xs)=false
 | []=>by simp[bV,cO]
 | x::xs=>by simp[bV,cO,sQ x,lF xs]
end
structure Clause where
 Id:ae
 Kind:Int
 Party:Int
 Action:ae
 Other:Int
 Amount:Int
 When:Condition
 Within:Int
 Repair:ae
def aa (x:Clause):V:=.agg [str x.Id,I x.Kind,I x.Party,str x.Action,I x.Other,I x.Amount,I x.When.Op,str x.When.Name,I x.When.Day,.isl false (x.When.Parts.map ac),I x.Within,str x.Repair]
theorem cp (a b:Clause)(h:aa a=aa b):a=b:=by
 obtain⟨p0,p1,p2,p3,p4,p5,⟨p6,p7,p8,p9⟩,p10,p11⟩:=a
 obtain⟨q0,q1,q2,q3,q4,q5,⟨q6,q7,q8,q9⟩,q10,q11⟩:=b
 replace h:=V.agg.inj h
 obtain⟨h0,h⟩:=List.cons.inj h
 obtain rfl:=bm p0 q0 h0
 obtain⟨h1,h⟩:=List.cons.inj h
 obtain rfl:=bO p1 q1 h1
 obtain⟨h2,h⟩:=List.cons.inj h
 obtain rfl:=bO p2 q2 h2
 obtain⟨h3,h⟩:=List.cons.inj h
 obtain rfl:=bm p3 q3 h3
 obtain⟨h4,h⟩:=List.cons.inj h
 obtain rfl:=bO p4 q4 h4
 obtain⟨h5,h⟩:=List.cons.inj h
 obtain rfl:=bO p5 q5 h5
 obtain⟨h6,h⟩:=List.cons.inj h
 obtain rfl:=bO p6 q6 h6
 obtain⟨h7,h⟩:=List.cons.inj h
 obtain rfl:=bm p7 q7 h7
 obtain⟨h8,h⟩:=List.cons.inj h
 obtain rfl:=bO p8 q8 h8
 obtain⟨h9,h⟩:=List.cons.inj h
 obtain rfl:=(bz dW) p9 q9 h9
 obtain⟨h10,h⟩:=List.cons.inj h
 obtain rfl:=bO p10 q10 h10
 obtain⟨h11,h⟩:=List.cons.inj h
 obtain rfl:=bm p11 q11 h11
 rfl
def aF (x:Clause):V:=.agg [str x.Id,I x.Kind,I x.Party,str x.Action,I x.Other,I x.Amount,I x.When.Op,str x.When.Name,I x.When.Day,.usl 4 (x.When.Parts.map ao),I x.Within,str x.Repair]
theorem eG (x:Clause):cV (aF x)=aa x:=Wl (iB rfl (iB rfl (iB rfl (iB rfl (iB rfl (iB rfl (iB rfl (iB rfl (iB rfl (iB (Sy (bU mN)) (iB rfl (iB rfl rfl))))))))))))
structure Contract where
 Parties:List ae
 Clauses:List Clause
def aG (x:Contract):V:=.agg [.isl false (x.Parties.map str),.isl false (x.Clauses.map aa)]
theorem aV (a b:Contract)(h:aG a=aG b):a=b:=by
 obtain⟨p0,p1⟩:=a
 obtain⟨q0,q1⟩:=b
 replace h:=V.agg.inj h
 obtain⟨h0,h⟩:=List.cons.inj h
 obtain rfl:=(bz bm) p0 q0 h0
 obtain⟨h1,h⟩:=List.cons.inj h
 obtain rfl:=(bz cp) p1 q1 h1
 rfl
structure Duty where
 Clause:Int
 Since:Int
 Due:Int
 Status:Int
def ah (x:Duty):V:=.agg [I x.Clause,I x.Since,I x.Due,I x.Status]
theorem DX (x:Duty):(cells (ah x)).length=4∧(cells (ah x)).all dS=true:=⟨rfl,rfl⟩
theorem fY (x:Duty):cV (ah x)=ah x:=rfl
theorem cZ (a b:Duty)(h:ah a=ah b):a=b:=by
 obtain⟨p0,p1,p2,p3⟩:=a
 obtain⟨q0,q1,q2,q3⟩:=b
 replace h:=V.agg.inj h
 obtain⟨h0,h⟩:=List.cons.inj h
 obtain rfl:=bO p0 q0 h0
 obtain⟨h1,h⟩:=List.cons.inj h
 obtain rfl:=bO p1 q1 h1
 obtain⟨h2,h⟩:=List.cons.inj h
 obtain rfl:=bO p2 q2 h2
 obtain⟨h3,h⟩:=List.cons.inj h
 obtain rfl:=bO p3 q3 h3
 rfl
structure State where
 Day:Int
 Facts:List ae
 Duties:List Duty
 Balances:List Int
 Over:Bool
def bX (x:State):V:=.agg [I x.Day,.isl false (x.Facts.map str),.isl false (x.Duties.map ah),.isl false (x.Balances.map I),B x.Over]
theorem cY (a b:State)(h:bX a=bX b):a=b:=by
 obtain⟨p0,p1,p2,p3,p4⟩:=a
 obtain⟨q0,q1,q2,q3,q4⟩:=b
 replace h:=V.agg.inj h
 obtain⟨h0,h⟩:=List.cons.inj h
 obtain rfl:=bO p0 q0 h0
 obtain⟨h1,h⟩:=List.cons.inj h
 obtain rfl:=(bz bm) p1 q1 h1
 obtain⟨h2,h⟩:=List.cons.inj h
 obtain rfl:=(bz cZ) p2 q2 h2
 obtain⟨h3,h⟩:=List.cons.inj h
 obtain rfl:=(bz bO) p3 q3 h3
 obtain⟨h4,h⟩:=List.cons.inj h
 obtain rfl:=Xb p4 q4 h4
 rfl
mutual
def mn:Condition→Prop
 | ⟨a0,a1,a2,a3⟩=>nm a0∧CK a1∧nm a2∧(a3.length≤maxLen∧H1 a3)
def H1:List Condition→Prop
 | []=>True
 | x::xs=>mn x∧H1 xs
end
theorem GM:∀xs,H1 xs↔∀x∈xs,mn x
 | []=>by simp[H1]
 | x::xs=>by simp[H1,GM xs]
theorem HB (x:Condition):mn x↔nm x.Op∧CK x.Name∧nm x.Day∧pz mn x.Parts:=by cases x;simp only[mn,GM,pz]
def o7 (x:Clause):Prop:=CK x.Id∧nm x.Kind∧nm x.Party∧CK x.Action∧nm x.Other∧nm x.Amount∧mn x.When∧nm x.Within∧CK x.Repair
def QK (x:Contract):Prop:=(pz CK) x.Parties∧(pz o7) x.Clauses
def DF (x:Duty):Prop:=nm x.Clause∧nm x.Since∧nm x.Due∧nm x.Status
def wL (x:State):Prop:=nm x.Day∧(pz CK) x.Facts∧(pz DF) x.Duties∧(pz nm) x.Balances∧Xg x.Over
noncomputable def kQ (a_1:List ae)(left_2:Int)(self:(Int×Int)→Option (Int⊕Int))(x3:Int×Int):Option (Int⊕Int):=
 bif (decide (x3.2<(len a_1))) then ((aK a_1 x3.2).bind fun e4=>bif (decide ((ar (x3.1 - (len e4)))<0)) then (some (.inl (-1))) else (self ((ar (x3.1 - (len e4))),(ar (x3.2+1))))) else (some (.inr x3.1))
noncomputable def ql (a_1:List ae)(left_2:Int): (Int×Int)→Option (Int⊕Int):=aJ (kQ a_1 left_2)
theorem vS (a_1:List ae)(left_2:Int): ∀a,Fin1 fun f=>kQ a_1 left_2 f a:=by
 intro a
 unfold kQ
 repeat first|exact aN|exact bo|refine bu ?_ ?_|refine bb ?_ (fun _=>?_)|refine ba ?_ (fun _=>?_)|refine bd ?_ (fun _=>?_)|refine br (fun _=>?_)
theorem J5 (a_1:List ae)(left_2:Int)(x:Int×Int):ql a_1 left_2 x=kQ a_1 left_2 (ql a_1 left_2) x:=bx (vS a_1 left_2) x
noncomputable def tH (a_1:List ae)(left_2:Int):Option Int:=
 bif (decide ((ar (left_2 - (len a_1)))<0)) then (some (-1)) else (aW (ρ:=Int) (ql a_1 left_2 ((ar (left_2 - (len a_1))),0)) fun u5:Int=>some u5)
noncomputable def jB (slf_Ffbm:(Condition×Int)→Option Int)(a_1:List Condition)(left_2:Int)(self:(Int×Int)→Option (Int⊕Int))(x3:Int×Int):Option (Int⊕Int):=
 bif (decide (x3.2<(len a_1))) then ((aK a_1 x3.2).bind fun e4=>(slf_Ffbm (e4,x3.1)).bind fun r5=>bif (decide (r5<0)) then (some (.inl (-1))) else (self (r5,(ar (x3.2+1))))) else (some (.inr x3.1))
noncomputable def nX (slf_Ffbm:(Condition×Int)→Option Int)(a_1:List Condition)(left_2:Int): (Int×Int)→Option (Int⊕Int):=aJ (jB slf_Ffbm a_1 left_2)
theorem vK (slf_Ffbm:(Condition×Int)→Option Int)(a_1:List Condition)(left_2:Int): ∀a,Fin1 fun f=>jB slf_Ffbm a_1 left_2 f a:=by
 intro a
 unfold jB
 repeat first|exact aN|exact bo|refine bu ?_ ?_|refine bb ?_ (fun _=>?_)|refine ba ?_ (fun _=>?_)|refine bd ?_ (fun _=>?_)|refine br (fun _=>?_)
theorem Ly (slf_Ffbm:(Condition×Int)→Option Int)(a_1:List Condition)(left_2:Int)(x:Int×Int):nX slf_Ffbm a_1 left_2 x=jB slf_Ffbm a_1 left_2 (nX slf_Ffbm a_1 left_2) x:=bx (vK slf_Ffbm a_1 left_2) x
noncomputable def uk (slf_Ffbm:(Condition×Int)→Option Int)(a_1:List Condition)(left_2:Int):Option Int:=
 bif (decide ((ar (left_2 - (len a_1)))<0)) then (some (-1)) else (aW (ρ:=Int) (nX slf_Ffbm a_1 left_2 ((ar (left_2 - (len a_1))),0)) fun u6:Int=>some u6)
noncomputable def qm (slf_Ffbm:(Condition×Int)→Option Int)(a_1:Condition)(left_2:Int):Option Int:=
 bif (decide ((ar (left_2 - (len a_1.Name)))<0)) then (some (-1)) else ((uk slf_Ffbm a_1.Parts (ar (left_2 - (len a_1.Name)))).bind fun r3=>bif (decide (r3<0)) then (some (-1)) else (some r3))
noncomputable def mO (slf_Ffbm:(Condition×Int)→Option Int)(x:Condition×Int):Option Int:=qm slf_Ffbm x.1 x.2
noncomputable def tI (a_1:Condition)(left_2:Int):Option Int:=aJ mO (a_1,left_2)
theorem RR:∀x,Fin1 fun slf_Ffbm=>mO slf_Ffbm x:=by
 intro x
 unfold mO qm
 repeat first|exact aN|exact bo|exact iO|exact kW|exact gt|exact jF|exact hP|exact gY|refine bu ?_ ?_|refine bb ?_ (fun _=>?_)|refine ba ?_ (fun _=>?_)|refine bd ?_ (fun _=>?_)|refine br (fun _=>?_)|refine pf (fun _=>?_) | unfold uk | unfold nX | unfold jB
theorem Tq (a_1:Condition)(left_2:Int):tI a_1 left_2=qm (aJ mO) a_1 left_2:=bx RR (a_1,left_2)
noncomputable def sb (a_1:Clause)(left_2:Int):Option Int:=
 bif (decide ((ar (left_2 - (len a_1.Id)))<0)) then (some (-1)) else (bif (decide ((ar ((ar (left_2 - (len a_1.Id))) - (len a_1.Action)))<0)) then (some (-1)) else ((tI a_1.When (ar ((ar (left_2 - (len a_1.Id))) - (len a_1.Action)))).bind fun r3=>bif (decide (r3<0)) then (some (-1)) else (bif (decide ((ar (r3 - (len a_1.Repair)))<0)) then (some (-1)) else (some (ar (r3 - (len a_1.Repair)))))))
noncomputable def kI (a_1:List Clause)(left_2:Int)(self:(Int×Int)→Option (Int⊕Int))(x3:Int×Int):Option (Int⊕Int):=
 bif (decide (x3.2<(len a_1))) then ((aK a_1 x3.2).bind fun e4=>(sb e4 x3.1).bind fun r5=>bif (decide (r5<0)) then (some (.inl (-1))) else (self (r5,(ar (x3.2+1))))) else (some (.inr x3.1))
noncomputable def qf (a_1:List Clause)(left_2:Int): (Int×Int)→Option (Int⊕Int):=aJ (kI a_1 left_2)
theorem wz (a_1:List Clause)(left_2:Int): ∀a,Fin1 fun f=>kI a_1 left_2 f a:=by
 intro a
 unfold kI
 repeat first|exact aN|exact bo|refine bu ?_ ?_|refine bb ?_ (fun _=>?_)|refine ba ?_ (fun _=>?_)|refine bd ?_ (fun _=>?_)|refine br (fun _=>?_)
theorem KA (a_1:List Clause)(left_2:Int)(x:Int×Int):qf a_1 left_2 x=kI a_1 left_2 (qf a_1 left_2) x:=bx (wz a_1 left_2) x
noncomputable def xP (a_1:List Clause)(left_2:Int):Option Int:=
 bif (decide ((ar (left_2 - (len a_1)))<0)) then (some (-1)) else (aW (ρ:=Int) (qf a_1 left_2 ((ar (left_2 - (len a_1))),0)) fun u6:Int=>some u6)
noncomputable def yG (a_1:Contract)(left_2:Int):Option Int:=
 (tH a_1.Parties left_2).bind fun r3=>bif (decide (r3<0)) then (some (-1)) else ((xP a_1.Clauses r3).bind fun r4=>bif (decide (r4<0)) then (some (-1)) else (some r4))
noncomputable def xL (a_1:List Duty)(left_2:Int):Option Int:=
 bif (decide ((ar (left_2 - (len a_1)))<0)) then (some (-1)) else (some (ar (left_2 - (len a_1))))
noncomputable def wQ (a_1:List Int)(left_2:Int):Option Int:=
 bif (decide ((ar (left_2 - (len a_1)))<0)) then (some (-1)) else (some (ar (left_2 - (len a_1))))
noncomputable def xy (a_1:State)(left_2:Int):Option Int:=
 (tH a_1.Facts left_2).bind fun r3=>bif (decide (r3<0)) then (some (-1)) else ((xL a_1.Duties r3).bind fun r4=>bif (decide (r4<0)) then (some (-1)) else ((wQ a_1.Balances r4).bind fun r5=>bif (decide (r5<0)) then (some (-1)) else (some r5)))
noncomputable def ly (a_1:List ae)(self:(Int×(List ae))→Option ((List ae)⊕(List ae)))(x3:Int×(List ae)):Option ((List ae)⊕(List ae)):=
 bif (decide (x3.1<(len a_1))) then ((aK a_1 x3.1).bind fun e4=>(aK x3.2 x3.1).bind fun e5=>self ((ar (x3.1+1)),(eu x3.2 x3.1 e4))) else (some (.inr x3.2))
noncomputable def qc (a_1:List ae): (Int×(List ae))→Option ((List ae)⊕(List ae)):=aJ (ly a_1)
theorem vz (a_1:List ae): ∀a,Fin1 fun f=>ly a_1 f a:=by
 intro a
 unfold ly
 repeat first|exact aN|exact bo|refine bu ?_ ?_|refine bb ?_ (fun _=>?_)|refine ba ?_ (fun _=>?_)|refine bd ?_ (fun _=>?_)|refine br (fun _=>?_)
theorem KG (a_1:List ae)(x:Int×(List ae)):qc a_1 x=ly a_1 (qc a_1) x:=bx (vz a_1) x
noncomputable def uh (a_1:List ae):Option (List ae):=
 (o9 16 [] (len a_1)).bind fun m2=>aW (ρ:=(List ae)) (qc a_1 (0,m2)) fun u6:(List ae)=>some u6
noncomputable def jm (slf_Ffbv:Condition→Option Condition)(a_1:List Condition)(self:(Int×(List Condition))→Option ((List Condition)⊕(List Condition)))(x3:Int×(List Condition)):Option ((List Condition)⊕(List Condition)):=
 bif (decide (x3.1<(len a_1))) then ((aK a_1 x3.1).bind fun e4=>(slf_Ffbv e4).bind fun r5=>(aK x3.2 x3.1).bind fun e6=>self ((ar (x3.1+1)),(eu x3.2 x3.1 r5))) else (some (.inr x3.2))
noncomputable def ob (slf_Ffbv:Condition→Option Condition)(a_1:List Condition): (Int×(List Condition))→Option ((List Condition)⊕(List Condition)):=aJ (jm slf_Ffbv a_1)
theorem v7 (slf_Ffbv:Condition→Option Condition)(a_1:List Condition): ∀a,Fin1 fun f=>jm slf_Ffbv a_1 f a:=by
 intro a
 unfold jm
 repeat first|exact aN|exact bo|refine bu ?_ ?_|refine bb ?_ (fun _=>?_)|refine ba ?_ (fun _=>?_)|refine bd ?_ (fun _=>?_)|refine br (fun _=>?_)
theorem KW (slf_Ffbv:Condition→Option Condition)(a_1:List Condition)(x:Int×(List Condition)):ob slf_Ffbv a_1 x=jm slf_Ffbv a_1 (ob slf_Ffbv a_1) x:=bx (v7 slf_Ffbv a_1) x
noncomputable def tu (slf_Ffbv:Condition→Option Condition)(a_1:List Condition):Option (List Condition):=
 (o9 56 (Condition.mk 0 [] 0 []) (len a_1)).bind fun m2=>aW (ρ:=(List Condition)) (ob slf_Ffbv a_1 (0,m2)) fun u7:(List Condition)=>some u7
noncomputable def qT (slf_Ffbv:Condition→Option Condition)(a_1:Condition):Option Condition:=
 (tu slf_Ffbv a_1.Parts).bind fun r2=>some (Condition.mk a_1.Op a_1.Name a_1.Day r2)
noncomputable def mP (slf_Ffbv:Condition→Option Condition)(x:Condition):Option Condition:=qT slf_Ffbv x
noncomputable def wF (a_1:Condition):Option Condition:=aJ mP a_1
theorem Ro:∀x,Fin1 fun slf_Ffbv=>mP slf_Ffbv x:=by
 intro x
 unfold mP qT
 repeat first|exact aN|exact bo|exact iO|exact kW|exact gt|exact jF|exact hP|exact gY|refine bu ?_ ?_|refine bb ?_ (fun _=>?_)|refine ba ?_ (fun _=>?_)|refine bd ?_ (fun _=>?_)|refine br (fun _=>?_)|refine pf (fun _=>?_) | unfold tu | unfold ob | unfold jm
theorem S8 (a_1:Condition):wF a_1=qT (aJ mP) a_1:=bx Ro a_1
noncomputable def tU (a_1:Clause):Option Clause:=
 (wF a_1.When).bind fun r2=>some (Clause.mk a_1.Id a_1.Kind a_1.Party a_1.Action a_1.Other a_1.Amount r2 a_1.Within a_1.Repair)
noncomputable def la (a_1:List Clause)(self:(Int×(List Clause))→Option ((List Clause)⊕(List Clause)))(x3:Int×(List Clause)):Option ((List Clause)⊕(List Clause)):=
 bif (decide (x3.1<(len a_1))) then ((aK a_1 x3.1).bind fun e4=>(tU e4).bind fun r5=>(aK x3.2 x3.1).bind fun e6=>self ((ar (x3.1+1)),(eu x3.2 x3.1 r5))) else (some (.inr x3.2))
noncomputable def qV (a_1:List Clause): (Int×(List Clause))→Option ((List Clause)⊕(List Clause)):=aJ (la a_1)
theorem wa (a_1:List Clause): ∀a,Fin1 fun f=>la a_1 f a:=by
 intro a
 unfold la
 repeat first|exact aN|exact bo|refine bu ?_ ?_|refine bb ?_ (fun _=>?_)|refine ba ?_ (fun _=>?_)|refine bd ?_ (fun _=>?_)|refine br (fun _=>?_)
theorem J2 (a_1:List Clause)(x:Int×(List Clause)):qV a_1 x=la a_1 (qV a_1) x:=bx (wa a_1) x
noncomputable def xO (a_1:List Clause):Option (List Clause):=
 (o9 144 (Clause.mk [] 0 0 [] 0 0 (Condition.mk 0 [] 0 []) 0 []) (len a_1)).bind fun m2=>aW (ρ:=(List Clause)) (qV a_1 (0,m2)) fun u7:(List Clause)=>some u7
noncomputable def sd (a_1:Contract):Option Contract:=
 (uh a_1.Parties).bind fun r2=>(xO a_1.Clauses).bind fun r3=>some (Contract.mk r2 r3)
noncomputable def sW (a_1:Duty):Option Duty:=
 some a_1
noncomputable def lg (a_1:List Duty)(self:(Int×(List Duty))→Option ((List Duty)⊕(List Duty)))(x3:Int×(List Duty)):Option ((List Duty)⊕(List Duty)):=
 bif (decide (x3.1<(len a_1))) then ((aK a_1 x3.1).bind fun e4=>(sW e4).bind fun r5=>(aK x3.2 x3.1).bind fun e6=>self ((ar (x3.1+1)),(eu x3.2 x3.1 r5))) else (some (.inr x3.2))
noncomputable def qX (a_1:List Duty): (Int×(List Duty))→Option ((List Duty)⊕(List Duty)):=aJ (lg a_1)
theorem vM (a_1:List Duty): ∀a,Fin1 fun f=>lg a_1 f a:=by
 intro a
 unfold lg
 repeat first|exact aN|exact bo|refine bu ?_ ?_|refine bb ?_ (fun _=>?_)|refine ba ?_ (fun _=>?_)|refine bd ?_ (fun _=>?_)|refine br (fun _=>?_)
theorem KI (a_1:List Duty)(x:Int×(List Duty)):qX a_1 x=lg a_1 (qX a_1) x:=bx (vM a_1) x
noncomputable def xC (a_1:List Duty):Option (List Duty):=
 (o9 32 (Duty.mk 0 0 0 0) (len a_1)).bind fun m2=>aW (ρ:=(List Duty)) (qX a_1 (0,m2)) fun u7:(List Duty)=>some u7
noncomputable def kX (a_1:List Int)(self:(Int×(List Int))→Option ((List Int)⊕(List Int)))(x3:Int×(List Int)):Option ((List Int)⊕(List Int)):=
 bif (decide (x3.1<(len a_1))) then ((aK a_1 x3.1).bind fun e4=>(aK x3.2 x3.1).bind fun e5=>self ((ar (x3.1+1)),(eu x3.2 x3.1 e4))) else (some (.inr x3.2))
noncomputable def qS (a_1:List Int): (Int×(List Int))→Option ((List Int)⊕(List Int)):=aJ (kX a_1)
theorem vT (a_1:List Int): ∀a,Fin1 fun f=>kX a_1 f a:=by
 intro a
 unfold kX
 repeat first|exact aN|exact bo|refine bu ?_ ?_|refine bb ?_ (fun _=>?_)|refine ba ?_ (fun _=>?_)|refine bd ?_ (fun _=>?_)|refine br (fun _=>?_)
theorem K6 (a_1:List Int)(x:Int×(List Int)):qS a_1 x=kX a_1 (qS a_1) x:=bx (vT a_1) x
noncomputable def wM (a_1:List Int):Option (List Int):=
 (o9 8 0 (len a_1)).bind fun m2=>aW (ρ:=(List Int)) (qS a_1 (0,m2)) fun u6:(List Int)=>some u6
noncomputable def sr (a_1:State):Option State:=
 (uh a_1.Facts).bind fun r2=>(xC a_1.Duties).bind fun r3=>(wM a_1.Balances).bind fun r4=>some (State.mk a_1.Day r2 r3 r4 a_1.Over)
noncomputable def cU (x_1:Int)(a_2:Int)(b_3:Int):Option Bool:=
 b8 (bif (decide (x_1≥a_2)) then (decide (x_1≤b_3)) else false) fun u4:Bool=>some u4
noncomputable def tg (b_1:Int):Option Bool:=
 b8 (bif (decide (b_1≥97)) then (b8 (bif (decide (b_1≤122)) then true else (b8 (bif (decide (b_1≥48)) then (decide (b_1≤57)) else false) fun u4:Bool=>u4)) fun u3:Bool=>u3) else (b8 (bif (decide (b_1≥48)) then (decide (b_1≤57)) else false) fun u5:Bool=>u5)) fun u2:Bool=>some u2
noncomputable def ls (s_1:ae)(self:Int→Option (Bool⊕Unit))(x4:Int):Option (Bool⊕Unit):=
 bif (decide (x4<(len s_1))) then ((aK s_1 x4).bind fun c5=>(tg (c5.toNat:Int)).bind fun r6=>bif (!r6) then (some (.inl false)) else (self (ar (x4+1)))) else (some (.inr ()))
noncomputable def qH (s_1:ae): Int→Option (Bool⊕Unit):=aJ (ls s_1)
theorem vr (s_1:ae): ∀a,Fin1 fun f=>ls s_1 f a:=by
 intro a
 unfold ls
 repeat first|exact aN|exact bo|refine bu ?_ ?_|refine bb ?_ (fun _=>?_)|refine ba ?_ (fun _=>?_)|refine bd ?_ (fun _=>?_)|refine br (fun _=>?_)
theorem J8 (s_1:ae)(x:Int):qH s_1 x=ls s_1 (qH s_1) x:=bx (vr s_1) x
noncomputable def oQ (s_1:ae):Option Bool:=
 (cU (len s_1) 1 8).bind fun r2=>aW (ρ:=Bool) (bif (!r2) then (some (.inr true)) else ((aK s_1 0).bind fun c16=>bM (ρ:=Bool) (bif (decide ((c16.toNat:Int)<97)) then (some (.inr true)) else ((aK s_1 0).bind fun c18=>some (.inr (decide ((c18.toNat:Int)>122))))) fun u17:Bool=>some (.inr u17))) fun u3:Bool=>bif u3 then (some false) else (aW (ρ:=Bool) (qH s_1 0) fun u7:Unit=>b8 (bif (s_1==([116,114,117,101]:ae)) then (s_1==([116,114,117,101]:ae)) else (b8 (bif (s_1==([102,114,111,109]:ae)) then (s_1==([102,114,111,109]:ae)) else (b8 (bif (s_1==([110,111,116]:ae)) then (s_1==([110,111,116]:ae)) else (b8 (bif (s_1==([97,110,100]:ae)) then (s_1==([97,110,100]:ae)) else (b8 (bif (s_1==([111,114]:ae)) then (s_1==([111,114]:ae)) else (b8 (bif (s_1==([98,111,116,104]:ae)) then (s_1==([98,111,116,104]:ae)) else (b8 (bif (s_1==([101,105,116,104,101,114]:ae)) then (s_1==([101,105,116,104,101,114]:ae)) else (b8 (bif (s_1==([105,116]:ae)) then (s_1==([105,116]:ae)) else (s_1==([105,110]:ae))) fun u15:Bool=>u15)) fun u14:Bool=>u14)) fun u13:Bool=>u13)) fun u12:Bool=>u12)) fun u11:Bool=>u11)) fun u10:Bool=>u10)) fun u9:Bool=>u9)) fun u8:Bool=>bif u8 then (some false) else (some true))
noncomputable def lc (list_1:List ae)(name_2:ae)(self:Int→Option (Bool⊕Unit))(x3:Int):Option (Bool⊕Unit):=
 bif (decide (x3<(len list_1))) then ((aK list_1 x3).bind fun e4=>bif (e4==name_2) then (some (.inl true)) else (self (ar (x3+1)))) else (some (.inr ()))
noncomputable def qE (list_1:List ae)(name_2:ae): Int→Option (Bool⊕Unit):=aJ (lc list_1 name_2)
theorem v6 (list_1:List ae)(name_2:ae): ∀a,Fin1 fun f=>lc list_1 name_2 f a:=by
 intro a
 unfold lc
 repeat first|exact aN|exact bo|refine bu ?_ ?_|refine bb ?_ (fun _=>?_)|refine ba ?_ (fun _=>?_)|refine bd ?_ (fun _=>?_)|refine br (fun _=>?_)
theorem JX (list_1:List ae)(name_2:ae)(x:Int):qE list_1 name_2 x=lc list_1 name_2 (qE list_1 name_2) x:=bx (v6 list_1 name_2) x
noncomputable def rj (list_1:List ae)(name_2:ae):Option Bool:=
 aW (ρ:=Bool) (qE list_1 name_2 0) fun u5:Unit=>some false
noncomputable def jw (c_1:Contract)(self:Int→Option (Bool⊕Unit))(x2:Int):Option (Bool⊕Unit):=
 bif (decide (x2<(len c_1.Parties))) then ((aK c_1.Parties x2).bind fun e3=>(oQ e3).bind fun r4=>bM (ρ:=Bool) (bif (!r4) then (some (.inr true)) else ((nq c_1.Parties 0 x2).bind fun s6=>(aK c_1.Parties x2).bind fun e7=>(rj s6 e7).bind fun r8=>some (.inr r8))) fun u5:Bool=>bif u5 then (some (.inl false)) else (self (ar (x2+1)))) else (some (.inr ()))
noncomputable def qw (c_1:Contract): Int→Option (Bool⊕Unit):=aJ (jw c_1)
theorem vA (c_1:Contract): ∀a,Fin1 fun f=>jw c_1 f a:=by
 intro a
 unfold jw
 repeat first|exact aN|exact bo|refine bu ?_ ?_|refine bb ?_ (fun _=>?_)|refine ba ?_ (fun _=>?_)|refine bd ?_ (fun _=>?_)|refine br (fun _=>?_)
theorem Aq (c_1:Contract)(x:Int):qw c_1 x=jw c_1 (qw c_1) x:=bx (vA c_1) x
noncomputable def tp (c_1:Contract):Option Bool:=
 aW (ρ:=Bool) (qw c_1 0) fun u9:Unit=>(cU (len c_1.Parties) 2 4).bind fun r10=>some r10
noncomputable def kU (c_1:Contract)(id_2:ae)(self:Int→Option (Int⊕Unit))(x3:Int):Option (Int⊕Unit):=
 bif (decide (x3<(len c_1.Clauses))) then ((aK c_1.Clauses x3).bind fun e4=>bif (e4.Id==id_2) then (some (.inl x3)) else (self (ar (x3+1)))) else (some (.inr ()))
noncomputable def qt (c_1:Contract)(id_2:ae): Int→Option (Int⊕Unit):=aJ (kU c_1 id_2)
theorem wx (c_1:Contract)(id_2:ae): ∀a,Fin1 fun f=>kU c_1 id_2 f a:=by
 intro a
 unfold kU
 repeat first|exact aN|exact bo|refine bu ?_ ?_|refine bb ?_ (fun _=>?_)|refine ba ?_ (fun _=>?_)|refine bd ?_ (fun _=>?_)|refine br (fun _=>?_)
theorem K7 (c_1:Contract)(id_2:ae)(x:Int):qt c_1 id_2 x=kU c_1 id_2 (qt c_1 id_2) x:=bx (wx c_1 id_2) x
noncomputable def rL (c_1:Contract)(id_2:ae):Option Int:=
 aW (ρ:=Int) (qt c_1 id_2 0) fun u5:Unit=>some (-1)
noncomputable def om (day_1:Int):Option Bool:=
 (cU day_1 0 36524).bind fun r2=>some r2
noncomputable def yh (c_1:Condition):Option Bool:=
 bif (c_1.Op==1) then (b8 (bif ((len c_1.Parts)==0) then (b8 (bif (c_1.Name==([]:ae)) then (c_1.Day==0) else false) fun u3:Bool=>u3) else false) fun u2:Bool=>some u2) else (bif (c_1.Op==2) then (aW (ρ:=Bool) (bif ((len c_1.Parts)==0) then ((oQ c_1.Name).bind fun r5=>b8 (bif r5 then (c_1.Day==0) else false) fun u6:Bool=>some (.inr u6)) else (some (.inr false))) fun u4:Bool=>some u4) else (bif (c_1.Op==3) then (aW (ρ:=Bool) (bif ((len c_1.Parts)==0) then (bM (ρ:=Bool) (bif (c_1.Name==([]:ae)) then ((om c_1.Day).bind fun r9=>some (.inr r9)) else (some (.inr false))) fun u8:Bool=>some (.inr u8)) else (some (.inr false))) fun u7:Bool=>some u7) else (bif (c_1.Op==4) then (b8 (bif ((len c_1.Parts)==1) then (b8 (bif (c_1.Name==([]:ae)) then (c_1.Day==0) else false) fun u11:Bool=>u11) else false) fun u10:Bool=>some u10) else (b8 (bif (c_1.Op==5) then (c_1.Op==5) else (c_1.Op==6)) fun u12:Bool=>bif u12 then (b8 (bif ((len c_1.Parts)==2) then (b8 (bif (c_1.Name==([]:ae)) then (c_1.Day==0) else false) fun u14:Bool=>u14) else false) fun u13:Bool=>some u13) else (some false)))))
noncomputable def jb (slf_Ffcy:Condition→Option Bool)(c_1:Condition)(self:Int→Option (Bool⊕Unit))(x3:Int):Option (Bool⊕Unit):=
 bif (decide (x3<(len c_1.Parts))) then ((aK c_1.Parts x3).bind fun e4=>(slf_Ffcy e4).bind fun r5=>bif (!r5) then (some (.inl false)) else (self (ar (x3+1)))) else (some (.inr ()))
noncomputable def oa (slf_Ffcy:Condition→Option Bool)(c_1:Condition): Int→Option (Bool⊕Unit):=aJ (jb slf_Ffcy c_1)
theorem wo (slf_Ffcy:Condition→Option Bool)(c_1:Condition): ∀a,Fin1 fun f=>jb slf_Ffcy c_1 f a:=by
 intro a
 unfold jb
 repeat first|exact aN|exact bo|refine bu ?_ ?_|refine bb ?_ (fun _=>?_)|refine ba ?_ (fun _=>?_)|refine bd ?_ (fun _=>?_)|refine br (fun _=>?_)
theorem K1 (slf_Ffcy:Condition→Option Bool)(c_1:Condition)(x:Int):oa slf_Ffcy c_1 x=jb slf_Ffcy c_1 (oa slf_Ffcy c_1) x:=bx (wo slf_Ffcy c_1) x
noncomputable def qC (slf_Ffcy:Condition→Option Bool)(c_1:Condition):Option Bool:=
 (yh c_1).bind fun r2=>bif (!r2) then (some false) else (aW (ρ:=Bool) (oa slf_Ffcy c_1 0) fun u6:Unit=>some true)
noncomputable def oz (slf_Ffcy:Condition→Option Bool)(x:Condition):Option Bool:=qC slf_Ffcy x
noncomputable def DA (c_1:Condition):Option Bool:=aJ oz c_1
theorem Qa:∀x,Fin1 fun slf_Ffcy=>oz slf_Ffcy x:=by
 intro x
 unfold oz qC
 repeat first|exact aN|exact bo|exact iO|exact kW|exact gt|exact jF|exact hP|exact gY|refine bu ?_ ?_|refine bb ?_ (fun _=>?_)|refine ba ?_ (fun _=>?_)|refine bd ?_ (fun _=>?_)|refine br (fun _=>?_)|refine pf (fun _=>?_) | unfold oa | unfold jb
theorem Tn (c_1:Condition):DA c_1=qC (aJ oz) c_1:=bx Qa c_1
noncomputable def hI (slf_Ffdf:Condition→Option Int)(c_1:Condition)(self:(Int×Int)→Option (Int⊕Int))(x2:Int×Int):Option (Int⊕Int):=
 bif (decide (x2.2<(len c_1.Parts))) then ((aK c_1.Parts x2.2).bind fun e3=>(slf_Ffdf e3).bind fun r4=>self ((ar (x2.1+r4)),(ar (x2.2+1)))) else (some (.inr x2.1))
noncomputable def jV (slf_Ffdf:Condition→Option Int)(c_1:Condition): (Int×Int)→Option (Int⊕Int):=aJ (hI slf_Ffdf c_1)
theorem vC (slf_Ffdf:Condition→Option Int)(c_1:Condition): ∀a,Fin1 fun f=>hI slf_Ffdf c_1 f a:=by
 intro a
 unfold hI
 repeat first|exact aN|exact bo|refine bu ?_ ?_|refine bb ?_ (fun _=>?_)|refine ba ?_ (fun _=>?_)|refine bd ?_ (fun _=>?_)|refine br (fun _=>?_)
theorem zX (slf_Ffdf:Condition→Option Int)(c_1:Condition)(x:Int×Int):jV slf_Ffdf c_1 x=hI slf_Ffdf c_1 (jV slf_Ffdf c_1) x:=bx (vC slf_Ffdf c_1) x
noncomputable def qb (slf_Ffdf:Condition→Option Int)(c_1:Condition):Option Int:=
 aW (ρ:=Int) (jV slf_Ffdf c_1 (1,0)) fun u5:Int=>some u5
noncomputable def ju (slf_Ffdf:Condition→Option Int)(x:Condition):Option Int:=qb slf_Ffdf x
noncomputable def HH (c_1:Condition):Option Int:=aJ ju c_1
theorem P8:∀x,Fin1 fun slf_Ffdf=>ju slf_Ffdf x:=by
 intro x
 unfold ju qb
 repeat first|exact aN|exact bo|exact iO|exact kW|exact gt|exact jF|exact hP|exact gY|refine bu ?_ ?_|refine bb ?_ (fun _=>?_)|refine ba ?_ (fun _=>?_)|refine bd ?_ (fun _=>?_)|refine br (fun _=>?_)|refine pf (fun _=>?_) | unfold jV | unfold hI
theorem SL (c_1:Condition):HH c_1=qb (aJ ju) c_1:=bx P8 c_1
noncomputable def yT (c_1:Condition):Option Bool:=
 (DA c_1).bind fun r2=>aW (ρ:=Bool) (bif r2 then ((HH c_1).bind fun r4=>some (.inr (decide (r4≤15)))) else (some (.inr false))) fun u3:Bool=>some u3
noncomputable def xH (c_1:Contract)(i_2:Int):Option Bool:=
 (aK c_1.Clauses i_2).bind fun e3=>(oQ e3.Id).bind fun r4=>aW (ρ:=Bool) (bif (!r4) then (some (.inr true)) else ((oQ e3.Action).bind fun r17=>bM (ρ:=Bool) (bif (!r17) then (some (.inr true)) else ((cU e3.Kind 1 4).bind fun r19=>bM (ρ:=Bool) (bif (!r19) then (some (.inr true)) else ((cU e3.Party 0 (ar ((len c_1.Parties) - 1))).bind fun r21=>bM (ρ:=Bool) (bif (!r21) then (some (.inr true)) else ((cU e3.Other 0 (ar ((len c_1.Parties) - 1))).bind fun r23=>bM (ρ:=Bool) (bif (!r23) then (some (.inr true)) else (bM (ρ:=Bool) (bif (e3.Party==e3.Other) then (some (.inr true)) else ((yT e3.When).bind fun r26=>some (.inr (!r26)))) fun u25:Bool=>some (.inr u25))) fun u24:Bool=>some (.inr u24))) fun u22:Bool=>some (.inr u22))) fun u20:Bool=>some (.inr u20))) fun u18:Bool=>some (.inr u18))) fun u5:Bool=>bif u5 then (some false) else ((cU e3.Amount 0 1000000).bind fun r6=>aW (ρ:=Bool) (bif (!r6) then (some (.inr true)) else ((cU e3.Within 0 400).bind fun r13=>b8 (bif (!r13) then true else (b8 (bif (e3.Kind != 1) then (b8 (bif (e3.Amount != 0) then true else (e3.Within != 0)) fun u16:Bool=>u16) else false) fun u15:Bool=>u15)) fun u14:Bool=>some (.inr u14))) fun u7:Bool=>bif u7 then (some false) else (bif (e3.Repair==([]:ae)) then (some true) else ((rL c_1 e3.Repair).bind fun r8=>aW (ρ:=Bool) (bif (decide (r8≥0)) then (bM (ρ:=Bool) (bif (r8 != i_2) then ((aK c_1.Clauses r8).bind fun e11=>b8 (bif (e11.Kind==1) then (e3.Kind != 3) else false) fun u12:Bool=>some (.inr u12)) else (some (.inr false))) fun u10:Bool=>some (.inr u10)) else (some (.inr false))) fun u9:Bool=>some u9)))
noncomputable def ja (l_8:List ae)(s_9:ae)(self:Int→Option ((List ae)⊕(ae×Int×(List ae))))(x3:Int):Option ((List ae)⊕(ae×Int×(List ae))):=
 bM (ρ:=(List ae)) (bif (decide (x3<(len l_8))) then ((aK l_8 x3).bind fun e5=>some (.inr (Op.bytesLess e5 s_9))) else (some (.inr false))) fun u4:Bool=>bif u4 then (self (ar (x3+1))) else (some (.inr (s_9,x3,l_8)))
noncomputable def qv (l_8:List ae)(s_9:ae): Int→Option ((List ae)⊕(ae×Int×(List ae))):=aJ (ja l_8 s_9)
theorem vW (l_8:List ae)(s_9:ae): ∀a,Fin1 fun f=>ja l_8 s_9 f a:=by
 intro a
 unfold ja
 repeat first|exact aN|exact bo|refine bu ?_ ?_|refine bb ?_ (fun _=>?_)|refine ba ?_ (fun _=>?_)|refine bd ?_ (fun _=>?_)|refine br (fun _=>?_)
theorem B2 (l_8:List ae)(s_9:ae)(x:Int):qv l_8 s_9 x=ja l_8 s_9 (qv l_8 s_9) x:=bx (vW l_8 s_9) x
noncomputable def sX (l_8:List ae)(s_9:ae):Option (List ae):=
 aW (ρ:=(List ae)) (qv l_8 s_9 0) fun u6:ae×Int×(List ae)=>aW (ρ:=(List ae)) (bif (decide (u6.2.1<(len u6.2.2))) then ((aK u6.2.2 u6.2.1).bind fun e15=>some (.inr (e15==u6.1))) else (some (.inr false))) fun u7:Bool=>bif u7 then (some u6.2.2) else ((gp u6.2.2.length 0 u6.2.1).bind fun s8=>(gE u6.2.2 (0+Int.toNat (0)) (Int.toNat u6.2.1 - Int.toNat (0))).bind fun p9=>(kw 16 ([]:List ae) p9).bind fun a10=>(kw 16 a10 [u6.1]).bind fun a11=>(gp u6.2.2.length u6.2.1 (len u6.2.2)).bind fun s12=>(gE u6.2.2 (0+Int.toNat u6.2.1) (Int.toNat (len u6.2.2) - Int.toNat u6.2.1)).bind fun p13=>(kw 16 a11 p13).bind fun a14=>some a14)
noncomputable def hY (slf_Ffdc:((List ae)×Condition)→Option (List ae))(l_4:List ae)(c_5:Condition)(self:(Int×(List ae))→Option ((List ae)⊕(List ae)))(x4:Int×(List ae)):Option ((List ae)⊕(List ae)):=
 bif (decide (x4.1<(len c_5.Parts))) then ((aK c_5.Parts x4.1).bind fun e5=>(slf_Ffdc (x4.2,e5)).bind fun r6=>self ((ar (x4.1+1)),r6)) else (some (.inr x4.2))
noncomputable def jS (slf_Ffdc:((List ae)×Condition)→Option (List ae))(l_4:List ae)(c_5:Condition): (Int×(List ae))→Option ((List ae)⊕(List ae)):=aJ (hY slf_Ffdc l_4 c_5)
theorem vL (slf_Ffdc:((List ae)×Condition)→Option (List ae))(l_4:List ae)(c_5:Condition): ∀a,Fin1 fun f=>hY slf_Ffdc l_4 c_5 f a:=by
 intro a
 unfold hY
 repeat first|exact aN|exact bo|refine bu ?_ ?_|refine bb ?_ (fun _=>?_)|refine ba ?_ (fun _=>?_)|refine bd ?_ (fun _=>?_)|refine br (fun _=>?_)
theorem BM (slf_Ffdc:((List ae)×Condition)→Option (List ae))(l_4:List ae)(c_5:Condition)(x:Int×(List ae)):jS slf_Ffdc l_4 c_5 x=hY slf_Ffdc l_4 c_5 (jS slf_Ffdc l_4 c_5) x:=bx (vL slf_Ffdc l_4 c_5) x
noncomputable def qx (slf_Ffdc:((List ae)×Condition)→Option (List ae))(l_4:List ae)(c_5:Condition):Option (List ae):=
 bif (c_5.Op==2) then ((sX l_4 c_5.Name).bind fun r3=>some r3) else (aW (ρ:=(List ae)) (jS slf_Ffdc l_4 c_5 (0,l_4)) fun u7:(List ae)=>some u7)
noncomputable def jy (slf_Ffdc:((List ae)×Condition)→Option (List ae))(x:(List ae)×Condition):Option (List ae):=qx slf_Ffdc x.1 x.2
noncomputable def Gw (l_4:List ae)(c_5:Condition):Option (List ae):=aJ jy (l_4,c_5)
theorem Rb:∀x,Fin1 fun slf_Ffdc=>jy slf_Ffdc x:=by
 intro x
 unfold jy qx
 repeat first|exact aN|exact bo|exact iO|exact kW|exact gt|exact jF|exact hP|exact gY|refine bu ?_ ?_|refine bb ?_ (fun _=>?_)|refine ba ?_ (fun _=>?_)|refine bd ?_ (fun _=>?_)|refine br (fun _=>?_)|refine pf (fun _=>?_) | unfold jS | unfold hY
theorem Te (l_4:List ae)(c_5:Condition):Gw l_4 c_5=qx (aJ jy) l_4 c_5:=bx Rb (l_4,c_5)
noncomputable def jt (c_1:Contract)(self:(Int×(List ae))→Option ((List ae)⊕(List ae)))(x2:Int×(List ae)):Option ((List ae)⊕(List ae)):=
 bif (decide (x2.1<(len c_1.Clauses))) then ((aK c_1.Clauses x2.1).bind fun e3=>(sX x2.2 e3.Action).bind fun r4=>(aK c_1.Clauses x2.1).bind fun e5=>(Gw r4 e5.When).bind fun r6=>self ((ar (x2.1+1)),r6)) else (some (.inr x2.2))
noncomputable def kH (c_1:Contract): (Int×(List ae))→Option ((List ae)⊕(List ae)):=aJ (jt c_1)
theorem wr (c_1:Contract): ∀a,Fin1 fun f=>jt c_1 f a:=by
 intro a
 unfold jt
 repeat first|exact aN|exact bo|refine bu ?_ ?_|refine bb ?_ (fun _=>?_)|refine ba ?_ (fun _=>?_)|refine bd ?_ (fun _=>?_)|refine br (fun _=>?_)
theorem AN (c_1:Contract)(x:Int×(List ae)):kH c_1 x=jt c_1 (kH c_1) x:=bx (wr c_1) x
noncomputable def nr (c_1:Contract):Option (List ae):=
 aW (ρ:=(List ae)) (kH c_1 (0,[])) fun u7:(List ae)=>some u7
noncomputable def jk (c_1:Contract)(self:Int→Option (Bool⊕Unit))(x4:Int):Option (Bool⊕Unit):=
 bif (decide (x4<(len c_1.Clauses))) then ((aK c_1.Clauses x4).bind fun e5=>(rL c_1 e5.Id).bind fun r6=>bM (ρ:=Bool) (bif (r6 != x4) then (some (.inr true)) else ((xH c_1 x4).bind fun r8=>some (.inr (!r8)))) fun u7:Bool=>bif u7 then (some (.inl false)) else (self (ar (x4+1)))) else (some (.inr ()))
noncomputable def jQ (c_1:Contract): Int→Option (Bool⊕Unit):=aJ (jk c_1)
theorem wc (c_1:Contract): ∀a,Fin1 fun f=>jk c_1 f a:=by
 intro a
 unfold jk
 repeat first|exact aN|exact bo|refine bu ?_ ?_|refine bb ?_ (fun _=>?_)|refine ba ?_ (fun _=>?_)|refine bd ?_ (fun _=>?_)|refine br (fun _=>?_)
theorem Bo (c_1:Contract)(x:Int):jQ c_1 x=jk c_1 (jQ c_1) x:=bx (wc c_1) x
noncomputable def yI (c_1:Contract):Option Bool:=
 (cU (len c_1.Clauses) 1 12).bind fun r2=>aW (ρ:=Bool) (bif (!r2) then (some (.inr true)) else ((tp c_1).bind fun r11=>some (.inr (!r11)))) fun u3:Bool=>bif u3 then (some false) else (aW (ρ:=Bool) (jQ c_1 0) fun u9:Unit=>(nr c_1).bind fun r10=>some (decide ((len r10)≤16)))
noncomputable def gZ (list_1:List ae)(self:Int→Option (Bool⊕Unit))(x2:Int):Option (Bool⊕Unit):=
 b8 (bif (decide (x2<(len list_1))) then (decide (x2≤16)) else false) fun u3:Bool=>bif u3 then ((aK list_1 x2).bind fun e4=>(oQ e4).bind fun r5=>bM (ρ:=Bool) (bif (!r5) then (some (.inr true)) else (bM (ρ:=Bool) (bif (decide (x2>0)) then ((aK list_1 (ar (x2 - 1))).bind fun e8=>(aK list_1 x2).bind fun e9=>some (.inr (!(Op.bytesLess e8 e9)))) else (some (.inr false))) fun u7:Bool=>some (.inr u7))) fun u6:Bool=>bif u6 then (some (.inl false)) else (self (ar (x2+1)))) else (some (.inr ()))
noncomputable def gh (list_1:List ae): Int→Option (Bool⊕Unit):=aJ (gZ list_1)
theorem ww (list_1:List ae): ∀a,Fin1 fun f=>gZ list_1 f a:=by
 intro a
 unfold gZ
 repeat first|exact aN|exact bo|refine bu ?_ ?_|refine bb ?_ (fun _=>?_)|refine ba ?_ (fun _=>?_)|refine bd ?_ (fun _=>?_)|refine br (fun _=>?_)
theorem sw (list_1:List ae)(x:Int):gh list_1 x=gZ list_1 (gh list_1) x:=bx (ww list_1) x
noncomputable def xV (list_1:List ae):Option Bool:=
 aW (ρ:=Bool) (gh list_1 0) fun u10:Unit=>some (decide ((len list_1)≤16))
noncomputable def kZ (c_1:Contract)(i_2:Int)(self:Int→Option (Bool⊕Unit))(x3:Int):Option (Bool⊕Unit):=
 bif (decide (x3<(len c_1.Clauses))) then ((aK c_1.Clauses x3).bind fun e4=>(aK c_1.Clauses i_2).bind fun e5=>bif (e4.Repair==e5.Id) then (some (.inl true)) else (self (ar (x3+1)))) else (some (.inr ()))
noncomputable def qq (c_1:Contract)(i_2:Int): Int→Option (Bool⊕Unit):=aJ (kZ c_1 i_2)
theorem vQ (c_1:Contract)(i_2:Int): ∀a,Fin1 fun f=>kZ c_1 i_2 f a:=by
 intro a
 unfold kZ
 repeat first|exact aN|exact bo|refine bu ?_ ?_|refine bb ?_ (fun _=>?_)|refine ba ?_ (fun _=>?_)|refine bd ?_ (fun _=>?_)|refine br (fun _=>?_)
theorem Kc (c_1:Contract)(i_2:Int)(x:Int):qq c_1 i_2 x=kZ c_1 i_2 (qq c_1 i_2) x:=bx (vQ c_1 i_2) x
noncomputable def yC (c_1:Contract)(i_2:Int):Option Bool:=
 aW (ρ:=Bool) (qq c_1 i_2 0) fun u6:Unit=>some false
noncomputable def jG (s_1:State)(i_2:Int)(self:(Int×Int)→Option (Int⊕Int))(x3:Int×Int):Option (Int⊕Int):=
 bif (decide (x3.2<(len s_1.Duties))) then ((aK s_1.Duties x3.2).bind fun e4=>b8 (bif (e4.Clause==i_2) then (ar (x3.1+1)) else x3.1) fun u5:Int=>self (u5,(ar (x3.2+1)))) else (some (.inr x3.1))
noncomputable def jU (s_1:State)(i_2:Int): (Int×Int)→Option (Int⊕Int):=aJ (jG s_1 i_2)
theorem vR (s_1:State)(i_2:Int): ∀a,Fin1 fun f=>jG s_1 i_2 f a:=by
 intro a
 unfold jG
 repeat first|exact aN|exact bo|refine bu ?_ ?_|refine bb ?_ (fun _=>?_)|refine ba ?_ (fun _=>?_)|refine bd ?_ (fun _=>?_)|refine br (fun _=>?_)
theorem zl (s_1:State)(i_2:Int)(x:Int×Int):jU s_1 i_2 x=jG s_1 i_2 (jU s_1 i_2) x:=bx (vR s_1 i_2) x
noncomputable def xN (s_1:State)(i_2:Int):Option Int:=
 aW (ρ:=Int) (jU s_1 i_2 (0,0)) fun u6:Int=>some u6
noncomputable def wD (c_1:Contract)(s_2:State)(k_3:Int):Option Bool:=
 (aK s_2.Duties k_3).bind fun e4=>(cU e4.Clause 0 (ar ((len c_1.Clauses) - 1))).bind fun r5=>aW (ρ:=Bool) (bif (!r5) then (some (.inr true)) else ((aK c_1.Clauses e4.Clause).bind fun e35=>bM (ρ:=Bool) (bif (e35.Kind != 1) then (some (.inr true)) else ((cU e4.Since 0 s_2.Day).bind fun r37=>bM (ρ:=Bool) (bif (!r37) then (some (.inr true)) else ((aK c_1.Clauses e4.Clause).bind fun e39=>bM (ρ:=Bool) (bif (e4.Due != (ar (e4.Since+e39.Within))) then (some (.inr true)) else ((om e4.Due).bind fun r41=>bM (ρ:=Bool) (bif (!r41) then (some (.inr true)) else ((cU e4.Status 1 4).bind fun r43=>some (.inr (!r43)))) fun u42:Bool=>some (.inr u42))) fun u40:Bool=>some (.inr u40))) fun u38:Bool=>some (.inr u38))) fun u36:Bool=>some (.inr u36))) fun u6:Bool=>bif u6 then (some false) else (aW (ρ:=Bool) (bif (decide (k_3>0)) then ((aK s_2.Duties (ar (k_3 - 1))).bind fun e11=>b8 (bif (decide (e11.Since>e4.Since)) then true else (b8 (bif (e4.Status==1) then (b8 (bif (decide (e4.Due<s_2.Day)) then true else (b8 (bif s_2.Over then true else (b8 (bif (e4.Status==3) then (b8 (bif (decide (e4.Due≥s_2.Day)) then true else (b8 (bif (e4.Status==4) then (!s_2.Over) else false) fun u18:Bool=>u18)) fun u17:Bool=>u17) else (b8 (bif (e4.Status==4) then (!s_2.Over) else false) fun u19:Bool=>u19)) fun u16:Bool=>u16)) fun u15:Bool=>u15)) fun u14:Bool=>u14) else (b8 (bif (e4.Status==3) then (b8 (bif (decide (e4.Due≥s_2.Day)) then true else (b8 (bif (e4.Status==4) then (!s_2.Over) else false) fun u22:Bool=>u22)) fun u21:Bool=>u21) else (b8 (bif (e4.Status==4) then (!s_2.Over) else false) fun u23:Bool=>u23)) fun u20:Bool=>u20)) fun u13:Bool=>u13)) fun u12:Bool=>some (.inr u12)) else (b8 (bif (e4.Status==1) then (b8 (bif (decide (e4.Due<s_2.Day)) then true else (b8 (bif s_2.Over then true else (b8 (bif (e4.Status==3) then (b8 (bif (decide (e4.Due≥s_2.Day)) then true else (b8 (bif (e4.Status==4) then (!s_2.Over) else false) fun u29:Bool=>u29)) fun u28:Bool=>u28) else (b8 (bif (e4.Status==4) then (!s_2.Over) else false) fun u30:Bool=>u30)) fun u27:Bool=>u27)) fun u26:Bool=>u26)) fun u25:Bool=>u25) else (b8 (bif (e4.Status==3) then (b8 (bif (decide (e4.Due≥s_2.Day)) then true else (b8 (bif (e4.Status==4) then (!s_2.Over) else false) fun u33:Bool=>u33)) fun u32:Bool=>u32) else (b8 (bif (e4.Status==4) then (!s_2.Over) else false) fun u34:Bool=>u34)) fun u31:Bool=>u31)) fun u24:Bool=>some (.inr u24))) fun u7:Bool=>bif u7 then (some false) else ((yC c_1 e4.Clause).bind fun r8=>aW (ρ:=Bool) (bif r8 then (some (.inr true)) else ((xN s_2 e4.Clause).bind fun r10=>some (.inr (r10==1)))) fun u9:Bool=>some u9))
noncomputable def yg (x_1:Int):Option Bool:=
 (cU x_1 (-1000000000) 1000000000).bind fun r2=>some r2
noncomputable def jo (list_1:List Int)(self:(Int×Int)→Option (Int⊕Int))(x2:Int×Int):Option (Int⊕Int):=
 bif (decide (x2.2<(len list_1))) then ((aK list_1 x2.2).bind fun e3=>self ((ar (x2.1+e3)),(ar (x2.2+1)))) else (some (.inr x2.1))
noncomputable def iI (list_1:List Int): (Int×Int)→Option (Int⊕Int):=aJ (jo list_1)
theorem wm (list_1:List Int): ∀a,Fin1 fun f=>jo list_1 f a:=by
 intro a
 unfold jo
 repeat first|exact aN|exact bo|refine bu ?_ ?_|refine bb ?_ (fun _=>?_)|refine ba ?_ (fun _=>?_)|refine bd ?_ (fun _=>?_)|refine br (fun _=>?_)
theorem Ab (list_1:List Int)(x:Int×Int):iI list_1 x=jo list_1 (iI list_1) x:=bx (wm list_1) x
noncomputable def rC (list_1:List Int):Option Int:=
 aW (ρ:=Int) (iI list_1 (0,0)) fun u4:Int=>some u4
noncomputable def kS (c_1:Contract)(s_2:State)(r5:(List ae))(self:Int→Option (Bool⊕Unit))(x6:Int):Option (Bool⊕Unit):=
 bif (decide (x6<(len s_2.Facts))) then ((aK s_2.Facts x6).bind fun e7=>(rj r5 e7).bind fun r8=>bif (!r8) then (some (.inl false)) else (self (ar (x6+1)))) else (some (.inr ()))
noncomputable def qN (c_1:Contract)(s_2:State)(r5:(List ae)):Int→Option (Bool⊕Unit):=aJ (kS c_1 s_2 r5)
theorem vH (c_1:Contract)(s_2:State)(r5:(List ae)):∀a,Fin1 fun f=>kS c_1 s_2 r5 f a:=by
 intro a
 unfold kS
 repeat first|exact aN|exact bo|refine bu ?_ ?_|refine bb ?_ (fun _=>?_)|refine ba ?_ (fun _=>?_)|refine bd ?_ (fun _=>?_)|refine br (fun _=>?_)
theorem KC (c_1:Contract)(s_2:State)(r5:(List ae))(x:Int):qN c_1 s_2 r5 x=kS c_1 s_2 r5 (qN c_1 s_2 r5) x:=bx (vH c_1 s_2 r5) x
noncomputable def jp (c_1:Contract)(s_2:State)(self:Int→Option (Bool⊕Unit))(x10:Int):Option (Bool⊕Unit):=
 bif (decide (x10<(len s_2.Duties))) then ((wD c_1 s_2 x10).bind fun r11=>bif (!r11) then (some (.inl false)) else (self (ar (x10+1)))) else (some (.inr ()))
noncomputable def li (c_1:Contract)(s_2:State): Int→Option (Bool⊕Unit):=aJ (jp c_1 s_2)
theorem vu (c_1:Contract)(s_2:State): ∀a,Fin1 fun f=>jp c_1 s_2 f a:=by
 intro a
 unfold jp
 repeat first|exact aN|exact bo|refine bu ?_ ?_|refine bb ?_ (fun _=>?_)|refine ba ?_ (fun _=>?_)|refine bd ?_ (fun _=>?_)|refine br (fun _=>?_)
theorem Bt (c_1:Contract)(s_2:State)(x:Int):li c_1 s_2 x=jp c_1 s_2 (li c_1 s_2) x:=bx (vu c_1 s_2) x
noncomputable def kN (c_1:Contract)(s_2:State)(self:Int→Option (Bool⊕Unit))(x13:Int):Option (Bool⊕Unit):=
 bif (decide (x13<(len s_2.Balances))) then ((aK s_2.Balances x13).bind fun e14=>(yg e14).bind fun r15=>bif (!r15) then (some (.inl false)) else (self (ar (x13+1)))) else (some (.inr ()))
noncomputable def qn (c_1:Contract)(s_2:State): Int→Option (Bool⊕Unit):=aJ (kN c_1 s_2)
theorem vB (c_1:Contract)(s_2:State): ∀a,Fin1 fun f=>kN c_1 s_2 f a:=by
 intro a
 unfold kN
 repeat first|exact aN|exact bo|refine bu ?_ ?_|refine bb ?_ (fun _=>?_)|refine ba ?_ (fun _=>?_)|refine bd ?_ (fun _=>?_)|refine br (fun _=>?_)
theorem K9 (c_1:Contract)(s_2:State)(x:Int):qn c_1 s_2 x=kN c_1 s_2 (qn c_1 s_2) x:=bx (vB c_1 s_2) x
noncomputable def sj (c_1:Contract)(s_2:State):Option Bool:=
 (yI c_1).bind fun r3=>aW (ρ:=Bool) (bif (!r3) then (some (.inr true)) else ((om s_2.Day).bind fun r18=>bM (ρ:=Bool) (bif (!r18) then (some (.inr true)) else ((xV s_2.Facts).bind fun r20=>b8 (bif (!r20) then true else (b8 (bif (decide ((len s_2.Duties)>24)) then true else ((len s_2.Balances) != (len c_1.Parties))) fun u22:Bool=>u22)) fun u21:Bool=>some (.inr u21))) fun u19:Bool=>some (.inr u19))) fun u4:Bool=>bif u4 then (some false) else ((nr c_1).bind fun r5=>aW (ρ:=Bool) (qN c_1 s_2 r5 0) fun u9:Unit=>aW (ρ:=Bool) (li c_1 s_2 0) fun u12:Unit=>aW (ρ:=Bool) (qn c_1 s_2 0) fun u16:Unit=>(rC s_2.Balances).bind fun r17=>some (r17==0))
noncomputable def DM (c_1:Contract)(s_2:State):Option Bool:=
 (sj c_1 s_2).bind fun r3=>some r3
noncomputable def kd (n_1:Int)(low_2:Int)(high_3:Int):Option Bool:=
 b8 (bif (decide (n_1≥low_2)) then (decide (n_1≤high_3)) else false) fun u4:Bool=>some u4
noncomputable def Nl (s_1:ae)(c_2:Int):Option Int:=
 (oP s_1 c_2).bind fun r3=>some r3
noncomputable def M3 (s_1:ae)(substr_2:ae):Option Int:=
 b8 (bif ((len substr_2)==0) then true else (substr_2==s_1)) fun u3:Bool=>bif u3 then (some 0) else (bif ((len substr_2)==1) then ((aK substr_2 0).bind fun c4=>(Nl s_1 (c4.toNat:Int)).bind fun r5=>some r5) else (bif (decide ((len substr_2)≥(len s_1))) then (some (-1)) else none))
noncomputable def Du (s_1:ae)(substr_2:ae):Option Int:=
 (M3 s_1 substr_2).bind fun r3=>some r3
noncomputable def pB (s_1:ae)(substr_2:ae)(self:(ae×Int)→Option (Int⊕Unit))(x5:ae×Int):Option (Int⊕Unit):=
 (Du x5.1 substr_2).bind fun r6=>bif (r6==(-1)) then (some (.inl x5.2)) else ((nq x5.1 (ar (r6+(len substr_2))) (len x5.1)).bind fun s7=>self (s7,(ar (x5.2+1))))
noncomputable def Jq (s_1:ae)(substr_2:ae): (ae×Int)→Option (Int⊕Unit):=aJ (pB s_1 substr_2)
theorem IU (s_1:ae)(substr_2:ae): ∀a,Fin1 fun f=>pB s_1 substr_2 f a:=by
 intro a
 unfold pB
 repeat first|exact aN|exact bo|refine bu ?_ ?_|refine bb ?_ (fun _=>?_)|refine ba ?_ (fun _=>?_)|refine bd ?_ (fun _=>?_)|refine br (fun _=>?_)
noncomputable def G4 (s_1:ae)(substr_2:ae):Option Int:=
 bif ((len substr_2)==0) then none else (bif ((len substr_2)==1) then ((aK substr_2 0).bind fun c3=>(ul s_1 (c3.toNat:Int)).bind fun r4=>some r4) else (aW (ρ:=Int) (Jq s_1 substr_2 (s_1,0)) fun u8:Unit=>none))
noncomputable def po (s_1:ae)(sep_2:ae)(sepSave_3:Int)(n_4:Int)(u5:Int)(self:(ae×Int×(List ae))→Option ((List ae)⊕(ae×Int×(List ae))))(x7:ae×Int×(List ae)):Option ((List ae)⊕(ae×Int×(List ae))):=
 bif (decide (x7.2.1<(ar ((if (ar ((len s_1)+1))<u5 then (ar ((len s_1)+1)) else u5) - 1)))) then ((Du x7.1 sep_2).bind fun r8=>bif (decide (r8<0)) then (some (.inr (x7.1,x7.2.1,x7.2.2))) else ((nq x7.1 0 (ar (r8+sepSave_3))).bind fun s9=>(aK x7.2.2 x7.2.1).bind fun e10=>(nq x7.1 (ar (r8+(len sep_2))) (len x7.1)).bind fun s11=>self (s11,(ar (x7.2.1+1)),(eu x7.2.2 x7.2.1 s9)))) else (some (.inr (x7.1,x7.2.1,x7.2.2)))
noncomputable def vf (s_1:ae)(sep_2:ae)(sepSave_3:Int)(n_4:Int)(u5:Int):(ae×Int×(List ae))→Option ((List ae)⊕(ae×Int×(List ae))):=aJ (po s_1 sep_2 sepSave_3 n_4 u5)
theorem v8 (s_1:ae)(sep_2:ae)(sepSave_3:Int)(n_4:Int)(u5:Int):∀a,Fin1 fun f=>po s_1 sep_2 sepSave_3 n_4 u5 f a:=by
 intro a
 unfold po
 repeat first|exact aN|exact bo|refine bu ?_ ?_|refine bb ?_ (fun _=>?_)|refine ba ?_ (fun _=>?_)|refine bd ?_ (fun _=>?_)|refine br (fun _=>?_)
noncomputable def HN (s_1:ae)(sep_2:ae)(sepSave_3:Int)(n_4:Int):Option (List ae):=
 bif (n_4==0) then (some []) else (bif (sep_2==([]:ae)) then none else (aW (ρ:=(List ae)) (bif (decide (n_4<0)) then ((G4 s_1 sep_2).bind fun r16=>some (.inr (ar (r16+1)))) else (some (.inr n_4))) fun u5:Int=>(o9 16 [] (if (ar ((len s_1)+1))<u5 then (ar ((len s_1)+1)) else u5)).bind fun m6=>aW (ρ:=(List ae)) (vf s_1 sep_2 sepSave_3 n_4 u5 (s_1,0,m6)) fun u12:ae×Int×(List ae)=>(aK u12.2.2 u12.2.1).bind fun e13=>(gp (eu u12.2.2 u12.2.1 u12.1).length 0 (ar (u12.2.1+1))).bind fun s14=>(gE (eu u12.2.2 u12.2.1 u12.1) (0+Int.toNat (0)) (Int.toNat (ar (u12.2.1+1)) - Int.toNat (0))).bind fun p15=>some p15))
noncomputable def xD (s_1:ae)(sep_2:ae):Option (List ae):=
 (HN s_1 sep_2 0 (-1)).bind fun r3=>some r3
noncomputable def jq (s_1:List ae)(v_2:ae)(self:Int→Option (Int⊕Unit))(x3:Int):Option (Int⊕Unit):=
 bif (decide (x3<(len s_1))) then ((aK s_1 x3).bind fun e4=>bif (v_2==e4) then (some (.inl x3)) else (self (ar (x3+1)))) else (some (.inr ()))
noncomputable def nY (s_1:List ae)(v_2:ae): Int→Option (Int⊕Unit):=aJ (jq s_1 v_2)
theorem vy (s_1:List ae)(v_2:ae): ∀a,Fin1 fun f=>jq s_1 v_2 f a:=by
 intro a
 unfold jq
 repeat first|exact aN|exact bo|refine bu ?_ ?_|refine bb ?_ (fun _=>?_)|refine ba ?_ (fun _=>?_)|refine bd ?_ (fun _=>?_)|refine br (fun _=>?_)
theorem Ar (s_1:List ae)(v_2:ae)(x:Int):nY s_1 v_2 x=jq s_1 v_2 (nY s_1 v_2) x:=bx (vy s_1 v_2) x
noncomputable def xS (s_1:List ae)(v_2:ae):Option Int:=
 aW (ρ:=Int) (nY s_1 v_2 0) fun u5:Unit=>some (-1)
noncomputable def oD (s_1:List ae)(v_2:ae):Option Bool:=
 (xS s_1 v_2).bind fun r3=>some (decide (r3≥0))
noncomputable def mf (s_1:ae)(self:Int→Option (Bool⊕Unit))(x4:Int):Option (Bool⊕Unit):=
 bif (decide (x4<(len s_1))) then ((aK s_1 x4).bind fun c5=>b8 (bif (decide ((c5.toNat:Int)<97)) then (b8 (bif (decide ((c5.toNat:Int)<48)) then true else (decide ((c5.toNat:Int)>57))) fun u7:Bool=>u7) else (b8 (bif (decide ((c5.toNat:Int)>122)) then (b8 (bif (decide ((c5.toNat:Int)<48)) then true else (decide ((c5.toNat:Int)>57))) fun u9:Bool=>u9) else false) fun u8:Bool=>u8)) fun u6:Bool=>bif u6 then (some (.inl false)) else (self (ar (x4+1)))) else (some (.inr ()))
noncomputable def ue (s_1:ae): Int→Option (Bool⊕Unit):=aJ (mf s_1)
theorem CN (s_1:ae): ∀a,Fin1 fun f=>mf s_1 f a:=by
 intro a
 unfold mf
 repeat first|exact aN|exact bo|refine bu ?_ ?_|refine bb ?_ (fun _=>?_)|refine ba ?_ (fun _=>?_)|refine bd ?_ (fun _=>?_)|refine br (fun _=>?_)
theorem Np (s_1:ae)(x:Int):ue s_1 x=mf s_1 (ue s_1) x:=bx (CN s_1) x
noncomputable def sP (s_1:ae):Option Bool:=
 (kd (len s_1) 1 8).bind fun r2=>aW (ρ:=Bool) (bif (!r2) then (some (.inr true)) else ((aK s_1 0).bind fun c13=>bM (ρ:=Bool) (bif (decide ((c13.toNat:Int)<97)) then (some (.inr true)) else ((aK s_1 0).bind fun c15=>some (.inr (decide ((c15.toNat:Int)>122))))) fun u14:Bool=>some (.inr u14))) fun u3:Bool=>bif u3 then (some false) else (aW (ρ:=Bool) (ue s_1 0) fun u10:Unit=>(xD ([116,114,117,101,32,102,114,111,109,32,110,111,116,32,97,110,100,32,111,114,32,98,111,116,104,32,101,105,116,104,101,114,32,105,116,32,105,110]:ae) ([32]:ae)).bind fun r11=>(oD r11 s_1).bind fun r12=>some (!r12))
noncomputable def kE (list_1:List ae)(self:Int→Option (Bool⊕Unit))(x2:Int):Option (Bool⊕Unit):=
 bif (decide (x2<(len list_1))) then ((aK list_1 x2).bind fun e3=>(sP e3).bind fun r4=>bM (ρ:=Bool) (bif (!r4) then (some (.inr true)) else ((nq list_1 0 x2).bind fun s6=>(oD s6 e3).bind fun r7=>some (.inr r7))) fun u5:Bool=>bif u5 then (some (.inl false)) else (self (ar (x2+1)))) else (some (.inr ()))
noncomputable def tV (list_1:List ae): Int→Option (Bool⊕Unit):=aJ (kE list_1)
theorem yW (list_1:List ae): ∀a,Fin1 fun f=>kE list_1 f a:=by
 intro a
 unfold kE
 repeat first|exact aN|exact bo|refine bu ?_ ?_|refine bb ?_ (fun _=>?_)|refine ba ?_ (fun _=>?_)|refine bd ?_ (fun _=>?_)|refine br (fun _=>?_)
theorem EB (list_1:List ae)(x:Int):tV list_1 x=kE list_1 (tV list_1) x:=bx (yW list_1) x
noncomputable def F2 (list_1:List ae):Option Bool:=
 aW (ρ:=Bool) (tV list_1 0) fun u8:Unit=>(kd (len list_1) 2 4).bind fun r9=>some r9
noncomputable def Mm (x_1:Clause)(a_2:ae):Option Bool:=
 some (x_1.Id==a_2)
noncomputable def lf (s_1:List Clause)(f_2:ae)(self:Int→Option (Int⊕Unit))(x3:Int):Option (Int⊕Unit):=
 bif (decide (x3<(len s_1))) then ((aK s_1 x3).bind fun e4=>(Mm e4 f_2).bind fun r5=>bif r5 then (some (.inl x3)) else (self (ar (x3+1)))) else (some (.inr ()))
noncomputable def re (s_1:List Clause)(f_2:ae): Int→Option (Int⊕Unit):=aJ (lf s_1 f_2)
theorem vp (s_1:List Clause)(f_2:ae): ∀a,Fin1 fun f=>lf s_1 f_2 f a:=by
 intro a
 unfold lf
 repeat first|exact aN|exact bo|refine bu ?_ ?_|refine bb ?_ (fun _=>?_)|refine ba ?_ (fun _=>?_)|refine bd ?_ (fun _=>?_)|refine br (fun _=>?_)
theorem KO (s_1:List Clause)(f_2:ae)(x:Int):re s_1 f_2 x=lf s_1 f_2 (re s_1 f_2) x:=bx (vp s_1 f_2) x
noncomputable def DV (s_1:List Clause)(f_2:ae):Option Int:=
 aW (ρ:=Int) (re s_1 f_2 0) fun u6:Unit=>some (-1)
noncomputable def CV (c_1:Contract)(id_2:ae):Option Int:=
 (DV c_1.Clauses id_2).bind fun r3=>some r3
noncomputable def md (day_1:Int):Option Bool:=
 (kd day_1 0 36524).bind fun r2=>some r2
noncomputable def jg (slf_Ffi:(Condition×Int)→Option Int)(c_1:Condition)(so_2:Int)(self:(Int×Int)→Option (Int⊕Int))(x5:Int×Int):Option (Int⊕Int):=
 bif (decide (x5.2<(len c_1.Parts))) then ((aK c_1.Parts x5.2).bind fun e6=>(slf_Ffi (e6,x5.1)).bind fun r7=>bif (decide (r7<0)) then (some (.inl (-1))) else (self (r7,(ar (x5.2+1))))) else (some (.inr x5.1))
noncomputable def ke (slf_Ffi:(Condition×Int)→Option Int)(c_1:Condition)(so_2:Int): (Int×Int)→Option (Int⊕Int):=aJ (jg slf_Ffi c_1 so_2)
theorem zK (slf_Ffi:(Condition×Int)→Option Int)(c_1:Condition)(so_2:Int): ∀a,Fin1 fun f=>jg slf_Ffi c_1 so_2 f a:=by
 intro a
 unfold jg
 repeat first|exact aN|exact bo|refine bu ?_ ?_|refine bb ?_ (fun _=>?_)|refine ba ?_ (fun _=>?_)|refine bd ?_ (fun _=>?_)|refine br (fun _=>?_)
theorem Eh (slf_Ffi:(Condition×Int)→Option Int)(c_1:Condition)(so_2:Int)(x:Int×Int):ke slf_Ffi c_1 so_2 x=jg slf_Ffi c_1 so_2 (ke slf_Ffi c_1 so_2) x:=bx (zK slf_Ffi c_1 so_2) x
noncomputable def uX (slf_Ffi:(Condition×Int)→Option Int)(c_1:Condition)(so_2:Int):Option Int:=
 aW (ρ:=Int) (bif (decide ((ar (so_2+1))>15)) then (some (.inr true)) else ((kd c_1.Op 1 6).bind fun r20=>bM (ρ:=Int) (bif (!r20) then (some (.inr true)) else ((aK [(-1),0,0,0,1,2,2] c_1.Op).bind fun e22=>some (.inr ((len c_1.Parts) != e22)))) fun u21:Bool=>some (.inr u21))) fun u3:Bool=>bif u3 then (some (-1)) else (aW (ρ:=Int) (bif (!((c_1.Op==2)==(!(c_1.Name==([]:ae))))) then (some (.inr true)) else (bM (ρ:=Int) (bif (c_1.Op==2) then ((sP c_1.Name).bind fun r10=>bM (ρ:=Int) (bif (!r10) then (some (.inr true)) else (bM (ρ:=Int) (bif (c_1.Op != 3) then (bM (ρ:=Int) (bif (c_1.Day != 0) then (some (.inr true)) else ((md c_1.Day).bind fun r14=>some (.inr (!r14)))) fun u13:Bool=>some (.inr u13)) else ((md c_1.Day).bind fun r15=>some (.inr (!r15)))) fun u12:Bool=>some (.inr u12))) fun u11:Bool=>some (.inr u11)) else (bM (ρ:=Int) (bif (c_1.Op != 3) then (bM (ρ:=Int) (bif (c_1.Day != 0) then (some (.inr true)) else ((md c_1.Day).bind fun r18=>some (.inr (!r18)))) fun u17:Bool=>some (.inr u17)) else ((md c_1.Day).bind fun r19=>some (.inr (!r19)))) fun u16:Bool=>some (.inr u16))) fun u9:Bool=>some (.inr u9))) fun u4:Bool=>bif u4 then (some (-1)) else (aW (ρ:=Int) (ke slf_Ffi c_1 so_2 ((ar (so_2+1)),0)) fun u8:Int=>some u8))
noncomputable def kn (slf_Ffi:(Condition×Int)→Option Int)(x:Condition×Int):Option Int:=uX slf_Ffi x.1 x.2
noncomputable def Oh (c_1:Condition)(so_2:Int):Option Int:=aJ kn (c_1,so_2)
theorem SH:∀x,Fin1 fun slf_Ffi=>kn slf_Ffi x:=by
 intro x
 unfold kn uX
 repeat first|exact aN|exact bo|exact iO|exact kW|exact gt|exact jF|exact hP|exact gY|refine bu ?_ ?_|refine bb ?_ (fun _=>?_)|refine ba ?_ (fun _=>?_)|refine bd ?_ (fun _=>?_)|refine br (fun _=>?_)|refine pf (fun _=>?_) | unfold ke | unfold jg
theorem Vy (c_1:Condition)(so_2:Int):Oh c_1 so_2=uX (aJ kn) c_1 so_2:=bx SH (c_1,so_2)
noncomputable def F6 (c_1:Condition):Option Bool:=
 (Oh c_1 0).bind fun r2=>some (decide (r2>0))
noncomputable def HG (c_1:Contract)(i_2:Int):Option Bool:=
 (aK c_1.Clauses i_2).bind fun e3=>(sP e3.Id).bind fun r4=>aW (ρ:=Bool) (bif (!r4) then (some (.inr true)) else ((CV c_1 e3.Id).bind fun r23=>bM (ρ:=Bool) (bif (r23 != i_2) then (some (.inr true)) else ((sP e3.Action).bind fun r25=>bM (ρ:=Bool) (bif (!r25) then (some (.inr true)) else ((kd e3.Kind 1 4).bind fun r27=>some (.inr (!r27)))) fun u26:Bool=>some (.inr u26))) fun u24:Bool=>some (.inr u24))) fun u5:Bool=>bif u5 then (some false) else ((kd e3.Party 0 (ar ((len c_1.Parties) - 1))).bind fun r6=>aW (ρ:=Bool) (bif (!r6) then (some (.inr true)) else ((kd e3.Other 0 (ar ((len c_1.Parties) - 1))).bind fun r19=>bM (ρ:=Bool) (bif (!r19) then (some (.inr true)) else (bM (ρ:=Bool) (bif (e3.Party==e3.Other) then (some (.inr true)) else ((F6 e3.When).bind fun r22=>some (.inr (!r22)))) fun u21:Bool=>some (.inr u21))) fun u20:Bool=>some (.inr u20))) fun u7:Bool=>bif u7 then (some false) else ((kd e3.Amount 0 1000000).bind fun r8=>aW (ρ:=Bool) (bif (!r8) then (some (.inr true)) else ((kd e3.Within 0 400).bind fun r15=>b8 (bif (!r15) then true else (b8 (bif (e3.Kind != 1) then (b8 (bif (e3.Amount != 0) then true else (e3.Within != 0)) fun u18:Bool=>u18) else false) fun u17:Bool=>u17)) fun u16:Bool=>some (.inr u16))) fun u9:Bool=>bif u9 then (some false) else (bif (e3.Repair==([]:ae)) then (some true) else ((CV c_1 e3.Repair).bind fun r10=>aW (ρ:=Bool) (bif (e3.Kind != 3) then (bM (ρ:=Bool) (bif (decide (r10≥0)) then (bM (ρ:=Bool) (bif (r10 != i_2) then ((aK c_1.Clauses r10).bind fun e14=>some (.inr (e14.Kind==1))) else (some (.inr false))) fun u13:Bool=>some (.inr u13)) else (some (.inr false))) fun u12:Bool=>some (.inr u12)) else (some (.inr false))) fun u11:Bool=>some u11))))
noncomputable def i7 (slf_Ffe:(Condition×(List ae))→Option (List ae))(c_3:Condition)(list_4:List ae)(self:(Int×(List ae))→Option ((List ae)⊕(List ae)))(x4:Int×(List ae)):Option ((List ae)⊕(List ae)):=
 bif (decide (x4.1<(len c_3.Parts))) then ((aK c_3.Parts x4.1).bind fun e5=>(slf_Ffe (e5,x4.2)).bind fun r6=>self ((ar (x4.1+1)),r6)) else (some (.inr x4.2))
noncomputable def lL (slf_Ffe:(Condition×(List ae))→Option (List ae))(c_3:Condition)(list_4:List ae): (Int×(List ae))→Option ((List ae)⊕(List ae)):=aJ (i7 slf_Ffe c_3 list_4)
theorem Bk (slf_Ffe:(Condition×(List ae))→Option (List ae))(c_3:Condition)(list_4:List ae): ∀a,Fin1 fun f=>i7 slf_Ffe c_3 list_4 f a:=by
 intro a
 unfold i7
 repeat first|exact aN|exact bo|refine bu ?_ ?_|refine bb ?_ (fun _=>?_)|refine ba ?_ (fun _=>?_)|refine bd ?_ (fun _=>?_)|refine br (fun _=>?_)
theorem EN (slf_Ffe:(Condition×(List ae))→Option (List ae))(c_3:Condition)(list_4:List ae)(x:Int×(List ae)):lL slf_Ffe c_3 list_4 x=i7 slf_Ffe c_3 list_4 (lL slf_Ffe c_3 list_4) x:=bx (Bk slf_Ffe c_3 list_4) x
noncomputable def uV (slf_Ffe:(Condition×(List ae))→Option (List ae))(c_3:Condition)(list_4:List ae):Option (List ae):=
 aW (ρ:=(List ae)) (bif (c_3.Op==2) then ((kw 16 list_4 [c_3.Name]).bind fun a8=>some (.inr a8)) else (some (.inr list_4))) fun u3:(List ae)=>aW (ρ:=(List ae)) (lL slf_Ffe c_3 list_4 (0,u3)) fun u7:(List ae)=>some u7
noncomputable def lA (slf_Ffe:(Condition×(List ae))→Option (List ae))(x:Condition×(List ae)):Option (List ae):=uV slf_Ffe x.1 x.2
noncomputable def M8 (c_3:Condition)(list_4:List ae):Option (List ae):=aJ lA (c_3,list_4)
theorem TA:∀x,Fin1 fun slf_Ffe=>lA slf_Ffe x:=by
 intro x
 unfold lA uV
 repeat first|exact aN|exact bo|exact iO|exact kW|exact gt|exact jF|exact hP|exact gY|refine bu ?_ ?_|refine bb ?_ (fun _=>?_)|refine ba ?_ (fun _=>?_)|refine bd ?_ (fun _=>?_)|refine br (fun _=>?_)|refine pf (fun _=>?_) | unfold lL | unfold i7
theorem UC (c_3:Condition)(list_4:List ae):M8 c_3 list_4=uV (aJ lA) c_3 list_4:=bx TA (c_3,list_4)
noncomputable def jd (s_2:List ae)(x2:Int)(self:(Int×Int×(List ae))→Option ((List ae)⊕(Int×(List ae))))(x6:Int×Int×(List ae)):Option ((List ae)⊕(Int×(List ae))):=
 bif (decide (x6.2.1<(((Int.toNat (len s_2) - Int.toNat x2):Nat):Int))) then ((rQ x6.2.2 (0+Int.toNat x2) (Int.toNat (len s_2) - Int.toNat x2) x6.2.1).bind fun e7=>(rQ x6.2.2 (0+Int.toNat x2) (Int.toNat (len s_2) - Int.toNat x2) (ar (x6.2.1 - 1))).bind fun e8=>bM (ρ:=(List ae)) (bif (!(e7==e8)) then ((rQ x6.2.2 (0+Int.toNat x2) (Int.toNat (len s_2) - Int.toNat x2) x6.2.1).bind fun e10=>(aK x6.2.2 x6.1).bind fun e11=>some (.inr ((ar (x6.1+1)),(eu x6.2.2 x6.1 e10)))) else (some (.inr (x6.1,x6.2.2)))) fun u9:Int×(List ae)=>self (u9.1,(ar (x6.2.1+1)),u9.2)) else (some (.inr (x6.1,x6.2.2)))
noncomputable def iL (s_2:List ae)(x2:Int):(Int×Int×(List ae))→Option ((List ae)⊕(Int×(List ae))):=aJ (jd s_2 x2)
theorem vq (s_2:List ae)(x2:Int):∀a,Fin1 fun f=>jd s_2 x2 f a:=by
 intro a
 unfold jd
 repeat first|exact aN|exact bo|refine bu ?_ ?_|refine bb ?_ (fun _=>?_)|refine ba ?_ (fun _=>?_)|refine bd ?_ (fun _=>?_)|refine br (fun _=>?_)
theorem Bj (s_2:List ae)(x2:Int)(x:Int×Int×(List ae)):iL s_2 x2 x=jd s_2 x2 (iL s_2 x2) x:=bx (vq s_2 x2) x
noncomputable def jh (s_2:List ae)(self:Int→Option ((List ae)⊕(List ae)))(x2:Int):Option ((List ae)⊕(List ae)):=
 bif (decide (x2<(len s_2))) then ((aK s_2 x2).bind fun e3=>(aK s_2 (ar (x2 - 1))).bind fun e4=>bif (e3==e4) then ((gp s_2.length x2 (len s_2)).bind fun s5=>bM (ρ:=(List ae)) (iL s_2 x2 (x2,1,s_2)) fun u15:Int×(List ae)=>(gp u15.2.length u15.1 (len u15.2)).bind fun s16=>(uC u15.2 (0+Int.toNat u15.1) (Int.toNat (len u15.2) - Int.toNat u15.1) []).bind fun k17=>(gp k17.length 0 u15.1).bind fun s18=>(gE k17 (0+Int.toNat (0)) (Int.toNat u15.1 - Int.toNat (0))).bind fun p19=>some (.inl p19)) else (self (ar (x2+1)))) else (some (.inr s_2))
noncomputable def oc (s_2:List ae): Int→Option ((List ae)⊕(List ae)):=aJ (jh s_2)
theorem vP (s_2:List ae): ∀a,Fin1 fun f=>jh s_2 f a:=by
 intro a
 unfold jh
 repeat first|exact aN|exact bo|refine bu ?_ ?_|refine bb ?_ (fun _=>?_)|refine ba ?_ (fun _=>?_)|refine bd ?_ (fun _=>?_)|refine br (fun _=>?_)
theorem CJ (s_2:List ae)(x:Int):oc s_2 x=jh s_2 (oc s_2) x:=bx (vP s_2) x
noncomputable def xc (s_2:List ae):Option (List ae):=
 bif (decide ((len s_2)<2)) then (some s_2) else (aW (ρ:=(List ae)) (oc s_2 1) fun u20:(List ae)=>some u20)
noncomputable def Gi (list_5:List ae):Option (List ae):=
 (qG list_5).bind fun r2=>bif Nat.beq r2.length list_5.length then ((xc r2).bind fun r4=>some r4) else none
noncomputable def kD (c_1:Contract)(self:(Int×(List ae))→Option ((List ae)⊕(List ae)))(x2:Int×(List ae)):Option ((List ae)⊕(List ae)):=
 bif (decide (x2.1<(len c_1.Clauses))) then ((aK c_1.Clauses x2.1).bind fun e3=>(kw 16 x2.2 [e3.Action]).bind fun a4=>(M8 e3.When a4).bind fun r5=>self ((ar (x2.1+1)),r5)) else (some (.inr x2.2))
noncomputable def ni (c_1:Contract): (Int×(List ae))→Option ((List ae)⊕(List ae)):=aJ (kD c_1)
theorem BW (c_1:Contract): ∀a,Fin1 fun f=>kD c_1 f a:=by
 intro a
 unfold kD
 repeat first|exact aN|exact bo|refine bu ?_ ?_|refine bb ?_ (fun _=>?_)|refine ba ?_ (fun _=>?_)|refine bd ?_ (fun _=>?_)|refine br (fun _=>?_)
theorem En (c_1:Contract)(x:Int×(List ae)):ni c_1 x=kD c_1 (ni c_1) x:=bx (BW c_1) x
noncomputable def vI (c_1:Contract):Option (List ae):=
 aW (ρ:=(List ae)) (ni c_1 (0,[])) fun u6:(List ae)=>(Gi u6).bind fun r7=>some r7
noncomputable def kB (c_1:Contract)(self:Int→Option (Bool⊕Unit))(x4:Int):Option (Bool⊕Unit):=
 bif (decide (x4<(len c_1.Clauses))) then ((HG c_1 x4).bind fun r5=>bif (!r5) then (some (.inl false)) else (self (ar (x4+1)))) else (some (.inr ()))
noncomputable def lI (c_1:Contract): Int→Option (Bool⊕Unit):=aJ (kB c_1)
theorem BH (c_1:Contract): ∀a,Fin1 fun f=>kB c_1 f a:=by
 intro a
 unfold kB
 repeat first|exact aN|exact bo|refine bu ?_ ?_|refine bb ?_ (fun _=>?_)|refine ba ?_ (fun _=>?_)|refine bd ?_ (fun _=>?_)|refine br (fun _=>?_)
theorem D9 (c_1:Contract)(x:Int):lI c_1 x=kB c_1 (lI c_1) x:=bx (BH c_1) x
noncomputable def GR (c_1:Contract):Option Bool:=
 (F2 c_1.Parties).bind fun r2=>aW (ρ:=Bool) (bif (!r2) then (some (.inr true)) else ((kd (len c_1.Clauses) 1 12).bind fun r8=>some (.inr (!r8)))) fun u3:Bool=>bif u3 then (some false) else (aW (ρ:=Bool) (lI c_1 0) fun u6:Unit=>(vI c_1).bind fun r7=>some (decide ((len r7)≤16)))
noncomputable def kv (facts_1:List ae)(self:Int→Option (Bool⊕Unit))(x2:Int):Option (Bool⊕Unit):=
 bif (decide (x2<(len facts_1))) then ((aK facts_1 x2).bind fun e3=>(sP e3).bind fun r4=>bM (ρ:=Bool) (bif (!r4) then (some (.inr true)) else (bM (ρ:=Bool) (bif (decide (x2>0)) then ((aK facts_1 (ar (x2 - 1))).bind fun e7=>some (.inr (Op.bytesLess e3 e7||e3==e7))) else (some (.inr false))) fun u6:Bool=>some (.inr u6))) fun u5:Bool=>bif u5 then (some (.inl false)) else (self (ar (x2+1)))) else (some (.inr ()))
noncomputable def lR (facts_1:List ae): Int→Option (Bool⊕Unit):=aJ (kv facts_1)
theorem BE (facts_1:List ae): ∀a,Fin1 fun f=>kv facts_1 f a:=by
 intro a
 unfold kv
 repeat first|exact aN|exact bo|refine bu ?_ ?_|refine bb ?_ (fun _=>?_)|refine ba ?_ (fun _=>?_)|refine bd ?_ (fun _=>?_)|refine br (fun _=>?_)
theorem Eg (facts_1:List ae)(x:Int):lR facts_1 x=kv facts_1 (lR facts_1) x:=bx (BE facts_1) x
noncomputable def HS (facts_1:List ae):Option Bool:=
 aW (ρ:=Bool) (lR facts_1 0) fun u8:Unit=>some (decide ((len facts_1)≤16))
noncomputable def G8 (f_1:ae)(a_2:List ae):Option Bool:=
 (oD a_2 f_1).bind fun r3=>some (!r3)
noncomputable def lh (s_1:List ae)(f_2:(List ae))(self:Int→Option (Int⊕Unit))(x3:Int):Option (Int⊕Unit):=
 bif (decide (x3<(len s_1))) then ((aK s_1 x3).bind fun e4=>(G8 e4 f_2).bind fun r5=>bif r5 then (some (.inl x3)) else (self (ar (x3+1)))) else (some (.inr ()))
noncomputable def qO (s_1:List ae)(f_2:(List ae)): Int→Option (Int⊕Unit):=aJ (lh s_1 f_2)
theorem wt (s_1:List ae)(f_2:(List ae)): ∀a,Fin1 fun f=>lh s_1 f_2 f a:=by
 intro a
 unfold lh
 repeat first|exact aN|exact bo|refine bu ?_ ?_|refine bb ?_ (fun _=>?_)|refine ba ?_ (fun _=>?_)|refine bd ?_ (fun _=>?_)|refine br (fun _=>?_)
theorem Ll (s_1:List ae)(f_2:(List ae))(x:Int):qO s_1 f_2 x=lh s_1 f_2 (qO s_1 f_2) x:=bx (wt s_1 f_2) x
noncomputable def DD (s_1:List ae)(f_2:(List ae)):Option Int:=
 aW (ρ:=Int) (qO s_1 f_2 0) fun u6:Unit=>some (-1)
noncomputable def Df (s_1:List ae)(f_2:(List ae)):Option Bool:=
 (DD s_1 f_2).bind fun r3=>some (decide (r3≥0))
noncomputable def rD (list_1:List Int)(self:(Int×Int)→Option (Int⊕Int))(x2:Int×Int):Option (Int⊕Int):=
 bif (decide (x2.2<(len list_1))) then ((aK list_1 x2.2).bind fun e3=>self ((ar (x2.1+e3)),(ar (x2.2+1)))) else (some (.inr x2.1))
noncomputable def HK (list_1:List Int): (Int×Int)→Option (Int⊕Int):=aJ (rD list_1)
theorem KL (list_1:List Int): ∀a,Fin1 fun f=>rD list_1 f a:=by
 intro a
 unfold rD
 repeat first|exact aN|exact bo|refine bu ?_ ?_|refine bb ?_ (fun _=>?_)|refine ba ?_ (fun _=>?_)|refine bd ?_ (fun _=>?_)|refine br (fun _=>?_)
noncomputable def Eb (list_1:List Int):Option Int:=
 aW (ρ:=Int) (HK list_1 (0,0)) fun u4:Int=>some u4
noncomputable def Gj (x_1:Clause)(a_2:Contract)(a_3:Int):Option Bool:=
 (aK a_2.Clauses a_3).bind fun e4=>some (x_1.Repair==e4.Id)
noncomputable def kV (s_1:List Clause)(f_2:Contract×Int)(self:Int→Option (Int⊕Unit))(x3:Int):Option (Int⊕Unit):=
 bif (decide (x3<(len s_1))) then ((aK s_1 x3).bind fun e4=>(Gj e4 f_2.1 f_2.2).bind fun r5=>bif r5 then (some (.inl x3)) else (self (ar (x3+1)))) else (some (.inr ()))
noncomputable def qz (s_1:List Clause)(f_2:Contract×Int): Int→Option (Int⊕Unit):=aJ (kV s_1 f_2)
theorem wn (s_1:List Clause)(f_2:Contract×Int): ∀a,Fin1 fun f=>kV s_1 f_2 f a:=by
 intro a
 unfold kV
 repeat first|exact aN|exact bo|refine bu ?_ ?_|refine bb ?_ (fun _=>?_)|refine ba ?_ (fun _=>?_)|refine bd ?_ (fun _=>?_)|refine br (fun _=>?_)
theorem Lu (s_1:List Clause)(f_2:Contract×Int)(x:Int):qz s_1 f_2 x=kV s_1 f_2 (qz s_1 f_2) x:=bx (wn s_1 f_2) x
noncomputable def Dn (s_1:List Clause)(f_2:Contract×Int):Option Int:=
 aW (ρ:=Int) (qz s_1 f_2 0) fun u6:Unit=>some (-1)
noncomputable def Dg (s_1:List Clause)(f_2:Contract×Int):Option Bool:=
 (Dn s_1 (f_2.1,f_2.2)).bind fun r3=>some (decide (r3≥0))
noncomputable def Ge (c_1:Contract)(i_2:Int):Option Bool:=
 (Dg c_1.Clauses (c_1,i_2)).bind fun r3=>some r3
noncomputable def Jw (other_1:Duty)(a_2:Duty):Option Bool:=
 some (other_1.Clause==a_2.Clause)
noncomputable def kY (s_1:List Duty)(f_2:Duty)(self:Int→Option (Int⊕Unit))(x3:Int):Option (Int⊕Unit):=
 bif (decide (x3<(len s_1))) then ((aK s_1 x3).bind fun e4=>(Jw e4 f_2).bind fun r5=>bif r5 then (some (.inl x3)) else (self (ar (x3+1)))) else (some (.inr ()))
noncomputable def qo (s_1:List Duty)(f_2:Duty): Int→Option (Int⊕Unit):=aJ (kY s_1 f_2)
theorem wv (s_1:List Duty)(f_2:Duty): ∀a,Fin1 fun f=>kY s_1 f_2 f a:=by
 intro a
 unfold kY
 repeat first|exact aN|exact bo|refine bu ?_ ?_|refine bb ?_ (fun _=>?_)|refine ba ?_ (fun _=>?_)|refine bd ?_ (fun _=>?_)|refine br (fun _=>?_)
theorem JZ (s_1:List Duty)(f_2:Duty)(x:Int):qo s_1 f_2 x=kY s_1 f_2 (qo s_1 f_2) x:=bx (wv s_1 f_2) x
noncomputable def Dy (s_1:List Duty)(f_2:Duty):Option Int:=
 aW (ρ:=Int) (qo s_1 f_2 0) fun u6:Unit=>some (-1)
noncomputable def DZ (s_1:List Duty)(f_2:Duty):Option Bool:=
 (Dy s_1 f_2).bind fun r3=>some (decide (r3≥0))
noncomputable def HC (c_1:Contract)(s_2:State)(i_3:Int):Option Bool:=
 (aK s_2.Duties i_3).bind fun e4=>(kd e4.Clause 0 (ar ((len c_1.Clauses) - 1))).bind fun r5=>aW (ρ:=Bool) (bif (!r5) then (some (.inr true)) else ((aK c_1.Clauses e4.Clause).bind fun e18=>bM (ρ:=Bool) (bif (e18.Kind != 1) then (some (.inr true)) else ((kd e4.Since 0 s_2.Day).bind fun r20=>some (.inr (!r20)))) fun u19:Bool=>some (.inr u19))) fun u6:Bool=>bif u6 then (some false) else ((aK c_1.Clauses e4.Clause).bind fun e7=>aW (ρ:=Bool) (bif (e4.Due != (ar (e4.Since+e7.Within))) then (some (.inr true)) else ((md e4.Due).bind fun r14=>bM (ρ:=Bool) (bif (!r14) then (some (.inr true)) else (bM (ρ:=Bool) (bif (decide (i_3>0)) then ((aK s_2.Duties (ar (i_3 - 1))).bind fun e17=>some (.inr (decide (e4.Since<e17.Since)))) else (some (.inr false))) fun u16:Bool=>some (.inr u16))) fun u15:Bool=>some (.inr u15))) fun u8:Bool=>bif u8 then (some false) else ((Ge c_1 e4.Clause).bind fun r9=>aW (ρ:=Bool) (bif (!r9) then ((nq s_2.Duties 0 i_3).bind fun s12=>(DZ s12 e4).bind fun r13=>some (.inr r13)) else (some (.inr false))) fun u10:Bool=>bif u10 then (some false) else (bif (e4.Status==1) then (b8 (bif (decide (e4.Due≥s_2.Day)) then (!s_2.Over) else false) fun u11:Bool=>some u11) else (bif (e4.Status==2) then (some true) else (bif (e4.Status==3) then (some (decide (e4.Due<s_2.Day))) else (bif (e4.Status==4) then (some s_2.Over) else (some false)))))))
noncomputable def JI (x_1:Int):Option Bool:=
 (kd x_1 (-1000000000) 1000000000).bind fun r2=>some r2
noncomputable def Hz (b_1:Int):Option Bool:=
 (JI b_1).bind fun r2=>some (!r2)
noncomputable def lj (s_1:List Int)(f_2:Unit)(self:Int→Option (Int⊕Unit))(x3:Int):Option (Int⊕Unit):=
 bif (decide (x3<(len s_1))) then ((aK s_1 x3).bind fun e4=>(Hz e4).bind fun r5=>bif r5 then (some (.inl x3)) else (self (ar (x3+1)))) else (some (.inr ()))
noncomputable def qY (s_1:List Int)(f_2:Unit): Int→Option (Int⊕Unit):=aJ (lj s_1 f_2)
theorem we (s_1:List Int)(f_2:Unit): ∀a,Fin1 fun f=>lj s_1 f_2 f a:=by
 intro a
 unfold lj
 repeat first|exact aN|exact bo|refine bu ?_ ?_|refine bb ?_ (fun _=>?_)|refine ba ?_ (fun _=>?_)|refine bd ?_ (fun _=>?_)|refine br (fun _=>?_)
theorem KQ (s_1:List Int)(f_2:Unit)(x:Int):qY s_1 f_2 x=lj s_1 f_2 (qY s_1 f_2) x:=bx (we s_1 f_2) x
noncomputable def Dv (s_1:List Int)(f_2:Unit):Option Int:=
 aW (ρ:=Int) (qY s_1 f_2 0) fun u6:Unit=>some (-1)
noncomputable def Di (s_1:List Int)(f_2:Unit):Option Bool:=
 (Dv s_1 ()).bind fun r3=>some (decide (r3≥0))
noncomputable def kC (c_1:Contract)(s_2:State)(self:Int→Option (Bool⊕Unit))(x7:Int):Option (Bool⊕Unit):=
 bif (decide (x7<(len s_2.Duties))) then ((HC c_1 s_2 x7).bind fun r8=>bif (!r8) then (some (.inl false)) else (self (ar (x7+1)))) else (some (.inr ()))
noncomputable def mZ (c_1:Contract)(s_2:State): Int→Option (Bool⊕Unit):=aJ (kC c_1 s_2)
theorem Al (c_1:Contract)(s_2:State): ∀a,Fin1 fun f=>kC c_1 s_2 f a:=by
 intro a
 unfold kC
 repeat first|exact aN|exact bo|refine bu ?_ ?_|refine bb ?_ (fun _=>?_)|refine ba ?_ (fun _=>?_)|refine bd ?_ (fun _=>?_)|refine br (fun _=>?_)
theorem Eu (c_1:Contract)(s_2:State)(x:Int):mZ c_1 s_2 x=kC c_1 s_2 (mZ c_1 s_2) x:=bx (Al c_1 s_2) x
noncomputable def GV (c_1:Contract)(s_2:State):Option Bool:=
 (vI c_1).bind fun r3=>(md s_2.Day).bind fun r4=>aW (ρ:=Bool) (bif (!r4) then (some (.inr true)) else ((HS s_2.Facts).bind fun r13=>bM (ρ:=Bool) (bif (!r13) then (some (.inr true)) else ((Df s_2.Facts r3).bind fun r15=>some (.inr r15))) fun u14:Bool=>some (.inr u14))) fun u5:Bool=>bif u5 then (some false) else (aW (ρ:=Bool) (bif (decide ((len s_2.Duties)>24)) then (some (.inr true)) else (bM (ρ:=Bool) (bif ((len s_2.Balances) != (len c_1.Parties)) then (some (.inr true)) else ((Eb s_2.Balances).bind fun r12=>some (.inr (r12 != 0)))) fun u11:Bool=>some (.inr u11))) fun u6:Bool=>bif u6 then (some false) else (aW (ρ:=Bool) (mZ c_1 s_2 0) fun u9:Unit=>(Di s_2.Balances ()).bind fun r10=>some (!r10)))
noncomputable def EH (c_1:Contract)(s_2:State):Option Bool:=
 (GR c_1).bind fun r3=>aW (ρ:=Bool) (bif r3 then ((GV c_1 s_2).bind fun r5=>some (.inr r5)) else (some (.inr false))) fun u4:Bool=>some u4
noncomputable def lx (a_1:List ae)(b_2:List ae)(self:Int→Option (Bool⊕Unit))(x3:Int):Option (Bool⊕Unit):=
 bif (decide (x3<(len a_1))) then ((aK a_1 x3).bind fun e4=>(aK b_2 x3).bind fun e5=>bif (!(e4==e5)) then (some (.inl false)) else (self (ar (x3+1)))) else (some (.inr ()))
noncomputable def qK (a_1:List ae)(b_2:List ae): Int→Option (Bool⊕Unit):=aJ (lx a_1 b_2)
theorem wA (a_1:List ae)(b_2:List ae): ∀a,Fin1 fun f=>lx a_1 b_2 f a:=by
 intro a
 unfold lx
 repeat first|exact aN|exact bo|refine bu ?_ ?_|refine bb ?_ (fun _=>?_)|refine ba ?_ (fun _=>?_)|refine bd ?_ (fun _=>?_)|refine br (fun _=>?_)
theorem Li (a_1:List ae)(b_2:List ae)(x:Int):qK a_1 b_2 x=lx a_1 b_2 (qK a_1 b_2) x:=bx (wA a_1 b_2) x
noncomputable def uu (a_1:List ae)(b_2:List ae):Option Bool:=
 bif ((len a_1) != (len b_2)) then (some false) else (aW (ρ:=Bool) (qK a_1 b_2 0) fun u6:Unit=>some true)
noncomputable def je (slf_Ffbc:(Condition×Condition)→Option Bool)(a_1:List Condition)(b_2:List Condition)(self:Int→Option (Bool⊕Unit))(x3:Int):Option (Bool⊕Unit):=
 bif (decide (x3<(len a_1))) then ((aK a_1 x3).bind fun e4=>(aK b_2 x3).bind fun e5=>(slf_Ffbc (e4,e5)).bind fun r6=>bif (!r6) then (some (.inl false)) else (self (ar (x3+1)))) else (some (.inr ()))
noncomputable def nV (slf_Ffbc:(Condition×Condition)→Option Bool)(a_1:List Condition)(b_2:List Condition): Int→Option (Bool⊕Unit):=aJ (je slf_Ffbc a_1 b_2)
theorem wB (slf_Ffbc:(Condition×Condition)→Option Bool)(a_1:List Condition)(b_2:List Condition): ∀a,Fin1 fun f=>je slf_Ffbc a_1 b_2 f a:=by
 intro a
 unfold je
 repeat first|exact aN|exact bo|refine bu ?_ ?_|refine bb ?_ (fun _=>?_)|refine ba ?_ (fun _=>?_)|refine bd ?_ (fun _=>?_)|refine br (fun _=>?_)
theorem KF (slf_Ffbc:(Condition×Condition)→Option Bool)(a_1:List Condition)(b_2:List Condition)(x:Int):nV slf_Ffbc a_1 b_2 x=je slf_Ffbc a_1 b_2 (nV slf_Ffbc a_1 b_2) x:=bx (wB slf_Ffbc a_1 b_2) x
noncomputable def tq (slf_Ffbc:(Condition×Condition)→Option Bool)(a_1:List Condition)(b_2:List Condition):Option Bool:=
 bif ((len a_1) != (len b_2)) then (some false) else (aW (ρ:=Bool) (nV slf_Ffbc a_1 b_2 0) fun u7:Unit=>some true)
noncomputable def qy (slf_Ffbc:(Condition×Condition)→Option Bool)(a_1:Condition)(b_2:Condition):Option Bool:=
 bif (a_1.Op != b_2.Op) then (some false) else (bif (!(a_1.Name==b_2.Name)) then (some false) else (bif (a_1.Day != b_2.Day) then (some false) else ((tq slf_Ffbc a_1.Parts b_2.Parts).bind fun r3=>bif (!r3) then (some false) else (some true))))
noncomputable def mR (slf_Ffbc:(Condition×Condition)→Option Bool)(x:Condition×Condition):Option Bool:=qy slf_Ffbc x.1 x.2
noncomputable def xo (a_1:Condition)(b_2:Condition):Option Bool:=aJ mR (a_1,b_2)
theorem QT:∀x,Fin1 fun slf_Ffbc=>mR slf_Ffbc x:=by
 intro x
 unfold mR qy
 repeat first|exact aN|exact bo|exact iO|exact kW|exact gt|exact jF|exact hP|exact gY|refine bu ?_ ?_|refine bb ?_ (fun _=>?_)|refine ba ?_ (fun _=>?_)|refine bd ?_ (fun _=>?_)|refine br (fun _=>?_)|refine pf (fun _=>?_) | unfold tq | unfold nV | unfold je
theorem S9 (a_1:Condition)(b_2:Condition):xo a_1 b_2=qy (aJ mR) a_1 b_2:=bx QT (a_1,b_2)
noncomputable def tW (a_1:Clause)(b_2:Clause):Option Bool:=
 bif (!(a_1.Id==b_2.Id)) then (some false) else (bif (a_1.Kind != b_2.Kind) then (some false) else (bif (a_1.Party != b_2.Party) then (some false) else (bif (!(a_1.Action==b_2.Action)) then (some false) else (bif (a_1.Other != b_2.Other) then (some false) else (bif (a_1.Amount != b_2.Amount) then (some false) else ((xo a_1.When b_2.When).bind fun r3=>bif (!r3) then (some false) else (bif (a_1.Within != b_2.Within) then (some false) else (bif (!(a_1.Repair==b_2.Repair)) then (some false) else (some true)))))))))
noncomputable def lq (a_1:List Clause)(b_2:List Clause)(self:Int→Option (Bool⊕Unit))(x3:Int):Option (Bool⊕Unit):=
 bif (decide (x3<(len a_1))) then ((aK a_1 x3).bind fun e4=>(aK b_2 x3).bind fun e5=>(tW e4 e5).bind fun r6=>bif (!r6) then (some (.inl false)) else (self (ar (x3+1)))) else (some (.inr ()))
noncomputable def qB (a_1:List Clause)(b_2:List Clause): Int→Option (Bool⊕Unit):=aJ (lq a_1 b_2)
theorem vY (a_1:List Clause)(b_2:List Clause): ∀a,Fin1 fun f=>lq a_1 b_2 f a:=by
 intro a
 unfold lq
 repeat first|exact aN|exact bo|refine bu ?_ ?_|refine bb ?_ (fun _=>?_)|refine ba ?_ (fun _=>?_)|refine bd ?_ (fun _=>?_)|refine br (fun _=>?_)
theorem JY (a_1:List Clause)(b_2:List Clause)(x:Int):qB a_1 b_2 x=lq a_1 b_2 (qB a_1 b_2) x:=bx (vY a_1 b_2) x
noncomputable def xw (a_1:List Clause)(b_2:List Clause):Option Bool:=
 bif ((len a_1) != (len b_2)) then (some false) else (aW (ρ:=Bool) (qB a_1 b_2 0) fun u7:Unit=>some true)
noncomputable def xX (a_1:Contract)(b_2:Contract):Option Bool:=
 (uu a_1.Parties b_2.Parties).bind fun r3=>bif (!r3) then (some false) else ((xw a_1.Clauses b_2.Clauses).bind fun r4=>bif (!r4) then (some false) else (some true))
noncomputable def uM (a_1:Duty)(b_2:Duty):Option Bool:=
 bif (a_1.Clause != b_2.Clause) then (some false) else (bif (a_1.Since != b_2.Since) then (some false) else (bif (a_1.Due != b_2.Due) then (some false) else (bif (a_1.Status != b_2.Status) then (some false) else (some true))))
noncomputable def kL (a_1:List Duty)(b_2:List Duty)(self:Int→Option (Bool⊕Unit))(x3:Int):Option (Bool⊕Unit):=
 bif (decide (x3<(len a_1))) then ((aK a_1 x3).bind fun e4=>(aK b_2 x3).bind fun e5=>(uM e4 e5).bind fun r6=>bif (!r6) then (some (.inl false)) else (self (ar (x3+1)))) else (some (.inr ()))
noncomputable def qW (a_1:List Duty)(b_2:List Duty): Int→Option (Bool⊕Unit):=aJ (kL a_1 b_2)
theorem wy (a_1:List Duty)(b_2:List Duty): ∀a,Fin1 fun f=>kL a_1 b_2 f a:=by
 intro a
 unfold kL
 repeat first|exact aN|exact bo|refine bu ?_ ?_|refine bb ?_ (fun _=>?_)|refine ba ?_ (fun _=>?_)|refine bd ?_ (fun _=>?_)|refine br (fun _=>?_)
theorem Ko (a_1:List Duty)(b_2:List Duty)(x:Int):qW a_1 b_2 x=kL a_1 b_2 (qW a_1 b_2) x:=bx (wy a_1 b_2) x
noncomputable def wV (a_1:List Duty)(b_2:List Duty):Option Bool:=
 bif ((len a_1) != (len b_2)) then (some false) else (aW (ρ:=Bool) (qW a_1 b_2 0) fun u7:Unit=>some true)
noncomputable def lr (a_1:List Int)(b_2:List Int)(self:Int→Option (Bool⊕Unit))(x3:Int):Option (Bool⊕Unit):=
 bif (decide (x3<(len a_1))) then ((aK a_1 x3).bind fun e4=>(aK b_2 x3).bind fun e5=>bif (e4 != e5) then (some (.inl false)) else (self (ar (x3+1)))) else (some (.inr ()))
noncomputable def qZ (a_1:List Int)(b_2:List Int): Int→Option (Bool⊕Unit):=aJ (lr a_1 b_2)
theorem vZ (a_1:List Int)(b_2:List Int): ∀a,Fin1 fun f=>lr a_1 b_2 f a:=by
 intro a
 unfold lr
 repeat first|exact aN|exact bo|refine bu ?_ ?_|refine bb ?_ (fun _=>?_)|refine ba ?_ (fun _=>?_)|refine bd ?_ (fun _=>?_)|refine br (fun _=>?_)
theorem Kj (a_1:List Int)(b_2:List Int)(x:Int):qZ a_1 b_2 x=lr a_1 b_2 (qZ a_1 b_2) x:=bx (vZ a_1 b_2) x
noncomputable def yN (a_1:List Int)(b_2:List Int):Option Bool:=
 bif ((len a_1) != (len b_2)) then (some false) else (aW (ρ:=Bool) (qZ a_1 b_2 0) fun u6:Unit=>some true)
noncomputable def ye (a_1:State)(b_2:State):Option Bool:=
 bif (a_1.Day != b_2.Day) then (some false) else ((uu a_1.Facts b_2.Facts).bind fun r3=>bif (!r3) then (some false) else ((wV a_1.Duties b_2.Duties).bind fun r4=>bif (!r4) then (some false) else ((yN a_1.Balances b_2.Balances).bind fun r5=>bif (!r5) then (some false) else (bif (!(a_1.Over==b_2.Over)) then (some false) else (some true)))))
noncomputable def dC (aC_1:Contract)(aS_2:State):Option Bool:=
 (yG aC_1 1048576).bind fun r3=>bif (decide (r3<0)) then (some true) else ((xy aS_2 r3).bind fun r4=>bif (decide (r4<0)) then (some true) else ((sd aC_1).bind fun r5=>(sr aS_2).bind fun r6=>(DM r5 r6).bind fun r7=>(sd aC_1).bind fun r8=>(sr aS_2).bind fun r9=>(EH r8 r9).bind fun r10=>bif (!(r10==r7)) then (some false) else ((sd aC_1).bind fun r11=>(xX r8 r11).bind fun r12=>bif (!r12) then (some false) else ((sr aS_2).bind fun r13=>(ye r9 r13).bind fun r14=>bif (!r14) then (some false) else (some true)))))
end Go.Ln
